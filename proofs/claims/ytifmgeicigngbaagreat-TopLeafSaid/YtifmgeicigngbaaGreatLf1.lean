/- A part of the proof. -/
import Derived.Test.YtifmgeicigngbaaGreatC1
import Derived.Test.YtifmgeicigngbaaGreatC2
import Derived.Test.YtifmgeicigngbaaGreatC3
import Derived.Test.YtifmgeicigngbaaGreatShelf
set_option maxRecDepth 100000
set_option maxHeartbeats 8000000
set_option linter.all false
namespace Go.AL
open Go.RowKit
def nz:(∀ a b,dO .add (.int .i64 a) (.int .i64 b)=some (.int .i64 (IntKind.i64.wrap (a+b))))∧(∀ a b,dO .sub (.int .i64 a) (.int .i64 b)=some (.int .i64 (IntKind.i64.wrap (a - b))))∧(∀ a b,dO .mul (.int .i64 a) (.int .i64 b)=some (.int .i64 (IntKind.i64.wrap (a * b)))) ∧
  (∀a b,dO .eql (.int .i64 a) (.int .i64 b)=some (.bool (a==b)))/\(∀a b,dO .neq (.int .i64 a) (.int .i64 b)=some (.bool (a !=b)))/\(∀a b,dO .lss (.int .i64 a) (.int .i64 b)=some (.bool (decide (a<b))))/\(∀a b,dO .leq (.int .i64 a) (.int .i64 b)=some (.bool (decide (a<=b))))/\
  (∀a b,dO .gtr (.int .i64 a) (.int .i64 b)=some (.bool (decide (a>b))))/\(∀a b,dO .geq (.int .i64 a) (.int .i64 b)=some (.bool (decide (a>=b)))):=
 ⟨λ_ _=>rfl,λ_ _=>rfl,λ_ _=>rfl,λ_ _=>rfl,λ_ _=>rfl,λ_ _=>rfl,λ_ _=>rfl,λ_ _=>rfl,λ_ _=>rfl⟩
def SM(a b:Int):Int:=IntKind.i64.wrap (BitVec.ofInt IntKind.i64.bits a&&&BitVec.ofInt IntKind.i64.bits b).toNat
def P9(a b:Int):Int:=IntKind.i64.wrap (BitVec.ofInt IntKind.i64.bits a|||BitVec.ofInt IntKind.i64.bits b).toNat
def MN(a b:Int):Int:=IntKind.i64.wrap (BitVec.ofInt IntKind.i64.bits a&&&~~~ BitVec.ofInt IntKind.i64.bits b).toNat
def Hm{p:Nat->Nat->Bool}(h:(List.range 32).all (λa=>(List.range 32).all λb=>p a b)=true){a b:Nat}(ha:a<32)(hb:b<32):p a b=true:=
 List.all_eq_true.1 (List.all_eq_true.1 h a (List.mem_range.2 ha)) b (List.mem_range.2 hb)
def Mt{a b:Nat}(ha:a<32)(hb:b<32):SM a b=((a&&&b:Nat):Int):=by
 have:=Hm (p:=λa b=>decide (SM a b=((a&&&b:Nat):Int))) (by kernel_rfl) ha hb;simpa using this
def J5{a b:Nat}(ha:a<32)(hb:b<32):P9 a b=((a|||b:Nat):Int):=by
 have:=Hm (p:=λa b=>decide (P9 a b=((a|||b:Nat):Int))) (by kernel_rfl) ha hb;simpa using this
def K7{a b:Nat}(ha:a<32)(hb:b<32):MN a b=((a-(a&&&b):Nat):Int):=by
 have:=Hm (p:=λa b=>decide (MN a b=((a-(a&&&b):Nat):Int))) (by kernel_rfl) ha hb;simpa using this
def uM{a b:Nat}(ha:a<32)(hb:b<32):dO .and (.int .i64 a) (.int .i64 b)=some (.int .i64 ((a&&&b:Nat):Int)):=by
 rw[<-Mt ha hb]<;>rfl
def QO{a b:Nat}(ha:a<32)(hb:b<32):dO .or (.int .i64 a) (.int .i64 b)=some (.int .i64 ((a|||b:Nat):Int)):=by
 rw[<-J5 ha hb]<;>rfl
def L5{a b:Nat}(ha:a<32)(hb:b<32):dO .andNot (.int .i64 a) (.int .i64 b)=some (.int .i64 ((a-(a&&&b):Nat):Int)):=by
 rw[<-K7 ha hb]<;>rfl
def zu{b:Nat}(hb:b<5):dO .shl (.int .i64 1) (.int .i64 b)=some (.int .i64 ((2^b:Nat):Int)):=by
 have:b=0\/b=1\/b=2\/b=3\/b=4:=by omega
 rcases this with rfl|rfl|rfl|rfl|rfl<;>rfl
end Go.AL
namespace Go.Proofs.Tryz
open Go.AL
noncomputable def c4:ae:=(.seq (.ops [⟨(some 4),none,.mv true (.c (.bool false))⟩]) (.seq (aU 189 f4.cO.cB.cA) (.seq (aU 189 f4.cO.cB.cB.cA) (.seq (aU 189 f4.cO.cB.cB.cB.cA) (.seq (aU 189 f4.cO.cB.cB.cB.cB.cA) (.seq (.ops [⟨(some 8),none,.mv true (.c (.int .i64 0))⟩,⟨(some 9),none,.mv true (.c (.int .i64 0))⟩]) (.seq (.ops [⟨(some 10),none,.mv true (.c (.slice .nil []))⟩]) (.seq (.seq (.ops [⟨(some 11),none,.mv true (.c (.int .i64 0))⟩]) (.block 0 (.loop (.seq (aU 189 f4.cO.cB.cB.cB.cB.cB.cB.cB.cA.cB.cB.cB.cA) (.seq (.block 1 (.seq (aU 189 f4.cO.cB.cB.cB.cB.cB.cB.cB.cA.cB.cB.cB.cB.cA.cB.cA) (.seq (aU 189 f4.cO.cB.cB.cB.cB.cB.cB.cB.cA.cB.cB.cB.cB.cA.cB.cB.cA) (.seq (aU 189 f4.cO.cB.cB.cB.cB.cB.cB.cB.cA.cB.cB.cB.cB.cA.cB.cB.cB.cA) (.seq (aU 189 f4.cO.cB.cB.cB.cB.cB.cB.cB.cA.cB.cB.cB.cB.cA.cB.cB.cB.cB.cA) (aU 189 f4.cO.cB.cB.cB.cB.cB.cB.cB.cA.cB.cB.cB.cB.cA.cB.cB.cB.cB.cB)))))) (aU 189 f4.cO.cB.cB.cB.cB.cB.cB.cB.cA.cB.cB.cB.cB.cB)))))) (.seq (aU 189 f4.cO.cB.cB.cB.cB.cB.cB.cB.cB.cA) (.seq (aU 189 f4.cO.cB.cB.cB.cB.cB.cB.cB.cB.cB.cA) (.seq (aU 189 f4.cO.cB.cB.cB.cB.cB.cB.cB.cB.cB.cB.cA) (.seq (.ops [⟨(some 111),none,.fieldAddr 9 (.t 6)⟩,⟨none,none,.store .any 1 (.t 111) (.c (.int .i64 1))⟩]) (.seq (aU 189 f4.cO.cB.cB.cB.cB.cB.cB.cB.cB.cB.cB.cB.cB.cA) (.seq (.seq (aU 189 f4.cO.cB.cB.cB.cB.cB.cB.cB.cB.cB.cB.cB.cB.cB.cA.cA) (.cond (.t 158) (.seq (.ops [⟨(some 4),none,.mv true (.c (.bool false))⟩])<|.ret) (.skip))) (.seq (aU 189 f4.cO.cB.cB.cB.cB.cB.cB.cB.cB.cB.cB.cB.cB.cB.cB.cA) (.seq (aU 189 f4.cO.cB.cB.cB.cB.cB.cB.cB.cB.cB.cB.cB.cB.cB.cB.cB.cA) (.ret)))))))))))))))))
section
variable{α:Type}{len:α->Nat}{qO:α->Int}
def uV(len:α->Nat)(qO:α->Int)(a b:α):Bool:=decide (len a<len b)||(len a==len b&&decide (qO b<qO a))
end
end Go.Proofs.Tryz
namespace Go.Proofs.Tryz
open Go.AL
variable{GI:World->Prop}
def bL:prog.follows .mixedOrders=true:=by kernel_rfl
def dZ{GI:World->Prop}(hG:av GI){f:Nat}{fn:Func}{c:Code}{args:List AV}{out:jn}{n:Nat}(hf:prog.funcs[f]?=some fn)(hn:fn.ntmps=n)(ac:ae)(h:bq prog GI ac (post prog n fn.results.toList out) (AL.start args) (λ_=>none))(hl:args.length<=n:=by simp)(hb:fn.body=some c:=by rfl)(hc:cE prog n c=ac:=by kernel_rfl):AC prog GI f args out:=AC.MH hG bL hf hb hn hl hc h
def Ab (hG:av GI) (es:List AV) (bo:aC 1 es=true) (hl:es.length < 1048576) :
  AC prog GI 124 [.slice .view es] (.ret (.slice (if es.isEmpty then .nil else .own 3) es)):=by
 refine dZ hG func124 ntmps124 c124 ?_
 cases es with
 |nil=>simp[c124,bq,aV,an,aI,aq,ev,aB.S,aB.H,aY,ct,au,aH,AL.start,AV.aw,aC,post,cU,cL,cI,AV.out,AV.bu]
 |cons x es=>
  have uc:es.length+1<1048576:=hl;simp[c124,bq,aV,an,aI,aq,ev,aB.S,aB.H,aY,ct,au,aH,AL.start,AV.aw,bo,uc,post,cU,cL,cI,AV.out,AV.bu]
def UR (hG:av GI) (es:List AV) (bo:aC 2 es=true) (hl:es.length < 1048576) :
  AC prog GI 125 [.slice .view es] (.ret (.slice (if es.isEmpty then .nil else .own 214) es)):=by
 refine dZ hG func125 ntmps125 c125 ?_
 cases es with
 |nil=>simp[c125,bq,aV,an,aI,aq,ev,aB.S,aB.H,aY,ct,au,aH,AL.start,AV.aw,aC,post,cU,cL,cI,AV.out,AV.bu]
 |cons x es=>
  have uc:es.length+1<1048576:=hl;simp[c125,bq,aV,an,aI,aq,ev,aB.S,aB.H,aY,ct,au,aH,AL.start,AV.aw,bo,uc,post,cU,cL,cI,AV.out,AV.bu]
end Go.Proofs.Tryz
namespace Go.Proofs.Tryz
open Go Go.AL Go.RowKit Go.Proofs Go.Proofs.Tram
abbrev End:=Int×Int
def cz(e:End):AV:=.agg [.int .i64 e.1,.int .i64 e.2]
def bz(l:List End):List AV:=l.map cz
def aM(out:List Int)(es:List End):AV:=.agg [.slice .view (ints out),.slice .view (bz es)]
def lp:List End->List End->Nat->List (List End)
 |_,[],_=>[]
 |now,a::r,m=>(if r=[]then[now++[a]]else match m with|0=>[]|m+1=>lp (now++[a]) r m)++lp now r m
def ch(now l:List End)(m:Nat):List (List End):=if l=[]then[now]else match m with|0=>[]|m+1=>lp now l m
variable{GI:World->Prop}{l:Nat}{xs:List AV}
structure Fx(C:Cons prog GI l xs)(all:List End)(out:List Int)(fA:List AV)(rows:Nat) where
 bN:Nat
 cA:Value
 cY:Value
 cO:Value
 cF:Value
 cR:Value
 MI:Nat->Prop
 wI:World
 bA:Nat
 yj:Value
 Ko:cA=.pointer (some ⟨bA,0,none⟩)
 Qm:MI bA/\bA<bN
 XT:∃ty,wI.heap[bA]?=some (.cells #[yj] ty (0,0))
 hY:RV (λb _=>MI b) bO wI (.ref [.val (.func (.yield l) #[] #[])]) cY
 hR:RV (λb _=>MI b) bO wI (.ref [.val (.func (.func 123) #[] #[cA,cY,cO,.pointer (some ⟨bN,0,none⟩),cF,cR])]) cR
 f9:fA[9]?=some (.int .i64 rows)
variable{C:Cons prog GI l xs}{all:List End}{out:List Int}{fA:List AV}{rows:Nat}
structure St(X:Fx C all out fA rows)(k:Nat)(M:Nat->Prop)(Pr:Nat->Nat->Prop)(es:List End)(w:World):Prop where
 j:C.J k M Pr w
 lt:∀b,M b->b<w.heap.size
 mi:∀b,X.MI b->M b/\b≠X.bN/\w.heap[b]?=X.wI.heap[b]?
 now:∃v ty j2,w.heap[X.bN]?=some (.cells #[v] ty (0,0))/\M X.bN/\w.ownsRow (X.bN+1) 214 2 v es.length j2/\iN (λ_ _=>False) w 2 (bz es) j2/\∀b,v.ownBlock=some b->M b/\¬X.MI b
 f:RV Pr bO w (.ref fA) X.cF
 o:RV Pr bO w (.ref [.slice .view (ints out)]) X.cO
 e:RD (λb k=>b<X.bN/\(X.MI b\/Pr b k)) w (.slice .view (bz all)) X.yj
def yy{MI:Nat->Prop}{bN:Nat}{Pr cS:Nat->Nat->Prop}{w w':World}(hm:∀b,MI b->w'.heap[b]?=w.heap[b]?)(hk:aE Pr cS w w'):aE (λb k=>b<bN/\(MI b\/Pr b k)) (λb k=>b<bN/\(MI b\/cS b k)) w w':={
 cell b k hp u hu:=by
  rcases hp.2 with h|h
  .exact⟨⟨hp.1,.inl h⟩,by rw[World.cell?_of_block (w:=w) (hm b h)];exact hu⟩
  .obtain⟨h1,h2⟩:=hk.cell b k h u hu;exact⟨⟨hp.1,.inr h1⟩,h2⟩
 map b hp es c OQ:=by
  rcases hp.2 with h|h
  .exact⟨⟨hp.1,.inl h⟩,by rw[hm b h];exact OQ⟩
  .obtain⟨h1,h2⟩:=hk.map b h es c OQ
   exact⟨⟨hp.1,.inr h1⟩,h2⟩ }
def St.TR{X:Fx C all out fA rows}{k:Nat}{M:Nat->Prop}{Pr:Nat->Nat->Prop}{es:List End}{w:World}(s:St X k M Pr es w):RV (λb k=>b<X.bN/\(X.MI b\/Pr b k)) bO w (.ref [.slice .view (bz all)]) X.cA:=by
 obtain⟨ty,h2⟩:=X.XT;rw[X.Ko];have hb:w.heap[X.bA]?=some (.cells #[X.yj] ty (0,0)):=(s.mi _ X.Qm.1).2.2.trans h2;refine .data _ _ (.ref _ _ _ (λ_=>X.yj) (λi hi=>?_) (λk hk=>⟨⟨X.Qm.2,.inl X.Qm.1⟩,?_⟩) (λk hk=>?_))
 .have:i=0:=by simpa using hi
  subst this;rfl
 .have:k=0:=by simpa using hk
  subst this;simp[World.cell?,hb]
 .have:k=0:=by simpa using hk
  subst this;exact s.e
structure Fr(X:Fx C all out fA rows)(n:Int)(a:Act):Prop where
 size:a.tmps.size=53
 defers:a.defers=[]
 t0:a.tmps.getD 0 undef=.int .i64 n
 t1:a.tmps.getD 1 undef=X.cA
 t2:a.tmps.getD 2 undef=X.cY
 t3:a.tmps.getD 3 undef=X.cO
 t4:a.tmps.getD 4 undef=.pointer (some ⟨X.bN,0,none⟩)
 t5:a.tmps.getD 5 undef=X.cF
 t6:a.tmps.getD 6 undef=X.cR
def gu(l:Nat)(all es:List End)(out:List Int)(fA:List AV)(fv:Value)(n:Int)(v9:AV):af:=λt=>match t with
 |0=>.int .i64 n
 |1=>.ref [.slice .view (bz all)]
 |2=>.ref [.val (.func (.yield l) #[] #[])]
 |3=>.ref [.slice .view (ints out)]
 |4=>.ref [.slice .view (bz es)]
 |5=>.ref fA
 |6=>.ref [.val fv]
 |9=>v9
 |_=>.bj
def Fx.fv(X:Fx C all out fA rows):Value:=.func (.func 123) #[] #[X.cA,X.cY,X.cO,.pointer (some ⟨X.bN,0,none⟩),X.cF,X.cR]
def St.gO {X:Fx C all out fA rows} {k:Nat} {M:Nat→Prop} {Pr:Nat→Nat→Prop} {es:List End} {w:World} (s:St X k M Pr es w) {n:Int} {a:Act} (fr:Fr X n a) {v9:AV} (h9:v9.aw=v9∧RV (fun _ _=>True) bO w v9 (a.tmps.getD 9 undef)) :
  ∀t,t<53->(gu l all es out fA X.fv n v9 t).aw=gu l all es out fA X.fv n v9 t/\RV (λ_ _=>True) bO w (gu l all es out fA X.fv n v9 t) (a.tmps.getD t undef):=by
 intro t ht
 have CD:∀{P':Nat->Nat->Prop},(∀b k,P' b k->X.MI b)->aE P' (λ_ _=>True) X.wI w:=λh=>aE.of_eq λb k hp=>⟨trivial,(s.mi b (h b k hp)).2.2⟩
 unfold gu;split
 .rw[fr.t0];exact⟨rfl,.data _ _ (.int _ _)⟩
 .rw[fr.t1];exact⟨rfl,s.TR.mono (aE.same λ_ _ _ _=>trivial) λ_ _ h=>h⟩
 .rw[fr.t2];exact⟨rfl,X.hY.mono (CD λb k h=>h) λ_ _ h=>h⟩
 .rw[fr.t3];exact⟨rfl,s.o.mono (aE.same λ_ _ _ _=>trivial) λ_ _ h=>h⟩
 .rw[fr.t4];obtain⟨v,ty,j2,h1,h2,h3,h4,h5⟩:=s.now;refine⟨rfl,.data _ _ (.ref _ _ _ (λ_=>v) (λi hi=>?_) (λk hk=>⟨trivial,?_⟩) (λk hk=>?_))⟩
  .have:i=0:=by simpa using hi
   subst this;rfl
  .have:k=0:=by simpa using hk
   subst this;simp[World.cell?,h1]
  .have:k=0:=by simpa using hk
   subst this
   exact RD.ofRow (size:=2) (es:=bz es) (by simpa[bz]using h3) (h4.mono (aE.same λ_ _ _ h=>h.elim)) λ_ _ _ _=>trivial
 .rw[fr.t5];exact⟨rfl,s.f.mono (aE.same λ_ _ _ _=>trivial) λ_ _ h=>h⟩
 .rw[fr.t6];exact⟨rfl,X.hR.mono (CD λb k h=>h) λ_ _ h=>h⟩
 .exact h9
 .exact⟨rfl,.bj _⟩
def St.grow{X:Fx C all out fA rows}{k:Nat}{M:Nat->Prop}{Pr:Nat->Nat->Prop}{es:List End}{w w':World}(s:St X k M Pr es w)(hb:Below w.heap.size w w'):St X k M Pr es w':=by
 have hM:=s.lt
 have bh:∀b,M b->w'.heap[b]?=w.heap[b]?:=λb h=>hb.block b (hM b h)
 have hk:aE Pr Pr w w':=aE.gr (λb h=>hb.block b h) λ_ _ _ h=>h
 obtain⟨v,ty,j2,h1,h2,h3,h4,h5⟩:=s.now;refine⟨C.fQ s.j (dG.gP hb) λb h=>⟨Nat.lt_of_lt_of_le (hM b h) hb.size,.inl h⟩,λb h=>Nat.lt_of_lt_of_le (hM b h) hb.size,λb h=>⟨(s.mi b h).1,(s.mi b h).2.1,(bh b (s.mi b h).1).trans (s.mi b h).2.2⟩,⟨v,ty,j2,(bh _ h2).trans h1,h2,?_,h4.mono (aE.of_eq λ_ _ h=>h.elim),h5⟩,s.f.mono hk λ_ _ h=>h,s.o.mono hk λ_ _ h=>h,s.e.mono (yy (λb h=>bh b (s.mi b h).1) hk)⟩;refine⟨h3.1,?_⟩
 rcases h3.2 with h|⟨gg,cap,cur,rfl,l5,sP,rest⟩
 .exact .inl h
 .exact .inr ⟨gg,cap,cur,rfl,l5,(bh gg (h5 gg rfl).1).trans sP,rest⟩
def _root_.Go.AL.ae.qa:ae->ae
 |.seq x _=>x
 |.cond _ x _=>x
 |c=>c
def _root_.Go.AL.ae.qb:ae->ae
 |.seq _ y=>y
 |.cond _ _ y=>y
 |.block _ c=>c
 |.loop c=>c
 |c=>c
def _root_.Go.AL.ae.dl:ae->List bc
 |.cM l|.ops l=>l
 |_=>[]
def A3:Nat->Bool:=λt=>decide (36<=t)
def W7:Nat->Bool:=λt=>decide (7<=t)
noncomputable def tL:ae:=ae.qb c123.qb.qb.qa.qb.qb
def Fr.step{X:Fx C all out fA rows}{n:Int}{a a':Act}(fr:Fr X n a)(aL:a'.tmps.size=53)(c_:a'.defers=[])(h:dV W7 a a'):Fr X n a':=
 ⟨aL,c_,(h 0 rfl).trans fr.t0,(h 1 rfl).trans fr.t1,(h 2 rfl).trans fr.t2,(h 3 rfl).trans fr.t3,(h 4 rfl).trans fr.t4,(h 5 rfl).trans fr.t5,(h 6 rfl).trans fr.t6⟩
def dP(args:Array Value)(k t:Nat)(h:t<args.size):(args++Array.replicate k undef).getD t undef=args[t]:=by
 simp[Array.getElem?_append,h]
def re(l:List Int):aC 1 (ints l)=true:=by
 simp[aC,ints,AV.storable,AV.cells]
def MZ(l:List End):aC 2 (bz l)=true:=by
 simp[aC,bz,cz,AV.storable,AV.cells]
def sE(es:List End):∀x∈bz es,x.cells.length=2/\x.storable=true/\∀c∈x.cells,c.one=true:=by
 intro x hx;obtain⟨e,_,rfl⟩:=List.mem_map.1 hx;refine⟨rfl,rfl,λc hc=>?_⟩;simp[cz,AV.cells]at hc
 rcases hc with rfl|rfl<;>rfl
def zC(es:List End):∀x∈bz es,∀c∈x.cells,gf c=true:=by
 intro x hx c hc;obtain⟨e,_,rfl⟩:=List.mem_map.1 hx;simp[cz,AV.cells]at hc
 rcases hc with rfl|rfl<;>rfl
def IB{P:Program}{t:TypeId}{s:Nat}(h:(P.info? t).map (·.size)=some s):∃i,P.info? t=some i/\i.size=s:=by
 cases hi:P.info? t with
 |none=>rw[hi]at h;cases h
 |some i=>rw[hi]at h;exact⟨i,rfl,Option.some.inj h⟩
def iZ(t:TypeId)(s:Nat)(h:(prog.info? t).map (·.size)=some s:=by kernel_rfl):∃i,prog.info? t=some i/\i.size=s:=IB h
def mL {P:Program} {a:Act} {o:Oper} {cl:Call} {f x:Operand} {l:Nat} (w:World) (ho:o.op = .call cl) (hc:cl.callee = .value f) (ha:cl.args = #[x]) (hf:a.eval f = .func (.yield l) #[] #[]) :
  (execOp a.eval o).run P w=(Instr.yield l #[a.eval x]).run P w:=by
 unfold execOp;simp[ho,dX hc,hf,Deferred.ofValue,invoke,ha]
def qJ {P:Program} {a:Act} {o:Oper} {cl:Call} {f x:Operand} {k:Nat} {cap:Array Value} (w:World) (ho:o.op = .call cl) (hc:cl.callee = .value f) (ha:cl.args = #[x]) (hf:a.eval f = .func (.func k) #[] cap) (hk:dW P k=true) :
  (execOp a.eval o).run P w=.ok (.enter k (#[a.eval x]++cap)) w:=by
 unfold execOp;simp[ho,dX hc,hf,Deferred.ofValue,invoke,ha,eV hk]
def pL{P:Program}{a:Act}{o:Oper}{x:Operand}{t:TypeId}{b:Bool}(w:World)(ho:o.op=.unOp .not t x)(hx:a.eval x=.bool b):(execOp a.eval o).run P w=.ok (.value (.bool !b)) w:=by
 unfold execOp;simp[ho,hx,Op.unary]
def dV.weaken{W W':Nat->Bool}{a a':Act}(h:dV W a a')(hw:∀t,W' t=false->W t=false):dV W' a a':=λt ht=>h t (hw t ht)
def results_tmp{P:Program}{fn:Func}{tmps:Array Value}{t:Tmp}{v:Value}{w:World}(hr:fn.results=#[.tmp t])(h:tmps.getD t undef=v):(results fn tmps).run P w=.ok v w:=by
 rw[<-h];simp[results,hr]
def run_assign{P:Program}{a:Act}{o:Oper}{x:Operand}(w:World)(ho:o.op=.assign x):(execOp a.eval o).run P w=.ok (.value (a.eval x)) w:=by
 unfold execOp;simp only[ho]
 rfl
def St.after {X:Fx C all out fA rows} {k k':Nat} {M G:Nat→Prop} {Pr cS:Nat→Nat→Prop} {es:List End} {w w':World} (s:St X k M Pr es w) (hj:C.J k' (fun b=>(M b∨G b)∧¬ G b) cS w') (hG:∀ b,G b→¬ M b)
  (hs:∀b,M b\/G b->¬G b->w'.heap[b]?=w.heap[b]?) (hk:aE Pr cS w w'):St X k' (λb=>(M b\/G b)/\¬G b) cS es w':=by
 have wC:∀b,M b->¬G b:=λb hb hg=>hG b hg hb
 have bh:∀b,M b->w'.heap[b]?=w.heap[b]?:=λb hb=>hs b (.inl hb) (wC b hb)
 obtain⟨v,ty,j2,h1,h2,h3,h4,h5⟩:=s.now;refine⟨hj,λb hb=>?_,λb h=>⟨⟨.inl (s.mi b h).1,wC b (s.mi b h).1⟩,(s.mi b h).2.1,(bh b (s.mi b h).1).trans (s.mi b h).2.2⟩,⟨v,ty,j2,(bh _ h2).trans h1,⟨.inl h2,wC _ h2⟩,?_,h4.mono (aE.of_eq λ_ _ h=>h.elim),λb hb=>⟨⟨.inl (h5 b hb).1,wC b (h5 b hb).1⟩,(h5 b hb).2⟩⟩,s.f.mono hk λ_ _ h=>h,s.o.mono hk λ_ _ h=>h,s.e.mono (yy (λb h=>bh b (s.mi b h).1) hk)⟩
 .have mR:M b:=hb.1.resolve_right hb.2;have:=s.lt b mR;have h2:=bh b mR;rw[Array.getElem?_eq_getElem this]at h2;exact(Array.getElem?_eq_some_iff.1 h2).1
 .refine⟨h3.1,?_⟩
  rcases h3.2 with h|⟨gg,cap,cur,rfl,l5,sP,rest⟩
  .exact .inl h
  .exact .inr ⟨gg,cap,cur,rfl,l5,(bh gg (h5 gg rfl).1).trans sP,rest⟩
def Bn {P:Program} {ρ:Operand→Value} {o:Oper} {t:TypeId} {ps:Array (Nat×Operand)} (ho:o.op = .build t ps) (w:World) (N:Value→Prop)
  (h:∀v w',(execOp ρ o).run P w=.ok (.value v) w'->N v):match(execOp ρ o).run P w with|.ok (.value v) _=>N v|.ok _ _=>False|.halt _ _=>True:=by
 have key:∀r,(execOp ρ o).run P w=r->match r with|.ok (.value v) _=>N v|.ok _ _=>False|.halt _ _=>True:=by
  intro r hr;have h0:=hr;unfold execOp at hr;simp only[ho,Sem.run_bind]at hr
  cases hb:(Instr.build t (ps.map λ(i,x)=>(i,ρ x))).run P w with
  |ok v w'=>
   rw[hb]at hr
   have:r=.ok (.value v) w':=by rw[<-hr];rfl
   subst this;exact h v w' h0
  |halt x w'=>
   rw[hb]at hr
   have:r=.halt x w':=by rw[<-hr];rfl
   subst this;trivial
 exact key _ rfl
def jP{c:Value}(h:c.oneCell'=true):c.cells=#[c]:=by cases c<;>first|rfl|cases h
def OZ{u v:Value}(hu:u.oneCell'=true)(hv:v.oneCell'=true):prog.built 108 [(0,u),(1,v)]=some #[u,v]:=by
 have e:∀u v:Value,prog.built 108 [(0,u),(1,v)]=Instr.fill (λx=>#[(0,1),(1,1)][x]?) #[.slice none 0 0,.slice none 0 0] [(0,u),(1,v)]:=by intro u v;kernel_rfl
 rw[e];simp[Instr.fill,jP hu,jP hv]
def NT(es r:List End)(x:End)(m:Nat):lp es (x::r) m=ch (es++[x]) r m++lp es r m:=by
 cases m<;>rfl
def RG(es:List End)(m:Nat):ch es [] m=[es]:=by simp[ch]
def M_ (hG:av GI) (X:Fx C all out fA rows) (eP:all.length≤1000) (OI:rows≤1000) (mC:out.length≤1000) :
  ∀(d n:Nat)(es:List End)(k:Nat)(M:Nat->Prop)(Pr:Nat->Nat->Prop)(w:World)(tail:List AV),n+d=all.length->es.length<=n->St X k M Pr es w->
   xs.drop k=(ch es (all.drop n) (rows-es.length)).map (aM out)++tail->
   Calls prog 123 #[.int .i64 n,X.cA,X.cY,X.cO,.pointer (some ⟨X.bN,0,none⟩),X.cF,X.cR] w λe w'=>∃M' cS,
    (e=.returned (.bool true)/\St X (k+(ch es (all.drop n) (rows-es.length)).length) M' cS es w')\/(e=.returned (.bool false)/\C.X M' cS w'):=by
 intro d
 induction d using Nat.strongRecOn with
 |_ d ih=>
 intro n es k M Pr w tail cT kz st iY;refine(eA (ro:=none) (m:=0)).1 (callsIn_of_wp func123 rfl trivial ?_)
 have fr:Fr X n { tmps:=#[.int .i64 n,X.cA,X.cY,X.cO,.pointer (some ⟨X.bN,0,none⟩),X.cF,X.cR]++Array.replicate (f123.ntmps-7) undef,defers:=[] }:=by
  refine⟨by simp[ntmps123],rfl,dP _ _ 0 (by simp),dP _ _ 1 (by simp),dP _ _ 2 (by simp),dP _ _ 3 (by simp),dP _ _ 4 (by simp),dP _ _ 5 (by simp),dP _ _ 6 (by simp)⟩
 generalize hc:(λe w'=>∃M' cS,(e=Ending.returned (.bool true)/\St X (k+(ch es (all.drop n) (rows-es.length)).length) M' cS es w')\/(e=.returned (.bool false)/\C.X M' cS w'))=R
 have h9:∀(a:Act)(w:World),(AV.bj).aw=AV.bj/\RV (λ_ _=>True) bO w AV.bj (a.tmps.getD 9 undef):=λa w=>⟨rfl,.bj _⟩
 refine wpIn_seq ?_;refine cQ hG bL (ac:=ae.qa c123) (W:=W7) (by kernel_rfl) (by kernel_rfl) (by kernel_rfl) (C.gi st.j) (λ_ _=>True) (gu l all es out fA X.fv n .bj) fr.size fr.defers (st.gO fr (h9 _ _)) (K:=λ_ _=>True) ?_ ?_
 .simp[c123,ae.qa,bq,aV,an,aI,aq,az]
 intro g S' H' a w1 hg R1 _ bh;have fr:=fr.step R1.size (by rw[R1.defers,hg];rfl) bh;have st:=st.grow (by have:=R1.below;rwa [R1.base]at this);clear bh R1 hg g S' H';show Code.wpIn _ _ _ _ _ a w1;refine wpIn_seq (wpIn_seq ?_);refine cQ hG bL (ac:=ae.qa c123.qb.qa) (W:=W7) (by kernel_rfl) (by kernel_rfl) (by kernel_rfl) (C.gi st.j) (λ_ _=>True) (gu l all es out fA X.fv n .bj) fr.size fr.defers (st.gO fr (h9 _ _)) (K:=λS' _=>∃b,S' 13=.bool b/\(b=true↔n=all.length)) ?_ ?_
 .simp[c123,ae.qa,ae.qb,bq,aV,an,aI,aq,az,aB.S,aB.H,ev,au,aH,gu,aP,AV.aw,dO,bz];omega
 rintro g S' H' a w2 hg R1 ⟨b,hb,Yf⟩ bh;have fr:=fr.step R1.size (by rw[R1.defers,hg];rfl) bh;have st:=st.grow (by have:=R1.below;rwa [R1.base]at this);have ht:=R1.slot 13 (by decide) (λh=>h);rw[hb]at ht;have vY:=ht.fc;clear ht bh;show Code.wpIn _ _ _ _ _ a w2;refine wpIn_cond (t:=b) vY ?_
 cases b with
 |true=>
  have hn:n=all.length:=Yf.1 rfl
  have NQ:ch es (all.drop n) (rows-es.length)=[es]:=by rw[hn,List.drop_length];exact RG _ _
  rw[NQ]at iY hc;simp only[if_true];refine wpIn_seq ?_
  refine BD hG bL (n:=53) (p:=6) (j:=5) (d:=19) (T:=[16,18]) (W:=W7) (l:=(c123.qb.qa.qb.qa.qa.dl).take 6) (by kernel_rfl) (by kernel_rfl) (by kernel_rfl) (by kernel_rfl) (by kernel_rfl) (by kernel_rfl) (C.gi st.j) (λ_ _=>True) (gu l all es out fA X.fv n .bj) (oj:=⟨some 19,.build 108 #[(0,.tmp 16),(1,.tmp 18)],108, "name.go:18",#[⟨2,.data⟩,⟨4,.data⟩],none⟩) ?_ rfl rfl
   (λa=>(a.tmps.getD 16 undef).oneCell'=true->(a.tmps.getD 18 undef).oneCell'=true->a.tmps.getD 19 undef=.agg #[a.tmps.getD 16 undef,a.tmps.getD 18 undef]) ?_ ?_ (by kernel_rfl) (by kernel_rfl) fr.size fr.defers (st.gO fr (h9 _ _)) (K:=λS' _=>S' 14=.val (.func (.yield l) #[] #[])/\S' 16=.slice (if(ints out).isEmpty then .nil else .own 3) (ints out)/\S' 18=.slice (if(bz es).isEmpty then .nil else .own 214) (bz es)/\
    ∃o1 o2,S' 19=.agg [.slice o1 (ints out),.slice o2 (bz es)]) ?_ ?_
  .rfl
  .intro a a' h1 h2 hN g16 g18;rw[h2 16 (by simp)]at g16⊢;rw[h2 18 (by simp)]at g18⊢;rw[h1];exact hN g16 g18
  .intro a w aL;refine Bn rfl w _ ?_;intro v w' hr
   have Nc:(a.put (some 19) v).tmps.getD 16 undef=a.tmps.getD 16 undef:=by simp[Act.put,Array.getElem?_setIfInBounds_ne]
   have Fi:(a.put (some 19) v).tmps.getD 18 undef=a.tmps.getD 18 undef:=by simp[Act.put,Array.getElem?_setIfInBounds_ne]
   have Gk:(a.put (some 19) v).tmps.getD 19 undef=v:=by simp[Act.put,aL]
   show(((a.put (some 19) v).tmps.getD 16 undef).oneCell'=true->_->(a.put (some 19) v).tmps.getD 19 undef=_);rw[Nc,Fi,Gk];intro g16 g18;have hb:=run_build (P:=prog) w 108 #[(0,a.tmps.getD 16 undef),(1,a.tmps.getD 18 undef)] _ (OZ g16 g18);unfold execOp at hr;simp only[Sem.run_bind,Act.eval,List.map_toArray,List.map_cons,List.map_nil]at hr;rw[hb]at hr;simp only[Result.andThen_ok,Sem.run_pure]at hr;cases hr
   rfl
  .simp[c123,ae.qa,ae.qb,ae.dl,dM,cD,aR,cM,an,gV,aq,aI,aB.S,aB.H,ev,au,aH,gu,aP,AV.aw,AV.vw,AV.cells,AV.storable,AV.bV,fz,fG,jk,g_,dH,aQ];refine⟨rfl,by kernel_rfl,_,Ab hG _ (re out) (by rw[br];omega),by simp[bR],?_⟩;refine⟨rfl,by kernel_rfl,_,UR hG _ (MZ es) (by simp[bz];omega),by simp[bR],?_⟩
   by_cases ho:ints out=[]<;>by_cases he:bz es=[]<;>simp[ho,he,au]
  .intro g' S' H' a w3 hg R3 ⟨hy,OO,h18,o1,o2,h19⟩ bh hN
   have fV:Below w2.heap.size w2 w3:=by have:=R3.below;rwa [R3.base]at this
   have fr:=fr.step R3.size (by rw[R3.defers,hg];rfl) bh;have Da:=st.grow fV
   have Gm:=(R3.slot 14 (by decide) (λh=>h))
   rw[hy]at Gm;have Gm:=Gm.jf;obtain⟨i3,tC,nV⟩:=iZ 3 1;obtain⟨i116,Dv,pB⟩:=iZ 214 2;have Ng:=R3.o_ (t:=16) (by decide) (e:=3) tC (es:=ints out) OO (λx hx=>by obtain⟨k,_,rfl⟩:=List.mem_map.1 hx;exact⟨nV.symm,rfl,λc hc=>by simp[AV.cells]at hc;subst hc;rfl⟩) (λx hx c hc=>by obtain⟨k,_,rfl⟩:=List.mem_map.1 hx;simp[AV.cells]at hc;subst hc;rfl);have Pu:=R3.o_ (t:=18) (by decide) (e:=214) Dv (es:=bz es) h18 (by rw[pB];exact sE es) (zC es);rw[R3.base]at Ng Pu
   let G:Nat->Prop:=λb=>w2.heap.size<=b/\b<w3.heap.size
   have hj:C.J k (λb=>M b\/G b) Pr w3:=C.fQ st.j (dG.gP fV) λb hb=>by
    rcases hb with hb|hb
    .exact⟨Da.lt b hb,.inl hb⟩
    .exact⟨hb.2,.inr hb.1⟩
   have Ak:k<xs.length:=by
    have:=congrArg List.length iY;simp at this;omega
   have sQ:xs[k]=aM out es:=by
    have:=congrArg (·[0]?) iY;simp at this;rw[List.getElem?_eq_getElem Ak]at this;exact Option.some.inj this
   have jY:∀{u:Value}{es:List AV}{p:Nat->Nat->Prop},RD p w3 (.slice .view es) u->u.oneCell'=true:=λh=>h.one rfl
   have h19:=hN (jY Ng) (jY Pu)
   have hx:RD (λb j=>Pr b j\/(G b/\j<g'.hi b)) w3 xs[k] (a.tmps.getD 19 undef):=by
    rw[sQ,h19];refine .agg _ _ rfl (λi hi=>?_) (λi hi cy=>?_)
    .match i,hi with
     |0,_=>rfl
     |1,_=>rfl
    .match i,hi with
     |0,_=>exact Ng.mono (aE.same λb j _ h=>.inr h)
     |1,_=>exact Pu.mono (aE.same λb j _ h=>.inr h)
   obtain⟨ff,tmps,Zq,bd,Ea,qE⟩:=C.round Ak G g'.hi _ hj (λb hb=>.inr hb) hx;show wpOpsIn _ _ _ _ _ [6,7] a w3;refine rV rfl rfl (by rfl) ?_ qE ?_
   .exact(mL (f:=.tmp 14) (x:=.tmp 19) w3 rfl rfl rfl Gm).trans Ea
   .rintro e w4 ⟨wg,cS,zP,kS⟩
    have gx:∀{k'},C.J k' (λb=>(M b\/G b)/\¬G b) cS w4->St X k' (λb=>(M b\/G b)/\¬G b) cS es w4:=λhj=>Da.after hj (λb hg hm=>by have:=st.lt b hm;have:=hg.1;omega) wg zP
    obtain⟨b,rfl,hR⟩:∃b:Bool,e=.returned (.bool b)/\R (.returned (.bool b)) w4:=by
     rcases kS with⟨rfl,dJ⟩|⟨rfl,Af⟩
     .exact⟨true,rfl,by rw[<-hc];exact⟨_,_,.inl ⟨rfl,gx dJ⟩⟩⟩
     .exact⟨false,rfl,by rw[<-hc];exact⟨_,_,.inr ⟨rfl,Af⟩⟩⟩
    refine⟨_,rfl,?_⟩
    have Q6:(a.put (some 20) (.bool b)).tmps.getD 20 undef=.bool b:=by simp[Act.put,fr.size]
    refine aT rfl rfl (by rfl) (v:=.bool b) (w':=w4) ((run_assign (x:=.tmp 20) w4 rfl).trans (congrArg (λv=>Result.ok (Next.value v) w4) Q6)) ?_;show Code.wpIn _ _ _ _ _ _ _;refine wpIn_ret ⟨fr.defers,.bool b,?_,hR⟩
    have h8:((a.put (some 20) (.bool b)).put (some 8) (.bool b)).tmps.getD 8 undef=.bool b:=by simp[Act.put,fr.size]
    show(results f123 ((a.put (some 20) (.bool b)).put (some 8) (.bool b)).tmps).run prog w4=_;exact results_tmp results123 h8
 |false=>
  have hn:n<all.length:=by
   have:¬n=all.length:=λh=>by have:=Yf.2 h;cases this
   omega
  simp only[Bool.false_eq_true,if_false];refine wpIn_skip ?_;show Code.wpIn _ _ _ _ _ a w2;refine wpIn_seq (wpIn_seq ?_);refine cQ hG bL (ac:=ae.qa c123.qb.qb.qa) (W:=W7) (by kernel_rfl) (by kernel_rfl) (by kernel_rfl) (C.gi st.j) (λ_ _=>True) (gu l all es out fA X.fv n .bj) fr.size fr.defers (st.gO fr (h9 _ _)) (K:=λS' _=>S' 9=.int .i64 n) ?_ ?_
  .simp[c123,ae.qa,ae.qb,bq,aV,an,aI,aq,az,aB.S,aB.H,ev,au,aH,gu,aP,AV.aw,dO,bz]
  rintro g S' H' a w3 hg R1 zV bh;have fr:=fr.step R1.size (by rw[R1.defers,hg];rfl) bh;have st:=st.grow (by have:=R1.below;rwa [R1.base]at this);have Ij:=R1.slot 9 (by decide) (λh=>h);rw[zV]at Ij;have Te:=Ij.int_eq;clear Ij bh;show Code.wpIn _ _ _ _ _ a w3
  obtain⟨rem,y4⟩:∃rem:Nat->List (List End),rem=λi=>if es.length<rows then lp es (all.drop i) (rows-es.length-1)else[]:=⟨_,rfl⟩
  have NQ:ch es (all.drop n) (rows-es.length)=rem n:=by
   have bt:all.drop n≠[]:=by intro h;have:=congrArg List.length h;simp at this;omega
   rw[y4];unfold ch;rw[if_neg bt]
   by_cases ao:es.length<rows
   .simp only[if_pos ao]
    obtain⟨m,hm⟩:∃m,rows-es.length=m+1:=⟨rows-es.length-1,by omega⟩
    rw[hm];rfl
   .simp only[if_neg ao]
    have:rows-es.length=0:=by omega
    rw[this]
  rw[NQ]at iY hc
  refine wpIn_block (wpIn_loop (λa w=>∃i k' M' cS,Fr X n a/\a.tmps.getD 9 undef=.int .i64 (i:Nat)/\n<=i/\i<=all.length/\St X k' M' cS es w/\xs.drop k'=(rem i).map (aM out)++tail/\k'+(rem i).length=k+(rem n).length)
   (λa _=>match a.tmps.getD 9 undef with|.int _ i=>all.length-i.toNat|_=>0) ⟨n,k,M,Pr,fr,Te,Nat.le_refl _,by omega,st,iY,rfl⟩ ?_)
  clear zV Te R1 hg iY st fr;rintro a w ⟨i,k',M,Pr,fr,Yt,D4,ec,st,iY,na⟩
  have V1:(AV.int .i64 (i:Int)).aw=.int .i64 (i:Int)/\RV (λ_ _=>True) bO w (.int .i64 (i:Int)) (a.tmps.getD 9 undef):=⟨rfl,by rw[Yt];exact .data _ _ (.int _ _)⟩
  refine wpIn_seq (wpIn_seq ?_);refine cQ hG bL (ac:=ae.qa c123.qb.qb.qa.qb.qb.qb.qa) (W:=W7) (by kernel_rfl) (by kernel_rfl) (by kernel_rfl) (C.gi st.j) (λ_ _=>True) (gu l all es out fA X.fv n (.int .i64 (i:Int))) fr.size fr.defers (st.gO fr V1) (K:=λS' _=>S' 9=.int .i64 i/\∃b,S' 33=.bool b/\(b=true↔i<all.length/\es.length<rows)) ?_ ?_
  .by_cases ao:i<all.length
   .have jx:(i:Int)<all.length:=by omega
    simp[c123,ae.qa,ae.qb,bq,aV,an,aI,aq,az,aB.S,aB.H,ev,au,aH,gu,aP,AV.aw,dO,bz,ao,X.f9,bI];omega
   .have jx:¬(i:Int)<all.length:=by omega
    simp[c123,ae.qa,ae.qb,bq,aV,an,aI,aq,az,aB.S,aB.H,ev,au,aH,gu,aP,AV.aw,dO,bz,ao,X.f9,bI]
  rintro g S' H' a' w' hg R1 ⟨X2,b,hb,P7⟩ bh;have Gf:=fr.step R1.size (by rw[R1.defers,hg];rfl) bh;have qY:=st.grow (by have:=R1.below;rwa [R1.base]at this);have Ij:=R1.slot 9 (by decide) (λh=>h);rw[X2]at Ij;have SE:=Ij.int_eq;have N':=R1.slot 33 (by decide) (λh=>h);rw[hb]at N';have OY:=N'.fc;show Code.wpIn _ _ _ _ _ a' w';refine wpIn_cond (t:=b) OY ?_
  cases b with
  |false=>
   simp only[Bool.false_eq_true,if_false];refine wpIn_exit ?_
   have dp:¬(i<all.length/\es.length<rows):=λh=>by have:=P7.2 h;cases this
   have N0:rem i=[]:=by
    rw[y4]
    by_cases ao:es.length<rows
    .have:i=all.length:=by
      rcases Nat.lt_or_ge i all.length with h|h
      .exact absurd ⟨h,ao⟩ dp
      .omega
     simp only[if_pos ao,this,List.drop_length]
     rfl
    .simp only[if_neg ao]
   rw[N0]at na;simp only[Exit.then,Exit.inBlock,if_true];refine wpIn_seq ?_;refine wpIn_region ?_;show wpOpsIn _ _ _ _ _ [0] a' w';refine aT rfl rfl (by rfl) (v:=.bool true) (w':=w') (run_assign (x:=.const (.bool true)) w' rfl) ?_;show Code.wpIn _ _ _ _ _ _ _;refine wpIn_ret ⟨Gf.defers,.bool true,?_,?_⟩
   .have h8:(a'.put (some 8) (.bool true)).tmps.getD 8 undef=.bool true:=by simp[Act.put,Gf.size]
    show(results f123 (a'.put (some 8) (.bool true)).tmps).run prog w'=_;exact results_tmp results123 h8
   .rw[<-hc];refine⟨M,Pr,.inl ⟨rfl,?_⟩⟩;rw[<-na];exact qY
  |true=>
   obtain⟨ao,hrw⟩:=P7.1 rfl;simp only[if_true];refine wpIn_skip ?_;show Code.wpIn _ _ _ _ _ a' w';clear N' OY Ij hb X2 R1 hg bh;refine wpIn_seq (wpIn_block (wpIn_seq ?_));obtain⟨v,ty,j2,hN,PX,cC,sW,Fa⟩:=qY.now;obtain⟨i116,Dv,pB⟩:=iZ 214 2
   have WT:(bz es).length=es.length:=by simp[bz]
   refine A9 bL (n:=53) (ac:=ae.qa tL.qb.qa.qb) (by kernel_rfl) (by kernel_rfl) (by kernel_rfl) (W:=A3) (by kernel_rfl) (λb k=>X.MI b\/Pr b k)
    (λt=>match t with|1=>.ref [.slice .view (bz all)]|4=>.box 4 0|9=>.int .i64 (i:Int)|_=>.bj) (nm:=4) (tp:=4) (es:=bz es) (es':=bz (es++[all[i]])) (by decide) rfl Gf.t4 Gf.size Gf.defers hN Dv (by rw[pB,WT];exact cC) (by rw[pB];exact sW.mono (aE.same λ_ _ _ h=>h.elim)) ?_ ?_ (by rw[pB];exact sE _) (zC _) ?_
   .intro t ht;split
    .exact⟨rfl,.inr (by rw[Gf.t1];exact qY.TR)⟩
    .exact⟨rfl,.inl ⟨rfl,Gf.t4⟩⟩
    .exact⟨rfl,.inr (by rw[SE];exact .data _ _ (.int _ _))⟩
    .exact⟨rfl,.inr (.bj _)⟩
   .have bt:¬(i:Int)<0:=by omega
    have j1:es.length+1<1048576:=by omega
    cases yP:v.ownBlock with
    |none=>
     have he:es=[]:=by
      rcases cC.2 with⟨_,h⟩|⟨gg,cap,cur,rfl,_⟩
      .exact List.eq_nil_of_length_eq_zero h
      .cases yP
     subst he;simp[c123,tL,ae.qa,ae.qb,bq,dM,cD,aR,cM,an,gV,aq,aI,aB.S,aB.H,ev,au,aH,aP,AV.aw,AV.vw,AV.cells,AV.storable,AV.bV,az,kq,yP,HR.okB,aY,bz,cz,ao,aC,aQ,AV.bb,bt]
    |some bv=>
     simp[c123,tL,ae.qa,ae.qb,bq,dM,cD,aR,cM,an,gV,aq,aI,aB.S,aB.H,ev,au,aH,aP,AV.aw,AV.vw,AV.cells,AV.storable,AV.bV,az,kq,yP,HR.okB,aY,bz,cz,ao,aC,aQ,AV.bb,bt,j1]
   .intro a2 w2 v' rv Xt xc tm jh Mw qx zz fD fK;have EZ:=Gf.step xc tm (dV.weaken jh λt ht=>by simp[W7]at ht;simp[A3];omega);have h92:a2.tmps.getD 9 undef=.int .i64 (i:Int):=(jh 9 rfl).trans SE
    have A2:∀b,(b=X.bN\/v.ownBlock=some b)->M b/\¬X.MI b:=by
     rintro b (rfl|hb)
     .exact⟨PX,λh=>(qY.mi _ h).2.1 rfl⟩
     .exact Fa b hb
    have pT:aE Pr Pr w' w2:=aE.jj λb k ao hp=>fD.block b ao λhm=>C.apart qY.j b k (A2 b hm).1 hp
    have BH:∀b,X.MI b->w2.heap[b]?=w'.heap[b]?:=λb h=>fD.block b (qY.lt b (qY.mi b h).1) λhm=>(A2 b hm).2 h
    have PG:(bz (es++[all[i]])).length=(es++[all[i]]).length:=by simp[bz]
    have LP:St X k' (λb=>M b\/(w'.heap.size<=b/\b<w2.heap.size)) Pr (es++[all[i]]) w2:=by
     refine⟨C.fQ qY.j (M':=λb=>M b\/(w'.heap.size<=b/\b<w2.heap.size)) ⟨fD.os,fD.tape,fD.output,fD.size,λb hb hm=>fD.block b hb λh=>hm (A2 b h).1⟩ λb hb=>?_,λb hb=>?_,λb h=>⟨.inl (qY.mi b h).1,(qY.mi b h).2.1,(BH b h).trans (qY.mi b h).2.2⟩,⟨v',rv,Xt,Mw,.inl PX,?_,?_,λb hb=>?_⟩,qY.f.mono pT λ_ _ h=>h,qY.o.mono pT λ_ _ h=>h,qY.e.mono (yy BH pT)⟩
     .rcases hb with hb|hb
      .exact⟨Nat.lt_of_lt_of_le (qY.lt b hb) fD.size,.inl hb⟩
      .exact⟨hb.2,.inr hb.1⟩
     .rcases hb with hb|hb
      .exact Nat.lt_of_lt_of_le (qY.lt b hb) fD.size
      .exact hb.2
     .rw[pB,PG]at qx;exact qx
     .rw[pB]at zz;exact zz
     .rcases fK b hb with h|h
      .exact⟨.inl (Fa b h).1,(Fa b h).2⟩
      .refine⟨.inr ⟨h,(qx.lt b hb).2⟩,λhm=>?_⟩;have:=qY.lt b (qY.mi b hm).1;omega
    clear A2 pT BH fK qx zz Mw fD;show Code.wpIn _ _ _ _ _ a2 w2
    have ZK:(AV.int .i64 (i:Int)).aw=.int .i64 (i:Int)/\RV (λ_ _=>True) bO w2 (.int .i64 (i:Int)) (a2.tmps.getD 9 undef):=⟨rfl,by rw[h92];exact .data _ _ (.int _ _)⟩
    refine wpIn_seq (wpIn_seq ?_);refine rp hG (p:=3) (l2:=[3,4]) rfl (by kernel_rfl) (by kernel_rfl) (l:=(tL.qb.qa.qb.qb.qa.qa.dl).take 3) (by kernel_rfl) (by decide) (W:=A3) (by kernel_rfl) (C.gi LP.j) (λ_ _=>True) (gu l all (es++[all[i]]) out fA X.fv n (.int .i64 (i:Int))) EZ.size EZ.defers (LP.gO EZ ZK) (K:=λS' _=>S' 43=.val X.fv/\S' 45=.int .i64 ((i+1:Nat):Int)) ?_ ?_
    .have A0:IntKind.i64.wrap ((i:Int)+1)=i+1:=bl (by omega);simp[c123,tL,ae.qa,ae.qb,ae.dl,aV,an,aI,aq,aB.S,aB.H,ev,au,aH,gu,aP,AV.aw,dO,A0]
    rintro g S' H' a3 w3 hg R1 ⟨P2,h45⟩ oa;have Mm:=EZ.step R1.size (by rw[R1.defers,hg];rfl) (dV.weaken oa λt ht=>by simp[W7]at ht;simp[A3];omega);have Da:=LP.grow (by have:=R1.below;rwa [R1.base]at this);have h93:a3.tmps.getD 9 undef=.int .i64 (i:Int):=(oa 9 rfl).trans h92;have Sm:=R1.slot 43 (by decide) (λh=>h);rw[P2]at Sm;have Sm:=Sm.jf;have HF:=R1.slot 45 (by decide) (λh=>h);rw[h45]at HF;have HF:=HF.int_eq;clear R1 hg oa;have Ad:all.drop i=all[i]::all.drop (i+1):=List.drop_eq_getElem_cons ao
    have N0:rem i=ch (es++[all[i]]) (all.drop (i+1)) (rows-(es++[all[i]]).length)++rem (i+1):=by
     rw[y4];simp only[if_pos hrw,Ad,NT]
     congr 2
     simp;omega
    rw[N0]at iY na;rw[List.map_append,List.append_assoc]at iY;have ky:=ih (all.length-(i+1)) (by omega) (i+1) (es++[all[i]]) k' _ Pr w3 _ (by omega) (by simp;omega) Da iY;refine gm rfl rfl (by rfl) (qJ (f:=.tmp 43) (x:=.tmp 45) w3 rfl rfl rfl Sm (by kernel_rfl)) (R:=λe w'=>∃M' cS,(e=.returned (.bool true)/\St X (k'+(ch (es++[all[i]]) (all.drop (i+1)) (rows-(es++[all[i]]).length)).length) M' cS (es++[all[i]]) w')\/(e=.returned (.bool false)/\C.X M' cS w')) ?_ ?_
    .have : #[a3.eval (.tmp 45)] ++ #[X.cA,X.cY,X.cO,.pointer (some ⟨X.bN,0,none⟩),X.cF,X.cR] = #[.int .i64 ((i+1:Nat):Int),X.cA,X.cY,X.cO,.pointer (some ⟨X.bN,0,none⟩),X.cF,X.cR]:=by
      show #[a3.tmps.getD 45 undef]++_=_;rw[HF];rfl
     rw[this];exact ky
    rintro e w4 ⟨M4,sT,kS⟩
    obtain⟨b,rfl⟩:∃b:Bool,e=.returned (.bool b):=by rcases kS with⟨rfl,_⟩|⟨rfl,_⟩<;>exact⟨_,rfl⟩
    refine⟨_,rfl,?_⟩
    have PD:(a3.put (some 46) (.bool b)).tmps.getD 46 undef=.bool b:=by simp[Act.put,Mm.size]
    refine aT rfl rfl (by rfl) (v:=.bool !b) (w':=w4) (pL (x:=.tmp 46) w4 rfl PD) ?_;show Code.wpIn _ _ _ _ _ ((a3.put (some 46) (.bool b)).put (some 47) (.bool !b)) w4
    obtain⟨a4,jG⟩:∃a4,(a3.put (some 46) (.bool b)).put (some 47) (.bool !b)=a4:=⟨_,rfl⟩
    rw[jG]
    have df:∀(a:Act)(d t:Nat)(c:Value),t≠d->(a.put (some d) c).tmps.getD t undef=a.tmps.getD t undef:=λa d t c h=>by
     simp[Act.put,Array.getElem?_setIfInBounds_ne (Ne.symm h)]
    have wg:dV A3 a3 a4:=λt ht=>by
     have:t<36:=by simp[A3]at ht;omega
     rw[<-jG,df _ _ _ _ (by omega),df _ _ _ _ (by omega)]
    have TV:a4.tmps.size=53:=by rw[<-jG];simp[Act.put,Mm.size]
    have B7:a4.defers=[]:=by rw[<-jG];exact Mm.defers
    have zb:=Mm.step TV B7 (dV.weaken wg λt ht=>by simp[W7]at ht;simp[A3];omega);have h94:a4.tmps.getD 9 undef=.int .i64 (i:Int):=(wg 9 rfl).trans h93
    have Du:a4.tmps.getD 47 undef=.bool !b:=by rw[<-jG];simp[Act.put,Mm.size]
    refine wpIn_cond (t:=!b) Du ?_
    cases b with
    |false=>
     have hX:C.X M4 sT w4:=by
      rcases kS with⟨h,_⟩|⟨_,h⟩
      .cases h
      .exact h
     simp only[Bool.not_false,if_true];refine wpIn_seq ?_;refine wpIn_region ?_;show wpOpsIn _ _ _ _ _ [0] a4 w4;refine aT rfl rfl (by rfl) (v:=.bool false) (w':=w4) (run_assign (x:=.const (.bool false)) w4 rfl) ?_;show Code.wpIn _ _ _ _ _ _ _;refine wpIn_ret ⟨zb.defers,.bool false,?_,?_⟩
     .have h8:(a4.put (some 8) (.bool false)).tmps.getD 8 undef=.bool false:=by simp[Act.put,zb.size]
      show(results f123 (a4.put (some 8) (.bool false)).tmps).run prog w4=_;exact results_tmp results123 h8
     .rw[<-hc];exact⟨M4,sT,.inr ⟨rfl,hX⟩⟩
    |true=>
     have my:St X (k'+(ch (es++[all[i]]) (all.drop (i+1)) (rows-(es++[all[i]]).length)).length) M4 sT (es++[all[i]]) w4:=by
      rcases kS with⟨_,h⟩|⟨h,_⟩
      .exact h
      .cases h
     simp only[Bool.not_true,Bool.false_eq_true,if_false];refine wpIn_skip ?_;show Code.wpIn _ _ _ _ _ a4 w4;obtain⟨v4,Lq,CT,KN,zv,zN,NS,N6⟩:=my.now
     have E_:CT.length=(es.length+1)*2:=by have:=zN.1;simpa using this
     obtain⟨i29,aaX,aa_⟩:=iZ 106 1;refine wpIn_region ?_;show wpOpsIn _ _ _ _ _ [0,1,2,3,4,5] a4 w4
     refine Nn (P:=prog) (n:=53) (T:=106) (el:=214) (p:=4) (t1:=48) (t2:=49) (t3:=50) (t4:=51) (t5:=52) (bN:=X.bN) (i:=i116) (iT:=i29) (v:=v4) (ty:=Lq) (k:=es.length) (xs:=CT.take (es.length*2)) (last:=CT.drop (es.length*2))
      rfl rfl rfl rfl rfl rfl ⟨rfl,rfl,rfl⟩ ⟨rfl,rfl,rfl⟩ ⟨rfl,rfl,rfl⟩ ⟨rfl,rfl,rfl⟩ ⟨rfl,rfl,rfl⟩ ⟨rfl,rfl,rfl⟩ rfl rfl rfl (by kernel_rfl) aaX aa_ Dv (by decide) zb.size (by decide) zb.t4 KN (by rw[List.take_append_drop,pB];simpa using zN) (by rw[pB,List.length_take,E_];omega) (by omega) ?_
     intro a5 v5 ZB BC Kv Nh abC Dt
     have sP:∀b,v5.ownBlock=some b->M4 b/\¬X.MI b:=λb hb=>N6 b (by rw[<-Nh];exact hb)
     have lU:∀b,b≠X.bN->(w4.setRow X.bN #[v5]).heap[b]?=w4.heap[b]?:=λb hb=>setRow_other w4 X.bN b #[v5] hb
     have q_:(w4.setRow X.bN #[v5]).heap.size=w4.heap.size:=by simp
     have KC:aE sT sT w4 (w4.setRow X.bN #[v5]):=aE.jj λb k _ hp=>lU b (by rintro rfl;exact C.apart my.j _ k zv hp)
     have Ge:St X (k'+(ch (es++[all[i]]) (all.drop (i+1)) (rows-(es++[all[i]]).length)).length) M4 sT es (w4.setRow X.bN #[v5]):=by
      refine⟨C.fQ my.j ⟨rfl,rfl,rfl,by rw[q_];exact Nat.le_refl _,λb _ hm=>lU b (by rintro rfl;exact hm zv)⟩ λb hb=>⟨by rw[q_];exact my.lt b hb,.inl hb⟩,λb hb=>by rw[q_];exact my.lt b hb,λb h=>⟨(my.mi b h).1,(my.mi b h).2.1,(lU b (my.mi b h).2.1).trans (my.mi b h).2.2⟩,
       ⟨v5,Lq,CT.take (es.length*2),setRow_heap w4 X.bN _ #[v5] Lq (0,0) KN,zv,?_,?_,sP⟩,my.f.mono KC λ_ _ h=>h,my.o.mono KC λ_ _ h=>h,my.e.mono (yy (λb h=>lU b (my.mi b h).2.1) KC)⟩
      .rw[pB]at Dt;refine⟨Dt.1,?_⟩
       rcases Dt.2 with h|⟨gg,cap,cur,rfl,l5,N2,rest⟩
       .exact .inl h
       .exact .inr ⟨gg,cap,cur,rfl,l5,(lU gg (by omega)).trans N2,rest⟩
      .refine⟨sE es,λj hj k hk=>?_⟩
       have UK:j<es.length:=by simpa[bz]using hj
       have dJ:j<(bz (es++[all[i]])).length:=by simp[bz];omega
       have j6:(bz (es++[all[i]]))[j]=(bz es)[j]:=by
        simp only[bz,List.map_append,List.map_cons,List.map_nil];exact List.getElem_append_left (by simpa using UK)
       obtain⟨u,u1,u2⟩:=NS.2 j dJ k (by rw[j6];exact hk);refine⟨u,?_,?_⟩
       .have pT:k < 2:=by
         have:=sE es _ (List.getElem_mem hj);rw[this.1]at hk;exact hk
        rw[List.getElem?_take_of_lt (by omega)];exact u1
       .simp only[j6]at u2;exact u2.mono (aE.of_eq λ_ _ h=>h.elim)
     have Ou:dV A3 a4 a5:=λt ht=>by
      have:t<36:=by simp[A3]at ht;omega
      exact Kv t (by omega) (by omega) (by omega) (by omega) (by omega)
     have P8:=zb.step ZB (BC.trans zb.defers) (dV.weaken Ou λt ht=>by simp[W7]at ht;simp[A3];omega);have h95:a5.tmps.getD 9 undef=.int .i64 (i:Int):=(Ou 9 rfl).trans h94;clear lU sP KC Dt Ou Kv q_;generalize w4.setRow X.bN #[v5]=w5 at Ge⊢;simp only[Exit.then,Exit.inBlock]
     have aab:(AV.int .i64 (i:Int)).aw=.int .i64 (i:Int)/\RV (λ_ _=>True) bO w5 (.int .i64 (i:Int)) (a5.tmps.getD 9 undef):=⟨rfl,by rw[h95];exact .data _ _ (.int _ _)⟩
     refine cQ hG bL (ac:=ae.qb tL.qb) (W:=W7) (by kernel_rfl) (by kernel_rfl) (by kernel_rfl) (C.gi Ge.j) (λ_ _=>True) (gu l all es out fA X.fv n (.int .i64 (i:Int))) P8.size P8.defers (Ge.gO P8 aab) (K:=λS' _=>S' 9=.int .i64 ((i+1:Nat):Int)) ?_ ?_
     .have A0:IntKind.i64.wrap ((i:Int)+1)=i+1:=bl (by omega);simp[c123,tL,ae.qa,ae.qb,bq,aV,an,aI,aq,az,aB.S,aB.H,ev,au,aH,gu,AV.aw,dO,A0]
     intro g S' H' a6 w6 hg R1 Xr Qy;have fr6:=P8.step R1.size (by rw[R1.defers,hg];rfl) Qy;have st6:=Ge.grow (by have:=R1.below;rwa [R1.base]at this);have M7:=R1.slot 9 (by decide) (λh=>h);rw[Xr]at M7;have M7:=M7.int_eq;refine⟨⟨i+1,_,M4,sT,fr6,M7,by omega,by omega,st6,?_,?_⟩,?_⟩
     .rw[<-List.drop_drop,iY,List.drop_append_of_le_length (by simp)];simp
     .have e:=@List.length_append _ (ch (es++[all[i]]) (all.drop (i+1)) (rows-(es++[all[i]]).length)) (rem (i+1));omega
     .rw[M7,Yt];show all.length-((i+1:Nat):Int).toNat<all.length-(i:Int).toNat;rw[Int.toNat_natCast,Int.toNat_natCast];omega
end Go.Proofs.Tryz
namespace Go.Proofs.Tryz
open Go Go.AL Go.RowKit Go.Proofs Go.Proofs.Tram
variable{GI:World->Prop}
def j9{vs:Array Value}(h:vs.size=1):∃v,vs=#[v]:=⟨vs[0],by
 apply Array.ext
 .simpa using h
 .intro i h1 h2
  have:i=0:=by simpa using h2
  subst this;rfl⟩
def IF{P:Program}{t:TypeId}(h:(P.underlying t).map fE=some false):∃d,P.underlying t=some d/\fE d=false:=by
 cases hi:P.underlying t with
 |none=>rw[hi]at h;cases h
 |some i=>rw[hi]at h;exact⟨i,rfl,Option.some.inj h⟩
def vZ(t:TypeId)(h:(prog.underlying t).map fE=some false:=by kernel_rfl):∃d,prog.underlying t=some d/\fE d=false:=IF h
def l_:AV.bV∘AV.aw=AV.bV:=by
 funext v
 cases v<;>try rfl
 rename_i o es;cases o<;>rfl
def RD.yR{Pr:Nat->Nat->Prop}{w:World}{o:Ow}{es:List AV}{c:Value}(h:RD Pr w (.slice o es) c):RD Pr w (.slice .view es) c:=by
 cases h with
 |fH=>exact .fH _
 |slice _ _ b off cap size cs eu hn aL h1 hc hr=>exact .slice _ _ b off cap size cs eu (λh=>by cases h) aL h1 hc hr
 |iG _ a=>exact .iG _ a
def VV (hG:av GI) {oE:Ow} {all:List End} {out:List Int} {fA:List AV} {rows:Nat} (eP:all.length≤1000) (OI:rows≤1000) (mC:out.length≤1000) (sW:fA.length=11) (Q5:∀ x∈fA.take 10,x.storable=true∧x.one=true∧x.aw=x) (h9:fA[9]? = some (.int .i64 rows))
  (VJ:AC prog GI 122 [.agg ((fA.take 10).map AV.bV),vI out] (.ret (.slice oE (bz all)))):
  mN prog GI 121 [.ref fA,.ref [vI out]] ((ch [] all rows).map (aM out)):=by
 intro l C w Pr a_ hJ hlen hr
 obtain⟨cF,cO,rfl⟩:∃cF cO,a_=#[cF,cO]:=by
  have:a_.size=2:=by simpa using hlen.symm
  exact⟨a_[0],a_[1],by
   apply Array.ext
   .simpa using this
   .intro i h1 h2
    match i,h2 with
    |0,_=>rfl
    |1,_=>rfl⟩
 have Xs:=hr 0 (by simp) (by simp);have Vt:=hr 1 (by simp) (by simp);simp only[List.getElem_cons_zero,List.getElem_cons_succ,List.getElem_toArray]at Xs Vt;refine(eA (ro:=none) (m:=0)).1 (callsIn_of_wp func121 rfl trivial ?_);have db:=C.gi hJ
 have R:Rel prog w 14 bp _ (AL.start [.val (.func (.yield l) #[] #[]),.ref fA,.ref [vI out]]) (λ_=>none) { tmps:=(#[.func (.yield l) #[] #[]]++#[cF,cO])++Array.replicate (f121.ntmps-(#[Value.func (.yield l) #[] #[]]++#[cF,cO]).size) undef,defers:=[] } w:=Rel.begin (args:=[.val (.func (.yield l) #[] #[]),.ref fA,.ref [vI out]]) (old:=Pr) ntmps121 (by simp) rfl (λi h h'=>by
  match i,h with
  |0,_=>exact .data _ _ (.val _ rfl)
  |1,_=>exact Xs
  |2,_=>exact Vt)
 have e1:({ tmps:=(#[Value.func (.yield l) #[] #[]]++#[cF,cO])++Array.replicate (f121.ntmps-(#[Value.func (.yield l) #[] #[]]++#[cF,cO]).size) undef,defers:=[] }:Act).tmps.getD 1 undef=cF:=dP _ _ 1 (by simp);have e2:({ tmps:=(#[Value.func (.yield l) #[] #[]]++#[cF,cO])++Array.replicate (f121.ntmps-(#[Value.func (.yield l) #[] #[]]++#[cF,cO]).size) undef,defers:=[] }:Act).tmps.getD 2 undef=cO:=dP _ _ 2 (by simp)
 have W3:∃W:Nat->Bool,W=λt=>decide (3<=t):=⟨_,rfl⟩
 refine wpIn_seq ?_;refine eI R hG db bL (ac:=ae.qa c121) (W:=λt=>decide (3<=t)) (by kernel_rfl) (by kernel_rfl) (by kernel_rfl) (λ_ h=>h) (K:=λS' H'=>S' 1=.ref fA/\S' 2=.ref [vI out]/\S' 3=.box 3 0/\H' 3=some [.val (.func (.yield l) #[] #[])]) ?_ ?_
 .simp[c121,ae.qa,bq,aV,an,aI,az,ev,AL.start,AV.aw,AV.cells,AV.storable,au,aZ,vI]
 rintro g1 S1 H1 a1 w1 lN R1 ⟨s1,s2,s3,h3⟩ tW;refine wpIn_seq ?_;refine eI R1 hG db bL (ac:=ae.qa c121.qb) (W:=λt=>decide (3<=t)) (by kernel_rfl) (by kernel_rfl) (by kernel_rfl) (by rw[lN];exact λ_ h=>h) (K:=λS' H'=>S' 3=.box 3 0/\S' 4=.box 4 0/\H' 3=some [.val (.func (.yield l) #[] #[])]/\H' 4=some [.slice oE (bz all)]) ?_ ?_
 .simp[c121,ae.qa,ae.qb,bq,aV,an,aI,az,ev,aq,aB.S,aB.H,aH,aP,s1,s2,s3,h3,au,AV.aw,vI,sW,jk]
  have e8:fz H1 (.agg (List.take 10 (List.map AV.aw fA)))=.agg ((fA.take 10).map AV.bV):=by
   simp only[fz,fG,AV.vw,<-List.map_take,List.map_map,l_]
  have e9:fz H1 (.slice .view (ints out))=vI out:=rfl;rw[e8,e9];refine⟨by kernel_rfl,_,VJ,by simp[bR],?_⟩
  cases oE<;>simp[g_,aZ,AV.cells,AV.storable,HR.okB,aY,aQ,AV.bb,au,AV.aw,s3,h3]
 rintro g2 S2 H2 a2 w2 im R2 ⟨t3,t4,k3,k4⟩ pR;have f_:g2.base=w.heap.size:=R2.base
 have fV:Below w.heap.size w w2:=by have:=R2.below;rwa [f_]at this
 obtain⟨bY,hY⟩:∃b,g2.al 3=some b/\a2.tmps.getD 3 undef=.pointer (some ⟨b,0,none⟩):=by
  have h:=R2.slot 3 (by decide) (λh=>h);rw[t3]at h;generalize a2.tmps.getD 3 undef=c at h
  cases h with
  |data _ _ h=>cases h
  |box _ _ b h=>exact⟨b,h,rfl⟩
 obtain⟨bA,hA⟩:∃b,g2.al 4=some b/\a2.tmps.getD 4 undef=.pointer (some ⟨b,0,none⟩):=by
  have h:=R2.slot 4 (by decide) (λh=>h);rw[t4]at h;generalize a2.tmps.getD 4 undef=c at h
  cases h with
  |data _ _ h=>cases h
  |box _ _ b h=>exact⟨b,h,rfl⟩
 obtain⟨csY,vsY,tyY,q1,q2,q3,q4,q5,q6,q7,q8,q9⟩:=R2.box 3 bY hY.1;rw[k3]at q1;cases q1
 have hvY:vsY=#[.func (.yield l) #[] #[]]:=by
  have h0:=q7 0 (by simp) (by rw[<-q6];simp);simp only[List.getElem_cons_zero]at h0;apply Array.ext
  .rw[<-q6];rfl
  .intro i h1 h2
   have:i=0:=by simpa using h2
   subst this;exact(RV.data (al:=bO) _ _ h0).jf
 subst hvY;obtain⟨csA,vsA,tyA,r1,r2,r3,r4,r5,r6,r7,r8,r9⟩:=R2.box 4 bA hA.1;rw[k4]at r1;cases r1;obtain⟨yj,rfl⟩:=j9 (vs:=vsA) (by rw[<-r6];rfl);have Ko:=r7 0 (by simp) (by simp);have hO0:=r8 0 (by simp) (by simp);simp only[List.getElem_cons_zero,List.getElem_toArray]at Ko hO0
 have lq:RD (λb k=>(b<w.heap.size/\Pr b k)\/(w.heap.size<=b/\b<w2.heap.size)) w2 (.slice .view (bz all)) yj:=by
  have hd:=Ko.aw
  have hd:RD g2.Pr w2 (.slice .view (bz all)) yj:=by
   have e:RD g2.Pr w2 (.slice oE (bz all)) yj:=Ko;exact RD.yR e
  refine hd.mono (aE.of_eq λb k hp=>⟨?_,rfl⟩)
  rcases hp with⟨h1,h2⟩|⟨h1,h2⟩
  .rw[im,lN]at h2;exact .inl ⟨by rw[<-f_];exact h1,h2⟩
  .refine .inr ⟨by rw[<-f_];exact h1,?_⟩
   by_cases ao:b<w2.heap.size
   .exact ao
   .rw[(R2.fresh b (by omega)).1]at h2;omega
 have hbY:w.heap.size<=bY/\bY<w2.heap.size:=⟨by rw[<-f_];exact q2,(Array.getElem?_eq_some_iff.1 q3).1⟩
 have Ph:w.heap.size<=bA/\bA<w2.heap.size:=⟨by rw[<-f_];exact r2,(Array.getElem?_eq_some_iff.1 r3).1⟩
 have e1:a2.tmps.getD 1 undef=cF:=((tW.trans pR) 1 rfl).trans e1;have e2:a2.tmps.getD 2 undef=cO:=((tW.trans pR) 2 rfl).trans e2;have xc:a2.tmps.size=14:=R2.size
 have tm:a2.defers=[]:=by rw[R2.defers,im,lN];rfl
 obtain⟨bN,PB⟩:∃bN,w2.heap.size=bN:=⟨_,rfl⟩
 have df:∀(a:Act)(d t:Nat)(c:Value),t≠d->(a.put (some d) c).tmps.getD t undef=a.tmps.getD t undef:=λa d t c h=>by
  simp[Act.put,Array.getElem?_setIfInBounds_ne (Ne.symm h)]
 have gq:∀(a:Act)(d:Nat)(c:Value),a.tmps.size=14->d<14->(a.put (some d) c).tmps.getD d undef=c:=λa d c h hd=>by
  simp[Act.put,h,hd]
 have gE:∀(a:Act)(d:Option Nat)(c:Value),(a.put d c).tmps.size=a.tmps.size:=λa d c=>by cases d<;>simp[Act.put]
 have zW:∀(a:Act)(d:Option Nat)(c:Value),(a.put d c).defers=a.defers:=λa d c=>by cases d<;>rfl
 refine wpIn_seq (wpIn_region ?_);show wpOpsIn _ _ _ _ _ [0] a2 w2;refine aT rfl rfl (by rfl) (jz (t:=106) (z:=.slice none 0 0) rfl (by kernel_rfl)) ?_;show Code.wpIn _ _ _ _ _ (a2.put (some 5) (.pointer (some ⟨w2.heap.size,0,none⟩))) (w2.alloc (.cells #[.slice none 0 0] 106))
 obtain⟨a3,j0⟩:∃a3,a2.put (some 5) (.pointer (some ⟨w2.heap.size,0,none⟩))=a3:=⟨_,rfl⟩
 obtain⟨w3,pV⟩:∃w3,w2.alloc (.cells #[.slice none 0 0] 106)=w3:=⟨_,rfl⟩
 have NV:w3.heap.size=bN+1:=by rw[<-pV,<-PB];simp
 have Y9:w3.heap[bN]?=some (.cells #[.slice none 0 0] 106 (0,0)):=by rw[<-pV,<-PB];exact World.alloc_heap_new w2 _
 have Z_:∀b,b<bN->w3.heap[b]?=w2.heap[b]?:=λb hb=>by rw[<-pV];exact Below.heap_alloc _ _ _ (by omega)
 rw[j0,pV];refine wpIn_seq (wpIn_region ?_);show wpOpsIn _ _ _ _ _ [0] a3 w3;refine aT rfl rfl (by rfl) (jz (t:=121) (z:=.nilFunc) rfl (by kernel_rfl)) ?_;show Code.wpIn _ _ _ _ _ (a3.put (some 6) (.pointer (some ⟨w3.heap.size,0,none⟩))) (w3.alloc (.cells #[.nilFunc] 121))
 obtain⟨a4,jG⟩:∃a4,a3.put (some 6) (.pointer (some ⟨w3.heap.size,0,none⟩))=a4:=⟨_,rfl⟩
 obtain⟨w4,kI⟩:∃w4,w3.alloc (.cells #[.nilFunc] 121)=w4:=⟨_,rfl⟩
 have ZO:w4.heap.size=bN+2:=by rw[<-kI];simp[NV]
 have Tx:w4.heap[bN+1]?=some (.cells #[.nilFunc] 121 (0,0)):=by rw[<-kI,<-NV];exact World.alloc_heap_new w3 _
 have Ta:∀b,b<bN+1->w4.heap[b]?=w3.heap[b]?:=λb hb=>by rw[<-kI];exact Below.heap_alloc _ _ _ (by omega)
 rw[jG,kI]
 have z3:a3.tmps.size=14:=by rw[<-j0,gE];exact xc
 have z4:a4.tmps.size=14:=by rw[<-jG,gE];exact z3
 have u5:a4.tmps.getD 5 undef=.pointer (some ⟨bN,0,none⟩):=by rw[<-jG,df _ _ _ _ (by decide),<-j0,gq _ _ _ xc (by decide),PB]
 have u6:a4.tmps.getD 6 undef=.pointer (some ⟨bN+1,0,none⟩):=by rw[<-jG,gq _ _ _ z3 (by decide),NV]
 have u:∀t,t<5->a4.tmps.getD t undef=a2.tmps.getD t undef:=λt ht=>by rw[<-jG,df _ _ _ _ (by omega),<-j0,df _ _ _ _ (by omega)]
 refine wpIn_seq (wpIn_region ?_);show wpOpsIn _ _ _ _ _ [0,1] a4 w4;refine aT rfl rfl (by rfl) (pO (fn:=.func 123) (c:=#[.tmp 4,.tmp 3,.tmp 2,.tmp 5,.tmp 1,.tmp 6]) rfl) ?_
 have eu:(#[Operand.tmp 4,.tmp 3,.tmp 2,.tmp 5,.tmp 1,.tmp 6].map a4.eval)=#[.pointer (some ⟨bA,0,none⟩),.pointer (some ⟨bY,0,none⟩),cO,.pointer (some ⟨bN,0,none⟩),cF,.pointer (some ⟨bN+1,0,none⟩)]:=by
  simp only[List.map_toArray,List.map_cons,List.map_nil,Act.eval];rw[u 4 (by omega),u 3 (by omega),u 2 (by omega),u5,u 1 (by omega),u6,hA.2,hY.2,e2,e1]
 rw[eu]
 obtain⟨fv,pW⟩:∃fv:Value,fv=.func (.func 123) #[] #[.pointer (some ⟨bA,0,none⟩),.pointer (some ⟨bY,0,none⟩),cO,.pointer (some ⟨bN,0,none⟩),cF,.pointer (some ⟨bN+1,0,none⟩)]:=⟨_,rfl⟩
 rw[<-pW]
 obtain⟨a5,nM⟩:∃a5,a4.put (some 11) fv=a5:=⟨_,rfl⟩
 show wpOpsIn _ _ _ _ _ [1] (a4.put (some 11) fv) w4;rw[nM]
 have z5:a5.tmps.size=14:=by rw[<-nM,gE];exact z4
 have u11:a5.tmps.getD 11 undef=fv:=by rw[<-nM];exact gq _ _ _ z4 (by decide)
 have YK:a5.tmps.getD 6 undef=.pointer (some ⟨bN+1,0,none⟩):=by rw[<-nM,df _ _ _ _ (by decide)];exact u6
 obtain⟨i33,xF,vt⟩:=iZ 121 1;refine eC rfl rfl (by rfl) (iO (x:=.tmp 6) (y:=.tmp 11) rfl YK xF vt Tx u11 (by rw[pW];rfl)) ?_
 obtain⟨w5,tB⟩:∃w5,w4.setRow (bN+1) #[fv]=w5:=⟨_,rfl⟩
 show Code.wpIn _ _ _ _ _ (a5.put none undef) (w4.setRow (bN+1) #[fv]);rw[tB]
 have abx:w5.heap.size=bN+2:=by rw[<-tB];simpa using ZO
 have TN:w5.heap[bN+1]?=some (.cells #[fv] 121 (0,0)):=by rw[<-tB];exact setRow_heap w4 _ _ _ _ _ Tx
 have SI:∀b,b<bN+1->w5.heap[b]?=w4.heap[b]?:=λb hb=>by rw[<-tB];exact setRow_other w4 _ _ _ (by omega)
 have GL:∀b,b<bN->w5.heap[b]?=w2.heap[b]?:=λb hb=>by rw[SI b (by omega),Ta b (by omega),Z_ b hb]
 refine wpIn_region ?_;show wpOpsIn _ _ _ _ _ [0,1] a5 w5;obtain⟨d33,aaS,Wj⟩:=vZ 121;refine aT rfl rfl (by rfl) (gY (x:=.tmp 6) (v:=fv) rfl YK aaS Wj (by simp[World.cell?,TN])) ?_;show wpOpsIn _ _ _ _ _ [1] (a5.put (some 12) fv) w5
 obtain⟨a6,AD⟩:∃a6,a5.put (some 12) fv=a6:=⟨_,rfl⟩
 rw[AD]
 have z6:a6.tmps.size=14:=by rw[<-AD,gE];exact z5
 have u12:a6.tmps.getD 12 undef=fv:=by rw[<-AD];exact gq _ _ _ z5 (by decide)
 have Zu:a6.defers=[]:=by rw[<-AD,zW,<-nM,zW,<-jG,zW,<-j0,zW];exact tm
 have hc6:∀{P':Nat->Nat->Prop},(∀b k,P' b k->b<bN)->aE P' P' w2 w5:=λh=>aE.of_eq λb k hp=>⟨hp,GL b (h b k hp)⟩
 let X:Fx C all out fA rows:={
  bN:=bN
  cA:=.pointer (some ⟨bA,0,none⟩)
  cY:=.pointer (some ⟨bY,0,none⟩)
  cO:=cO
  cF:=cF
  cR:=.pointer (some ⟨bN+1,0,none⟩)
  MI:=λb=>w.heap.size<=b/\b<bN+2/\b≠bN
  wI:=w5
  bA:=bA
  yj:=yj
  Ko:=rfl
  Qm:=⟨⟨Ph.1,by omega,by omega⟩,by omega⟩
  XT:=⟨tyA,(GL bA (by omega)).trans r3⟩
  hY:=by
   refine .data _ _ (.ref _ _ _ (λ_=>.func (.yield l) #[] #[]) (λi hi=>?_) (λk hk=>⟨?_,?_⟩) (λk hk=>?_))
   .have:i=0:=by simpa using hi
    subst this;rfl
   .exact⟨hbY.1,by omega,by omega⟩
   .have:k=0:=by simpa using hk
    subst this;have:w5.heap[bY]?=some (.cells #[.func (.yield l) #[] #[]] tyY (0,0)):=(GL bY (by omega)).trans q3;simp[World.cell?,this]
   .have:k=0:=by simpa using hk
    subst this;exact .val _ rfl
  hR:=by
   refine .data _ _ (.ref _ _ _ (λ_=>fv) (λi hi=>?_) (λk hk=>⟨?_,?_⟩) (λk hk=>?_))
   .have:i=0:=by simpa using hi
    subst this;rfl
   .exact⟨by omega,by omega,by omega⟩
   .have:k=0:=by simpa using hk
    subst this;simp[World.cell?,TN]
   .have:k=0:=by simpa using hk
    subst this;rw[pW];exact .val _ rfl
  f9:=h9 }
 have fD:dG (λ_=>False) w w5:=by
  refine⟨?_,?_,?_,by omega,λb hb _=>(GL b (by omega)).trans (fV.block b hb)⟩
  .rw[<-tB,<-kI,<-pV];exact fV.os
  .rw[<-tB,<-kI,<-pV];exact fV.tape
  .rw[<-tB,<-kI,<-pV];exact fV.output
 have wD:aE Pr Pr w w5:=aE.jj λb k hb _=>fD.block b hb (λh=>h)
 have st:St X 0 (λb=>w.heap.size<=b/\b<bN+2) Pr [] w5:=by
  refine⟨C.fQ hJ fD λb hb=>⟨by omega,.inr hb.1⟩,λb hb=>by omega,λb hb=>⟨⟨hb.1,hb.2.1⟩,hb.2.2,rfl⟩,⟨.slice none 0 0,106,[],?_,?_,⟨rfl,.inl ⟨rfl,rfl⟩⟩,⟨λx hx=>(by cases hx),λj hj=>(by simp[bz]at hj)⟩,λb hb=>(by cases hb)⟩,Xs.mono wD λ_ _ h=>h,Vt.mono wD λ_ _ h=>h,lq.mono (aE.of_eq λb k hp=>?_)⟩
  .show w5.heap[bN]?=_;rw[SI bN (by omega),Ta bN (by omega)];exact Y9
  .show w.heap.size<=bN/\bN<bN+2;exact⟨by rw[<-PB];exact fV.size,by omega⟩
  .have aL:=fV.size
   have ao:b<bN:=by
    rcases hp with h|h<;>omega
   refine⟨⟨ao,?_⟩,GL b ao⟩;rcases hp with h|h
   .exact .inr h.2
   .exact .inl (show w.heap.size<=b/\b<bN+2/\b≠bN from⟨h.1,by omega,by omega⟩)
 have wN:=M_ hG X eP OI mC all.length 0 [] 0 _ Pr w5 [] (by omega) (Nat.le_refl _) st (by simp)
 have oR:(#[a6.eval (.const (.int .i64 0))]++#[.pointer (some ⟨bA,0,none⟩),.pointer (some ⟨bY,0,none⟩),cO,.pointer (some ⟨bN,0,none⟩),cF,.pointer (some ⟨bN+1,0,none⟩)])=#[.int .i64 ((0:Nat):Int),X.cA,X.cY,X.cO,.pointer (some ⟨X.bN,0,none⟩),X.cF,X.cR]:=by
  simp[Act.eval,X]
 rw[<-oR]at wN;have YE:a6.eval (.tmp 12)=.func (.func 123) #[] #[.pointer (some ⟨bA,0,none⟩),.pointer (some ⟨bY,0,none⟩),cO,.pointer (some ⟨bN,0,none⟩),cF,.pointer (some ⟨bN+1,0,none⟩)]:=u12.trans pW;refine gm rfl rfl (by rfl) (qJ (f:=.tmp 12) (x:=.const (.int .i64 0)) w5 rfl rfl rfl YE (by kernel_rfl)) wN ?_;rintro e w6 ⟨M',cS,kS⟩
 obtain⟨b,rfl,hv⟩:∃b:Bool,e=.returned (.bool b)/\(C.J ((ch [] all rows).map (aM out)).length M' cS w6\/C.X M' cS w6):=by
  rcases kS with⟨rfl,h⟩|⟨rfl,h⟩
  .refine⟨true,rfl,.inl ?_⟩;have:=h.j;simpa using this
  .exact⟨false,rfl,.inr h⟩
 refine⟨_,rfl,?_⟩;show bodyPost prog f121 _ .normal (a6.put (some 13) (.bool b)) w6;refine⟨by rw[zW];exact Zu,.tuple #[],?_,.tuple #[],_,_,rfl,hv⟩;simp[results,results121]
def Km:TypeDesc→Bool
  |.interface _=>true
  |_=>false
def DS {P:Program} {t:TypeId} (h:(P.underlying t).map Km=some true):∃ ms,P.underlying t=some (.interface ms):=by
  cases hi:P.underlying t with
  |none=>rw[hi]at h;cases h
  |some d =>
    rw[hi]at h
    cases d<;>first|(cases h;done)|exact⟨_,rfl⟩
def Nq (T:Nat) (v:Value) (w:World):(binOp .eql 20 (.iface T v) .nilIface).run prog w = .ok (.bool false) w:=by
  have:(Op.equal 20 (.iface T v) .nilIface).run prog w = .ok false w:=by
    obtain⟨ms,hm⟩:=DS (P:=prog) (t:=20) (by kernel_rfl);unfold Op.equal Op.maxDepth Op.equalIn;simp[run_underlying hm]
  simp[binOp,this]
def uk {a:Act} {o:Oper} {T:Nat} {v:Value} {x:Operand} (w:World) (ho:o.op = .binOp .eql 20 x (.const .nilIface) 20) (hx:a.eval x = .iface T v):(execOp a.eval o).run prog w = .ok (.value (.bool false)) w:=by
  have h0:(eqGuard .eql 20 x (.const .nilIface) (.iface T v) .nilIface).run prog w=.ok () w:=gv _ _ _ _ _ _ rfl;have hc:a.eval (.const .nilIface)=.nilIface:=rfl;simp[execOp,ho,hx,hc,h0,Nq]
def EM {bE:Nat} {u:Value} {ty:TypeId} (w:World) (hE:w.heap[bE]? = some (.cells #[u] ty (0,0))) (n:Int) :
    CallsD prog 176 #[.pointer (some ⟨bE,0,none⟩)] (.panicking [{ v := .iface 257 (.agg #[.int .i64 n]),recovered:=false }]) w fun e u' w' =>
      e=.returned (.tuple #[])/\u'=.panicking [{ v:=.iface 257 (.agg #[.int .i64 n]),recovered:=true }]/\∃w1,Below w.heap.size w w1/\w'=w1.setRow bE #[.int .i64 5]:=by
  refine callsD_of_wpS func176 rfl λBt cs hu=>?_
  apply wpS_seq;apply wpS_region;simp[wpOpsS,go_sem,recoverD,hu,ntmps176,Exit.thenS];refine wpS_of_wp ?_;refine(kQ (m:=0)).1 ?_;refine iC (λa=>a.tmps.size=14/\a.defers=[]/\a.tmps.getD 0 undef=.pointer (some ⟨bE,0,none⟩)/\a.tmps.getD 5 undef=.iface 257 (.agg #[.int .i64 n])) ⟨by simp,rfl,by simp,by simp⟩ ?_;rintro a ⟨aL,c_,h0,h5⟩;have ao:=(Array.getElem?_eq_some_iff.1 hE).1;refine wpIn_block (wpIn_seq (wpIn_region ?_));show wpOpsIn _ _ _ _ _ [0] a w;refine aT rfl rfl (by rfl) (uk (x:=.tmp 5) w rfl h5) ?_;show Code.wpIn _ _ _ _ _ (a.put (some 7) (.bool false)) w
  have h7:(a.put (some 7) (.bool false)).tmps.getD 7 undef=.bool false:=by simp[Act.put,aL]
  refine wpIn_cond (t:=false) h7 ?_;simp only[Bool.false_eq_true,if_false];refine iC (λa=>a.tmps.size=14/\a.defers=[]/\a.tmps.getD 0 undef=.pointer (some ⟨bE,0,none⟩)/\a.tmps.getD 5 undef=.iface 257 (.agg #[.int .i64 n])) ⟨by simp[Act.put,aL],c_,by simpa[Act.put,Array.getElem?_setIfInBounds_ne]using h0,by simpa[Act.put,Array.getElem?_setIfInBounds_ne]using h5⟩ ?_;clear h7 h5 h0 c_ aL a;rintro a ⟨aL,c_,h0,h5⟩
  have hS:∀ (a:Act) (w:World),a.tmps.getD 5 undef = .iface 257 (.agg #[.int .i64 n])→∀ t,t < 14→((fun t=>if t=5 then AV.iface 257 (.agg [.int .i64 n]) else AV.bj:af) t).aw=(fun t=>if t=5 then AV.iface 257 (.agg [.int .i64 n]) else AV.bj:af) t ∧
      RV (λ_ _=>True) bO w ((λt=>if t=5 then AV.iface 257 (.agg [.int .i64 n])else AV.bj:af) t) (a.tmps.getD t undef):=by
    intro a w h5 t ht
    by_cases h:t=5
    . subst h
      rw[h5];refine⟨rfl,.data _ _ (.iface _ _ _ (.agg _ _ rfl (λi hi=>?_) (λi hi cy=>?_)))⟩
      . have:i=0:=by simpa using hi
        subst this;rfl
      . have:i=0:=by simpa using hi
        subst this;exact .int _ _
    . simp only[h,if_false];exact⟨rfl,.bj _⟩
  refine wpIn_seq ?_;refine cQ (GI:=λ_=>True) (λ_ _ _ _=>trivial) bL (ac:=ae.qa c176.qb.qb.qb.qb) (W:=λt=>decide (8<=t)) (by kernel_rfl) (by kernel_rfl) (by kernel_rfl) trivial (λ_ _=>True) _ aL c_ (hS a w h5) (K:=λS' _=>S' 9=.bool true/\S' 10=.agg [.int .i64 n]) ?_ ?_
  . simp[c176,ae.qa,ae.qb,bq,aV,an,aI,aq,az,aB.S,aB.H,ev,au,aH,AV.aw]
  rintro g S' H' a' w' hg R1 ⟨h9,mZ⟩ bh;have t9:=R1.slot 9 (by decide) (λh=>h);rw[h9]at t9;have t9:=t9.fc;have t10:=R1.slot 10 (by decide) (λh=>h);rw[mZ]at t10
  have b1:Below w.heap.size w w':=by have:=R1.below;rwa [R1.base]at this
  show Code.wpIn _ _ _ _ _ a' w';refine wpIn_cond (t:=true) t9 ?_;simp only[if_true];refine wpIn_seq ?_;refine eI R1 (GI:=λ_=>True) (λ_ _ _ _=>trivial) trivial bL (ac:=ae.qa c176.qb.qb.qb.qb.qb.qa) (W:=λt=>decide (1<=t)) (by kernel_rfl) (by kernel_rfl) (by kernel_rfl) (by rw[hg];exact λ_ h=>h) (K:=λ_ _=>True) ?_ ?_
  . simp[c176,ae.qa,ae.qb,bq,aV,an,aI,aq,az,aB.S,aB.H,ev,au,aH,AV.aw,mZ,aZ,HR.okB,AV.cells,AV.storable,aQ,AV.bb,aY]
  rintro g2 S2 H2 a2 w2 lE R2 _ jh
  have b2:Below w.heap.size w w2:=by have:=R2.below;rwa [R2.base]at this
  have e0:a2.tmps.getD 0 undef=.pointer (some ⟨bE,0,none⟩):=(jh 0 rfl).trans ((bh 0 rfl).trans h0);have N1:w2.heap[bE]?=some (.cells #[u] ty (0,0)):=(b2.block bE ao).trans hE;obtain⟨i36,uW,vv⟩:=iZ 43 1;show Code.wpIn _ _ _ _ _ a2 w2;refine wpIn_region ?_;show wpOpsIn _ _ _ _ _ [0] a2 w2;refine eC rfl rfl (by rfl) (iO (x:=.tmp 0) (y:=.const (.int .i64 5)) (v:=.int .i64 5) rfl e0 uW vv N1 rfl rfl) ?_;refine⟨by show a2.defers=[];rw[R2.defers,lE,hg];rfl,_,rfl,.tuple #[],?_,rfl,rfl,w2,b2,rfl⟩;simp[results,results176]
def F9 {bE:Nat} {u:Value} {ty:TypeId} (w:World) (hE:w.heap[bE]? = some (.cells #[u] ty (0,0))) (n:List UInt8) :
    CallsD prog 176 #[.pointer (some ⟨bE,0,none⟩)] (.panicking [{ v := .iface 264 (.agg #[.string ⟨n.toArray⟩]),recovered:=false }]) w fun e u' w' =>
      e=.returned (.tuple #[])/\u'=.panicking [{ v:=.iface 264 (.agg #[.string ⟨n.toArray⟩]),recovered:=true }]/\∃w1,Below w.heap.size w w1/\w'=w1.setRow bE #[.int .i64 4]:=by
  refine callsD_of_wpS func176 rfl λBt cs hu=>?_
  apply wpS_seq;apply wpS_region;simp[wpOpsS,go_sem,recoverD,hu,ntmps176,Exit.thenS];refine wpS_of_wp ?_;refine(kQ (m:=0)).1 ?_;refine iC (λa=>a.tmps.size=14/\a.defers=[]/\a.tmps.getD 0 undef=.pointer (some ⟨bE,0,none⟩)/\a.tmps.getD 5 undef=.iface 264 (.agg #[.string ⟨n.toArray⟩])) ⟨by simp,rfl,by simp,by simp⟩ ?_;rintro a ⟨aL,c_,h0,h5⟩;have ao:=(Array.getElem?_eq_some_iff.1 hE).1;refine wpIn_block (wpIn_seq (wpIn_region ?_));show wpOpsIn _ _ _ _ _ [0] a w;refine aT rfl rfl (by rfl) (uk (x:=.tmp 5) w rfl h5) ?_;show Code.wpIn _ _ _ _ _ (a.put (some 7) (.bool false)) w
  have h7:(a.put (some 7) (.bool false)).tmps.getD 7 undef=.bool false:=by simp[Act.put,aL]
  refine wpIn_cond (t:=false) h7 ?_;simp only[Bool.false_eq_true,if_false];refine iC (λa=>a.tmps.size=14/\a.defers=[]/\a.tmps.getD 0 undef=.pointer (some ⟨bE,0,none⟩)/\a.tmps.getD 5 undef=.iface 264 (.agg #[.string ⟨n.toArray⟩])) ⟨by simp[Act.put,aL],c_,by simpa[Act.put,Array.getElem?_setIfInBounds_ne]using h0,by simpa[Act.put,Array.getElem?_setIfInBounds_ne]using h5⟩ ?_;clear h7 h5 h0 c_ aL a;rintro a ⟨aL,c_,h0,h5⟩
  have hS:∀ (a:Act) (w:World),a.tmps.getD 5 undef = .iface 264 (.agg #[.string ⟨n.toArray⟩])→∀ t,t < 14→((fun t=>if t=5 then AV.iface 264 (.agg [.str n]) else AV.bj:af) t).aw=(fun t=>if t=5 then AV.iface 264 (.agg [.str n]) else AV.bj:af) t ∧
      RV (λ_ _=>True) bO w ((λt=>if t=5 then AV.iface 264 (.agg [.str n])else AV.bj:af) t) (a.tmps.getD t undef):=by
    intro a w h5 t ht
    by_cases h:t=5
    . subst h
      rw[h5];refine⟨rfl,.data _ _ (.iface _ _ _ (.agg _ _ rfl (λi hi=>?_) (λi hi cy=>?_)))⟩
      . have:i=0:=by simpa using hi
        subst this;rfl
      . have:i=0:=by simpa using hi
        subst this;exact .str _
    . simp only[h,if_false];exact⟨rfl,.bj _⟩
  refine wpIn_seq ?_;refine cQ (GI:=λ_=>True) (λ_ _ _ _=>trivial) bL (ac:=ae.qa c176.qb.qb.qb.qb) (W:=λt=>decide (8<=t)) (by kernel_rfl) (by kernel_rfl) (by kernel_rfl) trivial (λ_ _=>True) _ aL c_ (hS a w h5) (K:=λS' _=>S' 9=.bool false/\S' 5=.iface 264 (.agg [.str n])) ?_ ?_
  . simp[c176,ae.qa,ae.qb,bq,aV,an,aI,aq,az,aB.S,aB.H,ev,au,aH,AV.aw]
  rintro g0 S0 H0 a0 w0' Zm R0 ⟨h90,h50⟩ Rp;have t90:=R0.slot 9 (by decide) (λh=>h);rw[h90]at t90;have t90:=t90.fc;show Code.wpIn _ _ _ _ _ a0 w0';refine wpIn_cond (t:=false) t90 ?_;simp only[Bool.false_eq_true,if_false];refine wpIn_seq ?_;refine eI R0 (GI:=λ_=>True) (λ_ _ _ _=>trivial) trivial bL (ac:=ae.qa c176.qb.qb.qb.qb.qb.qb) (W:=λt=>decide (8<=t)) (by kernel_rfl) (by kernel_rfl) (by kernel_rfl) (by rw[Zm];exact λ_ h=>h) (K:=λS' _=>S' 12=.bool true/\S' 13=.agg [.str n]) ?_ ?_
  . simp[c176,ae.qa,ae.qb,bq,aV,an,aI,aq,az,aB.S,aB.H,ev,au,aH,AV.aw,h50]
  rintro g S' H' a' w' hg R1 ⟨h9,mZ⟩ Qv;have bh:=Rp.trans Qv;rw[Zm]at hg;have t9:=R1.slot 12 (by decide) (λh=>h);rw[h9]at t9;have t9:=t9.fc;have t10:=R1.slot 13 (by decide) (λh=>h);rw[mZ]at t10
  have b1:Below w.heap.size w w':=by have:=R1.below;rwa [R1.base]at this
  show Code.wpIn _ _ _ _ _ a' w';refine wpIn_cond (t:=true) t9 ?_;simp only[if_true];refine wpIn_seq ?_;refine eI R1 (GI:=λ_=>True) (λ_ _ _ _=>trivial) trivial bL (ac:=ae.qa c176.qb.qb.qb.qb.qb.qb.qb.qa) (W:=λt=>decide (1<=t)) (by kernel_rfl) (by kernel_rfl) (by kernel_rfl) (by rw[hg];exact λ_ h=>h) (K:=λ_ _=>True) ?_ ?_
  . simp[c176,ae.qa,ae.qb,bq,aV,an,aI,aq,az,aB.S,aB.H,ev,au,aH,AV.aw,mZ,aZ,HR.okB,AV.cells,AV.storable,aQ,AV.bb,aY]
  rintro g2 S2 H2 a2 w2 lE R2 _ jh
  have b2:Below w.heap.size w w2:=by have:=R2.below;rwa [R2.base]at this
  have e0:a2.tmps.getD 0 undef=.pointer (some ⟨bE,0,none⟩):=(jh 0 rfl).trans ((bh 0 rfl).trans h0);have N1:w2.heap[bE]?=some (.cells #[u] ty (0,0)):=(b2.block bE ao).trans hE;obtain⟨i36,uW,vv⟩:=iZ 43 1;show Code.wpIn _ _ _ _ _ a2 w2;refine wpIn_region ?_;show wpOpsIn _ _ _ _ _ [0] a2 w2;refine eC rfl rfl (by rfl) (iO (x:=.tmp 0) (y:=.const (.int .i64 4)) (v:=.int .i64 4) rfl e0 uW vv N1 rfl rfl) ?_;refine⟨by show a2.defers=[];rw[R2.defers,lE,hg];rfl,_,rfl,.tuple #[],?_,rfl,rfl,w2,b2,rfl⟩;simp[results,results176]
def FH (p:Addr) (w:World) :
    CallsD prog 176 #[.pointer (some p)] .returning w λe u' w'=>e=.returned (.tuple #[])/\u'=.returning/\w'=w:=by
  refine callsD_of_wpS func176 rfl λBt cs hu=>?_
  apply wpS_seq;apply wpS_region;simp[wpOpsS,go_sem,recoverD,hu,ntmps176,Exit.thenS];refine wpS_of_wp ?_
  go_wp2
  cases Bt
  simp_all[bodyPostS,results,results176]
def pk {P:Program} {a:Act} {o:Oper} {cl:Call} {f:Operand} {k:Nat} {cap:Array Value} (w:World) (ho:o.op = .call cl) (hc:cl.callee = .value f) (ha:cl.args = #[]) (hf:a.eval f = .func (.func k) #[] cap) (hk:dW P k=true) :
    (execOp a.eval o).run P w=.ok (.enter k cap) w:=by
  unfold execOp;simp[ho,dX hc,hf,Deferred.ofValue,invoke,ha,eV hk]
def run_move {P:Program} {a:Act} {o:Oper} {x:Operand} (w:World) (ho:o.op = .move x):(execOp a.eval o).run P w = .ok (.value (a.eval x)) w:=by
  unfold execOp;simp only[ho]
  rfl
def JG{w:World}{b:Nat}{v u:Value}{ty:TypeId}(h:w.heap[b]?=some (.cells #[u] ty (0,0))):(w.setRow b #[v]).heap[b]?=some (.cells #[v] ty (0,0)):=setRow_heap w b _ _ _ _ h
def Jr {a:Act} {w:World} {b:Nat} {v:Value} {ty:TypeId} (h2:a.tmps.getD 2 undef = .pointer (some ⟨b,0,none⟩)) (h:w.heap[b]? = some (.cells #[v] ty (0,0))):(results f169 a.tmps).run prog w = .ok v w:=by
  obtain⟨d,Bl,p6⟩:=vZ 43
  have kY:(isAgg 43).run prog w = .ok false w:=by
    unfold isAgg;rw[Sem.run_bind,run_underlying Bl w]
    cases d<;>simp_all[fE]
  have hl:(loadVar 43 ⟨b,0,none⟩).run prog w = .ok v w:=by
    simp[loadVar,Sem.run_bind,kY,World.cell?,h]
  have hr:f169.results=#[.cell 2 43]:=rfl
  have Ih:a.tmps[2]?.getD undef=.pointer (some ⟨b,0,none⟩):=by rw[<-h2];simp
  simp[results,hr,Ih,asAddr,hl]
def Av {k:Nat} {us:Array Value} {w:World} {R1 R:Ending→World→Prop} (mw:dW prog k=true) (hc:Calls prog k us (w.alloc (.cells #[.int .i64 0] 43)) R1)
    (h:∀ e w2,R1 e w2→w.heap.size < w2.heap.size∧(∃ u ty,w2.heap[w.heap.size]? = some (.cells #[u] ty (0,0))) ∧
      ((∃c,e=.returned c/\R (.returned (.int .i64 0)) (w2.setRow w.heap.size #[.int .i64 0]))\/
       (∃n,e=.panicked [{ v:=.iface 257 (.agg #[.int .i64 n]),recovered:=false }]/\∀w3,Below w2.heap.size w2 w3->R (.returned (.int .i64 5)) (w3.setRow w.heap.size #[.int .i64 5]))\/
       (∃s:List UInt8,e=.panicked [{ v:=.iface 264 (.agg #[.string ⟨s.toArray⟩]),recovered:=false }]/\∀w3,Below w2.heap.size w2 w3->R (.returned (.int .i64 4)) (w3.setRow w.heap.size #[.int .i64 4])))):
    Calls prog 169 #[.func (.func k) #[] us] w R:=by
  refine calls_of_wp_defers func169 rfl ?_;refine(kQ (m:=0)).1 ?_;refine iC (λa=>a.tmps.size=6/\a.defers=[]/\a.tmps.getD 0 undef=.func (.func k) #[] us) ⟨by simp[ntmps169],rfl,dP _ _ 0 (by simp)⟩ ?_;rintro a ⟨aL,c_,h0⟩
  obtain⟨bE,hbE⟩:∃bE,w.heap.size=bE:=⟨_,rfl⟩
  have df:∀ (a:Act) (d t:Nat) (c:Value),t≠d→(a.put (some d) c).tmps.getD t undef=a.tmps.getD t undef:=fun a d t c h=>by
    simp[Act.put,Array.getElem?_setIfInBounds_ne (Ne.symm h)]
  have gq:∀ (a:Act) (d:Nat) (c:Value),a.tmps.size=6→d < 6→(a.put (some d) c).tmps.getD d undef=c:=fun a d c h hd=>by
    simp[Act.put,h,hd]
  have gE:∀(a:Act)(d:Option Nat)(c:Value),(a.put d c).tmps.size=a.tmps.size:=λa d c=>by cases d<;>simp[Act.put]
  refine wpIn_seq (wpIn_region ?_);show wpOpsIn _ _ _ _ _ [0] a w;refine aT rfl rfl (by rfl) (jz (t:=43) (z:=.int .i64 0) rfl (by kernel_rfl)) ?_;show Code.wpIn _ _ _ _ _ (a.put (some 2) (.pointer (some ⟨w.heap.size,0,none⟩))) (w.alloc (.cells #[.int .i64 0] 43));rw[hbE]at h;simp only[hbE]
  obtain⟨w1,n_⟩:∃w1,w.alloc (.cells #[.int .i64 0] 43)=w1:=⟨_,rfl⟩
  rw[n_]at hc⊢;refine iC (λa=>a.tmps.size=6/\a.defers=[]/\a.tmps.getD 0 undef=.func (.func k) #[] us/\a.tmps.getD 2 undef=.pointer (some ⟨bE,0,none⟩)) ⟨by rw[gE];exact aL,c_,by rw[df _ _ _ _ (by decide)];exact h0,gq _ _ _ aL (by decide)⟩ ?_;clear h0 c_ aL a;rintro a ⟨aL,c_,h0,h2⟩;refine wpIn_seq (wpIn_region ?_);show wpOpsIn _ _ _ _ _ [0,1] a w1;refine aT rfl rfl (by rfl) (pO (fn:=.func 176) (c:=#[.tmp 2]) rfl) ?_
  have eu:(#[Operand.tmp 2].map a.eval) = #[.pointer (some ⟨bE,0,none⟩)]:=by
    simp only[List.map_toArray,List.map_cons,List.map_nil,Act.eval];rw[h2]
  rw[eu];show wpOpsIn _ _ _ _ _ [1] (a.put (some 3) (.func (.func 176) #[] #[.pointer (some ⟨bE,0,none⟩)])) w1
  obtain⟨a2,jo⟩:∃a2,a.put (some 3) (.func (.func 176) #[] #[.pointer (some ⟨bE,0,none⟩)])=a2:=⟨_,rfl⟩
  rw[jo]
  have z2:a2.tmps.size=6:=by rw[<-jo,gE];exact aL
  have u3:a2.tmps.getD 3 undef=.func (.func 176) #[] #[.pointer (some ⟨bE,0,none⟩)]:=by rw[<-jo];exact gq _ _ _ aL (by decide)
  have u0:a2.tmps.getD 0 undef=.func (.func k) #[] us:=by rw[<-jo,df _ _ _ _ (by decide)];exact h0
  have u2:a2.tmps.getD 2 undef=.pointer (some ⟨bE,0,none⟩):=by rw[<-jo,df _ _ _ _ (by decide)];exact h2
  have ud:a2.defers=[]:=by rw[<-jo];exact c_
  refine wR rfl rfl (d:={ target:=.fn (.func 176) #[.pointer (some ⟨bE,0,none⟩)],args:=#[] }) (w':=w1) ?_ ?_
  . unfold execOp
    simp[dX,Deferred.ofValue,Act.eval,u3]
  have MO:∀ (w:World),(invoke (.fn (.func 176) #[.pointer (some ⟨bE,0,none⟩)]) #[]).run prog w = .ok (.enter 176 #[.pointer (some ⟨bE,0,none⟩)]) w:=fun w=>by
    simp[invoke,eV (P:=prog) (f:=176) (by kernel_rfl)]
  show Code.wpIn _ _ _ _ _ { a2 with defers:={ target:=.fn (.func 176) #[.pointer (some ⟨bE,0,none⟩)],args:=#[] }::a2.defers } w1;refine iC (λa=>a.tmps.size=6/\a.defers=[{ target:=.fn (.func 176) #[.pointer (some ⟨bE,0,none⟩)],args:=#[] }]/\a.tmps.getD 0 undef=.func (.func k) #[] us/\a.tmps.getD 2 undef=.pointer (some ⟨bE,0,none⟩)) ⟨z2,by show _::a2.defers=_;rw[ud],u0,u2⟩ ?_;clear u0 u2 u3 ud z2 jo a2 h0 h2 c_ aL eu a;rintro a ⟨aL,c_,h0,h2⟩;refine wpIn_seq (wpIn_region ?_);show wpOpsIn _ _ _ _ _ [0,1] a w1;refine aT rfl rfl (by rfl) (run_move (x:=.tmp 0) w1 rfl) ?_;have e0:a.eval (.tmp 0)=.func (.func k) #[] us:=h0;rw[e0];show wpOpsIn _ _ _ _ _ [1] (a.put (some 4) (.func (.func k) #[] us)) w1
  obtain⟨a2,jo⟩:∃a2,a.put (some 4) (.func (.func k) #[] us)=a2:=⟨_,rfl⟩
  rw[jo]
  have z2:a2.tmps.size=6:=by rw[<-jo,gE];exact aL
  have u4:a2.eval (.tmp 4)=.func (.func k) #[] us:=by show a2.tmps.getD 4 undef=_;rw[<-jo];exact gq _ _ _ aL (by decide)
  have u2:a2.tmps.getD 2 undef=.pointer (some ⟨bE,0,none⟩):=by rw[<-jo,df _ _ _ _ (by decide)];exact h2
  have ud:a2.defers=[{ target:=.fn (.func 176) #[.pointer (some ⟨bE,0,none⟩)],args:=#[] }]:=by rw[<-jo];exact c_
  refine xp rfl rfl (by rfl) (pk (f:=.tmp 4) w1 rfl rfl rfl u4 mw) hc ?_;intro e w2 he;obtain⟨ao,⟨uE,tyE,hE⟩,mf⟩:=h e w2 he
  have yZ:∀ {args:Array Value} {u:FrameMode} {w:World} {R R':Ending→FrameMode→World→Prop},CallsD prog 176 args u w R→(∀ e u w,R e u w→R' e u w)→CallsD prog 176 args u w R':=fun h hr c cs hu =>
    let⟨e,u',w',fr,r,rest⟩:=h c cs hu;⟨e,u',w',fr,hr _ _ _ r,rest⟩
  have JQ:∀ (p:PanicEntry) (v:Value) (hv:CallsD prog 176 #[.pointer (some ⟨bE,0,none⟩)] (.panicking [p]) w2 fun e u' w'=>e = .returned (.tuple #[])∧u' = .panicking [{ p with recovered:=true }]∧∃ w1,Below w2.heap.size w2 w1∧w'=w1.setRow bE #[v]),
      p.goexit=false->(∀w3,Below w2.heap.size w2 w3->R (.returned v) (w3.setRow bE #[v]))->Leaves prog f169 a2.tmps R a2.defers (.panicking [p]) w2:=by
    intro p v hv ly hR;rw[ud];refine leaves_cons (by simp) (MO w2) (yZ hv ?_);rintro e u' w' ⟨rfl,rfl,w3,uu,rfl⟩;have Vl:w3.heap[bE]?=some (.cells #[uE] tyE (0,0)):=(uu.block bE ao).trans hE;show Leaves prog f169 a2.tmps R [] .returning (w3.setRow bE #[v]);exact⟨v,Jr u2 (JG Vl),hR w3 uu⟩
  rcases mf with⟨c,rfl,hR⟩|⟨n,rfl,hR⟩|⟨s,rfl,hR⟩
  . show Code.wpIn _ _ _ _ _ (a2.put (some 5) c) w2
    have YX:(a2.put (some 5) c).tmps.getD 2 undef=.pointer (some ⟨bE,0,none⟩):=by rw[df _ _ _ _ (by decide)];exact u2
    refine wpIn_seq (wpIn_region ?_);show wpOpsIn _ _ _ _ _ [0] (a2.put (some 5) c) w2;obtain⟨i36,uW,vv⟩:=iZ 43 1;refine eC rfl rfl (by rfl) (iO (x:=.tmp 2) (y:=.const (.int .i64 0)) (v:=.int .i64 0) rfl YX uW vv hE rfl rfl) ?_;show Code.wpIn _ _ _ _ _ (a2.put (some 5) c) (w2.setRow bE #[.int .i64 0]);refine wpIn_ret ?_;show Leaves prog f169 (a2.put (some 5) c).tmps R a2.defers .returning (w2.setRow bE #[.int .i64 0]);rw[ud];refine leaves_cons (by simp) (MO _) (yZ (FH _ _) ?_);rintro e u' w' ⟨rfl,rfl,rfl⟩;exact⟨_,Jr YX (JG hE),hR⟩
  . exact JQ _ _ (EM w2 hE n) rfl hR
  . exact JQ _ _ (F9 w2 hE s) rfl hR
def Pa (hG:av GI) {k:Nat} {caps:List AV} {out:jn} {r:Int} (mw:dW prog k=true) (V6:AC prog GI k caps out)
    (mC:(∃v,out=.ret v/\r=0)\/(∃n,out=.panic (.iface 257 (.agg [.int .i64 n]))/\r=5)\/(∃s,out=.panic (.iface 264 (.agg [.str s]))/\r=4)):
    AC prog GI 169 [.func (.func k) [] caps] (.ret (.int .i64 r)):=by
  intro w old a_ lg hlen hr;obtain⟨fv,rfl⟩:∃fv,a_=#[fv]:=j9 (by simpa using hlen.symm);have h0:=hr 0 (by simp) (by simp);simp only[List.getElem_cons_zero,List.getElem_toArray]at h0
  obtain ⟨us,rfl,hl,AS⟩:∃ us:Array Value,fv = .func (.func k) #[] us∧caps.length=us.size∧∀ i (h:i < caps.length) (h':i < us.size),RV old (fun _=>none) w caps[i] us[i]:=by
    cases h0 with
    |data _ _ h=>cases h
    |func _ _ _ vs us h1 h2 r1 r2 =>
      have:vs=#[]:=Array.eq_empty_of_size_eq_zero (by simpa using h1.symm);subst this;exact⟨us,rfl,h2,r2⟩
  have mR:Below w.heap.size w (w.alloc (.cells #[.int .i64 0] 43)):=(Below.refl _ _).alloc (Nat.le_refl _) _
  have hk:aE old old w (w.alloc (.cells #[.int .i64 0] 43)):=aE.gr (λb h=>mR.block b h) λ_ _ _ h=>h
  have hN:(w.alloc (.cells #[.int .i64 0] 43)).heap[w.heap.size]?=some (.cells #[.int .i64 0] 43 (0,0)):=World.alloc_heap_new w _;refine Av mw (V6 (w.alloc (.cells #[.int .i64 0] 43)) old us (hG _ _ lg mR) hl (λi h h'=>(AS i h h').mono hk λ_ _ h=>h)) ?_;rintro e w2 ⟨iw,hi,tw,mf⟩
  have Tj:w.heap.size<w2.heap.size:=by have:=iw.size;simp at this;omega
  have N1:w2.heap[w.heap.size]?=some (.cells #[.int .i64 0] 43 (0,0)):=(iw.block _ (by simp)).trans hN;refine⟨Tj,⟨_,_,N1⟩,?_⟩
  have fin:∀ (w3:World) (r:Int),Below w2.heap.size w2 w3→AL.Ends prog old w (.ret (.int .i64 r)) (.returned (.int .i64 r)) (w3.setRow w.heap.size #[.int .i64 r]):=by
    intro w3 r uu
    have fV:Below w.heap.size w w3:=by
      have h1:=mR.trans (iw.mono (by simp));exact h1.trans (uu.mono (by omega))
    refine⟨⟨fV.os,fV.tape,fV.output,by simpa using fV.size,λb hb=>(setRow_other w3 _ b _ (by omega)).trans (fV.block b hb)⟩,λ_=>0,λ_ _=>rfl,_,rfl,.data _ _ (.int _ _),trivial⟩
  rcases mC with⟨v,rfl,rfl⟩|⟨n,rfl,rfl⟩|⟨s,rfl,rfl⟩
  . obtain ⟨c,rfl,_,_⟩:=mf
    exact .inl ⟨c,rfl,fin w2 0 (Below.refl _ _)⟩
  . obtain ⟨c,rfl,hc⟩:=mf
    obtain rfl:c = .iface 257 (.agg #[.int .i64 n]):=by
      cases hc with
      |iface _ _ c h =>
        cases h with
        |agg _ vs hl h1 hr =>
          obtain⟨u,rfl⟩:=j9 (vs:=vs) (by rw[<-hl];rfl);have:=hr 0 (by simp) (by simp);have:=(RV.data (al:=bO) _ _ this).int_eq;simp only[List.getElem_toArray,List.getElem_cons_zero]at this;rw[this]
    exact .inr (.inl ⟨n,rfl,λw3 h3=>fin w3 5 h3⟩)
  . obtain ⟨c,rfl,hc⟩:=mf
    obtain rfl:c = .iface 264 (.agg #[.string ⟨s.toArray⟩]):=by
      cases hc with
      |iface _ _ c h =>
        cases h with
        |agg _ vs hl h1 hr =>
          obtain⟨u,rfl⟩:=j9 (vs:=vs) (by rw[<-hl];rfl);have:=hr 0 (by simp) (by simp);simp only[List.getElem_toArray,List.getElem_cons_zero]at this;cases this;rfl
    exact .inr (.inr ⟨s,rfl,λw3 h3=>fin w3 4 h3⟩)
def sdZ{GI:World->Prop}(hG:av GI){n:Nat}{ro:Option Nat}{Q:gy}{old:Old}{S:af}{H:ah}{x y:Code}(ac:ae)(bC:∀d∈ac.names,¬old.bx d)(K:af->ah->Prop)(h:bq prog GI ac (az K) S H)(hy:∀S' H',K S' H'->SW prog GI n ro y Q old S' H')(hc:iW x=true:=by kernel_rfl)(ja:cE prog n x=ac:=by kernel_rfl):SW prog GI n ro (.seq x y) Q old S H:=SW.cut hG bL hc ja bC K h hy
def eD{GI:World->Prop}(hG:av GI){n:Nat}{ro:Option Nat}{Q:gy}{old:Old}{S:af}{H:ah}{x y:Code}(ac:ae)(K:af->ah->Prop)(h:bq prog GI ac (az K) S H)(hy:∀S' H',K S' H'->SW prog GI n ro y Q old S' H')(bC:∀d∈ac.names,¬old.bx d:=by exact λ_ _ h=>h)(hc:iW x=true:=by kernel_rfl)(ja:cE prog n x=ac:=by kernel_rfl):SW prog GI n ro (.seq x y) Q old S H:=SW.cut hG bL hc ja bC K h hy
def gK:AV.aw∘AV.aw=AV.aw:=by funext v;exact AV.idem v
def E3:AV.bV∘AV.bV=AV.bV:=by funext v;cases v<;>rfl
def NW(hG:av GI){fA:List AV}{out:List Int}(hl:fA.length=11):AC prog GI 49 [.agg fA,vI out] (.ret (.func (.func 121) [] [.ref (fA.map AV.bV),.ref [vI out]])):=by
 refine AC.vQ hG bL func49 rfl ntmps49 (by simp) (ac:=c49) (by kernel_rfl) ?_;simp[c49,bq,aV,an,aI,aq,ct,ev,aB.S,aB.H,au,aH,AL.start,AV.aw,AV.cells,AV.storable,hl,aZ,h_,aY,vI];refine⟨4,.func 121,[],[.box 2 0,.box 3 0],rfl,by decide,by simp[au],?_⟩;simp[au,fz,fG,AV.bV,l_]
def CY(out:List Int)(l:List (List End)):AV:=.slice (if l.isEmpty then .nil else .own 108) (l.map (aM out))
def Di(out:List Int)(l:List (List End)):AV:=.slice (if l.isEmpty then .nil else .view) (l.map (aM out))
def Ya (hG:av GI) {fA:List AV} {out:List Int} {sets:List (List End)} {p:List End→Bool} (hl:fA.length=11) (gx:∀ x∈fA,x.one=true) (hlen:sets.length≤100000) (aL:∀ es∈sets,es.length < 1000)
  (mh:mN prog GI 121 [.ref (fA.map AV.bV),.ref [vI out]] (sets.map (aM out))) (Je:∀es∈sets,AC prog GI 138 [.agg (fA.map AV.bV),aM out es,.int .i64 0] (.ret (.bool (p es)))):
  AC prog GI 96 [.agg fA,vI out] (.ret (Di out (sets.filter p))):=by
 refine AC.kP func96 rfl ntmps96 (by simp) λcc w=>?_
 refine eD hG c96.qa (λS' H'=>S' 1=vI out/\S' 2=.box 2 0/\H' 2=some (fA.map AV.aw)) ?_ ?_
 .simp[c96,ae.qa,bq,aV,an,aI,aq,ev,aB.S,aB.H,au,aH,AL.start,AV.aw,AV.cells,AV.storable,hl,aZ,aY,vI,az]
 rintro S1 H1 ⟨s1,s2,h2⟩;refine eD hG c96.qb.qa (λS' H'=>S' 1=vI out/\S' 2=.box 2 0/\S' 5=.box 5 0/\H' 2=some (fA.map AV.aw)/\H' 5=some [.slice .nil []]) ?_ ?_
 .simp[c96,ae.qa,ae.qb,bq,aV,an,aI,au,aZ,vI,az,s1,s2,h2]
 rintro S2 H2 ⟨s1,s2,s5,h2,h5⟩;refine SW.seq (eD hG c96.qb.qb.qa.qa (λS' H'=>S' 2=.box 2 0/\S' 5=.box 5 0/\S' 9=.func (.func 121) [] [.ref (fA.map AV.bV),.ref [vI out]]/\H' 2=some (fA.map AV.aw)/\H' 5=some [.slice .nil []]) ?_ ?_)
 .have e7:fz H2 (.agg (fA.map AV.aw))=.agg (fA.map AV.bV):=by simp only[fz,fG,AV.vw,List.map_map,l_]
  have xI:=NW hG (fA:=fA.map AV.bV) (out:=out) (GI:=GI) (by simpa using hl);simp only[List.map_map,E3]at xI;simp[c96,ae.qa,ae.qb,bq,aV,an,aI,aq,ev,aB.S,aB.H,au,aH,aP,s1,s2,s5,h2,h5,az,jk,hl,HR.okB,gK];have ht:List.take 11 (List.map AV.aw fA)=fA.map AV.aw:=List.take_of_length_le (by simp;omega);rw[ht,e7];refine⟨by kernel_rfl,_,xI,by simp[bR,vI,AV.aw],?_⟩;simp[g_,au,s2,s5,h2,h5]
 rintro S3 H3 ⟨s2,s5,s9,h2,h5⟩
 refine SW.block (SW.range hG bL (Eg:=.tmp 9) (y:=.t 9) (p:=10) (f:=121) (caps:=[.ref (fA.map AV.bV),.ref [vI out]]) (xs:=sets.map (aM out)) rfl s9 (by kernel_rfl) rfl mh (by decide) (λx hx=>by obtain⟨e,_,rfl⟩:=List.mem_map.1 hx;rfl)
  (λd=>d==6) (aa:=.ops [⟨(some 6),none,.alloc 108 [(.slice .nil []),(.slice .nil [])]⟩,⟨none,none,.store .any 2 (.t 6) (.t 10)⟩]) (ab:=.block 1 (.seq (.ops [⟨some 11,none,.load .any true 11 (.t 2)⟩,⟨some 12,none,.load .any true 2 (.t 6)⟩,⟨some 13,none,.call 138 [(.t 11),(.t 12),(.c (.int .i64 0))]⟩]) (.cond (.t 13) (.ops [⟨some 14,none,.loadT .any (.t 5)⟩,⟨some 15,none,.load .any true 2 (.t 6)⟩,⟨some 16,none,.buildSlice 180 108 2 [(.t 15)]⟩,⟨some 17,none,.append 180 108 2 48 (.t 14) (.t 16)⟩,⟨none,none,.store .any 1 (.t 5) (.t 17)⟩]) .skip)))
  (by kernel_rfl) (by kernel_rfl) (by simp[ae.names,bc.fP,eb.fP]) (by simp[ae.names,bc.fP,eb.fP]) (λ_ _ h=>h) (by kernel_rfl) (by kernel_rfl)
  (λk H'=>H' 2=some (fA.map AV.aw)/\H' 5=some [CY out ((sets.take k).filter p)]) (λ_ _=>False) ⟨h2,h5⟩ ?_ ?_ ?_)
 .rintro k hk H' ⟨h2,h5⟩
  have eG:k<sets.length:=by simpa using hk
  have sQ:(sets.map (aM out))[k]=aM out sets[k]:=by simp
  have hf:=Je sets[k] (List.getElem_mem eG)
  have kW:sets.take (k+1)=sets.take k++[sets[k]]:=by rw[List.take_succ_eq_append_getElem eG]
  have e7:∀H,fz H (.agg (fA.map AV.aw))=.agg (fA.map AV.bV):=λH=>by simp only[fz,fG,AV.vw,List.map_map,l_]
  have e8:∀H,fz H (.agg [.slice .view (ints out),.slice .view (bz sets[k])])=aM out sets[k]:=λH=>rfl
  have e9:∀H,fz H (.int .i64 0)=.int .i64 0:=λH=>rfl
  have ht:List.take 11 (List.map AV.aw fA)=fA.map AV.aw:=List.take_of_length_le (by simp;omega)
  have En:lW (λd=>d==6) (S3 2)=.box 2 0:=by rw[s2];rfl
  have kH:lW (λd=>d==6) (S3 5)=.box 5 0:=by rw[s5];rfl
  rw[sQ,kW,List.filter_append];simp[bq,aV,an,aI,aq,ev,aB.S,aB.H,au,aH,az,aZ,En,kH,h2,h5,HR.okB,aM,AV.cells,AV.storable,AV.aw,aQ,AV.bb,aY,ct,cb,aP,gK,ht,jk,hl,e7,e8,e9];refine⟨by kernel_rfl,_,hf,by simp[bR],?_⟩;have hL:(List.filter p (List.take k sets)).length<=100000:=Nat.le_trans (List.length_filter_le _ _) (by simp;omega);generalize List.filter p (List.take k sets)=L at hL h5⊢
  have bo:aC 2 (L.map (aM out))=true:=by simp[aC,aM,AV.storable,AV.cells]
  cases hp:p sets[k]with
  |false=>simp[g_,jb,h2,h5,hp,au]
  |true=>
   cases L with
   |nil=>simp[g_,jb,hp,aC,AV.storable,AV.cells,AV.vw,AV.bV,CY,AV.aw,HR.okB,au,aQ,AV.bb,aM,kH,h2]
   |cons x L=>
    have j1:L.length+1+1<1048576:=by simp at hL;omega
    simp[g_,jb,hp,aC,AV.storable,AV.cells,AV.vw,AV.bV,CY,AV.aw,HR.okB,au,aQ,AV.bb,aM,kH,j1,h2]
 .rintro D H' hD ⟨h2,h5⟩;show SW prog GI 19 none (.seq _ .ret) _ _ _ _
  have kH:lW (λd=>d==6) (S3 5)=.box 5 0:=by rw[s5];rfl
  have kW:List.take (sets.map (aM out)).length sets=sets:=List.take_of_length_le (by simp);rw[kW]at h5;refine eD hG c96.qb.qb.qb.qa (λS' _=>S' 4=Di out (sets.filter p)) ?_ ?_
  .generalize sets.filter p=L at h5⊢
   cases L<;>simp[c96,ae.qa,ae.qb,bq,aV,an,aI,aq,ev,aB.S,aB.H,au,aH,aP,kH,h5,HR.okB,az,CY,Di,AV.aw,aY]
  intro S4 H4 s4;refine SW.ret ⟨(fq.plain rfl).mark hD,rfl,_,?_,rfl⟩;show cU prog 19 [.tmp 4] S4 H4=_;simp[cU,cL,cI,s4,Di,AV.bu,AV.out]
 .exact λ_ _ _ _ _ h=>h.elim
def aal (hG:av GI) {fA:List AV} {out:List Int} {sets:List (List End)} {p:List End→Bool} (hl:fA.length=11)
  (mh:mN prog GI 121 [.ref (fA.map AV.bV),.ref [vI out]] (sets.map (aM out))) (Je:∀es∈sets,AC prog GI 138 [.agg (fA.map AV.bV),aM out es,.int .i64 0] (.ret (.bool (p es)))):
  AC prog GI 66 [.agg fA,vI out] (.ret (.bool (sets.any p))):=by
 refine AC.kP func66 rfl ntmps66 (by simp) λcc w=>?_
 refine eD hG c66.qa (λS' H'=>S' 1=vI out/\S' 2=.box 2 0/\H' 2=some (fA.map AV.aw)) ?_ ?_
 .simp[c66,ae.qa,bq,aV,an,aI,aq,ev,aB.S,aB.H,au,aH,AL.start,AV.aw,AV.cells,AV.storable,hl,aZ,aY,vI,az]
 rintro S1 H1 ⟨s1,s2,h2⟩;refine SW.scope (eD hG (.ops [⟨some 5,none,.alloc 4 [.bool false]⟩,⟨none,none,.store .any 1 (.t 5) (.c (.bool false))⟩]) (λS' H'=>S' 1=vI out/\S' 2=.box 2 0/\S' 5=.box 5 0/\H' 2=some (fA.map AV.aw)/\H' 5=some [.bool false]) ?_ ?_)
 .simp[bq,aV,an,aI,au,aZ,vI,az,s1,s2,h2,aq,ev,aB.S,aB.H,HR.okB,AV.cells,AV.storable,aQ,AV.bb,aY,aH]
 rintro S2 H2 ⟨s1,s2,s5,h2,h5⟩;refine SW.seq (SW.label ?_);show SW prog GI 15 none (.seq (.seq _ (.block _ _)) _) _ _ _ _;refine SW.seq (eD hG (.ops [⟨some 7,none,.load .any true 11 (.t 2)⟩,⟨some 8,none,.mv false (.t 1)⟩,⟨some 9,none,.call 49 [(.t 7),(.t 8)]⟩]) (λS' H'=>S' 2=.box 2 0/\S' 5=.box 5 0/\S' 9=.func (.func 121) [] [.ref (fA.map AV.bV),.ref [vI out]]/\H' 2=some (fA.map AV.aw)/\H' 5=some [.bool false]) ?_ ?_)
 .have e7:fz H2 (.agg (fA.map AV.aw))=.agg (fA.map AV.bV):=by simp only[fz,fG,AV.vw,List.map_map,l_]
  have xI:=NW hG (fA:=fA.map AV.bV) (out:=out) (GI:=GI) (by simpa using hl);simp only[List.map_map,E3]at xI;simp[bq,aV,an,aI,aq,ev,aB.S,aB.H,au,aH,aP,s1,s2,s5,h2,h5,az,jk,hl,HR.okB,gK];have ht:List.take 11 (List.map AV.aw fA)=fA.map AV.aw:=List.take_of_length_le (by simp;omega);rw[ht,e7];refine⟨by kernel_rfl,_,xI,by simp[bR,vI,AV.aw],?_⟩;simp[g_,au,s2,s5,h2,h5]
 rintro S3 H3 ⟨s2,s5,s9,h2,h5⟩
 have En:lW (λd=>d==6) (S3 2)=.box 2 0:=by rw[s2];rfl
 have kH:lW (λd=>d==6) (S3 5)=.box 5 0:=by rw[s5];rfl
 have rest:∀ (D:Nat) (H':ah) (r:Bool),(Old.plain cc w).keep D=none->H' 5=some [.bool r]->r=sets.any p->SW prog GI 15 none (.seq (Code.region 6 #[{ dst:=some 14,op := .load 4 (.tmp 5),type:=4,pos := "name.go:54",after := #[],guard:=none },{ dst:=some 4,op := .assign (.tmp 14),type:=4,pos := "name.go:54",after := #[{ on:=0,ground := .data },{ on:=0,ground := .phase }],guard:=none }] false) .ret) (sj prog 15 f66.results.toList (.ret (.bool (sets.any p))) cc) ((Old.plain cc w).mark D) (λt=>lW (λd=>d==6) (S3 t)) H':=by
  intro D H' r hD h5 hr;refine eD hG (.ops [⟨some 14,none,.load .any false 1 (.t 5)⟩,⟨some 4,none,.mv true (.t 14)⟩]) (λS' _=>S' 4=.bool r) ?_ ?_
  .simp[bq,aV,an,aI,aq,ev,aB.S,aB.H,au,aH,aP,kH,h5,HR.okB,az,AV.aw,aY]
  intro S4 H4 s4;refine SW.ret ⟨(fq.plain rfl).mark hD,rfl,.bool r,?_,by rw[hr]⟩;show cU prog 15 [.tmp 4] S4 H4=_;simp[cU,cL,cI,s4,AV.bu,AV.out]
 refine SW.block (SW.range hG bL (Eg:=.tmp 9) (y:=.t 9) (p:=10) (f:=121) (caps:=[.ref (fA.map AV.bV),.ref [vI out]]) (xs:=sets.map (aM out)) rfl s9 (by kernel_rfl) rfl mh (by decide) (λx hx=>by obtain⟨e,_,rfl⟩:=List.mem_map.1 hx;rfl)
  (λd=>d==6) (aa:=.ops [⟨(some 6),none,.alloc 108 [(.slice .nil []),(.slice .nil [])]⟩,⟨none,none,.store .any 2 (.t 6) (.t 10)⟩]) (ab:=.block 1 (.seq (.ops [⟨some 11,none,.load .any true 11 (.t 2)⟩,⟨some 12,none,.load .any true 2 (.t 6)⟩,⟨some 13,none,.call 138 [(.t 11),(.t 12),(.c (.int .i64 0))]⟩]) (.cond (.t 13) (.seq (.ops [⟨none,none,.store .any 1 (.t 5) (.c (.bool true))⟩]) (.exit 0)) .skip)))
  (by kernel_rfl) (by kernel_rfl) (by simp[ae.names,bc.fP,eb.fP]) (by simp[ae.names,bc.fP,eb.fP]) (λ_ _ h=>h) (by kernel_rfl) (by kernel_rfl)
  (λk H'=>H' 2=some (fA.map AV.aw)/\H' 5=some [.bool false]/\(sets.take k).any p=false) (λe H'=>e=.exit 0/\H' 5=some [.bool true]/\sets.any p=true) ⟨h2,h5,rfl⟩ ?_ ?_ ?_)
 .rintro k hk H' ⟨h2,h5,dp⟩
  have eG:k<sets.length:=by simpa using hk
  have sQ:(sets.map (aM out))[k]=aM out sets[k]:=by simp
  have hf:=Je sets[k] (List.getElem_mem eG)
  have kW:sets.take (k+1)=sets.take k++[sets[k]]:=by rw[List.take_succ_eq_append_getElem eG]
  have e7:∀H,fz H (.agg (fA.map AV.aw))=.agg (fA.map AV.bV):=λH=>by simp only[fz,fG,AV.vw,List.map_map,l_]
  have e8:∀H,fz H (.agg [.slice .view (ints out),.slice .view (bz sets[k])])=aM out sets[k]:=λH=>rfl
  have e9:∀H,fz H (.int .i64 0)=.int .i64 0:=λH=>rfl
  have ht:List.take 11 (List.map AV.aw fA)=fA.map AV.aw:=List.take_of_length_le (by simp;omega);rw[sQ,kW,List.any_append];simp[bq,aV,an,aI,aq,ev,aB.S,aB.H,au,aH,az,aZ,En,kH,h2,h5,HR.okB,aM,AV.cells,AV.storable,AV.aw,aQ,AV.bb,aY,ct,cb,aP,gK,ht,jk,hl,e7,e8,e9];refine⟨by kernel_rfl,_,hf,by simp[bR],?_⟩
  cases hp:p sets[k]with
  |false=>simp[g_,jb,h2,h5,hp,au];simpa using dp
  |true=>
   have XW:∃x,x∈sets/\p x=true:=⟨_,List.getElem_mem eG,hp⟩
   simp[g_,jb,hp,au,h2,XW]
 .rintro D H' hD ⟨h2,h5,dp⟩;have kW:List.take (sets.map (aM out)).length sets=sets:=List.take_of_length_le (by simp);rw[kW]at dp;exact rest D H' false hD h5 dp.symm
 .rintro D e H' hD _ ⟨rfl,h5,hy⟩;exact rest D H' true hD h5 hy.symm
structure nK where
 l:Int
 r:Int
 lo:Int
 hi:Int
def iv(p:nK):AV:=.agg [.int .i64 p.l,.int .i64 p.r,.int .i64 p.lo,.int .i64 p.hi]
def qU(p:nK):AV:=.agg [.int .i64 p.l,.int .i64 p.r]
def nG(p:nK):AV:=.agg [.int .i64 p.lo,.int .i64 p.hi]
def bB(ps:List nK):AV:=.map (ps.map qU) (ps.map nG)
def Ent(es:Array MapEntry)(ps:List nK):Prop:=es.size=ps.length/\∀i (h:i<es.size)(h':i<ps.length),(es[i]).key=.agg #[.int .i64 (ps[i]).l,.int .i64 (ps[i]).r]/\(es[i]).val=.agg #[.int .i64 (ps[i]).lo,.int .i64 (ps[i]).hi]
def Kk{Pr:Nat->Nat->Prop}{w:World}(x y:Int):RD Pr w (.agg [.int .i64 x,.int .i64 y]) (.agg #[.int .i64 x,.int .i64 y]):=by
 refine .agg _ _ rfl (λi hi=>?_) (λi hi cy=>?_)
 .match i,hi with
  |0,_=>rfl
  |1,_=>rfl
 .match i,hi with
  |0,_=>exact .int _ _
  |1,_=>exact .int _ _
def xG(x y:Int):∀(ps:List nK),(∀p∈ps,¬(p.l=x/\p.r=y))->ny [x,y] (ps.map qU) (ps.map nG)=some none
 |[],_=>rfl
 |p::ps,h=>by
  have hp:([x,y]==[p.l,p.r])=false:=by
   have:=h p List.mem_cons_self;simp only[beq_eq_false_iff_ne,ne_eq,List.cons.injEq,and_true];rintro⟨rfl,rfl⟩;exact this ⟨rfl,rfl⟩
  show ny [x,y] (qU p::ps.map qU) (nG p::ps.map nG)=some none;unfold ny;simp only[qU,mU,Option.map_some];simp only[List.length_cons,List.length_nil,ne_eq,not_true_eq_false,if_false,hp,Bool.false_eq_true]
  exact xG x y ps λq hq=>h q (List.mem_cons_of_mem _ hq)
def oM(cc:Nat->Nat->Prop)(w:World)(b:Nat)(es:Array MapEntry)(clock:Nat):Old:={ Old.plain cc w with keep:=au (λ_=>none) b (some (.map es clock)) }
def FI(sA:List AV)(ps:List nK)(z:List AV)(b j:Nat)(S:af)(H:ah):Prop:=
 S 2=.box 2 0/\S 3=.box 3 0/\S 10=.slice .view (ps.map iv)/\S 11=.int .i64 ps.length/\S 12=.int .i64 (j:Nat)/\H 2=some z/\H 3=some (sA.map AV.aw++[.val (.map (some b))])
def EW{Pr:Nat->Nat->Prop}{al:Nat->Option Nat}{w:World}{x y:Int}{c:Value}(h:RV Pr al w (.agg [.int .i64 x,.int .i64 y]) c):c=.agg #[.int .i64 x,.int .i64 y]:=by
 cases h with
 |data _ _ h=>
  cases h with
  |agg _ vs hl h1 hr=>
   congr 1
   apply Array.ext
   .rw[<-hl];rfl
   .intro i hi cy
    have rF:i<2:=by simpa using cy
    match i,rF with
    |0,_=>exact(RV.data (al:=bO) _ _ (hr 0 (by simp) hi)).int_eq
    |1,_=>exact(RV.data (al:=bO) _ _ (hr 1 (by simp) hi)).int_eq
def H_{b:Nat}{ks vs:List AV}{x:AV}(h:isVal x=false):pF b ks vs x.aw=x.aw:=by
 cases x<;>first|rfl|(cases h;done)|skip
 rename_i o es;cases o<;>rfl
def It{P:Program}{t kt el:TypeId}(h:(P.underlying t).map (λd=>match d with|.map k e=>some (k,e)|_=>none)=some (some (kt,el))):P.underlying t=some (.map kt el):=by
 cases hi:P.underlying t with
 |none=>rw[hi]at h;cases h
 |some d=>
  rw[hi]at h
  cases d<;>simp at h
  obtain⟨rfl,rfl⟩:=h;rfl
def zX:TypeDesc->Bool
 |.struct _=>true
 |_=>false
def A7{P:Program}{t:TypeId}(h:(P.underlying t).map zX=some true):∃fs,P.underlying t=some (.struct fs):=by
 cases hi:P.underlying t with
 |none=>rw[hi]at h;cases h
 |some d=>
  rw[hi]at h
  cases d<;>first|(cases h;done)|exact⟨_,rfl⟩
def uZ(t:TypeId)(h:(prog.underlying t).map zX=some true:=by kernel_rfl):∃fs,prog.underlying t=some (.struct fs):=A7 h
noncomputable def uP:ae:=ae.qb c48.qb.qb.qa.qb.qb.qb.qb
def ZX (hG:av GI) {sA:List AV} {ps:List nK} (hl:sA.length=10) (tW:sA[1]? = some (.slice .view (ps.map iv))) (gx:∀ x∈sA,x.storable=true∧isVal x=false) (hlen:ps.length≤100000) (cT:∀ i j (hi:i < ps.length) (hj:j < ps.length),i < j→¬ ((ps[i]).l=(ps[j]).l∧(ps[i]).r=(ps[j]).r)) :
  AC prog GI 48 [.agg sA] (.ret (.agg ((sA++[bB ps]).map AV.bV))):=by
 refine AC.kP func48 rfl ntmps48 (by simp) λcc w=>?_
 refine eD hG c48.qa (λS' H'=>S' 1=.box 1 0/\S' 2=.box 2 0/\H' 1=some (sA.map AV.aw)/\∃z,H' 2=some z/\z.length=11) ?_ ?_
 .simp[c48,ae.qa,bq,aV,an,aI,aq,ev,aB.S,aB.H,au,aH,AL.start,AV.aw,AV.cells,AV.storable,hl,aZ,aY,az]
 rintro S1 H1 ⟨s1,s2,h1,z,h2,hz⟩
 refine SW.seq (SW.mid hG (p:=1) (oh:={ dst:=some 7,op := .makeMap 123 none,type:=123,pos := "letter.go:113",after := #[],guard:=none }) (mH:=[_]) (lS:=[_,_,_]) (l2:=[2,3,4]) rfl rfl rfl rfl (by kernel_rfl) rfl (λ_ h=>h) (ua:=(c48.qb.qa.dl).take 1) (tH:=(c48.qb.qa.dl).drop 2) (by kernel_rfl) (by kernel_rfl) (by kernel_rfl) (by kernel_rfl)
  (K1:=λS' H'=>S' 1=.box 1 0/\S' 2=.box 2 0/\S' 6=.agg (sA.map AV.aw)/\H' 1=some (sA.map AV.aw)/\H' 2=some z)
  (K2:=λo S' H'=>∃b,o=oM cc w b #[] 0/\S' 1=.box 1 0/\S' 2=.box 2 0/\S' 6=.agg (sA.map AV.aw)/\S' 7=.val (.map (some b))/\H' 1=some (sA.map AV.aw)/\H' 2=some z)
  (K3:=λo S' H'=>∃b,o=oM cc w b #[] 0/\S' 1=.box 1 0/\S' 2=.box 2 0/\S' 3=.box 3 0/\H' 1=some (sA.map AV.aw)/\H' 2=some z/\H' 3=some (sA.map AV.aw++[.val (.map (some b))])) ?_ ?_ ?_ ?_)
 .have ht:List.take 10 (sA.map AV.aw)=sA.map AV.aw:=List.take_of_length_le (by simp;omega);simp[c48,ae.qa,ae.qb,ae.dl,aV,an,aI,aq,ev,aB.S,aB.H,au,aH,aP,s1,s2,h1,h2,HR.okB,hl,gK,ht]
 .rintro w0 g S2 H2 a w2 ho R ⟨s1,s2,s6,h1,h2⟩;have R2:=R.Nw (.map #[] 0);refine⟨_,_,_,au S2 7 (.val (.map (some w2.heap.size))),H2,.inl (run_makeMap rfl),R2.put 7 (.val (.map (some w2.heap.size))) _ (by decide) (.data _ _ (.val _ rfl)) trivial,w2.heap.size,?_,by simp[au,s1],by simp[au,s2],by simp[au,s6],by simp[au],h1,h2⟩;show({ g.old with keep:=au g.old.keep w2.heap.size (some (.map #[] 0)) }:Old)=_;rw[ho];rfl
 .rintro o S2 H2 ⟨b,rfl,s1,s2,s6,s7,h1,h2⟩;refine⟨λ_ h=>h,?_⟩
  have fu:∀x∈sA.map AV.aw,x.storable=true:=by
   intro x hx;obtain⟨y,hy,rfl⟩:=List.mem_map.1 hx;rw[AV.pE];exact(gx y hy).1
  have kR:∀c:AV,aQ (aQ [.slice .nil [],.slice .nil [],.int .i64 0,.int .i64 0,.int .i64 0,.int .i64 0,.int .i64 0,.slice .nil [],.int .i64 0,.int .i64 0,.map [] []] 0 (sA.map AV.aw)) 10 [c]=sA.map AV.aw++[c]:=by
   intro c
   have e1:aQ [.slice .nil [],.slice .nil [],.int .i64 0,.int .i64 0,.int .i64 0,.int .i64 0,.int .i64 0,.slice .nil [],.int .i64 0,.int .i64 0,.map [] []] 0 (sA.map AV.aw)=sA.map AV.aw++[AV.map [] []]:=by
    simp[aQ,hl]
   rw[e1];simp[aQ,hl]
  have abp:∀c:AV,aQ [.slice .nil [],.slice .nil [],.int .i64 0,.int .i64 0,.int .i64 0,.int .i64 0,.int .i64 0,.slice .nil [],.int .i64 0,.int .i64 0,.map [] []] 0 (sA.map AV.aw++[c])=sA.map AV.aw++[c]:=by
   intro c;simp[aQ,hl]
  have Ol:(aQ [AV.slice .nil [],.slice .nil [],.int .i64 0,.int .i64 0,.int .i64 0,.int .i64 0,.int .i64 0,.slice .nil [],.int .i64 0,.int .i64 0,.map [] []] 0 (sA.map AV.aw)).length=11:=by simp[aQ,hl]
  simp[c48,ae.qa,ae.qb,ae.dl,aV,an,aI,aq,ev,aB.S,aB.H,au,aH,dH,s6,s7,AV.cells,AV.aw,AV.storable,hl,Ol,kR]
  have e3:(List.map AV.aw sA++[AV.val (Value.map (some b))]).map AV.aw=List.map AV.aw sA++[AV.val (Value.map (some b))]:=by simp[gK,AV.aw]
  simp[HR.okB,aZ,aY,AV.bb,hl,gK,AV.aw,au,h1,h2,s1,s2];simp[aQ,hl]
 .rintro o S2 H2 ⟨b,rfl,s1,s2,s3,h1,h2,h3⟩;show SW prog GI 27 none (.seq (.seq _ (.block 0 (.loop _))) (.seq _ .ret)) _ _ _ _;refine SW.seq (eD hG c48.qb.qb.qa.qa (λS' H'=>S' 2=.box 2 0/\S' 3=.box 3 0/\S' 10=.slice .view (ps.map iv)/\S' 11=.int .i64 ps.length/\S' 12=.int .i64 0/\H' 2=some z/\H' 3=some (sA.map AV.aw++[.val (.map (some b))])) ?_ ?_)
  .have Bl:(sA.map AV.aw)[1]?=some (.slice .view (ps.map iv)):=by rw[List.getElem?_map,tW];rfl
   simp[c48,ae.qa,ae.qb,bq,aV,an,aI,aq,az,ev,aB.S,aB.H,au,aH,aP,s1,s2,s3,h1,h2,h3,HR.okB,Bl,AV.aw]
  rintro S3 H3 ⟨s2,s3,bW,de,bn,h2,h3⟩
  refine SW.block (SW.loop (λo S' H'=>∃j es clock,j<=ps.length/\o=oM cc w b es clock/\Ent es (ps.take j)/\S' 2=.box 2 0/\S' 3=.box 3 0/\S' 10=.slice .view (ps.map iv)/\S' 11=.int .i64 ps.length/\S' 12=.int .i64 (j:Nat)/\H' 2=some z/\H' 3=some (sA.map AV.aw++[.val (.map (some b))]))
   (λS' _=>match S' 12 with|.int _ j=>ps.length-j.toNat|_=>0) ⟨0,#[],0,Nat.zero_le _,rfl,⟨by simp,λi h=>by simp at h⟩,s2,s3,bW,de,bn,h2,h3⟩ ?_)
  rintro o S4 H4 ⟨j,es,clock,hj,rfl,qQ,s2,s3,bW,de,bn,h2,h3⟩;have m12:=bn;show SW prog GI 27 none (.seq _ (.seq (.cond _ _ _) (.seq (.block 1 (.seq _ _)) _))) _ _ _ _;refine eD hG c48.qb.qb.qa.qb.qb.qb.qa (λS' H'=>S' 13=.bool (decide (j<ps.length))/\FI sA ps z b j S' H') ?_ ?_
  .simp[c48,ae.qa,ae.qb,bq,aV,an,aI,aq,az,ev,aB.S,aB.H,au,aH,FI,s2,s3,bW,de,bn,h2,h3,dO]
  rintro S5 H5 ⟨dz,hF⟩
  by_cases ao:j<ps.length
  case neg=>
   refine SW.seq (SW.cond rfl false (by show S5 13=_;rw[dz];simp[ao]) (SW.exit ?_))
   have MK:j=ps.length:=by omega
   subst MK;rw[List.take_length]at qQ;obtain⟨s2,s3,bW,de,bn,h2,h3⟩:=hF;show SW prog GI 27 none (.seq _ .ret) _ _ _ _;refine eD hG c48.qb.qb.qb.qa (λS' H'=>S' 2=.box 2 0/\H' 2=some (sA.map AV.aw++[.val (.map (some b))])) ?_ ?_
   .have e3:(List.map AV.aw sA++[AV.val (Value.map (some b))]).map AV.aw=List.map AV.aw sA++[AV.val (Value.map (some b))]:=by simp[gK,AV.aw]
    have ht:List.take 11 (List.map AV.aw sA++[AV.val (Value.map (some b))])=List.map AV.aw sA++[AV.val (Value.map (some b))]:=List.take_of_length_le (by simp[hl]);have Vr:List.drop 11 z=[]:=List.drop_eq_nil_of_le (by omega);simp[c48,ae.qa,ae.qb,bq,aV,an,aI,aq,az,ev,aB.S,aB.H,au,aH,s2,s3,h2,h3,aP,HR.okB,hl,AV.cells,AV.storable,AV.bb,aQ,aY,gK,AV.aw,ht,hz,Vr]
   rintro S6 H6 ⟨s2,h2⟩;refine SW.ghost (K:=λo S' H'=>fq o/\o.c=cc/\S' 2=.box 2 0/\H' 2=some (sA.map AV.aw++[bB ps])) ?_ ?_
   .intro w0 g a w' hg R
    have hk:g.old.keep b=some (.map es clock):=by rw[hg];show au (λ_=>none) b _ b=_;exact aN _ _ _
    obtain⟨g2,lE,R2⟩:=R.OP hk (ps.map qU) (ps.map nG) (by simpa using qQ.1.symm) (by simpa using qQ.1.symm) (λi h h'=>by
     simp only[List.length_map]at h;simp only[List.getElem_map,(qQ.2 i h' h).1]
     exact Kk _ _) (λi h h'=>by
     simp only[List.length_map]at h;simp only[List.getElem_map,(qQ.2 i h' h).2]
     exact Kk _ _) (by rw[hg];rfl)
    refine⟨g2,_,_,R2,fq.plain (by rw[lE,hg];rfl),by rw[lE,hg];rfl,by simp[s2],?_⟩
    have hgm:(sA.map AV.aw).map (pF b (ps.map qU) (ps.map nG))=sA.map AV.aw:=by
     rw[List.map_map]
     exact List.map_congr_left λx hx=>H_ (gx x hx).2
    show(H6 2).map _=_;rw[h2];simp only[Option.map_some,List.map_append,hgm,List.map_cons,List.map_nil];simp[pF,bB]
   .rintro o S7 H7 ⟨hm,hc,s2,h2⟩;obtain⟨i103,Ux,Wu⟩:=iZ 125 11;obtain⟨fs,lM⟩:=uZ 125;refine SW.ret ⟨hm,hc,_,?_,rfl⟩;show cU prog 27 [.cell 2 125] S7 H7=_;have ht:List.take 11 (sA.map AV.aw++[bB ps])=sA.map AV.aw++[bB ps]:=List.take_of_length_le (by simp[hl]);have kR:(bB ps).aw=bB ps:=rfl;have aan:(bB ps).bV=bB ps:=rfl;simp[cU,cL,cI,s2,h2,Ux,lM,Wu,aP,fE,hl,AV.out,kR,aan,gK,l_];exact List.take_of_length_le (by simp[hl])
  case pos=>
   refine SW.seq (SW.cond rfl true (by show S5 13=_;rw[dz];simp[ao]) (SW.skip ?_));show SW prog GI 27 none (.seq (.block 1 (.seq _ _)) _) _ _ _ _;obtain⟨s2,s3,bW,de,bn,h2,h3⟩:=hF;refine SW.seq (SW.block (eD hG c48.qb.qb.qa.qb.qb.qb.qb.qb.qa.qb.qa (λS' H'=>S' 5=.box 5 0/\H' 5=some (iv ps[j]).cells/\FI sA ps z b j S' H') ?_ ?_))
   .have bt:¬(j:Int)<0:=by omega
    simp[c48,ae.qa,ae.qb,bq,aV,an,aI,aq,az,ev,aB.S,aB.H,au,aH,FI,s2,s3,bW,de,bn,h2,h3,ao,aP,iv,AV.cells,AV.aw,aZ,HR.okB,AV.storable,aQ,AV.bb,aY]
   rintro S6 H6 ⟨s5,h5,s2,s3,bW,de,bn,h2,h3⟩
   have U6:∀q∈ps.take j,¬(q.l=ps[j].l/\q.r=ps[j].r):=by
    intro q hq;obtain⟨i,hi,rfl⟩:=List.getElem_of_mem hq
    have pt:i<j:=by simp at hi;omega
    rw[List.getElem_take];exact cT i j (by omega) ao pt
   refine SW.mid hG (p:=9) (oh:={ dst:=none,op := .mapUpdate 123 (.tmp 17) (.tmp 22) (.tmp 24),type:=0,pos := "letter.go:115",after:=_,guard:=none }) (mH:=[_,_,_,_,_,_,_,_,_]) (lS:=[]) (l2:=[]) rfl rfl rfl rfl (by kernel_rfl) rfl (λ_ h=>h) (ua:=(uP.qa.qb.qb.dl).take 9) (tH:=[]) (by kernel_rfl) rfl (by kernel_rfl) rfl
    (K1:=λS' H'=>S' 17=.val (.map (some b))/\S' 22=.agg [.int .i64 ps[j].l,.int .i64 ps[j].r]/\S' 24=.agg [.int .i64 ps[j].lo,.int .i64 ps[j].hi]/\FI sA ps z b j S' H')
    (K2:=λo S' H'=>o=oM cc w b (es.push { key:=.agg #[.int .i64 ps[j].l,.int .i64 ps[j].r],val:=.agg #[.int .i64 ps[j].lo,.int .i64 ps[j].hi],born:=clock }) (clock+1)/\FI sA ps z b j S' H')
    (K3:=λo S' H'=>o=oM cc w b (es.push { key:=.agg #[.int .i64 ps[j].l,.int .i64 ps[j].r],val:=.agg #[.int .i64 ps[j].lo,.int .i64 ps[j].hi],born:=clock }) (clock+1)/\FI sA ps z b j S' H') ?_ ?_ ?_ ?_
   .have ZN:(List.map AV.aw sA++[AV.val (Value.map (some b))])[10]? = some (.val (.map (some b))):=by
     rw[List.getElem?_append_right (by simp[hl])];simp[hl]
    have Zl:List.drop 10 (List.map AV.aw sA++[AV.val (Value.map (some b))])=[AV.val (Value.map (some b))]:=by
     rw[List.drop_append_of_le_length (by simp[hl]),List.drop_eq_nil_of_le (by simp[hl])];rfl
    simp[c48,uP,ae.qa,ae.qb,ae.dl,aV,an,aI,aq,ev,aB.S,aB.H,au,aH,FI,s2,s3,s5,bW,de,bn,h2,h3,h5,aP,iv,AV.cells,AV.aw,HR.okB,AV.storable,dH,aQ,ZN,Zl]
   .rintro w0 g S7 H7 a w7 hg R ⟨lY,zT,tX,hF⟩;have t17:=R.slot 17 (by decide) (λh=>h);rw[lY]at t17;have t17:=t17.jf;have t22:=R.slot 22 (by decide) (λh=>h);rw[zT]at t22;have t22:=EW t22;have t24:=R.slot 24 (by decide) (λh=>h);rw[tX]at t24;have t24:=EW t24
    have hk:g.old.keep b=some (.map es clock):=by rw[hg];show au (λ_=>none) b _ b=_;exact aN _ _ _
    have hb:=(R.kept b _ hk).2.1;have fN:=It (P:=prog) (t:=123) (kt:=208) (el:=33) (by kernel_rfl);obtain⟨fs,lM⟩:=uZ 208;have YN:(ps.take j).length=es.size:=qQ.1.symm;refine⟨undef,_,_,S7,H7,.inr ⟨Eu (Pr:=λ_ _=>False) (ks:=(ps.take j).map qU) (vs:=(ps.take j).map nG) (key:=[ps[j].l,ps[j].r]) rfl fN lM (k:=2) (by kernel_rfl) t17 t22 t24 hb rfl (by simpa using YN) (by simpa using YN) (λi h h'=>?_) (λi h h'=>?_) (xG _ _ _ U6),rfl⟩,R.vB hk _,?_,hF⟩
    .simp only[List.length_map]at h;simp only[List.getElem_map,(qQ.2 i h' h).1];exact Kk _ _
    .simp only[List.length_map]at h;simp only[List.getElem_map,(qQ.2 i h' h).2];exact Kk _ _
    .show({ g.old with keep:=au g.old.keep b _ }:Old)=_;rw[hg];simp only[oM,Old.mk.injEq,true_and,and_true]
     funext c
     by_cases hc:c=b
     .subst hc;simp[au,dC]
     .simp[au,hc]
   .rintro o S7 H7 h;exact⟨by rw[h.1];exact λ_ h=>h,h⟩
   .rintro o S7 H7 ⟨rfl,s2,s3,bW,de,bn,h2,h3⟩;show SW prog GI 27 none _ _ _ _ _;refine SW.sH hG bL (by kernel_rfl) (λ_ _ h=>h) (ac:=ae.qb uP) (by kernel_rfl) ?_;have A0:IntKind.i64.wrap ((j:Int)+1)=j+1:=bl (by omega)
    have Xo:Ent (es.push { key:=.agg #[.int .i64 ps[j].l,.int .i64 ps[j].r],val:=.agg #[.int .i64 ps[j].lo,.int .i64 ps[j].hi],born:=clock }) (ps.take (j+1)):=by
     have O_:ps.take (j+1)=ps.take j++[ps[j]]:=by rw[List.take_succ_eq_append_getElem ao]
     rw[O_];refine⟨by simp[qQ.1];omega,λi h h'=>?_⟩
     by_cases hi:i<es.size
     .have rF:i<(ps.take j).length:=by rw[<-qQ.1];exact hi
      have:=qQ.2 i hi rF;rw[Array.getElem_push_lt hi,List.getElem_append_left rF];exact this
     .have uC:i=es.size:=by simp at h;omega
      subst uC
      have rF:(ps.take j).length<=es.size:=by rw[<-qQ.1];exact Nat.le_refl _
      rw[Array.getElem_push_eq,List.getElem_append_right rF];simp
    simp[c48,uP,ae.qa,ae.qb,bq,aV,an,aI,aq,ev,aB.S,aB.H,au,aH,s2,s3,bW,de,bn,h2,h3,dO,AV.aw,A0,gy.bq,thenS];refine⟨⟨j+1,ao,_,⟨_,rfl⟩,Xo,by omega⟩,?_⟩;rw[m12];show ps.length-(j+1)<ps.length-(j:Int).toNat;rw[Int.toNat_natCast];omega
def rQ(o x:Int):Int:=if x<o then x else o
def pJ:List Int->Int
 |[]=>0
 |x::l=>l.foldl rQ x
def aaa(hG:av GI)(a b:Int):AC prog GI 53 [.int .i64 a,.int .i64 b] (.ret (.bool (decide (a<b)))):=by
 refine dZ hG func53 ntmps53 c53 ?_;simp[c53,bq,aV,an,aI,aq,ev,aB.S,aB.H,aY,ct,au,aH,AL.start,AV.aw,dO,post,cU,cL,cI,AV.out,AV.bu]
def aaV(hG:av GI)(x:Int)(l:List Int)(hl:l.length<1000000):AC prog GI 52 [vI (x::l),.func (.func 53) [] []] (.ret (.int .i64 (pJ (x::l)))):=by
 refine dZ hG func52 ntmps52 c52 ?_;have hi:ints (x::l)=.int .i64 x::ints l:=rfl
 have bo:aC 1 (.int .i64 x::ints l)=true:=by simp[aC,ints,AV.storable,AV.cells]
 have h1:(1:Int)<=(ints l).length+1:=by omega
 simp[c52,bq,aV,an,aI,aq,ev,aB.S,aB.H,aY,ct,cb,au,aH,AL.start,AV.aw,vI,hi,aP,AV.cells,bound,bo,h1];refine⟨λS H=>∃i:Nat,i<=l.length/\S 1=.func (.func 53) [] []/\S 5=.int .i64 ((l.take i).foldl rQ x)/\S 12=.slice .view (ints l)/\S 13=.int .i64 l.length/\S 14=.int .i64 i,⟨0,by simp[au,AL.start,br,AV.aw]⟩,λS H=>match S 14 with|.int _ k=>l.length-k.toNat|_=>0,?_⟩;rintro S H ⟨i,hi,h1,h5,G0,Q2,Ry⟩
 by_cases ao:i<l.length
 .have hw:IntKind.i64.wrap ((i:Int)+1)=i+1:=bl (by omega)
  have O_:(l.take (i+1)).foldl rQ x=rQ ((l.take i).foldl rQ x) l[i]:=by rw[List.take_succ_eq_append_getElem ao,List.foldl_append];rfl
  generalize(l.take i).foldl rQ x=o at h5 O_;have Yx:=aaa hG (GI:=GI) l[i] o;simp[au,aH,h1,h5,G0,Q2,Ry,AV.aw,dO,br,bU,ao,AV.cells,aP,fz,fG,AV.vw,AV.bV];refine oc Yx ?_
  by_cases hc:l[i]<o
  .simp[g_,au,hc,AV.aw,dO,hw,h1,G0,Q2,Ry,aY];refine⟨⟨i+1,ao,?_,by omega⟩,by omega⟩;rw[O_];simp[rQ,hc]
  .simp[g_,au,hc,AV.aw,dO,hw,h1,h5,G0,Q2,Ry,aY];refine⟨⟨i+1,ao,?_,by omega⟩,by omega⟩;rw[O_];simp[rQ,hc]
 .have:i=l.length:=by omega
  subst this;simp[au,aH,h1,h5,G0,Q2,Ry,AV.aw,dO,post,cU,cL,cI,AV.out,AV.bu,pJ]
structure zY where
 JS:List AV
 cut:Bool
def ot(l:zY):AV:=.agg [.slice .view l.JS,.bool l.cut]
def kv(wd:zY->Int)(rows:List zY):Int:=(rows.map wd).foldl max 0
def r_(l:List Int):AV:=.slice (if l.isEmpty then .nil else .own 3) (ints l)
def Py:AV.aw∘AV.bV=AV.bV:=by
 funext v
 cases v<;>rfl
noncomputable def PM:ae:=.ops [⟨(some 6),none,.alloc 108 [(.slice .nil []),(.slice .nil [])]⟩,⟨none,none,.store .any 2 (.t 6) (.t 17)⟩]
noncomputable def MW:ae := .block 1 <| .seq (.ops [⟨(some 7),none,.mv true (.c (.int .i64 0))⟩]) <|
  .seq (.seq (.ops [⟨(some 18),none,.load .any true 11 (.t 4)⟩,
    ⟨(some 19),none,.load .any true 2 (.t 6)⟩,
    ⟨(some 20),none,.call 50 [(.t 18),(.t 19)]⟩,
    ⟨(some 21),none,.lI (.t 20)⟩,
    ⟨(some 22),none,.mv false (.c (.int .i64 0))⟩])<|
  .block 2<|.loop<|
   .seq (.ops [⟨(some 23),none,.bin .lss (.t 22) (.t 21)⟩])<|
   .seq (.cond (.t 23)
    (.skip)
    (.exit 2))<|
   .seq (.block 3 <| .seq (.ops [⟨(some 24),none,.indexAddr 2 (.t 20) (.t 22)⟩,
      ⟨(some 25),none,.load .any true 2 (.t 24)⟩,
      ⟨(some 9),none,.alloc 134 [(.slice .nil []),(.bool false)]⟩,
      ⟨none,none,.store .any 2 (.t 9) (.t 25)⟩])<|
    .ops [⟨(some 26),none,.mv false (.t 7)⟩,
      ⟨(some 27),none,.load .any true 11 (.t 4)⟩,
      ⟨(some 28),none,.load .any true 2 (.t 9)⟩,
      ⟨(some 29),none,.call 51 [(.t 27),(.t 28),(.c (.int .i64 0))]⟩,
      ⟨(some 30),none,.max (.t 26) (.t 29)⟩,
      ⟨(some 7),none,.mv true (.t 30)⟩])<|
   .ops [⟨(some 31),none,.bin .add (.t 22) (.c (.int .i64 1))⟩,
     ⟨(some 22),none,.mv false (.t 31)⟩])<|
  .ops [⟨(some 32),none,.loadT .any (.t 5)⟩,
    ⟨(some 33),none,.mv false (.t 7)⟩,
    ⟨(some 34),none,.buildSlice 28 3 1 [(.t 33)]⟩,
    ⟨(some 35),none,.append 28 3 1 8 (.t 32) (.t 34)⟩,
    ⟨none,none,.store .any 1 (.t 5) (.t 35)⟩]
def aaE (hG:av GI) {sA F:List AV} {sets:List (List End)} {rows:List End→List zY} {wd:zY→Int} (hl:sA.length=10) (Fz:F.length=11) (gx:∀ x∈sA,x.storable=true) (Sw:F.map AV.bV=F) (hF1:∀ x∈F,x.one=true) (hlen:sets.length≤100000)
  {Qh:List End} {C5:List (List End)} (bt:sets=Qh::C5)
  (Xr:AC prog GI 47 [.agg (sA.map AV.bV)] (.ret (.bool true))) (h80:AC prog GI 48 [.agg (sA.map AV.bV)] (.ret (.agg F)))
  (mh:mN prog GI 121 [.ref F,.ref [vI []]] (sets.map (aM []))) (Rq:∀es∈sets,AC prog GI 50 [.agg F,aM [] es] (.ret (.slice .view ((rows es).map ot))))
  (Er:∀es∈sets,(rows es).length<100000) (LQ:∀es∈sets,∀r∈rows es,AC prog GI 51 [.agg F,ot r,.int .i64 0] (.ret (.int .i64 (wd r)))):
  AC prog GI 17 [.agg sA] (.ret (.fZ [.int .i64 (pJ (sets.map λes=>kv wd (rows es))),.int .i64 0])):=by
 have Sz:F.map AV.aw=F:=by
  have:=congrArg (List.map AV.aw) Sw;rw[List.map_map,Py,Sw]at this;exact this.symm
 have VX:List.take 11 F=F:=List.take_of_length_le (by omega)
 refine AC.kP func17 rfl ntmps17 (by simp) λcc w=>?_
 refine eD hG c17.qa (λS' H'=>S' 1=.box 1 0/\H' 1=some (sA.map AV.aw)) ?_ ?_
 .simp[c17,ae.qa,bq,aV,an,aI,aq,ev,aB.S,aB.H,au,aH,AL.start,AV.aw,AV.cells,AV.storable,hl,aZ,aY,az]
 rintro S1 H1 ⟨s1,h1⟩;have nj:List.take 10 (sA.map AV.aw)=sA.map AV.aw:=List.take_of_length_le (by simp;omega)
 have e7:∀(l:List AV) H,fz H (.agg (l.map AV.aw))=.agg (l.map AV.bV):=λl H=>by simp only[fz,fG,AV.vw,List.map_map,l_]
 have WC:∀H,fz H (.agg F)=.agg F:=λH=>by simp only[fz,fG,AV.vw,Sw]
 refine SW.seq (eD hG c17.qb.qa.qa (λS' H'=>S' 1=.box 1 0/\S' 12=.bool false/\H' 1=some (sA.map AV.aw)) ?_ ?_)
 .simp[c17,ae.qa,ae.qb,bq,aV,an,aI,aq,ev,aB.S,aB.H,au,aH,aP,s1,h1,HR.okB,hl,gK,nj,az,e7];refine oc Xr ?_;simp[g_,au,s1,h1]
 rintro S2 H2 ⟨s1,bn,h1⟩;refine SW.cond rfl false (by show S2 12=_;rw[bn]) (SW.skip ?_);show SW prog GI 38 none (.seq _ (.seq _ (.seq (.seq _ (.block _ _)) _))) _ _ _ _;refine eD hG c17.qb.qb.qa (λS' H'=>S' 4=.box 4 0/\H' 4=some F) ?_ ?_
 .simp[c17,ae.qa,ae.qb,bq,aV,an,aI,aq,ev,aB.S,aB.H,au,aH,aP,s1,h1,HR.okB,hl,gK,nj,az,e7];refine oc h80 ?_;simp[g_,au,aZ,AV.cells,AV.storable,Fz,AV.bb,aQ,aY,HR.okB,Sz,AV.aw]
 rintro S3 H3 ⟨s4,h4⟩;refine eD hG c17.qb.qb.qb.qa (λS' H'=>S' 4=.box 4 0/\H' 4=some F/\S' 5=.box 5 0/\H' 5=some [r_ []]) ?_ ?_
 .simp[c17,ae.qa,ae.qb,bq,aV,an,aI,au,aZ,s4,h4,az,r_,ints]
 rintro S4 H4 ⟨s4,h4,s5,h5⟩;refine SW.seq (eD hG c17.qb.qb.qb.qb.qa.qa (λS' H'=>S' 4=.box 4 0/\S' 5=.box 5 0/\S' 16=.func (.func 121) [] [.ref F,.ref [vI []]]/\H' 4=some F/\H' 5=some [r_ []]) ?_ ?_)
 .have xI:=NW hG (fA:=F) (out:=[]) (GI:=GI) Fz;rw[Sw]at xI
  have e8:∀H,fz H (.slice .nil [])=vI []:=λH=>rfl
  simp[c17,ae.qa,ae.qb,bq,aV,an,aI,aq,ev,aB.S,aB.H,au,aH,aP,s4,s5,h4,h5,az,Fz,HR.okB,Sz,VX,WC,e8];refine oc xI ?_;simp[g_,au,s4,s5,h4,h5]
 rintro S5 H5 ⟨s4,s5,iM,h4,h5⟩
 have VE:lW (λd=>d==6||d==9) (S5 4)=.box 4 0:=by rw[s4];rfl
 have kH:lW (λd=>d==6||d==9) (S5 5)=.box 5 0:=by rw[s5];rfl
 refine SW.block (SW.range hG bL (Eg:=.tmp 16) (y:=.t 16) (p:=17) (f:=121) (caps:=[.ref F,.ref [vI []]]) (xs:=sets.map (aM [])) rfl iM (by kernel_rfl) rfl mh (by decide) (λx hx=>by obtain⟨e,_,rfl⟩:=List.mem_map.1 hx;rfl)
  (λd=>d==6||d==9) (aa:=PM) (ab:=MW)
  (by kernel_rfl) (by kernel_rfl) ?_ ?_ (λ_ _ h=>h) (by kernel_rfl) (by kernel_rfl)
  (λk H'=>H' 4=some F/\H' 5=some [r_ ((sets.take k).map λes=>kv wd (rows es))]) (λ_ _=>False) ⟨h4,h5⟩ ?_ ?_ ?_)
 .simp[PM,ae.names,bc.fP,eb.fP]
 .simp[MW,ae.names,bc.fP,eb.fP]
 .rintro k hk H' ⟨h4,h5⟩
  have eG:k<sets.length:=by simpa using hk
  have sQ:(sets.map (aM []))[k]=aM [] sets[k]:=by simp
  have rL:sets[k]∈sets:=List.getElem_mem eG;have Rq:=Rq sets[k] rL;have LQ:=LQ sets[k] rL;have Er:=Er sets[k] rL
  have kW:sets.take (k+1)=sets.take k++[sets[k]]:=by rw[List.take_succ_eq_append_getElem eG]
  obtain⟨es,kz⟩:∃es,sets[k]=es:=⟨_,rfl⟩
  rw[kz]at Rq LQ Er kW sQ
  obtain⟨L,hL⟩:∃L,(sets.take k).map (λes=>kv wd (rows es))=L:=⟨_,rfl⟩
  have XE:L.length<=100000:=by rw[<-hL];simp;omega
  rw[hL]at h5;rw[sQ,kW,List.map_append,hL]
  have e8:∀H,fz H (.agg [.slice .view (ints []),.slice .view (bz es)])=aM [] es:=λH=>rfl
  simp only[PM,MW,bq,aV,an,aI,aq,ev,aB.S,aB.H,au,aH,az,VE,kH,h4,h5];simp[aZ,VE,kH,h4,h5,HR.okB,aM,AV.cells,AV.storable,AV.aw,aQ,AV.bb,aY,ct,cb,aP,Fz,Sz,VX,WC,e8,au];refine oc Rq ?_;simp[g_]
  refine⟨λS H=>∃i:Nat,i<=(rows es).length/\S 4=.box 4 0/\S 5=.box 5 0/\S 7=.int .i64 (kv wd ((rows es).take i))/\S 20=.slice .view ((rows es).map ot)/\S 21=.int .i64 (rows es).length/\S 22=.int .i64 i/\H 4=some F/\H 5=some [r_ L],
   ⟨0,by simp[au,VE,kH,h4,h5,kv,AV.aw]⟩,λS H=>match S 22 with|.int _ k=>(rows es).length-k.toNat|_=>0,?_⟩
  rintro S H ⟨i,hi,s4,s5,s7,AX,Ld,zT,h4,h5⟩
  by_cases ao:i<(rows es).length
  .have hw:IntKind.i64.wrap ((i:Int)+1)=i+1:=bl (by omega)
   have Gi:kv wd ((rows es).take (i+1))=max (kv wd ((rows es).take i)) (wd (rows es)[i]):=by
    rw[List.take_succ_eq_append_getElem ao];unfold kv;rw[List.map_append,List.foldl_append];rfl
   have LQ:=LQ (rows es)[i] (List.getElem_mem ao)
   have Ja:(List.map ot (rows es))[i]?=some (ot (rows es)[i]):=by rw[List.getElem?_map,List.getElem?_eq_getElem ao];rfl
   generalize kv wd ((rows es).take i)=o at s7 Gi
   have rh:∀H,fz H (.int .i64 0)=.int .i64 0:=λH=>rfl
   simp[au,s4,s5,s7,AX,Ld,zT,h4,h5,AV.aw,dO,ao,Ja,ot,AV.cells,aP,aZ,HR.okB,AV.storable,aQ,AV.bb,aY,Fz,Sz,VX,WC,rh];refine oc LQ ?_;simp[g_,au,s4,s5,s7,AX,Ld,zT,h4,h5,AV.aw,aY,dO,hw];refine⟨⟨i+1,ao,by rw[Gi],by omega⟩,by omega⟩
  .have ec:i=(rows es).length:=by omega
   subst ec;rw[List.take_length]at s7
   cases L with
   |nil=>simp[au,s4,s5,s7,AX,Ld,zT,h4,h5,AV.aw,dO,jb,r_,ints,HR.okB,AV.storable,AV.cells,AV.vw,AV.bV,aC,aQ,AV.bb,aY,ev]
   |cons x L=>
    have j1:L.length+1+1<1048576:=by simp at XE;omega
    have bo:aC 1 (ints L)=true:=by simp[aC,ints,AV.storable,AV.cells]
    simp[au,s4,s5,s7,AX,Ld,zT,h4,h5,AV.aw,dO,jb,r_,ints,HR.okB,AV.storable,AV.cells,AV.vw,AV.bV,aC,aQ,AV.bb,aY,j1,ev]
 .rintro D H' hD ⟨h4,h5⟩;show SW prog GI 38 none (.seq _ .ret) _ _ _ _;have kW:List.take (sets.map (aM [])).length sets=sets:=List.take_of_length_le (by simp);rw[kW]at h5
  obtain⟨L,hL⟩:∃L,sets.map (λes=>kv wd (rows es))=L:=⟨_,rfl⟩
  rw[hL]at h5
  obtain⟨x,L',rfl⟩:∃x L',L=x::L':=by
   subst bt;exact⟨_,_,hL.symm⟩
  have XE:L'.length<1000000:=by
   have:=congrArg List.length hL;simp at this;omega
  have Y':=aaV hG (GI:=GI) x L' XE;refine eD hG c17.qb.qb.qb.qb.qb.qa (λS' _=>S' 2=.int .i64 (pJ (x::L'))/\S' 3=.int .i64 0) ?_ ?_
  .have e8:∀H,fz H (.slice .view (ints (x::L')))=vI (x::L'):=λH=>rfl
   have e9:∀H,fz H (.func (.func 53) [] [])=.func (.func 53) [] []:=λH=>rfl
   simp[c17,ae.qa,ae.qb,bq,aV,an,aI,aq,ev,aB.S,aB.H,au,aH,aP,kH,h5,HR.okB,az,r_,AV.aw,aY,e8,e9];refine⟨_,by kernel_rfl,Y',by simp[bR,vI],?_⟩;simp[g_,au,AV.aw]
  rintro S6 H6 ⟨s2,s3⟩;refine SW.ret ⟨(fq.plain rfl).mark hD,rfl,_,?_,by rw[hL]⟩;show cU prog 38 [.tmp 2,.tmp 3] S6 H6=_;simp[cU,cL,cI,s2,s3,AV.bu,AV.out,AV.vw,AV.bV]
 .exact λ_ _ _ _ _ h=>h.elim
def rC(out:List Int)(es:List End):aM out es=.agg [vI out,.slice .view (es.map cz)]:=rfl
end Go.Proofs.Tryz
namespace Go.AL
def sr{cs:List AV}{i:Nat}(v:AV)(h:i<cs.length):aQ cs i [v]=cs.set i v:=by
 unfold aQ;rw[List.set_eq_take_append_cons_drop,if_pos h];simp
def J2:Code->Code
 |.seq _ y=>y
 |c=>c
def T_(f:Func):Code:=f.body.getD .skip
def FY{α:Type}(d:AV->Option α):List AV->Option (List α)
 |[]=>some []
 |x::l=>match d x with
  |some a=>match FY d l with
   |some r=>some (a::r)
   |none=>none
  |none=>none
def Zc:AV->Option Int
 |.int .i64 n=>some n
 |_=>none
def Sj:AV->Option (List Int)
 |.slice .view es=>FY Zc es
 |_=>none
section
variable{P:Program}{GI:World->Prop}
def kO(P:Program)(GI:World->Prop)(rest:List bc)(K:af->ah->Prop)(Qp:AV->Prop)(S:af)(dst:Option Nat)(H:ah)(v:AV):Prop:=aV P GI rest K Qp (aH S dst v) H
def kD(P:Program)(GI:World->Prop)(rest:List bc)(K:af->ah->Prop)(S:af)(dst:Option Nat)(H:ah)(v:AV):Prop:=cM P GI rest K (aH S dst v) H
def gB(P:Program)(GI:World->Prop)(y:ae)(Q:dU->af->ah->Prop)(e:dU)(S:af)(H:ah):Prop:=ct (bq P GI y Q) Q e S H
def il(Q:dU->af->ah->Prop)(S:af)(H:ah)(v:AV):Prop:=Q (.panic v) S H
def dT(K Qp S H):aV P GI [] K Qp S H=K S H:=(Eq.refl _).trans (Eq.refl _)
def cV(K S H):cM P GI [] K S H=K S H:=(Eq.refl _).trans (Eq.refl _)
def cZ (f args d g rest K Qp S H):aV P GI (⟨d,g,.call f args⟩::rest) K Qp S H=(match an S g with
  |some true=>jk P GI f (args.map λy=>fz H (ev S y)) (args.any λy=>bR (ev S y)) (kO P GI rest K Qp S d H) Qp
  |some false=>aV P GI rest K Qp (aH S d bI) H
  |none=>False):=(Eq.refl _).trans (Eq.refl _)
def ck (f args d g rest K Qp S H):aV P GI (⟨d,g,.gI f args⟩::rest) K Qp S H=(match an S g with
  |some true=>(match ev S f with
   |.func (.func k) first cap=>jk P GI k ((first++args.map (ev S)++cap).map (fz H)) ((first++args.map (ev S)++cap).any bR) (kO P GI rest K Qp S d H) Qp
   |_=>False)
  |some false=>aV P GI rest K Qp (aH S d bI) H
  |none=>False):=(Eq.refl _).trans (Eq.refl _)
abbrev OE(P:Program)(GI:World->Prop)(op:eb):Prop:=∀d g rest K Qp S H,aV P GI (⟨d,g,op⟩::rest) K Qp S H=(match an S g with|some true=>(match aq S H op with|some e=>aV P GI rest K Qp (e.S S d) (e.H H)|none=>False)|some false=>aV P GI rest K Qp (aH S d bI) H|none=>False)
abbrev DE(P:Program)(GI:World->Prop)(op:eb):Prop:=∀d g rest K S H,cM P GI (⟨d,g,op⟩::rest) K S H=(match an S g with|some true=>(match aq S H op with|some e=>cM P GI rest K (e.S S d) (e.H H)|none=>False)|some false=>cM P GI rest K (aH S d bI) H|none=>False)
def cg(t zero d rest K Qp S H):aV P GI (⟨some d,none,.alloc t zero⟩::rest) K Qp S H=aV P GI rest K Qp (au (λt=>aZ d (S t)) d (.box d 0)) (au H d (some zero)):=(Eq.refl _).trans (Eq.refl _)
def dQ(t size x d rest K Qp S H):aV P GI (⟨some d,none,.box t size x⟩::rest) K Qp S H=((ev S x).cells.length=size/\(ev S x).storable=true/\aV P GI rest K Qp (au (λt=>aZ d (S t)) d (.box d 0)) (au H d (some ((ev S x).cells.map AV.aw)))):=(Eq.refl _).trans (Eq.refl _)
def cd (f args d g rest K S H):cM P GI (⟨d,g,.call f args⟩::rest) K S H=(match an S g with
  |some true=>(args.any λy=>bR (ev S y))=false/\jk P GI f (args.map λy=>fz H (ev S y)) (args.any λy=>bR (ev S y)) (kD P GI rest K S d H) (λ_=>False)
  |some false=>cM P GI rest K (aH S d bI) H
  |none=>False):=(Eq.refl _).trans (Eq.refl _)
def bP(t zero d rest K S H):cM P GI (⟨some d,none,.alloc t zero⟩::rest) K S H=cM P GI rest K (au S d (.box d 0)) H:=(Eq.refl _).trans (Eq.refl _)
def fB(rest K Qp S d H v):kO P GI rest K Qp S d H v=aV P GI rest K Qp (aH S d v) H:=(Eq.refl _).trans (Eq.refl _)
def fC(rest K S d H v):kD P GI rest K S d H v=cM P GI rest K (aH S d v) H:=(Eq.refl _).trans (Eq.refl _)
def dR :
  (∀x0 x1,OE P GI (.mv x0 x1))/\
  (∀x0 x1 x2,OE P GI (.pick x0 x1 x2))/\
  (∀x0 x1,OE P GI (.build x0 x1))/\
  (∀x0 x1 x2 x3,OE P GI (.buildSlice x0 x1 x2 x3))/\
  (∀x0 x1 x2 x3,OE P GI (.load x0 x1 x2 x3))/\
  (∀x0 x1,OE P GI (.loadT x0 x1))/\
  (∀x0 x1 x2 x3,OE P GI (.store x0 x1 x2 x3))/\
  (∀x0 x1 x2,OE P GI (.bin x0 x1 x2))/\
  (∀x0 x1 x2,OE P GI (.A_ x0 x1 x2))/\
  (∀x0 x1 x2 x3,OE P GI (.eqs x0 x1 x2 x3))/\
  (∀x0 x1 x2 x3 x4,OE P GI (.nZ x0 x1 x2 x3 x4))/\
  (∀x0,OE P GI (.xm x0))/\
  (∀x0,OE P GI (.nW x0))/\
  (∀x0 x1 x2,OE P GI (.n9 x0 x1 x2))/\
  (∀x0 x1 x2 x3,OE P GI (.lookup x0 x1 x2 x3))/\
  (∀x0,OE P GI (.not x0))/\
  (∀x0 x1,OE P GI (.conv x0 x1))/\
  (∀x0 x1,OE P GI (.iface x0 x1))/\
  (∀x0 x1 x2,OE P GI (.D2 x0 x1 x2))/\
  (∀x0 x1 x2,OE P GI (.nY x0 x1 x2))/\
  (∀x0 x1 x2 x3,OE P GI (.nX x0 x1 x2 x3))/\
  (∀x0 x1,OE P GI (.pa x0 x1))/\
  (∀x0 x1,OE P GI (.fieldAddr x0 x1))/\
  (∀x0 x1 x2,OE P GI (.indexAddr x0 x1 x2))/\
  (∀x0 x1,OE P GI (.nR x0 x1))/\
  (∀x0 x1,OE P GI (.extract x0 x1))/\
  (∀x0,OE P GI (.xN x0))/\
  (∀x0,OE P GI (.lI x0))/\
  (∀x0 x1,OE P GI (.isNil x0 x1))/\
  (∀x0,OE P GI (.empty x0))/\
  (∀x0 x1 x2 x3 x4 x5,OE P GI (.append x0 x1 x2 x3 x4 x5))/\
  (∀x0 x1,OE P GI (.max x0 x1))/\
  (∀x0 x1,OE P GI (.min x0 x1))/\
  (∀x0 x1 x2,OE P GI (.assert x0 x1 x2)):=by
 refine⟨?_,?_,?_,?_,?_,?_,?_,?_,?_,?_,?_,?_,?_,?_,?_,?_,?_,?_,?_,?_,?_,?_,?_,?_,?_,?_,?_,?_,?_,?_,?_,?_,?_,?_⟩<;>intros<;>intro d<;>intros<;>rfl
def cW :
  (∀x0 x1,DE P GI (.mv x0 x1))/\
  (∀x0 x1 x2,DE P GI (.pick x0 x1 x2))/\
  (∀x0 x1,DE P GI (.build x0 x1))/\
  (∀x0 x1 x2 x3,DE P GI (.buildSlice x0 x1 x2 x3))/\
  (∀x0 x1 x2 x3,DE P GI (.load x0 x1 x2 x3))/\
  (∀x0 x1,DE P GI (.loadT x0 x1))/\
  (∀x0 x1 x2 x3,DE P GI (.store x0 x1 x2 x3))/\
  (∀x0 x1 x2,DE P GI (.bin x0 x1 x2))/\
  (∀x0 x1 x2,DE P GI (.A_ x0 x1 x2))/\
  (∀x0 x1 x2 x3,DE P GI (.eqs x0 x1 x2 x3))/\
  (∀x0 x1 x2 x3 x4,DE P GI (.nZ x0 x1 x2 x3 x4))/\
  (∀x0,DE P GI (.xm x0))/\
  (∀x0,DE P GI (.nW x0))/\
  (∀x0 x1 x2,DE P GI (.n9 x0 x1 x2))/\
  (∀x0 x1 x2 x3,DE P GI (.lookup x0 x1 x2 x3))/\
  (∀x0,DE P GI (.not x0))/\
  (∀x0 x1,DE P GI (.conv x0 x1))/\
  (∀x0 x1,DE P GI (.iface x0 x1))/\
  (∀x0 x1 x2,DE P GI (.D2 x0 x1 x2))/\
  (∀x0 x1 x2,DE P GI (.nY x0 x1 x2))/\
  (∀x0 x1 x2 x3,DE P GI (.nX x0 x1 x2 x3))/\
  (∀x0 x1,DE P GI (.pa x0 x1))/\
  (∀x0 x1,DE P GI (.fieldAddr x0 x1))/\
  (∀x0 x1 x2,DE P GI (.indexAddr x0 x1 x2))/\
  (∀x0 x1,DE P GI (.nR x0 x1))/\
  (∀x0 x1,DE P GI (.extract x0 x1))/\
  (∀x0,DE P GI (.xN x0))/\
  (∀x0,DE P GI (.lI x0))/\
  (∀x0 x1,DE P GI (.isNil x0 x1))/\
  (∀x0,DE P GI (.empty x0))/\
  (∀x0 x1 x2 x3 x4 x5,DE P GI (.append x0 x1 x2 x3 x4 x5))/\
  (∀x0 x1,DE P GI (.max x0 x1))/\
  (∀x0 x1,DE P GI (.min x0 x1))/\
  (∀x0 x1 x2,DE P GI (.assert x0 x1 x2)):=by
 refine⟨?_,?_,?_,?_,?_,?_,?_,?_,?_,?_,?_,?_,?_,?_,?_,?_,?_,?_,?_,?_,?_,?_,?_,?_,?_,?_,?_,?_,?_,?_,?_,?_,?_,?_⟩<;>intros<;>intro d<;>intros<;>rfl
def dS :
  (∀Q S H,bq P GI .skip Q S H=Q .normal S H)/\
  (∀l Q S H,bq P GI (.ops l) Q S H=aV P GI l (Q .normal) (il Q S H) S H)/\
  (∀l Q S H,bq P GI (.cM l) Q S H=cM P GI l (Q .normal) (dM l S) (cD l H))/\
  (∀x y Q S H,bq P GI (.seq x y) Q S H=bq P GI x (gB P GI y Q) S H)/\
  (∀c x y Q S H,bq P GI (.cond c x y) Q S H=(match ev S c with
   |.bool true=>bq P GI x Q S H
   |.bool false=>bq P GI y Q S H
   |.kd=>bq P GI x Q S H/\bq P GI y Q S H
   |_=>False))/\
  (∀id c Q S H,bq P GI (.block id c) Q S H=bq P GI c (cb id Q) S H)/\
  (∀id Q S H,bq P GI (.exit id) Q S H=Q (.exit id) S H)/\
  (∀Q S H,bq P GI .ret Q S H=Q .ret S H)/\
  (∀y Q S H,gB P GI y Q .normal S H=bq P GI y Q S H)/\
  (∀y Q id S H,gB P GI y Q (.exit id) S H=Q (.exit id) S H)/\
  (∀y Q S H,gB P GI y Q .ret S H=Q .ret S H)/\
  (∀y Q v S H,gB P GI y Q (.panic v) S H=Q (.panic v) S H):=by
 refine⟨?_,?_,?_,?_,?_,?_,?_,?_,?_,?_,?_,?_⟩<;>intros<;>rfl
def eF :
  (∀id Q S H,cb id Q .normal S H=Q .normal S H)/\
  (∀id j Q S H,cb id Q (.exit j) S H=if j=id then Q .normal S H else Q (.exit j) S H)/\
  (∀id Q S H,cb id Q .ret S H=Q .ret S H)/\
  (∀id Q v S H,cb id Q (.panic v) S H=Q (.panic v) S H)/\
  (∀K Q S H,ct K Q .normal S H=K S H)/\
  (∀K Q id S H,ct K Q (.exit id) S H=Q (.exit id) S H)/\
  (∀K Q S H,ct K Q .ret S H=Q .ret S H)/\
  (∀K Q v S H,ct K Q (.panic v) S H=Q (.panic v) S H)/\
  (∀K S H,az K .normal S H=K S H)/\
  (∀K id S H,az K (.exit id) S H=False)/\
  (∀K S H,az K .ret S H=False)/\
  (∀K v S H,az K (.panic v) S H=False)/\
  (∀Q S H v,il Q S H v=Q (.panic v) S H)/\
  (∀v K Qp,g_ (.ret v) K Qp=K v)/\
  (∀v K Qp,g_ (.panic v) K Qp=Qp v):=by
 refine⟨?_,?_,?_,?_,?_,?_,?_,?_,?_,?_,?_,?_,?_,?_,?_⟩<;>intros<;>rfl
end
section
variable{P:Program}{GI:World->Prop}
def xf{f:Nat}{args:List AV}{b:Bool}{K K':AV->Prop}{Qp GH:AV->Prop}(hK:∀v,K v->K' v)(hQ:∀v,Qp v->GH v)(h:jk P GI f args b K Qp):jk P GI f args b K' GH:=by
 obtain⟨out,h1,h2,h3,h4⟩:=h;refine⟨out,h1,h2,h3,?_⟩
 cases out with
 |ret v=>exact hK _ h4
 |panic v=>exact hQ _ h4
def pb{op:eb}{dst:Option Nat}{K K':af->ah->Prop}{Qp GH:AV->Prop}(hK:∀S H,K S H->K' S H)(hQ:∀v,Qp v->GH v){S:af}{H:ah}(h:aI P GI op dst K Qp S H):aI P GI op dst K' GH S H:=by
 by_cases hc:op.calm=true
 .rw[xy hc]at h⊢;split at h
  .exact hK _ _ h
  .exact h
 .cases op<;>first|(exfalso;exact hc rfl)|skip
  case alloc=>simp only[aI]at h⊢;split at h<;>first|exact hK _ _ h|exact h
  case box=>simp only[aI]at h⊢;split at h<;>first|exact⟨h.1,h.2.1,hK _ _ h.2.2⟩|exact h
  case call=>exact xf (λv=>hK _ _) hQ h
  case gI=>simp only[aI]at h⊢;split at h<;>first|exact xf (λv=>hK _ _) hQ h|exact h
  case panic=>simp only[aI]at h⊢;split at h<;>first|exact hQ _ h|exact h
  case other=>exact h
def um{K K':af->ah->Prop}{Qp GH:AV->Prop}(hK:∀S H,K S H->K' S H)(hQ:∀v,Qp v->GH v):∀(l:List bc)(S:af)(H:ah),aV P GI l K Qp S H->aV P GI l K' GH S H
 |[],S,H,h=>hK S H h
 |o::rest,S,H,h=>by
  simp only[aV]at h⊢;split at h
  .exact pb (λS H=>um hK hQ rest S H) hQ h
  .exact um hK hQ rest _ _ h
  .exact h
def FD{op:eb}{dst:Option Nat}{K K':af->ah->Prop}(hK:∀S H,K S H->K' S H){S:af}{H:ah}(h:gV P GI op dst K S H):gV P GI op dst K' S H:=by
 cases op
 case alloc=>simp only[gV]at h⊢;split at h<;>first|exact hK _ _ h|exact h
 case call=>exact⟨h.1,pb hK (λ_ h=>h) h.2⟩
 case gI=>exact⟨h.1,pb hK (λ_ h=>h) h.2⟩
 case box=>exact h.elim
 case panic=>exact h.elim
 case other=>exact h.elim
 all_goals
  simp only[gV]at h⊢;exact pb hK (λ_ h=>h) h
def tO{K K':af->ah->Prop}(hK:∀S H,K S H->K' S H):∀(l:List bc)(S:af)(H:ah),cM P GI l K S H->cM P GI l K' S H
 |[],S,H,h=>hK S H h
 |o::rest,S,H,h=>by
  simp only[cM]at h⊢;split at h
  .exact FD (λS H=>tO hK rest S H) h
  .exact tO hK rest _ _ h
  .exact h
def pc{K K':af->ah->Prop}{Q Q':dU->af->ah->Prop}(hK:∀S H,K S H->K' S H)(h:∀e S H,Q e S H->Q' e S H)(e:dU)(S:af)(H:ah)(hq:ct K Q e S H):ct K' Q' e S H:=by
 cases e with
 |normal=>exact hK S H hq
 |exit id=>exact h _ S H hq
 |ret=>exact h _ S H hq
 |panic v=>exact h _ S H hq
def ir:∀(c:ae){Q Q':dU->af->ah->Prop}(_:∀e S H,Q e S H->Q' e S H){S:af}{H:ah},bq P GI c Q S H->bq P GI c Q' S H
 |.skip,_,_,h,_,_,hq=>h _ _ _ hq
 |.ops l,_,_,h,_,_,hq=>um (λS H=>h _ S H) (λv=>h _ _ _) l _ _ hq
 |.cM l,_,_,h,_,_,hq=>tO (λS H=>h _ S H) l _ _ hq
 |.seq x y,_,_,h,_,_,hq=>ir x (pc (λ_ _=>ir y h) h) hq
 |.cond c x y,_,_,h,S,H,hq=>by
  simp only[bq]at hq⊢;split at hq
  .exact ir x h hq
  .exact ir y h hq
  .exact⟨ir x h hq.1,ir y h hq.2⟩
  .exact hq
 |.block id c,Q,Q',h,_,_,hq=>ir c (fun e S H hb=>by
   cases e with
   |normal=>exact h _ S H hb
   |exit j=>
    by_cases hj:j=id
    .simp only[cb,if_pos hj]at hb⊢;exact h _ S H hb
    .simp only[cb,if_neg hj]at hb⊢;exact h _ S H hb
   |ret=>exact h _ S H hb
   |panic v=>exact h _ S H hb) hq
 |.loop c,_,_,h,_,_,⟨I,μ,h0,hi⟩=>⟨I,μ,h0,λS H hI=>ir c (pc (λ_ _ h=>h) h) (hi S H hI)⟩
 |.exit id,_,_,h,_,_,hq=>h _ _ _ hq
 |.ret,_,_,h,_,_,hq=>h _ _ _ hq
 |.bad,_,_,_,_,_,hq=>hq
def bw{x y:ae}{Q:dU->af->ah->Prop}{S:af}{H:ah}(K:af->ah->Prop)(hx:bq P GI x (az K) S H)(hy:∀S' H',K S' H'->bq P GI y Q S' H'):bq P GI (.seq x y) Q S H:=by
 refine ir x (λe S H h=>?_) hx
 cases e with
 |normal=>exact hy S H h
 |exit id=>exact h.elim
 |ret=>exact h.elim
 |panic v=>exact h.elim
def Jw{c:bZ}{y z:ae}{Q:dU->af->ah->Prop}{S:af}{H:ah}(h:ev S c=.bool true)(hy:bq P GI y Q S H):bq P GI (.seq (.cond c .skip z) y) Q S H:=by
 simp only[bq,h];exact hy
def JT{id:Nat}{c y:ae}{Q:dU->af->ah->Prop}{S:af}{H:ah}(h:bq P GI c (cb id (gB P GI y Q)) S H):bq P GI (.seq (.block id c) y) Q S H:=h
def dE {c:ae} {Q:dU→af→ah→Prop} {S:af} {H:ah} (t n:Nat) (I:Nat→af→ah→Prop) (Nj:∀ i S H,I i S H→S t = .int .i64 (i:Nat)) (h0:I 0 S H)
  (hs:∀i,i<=n->∀S H,I i S H->bq P GI c (ct (λS' H'=>i<n/\I (i+1) S' H') Q) S H):bq P GI (.loop c) Q S H:=by
 refine⟨λS H=>∃i,i<=n/\I i S H,λS _=>match S t with|.int _ k=>n-k.toNat|_=>0,⟨0,Nat.zero_le _,h0⟩,?_⟩;rintro S H ⟨i,hi,hI⟩;refine ir c (pc (λS' H' h=>?_) (λ_ _ _ h=>h)) (hs i hi S H hI);refine⟨⟨i+1,h.1,h.2⟩,?_⟩;have e1:=Nj _ _ _ hI;have e2:=Nj _ _ _ h.2;simp only[e1,e2,Int.toNat_natCast];have:=h.1;omega
end
def jC{α:Type}(p:α->Bool)(l:List α):Int:=if l.any p then(l.findIdx p:Nat)else-1
def mE {α:Type} {p:α→Bool} {l:List α} {i:Nat} (hi:i < l.length) (hp:p l[i]=true) (hb:∀ j (hj:j < l.length),j < i→p l[j]=false):jC p l=(i:Nat):=by
  unfold jC;rw[if_pos (List.any_eq_true.2 ⟨l[i],List.getElem_mem hi,hp⟩),(List.findIdx_eq hi).2 ⟨hp,λj eL=>hb j (by omega) eL⟩]
def ku {α:Type} {p:α→Bool} {l:List α} (hb:∀ j (hj:j < l.length),p l[j]=false):jC p l = -1:=by
  unfold jC;rw[if_neg];intro h;obtain⟨x,hx,hp⟩:=List.any_eq_true.1 h;obtain⟨j,hj,rfl⟩:=List.getElem_of_mem hx;rw[hb j hj]at hp;cases hp
def lJ {α:Type} {p:α→Bool} {l:List α}:decide (0≤jC p l)=l.any p:=by
  unfold jC
  cases h:l.any p<;>simp
def mA{α:Type}(p:α->Bool)(lt:α->α->Bool)(l:List α):Bool:=l.all p&&(List.range (l.length-1)).all λi=>match l[i]?,l[i+1]? with|some a,some b=>lt a b|_,_=>true
def xq{α:Type}{p:α->Bool}{lt:α->α->Bool}{l:List α}{i:Nat}(hi:i<l.length)(hp:p l[i]=false):mA p lt l=false:=by
 unfold mA;rw[Bool.and_eq_false_iff];exact .inl (List.all_eq_false.2 ⟨_,List.getElem_mem hi,by simp[hp]⟩)
def uJ{α:Type}{p:α->Bool}{lt:α->α->Bool}{l:List α}{i:Nat}(hi:i+1<l.length)(hp:lt (l[i]'(by omega)) l[i+1]=false):mA p lt l=false:=by
 unfold mA;rw[Bool.and_eq_false_iff];refine .inr (List.all_eq_false.2 ⟨i,List.mem_range.2 (by omega),?_⟩);simp[hi,show i<l.length by omega,hp]
def zL{α:Type}{p:α->Bool}{lt:α->α->Bool}{l:List α}(h1:∀j (hj:j<l.length),p l[j]=true)(h2:∀j (hj:j+1<l.length),lt (l[j]'(by omega)) l[j+1]=true):mA p lt l=true:=by
 unfold mA;rw[Bool.and_eq_true]
 constructor
 .rw[List.all_eq_true];intro x hx;obtain⟨j,hj,rfl⟩:=List.getElem_of_mem hx;exact h1 j hj
 .rw[List.all_eq_true];intro j hj;rw[List.mem_range]at hj;simp[show j<l.length by omega,show j+1<l.length by omega,h2 j (by omega)]
def AC.yL{P:Program}{GI:World->Prop}{f:Nat}{args:List AV}{o:Ow}{es:List AV}(h:AC P GI f args (.ret (.slice o es))):AC P GI f args (.ret (.slice .view es)):=by
 intro w old a_ h1 h2 h3;refine(h w old a_ h1 h2 h3).mono ?_;rintro e w' ⟨hb,hi,h0,c,rfl,hv,_⟩;refine⟨hb,hi,h0,c,rfl,?_,trivial⟩
 cases hv with
 |data _ _ h=>exact .data _ _ (Go.Proofs.Tryz.RD.yR h)
def re(l:List Int):aC 1 (ints l)=true:=by simp[aC,ints,AV.storable,AV.cells]
def jM{α:Type}{p:α->Bool}{lt:α->α->Bool}{l:List α}:mA p lt l=true↔(∀x∈l,p x=true)/\∀j (hj:j+1<l.length),lt (l[j]'(by omega)) l[j+1]=true:=by
 unfold mA;rw[Bool.and_eq_true,List.all_eq_true,List.all_eq_true]
 constructor
 .rintro⟨h1,h2⟩;refine⟨h1,λj hj=>?_⟩;have:=h2 j (List.mem_range.2 (by omega));simpa[show j<l.length by omega,hj]using this
 .rintro⟨h1,h2⟩;refine⟨h1,λj hj=>?_⟩;rw[List.mem_range]at hj;have:=h2 j (by omega);simpa[show j<l.length by omega,show j+1<l.length by omega]using this
def Dr{l:List Int}(h:∀j (hj:j+1<l.length),l[j]<l[j+1]):l.Pairwise λa b=>a<b:=by
 rw[List.pairwise_iff_getElem];intro i j hi hj pt
 obtain⟨d,rfl⟩:∃d,j=i+1+d:=⟨j-i-1,by omega⟩
 clear pt
 induction d with
 |zero=>exact h i hj
 |succ d ih=>
  have h1:=ih (by omega);have h2:=h (i+1+d) hj;exact Int.lt_trans h1 h2
section
variable{P:Program}{GI:World->Prop}
def I8 {c:ae} {Q:dU→af→ah→Prop} {S:af} {H:ah} (t n:Nat) (I:Nat→af→ah→Prop) (Nj:∀ i S H,I i S H→S t = .int .i64 ((i:Nat) - 1)) (h0:I n S H)
  (hs:∀i,i<=n->∀S H,I i S H->bq P GI c (ct (λS' H'=>0<i/\I (i-1) S' H') Q) S H):bq P GI (.loop c) Q S H:=by
 refine⟨λS H=>∃i,i<=n/\I i S H,λS _=>match S t with|.int _ k=>(k+1).toNat|_=>0,⟨n,Nat.le_refl _,h0⟩,?_⟩;rintro S H ⟨i,hi,hI⟩;refine ir c (pc (λS' H' h=>?_) (λ_ _ _ h=>h)) (hs i hi S H hI);refine⟨⟨i-1,by omega,h.2⟩,?_⟩;have e1:=Nj _ _ _ hI;have e2:=Nj _ _ _ h.2;simp only[e1,e2];have:=h.1;omega
end
section
variable{P:Program}{GI:World->Prop}
def Cj :
  (∀x0 x1,OE P GI (.mv x0 x1))/\
  (∀x0 x1 x2,OE P GI (.pick x0 x1 x2))/\
  (∀x0 x1,OE P GI (.build x0 x1))/\
  (∀x0 x1 x2 x3,OE P GI (.buildSlice x0 x1 x2 x3))/\
  (∀x0 x1 x2 x3,OE P GI (.load x0 x1 x2 x3))/\
  (∀x0 x1,OE P GI (.loadT x0 x1))/\
  (∀x0 x1 x2 x3,OE P GI (.store x0 x1 x2 x3))/\
  (∀x0 x1 x2,OE P GI (.bin x0 x1 x2))/\
  (∀x0 x1 x2,OE P GI (.A_ x0 x1 x2))/\
  (∀x0 x1 x2 x3,OE P GI (.eqs x0 x1 x2 x3))/\
  (∀x0 x1 x2 x3 x4,OE P GI (.nZ x0 x1 x2 x3 x4))/\
  (∀x0,OE P GI (.xm x0))/\
  (∀x0,OE P GI (.nW x0))/\
  (∀x0 x1 x2,OE P GI (.n9 x0 x1 x2))/\
  (∀x0 x1 x2 x3,OE P GI (.lookup x0 x1 x2 x3))/\
  (∀x0,OE P GI (.not x0))/\
  (∀x0 x1,OE P GI (.conv x0 x1))/\
  (∀x0 x1,OE P GI (.iface x0 x1))/\
  (∀x0 x1 x2,OE P GI (.D2 x0 x1 x2))/\
  (∀x0 x1 x2,OE P GI (.nY x0 x1 x2))/\
  (∀x0 x1 x2 x3,OE P GI (.nX x0 x1 x2 x3))/\
  (∀x0 x1,OE P GI (.pa x0 x1))/\
  (∀x0 x1,OE P GI (.fieldAddr x0 x1))/\
  (∀x0 x1 x2,OE P GI (.indexAddr x0 x1 x2))/\
  (∀x0 x1,OE P GI (.nR x0 x1))/\
  (∀x0 x1,OE P GI (.extract x0 x1))/\
  (∀x0,OE P GI (.xN x0))/\
  (∀x0,OE P GI (.lI x0))/\
  (∀x0 x1,OE P GI (.isNil x0 x1))/\
  (∀x0,OE P GI (.empty x0))/\
  (∀x0 x1,OE P GI (.max x0 x1))/\
  (∀x0 x1,OE P GI (.min x0 x1))/\
  (∀x0 x1 x2,OE P GI (.assert x0 x1 x2)):=by
 refine⟨?_,?_,?_,?_,?_,?_,?_,?_,?_,?_,?_,?_,?_,?_,?_,?_,?_,?_,?_,?_,?_,?_,?_,?_,?_,?_,?_,?_,?_,?_,?_,?_,?_⟩<;>intros<;>intro d<;>intros<;>rfl
def zj :
  (∀x0 x1,DE P GI (.mv x0 x1))/\
  (∀x0 x1 x2,DE P GI (.pick x0 x1 x2))/\
  (∀x0 x1,DE P GI (.build x0 x1))/\
  (∀x0 x1 x2 x3,DE P GI (.buildSlice x0 x1 x2 x3))/\
  (∀x0 x1 x2 x3,DE P GI (.load x0 x1 x2 x3))/\
  (∀x0 x1,DE P GI (.loadT x0 x1))/\
  (∀x0 x1 x2 x3,DE P GI (.store x0 x1 x2 x3))/\
  (∀x0 x1 x2,DE P GI (.bin x0 x1 x2))/\
  (∀x0 x1 x2,DE P GI (.A_ x0 x1 x2))/\
  (∀x0 x1 x2 x3,DE P GI (.eqs x0 x1 x2 x3))/\
  (∀x0 x1 x2 x3 x4,DE P GI (.nZ x0 x1 x2 x3 x4))/\
  (∀x0,DE P GI (.xm x0))/\
  (∀x0,DE P GI (.nW x0))/\
  (∀x0 x1 x2,DE P GI (.n9 x0 x1 x2))/\
  (∀x0 x1 x2 x3,DE P GI (.lookup x0 x1 x2 x3))/\
  (∀x0,DE P GI (.not x0))/\
  (∀x0 x1,DE P GI (.conv x0 x1))/\
  (∀x0 x1,DE P GI (.iface x0 x1))/\
  (∀x0 x1 x2,DE P GI (.D2 x0 x1 x2))/\
  (∀x0 x1 x2,DE P GI (.nY x0 x1 x2))/\
  (∀x0 x1 x2 x3,DE P GI (.nX x0 x1 x2 x3))/\
  (∀x0 x1,DE P GI (.pa x0 x1))/\
  (∀x0 x1,DE P GI (.fieldAddr x0 x1))/\
  (∀x0 x1 x2,DE P GI (.indexAddr x0 x1 x2))/\
  (∀x0 x1,DE P GI (.nR x0 x1))/\
  (∀x0 x1,DE P GI (.extract x0 x1))/\
  (∀x0,DE P GI (.xN x0))/\
  (∀x0,DE P GI (.lI x0))/\
  (∀x0 x1,DE P GI (.isNil x0 x1))/\
  (∀x0,DE P GI (.empty x0))/\
  (∀x0 x1,DE P GI (.max x0 x1))/\
  (∀x0 x1,DE P GI (.min x0 x1))/\
  (∀x0 x1 x2,DE P GI (.assert x0 x1 x2)):=by
 refine⟨?_,?_,?_,?_,?_,?_,?_,?_,?_,?_,?_,?_,?_,?_,?_,?_,?_,?_,?_,?_,?_,?_,?_,?_,?_,?_,?_,?_,?_,?_,?_,?_,?_⟩<;>intros<;>intro d<;>intros<;>rfl
def ar(x0 x1 x2 x3 x4 x5):OE P GI (.append x0 x1 x2 x3 x4 x5):=dR.2.2.2.2.2.2.2.2.2.2.2.2.2.2.2.2.2.2.2.2.2.2.2.2.2.2.2.2.2.2.1 x0 x1 x2 x3 x4 x5
def ai(x0 x1 x2 x3 x4 x5):DE P GI (.append x0 x1 x2 x3 x4 x5):=cW.2.2.2.2.2.2.2.2.2.2.2.2.2.2.2.2.2.2.2.2.2.2.2.2.2.2.2.2.2.2.1 x0 x1 x2 x3 x4 x5
def grow(e:Nat)(l:List AV):AV:=.slice (if l=[]then .nil else .own e) l
def LX(e:Nat):grow e []=.slice .nil []:=by unfold grow;rw[if_pos rfl]
def Tf {S:af} {H:ah} {t e size cap i j:Nat} {l:List AV} {v:AV} {o:Ow} (hi:S i=grow e l) (hj:S j = .slice o [v]) (hv:aC size [v]=true) (hl:aC size l=true) (hn:l.length+1 < 1048576) :
  ∃dm,(dm=none\/dm=some i)/\aq S H (.append t e size cap (.t i) (.t j))=some { v:=grow e (l++[v]),dm:=dm }:=by
 have ei:ev S (.t i)=grow e l:=hi;have ej:ev S (.t j)=.slice o [v]:=hj
 cases l with
 |nil=>
  refine⟨none,.inl rfl,?_⟩;simp only[aq];rw[ei,ej,LX];simp[hv,grow]
 |cons x l=>
  refine⟨some i,.inr rfl,?_⟩
  have oO:l.length+1+1<1048576:=by simpa using hn
  simp only[aq];rw[ei,ej];simp[grow,hv,hl,aY,oO]
def Ci{S:af}{i d:Nat}{dm:Option Nat}(hd:dm=none\/dm=some i)(v:AV):(aB.S { v:=v,dm:=dm } S (some d)) d=v/\∀k,k≠d->k≠i->aB.S { v:=v,dm:=dm } S (some d) k=S k:=by
 rcases hd with rfl|rfl
 .refine⟨by simp[aB.S,aH,au],λk h1 _=>by simp[aB.S,aH,au,h1]⟩
 .refine⟨by simp[aB.S,aH,au],λk h1 h2=>by simp[aB.S,aH,au,h1,h2]⟩
def mK {K:af→ah→Prop} {Qp:AV→Prop} {S:af} {H:ah} {t e size cap d i j:Nat} {rest:List bc} (l:List AV) (v:AV) (o:Ow) (hi:S i=grow e l) (hj:S j = .slice o [v]) (hv:aC size [v]=true) (hl:aC size l=true) (hn:l.length+1 < 1048576)
  (h:∀S',S' d=grow e (l++[v])->(∀k,k≠d->k≠i->S' k=S k)->aV P GI rest K Qp S' H):aV P GI (⟨some d,none,.append t e size cap (.t i) (.t j)⟩::rest) K Qp S H:=by
 obtain⟨dm,IP,nv⟩:=Tf (t:=t) (cap:=cap) (H:=H) hi hj hv hl hn;obtain⟨k1,k2⟩:=Ci (S:=S) (d:=d) IP (grow e (l++[v]));rw[dR.2.2.2.2.2.2.2.2.2.2.2.2.2.2.2.2.2.2.2.2.2.2.2.2.2.2.2.2.2.2.1];simp only[an,nv];exact h _ k1 k2
def BT {K:af→ah→Prop} {S:af} {H:ah} {t e size cap d i j:Nat} {rest:List bc} (l:List AV) (v:AV) (o:Ow) (hi:S i=grow e l) (hj:S j = .slice o [v]) (hv:aC size [v]=true) (hl:aC size l=true) (hn:l.length+1 < 1048576)
  (h:∀S',S' d=grow e (l++[v])->(∀k,k≠d->k≠i->S' k=S k)->cM P GI rest K S' H):cM P GI (⟨some d,none,.append t e size cap (.t i) (.t j)⟩::rest) K S H:=by
 obtain⟨dm,IP,nv⟩:=Tf (t:=t) (cap:=cap) (H:=H) hi hj hv hl hn;obtain⟨k1,k2⟩:=Ci (S:=S) (d:=d) IP (grow e (l++[v]));rw[cW.2.2.2.2.2.2.2.2.2.2.2.2.2.2.2.2.2.2.2.2.2.2.2.2.2.2.2.2.2.2.1];simp only[an,nv];exact h _ k1 k2
def mM{α:Type}{f:α->AV}{size:Nat}{l:List α}(h:∀a,(f a).storable=true/\(f a).cells.length=size):aC size (l.map f)=true:=by
 simp[aC,h]
end
def HU {P:Program} {GI:World→Prop} (x d rest K Qp S H):aV P GI (⟨d,none,.panic x⟩::rest) K Qp S H=(match ev S x with
  |.iface t v=>Qp (.iface t v)
  |_=>False):=rfl
section
variable{P:Program}{a:Act}{w:World}{m:Nat}{Q:Exit->Act->World->Prop}
end
end Go.AL
namespace Go.Proofs.Tryz
open Go Go.AL Go.RowKit Go.Proofs Go.Sort
variable{GI:World->Prop}
def BN (n x:Int) (B:Nat) (W:World) (hc:W.cell? ⟨B,0,none⟩=some (.int .i64 n)) :
  FnGives prog 137 #[.pointer (some ⟨B,0,none⟩)] #[.int .i64 x] (.bool (decide (n<=x))) W:=by
 show Calls prog 137 #[.int .i64 x,.pointer (some ⟨B,0,none⟩)] W _
 go_enter func137,ntmps137
 go_wp2
 all_goals (go_ret;exact⟨by simp_all,0,rfl⟩)
def G_(hG:av GI):AC prog GI 147 [.slice .view [],.bj] (.ret (.int .i64 (-1))):=by
 refine dZ hG func147 ntmps147 c147 ?_;simp only[c147,aU,bq,aV,an,aI,aq,ev,aB.S,aB.H,aY,ct,cb];refine⟨λS H=>S 8=.int .i64 0/\S 7=.int .i64 0,λS H=>0,by simp[au,aH,AL.start,AV.aw],?_⟩;rintro S H ⟨h8,h7⟩;simp[au,aH,h8,h7,AV.aw,dO,post,cU,cL,cI,AV.out,AV.bu]
def HT(hG:av GI):AC prog GI 136 [.slice .view [],.bj] (.ret (.slice .view [])):=by
 refine dZ hG func136 ntmps136 c136 ?_;have h:=G_ hG;simp[c136,bq,aV,an,aI,aq,ev,aB.S,aB.H,aY,ct,cb,au,aH,AL.start,AV.aw,fz,fG,AV.vw,AV.bV,bR];refine⟨_,by kernel_rfl,h,by simp,?_⟩;simp[g_,dO,post,cU,cL,cI,AV.out,AV.bu,AV.aw,au,aH,AL.start]
def C7(w w2:World)(v:Value)(l:List Int):Prop:=
 (RD (λ_ _=>False) w2 (.slice .view []) v/\l=[])\/∃g cap,v=.slice (some ⟨g,0,none⟩) l.length cap/\w.heap.size<=g/\g<w2.heap.size/\l.length<=cap/\cap<=9223372036854775807/\Holds (Value.int .i64) w2 g 0 l.toArray
def II {Pr:Nat→Nat→Prop} {w:World} {l:List Int} {b off size:Nat} {cs:Nat→Value} (hc:∀ k,k < (ints l).length * size→Pr b (off+k)∧w.cell? ⟨b,off+k,none⟩=some (cs k)) (aL:∀ i (h:i < (ints l).length),((ints l)[i]).cells.length=size)
  (hr:∀i (h:i<(ints l).length) j (hj:j<((ints l)[i]).cells.length),RD Pr w (((ints l)[i]).cells[j]) (cs (i*size+j))) (k:Nat) (hk:k<l.length):w.cell? ⟨b,off+k,none⟩=some (.int .i64 l[k]):=by
 have eG:k<(ints l).length:=by rw[br];exact hk
 have h1:size=1:=by rw[<-aL k eG,bU];rfl
 subst h1;rw[(hc k (by omega)).2];have h2:=hr k eG 0 (by rw[bU];exact Nat.zero_lt_one)
 have h3:((ints l)[k]).cells[0]'(by rw[bU];exact Nat.zero_lt_one)=.int .i64 l[k]:=by simp[ints,AV.cells]
 rw[h3]at h2;have e:=(RV.data (al:=bO) _ _ h2).int_eq;simp only[Nat.mul_one,Nat.add_zero]at e;rw[e]
def CU {w:World} {c:Value} {l:List Int} {Pr:Nat→Nat→Prop} (hr:RD Pr w (vI l) c) (hl:l.length < 1000000) :
  Calls prog 124 #[c] w λe w1=>∃v1,e=.returned v1/\Below w.heap.size w w1/\C7 w w1 v1 l:=by
 obtain⟨ie,uC,hs⟩:=iZ 3 1;unfold vI at hr;generalize kz:ints l=es at hr
 have hle:es.length=l.length:=by rw[<-kz,br]
 cases hr with
 |fH=>
  have va:l=[]:=List.eq_nil_of_length_eq_zero (by rw[<-hle];rfl);subst va;refine(Tryz.slices_Clone_nil 0 0 w).mono ?_;rintro e w' ⟨rfl,rfl⟩;exact⟨_,rfl,Below.refl _ _,.inl ⟨.fH _,rfl⟩⟩
 |iG _ a0=>
  have va:l=[]:=List.eq_nil_of_length_eq_zero (by rw[<-hle];rfl);subst va
  have hG:av (λ_=>True):=λ_ _ _ _=>trivial
  refine(Ab hG [] rfl (by simp) w (λ_ _=>False) #[.slice (some a0) 0 0] trivial rfl (λi h h'=>?_)).mono ?_
  .match i,h with
   |0,_=>exact .data _ _ (.iG _ _)
  .rintro e w1 ⟨hb,hi,tw,c,rfl,h1,_⟩;have h2:=h1.bQ rfl;exact⟨c,rfl,hb,.inl ⟨h2.vq,rfl⟩⟩
 |slice _ _ b off cap size cs eu hn aL h1 hc hr=>
  subst kz;have CL:=II hc aL hr;rw[br]
  obtain⟨z,hz⟩:∃z,ie.zero=some z/\z.cells.size=1/\ie.bytes=8:=by
   have h:(prog.info? 3).map (λi=>(i.zero.map λz=>z.cells.size,i.bytes))=some (some 1,8):=by kernel_rfl
   rw[uC]at h;simp only[Option.map_some,Option.some.injEq,Prod.mk.injEq,Option.map_eq_some_iff]at h;obtain⟨⟨z,h1,h2⟩,h3⟩:=h;exact⟨z,h1,h2,h3⟩
  have Hj:∀w,(Go.sizeOf 3).run prog w=.ok 1 w:=λw=>by simp[sizeOf,typeInfo,uC,hs,Sem.run_bind]
  have jw:=Tryz.slices_Clone ie z 1 8 uC hz.1 hs hz.2.2 hz.2.1 (by omega) Hj b off l.length cap (l.map (Value.int .i64)) w (by simp) (by unfold maxLen;omega) (by omega) (λj u hj=>by
   simp only[List.getElem?_map,Option.map_eq_some_iff]at hj;obtain⟨x,hx,rfl⟩:=hj;obtain⟨hj,rfl⟩:=List.getElem?_eq_some_iff.1 hx
   exact CL j hj) (λu hu=>by
   obtain⟨x,_,rfl⟩:=List.mem_map.1 hu
   rfl)
  refine jw.mono ?_;rintro e w1 ⟨v1,rfl,cC,bt,hb⟩;refine⟨v1,rfl,hb,.inr ?_⟩
  rcases cC.2 with⟨h0,_⟩|⟨g,s_,cur,rfl,l5,hg,Vw,BO,lz,oq⟩
  .exact absurd h0 bt
  .simp only[Nat.mul_one]at lz oq;refine⟨g,s_,rfl,l5,(Array.getElem?_eq_some_iff.1 hg).1,Vw,by unfold maxLen at BO;omega,λj hj=>?_⟩
   have dJ:j<l.length:=by simpa using hj
   have xr:cur[j]?=some (.int .i64 l[j]):=by
    have:=congrArg (·[j]?) oq;simp only[List.getElem?_take,List.getElem?_map]at this;rw[if_pos dJ,List.getElem?_eq_getElem dJ]at this;rw[<-Array.getElem?_toList];exact this
   have hjc:j<cur.size:=(Array.getElem?_eq_some_iff.1 xr).1;rw[Nat.zero_add]
   constructor
   .simp[World.cell?,hg,xr,dJ]
   .simp[World.frozen?,hg]
def AF{w w1:World}{g:Nat}(hb:Below w.heap.size w w1)(hg:w.heap.size<=g)(q:Nat)(d:Array Int):Below w.heap.size w (putRow (Value.int .i64) (Sort.ahead w1 q) g 0 d):=by
 refine hb.trans ⟨rfl,rfl,rfl,by rw[size_putRow];exact Nat.le_refl _,λk hk=>?_⟩;show((w1.heap.modify g _)[k]?)=_;rw[Array.getElem?_modify,if_neg (by omega)]
def D_{w1:World}{g q:Nat}{d0 d1 l:List Int}(h0:Holds (Value.int .i64) w1 g 0 d0.toArray)(hs:(l++d1).length=d0.length):Holds (Value.int .i64) (putRow (Value.int .i64) (Sort.ahead w1 q) g 0 (l++d1).toArray) g 0 l.toArray:=by
 have h:=holds_putRow (Value.int .i64) (Sort.ahead w1 q) g 0 d0.toArray (l++d1).toArray (holds_ahead _ _ q _ _ _ h0) (by simpa using hs);intro j hj
 have dJ:j<l.length:=by simpa using hj
 obtain⟨h1,h2⟩:=h j (by simp;omega)
 have e:(l++d1).toArray[j]! =l.toArray[j]!:=by
  rw[getElem!_pos _ j (by simp;omega),getElem!_pos _ j (by simpa using dJ)];simp[dJ,List.getElem_append_left]
 rw[e]at h1;exact⟨h1,h2⟩
def WR(w:World):(zeroValue 3).run prog w=.ok (.int .i64 0) w:=by
 obtain⟨ie,uC,_⟩:=iZ 3 1
 have hz:ie.zero=some (.int .i64 0):=by
  have h:(prog.info? 3).map (·.zero)=some (some (.int .i64 0)):=by kernel_rfl
  rw[uC]at h;simpa using h
 simp[zeroValue,typeInfo,uC,hz,Sem.run_bind]
def Bd (hG:av GI) {w w1:World} (hb:Below w.heap.size w w1) (UC:GI w1) {v1:Value} {l:List Int} (hf:C7 w w1 v1 l) (hl:l.length < 1000000) {n:Int} {B:Nat} (hB:B < w.heap.size) (hc:w1.cell? ⟨B,0,none⟩=some (.int .i64 n)) :
  Calls prog 136 #[v1,.func (.func 137) #[] #[.pointer (some ⟨B,0,none⟩)]] w1 λe w2=>∃v2,e=.returned v2/\Below w.heap.size w w2/\C7 w w2 v2 (l.filter λx=>!decide (n<=x)):=by
 rcases hf with⟨fl,rfl⟩|⟨g,cap,rfl,UX,hg,eu,BO,hH⟩
 .refine(HT hG w1 (λ_ _=>False) #[v1,.func (.func 137) #[] #[.pointer (some ⟨B,0,none⟩)]] UC rfl (λi h h'=>?_)).mono ?_
  .match i,h with
   |0,_=>exact .data _ _ fl
   |1,_=>exact .bj _
  .rintro e w2 ⟨iw,hi,tw,c,rfl,h1,_⟩;have YW:Below w.heap.size w1 w2:=iw.mono hb.size;have hcd:RD (lL w1.heap.size (λ_ _=>False) hi) w2 (.slice .view []) c:=h1.bQ rfl;exact⟨c,rfl,hb.trans YW,.inl ⟨hcd.vq,rfl⟩⟩
 .have hBg:B≠g:=by omega
  have eg:∀args w,(callFunc 137 args).run prog w=.ok (.enter 137 args) w:=enters_of func137 (by kernel_rfl) rfl;have ao:B<w1.heap.size:=Nat.lt_of_lt_of_le hB hb.size
  have TK:=Tryz.slices_DeleteFunc (Value.int .i64) (λ_=>rfl) (λx=>decide (n<=x)) 137 #[.pointer (some ⟨B,0,none⟩)] eg 0 WR g 0 cap l.toArray w1
   (λW x Ew=>BN n x B W ((Ew.cell (p:=⟨B,0,none⟩) ao).trans hc))
   (λm os dk x _=>BN n x B _ (by
    unfold sortWorld;rw[cell?_grow _ _ _ (by show B<(putRow _ _ _ _ _).heap.size;rw[size_putRow];exact ao),cell?_putRow_other _ _ g 0 _ _ (Or.inl hBg)]
    exact hc)) hH (by simp;omega) (by simpa using eu)
  simp only[List.size_toArray]at TK;refine TK.mono ?_;rintro e w2 ⟨rfl,q,rfl⟩;have hlen:(l.filter λx=>!decide (n<=x)).length<=l.length:=List.length_filter_le _ _;refine⟨_,rfl,AF hb UX q _,.inr ⟨g,cap,rfl,UX,by rw[size_putRow];exact hg,by omega,BO,?_⟩⟩;exact D_ hH (by simp;omega)
def G' {n:Nat} {w0:World} {g:Gh} {S:af} {H:ah} {a:Act} {w w2:World} {v:Value} {l:List Int} (R:Rel prog w0 n bp g S H a w) (hb:Below w.heap.size w w2) (hf:C7 w w2 v l) :
  ∃g',g'.old=g.old/\Rel prog w0 n bp g' S H a w2/\RD g'.Pr w2 (vI l) v:=by
 have hle:g.base<=w.heap.size:=by rw[R.base];exact R.below.size
 rcases hf with⟨hv,rfl⟩|⟨b,cap,rfl,UX,hg,eu,_,hH⟩
 .exact⟨g,rfl,R.oA hb,hv.vq⟩
 .refine⟨{ g with hi:=au g.hi b l.length },rfl,R.grow hb rfl rfl rfl (λc hc=>⟨aJ _ _ (by omega),rfl⟩) (λc hc=>⟨by show au g.hi b l.length c=0;rw[aJ _ _ (by omega)];exact(R.fresh c (Nat.le_trans hb.size hc)).1,(R.fresh c (Nat.le_trans hb.size hc)).2⟩),?_⟩;unfold vI;have e:l.length=(ints l).length:=(br l).symm;have key:∀m,m=(ints l).length->RD (Gh.Pr { g with hi:=au g.hi b l.length }) w2 (.slice .view (ints l)) (.slice (some ⟨b,0,none⟩) m cap):=?_
  .exact key _ e
  rintro m rfl;refine .slice .view (ints l) b 0 cap 1 (λk=>.int .i64 (l.getD k 0)) (by rw[<-e];exact eu) (λh=>by cases h) (λi hi=>by rw[bU];rfl) (λi hi j hj=>?_) (λk hk=>?_) (λi hi j hj=>?_)
  .have:(ints l)[i].cells=[.int .i64 (l[i]'(by simpa[br]using hi))]:=by rw[bU];rfl
   have Dy:j=0:=by rw[this]at hj;simpa using hj
   subst Dy;simp only[this];rfl
  .rw[br,Nat.mul_one]at hk;obtain⟨h1,_⟩:=hH k (by simpa using hk);refine⟨.inr ⟨by show g.base<=b;omega,by show 0+k<au g.hi b l.length b;rw[aN];omega⟩,?_⟩;rw[h1,getElem!_pos _ k (by simpa using hk)];simp[hk]
  .have ec:i<l.length:=by simpa[br]using hi
   have:(ints l)[i].cells=[.int .i64 l[i]]:=by rw[bU];rfl
   have Dy:j=0:=by rw[this]at hj;simpa using hj
   subst Dy
   have e2:(ints l)[i].cells[0]=.int .i64 l[i]:=by simp only[this];rfl
   rw[e2,Nat.mul_one,Nat.add_zero]
   have:(l.getD i 0)=l[i]:=by simp[ec]
   rw[this];exact .int _ _
end Go.Proofs.Tryz
namespace Go.Proofs.Tryz
open Go Go.AL Go.RowKit Go.Proofs Go.Proofs.Tram
variable{GI:World->Prop}
structure Word where
 bD:List Int
 er:List Int
 free:Bool
def ez(w:Word):AV:=.agg [vI w.bD,vI w.er,.bool w.free]
def CG {n:Nat} {ro:Option Nat} {m:Nat} {ops:Array Oper} {i1 i2 i3 tc tb t1 t2 t3:Nat} {o1 o2 o3:Oper} {c1 c3:Call} (hG:av GI)
  (lN:ops[i1]?=some o1) (xT:o1.guard=none) (hp1:o1.op=.call c1) (j5:c1.callee=.value (.func 124)) (Gx:c1.args=#[.tmp tc]) (Bl:o1.dst=some t1)
  (im:ops[i2]?=some o2) (lE:o2.guard=none) (Y0:o2.op=.makeFunc (.func 137) #[] #[.tmp tb]) (p6:o2.dst=some t2)
  (pD:ops[i3]?=some o3) (PR:o3.guard=none) (hp3:o3.op=.call c3) (Mh:c3.callee=.value (.func 136)) (j0:c3.args=#[.tmp t1,.tmp t2]) (AY:o3.dst=some t3)
  (htb:tb≠t1) (G0:t1≠t2) (hn1:t1<n) (hn2:t2<n) (hn3:t3<n) (Be:tc<n) (yh:tb<n)
  {w0:World} {g:Gh} {S:af} {H:ah} {a:Act} {w:World} (db:GI w0) (R:Rel prog w0 n bp g S H a w) {l:List Int} (hl:l.length<1000000) {x:Int} (QG:S tc=vI l) (hSb:S tb=.box tb 0) (hHb:H tb=some [.int .i64 x])
  {K2:Old->af->ah->Prop} (hK:K2 g.old (au (au (au S t1 .bj) t2 .bj) t3 (vI (l.filter λk=>!decide (x<=k)))) H):
  wpOpsIn (FR ro) m prog ops (HQ prog w0 n K2) [i1,i2,i3] a w:=by
 have Zw:cG o1.op=true:=by rw[hp1];rfl
 have Zz:cG o2.op=true:=by rw[Y0];rfl
 have aad:cG o3.op=true:=by rw[hp3];rfl
 have aL:=R.size;have vc:=R.slot tc Be id;rw[QG]at vc;have vc:=vc.bQ rfl;have vb:=R.slot tb yh id;rw[hSb]at vb
 obtain⟨B,hB,ZF⟩:∃B,a.tmps.getD tb undef=.pointer (some ⟨B,0,none⟩)/\g.al tb=some B:=by
  generalize a.tmps.getD tb undef=c at vb
  cases vb with
  |data _ _ h=>cases h
  |box _ _ b h=>exact⟨b,rfl,h⟩
 obtain⟨cs,vs,ty,e0,b1,b2,b3,b4,b5,b6,b7,b8⟩:=R.box tb B ZF;rw[hHb]at e0;cases e0;have Tt:B<w.heap.size:=(Array.getElem?_eq_some_iff.1 b2).1
 have gk:w.cell? ⟨B,0,none⟩=some (.int .i64 x):=by
  have h0:0<vs.size:=by rw[<-b5];exact Nat.zero_lt_one
  have hv:=(RV.data (al:=bO) _ _ (b6 0 (by simp) h0)).int_eq;simp[World.cell?,b2,h0,hv]
 have hle:g.base<=w.heap.size:=by rw[R.base];exact R.below.size
 have qW:=R.below;rw[R.base]at qW hle;refine gm lN xT Zw (fJ (k:=124) (args:=#[a.tmps.getD tc undef]) w hp1 j5 (by rw[Gx];simp only[List.map_toArray,List.map_cons,List.map_nil];rfl) (by kernel_rfl)) (CU vc hl) ?_;rintro e w1 ⟨v1,rfl,mR,Q5⟩;refine⟨v1,rfl,?_⟩;rw[Bl];have UC:GI w1:=hG w0 w1 db (qW.trans (mR.mono hle));refine aT im lE Zz (pO Y0) ?_
 have eu:(#[Operand.tmp tb].map (a.put (some t1) v1).eval)=#[.pointer (some ⟨B,0,none⟩)]:=by
  simp only[List.map_toArray,List.map_cons,List.map_nil,zI _ _ _ _ (show t1<a.tmps.size by omega),if_neg htb];rw[show a.eval (.tmp tb)=a.tmps.getD tb undef from rfl,hB]
 rw[eu,p6];have RU:w1.cell? ⟨B,0,none⟩=some (.int .i64 x):=(mR.cell (p:=⟨B,0,none⟩) Tt).trans gk;refine gm pD PR aad (fJ (k:=136) (args:=#[v1,.func (.func 137) #[] #[.pointer (some ⟨B,0,none⟩)]]) w1 hp3 Mh ?_ (by kernel_rfl)) (Bd hG mR UC Q5 hl Tt RU) ?_
 .rw[j0];simp only[List.map_toArray,List.map_cons,List.map_nil,zI _ _ _ _ (show t2<(a.put (some t1) v1).tmps.size by rw[Lh];omega),zI _ _ _ _ (show t1<a.tmps.size by omega),if_neg G0,if_true]
 .rintro e w2 ⟨v2,rfl,iw,hf2⟩;refine⟨v2,rfl,?_⟩;obtain⟨g',Cw,R',dc⟩:=G' R iw hf2;rw[AY];refine⟨g',_,H,((R'.put t1 .bj v1 (by omega) (.bj _) trivial).put t2 .bj _ (by omega) (.bj _) trivial).put t3 _ _ (by omega) (.data _ _ dc) trivial,?_⟩;rw[Cw];exact hK
def eM:List Word->Nat->List Word
 |[],_=>[]
 |w::ws,k=>if k=0 then[]else{ bD:=w.bD.take (min k w.bD.length),er:=w.er.filter λc=>!decide (((min k w.bD.length:Nat):Int)<=c),free:=w.free }::eM ws (k-min k w.bD.length)
def Ks:AV.bV∘AV.aw=AV.bV:=by
 funext v
 cases v<;>first|rfl|skip
 rename_i o es;cases o<;>rfl
def vG(l:List Word):AV:=.slice (if l.isEmpty then .nil else .own 58) (l.map ez)
def jJ(sA:List AV)(ws done:List Word)(j lj:Nat)(z:List AV)(S:af)(H:ah):Prop:=
 S 1=.int .i64 (lj:Nat)/\S 4=.box 4 0/\S 5=.box 5 0/\S 12=.slice .view (ws.map ez)/\S 13=.int .i64 ws.length/\S 14=.int .i64 (j:Nat)/\H 4=some z/\H 5=some ((sA.map AV.aw).set 7 (vG done))
noncomputable def gF:ae:=ae.qb c65.qb.qb.qb.qa.qb.qb.qb.qb.qb.qa
def Zb (hG:av GI) {sA:List AV} {ws:List Word} {L:Nat} (hl:sA.length=10) (Ov:sA[7]? = some (.slice .view (ws.map ez))) (gx:∀ x∈sA,x.storable=true) (hlen:ws.length≤100000) (GZ:∀ w∈ws,w.bD.length < 1000000∧w.er.length < 1000000) (hL:L < 4611686018427387904) :
  AC prog GI 65 [.agg sA,.int .i64 (L:Nat)] (.ret (.agg ((sA.set 7 (.slice .view ((eM ws L).map ez))).map AV.bV))):=by
 refine AC.kP func65 rfl ntmps65 (by simp) λcc w=>?_
 refine eD hG c65.qa (λS' H'=>S' 1=.int .i64 (L:Nat)/\S' 2=.box 2 0/\S' 4=.box 4 0/\H' 2=some (sA.map AV.aw)/\∃z,H' 4=some z/\z.length=10) ?_ ?_
 .simp[c65,ae.qa,bq,aV,an,aI,aq,ev,aB.S,aB.H,au,aH,AL.start,AV.aw,AV.cells,AV.storable,hl,aZ,aY,az]
 rintro S1 H1 ⟨s1,s2,s4,h2,z,h4,hz⟩;have nj:List.take 10 (sA.map AV.aw)=sA.map AV.aw:=List.take_of_length_le (by simp;omega)
 have gG:∀x∈sA.map AV.aw,x.storable=true:=by
  intro x hx;obtain⟨y,hy,rfl⟩:=List.mem_map.1 hx;rw[AV.pE];exact gx y hy
 refine eD hG c65.qb.qa (λS' H'=>S' 1=.int .i64 (L:Nat)/\S' 2=.box 2 0/\S' 4=.box 4 0/\S' 5=.box 5 0/\H' 2=some (sA.map AV.aw)/\H' 4=some z/\H' 5=some (sA.map AV.aw)) ?_ ?_
 .simp[c65,ae.qa,ae.qb,bq,aV,an,aI,aq,az,ev,aB.S,aB.H,au,aH,aP,s1,s2,s4,h2,h4,HR.okB,hl,gK,nj,aZ,AV.cells,AV.storable,AV.bb,aY,AV.aw,aQ]
 rintro S2 H2 ⟨s1,s2,s4,s5,h2,h4,h5⟩;refine eD hG c65.qb.qb.qa (λS' H'=>S' 1=.int .i64 (L:Nat)/\S' 2=.box 2 0/\S' 4=.box 4 0/\S' 5=.box 5 0/\H' 2=some (sA.map AV.aw)/\H' 4=some z/\H' 5=some ((sA.map AV.aw).set 7 (vG []))) ?_ ?_
 .simp[c65,ae.qa,ae.qb,bq,aV,an,aI,aq,az,ev,aB.S,aB.H,au,aH,s1,s2,s4,s5,h2,h4,h5,HR.okB,hl,AV.cells,AV.storable,AV.bb,aY,AV.aw,sr,vG]
 rintro S3 H3 ⟨s1,s2,s4,s5,h2,h4,h5⟩
 have hd7:(sA.map AV.aw)[7]?=some (.slice .view (ws.map ez)):=by rw[List.getElem?_map,Ov];rfl
 show SW prog GI 47 none (.seq (.seq _ (.block 0 (.loop _))) (.seq _ .ret)) _ _ _ _;refine SW.seq (eD hG c65.qb.qb.qb.qa.qa (λS' H'=>jJ sA ws [] 0 L z S' H') ?_ ?_)
 .simp[c65,ae.qa,ae.qb,bq,aV,an,aI,aq,az,ev,aB.S,aB.H,au,aH,aP,s1,s2,s4,s5,h2,h4,h5,HR.okB,hd7,AV.aw,jJ]
 intro S4 H4 hF
 have rest:∀S' H' done j lj,jJ sA ws done j lj z S' H'->done=eM ws L->SW prog GI 47 none (J2 (J2 (J2 (J2 (T_ f65))))) (sj prog 47 f65.results.toList (.ret (.agg ((sA.set 7 (.slice .view ((eM ws L).map ez))).map AV.bV))) cc) (Old.plain cc w) S' H':=by
  rintro S' H' done j lj ⟨-,s4,s5,-,-,-,h4,h5⟩ hd
  obtain⟨C,hC⟩:∃C,(sA.map AV.aw).set 7 (vG done)=C:=⟨_,rfl⟩
  rw[hC]at h5
  have Z1:C.length=10:=by rw[<-hC];simp[hl]
  have hCd:(C.map AV.aw).map AV.bV=(sA.set 7 (.slice .view ((eM ws L).map ez))).map AV.bV:=by
   rw[<-hC,<-hd,List.map_map];have e:(AV.bV∘AV.aw)=AV.bV:=Ks;rw[e,List.map_set,List.map_set,List.map_map,e]
   congr 1
  have ht:List.take 10 (C.map AV.aw)=C.map AV.aw:=List.take_of_length_le (by simp;omega);show SW prog GI 47 none (.seq _ .ret) _ _ _ _;refine eD hG c65.qb.qb.qb.qb.qa (λS' H'=>S' 4=.box 4 0/\H' 4=some (C.map AV.aw)) ?_ ?_
  .have Vr:List.drop 10 z=[]:=List.drop_eq_nil_of_le (by omega);simp[c65,ae.qa,ae.qb,bq,aV,an,aI,aq,az,ev,aB.S,aB.H,au,aH,s4,s5,h4,h5,aP,HR.okB,Z1,AV.cells,AV.storable,AV.bb,aQ,aY,ht,hz,Vr,gK,AV.aw]
  rintro S6 H6 ⟨s4,h4⟩;obtain⟨i28,ND,Pw⟩:=iZ 36 10;obtain⟨fs,lM⟩:=uZ 36;refine SW.ret ⟨fq.plain rfl,rfl,_,?_,rfl⟩;show cU prog 47 [.cell 4 36] S6 H6=_;rw[<-hCd];simp[cU,cL,cI,s4,h4,ND,lM,Pw,aP,fE,Z1,AV.out,gK,l_,ht]
 refine SW.block (SW.loop (λo S' H'=>∃done j lj,o=Old.plain cc w/\j<=ws.length/\lj<=L/\done.length<=j/\eM ws L=done++eM (ws.drop j) lj/\jJ sA ws done j lj z S' H')
  (λS' _=>match S' 14 with|.int _ j=>ws.length-j.toNat|_=>0) ⟨[],0,L,rfl,Nat.zero_le _,Nat.le_refl _,Nat.le_refl _,rfl,hF⟩ ?_)
 rintro o S5 H5 ⟨done,j,lj,rfl,hj,FU,hdj,dF,hF⟩;have m14:S5 14=.int .i64 (j:Nat):=hF.2.2.2.2.2.1;show SW prog GI 47 none (.seq _ (.seq (.cond _ _ _) (.seq (.block 1 _) _))) _ _ _ _;refine eD hG c65.qb.qb.qb.qa.qb.qb.qb.qa (λS' H'=>S' 15=.bool (decide (j<ws.length))/\jJ sA ws done j lj z S' H') ?_ ?_
 .obtain⟨s1,s4,s5,bn,dz,fw,h4,h5⟩:=hF;simp[c65,ae.qa,ae.qb,bq,aV,an,aI,aq,az,ev,aB.S,aB.H,au,aH,jJ,s1,s4,s5,bn,dz,fw,h4,h5,dO]
 rintro S6 H6 ⟨kj,hF⟩
 by_cases ao:j<ws.length
 case neg=>
  refine SW.seq (SW.cond rfl false (by show S6 15=_;rw[kj];simp[ao]) (SW.exit ?_))
  have MK:j=ws.length:=by omega
  subst MK;rw[List.drop_length,show eM [] lj=[]from rfl,List.append_nil]at dF;exact rest S6 H6 done _ lj hF dF.symm
 case pos=>
  refine SW.seq (SW.cond rfl true (by show S6 15=_;rw[kj];simp[ao]) (SW.skip ?_));show SW prog GI 47 none (.seq (.block 1 _) _) _ _ _ _;obtain⟨s1,s4,s5,bn,dz,fw,h4,h5⟩:=hF;have SN:=GZ ws[j] (List.getElem_mem ao);have Ad:ws.drop j=ws[j]::ws.drop (j+1):=List.drop_eq_getElem_cons ao
  obtain⟨wd,Gi⟩:∃wd,ws[j]=wd:=⟨_,rfl⟩
  rw[Gi]at SN Ad;refine SW.seq (SW.block ?_);show SW prog GI 47 none (.seq _ (.seq (.seq _ (.cond _ _ _)) (.seq _ (.seq _ (.seq _ (.seq _ _)))))) _ _ _ _;refine eD hG gF.qa (λS' H'=>S' 7=.box 7 0/\H' 7=some [vI wd.bD,vI wd.er,.bool wd.free]/\jJ sA ws done j lj z S' H') ?_ ?_
  .have bt:¬(j:Int)<0:=by omega
   have GB:(ws.map ez)[j]?=some (ez wd):=by rw[List.getElem?_map,List.getElem?_eq_getElem ao,Gi];rfl
   simp[c65,gF,ae.qa,ae.qb,bq,aV,an,aI,aq,az,ev,aB.S,aB.H,au,aH,jJ,s1,s4,s5,bn,dz,fw,h4,h5,GB,ao,aP,ez,vI,AV.cells,AV.aw,aZ,HR.okB,AV.storable,aQ,AV.bb,aY,Gi]
  rintro S7 H7 ⟨s7,h7,hF⟩;refine SW.seq (eD hG gF.qb.qa.qa (λS' H'=>S' 19=.bool ((lj:Int)==0)/\S' 7=.box 7 0/\H' 7=some [vI wd.bD,vI wd.er,.bool wd.free]/\jJ sA ws done j lj z S' H') ?_ ?_)
  .obtain⟨s1,s4,s5,bn,dz,fw,h4,h5⟩:=hF;simp[c65,gF,ae.qa,ae.qb,bq,aV,an,aI,aq,az,ev,aB.S,aB.H,au,aH,jJ,s1,s4,s5,s7,bn,dz,fw,h4,h5,h7,dO,AV.aw]
  rintro S8 H8 ⟨AN,s7,h7,hF⟩
  by_cases va:lj=0
  case pos=>
   subst va;refine SW.cond rfl true (by show S8 19=_;rw[AN];rfl) (SW.exit ?_)
   have C3:eM (ws.drop j) 0=[]:=by rw[Ad];simp[eM]
   rw[C3,List.append_nil]at dF;exact rest S8 H8 done j 0 hF dF.symm
  case neg=>
   have qW:((lj:Int)==0)=false:=by simp;omega
   refine SW.cond rfl false (by show S8 19=_;rw[AN,qW]) (SW.skip ?_)
   obtain⟨nn,UD⟩:∃nn,min lj wd.bD.length=nn:=⟨_,rfl⟩
   have CQ:nn<=lj:=by omega
   have Rm:nn<=wd.bD.length:=by omega
   obtain⟨s1,s4,s5,bn,dz,fw,h4,h5⟩:=hF;show SW prog GI 47 none (.seq _ (.seq _ (.seq _ (.seq _ _)))) _ _ _ _;refine eD hG gF.qb.qb.qa (λS' H'=>S' 8=.box 8 0/\H' 8=some [.int .i64 nn]/\S' 7=.box 7 0/\H' 7=some [vI wd.bD,vI wd.er,.bool wd.free]/\jJ sA ws done j lj z S' H') ?_ ?_
   .have FE:min (lj:Int) (wd.bD.length:Int)=(nn:Int):=by omega
    simp[c65,gF,ae.qa,ae.qb,bq,aV,an,aI,aq,az,ev,aB.S,aB.H,au,aH,jJ,s1,s4,s5,s7,bn,dz,fw,h4,h5,h7,aP,vI,br,FE,AV.cells,AV.aw,aZ,HR.okB,AV.storable,aQ,AV.bb,aY]
   rintro S9 H9 ⟨s8,h8,s7,h7,s1,s4,s5,bn,dz,fw,h4,h5⟩;refine eD hG gF.qb.qb.qb.qa (λS' H'=>S' 8=.box 8 0/\H' 8=some [.int .i64 nn]/\S' 7=.box 7 0/\H' 7=some [vI wd.bD,vI wd.er,.bool wd.free]/\jJ sA ws done j (lj-nn) z S' H') ?_ ?_
   .have hw:IntKind.i64.wrap ((lj:Int)-(nn:Int))=((lj-nn:Nat):Int):=by rw[bl (by omega)];omega
    simp[c65,gF,ae.qa,ae.qb,bq,aV,an,aI,aq,az,ev,aB.S,aB.H,au,aH,jJ,s1,s4,s5,s7,s8,bn,dz,fw,h4,h5,h7,h8,aP,AV.aw,HR.okB,dO,hw,aY]
   rintro X_ H10 ⟨s8,h8,s7,h7,s1,s4,s5,bn,dz,fw,h4,h5⟩;refine eD hG gF.qb.qb.qb.qb.qa (λS' H'=>S' 8=.box 8 0/\H' 8=some [.int .i64 nn]/\S' 7=.box 7 0/\H' 7=some [vI (wd.bD.take nn),vI wd.er,.bool wd.free]/\jJ sA ws done j (lj-nn) z S' H') ?_ ?_
   .have bo:aC 1 (ints wd.bD)=true:=by simp[aC,ints,AV.storable,AV.cells]
    have kW:(ints wd.bD).take nn=ints (wd.bD.take nn):=by simp[ints]
    simp[c65,gF,ae.qa,ae.qb,bq,aV,an,aI,aq,az,ev,aB.S,aB.H,au,aH,jJ,s1,s4,s5,s7,s8,bn,dz,fw,h4,h5,h7,h8,aP,vI,br,AV.cells,AV.aw,HR.okB,AV.storable,aQ,AV.bb,aY,bound,bo,kW,Rm]
   rintro S11 H11 ⟨s8,h8,s7,h7,hF⟩;show SW prog GI 47 none (.seq _ _) _ _ _ _
   obtain⟨cf,RM⟩:∃cf,(wd.er.filter λc=>!decide (((nn:Nat):Int)<=c))=cf:=⟨_,rfl⟩
   refine SW.seq (SW.hand hG (p:=2) (lm:=[2,3,4]) (l2:=[5,6]) (mH:=[_,_]) (oh:=[_,_,_]) (lS:=[_,_]) rfl rfl rfl rfl (by kernel_rfl) (λ_ h=>h)
    (ua:=(gF.qb.qb.qb.qb.qb.qa.dl).take 2) (tH:=(gF.qb.qb.qb.qb.qb.qa.dl).drop 5) (by kernel_rfl) (by kernel_rfl) (by kernel_rfl) (by kernel_rfl)
    (K1:=λS' H'=>S' 34=vI wd.er/\S' 8=.box 8 0/\H' 8=some [.int .i64 nn]/\S' 7=.box 7 0/\H' 7=some [vI (wd.bD.take nn),vI wd.er,.bool wd.free]/\jJ sA ws done j (lj-nn) z S' H')
    (K2:=λo S' H'=>o=Old.plain cc w/\S' 37=vI cf/\S' 7=.box 7 0/\H' 7=some [vI (wd.bD.take nn),vI wd.er,.bool wd.free]/\jJ sA ws done j (lj-nn) z S' H')
    (K3:=λo S' H'=>o=Old.plain cc w/\S' 7=.box 7 0/\H' 7=some [vI (wd.bD.take nn),vI cf,.bool wd.free]/\jJ sA ws done j (lj-nn) z S' H') ?_ ?_ ?_ ?_)
   .obtain⟨s1,s4,s5,bn,dz,fw,h4,h5⟩:=hF;simp[c65,gF,ae.qa,ae.qb,ae.dl,aV,an,aI,aq,ev,aB.S,aB.H,au,aH,jJ,s1,s4,s5,s7,s8,bn,dz,fw,h4,h5,h7,h8,aP,vI,AV.aw,HR.okB]
   .rintro w0 g Rx Rf a w2 m db ho R ⟨Dk,s8,h8,s7,h7,hF⟩;refine CG hG rfl rfl rfl rfl rfl rfl rfl rfl rfl rfl rfl rfl rfl rfl rfl rfl (by decide) (by decide) (by decide) (by decide) (by decide) (by decide) (by decide) db R SN.2 Dk s8 h8 ?_;obtain⟨s1,s4,s5,bn,dz,fw,h4,h5⟩:=hF;refine⟨ho,by rw[<-RM];exact aN _ _ _,by simp[au,s7],h7,by simp[au,s1],by simp[au,s4],by simp[au,s5],by simp[au,bn],by simp[au,dz],by simp[au,fw],h4,h5⟩
   .rintro o Rx Rf ⟨rfl,s37,s7,h7,s1,s4,s5,bn,dz,fw,h4,h5⟩;refine⟨λ_ h=>h,?_⟩;simp[c65,gF,ae.qa,ae.qb,ae.dl,aV,an,aI,aq,ev,aB.S,aB.H,au,aH,jJ,s1,s4,s5,s7,s37,bn,dz,fw,h4,h5,h7,aP,vI,AV.aw,HR.okB,AV.cells,AV.storable,AV.bb,aQ,aY]
   .rintro o Rx Rf ⟨rfl,s7,h7,s1,s4,s5,bn,dz,fw,h4,h5⟩
    have Zo:eM ws L=(done++[⟨wd.bD.take nn,cf,wd.free⟩])++eM (ws.drop (j+1)) (lj-nn):=by
     rw[dF,Ad,List.append_assoc];simp only[eM,if_neg va,UD,RM,List.singleton_append]
    have OX:done.length<=100000:=by omega
    have bo:aC 3 (done.map ez)=true:=by simp[aC,ez,AV.storable,AV.cells]
    have h57:∀c,((sA.map AV.aw).set 7 c)[7]?=some c:=λc=>by simp[hl]
    have Tw:∀c,List.drop 7 ((sA.map AV.aw).set 7 c)=c::List.drop 8 (sA.map AV.aw):=λc=>by
     rw[List.drop_set,if_neg (by omega),Nat.sub_self,List.drop_eq_getElem_cons (by simp[hl])];rfl
    refine SW.mono (Q:=λe o S' H'=>e=.normal/\o=Old.plain cc w/\jJ sA ws (done++[⟨wd.bD.take nn,cf,wd.free⟩]) j (lj-nn) z S' H') ?_ (SW.sH hG bL (by kernel_rfl) (λ_ _ h=>h) (ac:=ae.qb gF.qb.qb.qb.qb.qb) (by kernel_rfl) ?_)
    .rintro e o S' H' ⟨rfl,rfl,hF⟩;show SW prog GI 47 none _ _ _ _ _;obtain⟨s1,s4,s5,bn,dz,fw,h4,h5⟩:=hF;refine SW.sH hG bL (by kernel_rfl) (λ_ _ h=>h) (ac:=ae.qb c65.qb.qb.qb.qa.qb.qb.qb.qb.qb) (by kernel_rfl) ?_;have A0:IntKind.i64.wrap ((j:Int)+1)=j+1:=bl (by omega);simp[c65,ae.qa,ae.qb,bq,aV,an,aI,aq,ev,aB.S,aB.H,au,aH,s1,s4,s5,bn,dz,fw,h4,h5,dO,AV.aw,A0,gy.bq,thenS,jJ];refine⟨⟨done++[⟨wd.bD.take nn,cf,wd.free⟩],?_⟩,?_⟩
     .exact⟨j+1,by omega,lj-nn,by omega,by simp;omega,Zo,rfl,by omega,rfl⟩
     rw[m14];show ws.length-(j+1)<ws.length-(j:Int).toNat;rw[Int.toNat_natCast];omega
    .unfold gy.bq
     cases done with
     |nil=>simp[c65,gF,ae.qa,ae.qb,ae.dl,bq,aV,an,aI,aq,ev,aB.S,aB.H,au,aH,jJ,s1,s4,s5,s7,bn,dz,fw,h4,h5,h7,aP,vI,AV.aw,HR.okB,AV.cells,AV.storable,AV.bb,sr,aY,hl,h57,Tw,vG,aC,AV.vw,AV.bV,ez]
     |cons d done=>
      have j1:done.length+1+1<1048576:=by simp at OX;omega
      simp[c65,gF,ae.qa,ae.qb,ae.dl,bq,aV,an,aI,aq,ev,aB.S,aB.H,au,aH,jJ,s1,s4,s5,s7,bn,dz,fw,h4,h5,h7,aP,vI,AV.aw,HR.okB,AV.cells,AV.storable,AV.bb,sr,aY,hl,h57,Tw,vG,aC,AV.vw,AV.bV,ez,j1]
def V3:AV->Option Word
 |.agg [s,c,.bool b]=>match Sj s with
  |some s=>match Sj c with
   |some c=>some ⟨s,c,b⟩
   |none=>none
  |none=>none
 |_=>none
def Un:AV->Option nK
 |.agg [.int .i64 a,.int .i64 b,.int .i64 c,.int .i64 d]=>some ⟨a,b,c,d⟩
 |_=>none
def aaF:AV->Option End
 |.agg [.int .i64 a,.int .i64 b]=>some (a,b)
 |_=>none
deriving instance DecidableEq for nK
deriving instance DecidableEq for Word
structure aD where
 da:List Int
 dh:List nK
 nT:Int
 nS:Int
 At:Int
 zH:Int
 eZ:Int
 words:List Word
 wide:Int
 rows:Int
deriving DecidableEq
def aA(s:aD):List AV:=[vI s.da,.slice .view (s.dh.map iv),.int .i64 s.nT,.int .i64 s.nS,.int .i64 s.At,.int .i64 s.zH,.int .i64 s.eZ,.slice .view (s.words.map ez),.int .i64 s.wide,.int .i64 s.rows]
def ee(s:aD):AV:=.agg (aA s)
def DI:AV->Option aD
 |.agg [w,.slice .view ps,.int .i64 a,.int .i64 b,.int .i64 c,.int .i64 d,.int .i64 e,.slice .view ws,.int .i64 f,.int .i64 g]=>match Sj w with
  |some w=>match FY Un ps with
   |some ps=>match FY V3 ws with
    |some ws=>some ⟨w,ps,a,b,c,d,e,ws,f,g⟩
    |none=>none
   |none=>none
  |none=>none
 |_=>none
def B_:AV->Option (List Int×List End)
 |.agg [o,.slice .view es]=>match Sj o with
  |some o=>match FY aaF es with
   |some es=>some (o,es)
   |none=>none
  |none=>none
 |_=>none
def q1(s:aD)(out:jn):List AV->Option jn
 |[a]=>match DI a with
  |some x=>bif decide (x=s)then some out else none
  |none=>none
 |_=>none
def q2(s:aD)(es:List End)(out:jn):List AV->Option jn
 |[a,b]=>match DI a with
  |some x=>match B_ b with
   |some y=>bif decide (x=s)&&decide (y=([],es))then some out else none
   |none=>none
  |none=>none
 |_=>none
def q3(s:aD)(es:List End)(n:Int)(out:jn):List AV->Option jn
 |[a,b,.int .i64 k]=>match DI a with
  |some x=>match B_ b with
   |some y=>bif decide (x=s)&&decide (y=([],es))&&decide (k=n)then some out else none
   |none=>none
  |none=>none
 |_=>none
def BU(l:List End):aC 2 (l.map cz)=true:=mM λa=>⟨rfl,rfl⟩
end Go.Proofs.Tryz
namespace Go.Proofs.Tryz
open Go Go.AL Go.RowKit Go.Proofs Go.Proofs.Tram
attribute [local simp] dS eF dR cW dT cV cZ ck cg dQ cd bP fB fC an aq ev aB.S aB.H aY au aH AL.start AV.cells AV.storable AV.bb aQ aZ aP HR.okB post cU cL cI AV.out AV.bu br bU fz fG AV.vw bR vI int bI az ct cb gB il dM cD aR AV.aw AV.bV dO
variable{GI:World->Prop}
def dD(n lo hi:Int):Bool:=decide (lo<=n)&&decide (n<=hi)
def mQ(hG:av GI)(n lo hi:Int):AC prog GI 113 [.int .i64 n,.int .i64 lo,.int .i64 hi] (.ret (.bool (dD n lo hi))):=by
 refine dZ hG func113 ntmps113 c113 ?_
 by_cases h1:lo<=n<;>by_cases h2:n<=hi<;>simp[c113,dD,h1,h2]
def kN(lo hi a qO:Int):Bool:=dD lo a qO&&dD hi lo qO
def Jd(hG:av GI)(lo hi a qO:Int):AC prog GI 117 [.agg [.int .i64 lo,.int .i64 hi],.int .i64 a,.int .i64 qO] (.ret (.bool (kN lo hi a qO))):=by
 refine dZ hG func117 ntmps117 c117 ?_;simp[c117];refine oc (mQ hG lo a qO) ?_;cases h1:dD lo a qO
 .simp[kN,h1]
 .simp;refine oc (mQ hG hi lo qO) ?_;simp[kN,h1]
def kc(s:aD)(n:Int):Bool:=dD n 0 (s.da.length-1)
def oI(s:aD)(p:nK):Bool:=kc s p.l&&kc s p.r&&kN p.lo p.hi 0 9
def Wt(hG:av GI)(s:aD)(hs:s.da.length<1000)(p:nK):AC prog GI 114 [ee s,iv p] (.ret (.bool (oI s p))):=by
 refine dZ hG func114 ntmps114 c114 ?_;have hw:IntKind.i64.wrap ((s.da.length:Int)-1)=s.da.length-1:=bl (by omega);refine bw (λS H=>S 2=.box 2 0/\S 3=.box 3 0/\H 2=some (aA s)/\H 3=some [.int .i64 p.l,.int .i64 p.r,.int .i64 p.lo,.int .i64 p.hi]) (by simp[ee,aA,iv]) ?_;rintro S H ⟨s2,s3,h2,h3⟩;simp[s2,s3,h2,h3,aA,hw];refine oc (mQ hG p.l 0 (s.da.length-1)) ?_;cases h1:dD p.l 0 (s.da.length-1)
 .simp[oI,kc,h1]
 .simp[s2,s3,h2,h3,aA,hw];refine oc (mQ hG p.r 0 (s.da.length-1)) ?_;cases h4:dD p.r 0 (s.da.length-1)
  .simp[oI,kc,h1,h4]
  .simp[s2,s3,h2,h3,aA];refine oc (Jd hG p.lo p.hi 0 9) ?_;simp[oI,kc,h1,h4]
def CX(a b:nK):Bool:=decide (a.l<b.l)||(a.l==b.l&&decide (a.r<b.r))
def Uh(hG:av GI)(a b:nK):AC prog GI 115 [iv a,iv b] (.ret (.bool (CX a b))):=by
 refine dZ hG func115 ntmps115 c115 ?_;refine bw (λS H=>S 2=.box 2 0/\S 3=.box 3 0/\H 2=some [.int .i64 a.l,.int .i64 a.r,.int .i64 a.lo,.int .i64 a.hi]/\H 3=some [.int .i64 b.l,.int .i64 b.r,.int .i64 b.lo,.int .i64 b.hi]) (by simp[iv]) ?_;rintro S H ⟨s2,s3,h2,h3⟩
 by_cases h1:a.l<b.l
 .simp[s2,s3,h2,h3,CX,h1]
 .cases h4:a.l==b.l
  .simp[s2,s3,h2,h3,CX,h1,h4]
  .by_cases h5:a.r<b.r<;>simp[s2,s3,h2,h3,CX,h1,h4,h5]
def Vi(hG:av GI)(n:Int):AC prog GI 116 [.int .i64 n] (.ret (.bool (!dD n 1 20))):=by
 refine dZ hG func116 ntmps116 c116 ?_;simp[c116];refine oc (mQ hG n 1 20) ?_;simp
def Wi(hG:av GI)(s:aD)(hs:s.da.length<1000)(n:Int):AC prog GI 161 [.int .i64 n,.ref (aA s)] (.ret (.bool (!kc s n))):=by
 refine dZ hG func161 ntmps161 c161 ?_;have hw:IntKind.i64.wrap ((s.da.length:Int)-1)=s.da.length-1:=bl (by omega);simp[c161,aA,hw];refine oc (mQ hG n 0 (s.da.length-1)) ?_;simp[kc]
def U9 (hG:av GI) (l:List Int) (hl:l.length < 1000000) (k:Nat) (caps:List AV) (nr:caps=[]∨∃ c,caps=[.ref c]) (p:Int→Bool) (hk:dW prog k=true) (h:∀ x∈l,AC prog GI k ([.int .i64 x]++caps) (.ret (.bool (p x)))) :
    AC prog GI 147 [.slice .view (l.map (.int .i64)),.func (.func k) [] caps] (.ret (.int .i64 (jC p l))):=by
  refine dZ hG func147 ntmps147 c147 ?_
  rcases nr with rfl|⟨c,rfl⟩<;>
  (simp[c147]
   refine dE 8 l.length (λi S H=>S 0=.slice .view (l.map (.int .i64))/\S 1=_/\S 7=.int .i64 l.length/\S 8=.int .i64 (i:Nat)/\∀j (hj:j<l.length),j<i->p l[j]=false) (λi S H h=>h.2.2.2.1) ⟨by simp,by simp<;>rfl,by simp,by simp,by simp⟩ ?_;rintro i hi S H ⟨s0,s1,s7,s8,hb⟩
   by_cases ao:i<l.length
   . have hw:IntKind.i64.wrap ((i:Int)+1)=i+1:=bl (by omega)
     have hx:=h l[i] (List.getElem_mem ao);cases hp:p l[i]
     . simp [List.getElem_map,s0,s1,s7,s8,ao]
       refine⟨_,hk,hx,by simp[bR],?_⟩;simp[s0,s1,s7,s8,ao,hp,hw];intro j hj eL
       by_cases vE:j=i
       . subst vE;exact hp
       . exact hb j hj (by omega)
     . simp [List.getElem_map,s0,s1,s7,s8,ao]
       refine⟨_,hk,hx,by simp[bR],?_⟩;simp[s0,s1,s7,s8,ao,hp,hw];exact mE ao hp hb
   . have ec:i=l.length:=by omega
     subst ec;simp[s0,s1,s7,s8]
     exact ku λj hj=>hb j hj hj)
def Mo (hG:av GI) (l:List Int) (hl:l.length < 1000000) (k:Nat) (caps:List AV) (nr:caps=[]∨∃ c,caps=[.ref c]) (p:Int→Bool) (hk:dW prog k=true) (h:∀ x∈l,AC prog GI k ([.int .i64 x]++caps) (.ret (.bool (p x)))) :
    AC prog GI 77 [.slice .view (l.map (.int .i64)),.func (.func k) [] caps] (.ret (.bool (l.any p))):=by
  have hF:=U9 hG l hl k caps nr p hk h;refine dZ hG func77 ntmps77 c77 ?_
  rcases nr with rfl|⟨c,rfl⟩<;>
  (simp[c77]
   refine⟨_,by kernel_rfl,hF,λ_=>rfl,?_⟩;simp
   exact lJ.symm)
def VA (hG:av GI) (l:List Word) (hl:l.length < 1000000) (k:Nat) (caps:List AV) (nr:caps=[]∨∃ c,caps=[.ref c]) (p:Word→Bool) (hk:dW prog k=true) (h:∀ x∈l,AC prog GI k ([ez x]++caps) (.ret (.bool (p x)))) :
    AC prog GI 160 [.slice .view (l.map ez),.func (.func k) [] caps] (.ret (.int .i64 (jC p l))):=by
  refine dZ hG func160 ntmps160 c160 ?_
  rcases nr with rfl|⟨c,rfl⟩<;>
  (simp[c160]
   refine dE 8 l.length (λi S H=>S 0=.slice .view (l.map ez)/\S 1=_/\S 7=.int .i64 l.length/\S 8=.int .i64 (i:Nat)/\∀j (hj:j<l.length),j<i->p l[j]=false) (λi S H h=>h.2.2.2.1) ⟨by simp,by simp<;>rfl,by simp,by simp,by simp⟩ ?_;rintro i hi S H ⟨s0,s1,s7,s8,hb⟩
   by_cases ao:i<l.length
   . have hw:IntKind.i64.wrap ((i:Int)+1)=i+1:=bl (by omega)
     have hx:=h l[i] (List.getElem_mem ao);cases hp:p l[i]
     . simp [List.getElem_map,ez,s0,s1,s7,s8,ao]
       refine⟨_,hk,hx,by simp[bR],?_⟩;simp[s0,s1,s7,s8,ao,hp,hw];intro j hj eL
       by_cases vE:j=i
       . subst vE;exact hp
       . exact hb j hj (by omega)
     . simp [List.getElem_map,ez,s0,s1,s7,s8,ao]
       refine⟨_,hk,hx,by simp[bR],?_⟩;simp[s0,s1,s7,s8,ao,hp,hw];exact mE ao hp hb
   . have ec:i=l.length:=by omega
     subst ec;simp[s0,s1,s7,s8]
     exact ku λj hj=>hb j hj hj)
def UL (hG:av GI) (l:List Word) (hl:l.length < 1000000) (k:Nat) (caps:List AV) (nr:caps=[]∨∃ c,caps=[.ref c]) (p:Word→Bool) (hk:dW prog k=true) (h:∀ x∈l,AC prog GI k ([ez x]++caps) (.ret (.bool (p x)))) :
    AC prog GI 118 [.slice .view (l.map ez),.func (.func k) [] caps] (.ret (.bool (l.any p))):=by
  have hF:=VA hG l hl k caps nr p hk h;refine dZ hG func118 ntmps118 c118 ?_
  rcases nr with rfl|⟨c,rfl⟩<;>
  (simp[c118]
   refine⟨_,by kernel_rfl,hF,λ_=>rfl,?_⟩;simp
   exact lJ.symm)
def iQ(l:List Int)(lo hi:Int):Bool:=mA (dD · lo hi) (λa b=>decide (a<b)) l
def Xq(hG:av GI)(l:List Int)(hl:l.length<1000000)(lo hi:Int):AC prog GI 162 [vI l,.int .i64 lo,.int .i64 hi] (.ret (.bool (iQ l lo hi))):=by
 refine dZ hG func162 ntmps162 c162 ?_;simp[c162];refine dE 11 l.length (λi S H=>S 0=vI l/\S 1=.int .i64 lo/\S 2=.int .i64 hi/\S 9=vI l/\S 10=.int .i64 l.length/\S 11=.int .i64 (i:Nat)/\(∀j (hj:j<l.length),j<i->dD l[j] lo hi=true)/\∀j (hj:j+1<l.length),j+1<i->decide (l[j]<l[j+1])=true) (λi S H h=>h.2.2.2.2.2.1) ⟨by simp,by simp,by simp,by simp,by simp,by simp,by simp,by simp⟩ ?_;rintro i cy S H ⟨s0,s1,s2,s9,bW,de,hb,hc⟩
 by_cases ao:i<l.length
 .have hw:IntKind.i64.wrap ((i:Int)+1)=i+1:=bl (by omega);simp[s0,s1,s2,s9,bW,de,ao];refine⟨_,by kernel_rfl,mQ hG l[i] lo hi,λ_=>rfl,?_⟩;cases hp:dD l[i] lo hi
  .simp[s0,s1,s2,s9,bW,de,ao,hw];exact xq ao hp
  .cases i with
   |zero=>
    simp[s0,s1,s2,s9,bW,de,ao];exact⟨bl (by omega),λj hj Dy=>by subst Dy;exact hp⟩
   |succ k=>
    have hk:((k+1:Nat):Int)-1=(k:Nat):=by omega
    have yb:IntKind.i64.wrap (k:Int)=k:=bl (by omega);have oB:IntKind.i64.wrap ((k:Int)+1+1)=k+1+1:=bl (by omega)
    have oU:k<l.length:=by omega
    have h0:(0:Int)<(k:Int)+1:=by omega
    by_cases hle:l[k+1]<=l[k]
    .simp[s0,s1,s2,s9,bW,de,ao,yb,oU,hle,h0];exact uJ (lt:=λa b=>decide (a<b)) ao (by simpa using hle)
    .simp[s0,s1,s2,s9,bW,de,ao,yb,oU,hle,h0,oB];refine⟨λj hj xQ=>?_,λj hj xQ=>?_⟩
     .by_cases e:j=k+1
      .subst e;exact hp
      .exact hb j hj (by omega)
     .by_cases e:j=k
      .subst e;omega
      .simpa using hc j hj (by omega)
 .have ec:i=l.length:=by omega
  subst ec;simp[s0,s1,s2,s9,bW,de];exact zL (λj hj=>hb j hj hj) (λj hj=>hc j hj hj)
def i_(s:aD)(w:Word):Bool:=dD w.bD.length 1 6&&!(w.bD.any λn=>!kc s n)&&iQ w.er 1 (w.bD.length-1)
def Xl(hG:av GI)(s:aD)(hs:s.da.length<1000)(w:Word)(h1:w.bD.length<1000)(h2:w.er.length<1000):AC prog GI 120 [ee s,ez w] (.ret (.bool (i_ s w))):=by
 have Om:=Mo hG w.bD (by omega) 161 [.ref (aA s)] (.inr ⟨_,rfl⟩) (λn=>!kc s n) (by kernel_rfl) (λn _=>Wi hG s hs n);have hw:IntKind.i64.wrap ((w.bD.length:Int)-1)=w.bD.length-1:=bl (by omega);refine dZ hG func120 ntmps120 c120 ?_;refine bw (λS H=>S 2=.box 2 0/\S 3=.box 3 0/\H 2=some (aA s)/\H 3=some [vI w.bD,vI w.er,.bool w.free]) (by simp[ee,aA,ez]) ?_;rintro S H ⟨s2,s3,e2,e3⟩;simp[s2,s3,e2,e3];refine⟨_,by kernel_rfl,mQ hG w.bD.length 1 6,λ_=>rfl,?_⟩;cases h3:dD w.bD.length 1 6
 .simp[i_,h3]
 .simp[s2,s3,e2,e3,aA];refine⟨_,by kernel_rfl,Om,λ_=>rfl,?_⟩
  cases h4:w.bD.any λn=>!kc s n
  .simp[s2,s3,e2,e3,hw];refine⟨_,by kernel_rfl,Xq hG w.er (by omega) 1 (w.bD.length-1),λ_=>rfl,?_⟩;simp[i_,h3,h4]
  .simp[i_,h3,h4]
def Xj(hG:av GI)(s:aD)(hs:s.da.length<1000)(w:Word)(h1:w.bD.length<1000)(h2:w.er.length<1000):AC prog GI 119 [ez w,.ref (aA s)] (.ret (.bool (!i_ s w))):=by
 refine dZ hG func119 ntmps119 c119 ?_;simp[c119,ez,aA];refine⟨_,by kernel_rfl,Xl hG s hs w h1 h2,λ_=>rfl,?_⟩;simp
structure rH(s:aD):Prop where
 da:s.da.length<1000
 dh:s.dh.length<1000
 words:s.words.length<1000
 bD:∀w∈s.words,w.bD.length<1000
 er:∀w∈s.words,w.er.length<1000
def oF(s:aD):Bool:=!(s.da.any λn=>!dD n 1 20)&&kN s.nT s.nS 0 9&&kN s.At s.zH 0 20&&dD s.eZ 1 20&&!(s.words.any λw=>!i_ s w)&&dD s.wide 1 400&&dD s.rows 1 3
def ba(s:aD):Bool:=dD s.da.length 1 6&&decide (s.dh.length<=6)&&dD s.words.length 1 4&&mA (oI s) CX s.dh&&oF s
def Ca(hG:av GI)(s:aD)(hs:rH s):AC prog GI 47 [ee s] (.ret (.bool (ba s))):=by
 have Om:=Mo hG s.da (by have:=hs.da;omega) 116 [] (.inl rfl) (λn=>!dD n 1 20) (by kernel_rfl) (λn _=>Vi hG n);have aaP:=UL hG s.words (by have:=hs.words;omega) 119 [.ref (aA s)] (.inr ⟨_,rfl⟩) (λw=>!i_ s w) (by kernel_rfl) (λw hw=>Xj hG s hs.da w (hs.bD w hw) (hs.er w hw));refine dZ hG func47 ntmps47 c47 ?_;refine bw (λS H=>S 1=.box 1 0/\H 1=some (aA s)) (by simp[ee,aA]) ?_;rintro S H ⟨s1,e1⟩;simp[s1,e1,aA];refine⟨_,by kernel_rfl,mQ hG s.da.length 1 6,λ_=>rfl,?_⟩;cases h1:dD s.da.length 1 6
 .simp[ba,h1]
 by_cases h2:(6:Int)<s.dh.length
 .simp[s1,e1,aA,h2]
  have:¬s.dh.length<=6:=by omega
  simp[ba,this]
 simp[s1,e1,aA,h2];refine⟨_,by kernel_rfl,mQ hG s.words.length 1 4,λ_=>rfl,?_⟩;cases h3:dD s.words.length 1 4
 .simp[ba,h3]
 simp[s1,e1,aA]
 have Ih:s.dh.length<=6:=by omega
 refine dE 27 s.dh.length (λi S H=>S 1=.box 1 0/\H 1=some (aA s)/\S 25=.slice .view (s.dh.map iv)/\S 26=.int .i64 s.dh.length/\S 27=.int .i64 (i:Nat)/\(∀j (hj:j<s.dh.length),j<i->oI s s.dh[j]=true)/\∀j (hj:j+1<s.dh.length),j+1<i->CX s.dh[j] s.dh[j+1]=true) (λi S H h=>h.2.2.2.2.1) ⟨by simp[s1],by simp[e1,aA],by simp,by simp,by simp,by simp,by simp⟩ ?_;clear s1 e1 S H;rintro i hi S H ⟨s1,e1,oT,sV,wL,hb,hc⟩
 by_cases ao:i<s.dh.length
 case neg=>
  have ec:i=s.dh.length:=by omega
  subst ec;have aaZ:mA (oI s) CX s.dh=true:=zL (λj hj=>hb j hj hj) (λj hj=>hc j hj hj);simp[s1,e1,oT,sV,wL,aA];refine⟨_,by kernel_rfl,Om,λ_=>rfl,?_⟩
  cases h4:s.da.any λn=>!dD n 1 20
  case true=>simp[ba,oF,h4]
  simp[s1,e1,aA];refine⟨_,by kernel_rfl,Jd hG s.nT s.nS 0 9,λ_=>rfl,?_⟩;cases h5:kN s.nT s.nS 0 9
  .simp[ba,oF,h5]
  simp[s1,e1,aA];refine⟨_,by kernel_rfl,Jd hG s.At s.zH 0 20,λ_=>rfl,?_⟩;cases h6:kN s.At s.zH 0 20
  .simp[ba,oF,h6]
  simp[s1,e1,aA];refine⟨_,by kernel_rfl,mQ hG s.eZ 1 20,λ_=>rfl,?_⟩;cases h7:dD s.eZ 1 20
  .simp[ba,oF,h7]
  simp[s1,e1,aA];refine⟨_,by kernel_rfl,aaP,λ_=>rfl,?_⟩
  cases h8:s.words.any λw=>!i_ s w
  case true=>simp[ba,oF,h8]
  simp[s1,e1,aA];refine⟨_,by kernel_rfl,mQ hG s.wide 1 400,λ_=>rfl,?_⟩;cases h9:dD s.wide 1 400
  .simp[ba,oF,h9]
  simp[s1,e1,aA];refine⟨_,by kernel_rfl,mQ hG s.rows 1 3,λ_=>rfl,?_⟩;simp[ba,oF,h1,Ih,h3,aaZ,h4,h5,h6,h7,h8,h9]
 case pos=>
  have hw:IntKind.i64.wrap ((i:Int)+1)=i+1:=bl (by omega);refine bw (λS H=>S 28=.bool true/\S 1=.box 1 0/\H 1=some (aA s)/\S 25=.slice .view (s.dh.map iv)/\S 26=.int .i64 s.dh.length/\S 27=.int .i64 (i:Nat)) (by simp[s1,e1,oT,sV,wL,ao]) ?_;clear s1 e1 oT sV wL S H;rintro S H ⟨FM,s1,e1,oT,sV,wL⟩;refine Jw FM (JT ?_);refine bw (λS H=>S 4=.box 4 0/\H 4=some (iv s.dh[i]).cells/\S 3=.int .i64 (i:Nat)/\S 1=.box 1 0/\H 1=some (aA s)/\S 25=.slice .view (s.dh.map iv)/\S 26=.int .i64 s.dh.length/\S 27=.int .i64 (i:Nat)) (by simp[s1,e1,oT,sV,wL,ao,iv]) ?_;clear s1 e1 oT sV wL FM S H;rintro S H ⟨s4,e4,s3,s1,e1,oT,sV,wL⟩;simp[s1,e1,s3,s4,e4,aA,iv];refine⟨_,by kernel_rfl,Wt hG s hs.da s.dh[i],λ_=>rfl,?_⟩;cases hp:oI s s.dh[i]
  .simp;simp[ba,xq ao hp]
  cases i with
  |zero=>
   simp[s1,s3,s4,oT,sV,wL,ao];exact⟨e1,bl (by omega),λj hj Dy=>by subst Dy;exact hp⟩
  |succ k=>
   have yb:IntKind.i64.wrap (k:Int)=k:=bl (by omega);have oB:IntKind.i64.wrap ((k:Int)+1+1)=k+1+1:=bl (by omega)
   have oU:k<s.dh.length:=by omega
   have h0:(0:Int)<(k:Int)+1:=by omega
   simp[s1,e1,s3,s4,e4,ao,yb,oU,h0,aA,iv];refine⟨_,by kernel_rfl,Uh hG s.dh[k] s.dh[k+1],λ_=>rfl,?_⟩;cases hq:CX s.dh[k] s.dh[k+1]
   .simp;simp[ba,uJ (p:=oI s) ao hq]
   .simp[s1,e1,s3,s4,oT,sV,wL,ao,oB];refine⟨rfl,λj hj xQ=>?_,λj hj xQ=>?_⟩
    .by_cases e:j=k+1
     .subst e;exact hp
     .exact hb j hj (by omega)
    .by_cases e:j=k
     .subst e;exact hq
     .exact hc j hj (by omega)
def VK(hG:av GI)(l:List Int)(hl:l.length<1000000)(v:Int):AC prog GI 148 [vI l,.int .i64 v] (.ret (.int .i64 (jC (v==·) l))):=by
 refine dZ hG func148 ntmps148 c148 ?_;simp[c148];refine dE 8 l.length (λi S H=>S 0=vI l/\S 1=.int .i64 v/\S 7=.int .i64 l.length/\S 8=.int .i64 (i:Nat)/\∀j (hj:j<l.length),j<i->(v==l[j])=false) (λi S H h=>h.2.2.2.1) ⟨by simp,by simp,by simp,by simp,by simp⟩ ?_;rintro i hi S H ⟨s0,s1,s7,s8,hb⟩
 by_cases ao:i<l.length
 .have hw:IntKind.i64.wrap ((i:Int)+1)=i+1:=bl (by omega);cases he:v==l[i]
  .simp[s0,s1,s7,s8,ao,he,hw];intro j hj eL
   by_cases e:j=i
   .subst e;simpa using he
   .simpa using hb j hj (by omega)
  .simp[s0,s1,s7,s8,ao,he,hw];exact mE ao he hb
 .have ec:i=l.length:=by omega
  subst ec;simp[s0,s1,s7,s8]
  exact ku λj hj=>hb j hj hj
def SX(hG:av GI)(l:List Int)(hl:l.length<1000000)(v:Int):AC prog GI 81 [vI l,.int .i64 v] (.ret (.bool (l.contains v))):=by
 refine dZ hG func81 ntmps81 c81 ?_;simp[c81];refine⟨_,by kernel_rfl,VK hG l hl v,λ_=>rfl,?_⟩;simp;have:=lJ (p:=(v==·)) (l:=l);rw[Bool.eq_iff_iff]at this;simpa using this.symm
def NR(a b:Int):mU [.int .i64 a,.int .i64 b]=some [a,b]:=rfl
structure bG where
 ef:List End
 work:List Int
 eE:List End
def cq(s:bG):List AV:=[.slice .view (bz s.ef),vI s.work,.slice .view (bz s.eE)]
def mB(s:bG):AV:=.agg (cq s)
def zy(hG:av GI)(n lo hi:Int):AC prog GI 72 [.int .i64 n,.int .i64 lo,.int .i64 hi] (.ret (.bool (dD n lo hi))):=by
 refine dZ hG func72 ntmps72 c72 ?_
 by_cases h1:lo<=n<;>by_cases h2:n<=hi<;>simp[c72,dD,h1,h2]
def qo(x:End):Bool:=!dD x.1 0 24||!dD x.2 x.1 24
def Bq(x:End):Bool:=!dD x.1 1 288||!dD x.2 x.1 400
def abe(hG:av GI)(x:End):AC prog GI 71 [cz x] (.ret (.bool (qo x))):=by
 refine dZ hG func71 ntmps71 c71 ?_;simp[c71,cz];refine oc (zy hG x.1 0 24) ?_;cases h1:dD x.1 0 24
 .simp[qo,h1]
 .simp;refine oc (zy hG x.2 x.1 24) ?_;simp[qo,h1]
def aac(hG:av GI)(x:End):AC prog GI 73 [cz x] (.ret (.bool (Bq x))):=by
 refine dZ hG func73 ntmps73 c73 ?_;simp[c73,cz];refine oc (zy hG x.1 1 288) ?_;cases h1:dD x.1 1 288
 .simp[Bq,h1]
 .simp;refine oc (zy hG x.2 x.1 400) ?_;simp[Bq,h1]
def sB(s:bG)(n:Int):Bool:=dD n 0 ((s.ef.length:Int)-1)
def Yl(hG:av GI)(s:bG)(hs:s.ef.length<1000000)(n:Int):AC prog GI 79 [mB s,.int .i64 n] (.ret (.bool (sB s n))):=by
 have hw:IntKind.i64.wrap ((s.ef.length:Int)-1)=s.ef.length-1:=bl (by omega);refine dZ hG func79 ntmps79 c79 ?_;simp[c79,mB,cq,bz,hw];refine oc (zy hG n 0 (s.ef.length-1)) ?_;simp[sB]
def aaJ(hG:av GI)(s:bG)(hs:s.ef.length<1000000)(n:Int):AC prog GI 78 [.int .i64 n,.ref (cq s)] (.ret (.bool (!sB s n))):=by
 refine dZ hG func78 ntmps78 c78 ?_;simp[c78,cq];refine oc (Yl hG s hs n) ?_;simp
def sG(l:List Int):Bool:=(List.range l.length).all λj=>!decide (j+1<l.length)||decide (l.getD j 0<l.getD (j+1) 0)
def sq(l:List Int):sG l=true↔∀j,j+1<l.length->l.getD j 0<l.getD (j+1) 0:=by
 simp only[sG,List.all_eq_true,List.mem_range,Bool.or_eq_true,Bool.not_eq_true',decide_eq_false_iff_not,decide_eq_true_eq]
 constructor
 .intro h j hj;rcases h j (by omega)with h|h
  .exact absurd hj h
  .exact h
 .intro h j _
  by_cases hj:j+1<l.length
  .exact .inr (h j hj)
  .exact .inl hj
def Z'(hG:av GI)(l:List Int)(hl:l.length<1000000):AC prog GI 76 [vI l] (.ret (.bool (sG l))):=by
 refine dZ hG func76 ntmps76 c76 ?_;simp[c76];refine dE 7 l.length (λi S H=>S 0=vI l/\S 5=vI l/\S 6=.int .i64 l.length/\S 7=.int .i64 (i:Nat)/\∀j,j+1<i->l.getD j 0<l.getD (j+1) 0) (λi S H h=>h.2.2.2.1) ⟨by simp,by simp,by simp,by simp,by simp⟩ ?_;rintro i hi S H ⟨s0,s5,s6,s7,hb⟩
 by_cases ao:i<l.length
 .have hw:IntKind.i64.wrap ((i:Int)+1)=i+1:=bl (by omega);have oB:IntKind.i64.wrap ((i:Int)-1)=i-1:=bl (by omega)
  by_cases h0:i=0
  .subst h0;have n_:IntKind.i64.wrap 1=1:=bl (by omega);simp[s0,s5,s6,s7,ao,n_]
  .have wc:0<i:=by omega
   have xS:((i:Int)-1).toNat=i-1:=by omega
   have m_:¬(i:Int)-1<0:=by omega
   have Kl:i-1<l.length:=by omega
   have h1:(1:Int)<=i:=by omega
   have h2:(i:Int)-1<l.length:=by omega
   by_cases hr:l[i]<=l[i-1]
   .simp[s0,s5,s6,s7,ao,hw,oB,wc,xS,m_,Kl,hr,h0,h1,h2];rw[<-Bool.not_eq_true,sq];intro h;have:=h (i-1) (by omega);rw[show i-1+1=i by omega]at this;simp[List.getD_eq_getElem?_getD,ao,Kl]at this;omega
   .simp[s0,s5,s6,s7,ao,hw,oB,wc,xS,m_,Kl,hr,h0,h1,h2];intro j hj
    by_cases eL:j+1<i
    .exact hb j eL
    .have:j=i-1:=by omega
     subst this;rw[show i-1+1=i by omega];simp[List.getD_eq_getElem?_getD,ao,Kl];omega
 .have ec:i=l.length:=by omega
  subst ec;simp[s0,s5,s6,s7];rw[sq];exact hb
def Wr (hG:av GI) (l:List End) (hl:l.length < 1000000) (k:Nat) (p:End→Bool) (hk:dW prog k=true) (h:∀ x∈l,AC prog GI k [cz x] (.ret (.bool (p x)))) :
  AC prog GI 145 [.slice .view (l.map cz),.func (.func k) [] []] (.ret (.int .i64 (jC p l))):=by
 refine dZ hG func145 ntmps145 c145 ?_;simp[c145];refine dE 8 l.length (λi S H=>S 0=.slice .view (l.map cz)/\S 1=_/\S 7=.int .i64 l.length/\S 8=.int .i64 (i:Nat)/\∀j (hj:j<l.length),j<i->p l[j]=false) (λi S H h=>h.2.2.2.1) ⟨by simp,by simp<;>rfl,by simp,by simp,by simp⟩ ?_;rintro i hi S H ⟨s0,s1,s7,s8,hb⟩
 by_cases ao:i<l.length
 .have hw:IntKind.i64.wrap ((i:Int)+1)=i+1:=bl (by omega);have hx:=h l[i] (List.getElem_mem ao);cases hp:p l[i]
  .simp[List.getElem_map,cz,s0,s1,s7,s8,ao];refine⟨_,hk,hx,by simp[bR],?_⟩;simp[s0,s1,s7,s8,ao,hp,hw];intro j hj eL
   by_cases vE:j=i
   .subst vE;exact hp
   .exact hb j hj (by omega)
  .simp[List.getElem_map,cz,s0,s1,s7,s8,ao];refine⟨_,hk,hx,by simp[bR],?_⟩;simp[s0,s1,s7,s8,ao,hp,hw];exact mE ao hp hb
 .have ec:i=l.length:=by omega
  subst ec;simp[s0,s1,s7,s8]
  exact ku λj hj=>hb j hj hj
def aah (hG:av GI) (l:List End) (hl:l.length < 1000000) (k:Nat) (p:End→Bool) (hk:dW prog k=true) (h:∀ x∈l,AC prog GI k [cz x] (.ret (.bool (p x)))) :
  AC prog GI 74 [.slice .view (l.map cz),.func (.func k) [] []] (.ret (.bool (l.any p))):=by
 have hF:=Wr hG l hl k p hk h;refine dZ hG func74 ntmps74 c74 ?_;simp[c74];refine⟨_,by kernel_rfl,hF,λ_=>rfl,?_⟩;simp;exact lJ.symm
def XJ (hG:av GI) (l:List End) (hl:l.length < 1000000) (k:Nat) (p:End→Bool) (hk:dW prog k=true) (h:∀ x∈l,AC prog GI k [cz x] (.ret (.bool (p x)))) :
  AC prog GI 146 [.slice .view (l.map cz),.func (.func k) [] []] (.ret (.int .i64 (jC p l))):=by
 refine dZ hG func146 ntmps146 c146 ?_;simp[c146];refine dE 8 l.length (λi S H=>S 0=.slice .view (l.map cz)/\S 1=_/\S 7=.int .i64 l.length/\S 8=.int .i64 (i:Nat)/\∀j (hj:j<l.length),j<i->p l[j]=false) (λi S H h=>h.2.2.2.1) ⟨by simp,by simp<;>rfl,by simp,by simp,by simp⟩ ?_;rintro i hi S H ⟨s0,s1,s7,s8,hb⟩
 by_cases ao:i<l.length
 .have hw:IntKind.i64.wrap ((i:Int)+1)=i+1:=bl (by omega);have hx:=h l[i] (List.getElem_mem ao);cases hp:p l[i]
  .simp[List.getElem_map,cz,s0,s1,s7,s8,ao];refine⟨_,hk,hx,by simp[bR],?_⟩;simp[s0,s1,s7,s8,ao,hp,hw];intro j hj eL
   by_cases vE:j=i
   .subst vE;exact hp
   .exact hb j hj (by omega)
  .simp[List.getElem_map,cz,s0,s1,s7,s8,ao];refine⟨_,hk,hx,by simp[bR],?_⟩;simp[s0,s1,s7,s8,ao,hp,hw];exact mE ao hp hb
 .have ec:i=l.length:=by omega
  subst ec;simp[s0,s1,s7,s8]
  exact ku λj hj=>hb j hj hj
def Z9 (hG:av GI) (l:List End) (hl:l.length < 1000000) (k:Nat) (p:End→Bool) (hk:dW prog k=true) (h:∀ x∈l,AC prog GI k [cz x] (.ret (.bool (p x)))) :
  AC prog GI 75 [.slice .view (l.map cz),.func (.func k) [] []] (.ret (.bool (l.any p))):=by
 have hF:=XJ hG l hl k p hk h;refine dZ hG func75 ntmps75 c75 ?_;simp[c75];refine⟨_,by kernel_rfl,hF,λ_=>rfl,?_⟩;simp;exact lJ.symm
def oz(s:bG):Bool:=dD s.ef.length 1 12&&dD s.eE.length 1 5&&!s.ef.any qo&&!s.eE.any Bq&&sG s.work&&!s.work.any (λn=>!sB s n)
def aaM(hG:av GI)(s:bG)(h1:s.ef.length<1000000)(h2:s.work.length<1000000)(h3:s.eE.length<1000000):AC prog GI 29 [mB s] (.ret (.bool (oz s))):=by
 refine dZ hG func29 ntmps29 c29 ?_;simp[c29,mB,cq,bz];refine oc (zy hG s.ef.length 1 12) ?_;cases e1:dD s.ef.length 1 12
 .simp[oz,e1]
 simp;refine oc (zy hG s.eE.length 1 5) ?_;cases e2:dD s.eE.length 1 5
 .simp[oz,e1,e2]
 simp;refine oc (aah hG s.ef h1 71 qo (by kernel_rfl) (λx _=>abe hG x)) ?_;cases e3:s.ef.any qo
 case true=>simp[oz,e1,e2,e3]
 simp;refine oc (Z9 hG s.eE h3 73 Bq (by kernel_rfl) (λx _=>aac hG x)) ?_;cases e4:s.eE.any Bq
 case true=>simp[oz,e1,e2,e3,e4]
 simp;refine oc (Z' hG s.work h2) ?_;cases e5:sG s.work
 .simp[oz,e1,e2,e3,e4,e5]
 simp;refine⟨_,by kernel_rfl,Mo hG s.work h2 78 [.ref (cq s)] (.inr ⟨_,rfl⟩) (λn=>!sB s n) (by kernel_rfl) (λn _=>aaJ hG s h1 n),λ_=>rfl,?_⟩;simp[oz,e1,e2,e3,e4,e5]
def iz:Int→List Int→List Int
  |a,[]=>[a]
  |a,x::l=>a::iz (a+x) l
def lK (l:List Int):∀ a,(iz a l).length=l.length+1:=by
  induction l with
  |nil=>intro a;rfl
  |cons x l ih=>intro a;simp[iz,ih]
def wm (l:List Int):∀ a i,i≤l.length→(iz a l)[i]? = some (a+(l.take i).sum):=by
  induction l with
  | nil => intro a i hi; have : i = 0 := by simpa using hi
           subst this;simp[iz]
  |cons x l ih =>
    intro a i hi
    cases i with
    |zero=>simp[iz]
    |succ i =>
      simp only[iz,List.getElem?_cons_succ,List.take_succ_cons,List.sum_cons];rw[ih _ i (by simpa using hi)]
      congr 1;omega
def Ay (l:List Int) (x:Int):∀ a,iz a (l++[x])=iz a l++[a+l.sum+x]:=by
  induction l with
  |nil=>intro a;simp[iz]
  |cons y l ih=>intro a;simp only[List.cons_append,iz,ih,List.sum_cons];congr 3;omega
def eQ(s:bG):List Int:=s.ef.map (·.1)
def dI(s:bG):List Int:=s.ef.map (·.2)
def cm(s:bG):List AV:=cq s++[vI (iz 0 (eQ s)),vI (iz 0 (dI s))]
def fb(s:bG):AV:=.agg (cm s)
def mu(s:bG):Prop:=∀x∈s.ef,0<=x.1/\x.1<=24/\0<=x.2/\x.2<=24
def yX (l:List Int) (h:∀ x∈l,0≤x∧x≤24):0≤l.sum∧l.sum≤24 * l.length:=by
  induction l with
  |nil=>simp
  |cons x l ih =>
    have h1:=h x (by simp)
    have h2:=ih λy hy=>h y (List.mem_cons_of_mem _ hy)
    simp only[List.sum_cons,List.length_cons];omega
def tx {s:bG} (hb:mu s) (i:Nat):0≤((eQ s).take i).sum∧((eQ s).take i).sum≤24 * s.ef.length:=by
  have h:=yX ((eQ s).take i) fun x hx=>by
    obtain⟨y,hy,rfl⟩:=List.mem_map.1 (List.mem_of_mem_take hx);have:=hb y hy;omega
  have:((eQ s).take i).length<=s.ef.length:=by simp[eQ];omega
  omega
def rz {s:bG} (hb:mu s) (i:Nat):0≤((dI s).take i).sum∧((dI s).take i).sum≤24 * s.ef.length:=by
  have h:=yX ((dI s).take i) fun x hx=>by
    obtain⟨y,hy,rfl⟩:=List.mem_map.1 (List.mem_of_mem_take hx);have:=hb y hy;omega
  have:((dI s).take i).length<=s.ef.length:=by simp[dI];omega
  omega
def PJ {u0 u1 u2 c7 c8:Value} (h7:c7.oneCell'=true) (h8:c8.oneCell'=true):prog.built 89 [(0,.agg #[u0,u1,u2]),(1,c7),(2,c8)]=some #[u0,u1,u2,c7,c8]:=by
  have e:∀c c7 c8:Value,prog.built 89 [(0,c),(1,c7),(2,c8)]=Instr.fill (λx=>#[(0,3),(3,1),(4,1)][x]?) #[.slice none 0 0,.slice none 0 0,.slice none 0 0,.slice none 0 0,.slice none 0 0] [(0,c),(1,c7),(2,c8)]:=by intro c c7 c8;kernel_rfl
  rw[e];have e6:(Value.agg #[u0,u1,u2]).cells=#[u0,u1,u2]:=rfl;simp[Instr.fill,jP h7,jP h8,e6]
def GX (s:bG) (i:Nat) (S:af) (H:ah):Prop :=
  S 2=.box 2 0/\(∃cs,H 2=some cs/\cs.length=5)/\S 3=.box 3 0/\H 3=some (cq s++[.slice (.own 3) (ints (iz 0 ((eQ s).take i))),.slice (.own 3) (ints (iz 0 ((dI s).take i)))])/\
  S 11=.slice .view (bz s.ef)/\S 12=.int .i64 s.ef.length/\S 13=.int .i64 (i:Nat)
noncomputable def aa3:List bc:=[⟨(some 18),none,.fieldAddr 3 (.t 3)⟩,
  ⟨(some 19),none,.loadT (.box 3) (.t 18)⟩,
  ⟨(some 20),none,.fieldAddr 3 (.t 3)⟩,
  ⟨(some 21),none,.load (.box 3) false 1 (.t 20)⟩,
  ⟨(some 22),none,.mv false (.t 4)⟩,
  ⟨(some 23),none,.indexAddr 1 (.t 21) (.t 22)⟩,
  ⟨(some 24),none,.load .ref false 1 (.t 23)⟩,
  ⟨(some 25),none,.fieldAddr 0 (.t 5)⟩,
  ⟨(some 26),none,.load (.box 5) false 1 (.t 25)⟩,
  ⟨(some 27),none,.bin .add (.t 24) (.t 26)⟩,
  ⟨(some 28),none,.buildSlice 28 3 1 [(.t 27)]⟩,
  ⟨(some 29),none,.append 28 3 1 8 (.t 19) (.t 28)⟩,
  ⟨(some 30),none,.fieldAddr 4 (.t 3)⟩,
  ⟨(some 31),none,.loadT (.box 3) (.t 30)⟩,
  ⟨(some 32),none,.fieldAddr 4 (.t 3)⟩,
  ⟨(some 33),none,.load (.box 3) false 1 (.t 32)⟩,
  ⟨(some 34),none,.mv false (.t 4)⟩,
  ⟨(some 35),none,.indexAddr 1 (.t 33) (.t 34)⟩,
  ⟨(some 36),none,.load .ref false 1 (.t 35)⟩,
  ⟨(some 37),none,.fieldAddr 1 (.t 5)⟩,
  ⟨(some 38),none,.load (.box 5) false 1 (.t 37)⟩,
  ⟨(some 39),none,.bin .add (.t 36) (.t 38)⟩,
  ⟨(some 40),none,.buildSlice 28 3 1 [(.t 39)]⟩,
  ⟨(some 41),none,.append 28 3 1 8 (.t 31) (.t 40)⟩,
  ⟨(some 42),none,.fieldAddr 3 (.t 3)⟩,
  ⟨none,none,.store (.box 3) 1 (.t 42) (.t 29)⟩,
  ⟨(some 43),none,.fieldAddr 4 (.t 3)⟩,
  ⟨none,none,.store (.box 3) 1 (.t 43) (.t 41)⟩]
def GC {P:Program} {a:Act} {o:Oper} {t:TypeId} {x y z:Operand} {i j k:Nat} {cells:Array Value} (w:World) (ho:o.op = .build t #[(i,x),(j,y),(k,z)]) (hb:P.built t [(i,a.eval x),(j,a.eval y),(k,a.eval z)]=some cells):(execOp a.eval o).run P w = .ok (.value (.agg cells)) w:=by
  have h:=run_build (P:=P) w t #[(i,a.eval x),(j,a.eval y),(k,a.eval z)] cells hb;unfold execOp;simp only[ho,Sem.run_bind,List.map_toArray,List.map_cons,List.map_nil,h,Result.andThen_ok]
  rfl
def HP {vs:Array Value} (h:vs.size=3):∃ u0 u1 u2,vs = #[u0,u1,u2]:=⟨vs[0],vs[1],vs[2],by
  apply Array.ext
  . simpa using h
  . intro i h1 h2
    match i,h2 with
    |0,_=>rfl
    |1,_=>rfl
    |2,_=>rfl⟩
def Bj (w:World) {b:Nat} {vs ju Lb:Array Value} {ty:TypeId} (h:w.heap[b]? = some (.cells vs ty (0,0))):(w.setRow b ju).setRow b Lb=w.setRow b Lb:=by
  have h1:=setRow_heap w b vs ju ty (0,0) h;rw[mn _ h1 (cs':=Lb),mn w h (cs':=ju),mn w h (cs':=Lb)];simp[World.putObj]
def sn:List AV:=[.slice .nil [],.slice .nil [],.slice .nil [],.slice .nil [],.slice .nil []]
def Il (Pr:Nat→Nat→Prop) (w:World):ng Pr w sn #[.slice none 0 0,.slice none 0 0,.slice none 0 0,.slice none 0 0,.slice none 0 0]:=by
  refine⟨rfl,λi h h'=>?_,λi h=>?_⟩
  . match i,h with
    |0,_|1,_|2,_|3,_|4,_=>exact .fH _
  . match i,h with
    |0,_|1,_|2,_|3,_|4,_=>rfl
noncomputable def Bv:ae:=ae.qb c31.qb.qb.qa.qb.qb
def Z4 (hG:av GI) (s:bG) (hl:s.ef.length≤1000) (hb:mu s):AC prog GI 31 [mB s] (.ret (fb s)):=by
  refine AC.kP func31 rfl ntmps31 (by simp) λcc w=>?_
  refine eD hG c31.qa (λS' H'=>S' 1=.box 1 0/\H' 1=some (cq s)/\S' 2=.box 2 0/\H' 2=some sn) ?_ ?_
  . simp[c31,ae.qa,mB,cq,sn]
  rintro S1 H1 ⟨s1,h1,s2,h2⟩
  refine SW.seq (SW.hand hG (p:=3) (lm:=[3,4,5]) (l2:=[]) (mH:=[_,_,_]) (oh:=[_,_,_]) (lS:=[]) rfl rfl rfl rfl (by kernel_rfl) (fun _ h=>h)
    (ua:=(c31.qb.qa.dl).take 3) (tH:=[]) (by kernel_rfl) rfl (by kernel_rfl) rfl
    (K1:=λS H=>S 1=.box 1 0/\H 1=some (cq s)/\S 2=.box 2 0/\H 2=some sn/\S 6=mB s/\S 7=.slice (.own 3) [.int .i64 0]/\S 8=.slice (.own 3) [.int .i64 0])
    (K2:=λo S H=>o=Old.plain cc w/\S 1=.box 1 0/\H 1=some (cq s)/\S 2=.box 2 0/\H 2=some sn/\S 3=.box 3 0/\H 3=some (cq s++[.slice (.own 3) [.int .i64 0],.slice (.own 3) [.int .i64 0]]))
    (K3:=λo S H=>o=Old.plain cc w/\S 1=.box 1 0/\H 1=some (cq s)/\S 2=.box 2 0/\H 2=some sn/\S 3=.box 3 0/\H 3=some (cq s++[.slice (.own 3) [.int .i64 0],.slice (.own 3) [.int .i64 0]])) ?_ ?_ ?_ ?_)
  . simp[c31,ae.qa,ae.qb,ae.dl,mB,cq,aC,s1,h1,s2,h2]
  . rintro w0 g S2 H2 a w' m db ho R ⟨s1,h1,s2,h2,s6,s7,s8⟩
    have aL:=R.size;have r6:=R.slot 6 (by decide) id;rw[s6]at r6
    obtain ⟨u0,u1,u2,e6⟩:∃ u0 u1 u2,a.tmps.getD 6 undef = .agg #[u0,u1,u2]:=by
      generalize a.tmps.getD 6 undef=c at r6
      cases r6 with
      |data _ _ h =>
        cases h with
        |agg cs vs hl jY hr =>
          obtain⟨u0,u1,u2,rfl⟩:=HP (vs:=vs) (by rw[<-hl]<;>rfl);exact⟨u0,u1,u2,rfl⟩
    rw[e6]at r6
    have RF:∀ j (h:j < (cq s).length) (h':j < #[u0,u1,u2].size),RD g.Pr w' (cq s)[j] #[u0,u1,u2][j]:=by
      cases r6 with
      |data _ _ h =>
        cases h with
        |agg cs vs hl jY hr=>exact hr
    have r7:RD g.Pr w' (.slice (.own 3) [.int .i64 0]) (a.tmps.getD 7 undef):=by
      have:=R.slot 7 (by decide) id;rw[s7]at this;exact this.bQ rfl
    have r8:RD g.Pr w' (.slice (.own 3) [.int .i64 0]) (a.tmps.getD 8 undef):=by
      have:=R.slot 8 (by decide) id;rw[s8]at this;exact this.bQ rfl
    obtain⟨c7,e7⟩:∃c,a.tmps.getD 7 undef=c:=⟨_,rfl⟩
    obtain⟨c8,e8⟩:∃c,a.tmps.getD 8 undef=c:=⟨_,rfl⟩
    rw[e7]at r7;rw[e8]at r8;have o7:c7.oneCell'=true:=r7.one rfl;have o8:c8.oneCell'=true:=r8.one rfl
    have df:∀ (a:Act) (d t:Nat) (c:Value),t≠d→(a.put (some d) c).tmps.getD t undef=a.tmps.getD t undef:=fun a d t c h=>by
      simp[Act.put,Array.getElem?_setIfInBounds_ne (Ne.symm h)]
    have gq:∀ (a:Act) (d:Nat) (c:Value),a.tmps.size=46→d < 46→(a.put (some d) c).tmps.getD d undef=c:=fun a d c h hd=>by
      simp[Act.put,h,hd]
    refine aT rfl rfl (by rfl) (GC (t:=89) (x:=.tmp 6) (y:=.tmp 7) (z:=.tmp 8) w' rfl (cells:=#[u0,u1,u2,c7,c8]) ?_) ?_
    . show prog.built 89 [(0,a.tmps.getD 6 undef),(1,a.tmps.getD 7 undef),(2,a.tmps.getD 8 undef)]=_
      rw[e6,e7,e8];exact PJ o7 o8
    have R3:=R.forget 9 (by decide) (.agg #[u0,u1,u2,c7,c8])
    obtain⟨a3,j0⟩:∃a3,a.put (some 9) (.agg #[u0,u1,u2,c7,c8])=a3:=⟨_,rfl⟩
    show wpOpsIn _ _ _ _ _ [4,5] (a.put (some 9) _) w';rw[j0]at R3⊢;have z3:a3.tmps.size=46:=R3.size
    have f9:a3.tmps.getD 9 undef=.agg #[u0,u1,u2,c7,c8]:=by rw[<-j0];exact gq _ _ _ aL (by decide)
    have f7:a3.tmps.getD 7 undef=c7:=by rw[<-j0,df _ _ _ _ (by decide)];exact e7
    have f8:a3.tmps.getD 8 undef=c8:=by rw[<-j0,df _ _ _ _ (by decide)];exact e8
    obtain⟨it,hi,hz⟩:=Option.bind_eq_some_iff.1 (show(prog.info? 89).bind (·.zero)=some (.agg #[.slice none 0 0,.slice none 0 0,.slice none 0 0,.slice none 0 0,.slice none 0 0]) by kernel_rfl)
    have Lk:it.size=5:=by
      have:(prog.info? 89).map (·.size)=some 5:=by kernel_rfl
      rw[hi]at this;exact Option.some.inj this
    refine aT rfl rfl (by rfl) (ra (t:=89) rfl hi hz) ?_
    obtain ⟨g4,q1,q2,q3,q4,q5,R4⟩:=R3.Ss 3 (by decide) (by rw [ho];exact fun h=>h) sn _ 89 (Il _ _) (fun g' j h h'=>by
      match j,h with
      |0,_|1,_|2,_|3,_|4,_=>exact⟨trivial,trivial⟩)
    obtain⟨b,hb⟩:∃b,w'.heap.size=b:=⟨_,rfl⟩
    obtain⟨w4,kI⟩:∃w4,w'.alloc (.cells #[.slice none 0 0,.slice none 0 0,.slice none 0 0,.slice none 0 0,.slice none 0 0] 89)=w4:=⟨_,rfl⟩
    have J3:w4.heap[b]?=some (.cells #[.slice none 0 0,.slice none 0 0,.slice none 0 0,.slice none 0 0,.slice none 0 0] 89 (0,0)):=by rw[<-kI,<-hb];exact World.alloc_heap_new w' _
    have fV:Below w'.heap.size w' w4:=by rw[<-kI];exact(Below.refl _ _).alloc (Nat.le_refl _) _
    have EI:g4.Pr=g.Pr:=by unfold Gh.Pr;rw[q1,q2,q3]
    have Wo:aE g.Pr g.Pr w' w4:=aE.gr (λb h=>fV.block b h) λ_ _ _ h=>h
    rw[hb]at R4 q5
    obtain⟨a4,jG⟩:∃a4,a3.put (some 3) (.pointer (some ⟨b,0,none⟩))=a4:=⟨_,rfl⟩
    show wpOpsIn _ _ _ _ _ [5] (a3.put (some 3) (.pointer (some ⟨w'.heap.size,0,none⟩))) (w'.alloc (.cells #[.slice none 0 0,.slice none 0 0,.slice none 0 0,.slice none 0 0,.slice none 0 0] 89));rw[hb,kI,jG];rw[kI,jG]at R4
    have g9:a4.tmps.getD 9 undef=.agg #[u0,u1,u2,c7,c8]:=by rw[<-jG,df _ _ _ _ (by decide)];exact f9
    have g7:a4.tmps.getD 7 undef=c7:=by rw[<-jG,df _ _ _ _ (by decide)];exact f7
    have g8:a4.tmps.getD 8 undef=c8:=by rw[<-jG,df _ _ _ _ (by decide)];exact f8
    have g3:a4.tmps.getD 3 undef=.pointer (some ⟨b,0,none⟩):=by rw[<-jG];exact gq _ _ _ z3 (by decide)
    have jY:∀ u∈(Value.agg #[u0,u1,u2,c7,c8]).cells.toList,u.oneCell'=true:=by
      have h3:∀j (h:j<3),(#[u0,u1,u2][j]).oneCell'=true:=λj h=>(RF j h h).one (by match j,h with|0,_|1,_|2,_=>rfl)
      intro u hu;simp[Value.cells]at hu;rcases hu with rfl|rfl|rfl|rfl|rfl
      . exact h3 0 (by decide)
      . exact h3 1 (by decide)
      . exact h3 2 (by decide)
      . exact o7
      . exact o8
    refine eC rfl rfl (by rfl) (iV (t:=89) (x:=.tmp 3) (y:=.tmp 9) rfl g3 hi J3 g9 (by rw[Lk]<;>rfl) (by rw[Lk]<;>rfl) jY) ?_;show HQ prog w0 46 _ .normal a4 (w4.setRow b #[u0,u1,u2,c7,c8])
    have Ho:∀{v:AV}{c:Value},RD g.Pr w' v c->RD g.Pr w4 v c:=λh=>h.mono Wo
    obtain⟨g5,p1,p2,p3,p4,R5,Jy⟩:=R4.take (x:=.tmp 7) (y:=.t 7) rfl (λ_ _=>id) (.cell 3 3)
    have Ox:g5.Pr=g.Pr:=by rw[<-EI];unfold Gh.Pr;rw[p1,p2,p4]
    have ev7:AL.ev (au (λt=>aZ 3 (au S2 9 .bj t)) 3 (.box 3 0)) (.t 7)=.slice (.own 3) [.int .i64 0]:=by simp[AL.ev,au,s7,aZ]
    rw[ev7]at Jy
    have Jy:dw prog w4 g5 (.cell 3 3) (.slice (.own 3) [.int .i64 0]) c7:=by rw[<-g7];exact Jy
    have R6:=R5.yv 3 b (by rw [p3];exact q5) _ #[u0,u1,u2,c7,c8] 89 J3 (cq s++[.slice (.own 3) [.int .i64 0],.slice .view [.int .i64 0]]) rfl (fun j h h'=>by
      rw[Ox]
      match j,h with
      |0,_=>exact Ho (RF 0 (by simp[cq]) (by simp))
      |1,_=>exact Ho (RF 1 (by simp[cq]) (by simp))
      |2,_=>exact Ho (RF 2 (by simp[cq]) (by simp))
      |3,_=>exact Ho r7
      |4,_=>exact RD.yR (Ho r8)) (λj h h'=>by
      match j,h with
      |0,_|1,_|2,_|4,_=>trivial
      |3,_=>exact Jy) (λj h=>by
      match j,h with
      |0,_|1,_|2,_|3,_|4,_=>rfl)
    have Bf:(w4.setRow b #[u0,u1,u2,c7,c8]).heap[b]?=some (.cells #[u0,u1,u2,c7,c8] 89 (0,0)):=setRow_heap w4 b _ _ _ _ J3;obtain⟨O2,t1,t2,t3,t4,R7,JL⟩:=R6.take (x:=.tmp 8) (y:=.t 8) rfl (λ_ _=>id) (.cell 3 4)
    have ZR:AL.ev (uQ (au (λt=>aZ 3 (au S2 9 .bj t)) 3 (.box 3 0)) (.t 7)) (.t 8)=.slice (.own 3) [.int .i64 0]:=by simp[AL.ev,uQ,aY,au,s8,aZ]
    rw[ZR]at JL
    have JL:dw prog (w4.setRow b #[u0,u1,u2,c7,c8]) O2 (.cell 3 4) (.slice (.own 3) [.int .i64 0]) c8:=by
      have h:=JL
      change dw _ _ _ _ _ (a4.tmps.getD 8 undef)at h
      rw[g8]at h;exact h
    have al7:O2.al 3=some b:=by rw[t3,p3];exact q5
    obtain⟨cs,vs,ty,k0,k1,k2,k3,k4,k5,k6,k7,k8⟩:=R7.box 3 b al7;rw[aN]at k0;cases k0;rw[Bf]at k2;cases k2
    have XZ:O2.Pr=g.Pr:=by rw[<-Ox];unfold Gh.Pr;rw[t1,t2,t4]
    have r8':RD O2.Pr (w4.setRow b #[u0,u1,u2,c7,c8]) (.slice (.own 3) [.int .i64 0]) c8:=by
      have:=R6.slot 8 (by decide) id;have e:uQ (au (λt=>aZ 3 (au S2 9 .bj t)) 3 (.box 3 0)) (.t 7) 8=.slice (.own 3) [.int .i64 0]:=ZR;rw[e,g8]at this;rw[XZ,<-Ox];exact this.bQ rfl
    have R8:=R7.yv 3 b al7 _ #[u0,u1,u2,c7,c8] 89 Bf (cq s++[.slice (.own 3) [.int .i64 0],.slice (.own 3) [.int .i64 0]]) rfl (fun j h h'=>by
      match j,h with
      |0,_=>exact k6 0 (by simp[cq]) (by simp)
      |1,_=>exact k6 1 (by simp[cq]) (by simp)
      |2,_=>exact k6 2 (by simp[cq]) (by simp)
      |3,_=>exact k6 3 (by simp[cq]) (by simp)
      |4,_=>exact r8') (λj h h'=>by
      match j,h with
      |0,_|1,_|2,_=>trivial
      |3,_=>exact k7 3 (by simp[cq]) (by simp)
      |4,_=>exact JL) (λj h=>by
      match j,h with
      |0,_|1,_|2,_|3,_|4,_=>rfl)
    rw[Bj w4 J3]at R8;refine⟨O2,_,_,R8,by rw[t2,p2,q2,ho],by simp[uQ,aY,au,s1,aZ],by simp[au,h1],by simp[uQ,aY,au,s2,aZ],by simp[au,h2],by simp[uQ,aY,au],by simp[au]⟩
  . rintro o S2 H2 h
    exact⟨λd hd=>by rw[h.1]at hd;exact hd,h⟩
  rintro o S2 H2 ⟨rfl,s1,h1,s2,h2,s3,h3⟩;show SW prog GI 46 none (.seq (.seq _ (.block 0 (.loop _))) (.seq _ .ret)) _ _ _ _;refine SW.seq (eD hG c31.qb.qb.qa.qa (GX s 0) ?_ ?_)
  . simp[c31,ae.qa,ae.qb,cq,s1,h1,s2,h2,s3,h3,GX,sn,bz,iz,ints]
  intro S3 H3 hF;refine SW.block (SW.loop (λo S' H'=>∃i,o=Old.plain cc w/\i<=s.ef.length/\GX s i S' H') (λS' _=>match S' 13 with|.int _ j=>s.ef.length-j.toNat|_=>0) ⟨0,rfl,Nat.zero_le _,hF⟩ ?_);rintro o S4 H4 ⟨i,rfl,hi,hF⟩;have m13:S4 13=.int .i64 (i:Nat):=hF.2.2.2.2.2.2;show SW prog GI 46 none (.seq _ (.seq (.cond _ _ _) (.seq (.block 1 (.seq _ _)) _))) _ _ _ _;refine eD hG Bv.qa (λS' H'=>S' 14=.bool (decide (i<s.ef.length))/\GX s i S' H') ?_ ?_
  . obtain ⟨s2,⟨cs,h2,lz⟩,s3,h3,de,bn,dz⟩:=hF
    simp[c31,Bv,ae.qa,ae.qb,GX,s2,h2,s3,h3,de,bn,dz,lz]
  rintro S5 H5 ⟨fw,hF⟩
  by_cases ao:i<s.ef.length
  case neg =>
    refine SW.seq (SW.cond rfl false (by show S5 14=_;rw[fw];simp[ao]) (SW.exit ?_))
    have ec:i=s.ef.length:=by omega
    subst ec;obtain⟨s2,⟨cs,h2,lz⟩,s3,h3,de,bn,dz⟩:=hF;have el:(eQ s).take s.ef.length=eQ s:=List.take_of_length_le (by simp[eQ]);have eh:(dI s).take s.ef.length=dI s:=List.take_of_length_le (by simp[dI]);rw[el,eh]at h3;show SW prog GI 46 none (.seq _ .ret) _ _ _ _;refine eD hG c31.qb.qb.qb.qa (λS' H'=>S' 2=.box 2 0/\H' 2=some (cm s)) ?_ ?_
    . simp[c31,ae.qa,ae.qb,s2,h2,s3,h3,lz,cq,cm]
    rintro S7 H7 ⟨s2,h2⟩;refine SW.ret ⟨fq.plain rfl,rfl,_,?_,rfl⟩;obtain⟨i89,YQ,ZV⟩:=iZ 89 5;obtain⟨fs,lM⟩:=uZ 89;show cU prog 46 [.cell 2 89] S7 H7=_;simp[cU,cL,cI,s2,h2,YQ,lM,ZV,aP,fE,AV.out,fb,cm,cq,vI,AV.aw,AV.bu]
    try exact⟨rfl,rfl,rfl,rfl,rfl⟩
  case pos =>
    refine SW.seq (SW.cond rfl true (by show S5 14=_;rw[fw];simp[ao]) (SW.skip ?_));show SW prog GI 46 none (.seq (.block 1 (.seq _ _)) _) _ _ _ _;refine SW.seq (SW.block (eD hG Bv.qb.qb.qa.qb.qa (λS' H'=>S' 4=.int .i64 (i:Nat)/\S' 5=.box 5 0/\H' 5=some [.int .i64 s.ef[i].1,.int .i64 s.ef[i].2]/\GX s i S' H') ?_ ?_))
    . obtain ⟨s2,⟨cs,h2,lz⟩,s3,h3,de,bn,dz⟩:=hF
      simp[c31,Bv,ae.qa,ae.qb,GX,s2,h2,s3,h3,de,bn,dz,lz,bz,cz,ao]
    rintro S6 H6 ⟨s4,s5,h5,hF⟩
    have Ol:(eQ s).length=s.ef.length:=by simp[eQ]
    have hhl:(dI s).length=s.ef.length:=by simp[dI]
    have ll:(iz 0 ((eQ s).take i)).length=i+1:=by rw[lK];simp;omega
    have lh:(iz 0 ((dI s).take i)).length=i+1:=by rw[lK];simp;omega
    have gl:(iz 0 ((eQ s).take i))[i]'(by omega)=((eQ s).take i).sum:=by
      have:=wm ((eQ s).take i) 0 i (by simp;omega);rw[List.getElem?_eq_getElem (by omega)]at this;simpa[List.take_take]using this
    have gh:(iz 0 ((dI s).take i))[i]'(by omega)=((dI s).take i).sum:=by
      have:=wm ((dI s).take i) 0 i (by simp;omega);rw[List.getElem?_eq_getElem (by omega)]at this;simpa[List.take_take]using this
    have P7:=hb _ (List.getElem_mem ao);have wl:IntKind.i64.wrap (((eQ s).take i).sum+s.ef[i].1)=((eQ s).take i).sum+s.ef[i].1:=bl (by have:=tx hb i;omega);have wh:IntKind.i64.wrap (((dI s).take i).sum+s.ef[i].2)=((dI s).take i).sum+s.ef[i].2:=bl (by have:=rz hb i;omega)
    have nl:iz 0 ((eQ s).take i)++[((eQ s).take i).sum+s.ef[i].1]=iz 0 ((eQ s).take (i+1)):=by
      have e:(eQ s).take (i+1)=(eQ s).take i++[s.ef[i].1]:=by
        rw[List.take_succ,List.getElem?_eq_getElem (by rw[Ol];exact ao)];simp[eQ]
      rw[e,Ay];simp
    have nh:iz 0 ((dI s).take i)++[((dI s).take i).sum+s.ef[i].2]=iz 0 ((dI s).take (i+1)):=by
      have e:(dI s).take (i+1)=(dI s).take i++[s.ef[i].2]:=by
        rw[List.take_succ,List.getElem?_eq_getElem (by rw[hhl];exact ao)];simp[dI]
      rw[e,Ay];simp
    refine SW.mono (Q:=fun e o S H=>e = .normal∧o=Old.plain cc w∧S 2 = .box 2 0∧(∃ cs,H 2=some cs∧cs.length=5)∧S 3 = .box 3 0∧H 3=some (cq s++[.slice (.own 3) (ints (iz 0 ((eQ s).take (i+1)))),.slice (.own 3) (ints (iz 0 ((dI s).take (i+1))))])∧S 11 = .slice .view (bz s.ef)∧S 12 = .int .i64 s.ef.length∧S 13 = .int .i64 (i:Nat)) ?_
      (SW.WM hG bL (p:=1) (q:=13) [0,12] [2,3,4,5,6,7,8,9,10,11,13,14,15,16,17,18,19,20,21,22,23,24,25,26,27] (by kernel_rfl) (by kernel_rfl) (by decide) (by decide) (l:=aa3) (by kernel_rfl) [_,_] [_,_,_,_,_,_,_,_,_,_,_,_,_,_,_,_,_,_,_,_,_,_,_,_,_] _ _ rfl rfl rfl rfl ?_)
    . rintro e o S7 H7 ⟨rfl,rfl,s2,⟨cs,h2,lz⟩,s3,h3,de,bn,dz⟩
      show SW prog GI 46 none _ _ _ _ _;have hw:IntKind.i64.wrap ((i:Int)+1)=i+1:=bl (by omega);refine SW.sH hG bL (by kernel_rfl) (λ_ _ h=>h) (ac:=ae.qb Bv.qb.qb) (by kernel_rfl) ?_;simp[c31,Bv,ae.qa,ae.qb,GX,thenS,gy.bq,s2,h2,s3,h3,de,bn,dz,lz,hw];refine⟨⟨i+1,by omega,⟨rfl,rfl⟩,by simp⟩,?_⟩;rw[m13];simp;omega
    . obtain ⟨s2,⟨cs,h2,lz⟩,s3,h3,de,bn,dz⟩:=hF
      have bt:¬(i:Int)<0:=by omega
      have j1:i+1+1<1048576:=by omega
      simp only[ints]at h3⊢;simp[cM,nD,an,gV,aq,aI,aB.S,aB.H,ev,au,aH,s2,h2,lz,s3,h3,s4,s5,h5,de,bn,dz,aP,cq,AV.aw,AV.vw,AV.bV,AV.cells,AV.storable,AV.bb,aQ,HR.okB,aY,aC,dO,vI,ints,ll,lh,gl,gh,wl,wh,j1,<-nl,<-nh];exact⟨3,3,⟨rfl,rfl⟩,3,4,⟨rfl,rfl⟩,.inr (by decide)⟩
def jy(l:List Int)(a b:Nat):Int:=(l.take b).sum-(l.take a).sum
def yA(l:List Int){i:Nat}(h:i<=l.length):(iz 0 l)[i]'(by rw[lK];omega)=(l.take i).sum:=by
 have:=wm l 0 i h;rw[List.getElem?_eq_getElem (by rw[lK];omega)]at this;simpa using this
def aaO(hG:av GI)(s:bG)(hl:s.ef.length<=1000)(hb:mu s){a b:Nat}(ha:a<=s.ef.length)(eN:b<=s.ef.length):AC prog GI 85 [fb s,.int .i64 (a:Nat),.int .i64 (b:Nat)] (.ret (.int .i64 (jy (eQ s) a b))):=by
 have Ol:(eQ s).length=s.ef.length:=by simp[eQ]
 have h1:=tx hb a;have h2:=tx hb b;have hw:IntKind.i64.wrap (((eQ s).take b).sum-((eQ s).take a).sum)=((eQ s).take b).sum-((eQ s).take a).sum:=bl (by omega);have e1:=yA (eQ s) (i:=a) (by omega);have e2:=yA (eQ s) (i:=b) (by omega)
 have g1:a<(iz 0 (eQ s)).length:=by rw[lK];omega
 have g2:b<(iz 0 (eQ s)).length:=by rw[lK];omega
 have n1:¬(a:Int)<0:=by omega
 have n2:¬(b:Int)<0:=by omega
 refine dZ hG func85 ntmps85 c85 ?_;simp[c85,fb,cm,cq,e1,e2,g1,g2,hw,n1,n2,cM,gV,aI,jy]
def aak(hG:av GI)(s:bG)(hl:s.ef.length<=1000)(hb:mu s){a b:Nat}(ha:a<=s.ef.length)(eN:b<=s.ef.length):AC prog GI 86 [fb s,.int .i64 (a:Nat),.int .i64 (b:Nat)] (.ret (.int .i64 (jy (dI s) a b))):=by
 have Ol:(dI s).length=s.ef.length:=by simp[dI]
 have h1:=rz hb a;have h2:=rz hb b;have hw:IntKind.i64.wrap (((dI s).take b).sum-((dI s).take a).sum)=((dI s).take b).sum-((dI s).take a).sum:=bl (by omega);have e1:=yA (dI s) (i:=a) (by omega);have e2:=yA (dI s) (i:=b) (by omega)
 have g1:a<(iz 0 (dI s)).length:=by rw[lK];omega
 have g2:b<(iz 0 (dI s)).length:=by rw[lK];omega
 have n1:¬(a:Int)<0:=by omega
 have n2:¬(b:Int)<0:=by omega
 refine dZ hG func86 ntmps86 c86 ?_;simp[c86,fb,cm,cq,e1,e2,g1,g2,hw,n1,n2,cM,gV,aI,jy]
def RV.VR {Pr:Nat→Nat→Prop} {al:Nat→Option Nat} {w:World} {f1 f2:Nat} {A:AV} {c:Value} (h:RV Pr al w (.fR [.func (.func f1) [A] [],.func (.func f2) [A] []]) c) (hA:A.bu=true) :
  ∃x1 x2,c=.agg #[.func (.func f1) #[x1] #[],.func (.func f2) #[x2] #[]]/\RD Pr w A x1/\RD Pr w A x2:=by
 have one:∀{f:Nat}{c:Value},RV Pr al w (.func (.func f) [A] []) c->∃x,c=.func (.func f) #[x] #[]/\RD Pr w A x:=by
  intro f c h
  cases h with
  |data _ _ h=>cases h
  |func _ _ _ vs us h1 h2 r1 r2=>
   obtain⟨x,rfl⟩:=j9 (vs:=vs) (by rw[<-h1]<;>rfl);have:us=#[]:=Array.eq_empty_of_size_eq_zero (by simpa using h2.symm);subst this;exact⟨x,rfl,(r1 0 (by simp) (by simp)).bQ hA⟩
 cases h with
 |data _ _ h=>cases h
 |fR _ vs hl hr=>
  have hs:vs.size=2:=by rw[<-hl]<;>rfl
  obtain⟨x1,e1,q1⟩:=one (hr 0 (by simp) (by omega));obtain⟨x2,e2,q2⟩:=one (hr 1 (by simp) (by omega));refine⟨x1,x2,?_,q1,q2⟩
  congr 1
  apply Array.ext
  .simpa using hs
  .intro i h1 h2
   match i,h2 with
   |0,_=>exact e1
   |1,_=>exact e2
def sJ{w0:World}{n:Nat}{g:Gh}{S:af}{H:ah}{a:Act}{w:World}(R:Rel prog w0 n bp g S H a w){t i:Nat}(ht:t<n)(hs:S t=.box i 0):∃b,g.al i=some b/\a.tmps.getD t undef=.pointer (some ⟨b,0,none⟩):=by
 have h:=R.slot t ht id;rw[hs]at h;generalize a.tmps.getD t undef=c at h
 cases h with
 |data _ _ h=>cases h
 |box _ _ b h=>exact⟨b,h,rfl⟩
def iK{w0:World}{n:Nat}{g:Gh}{S:af}{H:ah}{a:Act}{w:World}(R:Rel prog w0 n bp g S H a w){t:Nat}{k:Int}(ht:t<n)(hs:S t=.int .i64 k):a.tmps.getD t undef=.int .i64 k:=by
 have h:=R.slot t ht id;rw[hs]at h;exact h.int_eq
def Jg(bT:Nat)(f1 f2:Value)(a b l h:Int):Nat->Value
 |13=>.pointer (some ⟨bT,0,none⟩)|14=>f1|15=>.int .i64 a|16=>.int .i64 b|17=>.int .i64 l
 |18=>.pointer (some ⟨bT,1,none⟩)|19=>f2|20=>.int .i64 a|21=>.int .i64 b|22=>.int .i64 h
 |23=>.agg #[.int .i64 l,.int .i64 h]|_=>undef
def OA{c1 c2:Value}(h1:c1.oneCell'=true)(h2:c2.oneCell'=true):prog.built 33 [(0,c1),(1,c2)]=some #[c1,c2]:=by
 have e:∀u v:Value,prog.built 33 [(0,u),(1,v)]=Instr.fill (λx=>#[(0,1),(1,1)][x]?) #[.int .i64 0,.int .i64 0] [(0,u),(1,v)]:=by intro u v;kernel_rfl
 rw[e];simp[Instr.fill,jP h1,jP h2]
def E2{P:Program}{a:Act}{o:Oper}{t:TypeId}{x y:Operand}{i j:Nat}{cells:Array Value}(w:World)(ho:o.op=.build t #[(i,x),(j,y)])(hb:P.built t [(i,a.eval x),(j,a.eval y)]=some cells):(execOp a.eval o).run P w=.ok (.value (.agg cells)) w:=by
 have h:=run_build (P:=P) w t #[(i,a.eval x),(j,a.eval y)] cells hb;unfold execOp;simp only[ho,Sem.run_bind,List.map_toArray,List.map_cons,List.map_nil,h,Result.andThen_ok]
 rfl
def XQ(hG:av GI)(s:bG)(hl:s.ef.length<=1000)(hb:mu s){a b:Nat}(ha:a<=s.ef.length)(eN:b<=s.ef.length):AC prog GI 34 [fb s,.int .i64 (a:Nat),.int .i64 (b:Nat)] (.ret (cz (jy (eQ s) a b,jy (dI s) a b))):=by
 intro w old a_ lg hlen hr;refine(eA (ro:=none) (m:=0)).1 (callsIn_of_wp func34 rfl trivial ?_);have R:Rel prog w 24 bp _ (AL.start [fb s,.int .i64 (a:Nat),.int .i64 (b:Nat)]) (λ_=>none) { tmps:=a_++Array.replicate (f34.ntmps-a_.size) undef,defers:=[] } w:=Rel.begin (old:=old) ntmps34 (by simp) hlen hr;refine wpIn_seq ?_;refine eI R hG lg bL (ac:=ae.qa c34) (W:=λt=>decide (3<=t)) (by kernel_rfl) (by kernel_rfl) (by kernel_rfl) (λ_ h=>h) (K:=λS H=>S 1=.int .i64 (a:Nat)/\S 2=.int .i64 (b:Nat)/\S 3=.box 3 0/\H 3=some (cm s)/\S 6=.box 6 0/\H 6=some [.int .i64 0,.int .i64 0]) ?_ ?_
 .simp[c34,ae.qa,fb,cm,cq]
 rintro g1 S1 H1 a1 w1 lN R1 ⟨s1,s2,s3,h3,s6,h6⟩ tW;show Code.wpIn _ _ _ _ _ a1 w1;refine wpIn_seq ?_
 refine mW R1 hG lg (p:=5) (l2:=[5,6]) rfl (by kernel_rfl) (by kernel_rfl) (l:=(c34.qb.qa.dl).take 5) (by kernel_rfl) (by decide) (W:=λt=>decide (3<=t)) (by kernel_rfl) (by rw[lN];exact λ_ h=>h)
  (K:=λS H=>S 1=.int .i64 (a:Nat)/\S 2=.int .i64 (b:Nat)/\S 6=.box 6 0/\H 6=some [.int .i64 0,.int .i64 0]/\S 12=.fR [.func (.func 85) [fb s] [],.func (.func 86) [fb s] []]) ?_ ?_
 .simp[c34,ae.qa,ae.qb,ae.dl,aV,an,aI,aq,aB.S,aB.H,ev,au,aH,s1,s2,s3,h3,s6,h6,aP,AV.aw,cm,fb,cq,vI,HR.okB,wW]
 rintro g2 S2 H2 a2 w2 im R2 ⟨s1,s2,s6,h6,bn⟩ pR;obtain⟨x1,x2,Lw,q1,q2⟩:=RV.VR (by have:=R2.slot 12 (by decide) id;rw[bn]at this;exact this) rfl;obtain⟨b6,Qf,e6⟩:=sJ R2 (by decide) s6;have e1:=iK R2 (by decide) s1;have e2:=iK R2 (by decide) s2;obtain⟨cs,vs,NG,k0,k1,k2,k3,k4,k5,k6,k7,k8⟩:=R2.box 6 b6 Qf;rw[h6]at k0;cases k0
 have fe:vs.size=2:=by rw[<-k5]<;>rfl
 have fV:Below w.heap.size w w2:=by have:=R2.below;rwa [R2.base]at this
 have hb6:w.heap.size<=b6:=by rw[<-R2.base];exact k1
 have p6:a2.defers=[]:=by rw[R2.defers,im,lN]<;>rfl
 have z2:=R2.size
 have df:∀(a:Act)(d t:Nat)(c:Value),t≠d->(a.put (some d) c).tmps.getD t undef=a.tmps.getD t undef:=λa d t c h=>by
  simp[Act.put,Array.getElem?_setIfInBounds_ne (Ne.symm h)]
 have gq:∀(a:Act)(d:Nat)(c:Value),a.tmps.size=24->d<24->(a.put (some d) c).tmps.getD d undef=c:=λa d c h hd=>by
  simp[Act.put,h,hd]
 obtain⟨it,hi,hz⟩:=Option.bind_eq_some_iff.1 (show(prog.info? 170).bind (·.zero)=some (.agg #[.nilFunc,.nilFunc]) by kernel_rfl)
 have Lk:it.size=2:=by
  have:(prog.info? 170).map (·.size)=some 2:=by kernel_rfl
  rw[hi]at this;exact Option.some.inj this
 refine aT rfl rfl (by rfl) (ra (t:=170) rfl hi hz) ?_
 obtain⟨bT,T3⟩:∃bT,w2.heap.size=bT:=⟨_,rfl⟩
 obtain⟨w3,pV⟩:∃w3,w2.alloc (.cells #[.nilFunc,.nilFunc] 170)=w3:=⟨_,rfl⟩
 have YD:w3.heap[bT]?=some (.cells #[.nilFunc,.nilFunc] 170 (0,0)):=by rw[<-pV,<-T3];exact World.alloc_heap_new w2 _
 have uu:Below w2.heap.size w2 w3:=by rw[<-pV];exact(Below.refl _ _).alloc (Nat.le_refl _) _
 obtain⟨a3,j0⟩:∃a3,a2.put (some 7) (.pointer (some ⟨bT,0,none⟩))=a3:=⟨_,rfl⟩
 show wpOpsIn _ _ _ _ _ [6] (a2.put (some 7) (.pointer (some ⟨w2.heap.size,0,none⟩))) (w2.alloc (.cells #[.nilFunc,.nilFunc] 170));rw[T3,pV,j0]
 have z3:a3.tmps.size=24:=by rw[<-j0];simpa[Act.put]using z2
 have d3:a3.defers=[]:=by rw[<-j0];exact p6
 have f7:a3.tmps.getD 7 undef=.pointer (some ⟨bT,0,none⟩):=by rw[<-j0];exact gq _ _ _ z2 (by decide)
 have f12:a3.tmps.getD 12 undef=.agg #[.func (.func 85) #[x1] #[],.func (.func 86) #[x2] #[]]:=by rw[<-j0,df _ _ _ _ (by decide)];exact Lw
 have f1:a3.tmps.getD 1 undef=.int .i64 (a:Nat):=by rw[<-j0,df _ _ _ _ (by decide)];exact e1
 have f2:a3.tmps.getD 2 undef=.int .i64 (b:Nat):=by rw[<-j0,df _ _ _ _ (by decide)];exact e2
 have f6:a3.tmps.getD 6 undef=.pointer (some ⟨b6,0,none⟩):=by rw[<-j0,df _ _ _ _ (by decide)];exact e6
 refine eC rfl rfl (by rfl) (iV (t:=170) (x:=.tmp 7) (y:=.tmp 12) rfl f7 hi YD f12 (by rw[Lk]<;>rfl) (by rw[Lk]<;>rfl) (by intro u hu;simp[Value.cells]at hu;rcases hu with rfl|rfl<;>rfl)) ?_
 obtain⟨w4,kI⟩:∃w4,w3.setRow bT #[.func (.func 85) #[x1] #[],.func (.func 86) #[x2] #[]]=w4:=⟨_,rfl⟩
 show Code.wpIn _ _ _ _ _ a3 (w3.setRow bT #[.func (.func 85) #[x1] #[],.func (.func 86) #[x2] #[]]);rw[kI]
 have h4T:w4.heap[bT]?=some (.cells #[.func (.func 85) #[x1] #[],.func (.func 86) #[x2] #[]] 170 (0,0)):=by rw[<-kI];exact setRow_heap w3 bT _ _ _ _ YD
 have Yi:∀k,k<bT->w4.heap[k]?=w2.heap[k]?:=λk hk=>by
  rw[<-kI,setRow_other w3 bT k _ (by omega)];exact uu.block k (by omega)
 have h4s:w4.heap.size=bT+1:=by rw[<-kI,<-pV];simp[T3]
 have uj:Below w2.heap.size w2 w4:=by
  refine⟨?_,?_,?_,by omega,λk hk=>Yi k (by omega)⟩
  .rw[<-kI];exact uu.os
  .rw[<-kI];exact uu.tape
  .rw[<-kI];exact uu.output
 have aaN:b6<bT:=by have:=(Array.getElem?_eq_some_iff.1 k2).1;omega
 have call:∀ (f:Nat) (x:Value) (r:Int) (wx:World),Below w4.heap.size w4 wx→RD g2.Pr w2 (fb s) x→AC prog GI f [fb s,.int .i64 (a:Nat),.int .i64 (b:Nat)] (.ret (.int .i64 r)) →
   Calls prog f #[x,.int .i64 (a:Nat),.int .i64 (b:Nat)] wx λe w'=>e=.returned (.int .i64 r)/\Below w4.heap.size w4 w':=by
  intro f x r wx bC hx ja;have Ts:Below w2.heap.size w2 wx:=uj.trans (bC.mono (by omega));have hGx:GI wx:=hG w wx lg (fV.trans (Ts.mono fV.size));refine(ja wx g2.Pr #[x,.int .i64 (a:Nat),.int .i64 (b:Nat)] hGx rfl (λi h h'=>?_)).mono ?_
  .match i,h with
   |0,_=>exact .data _ _ (hx.mono (aE.gr (λk hk=>Ts.block k hk) λ_ _ _ h=>h))
   |1,_=>exact .data _ _ (.int _ _)
   |2,_=>exact .data _ _ (.int _ _)
  .rintro e w' ⟨Vp,hh,tw,c,rfl,hc,_⟩;have KP:=hc.int_eq;subst KP;exact⟨rfl,bC.trans (Vp.mono bC.size)⟩
 refine wpIn_seq ?_;refine Bm bL (p:=11) (n:=24) (val:=Jg bT (.func (.func 85) #[x1] #[]) (.func (.func 86) #[x2] #[]) a b (jy (eQ s) a b) (jy (dI s) a b)) (by kernel_rfl) (by kernel_rfl) (by kernel_rfl) z3 (λwx=>Below w4.heap.size w4 wx) ((Below.refl _ w4).drew) ?_ ?_
 .intro i o l aX wx ho hI hW hw;obtain⟨i170,M9,UB⟩:=iZ 144 1
  obtain⟨ln,el,ZH,hle⟩:∃len el,prog.underlying 170=some (.array len el)/\(len=2/\el=144):=⟨2,144,by kernel_rfl,rfl,rfl⟩
  obtain⟨rfl,rfl⟩:=hle;obtain⟨d144,O6,JO⟩:=vZ 144;have hT:wx.heap[bT]?=some (.cells #[.func (.func 85) #[x1] #[],.func (.func 86) #[x2] #[]] 170 (0,0)):=(hW.block bT (by omega)).trans h4T;have x7:aX.tmps.getD 7 undef=.pointer (some ⟨bT,0,none⟩):=(hI.keep (by kernel_rfl)).trans f7;have Ye:aX.tmps.getD 1 undef=.int .i64 (a:Nat):=(hI.keep (by kernel_rfl)).trans f1;have Yu:aX.tmps.getD 2 undef=.int .i64 (b:Nat):=(hI.keep (by kernel_rfl)).trans f2
  match i,ho with
  |0,ho=>
   have e:=Option.some.inj (ho.symm.trans (rfl:_=some _));subst e;exact⟨13,rfl,.inl ⟨wx,(qR (s:=170) (el:=144) (len:=2) (x1:=.tmp 7) (x2:=.const (.int .i64 ((0:Nat):Int))) (k:=0) rfl ZH M9 x7 rfl (by decide)).trans (by simp[Jg]),hW⟩⟩
  |1,ho=>
   have e:=Option.some.inj (ho.symm.trans (rfl:_=some _));subst e;exact⟨14,rfl,.inl ⟨wx,sf (t:=144) (x:=.tmp 13) (b:=bT) (off:=0) rfl (hI.at 0 13 ⟨_,rfl,rfl⟩ (hw ⟨0,.data⟩ (by simp) rfl)) O6 JO hT rfl,hW⟩⟩
  |2,ho=>
   have e:=Option.some.inj (ho.symm.trans (rfl:_=some _));subst e;exact⟨15,rfl,.inl ⟨wx,(run_move (x:=.tmp 1) wx rfl).trans (congrArg (λv=>Result.ok (Next.value v) wx) Ye),hW⟩⟩
  |3,ho=>
   have e:=Option.some.inj (ho.symm.trans (rfl:_=some _));subst e;exact⟨16,rfl,.inl ⟨wx,(run_move (x:=.tmp 2) wx rfl).trans (congrArg (λv=>Result.ok (Next.value v) wx) Yu),hW⟩⟩
  |4,ho=>
   have e:=Option.some.inj (ho.symm.trans (rfl:_=some _));subst e;have Gm:aX.eval (.tmp 14)=.func (.func 85) #[x1] #[]:=hI.at 1 14 ⟨_,rfl,rfl⟩ (hw ⟨1,.data⟩ (by simp) rfl);have e15:aX.eval (.tmp 15)=.int .i64 (a:Nat):=hI.at 2 15 ⟨_,rfl,rfl⟩ (hw ⟨2,.data⟩ (by simp) rfl);have Nc:aX.eval (.tmp 16)=.int .i64 (b:Nat):=hI.at 3 16 ⟨_,rfl,rfl⟩ (hw ⟨3,.data⟩ (by simp) rfl);refine⟨17,rfl,.inr ⟨85,_,w_ (f:=.tmp 14) (k:=85) (first:=#[x1]) (cap:=#[]) wx rfl rfl Gm (by kernel_rfl),?_⟩⟩
   have oR:#[x1]++#[Operand.tmp 15,Operand.tmp 16].map aX.eval++#[]=#[x1,.int .i64 (a:Nat),.int .i64 (b:Nat)]:=by simp[e15,Nc]
   rw[oR];exact call 85 x1 _ wx hW q1 (aaO hG s hl hb ha eN)
  |5,ho=>
   have e:=Option.some.inj (ho.symm.trans (rfl:_=some _));subst e;exact⟨18,rfl,.inl ⟨wx,(qR (s:=170) (el:=144) (len:=2) (x1:=.tmp 7) (x2:=.const (.int .i64 ((1:Nat):Int))) (k:=1) rfl ZH M9 x7 rfl (by decide)).trans (by simp[Jg,UB]),hW⟩⟩
  |6,ho=>
   have e:=Option.some.inj (ho.symm.trans (rfl:_=some _));subst e;exact⟨19,rfl,.inl ⟨wx,sf (t:=144) (x:=.tmp 18) (b:=bT) (off:=1) rfl (hI.at 5 18 ⟨_,rfl,rfl⟩ (hw ⟨5,.data⟩ (by simp) rfl)) O6 JO hT rfl,hW⟩⟩
  |7,ho=>
   have e:=Option.some.inj (ho.symm.trans (rfl:_=some _));subst e;exact⟨20,rfl,.inl ⟨wx,(run_move (x:=.tmp 1) wx rfl).trans (congrArg (λv=>Result.ok (Next.value v) wx) Ye),hW⟩⟩
  |8,ho=>
   have e:=Option.some.inj (ho.symm.trans (rfl:_=some _));subst e;exact⟨21,rfl,.inl ⟨wx,(run_move (x:=.tmp 2) wx rfl).trans (congrArg (λv=>Result.ok (Next.value v) wx) Yu),hW⟩⟩
  |9,ho=>
   have e:=Option.some.inj (ho.symm.trans (rfl:_=some _));subst e;have Gk:aX.eval (.tmp 19)=.func (.func 86) #[x2] #[]:=hI.at 6 19 ⟨_,rfl,rfl⟩ (hw ⟨6,.data⟩ (by simp) rfl);have WZ:aX.eval (.tmp 20)=.int .i64 (a:Nat):=hI.at 7 20 ⟨_,rfl,rfl⟩ (hw ⟨7,.data⟩ (by simp) rfl);have e21:aX.eval (.tmp 21)=.int .i64 (b:Nat):=hI.at 8 21 ⟨_,rfl,rfl⟩ (hw ⟨8,.data⟩ (by simp) rfl);refine⟨22,rfl,.inr ⟨86,_,w_ (f:=.tmp 19) (k:=86) (first:=#[x2]) (cap:=#[]) wx rfl rfl Gk (by kernel_rfl),?_⟩⟩
   have oR:#[x2]++#[Operand.tmp 20,Operand.tmp 21].map aX.eval++#[]=#[x2,.int .i64 (a:Nat),.int .i64 (b:Nat)]:=by simp[WZ,e21]
   rw[oR];exact call 86 x2 _ wx hW q2 (aak hG s hl hb ha eN)
  |10,ho=>
   have e:=Option.some.inj (ho.symm.trans (rfl:_=some _));subst e;have Hf:aX.eval (.tmp 17)=.int .i64 (jy (eQ s) a b):=hI.at 4 17 ⟨_,rfl,rfl⟩ (hw ⟨4,.data⟩ (by simp) rfl);have MT:aX.eval (.tmp 22)=.int .i64 (jy (dI s) a b):=hI.at 9 22 ⟨_,rfl,rfl⟩ (hw ⟨9,.data⟩ (by simp) rfl);exact⟨23,rfl,.inl ⟨wx,E2 (t:=33) (x:=.tmp 17) (y:=.tmp 22) wx rfl (by rw[Hf,MT];exact OA rfl rfl),hW⟩⟩
  |n+11,ho=>exact absurd ho (by simp)
 .intro aX wx hI hW;show wpOpsIn _ _ _ _ _ [11] aX wx;obtain⟨i33,xF,vt⟩:=iZ 33 2;obtain⟨fs,lM⟩:=uZ 33;have x6:aX.tmps.getD 6 undef=.pointer (some ⟨b6,0,none⟩):=(hI.keep (by kernel_rfl)).trans f6;have x23:aX.tmps.getD 23 undef=.agg #[.int .i64 (jy (eQ s) a b),.int .i64 (jy (dI s) a b)]:=hI.at 10 23 ⟨_,rfl,rfl⟩ rfl;have N7:wx.heap[b6]?=some (.cells vs NG (0,0)):=(hW.block b6 (by omega)).trans ((Yi b6 aaN).trans k2);refine eC rfl rfl (by rfl) (iV (t:=33) (x:=.tmp 6) (y:=.tmp 23) rfl x6 xF N7 x23 (by rw[vt]<;>rfl) (by rw[vt];exact fe) (by intro u hu;simp[Value.cells]at hu;rcases hu with rfl|rfl<;>rfl)) ?_;show Code.wpIn _ _ _ _ _ aX (wx.setRow b6 #[.int .i64 (jy (eQ s) a b),.int .i64 (jy (dI s) a b)]);have hr6:=setRow_heap wx b6 vs #[.int .i64 (jy (eQ s) a b),.int .i64 (jy (dI s) a b)] NG (0,0) N7;refine wpIn_ret ⟨by rw[hI.defers];exact d3,_,As rfl x6 hr6 lM xF vt,?_⟩;have bC:Below w.heap.size w wx:=fV.trans ((uj.trans (hW.mono (by omega))).mono fV.size);refine⟨⟨bC.os,bC.tape,bC.output,by simpa using bC.size,λk hk=>(setRow_other wx b6 k _ (by omega)).trans (bC.block k hk)⟩,λ_=>0,λ_ _=>rfl,_,rfl,.data _ _ (.agg _ _ rfl (λi hi=>?_) (λi hi cy=>?_)),trivial⟩
  .match i,hi with
   |0,_|1,_=>rfl
  .match i,hi with
   |0,_|1,_=>exact .int _ _
def je(ZU why:Int):AV:=.iface 93 (.agg [.int .i64 ZU,.int .i64 why])
def ub(s:bG)(k:Nat):Int:=(s.eE.getD k (0,0)).1
def tR(s:bG)(k:Nat):Int:=(s.eE.getD k (0,0)).2
def ml(s:bG)(k a b:Nat)(p:Bool):jn:=
 if jy (eQ s) a b<ub s k then .panic (je k 1)else if p&&decide (tR s k<jy (dI s) a b)then .panic (je k 2)else .ret (.fZ [])
def Nl(hG:av GI)(s:bG)(hl:s.ef.length<=1000)(hb:mu s){k a b:Nat}(p:Bool)(hk:k<s.eE.length)(ha:a<=s.ef.length)(eN:b<=s.ef.length):AC prog GI 84 [fb s,.int .i64 (k:Nat),.int .i64 (a:Nat),.int .i64 (b:Nat),.bool p] (ml s k a b p):=by
 have n1:¬(k:Int)<0:=by omega
 have en:ub s k=s.eE[k].1:=by simp[ub,hk]
 have ep:tR s k=s.eE[k].2:=by simp[tR,hk]
 refine AC.kP func84 rfl ntmps84 (by simp) λcc w=>?_
 refine eD hG c84.qa (λS H=>S 1=.int .i64 (k:Nat)/\S 2=.int .i64 (a:Nat)/\S 3=.int .i64 (b:Nat)/\S 4=.bool p/\S 5=.box 5 0/\H 5=some (cm s)) ?_ ?_
 .simp[c84,ae.qa,fb,cm,cq]
 rintro S1 H1 ⟨s1,s2,s3,s4,s5,h5⟩;refine eD hG c84.qb.qa (λS H=>S 1=.int .i64 (k:Nat)/\S 4=.bool p/\S 10=.box 10 0/\H 10=some [.int .i64 (jy (eQ s) a b),.int .i64 (jy (dI s) a b)]/\S 11=.box 11 0/\H 11=some [.int .i64 (ub s k),.int .i64 (tR s k)]) ?_ ?_
 .rw[en,ep];simp[c84,ae.qa,ae.qb,cm,cq,bz,cz,hk,n1,s1,s2,s3,s4,s5,h5,cM,gV,aI];refine oc (XQ hG s hl hb ha eN) ?_;simp[cz,hk,s1,s4]
 rintro S2 H2 ⟨s1,s4,bW,mZ,de,A'⟩;refine SW.sH hG bL (by kernel_rfl) (λ_ _ h=>h) (ac:=ae.qb c84.qb) (by kernel_rfl) ?_;unfold ml
 by_cases h1:jy (eQ s) a b<ub s k
 .rw[if_pos h1];simp[c84,ae.qb,gy.bq,sj,s1,s4,bW,mZ,de,A',h1,je,dH,aV,aI]
  try exact⟨rfl,rfl⟩
 rw[if_neg h1];cases p
 .simp[c84,ae.qb,gy.bq,sj,s1,s4,bW,mZ,de,A',h1,je];exact⟨fq.plain rfl,rfl⟩
 .by_cases h2:tR s k<jy (dI s) a b
  .simp[c84,ae.qb,gy.bq,sj,s1,s4,bW,mZ,de,A',h1,h2,je,dH,aV,aI]
   try exact⟨rfl,rfl⟩
  .simp[c84,ae.qb,gy.bq,sj,s1,s4,bW,mZ,de,A',h1,h2,je];exact⟨fq.plain rfl,rfl⟩
def sx(c r:Int):Value:=.iface 93 (.agg #[.int .i64 c,.int .i64 r])
def Dj{Pr:Nat->Nat->Prop}{al:Nat->Option Nat}{w:World}{x y:Int}{c:Value}(h:RV Pr al w (.agg [.int .i64 x,.int .i64 y]) c):c=.agg #[.int .i64 x,.int .i64 y]:=by
 cases h with
 |data _ _ h=>
  cases h with
  |agg cs vs hl jY hr=>
   have hs:vs.size=2:=by rw[<-hl]<;>rfl
   have h0:=(RV.data (al:=bO) _ _ (hr 0 (by simp) (by omega))).int_eq;have h1:=(RV.data (al:=bO) _ _ (hr 1 (by simp) (by omega))).int_eq
   congr 1
   apply Array.ext
   .simpa using hs
   .intro i h2 h3
    match i,h3 with
    |0,_=>exact h0
    |1,_=>exact h1
def DY {bA bE:Nat} {vs ve:Array Value} {ty te:TypeId} (w:World) (hA:w.heap[bA]? = some (.cells vs ty (0,0))) (hv:vs.size=2) (hE:w.heap[bE]? = some (.cells ve te (0,0))) (Q3:ve.size=1) (bt:bA≠bE) (n r:Int) :
  CallsD prog 149 #[.pointer (some ⟨bA,0,none⟩),.pointer (some ⟨bE,0,none⟩)] (.panicking [{ v:=sx n r,recovered:=false }]) w λe u' w'=>
   e=.returned (.tuple #[])/\u'=.panicking [{ v:=sx n r,recovered:=true }]/\∃w1,Below w.heap.size w w1/\w'=(w1.setRow bA #[.int .i64 n,.int .i64 r]).setRow bE #[.int .i64 7]:=by
 refine callsD_of_wpS func149 rfl λBt cs hu=>?_
 apply wpS_seq;apply wpS_region;simp[wpOpsS,go_sem,recoverD,hu,ntmps149,Exit.thenS];refine wpS_of_wp ?_;refine(kQ (m:=0)).1 ?_;refine iC (λa=>a.tmps.size=16/\a.defers=[]/\a.tmps.getD 0 undef=.pointer (some ⟨bA,0,none⟩)/\a.tmps.getD 1 undef=.pointer (some ⟨bE,0,none⟩)/\a.tmps.getD 6 undef=sx n r) ⟨by simp,rfl,by simp,by simp,by simp⟩ ?_;rintro a ⟨aL,c_,h0,h1,h6⟩;have abc:=(Array.getElem?_eq_some_iff.1 hA).1;have aaz:=(Array.getElem?_eq_some_iff.1 hE).1;refine wpIn_block (wpIn_seq (wpIn_region ?_));show wpOpsIn _ _ _ _ _ [0] a w;refine aT rfl rfl (by rfl) (uk (x:=.tmp 6) w rfl h6) ?_;show Code.wpIn _ _ _ _ _ (a.put (some 8) (.bool false)) w
 have h8:(a.put (some 8) (.bool false)).tmps.getD 8 undef=.bool false:=by simp[Act.put,aL]
 refine wpIn_cond (t:=false) h8 ?_;simp only[Bool.false_eq_true,if_false];refine iC (λa=>a.tmps.size=16/\a.defers=[]/\a.tmps.getD 0 undef=.pointer (some ⟨bA,0,none⟩)/\a.tmps.getD 1 undef=.pointer (some ⟨bE,0,none⟩)/\a.tmps.getD 6 undef=sx n r) ⟨by simp[Act.put,aL],c_,by simpa[Act.put,Array.getElem?_setIfInBounds_ne]using h0,by simpa[Act.put,Array.getElem?_setIfInBounds_ne]using h1,by simpa[Act.put,Array.getElem?_setIfInBounds_ne]using h6⟩ ?_;clear h8 h6 h1 h0 c_ aL a;rintro a ⟨aL,c_,h0,h1,h6⟩
 have hS:∀ t,t < 16→((fun t=>if t=6 then je n r else AV.bj:af) t).aw=(fun t=>if t=6 then je n r else AV.bj:af) t ∧
   RV (λ_ _=>True) bO w ((λt=>if t=6 then je n r else AV.bj:af) t) (a.tmps.getD t undef):=by
  intro t ht
  by_cases h:t=6
  .subst h;rw[h6];refine⟨rfl,.data _ _ (.iface _ _ _ (.agg _ _ rfl (λi hi=>?_) (λi hi cy=>?_)))⟩
   .match i,hi with
    |0,_|1,_=>rfl
   .match i,hi with
    |0,_|1,_=>exact .int _ _
  .simp only[h,if_false];exact⟨rfl,.bj _⟩
 refine wpIn_seq ?_;refine cQ (GI:=λ_=>True) (λ_ _ _ _=>trivial) bL (ac:=ae.qa c149.qb.qb.qb.qb) (W:=λt=>decide (9<=t)) (by kernel_rfl) (by kernel_rfl) (by kernel_rfl) trivial (λ_ _=>True) _ aL c_ hS (K:=λS' _=>S' 10=.bool true/\S' 11=.agg [.int .i64 n,.int .i64 r]) ?_ ?_
 .simp[c149,ae.qa,ae.qb,bq,aV,an,aI,aq,az,aB.S,aB.H,ev,au,aH,AV.aw,je]
 rintro g S' H' a' w' hg R1 ⟨mZ,A'⟩ bh;have t10:=R1.slot 10 (by decide) (λh=>h);rw[mZ]at t10;have t10:=t10.fc;show Code.wpIn _ _ _ _ _ a' w';refine wpIn_cond (t:=true) t10 ?_;simp only[if_true];refine wpIn_seq ?_;refine eI R1 (GI:=λ_=>True) (λ_ _ _ _=>trivial) trivial bL (ac:=ae.qa c149.qb.qb.qb.qb.qb.qa) (W:=λt=>decide (2<=t)) (by kernel_rfl) (by kernel_rfl) (by kernel_rfl) (by rw[hg];exact λ_ h=>h) (K:=λS H=>S 3=.box 3 0/\H 3=some [.int .i64 n,.int .i64 r]) ?_ ?_
 .simp[c149,ae.qa,ae.qb,bq,aV,an,aI,aq,az,aB.S,aB.H,ev,au,aH,AV.aw,A',aZ,HR.okB,AV.cells,AV.storable,aQ,AV.bb,aY]
 rintro g2 S2 H2 a2 w2 lE R2 ⟨s3,k3⟩ jh;show Code.wpIn _ _ _ _ _ a2 w2;refine mW R2 (GI:=λ_=>True) (λ_ _ _ _=>trivial) trivial (p:=1) (l2:=[1,2]) rfl (by kernel_rfl) (by kernel_rfl) (l:=(c149.qb.qb.qb.qb.qb.qa.qb.dl).take 1) (by kernel_rfl) (by decide) (W:=λt=>decide (2<=t)) (by kernel_rfl) (by rw[lE,hg];exact λ_ h=>h) (K:=λS H=>S 12=.agg [.int .i64 n,.int .i64 r]) ?_ ?_
 .simp[c149,ae.qa,ae.qb,ae.dl,aV,an,aI,aq,aB.S,aB.H,ev,au,aH,s3,k3,aP,AV.aw,HR.okB]
 rintro g3 S3 H3 a3 w3 PR R3 G0 oa
 have b3:Below w.heap.size w w3:=by have:=R3.below;rwa [R3.base]at this
 have Lw:=R3.slot 12 (by decide) id;rw[G0]at Lw;have Lw:=Dj Lw;have e0:a3.tmps.getD 0 undef=.pointer (some ⟨bA,0,none⟩):=(oa 0 rfl).trans ((jh 0 rfl).trans ((bh 0 rfl).trans h0));have e1:a3.tmps.getD 1 undef=.pointer (some ⟨bE,0,none⟩):=(oa 1 rfl).trans ((jh 1 rfl).trans ((bh 1 rfl).trans h1));have hA3:w3.heap[bA]?=some (.cells vs ty (0,0)):=(b3.block bA abc).trans hA;have Vl:w3.heap[bE]?=some (.cells ve te (0,0)):=(b3.block bE aaz).trans hE;obtain⟨i93,Fu,yQ⟩:=iZ 93 2;obtain⟨i43,PQ,Gt⟩:=iZ 43 1;refine eC rfl rfl (by rfl) (iV (t:=93) (x:=.tmp 0) (y:=.tmp 12) rfl e0 Fu hA3 Lw (by rw[yQ]<;>rfl) (by rw[yQ];exact hv) (by intro u hu;simp[Value.cells]at hu;rcases hu with rfl|rfl<;>rfl)) ?_;show wpOpsIn _ _ _ _ _ [2] a3 (w3.setRow bA #[.int .i64 n,.int .i64 r]);have hE4:(w3.setRow bA #[.int .i64 n,.int .i64 r]).heap[bE]?=some (.cells ve te (0,0)):=(setRow_other w3 bA bE _ (Ne.symm bt)).trans Vl;refine eC rfl rfl (by rfl) (iV (t:=43) (x:=.tmp 1) (y:=.const (.int .i64 7)) (c:=.int .i64 7) rfl e1 PQ hE4 rfl (by rw[Gt]<;>rfl) (by rw[Gt];exact Q3) (by intro u hu;simp[Value.cells]at hu;subst hu;rfl)) ?_;refine⟨by show a3.defers=[];rw[R3.defers,PR,lE,hg]<;>rfl,_,rfl,.tuple #[],?_,rfl,rfl,w3,b3,rfl⟩;simp[results,results149]
def CJ (p q:Addr) (w:World) :
  CallsD prog 149 #[.pointer (some p),.pointer (some q)] .returning w λe u' w'=>e=.returned (.tuple #[])/\u'=.returning/\w'=w:=by
 refine callsD_of_wpS func149 rfl λBt cs hu=>?_
 apply wpS_seq;apply wpS_region;simp[wpOpsS,go_sem,recoverD,hu,ntmps149,Exit.thenS];refine wpS_of_wp ?_
 go_wp2
 cases Bt
 simp_all[bodyPostS,results,results149]
def Oo {tmps:Array Value} {w:World} {bA bE:Nat} {u v e:Value} {ty te:TypeId} (h2:tmps.getD 2 undef = .pointer (some ⟨bA,0,none⟩)) (h3:tmps.getD 3 undef = .pointer (some ⟨bE,0,none⟩)) (hA:w.heap[bA]? = some (.cells #[u,v] ty (0,0))) (hE:w.heap[bE]? = some (.cells #[e] te (0,0))) :
  (results f82 tmps).run prog w=.ok (.tuple #[.agg #[u,v],e]) w:=by
 obtain⟨i93,Fu,yQ⟩:=iZ 93 2;obtain⟨fs,lM⟩:=uZ 93;obtain⟨d43,aax,abm⟩:=vZ 43;have hr:f82.results=#[.cell 2 93,.cell 3 43]:=rfl
 have Ih:tmps[2]?.getD undef=.pointer (some ⟨bA,0,none⟩):=by rw[<-h2];simp
 have Sl:tmps[3]?.getD undef=.pointer (some ⟨bE,0,none⟩):=by rw[<-h3];simp
 have g1:(isAgg 93).run prog w=.ok true w:=by
  unfold isAgg;rw[Sem.run_bind,run_underlying lM w]
  rfl
 have g2:(isAgg 43).run prog w=.ok false w:=by
  unfold isAgg;rw[Sem.run_bind,run_underlying aax w]
  cases d43<;>simp_all[fE]
 have c0:w.cell? ⟨bA,0,none⟩=some u:=by simp[World.cell?,hA]
 have c1:w.cell? ⟨bA,1,none⟩=some v:=by simp[World.cell?,hA]
 have l1:(loadVar 93 ⟨bA,0,none⟩).run prog w=.ok (.agg #[u,v]) w:=by
  simp[loadVar,Sem.run_bind,g1,sizeOf,typeInfo,Fu,yQ,loadCells,loadCellsFrom,run_load,Addr.add_lit,c0,c1]
 have l2:(loadVar 43 ⟨bE,0,none⟩).run prog w=.ok e w:=by
  simp[loadVar,Sem.run_bind,g2,World.cell?,hE]
 simp[results,hr,Ih,Sl,asAddr,l1,l2]
def GJ{P:Program}{a:Act}{o:Oper}{t:TypeId}{cells:Array Value}(w:World)(ho:o.op=.build t #[])(hb:P.built t []=some cells):(execOp a.eval o).run P w=.ok (.value (.agg cells)) w:=by
 have h:=run_build (P:=P) w t #[] cells hb;unfold execOp;simp only[ho,Sem.run_bind,List.map_toArray,List.map_nil,h,Result.andThen_ok]
 rfl
def N8:prog.built 93 []=some #[.int .i64 0,.int .i64 0]:=by kernel_rfl
def zF:Value:=.agg #[.int .i64 0,.int .i64 0]
def BE(c r e:Int):AV:=.fZ [.agg [.int .i64 c,.int .i64 r],.int .i64 e]
def TJ (hG:av GI) {k:Nat} {caps:List AV} {out:jn} {c r e:Int} (mw:dW prog k=true) (V6:AC prog GI k caps out)
  (mC:(∃v,out=.ret v/\c=0/\r=0/\e=0)\/(out=.panic (je c r)/\e=7)):
  AC prog GI 82 [.func (.func k) [] caps] (.ret (BE c r e)):=by
 intro w old a_ lg hlen hr;obtain⟨fv,rfl⟩:∃fv,a_=#[fv]:=j9 (by simpa using hlen.symm);have h0:=hr 0 (by simp) (by simp);simp only[List.getElem_cons_zero,List.getElem_toArray]at h0
 obtain⟨us,rfl,hl,AS⟩:∃us:Array Value,fv=.func (.func k) #[] us/\caps.length=us.size/\∀i (h:i<caps.length)(h':i<us.size),RV old (λ_=>none) w caps[i] us[i]:=by
  cases h0 with
  |data _ _ h=>cases h
  |func _ _ _ vs us h1 h2 r1 r2=>
   have:vs=#[]:=Array.eq_empty_of_size_eq_zero (by simpa using h1.symm);subst this;exact⟨us,rfl,h2,r2⟩
 clear h0 hr;refine calls_of_wp_defers func82 rfl ?_;refine(kQ (m:=0)).1 ?_;refine iC (λa=>a.tmps.size=8/\a.defers=[]/\a.tmps.getD 0 undef=.func (.func k) #[] us) ⟨by simp[ntmps82],rfl,dP _ _ 0 (by simp)⟩ ?_;rintro a ⟨aL,c_,h0⟩
 have df:∀(a:Act)(d t:Nat)(c:Value),t≠d->(a.put (some d) c).tmps.getD t undef=a.tmps.getD t undef:=λa d t c h=>by
  simp[Act.put,Array.getElem?_setIfInBounds_ne (Ne.symm h)]
 have gq:∀(a:Act)(d:Nat)(c:Value),a.tmps.size=8->d<8->(a.put (some d) c).tmps.getD d undef=c:=λa d c h hd=>by
  simp[Act.put,h,hd]
 have gE:∀(a:Act)(d:Option Nat)(c:Value),(a.put d c).tmps.size=a.tmps.size:=λa d c=>by cases d<;>simp[Act.put]
 obtain⟨bA,Ph⟩:∃b,w.heap.size=b:=⟨_,rfl⟩
 refine wpIn_seq (wpIn_region ?_);show wpOpsIn _ _ _ _ _ [0,1] a w;obtain⟨it,mh,hz⟩:=Option.bind_eq_some_iff.1 (show(prog.info? 93).bind (·.zero)=some zF by kernel_rfl)
 have Lk:it.size=2:=by
  have:(prog.info? 93).map (·.size)=some 2:=by kernel_rfl
  rw[mh]at this;exact Option.some.inj this
 refine aT rfl rfl (by rfl) (ra (t:=93) rfl mh hz) ?_;show wpOpsIn _ _ _ _ _ [1] (a.put (some 2) (.pointer (some ⟨w.heap.size,0,none⟩))) (w.alloc (.cells #[.int .i64 0,.int .i64 0] 93));rw[Ph]
 obtain⟨w0,xX⟩:∃w0,w.alloc (.cells #[.int .i64 0,.int .i64 0] 93)=w0:=⟨_,rfl⟩
 have s0:w0.heap.size=bA+1:=by rw[<-xX];simp[Ph]
 have b0:Below w.heap.size w w0:=by rw[<-xX];exact(Below.refl _ _).alloc (Nat.le_refl _) _
 have n0:w0.heap[bA]?=some (.cells #[.int .i64 0,.int .i64 0] 93 (0,0)):=by rw[<-xX,<-Ph];exact World.alloc_heap_new w _
 rw[xX];refine aT rfl rfl (by rfl) (jz (t:=43) (z:=.int .i64 0) rfl (by kernel_rfl)) ?_;show Code.wpIn _ _ _ _ _ ((a.put (some 2) (.pointer (some ⟨bA,0,none⟩))).put (some 3) (.pointer (some ⟨w0.heap.size,0,none⟩))) (w0.alloc (.cells #[.int .i64 0] 43));rw[s0]
 obtain⟨w1,n_⟩:∃w1,w0.alloc (.cells #[.int .i64 0] 43)=w1:=⟨_,rfl⟩
 have s1:w1.heap.size=bA+2:=by rw[<-n_];simp[s0]
 have b1:Below w0.heap.size w0 w1:=by rw[<-n_];exact(Below.refl _ _).alloc (Nat.le_refl _) _
 have mR:Below w.heap.size w w1:=b0.trans (b1.mono (by omega));have nA:w1.heap[bA]?=some (.cells #[.int .i64 0,.int .i64 0] 93 (0,0)):=(b1.block bA (by omega)).trans n0
 have nE:w1.heap[bA+1]?=some (.cells #[.int .i64 0] 43 (0,0)):=by rw[<-n_,<-s0];exact World.alloc_heap_new w0 _
 rw[n_]
 refine iC (λa=>a.tmps.size=8/\a.defers=[]/\a.tmps.getD 0 undef=.func (.func k) #[] us/\a.tmps.getD 2 undef=.pointer (some ⟨bA,0,none⟩)/\a.tmps.getD 3 undef=.pointer (some ⟨bA+1,0,none⟩))
  ⟨by rw[gE,gE];exact aL,c_,by rw[df _ _ _ _ (by decide),df _ _ _ _ (by decide)];exact h0,by rw[df _ _ _ _ (by decide)];exact gq _ _ _ aL (by decide),gq _ _ _ (by rw[gE];exact aL) (by decide)⟩ ?_
 clear h0 c_ aL a;rintro a ⟨aL,c_,h0,h2,h3⟩;refine wpIn_seq (wpIn_region ?_);show wpOpsIn _ _ _ _ _ [0,1] a w1;refine aT rfl rfl (by rfl) (pO (fn:=.func 149) (c:=#[.tmp 2,.tmp 3]) rfl) ?_
 have eu:(#[Operand.tmp 2,Operand.tmp 3].map a.eval)=#[.pointer (some ⟨bA,0,none⟩),.pointer (some ⟨bA+1,0,none⟩)]:=by
  simp only[List.map_toArray,List.map_cons,List.map_nil,Act.eval];rw[h2,h3]
 rw[eu]
 obtain⟨dv,XH⟩:∃dv:Array Value,dv=#[.pointer (some ⟨bA,0,none⟩),.pointer (some ⟨bA+1,0,none⟩)]:=⟨_,rfl⟩
 rw[<-XH];show wpOpsIn _ _ _ _ _ [1] (a.put (some 4) (.func (.func 149) #[] dv)) w1
 obtain⟨a2,jo⟩:∃a2,a.put (some 4) (.func (.func 149) #[] dv)=a2:=⟨_,rfl⟩
 rw[jo]
 have z2:a2.tmps.size=8:=by rw[<-jo,gE];exact aL
 have u4:a2.tmps.getD 4 undef=.func (.func 149) #[] dv:=by rw[<-jo];exact gq _ _ _ aL (by decide)
 have u0:a2.tmps.getD 0 undef=.func (.func k) #[] us:=by rw[<-jo,df _ _ _ _ (by decide)];exact h0
 have u2:a2.tmps.getD 2 undef=.pointer (some ⟨bA,0,none⟩):=by rw[<-jo,df _ _ _ _ (by decide)];exact h2
 have u3:a2.tmps.getD 3 undef=.pointer (some ⟨bA+1,0,none⟩):=by rw[<-jo,df _ _ _ _ (by decide)];exact h3
 have ud:a2.defers=[]:=by rw[<-jo];exact c_
 refine wR rfl rfl (d:={ target:=.fn (.func 149) dv,args:=#[] }) (w':=w1) ?_ ?_
 .unfold execOp;simp[dX,Deferred.ofValue,Act.eval,u4]
 have MO:∀(w:World),(invoke (.fn (.func 149) dv) #[]).run prog w=.ok (.enter 149 dv) w:=λw=>by
  simp[invoke,eV (P:=prog) (f:=149) (by kernel_rfl)]
 show Code.wpIn _ _ _ _ _ { a2 with defers:={ target:=.fn (.func 149) dv,args:=#[] }::a2.defers } w1;refine iC (λa=>a.tmps.size=8/\a.defers=[{ target:=.fn (.func 149) dv,args:=#[] }]/\a.tmps.getD 0 undef=.func (.func k) #[] us/\a.tmps.getD 2 undef=.pointer (some ⟨bA,0,none⟩)/\a.tmps.getD 3 undef=.pointer (some ⟨bA+1,0,none⟩)) ⟨z2,by show _::a2.defers=_;rw[ud],u0,u2,u3⟩ ?_;clear u0 u2 u3 u4 ud z2 jo a2 h0 h2 h3 c_ aL eu a;rintro a ⟨aL,c_,h0,h2,h3⟩;refine wpIn_seq (wpIn_region ?_);show wpOpsIn _ _ _ _ _ [0,1] a w1;refine aT rfl rfl (by rfl) (run_move (x:=.tmp 0) w1 rfl) ?_;have e0:a.eval (.tmp 0)=.func (.func k) #[] us:=h0;rw[e0];show wpOpsIn _ _ _ _ _ [1] (a.put (some 5) (.func (.func k) #[] us)) w1
 obtain⟨a2,jo⟩:∃a2,a.put (some 5) (.func (.func k) #[] us)=a2:=⟨_,rfl⟩
 rw[jo]
 have z2:a2.tmps.size=8:=by rw[<-jo,gE];exact aL
 have u5:a2.eval (.tmp 5)=.func (.func k) #[] us:=by show a2.tmps.getD 5 undef=_;rw[<-jo];exact gq _ _ _ aL (by decide)
 have u2:a2.tmps.getD 2 undef=.pointer (some ⟨bA,0,none⟩):=by rw[<-jo,df _ _ _ _ (by decide)];exact h2
 have u3:a2.tmps.getD 3 undef=.pointer (some ⟨bA+1,0,none⟩):=by rw[<-jo,df _ _ _ _ (by decide)];exact h3
 have ud:a2.defers=[{ target:=.fn (.func 149) dv,args:=#[] }]:=by rw[<-jo];exact c_
 have z8:aE old old w w1:=aE.gr (λb h=>mR.block b h) λ_ _ _ h=>h
 refine xp rfl rfl (by rfl) (pk (f:=.tmp 5) w1 rfl rfl rfl u5 mw) (V6 w1 old us (hG _ _ lg mR) hl (λi h h'=>(AS i h h').mono z8 λ_ _ h=>h)) ?_;rintro en w2 ⟨iw,hi,tw,mf⟩;have QP:w2.heap[bA]?=some (.cells #[.int .i64 0,.int .i64 0] 93 (0,0)):=(iw.block bA (by omega)).trans nA;have V4:w2.heap[bA+1]?=some (.cells #[.int .i64 0] 43 (0,0)):=(iw.block (bA+1) (by omega)).trans nE
 have yZ:∀{args:Array Value}{u:FrameMode}{w:World}{R R':Ending->FrameMode->World->Prop},CallsD prog 149 args u w R->(∀e u w,R e u w->R' e u w)->CallsD prog 149 args u w R':=λh hr c cs hu=>
  let⟨e,u',w',fr,r,rest⟩:=h c cs hu;⟨e,u',w',fr,hr _ _ _ r,rest⟩
 have fin:∀(w3:World)(c r e:Int),Below w2.heap.size w2 w3->AL.Ends prog old w (.ret (BE c r e)) (.returned (.tuple #[.agg #[.int .i64 c,.int .i64 r],.int .i64 e])) ((w3.setRow bA #[.int .i64 c,.int .i64 r]).setRow (bA+1) #[.int .i64 e]):=by
  intro w3 c r e uu
  have fV:Below w.heap.size w w3:=by
   have h1:=mR.trans (iw.mono (by omega));exact h1.trans (uu.mono (by have:=iw.size;omega))
  refine⟨⟨fV.os,fV.tape,fV.output,by simpa using fV.size,λb hb=>((setRow_other _ _ b _ (by omega)).trans (setRow_other w3 _ b _ (by omega))).trans (fV.block b hb)⟩,λ_=>0,λ_ _=>rfl,_,rfl,?_,trivial⟩;refine .data _ _ (.fZ _ _ rfl (λi hi cy=>?_))
  .match i,hi with
   |0,_=>
    refine .agg _ _ rfl (λi hi=>?_) (λi hi cy=>?_)
    .match i,hi with
     |0,_|1,_=>rfl
    .match i,hi with
     |0,_|1,_=>exact .int _ _
   |1,_=>exact .int _ _
 obtain⟨i93,Fu,yQ⟩:=iZ 93 2;obtain⟨i43,PQ,Gt⟩:=iZ 43 1
 rcases mC with⟨v,rfl,rfl,rfl,rfl⟩|⟨rfl,rfl⟩
 .obtain⟨cv,rfl,_,_⟩:=mf;show Code.wpIn _ _ _ _ _ (a2.put (some 6) cv) w2;refine iC (λa=>a.tmps.size=8/\a.defers=[{ target:=.fn (.func 149) dv,args:=#[] }]/\a.tmps.getD 2 undef=.pointer (some ⟨bA,0,none⟩)/\a.tmps.getD 3 undef=.pointer (some ⟨bA+1,0,none⟩)) ⟨by rw[gE];exact z2,ud,by rw[df _ _ _ _ (by decide)];exact u2,by rw[df _ _ _ _ (by decide)];exact u3⟩ ?_;rintro a3 ⟨z3,d3,v2,v3⟩;refine wpIn_seq (wpIn_region ?_);show wpOpsIn _ _ _ _ _ [0,1,2] a3 w2;refine aT rfl rfl (by rfl) (GJ (t:=93) w2 rfl N8) ?_
  obtain⟨a4,jG⟩:∃a4,a3.put (some 7) (.agg #[.int .i64 0,.int .i64 0])=a4:=⟨_,rfl⟩
  show wpOpsIn _ _ _ _ _ [1,2] (a3.put (some 7) (.agg #[.int .i64 0,.int .i64 0])) w2;rw[jG]
  have y7:a4.tmps.getD 7 undef=.agg #[.int .i64 0,.int .i64 0]:=by rw[<-jG];exact gq _ _ _ z3 (by decide)
  have y2:a4.tmps.getD 2 undef=.pointer (some ⟨bA,0,none⟩):=by rw[<-jG,df _ _ _ _ (by decide)];exact v2
  have y3:a4.tmps.getD 3 undef=.pointer (some ⟨bA+1,0,none⟩):=by rw[<-jG,df _ _ _ _ (by decide)];exact v3
  have yd:a4.defers=[{ target:=.fn (.func 149) dv,args:=#[] }]:=by rw[<-jG];exact d3
  refine eC rfl rfl (by rfl) (iV (t:=93) (x:=.tmp 2) (y:=.tmp 7) rfl y2 Fu QP y7 (by rw[yQ]<;>rfl) (by rw[yQ]<;>rfl) (by intro u hu;simp[Value.cells]at hu;subst hu;rfl)) ?_;show wpOpsIn _ _ _ _ _ [2] a4 (w2.setRow bA #[.int .i64 0,.int .i64 0]);have RJ:(w2.setRow bA #[.int .i64 0,.int .i64 0]).heap[bA+1]?=some (.cells #[.int .i64 0] 43 (0,0)):=(setRow_other w2 bA (bA+1) _ (by omega)).trans V4;refine eC rfl rfl (by rfl) (iV (t:=43) (x:=.tmp 3) (y:=.const (.int .i64 0)) (c:=.int .i64 0) rfl y3 PQ RJ rfl (by rw[Gt]<;>rfl) (by rw[Gt]<;>rfl) (by intro u hu;simp[Value.cells]at hu;subst hu;rfl)) ?_;show Code.wpIn _ _ _ _ _ a4 ((w2.setRow bA #[.int .i64 0,.int .i64 0]).setRow (bA+1) #[.int .i64 0]);refine wpIn_ret ?_;show Leaves prog f82 a4.tmps _ a4.defers .returning _;rw[yd];refine leaves_cons (by simp) (MO _) (yZ (by rw[XH];exact CJ _ _ _) ?_);rintro e u' w' ⟨rfl,rfl,rfl⟩;exact⟨_,Oo y2 y3 ((setRow_other _ (bA+1) bA _ (by omega)).trans (setRow_heap w2 bA _ _ _ _ QP)) (setRow_heap _ (bA+1) _ _ _ _ RJ),fin w2 0 0 0 (Below.refl _ _)⟩
 .obtain⟨cv,rfl,hc⟩:=mf
  obtain rfl:cv=sx c r:=by
   cases hc with
   |iface _ _ c h=>rw[Dj (.data (al:=bO) _ _ h)]<;>rfl
  show Leaves prog f82 a2.tmps _ a2.defers (.panicking [{ v:=sx c r,recovered:=false }]) w2;rw[ud];refine leaves_cons (by simp) (MO w2) (yZ (by rw[XH];exact DY w2 QP rfl V4 rfl (by omega) c r) ?_);rintro e u' w' ⟨rfl,rfl,w3,uu,rfl⟩;have nA3:w3.heap[bA]?=some (.cells #[.int .i64 0,.int .i64 0] 93 (0,0)):=(uu.block bA (by have:=iw.size;omega)).trans QP;have RJ:w3.heap[bA+1]?=some (.cells #[.int .i64 0] 43 (0,0)):=(uu.block (bA+1) (by have:=iw.size;omega)).trans V4;show Leaves prog f82 a2.tmps _ [] .returning _;exact⟨_,Oo u2 u3 ((setRow_other _ (bA+1) bA _ (by omega)).trans (setRow_heap w3 bA _ _ _ _ nA3)) (setRow_heap _ (bA+1) _ _ _ _ ((setRow_other w3 bA (bA+1) _ (by omega)).trans RJ)),fin w3 c r 7 uu⟩
def fI(s:bG)(k a b:Nat)(p:Bool):Bool:=!decide (jy (eQ s) a b<ub s k)&&!(p&&decide (tR s k<jy (dI s) a b))
def lX(s:bG)(k a b:Nat)(p:Bool):(fI s k a b p=true/\ml s k a b p=.ret (.fZ []))\/(fI s k a b p=false/\∃r,ml s k a b p=.panic (je k r)):=by
 unfold fI ml
 by_cases h1:jy (eQ s) a b<ub s k
 .exact .inr ⟨by simp[h1],1,by simp[h1]⟩
 by_cases h2:(p&&decide (tR s k<jy (dI s) a b))=true
 .exact .inr ⟨by simp[h1,h2],2,by simp[h1,h2]⟩
 .exact .inl ⟨by simp[h1,h2],by simp[h1,h2]⟩
def XC(hG:av GI)(s:bG)(hl:s.ef.length<=1000)(hb:mu s){k a:Nat}(hk:k<s.eE.length)(ha:a<=s.ef.length):AC prog GI 171 [.ref (cm s),.ref [.int .i64 (k:Nat)],.ref [.int .i64 (a:Nat)]] (ml s k a s.ef.length false):=by
 have h:=Nl hG s hl hb false hk ha (Nat.le_refl _)
 rcases lX s k a s.ef.length false with⟨_,e⟩|⟨_,r,e⟩
 .rw[e]at h⊢;refine dZ hG func171 ntmps171 c171 ?_;simp[c171,fb,cm,cq,bz];exact⟨_,by kernel_rfl,h,by simp[bR],by simp⟩
 .rw[e]at h⊢;refine dZ hG func171 ntmps171 c171 ?_;simp[c171,fb,cm,cq,bz];exact⟨_,by kernel_rfl,h,by simp[bR,je,jn.rW],by simp[je]⟩
def Wv(hG:av GI)(s:bG)(hl:s.ef.length<=1000)(hb:mu s){k a b:Nat}(hk:k<s.eE.length)(ha:a<=s.ef.length)(eN:b<=s.ef.length):AC prog GI 172 [.ref (cm s),.ref [.int .i64 (k:Nat)],.ref [.int .i64 (a:Nat)],.ref [.int .i64 (b:Nat)]] (ml s k a b true):=by
 have h:=Nl hG s hl hb true hk ha eN
 rcases lX s k a b true with⟨_,e⟩|⟨_,r,e⟩
 .rw[e]at h⊢;refine dZ hG func172 ntmps172 c172 ?_;simp[c172,fb,cm,cq,bz];exact⟨_,by kernel_rfl,h,by simp[bR],by simp⟩
 .rw[e]at h⊢;refine dZ hG func172 ntmps172 c172 ?_;simp[c172,fb,cm,cq,bz];exact⟨_,by kernel_rfl,h,by simp[bR,je,jn.rW],by simp[je]⟩
def Ef(hG:av GI)(s:bG){f k a b:Nat}{p:Bool}{caps:List AV}(hf:dW prog f=true)(h:AC prog GI f caps (ml s k a b p)):∃c r,AC prog GI 82 [.func (.func f) [] caps] (.ret (BE c r (if fI s k a b p then 0 else 7))):=by
 rcases lX s k a b p with⟨e1,e⟩|⟨e1,r,e⟩
 .rw[e]at h;exact⟨0,0,by rw[e1];exact TJ hG hf h (.inl ⟨_,rfl,rfl,rfl,rfl⟩)⟩
 .rw[e]at h;exact⟨k,r,by rw[e1];exact TJ hG hf h (.inr ⟨rfl,rfl⟩)⟩
def fo(s:bG):Nat->Nat->Nat->Bool
 |0,k,d=>fI s k d s.ef.length false
 |r+1,k,d=>s.work.any λx=>decide ((d:Int)<x)&&(fI s k d x.toNat true&&fo s r (k+1) x.toNat)
def Lg(s:bG)(l:List (List Int×Value)):Prop:=∀x∈l,∃k d r:Nat,x=([(k:Int),(d:Int)],.bool (fo s r k d))/\k+r+1=s.eE.length
end Go.Proofs.Tryz
namespace Go.Proofs.Tryz
open Go.AL
def ji(a b:End):Bool:=decide (a.1<b.1)||(a.1==b.1&&decide (a.2<b.2))
def nO{a b:End}:ji a b=true↔a.1<b.1\/a.1=b.1/\a.2<b.2:=by
 simp[ji]
section
variable{l:List End}
end
def Mu(s:aD)(n:Int):Bool:=match s.words[n.toNat]? with|some w=>!w.free|none=>false
def pq(s:aD)(out:List Int):Bool:=iQ out 0 (s.words.length-1)&&decide (out.length<s.words.length)&&!(out.any (Mu s))
def jm(s:aD)(out:List Int)(n:Nat):List End:=if out.contains (n:Int)then[]else match s.words[n]? with
 |some w=>(w.er.map λk=>((n:Int),k))++[((n:Int),(w.bD.length:Int))]
 |none=>[]
def kM(s:aD)(out:List Int):List End:=(List.range s.words.length).flatMap (jm s out)
def tA(out:List Int):Nat->Int
 |0=> -1
 |n+1=>if out.contains (n:Int)then tA out n else n
def Pc(s:aD)(out:List Int)(e:End):Bool:=dD e.1 0 (s.words.length-1)&&!out.contains e.1&&match s.words[e.1.toNat]? with
 |some w=>e.2==(w.bD.length:Int)||w.er.contains e.2
 |none=>false
def wo(s:aD)(out:List Int):End:=(tA out s.words.length,match s.words[(tA out s.words.length).toNat]? with|some w=>(w.bD.length:Int)|none=>0)
def pZ(s:aD)(out:List Int)(es:List End):Bool:=pq s out&&!es.isEmpty&&(mA (Pc s out) ji es&&(es.getLast?.getD (-1,0)==wo s out))
def tZ{s:aD}{out:List Int}{e:End}:e∈kM s out↔Pc s out e=true:=by
 unfold kM Pc dD;rw[List.mem_flatMap];simp only[List.mem_range,Bool.and_eq_true,decide_eq_true_eq,Bool.not_eq_true',List.contains_eq_mem,decide_eq_false_iff_not]
 constructor
 .rintro⟨n,hn,he⟩;unfold jm at he;split at he
  .cases he
  rename_i hc
  have hc:¬(n:Int)∈out:=by simpa using hc
  rw[List.getElem?_eq_getElem hn]at he;simp only[List.mem_append,List.mem_map,List.mem_singleton]at he
  have h1:e.1=n:=by rcases he with⟨k,_,rfl⟩|rfl<;>rfl
  rw[h1];refine⟨⟨by omega,hc⟩,?_⟩;rw[Int.toNat_natCast,List.getElem?_eq_getElem hn];simp only[Bool.or_eq_true,beq_iff_eq,decide_eq_true_eq];rcases he with⟨k,hk,rfl⟩|rfl
  .exact .inr hk
  .exact .inl rfl
 .rintro⟨⟨⟨h1,h2⟩,hc⟩,h3⟩;obtain⟨w,k⟩:=e
  obtain⟨n,rfl⟩:∃n:Nat,w=n:=⟨w.toNat,by simp only at h1;omega⟩
  simp only at h1 h2 hc h3
  have hn:n<s.words.length:=by omega
  refine⟨n,hn,?_⟩;unfold jm;rw[if_neg (by simpa using hc)];rw[Int.toNat_natCast,List.getElem?_eq_getElem hn]at h3;rw[List.getElem?_eq_getElem hn];simp only[Bool.or_eq_true,beq_iff_eq,decide_eq_true_eq]at h3;simp only[List.mem_append,List.mem_map,List.mem_singleton];rcases h3 with rfl|h3
  .exact .inr rfl
  .exact .inl ⟨k,h3,rfl⟩
def Bp{s:aD}{out:List Int}(hw:∀w∈s.words,iQ w.er 1 (w.bD.length-1)=true):(kM s out).Pairwise λa b=>ji a b=true:=by
 unfold kM;rw[List.pairwise_flatMap]
 constructor
 .intro n hn;rw[List.mem_range]at hn;unfold jm;split
  .exact .nil
  rw[List.getElem?_eq_getElem hn];have h:=hw s.words[n] (List.getElem_mem hn);unfold iQ at h;rw[jM]at h;obtain⟨h1,h2⟩:=h;simp only;rw[List.pairwise_append];refine⟨?_,List.pairwise_singleton _ _,?_⟩
  .rw[List.pairwise_map]
   have:s.words[n].er.Pairwise λa b=>a<b:=Dr λj hj=>by simpa using h2 j hj
   exact this.imp λh=>by simp[ji,h]
  .intro a ha b hb;rw[List.mem_singleton]at hb;subst hb;obtain⟨k,hk,rfl⟩:=List.mem_map.1 ha;have:=h1 k hk;simp[dD]at this;simp[ji];omega
 .refine List.Pairwise.imp_of_mem ?_ List.pairwise_lt_range;intro a b ha hb LR x hx y hy
  have lP:x.1=a:=by
   unfold jm at hx;split at hx
   .cases hx
   split at hx
   .simp only[List.mem_append,List.mem_map,List.mem_singleton]at hx
    rcases hx with⟨k,_,rfl⟩|rfl<;>rfl
   .cases hx
  have Ea:y.1=b:=by
   unfold jm at hy;split at hy
   .cases hy
   split at hy
   .simp only[List.mem_append,List.mem_map,List.mem_singleton]at hy
    rcases hy with⟨k,_,rfl⟩|rfl<;>rfl
   .cases hy
  rw[nO,lP,Ea];left;omega
def xC{out:List Int}:∀n:Nat,(tA out n= -1/\∀k:Nat,k<n->(k:Int)∈out)\/∃m:Nat,m<n/\tA out n=m/\¬(m:Int)∈out/\∀k:Nat,m<k->k<n->(k:Int)∈out
 |0=>.inl ⟨rfl,λk hk=>by omega⟩
 |n+1=>by
  unfold tA;split
  .rename_i hc
   have hc:(n:Int)∈out:=by simpa using hc
   rcases xC (out:=out) n with⟨h1,h2⟩|⟨m,h1,h2,h3,h4⟩
   .refine .inl ⟨h1,λk hk=>?_⟩
    by_cases e:k=n
    .subst e;exact hc
    .exact h2 k (by omega)
   .refine .inr ⟨m,by omega,h2,h3,λk hk eG=>?_⟩
    by_cases e:k=n
    .subst e;exact hc
    .exact h4 k hk (by omega)
  .rename_i hc;exact .inr ⟨n,by omega,rfl,by simpa using hc,λk h1 h2=>by omega⟩
def LM{s:aD}{out:List Int}(h:pq s out=true):∃m:Nat,m<s.words.length/\tA out s.words.length=m/\¬(m:Int)∈out/\∀k:Nat,m<k->k<s.words.length->(k:Int)∈out:=by
 unfold pq at h;simp only[Bool.and_eq_true,decide_eq_true_eq]at h;obtain⟨⟨h1,h2⟩,_⟩:=h;rcases xC (out:=out) s.words.length with⟨_,h3⟩|h3
 .exfalso;unfold iQ at h1;rw[jM]at h1;obtain⟨_,h1⟩:=h1
  have hp:out.Pairwise λa b=>a<b:=Dr λj hj=>by simpa using h1 j hj
  have hp:=List.pairwise_iff_getElem.1 hp
  have key:∀k:Nat,k<s.words.length->∃j,k<=j/\∃hj:j<out.length,out[j]=k:=by
   intro k
   induction k with
   |zero=>
    intro hk;obtain⟨j,hj,e⟩:=List.getElem_of_mem (h3 0 hk);exact⟨j,by omega,hj,e⟩
   |succ k ih=>
    intro hk;obtain⟨j,hkj,hj,e⟩:=ih (by omega);obtain⟨j',dJ,e'⟩:=List.getElem_of_mem (h3 (k+1) hk);refine⟨j',?_,dJ,e'⟩;rcases Nat.lt_trichotomy j j' with h|h|h
    .omega
    .subst h;omega
    .have:=hp j' j dJ hj h;omega
  obtain⟨j,hkj,hj,_⟩:=key (s.words.length-1) (by omega);omega
 .exact h3
def tP{s:aD}{out:List Int}(h:pq s out=true):(kM s out).getLast?=some (wo s out):=by
 obtain⟨m,h1,h2,h3,h4⟩:=LM h
 have hl:wo s out=((m:Int),((s.words[m]).bD.length:Int)):=by
  unfold wo;rw[h2,Int.toNat_natCast,List.getElem?_eq_getElem h1]
 rw[hl];unfold kM
 obtain⟨d,hd⟩:∃d,s.words.length=m+1+d:=⟨s.words.length-m-1,by omega⟩
 have key:∀d,m+1+d<=s.words.length->((List.range (m+1+d)).flatMap (jm s out)).getLast?=some ((m:Int),((s.words[m]).bD.length:Int)):=by
  intro d
  induction d with
  |zero=>
   intro _;rw[Nat.add_zero,List.range_succ,List.flatMap_append,List.flatMap_singleton]
   have hm:¬(out.contains (m:Int)=true):=by simpa using h3
   have e:jm s out m=(s.words[m].er.map λk=>((m:Int),k))++[((m:Int),(s.words[m].bD.length:Int))]:=by
    unfold jm;rw[if_neg hm,List.getElem?_eq_getElem h1]
   rw[e,<-List.append_assoc,List.getLast?_append];simp
  |succ d ih=>
   intro hle;rw[<-Nat.add_assoc,List.range_succ,List.flatMap_append,List.flatMap_singleton]
   have hc:out.contains ((m+1+d:Nat):Int)=true:=by simpa using h4 (m+1+d) (by omega) (by omega)
   have e:jm s out (m+1+d)=[]:=by
    unfold jm;rw[if_pos hc]
   rw[e,List.append_nil];exact ih (by omega)
 rw[hd];exact key d (by omega)
def fM(s:aD)(w:Nat):Nat:=match s.words[w]? with|some x=>x.bD.length|none=>0
def oH{s:aD}{w:Nat}(h:w<s.words.length):fM s w=s.words[w].bD.length:=by unfold fM;rw[List.getElem?_eq_getElem h]
def lA(w f t:Nat):List (Nat×Nat):=(List.range' f (t-f)).map λi=>(w,i)
def jZ(s:aD)(out:List Int):Nat->Nat->Nat->Nat->List (Nat×Nat)
 |0,w,f,t=>lA w f t
 |d+1,w,f,t=>(if out.contains (w:Int)then[]else lA w f (fM s w))++jZ s out d (w+1) 0 t
def gL(s:aD)(out:List Int)(a e:Nat×Nat):List (Nat×Nat):=jZ s out (e.1-a.1) a.1 a.2 e.2
def Ej{w f t:Nat}(h:t<=f):lA w f t=[]:=by
 unfold lA;rw[show t-f=0 by omega];rfl
def B'{w f t:Nat}(h:f<t):lA w f t=(w,f)::lA w (f+1) t:=by
 unfold lA;rw[show t-f=(t-(f+1))+1 by omega,List.range'_succ];rfl
def KZ{w f t:Nat}(h:f<=t):lA w f (t+1)=lA w f t++[(w,t)]:=by
 unfold lA;rw[show t+1-f=(t-f)+1 by omega,List.range'_concat,List.map_append];simp only[List.map_cons,List.map_nil,Nat.one_mul];rw[show f+(t-f)=t by omega]
def Fo{w f t:Nat}:(lA w f t).length=t-f:=by simp[lA]
def Ez{w f t:Nat}{g:Nat×Nat}:g∈lA w f t↔g.1=w/\f<=g.2/\g.2<t:=by
 unfold lA;rw[List.mem_map];simp only[List.mem_range'_1]
 constructor
 .rintro⟨i,hi,rfl⟩;exact⟨rfl,hi.1,by have:=hi.2;show i<t;omega⟩
 .rintro⟨h1,h2,h3⟩;exact⟨g.2,by omega,by rw[<-h1]⟩
def HM{s:aD}{out:List Int}{w f t:Nat}(h:t<=f):gL s out (w,f) (w,t)=[]:=by
 unfold gL;simp only[Nat.sub_self];exact Ej h
def y0{s:aD}{out:List Int}{w f t:Nat}:gL s out (w,f) (w,t)=lA w f t:=by
 unfold gL;simp only[Nat.sub_self]
 rfl
def qg{s:aD}{out:List Int}{w f:Nat}{e:Nat×Nat}(h:w<e.1):gL s out (w,f) e=(if out.contains (w:Int)then[]else lA w f (fM s w))++gL s out (w+1,0) e:=by
 unfold gL;simp only;rw[show e.1-w=(e.1-(w+1))+1 by omega]
 rfl
def L7{s:aD}{out:List Int}{w f:Nat}{e:Nat×Nat}(h:w<e.1)(hc:out.contains (w:Int)=true):gL s out (w,f) e=gL s out (w+1,0) e:=by
 rw[qg h,if_pos hc,List.nil_append]
def G8{s:aD}{out:List Int}{w f:Nat}{e:Nat×Nat}(h:w<e.1)(hf:fM s w<=f):gL s out (w,f) e=gL s out (w+1,0) e:=by
 rw[qg h];split
 .rfl
 .rw[Ej hf];rfl
def OL{s:aD}{out:List Int}{w f:Nat}{e:Nat×Nat}(h:w<e.1/\out.contains (w:Int)=false/\f<fM s w\/w=e.1/\f<e.2):gL s out (w,f) e=(w,f)::gL s out (w,f+1) e:=by
 rcases h with⟨h,hc,hf⟩|⟨h,hf⟩
 .rw[qg h,qg h,hc];simp only[Bool.false_eq_true,if_false];rw[B' hf];rfl
 .obtain⟨ew,et⟩:=e;simp only at h hf;subst h;rw[y0,y0,B' hf]
def BJ{s:aD}{out:List Int}{b:Nat}(hb:∀w,fM s w<=b):∀(d w f t:Nat),t<=b->(jZ s out d w f t).length<=(d+1)*b
 |0,w,f,t,h=>by
  unfold jZ;rw[Fo];omega
 |d+1,w,f,t,h=>by
  unfold jZ;rw[List.length_append];have h1:=BJ (out:=out) hb d (w+1) 0 t h
  have h2:(if out.contains (w:Int)then[]else lA w f (fM s w)).length<=b:=by
   split
   .simp
   .rw[Fo];have:=hb w;omega
  have:(d+1+1)*b=(d+1)*b+b:=Nat.succ_mul _ _;omega
def BA{s:aD}{out:List Int}:∀(d w f t:Nat){g:Nat×Nat},g∈jZ s out d w f t->(g.1=w+d/\g.2<t)\/(w<=g.1/\g.1<w+d/\g.2<fM s g.1)
 |0,w,f,t,g,h=>by
  have:=Ez.1 h;left;omega
 |d+1,w,f,t,g,h=>by
  unfold jZ at h;rcases List.mem_append.1 h with h|h
  .split at h
   .cases h
   .have:=Ez.1 h;right;rw[this.1];omega
  .rcases BA d (w+1) 0 t h with h|h
   .left;omega
   .right;omega
def B4{s:aD}{out:List Int}:∀(d w f t:Nat),(d=0->f<t)->0<t->(jZ s out d w f t).getLast?=some (w+d,t-1)
 |0,w,f,t,h,h'=>by
  have h:=h rfl;unfold jZ
  obtain⟨t,rfl⟩:∃t',t=t'+1:=⟨t-1,by omega⟩
  rw[KZ (by omega)];simp
 |d+1,w,f,t,h,h'=>by
  unfold jZ;have:=B4 (s:=s) (out:=out) d (w+1) 0 t (λ_=>h') h';rw[List.getLast?_append,this];show some (w+1+d,t-1)=some (w+(d+1),t-1);rw[show w+1+d=w+(d+1) by omega]
def nE(e:End):Nat×Nat:=(e.1.toNat,e.2.toNat)
def kG(es:List End):Nat->Nat×Nat
 |0=>(0,0)
 |i+1=>match es[i]? with|some e=>nE e|none=>(0,0)
def iB(s:aD)(out:List Int)(es:List End)(i:Nat):List (Nat×Nat):=match es[i]? with|some e=>gL s out (kG es i) (nE e)|none=>[]
def iH(s:aD)(es:List End)(i:Nat):Bool:=match es[i]? with|some e=>decide (e.2<(fM s e.1.toNat:Int))|none=>false
structure Good(s:aD)(out:List Int)(es:List End):Prop where
 one:∀i (h:i<es.length),0<=es[i].1/\es[i].1<s.words.length/\out.contains es[i].1=false/\1<=es[i].2/\es[i].2<=fM s es[i].1.toNat
 aaf:∀i (h:i+1<es.length),es[i].1<es[i+1].1\/es[i].1=es[i+1].1/\es[i].2<es[i+1].2
def AJ{s:aD}(h:ba s=true){w:Word}(hw:w∈s.words):i_ s w=true:=by
 unfold ba oF at h;simp only[Bool.and_eq_true,Bool.not_eq_true',List.any_eq_false]at h;have:=h.2.1.1.2 w hw;simpa using this
structure Jn(s:aD)(w:Word):Prop where
 JD:1<=w.bD.length
 xe:w.bD.length<=6
 sign:∀n∈w.bD,0<=n/\n<s.da.length
 er:iQ w.er 1 (w.bD.length-1)=true
def oy{s:aD}(h:ba s=true){w:Word}(hw:w∈s.words):Jn s w:=by
 have h:=AJ h hw;unfold i_ at h;simp only[Bool.and_eq_true,Bool.not_eq_true',List.any_eq_false,dD,decide_eq_true_eq]at h;obtain⟨⟨⟨h1,h2⟩,h3⟩,h4⟩:=h;refine⟨by omega,by omega,λn hn=>?_,h4⟩;have:=h3 n hn;simp[kc,dD]at this;omega
def pP{s:aD}{out:List Int}{es:List End}(hs:ba s=true)(h:pZ s out es=true):Good s out es:=by
 unfold pZ at h;simp only[Bool.and_eq_true]at h;obtain⟨_,h,_⟩:=h;rw[jM]at h;obtain⟨h1,h2⟩:=h;refine⟨λi hi=>?_,λi hi=>?_⟩
 .have:=h1 _ (List.getElem_mem hi);unfold Pc dD at this;simp only[Bool.and_eq_true,decide_eq_true_eq,Bool.not_eq_true']at this;obtain⟨⟨⟨a1,a2⟩,a3⟩,a4⟩:=this
  have ao:es[i].1.toNat<s.words.length:=by omega
  rw[List.getElem?_eq_getElem ao]at a4;have hw:=oy hs (List.getElem_mem ao);rw[oH ao];refine⟨a1,by omega,a3,?_⟩;simp only[Bool.or_eq_true,beq_iff_eq]at a4;rcases a4 with a4|a4
  .have:=hw.JD;omega
  .have hc:=hw.er;unfold iQ at hc;rw[jM]at hc;have:=hc.1 _ (by simpa using a4);simp[dD]at this;omega
 .have:=h2 i hi;rw[nO]at this;exact this
def C_{s:aD}{out:List Int}{es:List End}(g:Good s out es){i:Nat}(h:i<es.length):(kG es i).1<(nE es[i]).1\/(kG es i).1=(nE es[i]).1/\(kG es i).2<(nE es[i]).2:=by
 cases i with
 |zero=>
  have:=g.one 0 h;show 0<es[0].1.toNat\/0=es[0].1.toNat/\0<es[0].2.toNat;omega
 |succ i=>
  have h1:=g.one i (by omega);have h2:=g.one (i+1) h;have h3:=g.aaf i h
  have e:kG es (i+1)=nE es[i]:=by
   show(match es[i]? with|some e=>nE e|none=>(0,0))=_;rw[List.getElem?_eq_getElem (by omega)]
  rw[e];show es[i].1.toNat<es[i+1].1.toNat\/es[i].1.toNat=es[i+1].1.toNat/\es[i].2.toNat<es[i+1].2.toNat;omega
def uY{s:aD}{out:List Int}{es:List End}{i:Nat}(h:i<es.length):iB s out es i=gL s out (kG es i) (nE es[i]):=by
 unfold iB;rw[List.getElem?_eq_getElem h]
def N9{s:aD}{es:List End}{i:Nat}(h:i<es.length):iH s es i=decide (es[i].2<(fM s es[i].1.toNat:Int)):=by
 unfold iH;rw[List.getElem?_eq_getElem h]
def I0{s:aD}{out:List Int}{es:List End}(g:Good s out es){i:Nat}(h:i<es.length):(iB s out es i).getLast?=some ((nE es[i]).1,(nE es[i]).2-1):=by
 have h1:=C_ g h;have h2:=g.one i h;rw[uY h];unfold gL
 have h3:0<(nE es[i]).2:=by show 0<es[i].2.toNat;omega
 rw[B4 _ _ _ _ (λhd=>by omega) h3]
 congr 2
 omega
def yG{s:aD}{out:List Int}{es:List End}(g:Good s out es){i:Nat}(h:i<es.length):iB s out es i≠[]:=by
 intro e;have:=I0 g h;rw[e]at this;cases this
def BS{s:aD}{out:List Int}{es:List End}(g:Good s out es){i:Nat}{x:Nat×Nat}(hx:x∈iB s out es i):x.1<s.words.length/\x.2<fM s x.1:=by
 by_cases h:i<es.length
 case neg=>
  unfold iB at hx;rw[List.getElem?_eq_none (by omega)]at hx;cases hx
 have h1:=C_ g h;have h2:=g.one i h;rw[uY h]at hx;have e1:(nE es[i]).1=es[i].1.toNat:=rfl;have e2:(nE es[i]).2=es[i].2.toNat:=rfl
 rcases BA _ _ _ _ hx with⟨h3,h4⟩|⟨h3,h4,h5⟩
 .have h5:x.1=es[i].1.toNat:=by omega
  rw[h5];refine⟨by omega,by omega⟩
 .exact⟨by omega,h5⟩
def vN{s:aD}{out:List Int}{es:List End}(hs:ba s=true)(g:Good s out es)(i:Nat):(iB s out es i).length<=24:=by
 by_cases h:i<es.length
 case neg=>
  unfold iB;rw[List.getElem?_eq_none (by omega)];simp
 have h2:=g.one i h
 have hb:∀w,fM s w<=6:=by
  intro w;unfold fM;split
  .rename_i x hx;obtain⟨ao,rfl⟩:=List.getElem?_eq_some_iff.1 hx;exact(oy hs (List.getElem_mem ao)).xe
  .omega
 rw[uY h];unfold gL;have h3:=BJ (s:=s) (out:=out) hb ((nE es[i]).1-(kG es i).1) (kG es i).1 (kG es i).2 (nE es[i]).2 (by have:=hb es[i].1.toNat;show es[i].2.toNat<=6;omega)
 have h4:s.words.length<=4:=by
  unfold ba dD at hs;simp only[Bool.and_eq_true,decide_eq_true_eq]at hs;omega
 have h5:(nE es[i]).1<s.words.length:=by show es[i].1.toNat<_;omega
 have h6:((nE es[i]).1-(kG es i).1+1)*6<=4*6:=Nat.mul_le_mul_right _ (by omega);omega
end Go.Proofs.Tryz
