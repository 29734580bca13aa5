/- A part of the proof. -/
import Derived.Test.YtajdcjkalbbogaaGreatDoorPr2
import Derived.Test.YtajdcjkalbbogaaGreatDoorTie
import Derived.Test.YtajdcjkalbbogaaGreatDoorCards
set_option maxRecDepth 100000
set_option maxHeartbeats 8000000
set_option linter.all false
namespace Go.Proofs.Tryz
open Go Go.AL Go.RowKit Go.Proofs Go.Proofs.Tram
attribute [local simp] eD fG fB eR eQ d_ ec dE dJ eP dF df ik ig aF aD ev aP.S aP.H bw au aX AL.start AV.cells AV.storable AV.cy bB cd dS cb HR.okB post cM dc de AV.out AV.cg cZ dZ fz gZ AV.vw cW vI int cz aN dk dP iS jN eM dV bG AV.aJ AV.cI
variable{GI:World->Prop}
def uc(s:az)(i:Nat):Bool:=match s.cells[i]? with|some c=>c.hid|none=>false
def lJ(s:az):Nat:=(s.pos-s.reach).toNat
def gh(s:az)(i:Nat):Bool:=decide (lJ s<=i)&&(decide (i<s.pos.toNat)&&!uc s i)
def oe(s:az)(i:Nat):List (Int×Value):=(List.range' (lJ s) (i-lJ s)).map λj:Nat=>((j:Int),Value.bool (!uc s j))
def eG(s:az):List End:=(gq (gh s) s.cells.length).map λv=>((v.1:Int),(v.2:Int))
def PI(s:az){i:Nat}:oF (i:Int) (oe s i) 0=none:=Bn λx hx=>by
 obtain⟨j,hj,rfl⟩:=adF.1 hx;have:=afG.1 hj;simp only;omega
def Oj(s:az){i:Nat}(h:lJ s<=i):oe s (i+1)=oe s i++[((i:Int),Value.bool (!uc s i))]:=by
 unfold oe
 have e:lJ s+1*(i-lJ s)=i:=zo
 rw[show i+1-lJ s=(i-lJ s)+1 by omega,afU,adL,e]
 rfl
def yB(f:Nat->Bool)(i:Nat):∀(n a k:Nat),((oF (i:Int) ((List.range' a n).map λj:Nat=>((j:Int),Value.bool (f j))) k).map (·.2)).getD (.bool false)=.bool (decide (a<=i)&&(decide (i<a+n)&&f i))
 |0,a,k=>by
  have:¬(a<=i/\i<a+0):=zo
  simp[oF];intro h1 h2;omega
 |n+1,a,k=>by
  rw[aeS,ady];unfold oF
  by_cases h:i=a
  .subst h;simp
  .have hb:((i:Int)==(a:Int))=false:=by simp;omega
   rw[hb];simp only[ads,adH];rw[yB f i n (a+1) (k+1)]
   congr 1
   rw[ad5];simp
   constructor
   .rintro⟨h1,h2,h3⟩;exact⟨zo,zo,h3⟩
   .rintro⟨h1,h2,h3⟩;exact⟨zo,zo,h3⟩
def NO(s:az)(hp:lJ s<=s.pos.toNat)(i:Nat):((oF (i:Int) (oe s s.pos.toNat) 0).map (·.2)).getD (.bool false)=.bool (gh s i):=by
 unfold oe;rw[yB (λj=>!uc s j)]
 congr 1
 unfold gh;rw[show lJ s+(s.pos.toNat-lJ s)=s.pos.toNat by omega]
def GD(b:Nat):Value:=.map (some b)
def FZ{α β:Type}[BEq α][LawfulBEq α]{t:α}{v:β}:∀{l:List (α×β)},l.lookup t=some v->(t,v)∈l
 |[],h=>by cases h
 |(a,b)::l,h=>by
  rw[List.lookup_cons]at h
  by_cases ht:(t==a)=true
  .rw[ht]at h;have:=eq_of_beq ht;cases h;subst this;exact adx
  .have uz:(t==a)=false:=by simpa using ht
   rw[uz]at h;exact adu _ (FZ h)
def dG(s:az)(i:Nat):Nat×List (Nat×Nat):=(List.range i).foldl (eO (gh s)) (0,[])
def pg(s:az)(i:Nat):dG s (i+1)=eO (gh s) (dG s i) i:=by
 unfold dG;rw[aeA,aem]
 rfl
def CZ(s:az):∀(d i:Nat),∃t,(dG s (i+d)).2=(dG s i).2++t
 |0,i=>⟨[],ahi⟩
 |d+1,i=>by
  obtain⟨t,ht⟩:=CZ s d i;rw[show i+(d+1)=i+d+1 by omega,pg];unfold eO;split
  .exact⟨t,ht⟩
  .simp only;split
   .exact⟨t++[((dG s (i+d)).1,i+d-1)],by rw[ht,ad2]⟩
   .exact⟨t,ht⟩
def F8(s:az):∀i,(dG s i).1<=i
 |0=>adl _
 |i+1=>by
  rw[pg];unfold eO;have:=F8 s i;split
  .omega
  .simp
variable{l:Nat}{xs:List AV}
def qL(l:Nat)(s:az)(bM:Nat)(ex:List (Nat×AV)):an:=λt=>if t=0 then .val (.func (.yield l) #[] #[])else if t=1 then .ref (av s)else if t=3 then .val (GD bM)else match ex.lookup t with|some v=>v|none=>.bo
structure VS(C:Cons prog GI l xs)(s:az)(cX:Value)(bM:Nat)(ex:List (Nat×AV))(l':List (Int×Value))(k:Nat)(a:Act)(w:World):Prop where
 size:a.tmps.size=54
 defers:a.defers=[]
 t0:a.tmps.getD 0 undef=.func (.yield l) #[] #[]
 t1:a.tmps.getD 1 undef=cX
 t3:a.tmps.getD 3 undef=GD bM
 ex:∀p∈ex,4<=p.1/\iG p.2=true/\RD (λ_ _=>False) w p.2 (a.tmps.getD p.1 undef)
 st:∃M Pr,C.J k M Pr w/\(∀b,M b->b<w.heap.size)/\M bM/\(∃es clock,w.heap[bM]?=some (.map es clock)/\AX (.int .i64) es l')/\RD Pr w (.ref (av s)) cX
variable{C:Cons prog GI l xs}{s:az}{cX:Value}{bM:Nat}{ex y0:List (Nat×AV)}{l':List (Int×Value)}{k:Nat}{a:Act}{w:World}
def VS.jj(h:VS C s cX bM ex l' k a w):∀t,t<54->(qL l s bM ex t).aJ=qL l s bM ex t/\RV (λb _=>b≠bM) cQ w (qL l s bM ex t) (a.tmps.getD t undef):=by
 intro t ht;obtain⟨M,Pr,hj,aq,hM,_,hx⟩:=h.st;unfold qL
 by_cases t0:t=0
 .subst t0;simp only[adS];rw[h.t0];exact⟨rfl,.data _ _ (.val _ rfl)⟩
 rw[if_neg t0]
 by_cases t1:t=1
 .subst t1;simp only[adS];rw[h.t1];exact⟨rfl,.data _ _ (hx.mono (bf.same λb k _ hp=>by rintro rfl;exact C.apart hj _ k hM hp))⟩
 rw[if_neg t1]
 by_cases t3:t=3
 .subst t3;simp only[adS];rw[h.t3];exact⟨rfl,.data _ _ (.val _ rfl)⟩
 rw[if_neg t3]
 cases hl:ex.lookup t with
 |none=>exact⟨rfl,.bo _⟩
 |some v=>
  have hm:(t,v)∈ex:=FZ hl;obtain⟨_,h2,h3⟩:=h.ex _ hm;refine⟨?_,.data _ _ (h3.iG h2)⟩
  cases v<;>first|rfl|cases h2
def VS.grow (h:VS C s cX bM ex l' k a w) {a':Act} {w':World} (hb:Below w.heap.size w w') (bj:a'.tmps.size=54) (eI:a'.defers=[]) (h0:∀ t,t < 4→a'.tmps.getD t undef=a.tmps.getD t undef)
  (hex:∀p∈y0,4<=p.1/\iG p.2=true/\RD (λ_ _=>False) w' p.2 (a'.tmps.getD p.1 undef)):VS C s cX bM y0 l' k a' w':=by
 obtain⟨M,Pr,hj,aq,hM,⟨es,clock,hm,he⟩,hx⟩:=h.st
 refine⟨bj,eI,(h0 0 zd).trans h.t0,(h0 1 zd).trans h.t1,(h0 3 zd).trans h.t3,hex,M,Pr,C.dQ hj (l7.vT hb) λb im=>⟨ad9 (aq b im) hb.size,.inl im⟩,λb im=>ad9 (aq b im) hb.size,hM,
  ⟨es,clock,(hb.block bM (aq bM hM)).trans hm,he⟩,hx.mono (bf.jm (λb h=>hb.block b h) λ_ _ _ h=>h)⟩
def W4:Nat->Bool:=λt=>decide (4<=t)
def VS.region (hG:ar GI) {C:Cons prog GI l xs} (h:VS C s cX bM ex l' k a w) {id:Nat} {ops:Array Oper} {ac:ah} {Q:Exit→Act→World→Prop} {m:Nat} (hc:kY (.region id ops false)=true) (oI:dw prog 54 (.region id ops false)=ac) (hW:jO ops W4=true)
  (y0:List (Nat×AV)) (hs:y0.all (λp=>decide (4<=p.1)&&(decide (p.1<54)&&iG p.2))=true) (zH:bD prog GI ac (aN λS' _=>∀p∈y0,S' p.1=p.2) (qL l s bM ex) (λ_=>none)) (hk:∀a' w',VS C s cX bM y0 l' k a' w'->Q .normal a' w'):(Code.region id ops false).wpIn (FR none) m prog Q a w:=by
 obtain⟨M,Pr,hj,aq,hM,Mk,hx⟩:=h.st;refine cJ hG db hc oI hW (C.gi hj) (λb _=>b≠bM) (qL l s bM ex) h.size h.defers h.jj zH ?_;intro g S' H' a' w' hg R1 hK bn;refine hk a' w' (h.grow (by have:=R1.below;rwa [R1.base]at this) R1.size (by rw[R1.defers,hg];rfl) (λt ht=>bn t (by simp[W4];omega)) λp hp=>?_);have vl:=adw.1 hs p hp;simp only[adk,adr]at vl;refine⟨vl.1,vl.2.2,?_⟩;have r:=R1.slot p.1 vl.2.1 (λh=>h);rw[hK p hp]at r;exact(r.dW (by have:=vl.2.2;revert this;cases p.2<;>simp[Go.AL.iG,AV.cg])).iG vl.2.2
def VS.bool(h:VS C s cX bM ex l' k a w){t:Nat}{b:Bool}(hm:(t,AV.bool b)∈ex):a.tmps.getD t undef=.bool b:=(RV.data (al:=cQ) _ _ (h.ex _ hm).2.2).fL
def VS.int(h:VS C s cX bM ex l' k a w){t:Nat}{b:Int}(hm:(t,AV.int .i64 b)∈ex):a.tmps.getD t undef=.int .i64 b:=(RV.data (al:=cQ) _ _ (h.ex _ hm).2.2).int_eq
def VS.aV (h:VS C s cX bM ex l' k a w) {a':Act} {w':World} (N:Nat) (hN:4≤N) (hb:Below w.heap.size w w') (bj:a'.tmps.size=54) (eI:a'.defers=[]) (h0:∀ t,t < N→a'.tmps.getD t undef=a.tmps.getD t undef)
  (hex:ex.all (λp=>decide (p.1<N))=true):VS C s cX bM ex l' k a' w':=
 h.grow hb bj eI (λt ht=>h0 t zo) λp hp=>by
  obtain⟨q1,q2,q3⟩:=h.ex p hp;have:=adw.1 hex p hp;rw[h0 p.1 (by simpa using this)];exact⟨q1,q2,q3.iG q2⟩
def VS.sub(h:VS C s cX bM ex l' k a w)(ab7:∀p∈y0,p∈ex):VS C s cX bM y0 l' k a w:=
 ⟨h.size,h.defers,h.t0,h.t1,h.t3,λp hp=>h.ex p (ab7 p hp),h.st⟩
def VS.put(h:VS C s cX bM ex l' k a w)(t:Nat)(v:Value)(ht:4<=t)(hex:ex.all (λp=>p.1 !=t)=true):VS C s cX bM ex l' k (a.put (some t) v) w:=by
 have fm:∀k,k≠t->(a.put (some t) v).tmps.getD k undef=a.tmps.getD k undef:=λk hk=>by
  simp[Act.put,adt (ad6 hk)]
 refine⟨by simp[Act.put,h.size],h.defers,(fm 0 zo).trans h.t0,(fm 1 zo).trans h.t1,(fm 3 zo).trans h.t3,λp hp=>?_,h.st⟩;have:=adw.1 hex p hp;rw[fm p.1 (by simpa using this)];exact h.ex p hp
noncomputable def Q7:ah:=ah.qb c113.qb.qa.qb.qb
noncomputable def yD:ah:=ah.qb c113.qb.qb.qb.qb.qb
def M0(hG:ar GI)(s:az)(h:iL s):xn prog GI 113 [.ref (av s)] ((eG s).map b_):=by
 intro l C w Pr bP hJ hlen hr;obtain⟨cX,rfl⟩:∃cX,bP=#[cX]:=sk (by simpa using hlen.symm);have XV:=hr 0 ahi ahi;simp only[List.getElem_cons_zero,List.getElem_toArray]at XV;refine(iU (ro:=none) (m:=0)).1 (agC func113 rfl trivial ?_);refine hZ (λa=>a.tmps.size=54/\a.defers=[]/\a.tmps.getD 0 undef=.func (.yield l) #[] #[]/\a.tmps.getD 1 undef=cX) ⟨by simp[ntmps113],rfl,cH _ _ 0 ahi,cH _ _ 1 ahi⟩ ?_;rintro a ⟨bj,eI,e0,e1⟩
 have fm:∀(a:Act)(d t:Nat)(c:Value),t≠d->(a.put (some d) c).tmps.getD t undef=a.tmps.getD t undef:=λa d t c h=>by
  simp[Act.put,adt (ad6 h)]
 have jK:∀(a:Act)(d:Nat)(c:Value),a.tmps.size=54->d<54->(a.put (some d) c).tmps.getD d undef=c:=λa d c h hd=>by
  simp[Act.put,h,hd]
 have kh:∀(a:Act)(d:Option Nat)(c:Value),(a.put d c).tmps.size=a.tmps.size:=λa d c=>by cases d<;>simp[Act.put]
 refine adB (adP ?_);show wpOpsIn _ _ _ _ _ [0,1] a w;refine bg rfl rfl zr (run_makeMap (t:=167) rfl) ?_
 obtain⟨bM,U1⟩:∃b,w.heap.size=b:=⟨_,rfl⟩
 obtain⟨w1,pH⟩:∃w1,w.alloc (.map #[] 0)=w1:=⟨_,rfl⟩
 have s1:w1.heap.size=bM+1:=by rw[<-pH];simp[U1]
 have n1:w1.heap[bM]?=some (.map #[] 0):=by rw[<-pH,<-U1];exact aee w _
 have b1:Below w.heap.size w w1:=by rw[<-pH];exact(aej _ _).alloc (adl _) _
 show wpOpsIn _ _ _ _ _ [1] (a.put (some 7) (.map (some w.heap.size))) (w.alloc (.map #[] 0));rw[pH,U1];have h7:(a.put (some 7) (.map (some bM))).eval (.tmp 7)=.map (some bM):=jK _ _ _ bj zd;refine bg rfl rfl zr (run_assign (x:=.tmp 7) w1 rfl) ?_;rw[h7];show Code.wpIn _ _ _ _ _ ((a.put (some 7) (.map (some bM))).put (some 3) (.map (some bM))) w1
 have vs:VS C s cX bM [] [] 0 ((a.put (some 7) (.map (some bM))).put (some 3) (.map (some bM))) w1:=by
  refine⟨by rw[kh,kh];exact bj,eI,by rw[fm _ _ _ _ zd,fm _ _ _ _ zd];exact e0,by rw[fm _ _ _ _ zd,fm _ _ _ _ zd];exact e1,jK _ _ _ (by rw[kh];exact bj) zd,λp hp=>(by cases hp),λb=>b=bM,Pr,C.dQ hJ (l7.vT b1) λb hb=>?_,λb hb=>?_,rfl,⟨#[],0,n1,rfl,λi hi=>(by simp at hi)⟩,?_⟩
  .exact⟨zo,.inr zo⟩
  .omega
  .exact(XV.dW rfl).mono (bf.jm (λb h=>b1.block b h) λ_ _ _ h=>h)
 generalize(a.put (some 7) (.map (some bM))).put (some 3) (.map (some bM))=a1 at vs⊢;clear h7 e0 e1 eI bj n1 s1 b1 pH U1 hJ hr XV hlen a
 obtain⟨p,hp⟩:∃p:Nat,s.pos=p:=⟨s.pos.toNat,by have:=h.pos;omega⟩
 have Rl:s.pos.toNat=p:=zo
 have iK:=h.pos;have acQ:=h.reach;have IY:=h.cells
 have V1:lJ s<=p:=by unfold lJ;omega
 have pW:IntKind.i64.wrap (s.pos-s.reach)=s.pos-s.reach:=aT zo
 have ab6:max 0 (s.pos-s.reach)=(lJ s:Int):=by unfold lJ;omega
 have acR:(if s.pos-s.reach<=0 then(0:Int)else s.pos-s.reach)=(lJ s:Int):=by unfold lJ;split<;>omega
 refine adB (adB ?_);refine vs.region hG (ac:=ah.qa c113.qb.qa) zk zk zk [(4,.int .i64 (lJ s))] rfl ?_ ?_
 .simp[c113,ah.qa,ah.qb,qL,List.lookup,av,pW];exact ab6
 clear vs;intro a w vs
 have RN:VS C s cX bM [(4,.int .i64 ((lJ s:Nat):Int))] (oe s (lJ s)) 0 a w:=by
  have:oe s (lJ s)=[]:=by simp[oe]
  rw[this];exact vs
 clear vs;show Code.wpIn _ _ _ _ _ a w;refine aeL (agX (λa w=>∃i,lJ s<=i/\i<=p/\VS C s cX bM [(4,.int .i64 (i:Nat))] (oe s i) 0 a w) (λa _=>match a.tmps.getD 4 undef with|.int _ i=>p-i.toNat|_=>0) ⟨lJ s,adl _,V1,RN⟩ ?_);clear RN a w;rintro a w ⟨i,hli,yG,vs⟩;have h4:a.tmps.getD 4 undef=.int .i64 (i:Nat):=vs.int ahi;refine adB (adB ?_);refine vs.region hG (ac:=ah.qa Q7.qa) zk zk zk [(4,.int .i64 (i:Nat)),(17,.bool (decide (i<p)))] rfl ?_ ?_
 .simp[c113,Q7,ah.qa,ah.qb,qL,List.lookup,av,hp]
 clear vs;intro a2 w2 vs;show Code.wpIn _ _ _ _ _ a2 w2;refine aed (t:=decide (i<p)) (vs.bool ahi) ?_
 by_cases aq:i<p
 case neg=>
  simp only[aq,agp,ads,adH];refine afx ?_
  have aaW:i=p:=zo
  subst aaW;show Code.wpIn _ _ _ _ _ a2 w2;clear hli yG h4 aq a w
  have aaa:oe s i=oe s s.pos.toNat:=by rw[Rl]
  refine adB ?_;refine vs.region hG (ac:=ah.qa c113.qb.qb) zk zk zk [(5,.int .i64 0)] rfl ?_ ?_
  .simp[c113,ah.qa,ah.qb,qL,List.lookup]
  clear vs;intro a w vs;show Code.wpIn _ _ _ _ _ a w;have hwn:IntKind.i64.wrap ((s.cells.length:Int)+1)=s.cells.length+1:=aT zo;refine adB ?_;refine vs.region hG (ac:=ah.qa c113.qb.qb.qb) zk zk zk [(5,.int .i64 ((0:Nat):Int)),(32,.int .i64 (s.cells.length+1)),(33,.int .i64 ((0:Nat):Int))] rfl ?_ ?_
  .simp[c113,ah.qa,ah.qb,qL,List.lookup,av,hwn]
  clear vs;intro a w vs;show Code.wpIn _ _ _ _ _ a w;refine aeL (agX (λa w=>∃j,j<=s.cells.length+1/\VS C s cX bM [(5,.int .i64 ((dG s j).1:Nat)),(32,.int .i64 (s.cells.length+1)),(33,.int .i64 (j:Nat))] (oe s i) (dG s j).2.length a w) (λa _=>match a.tmps.getD 33 undef with|.int _ j=>s.cells.length+1-j.toNat|_=>0) ⟨0,ad_ _,vs⟩ ?_);clear vs a w;rintro a w ⟨j,hj,vs⟩;have h33:a.tmps.getD 33 undef=.int .i64 (j:Nat):=vs.int ahi;refine adB ?_;refine vs.region hG (ac:=ah.qa yD) zk zk zk [(5,.int .i64 ((dG s j).1:Nat)),(32,.int .i64 (s.cells.length+1)),(33,.int .i64 (j:Nat)),(34,.bool (decide (j<s.cells.length+1)))] rfl ?_ ?_
  .simp[c113,yD,ah.qa,ah.qb,qL,List.lookup];omega
  clear vs;intro a3 w3 vs;show Code.wpIn _ _ _ _ _ a3 w3;refine adB (aed (t:=decide (j<s.cells.length+1)) (vs.bool ahi) ?_)
  by_cases qC:j<s.cells.length+1
  case neg=>
   simp only[qC,agp,ads,adH];refine afx ?_
   have OI:j=s.cells.length+1:=zo
   subst OI
   change bodyPost prog f113 (λe w'=>∃v M eS,e=Ending.returned v/\(C.J (List.map b_ (eG s)).length M eS w'\/C.X M eS w')) .normal a3 w3
   obtain⟨M,eS,dU,_⟩:=vs.st
   have hl:((eG s).map b_).length=(dG s (s.cells.length+1)).2.length:=by simp[eG,gq,dG]
   refine⟨vs.defers,.tuple #[],?_,.tuple #[],M,eS,rfl,.inl (by rw[hl];exact dU)⟩;simp[results,results113]
  simp only[qC,agy,adS];refine aeO ?_;show Code.wpIn _ _ _ _ _ a3 w3;refine adB (ae1 (Q:=λe a w=>(e=.normal/\VS C s cX bM [(5,.int .i64 ((dG s (j+1)).1:Nat)),(32,.int .i64 (s.cells.length+1)),(33,.int .i64 (j:Nat))] (oe s i) (dG s (j+1)).2.length a w)\/(e=.ret/\a.defers=[]/\∃M Pr,C.X M Pr w)) ?_ ?_)
  .refine aeL ?_;refine adB ?_;refine vs.region hG (ac:=ah.qa yD.qb.qb.qa.qb) zk zk zk [(5,.int .i64 ((dG s j).1:Nat)),(32,.int .i64 (s.cells.length+1)),(33,.int .i64 (j:Nat)),(6,.int .i64 (j:Nat))] rfl ?_ ?_
   .simp[c113,yD,ah.qa,ah.qb,qL,List.lookup]
   clear vs;intro a4 w4 vs;show Code.wpIn _ _ _ _ _ a4 w4;refine adB (adB ?_);obtain⟨M,eS,dU,tX,hM,⟨es,clock,hm,he⟩,hx⟩:=vs.st
   refine lu hG (GI:=GI) (p:=2) (l2:=[2]) rfl zk zk (l:=(yD.qb.qb.qa.qb.qb.qa.qa.dl).take 2) zk zd (W:=λt=>decide (36<=t)) zk (C.gi dU) (λb _=>b≠bM) (qL l s bM [(5,.int .i64 ((dG s j).1:Nat)),(32,.int .i64 (s.cells.length+1)),(33,.int .i64 (j:Nat)),(6,.int .i64 (j:Nat))]) vs.size vs.defers vs.jj
    (K:=λS _=>S 36=.val (GD bM)/\S 37=.int .i64 (j:Nat)) ?_ ?_
   .simp[c113,yD,ah.qa,ah.qb,ah.dl,qL,List.lookup]
   intro g S' H' a5 w5 hg R1 ⟨q36,q37⟩ bn
   have N5:Below w4.heap.size w4 w5:=by have:=R1.below;rwa [R1.base]at this
   have e36:a5.eval (.tmp 36)=.map (some bM):=by
    have:=R1.slot 36 zd (λh=>h);rw[q36]at this;exact this.jo
   have e37:a5.eval (.tmp 37)=.int .i64 (j:Nat):=vC R1 zd q37;have Hw:=vs.aV 36 zd N5 R1.size (by rw[R1.defers,hg];rfl) (λt ht=>bn t (by simp;omega)) rfl;have hm5:w5.heap[bM]?=some (.map es clock):=(N5.block bM (tX bM hM)).trans hm
   have ZK:prog.underlying 167=some (.map 3 4):=zk
   have XG:prog.underlying 3=some (.int .i64):=zk
   obtain⟨i4,Zh,Qt⟩:=aeJ.1 (show(prog.info? 4).bind (·.zero)=some (.bool false) by kernel_rfl);refine bg rfl rfl zr (v:=.bool (gh s j)) (w':=w5) ((IH (t:=167) (x1:=.tmp 36) (x2:=.tmp 37) rfl ZK XG Zh Qt e36 e37 hm5 he).trans (congrArg (λv=>Result.ok (Next.value v) w5) (by rw[aaa];exact NO s zo j))) ?_;show Code.wpIn _ _ _ _ _ (a5.put (some 38) (.bool (gh s j))) w5;have Hv:=Hw.put 38 (.bool (gh s j)) zd rfl;have I5:(a5.put (some 38) (.bool (gh s j))).tmps.getD 38 undef=.bool (gh s j):=jK _ _ _ Hw.size zd;generalize a5.put (some 38) (.bool (gh s j))=a6 at Hv I5⊢;clear vs Hw dU tX hM hm he hx M eS es clock N5 R1 bn hg q36 q37 e36 e37 hm5;refine aed (t:=gh s j) I5 ?_
   cases hsj:gh s j with
   |true=>
    simp only[adS]
    have hf:dG s (j+1)=dG s j:=by rw[pg];unfold eO;rw[if_pos hsj]
    refine afx (.inl ⟨rfl,?_⟩);rw[hf]
    exact Hv.sub λq hq=>by simp at hq⊢;rcases hq with rfl|rfl|rfl<;>simp
   |false=>
    simp only[ads,adH];refine aeO ?_;show Code.wpIn _ _ _ _ _ a6 w5;have oC:=F8 s j
    have hf:dG s (j+1)=(j+1,if(dG s j).1<j then(dG s j).2++[((dG s j).1,j-1)]else(dG s j).2):=by
     rw[pg];unfold eO;rw[if_neg (by rw[hsj];simp)]
    refine adB (ae1 (Q:=λe a w=>(e=.normal/\VS C s cX bM [(5,.int .i64 ((dG s j).1:Nat)),(32,.int .i64 (s.cells.length+1)),(33,.int .i64 (j:Nat)),(6,.int .i64 (j:Nat))] (oe s i) (dG s (j+1)).2.length a w)\/(e=.ret/\a.defers=[]/\∃M Pr,C.X M Pr w)) ?_ ?_)
    .refine adB ?_
     by_cases Vn:(dG s j).1<j
     case neg=>
      have QP:(dG s (j+1)).2=(dG s j).2:=by rw[hf];simp[Vn]
      refine Hv.region hG (ac:=ah.qa yD.qb.qb.qa.qb.qb.qb.qa) zk zk zk [(5,.int .i64 ((dG s j).1:Nat)),(32,.int .i64 (s.cells.length+1)),(33,.int .i64 (j:Nat)),(6,.int .i64 (j:Nat)),(50,.bool false)] rfl ?_ ?_
      .have:¬((dG s j).1:Int)<j:=zo
       simp[c113,yD,ah.qa,ah.qb,qL,List.lookup,Vn]
      intro a7 w7 BZ;show Code.wpIn _ _ _ _ _ a7 w7;refine aed (t:=false) (BZ.bool ahi) ?_;simp only[ads,adH];refine aeO (.inl ⟨rfl,?_⟩);rw[QP]
      exact BZ.sub λq hq=>by simp at hq⊢;rcases hq with rfl|rfl|rfl|rfl<;>simp
     case pos=>
      have QP:(dG s (j+1)).2=(dG s j).2++[((dG s j).1,j-1)]:=by rw[hf];simp[Vn]
      obtain⟨M,eS,dU,tX,hM,⟨es,clock,hm,he⟩,hx⟩:=Hv.st
      have Ye:IntKind.i64.wrap ((j:Int)-1)=((j-1:Nat):Int):=by rw[aT zo];omega
      have ng:((dG s j).1:Int)<j:=zo
      refine lu hG (GI:=GI) (p:=9) (l2:=[9,10,11]) rfl zk zk (l:=(yD.qb.qb.qa.qb.qb.qb.qa.qa.dl).take 9) zk zd (W:=λt=>decide (39<=t)) zk (C.gi dU) (λb _=>b≠bM) (qL l s bM [(5,.int .i64 ((dG s j).1:Nat)),(32,.int .i64 (s.cells.length+1)),(33,.int .i64 (j:Nat)),(6,.int .i64 (j:Nat))]) Hv.size Hv.defers Hv.jj
       (K:=λS _=>S 42=.bool true/\S 43=.val (.func (.yield l) #[] #[])/\S 47=.agg [.int .i64 ((dG s j).1:Nat),.int .i64 ((j-1:Nat):Int)]) ?_ ?_
      .simp[c113,yD,ah.qa,ah.qb,ah.dl,qL,List.lookup,Vn,Ye,bI]
      intro g S' H' a7 w7 hg R1 ⟨q42,Tw,q47⟩ bn
      have hb7:Below w5.heap.size w5 w7:=by have:=R1.below;rwa [R1.base]at this
      have XE:a7.tmps.getD 42 undef=.bool true:=by
       have:=R1.slot 42 zd (λh=>h);rw[q42]at this;exact this.fL
      have DO:a7.eval (.tmp 43)=.func (.yield l) #[] #[]:=by
       have:=R1.slot 43 zd (λh=>h);rw[Tw]at this;exact this.jo
      have e47:a7.eval (.tmp 47)=.agg #[.int .i64 ((dG s j).1:Nat),.int .i64 ((j-1:Nat):Int)]:=by
       have:=R1.slot 47 zd (λh=>h);rw[q47]at this;exact XZ this
      have BZ:=Hv.aV 39 zd hb7 R1.size (by rw[R1.defers,hg];rfl) (λt ht=>bn t (by simp;omega)) rfl;clear Hv dU tX hM hm he hx M eS es clock hb7 R1 bn hg q42 Tw q47 I5;obtain⟨M,eS,dU,tX,hM,⟨es,clock,hm,he⟩,hx⟩:=BZ.st;have Y8:=BZ.size
      have aca:a7.tmps[42]?=some (.bool true):=by
       have h2:a7.tmps[42]?=some (a7.tmps.getD 42 undef):=by simp[Y8]
       rw[h2,XE]
      obtain⟨tl,ER⟩:=CZ s (s.cells.length+1-(j+1)) (j+1);rw[show j+1+(s.cells.length+1-(j+1))=s.cells.length+1 by omega,QP]at ER
      have qK:(eG s).map b_=((dG s (s.cells.length+1)).2.map λv=>b_ ((v.1:Int),(v.2:Int))):=by simp[eG,gq,dG]
      have LU:(dG s j).2.length<((eG s).map b_).length:=by
       rw[qK,ER];simp
      have HE:((eG s).map b_)[(dG s j).2.length]=b_ (((dG s j).1:Int),((j-1:Nat):Int)):=by
       have:((eG s).map b_)[(dG s j).2.length]?=some (b_ (((dG s j).1:Int),((j-1:Nat):Int))):=by
        rw[qK,ER];simp
       rw[adh LU]at this;exact adM this
      have dh:RD (λb j=>eS b j\/((λ_=>False) b/\j<(λ_=>0) b)) w7 ((eG s).map b_)[(dG s j).2.length] (a7.eval (.tmp 47)):=by
       rw[HE,e47];refine .agg _ _ rfl (λi hi=>?_) (λi hi dv=>?_)
       .match i,hi with
        |0,_|1,_=>rfl
       .match i,hi with
        |0,_|1,_=>exact .int _ _
      obtain⟨ff,tmps,VU,bd,IQ,yr⟩:=C.round LU (λ_=>False) (λ_=>0) _ dU (λb hb=>hb.elim) dh;refine Gv rfl (by simp[Region.wanted,yielded,Cw,aca]) zr ((rX (f:=.tmp 43) (x:=.tmp 47) w7 rfl rfl rfl DO).trans IQ) yr ?_;rintro e w8 ⟨VI,Pr8,G5,yR⟩
      have Xz:(dG s (j+1)).2.length=(dG s j).2.length+1:=by rw[QP];simp
      obtain⟨b,rfl,hT,hF⟩:∃b:Bool,e=.returned (.bool b)/\(b=true->VS C s cX bM [(5,.int .i64 ((dG s j).1:Nat)),(32,.int .i64 (s.cells.length+1)),(33,.int .i64 (j:Nat)),(6,.int .i64 (j:Nat))] (oe s i) (dG s (j+1)).2.length a7 w8)/\(b=false->∃M Pr,C.X M Pr w8):=by
       rcases yR with⟨rfl,hj8⟩|⟨rfl,hX8⟩
       .refine⟨true,rfl,λ_=>?_,λh=>(by cases h)⟩
        have Pd:∀b,M b->w8.heap[b]?=w7.heap[b]?:=λb hb=>VI b hb (λh=>h)
        refine⟨BZ.size,BZ.defers,BZ.t0,BZ.t1,BZ.t3,λq hq=>?_,λb=>M b/\¬(λ_=>False) b,Pr8,by rw[Xz];exact hj8,λb hb=>?_,⟨hM,λh=>h⟩,⟨es,clock,(Pd bM hM).trans hm,he⟩,hx.mono G5⟩
        .obtain⟨q1,q2,q3⟩:=BZ.ex q hq;exact⟨q1,q2,q3.iG q2⟩
        .have h1:=Pd b hb.1;rw[adK (tX b hb.1)]at h1;exact(adj.1 h1).1
       .exact⟨false,rfl,λh=>(by cases h),λ_=>⟨_,_,hX8⟩⟩
      refine⟨_,rfl,?_⟩;show wpOpsIn _ _ _ _ _ [10,11] (a7.put (some 48) (.bool b)) w8
      have z8:(a7.put (some 48) (.bool b)).tmps.size=54:=by rw[kh];exact Y8
      have h48:(a7.put (some 48) (.bool b)).eval (.tmp 48)=.bool b:=jK _ _ _ Y8 zd
      have h42:(a7.put (some 48) (.bool b)).tmps[42]?=some (.bool true):=by
       have h2:(a7.put (some 48) (.bool b)).tmps[42]?=some ((a7.put (some 48) (.bool b)).tmps.getD 42 undef):=by simp[z8]
       rw[h2,fm _ _ _ _ zd,XE]
      refine NJ rfl (by simp[Region.wanted,yielded,Cw,h42]) zr (Qa (x:=.tmp 48) rfl h48) ?_;show wpOpsIn _ _ _ _ _ [11] ((a7.put (some 48) (.bool b)).put (some 49) (.bool !b)) w8;have h49:((a7.put (some 48) (.bool b)).put (some 49) (.bool !b)).eval (.tmp 49)=.bool !b:=jK _ _ _ z8 zd
      have aa7:((a7.put (some 48) (.bool b)).put (some 49) (.bool !b)).eval (.tmp 42)=.bool true:=by
       show Array.getD _ _ _=_;rw[fm _ _ _ _ zd,fm _ _ _ _ zd,XE]
      have z9:((a7.put (some 48) (.bool b)).put (some 49) (.bool !b)).tmps.size=54:=by rw[kh];exact z8
      have hpk:∀o:Oper,o.op=.pick (.tmp 42) (.tmp 49) (.const (.bool false))->(execOp ((a7.put (some 48) (.bool b)).put (some 49) (.bool !b)).eval o).run prog w8=.ok (.value (.bool !b)) w8:=by
       intro o ho;unfold execOp;simp[ho,aa7,h49,asBool]
      refine bg rfl rfl zr (hpk _ rfl) ?_;show Code.wpIn _ _ _ _ _ (((a7.put (some 48) (.bool b)).put (some 49) (.bool !b)).put (some 50) (.bool !b)) w8;refine aed (t:=!b) (jK _ _ _ z9 zd) ?_
      cases b with
      |true=>
       simp only[ahe,ads,adH];exact aeO (.inl ⟨rfl,(((hT rfl).put 48 _ zd rfl).put 49 _ zd rfl).put 50 _ zd rfl⟩)
      |false=>
       simp only[agu,adS];exact afh (.inr ⟨rfl,BZ.defers,hF rfl⟩)
    .rintro e a w (⟨rfl,vs⟩|⟨rfl,hd,M,eS,hX⟩)
     .show Code.wpIn _ _ _ _ _ a w
      refine vs.region hG (ac:=ah.qb yD.qb.qb.qa.qb.qb.qb) zk zk zk [(5,.int .i64 ((dG s (j+1)).1:Nat)),(32,.int .i64 (s.cells.length+1)),(33,.int .i64 (j:Nat))] rfl ?_ λa w vs=>.inl ⟨rfl,vs⟩
      have hw:IntKind.i64.wrap ((j:Int)+1)=j+1:=aT zo;simp[c113,yD,ah.qa,ah.qb,qL,List.lookup,hw,hf]
     .exact .inr ⟨rfl,hd,M,eS,hX⟩
  .rintro e a w (⟨rfl,vs⟩|⟨rfl,hd,M,eS,hX⟩)
   .show Code.wpIn _ _ _ _ _ a w;refine vs.region hG (ac:=ah.qb yD.qb.qb) zk zk zk [(5,.int .i64 ((dG s (j+1)).1:Nat)),(32,.int .i64 (s.cells.length+1)),(33,.int .i64 ((j+1:Nat):Int))] rfl ?_ ?_
    .have hw:IntKind.i64.wrap ((j:Int)+1)=j+1:=aT zo;simp[c113,yD,ah.qa,ah.qb,qL,List.lookup,hw]
    intro a5 w5 Hw;have aaw:a5.tmps.getD 33 undef=.int .i64 ((j+1:Nat):Int):=Hw.int ahi;refine⟨⟨j+1,zo,Hw⟩,?_⟩;simp only[aaw,h33];simp;omega
   .change bodyPost prog f113 (λe w'=>∃v M eS,e=Ending.returned v/\(C.J (List.map b_ (eG s)).length M eS w'\/C.X M eS w')) .ret a w
    refine⟨hd,.tuple #[],?_,.tuple #[],M,eS,rfl,.inr hX⟩;simp[results,results113]
 case pos=>
  simp only[aq,agy,adS];refine aeO ?_;show Code.wpIn _ _ _ _ _ a2 w2
  have hic:i<s.cells.length:=zo
  have abf:uc s i=s.cells[i].hid:=by unfold uc;rw[adh hic]
  refine adB (aeL ?_);obtain⟨M,Pr,hj,tX,hM,⟨es,clock,hm,he⟩,hx⟩:=vs.st
  refine lu hG (GI:=GI) (p:=9) (l2:=[9]) rfl zk zk (l:=(Q7.qb.qa.qb.dl).take 9) zk zd (W:=W4) zk (C.gi hj) (λb _=>b≠bM) (qL l s bM [(4,.int .i64 (i:Nat)),(17,.bool (decide (i<p)))]) vs.size vs.defers vs.jj
   (K:=λS _=>S 20=.val (GD bM)/\S 21=.int .i64 (i:Nat)/\S 28=.bool (!uc s i)/\S 4=.int .i64 (i:Nat)) ?_ ?_
  .simp[c113,Q7,ah.qa,ah.qb,ah.dl,qL,List.lookup,av,hic,abf,fR]
  intro g S' H' a3 w3 hg R1 ⟨RI,q21,BY,q4⟩ bn
  have oq:Below w2.heap.size w2 w3:=by have:=R1.below;rwa [R1.base]at this
  have e20:a3.eval (.tmp 20)=.map (some bM):=by
   have:=R1.slot 20 zd (λh=>h);rw[RI]at this;exact this.jo
  have e21:a3.eval (.tmp 21)=.int .i64 (i:Nat):=vC R1 zd q21
  have xx:a3.eval (.tmp 28)=.bool (!uc s i):=by
   have:=R1.slot 28 zd (λh=>h);rw[BY]at this;exact this.fL
  have e4:a3.tmps.getD 4 undef=.int .i64 (i:Nat):=vC R1 zd q4
  have N4:VS C s cX bM [(4,.int .i64 (i:Nat))] (oe s i) 0 a3 w3:=vs.grow oq R1.size (by rw[R1.defers,hg];rfl) (λt ht=>bn t (by simp[W4];omega)) λq hq=>by
   rw[adJ]at hq;subst hq;exact⟨adl _,rfl,by rw[e4];exact .int _ _⟩
  clear vs hj tX hM hm he hx M Pr es clock oq R1 bn hg RI q21 BY q4;obtain⟨M,Pr,hj,tX,hM,⟨es,clock,hm,he⟩,hx⟩:=N4.st
  have ZK:prog.underlying 167=some (.map 3 4):=zk
  have XG:prog.underlying 3=some (.int .i64):=zk
  refine eT rfl rfl zr (GW (t:=167) (x1:=.tmp 20) (x2:=.tmp 21) (x3:=.tmp 28) rfl ZK XG e20 e21 hm he (PI s)) ?_;rw[xx]
  obtain⟨w4,nv⟩:∃w4,w3.putObj bM (.map (es.push { key:=.int .i64 (i:Nat),val:=.bool (!uc s i),born:=clock }) (clock+1))=w4:=⟨_,rfl⟩
  show Code.wpIn _ _ _ _ _ a3 (w3.putObj bM (.map (es.push { key:=.int .i64 (i:Nat),val:=.bool (!uc s i),born:=clock }) (clock+1)));rw[nv];have abl:=tX bM hM
  have pB:w4.heap[bM]?=some (.map (es.push { key:=.int .i64 (i:Nat),val:=.bool (!uc s i),born:=clock }) (clock+1)):=by rw[<-nv];exact agZ abl
  have Bc:l7 M w3 w4:=by
   rw[<-nv];exact⟨rfl,rfl,rfl,by simp[World.putObj],λb _ hb=>agV (by rintro rfl;exact hb hM)⟩
  have KQ:w4.heap.size=w3.heap.size:=by rw[<-nv];simp[World.putObj]
  have vs4:VS C s cX bM [(4,.int .i64 (i:Nat))] (oe s (i+1)) 0 a3 w4:=by
   refine⟨N4.size,N4.defers,N4.t0,N4.t1,N4.t3,λq hq=>?_,M,Pr,C.dQ hj Bc λb hb=>⟨by rw[KQ];exact tX b hb,.inl hb⟩,λb hb=>by rw[KQ];exact tX b hb,hM,⟨_,_,pB,?_⟩,hx.mono (bf.qg λb k _ hp=>Bc.block b ?_ ?_)⟩
   .obtain⟨q1,q2,q3⟩:=N4.ex q hq;exact⟨q1,q2,q3.iG q2⟩
   .rw[Oj s hli];exact he.push (i:Int) (.bool (!uc s i)) clock
   .assumption
   .intro SY;exact C.apart hj _ k SY hp
  refine vs4.region hG (ac:=ah.qb Q7.qb) zk zk zk [(4,.int .i64 ((i+1:Nat):Int))] rfl ?_ ?_
  .have hw:IntKind.i64.wrap ((i:Int)+1)=i+1:=aT zo;simp[c113,Q7,ah.qa,ah.qb,qL,List.lookup,hw]
  intro a5 w5 Hw;have Re:a5.tmps.getD 4 undef=.int .i64 ((i+1:Nat):Int):=Hw.int ahi;refine⟨⟨i+1,zo,zo,Hw⟩,?_⟩;simp only[Re,h4];simp;omega
end Go.Proofs.Tryz
namespace Go.Proofs.Tryz
open Go Go.AL Go.RowKit Go.Proofs Go.Proofs.Tram
attribute [local simp] eD fG fB eR eQ d_ ec dE dJ eP dF df ik ig aF aD ev aP.S aP.H bw au aX AL.start AV.cells AV.storable AV.cy bB cd dS cb HR.okB post cM dc de AV.out AV.cg cZ dZ fz gZ AV.vw cW vI int cz aN dk dP iS jN eM dV bG AV.aJ AV.cI
variable{GI:World->Prop}
def Wz(hG:ar GI)(l:List Int)(hl:l.length<100000)(h:∀x∈l,0<=x/\x<=1000):AC prog GI 62 [vI l] (.ret (.int .i64 l.sum)):=by
 refine cw hG func62 ntmps62 c62 ?_;simp[c62];refine bu 8 l.length (λi S H=>S 6=vI l/\S 7=.int .i64 l.length/\S 8=.int .i64 (i:Nat)/\S 3=.int .i64 (l.take i).sum) (λi S H h=>h.2.2.1) ⟨ahi,ahi,ahi,ahi⟩ ?_;rintro i hi S H ⟨s6,s7,s8,s3⟩
 by_cases aq:i<l.length
 .have hb:=vq (l:=l.take i) λx hx=>h x (adU hx)
  have hx:=h l[i] (adi aq);rw[adA]at hb;have hw:IntKind.i64.wrap ((i:Int)+1)=i+1:=aT zo;have ln:IntKind.i64.wrap ((l.take i).sum+l[i])=(l.take i).sum+l[i]:=aT zo;rw[Fu aq];generalize(l.take i).sum=y at s3 ln⊢;simp[s6,s7,s8,s3,aq,hw,ln]
 .have di:i=l.length:=zo
  subst di;rw[aeB]at s3;simp[s6,s7,s8,s3]
def jR(l:List Int)(i:Nat):Int:=l.getD i 0
def KW(l:List Int){a b:Nat}(xC:a<=b)(hb:b<=l.length):((l.take b).drop a).sum=mu (jR l) a b:=by
 unfold mu
 congr 1
 apply aeH;intro i;rw[adO]
 by_cases hi:i<b-a
 .rw[afw,afV zo,adh zo,adh (by simpa using hi)];simp[jR,aef,show a+i<l.length by omega]
 .rw[adI (by simp;omega),adI (by simp;omega)]
  rfl
def Ss(hG:ar GI)(s:az):AC prog GI 55 [bm s] (.ret (.func (.func 113) [] [.ref (av s)])):=by
 refine AC.Fe hG db func55 rfl ntmps55 ahi (ac:=c55) zk ?_;simp[c55,bm,av,ai,bD,bp,aF,ba,aD,dk,ev,aP.S,aP.H,au,aX,AL.start,AV.aJ,AV.cells,AV.storable,cd,kE,bw,vI];refine⟨2,.func 113,[],[.box 1 0],rfl,zd,by simp[au],?_⟩;simp[au,fz,gZ,AV.cI]
def Tv:ah:=.ops [⟨(some 6),none,.alloc 26 [(.int .i64 0),(.int .i64 0)]⟩,⟨none,none,.store .any 2 (.t 6) (.t 11)⟩]
def Tc : ah := .block 1 <| .seq (.ops [⟨(some 12), none, .load .any false 1 (.t 3)⟩,
    ⟨(some 13),none,.fieldAddr 0 (.t 6)⟩,
    ⟨(some 14),none,.load .any false 1 (.t 13)⟩,
    ⟨(some 15),none,.fieldAddr 1 (.t 6)⟩,
    ⟨(some 16),none,.load .any false 1 (.t 15)⟩,
    ⟨(some 17),none,.bin .add (.t 16) (.c (.int .i64 1))⟩,
    ⟨(some 18),none,.nC 1 (.t 12) (some (.t 14)) (some (.t 17))⟩,
    ⟨(some 19),none,.call 62 [(.t 18)]⟩,
    ⟨(some 7),none,.mv true (.t 19)⟩])<|
  .block 2<|.loop<|
   .seq (.seq (.ops [⟨(some 20),none,.load .any false 1 (.t 5)⟩,
     ⟨(some 21),none,.fieldAddr 15 (.t 2)⟩,
     ⟨(some 22),none,.load .any false 1 (.t 21)⟩,
     ⟨(some 23),none,.kM (.t 22)⟩,
     ⟨(some 24),none,.bin .lss (.t 20) (.t 23)⟩,
     ⟨(some 25),none,.mv false (.t 24)⟩,
     ⟨(some 26),(some (25,true)),.fieldAddr 15 (.t 2)⟩,
     ⟨(some 27),(some (25,true)),.load .any false 1 (.t 26)⟩,
     ⟨(some 28),(some (25,true)),.load .any false 1 (.t 5)⟩,
     ⟨(some 29),(some (25,true)),.indexAddr 1 (.t 27) (.t 28)⟩,
     ⟨(some 30),(some (25,true)),.load .any false 1 (.t 29)⟩,
     ⟨(some 31),(some (25,true)),.mv false (.t 7)⟩,
     ⟨(some 32),(some (25,true)),.bin .leq (.t 30) (.t 31)⟩,
     ⟨(some 33),none,.pick (.t 25) (.t 32) (.c (.bool false))⟩])<|
   .cond (.t 33)
    (.skip)
    (.exit 2))<|
   .block 3 <| .seq (.ops [⟨(some 34),none,.mv false (.t 7)⟩,
      ⟨(some 35),none,.fieldAddr 15 (.t 2)⟩,
      ⟨(some 36),none,.load .any false 1 (.t 35)⟩,
      ⟨(some 37),none,.load .any false 1 (.t 5)⟩,
      ⟨(some 38),none,.indexAddr 1 (.t 36) (.t 37)⟩,
      ⟨(some 39),none,.load .any false 1 (.t 38)⟩,
      ⟨(some 40),none,.bin .sub (.t 34) (.t 39)⟩,
      ⟨(some 7),none,.mv true (.t 40)⟩])<|
    .ops [⟨(some 41),none,.load .any false 1 (.t 5)⟩,
      ⟨(some 42),none,.bin .add (.t 41) (.c (.int .i64 1))⟩,
      ⟨none,none,.store .any 1 (.t 5) (.t 42)⟩]
def O9:ah :=
   .seq (.seq (.ops [⟨(some 20),none,.load .any false 1 (.t 5)⟩,
     ⟨(some 21),none,.fieldAddr 15 (.t 2)⟩,
     ⟨(some 22),none,.load .any false 1 (.t 21)⟩,
     ⟨(some 23),none,.kM (.t 22)⟩,
     ⟨(some 24),none,.bin .lss (.t 20) (.t 23)⟩,
     ⟨(some 25),none,.mv false (.t 24)⟩,
     ⟨(some 26),(some (25,true)),.fieldAddr 15 (.t 2)⟩,
     ⟨(some 27),(some (25,true)),.load .any false 1 (.t 26)⟩,
     ⟨(some 28),(some (25,true)),.load .any false 1 (.t 5)⟩,
     ⟨(some 29),(some (25,true)),.indexAddr 1 (.t 27) (.t 28)⟩,
     ⟨(some 30),(some (25,true)),.load .any false 1 (.t 29)⟩,
     ⟨(some 31),(some (25,true)),.mv false (.t 7)⟩,
     ⟨(some 32),(some (25,true)),.bin .leq (.t 30) (.t 31)⟩,
     ⟨(some 33),none,.pick (.t 25) (.t 32) (.c (.bool false))⟩])<|
   .cond (.t 33)
    (.skip)
    (.exit 2))<|
   .block 3 <| .seq (.ops [⟨(some 34),none,.mv false (.t 7)⟩,
      ⟨(some 35),none,.fieldAddr 15 (.t 2)⟩,
      ⟨(some 36),none,.load .any false 1 (.t 35)⟩,
      ⟨(some 37),none,.load .any false 1 (.t 5)⟩,
      ⟨(some 38),none,.indexAddr 1 (.t 36) (.t 37)⟩,
      ⟨(some 39),none,.load .any false 1 (.t 38)⟩,
      ⟨(some 40),none,.bin .sub (.t 34) (.t 39)⟩,
      ⟨(some 7),none,.mv true (.t 40)⟩])<|
    .ops [⟨(some 41),none,.load .any false 1 (.t 5)⟩,
      ⟨(some 42),none,.bin .add (.t 41) (.c (.int .i64 1))⟩,
      ⟨none,none,.store .any 1 (.t 5) (.t 42)⟩]
def U_ {s:az} {aw:List Int} {n oU:Nat} {T:Int} (hn:∀ x∈aw,0≤x∧x≤1000) (VL:aw.length≤1000) (Rt:n≤aw.length) (hT:0≤T∧T≤100000) (FV:(eh (aw.drop n) T).1=oU) {S:an} {H:ao} {x3:AV} {Q:dT→an→ao→Prop}
  (s2:S 2=.box 2 0) (h2:H 2=some (br s aw)) (h3:H 3=some [x3]) (s5:S 5=.box 5 0) (h5:H 5=some [.int .i64 (n:Nat)]) (s7:S 7=.int .i64 T)
  (hQ:∀S H,H 2=some (br s aw)->H 3=some [x3]->H 5=some [.int .i64 ((n+oU:Nat):Int)]->Q (.exit 2) S H):bD prog GI (.loop O9) Q S H:=by
 have ER:oU<=aw.length-n:=by rw[<-FV];have:=vQ (aw.drop n) T;simpa using this
 refine⟨λS H=>∃m:Nat,m<=oU/\S 2=.box 2 0/\H 2=some (br s aw)/\H 3=some [x3]/\S 5=.box 5 0/\H 5=some [.int .i64 ((n+m:Nat):Int)]/\S 7=.int .i64 (T-((aw.drop n).take m).sum)/\T-((aw.drop n).take m).sum<=T/\0<=T-((aw.drop n).take m).sum,
  λS H=>match H 5 with|some [.int _ j]=>(aw.length-j).toNat|_=>0,⟨0,ad_ _,s2,h2,h3,s5,h5,by simpa using s7,ahi,by simpa using hT.1⟩,?_⟩
 clear h5 h3 h2 s2 s5 s7 S H;rintro S H ⟨m,hm,s2,h2,h3,s5,h5,s7,oH,iY⟩;have l8:=xI (aw.drop n) T m zo;rw[afI]at l8
 have OV:oU=m+(eh (aw.drop (n+m)) (T-((aw.drop n).take m).sum)).1:=by
  rw[<-FV,l8]
 obtain⟨left,Yu⟩:∃left,T-((aw.drop n).take m).sum=left:=⟨_,rfl⟩
 rw[Yu]at OV s7 oH iY
 have YQ:H 5=some [.int .i64 ((n:Int)+m)]:=by rw[h5];simp
 by_cases BT:n+m<aw.length
 case neg=>
  have Z4:(eh (aw.drop (n+m)) left).1=0:=by
   have:=vQ (aw.drop (n+m)) left;simp at this;omega
  have Ub:¬((n:Int)+m<aw.length):=zo
  have Yf:oU=m:=zo
  subst Yf;have hq:=hQ;simp[O9,br,av,ai,s2,h2,h3,s5,h5,s7,BT,Ub];refine hq _ _ ?_ ?_ ?_
  .rw[h2]
  .rw[h3]
  .rw[h5]
 have hd:aw.drop (n+m)=aw[n+m]::aw.drop (n+m+1):=afj BT;have hx:=hn aw[n+m] (adi BT)
 have Ub:(n:Int)+m<aw.length:=zo
 have uv:(0:Int)<=(n:Int)+m:=zo
 have VK:((n:Int)+m).toNat=n+m:=zo
 by_cases hle:aw[n+m]<=left
 case neg=>
  have Z4:(eh (aw.drop (n+m)) left).1=0:=by rw[hd,eh,if_neg hle]
  have Yf:oU=m:=zo
  subst Yf;simp[O9,br,av,ai,s2,h2,h3,s5,h5,s7,BT,Ub,uv,VK,hle];refine hQ _ _ ?_ ?_ ?_
  .rw[h2]
  .rw[h3]
  .rw[h5]
 case pos=>
  have Xv:m+1<=oU:=by rw[hd,eh,if_pos hle]at OV;omega
  have pH:IntKind.i64.wrap (left-aw[n+m])=left-aw[n+m]:=aT zo;have ln:IntKind.i64.wrap ((n:Int)+m+1)=n+m+1:=aT zo
  have XO:T-((aw.drop n).take (m+1)).sum=left-aw[n+m]:=by
   rw[adp (by simp;omega),aeR];simp;omega
  simp[O9,br,av,ai,s2,h2,h3,s5,h5,s7,BT,Ub,uv,VK,hle,pH,ln];refine⟨⟨m+1,Xv,zo,by rw[XO],zo,zo⟩,zo⟩
def nT(s:az)(aw cm:List Int)(k:Nat):Nat:=fX aw (jR cm) ((gq (gh s) s.cells.length).take k)
def R9 (hG:ar GI) (s:az) (h:iL s) (aw:List Int) (hn:∀ x∈aw,0≤x∧x≤1000) (VL:aw.length≤1000) (cm:List Int) (hr:cm.length=s.cells.length) (yL:∀ x∈cm,0≤x∧x≤1000) :
  AC prog GI 59 [dO s aw,vI cm] (.ret (.int .i64 (fX aw (jR cm) (gq (gh s) s.cells.length)))):=by
 have IY:=h.cells
 refine AC.jF func59 rfl ntmps59 ahi λcc w=>?_
 refine dX hG c59.qa (λS' H'=>S' 2=.box 2 0/\H' 2=some (br s aw)/\S' 3=.box 3 0/\H' 3=some [vI cm]) ?_ ?_
 .simp[c59,ah.qa,dO,br,av,ai]
 rintro S1 H1 ⟨s2,h2,s3,h3⟩;refine dX hG c59.qb.qa (λS' H'=>S' 2=.box 2 0/\H' 2=some (br s aw)/\S' 3=.box 3 0/\H' 3=some [vI cm]/\S' 5=.box 5 0/\H' 5=some [.int .i64 0]) ?_ ?_
 .simp[c59,ah.qa,ah.qb,br,av,ai,s2,h2,s3,h3]
  try rfl
 clear s2 h2 s3 h3;rintro S2 H2 ⟨s2,h2,s3,h3,s5,h5⟩;refine SW.seq (dX hG c59.qb.qb.qa.qa (λS' H'=>S' 2=.box 2 0/\H' 2=some (br s aw)/\S' 3=.box 3 0/\H' 3=some [vI cm]/\S' 5=.box 5 0/\H' 5=some [.int .i64 0]/\S' 10=.func (.func 113) [] [.ref (av s)]) ?_ ?_)
 .simp[c59,ah.qa,ah.qb,br,av,ai,s2,h2,s3,h3,s5,h5];refine oc (Ss hG s) ?_;simp[s2,h2,s3,h3,s5,h5,br,av,ai]
  try rfl
 clear s2 h2 s3 h3 s5 h5;rintro S3 H3 ⟨s2,h2,s3,h3,s5,h5,bJ⟩
 have ET:pC (λd=>d==6) (S3 2)=.box 2 0:=by rw[s2];rfl
 have U':pC (λd=>d==6) (S3 3)=.box 3 0:=by rw[s3];rfl
 have p7:pC (λd=>d==6) (S3 5)=.box 5 0:=by rw[s5];rfl
 refine SW.block (SW.range hG db (Oh:=.tmp 10) (y:=.t 10) (p:=11) (f:=113) (caps:=[.ref (av s)]) (xs:=(eG s).map b_) rfl bJ zk rfl (M0 hG s h) zd (λx hx=>by obtain⟨e,_,rfl⟩:=adF.1 hx;rfl)
  (λd=>d==6) (aa:=Tv) (ab:=Tc) zk zk (by simp[Tv,ah.names,bH.jy,eC.jy]) (by simp[Tc,ah.names,bH.jy,eC.jy]) (λ_ _ h=>h) zk zk
  (λk H'=>H' 2=some (br s aw)/\H' 3=some [vI cm]/\H' 5=some [.int .i64 (nT s aw cm k:Nat)]) (λ_ _=>False) ⟨h2,h3,by rw[h5];rfl⟩ ?_ ?_ ?_)
 .rintro k hk H' ⟨h2,h3,h5⟩
  have cE:k<(gq (gh s) s.cells.length).length:=by simpa[eG]using hk
  obtain⟨f,t,YO⟩:∃f t,(gq (gh s) s.cells.length)[k]=(f,t):=⟨_,_,rfl⟩
  have HE:((eG s).map b_)[k]=.agg [.int .i64 (f:Nat),.int .i64 (t:Nat)]:=by simp[eG,YO,b_]
  have iq:gh s s.cells.length=false:=by
   have:=h.pos;unfold gh
   have:¬s.cells.length<s.pos.toNat:=zo
   simp[this]
  have bX:=(Gf iq).1 (f,t) (by rw[<-YO];exact adi cE);simp only at bX;obtain⟨acW,ac2⟩:=bX;have hw:IntKind.i64.wrap ((t:Int)+1)=t+1:=aT zo;have yM:=KW cm (a:=f) (b:=t+1) zo zo;have mc:=Wz hG ((cm.take (t+1)).drop f) (by simp;omega) (λx hx=>yL x (adU (afM hx)));have hT0:=vq (l:=(cm.take (t+1)).drop f) (λx hx=>yL x (adU (afM hx)))
  have hTl:((cm.take (t+1)).drop f).length<=12:=by simp;omega
  have mb:nT s aw cm (k+1)=nT s aw cm k+(eh (aw.drop (nT s aw cm k)) (mu (jR cm) f (t+1))).1:=by
   unfold nT;rw[adp cE,YO,rF]
  rw[<-yM]at mb;have Rt:nT s aw cm k<=aw.length:=Ax _ _ _;rw[HE];generalize hTT:((cm.take (t+1)).drop f).sum=T at mc hT0 mb;generalize nT s aw cm k=n at mb Rt h5
  have i1:((t:Int)+1).toNat=t+1:=zo
  have i2:t+1<=cm.length:=zo
  have i3:f<=t+1:=zo
  have j1:(f:Int)<=(t:Int)+1:=zo
  have j2:(t:Int)+1<=cm.length:=zo
  have DT:List.drop f (List.take (t+1) (ints cm))=ints (List.drop f (List.take (t+1) cm)):=by simp[ints,agA,ae_]
  have cL:aG 1 (ints cm)=true:=qF _;simp[Tv,Tc,br,av,ai,ET,h2,U',h3,p7,h5,hw,i1,i2,i3,j1,j2,bound,DT,cL];refine oc mc ?_;simp[br,av,ai,ET,h2,U',h3,p7,h5]
  obtain⟨oU,FV⟩:∃oU,(eh (aw.drop n) T).1=oU:=⟨_,rfl⟩
  rw[FV]at mb
  have ER:oU<=aw.length-n:=by rw[<-FV];have:=vQ (aw.drop n) T;simpa using this
  refine U_ (s:=s) (x3:=vI cm) hn VL Rt ⟨hT0.1,zo⟩ FV (by simp[ET]) (by simp[au,h2]) (by simp[au,h3]) (by simp[p7]) (by simp[au,h5]) (by simp[au]) ?_;intro S H q2 q3 q5;simp only[dP,adS,tr];refine⟨?_,?_,?_⟩
  .rw[q2];rfl
  .rw[q3];rfl
  .rw[q5,mb]
 .rintro D H' hD ⟨h2,h3,h5⟩;show SW prog GI 44 none (.seq _ .ret) _ _ _ _
  have qn:nT s aw cm ((eG s).map b_).length=fX aw (jR cm) (gq (gh s) s.cells.length):=by
   unfold nT;rw[ado (by simp[eG])]
  rw[qn]at h5;refine dX hG c59.qb.qb.qb.qa (λS' _=>S' 4=.int .i64 (fX aw (jR cm) (gq (gh s) s.cells.length))) ?_ ?_
  .simp[c59,ah.qa,ah.qb,p7,h5]
  intro S4 H4 s4;refine SW.ret ⟨(ep.plain rfl).mark hD,rfl,_,?_,rfl⟩;show cM prog 44 [.tmp 4] S4 H4=_;simp[cM,dc,de,s4,AV.cg,AV.out]
  try rfl
 .exact λ_ _ _ _ _ h=>h.elim
def Hf(l:List End):AV:=.slice (if l.isEmpty then .nil else .own 26) (l.map b_)
def pN(l:List End):AV:=.slice (if l.isEmpty then .nil else .view) (l.map b_)
def Hl(s:az):AV:=.func (.func 113) [] [.ref (av s)]
noncomputable def Hi:ah:=.ops [⟨some 5,none,.alloc 26 [(.int .i64 0),(.int .i64 0)]⟩,⟨none,none,.store .any 2 (.t 5) (.t 7)⟩]
noncomputable def GH:ah:=.block 1<|.ops [⟨some 8,none,.loadT .any (.t 2)⟩,⟨some 9,none,.load .any true 2 (.t 5)⟩,⟨some 10,none,.buildSlice 52 26 2 [.t 9]⟩,⟨some 11,none,.append 52 26 2 16 (.t 8) (.t 10)⟩,⟨none,none,.store .any 1 (.t 2) (.t 11)⟩]
def YT (hG:ar GI) (s:az) {ps:List End} (hlen:ps.length≤1000000) (hit:xn prog GI 113 [.ref (av s)] (ps.map b_)) :
  AC prog GI 112 [.slice .nil [],Hl s] (.ret (pN ps)):=by
 refine AC.jF func112 rfl ntmps112 ahi λcc w=>?_
 refine dX hG c112.qa (λS' H'=>S' 1=Hl s/\S' 2=.box 2 0/\H' 2=some [.slice .nil []]) ?_ ?_
 .simp[c112,Hl,ah.qa,bD,bp,aF,ba,aD,ev,aP.S,aP.H,au,aX,AL.start,AV.aJ,AV.cells,AV.storable,cd,kE,bw,vI,b_,aN]
 rintro S1 H1 ⟨s1,s2,h2⟩;refine SW.seq (dX hG c112.qb.qa.qa (λS' H'=>S' 2=.box 2 0/\S' 6=Hl s/\H' 2=some [.slice .nil []]) ?_ ?_)
 .simp[c112,Hl,ah.qa,ah.qb,bD,bp,aF,ba,aD,ev,aP.S,aP.H,au,aX,s2,h2,aN,AV.aJ]
  rw[s1]<;>rfl
 rintro S3 H3 ⟨s2,s6,h2⟩
 refine SW.block (SW.range hG db (Oh:=.tmp 6) (y:=.t 6) (p:=7) (f:=113) (caps:=[.ref (av s)]) (xs:=ps.map b_) rfl s6 zk rfl hit zd (λx hx=>by obtain⟨e,_,rfl⟩:=adF.1 hx;rfl)
  (λd=>d==5) (aa:=Hi) (ab:=GH)
  zk zk (by simp[Hi,ah.names,bH.jy,eC.jy]) (by simp[GH,ah.names,bH.jy,eC.jy]) (λ_ _ h=>h) zk zk
  (λk H'=>H' 2=some [Hf (ps.take k)]) (λ_ _=>False) h2 ?_ ?_ ?_)
 .rintro k hk H' h2
  have cE:k<ps.length:=by simpa using hk
  have HE:(ps.map b_)[k]=b_ ps[k]:=ahi
  have qn:ps.take (k+1)=ps.take k++[ps[k]]:=by rw[adp cE]
  have ET:pC (λd=>d==5) (S3 2)=.box 2 0:=by rw[s2]<;>rfl
  rw[HE,qn]
  have hL:(List.take k ps).length<=1000000:=by simp;omega
  generalize List.take k ps=L at hL h2⊢
  cases L with
  |nil=>simp[Hi,GH,ET,h2,b_,tr,Hf,aG,HR.okB,bB]
  |cons x L=>
   have nq:L.length+1+1<1048576:=by simp at hL;omega
   have bX:aG 2 (b_ x::L.map b_)=true:=by simp[aG,vI,b_,AV.storable,AV.cells]
   simp[Hi,GH,ET,h2,b_,tr,Hf,aG,HR.okB,bB,nq]
 .rintro D H' hD h2;show SW prog GI 13 none (.seq _ .ret) _ _ _ _
  have ET:pC (λd=>d==5) (S3 2)=.box 2 0:=by rw[s2]<;>rfl
  have qn:List.take (ps.map b_).length ps=ps:=ado ahi;rw[qn]at h2;refine dX hG c112.qb.qb.qa (λS' _=>S' 4=pN ps) ?_ ?_
  .cases ps<;>simp[c112,ah.qa,ah.qb,bD,bp,aF,ba,aD,ev,aP.S,aP.H,au,aX,cb,ET,h2,HR.okB,aN,Hf,pN,AV.aJ,bw]
  intro S4 H4 s4;refine SW.ret ⟨(ep.plain rfl).mark hD,rfl,_,?_,rfl⟩;show cM prog 13 [.tmp 4] S4 H4=_;simp[cM,dc,de,s4,pN,AV.cg,AV.out]
 .exact λ_ _ _ _ _ h=>h.elim
def Wq(hG:ar GI)(s:az){ps:List End}(hlen:ps.length<=1000000)(hit:xn prog GI 113 [.ref (av s)] (ps.map b_)):AC prog GI 54 [Hl s] (.ret (pN ps)):=by
 refine AC.jF func54 rfl ntmps54 ahi λcc w=>?_
 refine dX hG c54.qa (λS' H'=>S' 0=Hl s) ?_ ?_
 .simp[c54,Hl,ah.qa,bD,bp,aF,ba,aD,ev,aP.S,aP.H,au,aX,AL.start,AV.aJ,aN,bw]
 intro S1 H1 s0
 refine SW.seq (SW.hand hG (p:=1) (lm:=[1]) (l2:=[2]) (kj:=[_]) (oh:=[_]) (nk:=[_]) rfl rfl rfl rfl zk (λ_ h=>h)
  (n9:=(c54.qb.qa.dl).take 1) (np:=(c54.qb.qa.dl).drop 2) zk zk zk zk
  (K1:=λS _=>S 3=Hl s) (K2:=λo S _=>o=Old.plain cc w/\S 4=pN ps) (K3:=λo S _=>o=Old.plain cc w/\S 2=pN ps) ?_ ?_ ?_ ?_)
 .simp[c54,ah.qa,ah.qb,ah.dl,bp,aF,ba,aD,aP.S,aP.H,ev,au,aX]
  rw[s0]<;>rfl
 .rintro w0 g S2 H2 a w' m cq ho R s3;have r3:=R.slot 3 zd id;rw[s3]at r3
  refine gk rfl rfl zr (gn (k:=112) (args:=#[.slice none 0 0,a.tmps.getD 3 undef]) w' rfl rfl ?_ zk) (YT hG s hlen hit w' (fC g false) #[.slice none 0 0,a.tmps.getD 3 undef] (hG w0 w' cq (by have:=R.below;rwa [R.base]at this)) rfl (λi h h'=>by
   match i,h with
   |0,_=>exact .data _ _ (.iB _)
   |1,_=>exact(r3.cQ rfl).mono (bf.same λb k _ hp=>.inl hp) λ_ _ h=>h)) ?_
  .simp only[adV,ady,adR,Act.eval]
  rintro e w2 ⟨iY,hi,qi,c,rfl,MR,cV⟩;refine⟨_,rfl,?_⟩;obtain⟨g',q1,q2,R'⟩:=R.call (some 4) (λt ht=>by cases ht;exact⟨zd,id⟩) false iY qi MR cV (λh=>by cases h);exact⟨g',_,_,R',q2.trans ho,aO _ _ _⟩
 .rintro o S2 H2 ⟨rfl,s4⟩;refine⟨λ_ h=>h,?_⟩
  cases ps<;>simp[c54,ah.qa,ah.qb,ah.dl,bp,aF,ba,aD,aP.S,aP.H,ev,au,aX,s4,pN,bw]
 .rintro o S2 H2 ⟨rfl,s2⟩;refine SW.ret ⟨ep.plain rfl,rfl,_,?_,rfl⟩;show cM prog 5 [.tmp 2] S2 H2=_;simp[cM,dc,de,s2,pN,AV.cg,AV.out]
def Ep(s:az):∀i,(dG s i).2.length<=i
 |0=>adl _
 |i+1=>by
  have ih:=Ep s i;rw[pg];unfold eO;split
  .omega
  .simp only;split
   .simp;omega
   .omega
def Bh(s:az):(eG s).length<=s.cells.length+1:=by
 have:=Ep s (s.cells.length+1);simpa[eG,gq,dG]using this
def Hj(s:az):List AV:=if dn s then[.slice .view (aY (eG s)),.int .i64 0]else[.slice .view [],.int .i64 2]
def abF(hG:ar GI)(s:az)(hs:fW s):AC prog GI 18 [bm s] (.ret (.dR (Hj s))):=by
 have pv:=rk hG s hs;unfold Hj
 cases hI:dn s with
 |false=>
  rw[hI]at pv;refine cw hG func18 ntmps18 c18 ?_;simp[c18,bm,av,ai];refine oc pv ?_;simp
 |true=>
  rw[hI]at pv;have hg:=gQ hI;have Ko:=Ss hG s;have sO:=Wq hG s (ps:=eG s) (by have:=Bh s;have:=hg.cells;omega) (M0 hG s hg);have sO:=AC.nz (o:=if(eG s).isEmpty then .nil else .view) sO;refine cw hG func18 ntmps18 c18 ?_;simp[c18,bm,av,ai];refine oc pv ?_;simp;refine oc Ko ?_;simp;refine⟨_,zk,sO,by simp[cW,rE],?_⟩;simp[aY]
def abb(hG:ar GI)(a b:End):AC prog GI 66 [b_ a,b_ b] (.ret (.bool (decide (a.2<b.2)))):=by
 refine cw hG func66 ntmps66 c66 ?_;simp[c66,b_]
def lQ(x:End)(l:List End):End:=l.foldl (λo y=>if y.2<o.2 then y else o) x
def GP(x:End)(l:List End){i:Nat}(h:i<l.length):lQ x (l.take (i+1))=if l[i].2<(lQ x (l.take i)).2 then l[i]else lQ x (l.take i):=by
 unfold lQ;rw[af3,adh h,aem]
 rfl
def acg(hG:ar GI)(x:End)(l:List End)(hl:l.length<1000000):AC prog GI 65 [.slice .view (aY (x::l)),.func (.func 66) [] []] (.ret (b_ (lQ x l))):=by
 obtain⟨iT,TV,SO⟩:=iZ 103 2;obtain⟨fs,fw⟩:=uZ 103;have bX:aG 2 (aY (x::l))=true:=vk (x::l);refine cw hG func65 ntmps65 c65 ?_;refine aK (λS H=>S 0=.slice .view (aY (x::l))/\S 1=.func (.func 66) [] []/\S 4=.box 4 0/\H 4=some [.int .i64 0,.int .i64 0]) ahi ?_;rintro S H ⟨s0,s1,s4,h4⟩;refine aK (λS H=>S 0=.slice .view (aY (x::l))/\S 1=.func (.func 66) [] []/\S 4=.box 4 0/\H 4=some [.int .i64 0,.int .i64 0]/\S 5=.box 5 0/\H 5=some [.int .i64 x.1,.int .i64 x.2]) (by simp[s0,s1,s4,h4,aY,b_,bI]) ?_;clear s0 s1 s4 h4 S H;rintro S H ⟨s0,s1,s4,h4,s5,h5⟩
 have hd:(aY (x::l)).drop 1=aY l:=by simp[aY]
 have hlen:(aY (x::l)).length=l.length+1:=by simp[aY]
 have Ae:(1:Int)<=(l.length:Int)+1:=zo
 have qn:List.take (l.length+1) (aY (x::l))=aY (x::l):=ado zo;generalize aY (x::l)=L at s0 hd hlen qn bX
 have Za:((l.length:Int)+1).toNat=l.length+1:=zo
 simp[bound,s0,s1,s4,h4,s5,h5,hd,hlen,Ae,qn,bX,Za];refine bu 14 l.length (λi S H=>S 1=.func (.func 66) [] []/\S 4=.box 4 0/\H 4=some [.int .i64 0,.int .i64 0]/\S 5=.box 5 0/\H 5=some [.int .i64 (lQ x (l.take i)).1,.int .i64 (lQ x (l.take i)).2]/\S 12=.slice .view (aY l)/\S 13=.int .i64 l.length/\S 14=.int .i64 (i:Nat)) (λi S H h=>h.2.2.2.2.2.2.2) ⟨by simp[s1],by simp[s4],by simp[h4],by simp[s5],by simp[h5,lQ],ahi,by simp[aY],ahi⟩ ?_;clear s0 s1 s4 h4 s5 h5 S H;rintro i hi S H ⟨s1,s4,h4,s5,h5,cK,dH,eg⟩
 by_cases aq:i<l.length
 .have hw:IntKind.i64.wrap ((i:Int)+1)=i+1:=aT zo
  have hn:¬(i:Int)<0:=zo
  have hs:=GP x l aq;have Wx:=abb hG l[i] (lQ x (l.take i))
  generalize lQ x (l.take i)=o at*
  by_cases hc:l[i].2<o.2
  .rw[if_pos hc]at hs;rw[hs];simp[s1,s4,h4,s5,h5,cK,dH,eg,aq,hn,aY,b_,bI];refine oc Wx ?_;simp[s1,s4,h4,s5,h5,cK,dH,eg,hc,hw,aY,b_]
  .rw[if_neg hc]at hs;rw[hs]
   have xk:o.2<=l[i].2:=zo
   simp[s1,s4,h4,s5,h5,cK,dH,eg,aq,hn,aY,b_,bI];refine oc Wx ?_;simp[s1,s4,h4,s5,h5,cK,dH,eg,hc,xk,hw,aY,b_]
 .have di:i=l.length:=zo
  subst di;rw[aeB]at h5;simp[s1,s4,h4,s5,h5,cK,dH,eg,TV,SO,fw,ef,b_]
def QH{a:Act}{w:World}{o:Oper}{x:Operand}{t ty:TypeId}{n:Nat}(ho:o.op=.binOp .shr t x (.const (.int .u64 1)) ty)(hx:a.eval x=.int .u64 (n:Nat)):(execOp a.eval o).run prog w=.ok (.value (.int .u64 ((n/2:Nat):Int))) w:=by
 unfold execOp;have hc:a.eval (.const (.int .u64 1))=.int .u64 1:=rfl
 have hf:((n:Int)).fdiv 2=((n/2:Nat):Int):=by
  rw[Int.fdiv_eq_ediv_of_nonneg _ zd];omega
 simp[ho,hx,hc,Go.binOp,Op.shift,eqGuard,IntKind.bits,hf]
def UF{x:Int}(h:0<=x/\x<1000000000):IntKind.u64.wrap x=x:=by
 unfold IntKind.wrap;simp[IntKind.bits,IntKind.signed];omega
noncomputable def pA:ah:=ah.qb c63.qb.qb.qa.qb
def abr (hG:ar GI) {n:Nat} (hn:n < 100000) (k:Nat) (u v x:List AV) (hk:eb prog k=true) {p:Nat→Bool} (hm:∀ x y,x≤y→p x=true→p y=true) (h:∀ y:Nat,y < n→AC prog GI k [.int .i64 (y:Nat),.ref u,.ref v,.ref x] (.ret (.bool (p y)))) {m:Nat} (hl:qp p n m) :
  AC prog GI 63 [.int .i64 (n:Nat),.func (.func k) [] [.ref u,.ref v,.ref x]] (.ret (.int .i64 (m:Nat))):=by
 refine AC.jF func63 rfl ntmps63 ahi λcc w=>?_
 refine dX hG c63.qa (λS H=>S 0=.int .i64 (n:Nat)/\S 1=.func (.func k) [] [.ref u,.ref v,.ref x]) ?_ ?_
 .simp[c63,ah.qa]
 rintro S1 H1 ⟨s0,s1⟩;refine dX hG c63.qb.qa (λS H=>S 1=.func (.func k) [] [.ref u,.ref v,.ref x]/\S 5=.int .i64 ((0:Nat):Int)/\S 6=.int .i64 (n:Nat)) ?_ ?_
 .simp[c63,ah.qa,ah.qb,s0,s1]
 clear s0 s1;rintro S2 H2 ⟨s1,s5,s6⟩;show SW prog GI 26 none (.seq (.block 0 (.loop _)) (.seq _ .ret)) _ _ _ _;refine SW.seq (SW.block (SW.loop (λo S H=>∃i j:Nat,o=Old.plain cc w/\i<=j/\j<=n/\(∀y,y<i->p y=false)/\(∀y,j<=y->y<n->p y=true)/\S 1=.func (.func k) [] [.ref u,.ref v,.ref x]/\S 5=.int .i64 (i:Nat)/\S 6=.int .i64 (j:Nat)) (λS _=>match S 5,S 6 with|.int _ i,.int _ j=>(j-i).toNat|_,_=>0) ⟨0,n,rfl,ad_ _,adl _,λy hy=>absurd hy zo,λy h1 h2=>absurd h1 zo,s1,s5,s6⟩ ?_));clear s1 s5 s6;rintro o S3 H3 ⟨i,j,rfl,ss,xu,uo,An,s1,s5,s6⟩;have m5:=s5;have m6:=s6;show SW prog GI 26 none (.seq (.seq _ (.cond _ _ _)) (.block 1 (.seq _ (.seq _ (.cond _ _ _))))) _ _ _ _;refine SW.seq (dX hG pA.qa.qa (λS H=>S 1=.func (.func k) [] [.ref u,.ref v,.ref x]/\S 5=.int .i64 (i:Nat)/\S 6=.int .i64 (j:Nat)/\S 11=.bool (decide (i<j))) ?_ ?_)
 .simp[c63,pA,ah.qa,ah.qb,s1,s5,s6]
 clear s1 s5 s6;rintro S4 H4 ⟨s1,s5,s6,bC⟩
 by_cases aq:i<j
 case neg=>
  refine SW.cond rfl false (by show S4 11=_;rw[bC];simp[aq]) (SW.exit ?_)
  have fD:i=j:=zo
  subst fD;have him:i=m:=qp.unique (k:=n) (p:=p) ⟨xu,uo,λh=>An i (adl _) h⟩ hl;subst him;show SW prog GI 26 none (.seq _ .ret) _ _ _ _;refine dX hG c63.qb.qb.qb.qa (λS H=>S 4=.int .i64 (i:Nat)) ?_ ?_
  .simp[c63,ah.qa,ah.qb,s5]
  intro S5 H5 s4;refine SW.ret ⟨ep.plain rfl,rfl,_,?_,rfl⟩;show cM prog 26 [.tmp 4] S5 H5=_;simp[cM,dc,de,s4,AV.cg,AV.out]
 refine SW.cond rfl true (by show S4 11=_;rw[bC];simp[aq]) (SW.skip ?_);show SW prog GI 26 none (.block 1 (.seq _ (.seq _ (.cond _ _ _)))) _ _ _ _;obtain⟨g1,g2,g3⟩:=V' hm aq uo
 obtain⟨q,hq⟩:∃q,(i+j)/2=q:=⟨_,rfl⟩
 rw[hq]at g1 g2 g3
 have pH:IntKind.i64.wrap ((i:Int)+j)=((i+j:Nat):Int):=by rw[aT zo];omega
 have ln:IntKind.u64.wrap ((i+j:Nat):Int)=((i+j:Nat):Int):=UF zo
 have acI:IntKind.u64.wrap ((i:Int)+j)=((i+j:Nat):Int):=by rw[UF zo];omega
 have qI:IntKind.i64.wrap (q:Nat)=(q:Nat):=aT zo
 refine SW.block (SW.seq (SW.hand hG (p:=4) (lm:=[4]) (l2:=[5,6]) (kj:=[_,_,_,_]) (oh:=[_]) (nk:=[_,_]) rfl rfl rfl rfl zk (λ_ h=>h)
  (n9:=(pA.qb.qb.qa.dl).take 4) (np:=(pA.qb.qb.qa.dl).drop 5) zk zk zk zk
  (K1:=λS H=>S 1=.func (.func k) [] [.ref u,.ref v,.ref x]/\S 5=.int .i64 (i:Nat)/\S 6=.int .i64 (j:Nat)/\S 15=.int .u64 ((i+j:Nat):Int))
  (K2:=λo S H=>o=Old.plain cc w/\S 1=.func (.func k) [] [.ref u,.ref v,.ref x]/\S 5=.int .i64 (i:Nat)/\S 6=.int .i64 (j:Nat)/\S 16=.int .u64 (q:Nat))
  (K3:=λo S H=>o=Old.plain cc w/\S 1=.func (.func k) [] [.ref u,.ref v,.ref x]/\S 5=.int .i64 (i:Nat)/\S 6=.int .i64 (j:Nat)/\S 7=.int .i64 (q:Nat)) ?_ ?_ ?_ ?_))
 .simp[c63,pA,ah.qa,ah.qb,ah.dl,s1,s5,s6,pH,ln,acI]
 .rintro w0 g S5 H5 a w' m cq ho R ⟨s1,s5,s6,ki⟩
  have HC:a.eval (.tmp 15)=.int .u64 ((i+j:Nat):Int):=by
   have t15:=R.slot 15 zd (λh=>h);rw[ki]at t15;exact t15.int_eq
  refine bg rfl rfl zr (QH rfl HC) ?_;rw[hq];exact⟨_,_,_,R.put 16 (.int .u64 (q:Nat)) _ zd (.data _ _ (.int _ _)) trivial,ho,by simp[au,s1],by simp[au,s5],by simp[au,s6],by simp[au]⟩
 .rintro o S5 H5 ⟨rfl,s1,s5,s6,fP⟩;refine⟨λ_ h=>h,?_⟩;simp[c63,pA,ah.qa,ah.qb,ah.dl,s1,s5,s6,fP,qI]
 clear s1 s5 s6 bC;rintro o S5 H5 ⟨rfl,s1,s5,s6,s7⟩;show SW prog GI 26 none (.seq _ (.cond _ _ _)) _ _ _ _;have hc:=h q zo;refine dX hG pA.qb.qb.qb.qa (λS H=>S 1=.func (.func k) [] [.ref u,.ref v,.ref x]/\S 5=.int .i64 (i:Nat)/\S 6=.int .i64 (j:Nat)/\S 7=.int .i64 (q:Nat)/\S 21=.bool (!p q)) ?_ ?_
 .simp[c63,pA,ah.qa,ah.qb,s1,s5,s6,s7];refine⟨_,hk,hc,by simp[cW,rE],?_⟩;simp[s1,s5,s6,s7]
 clear s1 s5 s6 s7;rintro S6 H6 ⟨s1,s5,s6,s7,ja⟩
 cases hp:p q with
 |true=>
  refine SW.cond rfl false (by show S6 21=_;rw[ja,hp]<;>rfl) ?_;refine SW.last hG db zk (ac:=ah.qb pA.qb.qb.qb.qb) zk (λ_ _ h=>h) (λS H=>S 1=.func (.func k) [] [.ref u,.ref v,.ref x]/\S 5=.int .i64 (i:Nat)/\S 6=.int .i64 (q:Nat)) ?_ ?_
  .simp[c63,pA,ah.qa,ah.qb,s1,s5,s6,s7]
  rintro S7 H7 ⟨s1,s5,s6⟩;refine⟨⟨i,q,rfl,g1,zo,uo,λy IQ hy2=>hm q y IQ hp,s1,s5,s6⟩,?_⟩;show(match S7 5,S7 6 with|.int _ i,.int _ j=>(j-i).toNat|_,_=>0)<(match S3 5,S3 6 with|.int _ i,.int _ j=>(j-i).toNat|_,_=>0);rw[s5,s6,m5,m6];simp only;omega
 |false=>
  refine SW.cond rfl true (by show S6 21=_;rw[ja,hp]<;>rfl) ?_
  have nv:IntKind.i64.wrap ((q:Int)+1)=((q+1:Nat):Int):=by rw[aT zo];omega
  refine SW.last hG db zk (ac:=ah.qa pA.qb.qb.qb.qb) zk (λ_ _ h=>h) (λS H=>S 1=.func (.func k) [] [.ref u,.ref v,.ref x]/\S 5=.int .i64 ((q+1:Nat):Int)/\S 6=.int .i64 (j:Nat)) ?_ ?_
  .simp[c63,pA,ah.qa,ah.qb,s1,s5,s6,s7,nv]
  rintro S7 H7 ⟨s1,s5,s6⟩;refine⟨⟨q+1,j,rfl,zo,xu,g3 hp,An,s1,s5,s6⟩,?_⟩;show(match S7 5,S7 6 with|.int _ i,.int _ j=>(j-i).toNat|_,_=>0)<(match S3 5,S3 6 with|.int _ i,.int _ j=>(j-i).toNat|_,_=>0);rw[s5,s6,m5,m6];simp only;omega
def QF{P:Program}{x y:ah}{Q:dT->an->ao->Prop}{S:an}{H:ao}(K:an->ao->Prop)(hx:bD P GI x (dk K Q) S H)(hy:∀S' H',K S' H'->bD P GI y Q S' H'):bD P GI (.seq x y) Q S H:=
 gu x (pf (λS H h=>hy S H h) (λ_ _ _ h=>h)) hx
def Ai{P:Program}{K:an->ao->Prop}{Qp:AV->Prop}{l2:List bH}:∀(l1:List bH)(S:an)(H:ao),bp P GI l1 (bp P GI l2 K Qp) Qp S H->bp P GI (l1++l2) K Qp S H
 |[],S,H,h=>h
 |o::rest,S,H,h=>by
  simp only[List.cons_append,bp]at h⊢;split at h
  .exact oW (λS H=>Ai rest S H) (λ_ h=>h) h
  .exact Ai rest _ _ h
  .exact h
def qz{P:Program}{l:List bH}{K:an->ao->Prop}{Qp:AV->Prop}{S:an}{H:ao}(n:Nat)(I:an->ao->Prop)(h1:bp P GI (l.take n) I Qp S H)(h2:∀S H,I S H->bp P GI (l.drop n) K Qp S H):bp P GI l K Qp S H:=by
 rw[<-aeC n l];exact Ai _ _ _ (tC h2 (λ_ h=>h) _ _ _ h1)
def Cv(hG:ar GI)(n lo hi:Int):AC prog GI 34 [.int .i64 n,.int .i64 lo,.int .i64 hi] (.ret (.bool (da n lo hi))):=by
 refine cw hG func34 ntmps34 c34 ?_
 by_cases h1:lo<=n<;>by_cases h2:n<=hi<;>simp[c34,da,h1,h2]
def acx(hG:ar GI)(n:Int):AC prog GI 36 [.int .i64 n] (.ret (.bool (da n 1 12))):=by
 refine cw hG func36 ntmps36 c36 ?_;simp[c36];refine oc (Cv hG n 1 12) ?_;simp
def aaY(hG:ar GI)(n:Int):AC prog GI 37 [.int .i64 n] (.ret (.bool (da n 1 9))):=by
 refine cw hG func37 ntmps37 c37 ?_;simp[c37];refine oc (Cv hG n 1 9) ?_;simp
def abU(hG:ar GI)(n:Int):AC prog GI 38 [.int .i64 n] (.ret (.bool (da n 0 9))):=by
 refine cw hG func38 ntmps38 c38 ?_;simp[c38];refine oc (Cv hG n 0 9) ?_;simp
def acy(hG:ar GI)(s:az)(n:Int):AC prog GI 35 [bm s,.int .i64 n] (.ret (.bool (da n 1 s.cells.length))):=by
 refine cw hG func35 ntmps35 c35 ?_;simp[c35,bm,av,ai];refine oc (Cv hG n 1 s.cells.length) ?_;simp
def ac9(hG:ar GI)(s:az)(hs:fW s):AC prog GI 9 [bm s] (.ret (.bool (dn s))):=by
 refine cw hG func9 ntmps9 c9 ?_;refine aK (λS H=>S 1=.box 1 0/\H 1=some (av s)) (by simp[bm,av,ai]) ?_;rintro S H ⟨s1,h1⟩;refine QF (λS H=>S 1=.box 1 0/\H 1=some (av s)/\s.cells.any j3=false) ?_ ?_
 .simp[s1,h1,av,ai];refine bu 3 s.cells.length (λi S H=>S 1=.box 1 0/\H 1=some (av s)/\S 3=.int .i64 (i:Nat)/\∀j (h:j<s.cells.length),j<i->j3 s.cells[j]=false) (λi S H h=>h.2.2.1) ⟨by simp[s1],by simp[h1,av,ai],ahi,ahi⟩ ?_;clear s1 h1 S H;rintro i hi S H ⟨s1,h1,s3,hb⟩
  by_cases aq:i<s.cells.length
  .have hw:IntKind.i64.wrap ((i:Int)+1)=i+1:=aT (by have:=hs.cells;omega)
   have hn:¬(i:Int)<0:=zo
   have xk:¬(s.cells.length:Int)<=i:=zo
   have WI:j3 s.cells[i]=true->dn s=false:=λh=>by
    have:s.cells.any j3=true:=aeK.2 ⟨_,adi aq,h⟩;simp[dn,this]
   simp[s1,h1,s3,aq,hn,xk,fR,av,ai];refine oc (Cv hG _ _ _) ?_;cases e1:da s.cells[i].lo 1 20
   .have hr:=WI (by simp[j3,e1]);simp[s1,h1,s3,hr]
   simp[s1,h1,s3,aq,hn,xk,fR,av,ai];refine oc (Cv hG _ _ _) ?_;cases e2:da s.cells[i].hi s.cells[i].lo 20
   .have hr:=WI (by simp[j3,e2]);simp[s1,h1,s3,hr]
   simp[s1,h1,s3,hw,aq,av,ai];intro j hj fD
   by_cases e:j=i
   .subst e;simp[j3,e1,e2]
   .exact hb j hj zo
  .have di:i=s.cells.length:=zo
   subst di
   have ha:s.cells.any j3=false:=by
    rw[<-nh,kG λj hj=>hb j hj hj];simp
   simp[s1,h1,s3,ha,av,ai]
   all_goals (intro x hx;obtain⟨j,hj,rfl⟩:=ad7 hx;exact hb j hj hj)
 clear s1 h1 S H;rintro S H ⟨s1,h1,ha⟩;simp only[eD];refine qz 4 (λS H=>S 1=.box 1 0/\H 1=some (av s)/\S 41=.bool (da s.cells.length 1 12)) ?_ ?_
 .simp[s1,h1,av,ai];refine oc (Cv hG s.cells.length 1 12) ?_;simp[s1,h1,av,ai]
 have hT:dn s=(((((da s.cells.length 1 12&&da s.pos 1 s.cells.length)&&da s.reach 1 12)&&da s.eX 1 9)&&da s.dQ 0 9)&&bl s.name):=by
  simp[dn,ha]
 rw[hT];clear hT;generalize da s.cells.length 1 12=b1;rintro S1 H1 ⟨s1,h1,Ou⟩;refine qz 6 (λS H=>S 1=.box 1 0/\H 1=some (av s)/\S 47=.bool (b1&&da s.pos 1 s.cells.length)) ?_ ?_
 .cases b1
  .simp[s1,h1,Ou]
  .simp[s1,h1,Ou,av,ai];refine oc (acy hG s s.pos) ?_;simp[s1,h1,Ou,av,ai]
 generalize(b1&&da s.pos 1 s.cells.length)=b2;clear s1 h1 Ou;rintro S2 H2 ⟨s1,h1,zS⟩;refine qz 5 (λS H=>S 1=.box 1 0/\H 1=some (av s)/\S 52=.bool (b2&&da s.reach 1 12)) ?_ ?_
 .cases b2
  .simp[s1,h1,zS]
  .simp[s1,h1,zS,av,ai];refine oc (acx hG s.reach) ?_;simp[s1,h1,zS,av,ai]
 generalize(b2&&da s.reach 1 12)=b3;clear s1 h1 zS;rintro S3 H3 ⟨s1,h1,D8⟩;refine qz 5 (λS H=>S 1=.box 1 0/\H 1=some (av s)/\S 57=.bool (b3&&da s.eX 1 9)) ?_ ?_
 .cases b3
  .simp[s1,h1,D8]
  .simp[s1,h1,D8,av,ai];refine oc (aaY hG s.eX) ?_;simp[s1,h1,D8,av,ai]
 generalize(b3&&da s.eX 1 9)=b4;clear s1 h1 D8;rintro S4 H4 ⟨s1,h1,QM⟩;refine qz 5 (λS H=>S 1=.box 1 0/\H 1=some (av s)/\S 62=.bool (b4&&da s.dQ 0 9)) ?_ ?_
 .cases b4
  .simp[s1,h1,QM]
  .simp[s1,h1,QM,av,ai];refine oc (abU hG s.dQ) ?_;simp[s1,h1,QM,av,ai]
 generalize(b4&&da s.dQ 0 9)=b5;clear s1 h1 QM;rintro S5 H5 ⟨s1,h1,XM⟩;cases b5
 .simp[s1,h1,XM]
 .simp[s1,h1,XM,av,ai];refine oc (acL hG s.name hs.name) ?_;simp[s1,h1,XM]
def QY(a b:End):(a.1=b.1/\a.2=b.2)↔a=b:=by
 obtain⟨a1,a2⟩:=a;obtain⟨b1,b2⟩:=b;simp
def aaS(hG:ar GI)(a b:List End)(ha:a.length<1000000):AC prog GI 31 [.slice .view (a.map b_),.slice .view (b.map b_)] (.ret (.bool (a==b))):=by
 refine cw hG func31 ntmps31 c31 ?_
 by_cases hl:a.length=b.length
 case neg=>
  have rV:((a.length:Int)!=b.length)=true:=by simp;omega
  have cP:(a==b)=false:=by
   rw[ad4];intro e;exact hl (by rw[e])
  simp[c31,rV,cP]
 have rV:((a.length:Int)!=b.length)=false:=by simp;omega
 simp[c31,rV];refine bu 5 a.length (λi S H=>S 0=.slice .view (a.map b_)/\S 1=.slice .view (b.map b_)/\S 5=.int .i64 (i:Nat)/\∀j (hj:j<a.length),j<i->a[j]=b[j]' zo) (λi S H h=>h.2.2.1) ⟨ahi,ahi,ahi,λj _ h=>absurd h (ago _)⟩ ?_;rintro i hi S H ⟨s0,s1,s5,hb⟩
 by_cases aq:i<a.length
 case neg=>
  have he:(a==b)=true:=by
   rw[adY]
   exact af_ hl λj h1 h2=>hb j h1 zo
  have hn:¬(i:Int)<a.length:=zo
  simp[s0,s1,s5,hn,he]
 have hw:IntKind.i64.wrap ((i:Int)+1)=i+1:=aT zo
 have Dk:i<b.length:=zo
 by_cases he:a[i]=b[i]
 .simp[s0,s1,s5,aq,Dk,hw,he,b_,Dt];intro j hj fD
  by_cases e:j=i
  .subst e;exact he
  .exact hb j hj zo
 .have cP:(a==b)=false:=by
   rw[ad4];intro e;subst e;exact he rfl
  have oA:¬(a[i].1=b[i].1/\a[i].2=b[i].2):=λh=>he ((QY _ _).1 h)
  have iY:([a[i].1,a[i].2]!=[b[i].1,b[i].2])=true:=by
   rw[afZ];intro e;simp at e;exact oA e
  simp[s0,s1,s5,aq,Dk,b_,Dt,cP,iY]
def qH(w:Word):Bool:=decide (w.aU.length<=8)&&decide (w.bU.length<=8)
def qU(s:aI):Bool:=(s.words.take 6).all qH&&(decide (s.aM.length<=8)&&decide (s.aL.length<=8)&&decide (s.words.length<=6))
def GY{s:aI}(h:qU s=true):qE s:=by
 unfold qU at h;simp only[adk,adr]at h;obtain⟨h1,⟨h2,h3⟩,h4⟩:=h;rw[ado h4,adw]at h1
 have h5:∀w∈s.words,w.aU.length<=8/\w.bU.length<=8:=λw hw=>by simpa[qH]using h1 w hw
 exact⟨zo,zo,zo,λw hw=>by have:=(h5 w hw).1;omega,λw hw=>by have:=(h5 w hw).2;omega⟩
def zn(s:az):Bool:=qU s.name&&decide (s.cells.length<=14)
def HS{s:az}(h:zn s=true):fW s/\s.cells.length<=14/\s.name.words.length<=6:=by
 unfold zn at h;rw[adk,adr]at h
 have h6:s.name.words.length<=6:=by
  have:=h.1;unfold qU at this;simp only[adk,adr]at this;exact this.2.2
 exact⟨⟨zo,GY h.1⟩,h.2,h6⟩
def ac6(hG:ar GI)(s:az):AC prog GI 6 [bm s] (.ret (.bool (zn s))):=by
 obtain⟨n,hn⟩:∃n,s.name=n:=⟨_,rfl⟩
 obtain⟨cs,rW⟩:∃n,s.cells=n:=⟨_,rfl⟩
 have hc:((cs.length:Int)<=14)↔cs.length<=14:=zo
 have hw8:((n.aM.length:Int)<=8)↔n.aM.length<=8:=zo
 have hp8:((n.aL.length:Int)<=8)↔n.aL.length<=8:=zo
 have hw6:((n.words.length:Int)<=6)↔n.words.length<=6:=zo
 unfold zn;rw[hn,rW];refine cw hG func6 ntmps6 c6 ?_;refine aK (λS H=>S 1=.box 1 0/\H 1=some (av s)) (by simp[bm,av,ai]) ?_;rintro S H ⟨s1,h1⟩
 have hT:av s=[.slice .view (cs.map fR),.int .i64 s.pos,.int .i64 s.reach,.int .i64 s.eX,.int .i64 s.dQ]++ai n:=by rw[<-hn,<-rW]<;>rfl
 rw[hT]at h1;generalize av s=T at hT;simp[s1,h1];refine bu 3 (min n.words.length 6) (λi S H=>S 1=.box 1 0/\H 1=some ([.slice .view (cs.map fR),.int .i64 s.pos,.int .i64 s.reach,.int .i64 s.eX,.int .i64 s.dQ]++ai n)/\S 3=.int .i64 (i:Nat)/\(∀j (hj:j<(n.words.take 6).length),j<i->qH (n.words.take 6)[j]=true)) (λi S H h=>h.2.2.1) ⟨by simp[s1],by simp[h1],ahi,ahi⟩ ?_;clear s1 h1 S H;rintro i hi S H ⟨s1,e1,s3,hb⟩
 by_cases aq:i<n.words.length
 case neg=>
  have di:i=n.words.length:=zo
  subst di
  have hl6:n.words.length<=6:=zo
  have eF:(n.words.take 6).all qH=true:=yW λj hj=>hb j hj (by rw[adA]at hj;omega)
  by_cases h0:cs.length<=14<;>by_cases h1:n.aM.length<=8<;>by_cases h2:n.aL.length<=8<;>simp[s1,e1,s3,ai,qU,eF,h0,h1,h2,hl6,hc,hw8,hp8,hw6]
 by_cases h6:i<6
 case neg=>
  have UD:¬(i:Int)<6:=zo
  have eF:(n.words.take 6).all qH=true:=yW λj hj=>hb j hj (by rw[adA]at hj;omega)
  by_cases h0:cs.length<=14<;>by_cases h1:n.aM.length<=8<;>by_cases h2:n.aL.length<=8<;>simp[s1,e1,s3,aq,UD,ai,qU,eF,h0,h1,h2,hc,hw8,hp8,hw6]
 have hw:IntKind.i64.wrap ((i:Int)+1)=i+1:=aT zo
 have UD:(i:Int)<6:=zo
 have hit:i<(n.words.take 6).length:=by rw[adA];omega
 have ib:(n.words.take 6)[i]=n.words[i]:=afE
 by_cases h1:n.words[i].aU.length<=8
 case neg=>
  have hf:qH (n.words.take 6)[i]=false:=by rw[ib];simp[qH,h1]
  have Ii:(8:Int)<n.words[i].aU.length:=zo
  simp[s1,e1,s3,aq,UD,ai,cD,Ii];simp[qU,vr hit hf]
 have Ii:¬(8:Int)<n.words[i].aU.length:=zo
 by_cases h2:n.words[i].bU.length<=8
 case neg=>
  have wh:(8:Int)<n.words[i].bU.length:=zo
  have hf:qH (n.words.take 6)[i]=false:=by rw[ib];simp[qH,h2]
  simp[s1,e1,s3,aq,UD,ai,cD,Ii,wh];simp[qU,vr hit hf]
 have wh:¬(8:Int)<n.words[i].bU.length:=zo
 have ht:qH (n.words.take 6)[i]=true:=by rw[ib];simp[qH,h1,h2]
 simp[s1,e1,s3,aq,UD,ai,cD,Ii,wh,hw]
 exact⟨zo,λj hj fD=>by
  have:=ox hit hb ht j (by rw[adA];omega) fD
  rwa [afE]at this⟩
end Go.Proofs.Tryz
namespace Go.Proofs.Tryz
open Go Go.AL Go.RowKit Go.Proofs Go.Proofs.Tram
variable{GI:World->Prop}
def sT(a:Act)(d:Nat)(c c':Value):(a.put (some d) c).put (some d) c'=a.put (some d) c':=by
 simp[Act.put]
def O_(s:az):(AV.agg (av s)).vw=.agg (av s):=by simp[AV.vw,av,ai,AV.cI,vI]
def Jc{Pr:Nat->Nat->Prop}{w:World}{n:Int}{c:Value}(h:RD Pr w (qS n) c):c=.iface 131 (.agg #[.int .i64 n]):=by
 unfold qS at h
 cases h with
 |iface _ _ c h=>
  cases h with
  |agg _ vs hl h1 hr=>
   obtain⟨u,rfl⟩:=sk (vs:=vs) (by rw[<-hl];rfl);have:=hr 0 ahi ahi;have:=(RV.data (al:=cQ) _ _ this).int_eq;simp only[List.getElem_toArray,List.getElem_cons_zero]at this;rw[this]
section
variable{w0:World}{n:Nat}{g:Gh}{S:an}{H:ao}{a:Act}{w:World}{d i2 i6:Nat}{s:az}{z:List AV}
def ub (hG:ar GI) (cq:GI w0) (R:Rel prog w0 n bL g S H a w) (hd:d < n) (za:i2 < n) (EM:i6 < n) (E':d≠i6)
  (wq:S i2=.box i2 0) (xf:H i2=some (av s)) (E_:S i6=.box i6 0) (Hr:H i6=some z) {R':Ending->World->Prop}
  (h:∀(c1:Value)(g1:Gh),g1.old=g.old->Rel prog w0 n bL g1 (au S d (.agg (av s))) H (a.put (some d) c1) w->GI w->RV (fC g1 false) (λ_=>none) w (bm s) c1->∀(b6:Nat),a.tmps.getD i6 undef=.pointer (some ⟨b6,0,none⟩)->
   ∃RR:Ending->World->Prop,Calls prog 69 #[c1] w RR/\∀en w2,RR en w2->match en with
    |.returned v=>∀ (aC:Act) (o:Oper),aC.eval (.tmp 1) = .pointer (some ⟨b6,0,none⟩)→aC.eval (.tmp 3)=v→o.op = .store 87 (.tmp 1) (.tmp 3) →
      ∃w3,((execOp aC.eval o).run prog w2=.ok .skip w3\/∃u,(execOp aC.eval o).run prog w2=.ok (.value u) w3)/\R' (.returned (.tuple #[])) w3
    |.panicked ch=>R' (.panicked ch) w2
    |.outgrown=>False):
  Calls prog 111 #[a.tmps.getD i2 undef,a.tmps.getD i6 undef] w R':=by
 obtain⟨b2,np,e2⟩:=nc R za wq;obtain⟨b6,al6,e6⟩:=nc R EM E_;have bj:=R.size;have uw:=R.below;rw[R.base]at uw;have gj:GI w:=hG w0 w cq uw;obtain⟨i40,ab9,aaP⟩:=iZ 31 15;obtain⟨fs,fw⟩:=uZ 31
 have jZ:aD S H (.load .any (ef (.struct fs)) i40.size (.t i2))=some { v:=.agg (av s) }:=by
  simp[aD,ev,wq,xf,HR.okB,aaP,ef,cb,av,ai,AV.aJ,vI]
 obtain ⟨c1,w1,g1,dz,mL,ru,R1⟩:=DC R (o:={ dst:=some d,op := .load 31 (.tmp i2),type:=0,pos := "",after := #[],guard:=none }) (x := .tmp i2) (y := .t i2) rfl (λt ht=>by cases ht;exact ⟨hd,id⟩) ab9 fw (by simp [du,za]) (λ_ _=>id) jZ
 have pH:w1=w:=by
  rcases dz with dz|⟨dz,_⟩
  .exact(qX (P:=prog) zr dz).1
  .obtain⟨_,v,hv⟩:=qX (P:=prog) zr dz;cases hv
 subst pH
 have XJ:(execOp a.eval { dst:=some d,op := .load 31 (.tmp i2),type:=0,pos := "",after := #[],guard:=none }).run prog w1 = .ok (.value c1) w1:=by
  rcases dz with dz|⟨dz,_⟩
  .exact dz
  .obtain⟨_,v,hv⟩:=qX (P:=prog) zr dz;cases hv
 have QD:Rel prog w0 n bL g1 (au S d (.agg (av s))) H (a.put (some d) c1) w1:=R1
 have abS:∀(a:Act)(d:Nat)(c:Value),d<a.tmps.size->(a.put (some d) c).tmps.getD d undef=c:=λa d c h=>by
  simp[Act.put,h]
 have kg:RV (fC g1 false) (λ_=>none) w1 (bm s) c1:=by
  have h1:=QD.slot d hd id;rw[aO,abS a d c1 zo]at h1;have:=QD.gZ h1 false (by simp[rE]);have e:Go.AL.gZ H (.agg (av s))=.agg (av s):=O_ s;rw[e]at this;exact this
 obtain⟨RR,mc,hRR⟩:=h c1 g1 ru QD gj kg b6 e6;rw[e2,e6];refine afo func111 rfl ?_;refine(fo (m:=0)).1 ?_;refine hZ (λa=>a.tmps.size=4/\a.defers=[]/\a.tmps.getD 0 undef=.pointer (some ⟨b2,0,none⟩)/\a.tmps.getD 1 undef=.pointer (some ⟨b6,0,none⟩)) ⟨by simp[ntmps111],rfl,cH _ _ 0 ahi,cH _ _ 1 ahi⟩ ?_;rintro aC ⟨zC,dC,t0,t1⟩
 have jK:∀(a:Act)(d:Nat)(c:Value),a.tmps.size=4->d<4->(a.put (some d) c).tmps.getD d undef=c:=λa d c h hd=>by
  simp[Act.put,h,hd]
 have fm:∀(a:Act)(d t:Nat)(c:Value),t≠d->(a.put (some d) c).tmps.getD t undef=a.tmps.getD t undef:=λa d t c h=>by
  simp[Act.put,adt (ad6 h)]
 refine adP ?_;show wpOpsIn _ _ _ _ _ [0,1,2] aC w1
 have Mg:∀o:Oper,o.op=.load 31 (.tmp 0)->(execOp aC.eval o).run prog w1=.ok (.value c1) w1:=by
  intro o ho;have h1:aC.eval (.tmp 0)=a.eval (.tmp i2):=t0.trans e2.symm;rw[<-XJ];unfold execOp;simp only[ho,h1]
 refine bg rfl rfl zr (Mg _ rfl) ?_;show wpOpsIn _ _ _ _ _ [1,2] (aC.put (some 2) c1) w1;refine o9 rfl rfl zr (gn (k:=69) (args:=#[c1]) w1 rfl rfl ?_ zk) mc ?_
 .simp only[adV,ady,adR];show #[(aC.put (some 2) c1).tmps.getD 2 undef]=_;rw[jK _ _ _ zC zd]
 rintro en w2 U6;have:=hRR en w2 U6
 cases en with
 |returned v=>
  show wpOpsIn _ _ _ _ _ [2] ((aC.put (some 2) c1).put (some 3) v) w2
  obtain ⟨w3,hr3,DM⟩:=this ((aC.put (some 2) c1).put (some 3) v) { dst:=none,op := .store 87 (.tmp 1) (.tmp 3),type:=0,pos := "",after := #[],guard:=none }
   (by show((aC.put (some 2) c1).put (some 3) v).tmps.getD 1 undef=_;rw[fm _ _ _ _ zd,fm _ _ _ _ zd];exact t1)
   (by show((aC.put (some 2) c1).put (some 3) v).tmps.getD 3 undef=_;exact jK _ _ _ (by simpa[Act.put]using zC) zd) rfl
  have fin:∀u:Value,((aC.put (some 2) c1).put (some 3) v).defers=[]/\∃v',(results f111 ((aC.put (some 2) c1).put (some 3) v).tmps).run prog w3=.ok v' w3/\R' (.returned v') w3:=λu=>⟨dC,.tuple #[],by simp[results,results111],DM⟩
  have eL:∀ o:Oper,o.op = .store 87 (.tmp 1) (.tmp 3)->(execOp ((aC.put (some 2) c1).put (some 3) v).eval o).run prog w2=(execOp ((aC.put (some 2) c1).put (some 3) v).eval { dst:=none,op := .store 87 (.tmp 1) (.tmp 3),type:=0,pos := "",after := #[],guard:=none }).run prog w2:=by
   intro o ho;unfold execOp;simp only[ho]
  rcases hr3 with hr|⟨u,hr⟩
  .exact eT rfl rfl zr ((eL _ rfl).trans hr) (fin undef)
  .exact bg rfl rfl zr ((eL _ rfl).trans hr) (fin u)
 |panicked ch=>exact⟨dC,this⟩
 |outgrown=>exact this.elim
def PF (hG:ar GI) (cq:GI w0) (R:Rel prog w0 n bL g S H a w) (hd:d < n) (za:i2 < n) (EM:i6 < n) (E':d≠i6)
  (wq:S i2=.box i2 0) (xf:H i2=some (av s)) (E_:S i6=.box i6 0) (Hr:H i6=some z) (hz:z.length=16) {ns:List Int} (sO:AC prog GI 69 [bm s] (.ret (dO s ns))):
  Calls prog 111 #[a.tmps.getD i2 undef,a.tmps.getD i6 undef] w λe w2=>e=.returned (.tuple #[])/\∃(c:Value)(g':Gh)(S':an)(H':ao),g'.old=g.old/\Rel prog w0 n bL g' S' H' (a.put (some d) c) w2/\(∀t,t≠d->S' t=S t)/\H'=au H i6 (some (br s ns)):=by
 refine ub hG cq R hd za EM E' wq xf E_ Hr λc1 g1 nn R1 gj kg b6 e6=>?_
 refine⟨_,sO w (fC g1 false) #[c1] gj rfl (λi h h'=>by
  match i,h with
  |0,_=>exact kg),?_⟩
 rintro en w2 ⟨iY,hi,qi,c,rfl,MR,cV⟩;intro aC o q1 q3 ho;obtain⟨g',mL,ru,R2⟩:=R1.call (some d) (λt ht=>by cases ht;exact⟨hd,id⟩) false iY qi MR cV (λh=>by cases h);rw[sT]at R2
 have V4:∀t,t≠d->aX (au S d (.agg (av s))) (some d) (dO s ns) t=S t:=λt ht=>by simp[AL.aX,au,ht]
 obtain⟨i100,xQ,xr⟩:=iZ 87 16
 have l8:bB z 0 ((br s ns).map AV.aJ)=br s ns:=by
  have:(br s ns).map AV.aJ=br s ns:=by simp[br,av,ai,vI,AV.aJ]
  rw[this];simp[bB,hz,br,av,ai]
 have jZ:aD (aX (au S d (.agg (av s))) (some d) (dO s ns)) H (.store .any i100.size (.t i6) (.t d))=some { v:=cz,dm:=some d,hw:=some (i6,br s ns) }:=by
  show aD (aX (au S d (.agg (av s))) (some d) (.agg (br s ns))) H (.store .any i100.size (.t i6) (.t d))=_;have e1:ev (aX (au S d (.agg (av s))) (some d) (.agg (br s ns))) (.t i6)=.box i6 0:=(V4 i6 (ad6 E')).trans E_
  have e2:ev (aX (au S d (.agg (av s))) (some d) (.agg (br s ns))) (.t d)=.agg (br s ns):=by simp[ev,AL.aX,au]
  have hl:(br s ns).length=16:=by simp[br,av,ai]
  simp only[aD,e1,e2,Hr,HR.okB];simp[AV.cells,AV.storable,xr,hl,hz,bw,l8,AV.cy]
 obtain ⟨c2,w3,g3,dz,TP,Ch,R3⟩:=mZ R2 (o:={ dst:=none,op := .store 87 (.tmp i6) (.tmp d),type:=0,pos := "",after := #[],guard:=none }) (x1 := .tmp i6) (x2 := .tmp d) (y1 := .t i6) (y2 := .t d) (hr := .any) rfl rfl xQ (by simp [du,EM]) (by simp [du,hd]) (λ_ _=>id) (λ_ _=>id) jZ;have bj:=R.size
 have f6:(a.put (some d) c).eval (.tmp i6)=.pointer (some ⟨b6,0,none⟩):=by
  show(a.put (some d) c).tmps.getD i6 undef=_;rw[<-e6];simp[Act.put,adt E']
 have fd:(a.put (some d) c).eval (.tmp d)=c:=by
  show(a.put (some d) c).tmps.getD d undef=_;simp[Act.put,bj,hd]
 have bn:(execOp aC.eval o).run prog w2=(execOp (a.put (some d) c).eval { dst:=none,op := .store 87 (.tmp i6) (.tmp d),type:=0,pos := "",after := #[],guard:=none }).run prog w2:=by
  unfold execOp;simp only[ho,q1,q3,f6,fd]
 refine⟨w3,?_,rfl,c,g3,_,_,by rw[Ch,ru,nn],R3,λt ht=>?_,rfl⟩
 .rcases dz with dz|⟨dz,_⟩
  .exact .inr ⟨_,bn.trans dz⟩
  .exact .inl (bn.trans dz)
 .rw[<-V4 t ht];simp[aP.S,AL.aX,au,ht]
def Og (hG:ar GI) (cq:GI w0) (R:Rel prog w0 n bL g S H a w) (hd:d < n) (za:i2 < n) (EM:i6 < n) (E':d≠i6)
  (wq:S i2=.box i2 0) (xf:H i2=some (av s)) (E_:S i6=.box i6 0) (Hr:H i6=some z) {k:Int} (sO:AC prog GI 69 [bm s] (.panic (qS k))):
  Calls prog 111 #[a.tmps.getD i2 undef,a.tmps.getD i6 undef] w λe w2=>e=.panicked [{ v:=.iface 131 (.agg #[.int .i64 k]),recovered:=false }]/\Below w.heap.size w w2:=by
 refine ub hG cq R hd za EM E' wq xf E_ Hr λc1 g1 nn R1 gj kg b6 e6=>?_
 refine⟨_,sO w (fC g1 false) #[c1] gj rfl (λi h h'=>by
  match i,h with
  |0,_=>exact kg),?_⟩
 rintro en w2 ⟨iY,hi,qi,c,rfl,dh⟩;have hc:=Jc dh;subst hc;exact⟨rfl,iY⟩
def sL(R:Rel prog w0 n bL g S H a w):g.old.aV w.heap.size=none:=by
 cases h:g.old.aV w.heap.size with
 |none=>rfl
 |some o=>
  have:=(adj.1 (R.kept _ o h).2.1).1;omega
def Tk (hG:ar GI) (cq:GI w0) (R:Rel prog w0 n bL g S H a w) (hd:d < n) (za:i2 < n) (EM:i6 < n) (E':d≠i6)
  (wq:S i2=.box i2 0) (xf:H i2=some (av s)) (E_:S i6=.box i6 0) (Hr:H i6=some z) (hz:z.length=16) {ns:List Int} (sO:AC prog GI 69 [bm s] (.ret (dO s ns))):
  Calls prog 40 #[.func (.func 111) #[] #[a.tmps.getD i2 undef,a.tmps.getD i6 undef]] w λe w2=>e=.returned (.int .i64 0)/\∃(c:Value)(g':Gh)(S':an)(H':ao),g'.old=g.old/\Rel prog w0 n bL g' S' H' (a.put (some d) c) w2/\(∀t,t≠d->S' t=S t)/\H'=au H i6 (some (br s ns)):=by
 have R1:=R.nx (.cells #[.int .i64 0] 34);have zl:=sL R;refine mF zk (PF hG cq R1 hd za EM E' wq xf E_ Hr hz sO) ?_;rintro e w2 ⟨rfl,c,g',S',H',ho,R2,qN,ur⟩
 have hk:g'.old.aV w.heap.size=some (.cells #[.int .i64 0] 34):=by rw[ho];exact aO _ _ _
 have kB:=(R2.kept _ _ hk).2.1;have aq:=(adj.1 kB).1;refine⟨aq,⟨_,_,kB⟩,.inl ⟨_,rfl,rfl,c,_,S',H',?_,(R2.tJ w.heap.size).jU ?_,qN,ur⟩⟩
 .show({ g'.old with aV:=au g'.old.aV w.heap.size none }:Old)=_;rw[ho]
  have:au (au g.old.aV w.heap.size (some (.cells #[.int .i64 0] 34))) w.heap.size none=g.old.aV:=by
   funext b
   by_cases hb:b=w.heap.size
   .subst hb;simp[au,zl]
   .simp[au,hb]
  show({ g.old with aV:=au (au g.old.aV w.heap.size (some (.cells #[.int .i64 0] 34))) w.heap.size none }:Old)=_;rw[this]
 .refine⟨rfl,rfl,rfl,ahi,λk cE=>?_⟩
  by_cases hb:k=w.heap.size
  .subst hb;rw[ae3 w2 _ _ _ _ _ kB,kB]
  .exact aes w2 _ k _ hb
def Qx (hG:ar GI) (cq:GI w0) (R:Rel prog w0 n bL g S H a w) (hd:d < n) (za:i2 < n) (EM:i6 < n) (E':d≠i6)
  (wq:S i2=.box i2 0) (xf:H i2=some (av s)) (E_:S i6=.box i6 0) (Hr:H i6=some z) {k:Int} (sO:AC prog GI 69 [bm s] (.panic (qS k))):
  Calls prog 40 #[.func (.func 111) #[] #[a.tmps.getD i2 undef,a.tmps.getD i6 undef]] w λe w2=>e=.returned (.int .i64 7)/\∃g',g'.old=g.old/\Rel prog w0 n bL g' S H a w2:=by
 have R1:=R.nx (.cells #[.int .i64 0] 34);have zl:=sL R;refine mF zk (Og hG cq R1 hd za EM E' wq xf E_ Hr sO) ?_;rintro en w2 ⟨rfl,iY⟩;have R2:=R1.jU iY;have hk:au g.old.aV w.heap.size (some (.cells #[.int .i64 0] 34)) w.heap.size=some (.cells #[.int .i64 0] 34):=aO _ _ _;have kB:=(R2.kept _ _ hk).2.1;have aq:=(adj.1 kB).1;refine⟨aq,⟨_,_,kB⟩,.inr (.inl ⟨k,rfl,λw3 oq=>⟨rfl,?_⟩⟩)⟩;have R3:=R2.jU oq;have C3:=(R3.kept _ _ hk).2.1;have R4:=R3.nO hk (.cells #[.int .i64 7] 34);rw[nK w3 C3];refine⟨_,?_,R4.tJ w.heap.size⟩
 have:au (au (au g.old.aV w.heap.size (some (.cells #[.int .i64 0] 34))) w.heap.size (some (.cells #[.int .i64 7] 34))) w.heap.size none=g.old.aV:=by
  funext b
  by_cases hb:b=w.heap.size
  .subst hb;simp[au,zl]
  .simp[au,hb]
 show({ g.old with aV:=au (au (au g.old.aV w.heap.size (some (.cells #[.int .i64 0] 34))) w.heap.size (some (.cells #[.int .i64 7] 34))) w.heap.size none }:Old)=_;rw[this]
end
end Go.Proofs.Tryz
namespace Go.Proofs.Tryz
open Go Go.AL Go.RowKit Go.Proofs Go.Proofs.Tram
attribute [local simp] eD fG fB eR eQ d_ ec dE dJ eP dF df ik ig aF aD ev aP.S aP.H bw au aX AL.start AV.cells AV.storable AV.cy bB cd dS cb HR.okB post cM dc de AV.out AV.cg cZ dZ fz gZ AV.vw cW vI int cz aN dk dP iS jN eM dV bG AV.aJ AV.cI
variable{GI:World->Prop}
def zT:az:=⟨[],0,0,0,0,⟨[],[],0,0,0,0,0,[],0,0⟩⟩
def eY(s:az)(b:Bool):List AV:=
 if b then(match j9 s.name with|some es=>[dO s (bZ s es),.int .i64 0]|none=>[dO zT [],.int .i64 7])else[dO zT [],.int .i64 2]
def k_:List AV:=[.slice .nil [],.int .i64 0,.int .i64 0,.int .i64 0,.int .i64 0,.slice .nil [],.slice .nil [],.int .i64 0,.int .i64 0,.int .i64 0,.int .i64 0,.int .i64 0,.slice .nil [],.int .i64 0,.int .i64 0,.slice .nil []]
def Lb(hG:ar GI)(s:az):AC prog GI 53 [bm s,.bool false] (.ret (.dR [dO zT [],.int .i64 2])):=by
 obtain⟨i100,xQ,xr⟩:=iZ 87 16;obtain⟨fs,fw⟩:=uZ 87;refine cw hG func53 ntmps53 c53 ?_;simp[c53,bm,av,ai,bI,xQ,xr,fw,ef,dO,br,zT]
 try rfl
def CA(hG:ar GI)(s:az)(hs:fW s):AC prog GI 53 [bm s,.bool (dn s)] (.ret (.dR (eY s (dn s)))):=by
 cases hI:dn s with
 |false=>exact Lb hG s
 |true=>
 have TD:=gQ hI
 refine AC.jF func53 rfl ntmps53 ahi λcc w=>?_
 refine dX hG c53.qa (λS' H'=>S' 1=.bool true/\S' 2=.box 2 0/\H' 2=some (av s)/\S' 4=.box 4 0/\H' 4=some k_) ?_ ?_
 .simp[c53,ah.qa,bm,av,ai,k_]
 rintro S1 H1 ⟨s1,s2,h2,s4,h4⟩;refine SW.seq (dX hG c53.qb.qa.qa (λS' H'=>S' 9=.bool false/\S' 2=.box 2 0/\H' 2=some (av s)/\S' 4=.box 4 0/\H' 4=some k_) ?_ ?_)
 .simp[c53,ah.qa,ah.qb,s1,s2,h2,s4,h4]
 clear s1 s2 h2 s4 h4;rintro S2 H2 ⟨s9,s2,h2,s4,h4⟩;refine SW.cond rfl false (by show S2 9=_;rw[s9]) (SW.skip ?_);show SW prog GI 15 none (.seq _ (.seq _ (.seq _ .ret))) _ _ _ _;refine dX hG c53.qb.qb.qa (λS' H'=>S' 2=.box 2 0/\H' 2=some (av s)/\S' 4=.box 4 0/\H' 4=some k_/\S' 6=.box 6 0/\H' 6=some k_) ?_ ?_
 .simp[c53,ah.qa,ah.qb,s2,h2,s4,h4,k_]
 clear s9 s2 h2 s4 h4;rintro S3 H3 ⟨s2,h2,s4,h4,s6,h6⟩
 obtain ⟨l,e,hle,hO,nB⟩:∃ (l:List AV) (e:Int),l.length=16∧eY s true=[(AV.agg (l.map AV.aJ)).vw,.int .i64 e] ∧
   ∀(w0:World)(g:Gh)(S:an)(H:ao)(a:Act)(w:World),GI w0->Rel prog w0 15 bL g S H a w->S 2=.box 2 0->H 2=some (av s)->S 6=.box 6 0->H 6=some k_->
    Calls prog 40 #[.func (.func 111) #[] #[a.tmps.getD 2 undef,a.tmps.getD 6 undef]] w λen w2=>en=.returned (.int .i64 e)/\∃(c:Value)(g':Gh)(S':an)(H':ao),g'.old=g.old/\Rel prog w0 15 bL g' S' H' (a.put (some 12) c) w2/\(∀t,t≠12->S' t=S t)/\H'=au H 6 (some l):=by
  cases gI:j9 s.name with
  |some es=>
   refine⟨br s (bZ s es),0,by simp[br,av,ai],?_,λw0 g S H a w cq R q2 M7 q6 Vd=>Tk hG cq R zd zd zd zd q2 M7 q6 Vd rfl (UA hG s hs TD gI)⟩;simp[eY,gI,dO,br,av,ai,vI,AV.aJ,AV.vw,AV.cI]
  |none=>
   refine⟨k_,7,rfl,?_,λw0 g S H a w cq R q2 M7 q6 Vd=>(Qx hG cq R (d:=12) zd zd zd zd q2 M7 q6 Vd (LM hG s hs TD gI)).mono ?_⟩
   .simp[eY,gI,dO,br,av,ai,zT,k_,vI,ints,AV.aJ,AV.vw,AV.cI]
   .rintro en w2 ⟨rfl,g',AF,R'⟩;refine⟨rfl,undef,g',au S 12 .bo,H,AF,R'.put 12 .bo undef zd (.bo _) trivial,λt ht=>aQ _ _ ht,?_⟩
    funext k
    by_cases hk:k=6
    .subst hk;rw[aO];exact Vd
    .rw[aQ _ _ hk]
 rw[hO]
 refine SW.seq (SW.hand hG (p:=0) (lm:=[0,1]) (l2:=[2]) (kj:=[]) (oh:=[_,_]) (nk:=[_]) rfl rfl rfl rfl zk (λ_ h=>h) (n9:=[]) (np:=(c53.qb.qb.qb.qa.dl).drop 2) rfl zk rfl zk
  (K1:=λS' H'=>S' 2=.box 2 0/\H' 2=some (av s)/\S' 4=.box 4 0/\H' 4=some k_/\S' 6=.box 6 0/\H' 6=some k_)
  (K2:=λo S' H'=>o=Old.plain cc w/\S' 4=.box 4 0/\H' 4=some k_/\S' 6=.box 6 0/\H' 6=some l/\S' 12=.int .i64 e)
  (K3:=λo S' H'=>o=Old.plain cc w/\S' 4=.box 4 0/\H' 4=some k_/\S' 6=.box 6 0/\H' 6=some l/\S' 7=.int .i64 e) ⟨s2,h2,s4,h4,s6,h6⟩ ?_ ?_ ?_)
 .rintro w0 g S5 H5 a w5 m cq ho R ⟨s2,h2,s4,h4,s6,h6⟩;have bj:=R.size;refine bg rfl rfl zr (mr (fn:=.func 111) (c:=#[.tmp 2,.tmp 6]) rfl) ?_
  obtain⟨fv,lZ⟩:∃fv:Value,fv=.func (.func 111) #[] (#[Operand.tmp 2,.tmp 6].map a.eval):=⟨_,rfl⟩
  show wpOpsIn _ _ _ _ _ [1] (a.put (some 11) (.func (.func 111) #[] (#[Operand.tmp 2,.tmp 6].map a.eval))) w5;rw[<-lZ];have R1:=R.put 11 .bo fv zd (.bo _) trivial
  obtain⟨a1,nu⟩:∃a1,a.put (some 11) fv=a1:=⟨_,rfl⟩
  rw[nu]at R1⊢
  have vf:fv=.func (.func 111) #[] #[a1.tmps.getD 2 undef,a1.tmps.getD 6 undef]:=by
   have e1:=ck a 11 2 fv zo;have e4:=ck a 11 6 fv zo;rw[if_neg zd,nu]at e1 e4;have yp:a1.tmps.getD 2 undef=a.eval (.tmp 2):=e1;have Cj:a1.tmps.getD 6 undef=a.eval (.tmp 6):=e4;rw[yp,Cj,lZ];simp only[adV,ady,adR]
  have jr:a1.eval (.tmp 11)=fv:=by rw[<-nu,ck _ _ _ _ zo,if_pos rfl]
  refine gk rfl rfl zr (gn (k:=40) (args:=#[.func (.func 111) #[] #[a1.tmps.getD 2 undef,a1.tmps.getD 6 undef]]) w5 rfl rfl ?_ zk) (nB w0 g _ _ a1 w5 cq R1 (by simp[au,s2]) h2 (by simp[au,s6]) h6) ?_
  .simp only[adV,ady,adR,jr,<-vf]
  .rintro en w6 ⟨rfl,c,g',S',H',oV,R2,qN,ur⟩;refine⟨_,rfl,?_⟩;have R3:=R2.put 12 (.int .i64 e) (.int .i64 e) zd (.data _ _ (.int _ _)) trivial;rw[sT]at R3;refine⟨g',_,H',R3,oV.trans ho,?_,?_,?_,?_,aO _ _ _⟩
   .show au S' 12 _ 4=_;rw[aQ _ _ zd,qN 4 zd];simp[au,s4]
   .rw[ur,aQ _ _ zd];exact h4
   .show au S' 12 _ 6=_;rw[aQ _ _ zd,qN 6 zd];simp[au,s6]
   .rw[ur];exact aO _ _ _
 .rintro o S5 H5 ⟨rfl,s4,h4,s6,h6,cK⟩;refine⟨λ_ h=>h,?_⟩;simp[c53,ah.qa,ah.qb,ah.dl,bp,aF,ba,aD,ev,aP.S,aP.H,au,aX,s4,h4,s6,h6,cK,AV.aJ,bw]
 .rintro o S5 H5 ⟨rfl,s4,h4,s6,h6,s7⟩;show SW prog GI 15 none (.seq _ .ret) _ _ _ _;have hT:List.take 16 (l.map AV.aJ)=l.map AV.aJ:=ado (by simp;omega);refine dX hG c53.qb.qb.qb.qb.qa (λS' H'=>S' 4=.box 4 0/\H' 4=some (l.map AV.aJ)/\S' 5=.int .i64 e) ?_ ?_
  .simp[c53,ah.qa,ah.qb,s4,h4,s6,h6,s7,hle,hT,k_,iH]
  rintro S6 H6 ⟨s4,h4,s5⟩;obtain⟨i100,xQ,xr⟩:=iZ 87 16;obtain⟨fs,fw⟩:=uZ 87;refine SW.ret ⟨ep.plain rfl,rfl,_,?_,rfl⟩;show cM prog 15 [.cell 4 87,.tmp 5] S6 H6=_;simp[cM,dc,de,s4,h4,s5,xQ,fw,xr,cb,ef,hle,hT,iH,AV.out,AV.cg]
  try rfl
def mN(e:Nat)(s:az)(aw:List Int):Nat:=fX aw (jR (cj e s)) (gq (gh s) s.cells.length)
def lV{s:az}(h:iL s){es:List End}(he:es.length<=3):(∀x∈bZ s es,0<=x/\x<=1000)/\(bZ s es).length<=1000:=by
 refine⟨λx hx=>?_,?_⟩
 .obtain⟨i,hi,rfl⟩:=adF.1 hx
  have:=A2 h he (i:=i) (by
   unfold ea;split
   .rename_i x hx;obtain⟨aq,rfl⟩:=adG.1 hx;exact(mU h.name (adi aq)).y3
   .omega)
  omega
 .have:=(gE h.name).words;simp[bZ];omega
def vm{s:az}(h:iL s)(e:Nat):(cj e s).length=s.cells.length/\∀x∈cj e s,0<=x/\x<=1000:=by
 refine⟨by simp[cj],λx hx=>?_⟩;obtain⟨c,hc,rfl⟩:=adF.1 hx;have:=h.AG c hc;unfold xj
 split<;>omega
def Aq(hG:ar GI)(s:az)(h:iL s)(aw:List Int)(hn:(∀x∈aw,0<=x/\x<=1000)/\aw.length<=1000)(e:Nat):AC prog GI 59 [dO s aw,vI (cj e s)] (.ret (.int .i64 (mN e s aw))):=
 R9 hG s h aw hn.1 hn.2 (cj e s) (vm h e).1 (vm h e).2
def SM(hG:ar GI)(s:az)(h:iL s)(aw:List Int)(hn:(∀x∈aw,0<=x/\x<=1000)/\aw.length<=1000):AC prog GI 67 [dO s aw] (.ret (.bool (decide (mN 0 s aw=aw.length)))):=by
 have RX:=KS hG s (by have:=h.cells;omega) 0 (.inl rfl);have I5:=Aq hG s h aw hn 0;refine cw hG func67 ntmps67 c67 ?_;simp[c67,dO,br,av,ai];refine oc RX ?_;simp;refine oc I5 ?_;simp;rw[ad5];simp;omega
def px(e:Nat)(s:az):List AV:=
 if dn s then(match j9 s.name with|some es=>[.int .i64 (mN e s (bZ s es)),.int .i64 0]|none=>[.int .i64 0,.int .i64 7])else[.int .i64 0,.int .i64 2]
def kQ (s:az):(dn s=true∧∃ es,j9 s.name=some es∧eY s (dn s)=[dO s (bZ s es),.int .i64 0]) ∨
  (∃e:Int,e≠0/\eY s (dn s)=[dO zT [],.int .i64 e]/\∀k,px k s=[.int .i64 0,.int .i64 e]):=by
 cases hI:dn s with
 |false=>exact .inr ⟨2,zd,by simp[eY],λk=>by simp[px,hI]⟩
 |true=>
  cases hs:j9 s.name with
  |some es=>exact .inl ⟨rfl,es,rfl,by simp[eY,hs]⟩
  |none=>exact .inr ⟨7,zd,by simp[eY,hs],λk=>by simp[px,hI,hs]⟩
def ab0(hG:ar GI)(s:az)(hs:fW s):AC prog GI 21 [bm s] (.ret (.dR (px 0 s))):=by
 have Kf:=rk hG s hs;have yc:=CA hG s hs
 rcases kQ s with⟨hI,es,gI,ho⟩|⟨e,he,ho,B3⟩
 .rw[ho]at yc;have hg:=gQ hI;have RX:=KS hG s (by have:=hg.cells;omega) 0 (.inl rfl);have I5:=Aq hG s hg _ (lV hg (kf hg.name gI)) 0
  have B3:px 0 s=[.int .i64 (mN 0 s (bZ s es)),.int .i64 0]:=by simp[px,hI,gI]
  rw[B3];refine cw hG func21 ntmps21 c21 ?_;simp[c21,bm,av,ai];refine oc Kf ?_;simp;refine oc yc ?_;simp[dO,br,av,ai,bI];refine oc RX ?_;simp;refine oc I5 ?_;simp
 .rw[ho]at yc;rw[B3]
  have oA:(e !=0)=true:=by simpa using he
  refine cw hG func21 ntmps21 c21 ?_;simp[c21,bm,av,ai];refine oc Kf ?_;simp;refine oc yc ?_;simp[dO,br,av,ai,zT,bI,he,oA]
def acB(hG:ar GI)(s:az)(hs:fW s):AC prog GI 22 [bm s] (.ret (.dR (px 1 s))):=by
 have Kf:=rk hG s hs;have yc:=CA hG s hs
 rcases kQ s with⟨hI,es,gI,ho⟩|⟨e,he,ho,B3⟩
 .rw[ho]at yc;have hg:=gQ hI;have RX:=KS hG s (by have:=hg.cells;omega) 1 (.inr rfl);have I5:=Aq hG s hg _ (lV hg (kf hg.name gI)) 1
  have B3:px 1 s=[.int .i64 (mN 1 s (bZ s es)),.int .i64 0]:=by simp[px,hI,gI]
  rw[B3];refine cw hG func22 ntmps22 c22 ?_;simp[c22,bm,av,ai];refine oc Kf ?_;simp;refine oc yc ?_;simp[dO,br,av,ai,bI];refine oc RX ?_;simp;refine oc I5 ?_;simp
 .rw[ho]at yc;rw[B3]
  have oA:(e !=0)=true:=by simpa using he
  refine cw hG func22 ntmps22 c22 ?_;simp[c22,bm,av,ai];refine oc Kf ?_;simp;refine oc yc ?_;simp[dO,br,av,ai,zT,bI,he,oA]
def atR(s:az)(r:Nat):az:={ s with reach:=r }
def QO{s:az}(h:iL s){r:Nat}(h1:1<=r)(h2:r<=12):iL (atR s r):=⟨h.cells,h.AG,h.pos,⟨by show(1:Int)<=(r:Int);omega,by show(r:Int)<=12;omega⟩,h.eX,h.dQ,h.name⟩
def DY(s:az)(aw:List Int)(r:Nat):Bool:=decide (mN 0 (atR s r) aw=aw.length)
def FL(s:az):List AV:=
 if dn s then(match j9 s.name with|some es=>(match(List.range' 1 12).find? (DY s (bZ s es))with|some r=>[.int .i64 (r:Nat),.int .i64 0]|none=>[.int .i64 0,.int .i64 5])|none=>[.int .i64 0,.int .i64 7])else[.int .i64 0,.int .i64 2]
def NP{p:Nat->Bool}{r n:Nat}(h1:1<=r)(h2:r<=n)(hp:p r=true)(hb:∀k,1<=k->k<r->p k=false):(List.range' 1 n).find? p=some r:=by
 rw[show n=(r-1)+(n-(r-1)) by omega,<-agk,List.find?_append]
 have h0:(List.range' 1 (r-1)).find? p=none:=by
  rw[afY];intro x hx;have:=afG.1 hx;rw[hb x this.1 zo];simp
 rw[h0,Option.none_or,show n-(r-1)=(n-r)+1 by omega,aeS,List.find?_cons];rw[show 1+(r-1)=r by omega,hp]
def Ex{p:Nat->Bool}{n:Nat}(hb:∀k,1<=k->k<=n->p k=false):(List.range' 1 n).find? p=none:=by
 rw[afY];intro x hx;have:=afG.1 hx;rw[hb x this.1 zo];simp
def abI(hG:ar GI)(s:az)(hs:fW s):AC prog GI 25 [bm s] (.ret (.dR (FL s))):=by
 have Kf:=rk hG s hs;have yc:=CA hG s hs
 rcases kQ s with⟨hI,es,gI,ho⟩|⟨e,he,ho,B3⟩
 .rw[ho]at yc;have hg:=gQ hI;have hn:=lV hg (kf hg.name gI)
  have N3:FL s=(match(List.range' 1 12).find? (DY s (bZ s es))with|some r=>[.int .i64 (r:Nat),.int .i64 0]|none=>[.int .i64 0,.int .i64 5]):=by simp[FL,hI,gI]
  rw[N3];generalize bZ s es=aw at yc hn⊢;refine cw hG func25 ntmps25 c25 ?_;simp[c25,bm,av,ai];refine oc Kf ?_;simp;refine oc yc ?_;simp[dO,br,av,ai,bI];refine⟨λS H=>∃r:Nat,1<=r/\r<=13/\S 4=.box 4 0/\H 4=some (br (atR s r) aw)/\∀k,1<=k->k<r->DY s aw k=false,λ_ H=>match H 4 with|some (_::_::.int _ r::_)=>(13-r).toNat|_=>0,⟨1,adl _,zd,?_⟩,?_⟩
  .simp[br,av,ai,atR];intro k h1 h2;omega
  rintro S H ⟨r,LF,Zg,s4,h4,hb⟩
  by_cases hle:r<=12
  case neg=>
   have hr:r=13:=zo
   subst hr;rw[Ex λk h1 h2=>hb k h1 zo];simp[br,av,ai,atR,s4,h4]
  have Pc:(r:Int)<=12:=zo
  have UO:=SM hG (atR s r) (QO hg LF hle) aw hn
  cases hf:DY s aw r with
  |true=>
   unfold DY at hf;rw[hf]at UO;rw[NP LF hle (show DY s aw r=true from hf) hb];simp[br,av,ai,atR,s4,h4,Pc];refine oc UO ?_;simp[br,av,ai,atR,s4,h4]
  |false=>
   have uA:=hf;unfold DY at uA;rw[uA]at UO;have hw:IntKind.i64.wrap ((r:Int)+1)=r+1:=aT zo;simp[br,av,ai,atR,s4,h4,Pc];refine oc UO ?_;simp[br,av,ai,atR,s4,h4,hw];refine⟨⟨r+1,zo,zo,zo,λk h1 h2=>?_⟩,zo⟩
   by_cases hk:k=r
   .rw[hk];exact hf
   .exact hb k h1 zo
 .rw[ho]at yc
  have B1:FL s=[.int .i64 0,.int .i64 e]:=by
   have:=B3 0;unfold px at this;unfold FL
   cases hI:dn s with
   |false=>simpa[hI]using this
   |true=>
    cases gI:j9 s.name with
    |none=>simpa[hI,gI]using this
    |some es=>simp[hI,gI,eY]at ho;exact absurd ho.2.symm he
  rw[B1]
  have oA:(e !=0)=true:=by simpa using he
  refine cw hG func25 ntmps25 c25 ?_;simp[c25,bm,av,ai];refine oc Kf ?_;simp;refine oc yc ?_;simp[dO,br,av,ai,zT,bI,he,oA]
def OD(hG:ar GI)(s:az)(hs:fW s)(b:Bool):AC prog GI 53 [bm s,.bool (dn s&&b)] (.ret (.dR (eY s (dn s&&b)))):=by
 cases b with
 |true=>rw[ahg];exact CA hG s hs
 |false=>
  rw[Bool.and_false];have:=Lb hG s;simpa[eY]using this
def qh (s:az) (b:Bool):(dn s=true∧b=true∧∃ es,j9 s.name=some es∧eY s (dn s && b)=[dO s (bZ s es),.int .i64 0]) ∨
  (dn s&&b)=false/\eY s (dn s&&b)=[dO zT [],.int .i64 2]\/dn s=true/\b=true/\j9 s.name=none/\eY s (dn s&&b)=[dO zT [],.int .i64 7]:=by
 cases hI:(dn s&&b)with
 |false=>exact .inr (.inl ⟨rfl,by simp[eY]⟩)
 |true=>
  rw[adk]at hI
  cases hs:j9 s.name with
  |some es=>exact .inl ⟨hI.1,hI.2,es,rfl,by simp[eY,hs]⟩
  |none=>exact .inr (.inr ⟨hI.1,hI.2,rfl,by simp[eY,hs]⟩)
def vL(s:az):List AV:=if dn s then(match j9 s.name with|some es=>[vI (bZ s es),.int .i64 0]|none=>[vI [],.int .i64 7])else[vI [],.int .i64 2]
def aa2(hG:ar GI)(s:az)(hs:fW s):AC prog GI 16 [bm s] (.ret (.dR (vL s))):=by
 have pv:=rk hG s hs;have kS:=OD hG s hs true
 have key:∃t:az,∃l:List Int,∃e:Int,eY s (dn s&&true)=[dO t l,.int .i64 e]/\vL s=[vI l,.int .i64 e]:=by
  rcases qh s true with⟨h1,_,es,h2,h3⟩|⟨h1,h3⟩|⟨h1,_,h2,h3⟩
  .exact⟨_,_,_,h3,by simp[vL,h1,h2]⟩
  .rw[ahg]at h1;exact⟨_,_,_,h3,by simp[vL,h1]⟩
  .exact⟨_,_,_,h3,by simp[vL,h1,h2]⟩
 obtain⟨t,l,e,h3,h4⟩:=key;rw[h3,ahg]at kS;rw[h4];refine cw hG func16 ntmps16 c16 ?_;simp[c16,bm,av,ai];refine oc pv ?_;simp;refine oc kS ?_;simp[dO,br,av,ai,bI]
def oy(s:az)(l:List Int):Bool:=decide (l.length=s.cells.length)&&(l.zip s.cells).all λx=>da x.1 x.2.lo x.2.hi
def yH{α β:Type}(p:α×β->Bool):∀(l:List α)(m:List β),l.length=m.length->((l.zip m).all p=true↔∀i (h:i<l.length)(h':i<m.length),p (l[i],m[i])=true)
 |[],[],_=>ahi
 |a::l,b::m,h=>by
  rw[List.zip_cons_cons,List.all_cons,adk,yH p l m (by simpa using h)]
  constructor
  .rintro⟨h1,h2⟩ i hi dv
   cases i with
   |zero=>exact h1
   |succ i=>exact h2 i (by simpa using hi) (by simpa using dv)
  .intro hh;exact⟨hh 0 ahi ahi,λi hi dv=>hh (i+1) (by simpa using hi) (by simpa using dv)⟩
 |[],_::_,h=>by simp at h
 |_::_,[],h=>by simp at h
def abK(hG:ar GI)(s:az)(hs:s.cells.length<1000000)(l:List Int)(hl:l.length<1000000):AC prog GI 58 [bm s,vI l] (.ret (.bool (oy s l))):=by
 refine cw hG func58 ntmps58 c58 ?_;refine aK (λS H=>S 1=vI l/\S 2=.box 2 0/\H 2=some (av s)) (by simp[bm,av,ai]) ?_;rintro S H ⟨s1,s2,h2⟩;simp[s1,s2,h2];refine bu 9 l.length (λi S H=>S 1=vI l/\S 2=.box 2 0/\H 2=some (av s)/\S 7=vI l/\S 8=.int .i64 l.length/\S 9=.int .i64 (i:Nat)/\∀j (h:j<l.length),j<i->∃h':j<s.cells.length,da l[j] s.cells[j].lo s.cells[j].hi=true) (λi S H h=>h.2.2.2.2.2.1) ⟨by simp[s1],by simp[s2],by simp[h2],by simp[s1],ahi,ahi,ahi⟩ ?_;clear s1 s2 h2 S H;rintro i hi S H ⟨s1,s2,h2,s7,s8,s9,hb⟩
 by_cases aq:i<l.length
 .have hw:IntKind.i64.wrap ((i:Int)+1)=i+1:=aT zo
  have hn:¬(i:Int)<0:=zo
  by_cases hc:i<s.cells.length
  case neg=>
   have xk:(s.cells.length:Int)<=i:=zo
   have hr:oy s l=false:=by
    unfold oy
    rw[agq zo]<;>rfl
   simp[s1,s2,h2,s7,s8,s9,aq,hn,xk,hr,av,ai]
  have xk:¬(s.cells.length:Int)<=i:=zo
  simp[s1,s2,h2,s7,s8,s9,aq,hn,hc,xk,fR,av,ai];refine oc (wD hG _ _ _) ?_;cases mj:da l[i] s.cells[i].lo s.cells[i].hi
  .have hr:oy s l=false:=by
    unfold oy
    by_cases wu:l.length=s.cells.length
    .have:¬ ((l.zip s.cells).all fun x=>da x.1 x.2.lo x.2.hi)=true:=fun h=>by
      have:=(yH _ l s.cells wu).1 h i aq hc;rw[mj]at this;cases this
     simp only[ae0]at this;rw[this,Bool.and_false]
    .rw[agq wu]<;>rfl
   simp[s1,s2,h2,s7,s8,s9,hr]
  .simp[s1,s2,h2,s7,s8,s9,hw,av,ai];intro j hj fD
   by_cases e:j=i
   .subst e;exact⟨hc,mj⟩
   .exact hb j hj zo
 .have di:i=l.length:=zo
  subst di
  have hr:oy s l=decide (l.length=s.cells.length):=by
   unfold oy
   by_cases wu:l.length=s.cells.length
   .rw[af2 wu,agD]
    exact(yH _ l s.cells wu).2 λi h h'=>let⟨_,q⟩:=hb i h h;q
   .rw[agq wu,Bool.false_and]
  simp[s1,s2,h2,s7,s8,s9,hr,av,ai];rw[ad5];simp;omega
def I_{s:az}(h:iL s){l:List Int}(hr:oy s l=true):l.length=s.cells.length/\(∀x∈l,1<=x/\x<=20)/\∀i (h:i<l.length)(h':i<s.cells.length),s.cells[i].lo<=l[i]/\l[i]<=s.cells[i].hi:=by
 unfold oy at hr;rw[adk,adr]at hr;have h2:=(yH _ l s.cells hr.1).1 hr.2
 have h3:∀i (h:i<l.length)(h':i<s.cells.length),s.cells[i].lo<=l[i]/\l[i]<=s.cells[i].hi:=λi hi dv=>by
  have:=h2 i hi dv;simpa[da]using this
 refine⟨hr.1,λx hx=>?_,h3⟩;obtain⟨i,hi,rfl⟩:=ad7 hx;have:=h3 i hi zo;have:=h.AG _ (adi (show i<s.cells.length by omega));omega
def Aw(s:az)(aw cm:List Int):Nat:=fX aw (jR cm) (gq (gh s) s.cells.length)
def xY(s:az)(l:List Int):List AV:=
 if dn s&&oy s l then(match j9 s.name with|some es=>[.int .i64 (Aw s (bZ s es) l),.int .i64 0]|none=>[.int .i64 0,.int .i64 7])else[.int .i64 0,.int .i64 2]
def abh(hG:ar GI)(s:az)(hs:fW s)(l:List Int)(hl:l.length<1000000):AC prog GI 20 [bm s,vI l] (.ret (.dR (xY s l))):=by
 have pv:=rk hG s hs;have Y3:=abK hG s hs.cells l hl;have kS:=OD hG s hs (oy s l);rcases qh s (oy s l)with⟨h1,h0,es,h2,h3⟩|h3
 .have hg:=gQ h1;obtain⟨r1,r2,_⟩:=I_ hg h0;have hn:=lV hg (kf hg.name h2);have I2:=R9 hG s hg _ hn.1 hn.2 l r1 (λx hx=>by have:=r2 x hx;omega)
  have ho:xY s l=[.int .i64 (Aw s (bZ s es) l),.int .i64 0]:=by simp[xY,h1,h0,h2]
  rw[h3,h1,h0]at kS;rw[ho];rw[h1]at pv;rw[h0]at Y3;refine cw hG func20 ntmps20 c20 ?_;simp[c20,bm,av,ai];refine oc pv ?_;simp;refine oc Y3 ?_;simp;refine oc kS ?_;simp[dO,br,av,ai,bI];refine oc I2 ?_;simp[Aw]
 .have key:∃ e:Int,e≠0∧eY s (dn s && oy s l)=[dO zT [],.int .i64 e]∧xY s l=[.int .i64 0,.int .i64 e]:=by
   rcases h3 with⟨h1,h3⟩|⟨h1,h0,h2,h3⟩
   .exact⟨2,zd,h3,by simp[xY,h1]⟩
   .exact⟨7,zd,h3,by simp[xY,h1,h0,h2]⟩
  obtain⟨e,he,h3,h4⟩:=key
  have oA:(e !=0)=true:=by simpa using he
  rw[h3]at kS;rw[h4];refine cw hG func20 ntmps20 c20 ?_;simp[c20,bm,av,ai];refine oc pv ?_;cases hI:dn s
  .rw[hI]at kS;simp;refine oc kS ?_;simp[dO,br,av,ai,zT,bI,he,oA]
  .rw[hI]at kS;simp;refine oc Y3 ?_;simp;refine oc kS ?_;simp[dO,br,av,ai,zT,bI,he,oA]
def Nj(s:az)(aw:List Int)(w:Int):Int:=if w<(mN 0 s aw:Nat)then 3 else if w<(mN 1 s aw:Nat)then 2 else 1
def zE(s:az)(w:Int):Bool:=da w 0 (s.name.words.length-1)
def th(s:az)(w:Int):List AV:=
 if dn s&&zE s w then(match j9 s.name with|some es=>[.int .i64 (Nj s (bZ s es) w),.int .i64 0]|none=>[.int .i64 0,.int .i64 7])else[.int .i64 0,.int .i64 2]
def acG(hG:ar GI)(s:az)(hs:fW s)(w:Int):AC prog GI 23 [bm s,.int .i64 w] (.ret (.dR (th s w))):=by
 have pv:=rk hG s hs;have kS:=OD hG s hs (zE s w)
 have u_:IntKind.i64.wrap ((s.name.words.length:Int)-1)=(s.name.words.length:Int)-1:=by
  have:=hs.name.words;exact aT zo
 rcases qh s (zE s w)with⟨h1,h0,es,h2,h3⟩|h3
 .have hg:=gQ h1;have hn:=lV hg (kf hg.name h2)
  have PV:∀e,e=0\/e=1->_:=λe he=>KS hG s (by have:=hg.cells;omega) e he
  have acs:=PV 0 (.inl rfl);have ab2:=PV 1 (.inr rfl);have ab_:=Aq hG s hg _ hn 0;have acF:=Aq hG s hg _ hn 1
  have ho:th s w=[.int .i64 (Nj s (bZ s es) w),.int .i64 0]:=by simp[th,h1,h0,h2]
  rw[h3,h1,h0]at kS;rw[ho];rw[h1]at pv;have MD:=h0;unfold zE at MD;refine cw hG func23 ntmps23 c23 ?_;simp[c23,bm,av,ai];refine oc pv ?_;simp[u_];refine oc (wD hG _ _ _) ?_;simp[MD];refine oc kS ?_;simp[dO,br,av,ai,bI];refine oc acs ?_;simp;refine oc ab_ ?_;unfold Nj
  by_cases c1:w<(mN 0 s (bZ s es):Nat)
  .simp[c1]
  simp[c1];refine oc ab2 ?_;simp;refine oc acF ?_
  by_cases c2:w<(mN 1 s (bZ s es):Nat)
  .simp[c2]
  .simp[c2]
 .have key:∃ e:Int,e≠0∧eY s (dn s && zE s w)=[dO zT [],.int .i64 e]∧th s w=[.int .i64 0,.int .i64 e]:=by
   rcases h3 with⟨h1,h3⟩|⟨h1,h0,h2,h3⟩
   .exact⟨2,zd,h3,by simp[th,h1]⟩
   .exact⟨7,zd,h3,by simp[th,h1,h0,h2]⟩
  obtain⟨e,he,h3,h4⟩:=key
  have oA:(e !=0)=true:=by simpa using he
  rw[h3]at kS;rw[h4];refine cw hG func23 ntmps23 c23 ?_;simp[c23,bm,av,ai];refine oc pv ?_;cases hI:dn s
  .rw[hI]at kS;simp;refine oc kS ?_;simp[dO,br,av,ai,zT,bI,he,oA]
  .rw[hI]at kS;simp[u_];refine oc (wD hG _ _ _) ?_;unfold zE at kS;simp;refine oc kS ?_;simp[dO,br,av,ai,zT,bI,he,oA]
def vz(s:az)(e:Int)(he:e≠0)(ho:eY s (dn s)=[dO zT [],.int .i64 e]):(dn s=false/\e=2)\/(dn s=true/\j9 s.name=none/\e=7):=by
 cases hI:dn s with
 |false=>left;simp[eY,hI]at ho;exact⟨rfl,ho.symm⟩
 |true=>
  cases hs:j9 s.name with
  |none=>right;simp[eY,hI,hs]at ho;exact⟨rfl,rfl,ho.symm⟩
  |some es=>simp[eY,hI,hs]at ho;exact absurd ho.2.symm he
def y6(s:az)(p:Nat):az:={ s with eX:=p }
def Qq{s:az}(h:iL s){p:Nat}(h1:1<=p)(h2:p<=9):iL (y6 s p):=⟨h.cells,h.AG,h.pos,h.reach,⟨by show(1:Int)<=(p:Int);omega,by show(p:Int)<=9;omega⟩,h.dQ,h.name⟩
def zV(s:az)(es:List End)(p:Nat):Bool:=decide (mN 0 (y6 s p) (bZ (y6 s p) es)=(bZ (y6 s p) es).length)
def zN:List Nat:=[9,8,7,6,5,4,3,2,1]
def yf(s:az):List AV:=
 if dn s then(match j9 s.name with|some es=>(match zN.find? (zV s es)with|some r=>[.int .i64 (r:Nat),.int .i64 0]|none=>[.int .i64 0,.int .i64 5])|none=>[.int .i64 0,.int .i64 7])else[.int .i64 0,.int .i64 2]
def I6{p:Nat->Bool}{r:Nat}(h1:1<=r)(h2:r<=9)(hp:p r=true)(hb:∀k,r<k->k<=9->p k=false):zN.find? p=some r:=by
 have:r=1\/r=2\/r=3\/r=4\/r=5\/r=6\/r=7\/r=8\/r=9:=zo
 unfold zN;rcases this with rfl|rfl|rfl|rfl|rfl|rfl|rfl|rfl|rfl
 all_goals (repeat rw[List.find?_cons]);simp[hp,hb]
def JQ{p:Nat->Bool}(hb:∀k,0<k->k<=9->p k=false):zN.find? p=none:=by
 rw[afY];intro x hx
 have:0<x/\x<=9:=by simp[zN]at hx;omega
 rw[hb x this.1 this.2];simp
def abd(hG:ar GI)(s:az)(hs:fW s):AC prog GI 27 [bm s] (.ret (.dR (yf s))):=by
 have pv:=rk hG s hs;have kS:=CA hG s hs
 rcases kQ s with⟨hI,es,gI,ho⟩|⟨e,he,ho,B3⟩
 .rw[ho]at kS;have hg:=gQ hI
  have N3:yf s=(match zN.find? (zV s es)with|some r=>[.int .i64 (r:Nat),.int .i64 0]|none=>[.int .i64 0,.int .i64 5]):=by simp[yf,hI,gI]
  rw[N3];generalize bZ s es=aw at kS;refine cw hG func27 ntmps27 c27 ?_;simp[c27,bm,av,ai];refine oc pv ?_;simp;refine oc kS ?_;simp[dO,br,av,ai,bI];refine⟨λS H=>∃r:Nat,r<=9/\S 1=.box 1 0/\H 1=some (av (y6 s r))/\∀k,r<k->k<=9->zV s es k=false,λ_ H=>match H 1 with|some (_::_::_::.int _ r::_)=>r.toNat|_=>0,⟨9,?_⟩,?_⟩
  .simp[av,ai,y6];intro k h1 h2;omega
  rintro S H ⟨r,hr,s1,h1,hb⟩
  by_cases h0:r=0
  .subst h0;rw[JQ hb];simp[av,ai,y6,s1,h1]
  have LF:1<=r:=zo
  have iK:0<r:=zo
  have AF:=Qq hg LF hr;have zt:=lV AF (kf AF.name gI);have FG:=UA hG (y6 s r) ⟨hs.cells,hs.name⟩ AF (es:=es) gI;have Fi:=SM hG (y6 s r) AF (bZ (y6 s r) es) zt
  cases hf:zV s es r with
  |true=>
   have uA:=hf;unfold zV at uA;rw[uA]at Fi;rw[I6 LF hr hf hb];simp[av,ai,y6,s1,h1,iK];refine oc FG ?_;simp[dO,br,av,ai];refine oc Fi ?_;simp[av,ai,y6,s1,h1]
  |false=>
   have uA:=hf;unfold zV at uA;rw[uA]at Fi
   have hw:IntKind.i64.wrap ((r:Int)-1)=((r-1:Nat):Int):=by rw[aT zo];omega
   simp[av,ai,y6,s1,h1,iK];refine oc FG ?_;simp[dO,br,av,ai];refine oc Fi ?_;simp[av,ai,y6,s1,h1,hw];refine⟨⟨r-1,zo,rfl,λk q1 q2=>?_⟩,zo⟩
   by_cases hk:k=r
   .rw[hk];exact hf
   .exact hb k zo q2
 .rw[ho]at kS
  have B1:yf s=[.int .i64 0,.int .i64 e]:=by
   rcases vz s e he ho with⟨h1,rfl⟩|⟨h1,h2,rfl⟩
   .simp[yf,h1]
   .simp[yf,h1,h2]
  rw[B1]
  have oA:(e !=0)=true:=by simpa using he
  refine cw hG func27 ntmps27 c27 ?_;simp[c27,bm,av,ai];refine oc pv ?_;simp;refine oc kS ?_;simp[dO,br,av,ai,zT,bI,he,oA]
def abq(hG:ar GI)(a b:End):AC prog GI 71 [b_ a,b_ b] (.ret (.bool (decide (b.2<a.2)))):=by
 refine cw hG func71 ntmps71 c71 ?_;simp[c71,b_]
def lY(x:End)(l:List End):End:=l.foldl (λo y=>if o.2<y.2 then y else o) x
def HX(x:End)(l:List End){i:Nat}(h:i<l.length):lY x (l.take (i+1))=if(lY x (l.take i)).2<l[i].2 then l[i]else lY x (l.take i):=by
 unfold lY;rw[af3,adh h,aem]
 rfl
def abN(hG:ar GI)(x:End)(l:List End)(hl:l.length<1000000):AC prog GI 70 [.slice .view (aY (x::l)),.func (.func 71) [] []] (.ret (b_ (lY x l))):=by
 obtain⟨iT,TV,SO⟩:=iZ 110 2;obtain⟨fs,fw⟩:=uZ 110;have bX:aG 2 (aY (x::l))=true:=vk (x::l);refine cw hG func70 ntmps70 c70 ?_;refine aK (λS H=>S 0=.slice .view (aY (x::l))/\S 1=.func (.func 71) [] []/\S 4=.box 4 0/\H 4=some [.int .i64 0,.int .i64 0]) ahi ?_;rintro S H ⟨s0,s1,s4,h4⟩;refine aK (λS H=>S 0=.slice .view (aY (x::l))/\S 1=.func (.func 71) [] []/\S 4=.box 4 0/\H 4=some [.int .i64 0,.int .i64 0]/\S 5=.box 5 0/\H 5=some [.int .i64 x.1,.int .i64 x.2]) (by simp[s0,s1,s4,h4,aY,b_,bI]) ?_;clear s0 s1 s4 h4 S H;rintro S H ⟨s0,s1,s4,h4,s5,h5⟩
 have hd:(aY (x::l)).drop 1=aY l:=by simp[aY]
 have hlen:(aY (x::l)).length=l.length+1:=by simp[aY]
 have Ae:(1:Int)<=(l.length:Int)+1:=zo
 have qn:List.take (l.length+1) (aY (x::l))=aY (x::l):=ado zo;generalize aY (x::l)=L at s0 hd hlen qn bX
 have Za:((l.length:Int)+1).toNat=l.length+1:=zo
 simp[bound,s0,s1,s4,h4,s5,h5,hd,hlen,Ae,qn,bX,Za];refine bu 14 l.length (λi S H=>S 1=.func (.func 71) [] []/\S 4=.box 4 0/\H 4=some [.int .i64 0,.int .i64 0]/\S 5=.box 5 0/\H 5=some [.int .i64 (lY x (l.take i)).1,.int .i64 (lY x (l.take i)).2]/\S 12=.slice .view (aY l)/\S 13=.int .i64 l.length/\S 14=.int .i64 (i:Nat)) (λi S H h=>h.2.2.2.2.2.2.2) ⟨by simp[s1],by simp[s4],by simp[h4],by simp[s5],by simp[h5,lY],ahi,by simp[aY],ahi⟩ ?_;clear s0 s1 s4 h4 s5 h5 S H;rintro i hi S H ⟨s1,s4,h4,s5,h5,cK,dH,eg⟩
 by_cases aq:i<l.length
 .have hw:IntKind.i64.wrap ((i:Int)+1)=i+1:=aT zo
  have hn:¬(i:Int)<0:=zo
  have hs:=HX x l aq;have Wu:=abq hG l[i] (lY x (l.take i))
  generalize lY x (l.take i)=o at*
  by_cases hc:o.2<l[i].2
  .rw[if_pos hc]at hs;rw[hs];simp[s1,s4,h4,s5,h5,cK,dH,eg,aq,hn,aY,b_,bI];refine oc Wu ?_;simp[s1,s4,h4,s5,h5,cK,dH,eg,hc,hw,aY,b_]
  .rw[if_neg hc]at hs;rw[hs]
   have xk:l[i].2<=o.2:=zo
   simp[s1,s4,h4,s5,h5,cK,dH,eg,aq,hn,aY,b_,bI];refine oc Wu ?_;simp[s1,s4,h4,s5,h5,cK,dH,eg,hc,xk,hw,aY,b_]
 .have di:i=l.length:=zo
  subst di;rw[aeB]at h5;simp[s1,s4,h4,s5,h5,cK,dH,eg,TV,SO,fw,ef,b_]
def dI(x:Nat×Nat):End:=((x.1:Int),(x.2:Int))
def yQ:∀(l:List (Nat×Nat))(x:Nat×Nat),lY (dI x) (l.map dI)=dI (si x l)
 |[],_=>rfl
 |y::l,x=>by
  have e1:lY (dI x) ((y::l).map dI)=lY (if(dI x).2<(dI y).2 then dI y else dI x) (l.map dI):=rfl;have e2:si x (y::l)=si (if x.2<y.2 then y else x) l:=rfl;rw[e1,e2,<-yQ l]
  congr 1
  by_cases h:x.2<y.2
  .rw[if_pos h,if_pos (by show(x.2:Int)<(y.2:Int);omega)]
  .rw[if_neg h,if_neg (by show¬(x.2:Int)<(y.2:Int);omega)]
def sY(s:az)(a:Int):az:={ s with pos:=a }
def Kb{s:az}(h:iL s){a:Nat}(h1:1<=a)(h2:a<=s.cells.length):iL (sY s a):=⟨h.cells,h.AG,⟨by show(1:Int)<=(a:Int);omega,by show(a:Int)<=s.cells.length;omega⟩,h.reach,h.eX,h.dQ,h.name⟩
def jh(s:az)(aw:List Int)(a:Nat):Nat:=mN 0 (sY s (a:Int)) aw
def zG(s:az)(aw:List Int):Nat×Nat:=si (1,jh s aw 1) (jf (jh s aw) 2 (s.cells.length-1))
def xD(s:az):List AV:=
 if dn s then(match j9 s.name with|some es=>[.int .i64 ((zG s (bZ s es)).1:Nat),.int .i64 ((zG s (bZ s es)).2:Nat),.int .i64 0]|none=>[.int .i64 0,.int .i64 0,.int .i64 7])else[.int .i64 0,.int .i64 0,.int .i64 2]
def yz(f:Nat->Nat){m:Nat}(hm:1<=m):jf f 1 m=(1,f 1)::jf f 2 (m-1):=by
 obtain⟨k,rfl⟩:∃k,m=k+1:=⟨m-1,zo⟩
 unfold jf
 rw[aeS]<;>rfl
def J2(f:Nat->Nat)(m:Nat):jf f 1 (m+1)=jf f 1 m++[(m+1,f (m+1))]:=by
 unfold jf;rw[afU,adL];simp[Nat.add_comm]
def abC(hG:ar GI)(s:az)(hs:fW s):AC prog GI 28 [bm s] (.ret (.dR (xD s))):=by
 have pv:=rk hG s hs;have kS:=CA hG s hs
 rcases kQ s with⟨hI,es,gI,ho⟩|⟨e,he,ho,B3⟩
 .rw[ho]at kS;have hg:=gQ hI;have hc:=hg.cells
  have N3:xD s=[.int .i64 ((zG s (bZ s es)).1:Nat),.int .i64 ((zG s (bZ s es)).2:Nat),.int .i64 0]:=by simp[xD,hI,gI]
  rw[N3];have hn:=lV hg (kf hg.name gI);generalize bZ s es=aw at kS hn⊢;have PV:=KS hG s zo 0 (.inl rfl);have pF:=abN hG (dI (1,jh s aw 1)) ((jf (jh s aw) 2 (s.cells.length-1)).map dI) (by simp[jf];omega);rw[yQ]at pF
  have eF:dI (1,jh s aw 1)::(jf (jh s aw) 2 (s.cells.length-1)).map dI=(jf (jh s aw) 1 s.cells.length).map dI:=by
   rw[yz _ hc.1]<;>rfl
  rw[eF]at pF;refine cw hG func28 ntmps28 c28 ?_;refine aK (λS H=>S 1=.box 1 0/\H 1=some (av s)) (by simp[bm,av,ai]) ?_;rintro S H ⟨s1,h1⟩;refine aK (λS H=>S 1=.box 1 0/\H 1=some (av s)/\S 5=.box 5 0/\H 5=some (br s aw)/\S 6=.int .i64 0) ?_ ?_
  .simp[s1,h1,av,ai];refine oc pv ?_;simp;refine oc kS ?_;simp[s1,h1,dO,br,av,ai,bI]
  clear s1 h1 S H;rintro S H ⟨s1,h1,s5,h5,s6⟩;refine aK (λS H=>S 1=.box 1 0/\H 1=some (av s)/\S 5=.box 5 0/\H 5=some (br s aw)) (by simp[s1,h1,s5,h5,s6]) ?_;clear s1 h1 s5 h5 s6 S H;rintro S H ⟨s1,h1,s5,h5⟩;refine aK (λS H=>S 1=.box 1 0/\H 1=some (av s)/\S 5=.box 5 0/\H 5=some (br s aw)/\S 7=.slice .nil []) (by simp[s1,h1,s5,h5]) ?_;clear s1 h1 s5 h5 S H;rintro S H ⟨s1,h1,s5,h5,s7⟩;refine aK (λS H=>S 7=grow 110 (aY ((jf (jh s aw) 1 s.cells.length).map dI))) ?_ ?_
  .refine aK (λS H=>S 1=.box 1 0/\H 1=some (av s)/\S 5=.box 5 0/\H 5=some (br s aw)/\S 7=.slice .nil []/\S 8=.int .i64 1) (by simp[s1,h1,s5,h5,s7]) ?_;clear s1 h1 s5 h5 s7 S H;rintro S H ⟨s1,h1,s5,h5,s7,s8⟩;simp only[eD];refine⟨λS H=>∃i:Nat,i<=s.cells.length/\S 1=.box 1 0/\H 1=some (av s)/\S 5=.box 5 0/\(∃p,H 5=some (br (sY s p) aw))/\S 7=grow 110 (aY ((jf (jh s aw) 1 i).map dI))/\S 8=.int .i64 ((i:Int)+1),λS _=>match S 8 with|.int _ r=>(13-r).toNat|_=>0,⟨0,ad_ _,s1,h1,s5,⟨s.pos,h5⟩,by rw[s7]<;>rfl,s8⟩,?_⟩;clear s1 h1 s5 h5 s7 s8 S H;rintro S H ⟨i,hi,s1,h1,s5,⟨p,h5⟩,s7,s8⟩
   by_cases aq:i<s.cells.length
   case neg=>
    have di:i=s.cells.length:=zo
    subst di
    have hq:¬((s.cells.length:Int)+1<=s.cells.length):=zo
    simp[s1,h1,s5,h5,s7,s8,hq,av,ai]
   have hq:(i:Int)+1<=s.cells.length:=zo
   have hw:IntKind.i64.wrap ((i:Int)+1+1)=(i:Int)+1+1:=aT zo;have I2:=Aq hG (sY s ((i+1:Nat):Int)) (Kb hg zo zo) aw hn 0
   have xZ:aY ((jf (jh s aw) 1 (i+1)).map dI)=aY ((jf (jh s aw) 1 i).map dI)++[.agg [.int .i64 ((i:Int)+1),.int .i64 (jh s aw (i+1):Nat)]]:=by
    rw[J2,adL];unfold aY;rw[adL];simp[dI,b_]
   have hlen:(aY ((jf (jh s aw) 1 i).map dI)).length=i:=by simp[aY,jf]
   have bX:=vk ((jf (jh s aw) 1 i).map dI);have hfd:mN 0 (sY s ((i+1:Nat):Int)) aw=jh s aw (i+1):=rfl;rw[hfd]at I2;have k3:aG 2 [AV.agg [.int .i64 ((i:Int)+1),.int .i64 (jh s aw (i+1):Nat)]]=true:=rfl
   have nq:i+1<1048576:=zo
   generalize aY ((jf (jh s aw) 1 i).map dI)=L at s7 xZ hlen bX;simp[s1,h1,s5,h5,s7,s8,hq,br,sY,av,ai];refine oc PV ?_;simp[s1,h1,s5,h5,s7,s8,br,sY,av,ai];refine oc I2 ?_;have eV:(AV.agg [.int .i64 ((i:Int)+1),.int .i64 (jh s aw (i+1):Nat)]).storable=true:=rfl
   cases L with
   |nil=>
    have wg:grow 110 []=.slice .nil []:=rfl
    have LS:i=0:=by simpa using hlen.symm
    subst LS;simp[s1,h1,s5,h5,s8,wg,bI,br,sY,av,ai,aG];have ln:IntKind.i64.wrap 2=2:=aT zo;rw[ln];exact⟨⟨1,hc.1,rfl,zo⟩,zo⟩
   |cons y L=>
    have wg:grow 110 (y::L)=.slice (.own 110) (y::L):=rfl;simp[s1,h1,s5,h5,s8,wg,hw,hlen,nq,k3,bX,bI,br,sY,av,ai];exact⟨⟨i+1,zo,by rw[xZ]<;>rfl,zo⟩,zo⟩
  .clear s1 h1 s5 h5 s7 S H;intro S H s7
   have iD:grow 110 (aY ((jf (jh s aw) 1 s.cells.length).map dI))=.slice (.own 110) (aY ((jf (jh s aw) 1 s.cells.length).map dI)):=by
    rw[yz _ hc.1]<;>rfl
   rw[iD]at s7;have hb:si (1,jh s aw 1) (jf (jh s aw) 2 (s.cells.length-1))=zG s aw:=rfl;rw[hb]at pF;generalize aY ((jf (jh s aw) 1 s.cells.length).map dI)=L at s7 pF;generalize zG s aw=q at pF⊢;simp[s7];refine oc pF ?_;simp[b_,dI,bI]
 .rw[ho]at kS
  have B1:xD s=[.int .i64 0,.int .i64 0,.int .i64 e]:=by
   rcases vz s e he ho with⟨h1,rfl⟩|⟨h1,h2,rfl⟩
   .simp[xD,h1]
   .simp[xD,h1,h2]
  rw[B1]
  have oA:(e !=0)=true:=by simpa using he
  refine cw hG func28 ntmps28 c28 ?_;simp[c28,bm,av,ai];refine oc pv ?_;simp;refine oc kS ?_;simp[dO,br,av,ai,zT,bI,he,oA]
def Zn(hG:ar GI)(s:az)(hs:s.cells.length<1000)(e:Nat)(he:e=0\/e=1)(cP:cj e s≠[]):AC prog GI 60 [bm s,.int .i64 (e:Nat)] (.ret (.slice (.own 3) (ints (cj e s)))):=by
 refine AC.jF func60 rfl ntmps60 ahi λcc w=>W0 hG s hs e he cc w λS5 H5 s6=>?_
 have MD:ints (cj e s)≠[]:=by simpa[ints]using cP
 have Sm:S5 6=.slice (.own 3) (ints (cj e s)):=by rw[s6];simp[grow,MD]
 clear s6;show SW prog GI 29 none (.seq (.region _ _ false) .ret) _ _ _ _
 refine SW.seq (SW.hand hG (p:=0) (lm:=[0,1]) (l2:=[]) (kj:=[]) (oh:=[_,_]) (nk:=[]) rfl rfl rfl rfl zk (λ_ h=>h) (n9:=[]) (np:=[]) rfl rfl rfl rfl
  (K1:=λS H=>S 6=.slice (.own 3) (ints (cj e s))) (K2:=λo S H=>o=Old.plain cc w/\S 4=.slice (.own 3) (ints (cj e s))) (K3:=λo S H=>o=Old.plain cc w/\S 4=.slice (.own 3) (ints (cj e s))) ?_ ?_ ?_ ?_)
 .exact Sm
 .rintro w0 g S H a w' m cq ho R s6;have r6:=R.slot 6 zd (λh=>h);rw[s6]at r6;have bj:=R.size
  obtain⟨c,hc⟩:∃c,a.tmps.getD 6 undef=c:=⟨_,rfl⟩
  rw[hc]at r6;have rv:RD g.Pr w' (.slice .view (ints (cj e s))) c:=(r6.dW rfl).aJ;refine bg rfl rfl zr ((run_move (x:=.tmp 6) w' rfl).trans (congrArg (λv=>Result.ok (Next.value v) w') hc)) ?_;have R1:=R.put 28 (.slice .view (ints (cj e s))) c zd (.data _ _ rv) trivial
  have xx:(a.put (some 28) c).tmps.getD 28 undef=c:=by simp[Act.put,bj]
  refine bg rfl rfl zr ((run_assign (x:=.tmp 28) w' rfl).trans (congrArg (λv=>Result.ok (Next.value v) w') xx)) ?_;have R2:=R1.put 4 (.slice .view (ints (cj e s))) c zd (.data _ _ rv) trivial
  have e4:((a.put (some 28) c).put (some 4) c).tmps.getD 4 undef=c:=by simp[Act.put,bj]
  have e6:((a.put (some 28) c).put (some 4) c).tmps.getD 6 undef=a.tmps.getD 6 undef:=by simp[Act.put,adt]
  obtain⟨g',q1,R3⟩:=R2.Po (t:=6) (u:=4) (e:=3) (es:=ints (cj e s)) zd zd zd (by simp[au,s6]) (by rw[e4,e6,hc]);exact⟨g',_,_,R3,by rw[q1];exact ho,aO _ _ _⟩
 .rintro o S H ⟨rfl,s4⟩;exact⟨λ_ h=>h,rfl,s4⟩
 .rintro o S H ⟨rfl,s4⟩;refine SW.ret ⟨ep.plain rfl,rfl,_,?_,rfl⟩;show cM prog 29 [.tmp 4] S H=_;simp[cM,dc,de,s4,AV.cg,AV.out]
def Qd{a:Act}{w:World}{o:Oper}{x y:Operand}{t ty:TypeId}{m n:Int}(ho:o.op=.binOp .add t x y ty)(hx:a.eval x=.int .i64 m)(hy:a.eval y=.int .i64 n):(execOp a.eval o).run prog w=.ok (.value (.int .i64 (IntKind.i64.wrap (m+n)))) w:=by
 unfold execOp;simp[ho,hx,hy,Go.binOp,Op.intArith,eqGuard]
def j7(s:az)(i n:Nat):List Int:=(cj 0 s).set i ((cj 0 s).getD i 0+n)
def qk(s:az)(aw:List Int)(i n:Nat):Bool:=decide (Aw s aw (j7 s i n)=aw.length)
def UB(l:List Int):j8 1 (ints l):=λx hx=>by
 obtain⟨k,_,rfl⟩:=adF.1 hx;exact⟨rfl,rfl,λc hc=>by simp[AV.cells]at hc;subst hc;rfl⟩
def ints_set(l:List Int)(i:Nat)(x:Int):(ints l).set i (.int .i64 x)=ints (l.set i x):=by simp[ints,List.map_set]
structure PO(cc:Nat->Nat->Prop)(o:Old):Prop where
 c:o.c=cc
 ds:o.ds=[]
 bx:∀d,¬o.bx d
def aao (hG:ar GI) (s:az) (h:iL s) (aw:List Int) (hn:(∀ x∈aw,0≤x∧x≤1000)∧aw.length≤1000) {i:Nat} (hi:i < s.cells.length) {n:Nat} (Ub:n≤900) :
  AC prog GI 64 [.int .i64 (n:Nat),.ref (av s),.ref [.int .i64 (i:Nat)],.ref (br s aw)] (.ret (.bool (qk s aw i n))):=by
 have hc:=h.cells
 have yh:(cj 0 s).length=s.cells.length:=by simp[cj]
 have cP:cj 0 s≠[]:=λh0=>by rw[h0]at yh;simp at yh;omega
 have yL:=(vm h 0).2
 have di:i<(cj 0 s).length:=zo
 have hxi:=yL _ (adi di)
 have acZ:(cj 0 s)[i]<=20:=by
  have:=h.AG _ (adi hi);simp[cj,xj];omega
 have CH:(cj 0 s).getD i 0=(cj 0 s)[i]:=by simp[aef,di]
 have PV:=Zn hG s zo 0 (.inl rfl) cP
 have u_:(j7 s i n).length=s.cells.length:=by simp[j7,yh]
 have I2:=R9 hG s h aw hn.1 hn.2 (j7 s i n) u_ (λx hx=>by
  rcases agH hx with h1|h1
  .exact yL x h1
  .rw[h1,CH];omega)
 have qO:((fX aw (jR (j7 s i n)) (gq (gh s) s.cells.length):Int)==(aw.length:Int))=qk s aw i n:=by
  show _=decide (fX aw (jR (j7 s i n)) (gq (gh s) s.cells.length)=aw.length);rw[ad5,adr,adY];omega
 obtain⟨i3,D2,uu⟩:=iZ 3 1;obtain⟨d3,Mj,aa6⟩:=vZ 3
 refine AC.jF func64 rfl ntmps64 ahi λcc w=>?_
 refine dX hG c64.qa (λS H=>S 0=.int .i64 (n:Nat)/\S 1=.ref (av s)/\S 2=.ref [.int .i64 (i:Nat)]/\S 3=.ref (br s aw)) ?_ ?_
 .simp[c64,ah.qa,br,av,ai]
 rintro S1 H1 ⟨s0,s1,s2,s3⟩;show SW prog GI 23 none (.seq _ (.seq _ (.seq _ .ret))) _ _ _ _
 refine SW.seq (SW.hand hG (p:=1) (lm:=[1]) (l2:=[2]) (kj:=[_]) (oh:=[_]) (nk:=[_]) rfl rfl rfl rfl zk (λ_ h=>h)
  (n9:=(c64.qb.qa.dl).take 1) (np:=(c64.qb.qa.dl).drop 2) zk zk zk zk
  (K1:=λS H=>S 0=.int .i64 (n:Nat)/\S 2=.ref [.int .i64 (i:Nat)]/\S 3=.ref (br s aw)/\S 7=bm s)
  (K2:=λo S H=>∃v,KO cc 3 1 (ints (cj 0 s)) o v/\S 0=.int .i64 (n:Nat)/\S 2=.ref [.int .i64 (i:Nat)]/\S 3=.ref (br s aw)/\S 8=.val v)
  (K3:=λo S H=>∃v,KO cc 3 1 (ints (cj 0 s)) o v/\S 0=.int .i64 (n:Nat)/\S 2=.ref [.int .i64 (i:Nat)]/\S 3=.ref (br s aw)/\S 6=.val v) ?_ ?_ ?_ ?_)
 .simp[c64,ah.qa,ah.qb,ah.dl,s0,s1,s2,s3,bm,av,ai]
 .rintro w0 g S H a w' m cq ho R ⟨s0,s2,s3,s7⟩;have r7:=R.slot 7 zd (λh=>h);rw[s7]at r7
  refine gk rfl rfl zr (gn (k:=60) (args:=#[a.tmps.getD 7 undef,.int .i64 0]) w' rfl rfl ?_ zk) (PV w' (fC g false) #[a.tmps.getD 7 undef,.int .i64 0] (hG w0 w' cq (by have:=R.below;rwa [R.base]at this)) rfl (λj hj dU=>by
   match j,hj with
   |0,_=>exact(r7.cQ rfl).mono (bf.same λb k _ hp=>.inl hp) λ_ _ h=>h
   |1,_=>exact .data _ _ (.int _ _))) ?_
  .simp only[adV,ady,adR,Act.eval]
  intro en w2 hE;obtain⟨v,g',rfl,R2,hK⟩:=EB R (cc:=cc) (by rw[ho];exact⟨rfl,rfl,λ_ h=>h⟩) D2 (by rw[uu];exact UB _) hE;rw[uu]at hK;refine⟨_,rfl,?_⟩
  have og:v.oneCell'=true:=by
   rcases hK.row with⟨⟨_,rfl⟩,_⟩|⟨_,_,_,rfl,_⟩<;>rfl
  exact⟨g',_,_,R2.put 8 (.val v) v zd (.data _ _ (.val _ og)) trivial,v,hK,by simp[au,s0],by simp[au,s2],by simp[au,s3],by simp[au]⟩
 .rintro o S H ⟨v,hK,s0,s2,s3,s8⟩;refine⟨hK.bx,?_⟩;simp[c64,ah.qa,ah.qb,ah.dl,s0,s2,s3,s8];exact hK
 clear s0 s1 s2 s3 S1 H1;rintro o S1 H1 ⟨v,hK,s0,s2,s3,s6⟩;have hKb:=hK.bx
 refine SW.seq (SW.hand hG (p:=2) (lm:=[2,3,4,5,6,7]) (l2:=[]) (kj:=[_,_]) (oh:=[_,_,_,_,_,_]) (nk:=[]) rfl rfl rfl rfl zk hKb
  (n9:=(c64.qb.qb.qa.dl).take 2) (np:=[]) zk rfl zk rfl
  (K1:=λS H=>S 0=.int .i64 (n:Nat)/\S 3=.ref (br s aw)/\S 6=.val v/\S 9=.val v/\S 10=.int .i64 (i:Nat))
  (K2:=λo S H=>PO cc o/\S 3=.ref (br s aw)/\S 6=vI (j7 s i n))
  (K3:=λo S H=>PO cc o/\S 3=.ref (br s aw)/\S 6=vI (j7 s i n)) ?_ ?_ ?_ ?_)
 .simp[c64,ah.qa,ah.qb,ah.dl,s0,s2,s3,s6]
 .rintro w0 g S H a w' m cq ho R ⟨s0,s3,s6,s9,bJ⟩;rw[<-ho]at hK
  have O5:i<(ints (cj 0 s)).length:=by simpa[ints]using di
  obtain⟨b,cap,cur,hv,xP,I4,eV⟩:=hK.cell R O5
  have ES:(ints (cj 0 s))[i]=.int .i64 (cj 0 s)[i]:=by simp[ints]
  have wi:0<((ints (cj 0 s))[i]).cells.length:=by rw[ES];simp[AV.cells]
  have LZ:=eV 0 wi
  have Qn:Iy (((ints (cj 0 s))[i]).cells[0]'wi)=.int .i64 (cj 0 s)[i]:=by simp only[ES];rfl
  rw[Qn,ae4,Nat.add_zero]at LZ;have t9:=R.slot 9 zd (λh=>h);rw[s9]at t9;have e9:a.eval (.tmp 9)=.slice (some ⟨b,0,none⟩) (ints (cj 0 s)).length cap:=t9.jo.trans hv;have t10:=R.slot 10 zd (λh=>h);rw[bJ]at t10;have jr:a.eval (.tmp 10)=.int .i64 (i:Nat):=t10.int_eq;have t0:=R.slot 0 zd (λh=>h);rw[s0]at t0;have e0:a.eval (.tmp 0)=.int .i64 (n:Nat):=t0.int_eq;have bj:=R.size;have pH:IntKind.i64.wrap ((cj 0 s)[i]+n)=(cj 0 s)[i]+n:=aT zo;refine bg rfl rfl zr (uj (k:=i) rfl zk D2 e9 jr O5) ?_;rw[uu,ae4];have R1:=R.put 11 (.val (.pointer (some ⟨b,i,none⟩))) (.pointer (some ⟨b,i,none⟩)) zd (.data _ _ (.val _ rfl)) trivial
  have p:=λt c=>ck a 11 t c zo
  have f11:=(p 11 (.pointer (some ⟨b,i,none⟩))).trans (if_pos rfl);have f9:=((p 9 (.pointer (some ⟨b,i,none⟩))).trans (if_neg zd)).trans e9;have f10:=((p 10 (.pointer (some ⟨b,i,none⟩))).trans (if_neg zd)).trans jr;have f0:=((p 0 (.pointer (some ⟨b,i,none⟩))).trans (if_neg zd)).trans e0;have WL:=R1.size;show wpOpsIn _ _ _ _ _ [3,4,5,6,7] (a.put (some 11) (.pointer (some ⟨b,i,none⟩))) w'
  generalize a.put (some 11) (.pointer (some ⟨b,i,none⟩))=a1 at*
  clear p e9 jr e0 t9 t10 t0;refine bg rfl rfl zr (Bd rfl f11 Mj aa6 I4 LZ.2) ?_;have R2:=R1.put 12 (.int .i64 (cj 0 s)[i]) (.int .i64 (cj 0 s)[i]) zd (.data _ _ (.int _ _)) trivial
  have p:=λt c=>ck a1 12 t c zo
  have g12:=(p 12 (.int .i64 (cj 0 s)[i])).trans (if_pos rfl);have g9:=((p 9 (.int .i64 (cj 0 s)[i])).trans (if_neg zd)).trans f9;have g10:=((p 10 (.int .i64 (cj 0 s)[i])).trans (if_neg zd)).trans f10;have g0:=((p 0 (.int .i64 (cj 0 s)[i])).trans (if_neg zd)).trans f0;have Lq:=R2.size;show wpOpsIn _ _ _ _ _ [4,5,6,7] (a1.put (some 12) (.int .i64 (cj 0 s)[i])) w'
  generalize a1.put (some 12) (.int .i64 (cj 0 s)[i])=a2 at*
  clear p f11 f9 f10 f0;refine bg rfl rfl zr ((run_move (x:=.tmp 0) w' rfl).trans (congrArg (λv=>Result.ok (Next.value v) w') g0)) ?_;have R3:=R2.put 13 (.int .i64 (n:Nat)) (.int .i64 (n:Nat)) zd (.data _ _ (.int _ _)) trivial
  have p:=λt c=>ck a2 13 t c zo
  have k13:=(p 13 (.int .i64 (n:Nat))).trans (if_pos rfl);have k12:=((p 12 (.int .i64 (n:Nat))).trans (if_neg zd)).trans g12;have k9:=((p 9 (.int .i64 (n:Nat))).trans (if_neg zd)).trans g9;have k10:=((p 10 (.int .i64 (n:Nat))).trans (if_neg zd)).trans g10;have ac':=R3.size;show wpOpsIn _ _ _ _ _ [5,6,7] (a2.put (some 13) (.int .i64 (n:Nat))) w'
  generalize a2.put (some 13) (.int .i64 (n:Nat))=a3 at*
  clear p g12 g9 g10 g0;refine bg rfl rfl zr (Qd rfl k12 k13) ?_;rw[pH];have R4:=R3.put 14 (.int .i64 ((cj 0 s)[i]+n)) (.int .i64 ((cj 0 s)[i]+n)) zd (.data _ _ (.int _ _)) trivial
  have p:=λt c=>ck a3 14 t c zo
  have l14:=(p 14 (.int .i64 ((cj 0 s)[i]+n))).trans (if_pos rfl);have l9:=((p 9 (.int .i64 ((cj 0 s)[i]+n))).trans (if_neg zd)).trans k9;have l10:=((p 10 (.int .i64 ((cj 0 s)[i]+n))).trans (if_neg zd)).trans k10;have KQ:=R4.size;show wpOpsIn _ _ _ _ _ [6,7] (a3.put (some 14) (.int .i64 ((cj 0 s)[i]+n))) w'
  generalize a3.put (some 14) (.int .i64 ((cj 0 s)[i]+n))=a4 at*
  clear p k12 k13 k9 k10;refine bg rfl rfl zr (uj (k:=i) rfl zk D2 l9 l10 O5) ?_;rw[uu,ae4];have R5:=R4.put 15 (.val (.pointer (some ⟨b,i,none⟩))) (.pointer (some ⟨b,i,none⟩)) zd (.data _ _ (.val _ rfl)) trivial
  have p:=λt c=>ck a4 15 t c zo
  have m15:=(p 15 (.pointer (some ⟨b,i,none⟩))).trans (if_pos rfl);have m14:=((p 14 (.pointer (some ⟨b,i,none⟩))).trans (if_neg zd)).trans l14;show wpOpsIn _ _ _ _ _ [7] (a4.put (some 15) (.pointer (some ⟨b,i,none⟩))) w'
  generalize a4.put (some 15) (.pointer (some ⟨b,i,none⟩))=a5 at*
  clear p l14 l9 l10;obtain ⟨Dl,dz,Ru,hat⟩:=L9 (o:={ dst:=none,op := .store 3 (.tmp 15) (.tmp 14),type:=0,pos := "",after := #[],guard:=none }) (v := .int .i64 ((cj 0 s)[i]+n)) rfl m15 D2 uu I4 LZ.1 m14 rfl;refine eT rfl rfl zr dz ?_;have R6:=R5.nO xP (.cells Dl 3 (0,0));have Z8:=hK.set (j:=i) (k:=0) O5 (by rw [ES];simp [AV.cells]) (x := .int .i64 ((cj 0 s)[i]+n)) (u := .int .i64 ((cj 0 s)[i]+n)) (λx hx=>by simp at hx;subst hx;exact ⟨rfl,rfl,λc hc=>by simp [AV.cells] at hc;subst hc;rfl⟩) (by rw [ES]<;>rfl) hv xP Ru (λm=>by rw [hat m,ae4,Nat.add_zero]<;>rfl);rw [ints_set] at Z8
  have pW:(cj 0 s).set i ((cj 0 s)[i]+n)=j7 s i n:=by rw[j7,CH]
  rw[pW]at Z8;obtain⟨g',R7,q1,q2,q3⟩:=KO.done Z8 R6 (t:=6) zd (by simp[au,s6]);exact⟨g',_,_,R7,⟨q1,q2,q3⟩,by simp[au,s3],by simp[au]<;>rfl⟩
 .rintro o S H ⟨hp,s3,s6⟩;exact⟨hp.bx,hp,s3,s6⟩
 clear s0 s2 s3 s6 S1 H1 hK hKb;rintro o S1 H1 ⟨hp,s3,s6⟩;refine pV hG c64.qb.qb.qb.qa (λd _=>hp.bx d) (λS H=>S 5=.bool (qk s aw i n)) ?_ ?_
 .simp[c64,ah.qa,ah.qb,s3,s6,br,av,ai];refine oc I2 ?_;simp[s3,s6,br,av,ai];exact qO
 .intro S H s5;refine SW.ret ⟨ep.plain hp.ds,hp.c,_,?_,rfl⟩;show cM prog 23 [.tmp 5] S H=_;simp[cM,dc,de,s5,AV.cg,AV.out]
def lr(e:List UInt8):AV:=.iface 133 (.agg [.str e])
def Ly(hG:ar GI)(s:List UInt8):AC prog GI 90 [.bool true,.str s] (.ret (.dR [])):=by
 refine cw hG func90 ntmps90 c90 ?_;simp[c90]
def CK(hG:ar GI)(s:List UInt8):AC prog GI 90 [.bool false,.str s] (.panic (lr s)):=by
 refine cw hG func90 ntmps90 c90 ?_;simp[c90,bI,lr,bp,ba,jN]
def wM(w:List UInt8):Bool:=iO w&&decide (w.length<=2)
def vR{w:List UInt8}:wM w=true↔w≠[]/\w.length<=2/\(∀c∈w,digit c)/\aW (dp w)=w:=by
 unfold wM;rw[adk,mY,adr]
 constructor
 .rintro⟨⟨h1,h2,h3,h4⟩,h5⟩;exact⟨h1,h5,h3,h4⟩
 .rintro⟨h1,h2,h3,h4⟩;exact⟨⟨h1,zo,h3,h4⟩,h2⟩
def zw:∀(w:List UInt8),(∀c∈w,digit c)->w.length<=2->0<=dp w/\dp w<100
 |[],_,_=>by simp[dp]
 |[a],h,_=>by have:=h a ahi;unfold digit at this;simp[dp];omega
 |[a,b],h,_=>by have h1:=h a ahi;have h2:=h b ahi;unfold digit at h1 h2;simp[dp];omega
def eJ(w:List UInt8):Except (List UInt8) Int:=if wM w then .ok (dp w)else .error w
def t_:Except (List UInt8) Int->iJ
 |.ok n=>.ret (.int .i64 n)
 |.error e=>.panic (lr e)
def ZJ(i:Nat)(hi:i<100):AC prog GI 79 [.int .i64 (i:Nat)] (.ret (.str (uH 20 i))):=by
 intro w old bP hG hl hr;obtain⟨v,rfl⟩:=Ud hl rfl;have e1:=(hr 0 ahi ahi).int_eq;simp only[List.getElem_toArray,List.getElem_cons_zero]at e1;subst e1;refine(Tryz.strconv_Itoa_small i hi w).mono ?_;rintro e w' ⟨rfl,rfl⟩;refine⟨aej _ _,λ_=>0,λ_ _=>rfl,_,rfl,.data _ _ ?_,trivial⟩;rw[C' 20 i zo zo];exact .str _
def Df{n:Int}(h0:0<=n)(h1:n<100):AC prog GI 79 [.int .i64 n] (.ret (.str (aW n))):=by
 have:=ZJ (GI:=GI) n.toNat zo;rw[ahm h0]at this;exact this
noncomputable def rM:ah:=ah.qb c91.qb.qb.qa.qb.qb
noncomputable def vc:ah:=ah.qb c91.qb.qb
def FP(hG:ar GI)(wd:List UInt8)(u_:wd.length<1000000):AC prog GI 91 [.str wd] (t_ (eJ wd)):=by
 refine AC.jF func91 rfl ntmps91 ahi λcc w=>?_
 have bW:∀k d,¬(oK cc w k).bx d:=λ_ _ h=>h
 refine dX hG c91.qa (λS' H'=>S' 0=.str wd) ?_ ?_
 .simp[c91,ah.qa]
 rintro S1 H1 s0;refine dX hG c91.qb.qa (λS' H'=>S' 0=.str wd/\S' 3=.int .i64 0) ?_ ?_
 .simp[c91,ah.qa,ah.qb,s0]
 rintro S2 H2 ⟨s0,s3⟩;show SW prog GI 41 none (.seq (.seq _ (.block 0 (.loop _))) (.seq _ (.seq _ .ret))) _ _ _ _
 obtain⟨sb,qO⟩:∃sb:ByteArray,sb=⟨wd.toArray⟩:=⟨_,rfl⟩
 have C6:wM wd=false->eJ wd=.error wd:=λh=>by unfold eJ;rw[h]<;>rfl
 refine SW.seq (SW.seq (SW.mid hG (p:=1) (oh:={ dst:=some 7,op := .range 9 (.tmp 6),type:=0,pos := "text.go:97",after:=_,guard:=none }) (kj:=[_]) (nk:=[]) (l2:=[]) rfl rfl rfl rfl zk rfl (λ_ h=>h) (n9:=(c91.qb.qb.qa.qa.dl).take 1) (np:=[]) zk rfl zk rfl
  (K1:=λS' H'=>S' 6=.str wd/\S' 3=.int .i64 0/\S' 0=.str wd)
  (K2:=λo S' H'=>∃k b,o=oK cc w k/\k b=some (.stringIter sb 0)/\S' 7=.val (.pointer (some ⟨b,0,none⟩))/\S' 3=.int .i64 0/\S' 0=.str wd)
  (K3:=λo S' H'=>∃k b,o=oK cc w k/\k b=some (.stringIter sb 0)/\S' 7=.val (.pointer (some ⟨b,0,none⟩))/\S' 3=.int .i64 0/\S' 0=.str wd) ?_ ?_ ?_ ?_))
 .simp[c91,ah.qa,ah.qb,ah.dl,s0,s3]
 .rintro w0 g S8 H8 a w8 ho R ⟨s6,s3,s0⟩;have t6:=R.slot 6 zd (λh=>h);rw[s6]at t6
  have t6:a.eval (.tmp 6)=.string sb:=by rw[qO];exact oR t6
  have fq:prog.underlying 9=some .string:=zk
  have R2:=R.nx (.stringIter sb 0);refine⟨_,_,_,au S8 7 (.val (.pointer (some ⟨w8.heap.size,0,none⟩))),H8,.inl (BA rfl fq t6),R2.put 7 _ _ zd (.data _ _ (.val _ rfl)) trivial,au g.old.aV w8.heap.size (some (.stringIter sb 0)),w8.heap.size,?_,aO _ _ _,by simp[au],by simp[au,s3],by simp[au,s0]⟩;show({ g.old with aV:=au g.old.aV w8.heap.size _ }:Old)=_
  rw[ho]<;>rfl
 .rintro o S8 H8 ⟨k,b,rfl,h⟩;exact⟨bW _,k,b,rfl,h⟩
 rintro o S8 H8 ⟨k,b,rfl,zX,s7,s3,s0⟩
 refine SW.block (SW.Uw (λo S' H'=>∃k b pos,o=oK cc w k/\k b=some (.stringIter sb pos)/\pos<=wd.length/\(∀c∈wd.take pos,digit c)/\(0<pos->wd.length<=2)/\S' 7=.val (.pointer (some ⟨b,0,none⟩))/\S' 3=.int .i64 (dp (wd.take pos))/\S' 0=.str wd)
  (λo S' _=>match S' 7 with|.val (.pointer (some a))=>(match o.aV a.block with|some (.stringIter _ p)=>wd.length-p|_=>0)|_=>0) ⟨k,b,0,rfl,zX,ad_ _,ahi,ahi,s7,s3,s0⟩ ?_)
 rintro o S9 H9 ⟨k,b,pos,rfl,zX,iK,Gy,wi,s7,s3,s0⟩;have m7:=s7
 have SQ:∀(S:an)(k:Nat->Option Obj) p,S 7=.val (.pointer (some ⟨b,0,none⟩))->k b=some (.stringIter sb p)->(match S 7 with|.val (.pointer (some a))=>(match(oK cc w k).aV a.block with|some (.stringIter _ p)=>wd.length-p|_=>0)|_=>0)=wd.length-p:=by
  intro S k p h1 h2;rw[h1];show(match k b with|some (.stringIter _ p)=>wd.length-p|_=>0)=_;rw[h2]
 have bj:sb.size=wd.length:=by rw[qO]<;>rfl
 have Wi:=Ly (GI:=GI) hG wd;have CQ:=CK (GI:=GI) hG wd
 have e8:∀n H,fz H (.int .i64 n)=.int .i64 n:=λn H=>rfl
 have e9:∀H,fz H (.str wd)=.str wd:=λH=>rfl
 have jr:∀b H,fz H (.bool b)=.bool b:=λb H=>rfl
 show SW prog GI 41 none (.seq _ (.seq (.cond _ _ _) (.block 1 (.seq _ (.seq _ _))))) _ _ _ _
 by_cases hp:pos<wd.length
 case neg=>
  refine SW.seq (SW.mid hG (p:=0) (oh:={ dst:=some 8,op := .next (.tmp 7) true,type:=0,pos := "text.go:97",after := #[],guard:=none }) (kj:=[]) (nk:=[_]) (l2:=[1]) rfl rfl rfl rfl zk rfl (bW _) (n9:=[]) (np:=(rM.qa.dl).drop 1) rfl zk rfl zk
   (K1:=λS' H'=>S' 7=.val (.pointer (some ⟨b,0,none⟩))/\S' 3=.int .i64 (dp wd)/\S' 0=.str wd)
   (K2:=λo S' H'=>o=oK cc w k/\S' 8=.dR [.bool false]/\S' 3=.int .i64 (dp wd)/\S' 0=.str wd)
   (K3:=λo S' H'=>o=oK cc w k/\S' 9=.bool false/\S' 3=.int .i64 (dp wd)/\S' 0=.str wd) ?_ ?_ ?_ ?_)
  .have:pos=wd.length:=zo
   subst this;rw[aeB]at s3;exact⟨s7,s3,s0⟩
  .rintro w0 g tt xh a Pw ho R ⟨s7,s3,s0⟩;have t7:=R.slot 7 zd (λh=>h);rw[s7]at t7;have t7:a.eval (.tmp 7)=.pointer (some ⟨b,0,none⟩):=t7.jo
   have hk:g.old.aV b=some (.stringIter sb pos):=by rw[ho];exact zX
   have hb:=(R.kept b _ hk).2.1;refine⟨_,_,_,au tt 8 (.dR [.bool false]),xh,.inl (uO rfl t7 hb zo),R.put 8 _ _ zd (.data _ _ (.dR _ _ rfl λi h h'=>?_)) trivial,ho,aO _ _ _,by simp[au,s3],by simp[au,s0]⟩
   match i,h with
   |0,_=>exact .bool _
  .rintro o tt xh ⟨rfl,s8,s3,s0⟩;refine⟨bW _,?_⟩;simp[c91,rM,ah.qa,ah.qb,ah.dl,bp,aF,ba,aD,ev,aP.S,aP.H,au,aX,s3,s0,s8,AV.aJ]
  rintro o tt xh ⟨rfl,s9,s3,s0⟩;refine SW.seq (SW.cond rfl false (by show tt 9=_;rw[s9]) (SW.exit ?_));show SW prog GI 41 none (.seq _ _) _ _ _ _
  have vv:pos=wd.length:=zo
  have FK:∀c∈wd,digit c:=by rw[vv,aeB]at Gy;exact Gy
  by_cases cP:wd=[]
  .have mL:wM wd=false:=by rw[cP]<;>rfl
   rw[C6 mL]
   have yA:(wd !=[])=false:=by simpa using cP
   refine SW.seq (SW.fN hG db zk (λd _=>bW _ d) (ac:=ah.qa vc) zk ?_);unfold eW.bD;simp[c91,vc,ah.qa,ah.qb,bD,bp,aF,ba,aD,aN,dk,ev,aP.S,aP.H,au,aX,s3,s0,AV.aJ,dS,yA,e8,e9,jr,bw];refine oc CQ ?_;simp[eN,thenS,mG,oa,t_,lr];exact⟨rfl,rfl⟩
  have B4:wd.length<=2:=wi (by rw[vv];exact aew.2 cP);have hs:=zw wd FK B4;have EF:=Df (GI:=GI) hs.1 hs.2
  have yA:(wd !=[])=true:=by simpa using cP
  by_cases Hc:aW (dp wd)=wd
  case neg=>
   have mL:wM wd=false:=by
    rw[af7];intro h;exact Hc (vR.1 h).2.2.2
   rw[C6 mL]
   have Xq:(aW (dp wd)==wd)=false:=by simpa using Hc
   refine SW.seq (SW.fN hG db zk (λd _=>bW _ d) (ac:=ah.qa vc) zk ?_);unfold eW.bD;simp[c91,vc,ah.qa,ah.qb,bD,bp,aF,ba,aD,aN,dk,ev,aP.S,aP.H,au,aX,s3,s0,AV.aJ,dS,yA,e8,bw];refine oc EF ?_;simp[eN,au,AV.aJ,s3,s0,dS,e9,jr,Xq];refine oc CQ ?_;simp[eN,thenS,mG,oa,t_,lr];exact⟨rfl,rfl⟩
  have XU:wM wd=true:=vR.2 ⟨cP,B4,FK,Hc⟩
  have kl:eJ wd=.ok (dp wd):=by unfold eJ;rw[XU]<;>rfl
  rw[kl];rw[Hc]at EF;refine pV hG vc.qa (λd _=>bW _ d) (λS' H'=>S' 3=.int .i64 (dp wd)) ?_ ?_
  .simp[c91,vc,ah.qa,ah.qb,bD,bp,aF,ba,aD,aN,ev,aP.S,aP.H,au,aX,s3,s0,AV.aJ,dS,yA,e8];refine oc EF ?_;simp[eN,au,AV.aJ,s3,s0,dS,e9,jr];refine oc Wi ?_;simp[eN,au,AV.aJ,s3,s0]
  rintro S11 H11 s3;show SW prog GI 41 none (.seq _ .ret) _ _ _ _;refine pV hG vc.qb.qa (λd _=>bW _ d) (λS' H'=>S' 2=.int .i64 (dp wd)) ?_ ?_
  .simp[c91,vc,ah.qa,ah.qb,s3]
  rintro S12 H12 s2;refine SW.ret ⟨ep.plain rfl,rfl,_,?_,rfl⟩;show cM prog 41 [.tmp 2] S12 H12=_;simp[cM,dc,de,s2,AV.cg,AV.out]
 case pos=>
  obtain⟨c,hc⟩:∃c,wd[pos]=c:=⟨_,rfl⟩
  obtain⟨r,hr⟩:∃r:Nat,(Utf8.decode sb pos).1=r:=⟨_,rfl⟩
  obtain⟨p',vl⟩:∃p':Nat,pos+(Utf8.decode sb pos).2=p':=⟨_,rfl⟩
  have CR:sb[pos]' zo=c:=by subst qO;rw[<-hc]<;>rfl
  refine SW.seq (SW.mid hG (p:=0) (oh:={ dst:=some 8,op := .next (.tmp 7) true,type:=0,pos := "text.go:97",after := #[],guard:=none }) (kj:=[]) (nk:=[_]) (l2:=[1]) rfl rfl rfl rfl zk rfl (bW _) (n9:=[]) (np:=(rM.qa.dl).drop 1) rfl zk rfl zk
   (K1:=λS' H'=>S' 7=.val (.pointer (some ⟨b,0,none⟩))/\S' 3=.int .i64 (dp (wd.take pos))/\S' 0=.str wd)
   (K2:=λo S' H'=>o=oK cc w (au k b (some (.stringIter sb p')))/\S' 7=.val (.pointer (some ⟨b,0,none⟩))/\S' 8=.dR [.bool true,.int .i64 pos,.int .i32 r]/\S' 3=.int .i64 (dp (wd.take pos))/\S' 0=.str wd)
   (K3:=λo S' H'=>o=oK cc w (au k b (some (.stringIter sb p')))/\S' 7=.val (.pointer (some ⟨b,0,none⟩))/\S' 9=.bool true/\S' 8=.dR [.bool true,.int .i64 pos,.int .i32 r]/\S' 3=.int .i64 (dp (wd.take pos))/\S' 0=.str wd) ⟨s7,s3,s0⟩ ?_ ?_ ?_)
  .rintro w0 g tt xh a Pw ho R ⟨s7,s3,s0⟩;have t7:=R.slot 7 zd (λh=>h);rw[s7]at t7;have t7:a.eval (.tmp 7)=.pointer (some ⟨b,0,none⟩):=t7.jo
   have hk:g.old.aV b=some (.stringIter sb pos):=by rw[ho];exact zX
   have hb:=(R.kept b _ hk).2.1;refine⟨_,_,_,au tt 8 (.dR [.bool true,.int .i64 pos,.int .i32 r]),xh,.inl (DR rfl t7 hb zo hr vl),(R.nO hk _).put 8 _ _ zd (.data _ _ (.dR _ _ rfl λi h h'=>?_)) trivial,?_,by simp[au,s7],aO _ _ _,by simp[au,s3],by simp[au,s0]⟩
   .match i,h with
    |0,_=>exact .bool _
    |1,_=>exact .int _ _
    |2,_=>exact .int _ _
   .show({ g.old with aV:=au g.old.aV b _ }:Old)=_
    rw[ho]<;>rfl
  .rintro o tt xh ⟨rfl,s7,s8,s3,s0⟩;refine⟨bW _,?_⟩;simp[c91,rM,ah.qa,ah.qb,ah.dl,bp,aF,ba,aD,ev,aP.S,aP.H,au,aX,s3,s0,s7,s8,AV.aJ]
  rintro o tt xh ⟨rfl,s7,s9,s8,s3,s0⟩;refine SW.seq (SW.cond rfl true (by show tt 9=_;rw[s9]) (SW.skip ?_));show SW prog GI 41 none (.block 1 (.seq _ (.seq _ _))) _ _ _ _
  by_cases vd:digit c/\wd.length<=2
  case neg=>
   have mL:wM wd=false:=by
    rw[af7];intro h;obtain⟨_,h2,h3,_⟩:=vR.1 h;exact vd ⟨h3 c (hc▸adi hp),h2⟩
   rw[C6 mL]
   have Xn:¬(48<=(r:Int)/\(r:Int)<=57/\(wd.length:Int)<=2):=by
    rintro⟨g1,g2,g3⟩;refine vd ⟨?_,zo⟩;have:=wV (s:=sb) (pos:=pos) zo (by rw[hr];omega);rw[hr]at this
    have Sy:c.toNat=r:=by rw[<-CR];exact this.symm
    unfold digit;omega
   refine SW.block (SW.fN hG db zk (λd _=>bW _ d) (ac:=ah.qb rM.qb.qb) zk ?_);unfold eW.bD
   by_cases g1:(48:Int)<=r
   .by_cases g2:(r:Int)<=57
    .have g3:¬(wd.length:Int)<=2:=λg3=>Xn ⟨g1,g2,g3⟩
     simp[c91,rM,ah.qa,ah.qb,bD,bp,aF,ba,aD,dk,ev,aP.S,aP.H,au,aX,s3,s0,s7,s8,AV.aJ,dS,g1,g2,g3,e9,jr,bw];refine oc CQ ?_;simp[eN,thenS,mG,oa,t_,lr];exact⟨rfl,rfl⟩
    .simp[c91,rM,ah.qa,ah.qb,bD,bp,aF,ba,aD,dk,ev,aP.S,aP.H,au,aX,s3,s0,s7,s8,AV.aJ,dS,g1,g2,e9,jr,bw];refine oc CQ ?_;simp[eN,thenS,mG,oa,t_,lr];exact⟨rfl,rfl⟩
   .simp[c91,rM,ah.qa,ah.qb,bD,bp,aF,ba,aD,dk,ev,aP.S,aP.H,au,aX,s3,s0,s7,s8,AV.aJ,dS,g1,e9,jr,bw];refine oc CQ ?_;simp[eN,thenS,mG,oa,t_,lr];exact⟨rfl,rfl⟩
  obtain⟨RY,B4⟩:=vd;have Uu:=RY;unfold digit at Uu;have Lw:=ahy sb pos zo (by rw[CR];omega)
  have ZN:r=c.toNat:=by rw[<-hr,Lw,CR]
  have BW:p'=pos+1:=by rw[<-vl,Lw]
  subst ZN;subst BW
  have Rm:∀x∈wd.take (pos+1),digit x:=by
   rw[adp hp,hc];intro x hx;rcases adm.1 hx with hx|hx
   .exact Gy x hx
   .rw[adJ]at hx;rw[hx];exact RY
  have qn:wd.take (pos+1)=wd.take pos++[c]:=by rw[adp hp,hc]
  have acn:=uI (wd.take pos) Gy (by simp;omega);refine SW.block (SW.mono (Q:=λe o S' H'=>e=.normal/\o=oK cc w (au k b (some (.stringIter sb (pos+1))))/\S' 7=.val (.pointer (some ⟨b,0,none⟩))/\S' 3=.int .i64 (dp (wd.take (pos+1)))/\S' 0=.str wd) ?_ (SW.fN hG db zk (λd _=>bW _ d) (ac:=ah.qb rM.qb.qb) zk ?_))
  .rintro e o S' H' ⟨rfl,rfl,s7,s3,s0⟩;refine⟨⟨au k b (some (.stringIter sb (pos+1))),b,pos+1,rfl,aO _ _ _,hp,Rm,λ_=>B4,s7,s3,s0⟩,?_⟩;show(match S' 7 with|.val (.pointer (some a))=>(match(oK cc w (au k b (some (.stringIter sb (pos+1))))).aV a.block with|some (.stringIter _ p)=>wd.length-p|_=>0)|_=>0)<_;rw[SQ S' _ (pos+1) s7 (aO _ _ _),SQ S9 k pos m7 zX];omega
  .unfold eW.bD
   have g1:(48:Int)<=c.toNat:=zo
   have g2:(c.toNat:Int)<=57:=zo
   have g3:(wd.length:Int)<=2:=zo
   have w1:IntKind.i64.wrap (10*dp (wd.take pos))=10*dp (wd.take pos):=aT zo;have w2:IntKind.i32.wrap ((c.toNat:Int)-48)=(c.toNat:Int)-48:=wrap32 zo;have w3:IntKind.i64.wrap ((c.toNat:Int)-48)=(c.toNat:Int)-48:=aT zo
   have w4:IntKind.i64.wrap (10*dp (wd.take pos)+((c.toNat:Int)-48))=dp (wd.take (pos+1)):=by rw[qn,El,aT zo]
   simp[c91,rM,ah.qa,ah.qb,bD,bp,aF,ba,aD,dk,ev,aP.S,aP.H,au,aX,s3,s0,s7,s8,AV.aJ,dS,g1,g2,g3,e9,jr,bw];refine oc Wi ?_;simp[eN,au,AV.aJ,s3,s0,s7,dS,w1,w2,w3,w4,bw]
end Go.Proofs.Tryz
namespace Go.Proofs.Tryz
open Go Go.AL Go.RowKit Go.Proofs Go.Proofs.Tram
variable{GI:World->Prop}
def Af{s:az}(h:iL s):gh s s.cells.length=false:=by
 have:=h.pos;unfold gh
 have:¬s.cells.length<s.pos.toNat:=zo
 simp[this]
def MK{s:az}(h:iL s)(es:List End):∀x∈bZ s es,0<x:=by
 intro x hx;obtain⟨i,hi,rfl⟩:=adF.1 hx;have hi:=adQ.1 hi;have hw:=(mU h.name (adi hi)).Br;have hp:=h.eX;have ht:=h.dQ;unfold zM;rw[kI hi];have a1:1*1<=s.eX*(s.name.words[i].aU.length:Int):=aec zo zo zo zo;have a3:0<=s.dQ*(ph es i s.name.words[i].aU.length:Int):=ad8 zo zo;omega
def Ml{aw:List Int}(hp:∀x∈aw,0<x){cm:Nat->Int}{vs:List (Nat×Nat)}{v:Nat×Nat}(hv:v∈vs)(h:aw.sum<=mu cm v.1 (v.2+1)):fX aw cm vs=aw.length:=by
 obtain⟨a,b,rfl⟩:=List.append_of_mem hv
 have key:∀(b:List (Nat×Nat))(n:Nat),n=aw.length->b.foldl (λn v=>n+(eh (aw.drop n) (mu cm v.1 (v.2+1))).1) n=aw.length:=by
  intro b
  induction b with
  |nil=>intro n hn;exact hn
  |cons y b ih=>
   intro n hn;rw[List.foldl_cons];refine ih _ ?_;rw[hn,agQ];simp[eh]
 have e:fX aw cm (a++v::b)=b.foldl (λn v=>n+(eh (aw.drop n) (mu cm v.1 (v.2+1))).1) (fX aw cm a+(eh (aw.drop (fX aw cm a)) (mu cm v.1 (v.2+1))).1):=by
  unfold fX;rw[aem,List.foldl_cons]
 rw[e];refine key b _ ?_;have hle:=Ax aw cm a
 obtain⟨n,hn⟩:∃n,fX aw cm a=n:=⟨_,rfl⟩
 rw[hn]at hle⊢
 have so:∀x∈aw.drop n,0<x:=λx hx=>hp x (afM hx)
 have hs:(aw.take n).sum+(aw.drop n).sum=aw.sum:=by rw[<-aeR,aeC]
 have h0:=m_ (l:=aw.take n) λx hx=>hp x (adU hx)
 have h1:=m_ (l:=aw.drop n) so;have:=(Jz so (t:=mu cm v.1 (v.2+1)) zo).2 zo;rw[this,ad0];omega
def z_{s:az}(h:iL s)(i n:Nat):∀j,0<=jR (j7 s i n) j:=λj=>by
 unfold jR j7;rw[aef,agF];have hb:=(vm h 0).2
 have hg:∀k,0<=(cj 0 s).getD k 0:=λk=>by
  rw[aef]
  cases hk:(cj 0 s)[k]? with
  |none=>exact afb 0
  |some x=>exact(hb x (aer hk)).1
 split
 .split
  .have:=hg i;simp only[Option.getD_some];omega
  .exact afb 0
 .have:=hg j;rwa [aef]at this
def Fg(l:List Int)(i j:Nat)(x:Int):(l.set i x).getD j 0=if i=j then(if i<l.length then x else 0)else l.getD j 0:=by
 rw[aef,agF];split
 .split<;>rfl
 .rw[aef]
def K9(s:az)(i:Nat){m n:Nat}(hmn:m<=n)(j:Nat):jR (j7 s i m) j<=jR (j7 s i n) j:=by
 unfold jR j7;rw[Fg,Fg];split
 .split
  .omega
  .exact afb _
 .exact afb _
def NG{s:az}(h:iL s){aw:List Int}(hp:∀x∈aw,0<x)(i:Nat):∀x y,x<=y->qk s aw i x=true->qk s aw i y=true:=by
 intro x y hxy hx;unfold qk at hx⊢;rw[adr]at hx⊢;have h1:=Nx (na:=aw) (nb:=aw) rfl (λ_ _ _=>afb _) hp (z_ h i x) (z_ h i y) (Af h) (Af h) (λj _ hs=>⟨hs,K9 s i hxy j⟩);have h2:=Ax aw (jR (j7 s i y)) (gq (gh s) s.cells.length);unfold Aw at hx⊢;omega
def M8{s:az}(h:iL s){f t m:Nat}(hf:f<=t)(ht:t<s.cells.length):(m:Int)<=mu (jR (j7 s f m)) f (t+1):=by
 have hl:(cj 0 s).length=s.cells.length:=by simp[cj]
 have h0:(m:Int)<=jR (j7 s f m) f:=by
  unfold jR j7;rw[aef,agF,if_pos rfl,if_pos zo,Option.getD_some];have:=(vm h 0).2 _ (adi (show f<(cj 0 s).length by omega));rw[aef,adh zo,Option.getD_some];omega
 have key:∀d,(m:Int)<=mu (jR (j7 s f m)) f (f+d+1):=by
  intro d
  induction d with
  |zero=>
   rw[Nat.add_zero,yb _ (adl f),CO];omega
  |succ d ih=>
   rw[show f+(d+1)+1=(f+d+1)+1 by omega,yb _ zo];have:=z_ h f m (f+d+1);omega
 have:=key (t-f);rwa [show f+(t-f)+1=t+1 by omega]at this
def M6{s:az}(h:iL s){aw:List Int}(hp:∀x∈aw,0<x)(hv:(eG s).isEmpty=false):∃c,c<s.cells.length/\qk s aw c aw.sum.toNat=true:=by
 cases xy:gq (gh s) s.cells.length with
 |nil=>simp[eG,xy]at hv
 |cons v l=>
  have bX:=(Gf (Af h)).1 v (by rw[xy];simp);refine⟨v.1,zo,?_⟩;unfold qk Aw;rw[adr];have h0:=m_ hp;exact Ml (v:=v) hp (by rw[xy];simp) (by have:=M8 h (m:=aw.sum.toNat) bX.1 bX.2;omega)
def G7(p:Nat->Bool)(k:Nat):Nat:=((List.range k).find? p).getD k
def Ee(p:Nat->Bool)(k:Nat):qp p k (G7 p k):=by
 unfold G7
 cases hf:(List.range k).find? p with
 |none=>
  refine⟨adl _,λx hx=>?_,λh=>absurd h ahi⟩;have:=afY.1 hf x (adQ.2 (by simpa using hx));simpa using this
 |some r=>
  obtain⟨h1,pa,pb,h2,h3⟩:=List.find?_eq_some_iff_append.1 hf;have hr:r<k:=adQ.1 (agI hf);refine⟨by simp;omega,λx hx=>?_,λ_=>h1⟩;simp only[Option.getD_some]at hx
  have mC:x∈pa++r::pb:=by rw[<-h2];exact adQ.2 zo
  rcases adm.1 mC with h|h
  .have:=h3 x h;simpa using this
  .exfalso
   have Yn:(pa++r::pb).Pairwise (·<·):=by rw[<-h2];exact ag4
   have Yn:=(afN.1 Yn).2.1;rcases adT.1 h with h|h
   .omega
   .have:=(afW.1 Yn).1 x h;omega
def iN(s:az)(aw:List Int)(i:Nat):Nat:=G7 (qk s aw i) (aw.sum.toNat+1)
def ON(s:az)(aw:List Int):Option (Nat×Nat):=match gD (iN s aw) aw.sum.toNat s.cells.length with
 |x::l=>some (rY x l)
 |[]=>none
def x_(s:az):List AV:=
 if dn s then(match j9 s.name with
  |some es=>if(eG s).isEmpty then[.int .i64 0,.int .i64 0,.int .i64 5]else(match ON s (bZ s es)with|some q=>[.int .i64 (q.1:Nat),.int .i64 (q.2:Nat),.int .i64 0]|none=>[])
  |none=>[.int .i64 0,.int .i64 0,.int .i64 7])else[.int .i64 0,.int .i64 0,.int .i64 2]
def yy:∀(l:List (Nat×Nat))(x:Nat×Nat),lQ (dI x) (l.map dI)=dI (rY x l)
 |[],_=>rfl
 |y::l,x=>by
  have e1:lQ (dI x) ((y::l).map dI)=lQ (if(dI y).2<(dI x).2 then dI y else dI x) (l.map dI):=rfl;have e2:rY x (y::l)=rY (if y.2<x.2 then y else x) l:=rfl;rw[e1,e2,<-yy l]
  congr 1
  by_cases h:y.2<x.2
  .rw[if_pos h,if_pos (by show(y.2:Int)<(x.2:Int);omega)]
  .rw[if_neg h,if_neg (by show¬(y.2:Int)<(x.2:Int);omega)]
def C2:∀{l:List Int}{b:Int},(∀x∈l,x<=b)->0<=b->l.sum<=l.length*b
 |[],_,_,_=>ahi
 |x::l,b,h,hb=>by
  have h1:=h x ahi;have h2:=C2 (l:=l) (λy hy=>h y (by simp[hy])) hb;simp only[List.sum_cons,List.length_cons]
  have:((l.length+1:Nat):Int)*b=l.length*b+b:=by rw[Int.natCast_add,agx];simp
  omega
section
variable{w0:World}{n:Nat}{g:Gh}{S:an}{H:ao}{a:Act}{w:World}{d i1 i4 i5:Nat}{t u e:List UInt8}{z x:List AV}{y:AV}
def Ll(R:Rel prog w0 n bL g S H a w){i:Nat}(hi:i<n)(hS:S i=.box i 0)(hH:H i=some [.str t]):∃b,a.tmps.getD i undef=.pointer (some ⟨b,0,none⟩)/\w.cell? ⟨b,0,none⟩=some (.string ⟨t.toArray⟩):=by
 obtain⟨b,al,e⟩:=nc R hi hS;obtain⟨cs,vs,ty,k0,k1,k2,k3,k4,k5,k6,k7,k8⟩:=R.box i b al;rw[hH]at k0;cases k0
 have h0:0<vs.size:=by rw[<-k5];exact agY
 have hv:=oR (RV.data (al:=cQ) _ _ (k6 0 ahi h0));exact⟨b,e,by simp[World.cell?,k2,h0,hv]⟩
def TJ (hG:ar GI) (cq:GI w0) (R:Rel prog w0 n bL g S H a w) (hd:d < n) (Eg:i1 < n) (Ej:i4 < n) (NI:i5 < n) (Nk:d≠i4) (QE:d≠i5) (Re:i4≠i5)
  (Eh:S i1=.box i1 0) (Di:H i1=some [.str t]) (Az:S i4=.box i4 0) (EI:H i4=some z) (B2:S i5=.box i5 0) (Gq:H i5=some [y]) (hz:z.length=15) (hx:x.length=15) (tY:AC prog GI 42 [.str t] (.ret (.dR [.agg x,.str u]))):
  Calls prog 41 #[a.tmps.getD i1 undef,a.tmps.getD i4 undef,a.tmps.getD i5 undef] w λe w2=>e=.returned (.tuple #[])/\∃(c:Value)(g':Gh)(S':an)(H':ao),g'.old=g.old/\Rel prog w0 n bL g' S' H' (a.put (some d) c) w2/\(∀t,t≠d->S' t=S t)/\H'=au (au H i4 (some (x.map AV.aJ))) i5 (some [.str u]):=by
 have bj:=R.size;have gj:GI w:=hG w0 w cq (by have:=R.below;rwa [R.base]at this);obtain⟨b1,e1,eV⟩:=Ll R Eg Eh Di;obtain⟨b4,al4,e4⟩:=nc R Ej Az;obtain⟨b5,Z7,e5⟩:=nc R NI B2;refine afo func41 rfl ?_;refine(fo (m:=0)).1 ?_;refine hZ (λa=>a.tmps.size=8/\a.defers=[]/\a.tmps.getD 0 undef=.pointer (some ⟨b1,0,none⟩)/\a.tmps.getD 1 undef=.pointer (some ⟨b4,0,none⟩)/\a.tmps.getD 2 undef=.pointer (some ⟨b5,0,none⟩)) ⟨by simp[ntmps41],rfl,(cH _ _ 0 ahi).trans e1,(cH _ _ 1 ahi).trans e4,(cH _ _ 2 ahi).trans e5⟩ ?_;rintro aC ⟨zC,dC,t0,t1,t2⟩;refine adP ?_;show wpOpsIn _ _ _ _ _ [0,1,2,3,4,5,6] aC w;refine bg rfl rfl zr (jV (t:=9) (d:=.string) (b:=b1) (off:=0) rfl t0 zk rfl eV) ?_;show wpOpsIn _ _ _ _ _ [1,2,3,4,5,6] (aC.put (some 4) (.string ⟨t.toArray⟩)) w
 refine gk rfl rfl zr (gn (k:=42) (args:=#[.string ⟨t.toArray⟩]) w rfl rfl ?_ zk) (tY w (fC g false) #[.string ⟨t.toArray⟩] gj rfl (λi h h'=>by
  match i,h with
  |0,_=>exact .data _ _ (.str t))) ?_
 .simp only[adV,ady,adR];show #[(aC.put (some 4) _).eval (.tmp 4)]=_;rw[ck _ _ _ _ zo,if_pos rfl]
 rintro e w2 ⟨iY,hi,qi,c,rfl,MR,cV⟩;refine⟨c,rfl,?_⟩;obtain⟨g',mL,ru,R2⟩:=R.call (some d) (λt ht=>by cases ht;exact⟨hd,id⟩) false iY qi MR cV (λh=>by cases h);have DT:=R2.slot d hd id
 have ab3:(a.put (some d) c).tmps.getD d undef=c:=by rw[i_ _ _ _ _ zo,if_pos rfl]
 rw[ab3]at DT;have V4:aX S (some d) (.dR [.agg x,.str u]) d=.dR [.agg x,.str u]:=aO _ _ _;rw[V4]at DT
 obtain⟨c0,rfl,r0⟩:∃c0,c=.tuple #[c0,.string ⟨u.toArray⟩]/\RD g'.Pr w2 (.agg x) c0:=by
  cases DT with
  |data _ _ h=>
   cases h with
   |dR cs vs hl hr=>
    have h2:vs.size=2:=by rw[<-hl]<;>rfl
    have q0:=hr 0 ahi zo;have q1:=hr 1 ahi zo;simp only[List.getElem_cons_zero,List.getElem_cons_succ]at q0 q1;have q1:=oR (RV.data (al:=cQ) _ _ q1);refine⟨vs[0],?_,q0⟩
    congr 1
    apply aeP
    .simpa using h2
    .intro i h1 h2
     match i,h2 with
     |0,_=>rfl
     |1,_=>exact q1
 have R3:=R2.put d (.agg x) c0 hd (.data _ _ r0) trivial;rw[zj]at R3;obtain⟨i31,nL,nG⟩:=iZ 31 15;obtain⟨i9,hi9,Rb⟩:=iZ 9 1
 have l8:bB z 0 (x.map AV.aJ)=x.map AV.aJ:=by simp[bB,hz,hx]
 obtain⟨S3,N1⟩:∃S3,au (aX S (some d) (.dR [.agg x,.str u])) d (.agg x)=S3:=⟨_,rfl⟩
 rw[N1]at R3
 have k3d:S3 d=.agg x:=by rw[<-N1];exact aO _ _ _
 have k3:∀t,t≠d->S3 t=S t:=λt ht=>by rw[<-N1];simp[au,aX,ht]
 have jZ:aD S3 H (.store .any i31.size (.t i4) (.t d))=some { v:=cz,dm:=some d,hw:=some (i4,x.map AV.aJ) }:=by
  simp[aD,ev,k3d,k3 i4 (ad6 Nk),Az,EI,HR.okB,AV.cells,AV.storable,AV.cy,nG,hx,hz,bw,l8]
 obtain ⟨c2,w3,g3,dz,TP,Ch,R4⟩:=mZ R3 (o:={ dst:=none,op := .store 31 (.tmp i4) (.tmp d),type:=0,pos := "",after := #[],guard:=none }) (x1 := .tmp i4) (x2 := .tmp d) (y1 := .t i4) (y2 := .t d) (hr := .any) rfl rfl nL (by simp [du,Ej]) (by simp [du,hd]) (λ_ _=>id) (λ_ _=>id) jZ;have R5:=R4.put d (.str u) (.string ⟨u.toArray⟩) hd (.data _ _ (.str u)) trivial;have R5:Rel prog w0 n bL g3 (au _ d (.str u)) (au H i4 (some (x.map AV.aJ))) ((a.put (some d) c0).put (some d) (.string ⟨u.toArray⟩)) w3:=R5;rw [zj] at R5
 obtain⟨S5,J5⟩:∃S5,au (aP.S { v:=cz,dm:=some d,hw:=some (i4,x.map AV.aJ) } S3 none) d (.str u)=S5:=⟨_,rfl⟩
 rw[J5]at R5
 have k5d:S5 d=.str u:=by rw[<-J5];exact aO _ _ _
 have k5:∀t,t≠d->S5 t=S t:=λt ht=>by rw[<-J5,aQ _ _ ht,<-k3 t ht];simp[aP.S,aX,au,ht]
 have abT:aD S5 (au H i4 (some (x.map AV.aJ))) (.store .any i9.size (.t i5) (.t d))=some { v:=cz,dm:=some d,hw:=some (i5,[.str u]) }:=by
  simp[aD,ev,k5d,k5 i5 (ad6 QE),B2,Gq,au,ad6 Re,HR.okB,AV.cells,AV.storable,AV.cy,Rb,bB,bw,AV.aJ]
 obtain ⟨c3,w4,g4,SK,acV,aaF,R6⟩:=mZ R5 (o:={ dst:=none,op := .store 9 (.tmp i5) (.tmp d),type:=0,pos := "",after := #[],guard:=none }) (x1 := .tmp i5) (x2 := .tmp d) (y1 := .t i5) (y2 := .t d) (hr := .any) rfl rfl hi9 (by simp [du,NI]) (by simp [du,hd]) (λ_ _=>id) (λ_ _=>id) abT;show wpOpsIn _ _ _ _ _ [2,3,4,5,6] ((aC.put (some 4) (.string ⟨t.toArray⟩)).put (some 5) (.tuple #[c0,.string ⟨u.toArray⟩])) w2
 obtain⟨A,hA,zA,dA,q1,q2,q5⟩:∃A,(aC.put (some 4) (.string ⟨t.toArray⟩)).put (some 5) (.tuple #[c0,.string ⟨u.toArray⟩])=A/\A.tmps.size=8/\A.defers=[]/\A.eval (.tmp 1)=.pointer (some ⟨b4,0,none⟩)/\A.eval (.tmp 2)=.pointer (some ⟨b5,0,none⟩)/\A.eval (.tmp 5)=.tuple #[c0,.string ⟨u.toArray⟩]:=by
  have T2:(aC.put (some 4) (.string ⟨t.toArray⟩)).tmps.size=8:=by rw[lX];exact zC
  refine⟨_,rfl,by rw[lX];exact T2,dC,?_,?_,?_⟩
  .rw[ck _ _ _ _ zo,if_neg zd,ck _ _ _ _ zo,if_neg zd];exact t1
  .rw[ck _ _ _ _ zo,if_neg zd,ck _ _ _ _ zo,if_neg zd];exact t2
  .rw[ck _ _ _ _ zo,if_pos rfl]
 rw[hA]
 have v5:(execOp A.eval { dst:=some 3,op := .move (.tmp 5),type:=72,pos := "",after := #[],guard:=none }).run prog w2 = .ok (.value (.tuple #[c0,.string ⟨u.toArray⟩])) w2:=by unfold execOp;simp [q5]
 refine bg rfl rfl zr v5 ?_;show wpOpsIn _ _ _ _ _ [3,4,5,6] (A.put (some 3) (.tuple #[c0,.string ⟨u.toArray⟩])) w2
 obtain⟨B,hB⟩:∃B,A.put (some 3) (.tuple #[c0,.string ⟨u.toArray⟩])=B:=⟨_,rfl⟩
 have zB:B.tmps.size=8:=by rw[<-hB,lX];exact zA
 have dB:B.defers=[]:=by rw[<-hB];exact dA
 have p1:B.eval (.tmp 1)=.pointer (some ⟨b4,0,none⟩):=by rw[<-hB,ck _ _ _ _ zo,if_neg zd];exact q1
 have p2:B.eval (.tmp 2)=.pointer (some ⟨b5,0,none⟩):=by rw[<-hB,ck _ _ _ _ zo,if_neg zd];exact q2
 have p3:B.eval (.tmp 3)=.tuple #[c0,.string ⟨u.toArray⟩]:=by rw[<-hB,ck _ _ _ _ zo,if_pos rfl]
 rw[hB]
 have v6:(execOp B.eval { dst:=some 6,op := .extract (.tmp 3) 0,type:=31,pos := "",after := #[],guard:=none }).run prog w2 = .ok (.value c0) w2:=by unfold execOp;simp [p3,Instr.extract]
 refine bg rfl rfl zr v6 ?_;show wpOpsIn _ _ _ _ _ [4,5,6] (B.put (some 6) c0) w2
 obtain⟨C,hC⟩:∃C,B.put (some 6) c0=C:=⟨_,rfl⟩
 have zC:C.tmps.size=8:=by rw[<-hC,lX];exact zB
 have o1:C.eval (.tmp 1)=.pointer (some ⟨b4,0,none⟩):=by rw[<-hC,ck _ _ _ _ zo,if_neg zd];exact p1
 have o2:C.eval (.tmp 2)=.pointer (some ⟨b5,0,none⟩):=by rw[<-hC,ck _ _ _ _ zo,if_neg zd];exact p2
 have o3:C.eval (.tmp 3)=.tuple #[c0,.string ⟨u.toArray⟩]:=by rw[<-hC,ck _ _ _ _ zo,if_neg zd];exact p3
 have o6:C.eval (.tmp 6)=c0:=by rw[<-hC,ck _ _ _ _ zo,if_pos rfl]
 rw[hC]
 have v7:(execOp C.eval { dst:=some 7,op := .extract (.tmp 3) 1,type:=9,pos := "",after := #[],guard:=none }).run prog w2 = .ok (.value (.string ⟨u.toArray⟩)) w2:=by unfold execOp;simp [o3,Instr.extract]
 refine bg rfl rfl zr v7 ?_;show wpOpsIn _ _ _ _ _ [5,6] (C.put (some 7) (.string ⟨u.toArray⟩)) w2
 obtain⟨D,hD⟩:∃D,C.put (some 7) (.string ⟨u.toArray⟩)=D:=⟨_,rfl⟩
 have zD:D.tmps.size=8:=by rw[<-hD,lX];exact zC
 have dD:D.defers=[]:=by rw[<-hD,<-hC];exact dB
 have m1:D.eval (.tmp 1)=.pointer (some ⟨b4,0,none⟩):=by rw[<-hD,ck _ _ _ _ zo,if_neg zd];exact o1
 have m2:D.eval (.tmp 2)=.pointer (some ⟨b5,0,none⟩):=by rw[<-hD,ck _ _ _ _ zo,if_neg zd];exact o2
 have m6:D.eval (.tmp 6)=c0:=by rw[<-hD,ck _ _ _ _ zo,if_neg zd];exact o6
 have m7:D.eval (.tmp 7)=.string ⟨u.toArray⟩:=by rw[<-hD,ck _ _ _ _ zo,if_pos rfl]
 rw[hD]
 have f4:∀c,(a.put (some d) c).eval (.tmp i4)=.pointer (some ⟨b4,0,none⟩):=λc=>by rw[ck _ _ _ _ zo,if_neg (ad6 Nk)];exact e4
 have f5:∀c,(a.put (some d) c).eval (.tmp i5)=.pointer (some ⟨b5,0,none⟩):=λc=>by rw[ck _ _ _ _ zo,if_neg (ad6 QE)];exact e5
 have fd:∀c,(a.put (some d) c).eval (.tmp d)=c:=λc=>by rw[ck _ _ _ _ zo,if_pos rfl]
 have bn:∀ o:Oper,o.op = .store 31 (.tmp 1) (.tmp 6)->(execOp D.eval o).run prog w2=(execOp (a.put (some d) c0).eval { dst:=none,op := .store 31 (.tmp i4) (.tmp d),type:=0,pos := "",after := #[],guard:=none }).run prog w2:=by
  intro o ho;unfold execOp;simp only[ho,m1,m6,f4,fd]
 have kH:∀ (D':Act) (o:Oper),o.op = .store 9 (.tmp 2) (.tmp 7)->D'.tmps=D.tmps->(execOp D'.eval o).run prog w3=(execOp (a.put (some d) (.string ⟨u.toArray⟩)).eval { dst:=none,op := .store 9 (.tmp i5) (.tmp d),type:=0,pos := "",after := #[],guard:=none }).run prog w3:=by
  intro D' o ho ht
  have n2:D'.eval (.tmp 2)=.pointer (some ⟨b5,0,none⟩):=by show D'.tmps.getD 2 undef=_;rw[ht];exact m2
  have n7:D'.eval (.tmp 7)=.string ⟨u.toArray⟩:=by show D'.tmps.getD 7 undef=_;rw[ht];exact m7
  unfold execOp;simp only[ho,n2,n7,f5,fd]
 have fin:∀v1 v2:Value,((D.put none v1).put none v2).defers=[]/\∃v',(results f41 ((D.put none v1).put none v2).tmps).run prog w4=.ok v' w4/\(Ending.returned v'=.returned (.tuple #[])/\∃(c:Value)(g':Gh)(S':an)(H':ao),g'.old=g.old/\Rel prog w0 n bL g' S' H' (a.put (some d) c) w4/\(∀t,t≠d->S' t=S t)/\H'=au (au H i4 (some (x.map AV.aJ))) i5 (some [.str u])):=λv1 v2=>
  ⟨dD,.tuple #[],by simp[results,results41],rfl,_,g4,_,_,by rw[aaF];exact Ch.trans ru,R6,λt ht=>by rw[<-k5 t ht];simp[aP.S,aX,au,ht],rfl⟩
 rcases dz with hr|⟨hr,_⟩
 .refine bg rfl rfl zr ((bn _ rfl).trans hr) ?_
  rcases SK with hr|⟨hr,_⟩
  .exact bg rfl rfl zr ((kH (D.put none c2) _ rfl rfl).trans hr) (fin c2 _)
  .exact eT rfl rfl zr ((kH (D.put none c2) _ rfl rfl).trans hr) (fin c2 undef)
 .refine eT rfl rfl zr ((bn _ rfl).trans hr) ?_
  rcases SK with hr|⟨hr,_⟩
  .exact bg rfl rfl zr ((kH (D.put none undef) _ rfl rfl).trans hr) (fin undef _)
  .exact eT rfl rfl zr ((kH (D.put none undef) _ rfl rfl).trans hr) (fin undef undef)
end
def vK(l:List Int):∀x∈ints l,x.cells.length=1/\x.storable=true/\∀c∈x.cells,c.one=true:=by
 intro x hx;obtain⟨e,_,rfl⟩:=adF.1 hx;exact⟨rfl,rfl,λc hc=>by simp[AV.cells]at hc;subst hc;rfl⟩
def xV(l:List Int):∀x∈ints l,∀c∈x.cells,iG c=true:=by
 intro x hx c hc;obtain⟨e,_,rfl⟩:=adF.1 hx;simp[AV.cells]at hc;subst hc;rfl
def KP(l:List (List Int)):∀x∈l.map vI,x.cells.length=1/\x.storable=true/\∀c∈x.cells,c.one=true:=by
 intro x hx;obtain⟨e,_,rfl⟩:=adF.1 hx;exact⟨rfl,rfl,λc hc=>by simp[AV.cells,vI]at hc;subst hc;rfl⟩
structure Lv(wB:World)(Mi:Nat->Nat->Prop)(bF bN:Nat)(s:az)(cS cR fv:Value)(fs:List (List Int))(es:List Int)(w:World):Prop where
 below:Below wB.heap.size wB w
 ge:wB.heap.size<=bF/\wB.heap.size<=bN/\bF≠bN
 lt:∀b k,Mi b k->b<w.heap.size
 gF:∀k,¬Mi bF k
 gN:∀k,¬Mi bN k
 st:∃u zY xF v Dp xN,w.heap[bF]?=some (.cells #[u] zY (0,0))/\w.ownsRow (bF+1) 23 1 u fs.length xF/\jn (λb k=>Mi b k/\wB.heap.size<=b) w 1 (fs.map vI) xF/\(∀b,u.ownBlock=some b->b≠bN/\∀k,¬Mi b k)/\
  w.heap[bN]?=some (.cells #[v] Dp (0,0))/\w.ownsRow (bN+1) 3 1 v es.length xN/\jn (λ_ _=>False) w 1 (ints es) xN/\∀b,v.ownBlock=some b->b≠bF/\u.ownBlock≠some b/\∀k,¬Mi b k
 s:RV Mi cQ w (.ref (av s)) cS
 r:RV Mi cQ w (.ref [.val fv]) cR
variable{wB:World}{Mi:Nat->Nat->Prop}{bF bN:Nat}{s:az}{cS cR fv:Value}{fs:List (List Int)}{es:List Int}{w w':World}
def iX{base:Nat}{e:TypeId}{size:Nat}{v:Value}{n:Nat}{xs:List Value}(h:w.ownsRow base e size v n xs)(hk:∀b,v.ownBlock=some b->w'.heap[b]?=w.heap[b]?):w'.ownsRow base e size v n xs:=by
 refine⟨h.1,?_⟩
 rcases h.2 with h|⟨gg,cap,cur,rfl,rR,Ey,rest⟩
 .exact .inl h
 .exact .inr ⟨gg,cap,cur,rfl,rR,(hk gg rfl).trans Ey,rest⟩
def Lv.grow(st:Lv wB Mi bF bN s cS cR fv fs es w)(hb:Below w.heap.size w w'):Lv wB Mi bF bN s cS cR fv fs es w':=by
 have hk:bf Mi Mi w w':=bf.jm (λb h=>hb.block b h) λ_ _ _ h=>h
 obtain⟨u,zY,xF,v,Dp,xN,f1,f2,f3,f4,n1,n2,n3,n4⟩:=st.st;have lF:=(adj.1 f1).1;have lN:=(adj.1 n1).1
 exact⟨st.below.trans (hb.mono st.below.size),st.ge,λb k h=>ad9 (st.lt b k h) hb.size,st.gF,st.gN,
  ⟨u,zY,xF,v,Dp,xN,(hb.block _ lF).trans f1,iX f2 λb h=>hb.block _ (f2.lt b h).2,f3.mono (bf.jm (λb h=>hb.block b h) λ_ _ _ h=>h),f4,(hb.block _ lN).trans n1,iX n2 λb h=>hb.block _ (n2.lt b h).2,n3.mono (bf.of_eq λ_ _ h=>h.elim),n4⟩,
  st.s.mono hk λ_ _ h=>h,st.r.mono hk λ_ _ h=>h⟩
end Go.Proofs.Tryz
namespace Go.Proofs.Tryz
open Go Go.AL Go.RowKit Go.Proofs Go.Proofs.Tram
variable{GI:World->Prop}
def Tt:Nat->Bool:=λt=>decide (14<=t)
structure L2(a0:Act)(w:World)(u v:Value)(es:List Int)(c:Bool)(k:Nat)(a:Act)(w':World):Prop where
 size:a.tmps.size=50
 defers:a.defers=[]
 same:eE Tt a0 a
 below:Below w.heap.size w w'
 t14:c=true->a.tmps.getD 14 undef=u
 t15:1<=k->a.tmps.getD 15 undef=v
 t16:2<=k->AH w w' (ints es) (a.tmps.getD 16 undef)
 t17:3<=k->∃PX,a.tmps.getD 17 undef=.slice (some ⟨PX,0,none⟩) 1 1/\w'.heap[PX]?=some (.cells #[a.tmps.getD 16 undef] 23 (0,0))/\w.heap.size<=PX
def Cz{a0 a:Act}(h:eE Tt a0 a){d:Nat}(hd:14<=d)(c:Value):eE Tt a0 (a.put (some d) c):=h.trans (eE.put (λt ht=>by cases ht;simp[Tt,hd]) c)
section
variable{a0 a:Act}{w w':World}{u v:Value}{es:List Int}{c:Bool}{k:Nat}
def L2.load(h:L2 a0 w u v es c k a w'):L2 a0 w u v es true k (a.put (some 14) u) w':=by
 have hp:=λt (c:Value)=>i_ a 14 t c (by rw[h.size];omega)
 refine⟨by simp[Act.put,h.size],h.defers,Cz h.same zo _,h.below,λ_=>by rw[hp,if_pos rfl],λhk=>by rw[hp,if_neg zd];exact h.t15 hk,λhk=>by rw[hp,if_neg zd];exact h.t16 hk,λhk=>?_⟩;rw[hp,if_neg zd,hp,if_neg zd];exact h.t17 hk
def L2.now(h:L2 a0 w u v es c 0 a w'):L2 a0 w u v es c 1 (a.put (some 15) v) w':=by
 have hp:=λt (c:Value)=>i_ a 15 t c (by rw[h.size];omega)
 exact⟨by simp[Act.put,h.size],h.defers,Cz h.same zo _,h.below,λhc=>by rw[hp,if_neg zd];exact h.t14 hc,λ_=>by rw[hp,if_pos rfl],λhk=>zo,λhk=>zo⟩
def L2.copy(h:L2 a0 w u v es c 1 a w'){w2:World}{cl:Value}(hb:Below w'.heap.size w' w2)(hf:AH w' w2 (ints es) cl):L2 a0 w u v es c 2 (a.put (some 16) cl) w2:=by
 have hp:=λt (c:Value)=>i_ a 16 t c (by rw[h.size];omega)
 refine⟨by simp[Act.put,h.size],h.defers,Cz h.same zo _,h.below.trans (hb.mono h.below.size),λhc=>by rw[hp,if_neg zd];exact h.t14 hc,λhk=>by rw[hp,if_neg zd];exact h.t15 zo,λ_=>?_,λhk=>zo⟩;rw[hp,if_pos rfl];obtain⟨hi,hr⟩:=hf;exact⟨hi,hr.mono (bf.same λb k _ hp=>⟨⟨aeo h.below.size hp.1.1,hp.1.2⟩,hp.2⟩)⟩
def IJ(w:World)(o:Obj):Below w.heap.size w (w.alloc o):=(aej _ _).alloc (adl _) _
def L2.row(h:L2 a0 w u v es c 2 a w'):L2 a0 w u v es c 3 (a.put (some 17) (.slice (some ⟨w'.heap.size,0,none⟩) 1 1)) (w'.alloc (.cells #[a.tmps.getD 16 undef] 23)):=by
 have hp:=λt (c:Value)=>i_ a 17 t c (by rw[h.size];omega)
 have hb:=IJ w' (.cells #[a.tmps.getD 16 undef] 23);refine⟨by simp[Act.put,h.size],h.defers,Cz h.same zo _,h.below.trans (hb.mono h.below.size),λhc=>by rw[hp,if_neg zd];exact h.t14 hc,λhk=>by rw[hp,if_neg zd];exact h.t15 zo,λ_=>?_,λ_=>?_⟩
 .rw[hp,if_neg zd];exact(h.t16 zo).grow hb
 .rw[hp,if_pos rfl,hp,if_neg zd];exact⟨_,rfl,aee _ _,h.below.size⟩
end
def WO(ops:Array Oper):Bool:=decide (ops.size=6)&&
 (Region.ready .any ops #[false,false,false,false,false,false]==[0,1])&&(Region.ready .any ops #[true,false,false,false,false,false]==[1])&&(Region.ready .any ops #[false,true,false,false,false,false]==[0,2])&&
 (Region.ready .any ops #[true,true,false,false,false,false]==[2])&&(Region.ready .any ops #[false,true,true,false,false,false]==[0,3])&&(Region.ready .any ops #[true,true,true,false,false,false]==[3])&&
 (Region.ready .any ops #[false,true,true,true,false,false]==[0])&&(Region.ready .any ops #[true,true,true,true,false,false]==[4])&&(Region.ready .any ops #[true,true,true,true,true,false]==[5])&&(Region.ready .any ops #[true,true,true,true,true,true]==[])
section
variable{wB:World}{Mi:Nat->Nat->Prop}{bF bN:Nat}{s:az}{cS cR fv:Value}{fs:List (List Int)}{es:List Int}{w:World}{a:Act}{Q:Exit->Act->World->Prop}{m:Nat}
def IP (hG:ar GI) (st:Lv wB Mi bF bN s cS cR fv fs es w) (gj:GI w) (bj:a.tmps.size=50) (eI:a.defers=[]) (t3:a.tmps.getD 3 undef = .pointer (some ⟨bN,0,none⟩)) (t4:a.tmps.getD 4 undef = .pointer (some ⟨bF,0,none⟩)) (nV:es.length < 1000) (fw:fs.length < 100000)
  {id:Nat} {ops:Array Oper} {o0 o1 o2 o3 o4 o5:Oper} {ZZ VQ:Call} (h0:ops[0]?=some o0) (h1:ops[1]?=some o1) (h2:ops[2]?=some o2) (h3:ops[3]?=some o3) (h4:ops[4]?=some o4) (h5:ops[5]?=some o5)
  (q0:o0.op=.load 113 (.tmp 4)/\o0.dst=some 14/\o0.guard=none) (q1:o1.op=.load 23 (.tmp 3)/\o1.dst=some 15/\o1.guard=none) (q2:o2.op=.call ZZ/\o2.dst=some 16/\o2.guard=none) (q3:o3.op=.buildSlice 113 1 #[(0,.tmp 16)]/\o3.dst=some 17/\o3.guard=none)
  (q4:o4.op=.call VQ/\o4.dst=some 18/\o4.guard=none) (q5:o5.op=.store 113 (.tmp 4) (.tmp 18)/\o5.dst=none/\o5.guard=none)
  (c2:ZZ.callee=.value (.func 74)/\ZZ.args=#[.tmp 15]) (c4:VQ.callee=.builtin .append/\VQ.args=#[.tmp 14,.tmp 17]/\VQ.argTypes=#[113,113]) (hr:WO ops=true)
  (hk:∀a' w' tK,a'.tmps.size=50->a'.defers=[]->eE Tt a a'->(∀b k,Mi b k->tK b k)->Lv wB tK bF bN s cS cR fv (fs++[es]) es w'->Q .normal a' w'):(Code.region id ops true).wpIn (FR none) m prog Q a w:=by
 unfold WO at hr;simp only[adk,adY,adr]at hr;obtain⟨⟨⟨⟨⟨⟨⟨⟨⟨⟨r0,ra⟩,rb⟩,rc⟩,rd⟩,re⟩,rf⟩,rg⟩,rh⟩,ri⟩,rj⟩:=hr;obtain⟨u,zY,xF,v,Dp,xN,f1,f2,f3,f4,n1,n2,n3,n4⟩:=st.st;have lF:=(adj.1 f1).1;have lN:=(adj.1 n1).1;obtain⟨d141,abt,abo⟩:=vZ 113;obtain⟨d23,u23,g23⟩:=vZ 23
 have Sv:prog.underlying 113=some (.slice 23):=zk
 obtain⟨i3,D2,uu⟩:=iZ 3 1;obtain⟨i141,X1,ZH⟩:=iZ 113 1;obtain⟨i23,Ps,Fb⟩:=aeJ.1 (show(prog.info? 23).bind (λi=>if i.size=1/\i.bytes<=65536 then i.zero else none)=some (.slice none 0 0) by kernel_rfl)
 have ZV:(i23.size=1/\i23.bytes<=65536)/\i23.zero=some (.slice none 0 0):=by
  split at Fb
  .exact⟨by assumption,Fb⟩
  .cases Fb
 obtain⟨⟨KT,Xm⟩,Fb⟩:=ZV;have aaJ:=Xb hG (GI:=GI) (ints es) (qF es) (by rw[cZ];omega)
 have load:∀{c k a' w' K},L2 a w u v es c k a' w'->(∀a' w',L2 a w u v es true k a' w'->K a' w')->wpOpIn (FR none) m prog ops Q 0 K a' w':=λ{c k a' w' K} h hK=>
  y_ h0 q0.2.2 (by rw[q0.1]<;>rfl) (jV (b:=bF) (off:=0) (v:=u) q0.1 ((h.same 4 rfl).trans t4) abt abo (by simp[World.cell?,(h.below.block bF lF).trans f1])) (by rw[q0.2.1];exact hK _ _ h.load)
 have now:∀{c a' w' K},L2 a w u v es c 0 a' w'->(∀a' w',L2 a w u v es c 1 a' w'->K a' w')->wpOpIn (FR none) m prog ops Q 1 K a' w':=λ{c a' w' K} h hK=>
  y_ h1 q1.2.2 (by rw[q1.1]<;>rfl) (jV (b:=bN) (off:=0) (v:=v) q1.1 ((h.same 3 rfl).trans t3) u23 g23 (by simp[World.cell?,(h.below.block bN lN).trans n1])) (by rw[q1.2.1];exact hK _ _ h.now)
 have copy:∀{c a' w' K},L2 a w u v es c 1 a' w'->(∀a' w',L2 a w u v es c 2 a' w'->K a' w')->wpOpIn (FR none) m prog ops Q 2 K a' w':=λ{c a' w' K} h hK=>by
  have hv:a'.tmps.getD 15 undef=v:=h.t15 (adl _)
  have hn2:w'.ownsRow (bN+1) 3 1 v es.length xN:=iX n2 λb hb=>h.below.block _ (n2.lt b hb).2
  have DA:RD (λ_ _=>True) w' (.slice .view (ints es)) v:=RD.ofRow (size:=1) (es:=ints es) (by rw[cZ];exact hn2) (n3.mono (bf.of_eq λ_ _ h=>h.elim)) λ_ _ _ _=>trivial
  refine Qb h2 q2.2.2 (by rw[q2.1]<;>rfl) (gn (k:=74) (args:=#[v]) w' q2.1 c2.1 ?_ zk) (aaJ w' (λ_ _=>True) #[v] (hG w w' gj h.below) rfl (λi hi dv=>by
   match i,hi with
   |0,_=>exact .data _ _ DA)) ?_
  .rw[c2.2];simp only[adV,ady,adR];show #[a'.tmps.getD 15 undef]=_;rw[hv]
  intro en w2 hE;obtain⟨hb,cc,rfl,hf⟩:=Je D2 (by rw[uu];exact vK es) (xV es) hE;refine⟨_,rfl,?_⟩;rw[q2.2.1];exact hK _ _ (h.copy hb hf)
 have row:∀{c a' w' K},L2 a w u v es c 2 a' w'->(∀a' w',L2 a w u v es c 3 a' w'->K a' w')->wpOpIn (FR none) m prog ops Q 3 K a' w':=λ{c a' w' K} h hK=>by
  obtain⟨hi,dh⟩:=h.t16 (adl _);exact y_ h3 q3.2.2 (by rw[q3.1]<;>rfl) (Lg q3.1 Sv Ps Fb KT rfl (dh.one rfl)) (by rw[q3.2.1];exact hK _ _ h.row)
 have tail:∀{a' w'},L2 a w u v es true 3 a' w'->wpAnyIn (FR none) m prog .any ops Q 2 #[true,true,true,true,false,false] a' w':=λ{a' w'} h=>by
  obtain⟨PX,ab1,FM,Ae⟩:=h.t17 (adl _);have h14:=h.t14 rfl;have WT:=h.t16 zo
  have og:(a'.tmps.getD 16 undef).oneCell'=true:=by
   obtain⟨hi,dh⟩:=WT;exact dh.one rfl
  have QP:w'.ownsRow (bF+1) 23 1 u fs.length xF:=iX f2 λb hb=>h.below.block _ (f2.lt b hb).2
  have hle:bF+1<=w'.heap.size:=ad9 lF h.below.size;refine rZ rh ?_;obtain⟨u',w2,b',dz,cV,Jd,jH,hor⟩:=LB (P:=prog) (t:=113) (ty:=o4.type) Sv Ps Fb (by rw[KT]<;>rfl) KT Xm QP zo hle (ad:=⟨PX,0,none⟩) (cap:=1) (c:=a'.tmps.getD 16 undef) (by simp[World.cell?,FM]) og;refine y_ (v:=u') (w':=w2) h4 q4.2.2 (by rw[q4.1]<;>rfl) ?_ ?_
  .have e1:a'.eval (.tmp 14)=u:=h14;have e2:a'.eval (.tmp 17)=.slice (some ⟨PX,0,none⟩) 1 1:=ab1;unfold execOp;simp[q4.1,c4.1,c4.2.1,c4.2.2,resolve,invoke,builtin,e1,e2,dz]
  rw[q4.2.1];show wpAnyIn (FR none) m prog .any ops Q 1 #[true,true,true,true,true,false] (a'.put (some 18) u') w2;refine rZ ri ?_
  have hp:=λt (c:Value)=>i_ a' 18 t c (by rw[h.size];omega)
  have uF:u.ownBlock≠some bF:=λe=>by have:=(f2.lt bF e).1;omega
  have ltu:∀b,u.ownBlock=some b->b<w.heap.size:=λb hb=>(f2.lt b hb).2
  have hF2:w2.heap[bF]?=some (.cells #[u] zY (0,0)):=(jH.block bF (ad9 lF h.below.size) uF).trans ((h.below.block bF lF).trans f1)
  have Z_:u'.oneCell'=true:=by
   rcases cV.2 with⟨rfl,_⟩|⟨_,_,_,rfl,_⟩<;>rfl
  refine PA h5 q5.2.2 (by rw[q5.1]<;>rfl) (iV q5.1 (by show(a'.put (some 18) u').tmps.getD 4 undef=_;rw[hp,if_neg zd];exact(h.same 4 rfl).trans t4) X1 ZH hF2 (by show(a'.put (some 18) u').tmps.getD 18 undef=u';rw[hp,if_pos rfl]) Z_) ?_;rw[q5.2.1];refine⟨rj,?_⟩;obtain⟨hi,dh⟩:=WT
  have Sf:∀b,b<w.heap.size->b<w'.heap.size:=λb hb=>ad9 hb h.below.size
  have sz2:w'.heap.size<=w2.heap.size:=jH.size
  have Zb:(w2.setRow bF #[u']).heap.size=w2.heap.size:=ahi
  have old:∀b,b<w'.heap.size->b≠bF->u.ownBlock≠some b->(w2.setRow bF #[u']).heap[b]?=w'.heap[b]?:=λb hb h1 h2=>(aes w2 bF b #[u'] h1).trans (jH.block b hb h2)
  have Pb:∀b,b<w.heap.size->b≠bF->u.ownBlock≠some b->(w2.setRow bF #[u']).heap[b]?=w.heap[b]?:=λb hb h1 h2=>(old b (Sf b hb) h1 h2).trans (h.below.block b hb)
  have bF':b'≠bF:=λe=>by have:=(cV.lt b' Jd).1;omega
  refine hk (a'.put (some 18) u') (w2.setRow bF #[u']) (λb k=>Mi b k\/((w.heap.size<=b/\b<w'.heap.size)/\k<hi b)) (by simp[Act.put,h.size]) h.defers (Cz h.same zo _) (λb k hm=>.inl hm) ?_
  have Tb:bf Mi (λb k=>Mi b k\/((w.heap.size<=b/\b<w'.heap.size)/\k<hi b)) w (w2.setRow bF #[u']):=bf.of_eq λb k hm=>⟨.inl hm,Pb b (st.lt b k hm) (λe=>st.gF k (e▸hm)) λe=>(f4 b e).2 k hm⟩
  refine⟨?_,st.ge,?_,?_,?_,⟨u',zY,xF++[a'.tmps.getD 16 undef],v,Dp,xN,ae3 w2 bF _ #[u'] zY (0,0) hF2,?_,⟨KP _,?_⟩,?_,?_,?_,?_,?_⟩,st.s.mono Tb λ_ _ h=>h,st.r.mono Tb λ_ _ h=>h⟩
  .have b1:=st.below.trans (h.below.mono st.below.size);have b2:=b1.trans (jH.below b1.size λb hb=>aeo st.ge.1 (agn (f2.lt b hb).1));refine b2.trans ⟨rfl,rfl,rfl,by rw[Zb];exact adl _,λk hk=>aes w2 bF k #[u'] λe=>?_⟩;have:=st.ge.1;omega
  .rintro b k (hm|hm)
   .rw[Zb];exact ad9 (Sf b (st.lt b k hm)) sz2
   .rw[Zb];exact ad9 hm.1.2 sz2
  .rintro k (hm|hm)
   .exact st.gF k hm
   .have:=hm.1.1;omega
  .rintro k (hm|hm)
   .exact st.gN k hm
   .have:=hm.1.1;omega
  .have e:(fs++[es]).length=fs.length+1:=ahi
   rw[e]
   exact iX cV λb hb=>aes w2 bF b #[u'] λe=>bF' (by rw[Jd]at hb;cases hb;exact e)
  .intro j hj k CN
   have EE:xF.length=fs.length:=by have:=f2.1;simpa using this
   have Ib:k=0:=by
    have h1:=(KP (fs++[es]) _ (adi hj)).1;omega
   subst Ib;rw[ae4,Nat.add_zero]
   by_cases qC:j<fs.length
   .have dU:j<(fs.map vI).length:=by simpa using qC
    have ib:((fs++[es]).map vI)[j]=(fs.map vI)[j]:=by
     rw[adz,adz,adZ qC]
    obtain⟨x,x1,x2⟩:=f3.2 j dU 0 (by rw[<-ib];exact CN);rw[ae4,Nat.add_zero]at x1;refine⟨x,by rw[aek zo];exact x1,?_⟩;simp only[ib];exact x2.mono (bf.of_eq λb k hm=>⟨⟨.inl hm.1,hm.2⟩,Pb b (st.lt b k hm.1) (λe=>st.gF k (e▸hm.1)) λe=>(f4 b e).2 k hm.1⟩)
   .have OI:j=fs.length:=by simp at hj;omega
    subst OI;refine⟨a'.tmps.getD 16 undef,by rw[<-EE];simp,?_⟩
    have ib:((fs++[es]).map vI)[fs.length]=vI es:=ahi
    simp only[ib];exact dh.mono (bf.of_eq λb k hm=>⟨⟨.inr hm,aeo st.below.size hm.1.1⟩,old b hm.1.2 (λe=>by have:=hm.1.1;omega) λe=>by have:=ltu b e;have:=hm.1.1;omega⟩)
  .intro b hb;rw[Jd]at hb;cases hb;rcases hor with ho|ho
   .refine⟨(f4 b' ho).1,?_⟩;rintro k (hm|hm)
    .exact(f4 b' ho).2 k hm
    .have:=ltu b' ho;have:=hm.1.1;omega
   .refine⟨λe=>by have:=Sf bN lN;omega,?_⟩;rintro k (hm|hm)
    .have:=Sf b' (st.lt b' k hm);omega
    .have:=hm.1.2;omega
  .exact(Pb bN lN (λe=>st.ge.2.2 e.symm) λe=>(f4 bN e).1 rfl).trans n1
  .exact iX n2 λb hb=>Pb b (n2.lt b hb).2 (n4 b hb).1 (n4 b hb).2.1
  .exact n3.mono (bf.of_eq λ_ _ h=>h.elim)
  .intro b hb;refine⟨(n4 b hb).1,λe=>?_,?_⟩
   .rw[Jd]at e;cases e;rcases hor with ho|ho
    .exact(n4 b' hb).2.1 ho
    .have:=Sf b' (n2.lt b' hb).2;omega
   .rintro k (hm|hm)
    .exact(n4 b hb).2.2 k hm
    .have:=(n2.lt b hb).2;have:=hm.1.1;omega
 have s3:∀{a' w'},L2 a w u v es true 3 a' w'->wpAnyIn (FR none) m prog .any ops Q 2 #[true,true,true,true,false,false] a' w':=tail
 have s2:∀{a' w'},L2 a w u v es true 2 a' w'->wpAnyIn (FR none) m prog .any ops Q 3 #[true,true,true,false,false,false] a' w':=λh=>rZ rf (row h λ_ _ h=>s3 h)
 have s1:∀{a' w'},L2 a w u v es true 1 a' w'->wpAnyIn (FR none) m prog .any ops Q 4 #[true,true,false,false,false,false] a' w':=λh=>rZ rd (copy h λ_ _ h=>s2 h)
 have p3:∀{a' w'},L2 a w u v es false 3 a' w'->wpAnyIn (FR none) m prog .any ops Q 3 #[false,true,true,true,false,false] a' w':=λh=>rZ rg (load h λ_ _ h=>s3 h)
 have p2:∀{a' w'},L2 a w u v es false 2 a' w'->wpAnyIn (FR none) m prog .any ops Q 4 #[false,true,true,false,false,false] a' w':=λh=>C0 re (load h λ_ _ h=>s2 h) (row h λ_ _ h=>p3 h)
 have p1:∀{a' w'},L2 a w u v es false 1 a' w'->wpAnyIn (FR none) m prog .any ops Q 5 #[false,true,false,false,false,false] a' w':=λh=>C0 rc (load h λ_ _ h=>s1 h) (copy h λ_ _ h=>p2 h)
 have s0:∀{a' w'},L2 a w u v es true 0 a' w'->wpAnyIn (FR none) m prog .any ops Q 5 #[true,false,false,false,false,false] a' w':=λh=>rZ rb (now h λ_ _ h=>s1 h)
 refine aeW db ?_;rw[r0];show wpAnyIn (FR none) m prog .any ops Q 6 #[false,false,false,false,false,false] a { w with drawn:=w.drawn+1 }
 have hL0:L2 a w u v es false 0 a { w with drawn:=w.drawn+1 }:=⟨bj,eI,eE.refl _ _,⟨rfl,rfl,rfl,adl _,λ_ _=>rfl⟩,(λh=>by cases h),λh=>zo,λh=>zo,λh=>zo⟩
 exact C0 ra (load hL0 λ_ _ h=>s0 h) (now hL0 λ_ _ h=>p1 h)
end
end Go.Proofs.Tryz
namespace Go.Proofs.Tryz
open Go Go.AL Go.RowKit Go.Proofs Go.Proofs.Tram
attribute [local simp] eD fG qe ou eQ d_ ec dE dJ eP dF df ik ig aF aD ev aP.S aP.H bw au aX AL.start AV.cells AV.storable AV.cy bB cd dS cb HR.okB post cM dc de AV.out AV.cg cZ dZ fz gZ AV.vw cW vI int cz aN dk dP iS jN eM dV bG AV.aJ AV.cI
variable{GI:World->Prop}
def nf(n:Int):Prop:=0<=n/\n<100
def OO(l:List Int):Prop:=∀n∈l,nf n
def At{l:List Int}(h:OO l):gK l:=λn hn=>by have:=h n hn;unfold nf at this;exact⟨this.1,zo⟩
def Eu:List UInt8:=[116,114,97,109]
def xX:List UInt8:=[99,101,108,108]
def e_(s:az):List Int:=[s.pos,s.reach,s.eX,s.dQ]
def j0(s:az):List UInt8:=fO Eu ((e_ s).map aW)
def lk(c:fV):List (List UInt8):=[aW c.lo,aW c.hi,iP c.hid]
def eA(c:fV):List UInt8:=fO xX (lk c)
def eU(s:az):List (List UInt8):=j0 s::s.cells.map eA
def GS(m:Int)(l:List (List UInt8)):List UInt8:=fb 10 (l++[kK (ct 0 l % m),[]])
def ic(s:az):List UInt8:=GS 223 (eU s)
def qR(m:Int)(l:List (List UInt8)):GS m l=dK l++kK (ct 0 l % m)++[10]:=by
 have:∀(l:List (List UInt8))(e:List UInt8),fb 10 (l++[e,[]])=dK l++e++[10]:=by
  intro l
  induction l with
  |nil=>intro e;simp[fb,dK]
  |cons p l ih=>
   intro e;rw[List.cons_append,ij 10 p ahi,ih e];unfold dK;simp
 exact this l _
structure rl(s:az):Prop where
 head:OO (e_ s)
 cells:∀c∈s.cells,nf c.lo/\nf c.hi
def Sq(hG:ar GI)(l:List Int)(h0:l≠[])(hl:l.length<1000)(h:OO l):AC prog GI 210 [vI l] (.ret (.slice (.own 9) ((l.map aW).map .str))):=by
 refine AC.jF func210 rfl ntmps210 ahi λcc w=>?_
 refine dX hG c210.qa (λS' H'=>S' 0=vI l) (by simp[c210,ah.qa,af,ae]) ?_;rintro S1 H1 s0;refine dX hG c210.qb.qa (λS' H'=>S' 0=vI l/\S' 3=.slice .nil []) (by simp[c210,ah.qa,ah.qb,s0,af,ae]) ?_;rintro S2 H2 ⟨s0,s3⟩;refine dX hG c210.qb.qb.qa (λS' H'=>S' 3=grow 9 ((l.map aW).map AV.str)) ?_ ?_
 .simp[c210,ah.qa,ah.qb,s0,s3,af,ae];refine bu 8 l.length (λi S H=>S 6=vI l/\S 7=.int .i64 (l.length:Nat)/\S 8=.int .i64 (i:Nat)/\S 3=grow 9 (((l.take i).map aW).map AV.str)) (λi S H h=>h.2.2.1) ⟨by simp[s0,af,ae],by simp[s0,af,ae],by simp[af,ae],by simp[s3,grow,af,ae]⟩ ?_;clear s0 s3;rintro i hi S H ⟨s6,s7,s8,s3⟩
  by_cases aq:i<l.length
  case neg=>
   have di:i=l.length:=zo
   subst di;rw[ado (adl _)]at s3;simp[s6,s7,s8,s3,grow,h0,af,ae]
  have hw:IntKind.i64.wrap ((i:Int)+1)=i+1:=aT zo;have hn:=h _ (adi aq);have a157:=Df (GI:=GI) hn.1 hn.2
  have ht:(l.take (i+1)).map aW=(l.take i).map aW++[aW l[i]]:=by
   rw[adp aq,adL]<;>rfl
  have hlen:((l.take i).map aW).length<=1000:=by simp;omega
  rw[ht]
  generalize(l.take i).map aW=B at*
  generalize aW l[i]=t at*
  have cL:aG 1 [AV.str t]=true:=rfl;simp[s6,s7,s8,s3,aq];refine oc a157 ?_;simp[s6,s7,s8,s3,cL];refine iA (B.map AV.str) (AV.str t) (.own 9) (by simp[s3,grow]) ahi cL (gl B) (by rw[adn];omega) ?_;intro S' sd cE;simp[sd,cE,s6,s7,s8,aq,hw,grow]
 clear s0 s3;rintro S3 H3 s3
 have hg:grow 9 ((l.map aW).map AV.str)=.slice (.own 9) ((l.map aW).map AV.str):=by unfold grow;rw[if_neg (by simpa using h0)]
 rw[hg]at s3;generalize(l.map aW).map AV.str=L at s3⊢;show SW prog GI 19 none (.seq (.region _ _ false) .ret) _ _ _ _
 refine SW.seq (SW.hand hG (p:=0) (lm:=[0,1]) (l2:=[]) (kj:=[]) (oh:=[_,_]) (nk:=[]) rfl rfl rfl rfl zk (λ_ h=>h) (n9:=[]) (np:=[]) rfl rfl rfl rfl
  (K1:=λS H=>S 3=.slice (.own 9) L) (K2:=λo S H=>o=Old.plain cc w/\S 2=.slice (.own 9) L) (K3:=λo S H=>o=Old.plain cc w/\S 2=.slice (.own 9) L) ?_ ?_ ?_ ?_)
 .exact s3
 .rintro w0 g S H a w' m cq ho R s6;have r6:=R.slot 3 zd (λh=>h);rw[s6]at r6;have bj:=R.size
  obtain⟨c,hc⟩:∃c,a.tmps.getD 3 undef=c:=⟨_,rfl⟩
  rw[hc]at r6;have rv:RD g.Pr w' (.slice .view L) c:=(r6.dW rfl).aJ;refine bg rfl rfl zr ((run_move (x:=.tmp 3) w' rfl).trans (congrArg (λv=>Result.ok (Next.value v) w') hc)) ?_;have R1:=R.put 18 (.slice .view L) c zd (.data _ _ rv) trivial
  have xx:(a.put (some 18) c).tmps.getD 18 undef=c:=by simp[Act.put,bj]
  refine bg rfl rfl zr ((run_assign (x:=.tmp 18) w' rfl).trans (congrArg (λv=>Result.ok (Next.value v) w') xx)) ?_;have R2:=R1.put 2 (.slice .view L) c zd (.data _ _ rv) trivial
  have e4:((a.put (some 18) c).put (some 2) c).tmps.getD 2 undef=c:=by simp[Act.put,bj]
  have e6:((a.put (some 18) c).put (some 2) c).tmps.getD 3 undef=a.tmps.getD 3 undef:=by simp[Act.put,adt]
  obtain⟨g',q1,R3⟩:=R2.Po (t:=3) (u:=2) (e:=9) (es:=L) zd zd zd (by simp[au,s6]) (by rw[e4,e6,hc]);exact⟨g',_,_,R3,by rw[q1];exact ho,aO _ _ _⟩
 .rintro o S H ⟨rfl,s4⟩;exact⟨λ_ h=>h,rfl,s4⟩
 .rintro o S H ⟨rfl,s4⟩;refine SW.ret ⟨ep.plain rfl,rfl,_,?_,rfl⟩;show cM prog 19 [.tmp 2] S H=_;simp[cM,dc,de,s4,AV.cg,AV.out]
def X6(hG:ar GI)(s:az)(h:rl s):AC prog GI 209 [bm s] (.ret (strs ((e_ s).map aW))):=by
 have a:=AC.nz (Sq hG (e_ s) (by simp[e_]) (by simp[e_]) h.head);have fY:aG 1 [AV.int .i64 s.pos,AV.int .i64 s.reach,AV.int .i64 s.eX,AV.int .i64 s.dQ]=true:=rfl;have ha:vI (e_ s)=.slice .view [AV.int .i64 s.pos,AV.int .i64 s.reach,AV.int .i64 s.eX,AV.int .i64 s.dQ]:=rfl;rw[ha]at a;unfold strs
 generalize((e_ s).map aW).map AV.str=o at*
 refine cw hG func209 ntmps209 c209 ?_;simp[c209,bm,av,ai,fY,af,ae];refine oc a ?_;simp[af,ae]
def Y'(hG:ar GI)(c:fV)(h:nf c.lo/\nf c.hi):AC prog GI 211 [fR c] (.ret (strs (lk c))):=by
 have a:=Sq hG [c.lo,c.hi] ahi ahi (λn hn=>by simp at hn;rcases hn with rfl|rfl;exact h.1;exact h.2);have fY:aG 1 [AV.int .i64 c.lo,AV.int .i64 c.hi]=true:=rfl;have ha:vI [c.lo,c.hi]=.slice .view [AV.int .i64 c.lo,AV.int .i64 c.hi]:=rfl;have hr:(([c.lo,c.hi]:List Int).map aW).map AV.str=[.str (aW c.lo),.str (aW c.hi)]:=rfl;rw[ha,hr]at a
 have cL:∀t,aG 1 [AV.str t]=true:=λ_=>rfl
 have Fy:aG 1 [AV.str (aW c.lo),AV.str (aW c.hi)]=true:=rfl;unfold strs lk
 generalize aW c.lo=t1 at*
 generalize aW c.hi=t2 at*
 refine AC.nz (o:=.own 9) ?_
 cases hh:c.hid with
 |true=>
  refine cw hG func211 ntmps211 c211 ?_;simp[c211,fR,fY,hh,af,ae];refine oc a ?_;simp[cL,Fy,iP,af,ae]
 |false=>
  refine cw hG func211 ntmps211 c211 ?_;simp[c211,fR,fY,hh,af,ae];refine oc a ?_;simp[cL,Fy,iP,af,ae]
def RZ(hG:ar GI):AC prog GI 122 [] (.ret (.agg [.str Eu,.str xX])):=by
 obtain⟨i1,PC,xB⟩:=iZ 184 2;obtain⟨d,hd,ZW⟩:=adv.1 (show(prog.underlying 184).map ef=some true by kernel_rfl);refine cw hG func122 ntmps122 c122 ?_;simp[c122,bI,PC,xB,hd,ZW,Eu,xX,af,ae]
def VG(s:az)(H:ao):fz H (bm s)=bm s:=by simp[fz,gZ,bm,AV.vw,av,ai,AV.cI,vI]
def TQ(hG:ar GI)(s:az)(h:rl s)(hr:(j0 s).length<10000):AC prog GI 78 [.iface 120 (bm s)] (.ret (.str (j0 s))):=by
 have pj:=RZ (GI:=GI) hG;have b:=uU (GI:=GI) (Eu::(e_ s).map aW) [32] (by simp[e_]) (by rw[iw];show(j0 s).length<=_;omega);rw[iw]at b;have b2:AC prog GI 121 [.slice .view (AV.str Eu::((e_ s).map aW).map AV.str),.str [32]] (.ret (.str (j0 s))):=b;have a:=X6 (GI:=GI) hG s h;have cL:aG 1 [AV.str Eu]=true:=rfl;have fY:aG 1 (((e_ s).map aW).map AV.str)=true:=gl _
 have hlen:1+(((e_ s).map aW).map AV.str).length<1048576:=by simp[e_]
 have hf:=VG s;have hb:cW (bm s)=false:=rfl;have hv:(bm s).vw=bm s:=O_ s;unfold strs at a
 generalize j0 s=r at*
 generalize((e_ s).map aW).map AV.str=W at*
 generalize bm s=V at*
 refine cw hG func78 ntmps78 c78 ?_;simp[c78,af,ae];refine oc pj ?_;simp[af,ae,cL];refine mS (t:=120) (v:=V) (r:=.slice .view W) (by simp[af,ae]) zr hb (hf _) zk a ?_;refine mM [AV.str Eu] W .view (by simp[af,ae,grow]) (by simp[af,ae]) fY cL hlen ?_;intro S' sd cE;simp[af,ae,sd,cE,grow];refine oc b2 ?_;simp[af,ae]
def Sd(hG:ar GI)(c:fV)(h:nf c.lo/\nf c.hi)(hr:(eA c).length<10000):AC prog GI 78 [.iface 123 (fR c)] (.ret (.str (eA c))):=by
 have pj:=RZ (GI:=GI) hG;have b:=uU (GI:=GI) (xX::lk c) [32] (by simp[lk]) (by rw[iw];show(eA c).length<=_;omega);rw[iw]at b;have b2:AC prog GI 121 [.slice .view (AV.str xX::(lk c).map AV.str),.str [32]] (.ret (.str (eA c))):=b;have a:=Y' (GI:=GI) hG c h;have cL:aG 1 [AV.str xX]=true:=rfl;have fY:aG 1 ((lk c).map AV.str)=true:=gl _
 have hlen:1+((lk c).map AV.str).length<1048576:=by simp[lk]
 have hf:∀H,fz H (fR c)=fR c:=λH=>rfl
 have hb:cW (fR c)=false:=rfl;unfold strs at a
 generalize eA c=r at*
 generalize(lk c).map AV.str=W at*
 generalize fR c=V at*
 refine cw hG func78 ntmps78 c78 ?_;simp[c78,af,ae];refine oc pj ?_;simp[af,ae,cL];refine mS (t:=123) (v:=V) (r:=.slice .view W) (by simp[af,ae]) zr hb (hf _) zk a ?_;refine mM [AV.str xX] W .view (by simp[af,ae,grow]) (by simp[af,ae]) fY cL hlen ?_;intro S' sd cE;simp[af,ae,sd,cE,grow];refine oc b2 ?_;simp[af,ae]
def Sn(c:fV):List AV:=[.int .i64 c.lo,.int .i64 c.hi,.bool c.hid]
def mh(c:fV):Nat×List AV×List UInt8:=(123,Sn c,eA c)
def qG(s:az):Nat×List AV×List UInt8:=(120,av s,j0 s)
def wP{s:az}(h:rl s):∀p∈eU s,p.length<10000:=by
 intro p hp;rcases adT.1 hp with rfl|hp
 .exact oY zd (At h.head) (by simp[e_])
 .obtain⟨c,hc,rfl⟩:=adF.1 hp;have h1:=(eB (n:=c.lo) ⟨(h.cells c hc).1.1,by have:=(h.cells c hc).1.2;omega⟩).1;have h2:=(eB (n:=c.hi) ⟨(h.cells c hc).2.1,by have:=(h.cells c hc).2.2;omega⟩).1
  have h3:(iP c.hid).length<=3:=by cases c.hid<;>decide
  unfold eA fO;simp[lk,xX,fb];omega
def Xf(hG:ar GI)(s:az)(hN:rl s)(kJ:s.cells.length<=900):AC prog GI 33 [bm s] (.ret (.str (ic s))):=by
 have nq:=wP hN
 have wu:(eU s).length<1000:=by unfold eU;simp;omega
 have Wb:ic s=GS 223 (eU s):=rfl
 have UH:∀q∈qG s::s.cells.map mh,AC prog GI 78 [gV q] (.ret (.str q.2.2)):=by
  intro q hq;rcases adT.1 hq with rfl|hq
  .exact TQ hG s hN (nq _ (by simp[eU]))
  .obtain⟨c,hc,rfl⟩:=adF.1 hq;exact Sd hG c (hN.cells c hc) (nq _ (by simp only[eU,adT,adF];exact .inr ⟨c,hc,rfl⟩))
 have yh:(qG s::s.cells.map mh).map (·.2.2)=eU s:=by unfold eU;simp;exact⟨rfl,λc _=>rfl⟩
 rw[Wb];refine cw hG func33 ntmps33 c33 ?_;refine aK (λS H=>S 1=.box 1 0/\H 1=some (av s)) (by simp[af,ae,bm,av,ai]) ?_;rintro S H ⟨s1,e1⟩;refine aK (λS H=>S 1=.box 1 0/\H 1=some (av s)/\S 3=grow 125 ([qG s].map gV)) ?_ ?_
 .have bX:∀a:List AV,aG 1 [AV.iface 120 (.agg a)]=true:=λ_=>rfl
  simp[af,ae,s1,e1,av,ai,bI,bX,grow,gV,qG]
 clear s1 e1 S H;rintro S H ⟨s1,e1,s3⟩;refine aK (λS H=>S 3=grow 125 ((qG s::s.cells.map mh).map gV)) ?_ ?_
 .simp[af,ae,s1,e1,s3,av,ai];refine bu 19 s.cells.length (λi S H=>S 17=.slice .view (s.cells.map fR)/\S 18=.int .i64 (s.cells.length:Nat)/\S 19=.int .i64 (i:Nat)/\S 3=grow 125 ((qG s::(s.cells.take i).map mh).map gV)) (λi S H h=>h.2.2.1) ⟨by simp[af,ae,av,ai,s1,e1],by simp[af,ae,av,ai,s1,e1],by simp[af,ae],by simp[af,ae,s3,grow]⟩ ?_;clear s1 e1 s3 S H;rintro i hi S H ⟨kT,kV,rB,s3⟩
  by_cases aq:i<s.cells.length
  case neg=>
   have di:i=s.cells.length:=zo
   subst di;rw[ado (adl _)]at s3;simp[af,ae,kT,kV,rB,s3]
  have hw:IntKind.i64.wrap ((i:Int)+1)=i+1:=aT zo
  have ht:qG s::(s.cells.take (i+1)).map mh=(qG s::(s.cells.take i).map mh)++[mh s.cells[i]]:=by
   rw[adp aq,adL,List.cons_append]<;>rfl
  have hlen:(qG s::(s.cells.take i).map mh).length<=2000:=by simp;omega
  rw[ht]
  generalize qG s::(s.cells.take i).map mh=B at*
  have cL:aG 1 [gV (mh s.cells[i])]=true:=rfl;simp[kT,kV,rB,s3,aq,bI,mh,Sn,fR]
  try simp only[mh,Sn,gV]at cL
  try simp[kT,kV,rB,s3,aq,bI,cL]
  refine iA (B.map gV) (gV (mh s.cells[i])) (.own 125) (by simp[s3,grow]) (by simp[gV,mh,Sn]) rfl (GZ B) (by rw[adn];omega) ?_;intro S' sd cE;simp[sd,cE,kT,kV,rB,aq,hw,grow,gV,mh,Sn]
 clear s1 e1 s3 S H;rintro S H s3
 generalize hR:qG s::s.cells.map mh=R at*
 have Nl:R≠[]:=by rw[<-hR];simp
 have Xh:R.length=(eU s).length:=by rw[<-yh];simp
 have DA:∀i (h:i<R.length)(h':i<(eU s).length),R[i].2.2=(eU s)[i]:=by
  intro i h h'
  have:(R.map (·.2.2))[i]'(by simpa using h)=(eU s)[i]:=by simp only[yh]
  simpa using this
 clear hR hN yh Wb
 generalize eU s=l at*
 rw[qR]
 have oC:∀i,(dK (l.take i)).length<=10000*1000:=λi=>by
  have:=tm (l:=l.take i) (b:=10000) λx hx=>nq x (adU hx)
  have h2:10000*(l.take i).length<=10000*1000:=afs _ (by rw[adA];omega);omega
 have jP:∀i,0<=ct 0 (l.take i)/\ct 0 (l.take i)<=25500000000000000:=λi=>by
  have:=mB (l.take i) 0 (by rw[adA];omega) λx hx=>by have:=nq x (adU hx);omega
  rw[adA]at this;omega
 refine aK (λS H=>S 3=grow 125 (R.map gV)/\S 6=.str []/\S 7=.int .i64 0) (by simp[af,ae,s3]) ?_;clear s3 S H;rintro S H ⟨s3,s6,s7⟩;refine aK (λS H=>S 6=.str (dK l)/\S 7=.int .i64 (ct 0 l)) ?_ ?_
 .simp[af,ae,s3,s6,s7,grow,Nl];refine bu 32 l.length (λi S H=>S 30=.slice .view (R.map gV)/\S 31=.int .i64 (l.length:Nat)/\S 32=.int .i64 (i:Nat)/\S 6=.str (dK (l.take i))/\S 7=.int .i64 (ct 0 (l.take i))) (λi S H h=>h.2.2.1) ⟨by simp[af,ae,s3,grow,Nl],by simp[af,ae,s3,grow,Nl,Xh],by simp[af,ae],by simp[af,ae,s6,dK],by simp[af,ae,s7,ct]⟩ ?_;clear s3 s6 s7 S H;rintro i hi S H ⟨o7,jJ,kA,s6,s7⟩
  by_cases aq:i<l.length
  case neg=>
   have di:i=l.length:=zo
   subst di;rw[ado (adl _)]at s6 s7;simp[af,ae,o7,jJ,kA,s6,s7]
  have Dz:i<R.length:=zo
  have hw:IntKind.i64.wrap ((i:Int)+1)=i+1:=aT zo;have hp:=nq _ (adi aq);have hf:=oC i;have hc:=jP i;have pj:=UH _ (adi Dz);rw[DA i Dz aq]at pj;have a2:AC prog GI 78 [.iface R[i].1 (.agg R[i].2.1)] (.ret (.str l[i])):=pj;have uV:dK (l.take (i+1))=dK (l.take i)++l[i]++[10]:=qZ aq;have vt:=pO aq
  have Dk:∀k,0<=dN 0 (l[i].take k)/\dN 0 (l[i].take k)<=25500000000:=λk=>by
   have:=lW (l[i].take k) 0 (by rw[adA];omega);rw[adA]at this;omega
  rw[uV,vt];clear uV vt pj
  generalize dK (l.take i)=F at*
  generalize ct 0 (l.take i)=c at*
  generalize vv:l[i]=p at*
  refine aK (λS H=>S 30=.slice .view (R.map gV)/\S 31=.int .i64 (l.length:Nat)/\S 32=.int .i64 (i:Nat)/\S 6=.str F/\S 7=.int .i64 c/\S 33=.bool true) (by simp[af,ae,o7,jJ,kA,s6,s7,aq]) ?_;clear o7 jJ kA s6 s7 S H;rintro S H ⟨o7,jJ,kA,s6,s7,xz⟩;refine aK (λS H=>S 30=.slice .view (R.map gV)/\S 31=.int .i64 (l.length:Nat)/\S 32=.int .i64 (i:Nat)/\S 6=.str F/\S 7=.int .i64 c) (by simp[af,ae,o7,jJ,kA,s6,s7,xz]) ?_;clear o7 jJ kA s6 s7 xz S H;rintro S H ⟨o7,jJ,kA,s6,s7⟩;refine aK (λS H=>S 30=.slice .view (R.map gV)/\S 31=.int .i64 (l.length:Nat)/\S 32=.int .i64 (i:Nat)/\S 6=.str (F++p++[10])/\S 7=.int .i64 (c+dN 0 p*(i+1))) ?_ ?_
  .refine mo ?_;refine aK (λS H=>S 30=.slice .view (R.map gV)/\S 31=.int .i64 (l.length:Nat)/\S 32=.int .i64 (i:Nat)/\S 8=.int .i64 (i:Nat)/\S 9=.iface R[i].1 (.agg R[i].2.1)/\S 6=.str F/\S 7=.int .i64 c) (by simp[af,ae,o7,jJ,kA,s6,s7,Dz,gV]) ?_;clear o7 jJ kA s6 s7 S H;rintro S H ⟨o7,jJ,kA,s8,s9,s6,s7⟩;refine aK (λS H=>S 30=.slice .view (R.map gV)/\S 31=.int .i64 (l.length:Nat)/\S 32=.int .i64 (i:Nat)/\S 8=.int .i64 (i:Nat)/\S 10=.str p/\S 6=.str F/\S 7=.int .i64 c) ?_ ?_
   .simp[af,ae,o7,jJ,kA,s6,s7,s8,s9];refine oc a2 ?_;simp[af,ae,o7,jJ,kA,s6,s7,s8,s9]
   clear o7 jJ kA s6 s7 s8 s9 S H;rintro S H ⟨o7,jJ,kA,s8,bJ,s6,s7⟩;refine aK (λS H=>S 30=.slice .view (R.map gV)/\S 31=.int .i64 (l.length:Nat)/\S 32=.int .i64 (i:Nat)/\S 10=.str p/\S 6=.str F/\S 7=.int .i64 (c+dN 0 p*(i+1))) ?_ ?_
   .simp[af,ae,o7,jJ,kA,s8,bJ,s6,s7];refine bu 41 p.length (λk S H=>S 30=.slice .view (R.map gV)/\S 31=.int .i64 (l.length:Nat)/\S 32=.int .i64 (i:Nat)/\S 8=.int .i64 (i:Nat)/\S 10=.str p/\S 6=.str F/\S 40=.int .i64 (p.length:Nat)/\S 41=.int .i64 (k:Nat)/\S 7=.int .i64 (c+dN 0 (p.take k)*(i+1))) (λi S H h=>h.2.2.2.2.2.2.2.1) ⟨by simp[af,ae,o7],by simp[af,ae,jJ],by simp[af,ae,kA],by simp[af,ae,s8],by simp[af,ae,bJ],by simp[af,ae,s6],by simp[af,ae,bJ],by simp[af,ae],by simp[af,ae,s7,dN]⟩ ?_;clear o7 jJ kA s8 bJ s6 s7 S H;rintro k hk S H ⟨o7,jJ,kA,s8,bJ,s6,Oz,Ou,s7⟩
    by_cases jv:k<p.length
    case neg=>
     have cE:k=p.length:=zo
     subst cE;rw[ado (adl _)]at s7;simp[af,ae,o7,jJ,kA,s8,bJ,s6,Oz,Ou,s7]
    have sF:IntKind.i64.wrap ((k:Int)+1)=k+1:=aT zo;have oH:=Dk k;have HD:=uR p[k];rw[qV jv]
    generalize dN 0 (p.take k)=u at*
    generalize Mp:p[k].toNat=y at*
    have YV:p[k]?=some p[k]:=adh jv;have m1:(y:Int)*(k+1)<=255*10000:=aec zo zo zo zo;have m0:0<=(y:Int)*(k+1):=ad8 zo zo;have m2:(y:Int)*(k+1)*(i+1)<=2550000*1000:=aec zo zo zo zo;have m3:0<=(y:Int)*(k+1)*(i+1):=ad8 zo zo;have m4:u*(i+1)<=25500000000*1000:=aec zo zo zo zo;have m5:0<=u*(i+1):=ad8 zo zo;have w0:IntKind.i64.wrap (y:Int)=y:=aT zo;have w1:IntKind.i64.wrap ((y:Int)*(k+1))=(y:Int)*(k+1):=aT zo;have w2:IntKind.i64.wrap ((y:Int)*(k+1)*(i+1))=(y:Int)*(k+1)*(i+1):=aT zo
    have w3:IntKind.i64.wrap (c+u*(i+1)+(y:Int)*(k+1)*(i+1))=c+(u+(y:Int)*(k+1))*(i+1):=by
     rw[aT zo,agx];omega
    simp[af,ae,o7,jJ,kA,s8,bJ,s6,Oz,Ou,s7,jv,Mp,w0,w1,w2,w3,hw,sF]
   clear o7 jJ kA s8 bJ s6 s7 S H;rintro S H ⟨o7,jJ,kA,bJ,s6,s7⟩
   have b0:p.length+1<1073741824:=zo
   have b1:F.length+p.length<1073741824:=zo
   have b2:F.length+p.length+1<1073741824:=zo
   have b3:F.length+(p.length+1)<1073741824:=zo
   simp[af,ae,o7,jJ,kA,bJ,s6,s7,b0,b1,b2,b3]
  clear o7 jJ kA s6 s7 S H;rintro S H ⟨o7,jJ,kA,s6,s7⟩;simp[af,ae,o7,jJ,kA,s6,s7,hw,aq]
 clear s3 s6 s7 S H;rintro S H ⟨s6,s7⟩;have hf:=oC l.length;have hc:=jP l.length;rw[ado (adl _)]at hf hc
 generalize dK l=F at*
 obtain⟨c,MV⟩:∃c:Nat,ct 0 l=c:=⟨(ct 0 l).toNat,zo⟩
 rw[MV]at s7⊢
 have hm:(c:Int).tmod 223=((c % 223:Nat):Int):=by rw[ad3 zo];omega
 have uB:(c:Int) % 223=((c % 223:Nat):Int):=zo
 have SY:c % 223<223:=afK _ zo;rw[uB]
 generalize c % 223=r at*
 have n1:dY ((r:Int)/100):=⟨zo,zo⟩
 have n2:dY ((r:Int)/10 % 10):=⟨zo,zo⟩
 have n3:dY ((r:Int) % 10):=⟨zo,zo⟩
 have q1:IntKind.i64.wrap ((r:Int)/100)=(r:Int)/100:=aT zo;have q2:IntKind.i64.wrap ((r:Int)/10)=(r:Int)/10:=aT zo;have t1:(r:Int).tdiv 100=(r:Int)/100:=aea zo;have t2:(r:Int).tdiv 10=(r:Int)/10:=aea zo;have t3:((r:Int)/10).tmod 10=(r:Int)/10 % 10:=ad3 zo;have t4:(r:Int).tmod 10=(r:Int) % 10:=ad3 zo;have a1:=Df (GI:=GI) (n:=(r:Int)/100) zo zo;have a2:=Df (GI:=GI) (n:=(r:Int)/10 % 10) zo zo;have a3:=Df (GI:=GI) (n:=(r:Int) % 10) zo zo;have d1:=(eB n1).1;have d2:=(eB n2).1;have d3:=(eB n3).1;have hE:kK (r:Int)=[101,110,100,32]++aW ((r:Int)/100)++aW ((r:Int)/10 % 10)++aW ((r:Int) % 10):=rfl;rw[hE]
 generalize aW ((r:Int)/100)=u at*
 generalize aW ((r:Int)/10 % 10)=v at*
 generalize aW ((r:Int) % 10)=w at*
 have e1:F.length+(u.length+1+1+1+1)+v.length<1073741824:=zo
 have e2:F.length+(u.length+v.length+1+1+1+1)+w.length<1073741824:=zo
 have e3:F.length+(u.length+(v.length+w.length)+1+1+1+1)+1<1073741824:=zo
 have e4:F.length+(u.length+v.length+w.length+1+1+1+1)+1<1073741824:=zo
 have b1:F.length+4<1073741824:=zo
 have b2:F.length+(u.length+4)<1073741824:=zo
 have b3:F.length+(v.length+u.length+4)<1073741824:=zo
 have b4:F.length+4+u.length<1073741824:=zo
 have b5:F.length+4+u.length+v.length<1073741824:=zo
 have b6:F.length+4+u.length+v.length+w.length<1073741824:=zo
 have b7:F.length+4+u.length+v.length+w.length+1<1073741824:=zo
 refine aK (λS H=>S 6=.str F/\S 7=.int .i64 r) (by simp[af,ae,s6,s7,hm]) ?_;clear s6 s7 S H;rintro S H ⟨s6,s7⟩;simp[af,ae,s6,s7,q1,q2,t1,t2,t3,t4,b1];refine oc a1 ?_;simp[af,ae,s6,s7,q1,q2,t1,t2,t3,t4,b1,b4];refine oc a2 ?_;simp[af,ae,s6,s7,q1,q2,t1,t2,t3,t4,b1,b4,b5,e1];refine oc a3 ?_;simp[af,ae,s6,s7,q1,q2,t1,t2,t3,t4,b1,b4,b5,e1,e2,e3,e4]
def UR(hG:ar GI)(l:List (List UInt8))(hl:l.length<1000)(h:∀p∈l,p.length<10000):AC prog GI 106 [strs l,.int .i64 223] (.ret (.str (GS 223 l))):=by
 rw[qR]
 have oC:∀i,(dK (l.take i)).length<=10000*1000:=λi=>by
  have:=tm (l:=l.take i) (b:=10000) λx hx=>h x (adU hx)
  have h2:10000*(l.take i).length<=10000*1000:=afs _ (by rw[adA];omega);omega
 have jP:∀i,0<=ct 0 (l.take i)/\ct 0 (l.take i)<=25500000000000000:=λi=>by
  have:=mB (l.take i) 0 (by rw[adA];omega) λx hx=>by have:=h x (adU hx);omega
  rw[adA]at this;omega
 refine cw hG func106 ntmps106 c106 ?_;simp[c106,af,ae];refine bu 7 l.length (λi S H=>S 0=strs l/\S 1=.int .i64 223/\S 7=.int .i64 (i:Nat)/\S 5=.str (dK (l.take i))/\S 6=.int .i64 (ct 0 (l.take i))) (λi S H h=>h.2.2.1) ⟨by simp[af,ae,strs],by simp[af,ae],by simp[af,ae],by simp[af,ae,dK],by simp[af,ae,ct]⟩ ?_;rintro i hi S H ⟨s0,s1,s7,s5,s6⟩
 by_cases aq:i<l.length
 case neg=>
  have di:i=l.length:=zo
  subst di;rw[ado (adl _)]at s5 s6;have hf:=oC l.length;have hc:=jP l.length;rw[ado (adl _)]at hf hc
  generalize dK l=F at*
  obtain⟨c,MV⟩:∃c:Nat,ct 0 l=c:=⟨(ct 0 l).toNat,zo⟩
  rw[MV]at s6⊢
  have hm:(c:Int).tmod 223=((c % 223:Nat):Int):=by rw[ad3 zo];omega
  have uB:(c:Int) % 223=((c % 223:Nat):Int):=zo
  have SY:c % 223<223:=afK _ zo;rw[uB]
  generalize c % 223=r at*
  have n1:dY ((r:Int)/100):=⟨zo,zo⟩
  have n2:dY ((r:Int)/10 % 10):=⟨zo,zo⟩
  have n3:dY ((r:Int) % 10):=⟨zo,zo⟩
  have q1:IntKind.i64.wrap ((r:Int)/100)=(r:Int)/100:=aT zo;have q2:IntKind.i64.wrap ((r:Int)/10)=(r:Int)/10:=aT zo;have t1:(r:Int).tdiv 100=(r:Int)/100:=aea zo;have t2:(r:Int).tdiv 10=(r:Int)/10:=aea zo;have t3:((r:Int)/10).tmod 10=(r:Int)/10 % 10:=ad3 zo;have t4:(r:Int).tmod 10=(r:Int) % 10:=ad3 zo;have a1:=uN hG n1;have a2:=uN hG n2;have a3:=uN hG n3;have d1:=(eB n1).1;have d2:=(eB n2).1;have d3:=(eB n3).1;have hE:kK (r:Int)=[101,110,100,32]++aW ((r:Int)/100)++aW ((r:Int)/10 % 10)++aW ((r:Int) % 10):=rfl;rw[hE]
  generalize aW ((r:Int)/100)=u at*
  generalize aW ((r:Int)/10 % 10)=v at*
  generalize aW ((r:Int) % 10)=w at*
  have e1:F.length+(u.length+1+1+1+1)+v.length<1073741824:=zo
  have e2:F.length+(u.length+v.length+1+1+1+1)+w.length<1073741824:=zo
  have e3:F.length+(u.length+(v.length+w.length)+1+1+1+1)+1<1073741824:=zo
  have e4:F.length+(u.length+v.length+w.length+1+1+1+1)+1<1073741824:=zo
  have b1:F.length+4<1073741824:=zo
  have b2:F.length+(u.length+4)<1073741824:=zo
  have b3:F.length+(v.length+u.length+4)<1073741824:=zo
  have b4:F.length+4+u.length<1073741824:=zo
  have b5:F.length+4+u.length+v.length<1073741824:=zo
  have b6:F.length+4+u.length+v.length+w.length<1073741824:=zo
  have b7:F.length+4+u.length+v.length+w.length+1<1073741824:=zo
  simp[af,ae,s0,s1,s7,s5,s6,strs,hm,uB,q1,q2,t1,t2,t3,t4,b1];refine oc a1 ?_;simp[af,ae,s0,s1,s7,s5,s6,strs,hm,uB,q1,q2,t1,t2,t3,t4,b1,b4];refine oc a2 ?_;simp[af,ae,s0,s1,s7,s5,s6,strs,hm,uB,q1,q2,t1,t2,t3,t4,b1,b4,b5,e1];refine oc a3 ?_;simp[af,ae,s0,s1,s7,s5,s6,strs,hm,uB,q1,q2,t1,t2,t3,t4,b1,b4,b5,e1,e2,e3,e4]
 have hw:IntKind.i64.wrap ((i:Int)+1)=i+1:=aT zo;have hp:=h _ (adi aq);have hf:=oC i;have hc:=jP i;have uV:dK (l.take (i+1))=dK (l.take i)++l[i]++[10]:=qZ aq;have vt:=pO aq
 have Dk:∀k,0<=dN 0 (l[i].take k)/\dN 0 (l[i].take k)<=25500000000:=λk=>by
  have:=lW (l[i].take k) 0 (by rw[adA];omega);rw[adA]at this;omega
 rw[uV,vt];clear uV vt
 generalize dK (l.take i)=F at*
 generalize ct 0 (l.take i)=c at*
 have ib:(l.map AV.str)[i]?=some (.str l[i]):=by rw[adO,adh aq]<;>rfl
 generalize vv:l[i]=p at*
 refine aK (λS H=>S 0=strs l/\S 1=.int .i64 223/\S 7=.int .i64 (i:Nat)/\S 5=.str F/\S 6=.int .i64 c) (by simp[af,ae,s0,s1,s7,s5,s6,strs,aq]) ?_;clear s0 s1 s7 s5 s6 S H;rintro S H ⟨s0,s1,s7,s5,s6⟩;refine aK (λS H=>S 0=strs l/\S 1=.int .i64 223/\S 7=.int .i64 (i:Nat)/\S 5=.str (F++p++[10])/\S 6=.int .i64 (c+dN 0 p*(i+1))) ?_ ?_
 .refine mo ?_;refine aK (λS H=>S 0=strs l/\S 1=.int .i64 223/\S 7=.int .i64 (i:Nat)/\S 5=.str F/\S 6=.int .i64 (c+dN 0 p*(i+1))) ?_ ?_
  .simp[af,ae,s0,s1,s7,s5,s6];refine bu 8 p.length (λk S H=>S 0=strs l/\S 1=.int .i64 223/\S 7=.int .i64 (i:Nat)/\S 5=.str F/\S 8=.int .i64 (k:Nat)/\S 6=.int .i64 (c+dN 0 (p.take k)*(i+1))) (λi S H h=>h.2.2.2.2.1) ⟨by simp[af,ae,s0],by simp[af,ae,s1],by simp[af,ae,s7],by simp[af,ae,s5],by simp[af,ae],by simp[af,ae,s6,dN]⟩ ?_;clear s0 s1 s7 s5 s6 S H;rintro k hk S H ⟨s0,s1,s7,s5,s8,s6⟩
   by_cases jv:k<p.length
   case neg=>
    have cE:k=p.length:=zo
    subst cE;rw[ado (adl _)]at s6;simp[af,ae,s0,s1,s7,s5,s8,s6,strs,aq,vv]
   have sF:IntKind.i64.wrap ((k:Int)+1)=k+1:=aT zo;have oH:=Dk k;have HD:=uR p[k];rw[qV jv]
   generalize dN 0 (p.take k)=u at*
   generalize Mp:p[k].toNat=y at*
   have YV:p[k]?=some p[k]:=adh jv;have m1:(y:Int)*(k+1)<=255*10000:=aec zo zo zo zo;have m0:0<=(y:Int)*(k+1):=ad8 zo zo;have m2:(y:Int)*(k+1)*(i+1)<=2550000*1000:=aec zo zo zo zo;have m3:0<=(y:Int)*(k+1)*(i+1):=ad8 zo zo;have m4:u*(i+1)<=25500000000*1000:=aec zo zo zo zo;have m5:0<=u*(i+1):=ad8 zo zo;have w0:IntKind.i64.wrap (y:Int)=y:=aT zo;have w1:IntKind.i64.wrap ((y:Int)*(k+1))=(y:Int)*(k+1):=aT zo;have w2:IntKind.i64.wrap ((y:Int)*(k+1)*(i+1))=(y:Int)*(k+1)*(i+1):=aT zo
   have w3:IntKind.i64.wrap (c+u*(i+1)+(y:Int)*(k+1)*(i+1))=c+(u+(y:Int)*(k+1))*(i+1):=by
    rw[aT zo,agx];omega
   simp[af,ae,s0,s1,s7,s5,s8,s6,strs,aq,vv,jv,Mp,w0,w1,w2,w3,hw,sF]
  clear s0 s1 s7 s5 s6 S H;rintro S H ⟨s0,s1,s7,s5,s6⟩
  have b1:F.length+p.length<1073741824:=zo
  have b2:F.length+p.length+1<1073741824:=zo
  have b3:F.length+(p.length+1)<1073741824:=zo
  simp[af,ae,s0,s1,s7,s5,s6,strs,aq,vv,b1,b2,b3]
 clear s0 s1 s7 s5 s6 S H;rintro S H ⟨s0,s1,s7,s5,s6⟩;simp[af,ae,s0,s1,s7,s5,s6,strs,hw,aq]
def zO(b:Bool):List UInt8:=32::iP b
def KJ(c:fV):eA c=fO xX ([c.lo,c.hi].map aW)++zO c.hid:=by
 unfold eA fO lk zO;simp[fb]
def L3{c:fV}(h:nf c.lo/\nf c.hi):(eA c).length<=100:=by
 have h1:=(eB (n:=c.lo) ⟨h.1.1,by have:=h.1.2;omega⟩).1;have h2:=(eB (n:=c.hi) ⟨h.2.1,by have:=h.2.2;omega⟩).1
 have h3:(iP c.hid).length<=3:=by cases c.hid<;>decide
 unfold eA fO;simp[lk,xX,fb];omega
def aby(hG:ar GI)(s:az)(hN:rl s)(kJ:s.cells.length<=900):AC prog GI 46 [bm s] (.ret (.str (ic s))):=by
 have wu:(eU s).length<1000:=by unfold eU;simp;omega
 have aS:=UR hG (eU s) wu (wP hN);have aH:=zL (GI:=GI) hG Eu (e_ s) zd (by simp[e_]) (At hN.head);have aH:AC prog GI 105 [.str [116,114,97,109],.slice .view [AV.int .i64 s.pos,AV.int .i64 s.reach,AV.int .i64 s.eX,AV.int .i64 s.dQ]] (.ret (.str (j0 s))):=aH;have aS:AC prog GI 106 [.slice .view (((j0 s)::s.cells.map eA).map AV.str),.int .i64 223] (.ret (.str (ic s))):=aS;have Kh:aG 1 [AV.int .i64 s.pos,AV.int .i64 s.reach,AV.int .i64 s.eX,AV.int .i64 s.dQ]=true:=rfl
 generalize ic s=T at*
 generalize j0 s=HT at*
 clear wu
 have cL:∀t,aG 1 [AV.str t]=true:=λ_=>rfl
 refine cw hG func46 ntmps46 c46 ?_;refine aK (λS H=>S 1=.box 1 0/\H 1=some (av s)) (by simp[af,ae,bm,av,ai]) ?_;rintro S H ⟨s1,h1⟩;refine aK (λS H=>S 1=.box 1 0/\H 1=some (av s)/\S 3=grow 9 [.str HT]) ?_ ?_
 .simp[af,ae,s1,h1,av,ai,Kh];refine oc aH ?_;simp[af,ae,s1,h1,av,ai,cL,grow]
 clear s1 h1 S H;rintro S H ⟨s1,h1,s3⟩;refine aK (λS H=>S 3=grow 9 ((HT::s.cells.map eA).map AV.str)) ?_ ?_
 .simp[af,ae,s1,h1,s3];refine bu 4 s.cells.length (λi S H=>S 1=.box 1 0/\H 1=some (av s)/\S 4=.int .i64 (i:Nat)/\S 3=grow 9 ((HT::(s.cells.take i).map eA).map AV.str)) (λi S H h=>h.2.2.1) ⟨by simp[af,ae,s1],by simp[af,ae,h1],by simp[af,ae],by simp[af,ae,s3,grow]⟩ ?_;clear s1 h1 s3 S H;rintro i hi S H ⟨s1,h1,s4,s3⟩
  by_cases aq:i<s.cells.length
  case neg=>
   have di:i=s.cells.length:=zo
   subst di;rw[ado (adl _)]at s3;simp[af,ae,s1,h1,s4,s3,av,ai]
  have hw:IntKind.i64.wrap ((i:Int)+1)=i+1:=aT zo
  obtain⟨c,hc⟩:∃c,s.cells[i]=c:=⟨_,rfl⟩
  have Ay:=hN.cells _ (adi aq);rw[hc]at Ay
  have ht:HT::(s.cells.take (i+1)).map eA=(HT::(s.cells.take i).map eA)++[eA c]:=by
   rw[adp aq,adL,List.cons_append,hc]<;>rfl
  have hlen:(HT::(s.cells.take i).map eA).length<=2000:=by simp;omega
  have aR:=zL (GI:=GI) hG xX [c.lo,c.hi] zd ahi (At λn hn=>by simp at hn;rcases hn with rfl|rfl;exact Ay.1;exact Ay.2);have aR:AC prog GI 105 [.str [99,101,108,108],.slice .view [AV.int .i64 c.lo,AV.int .i64 c.hi]] (.ret (.str (fO xX ([c.lo,c.hi].map aW)))):=aR;have mz:=KJ c;have Wk:=L3 Ay;rw[ht];rw[mz]at Wk⊢
  generalize fO xX ([c.lo,c.hi].map aW)=RT at*
  generalize HT::(s.cells.take i).map eA=B at*
  have fY:aG 1 [AV.int .i64 c.lo,AV.int .i64 c.hi]=true:=rfl;refine aK (λS H=>S 1=.box 1 0/\H 1=some (av s)/\S 4=.int .i64 (i:Nat)/\S 3=grow 9 (B.map AV.str)) (by simp[af,ae,s1,h1,s4,s3,aq,av,ai]) ?_;clear s1 h1 s4 s3 S H;rintro S H ⟨s1,h1,s4,s3⟩;refine aK (λS H=>S 1=.box 1 0/\H 1=some (av s)/\S 4=.int .i64 (i:Nat)/\S 3=grow 9 ((B++[RT++zO c.hid]).map AV.str)) ?_ ?_
  .refine mo ?_;refine aK (λS H=>S 1=.box 1 0/\H 1=some (av s)/\S 4=.int .i64 (i:Nat)/\S 3=grow 9 (B.map AV.str)/\S 5=.str [32,110,111]) (by simp[af,ae,s1,h1,s4,s3]) ?_;clear s1 h1 s4 s3 S H;rintro S H ⟨s1,h1,s4,s3,s5⟩;refine aK (λS H=>S 1=.box 1 0/\H 1=some (av s)/\S 4=.int .i64 (i:Nat)/\S 3=grow 9 (B.map AV.str)/\S 5=.str (zO c.hid)) ?_ ?_
   .cases hh:c.hid<;>simp[af,ae,s1,h1,s4,s3,s5,av,ai,fR,aq,hc,hh,zO,iP]
   clear s1 h1 s4 s3 s5 S H;rintro S H ⟨s1,h1,s4,s3,s5⟩
   generalize zO c.hid=tw at*
   have HU:RT.length+tw.length<1073741824:=by rw[adC]at Wk;omega
   simp[s1,h1,s4,s3,s5,av,ai,fR,aq,hc,fY];refine oc aR ?_;simp[s1,h1,s4,s3,s5,av,ai,fR,aq,hc,cL,HU];refine kR (B.map AV.str) (AV.str (RT++tw)) (.own 9) (by simp[s3,grow]) ahi rfl (gl B) (by rw[adn];omega) ?_;intro S' sd cE;simp[sd,cE,s1,h1,s4,av,ai,grow]
  clear s1 h1 s4 s3 S H;rintro S H ⟨s1,h1,s4,s3⟩;simp[af,ae,s1,h1,s4,s3,hw,aq]
 clear s1 h1 s3 S H;rintro S H s3;have hg:grow 9 ((HT::s.cells.map eA).map AV.str)=.slice (.own 9) ((HT::s.cells.map eA).map AV.str):=rfl;rw[hg]at s3
 generalize(HT::s.cells.map eA).map AV.str=L at*
 simp[af,ae,s3];refine oc aS ?_;simp[af,ae]
def lj(s:az):List UInt8:=ic s++iM s.name
def Wn(hG:ar GI)(s:az)(hN:rl s)(kJ:s.cells.length<=900)(hNn:nW s.name)(hf:MG s.name)(hl:(lj s).length<1000000):AC prog GI 12 [bm s] (.ret (.str (lj s))):=by
 have a1:=aby hG s hN kJ;have a2:=aau (GI:=GI) hG s.name hNn hf;unfold lj at hl⊢;rw[adC]at hl
 generalize ic s=t1 at*
 generalize iM s.name=t2 at*
 have rV:t1.length+t2.length<1073741824:=zo
 refine cw hG func12 ntmps12 c12 ?_;simp[c12,bm,av,ai,af,ae];refine oc a1 ?_;simp[af,ae];refine oc a2 ?_;simp[rV,af,ae]
end Go.Proofs.Tryz
namespace Go.Proofs.Tryz
open Go Go.AL Go.RowKit Go.Proofs Go.Proofs.Tram
section
variable{H:Type}{enc:TypeId×Value->H}{w:World}{held:Bool}
def T0:Nat->Nat->Prop:=λ_ _=>True
def qm(w:World)(l:List AV)(cs:List Value):Prop:=l.length=cs.length/\∀i (h:i<l.length)(h':i<cs.length),(l[i]).one=true/\RD T0 w l[i] cs[i]
def mO(enc:TypeId×Value->H)(w:World)(held:Bool)(t:TypeId){α:Type}(f:α->List AV)(D9:α->Prop):Prop:=
 ∀(fuel:Nat)(cs:List Value)(x:DataW H×List MemPlace),DataW.trod enc prog w 0 (λ_=>true) held fuel t cs=some x->∃a,D9 a/\qm w (f a) cs
def ny(n:Int):Prop:= -9223372036854775808<=n/\n<9223372036854775808
def Nt{t:TypeId}(ht:prog.underlying t=some (.int .i64)):mO enc w held t (λn:Int=>[.int .i64 n]) ny:=by
 intro fuel cs x h;obtain⟨n,rfl,_,hw⟩:=DataW.trod_int ht h;refine⟨n,?_,rfl,λi hi dv=>?_⟩
 .simp only[Lit.wf,adk,adr]at hw
  have h1:IntKind.i64.min= -9223372036854775808:=zk
  have h2:IntKind.i64.max=9223372036854775807:=zk
  rw[h1,h2]at hw;exact⟨hw.1,zo⟩
 .match i,hi with
  |0,_=>exact⟨rfl,.int _ _⟩
def BD{t:TypeId}(ht:prog.underlying t=some .bool):mO enc w held t (λb:Bool=>[.bool b]) (λ_=>True):=by
 intro fuel cs x h;obtain⟨b,rfl,_⟩:=DataW.trod_bool ht h;refine⟨b,trivial,rfl,λi hi dv=>?_⟩
 match i,hi with
 |0,_=>exact⟨rfl,.bool _⟩
def zu{α:Type}{p:Nat->α->Prop}:∀(n:Nat),(∀i,i<n->∃a,p i a)->∃l:List α,l.length=n/\∀i (h:i<l.length),p i l[i]
 |0,_=>⟨[],rfl,λi h=>by simp at h⟩
 |n+1,h=>by
  obtain⟨l,hl,hp⟩:=zu n λi hi=>h i zo
  obtain⟨a,ha⟩:=h n zo;refine⟨l++[a],by simp[hl],λi hi=>?_⟩
  by_cases mj:i<l.length
  .rw[adZ mj];exact hp i mj
  .have:i=n:=by simp at hi;omega
   subst this;rw[aep zo];simpa[hl]using ha
def Nu{w:World}{a:Addr}{v:Value}(h:w.cell? a=some v):a=⟨a.block,a.off,none⟩:=by
 obtain⟨b,o,s⟩:=a;unfold World.cell? at h
 cases s with
 |none=>rfl
 |some s=>
  simp at h
  split at h<;>simp at h
def p8 {t e:TypeId} {α:Type} {f:α→List AV} {D9:α→Prop} (mk:α→AV) (hmk:∀ a,(mk a).cells=f a) (ht:prog.underlying t=some (.slice e)) (iK:0 < prog.cellsOf e) (he:mO enc w held e f D9) :
  mO enc w held t (λl:List α=>[.slice .view (l.map mk)]) (λl=>∀a∈l,D9 a):=by
 intro fuel cs x h
 rcases DataW.trod_slice ht h with⟨rfl,_⟩|⟨a,len,cap,elems,rest,n,_,rfl,_,_,hlc,wj,hlen,CY,l8,_⟩
 .refine⟨[],ahi,rfl,λi hi dv=>?_⟩
  match i,hi with
  |0,_=>exact⟨rfl,.iB _⟩
 .obtain⟨size,lL⟩:∃size,prog.cellsOf e=size:=⟨_,rfl⟩
  rw[lL]at iK CY l8;obtain⟨yh,It⟩:=l8 rfl
  by_cases fh:cap=0
  .subst fh
   have wi:len=0:=zo
   subst wi;refine⟨[],ahi,rfl,λi hi dv=>?_⟩
   match i,hi with
   |0,_=>exact⟨rfl,.jx _ _⟩
  have IY:∃i fU,w.cells? 0 (a.add (i*size)) size=some fU/\i=0:=by
   by_cases wi:len=0
   .subst wi;have h0:=It 0 zo;rw[adh zo,aeJ]at h0;obtain⟨fU,h1,_⟩:=h0;exact⟨0,fU,by simpa using h1,rfl⟩
   .have h0:=CY 0 zo;rw[adh zo,aeJ]at h0;obtain⟨fU,h1,_⟩:=h0;exact⟨0,fU,h1,rfl⟩
  obtain⟨_,cs0,Pa,rfl⟩:=IY;rw[ahw,show a.add 0=a by simp[Addr.add]]at Pa;have LZ:=(agG Pa).2.2 0 zo;rw[show a.add 0=a by simp[Addr.add]]at LZ;have wi:=(agG Pa).2.1;rw[adh zo]at LZ
  obtain⟨b,off,rfl⟩:∃b off,a=⟨b,off,none⟩:=⟨_,_,Nu LZ⟩
  clear LZ Pa wi cs0 It l8
  obtain⟨l,hl,hp⟩:=zu (p:=λi (v:α)=>D9 v/\∃fU,w.cells? 0 ((⟨b,off,none⟩:Addr).add (i*size)) size=some fU/\qm w (f v) fU) len λi hi=>by
   have h0:=CY i hi;rw[adh zo,aeJ]at h0;obtain⟨fU,h1,h2⟩:=h0;obtain⟨v,hv,hc⟩:=he _ _ _ h2;exact⟨v,hv,fU,h1,hc⟩
  refine⟨l,λv hv=>?_,rfl,λi hi dv=>?_⟩
  .obtain⟨i,hi,rfl⟩:=ad7 hv;exact(hp i hi).1
  .have LS:i=0:=by simpa using hi
   subst LS;refine⟨rfl,?_⟩;show RD T0 w (.slice .view (l.map mk)) (.slice (some ⟨b,off,none⟩) len cap)
   have xG:len=(l.map mk).length:=by simp[hl]
   have Ki:∀i (h:i<(l.map mk).length),((l.map mk)[i]).cells=f (l[i]'(by simpa using h)):=λi h=>by rw[adz];exact hmk _
   have key:∀m,m=(l.map mk).length->RD T0 w (.slice .view (l.map mk)) (.slice (some ⟨b,off,none⟩) m cap):=?_
   .exact key _ xG
   rintro m rfl
   have eV:∀i (h:i<l.length) j,j<size->∃fU,qm w (f l[i]) fU/\fU.length=size/\w.cell? ⟨b,off+(i*size+j),none⟩=fU[j]?:=by
    intro i h j hj;obtain⟨_,fU,h1,h2⟩:=hp i h;obtain⟨_,h3,h4⟩:=agG h1;have h5:=h4 j hj;rw[aei,aei,afv]at h5;exact⟨fU,h2,h3,h5⟩
   have Un:∀i (h:i<l.length),(f l[i]).length=size:=by
    intro i h;obtain⟨fU,h1,h2,_⟩:=eV i h 0 iK;rw[h1.1,h2]
   refine .slice .view (l.map mk) b off cap size (λk=>(w.cell? ⟨b,off+k,none⟩).getD undef) (by rw[<-xG];exact hlc) (λh=>by cases h) (λi h=>by rw[Ki];exact Un _ _) (λi h j hj=>?_) (λk hk=>⟨trivial,?_⟩) (λi h j hj=>?_)
   .have di:i<l.length:=by simpa using h
    have dU:j<(f l[i]).length:=by rw[Ki]at hj;exact hj
    have XW:j<size:=by rw[Un]at dU;exact dU
    obtain⟨fU,h1,h2,_⟩:=eV i di j XW
    have e:((l.map mk)[i]).cells[j]=(f l[i])[j]:=by simp only[Ki]
    rw[e];exact(h1.2 j dU zo).1
   .have cE:k<l.length*size:=by simpa using hk
    have hi:k/size<l.length:=ahd (by rw[ae6];exact cE);have hj:k % size<size:=afK _ iK;obtain⟨fU,h1,h2,h3⟩:=eV (k/size) hi (k % size) hj
    have e:k/size*size+k % size=k:=by rw[ae6];exact age k size
    rw[e,adh zo]at h3;rw[h3];rfl
   .have di:i<l.length:=by simpa using h
    have dU:j<(f l[i]).length:=by rw[Ki]at hj;exact hj
    have XW:j<size:=by rw[Un]at dU;exact dU
    obtain⟨fU,h1,h2,h3⟩:=eV i di j XW;rw[adh zo]at h3
    have e:((l.map mk)[i]).cells[j]=(f l[i])[j]:=by simp only[Ki]
    rw[e,h3];exact(h1.2 j dU zo).2
def fieldsOf:TypeDesc->Option (List (TypeId×Nat))
 |.struct fs=>some (fs.toList.map λf=>(f.type,f.offset))
 |_=>none
def lR {t:TypeId} {AU:List (TypeId×Nat)} (hf:(prog.underlying t).bind fieldsOf=some AU) {fuel:Nat} {cs:List Value} {x:DataW H×List MemPlace} (h:DataW.trod enc prog w 0 (fun _=>true) held fuel t cs=some x) :
  cs.length=prog.cellsOf t/\∀(i t' o:Nat),AU[i]?=some (t',o)->∃n x',DataW.trod enc prog w 0 (λ_=>true) held n t' ((cs.drop o).take (prog.cellsOf t'))=some x':=by
 cases hu:prog.underlying t with
 |none=>rw[hu]at hf;cases hf
 |some d=>
  rw[hu]at hf
  cases d<;>first|(cases hf;done)|skip
  rename_i fs;simp only[Option.bind_some,fieldsOf,adN]at hf;obtain⟨xs,n,_,_,hl,EE,eF⟩:=DataW.trod_struct hu h;refine⟨hl,λi t' o hi=>?_⟩;rw[<-hf,adO,adv]at hi;obtain⟨f,X4,e⟩:=hi;cases e
  have WS:fs[i]?=some f:=by rw[<-aev];exact X4
  have:=eF i f WS;have aq:i<fs.size:=(adj.1 WS).1;rw[adh zo]at this;exact⟨n,_,this⟩
def qm.append{l1 l2:List AV}{c1 c2:List Value}(h1:qm w l1 c1)(h2:qm w l2 c2):qm w (l1++l2) (c1++c2):=by
 refine⟨by simp[h1.1,h2.1],λi h h'=>?_⟩
 by_cases hi:i<l1.length
 .rw[adZ hi,adZ (by rw[<-h1.1];exact hi)];exact h1.2 i hi _
 .rw[aep zo,aep (by rw[<-h1.1];omega)];have:=h1.1;simp only[this];exact h2.2 _ _ _
def zz(p:jY):Prop:=ny p.l/\ny p.r/\ny p.lo/\ny p.hi
def As(w:Word):Prop:=(∀n∈w.aU,ny n)/\∀n∈w.bU,ny n
structure D7(s:aI):Prop where
 aM:∀n∈s.aM,ny n
 aL:∀p∈s.aL,zz p
 fI:ny s.fI
 fH:ny s.fH
 ir:ny s.ir
 il:ny s.il
 bT:ny s.bT
 words:∀w∈s.words,As w
 wide:ny s.wide
 rows:ny s.rows
def T3:prog.cellsOf 3=1:=by kernel_rfl
def co4:prog.cellsOf 4=1:=by kernel_rfl
def Wy:prog.cellsOf 23=1:=by kernel_rfl
def acN:prog.cellsOf 24=1:=by kernel_rfl
def Pm:prog.cellsOf 26=2:=by kernel_rfl
def aay:prog.cellsOf 27=1:=by kernel_rfl
def WW:prog.cellsOf 29=10:=by kernel_rfl
def Wl:prog.cellsOf 48=3:=by kernel_rfl
def To:prog.cellsOf 141=4:=by kernel_rfl
def u3:prog.underlying 3=some (.int .i64):=by kernel_rfl
def mJ:mO enc w held 3 (λn:Int=>[.int .i64 n]) ny:=Nt u3
def DH:mO enc w held 23 (λl:List Int=>[vI l]) (λl=>∀n∈l,ny n):=
 p8 (e:=3) (λn:Int=>.int .i64 n) (λ_=>rfl) zk (by rw[T3];omega) mJ
def zp:mO enc w held 26 (λp:Int×Int=>[.int .i64 p.1,.int .i64 p.2]) (λp=>ny p.1/\ny p.2):=by
 intro fuel cs x h;obtain⟨hl,hf⟩:=lR (AU:=[(3,0),(3,1)]) zk h;rw[Pm]at hl
 match cs,hl with
 |[x0,x1],_=>
  obtain⟨_,_,h0⟩:=hf 0 3 0 rfl;obtain⟨_,_,h1⟩:=hf 1 3 1 rfl;rw[T3]at h0 h1;obtain⟨a,ga,ra⟩:=mJ _ _ _ h0;obtain⟨b,gb,rb⟩:=mJ _ _ _ h1;exact⟨(a,b),⟨ga,gb⟩,ra.append rb⟩
def Q9:mO enc w held 141 (λp:jY=>(dM p).cells) zz:=by
 intro fuel cs x h;obtain⟨hl,hf⟩:=lR (AU:=[(3,0),(3,1),(26,2)]) zk h;rw[To]at hl
 match cs,hl with
 |[x0,x1,x2,x3],_=>
  obtain⟨_,_,h0⟩:=hf 0 3 0 rfl;obtain⟨_,_,h1⟩:=hf 1 3 1 rfl;obtain⟨_,_,h2⟩:=hf 2 26 2 rfl;rw[T3]at h0 h1;rw[Pm]at h2;obtain⟨a,ga,ra⟩:=mJ _ _ _ h0;obtain⟨b,gb,rb⟩:=mJ _ _ _ h1;obtain⟨c,gc,rc⟩:=zp _ _ _ h2;exact⟨⟨a,b,c.1,c.2⟩,⟨ga,gb,gc.1,gc.2⟩,ra.append (rb.append rc)⟩
def Rv:mO enc w held 24 (λl:List jY=>[.slice .view (l.map dM)]) (λl=>∀p∈l,zz p):=
 p8 (e:=141) dM (λ_=>rfl) zk (by rw[To];omega) Q9
def TO:mO enc w held 48 (λx:Word=>(cD x).cells) As:=by
 intro fuel cs x h;obtain⟨hl,hf⟩:=lR (AU:=[(23,0),(23,1),(4,2)]) zk h;rw[Wl]at hl
 match cs,hl with
 |[x0,x1,x2],_=>
  obtain⟨_,_,h0⟩:=hf 0 23 0 rfl;obtain⟨_,_,h1⟩:=hf 1 23 1 rfl;obtain⟨_,_,h2⟩:=hf 2 4 2 rfl;rw[Wy]at h0 h1;rw[co4]at h2;obtain⟨a,ga,ra⟩:=DH _ _ _ h0;obtain⟨b,gb,rb⟩:=DH _ _ _ h1;obtain⟨c,_,rc⟩:=BD (t:=4) zk _ _ _ h2;exact⟨⟨a,b,c⟩,⟨ga,gb⟩,ra.append (rb.append rc)⟩
def RH:mO enc w held 27 (λl:List Word=>[.slice .view (l.map cD)]) (λl=>∀x∈l,As x):=
 p8 (e:=48) cD (λ_=>rfl) zk (by rw[Wl];omega) TO
def T8:mO enc w held 29 ai D7:=by
 intro fuel cs x h;obtain⟨hl,hf⟩:=lR (AU:=[(23,0),(24,1),(26,2),(26,4),(3,6),(27,7),(3,8),(3,9)]) zk h;rw[WW]at hl
 match cs,hl with
 |[x0,x1,x2,x3,x4,x5,x6,x7,x8,x9],_=>
  obtain⟨_,_,h0⟩:=hf 0 23 0 rfl;obtain⟨_,_,h1⟩:=hf 1 24 1 rfl;obtain⟨_,_,h2⟩:=hf 2 26 2 rfl;obtain⟨_,_,h3⟩:=hf 3 26 4 rfl;obtain⟨_,_,h4⟩:=hf 4 3 6 rfl;obtain⟨_,_,h5⟩:=hf 5 27 7 rfl;obtain⟨_,_,h6⟩:=hf 6 3 8 rfl;obtain⟨_,_,h7⟩:=hf 7 3 9 rfl;rw[Wy]at h0;rw[acN]at h1;rw[Pm]at h2 h3;rw[T3]at h4 h6 h7;rw[aay]at h5;obtain⟨a0,g0,r0⟩:=DH _ _ _ h0;obtain⟨a1,g1,r1⟩:=Rv _ _ _ h1;obtain⟨a2,g2,r2⟩:=zp _ _ _ h2;obtain⟨a3,g3,r3⟩:=zp _ _ _ h3;obtain⟨a4,g4,r4⟩:=mJ _ _ _ h4;obtain⟨a5,g5,r5⟩:=RH _ _ _ h5;obtain⟨a6,g6,r6⟩:=mJ _ _ _ h6;obtain⟨a7,g7,r7⟩:=mJ _ _ _ h7;exact⟨⟨a0,a1,a2.1,a2.2,a3.1,a3.2,a4,a5,a6,a7⟩,⟨g0,g1,g2.1,g2.2,g3.1,g3.2,g4,g5,g6,g7⟩,r0.append (r1.append (r2.append (r3.append (r4.append (r5.append (r6.append r7))))))⟩
def Rw(s:az):Prop:=ny s.pos/\ny s.reach/\ny s.eX/\ny s.dQ/\D7 s.name/\∀c∈s.cells,ny c.lo/\ny c.hi
def WG:prog.cellsOf 67=3:=by kernel_rfl
def aaX:prog.cellsOf 22=1:=by kernel_rfl
def abY:prog.cellsOf 31=15:=by kernel_rfl
def Uq:mO enc w held 67 (λc:fV=>(fR c).cells) (λc=>ny c.lo/\ny c.hi):=by
 intro fuel cs x h;obtain⟨hl,hf⟩:=lR (AU:=[(26,0),(4,2)]) zk h;rw[WG]at hl
 match cs,hl with
 |[x0,x1,x2],_=>
  obtain⟨_,_,h0⟩:=hf 0 26 0 rfl;obtain⟨_,_,h2⟩:=hf 1 4 2 rfl;rw[Pm]at h0;rw[show prog.cellsOf 4=1 from co4]at h2;obtain⟨a,ga,ra⟩:=zp _ _ _ h0;obtain⟨c,_,rc⟩:=BD (t:=4) zk _ _ _ h2;exact⟨⟨a.1,a.2,c⟩,ga,ra.append rc⟩
def RF:mO enc w held 22 (λl:List fV=>[.slice .view (l.map fR)]) (λl=>∀c∈l,ny c.lo/\ny c.hi):=
 p8 (e:=67) fR (λ_=>rfl) zk (by rw[WG];omega) Uq
def SE:mO enc w held 31 av Rw:=by
 intro fuel cs x h;obtain⟨hl,hf⟩:=lR (AU:=[(22,0),(3,1),(3,2),(3,3),(3,4),(29,5)]) zk h;rw[abY]at hl
 match cs,hl with
 |[x0,x1,x2,x3,x4,x5,x6,x7,x8,x9,xa,xb,xc,xd,xe],_=>
  obtain⟨_,_,h0⟩:=hf 0 22 0 rfl;obtain⟨_,_,h1⟩:=hf 1 3 1 rfl;obtain⟨_,_,h2⟩:=hf 2 3 2 rfl;obtain⟨_,_,h3⟩:=hf 3 3 3 rfl;obtain⟨_,_,h4⟩:=hf 4 3 4 rfl;obtain⟨_,_,h5⟩:=hf 5 29 5 rfl;rw[aaX]at h0;rw[T3]at h1 h2 h3 h4;rw[WW]at h5;obtain⟨a0,g0,r0⟩:=RF _ _ _ h0;obtain⟨a1,g1,r1⟩:=mJ _ _ _ h1;obtain⟨a2,g2,r2⟩:=mJ _ _ _ h2;obtain⟨a3,g3,r3⟩:=mJ _ _ _ h3;obtain⟨a4,g4,r4⟩:=mJ _ _ _ h4;obtain⟨a5,g5,r5⟩:=T8 _ _ _ h5;exact⟨⟨a0,a1,a2,a3,a4,a5⟩,⟨g1,g2,g3,g4,g5,g0⟩,r0.append (r1.append (r2.append (r3.append (r4.append r5))))⟩
def GA{d:DataW H}{ps:List MemPlace}{v:Value}{r:Reach}{base:Nat}(Gc:Value.okWide prog w r base 31 v)(h:DataW.Trod enc prog w 0 (λ_=>true) held 31 v d ps):∃s:az,Rw s/\RD T0 w (bm s) v:=by
 obtain⟨fuel,hf⟩:=h;obtain⟨s,gs,hc⟩:=SE _ _ _ hf;refine⟨s,gs,?_⟩;obtain⟨fs,fw⟩:=uZ 31;obtain⟨cs,rfl,_⟩:=WideShapes.okWide_struct fw Gc;refine .agg _ _ (by simpa[Value.cells]using hc.1) (λi hi=>(hc.2 i hi (by rw[<-hc.1];exact hi)).1) (λi hi dv=>?_);have:=(hc.2 i hi (by rw[<-hc.1];exact hi)).2;simpa[Value.cells]using this
end
end Go.Proofs.Tryz
namespace Go.Proofs.YtajdcjkalbbogaaGreatDoor
open Go Go.AL Go.ChangeShapes Go.WideShapes Go.ChangeAt Go.RowKit
def own:ownKnob Tryz.prog.godebug=none:=by kernel_rfl
def Fm:laidOutB Tryz.prog=true:=by kernel_rfl
def GI(w:World):Prop:=∃m,w.cell? ⟨1,0,none⟩=some (.int .i64 m)
def NU:ar GI:=by
 rintro w w' ⟨m,hm⟩ hb;refine⟨m,?_⟩
 have h1:1<w.heap.size:=by
  unfold World.cell? at hm
  by_cases h:1<w.heap.size
  .exact h
  .have:w.heap[1]?=none:=by simp;omega
   simp[this]at hm
 unfold World.cell? at hm⊢;rw[hb.block 1 h1];exact hm
def X_{w:World}(h:w.ShapedOpen Tryz.prog):GI w:=
 cell_of_shapedOpen_int (g:=1) (t:=3) (zero:=#[.int .i64 0]) (k:=.i64) h (afi zk) zk rfl zk zk zk
abbrev sK:List (String×DataW Unit):=Rows.tramPrintsRow.laid
variable{H:Type}{enc:TypeId×Value->H}
def ua{w:World}{base:Nat}{spare:Nat->Bool}{held:Bool}:∀{ts:List TypeId}{vs:List Value}{ds:List (DataW H)}{ps:List MemPlace},DataW.TrodAll enc Tryz.prog w base spare held ts vs ds ps->ds.length=ts.length
 |[],[],[],_,_=>rfl
 |_::_,_::_,_::_,_,⟨_,_,_,h,_⟩=>congrArg (·+1) (ua h)
def uW {W W':World} (hb:Below W.heap.size W W'):∀ {ts:List TypeId} {vs:List Value} {ds:List (DataW H)} {ps:List MemPlace},(∀ t∈ts,Tryz.prog.readableRec t=true∧t < Tryz.prog.types.size) →
  DataW.TrodAll enc Tryz.prog W 0 (λ_=>true) true ts vs ds ps->(∀x∈ps,x.block<W.heap.size)->DataW.TrodAll enc Tryz.prog W' 0 (λb=>decide (b<W.heap.size)) true ts vs ds ps
 |[],[],[],_,_,h,_=>h
 |t::_,_::_,_::_,_,hr,⟨p,q,h1,h2,e⟩,aq=>by
  subst e;exact⟨p,q,Below.trod Fm (hr t adx).1 (hr t adx).2 h1 hb (λx hx=>aq x (afm _ hx)),uW hb (λu hu=>hr u (adu _ hu)) h2 (λx hx=>aq x (afJ _ hx)),rfl⟩
end Go.Proofs.YtajdcjkalbbogaaGreatDoor
namespace Go.Proofs.YtajdcjkalbbogaaGreatDoor
open Go Go.AL Go.ChangeShapes Go.WideShapes Go.ChangeAt Go.RowKit
def ch(l:List Nat):List Char:=l.map Char.ofNat
def w1:List Nat:=[104,97,114,110,101,115,115]
def w2:List Nat:=[56,50,49,55,49,48,57,50,98,101,57,49,52,51,54,55,54,102,52,53,97,51,48,53,54,101,98,53,99,54,98,52,97,102,55,56,55,100,100,102,57,53,51,50,99,51,50,57,98,51,54,51,53,56,100,52,57,56,97,50,49,54,100,101]
def w3:List Nat:=[99,117,116]
def w4:List Nat:=[97,116,32,109,97,104,108,115,116,105,99,107,47,109,97,104,108,115,116,105,99,107,108,97,119,48,57,46,84,114,97,109,80,114,105,110,116,115,32,109,97,104,108,115,116,105,99,107,47,109,97,104,108,115,116,105,99,107,108,97,119,48,57,46,84,114,97,109,82,101,97,100,115,32,109,97,104,108,115,116,105,99,107,47,109,97,104,108,115,116,105,99,107,108,97,119,48,57,46,84,114,97,109,83,112,111,105,108,116]
def rp:∀{a b:List Char},(a.all λc=>c !=Char.ofNat 32)=true->wordsSigns (a++Char.ofNat 32::b)=a::wordsSigns b
 |[],b,_=>rfl
 |c::a,b,h=>by
  simp only[List.all_cons,adk,afZ]at h;have ih:=rp (b:=b) h.2;show wordsSigns (c::(a++Char.ofNat 32::b))=_
  conv=>lhs;unfold wordsSigns
  split
  .rename_i e;cases e
  .rename_i e;cases e;exact absurd rfl h.1
  .rename_i e;cases e;rw[ih]
def head_eq:Tryz.prog.initOrder=String.ofList (ch w1++Char.ofNat 32::(ch w2++Char.ofNat 32::(ch w3++Char.ofNat 32::ch w4))):=by kernel_rfl
def A':wordsSigns Tryz.prog.initOrder.toList=ch w1::ch w2::ch w3::wordsSigns (ch w4):=by
 rw[head_eq,agr,rp zk,rp zk,rp zk]
def Xp:ch w2 = "82171092be9143676f45a3056eb5c6b4af787ddf9532c329b36358d498a216de".toList:=by
 have : "82171092be9143676f45a3056eb5c6b4af787ddf9532c329b36358d498a216de" = String.ofList (ch w2):=by kernel_rfl
 rw[this,agr]
def tl(s:String)(l:List Nat)(h:s=String.ofList (ch l)):s.toList=ch l:=by rw[h,agr]
def Bm : "harness".toList=ch [104,97,114,110,101,115,115]:=tl _ _ zk
def Jy : "ownmain".toList=ch [111,119,110,109,97,105,110]:=tl _ _ zk
def MM : "gc".toList=ch [103,99]:=tl _ _ zk
def K0 : "spec".toList=ch [115,112,101,99]:=tl _ _ zk
def Sr : "stop".toList=ch [115,116,111,112]:=tl _ _ zk
def uL : "carried".toList=ch [99,97,114,114,105,101,100]:=tl _ _ zk
def B7 : "cut".toList=ch [99,117,116]:=tl _ _ zk
def Cs : "finals".toList=ch [102,105,110,97,108,115]:=tl _ _ zk
def BQ : "reflectrows".toList=ch [114,101,102,108,101,99,116,114,111,119,115]:=tl _ _ zk
def Iu : "leanrows".toList=ch [108,101,97,110,114,111,119,115]:=tl _ _ zk
def Gw : "onebuild".toList=ch [111,110,101,98,117,105,108,100]:=tl _ _ zk
def Cp : "publicsums".toList=ch [112,117,98,108,105,99,115,117,109,115]:=tl _ _ zk
def LD : "eqguard".toList=ch [101,113,103,117,97,114,100]:=tl _ _ zk
def E0 : "ownunsafe".toList=ch [111,119,110,117,110,115,97,102,101]:=tl _ _ zk
def EU : "libbeside".toList=ch [108,105,98,98,101,115,105,100,101]:=tl _ _ zk
def E8 : "ownbeside".toList=ch [111,119,110,98,101,115,105,100,101]:=tl _ _ zk
def DS : "reflbeside".toList=ch [114,101,102,108,98,101,115,105,100,101]:=tl _ _ zk
def JD : "aliases".toList=ch [97,108,105,97,115,101,115]:=tl _ _ zk
def EL : "afterinit".toList=ch [97,102,116,101,114,105,110,105,116]:=tl _ _ zk
def Gz : "crcplain".toList=ch [99,114,99,112,108,97,105,110]:=tl _ _ zk
def CS : "roadunsafe".toList=ch [114,111,97,100,117,110,115,97,102,101]:=tl _ _ zk
def ED : "fmthandon".toList=ch [102,109,116,104,97,110,100,111,110]:=tl _ _ zk
def KL:isSumSigns (ch w2)=true:=by kernel_rfl
def Cd(ws:List (List Char)):Option (Bool×List Char):=match ws with
 |h::s::_=>if !isSumSigns s then none else if h == "harness".toList then some (true,s) else if h == "ownmain".toList then some (false,s) else none
 |_=>none
def Mw(P:Program):P.mainIs=Cd (wordsSigns P.initOrder.toList):=rfl
def Ni(R:List (List Char)):Cd (ch w1::ch w2::ch w3::R)=some (true,ch w2):=by
 simp only[Cd,KL,Bm]
 rfl
def PT:Tryz.prog.mainIs=some (true,ch w2):=(Mw _).trans ((congrArg Cd A').trans (Ni _))
def MT(R:List (List Char)):behindMainWord (ch w1::ch w2::R)=R:=by
 simp only[behindMainWord,KL,Bm,Jy]
 rfl
def vF:behindMainWord (wordsSigns Tryz.prog.initOrder.toList)=ch w3::wordsSigns (ch w4):=(congrArg behindMainWord A').trans (MT _)
def Lx(R:List (List Char)):stripLifts liftWords (ch w3::R)=([],ch w3::R):=by
 unfold liftWords;simp only[stripLifts,Cs,BQ,Iu,Gw,Cp,LD,E0,EU,E8,DS,JD,EL,Gz,CS,ED]
 rfl
def B8 (ws:List (List Char)):List String:=if (stripLifts liftWords ws).2.head? == some "cut".toList then (stripLifts liftWords ws).1 else []
def EY(P:Program):P.headLifts=B8 (behindMainWord (wordsSigns P.initOrder.toList)):=rfl
def Mx(R:List (List Char)):B8 (ch w3::R)=[]:=by
 simp only[B8,Lx,B7]
 rfl
def yY:Tryz.prog.headLifts=[]:=(EY _).trans ((congrArg B8 vF).trans (Mx _))
def N7{P:Program}{R:List (List Char)}(h:behindMainWord (wordsSigns P.initOrder.toList)=ch w3::R)(hl:P.headLifts=[]):P.make=some .cut:=by
 unfold Program.make;rw[h];simp only[B7,MM,K0,Cs,uL,hl]
 rfl
def Vu:Tryz.prog.make=some .cut:=N7 vF yY
def Es{P:Program}{R:List (List Char)}(h:behindMainWord (wordsSigns P.initOrder.toList)=ch w3::R)(hl:P.headLifts=[]):P.liftsFinal=false:=by
 unfold Program.liftsFinal;simp only[h,B7,MM,uL,hl]
 rfl
def EV:Tryz.prog.liftsFinal=false:=Es vF yY
def HZ:Tryz.prog.laysLater=false:=by kernel_rfl
def B5:Tryz.prog.bearsReflect=false:=by kernel_rfl
def JS:Tryz.prog.doorFits []=true:=by kernel_rfl
def HI{P:Program}{R:List (List Char)}(h:behindMainWord (wordsSigns P.initOrder.toList)=ch w3::R)(h1:P.laysLater=false)(h2:P.bearsReflect=false)(h3:P.doorFits []=true):P.mayEnter=true:=by
 unfold Program.mayEnter;rw[h];simp only[Lx,B7,MM,uL,K0,Sr,h1,h2,h3]
 rfl
def Ju:Tryz.prog.mayEnter=true:=HI vF HZ B5 JS
def GT (w:World):Prop:=GI w/\Lib.TabIs Tryz.prog w "internal/strconv.uint64pow10" .u64 Lib.pow10Tab
def Mo:ar GT:=λw w' h hb=>⟨NU w w' h.1 hb,Lib.tabBelow_of_tabIs h.2 w' hb⟩
def C_{P:Program}{w:World}{x:String×DataW Unit}{l:List (String×DataW Unit)}{ps:List MemPlace}(h:DataW.LaidVars P w (x::l) ps):∃p qs,ps=p++qs/\DataW.LaidVars P w l qs:=by
 obtain⟨g',t',cs,fuel,p,q,AF,uz,adf,hd,hr,e⟩:=h;exact⟨_,q,e,hr⟩
def wy{P:Program}{w:World}{x:String×DataW Unit}{l:List (String×DataW Unit)}(h:laidMet P (x::l) w):laidMet P l w:=by
 obtain⟨ps,h1,h2,h3⟩:=h;obtain⟨p,qs,rfl,h4⟩:=C_ h1;exact⟨qs,h4,(List.nodup_append.1 h2).2.1,λb off hm=>h3 b off (afJ _ hm)⟩
def UI {w:World} (h:laidMetH Tryz.prog Rows.tramPrintsRow.laid w.memory):Lib.TabIs Tryz.prog w "internal/strconv.uint64pow10" .u64 Lib.pow10Tab:=by
 rw [agJ _ _ _ zk] at h;have h3:=wy (wy h);exact Lib.tabIs_of_head (W:=w.memory) (P:=Tryz.prog) (name := "internal/strconv.uint64pow10") (g:=0) (t:=256) (e:=234) (n:=20) zk zk zk zk zk zk h3
variable{H:Type}{enc:TypeId×Value->H}
def Kg (f:FuncId) (fn:Func) (UE:Tryz.checked.prog.funcs[f]? = some fn) (Vv:Tryz.checked.prog.inits.idxOf? f=none) (KF:fn.resultTypes = #[4]) (spec:ChangeSpec) (Uy:spec.vars=[])
  (Mz:∀(ds:List (DataW H)),ds.length=fn.params.size->spec.fn H ds={ results:=[.lit (.bool true)],args:=ds })
  (dh:∀t∈fn.params.toList,Tryz.prog.readableRec t=true/\t<Tryz.prog.types.size)
  (os:Os) (started:os.Started) (tL:Array Value) (fuel:Nat)
  (fE:((World.laidAll Tryz.prog os sK).forCall (λ_ _=>0) ⟨#[],tL,[]⟩).Shaped Tryz.checked.prog)
  (bX:Input.okWideB Tryz.checked.prog ((World.laidAll Tryz.prog os sK).forCall (λ_ _=>0) ⟨#[],tL,[]⟩) f ⟨#[],tL,[]⟩=true)
  (abD:spec.preB enc Tryz.checked.prog fn [] false ((World.laidAll Tryz.prog os sK).forCall (λ_ _=>0) ⟨#[],tL,[]⟩).memory tL fuel=true)
  (bj:spec.sizedB enc Tryz.checked.prog fn false ((World.laidAll Tryz.prog os sK).forCall (λ_ _=>0) ⟨#[],tL,[]⟩).memory tL fuel=true)
  (hx:laidMetH Tryz.prog sK ((World.laidAll Tryz.prog os sK).forCall (λ_ _=>0) ⟨#[],tL,[]⟩).memory)
  (mc:∀(W:World)(base:Nat)(args:Array Value)(ds:List (DataW H))(p:List MemPlace),GT W->
   (∀(j:Nat) t v,fn.params[j]?=some t->args[j]?=some v->Value.okWide Tryz.prog W .any base t v)->
   DataW.TrodAll enc Tryz.prog W 0 (λ_=>true) true fn.params.toList args.toList ds p->
   Calls Tryz.prog f args W λe W'=>e=.returned (.bool true)/\Below W.heap.size W W'):
  ReturnsInHanded {} Tryz.checked os f .any (λw args=>(spec.pre enc Tryz.checked.prog fn [] false w args/\laidMetH Tryz.checked.prog sK w)/\sizedMet enc Tryz.checked.prog fn (OpenSpec.ofChange spec) false w args)
   (spec.post enc Tryz.checked.prog fn false true false false):=by
 refine returnsInHanded_of_calls (C:=Tryz.checked) own started Vv
  (ChangeSpec.witness_shaped (enc:=enc) (C:=Tryz.checked) (os:=os) (X:=λw _=>laidMetH Tryz.prog sK w) false (World.laidAll Tryz.prog os sK) tL fuel (World.laidAll_os _ _ _) fE bX abD bj hx) ?_
 intro w tape i _ ZT _ Er hp _;obtain⟨_,_,_,SD,acu,_,_,_,_,Gc⟩:=Er;have e:SD=fn:=adM (acu.symm.trans UE);subst e;obtain⟨⟨⟨ds,gs,before,hw,hc⟩,hlm⟩,hz⟩:=hp;have K7:=DataW.Whole.of_heap (w':=w.forCall tape i) zr hw;have hW:=K7;obtain⟨p,q,hA,hV,rfl,_,_⟩:=K7
 have jK:gs=[]/\q=[]:=by
  rw[Uy]at hV;obtain⟨rfl,rfl⟩:=trodVars_none hV;exact⟨rfl,rfl⟩
 obtain⟨rfl,rfl⟩:=jK;have Xk:DataW.TrodAll enc Tryz.prog (w.forCall tape i) 0 (λ_=>true) true SD.params.toList i.args.toList ds p:=hA
 have aq:∀x∈p,x.block<(w.forCall tape i).heap.size:=λx hx=>by simpa using hW.lt x (afm _ hx)
 refine(mc (w.forCall tape i) w.heap.size i.args ds p ⟨X_ ZT,UI hlm⟩ Gc Xk).mono λe W' ⟨he,hb⟩=>?_
 subst he;show spec.post enc Tryz.checked.prog SD false true false false (w.forCall tape i).blind i.args (.bool true) W'.blind;refine ChangeSpec.post_blind (?_:spec.post enc Tryz.checked.prog SD false true false false (w.forCall tape i) i.args (.bool true) W')
 have SN:ds.length=SD.params.size:=by
  rw[ua Xk];simp
 refine⟨ds,[],p++[],[],p,[],hW,?_,?_,?_,hb.frame _,λh=>by cases h⟩
 .rw[ael,Mz ds SN,KF];exact trodAll_mk1 (shut_bool zk _)
 .rw[ael,Mz ds SN];exact uW hb dh Xk aq
 .rw[ael,Mz ds SN,Uy]
  rfl
end Go.Proofs.YtajdcjkalbbogaaGreatDoor
namespace Go.Proofs.Tryz
open Go Go.AL Go.RowKit Go.Proofs Go.Proofs.Tram
attribute [local simp] eD fG fB eR eQ d_ ec dE dJ eP dF df ik ig aF aD ev aP.S aP.H bw au aX AL.start AV.cells AV.storable AV.cy bB cd dS cb HR.okB post cM dc de AV.out AV.cg cZ dZ fz gZ AV.vw cW vI int cz aN dk dP iS jN eM dV bG AV.aJ AV.cI
variable{GI:World->Prop}
def abB(hG:ar GI)(s:az)(hs:fW s):AC prog GI 24 [bm s] (.ret (.dR (x_ s))):=by
 have pv:=rk hG s hs;have kS:=CA hG s hs
 rcases kQ s with⟨hI,es,gI,ho⟩|⟨e,he,ho,B3⟩
 .rw[ho]at kS;have hg:=gQ hI;have hc:=hg.cells
  have N3:x_ s=if(eG s).isEmpty then[.int .i64 0,.int .i64 0,.int .i64 5]else(match ON s (bZ s es)with|some q=>[.int .i64 (q.1:Nat),.int .i64 (q.2:Nat),.int .i64 0]|none=>[]):=by unfold x_;rw[if_pos hI,gI]<;>rfl
  rw[N3];have hn:=lV hg (kf hg.name gI);have hp:=MK hg es
  have hle:(bZ s es).sum<=400:=by
   have hb:∀x∈bZ s es,x<=81:=λx hx=>by
    obtain⟨i,hi,rfl⟩:=adF.1 hx
    exact(A2 hg (kf hg.name gI) (by
     rw[kI (adQ.1 hi)]
     exact(mU hg.name (adi _)).y3)).2
   have h1:=C2 hb zd
   have h2:(bZ s es).length<=4:=by
    have:=(gE hg.name).words;simp[bZ];omega
   omega
  generalize bZ s es=aw at kS hn hp hle⊢;have h0:=m_ hp;have Lo:=Wz hG aw zo hn.1
  obtain⟨most,IG⟩:∃most,aw.sum.toNat=most:=⟨_,rfl⟩
  have yM:aw.sum=(most:Nat):=zo
  rw[yM]at Lo
  have Rh:most<=400:=zo
  have hvw:(av s).map AV.cI=av s:=by simp[av,ai,AV.cI,vI]
  have aaA:(br s aw).map AV.cI=br s aw:=by simp[br,av,ai,AV.cI,vI]
  have abL:∀i:Nat,i<s.cells.length->AC prog GI 63 [.int .i64 ((most+1:Nat):Int),.func (.func 64) [] [.ref (av s),.ref [.int .i64 (i:Nat)],.ref (br s aw)]] (.ret (.int .i64 (iN s aw i:Nat))):=λi hi=>by
   have:=abr hG (n:=most+1) zo 64 (av s) [.int .i64 (i:Nat)] (br s aw) zk (NG hg hp i) (λy hy=>aao hG s hg aw hn hi (n:=y) zo) (Ee (qk s aw i) (most+1));unfold iN;rw[IG];exact this
  have Ko:=Ss hG s;have sO:=Wq hG s (ps:=eG s) (by have:=Bh s;omega) (M0 hG s hg);have sO:=AC.nz (o:=if(eG s).isEmpty then .nil else .view) sO;unfold ON;rw[IG];refine cw hG func24 ntmps24 c24 ?_;refine aK (λS H=>S 1=.box 1 0/\H 1=some (av s)) (by simp[bm,av,ai]) ?_;rintro S H ⟨s1,h1⟩;refine aK (λS H=>S 1=.box 1 0/\H 1=some (av s)/\S 5=.box 5 0/\H 5=some (br s aw)/\S 6=.int .i64 0) ?_ ?_
  .simp[s1,h1,av,ai];refine oc pv ?_;simp;refine oc kS ?_;simp[s1,h1,dO,br,av,ai,bI]
  clear s1 h1 S H;rintro S H ⟨s1,h1,s5,h5,s6⟩;refine aK (λS H=>S 1=.box 1 0/\H 1=some (av s)/\S 5=.box 5 0/\H 5=some (br s aw)) (by simp[s1,h1,s5,h5,s6]) ?_;clear s1 h1 s5 h5 s6 S H;rintro S H ⟨s1,h1,s5,h5⟩;refine aK (λS H=>S 1=.box 1 0/\H 1=some (av s)/\S 5=.box 5 0/\H 5=some (br s aw)/\S 7=.int .i64 (most:Nat)) ?_ ?_
  .simp[s1,h1,s5,h5,br,av,ai];refine oc Lo ?_;simp[s1,h1,s5,h5,br,av,ai]
  clear s1 h1 s5 h5 S H;rintro S H ⟨s1,h1,s5,h5,s7⟩;refine aK (λS H=>S 1=.box 1 0/\H 1=some (av s)/\S 5=.box 5 0/\H 5=some (br s aw)/\S 7=.int .i64 (most:Nat)/\S 8=.slice .nil []) (by simp[s1,h1,s5,h5,s7]) ?_;clear s1 h1 s5 h5 s7 S H;rintro S H ⟨s1,h1,s5,h5,s7,s8⟩;refine aK (λS H=>S 1=.box 1 0/\H 1=some (av s)/\S 8=grow 103 (aY ((gD (iN s aw) most s.cells.length).map dI))) ?_ ?_
  .refine aK (λS H=>S 1=.box 1 0/\H 1=some (av s)/\S 5=.box 5 0/\H 5=some (br s aw)/\S 7=.int .i64 (most:Nat)/\S 8=.slice .nil []/\S 27=.int .i64 s.cells.length/\S 28=.int .i64 ((0:Nat):Int)) (by simp[s1,h1,s5,h5,s7,s8,av,ai]) ?_;clear s1 h1 s5 h5 s7 s8 S H;rintro S H ⟨s1,h1,s5,h5,s7,s8,fT,vY⟩;refine bu 28 s.cells.length (λi S H=>S 1=.box 1 0/\H 1=some (av s)/\S 5=.box 5 0/\H 5=some (br s aw)/\S 7=.int .i64 (most:Nat)/\S 8=grow 103 (aY ((gD (iN s aw) most i).map dI))/\S 27=.int .i64 s.cells.length/\S 28=.int .i64 (i:Nat)) (λi S H h=>h.2.2.2.2.2.2.2) ⟨s1,h1,s5,h5,s7,by rw[s8]<;>rfl,fT,vY⟩ ?_;clear s1 h1 s5 h5 s7 s8 fT vY S H;rintro i hi S H ⟨s1,h1,s5,h5,s7,s8,fT,vY⟩
   by_cases aq:i<s.cells.length
   case neg=>
    have di:i=s.cells.length:=zo
    subst di;simp[s1,h1,s5,h5,s7,s8,fT,vY]
   have hw:IntKind.i64.wrap ((i:Int)+1)=i+1:=aT zo
   have ln:IntKind.i64.wrap ((most:Int)+1)=((most+1:Nat):Int):=by rw[aT zo];omega
   have xZ:=G1 (iN s aw) most i
   have hlen:(aY ((gD (iN s aw) most i).map dI)).length<=i:=by
    simp only[aY,adn];have:=agU (λk=>if iN s aw k<=most then some (k,iN s aw k)else none) (List.range i);simpa[gD]using this
   have bX:=vk ((gD (iN s aw) most i).map dI);have hh:=abL i aq
   have ZO:((most+1:Nat):Int)=(most:Int)+1:=zo
   rw[ZO]at hh ln;simp[s1,h1,s5,h5,s7,s8,fT,vY,aq,ln,hvw,aaA];refine⟨_,zk,hh,λ_=>rfl,?_⟩
   by_cases wj:iN s aw i<=most
   .rw[if_pos wj]at xZ
    have hE:aY ((gD (iN s aw) most (i+1)).map dI)=aY ((gD (iN s aw) most i).map dI)++[.agg [.int .i64 (i:Nat),.int .i64 (iN s aw i:Nat)]]:=by
     rw[xZ,adL];unfold aY
     rw[adL]<;>rfl
    rw[hE];have k3:aG 2 [AV.agg [.int .i64 (i:Nat),.int .i64 (iN s aw i:Nat)]]=true:=rfl;generalize aY ((gD (iN s aw) most i).map dI)=L at s8 hlen bX⊢
    cases L with
    |nil=>
     have wg:grow 103 []=.slice .nil []:=rfl;simp[s1,h1,s5,h5,s7,s8,fT,vY,wj,wg,hw,bI,k3]
     try rfl
    |cons y L=>
     have wg:grow 103 (y::L)=.slice (.own 103) (y::L):=rfl
     have Tl:∀z,grow 103 (y::(L++[z]))=.slice (.own 103) (y::(L++[z])):=λ_=>rfl
     have nq:L.length+1+1<1048576:=by simp at hlen;omega
     simp[s1,h1,s5,h5,s7,s8,fT,vY,wj,wg,Tl,hw,bI,k3,bX,nq]
   .rw[if_neg wj,ael]at xZ;rw[xZ]
    have ZY:∀L,grow 103 L=.slice (if L=[]then .nil else .own 103) L:=λ_=>rfl
    simp[s1,h1,s5,h5,s7,s8,fT,vY,wj,hw,ZY]
  .clear s1 h1 s5 h5 s7 s8 S H;rintro S H ⟨s1,h1,s8⟩
   cases hv:(eG s).isEmpty with
   |true=>
    have pE:eG s=[]:=by simpa using hv
    rw[pE]at sO;simp[s1,h1,av,ai];refine oc Ko ?_;simp;refine⟨_,zk,sO,by simp[cW,rE],?_⟩;simp
   |false=>
    have pE:eG s≠[]:=by intro h;rw[h]at hv;cases hv
    have uw:(((eG s).length:Int)==0)=false:=by
     have:(eG s).length≠0:=λh=>pE (ad1 h)
     rw[ad4];omega
    obtain⟨c,q1,q2⟩:=M6 hg hp hv;rw[IG]at q2;obtain⟨x,l,EE⟩:=Nz (p:=qk s aw) (f:=iN s aw) (most:=most) (m:=s.cells.length) (λj _=>by unfold iN;rw[IG];exact Ee _ _) q1 (adl _) q2
    have pF:=acg hG (dI x) (l.map dI) (by
     have h1:=congrArg List.length EE;have:=agU (λk=>if iN s aw k<=most then some (k,iN s aw k)else none) (List.range s.cells.length);simp[gD]at h1 this
     simp;omega)
    rw[yy]at pF
    have eF:dI x::l.map dI=(gD (iN s aw) most s.cells.length).map dI:=by rw[EE]<;>rfl
    have iD:grow 103 (aY ((gD (iN s aw) most s.cells.length).map dI))=.slice (.own 103) (aY ((gD (iN s aw) most s.cells.length).map dI)):=by rw[EE]<;>rfl
    rw[iD]at s8;rw[eF]at pF;rw[EE];generalize aY ((gD (iN s aw) most s.cells.length).map dI)=L at s8 pF
    obtain⟨q,hq⟩:∃q,rY x l=q:=⟨_,rfl⟩
    rw[hq]at pF;simp[s1,h1,s8,av,ai];refine oc Ko ?_;simp[s8];refine⟨_,zk,sO,by simp[cW,rE],?_⟩;simp[s8,pE,uw,aY];refine oc pF ?_;simp[b_,dI,bI,hq]
 .rw[ho]at kS
  have B1:x_ s=[.int .i64 0,.int .i64 0,.int .i64 e]:=by
   rcases vz s e he ho with⟨h1,rfl⟩|⟨h1,h2,rfl⟩
   .simp[x_,h1]
   .simp[x_,h1,h2]
  rw[B1]
  have oA:(e !=0)=true:=by simpa using he
  refine cw hG func24 ntmps24 c24 ?_;simp[c24,bm,av,ai];refine oc pv ?_;simp;refine oc kS ?_;simp[dO,br,av,ai,zT,bI,he,oA]
def qB(s p:List UInt8):Bool:=decide (p.length<=s.length)&&(s.take p.length==p)
def FO{s p:List UInt8}:qB s p=true↔∃u,s=p++u:=by
 unfold qB;rw[adk,adr,adY]
 constructor
 .rintro⟨h1,h2⟩;exact⟨s.drop p.length,by conv=>lhs;rw[<-aeC p.length s,h2]⟩
 .rintro⟨u,rfl⟩;simp
def Yb(hG:ar GI)(s p:List UInt8):AC prog GI 126 [.str s,.str p] (.ret (.bool (qB s p))):=by
 unfold qB;refine cw hG func126 ntmps126 c126 ?_
 by_cases h:p.length<=s.length
 .simp[c126,h,bound]
 .simp[c126,h,bound]
def WN(hG:ar GI)(s p:List UInt8):AC prog GI 89 [.str s,.str p] (.ret (.bool (qB s p))):=by
 have a:=Yb (GI:=GI) hG s p
 generalize qB s p=b at*
 refine cw hG func89 ntmps89 c89 ?_;simp[c89];refine oc a ?_;simp
def T9:List UInt8:=[101,110,100,32]
def gB(s:List UInt8):Bool:=qB s T9
def aci(hG:ar GI)(s:List UInt8):AC prog GI 88 [.str s] (.ret (.bool (gB s))):=by
 have a:AC prog GI 89 [.str s,.str [101,110,100,32]] (.ret (.bool (gB s))):=WN (GI:=GI) hG s T9
 generalize gB s=b at*
 refine cw hG func88 ntmps88 c88 ?_;simp[c88];refine oc a ?_;simp
def acO(hG:ar GI)(l:List (List UInt8))(hl:l.length<1000000):AC prog GI 87 [strs l,.func (.func 88) [] []] (.ret (.int .i64 (firstT gB l))):=by
 refine cw hG func87 ntmps87 c87 ?_;simp[c87,strs];refine bu 8 l.length (λi S H=>S 0=strs l/\S 1=_/\S 7=.int .i64 l.length/\S 8=.int .i64 (i:Nat)/\∀j (hj:j<l.length),j<i->gB l[j]=false) (λi S H h=>h.2.2.2.1) ⟨by simp[strs],by simp<;>rfl,ahi,ahi,λj _ h=>absurd h (ago _)⟩ ?_;rintro i hi S H ⟨s0,s1,s7,s8,hb⟩
 by_cases aq:i<l.length
 .have hw:IntKind.i64.wrap ((i:Int)+1)=i+1:=aT zo;have hx:=aci (GI:=GI) hG l[i];cases hp:gB l[i]
  .simp[s0,s1,s7,s8,aq,strs];refine oc hx ?_;simp[s0,s1,s7,s8,aq,hp,hw,strs];intro j hj fD
   by_cases Dy:j=i
   .subst Dy;exact hp
   .exact hb j hj zo
  .simp[s0,s1,s7,s8,aq,strs];refine oc hx ?_;simp[s0,s1,s7,s8,aq,hp,hw];exact mQ aq hp hb
 .have di:i=l.length:=zo
  subst di;simp[s0,s1,s7,s8]
  exact kG λj hj=>hb j hj hj
def qf{s:az}(h:dn s=true):bl s.name=true:=by
 unfold dn at h;rw[adk]at h;exact h.2
def su{s:az}(h:dn s=true):rl s:=by
 unfold dn j3 da at h;simp only[adk,adr,aeh,aeg]at h;obtain⟨⟨⟨⟨⟨⟨⟨h1,h2⟩,hc⟩,h3⟩,h4⟩,h5⟩,h6⟩,_⟩:=h;refine⟨?_,λc xk=>?_⟩
 .intro n hn;simp only[e_,adT,aeq,agv]at hn
  rcases hn with rfl|rfl|rfl|rfl<;>exact⟨zo,zo⟩
 .have:=hc c xk;simp at this;exact⟨⟨zo,zo⟩,⟨zo,zo⟩⟩
def Wf(hG:ar GI)(s:az)(hs:fW s)(h:dn s=false):AC prog GI 8 [bm s] (.ret (.dR [.str [],.int .i64 2])):=by
 have a:=rk hG s hs;rw[h]at a;refine cw hG func8 ntmps8 c8 ?_;simp[c8,bm,av,ai];refine⟨_,zk,a,λ_=>rfl,?_⟩;simp
def VC(hG:ar GI)(hT:TB GI)(s:az)(hs:fW s)(h:dn s=true)(hl:(lj s).length<1000000):AC prog GI 8 [bm s] (.ret (.dR [.str (lj s),.int .i64 0])):=by
 have a:=rk hG s hs;rw[h]at a;have b:=KE hG hT s.name hs.name (qf h)
 have c:=Xf hG s (su h) (by
  unfold dn da at h;simp only[adk,adr]at h
  omega)
 unfold lj at hl⊢;rw[adC]at hl
 generalize iM s.name=t at*
 generalize ic s=x at*
 have hl:x.length+t.length<1073741824:=zo
 refine cw hG func8 ntmps8 c8 ?_;simp[c8,bm,av,ai];refine⟨_,zk,a,λ_=>rfl,?_⟩;simp;refine oc b ?_;simp;refine oc c ?_;simp[hl]
end Go.Proofs.Tryz
