/- A part of the proof. -/
import Derived.Test.YtajdcjkalbbogaaGreatDoorSl2
import Derived.Test.YtajdcjkalbbogaaGreatDoorTie
import Derived.Test.YtajdcjkalbbogaaGreatDoorCards
set_option maxRecDepth 100000
set_option maxHeartbeats 8000000
set_option linter.all false
namespace Go.Proofs.Tryz
open Go Go.AL Go.RowKit Go.Proofs Go.Proofs.Tram
attribute [local simp] ez fF fo eN eM ea eb dG dH eU dI da gZ g_ aF aD ev aP.S aP.H bt au aW AL.start AV.cells AV.storable AV.ct bC cb dU cd HR.okB post cH db c_ AV.out AV.b_ cU d_ fz ia AV.vw cW vI int cy aN di dQ iC jw eP dW bD AV.aI AV.cI
variable{GI:World->Prop}
def uw(s:aw)(i:Nat):Bool:=match s.cells[i]? with|some c=>c.hid|none=>false
def lH(s:aw):Nat:=(s.pos-s.reach).toNat
def gI(s:aw)(i:Nat):Bool:=decide (lH s<=i)&&(decide (i<s.pos.toNat)&&!uw s i)
def oD(s:aw)(i:Nat):List (Int×Value):=(List.range' (lH s) (i-lH s)).map λj:Nat=>((j:Int),Value.bool (!uw s j))
def eL(s:aw):List End:=(gv (gI s) s.cells.length).map λv=>((v.1:Int),(v.2:Int))
def Qs(s:aw){i:Nat}:oN (i:Int) (oD s i) 0=none:=Bf λx hx=>by
 obtain⟨j,hj,rfl⟩:=adZ.1 hx;have:=af0.1 hj;simp only;omega
def NZ(s:aw){i:Nat}(h:lH s<=i):oD s (i+1)=oD s i++[((i:Int),Value.bool (!uw s i))]:=by
 unfold oD
 have e:lH s+1*(i-lH s)=i:=zo
 rw[show i+1-lH s=(i-lH s)+1 by omega,agh,ad6,e]
 rfl
def zv(f:Nat->Bool)(i:Nat):∀(n a k:Nat),((oN (i:Int) ((List.range' a n).map λj:Nat=>((j:Int),Value.bool (f j))) k).map (·.2)).getD (.bool false)=.bool (decide (a<=i)&&(decide (i<a+n)&&f i))
 |0,a,k=>by
  have:¬(a<=i/\i<a+0):=zo
  simp[oN];intro h1 h2;omega
 |n+1,a,k=>by
  rw[aff,adU];unfold oN
  by_cases h:i=a
  .subst h;simp
  .have hb:((i:Int)==(a:Int))=false:=by simp;omega
   rw[hb];simp only[adM,ad1];rw[zv f i n (a+1) (k+1)]
   congr 1
   rw[aep];simp
   constructor
   .rintro⟨h1,h2,h3⟩;exact⟨zo,zo,h3⟩
   .rintro⟨h1,h2,h3⟩;exact⟨zo,zo,h3⟩
def Oo(s:aw)(hp:lH s<=s.pos.toNat)(i:Nat):((oN (i:Int) (oD s s.pos.toNat) 0).map (·.2)).getD (.bool false)=.bool (gI s i):=by
 unfold oD;rw[zv (λj=>!uw s j)]
 congr 1
 unfold gI;rw[show lH s+(s.pos.toNat-lH s)=s.pos.toNat by omega]
def IB(b:Nat):Value:=.map (some b)
def Ge{α β:Type}[BEq α][LawfulBEq α]{t:α}{v:β}:∀{l:List (α×β)},l.lookup t=some v->(t,v)∈l
 |[],h=>by cases h
 |(a,b)::l,h=>by
  rw[List.lookup_cons]at h
  by_cases ht:(t==a)=true
  .rw[ht]at h;have:=eq_of_beq ht;cases h;subst this;exact adX
  .have uR:(t==a)=false:=by simpa using ht
   rw[uR]at h;exact adO _ (Ge h)
def dN(s:aw)(i:Nat):Nat×List (Nat×Nat):=(List.range i).foldl (eX (gI s)) (0,[])
def o9(s:aw)(i:Nat):dN s (i+1)=eX (gI s) (dN s i) i:=by
 unfold dN;rw[aeV,aeJ]
 rfl
def DF(s:aw):∀(d i:Nat),∃t,(dN s (i+d)).2=(dN s i).2++t
 |0,i=>⟨[],ahB⟩
 |d+1,i=>by
  obtain⟨t,ht⟩:=DF s d i;rw[show i+(d+1)=i+d+1 by omega,o9];unfold eX;split
  .exact⟨t,ht⟩
  .simp only;split
   .exact⟨t++[((dN s (i+d)).1,i+d-1)],by rw[ht,aek]⟩
   .exact⟨t,ht⟩
def FK(s:aw):∀i,(dN s i).1<=i
 |0=>adF _
 |i+1=>by
  rw[o9];unfold eX;have:=FK s i;split
  .omega
  .simp
variable{l:Nat}{xs:List AV}
def qY(l:Nat)(s:aw)(bM:Nat)(ex:List (Nat×AV)):an:=λt=>if t=0 then .val (.func (.yield l) #[] #[])else if t=1 then .ref (az s)else if t=3 then .val (IB bM)else match ex.lookup t with|some v=>v|none=>.bp
structure VS(C:Cons prog GI l xs)(s:aw)(cX:Value)(bM:Nat)(ex:List (Nat×AV))(l':List (Int×Value))(k:Nat)(a:Act)(w:World):Prop where
 size:a.tmps.size=54
 defers:a.defers=[]
 t0:a.tmps.getD 0 undef=.func (.yield l) #[] #[]
 t1:a.tmps.getD 1 undef=cX
 t3:a.tmps.getD 3 undef=IB bM
 ex:∀p∈ex,4<=p.1/\iF p.2=true/\RD (λ_ _=>False) w p.2 (a.tmps.getD p.1 undef)
 st:∃M Pr,C.J k M Pr w/\(∀b,M b->b<w.heap.size)/\M bM/\(∃es clock,w.heap[bM]?=some (.map es clock)/\Bx (.int .i64) es l')/\RD Pr w (.ref (az s)) cX
variable{C:Cons prog GI l xs}{s:aw}{cX:Value}{bM:Nat}{ex y7:List (Nat×AV)}{l':List (Int×Value)}{k:Nat}{a:Act}{w:World}
def VS.jg(h:VS C s cX bM ex l' k a w):∀t,t<54->(qY l s bM ex t).aI=qY l s bM ex t/\RV (λb _=>b≠bM) cQ w (qY l s bM ex t) (a.tmps.getD t undef):=by
 intro t ht;obtain⟨M,Pr,hj,aq,hM,_,hx⟩:=h.st;unfold qY
 by_cases t0:t=0
 .subst t0;simp only[aed];rw[h.t0];exact⟨rfl,.data _ _ (.val _ rfl)⟩
 rw[if_neg t0]
 by_cases t1:t=1
 .subst t1;simp only[aed];rw[h.t1];exact⟨rfl,.data _ _ (hx.mono (bg.same λb k _ hp=>by rintro rfl;exact C.apart hj _ k hM hp))⟩
 rw[if_neg t1]
 by_cases t3:t=3
 .subst t3;simp only[aed];rw[h.t3];exact⟨rfl,.data _ _ (.val _ rfl)⟩
 rw[if_neg t3]
 cases hl:ex.lookup t with
 |none=>exact⟨rfl,.bp _⟩
 |some v=>
  have hm:(t,v)∈ex:=Ge hl;obtain⟨_,h2,h3⟩:=h.ex _ hm;refine⟨?_,.data _ _ (h3.iF h2)⟩
  cases v<;>first|rfl|cases h2
def VS.grow (h:VS C s cX bM ex l' k a w) {a':Act} {w':World} (hb:Below w.heap.size w w') (bl:a'.tmps.size=54) (eR:a'.defers=[]) (h0:∀ t,t < 4→a'.tmps.getD t undef=a.tmps.getD t undef)
  (hex:∀p∈y7,4<=p.1/\iF p.2=true/\RD (λ_ _=>False) w' p.2 (a'.tmps.getD p.1 undef)):VS C s cX bM y7 l' k a' w':=by
 obtain⟨M,Pr,hj,aq,hM,⟨es,clock,hm,he⟩,hx⟩:=h.st
 refine⟨bl,eR,(h0 0 zd).trans h.t0,(h0 1 zd).trans h.t1,(h0 3 zd).trans h.t3,hex,M,Pr,C.dS hj (l8.vX hb) λb il=>⟨aet (aq b il) hb.size,.inl il⟩,λb il=>aet (aq b il) hb.size,hM,
  ⟨es,clock,(hb.block bM (aq bM hM)).trans hm,he⟩,hx.mono (bg.ja (λb h=>hb.block b h) λ_ _ _ h=>h)⟩
def W4:Nat->Bool:=λt=>decide (4<=t)
def VS.region (hG:ar GI) {C:Cons prog GI l xs} (h:VS C s cX bM ex l' k a w) {id:Nat} {ops:Array Oper} {ac:af} {Q:Exit→Act→World→Prop} {m:Nat} (hc:kW (.region id ops false)=true) (oL:dK prog 54 (.region id ops false)=ac) (hW:jQ ops W4=true)
  (y7:List (Nat×AV)) (hs:y7.all (λp=>decide (4<=p.1)&&(decide (p.1<54)&&iF p.2))=true) (Aj:bB prog GI ac (aN λS' _=>∀p∈y7,S' p.1=p.2) (qY l s bM ex) (λ_=>none)) (hk:∀a' w',VS C s cX bM y7 l' k a' w'->Q .normal a' w'):(Code.region id ops false).wpIn (FR none) m prog Q a w:=by
 obtain⟨M,Pr,hj,aq,hM,NP,hx⟩:=h.st;refine cL hG de hc oL hW (C.gi hj) (λb _=>b≠bM) (qY l s bM ex) h.size h.defers h.jg Aj ?_;intro g S' H' a' w' hg R1 hK bn;refine hk a' w' (h.grow (by have:=R1.below;rwa [R1.base]at this) R1.size (by rw[R1.defers,hg];rfl) (λt ht=>bn t (by simp[W4];omega)) λp hp=>?_);have u9:=adQ.1 hs p hp;simp only[adE,adL]at u9;refine⟨u9.1,u9.2.2,?_⟩;have r:=R1.slot p.1 u9.2.1 (λh=>h);rw[hK p hp]at r;exact(r.dX (by have:=u9.2.2;revert this;cases p.2<;>simp[Go.AL.iF,AV.b_])).iF u9.2.2
def VS.bool(h:VS C s cX bM ex l' k a w){t:Nat}{b:Bool}(hm:(t,AV.bool b)∈ex):a.tmps.getD t undef=.bool b:=(RV.data (al:=cQ) _ _ (h.ex _ hm).2.2).fN
def VS.int(h:VS C s cX bM ex l' k a w){t:Nat}{b:Int}(hm:(t,AV.int .i64 b)∈ex):a.tmps.getD t undef=.int .i64 b:=(RV.data (al:=cQ) _ _ (h.ex _ hm).2.2).int_eq
def VS.aU (h:VS C s cX bM ex l' k a w) {a':Act} {w':World} (N:Nat) (hN:4≤N) (hb:Below w.heap.size w w') (bl:a'.tmps.size=54) (eR:a'.defers=[]) (h0:∀ t,t < N→a'.tmps.getD t undef=a.tmps.getD t undef)
  (hex:ex.all (λp=>decide (p.1<N))=true):VS C s cX bM ex l' k a' w':=
 h.grow hb bl eR (λt ht=>h0 t zo) λp hp=>by
  obtain⟨q1,q2,q3⟩:=h.ex p hp;have:=adQ.1 hex p hp;rw[h0 p.1 (by simpa using this)];exact⟨q1,q2,q3.iF q2⟩
def VS.sub(h:VS C s cX bM ex l' k a w)(acO:∀p∈y7,p∈ex):VS C s cX bM y7 l' k a w:=
 ⟨h.size,h.defers,h.t0,h.t1,h.t3,λp hp=>h.ex p (acO p hp),h.st⟩
def VS.put(h:VS C s cX bM ex l' k a w)(t:Nat)(v:Value)(ht:4<=t)(hex:ex.all (λp=>p.1 !=t)=true):VS C s cX bM ex l' k (a.put (some t) v) w:=by
 have fx:∀k,k≠t->(a.put (some t) v).tmps.getD k undef=a.tmps.getD k undef:=λk hk=>by
  simp[Act.put,adN (aeq hk)]
 refine⟨by simp[Act.put,h.size],h.defers,(fx 0 zo).trans h.t0,(fx 1 zo).trans h.t1,(fx 3 zo).trans h.t3,λp hp=>?_,h.st⟩;have:=adQ.1 hex p hp;rw[fx p.1 (by simpa using this)];exact h.ex p hp
noncomputable def P8:af:=af.qb c113.qb.qa.qb.qb
noncomputable def zt:af:=af.qb c113.qb.qb.qb.qb.qb
def Nj(hG:ar GI)(s:aw)(h:iN s):yp prog GI 113 [.ref (az s)] ((eL s).map bX):=by
 intro l C w Pr bT hJ hlen hr;obtain⟨cX,rfl⟩:∃cX,bT=#[cX]:=su (by simpa using hlen.symm);have X6:=hr 0 ahB ahB;simp only[List.getElem_cons_zero,List.getElem_toArray]at X6;refine(iV (ro:=none) (m:=0)).1 (ag2 func113 rfl trivial ?_);refine ik (λa=>a.tmps.size=54/\a.defers=[]/\a.tmps.getD 0 undef=.func (.yield l) #[] #[]/\a.tmps.getD 1 undef=cX) ⟨by simp[ntmps113],rfl,cJ _ _ 0 ahB,cJ _ _ 1 ahB⟩ ?_;rintro a ⟨bl,eR,e0,e1⟩
 have fx:∀(a:Act)(d t:Nat)(c:Value),t≠d->(a.put (some d) c).tmps.getD t undef=a.tmps.getD t undef:=λa d t c h=>by
  simp[Act.put,adN (aeq h)]
 have jL:∀(a:Act)(d:Nat)(c:Value),a.tmps.size=54->d<54->(a.put (some d) c).tmps.getD d undef=c:=λa d c h hd=>by
  simp[Act.put,h,hd]
 have kn:∀(a:Act)(d:Option Nat)(c:Value),(a.put d c).tmps.size=a.tmps.size:=λa d c=>by cases d<;>simp[Act.put]
 refine adT (aea ?_);show wpOpsIn _ _ _ _ _ [0,1] a w;refine bf rfl rfl zr (run_makeMap (t:=167) rfl) ?_
 obtain⟨bM,WE⟩:∃b,w.heap.size=b:=⟨_,rfl⟩
 obtain⟨w1,mR⟩:∃w1,w.alloc (.map #[] 0)=w1:=⟨_,rfl⟩
 have s1:w1.heap.size=bM+1:=by rw[<-mR];simp[WE]
 have n1:w1.heap[bM]?=some (.map #[] 0):=by rw[<-mR,<-WE];exact aew w _
 have b1:Below w.heap.size w w1:=by rw[<-mR];exact(aeC _ _).alloc (adF _) _
 show wpOpsIn _ _ _ _ _ [1] (a.put (some 7) (.map (some w.heap.size))) (w.alloc (.map #[] 0));rw[mR,WE];have h7:(a.put (some 7) (.map (some bM))).eval (.tmp 7)=.map (some bM):=jL _ _ _ bl zd;refine bf rfl rfl zr (run_assign (x:=.tmp 7) w1 rfl) ?_;rw[h7];show Code.wpIn _ _ _ _ _ ((a.put (some 7) (.map (some bM))).put (some 3) (.map (some bM))) w1
 have vs:VS C s cX bM [] [] 0 ((a.put (some 7) (.map (some bM))).put (some 3) (.map (some bM))) w1:=by
  refine⟨by rw[kn,kn];exact bl,eR,by rw[fx _ _ _ _ zd,fx _ _ _ _ zd];exact e0,by rw[fx _ _ _ _ zd,fx _ _ _ _ zd];exact e1,jL _ _ _ (by rw[kn];exact bl) zd,λp hp=>(by cases hp),λb=>b=bM,Pr,C.dS hJ (l8.vX b1) λb hb=>?_,λb hb=>?_,rfl,⟨#[],0,n1,rfl,λi hi=>(by simp at hi)⟩,?_⟩
  .exact⟨zo,.inr zo⟩
  .omega
  .exact(X6.dX rfl).mono (bg.ja (λb h=>b1.block b h) λ_ _ _ h=>h)
 generalize(a.put (some 7) (.map (some bM))).put (some 3) (.map (some bM))=a1 at vs⊢;clear h7 e0 e1 eR bl n1 s1 b1 mR WE hJ hr X6 hlen a
 obtain⟨p,hp⟩:∃p:Nat,s.pos=p:=⟨s.pos.toNat,by have:=h.pos;omega⟩
 have SC:s.pos.toNat=p:=zo
 have iJ:=h.pos;have adb:=h.reach;have nH:=h.cells
 have Vu:lH s<=p:=by unfold lH;omega
 have pZ:IntKind.i64.wrap (s.pos-s.reach)=s.pos-s.reach:=aQ zo
 have ab7:max 0 (s.pos-s.reach)=(lH s:Int):=by unfold lH;omega
 have ade:(if s.pos-s.reach<=0 then(0:Int)else s.pos-s.reach)=(lH s:Int):=by unfold lH;split<;>omega
 refine adT (adT ?_);refine vs.region hG (ac:=af.qa c113.qb.qa) zk zk zk [(4,.int .i64 (lH s))] rfl ?_ ?_
 .simp[c113,af.qa,af.qb,qY,List.lookup,az,pZ];exact ab7
 clear vs;intro a w vs
 have Tk:VS C s cX bM [(4,.int .i64 ((lH s:Nat):Int))] (oD s (lH s)) 0 a w:=by
  have:oD s (lH s)=[]:=by simp[oD]
  rw[this];exact vs
 clear vs;show Code.wpIn _ _ _ _ _ a w;refine ae9 (ahi (λa w=>∃i,lH s<=i/\i<=p/\VS C s cX bM [(4,.int .i64 (i:Nat))] (oD s i) 0 a w) (λa _=>match a.tmps.getD 4 undef with|.int _ i=>p-i.toNat|_=>0) ⟨lH s,adF _,Vu,Tk⟩ ?_);clear Tk a w;rintro a w ⟨i,hli,yE,vs⟩;have h4:a.tmps.getD 4 undef=.int .i64 (i:Nat):=vs.int ahB;refine adT (adT ?_);refine vs.region hG (ac:=af.qa P8.qa) zk zk zk [(4,.int .i64 (i:Nat)),(17,.bool (decide (i<p)))] rfl ?_ ?_
 .simp[c113,P8,af.qa,af.qb,qY,List.lookup,az,hp]
 clear vs;intro a2 w2 vs;show Code.wpIn _ _ _ _ _ a2 w2;refine aeB (t:=decide (i<p)) (vs.bool ahB) ?_
 by_cases aq:i<p
 case neg=>
  simp only[aq,agP,adM,ad1];refine afS ?_
  have acr:i=p:=zo
  subst acr;show Code.wpIn _ _ _ _ _ a2 w2;clear hli yE h4 aq a w
  have Zd:oD s i=oD s s.pos.toNat:=by rw[SC]
  refine adT ?_;refine vs.region hG (ac:=af.qa c113.qb.qb) zk zk zk [(5,.int .i64 0)] rfl ?_ ?_
  .simp[c113,af.qa,af.qb,qY,List.lookup]
  clear vs;intro a w vs;show Code.wpIn _ _ _ _ _ a w;have hwn:IntKind.i64.wrap ((s.cells.length:Int)+1)=s.cells.length+1:=aQ zo;refine adT ?_;refine vs.region hG (ac:=af.qa c113.qb.qb.qb) zk zk zk [(5,.int .i64 ((0:Nat):Int)),(32,.int .i64 (s.cells.length+1)),(33,.int .i64 ((0:Nat):Int))] rfl ?_ ?_
  .simp[c113,af.qa,af.qb,qY,List.lookup,az,hwn]
  clear vs;intro a w vs;show Code.wpIn _ _ _ _ _ a w;refine ae9 (ahi (λa w=>∃j,j<=s.cells.length+1/\VS C s cX bM [(5,.int .i64 ((dN s j).1:Nat)),(32,.int .i64 (s.cells.length+1)),(33,.int .i64 (j:Nat))] (oD s i) (dN s j).2.length a w) (λa _=>match a.tmps.getD 33 undef with|.int _ j=>s.cells.length+1-j.toNat|_=>0) ⟨0,aeu _,vs⟩ ?_);clear vs a w;rintro a w ⟨j,hj,vs⟩;have h33:a.tmps.getD 33 undef=.int .i64 (j:Nat):=vs.int ahB;refine adT ?_;refine vs.region hG (ac:=af.qa zt) zk zk zk [(5,.int .i64 ((dN s j).1:Nat)),(32,.int .i64 (s.cells.length+1)),(33,.int .i64 (j:Nat)),(34,.bool (decide (j<s.cells.length+1)))] rfl ?_ ?_
  .simp[c113,zt,af.qa,af.qb,qY,List.lookup];omega
  clear vs;intro a3 w3 vs;show Code.wpIn _ _ _ _ _ a3 w3;refine adT (aeB (t:=decide (j<s.cells.length+1)) (vs.bool ahB) ?_)
  by_cases qP:j<s.cells.length+1
  case neg=>
   simp only[qP,agP,adM,ad1];refine afS ?_
   have M5:j=s.cells.length+1:=zo
   subst M5
   change bodyPost prog f113 (λe w'=>∃v M e_,e=Ending.returned v/\(C.J (List.map bX (eL s)).length M e_ w'\/C.X M e_ w')) .normal a3 w3
   obtain⟨M,e_,dZ,_⟩:=vs.st
   have hl:((eL s).map bX).length=(dN s (s.cells.length+1)).2.length:=by simp[eL,gv,dN]
   refine⟨vs.defers,.tuple #[],?_,.tuple #[],M,e_,rfl,.inl (by rw[hl];exact dZ)⟩;simp[results,results113]
  simp only[qP,agX,aed];refine afb ?_;show Code.wpIn _ _ _ _ _ a3 w3;refine adT (afo (Q:=λe a w=>(e=.normal/\VS C s cX bM [(5,.int .i64 ((dN s (j+1)).1:Nat)),(32,.int .i64 (s.cells.length+1)),(33,.int .i64 (j:Nat))] (oD s i) (dN s (j+1)).2.length a w)\/(e=.ret/\a.defers=[]/\∃M Pr,C.X M Pr w)) ?_ ?_)
  .refine ae9 ?_;refine adT ?_;refine vs.region hG (ac:=af.qa zt.qb.qb.qa.qb) zk zk zk [(5,.int .i64 ((dN s j).1:Nat)),(32,.int .i64 (s.cells.length+1)),(33,.int .i64 (j:Nat)),(6,.int .i64 (j:Nat))] rfl ?_ ?_
   .simp[c113,zt,af.qa,af.qb,qY,List.lookup]
   clear vs;intro a4 w4 vs;show Code.wpIn _ _ _ _ _ a4 w4;refine adT (adT ?_);obtain⟨M,e_,dZ,uu,hM,⟨es,clock,hm,he⟩,hx⟩:=vs.st
   refine lI hG (GI:=GI) (p:=2) (l2:=[2]) rfl zk zk (l:=(zt.qb.qb.qa.qb.qb.qa.qa.dl).take 2) zk zd (W:=λt=>decide (36<=t)) zk (C.gi dZ) (λb _=>b≠bM) (qY l s bM [(5,.int .i64 ((dN s j).1:Nat)),(32,.int .i64 (s.cells.length+1)),(33,.int .i64 (j:Nat)),(6,.int .i64 (j:Nat))]) vs.size vs.defers vs.jg
    (K:=λS _=>S 36=.val (IB bM)/\S 37=.int .i64 (j:Nat)) ?_ ?_
   .simp[c113,zt,af.qa,af.qb,af.dl,qY,List.lookup]
   intro g S' H' a5 w5 hg R1 ⟨q36,q37⟩ bn
   have N9:Below w4.heap.size w4 w5:=by have:=R1.below;rwa [R1.base]at this
   have e36:a5.eval (.tmp 36)=.map (some bM):=by
    have:=R1.slot 36 zd (λh=>h);rw[q36]at this;exact this.iA
   have e37:a5.eval (.tmp 37)=.int .i64 (j:Nat):=vT R1 zd q37;have G6:=vs.aU 36 zd N9 R1.size (by rw[R1.defers,hg];rfl) (λt ht=>bn t (by simp;omega)) rfl;have hm5:w5.heap[bM]?=some (.map es clock):=(N9.block bM (uu bM hM)).trans hm
   have hmt:prog.underlying 167=some (.map 3 4):=zk
   have ZQ:prog.underlying 3=some (.int .i64):=zk
   obtain⟨i4,Zg,QJ⟩:=ae7.1 (show(prog.info? 4).bind (·.zero)=some (.bool false) by kernel_rfl);refine bf rfl rfl zr (v:=.bool (gI s j)) (w':=w5) ((HN (t:=167) (x1:=.tmp 36) (x2:=.tmp 37) rfl hmt ZQ Zg QJ e36 e37 hm5 he).trans (congrArg (λv=>Result.ok (Next.value v) w5) (by rw[Zd];exact Oo s zo j))) ?_;show Code.wpIn _ _ _ _ _ (a5.put (some 38) (.bool (gI s j))) w5;have Hf:=G6.put 38 (.bool (gI s j)) zd rfl;have Hq:(a5.put (some 38) (.bool (gI s j))).tmps.getD 38 undef=.bool (gI s j):=jL _ _ _ G6.size zd;generalize a5.put (some 38) (.bool (gI s j))=a6 at Hf Hq⊢;clear vs G6 dZ uu hM hm he hx M e_ es clock N9 R1 bn hg q36 q37 e36 e37 hm5;refine aeB (t:=gI s j) Hq ?_
   cases hsj:gI s j with
   |true=>
    simp only[aed]
    have hf:dN s (j+1)=dN s j:=by rw[o9];unfold eX;rw[if_pos hsj]
    refine afS (.inl ⟨rfl,?_⟩);rw[hf]
    exact Hf.sub λq hq=>by simp at hq⊢;rcases hq with rfl|rfl|rfl<;>simp
   |false=>
    simp only[adM,ad1];refine afb ?_;show Code.wpIn _ _ _ _ _ a6 w5;have oG:=FK s j
    have hf:dN s (j+1)=(j+1,if(dN s j).1<j then(dN s j).2++[((dN s j).1,j-1)]else(dN s j).2):=by
     rw[o9];unfold eX;rw[if_neg (by rw[hsj];simp)]
    refine adT (afo (Q:=λe a w=>(e=.normal/\VS C s cX bM [(5,.int .i64 ((dN s j).1:Nat)),(32,.int .i64 (s.cells.length+1)),(33,.int .i64 (j:Nat)),(6,.int .i64 (j:Nat))] (oD s i) (dN s (j+1)).2.length a w)\/(e=.ret/\a.defers=[]/\∃M Pr,C.X M Pr w)) ?_ ?_)
    .refine adT ?_
     by_cases Wa:(dN s j).1<j
     case neg=>
      have QH:(dN s (j+1)).2=(dN s j).2:=by rw[hf];simp[Wa]
      refine Hf.region hG (ac:=af.qa zt.qb.qb.qa.qb.qb.qb.qa) zk zk zk [(5,.int .i64 ((dN s j).1:Nat)),(32,.int .i64 (s.cells.length+1)),(33,.int .i64 (j:Nat)),(6,.int .i64 (j:Nat)),(50,.bool false)] rfl ?_ ?_
      .have:¬((dN s j).1:Int)<j:=zo
       simp[c113,zt,af.qa,af.qb,qY,List.lookup,Wa]
      intro a7 w7 Co;show Code.wpIn _ _ _ _ _ a7 w7;refine aeB (t:=false) (Co.bool ahB) ?_;simp only[adM,ad1];refine afb (.inl ⟨rfl,?_⟩);rw[QH]
      exact Co.sub λq hq=>by simp at hq⊢;rcases hq with rfl|rfl|rfl|rfl<;>simp
     case pos=>
      have QH:(dN s (j+1)).2=(dN s j).2++[((dN s j).1,j-1)]:=by rw[hf];simp[Wa]
      obtain⟨M,e_,dZ,uu,hM,⟨es,clock,hm,he⟩,hx⟩:=Hf.st
      have X2:IntKind.i64.wrap ((j:Int)-1)=((j-1:Nat):Int):=by rw[aQ zo];omega
      have nc:((dN s j).1:Int)<j:=zo
      refine lI hG (GI:=GI) (p:=9) (l2:=[9,10,11]) rfl zk zk (l:=(zt.qb.qb.qa.qb.qb.qb.qa.qa.dl).take 9) zk zd (W:=λt=>decide (39<=t)) zk (C.gi dZ) (λb _=>b≠bM) (qY l s bM [(5,.int .i64 ((dN s j).1:Nat)),(32,.int .i64 (s.cells.length+1)),(33,.int .i64 (j:Nat)),(6,.int .i64 (j:Nat))]) Hf.size Hf.defers Hf.jg
       (K:=λS _=>S 42=.bool true/\S 43=.val (.func (.yield l) #[] #[])/\S 47=.agg [.int .i64 ((dN s j).1:Nat),.int .i64 ((j-1:Nat):Int)]) ?_ ?_
      .simp[c113,zt,af.qa,af.qb,af.dl,qY,List.lookup,Wa,X2,bH]
      intro g S' H' a7 w7 hg R1 ⟨q42,UW,q47⟩ bn
      have hb7:Below w5.heap.size w5 w7:=by have:=R1.below;rwa [R1.base]at this
      have e42:a7.tmps.getD 42 undef=.bool true:=by
       have:=R1.slot 42 zd (λh=>h);rw[q42]at this;exact this.fN
      have Ef:a7.eval (.tmp 43)=.func (.yield l) #[] #[]:=by
       have:=R1.slot 43 zd (λh=>h);rw[UW]at this;exact this.iA
      have e47:a7.eval (.tmp 47)=.agg #[.int .i64 ((dN s j).1:Nat),.int .i64 ((j-1:Nat):Int)]:=by
       have:=R1.slot 47 zd (λh=>h);rw[q47]at this;exact YU this
      have Co:=Hf.aU 39 zd hb7 R1.size (by rw[R1.defers,hg];rfl) (λt ht=>bn t (by simp;omega)) rfl;clear Hf dZ uu hM hm he hx M e_ es clock hb7 R1 bn hg q42 UW q47 Hq;obtain⟨M,e_,dZ,uu,hM,⟨es,clock,hm,he⟩,hx⟩:=Co.st;have XP:=Co.size
      have abx:a7.tmps[42]?=some (.bool true):=by
       have h2:a7.tmps[42]?=some (a7.tmps.getD 42 undef):=by simp[XP]
       rw[h2,e42]
      obtain⟨tl,Ax⟩:=DF s (s.cells.length+1-(j+1)) (j+1);rw[show j+1+(s.cells.length+1-(j+1))=s.cells.length+1 by omega,QH]at Ax
      have qU:(eL s).map bX=((dN s (s.cells.length+1)).2.map λv=>bX ((v.1:Int),(v.2:Int))):=by simp[eL,gv,dN]
      have Kq:(dN s j).2.length<((eL s).map bX).length:=by
       rw[qU,Ax];simp
      have Jd:((eL s).map bX)[(dN s j).2.length]=bX (((dN s j).1:Int),((j-1:Nat):Int)):=by
       have:((eL s).map bX)[(dN s j).2.length]?=some (bX (((dN s j).1:Int),((j-1:Nat):Int))):=by
        rw[qU,Ax];simp
       rw[adB Kq]at this;exact ad7 this
      have dh:RD (λb j=>e_ b j\/((λ_=>False) b/\j<(λ_=>0) b)) w7 ((eL s).map bX)[(dN s j).2.length] (a7.eval (.tmp 47)):=by
       rw[Jd,e47];refine .agg _ _ rfl (λi hi=>?_) (λi hi du=>?_)
       .match i,hi with
        |0,_|1,_=>rfl
       .match i,hi with
        |0,_|1,_=>exact .int _ _
      obtain⟨ff,tmps,Vt,bd,Jn,yY⟩:=C.round Kq (λ_=>False) (λ_=>0) _ dZ (λb hb=>hb.elim) dh;refine IN rfl (by simp[Region.wanted,yielded,C6,abx]) zr ((sM (f:=.tmp 43) (x:=.tmp 47) w7 rfl rfl rfl Ef).trans Jn) yY ?_;rintro e w8 ⟨Vf,Pr8,Ii,zl⟩
      have Ya:(dN s (j+1)).2.length=(dN s j).2.length+1:=by rw[QH];simp
      obtain⟨b,rfl,hT,hF⟩:∃b:Bool,e=.returned (.bool b)/\(b=true->VS C s cX bM [(5,.int .i64 ((dN s j).1:Nat)),(32,.int .i64 (s.cells.length+1)),(33,.int .i64 (j:Nat)),(6,.int .i64 (j:Nat))] (oD s i) (dN s (j+1)).2.length a7 w8)/\(b=false->∃M Pr,C.X M Pr w8):=by
       rcases zl with⟨rfl,hj8⟩|⟨rfl,hX8⟩
       .refine⟨true,rfl,λ_=>?_,λh=>(by cases h)⟩
        have O':∀b,M b->w8.heap[b]?=w7.heap[b]?:=λb hb=>Vf b hb (λh=>h)
        refine⟨Co.size,Co.defers,Co.t0,Co.t1,Co.t3,λq hq=>?_,λb=>M b/\¬(λ_=>False) b,Pr8,by rw[Ya];exact hj8,λb hb=>?_,⟨hM,λh=>h⟩,⟨es,clock,(O' bM hM).trans hm,he⟩,hx.mono Ii⟩
        .obtain⟨q1,q2,q3⟩:=Co.ex q hq;exact⟨q1,q2,q3.iF q2⟩
        .have h1:=O' b hb.1;rw[ad4 (uu b hb.1)]at h1;exact(adD.1 h1).1
       .exact⟨false,rfl,λh=>(by cases h),λ_=>⟨_,_,hX8⟩⟩
      refine⟨_,rfl,?_⟩;show wpOpsIn _ _ _ _ _ [10,11] (a7.put (some 48) (.bool b)) w8
      have z8:(a7.put (some 48) (.bool b)).tmps.size=54:=by rw[kn];exact XP
      have Sd:(a7.put (some 48) (.bool b)).eval (.tmp 48)=.bool b:=jL _ _ _ XP zd
      have h42:(a7.put (some 48) (.bool b)).tmps[42]?=some (.bool true):=by
       have h2:(a7.put (some 48) (.bool b)).tmps[42]?=some ((a7.put (some 48) (.bool b)).tmps.getD 42 undef):=by simp[z8]
       rw[h2,fx _ _ _ _ zd,e42]
      refine Oq rfl (by simp[Region.wanted,yielded,C6,h42]) zr (Q6 (x:=.tmp 48) rfl Sd) ?_;show wpOpsIn _ _ _ _ _ [11] ((a7.put (some 48) (.bool b)).put (some 49) (.bool !b)) w8;have h49:((a7.put (some 48) (.bool b)).put (some 49) (.bool !b)).eval (.tmp 49)=.bool !b:=jL _ _ _ z8 zd
      have aa0:((a7.put (some 48) (.bool b)).put (some 49) (.bool !b)).eval (.tmp 42)=.bool true:=by
       show Array.getD _ _ _=_;rw[fx _ _ _ _ zd,fx _ _ _ _ zd,e42]
      have z9:((a7.put (some 48) (.bool b)).put (some 49) (.bool !b)).tmps.size=54:=by rw[kn];exact z8
      have hpk:∀o:Oper,o.op=.pick (.tmp 42) (.tmp 49) (.const (.bool false))->(execOp ((a7.put (some 48) (.bool b)).put (some 49) (.bool !b)).eval o).run prog w8=.ok (.value (.bool !b)) w8:=by
       intro o ho;unfold execOp;simp[ho,aa0,h49,asBool]
      refine bf rfl rfl zr (hpk _ rfl) ?_;show Code.wpIn _ _ _ _ _ (((a7.put (some 48) (.bool b)).put (some 49) (.bool !b)).put (some 50) (.bool !b)) w8;refine aeB (t:=!b) (jL _ _ _ z9 zd) ?_
      cases b with
      |true=>
       simp only[ahx,adM,ad1];exact afb (.inl ⟨rfl,(((hT rfl).put 48 _ zd rfl).put 49 _ zd rfl).put 50 _ zd rfl⟩)
      |false=>
       simp only[agU,aed];exact afC (.inr ⟨rfl,Co.defers,hF rfl⟩)
    .rintro e a w (⟨rfl,vs⟩|⟨rfl,hd,M,e_,hX⟩)
     .show Code.wpIn _ _ _ _ _ a w
      refine vs.region hG (ac:=af.qb zt.qb.qb.qa.qb.qb.qb) zk zk zk [(5,.int .i64 ((dN s (j+1)).1:Nat)),(32,.int .i64 (s.cells.length+1)),(33,.int .i64 (j:Nat))] rfl ?_ λa w vs=>.inl ⟨rfl,vs⟩
      have hw:IntKind.i64.wrap ((j:Int)+1)=j+1:=aQ zo;simp[c113,zt,af.qa,af.qb,qY,List.lookup,hw,hf]
     .exact .inr ⟨rfl,hd,M,e_,hX⟩
  .rintro e a w (⟨rfl,vs⟩|⟨rfl,hd,M,e_,hX⟩)
   .show Code.wpIn _ _ _ _ _ a w;refine vs.region hG (ac:=af.qb zt.qb.qb) zk zk zk [(5,.int .i64 ((dN s (j+1)).1:Nat)),(32,.int .i64 (s.cells.length+1)),(33,.int .i64 ((j+1:Nat):Int))] rfl ?_ ?_
    .have hw:IntKind.i64.wrap ((j:Int)+1)=j+1:=aQ zo;simp[c113,zt,af.qa,af.qb,qY,List.lookup,hw]
    intro a5 w5 G6;have aca:a5.tmps.getD 33 undef=.int .i64 ((j+1:Nat):Int):=G6.int ahB;refine⟨⟨j+1,zo,G6⟩,?_⟩;simp only[aca,h33];simp;omega
   .change bodyPost prog f113 (λe w'=>∃v M e_,e=Ending.returned v/\(C.J (List.map bX (eL s)).length M e_ w'\/C.X M e_ w')) .ret a w
    refine⟨hd,.tuple #[],?_,.tuple #[],M,e_,rfl,.inr hX⟩;simp[results,results113]
 case pos=>
  simp only[aq,agX,aed];refine afb ?_;show Code.wpIn _ _ _ _ _ a2 w2
  have hic:i<s.cells.length:=zo
  have abL:uw s i=s.cells[i].hid:=by unfold uw;rw[adB hic]
  refine adT (ae9 ?_);obtain⟨M,Pr,hj,uu,hM,⟨es,clock,hm,he⟩,hx⟩:=vs.st
  refine lI hG (GI:=GI) (p:=9) (l2:=[9]) rfl zk zk (l:=(P8.qb.qa.qb.dl).take 9) zk zd (W:=W4) zk (C.gi hj) (λb _=>b≠bM) (qY l s bM [(4,.int .i64 (i:Nat)),(17,.bool (decide (i<p)))]) vs.size vs.defers vs.jg
   (K:=λS _=>S 20=.val (IB bM)/\S 21=.int .i64 (i:Nat)/\S 28=.bool (!uw s i)/\S 4=.int .i64 (i:Nat)) ?_ ?_
  .simp[c113,P8,af.qa,af.qb,af.dl,qY,List.lookup,az,hic,abL,fY]
  intro g S' H' a3 w3 hg R1 ⟨U1,q21,QF,q4⟩ bn
  have oF:Below w2.heap.size w2 w3:=by have:=R1.below;rwa [R1.base]at this
  have e20:a3.eval (.tmp 20)=.map (some bM):=by
   have:=R1.slot 20 zd (λh=>h);rw[U1]at this;exact this.iA
  have e21:a3.eval (.tmp 21)=.int .i64 (i:Nat):=vT R1 zd q21
  have yh:a3.eval (.tmp 28)=.bool (!uw s i):=by
   have:=R1.slot 28 zd (λh=>h);rw[QF]at this;exact this.fN
  have e4:a3.tmps.getD 4 undef=.int .i64 (i:Nat):=vT R1 zd q4
  have N8:VS C s cX bM [(4,.int .i64 (i:Nat))] (oD s i) 0 a3 w3:=vs.grow oF R1.size (by rw[R1.defers,hg];rfl) (λt ht=>bn t (by simp[W4];omega)) λq hq=>by
   rw[ad2]at hq;subst hq;exact⟨adF _,rfl,by rw[e4];exact .int _ _⟩
  clear vs hj uu hM hm he hx M Pr es clock oF R1 bn hg U1 q21 QF q4;obtain⟨M,Pr,hj,uu,hM,⟨es,clock,hm,he⟩,hx⟩:=N8.st
  have hmt:prog.underlying 167=some (.map 3 4):=zk
  have ZQ:prog.underlying 3=some (.int .i64):=zk
  refine eT rfl rfl zr (GY (t:=167) (x1:=.tmp 20) (x2:=.tmp 21) (x3:=.tmp 28) rfl hmt ZQ e20 e21 hm he (Qs s)) ?_;rw[yh]
  obtain⟨w4,nz⟩:∃w4,w3.putObj bM (.map (es.push { key:=.int .i64 (i:Nat),val:=.bool (!uw s i),born:=clock }) (clock+1))=w4:=⟨_,rfl⟩
  show Code.wpIn _ _ _ _ _ a3 (w3.putObj bM (.map (es.push { key:=.int .i64 (i:Nat),val:=.bool (!uw s i),born:=clock }) (clock+1)));rw[nz];have abu:=uu bM hM
  have pJ:w4.heap[bM]?=some (.map (es.push { key:=.int .i64 (i:Nat),val:=.bool (!uw s i),born:=clock }) (clock+1)):=by rw[<-nz];exact ahj abu
  have BP:l8 M w3 w4:=by
   rw[<-nz];exact⟨rfl,rfl,rfl,by simp[World.putObj],λb _ hb=>ahg (by rintro rfl;exact hb hM)⟩
  have Li:w4.heap.size=w3.heap.size:=by rw[<-nz];simp[World.putObj]
  have vs4:VS C s cX bM [(4,.int .i64 (i:Nat))] (oD s (i+1)) 0 a3 w4:=by
   refine⟨N8.size,N8.defers,N8.t0,N8.t1,N8.t3,λq hq=>?_,M,Pr,C.dS hj BP λb hb=>⟨by rw[Li];exact uu b hb,.inl hb⟩,λb hb=>by rw[Li];exact uu b hb,hM,⟨_,_,pJ,?_⟩,hx.mono (bg.qq λb k _ hp=>BP.block b ?_ ?_)⟩
   .obtain⟨q1,q2,q3⟩:=N8.ex q hq;exact⟨q1,q2,q3.iF q2⟩
   .rw[NZ s hli];exact he.push (i:Int) (.bool (!uw s i)) clock
   .assumption
   .intro Sx;exact C.apart hj _ k Sx hp
  refine vs4.region hG (ac:=af.qb P8.qb) zk zk zk [(4,.int .i64 ((i+1:Nat):Int))] rfl ?_ ?_
  .have hw:IntKind.i64.wrap ((i:Int)+1)=i+1:=aQ zo;simp[c113,P8,af.qa,af.qb,qY,List.lookup,hw]
  intro a5 w5 G6;have T8:a5.tmps.getD 4 undef=.int .i64 ((i+1:Nat):Int):=G6.int ahB;refine⟨⟨i+1,zo,zo,G6⟩,?_⟩;simp only[T8,h4];simp;omega
end Go.Proofs.Tryz
namespace Go.Proofs.Tryz
open Go Go.AL Go.RowKit Go.Proofs Go.Proofs.Tram
attribute [local simp] ez fF fo eN eM ea eb dG dH eU dI da gZ g_ aF aD ev aP.S aP.H bt au aW AL.start AV.cells AV.storable AV.ct bC cb dU cd HR.okB post cH db c_ AV.out AV.b_ cU d_ fz ia AV.vw cW vI int cy aN di dQ iC jw eP dW bD AV.aI AV.cI
variable{GI:World->Prop}
def Xe(hG:ar GI)(l:List Int)(hl:l.length<100000)(h:∀x∈l,0<=x/\x<=1000):AC prog GI 62 [vI l] (.ret (.int .i64 l.sum)):=by
 refine cw hG func62 ntmps62 c62 ?_;simp[c62];refine bz 8 l.length (λi S H=>S 6=vI l/\S 7=.int .i64 l.length/\S 8=.int .i64 (i:Nat)/\S 3=.int .i64 (l.take i).sum) (λi S H h=>h.2.2.1) ⟨ahB,ahB,ahB,ahB⟩ ?_;rintro i hi S H ⟨s6,s7,s8,s3⟩
 by_cases aq:i<l.length
 .have hb:=vB (l:=l.take i) λx hx=>h x (aef hx)
  have hx:=h l[i] (adC aq);rw[adS]at hb;have hw:IntKind.i64.wrap ((i:Int)+1)=i+1:=aQ zo;have j0:IntKind.i64.wrap ((l.take i).sum+l[i])=(l.take i).sum+l[i]:=aQ zo;rw[Gl aq];generalize(l.take i).sum=y at s3 j0⊢;simp[s6,s7,s8,s3,aq,hw,j0]
 .have dk:i=l.length:=zo
  subst dk;rw[aeW]at s3;simp[s6,s7,s8,s3]
def jY(l:List Int)(i:Nat):Int:=l.getD i 0
def Me(l:List Int){a b:Nat}(vn:a<=b)(hb:b<=l.length):((l.take b).drop a).sum=mK (jY l) a b:=by
 unfold mK
 congr 1
 apply ae5;intro i;rw[ad9]
 by_cases hi:i<b-a
 .rw[afR,agi zo,adB zo,adB (by simpa using hi)];simp[jY,aeD,show a+i<l.length by omega]
 .rw[ad3 (by simp;omega),ad3 (by simp;omega)]
  rfl
def RL(hG:ar GI)(s:aw):AC prog GI 55 [bm s] (.ret (.func (.func 113) [] [.ref (az s)])):=by
 refine AC.Gp hG de func55 rfl ntmps55 ahB (ac:=c55) zk ?_;simp[c55,bm,az,ai,bB,bq,aF,ba,aD,di,ev,aP.S,aP.H,au,aW,AL.start,AV.aI,AV.cells,AV.storable,cb,kI,bt,vI];refine⟨2,.func 113,[],[.box 1 0],rfl,zd,by simp[au],?_⟩;simp[au,fz,ia,AV.cI]
def TV:af:=.ops [⟨(some 6),none,.alloc 26 [(.int .i64 0),(.int .i64 0)]⟩,⟨none,none,.store .any 2 (.t 6) (.t 11)⟩]
def UX : af := .block 1 <| .seq (.ops [⟨(some 12), none, .load .any false 1 (.t 3)⟩,
    ⟨(some 13),none,.fieldAddr 0 (.t 6)⟩,
    ⟨(some 14),none,.load .any false 1 (.t 13)⟩,
    ⟨(some 15),none,.fieldAddr 1 (.t 6)⟩,
    ⟨(some 16),none,.load .any false 1 (.t 15)⟩,
    ⟨(some 17),none,.bin .add (.t 16) (.c (.int .i64 1))⟩,
    ⟨(some 18),none,.od 1 (.t 12) (some (.t 14)) (some (.t 17))⟩,
    ⟨(some 19),none,.call 62 [(.t 18)]⟩,
    ⟨(some 7),none,.mv true (.t 19)⟩])<|
  .block 2<|.loop<|
   .seq (.seq (.ops [⟨(some 20),none,.load .any false 1 (.t 5)⟩,
     ⟨(some 21),none,.fieldAddr 15 (.t 2)⟩,
     ⟨(some 22),none,.load .any false 1 (.t 21)⟩,
     ⟨(some 23),none,.kN (.t 22)⟩,
     ⟨(some 24),none,.bin .lss (.t 20) (.t 23)⟩,
     ⟨(some 25),none,.mv false (.t 24)⟩,
     ⟨(some 26),(some (25,true)),.fieldAddr 15 (.t 2)⟩,
     ⟨(some 27),(some (25,true)),.load .any false 1 (.t 26)⟩,
     ⟨(some 28),(some (25,true)),.load .any false 1 (.t 5)⟩,
     ⟨(some 29),(some (25,true)),.indexAddr 1 (.t 27) (.t 28)⟩,
     ⟨(some 30),(some (25,true)),.load .any false 1 (.t 29)⟩,
     ⟨(some 31),(some (25,true)),.mv false (.t 7)⟩,
     ⟨(some 32),(some (25,true)),.bin .leq (.t 30) (.t 31)⟩,
     ⟨(some 33),none,.pick (.t 25) (.t 32) (.c (.bool false))⟩])<|
   .cond (.t 33)
    (.skip)
    (.exit 2))<|
   .block 3 <| .seq (.ops [⟨(some 34),none,.mv false (.t 7)⟩,
      ⟨(some 35),none,.fieldAddr 15 (.t 2)⟩,
      ⟨(some 36),none,.load .any false 1 (.t 35)⟩,
      ⟨(some 37),none,.load .any false 1 (.t 5)⟩,
      ⟨(some 38),none,.indexAddr 1 (.t 36) (.t 37)⟩,
      ⟨(some 39),none,.load .any false 1 (.t 38)⟩,
      ⟨(some 40),none,.bin .sub (.t 34) (.t 39)⟩,
      ⟨(some 7),none,.mv true (.t 40)⟩])<|
    .ops [⟨(some 41),none,.load .any false 1 (.t 5)⟩,
      ⟨(some 42),none,.bin .add (.t 41) (.c (.int .i64 1))⟩,
      ⟨none,none,.store .any 1 (.t 5) (.t 42)⟩]
def Pn:af :=
   .seq (.seq (.ops [⟨(some 20),none,.load .any false 1 (.t 5)⟩,
     ⟨(some 21),none,.fieldAddr 15 (.t 2)⟩,
     ⟨(some 22),none,.load .any false 1 (.t 21)⟩,
     ⟨(some 23),none,.kN (.t 22)⟩,
     ⟨(some 24),none,.bin .lss (.t 20) (.t 23)⟩,
     ⟨(some 25),none,.mv false (.t 24)⟩,
     ⟨(some 26),(some (25,true)),.fieldAddr 15 (.t 2)⟩,
     ⟨(some 27),(some (25,true)),.load .any false 1 (.t 26)⟩,
     ⟨(some 28),(some (25,true)),.load .any false 1 (.t 5)⟩,
     ⟨(some 29),(some (25,true)),.indexAddr 1 (.t 27) (.t 28)⟩,
     ⟨(some 30),(some (25,true)),.load .any false 1 (.t 29)⟩,
     ⟨(some 31),(some (25,true)),.mv false (.t 7)⟩,
     ⟨(some 32),(some (25,true)),.bin .leq (.t 30) (.t 31)⟩,
     ⟨(some 33),none,.pick (.t 25) (.t 32) (.c (.bool false))⟩])<|
   .cond (.t 33)
    (.skip)
    (.exit 2))<|
   .block 3 <| .seq (.ops [⟨(some 34),none,.mv false (.t 7)⟩,
      ⟨(some 35),none,.fieldAddr 15 (.t 2)⟩,
      ⟨(some 36),none,.load .any false 1 (.t 35)⟩,
      ⟨(some 37),none,.load .any false 1 (.t 5)⟩,
      ⟨(some 38),none,.indexAddr 1 (.t 36) (.t 37)⟩,
      ⟨(some 39),none,.load .any false 1 (.t 38)⟩,
      ⟨(some 40),none,.bin .sub (.t 34) (.t 39)⟩,
      ⟨(some 7),none,.mv true (.t 40)⟩])<|
    .ops [⟨(some 41),none,.load .any false 1 (.t 5)⟩,
      ⟨(some 42),none,.bin .add (.t 41) (.c (.int .i64 1))⟩,
      ⟨none,none,.store .any 1 (.t 5) (.t 42)⟩]
def WJ {s:aw} {av:List Int} {n po:Nat} {T:Int} (hn:∀ x∈av,0≤x∧x≤1000) (VC:av.length≤1000) (R_:n≤av.length) (hT:0≤T∧T≤100000) (Gm:(eu (av.drop n) T).1=po) {S:an} {H:ao} {x3:AV} {Q:dV→an→ao→Prop}
  (s2:S 2=.box 2 0) (h2:H 2=some (bw s av)) (h3:H 3=some [x3]) (s5:S 5=.box 5 0) (h5:H 5=some [.int .i64 (n:Nat)]) (s7:S 7=.int .i64 T)
  (hQ:∀S H,H 2=some (bw s av)->H 3=some [x3]->H 5=some [.int .i64 ((n+po:Nat):Int)]->Q (.exit 2) S H):bB prog GI (.loop Pn) Q S H:=by
 have Ax:po<=av.length-n:=by rw[<-Gm];have:=wv (av.drop n) T;simpa using this
 refine⟨λS H=>∃m:Nat,m<=po/\S 2=.box 2 0/\H 2=some (bw s av)/\H 3=some [x3]/\S 5=.box 5 0/\H 5=some [.int .i64 ((n+m:Nat):Int)]/\S 7=.int .i64 (T-((av.drop n).take m).sum)/\T-((av.drop n).take m).sum<=T/\0<=T-((av.drop n).take m).sum,
  λS H=>match H 5 with|some [.int _ j]=>(av.length-j).toNat|_=>0,⟨0,aeu _,s2,h2,h3,s5,h5,by simpa using s7,ahB,by simpa using hT.1⟩,?_⟩
 clear h5 h3 h2 s2 s5 s7 S H;rintro S H ⟨m,hm,s2,h2,h3,s5,h5,s7,nN,iL⟩;have kV:=xz (av.drop n) T m zo;rw[af1]at kV
 have PE:po=m+(eu (av.drop (n+m)) (T-((av.drop n).take m).sum)).1:=by
  rw[<-Gm,kV]
 obtain⟨left,Y9⟩:∃left,T-((av.drop n).take m).sum=left:=⟨_,rfl⟩
 rw[Y9]at PE s7 nN iL
 have XN:H 5=some [.int .i64 ((n:Int)+m)]:=by rw[h5];simp
 by_cases Cm:n+m<av.length
 case neg=>
  have ZF:(eu (av.drop (n+m)) left).1=0:=by
   have:=wv (av.drop (n+m)) left;simp at this;omega
  have U6:¬((n:Int)+m<av.length):=zo
  have Y8:po=m:=zo
  subst Y8;have hq:=hQ;simp[Pn,bw,az,ai,s2,h2,h3,s5,h5,s7,Cm,U6];refine hq _ _ ?_ ?_ ?_
  .rw[h2]
  .rw[h3]
  .rw[h5]
 have hd:av.drop (n+m)=av[n+m]::av.drop (n+m+1):=afE Cm;have hx:=hn av[n+m] (adC Cm)
 have U6:(n:Int)+m<av.length:=zo
 have uN:(0:Int)<=(n:Int)+m:=zo
 have VH:((n:Int)+m).toNat=n+m:=zo
 by_cases hle:av[n+m]<=left
 case neg=>
  have ZF:(eu (av.drop (n+m)) left).1=0:=by rw[hd,eu,if_neg hle]
  have Y8:po=m:=zo
  subst Y8;simp[Pn,bw,az,ai,s2,h2,h3,s5,h5,s7,Cm,U6,uN,VH,hle];refine hQ _ _ ?_ ?_ ?_
  .rw[h2]
  .rw[h3]
  .rw[h5]
 case pos=>
  have Y0:m+1<=po:=by rw[hd,eu,if_pos hle]at PE;omega
  have mR:IntKind.i64.wrap (left-av[n+m])=left-av[n+m]:=aQ zo;have j0:IntKind.i64.wrap ((n:Int)+m+1)=n+m+1:=aQ zo
  have ZT:T-((av.drop n).take (m+1)).sum=left-av[n+m]:=by
   rw[adJ (by simp;omega),afe];simp;omega
  simp[Pn,bw,az,ai,s2,h2,h3,s5,h5,s7,Cm,U6,uN,VH,hle,mR,j0];refine⟨⟨m+1,Y0,zo,by rw[ZT],zo,zo⟩,zo⟩
def nT(s:aw)(av cn:List Int)(k:Nat):Nat:=gf av (jY cn) ((gv (gI s) s.cells.length).take k)
def Tp (hG:ar GI) (s:aw) (h:iN s) (av:List Int) (hn:∀ x∈av,0≤x∧x≤1000) (VC:av.length≤1000) (cn:List Int) (hr:cn.length=s.cells.length) (yU:∀ x∈cn,0≤x∧x≤1000) :
  AC prog GI 59 [dR s av,vI cn] (.ret (.int .i64 (gf av (jY cn) (gv (gI s) s.cells.length)))):=by
 have nH:=h.cells
 refine AC.ji func59 rfl ntmps59 ahB λcc w=>?_
 refine dT hG c59.qa (λS' H'=>S' 2=.box 2 0/\H' 2=some (bw s av)/\S' 3=.box 3 0/\H' 3=some [vI cn]) ?_ ?_
 .simp[c59,af.qa,dR,bw,az,ai]
 rintro S1 H1 ⟨s2,h2,s3,h3⟩;refine dT hG c59.qb.qa (λS' H'=>S' 2=.box 2 0/\H' 2=some (bw s av)/\S' 3=.box 3 0/\H' 3=some [vI cn]/\S' 5=.box 5 0/\H' 5=some [.int .i64 0]) ?_ ?_
 .simp[c59,af.qa,af.qb,bw,az,ai,s2,h2,s3,h3]
  try rfl
 clear s2 h2 s3 h3;rintro S2 H2 ⟨s2,h2,s3,h3,s5,h5⟩;refine SW.seq (dT hG c59.qb.qb.qa.qa (λS' H'=>S' 2=.box 2 0/\H' 2=some (bw s av)/\S' 3=.box 3 0/\H' 3=some [vI cn]/\S' 5=.box 5 0/\H' 5=some [.int .i64 0]/\S' 10=.func (.func 113) [] [.ref (az s)]) ?_ ?_)
 .simp[c59,af.qa,af.qb,bw,az,ai,s2,h2,s3,h3,s5,h5];refine oc (RL hG s) ?_;simp[s2,h2,s3,h3,s5,h5,bw,az,ai]
  try rfl
 clear s2 h2 s3 h3 s5 h5;rintro S3 H3 ⟨s2,h2,s3,h3,s5,h5,bJ⟩
 have Fv:pG (λd=>d==6) (S3 2)=.box 2 0:=by rw[s2];rfl
 have Vk:pG (λd=>d==6) (S3 3)=.box 3 0:=by rw[s3];rfl
 have qc:pG (λd=>d==6) (S3 5)=.box 5 0:=by rw[s5];rfl
 refine SW.block (SW.range hG de (OM:=.tmp 10) (y:=.t 10) (p:=11) (f:=113) (caps:=[.ref (az s)]) (xs:=(eL s).map bX) rfl bJ zk rfl (Nj hG s h) zd (λx hx=>by obtain⟨e,_,rfl⟩:=adZ.1 hx;rfl)
  (λd=>d==6) (aa:=TV) (ab:=UX) zk zk (by simp[TV,af.names,bI.jx,eG.jx]) (by simp[UX,af.names,bI.jx,eG.jx]) (λ_ _ h=>h) zk zk
  (λk H'=>H' 2=some (bw s av)/\H' 3=some [vI cn]/\H' 5=some [.int .i64 (nT s av cn k:Nat)]) (λ_ _=>False) ⟨h2,h3,by rw[h5];rfl⟩ ?_ ?_ ?_)
 .rintro k hk H' ⟨h2,h3,h5⟩
  have cz:k<(gv (gI s) s.cells.length).length:=by simpa[eL]using hk
  obtain⟨f,t,hft⟩:∃f t,(gv (gI s) s.cells.length)[k]=(f,t):=⟨_,_,rfl⟩
  have Jd:((eL s).map bX)[k]=.agg [.int .i64 (f:Nat),.int .i64 (t:Nat)]:=by simp[eL,hft,bX]
  have gQ:gI s s.cells.length=false:=by
   have:=h.pos;unfold gI
   have:¬s.cells.length<s.pos.toNat:=zo
   simp[this]
  have bV:=(Gi gQ).1 (f,t) (by rw[<-hft];exact adC cz);simp only at bV;obtain⟨adj,adt⟩:=bV;have hw:IntKind.i64.wrap ((t:Int)+1)=t+1:=aQ zo;have zx:=Me cn (a:=f) (b:=t+1) zo zo;have ml:=Xe hG ((cn.take (t+1)).drop f) (by simp;omega) (λx hx=>yU x (aef (af6 hx)));have hT0:=vB (l:=(cn.take (t+1)).drop f) (λx hx=>yU x (aef (af6 hx)))
  have hTl:((cn.take (t+1)).drop f).length<=12:=by simp;omega
  have mg:nT s av cn (k+1)=nT s av cn k+(eu (av.drop (nT s av cn k)) (mK (jY cn) f (t+1))).1:=by
   unfold nT;rw[adJ cz,hft,rV]
  rw[<-zx]at mg;have R_:nT s av cn k<=av.length:=Am _ _ _;rw[Jd];generalize hTT:((cn.take (t+1)).drop f).sum=T at ml hT0 mg;generalize nT s av cn k=n at mg R_ h5
  have i1:((t:Int)+1).toNat=t+1:=zo
  have i2:t+1<=cn.length:=zo
  have i3:f<=t+1:=zo
  have j1:(f:Int)<=(t:Int)+1:=zo
  have j2:(t:Int)+1<=cn.length:=zo
  have D2:List.drop f (List.take (t+1) (ints cn))=ints (List.drop f (List.take (t+1) cn)):=by simp[ints,ag0,afv]
  have cN:aG 1 (ints cn)=true:=qK _;simp[TV,UX,bw,az,ai,Fv,h2,Vk,h3,qc,h5,hw,i1,i2,i3,j1,j2,bound,D2,cN];refine oc ml ?_;simp[bw,az,ai,Fv,h2,Vk,h3,qc,h5]
  obtain⟨po,Gm⟩:∃po,(eu (av.drop n) T).1=po:=⟨_,rfl⟩
  rw[Gm]at mg
  have Ax:po<=av.length-n:=by rw[<-Gm];have:=wv (av.drop n) T;simpa using this
  refine WJ (s:=s) (x3:=vI cn) hn VC R_ ⟨hT0.1,zo⟩ Gm (by simp[Fv]) (by simp[au,h2]) (by simp[au,h3]) (by simp[qc]) (by simp[au,h5]) (by simp[au]) ?_;intro S H q2 q3 q5;simp only[dQ,aed,ub];refine⟨?_,?_,?_⟩
  .rw[q2];rfl
  .rw[q3];rfl
  .rw[q5,mg]
 .rintro D H' hD ⟨h2,h3,h5⟩;show SW prog GI 44 none (.seq _ .ret) _ _ _ _
  have qQ:nT s av cn ((eL s).map bX).length=gf av (jY cn) (gv (gI s) s.cells.length):=by
   unfold nT;rw[adI (by simp[eL])]
  rw[qQ]at h5;refine dT hG c59.qb.qb.qb.qa (λS' _=>S' 4=.int .i64 (gf av (jY cn) (gv (gI s) s.cells.length))) ?_ ?_
  .simp[c59,af.qa,af.qb,qc,h5]
  intro S4 H4 s4;refine SW.ret ⟨(eo.plain rfl).mark hD,rfl,_,?_,rfl⟩;show cH prog 44 [.tmp 4] S4 H4=_;simp[cH,db,c_,s4,AV.b_,AV.out]
  try rfl
 .exact λ_ _ _ _ _ h=>h.elim
def HA(l:List End):AV:=.slice (if l.isEmpty then .nil else .own 26) (l.map bX)
def ql(l:List End):AV:=.slice (if l.isEmpty then .nil else .view) (l.map bX)
def Hn(s:aw):AV:=.func (.func 113) [] [.ref (az s)]
noncomputable def Hs:af:=.ops [⟨some 5,none,.alloc 26 [(.int .i64 0),(.int .i64 0)]⟩,⟨none,none,.store .any 2 (.t 5) (.t 7)⟩]
noncomputable def Je:af:=.block 1<|.ops [⟨some 8,none,.loadT .any (.t 2)⟩,⟨some 9,none,.load .any true 2 (.t 5)⟩,⟨some 10,none,.buildSlice 52 26 2 [.t 9]⟩,⟨some 11,none,.append 52 26 2 16 (.t 8) (.t 10)⟩,⟨none,none,.store .any 1 (.t 2) (.t 11)⟩]
def aao (hG:ar GI) (s:aw) {ps:List End} (hlen:ps.length≤1000000) (hit:yp prog GI 113 [.ref (az s)] (ps.map bX)) :
  AC prog GI 112 [.slice .nil [],Hn s] (.ret (ql ps)):=by
 refine AC.ji func112 rfl ntmps112 ahB λcc w=>?_
 refine dT hG c112.qa (λS' H'=>S' 1=Hn s/\S' 2=.box 2 0/\H' 2=some [.slice .nil []]) ?_ ?_
 .simp[c112,Hn,af.qa,bB,bq,aF,ba,aD,ev,aP.S,aP.H,au,aW,AL.start,AV.aI,AV.cells,AV.storable,cb,kI,bt,vI,bX,aN]
 rintro S1 H1 ⟨s1,s2,h2⟩;refine SW.seq (dT hG c112.qb.qa.qa (λS' H'=>S' 2=.box 2 0/\S' 6=Hn s/\H' 2=some [.slice .nil []]) ?_ ?_)
 .simp[c112,Hn,af.qa,af.qb,bB,bq,aF,ba,aD,ev,aP.S,aP.H,au,aW,s2,h2,aN,AV.aI]
  rw[s1]<;>rfl
 rintro S3 H3 ⟨s2,s6,h2⟩
 refine SW.block (SW.range hG de (OM:=.tmp 6) (y:=.t 6) (p:=7) (f:=113) (caps:=[.ref (az s)]) (xs:=ps.map bX) rfl s6 zk rfl hit zd (λx hx=>by obtain⟨e,_,rfl⟩:=adZ.1 hx;rfl)
  (λd=>d==5) (aa:=Hs) (ab:=Je)
  zk zk (by simp[Hs,af.names,bI.jx,eG.jx]) (by simp[Je,af.names,bI.jx,eG.jx]) (λ_ _ h=>h) zk zk
  (λk H'=>H' 2=some [HA (ps.take k)]) (λ_ _=>False) h2 ?_ ?_ ?_)
 .rintro k hk H' h2
  have cz:k<ps.length:=by simpa using hk
  have Jd:(ps.map bX)[k]=bX ps[k]:=ahB
  have qQ:ps.take (k+1)=ps.take k++[ps[k]]:=by rw[adJ cz]
  have Fv:pG (λd=>d==5) (S3 2)=.box 2 0:=by rw[s2]<;>rfl
  rw[Jd,qQ]
  have hL:(List.take k ps).length<=1000000:=by simp;omega
  generalize List.take k ps=L at hL h2⊢
  cases L with
  |nil=>simp[Hs,Je,Fv,h2,bX,ub,HA,aG,HR.okB,bC]
  |cons x L=>
   have nt:L.length+1+1<1048576:=by simp at hL;omega
   have bV:aG 2 (bX x::L.map bX)=true:=by simp[aG,vI,bX,AV.storable,AV.cells]
   simp[Hs,Je,Fv,h2,bX,ub,HA,aG,HR.okB,bC,nt]
 .rintro D H' hD h2;show SW prog GI 13 none (.seq _ .ret) _ _ _ _
  have Fv:pG (λd=>d==5) (S3 2)=.box 2 0:=by rw[s2]<;>rfl
  have qQ:List.take (ps.map bX).length ps=ps:=adI ahB;rw[qQ]at h2;refine dT hG c112.qb.qb.qa (λS' _=>S' 4=ql ps) ?_ ?_
  .cases ps<;>simp[c112,af.qa,af.qb,bB,bq,aF,ba,aD,ev,aP.S,aP.H,au,aW,cd,Fv,h2,HR.okB,aN,HA,ql,AV.aI,bt]
  intro S4 H4 s4;refine SW.ret ⟨(eo.plain rfl).mark hD,rfl,_,?_,rfl⟩;show cH prog 13 [.tmp 4] S4 H4=_;simp[cH,db,c_,s4,ql,AV.b_,AV.out]
 .exact λ_ _ _ _ _ h=>h.elim
def Xn(hG:ar GI)(s:aw){ps:List End}(hlen:ps.length<=1000000)(hit:yp prog GI 113 [.ref (az s)] (ps.map bX)):AC prog GI 54 [Hn s] (.ret (ql ps)):=by
 refine AC.ji func54 rfl ntmps54 ahB λcc w=>?_
 refine dT hG c54.qa (λS' H'=>S' 0=Hn s) ?_ ?_
 .simp[c54,Hn,af.qa,bB,bq,aF,ba,aD,ev,aP.S,aP.H,au,aW,AL.start,AV.aI,aN,bt]
 intro S1 H1 s0
 refine SW.seq (SW.hand hG (p:=1) (lm:=[1]) (l2:=[2]) (jX:=[_]) (oh:=[_]) (mw:=[_]) rfl rfl rfl rfl zk (λ_ h=>h)
  (mS:=(c54.qb.qa.dl).take 1) (mf:=(c54.qb.qa.dl).drop 2) zk zk zk zk
  (K1:=λS _=>S 3=Hn s) (K2:=λo S _=>o=Old.plain cc w/\S 4=ql ps) (K3:=λo S _=>o=Old.plain cc w/\S 2=ql ps) ?_ ?_ ?_ ?_)
 .simp[c54,af.qa,af.qb,af.dl,bq,aF,ba,aD,aP.S,aP.H,ev,au,aW]
  rw[s0]<;>rfl
 .rintro w0 g S2 H2 a w' m cm ho R s3;have r3:=R.slot 3 zd id;rw[s3]at r3
  refine gC rfl rfl zr (gq (k:=112) (args:=#[.slice none 0 0,a.tmps.getD 3 undef]) w' rfl rfl ?_ zk) (aao hG s hlen hit w' (fI g false) #[.slice none 0 0,a.tmps.getD 3 undef] (hG w0 w' cm (by have:=R.below;rwa [R.base]at this)) rfl (λi h h'=>by
   match i,h with
   |0,_=>exact .data _ _ (.iB _)
   |1,_=>exact(r3.cQ rfl).mono (bg.same λb k _ hp=>.inl hp) λ_ _ h=>h)) ?_
  .simp only[aeg,adU,aee,Act.eval]
  rintro e w2 ⟨iL,hi,qR,c,rfl,NJ,cZ⟩;refine⟨_,rfl,?_⟩;obtain⟨g',q1,q2,R'⟩:=R.call (some 4) (λt ht=>by cases ht;exact⟨zd,id⟩) false iL qR NJ cZ (λh=>by cases h);exact⟨g',_,_,R',q2.trans ho,aO _ _ _⟩
 .rintro o S2 H2 ⟨rfl,s4⟩;refine⟨λ_ h=>h,?_⟩
  cases ps<;>simp[c54,af.qa,af.qb,af.dl,bq,aF,ba,aD,aP.S,aP.H,ev,au,aW,s4,ql,bt]
 .rintro o S2 H2 ⟨rfl,s2⟩;refine SW.ret ⟨eo.plain rfl,rfl,_,?_,rfl⟩;show cH prog 5 [.tmp 2] S2 H2=_;simp[cH,db,c_,s2,ql,AV.b_,AV.out]
def DT(s:aw):∀i,(dN s i).2.length<=i
 |0=>adF _
 |i+1=>by
  have ih:=DT s i;rw[o9];unfold eX;split
  .omega
  .simp only;split
   .simp;omega
   .omega
def BI(s:aw):(eL s).length<=s.cells.length+1:=by
 have:=DT s (s.cells.length+1);simpa[eL,gv,dN]using this
def Iy(s:aw):List AV:=if dj s then[.slice .view (aX (eL s)),.int .i64 0]else[.slice .view [],.int .i64 2]
def acj(hG:ar GI)(s:aw)(hs:f_ s):AC prog GI 18 [bm s] (.ret (.dY (Iy s))):=by
 have pC:=sC hG s hs;unfold Iy
 cases hI:dj s with
 |false=>
  rw[hI]at pC;refine cw hG func18 ntmps18 c18 ?_;simp[c18,bm,az,ai];refine oc pC ?_;simp
 |true=>
  rw[hI]at pC;have hg:=gM hI;have KI:=RL hG s;have tX:=Xn hG s (ps:=eL s) (by have:=BI s;have:=hg.cells;omega) (Nj hG s hg);have tX:=AC.nK (o:=if(eL s).isEmpty then .nil else .view) tX;refine cw hG func18 ntmps18 c18 ?_;simp[c18,bm,az,ai];refine oc pC ?_;simp;refine oc KI ?_;simp;refine⟨_,zk,tX,by simp[cW,rO],?_⟩;simp[aX]
def abg(hG:ar GI)(a b:End):AC prog GI 66 [bX a,bX b] (.ret (.bool (decide (a.2<b.2)))):=by
 refine cw hG func66 ntmps66 c66 ?_;simp[c66,bX]
def l4(x:End)(l:List End):End:=l.foldl (λo y=>if y.2<o.2 then y else o) x
def I8(x:End)(l:List End){i:Nat}(h:i<l.length):l4 x (l.take (i+1))=if l[i].2<(l4 x (l.take i)).2 then l[i]else l4 x (l.take i):=by
 unfold l4;rw[agr,adB h,aeJ]
 rfl
def ab5(hG:ar GI)(x:End)(l:List End)(hl:l.length<1000000):AC prog GI 65 [.slice .view (aX (x::l)),.func (.func 66) [] []] (.ret (bX (l4 x l))):=by
 obtain⟨iT,TR,T5⟩:=iZ 103 2;obtain⟨fs,fH⟩:=uZ 103;have bV:aG 2 (aX (x::l))=true:=vi (x::l);refine cw hG func65 ntmps65 c65 ?_;refine aK (λS H=>S 0=.slice .view (aX (x::l))/\S 1=.func (.func 66) [] []/\S 4=.box 4 0/\H 4=some [.int .i64 0,.int .i64 0]) ahB ?_;rintro S H ⟨s0,s1,s4,h4⟩;refine aK (λS H=>S 0=.slice .view (aX (x::l))/\S 1=.func (.func 66) [] []/\S 4=.box 4 0/\H 4=some [.int .i64 0,.int .i64 0]/\S 5=.box 5 0/\H 5=some [.int .i64 x.1,.int .i64 x.2]) (by simp[s0,s1,s4,h4,aX,bX,bH]) ?_;clear s0 s1 s4 h4 S H;rintro S H ⟨s0,s1,s4,h4,s5,h5⟩
 have hd:(aX (x::l)).drop 1=aX l:=by simp[aX]
 have hlen:(aX (x::l)).length=l.length+1:=by simp[aX]
 have zU:(1:Int)<=(l.length:Int)+1:=zo
 have qQ:List.take (l.length+1) (aX (x::l))=aX (x::l):=adI zo;generalize aX (x::l)=L at s0 hd hlen qQ bV
 have YP:((l.length:Int)+1).toNat=l.length+1:=zo
 simp[bound,s0,s1,s4,h4,s5,h5,hd,hlen,zU,qQ,bV,YP];refine bz 14 l.length (λi S H=>S 1=.func (.func 66) [] []/\S 4=.box 4 0/\H 4=some [.int .i64 0,.int .i64 0]/\S 5=.box 5 0/\H 5=some [.int .i64 (l4 x (l.take i)).1,.int .i64 (l4 x (l.take i)).2]/\S 12=.slice .view (aX l)/\S 13=.int .i64 l.length/\S 14=.int .i64 (i:Nat)) (λi S H h=>h.2.2.2.2.2.2.2) ⟨by simp[s1],by simp[s4],by simp[h4],by simp[s5],by simp[h5,l4],ahB,by simp[aX],ahB⟩ ?_;clear s0 s1 s4 h4 s5 h5 S H;rintro i hi S H ⟨s1,s4,h4,s5,h5,cM,dM,eg⟩
 by_cases aq:i<l.length
 .have hw:IntKind.i64.wrap ((i:Int)+1)=i+1:=aQ zo
  have hn:¬(i:Int)<0:=zo
  have hs:=I8 x l aq;have Xw:=abg hG l[i] (l4 x (l.take i))
  generalize l4 x (l.take i)=o at*
  by_cases hc:l[i].2<o.2
  .rw[if_pos hc]at hs;rw[hs];simp[s1,s4,h4,s5,h5,cM,dM,eg,aq,hn,aX,bX,bH];refine oc Xw ?_;simp[s1,s4,h4,s5,h5,cM,dM,eg,hc,hw,aX,bX]
  .rw[if_neg hc]at hs;rw[hs]
   have vQ:o.2<=l[i].2:=zo
   simp[s1,s4,h4,s5,h5,cM,dM,eg,aq,hn,aX,bX,bH];refine oc Xw ?_;simp[s1,s4,h4,s5,h5,cM,dM,eg,hc,vQ,hw,aX,bX]
 .have dk:i=l.length:=zo
  subst dk;rw[aeW]at h5;simp[s1,s4,h4,s5,h5,cM,dM,eg,TR,T5,fH,eh,bX]
def QZ{a:Act}{w:World}{o:Oper}{x:Operand}{t ty:TypeId}{n:Nat}(ho:o.op=.binOp .shr t x (.const (.int .u64 1)) ty)(hx:a.eval x=.int .u64 (n:Nat)):(execOp a.eval o).run prog w=.ok (.value (.int .u64 ((n/2:Nat):Int))) w:=by
 unfold execOp;have hc:a.eval (.const (.int .u64 1))=.int .u64 1:=rfl
 have hf:((n:Int)).fdiv 2=((n/2:Nat):Int):=by
  rw[Int.fdiv_eq_ediv_of_nonneg _ zd];omega
 simp[ho,hx,hc,Go.binOp,Op.shift,eqGuard,IntKind.bits,hf]
def Ty{x:Int}(h:0<=x/\x<1000000000):IntKind.u64.wrap x=x:=by
 unfold IntKind.wrap;simp[IntKind.bits,IntKind.signed];omega
noncomputable def pA:af:=af.qb c63.qb.qb.qa.qb
def aaG (hG:ar GI) {n:Nat} (hn:n < 100000) (k:Nat) (u v x:List AV) (hk:ee prog k=true) {p:Nat→Bool} (hm:∀ x y,x≤y→p x=true→p y=true) (h:∀ y:Nat,y < n→AC prog GI k [.int .i64 (y:Nat),.ref u,.ref v,.ref x] (.ret (.bool (p y)))) {m:Nat} (hl:qO p n m) :
  AC prog GI 63 [.int .i64 (n:Nat),.func (.func k) [] [.ref u,.ref v,.ref x]] (.ret (.int .i64 (m:Nat))):=by
 refine AC.ji func63 rfl ntmps63 ahB λcc w=>?_
 refine dT hG c63.qa (λS H=>S 0=.int .i64 (n:Nat)/\S 1=.func (.func k) [] [.ref u,.ref v,.ref x]) ?_ ?_
 .simp[c63,af.qa]
 rintro S1 H1 ⟨s0,s1⟩;refine dT hG c63.qb.qa (λS H=>S 1=.func (.func k) [] [.ref u,.ref v,.ref x]/\S 5=.int .i64 ((0:Nat):Int)/\S 6=.int .i64 (n:Nat)) ?_ ?_
 .simp[c63,af.qa,af.qb,s0,s1]
 clear s0 s1;rintro S2 H2 ⟨s1,s5,s6⟩;show SW prog GI 26 none (.seq (.block 0 (.loop _)) (.seq _ .ret)) _ _ _ _;refine SW.seq (SW.block (SW.loop (λo S H=>∃i j:Nat,o=Old.plain cc w/\i<=j/\j<=n/\(∀y,y<i->p y=false)/\(∀y,j<=y->y<n->p y=true)/\S 1=.func (.func k) [] [.ref u,.ref v,.ref x]/\S 5=.int .i64 (i:Nat)/\S 6=.int .i64 (j:Nat)) (λS _=>match S 5,S 6 with|.int _ i,.int _ j=>(j-i).toNat|_,_=>0) ⟨0,n,rfl,aeu _,adF _,λy hy=>absurd hy zo,λy h1 h2=>absurd h1 zo,s1,s5,s6⟩ ?_));clear s1 s5 s6;rintro o S3 H3 ⟨i,j,rfl,so,xU,uG,Ah,s1,s5,s6⟩;have m5:=s5;have m6:=s6;show SW prog GI 26 none (.seq (.seq _ (.cond _ _ _)) (.block 1 (.seq _ (.seq _ (.cond _ _ _))))) _ _ _ _;refine SW.seq (dT hG pA.qa.qa (λS H=>S 1=.func (.func k) [] [.ref u,.ref v,.ref x]/\S 5=.int .i64 (i:Nat)/\S 6=.int .i64 (j:Nat)/\S 11=.bool (decide (i<j))) ?_ ?_)
 .simp[c63,pA,af.qa,af.qb,s1,s5,s6]
 clear s1 s5 s6;rintro S4 H4 ⟨s1,s5,s6,bG⟩
 by_cases aq:i<j
 case neg=>
  refine SW.cond rfl false (by show S4 11=_;rw[bG];simp[aq]) (SW.exit ?_)
  have fK:i=j:=zo
  subst fK;have him:i=m:=qO.unique (k:=n) (p:=p) ⟨xU,uG,λh=>Ah i (adF _) h⟩ hl;subst him;show SW prog GI 26 none (.seq _ .ret) _ _ _ _;refine dT hG c63.qb.qb.qb.qa (λS H=>S 4=.int .i64 (i:Nat)) ?_ ?_
  .simp[c63,af.qa,af.qb,s5]
  intro S5 H5 s4;refine SW.ret ⟨eo.plain rfl,rfl,_,?_,rfl⟩;show cH prog 26 [.tmp 4] S5 H5=_;simp[cH,db,c_,s4,AV.b_,AV.out]
 refine SW.cond rfl true (by show S4 11=_;rw[bG];simp[aq]) (SW.skip ?_);show SW prog GI 26 none (.block 1 (.seq _ (.seq _ (.cond _ _ _)))) _ _ _ _;obtain⟨g1,g2,g3⟩:=Wz hm aq uG
 obtain⟨q,hq⟩:∃q,(i+j)/2=q:=⟨_,rfl⟩
 rw[hq]at g1 g2 g3
 have mR:IntKind.i64.wrap ((i:Int)+j)=((i+j:Nat):Int):=by rw[aQ zo];omega
 have j0:IntKind.u64.wrap ((i+j:Nat):Int)=((i+j:Nat):Int):=Ty zo
 have aax:IntKind.u64.wrap ((i:Int)+j)=((i+j:Nat):Int):=by rw[Ty zo];omega
 have qv:IntKind.i64.wrap (q:Nat)=(q:Nat):=aQ zo
 refine SW.block (SW.seq (SW.hand hG (p:=4) (lm:=[4]) (l2:=[5,6]) (jX:=[_,_,_,_]) (oh:=[_]) (mw:=[_,_]) rfl rfl rfl rfl zk (λ_ h=>h)
  (mS:=(pA.qb.qb.qa.dl).take 4) (mf:=(pA.qb.qb.qa.dl).drop 5) zk zk zk zk
  (K1:=λS H=>S 1=.func (.func k) [] [.ref u,.ref v,.ref x]/\S 5=.int .i64 (i:Nat)/\S 6=.int .i64 (j:Nat)/\S 15=.int .u64 ((i+j:Nat):Int))
  (K2:=λo S H=>o=Old.plain cc w/\S 1=.func (.func k) [] [.ref u,.ref v,.ref x]/\S 5=.int .i64 (i:Nat)/\S 6=.int .i64 (j:Nat)/\S 16=.int .u64 (q:Nat))
  (K3:=λo S H=>o=Old.plain cc w/\S 1=.func (.func k) [] [.ref u,.ref v,.ref x]/\S 5=.int .i64 (i:Nat)/\S 6=.int .i64 (j:Nat)/\S 7=.int .i64 (q:Nat)) ?_ ?_ ?_ ?_))
 .simp[c63,pA,af.qa,af.qb,af.dl,s1,s5,s6,mR,j0,aax]
 .rintro w0 g S5 H5 a w' m cm ho R ⟨s1,s5,s6,km⟩
  have Ih:a.eval (.tmp 15)=.int .u64 ((i+j:Nat):Int):=by
   have t15:=R.slot 15 zd (λh=>h);rw[km]at t15;exact t15.int_eq
  refine bf rfl rfl zr (QZ rfl Ih) ?_;rw[hq];exact⟨_,_,_,R.put 16 (.int .u64 (q:Nat)) _ zd (.data _ _ (.int _ _)) trivial,ho,by simp[au,s1],by simp[au,s5],by simp[au,s6],by simp[au]⟩
 .rintro o S5 H5 ⟨rfl,s1,s5,s6,fR⟩;refine⟨λ_ h=>h,?_⟩;simp[c63,pA,af.qa,af.qb,af.dl,s1,s5,s6,fR,qv]
 clear s1 s5 s6 bG;rintro o S5 H5 ⟨rfl,s1,s5,s6,s7⟩;show SW prog GI 26 none (.seq _ (.cond _ _ _)) _ _ _ _;have hc:=h q zo;refine dT hG pA.qb.qb.qb.qa (λS H=>S 1=.func (.func k) [] [.ref u,.ref v,.ref x]/\S 5=.int .i64 (i:Nat)/\S 6=.int .i64 (j:Nat)/\S 7=.int .i64 (q:Nat)/\S 21=.bool (!p q)) ?_ ?_
 .simp[c63,pA,af.qa,af.qb,s1,s5,s6,s7];refine⟨_,hk,hc,by simp[cW,rO],?_⟩;simp[s1,s5,s6,s7]
 clear s1 s5 s6 s7;rintro S6 H6 ⟨s1,s5,s6,s7,iY⟩
 cases hp:p q with
 |true=>
  refine SW.cond rfl false (by show S6 21=_;rw[iY,hp]<;>rfl) ?_;refine SW.last hG de zk (ac:=af.qb pA.qb.qb.qb.qb) zk (λ_ _ h=>h) (λS H=>S 1=.func (.func k) [] [.ref u,.ref v,.ref x]/\S 5=.int .i64 (i:Nat)/\S 6=.int .i64 (q:Nat)) ?_ ?_
  .simp[c63,pA,af.qa,af.qb,s1,s5,s6,s7]
  rintro S7 H7 ⟨s1,s5,s6⟩;refine⟨⟨i,q,rfl,g1,zo,uG,λy Jn hy2=>hm q y Jn hp,s1,s5,s6⟩,?_⟩;show(match S7 5,S7 6 with|.int _ i,.int _ j=>(j-i).toNat|_,_=>0)<(match S3 5,S3 6 with|.int _ i,.int _ j=>(j-i).toNat|_,_=>0);rw[s5,s6,m5,m6];simp only;omega
 |false=>
  refine SW.cond rfl true (by show S6 21=_;rw[iY,hp]<;>rfl) ?_
  have nz:IntKind.i64.wrap ((q:Int)+1)=((q+1:Nat):Int):=by rw[aQ zo];omega
  refine SW.last hG de zk (ac:=af.qa pA.qb.qb.qb.qb) zk (λ_ _ h=>h) (λS H=>S 1=.func (.func k) [] [.ref u,.ref v,.ref x]/\S 5=.int .i64 ((q+1:Nat):Int)/\S 6=.int .i64 (j:Nat)) ?_ ?_
  .simp[c63,pA,af.qa,af.qb,s1,s5,s6,s7,nz]
  rintro S7 H7 ⟨s1,s5,s6⟩;refine⟨⟨q+1,j,rfl,zo,xU,g3 hp,Ah,s1,s5,s6⟩,?_⟩;show(match S7 5,S7 6 with|.int _ i,.int _ j=>(j-i).toNat|_,_=>0)<(match S3 5,S3 6 with|.int _ i,.int _ j=>(j-i).toNat|_,_=>0);rw[s5,s6,m5,m6];simp only;omega
def Q0{P:Program}{x y:af}{Q:dV->an->ao->Prop}{S:an}{H:ao}(K:an->ao->Prop)(hx:bB P GI x (di K Q) S H)(hy:∀S' H',K S' H'->bB P GI y Q S' H'):bB P GI (.seq x y) Q S H:=
 gL x (pt (λS H h=>hy S H h) (λ_ _ _ h=>h)) hx
def At{P:Program}{K:an->ao->Prop}{Qp:AV->Prop}{l2:List bI}:∀(l1:List bI)(S:an)(H:ao),bq P GI l1 (bq P GI l2 K Qp) Qp S H->bq P GI (l1++l2) K Qp S H
 |[],S,H,h=>h
 |o::rest,S,H,h=>by
  simp only[List.cons_append,bq]at h⊢;split at h
  .exact ph (λS H=>At rest S H) (λ_ h=>h) h
  .exact At rest _ _ h
  .exact h
def qL{P:Program}{l:List bI}{K:an->ao->Prop}{Qp:AV->Prop}{S:an}{H:ao}(n:Nat)(I:an->ao->Prop)(h1:bq P GI (l.take n) I Qp S H)(h2:∀S H,I S H->bq P GI (l.drop n) K Qp S H):bq P GI l K Qp S H:=by
 rw[<-aeX n l];exact At _ _ _ (tD h2 (λ_ h=>h) _ _ _ h1)
def DI(hG:ar GI)(n lo hi:Int):AC prog GI 34 [.int .i64 n,.int .i64 lo,.int .i64 hi] (.ret (.bool (df n lo hi))):=by
 refine cw hG func34 ntmps34 c34 ?_
 by_cases h1:lo<=n<;>by_cases h2:n<=hi<;>simp[c34,df,h1,h2]
def aaz(hG:ar GI)(n:Int):AC prog GI 36 [.int .i64 n] (.ret (.bool (df n 1 12))):=by
 refine cw hG func36 ntmps36 c36 ?_;simp[c36];refine oc (DI hG n 1 12) ?_;simp
def abq(hG:ar GI)(n:Int):AC prog GI 37 [.int .i64 n] (.ret (.bool (df n 1 9))):=by
 refine cw hG func37 ntmps37 c37 ?_;simp[c37];refine oc (DI hG n 1 9) ?_;simp
def acu(hG:ar GI)(n:Int):AC prog GI 38 [.int .i64 n] (.ret (.bool (df n 0 9))):=by
 refine cw hG func38 ntmps38 c38 ?_;simp[c38];refine oc (DI hG n 0 9) ?_;simp
def ab4(hG:ar GI)(s:aw)(n:Int):AC prog GI 35 [bm s,.int .i64 n] (.ret (.bool (df n 1 s.cells.length))):=by
 refine cw hG func35 ntmps35 c35 ?_;simp[c35,bm,az,ai];refine oc (DI hG n 1 s.cells.length) ?_;simp
def ac9(hG:ar GI)(s:aw)(hs:f_ s):AC prog GI 9 [bm s] (.ret (.bool (dj s))):=by
 refine cw hG func9 ntmps9 c9 ?_;refine aK (λS H=>S 1=.box 1 0/\H 1=some (az s)) (by simp[bm,az,ai]) ?_;rintro S H ⟨s1,h1⟩;refine Q0 (λS H=>S 1=.box 1 0/\H 1=some (az s)/\s.cells.any j4=false) ?_ ?_
 .simp[s1,h1,az,ai];refine bz 3 s.cells.length (λi S H=>S 1=.box 1 0/\H 1=some (az s)/\S 3=.int .i64 (i:Nat)/\∀j (h:j<s.cells.length),j<i->j4 s.cells[j]=false) (λi S H h=>h.2.2.1) ⟨by simp[s1],by simp[h1,az,ai],ahB,ahB⟩ ?_;clear s1 h1 S H;rintro i hi S H ⟨s1,h1,s3,hb⟩
  by_cases aq:i<s.cells.length
  .have hw:IntKind.i64.wrap ((i:Int)+1)=i+1:=aQ (by have:=hs.cells;omega)
   have hn:¬(i:Int)<0:=zo
   have vQ:¬(s.cells.length:Int)<=i:=zo
   have Xh:j4 s.cells[i]=true->dj s=false:=λh=>by
    have:s.cells.any j4=true:=ae8.2 ⟨_,adC aq,h⟩;simp[dj,this]
   simp[s1,h1,s3,aq,hn,vQ,fY,az,ai];refine oc (DI hG _ _ _) ?_;cases e1:df s.cells[i].lo 1 20
   .have hr:=Xh (by simp[j4,e1]);simp[s1,h1,s3,hr]
   simp[s1,h1,s3,aq,hn,vQ,fY,az,ai];refine oc (DI hG _ _ _) ?_;cases e2:df s.cells[i].hi s.cells[i].lo 20
   .have hr:=Xh (by simp[j4,e2]);simp[s1,h1,s3,hr]
   simp[s1,h1,s3,hw,aq,az,ai];intro j hj fK
   by_cases e:j=i
   .subst e;simp[j4,e1,e2]
   .exact hb j hj zo
  .have dk:i=s.cells.length:=zo
   subst dk
   have ha:s.cells.any j4=false:=by
    rw[<-ng,kF λj hj=>hb j hj hj];simp
   simp[s1,h1,s3,ha,az,ai]
   all_goals (intro x hx;obtain⟨j,hj,rfl⟩:=aer hx;exact hb j hj hj)
 clear s1 h1 S H;rintro S H ⟨s1,h1,ha⟩;simp only[ez];refine qL 4 (λS H=>S 1=.box 1 0/\H 1=some (az s)/\S 41=.bool (df s.cells.length 1 12)) ?_ ?_
 .simp[s1,h1,az,ai];refine oc (DI hG s.cells.length 1 12) ?_;simp[s1,h1,az,ai]
 have hT:dj s=(((((df s.cells.length 1 12&&df s.pos 1 s.cells.length)&&df s.reach 1 12)&&df s.eZ 1 9)&&df s.dS 0 9)&&bj s.name):=by
  simp[dj,ha]
 rw[hT];clear hT;generalize df s.cells.length 1 12=b1;rintro S1 H1 ⟨s1,h1,M3⟩;refine qL 6 (λS H=>S 1=.box 1 0/\H 1=some (az s)/\S 47=.bool (b1&&df s.pos 1 s.cells.length)) ?_ ?_
 .cases b1
  .simp[s1,h1,M3]
  .simp[s1,h1,M3,az,ai];refine oc (ab4 hG s s.pos) ?_;simp[s1,h1,M3,az,ai]
 generalize(b1&&df s.pos 1 s.cells.length)=b2;clear s1 h1 M3;rintro S2 H2 ⟨s1,h1,AM⟩;refine qL 5 (λS H=>S 1=.box 1 0/\H 1=some (az s)/\S 52=.bool (b2&&df s.reach 1 12)) ?_ ?_
 .cases b2
  .simp[s1,h1,AM]
  .simp[s1,h1,AM,az,ai];refine oc (aaz hG s.reach) ?_;simp[s1,h1,AM,az,ai]
 generalize(b2&&df s.reach 1 12)=b3;clear s1 h1 AM;rintro S3 H3 ⟨s1,h1,Ej⟩;refine qL 5 (λS H=>S 1=.box 1 0/\H 1=some (az s)/\S 57=.bool (b3&&df s.eZ 1 9)) ?_ ?_
 .cases b3
  .simp[s1,h1,Ej]
  .simp[s1,h1,Ej,az,ai];refine oc (abq hG s.eZ) ?_;simp[s1,h1,Ej,az,ai]
 generalize(b3&&df s.eZ 1 9)=b4;clear s1 h1 Ej;rintro S4 H4 ⟨s1,h1,QD⟩;refine qL 5 (λS H=>S 1=.box 1 0/\H 1=some (az s)/\S 62=.bool (b4&&df s.dS 0 9)) ?_ ?_
 .cases b4
  .simp[s1,h1,QD]
  .simp[s1,h1,QD,az,ai];refine oc (acu hG s.dS) ?_;simp[s1,h1,QD,az,ai]
 generalize(b4&&df s.dS 0 9)=b5;clear s1 h1 QD;rintro S5 H5 ⟨s1,h1,Uf⟩;cases b5
 .simp[s1,h1,Uf]
 .simp[s1,h1,Uf,az,ai];refine oc (aaJ hG s.name hs.name) ?_;simp[s1,h1,Uf]
def Qa(a b:End):(a.1=b.1/\a.2=b.2)↔a=b:=by
 obtain⟨a1,a2⟩:=a;obtain⟨b1,b2⟩:=b;simp
def aaC(hG:ar GI)(a b:List End)(ha:a.length<1000000):AC prog GI 31 [.slice .view (a.map bX),.slice .view (b.map bX)] (.ret (.bool (a==b))):=by
 refine cw hG func31 ntmps31 c31 ?_
 by_cases hl:a.length=b.length
 case neg=>
  have o_:((a.length:Int)!=b.length)=true:=by simp;omega
  have cD:(a==b)=false:=by
   rw[aeo];intro e;exact hl (by rw[e])
  simp[c31,o_,cD]
 have o_:((a.length:Int)!=b.length)=false:=by simp;omega
 simp[c31,o_];refine bz 5 a.length (λi S H=>S 0=.slice .view (a.map bX)/\S 1=.slice .view (b.map bX)/\S 5=.int .i64 (i:Nat)/\∀j (hj:j<a.length),j<i->a[j]=b[j]' zo) (λi S H h=>h.2.2.1) ⟨ahB,ahB,ahB,λj _ h=>absurd h (agO _)⟩ ?_;rintro i hi S H ⟨s0,s1,s5,hb⟩
 by_cases aq:i<a.length
 case neg=>
  have he:(a==b)=true:=by
   rw[aej]
   exact agx hl λj h1 h2=>hb j h1 zo
  have hn:¬(i:Int)<a.length:=zo
  simp[s0,s1,s5,hn,he]
 have hw:IntKind.i64.wrap ((i:Int)+1)=i+1:=aQ zo
 have CA:i<b.length:=zo
 by_cases he:a[i]=b[i]
 .simp[s0,s1,s5,aq,CA,hw,he,bX,Ez];intro j hj fK
  by_cases e:j=i
  .subst e;exact he
  .exact hb j hj zo
 .have cD:(a==b)=false:=by
   rw[aeo];intro e;subst e;exact he rfl
  have nL:¬(a[i].1=b[i].1/\a[i].2=b[i].2):=λh=>he ((Qa _ _).1 h)
  have iL:([a[i].1,a[i].2]!=[b[i].1,b[i].2])=true:=by
   rw[agn];intro e;simp at e;exact nL e
  simp[s0,s1,s5,aq,CA,bX,Ez,cD,iL]
def qA(w:Word):Bool:=decide (w.aV.length<=8)&&decide (w.bZ.length<=8)
def rC(s:aJ):Bool:=(s.words.take 6).all qA&&(decide (s.aM.length<=8)&&decide (s.aL.length<=8)&&decide (s.words.length<=6))
def Hj{s:aJ}(h:rC s=true):qI s:=by
 unfold rC at h;simp only[adE,adL]at h;obtain⟨h1,⟨h2,h3⟩,h4⟩:=h;rw[adI h4,adQ]at h1
 have h5:∀w∈s.words,w.aV.length<=8/\w.bZ.length<=8:=λw hw=>by simpa[qA]using h1 w hw
 exact⟨zo,zo,zo,λw hw=>by have:=(h5 w hw).1;omega,λw hw=>by have:=(h5 w hw).2;omega⟩
def tK(s:aw):Bool:=rC s.name&&decide (s.cells.length<=14)
def tr{s:aw}(h:tK s=true):f_ s/\s.cells.length<=14/\s.name.words.length<=6:=by
 unfold tK at h;rw[adE,adL]at h
 have h6:s.name.words.length<=6:=by
  have:=h.1;unfold rC at this;simp only[adE,adL]at this;exact this.2.2
 exact⟨⟨zo,Hj h.1⟩,h.2,h6⟩
def ac6(hG:ar GI)(s:aw):AC prog GI 6 [bm s] (.ret (.bool (tK s))):=by
 obtain⟨n,hn⟩:∃n,s.name=n:=⟨_,rfl⟩
 obtain⟨cs,qM⟩:∃n,s.cells=n:=⟨_,rfl⟩
 have hc:((cs.length:Int)<=14)↔cs.length<=14:=zo
 have hw8:((n.aM.length:Int)<=8)↔n.aM.length<=8:=zo
 have hp8:((n.aL.length:Int)<=8)↔n.aL.length<=8:=zo
 have hw6:((n.words.length:Int)<=6)↔n.words.length<=6:=zo
 unfold tK;rw[hn,qM];refine cw hG func6 ntmps6 c6 ?_;refine aK (λS H=>S 1=.box 1 0/\H 1=some (az s)) (by simp[bm,az,ai]) ?_;rintro S H ⟨s1,h1⟩
 have hT:az s=[.slice .view (cs.map fY),.int .i64 s.pos,.int .i64 s.reach,.int .i64 s.eZ,.int .i64 s.dS]++ai n:=by rw[<-hn,<-qM]<;>rfl
 rw[hT]at h1;generalize az s=T at hT;simp[s1,h1];refine bz 3 (min n.words.length 6) (λi S H=>S 1=.box 1 0/\H 1=some ([.slice .view (cs.map fY),.int .i64 s.pos,.int .i64 s.reach,.int .i64 s.eZ,.int .i64 s.dS]++ai n)/\S 3=.int .i64 (i:Nat)/\(∀j (hj:j<(n.words.take 6).length),j<i->qA (n.words.take 6)[j]=true)) (λi S H h=>h.2.2.1) ⟨by simp[s1],by simp[h1],ahB,ahB⟩ ?_;clear s1 h1 S H;rintro i hi S H ⟨s1,e1,s3,hb⟩
 by_cases aq:i<n.words.length
 case neg=>
  have dk:i=n.words.length:=zo
  subst dk
  have hl6:n.words.length<=6:=zo
  have eH:(n.words.take 6).all qA=true:=yQ λj hj=>hb j hj (by rw[adS]at hj;omega)
  by_cases h0:cs.length<=14<;>by_cases h1:n.aM.length<=8<;>by_cases h2:n.aL.length<=8<;>simp[s1,e1,s3,ai,rC,eH,h0,h1,h2,hl6,hc,hw8,hp8,hw6]
 by_cases h6:i<6
 case neg=>
  have US:¬(i:Int)<6:=zo
  have eH:(n.words.take 6).all qA=true:=yQ λj hj=>hb j hj (by rw[adS]at hj;omega)
  by_cases h0:cs.length<=14<;>by_cases h1:n.aM.length<=8<;>by_cases h2:n.aL.length<=8<;>simp[s1,e1,s3,aq,US,ai,rC,eH,h0,h1,h2,hc,hw8,hp8,hw6]
 have hw:IntKind.i64.wrap ((i:Int)+1)=i+1:=aQ zo
 have US:(i:Int)<6:=zo
 have hit:i<(n.words.take 6).length:=by rw[adS];omega
 have im:(n.words.take 6)[i]=n.words[i]:=afY
 by_cases h1:n.words[i].aV.length<=8
 case neg=>
  have hf:qA (n.words.take 6)[i]=false:=by rw[im];simp[qA,h1]
  have Hi:(8:Int)<n.words[i].aV.length:=zo
  simp[s1,e1,s3,aq,US,ai,cG,Hi];simp[rC,vK hit hf]
 have Hi:¬(8:Int)<n.words[i].aV.length:=zo
 by_cases h2:n.words[i].bZ.length<=8
 case neg=>
  have wG:(8:Int)<n.words[i].bZ.length:=zo
  have hf:qA (n.words.take 6)[i]=false:=by rw[im];simp[qA,h2]
  simp[s1,e1,s3,aq,US,ai,cG,Hi,wG];simp[rC,vK hit hf]
 have wG:¬(8:Int)<n.words[i].bZ.length:=zo
 have ht:qA (n.words.take 6)[i]=true:=by rw[im];simp[qA,h1,h2]
 simp[s1,e1,s3,aq,US,ai,cG,Hi,wG,hw]
 exact⟨zo,λj hj fK=>by
  have:=oR hit hb ht j (by rw[adS];omega) fK
  rwa [afY]at this⟩
end Go.Proofs.Tryz
namespace Go.Proofs.Tryz
open Go Go.AL Go.RowKit Go.Proofs Go.Proofs.Tram
variable{GI:World->Prop}
def tm(a:Act)(d:Nat)(c c':Value):(a.put (some d) c).put (some d) c'=a.put (some d) c':=by
 simp[Act.put]
def PB(s:aw):(AV.agg (az s)).vw=.agg (az s):=by simp[AV.vw,az,ai,AV.cI,vI]
def Kd{Pr:Nat->Nat->Prop}{w:World}{n:Int}{c:Value}(h:RD Pr w (rk n) c):c=.iface 131 (.agg #[.int .i64 n]):=by
 unfold rk at h
 cases h with
 |iface _ _ c h=>
  cases h with
  |agg _ vs hl h1 hr=>
   obtain⟨u,rfl⟩:=su (vs:=vs) (by rw[<-hl];rfl);have:=hr 0 ahB ahB;have:=(RV.data (al:=cQ) _ _ this).int_eq;simp only[List.getElem_toArray,List.getElem_cons_zero]at this;rw[this]
section
variable{w0:World}{n:Nat}{g:Gh}{S:an}{H:ao}{a:Act}{w:World}{d i2 i6:Nat}{s:aw}{z:List AV}
def uy (hG:ar GI) (cm:GI w0) (R:Rel prog w0 n bP g S H a w) (hd:d < n) (y8:i2 < n) (EY:i6 < n) (E0:d≠i6)
  (wz:S i2=.box i2 0) (yc:H i2=some (az s)) (Fz:S i6=.box i6 0) (Ht:H i6=some z) {R':Ending->World->Prop}
  (h:∀(c1:Value)(g1:Gh),g1.old=g.old->Rel prog w0 n bP g1 (au S d (.agg (az s))) H (a.put (some d) c1) w->GI w->RV (fI g1 false) (λ_=>none) w (bm s) c1->∀(b6:Nat),a.tmps.getD i6 undef=.pointer (some ⟨b6,0,none⟩)->
   ∃RR:Ending->World->Prop,Calls prog 69 #[c1] w RR/\∀en w2,RR en w2->match en with
    |.returned v=>∀ (aC:Act) (o:Oper),aC.eval (.tmp 1) = .pointer (some ⟨b6,0,none⟩)→aC.eval (.tmp 3)=v→o.op = .store 87 (.tmp 1) (.tmp 3) →
      ∃w3,((execOp aC.eval o).run prog w2=.ok .skip w3\/∃u,(execOp aC.eval o).run prog w2=.ok (.value u) w3)/\R' (.returned (.tuple #[])) w3
    |.panicked ch=>R' (.panicked ch) w2
    |.outgrown=>False):
  Calls prog 111 #[a.tmps.getD i2 undef,a.tmps.getD i6 undef] w R':=by
 obtain⟨b2,mf,e2⟩:=np R y8 wz;obtain⟨b6,al6,e6⟩:=np R EY Fz;have bl:=R.size;have uQ:=R.below;rw[R.base]at uQ;have gD:GI w:=hG w0 w cm uQ;obtain⟨i40,abY,acP⟩:=iZ 31 15;obtain⟨fs,fH⟩:=uZ 31
 have j3:aD S H (.load .any (eh (.struct fs)) i40.size (.t i2))=some { v:=.agg (az s) }:=by
  simp[aD,ev,wz,yc,HR.okB,acP,eh,cd,az,ai,AV.aI,vI]
 obtain ⟨c1,w1,g1,dE,mT,qg,R1⟩:=C2 R (o:={ dst:=some d,op := .load 31 (.tmp i2),type:=0,pos := "",after := #[],guard:=none }) (x := .tmp i2) (y := .t i2) rfl (λt ht=>by cases ht;exact ⟨hd,id⟩) abY fH (by simp [dz,y8]) (λ_ _=>id) j3
 have mR:w1=w:=by
  rcases dE with dE|⟨dE,_⟩
  .exact(rn (P:=prog) zr dE).1
  .obtain⟨_,v,hv⟩:=rn (P:=prog) zr dE;cases hv
 subst mR
 have YZ:(execOp a.eval { dst:=some d,op := .load 31 (.tmp i2),type:=0,pos := "",after := #[],guard:=none }).run prog w1 = .ok (.value c1) w1:=by
  rcases dE with dE|⟨dE,_⟩
  .exact dE
  .obtain⟨_,v,hv⟩:=rn (P:=prog) zr dE;cases hv
 have QG:Rel prog w0 n bP g1 (au S d (.agg (az s))) H (a.put (some d) c1) w1:=R1
 have ab_:∀(a:Act)(d:Nat)(c:Value),d<a.tmps.size->(a.put (some d) c).tmps.getD d undef=c:=λa d c h=>by
  simp[Act.put,h]
 have kc:RV (fI g1 false) (λ_=>none) w1 (bm s) c1:=by
  have h1:=QG.slot d hd id;rw[aO,ab_ a d c1 zo]at h1;have:=QG.ia h1 false (by simp[rO]);have e:Go.AL.ia H (.agg (az s))=.agg (az s):=PB s;rw[e]at this;exact this
 obtain⟨RR,ml,hRR⟩:=h c1 g1 qg QG gD kc b6 e6;rw[e2,e6];refine afJ func111 rfl ?_;refine(fy (m:=0)).1 ?_;refine ik (λa=>a.tmps.size=4/\a.defers=[]/\a.tmps.getD 0 undef=.pointer (some ⟨b2,0,none⟩)/\a.tmps.getD 1 undef=.pointer (some ⟨b6,0,none⟩)) ⟨by simp[ntmps111],rfl,cJ _ _ 0 ahB,cJ _ _ 1 ahB⟩ ?_;rintro aC ⟨zC,dC,t0,t1⟩
 have jL:∀(a:Act)(d:Nat)(c:Value),a.tmps.size=4->d<4->(a.put (some d) c).tmps.getD d undef=c:=λa d c h hd=>by
  simp[Act.put,h,hd]
 have fx:∀(a:Act)(d t:Nat)(c:Value),t≠d->(a.put (some d) c).tmps.getD t undef=a.tmps.getD t undef:=λa d t c h=>by
  simp[Act.put,adN (aeq h)]
 refine aea ?_;show wpOpsIn _ _ _ _ _ [0,1,2] aC w1
 have N5:∀o:Oper,o.op=.load 31 (.tmp 0)->(execOp aC.eval o).run prog w1=.ok (.value c1) w1:=by
  intro o ho;have h1:aC.eval (.tmp 0)=a.eval (.tmp i2):=t0.trans e2.symm;rw[<-YZ];unfold execOp;simp only[ho,h1]
 refine bf rfl rfl zr (N5 _ rfl) ?_;show wpOpsIn _ _ _ _ _ [1,2] (aC.put (some 2) c1) w1;refine pd rfl rfl zr (gq (k:=69) (args:=#[c1]) w1 rfl rfl ?_ zk) ml ?_
 .simp only[aeg,adU,aee];show #[(aC.put (some 2) c1).tmps.getD 2 undef]=_;rw[jL _ _ _ zC zd]
 rintro en w2 Vm;have:=hRR en w2 Vm
 cases en with
 |returned v=>
  show wpOpsIn _ _ _ _ _ [2] ((aC.put (some 2) c1).put (some 3) v) w2
  obtain ⟨w3,hr3,C5⟩:=this ((aC.put (some 2) c1).put (some 3) v) { dst:=none,op := .store 87 (.tmp 1) (.tmp 3),type:=0,pos := "",after := #[],guard:=none }
   (by show((aC.put (some 2) c1).put (some 3) v).tmps.getD 1 undef=_;rw[fx _ _ _ _ zd,fx _ _ _ _ zd];exact t1)
   (by show((aC.put (some 2) c1).put (some 3) v).tmps.getD 3 undef=_;exact jL _ _ _ (by simpa[Act.put]using zC) zd) rfl
  have fin:∀u:Value,((aC.put (some 2) c1).put (some 3) v).defers=[]/\∃v',(results f111 ((aC.put (some 2) c1).put (some 3) v).tmps).run prog w3=.ok v' w3/\R' (.returned v') w3:=λu=>⟨dC,.tuple #[],by simp[results,results111],C5⟩
  have eJ:∀ o:Oper,o.op = .store 87 (.tmp 1) (.tmp 3)->(execOp ((aC.put (some 2) c1).put (some 3) v).eval o).run prog w2=(execOp ((aC.put (some 2) c1).put (some 3) v).eval { dst:=none,op := .store 87 (.tmp 1) (.tmp 3),type:=0,pos := "",after := #[],guard:=none }).run prog w2:=by
   intro o ho;unfold execOp;simp only[ho]
  rcases hr3 with hr|⟨u,hr⟩
  .exact eT rfl rfl zr ((eJ _ rfl).trans hr) (fin undef)
  .exact bf rfl rfl zr ((eJ _ rfl).trans hr) (fin u)
 |panicked ch=>exact⟨dC,this⟩
 |outgrown=>exact this.elim
def Rt (hG:ar GI) (cm:GI w0) (R:Rel prog w0 n bP g S H a w) (hd:d < n) (y8:i2 < n) (EY:i6 < n) (E0:d≠i6)
  (wz:S i2=.box i2 0) (yc:H i2=some (az s)) (Fz:S i6=.box i6 0) (Ht:H i6=some z) (hz:z.length=16) {ns:List Int} (tX:AC prog GI 69 [bm s] (.ret (dR s ns))):
  Calls prog 111 #[a.tmps.getD i2 undef,a.tmps.getD i6 undef] w λe w2=>e=.returned (.tuple #[])/\∃(c:Value)(g':Gh)(S':an)(H':ao),g'.old=g.old/\Rel prog w0 n bP g' S' H' (a.put (some d) c) w2/\(∀t,t≠d->S' t=S t)/\H'=au H i6 (some (bw s ns)):=by
 refine uy hG cm R hd y8 EY E0 wz yc Fz Ht λc1 g1 nw R1 gD kc b6 e6=>?_
 refine⟨_,tX w (fI g1 false) #[c1] gD rfl (λi h h'=>by
  match i,h with
  |0,_=>exact kc),?_⟩
 rintro en w2 ⟨iL,hi,qR,c,rfl,NJ,cZ⟩;intro aC o q1 q3 ho;obtain⟨g',mT,qg,R2⟩:=R1.call (some d) (λt ht=>by cases ht;exact⟨hd,id⟩) false iL qR NJ cZ (λh=>by cases h);rw[tm]at R2
 have V3:∀t,t≠d->aW (au S d (.agg (az s))) (some d) (dR s ns) t=S t:=λt ht=>by simp[AL.aW,au,ht]
 obtain⟨i100,xW,yv⟩:=iZ 87 16
 have kV:bC z 0 ((bw s ns).map AV.aI)=bw s ns:=by
  have:(bw s ns).map AV.aI=bw s ns:=by simp[bw,az,ai,vI,AV.aI]
  rw[this];simp[bC,hz,bw,az,ai]
 have j3:aD (aW (au S d (.agg (az s))) (some d) (dR s ns)) H (.store .any i100.size (.t i6) (.t d))=some { v:=cy,dm:=some d,hw:=some (i6,bw s ns) }:=by
  show aD (aW (au S d (.agg (az s))) (some d) (.agg (bw s ns))) H (.store .any i100.size (.t i6) (.t d))=_;have e1:ev (aW (au S d (.agg (az s))) (some d) (.agg (bw s ns))) (.t i6)=.box i6 0:=(V3 i6 (aeq E0)).trans Fz
  have e2:ev (aW (au S d (.agg (az s))) (some d) (.agg (bw s ns))) (.t d)=.agg (bw s ns):=by simp[ev,AL.aW,au]
  have hl:(bw s ns).length=16:=by simp[bw,az,ai]
  simp only[aD,e1,e2,Ht,HR.okB];simp[AV.cells,AV.storable,yv,hl,hz,bt,kV,AV.ct]
 obtain ⟨c2,w3,g3,dE,Uw,Dq,R3⟩:=nn R2 (o:={ dst:=none,op := .store 87 (.tmp i6) (.tmp d),type:=0,pos := "",after := #[],guard:=none }) (x1 := .tmp i6) (x2 := .tmp d) (y1 := .t i6) (y2 := .t d) (hr := .any) rfl rfl xW (by simp [dz,EY]) (by simp [dz,hd]) (λ_ _=>id) (λ_ _=>id) j3;have bl:=R.size
 have f6:(a.put (some d) c).eval (.tmp i6)=.pointer (some ⟨b6,0,none⟩):=by
  show(a.put (some d) c).tmps.getD i6 undef=_;rw[<-e6];simp[Act.put,adN E0]
 have fd:(a.put (some d) c).eval (.tmp d)=c:=by
  show(a.put (some d) c).tmps.getD d undef=_;simp[Act.put,bl,hd]
 have bn:(execOp aC.eval o).run prog w2=(execOp (a.put (some d) c).eval { dst:=none,op := .store 87 (.tmp i6) (.tmp d),type:=0,pos := "",after := #[],guard:=none }).run prog w2:=by
  unfold execOp;simp only[ho,q1,q3,f6,fd]
 refine⟨w3,?_,rfl,c,g3,_,_,by rw[Dq,qg,nw],R3,λt ht=>?_,rfl⟩
 .rcases dE with dE|⟨dE,_⟩
  .exact .inr ⟨_,bn.trans dE⟩
  .exact .inl (bn.trans dE)
 .rw[<-V3 t ht];simp[aP.S,AL.aW,au,ht]
def MA (hG:ar GI) (cm:GI w0) (R:Rel prog w0 n bP g S H a w) (hd:d < n) (y8:i2 < n) (EY:i6 < n) (E0:d≠i6)
  (wz:S i2=.box i2 0) (yc:H i2=some (az s)) (Fz:S i6=.box i6 0) (Ht:H i6=some z) {k:Int} (tX:AC prog GI 69 [bm s] (.panic (rk k))):
  Calls prog 111 #[a.tmps.getD i2 undef,a.tmps.getD i6 undef] w λe w2=>e=.panicked [{ v:=.iface 131 (.agg #[.int .i64 k]),recovered:=false }]/\Below w.heap.size w w2:=by
 refine uy hG cm R hd y8 EY E0 wz yc Fz Ht λc1 g1 nw R1 gD kc b6 e6=>?_
 refine⟨_,tX w (fI g1 false) #[c1] gD rfl (λi h h'=>by
  match i,h with
  |0,_=>exact kc),?_⟩
 rintro en w2 ⟨iL,hi,qR,c,rfl,dh⟩;have hc:=Kd dh;subst hc;exact⟨rfl,iL⟩
def tc(R:Rel prog w0 n bP g S H a w):g.old.aU w.heap.size=none:=by
 cases h:g.old.aU w.heap.size with
 |none=>rfl
 |some o=>
  have:=(adD.1 (R.kept _ o h).2.1).1;omega
def RY (hG:ar GI) (cm:GI w0) (R:Rel prog w0 n bP g S H a w) (hd:d < n) (y8:i2 < n) (EY:i6 < n) (E0:d≠i6)
  (wz:S i2=.box i2 0) (yc:H i2=some (az s)) (Fz:S i6=.box i6 0) (Ht:H i6=some z) (hz:z.length=16) {ns:List Int} (tX:AC prog GI 69 [bm s] (.ret (dR s ns))):
  Calls prog 40 #[.func (.func 111) #[] #[a.tmps.getD i2 undef,a.tmps.getD i6 undef]] w λe w2=>e=.returned (.int .i64 0)/\∃(c:Value)(g':Gh)(S':an)(H':ao),g'.old=g.old/\Rel prog w0 n bP g' S' H' (a.put (some d) c) w2/\(∀t,t≠d->S' t=S t)/\H'=au H i6 (some (bw s ns)):=by
 have R1:=R.nF (.cells #[.int .i64 0] 34);have yA:=tc R;refine mL zk (Rt hG cm R1 hd y8 EY E0 wz yc Fz Ht hz tX) ?_;rintro e w2 ⟨rfl,c,g',S',H',ho,R2,qZ,uM⟩
 have hk:g'.old.aU w.heap.size=some (.cells #[.int .i64 0] 34):=by rw[ho];exact aO _ _ _
 have ky:=(R2.kept _ _ hk).2.1;have aq:=(adD.1 ky).1;refine⟨aq,⟨_,_,ky⟩,.inl ⟨_,rfl,rfl,c,_,S',H',?_,(R2.tv w.heap.size).jV ?_,qZ,uM⟩⟩
 .show({ g'.old with aU:=au g'.old.aU w.heap.size none }:Old)=_;rw[ho]
  have:au (au g.old.aU w.heap.size (some (.cells #[.int .i64 0] 34))) w.heap.size none=g.old.aU:=by
   funext b
   by_cases hb:b=w.heap.size
   .subst hb;simp[au,yA]
   .simp[au,hb]
  show({ g.old with aU:=au (au g.old.aU w.heap.size (some (.cells #[.int .i64 0] 34))) w.heap.size none }:Old)=_;rw[this]
 .refine⟨rfl,rfl,rfl,ahB,λk cz=>?_⟩
  by_cases hb:k=w.heap.size
  .subst hb;rw[afq w2 _ _ _ _ _ ky,ky]
  .exact aeO w2 _ k _ hb
def Rq (hG:ar GI) (cm:GI w0) (R:Rel prog w0 n bP g S H a w) (hd:d < n) (y8:i2 < n) (EY:i6 < n) (E0:d≠i6)
  (wz:S i2=.box i2 0) (yc:H i2=some (az s)) (Fz:S i6=.box i6 0) (Ht:H i6=some z) {k:Int} (tX:AC prog GI 69 [bm s] (.panic (rk k))):
  Calls prog 40 #[.func (.func 111) #[] #[a.tmps.getD i2 undef,a.tmps.getD i6 undef]] w λe w2=>e=.returned (.int .i64 7)/\∃g',g'.old=g.old/\Rel prog w0 n bP g' S H a w2:=by
 have R1:=R.nF (.cells #[.int .i64 0] 34);have yA:=tc R;refine mL zk (MA hG cm R1 hd y8 EY E0 wz yc Fz Ht tX) ?_;rintro en w2 ⟨rfl,iL⟩;have R2:=R1.jV iL;have hk:au g.old.aU w.heap.size (some (.cells #[.int .i64 0] 34)) w.heap.size=some (.cells #[.int .i64 0] 34):=aO _ _ _;have ky:=(R2.kept _ _ hk).2.1;have aq:=(adD.1 ky).1;refine⟨aq,⟨_,_,ky⟩,.inr (.inl ⟨k,rfl,λw3 oF=>⟨rfl,?_⟩⟩)⟩;have R3:=R2.jV oF;have Du:=(R3.kept _ _ hk).2.1;have R4:=R3.mQ hk (.cells #[.int .i64 7] 34);rw[nI w3 Du];refine⟨_,?_,R4.tv w.heap.size⟩
 have:au (au (au g.old.aU w.heap.size (some (.cells #[.int .i64 0] 34))) w.heap.size (some (.cells #[.int .i64 7] 34))) w.heap.size none=g.old.aU:=by
  funext b
  by_cases hb:b=w.heap.size
  .subst hb;simp[au,yA]
  .simp[au,hb]
 show({ g.old with aU:=au (au (au g.old.aU w.heap.size (some (.cells #[.int .i64 0] 34))) w.heap.size (some (.cells #[.int .i64 7] 34))) w.heap.size none }:Old)=_;rw[this]
end
end Go.Proofs.Tryz
namespace Go.Proofs.Tryz
open Go Go.AL Go.RowKit Go.Proofs Go.Proofs.Tram
attribute [local simp] ez fF fo eN eM ea eb dG dH eU dI da gZ g_ aF aD ev aP.S aP.H bt au aW AL.start AV.cells AV.storable AV.ct bC cb dU cd HR.okB post cH db c_ AV.out AV.b_ cU d_ fz ia AV.vw cW vI int cy aN di dQ iC jw eP dW bD AV.aI AV.cI
variable{GI:World->Prop}
def zT:aw:=⟨[],0,0,0,0,⟨[],[],0,0,0,0,0,[],0,0⟩⟩
def fe(s:aw)(b:Bool):List AV:=
 if b then(match kl s.name with|some es=>[dR s (bW s es),.int .i64 0]|none=>[dR zT [],.int .i64 7])else[dR zT [],.int .i64 2]
def lq:List AV:=[.slice .nil [],.int .i64 0,.int .i64 0,.int .i64 0,.int .i64 0,.slice .nil [],.slice .nil [],.int .i64 0,.int .i64 0,.int .i64 0,.int .i64 0,.int .i64 0,.slice .nil [],.int .i64 0,.int .i64 0,.slice .nil []]
def Ju(hG:ar GI)(s:aw):AC prog GI 53 [bm s,.bool false] (.ret (.dY [dR zT [],.int .i64 2])):=by
 obtain⟨i100,xW,yv⟩:=iZ 87 16;obtain⟨fs,fH⟩:=uZ 87;refine cw hG func53 ntmps53 c53 ?_;simp[c53,bm,az,ai,bH,xW,yv,fH,eh,dR,bw,zT]
 try rfl
def C4(hG:ar GI)(s:aw)(hs:f_ s):AC prog GI 53 [bm s,.bool (dj s)] (.ret (.dY (fe s (dj s)))):=by
 cases hI:dj s with
 |false=>exact Ju hG s
 |true=>
 have Sf:=gM hI
 refine AC.ji func53 rfl ntmps53 ahB λcc w=>?_
 refine dT hG c53.qa (λS' H'=>S' 1=.bool true/\S' 2=.box 2 0/\H' 2=some (az s)/\S' 4=.box 4 0/\H' 4=some lq) ?_ ?_
 .simp[c53,af.qa,bm,az,ai,lq]
 rintro S1 H1 ⟨s1,s2,h2,s4,h4⟩;refine SW.seq (dT hG c53.qb.qa.qa (λS' H'=>S' 9=.bool false/\S' 2=.box 2 0/\H' 2=some (az s)/\S' 4=.box 4 0/\H' 4=some lq) ?_ ?_)
 .simp[c53,af.qa,af.qb,s1,s2,h2,s4,h4]
 clear s1 s2 h2 s4 h4;rintro S2 H2 ⟨s9,s2,h2,s4,h4⟩;refine SW.cond rfl false (by show S2 9=_;rw[s9]) (SW.skip ?_);show SW prog GI 15 none (.seq _ (.seq _ (.seq _ .ret))) _ _ _ _;refine dT hG c53.qb.qb.qa (λS' H'=>S' 2=.box 2 0/\H' 2=some (az s)/\S' 4=.box 4 0/\H' 4=some lq/\S' 6=.box 6 0/\H' 6=some lq) ?_ ?_
 .simp[c53,af.qa,af.qb,s2,h2,s4,h4,lq]
 clear s9 s2 h2 s4 h4;rintro S3 H3 ⟨s2,h2,s4,h4,s6,h6⟩
 obtain ⟨l,e,hle,hO,og⟩:∃ (l:List AV) (e:Int),l.length=16∧fe s true=[(AV.agg (l.map AV.aI)).vw,.int .i64 e] ∧
   ∀(w0:World)(g:Gh)(S:an)(H:ao)(a:Act)(w:World),GI w0->Rel prog w0 15 bP g S H a w->S 2=.box 2 0->H 2=some (az s)->S 6=.box 6 0->H 6=some lq->
    Calls prog 40 #[.func (.func 111) #[] #[a.tmps.getD 2 undef,a.tmps.getD 6 undef]] w λen w2=>en=.returned (.int .i64 e)/\∃(c:Value)(g':Gh)(S':an)(H':ao),g'.old=g.old/\Rel prog w0 15 bP g' S' H' (a.put (some 12) c) w2/\(∀t,t≠12->S' t=S t)/\H'=au H 6 (some l):=by
  cases gw:kl s.name with
  |some es=>
   refine⟨bw s (bW s es),0,by simp[bw,az,ai],?_,λw0 g S H a w cm R q2 Nt q6 VM=>RY hG cm R zd zd zd zd q2 Nt q6 VM rfl (TC hG s hs Sf gw)⟩;simp[fe,gw,dR,bw,az,ai,vI,AV.aI,AV.vw,AV.cI]
  |none=>
   refine⟨lq,7,rfl,?_,λw0 g S H a w cm R q2 Nt q6 VM=>(Rq hG cm R (d:=12) zd zd zd zd q2 Nt q6 VM (Kz hG s hs Sf gw)).mono ?_⟩
   .simp[fe,gw,dR,bw,az,ai,zT,lq,vI,ints,AV.aI,AV.vw,AV.cI]
   .rintro en w2 ⟨rfl,g',Aw,R'⟩;refine⟨rfl,undef,g',au S 12 .bp,H,Aw,R'.put 12 .bp undef zd (.bp _) trivial,λt ht=>aT _ _ ht,?_⟩
    funext k
    by_cases hk:k=6
    .subst hk;rw[aO];exact VM
    .rw[aT _ _ hk]
 rw[hO]
 refine SW.seq (SW.hand hG (p:=0) (lm:=[0,1]) (l2:=[2]) (jX:=[]) (oh:=[_,_]) (mw:=[_]) rfl rfl rfl rfl zk (λ_ h=>h) (mS:=[]) (mf:=(c53.qb.qb.qb.qa.dl).drop 2) rfl zk rfl zk
  (K1:=λS' H'=>S' 2=.box 2 0/\H' 2=some (az s)/\S' 4=.box 4 0/\H' 4=some lq/\S' 6=.box 6 0/\H' 6=some lq)
  (K2:=λo S' H'=>o=Old.plain cc w/\S' 4=.box 4 0/\H' 4=some lq/\S' 6=.box 6 0/\H' 6=some l/\S' 12=.int .i64 e)
  (K3:=λo S' H'=>o=Old.plain cc w/\S' 4=.box 4 0/\H' 4=some lq/\S' 6=.box 6 0/\H' 6=some l/\S' 7=.int .i64 e) ⟨s2,h2,s4,h4,s6,h6⟩ ?_ ?_ ?_)
 .rintro w0 g S5 H5 a w5 m cm ho R ⟨s2,h2,s4,h4,s6,h6⟩;have bl:=R.size;refine bf rfl rfl zr (mB (fn:=.func 111) (c:=#[.tmp 2,.tmp 6]) rfl) ?_
  obtain⟨fv,lV⟩:∃fv:Value,fv=.func (.func 111) #[] (#[Operand.tmp 2,.tmp 6].map a.eval):=⟨_,rfl⟩
  show wpOpsIn _ _ _ _ _ [1] (a.put (some 11) (.func (.func 111) #[] (#[Operand.tmp 2,.tmp 6].map a.eval))) w5;rw[<-lV];have R1:=R.put 11 .bp fv zd (.bp _) trivial
  obtain⟨a1,ny⟩:∃a1,a.put (some 11) fv=a1:=⟨_,rfl⟩
  rw[ny]at R1⊢
  have vv:fv=.func (.func 111) #[] #[a1.tmps.getD 2 undef,a1.tmps.getD 6 undef]:=by
   have e1:=cg a 11 2 fv zo;have e4:=cg a 11 6 fv zo;rw[if_neg zd,ny]at e1 e4;have wO:a1.tmps.getD 2 undef=a.eval (.tmp 2):=e1;have EG:a1.tmps.getD 6 undef=a.eval (.tmp 6):=e4;rw[wO,EG,lV];simp only[aeg,adU,aee]
  have iP:a1.eval (.tmp 11)=fv:=by rw[<-ny,cg _ _ _ _ zo,if_pos rfl]
  refine gC rfl rfl zr (gq (k:=40) (args:=#[.func (.func 111) #[] #[a1.tmps.getD 2 undef,a1.tmps.getD 6 undef]]) w5 rfl rfl ?_ zk) (og w0 g _ _ a1 w5 cm R1 (by simp[au,s2]) h2 (by simp[au,s6]) h6) ?_
  .simp only[aeg,adU,aee,iP,<-vv]
  .rintro en w6 ⟨rfl,c,g',S',H',nM,R2,qZ,uM⟩;refine⟨_,rfl,?_⟩;have R3:=R2.put 12 (.int .i64 e) (.int .i64 e) zd (.data _ _ (.int _ _)) trivial;rw[tm]at R3;refine⟨g',_,H',R3,nM.trans ho,?_,?_,?_,?_,aO _ _ _⟩
   .show au S' 12 _ 4=_;rw[aT _ _ zd,qZ 4 zd];simp[au,s4]
   .rw[uM,aT _ _ zd];exact h4
   .show au S' 12 _ 6=_;rw[aT _ _ zd,qZ 6 zd];simp[au,s6]
   .rw[uM];exact aO _ _ _
 .rintro o S5 H5 ⟨rfl,s4,h4,s6,h6,cM⟩;refine⟨λ_ h=>h,?_⟩;simp[c53,af.qa,af.qb,af.dl,bq,aF,ba,aD,ev,aP.S,aP.H,au,aW,s4,h4,s6,h6,cM,AV.aI,bt]
 .rintro o S5 H5 ⟨rfl,s4,h4,s6,h6,s7⟩;show SW prog GI 15 none (.seq _ .ret) _ _ _ _;have hT:List.take 16 (l.map AV.aI)=l.map AV.aI:=adI (by simp;omega);refine dT hG c53.qb.qb.qb.qb.qa (λS' H'=>S' 4=.box 4 0/\H' 4=some (l.map AV.aI)/\S' 5=.int .i64 e) ?_ ?_
  .simp[c53,af.qa,af.qb,s4,h4,s6,h6,s7,hle,hT,lq,iM]
  rintro S6 H6 ⟨s4,h4,s5⟩;obtain⟨i100,xW,yv⟩:=iZ 87 16;obtain⟨fs,fH⟩:=uZ 87;refine SW.ret ⟨eo.plain rfl,rfl,_,?_,rfl⟩;show cH prog 15 [.cell 4 87,.tmp 5] S6 H6=_;simp[cH,db,c_,s4,h4,s5,xW,fH,yv,cd,eh,hle,hT,iM,AV.out,AV.b_]
  try rfl
def m_(e:Nat)(s:aw)(av:List Int):Nat:=gf av (jY (cj e s)) (gv (gI s) s.cells.length)
def lU{s:aw}(h:iN s){es:List End}(he:es.length<=3):(∀x∈bW s es,0<=x/\x<=1000)/\(bW s es).length<=1000:=by
 refine⟨λx hx=>?_,?_⟩
 .obtain⟨i,hi,rfl⟩:=adZ.1 hx
  have:=BN h he (i:=i) (by
   unfold ef;split
   .rename_i x hx;obtain⟨aq,rfl⟩:=ad0.1 hx;exact(mZ h.name (adC aq)).zh
   .omega)
  omega
 .have:=(gx h.name).words;simp[bW];omega
def vc{s:aw}(h:iN s)(e:Nat):(cj e s).length=s.cells.length/\∀x∈cj e s,0<=x/\x<=1000:=by
 refine⟨by simp[cj],λx hx=>?_⟩;obtain⟨c,hc,rfl⟩:=adZ.1 hx;have:=h.AS c hc;unfold xH
 split<;>omega
def A2(hG:ar GI)(s:aw)(h:iN s)(av:List Int)(hn:(∀x∈av,0<=x/\x<=1000)/\av.length<=1000)(e:Nat):AC prog GI 59 [dR s av,vI (cj e s)] (.ret (.int .i64 (m_ e s av))):=
 Tp hG s h av hn.1 hn.2 (cj e s) (vc h e).1 (vc h e).2
def Tg(hG:ar GI)(s:aw)(h:iN s)(av:List Int)(hn:(∀x∈av,0<=x/\x<=1000)/\av.length<=1000):AC prog GI 67 [dR s av] (.ret (.bool (decide (m_ 0 s av=av.length)))):=by
 have Tm:=Md hG s (by have:=h.cells;omega) 0 (.inl rfl);have Hq:=A2 hG s h av hn 0;refine cw hG func67 ntmps67 c67 ?_;simp[c67,dR,bw,az,ai];refine oc Tm ?_;simp;refine oc Hq ?_;simp;rw[aep];simp;omega
def pD(e:Nat)(s:aw):List AV:=
 if dj s then(match kl s.name with|some es=>[.int .i64 (m_ e s (bW s es)),.int .i64 0]|none=>[.int .i64 0,.int .i64 7])else[.int .i64 0,.int .i64 2]
def kS (s:aw):(dj s=true∧∃ es,kl s.name=some es∧fe s (dj s)=[dR s (bW s es),.int .i64 0]) ∨
  (∃e:Int,e≠0/\fe s (dj s)=[dR zT [],.int .i64 e]/\∀k,pD k s=[.int .i64 0,.int .i64 e]):=by
 cases hI:dj s with
 |false=>exact .inr ⟨2,zd,by simp[fe],λk=>by simp[pD,hI]⟩
 |true=>
  cases hs:kl s.name with
  |some es=>exact .inl ⟨rfl,es,rfl,by simp[fe,hs]⟩
  |none=>exact .inr ⟨7,zd,by simp[fe,hs],λk=>by simp[pD,hI,hs]⟩
def ach(hG:ar GI)(s:aw)(hs:f_ s):AC prog GI 21 [bm s] (.ret (.dY (pD 0 s))):=by
 have Kf:=sC hG s hs;have xS:=C4 hG s hs
 rcases kS s with⟨hI,es,gw,ho⟩|⟨e,he,ho,Ch⟩
 .rw[ho]at xS;have hg:=gM hI;have Tm:=Md hG s (by have:=hg.cells;omega) 0 (.inl rfl);have Hq:=A2 hG s hg _ (lU hg (j8 hg.name gw)) 0
  have Ch:pD 0 s=[.int .i64 (m_ 0 s (bW s es)),.int .i64 0]:=by simp[pD,hI,gw]
  rw[Ch];refine cw hG func21 ntmps21 c21 ?_;simp[c21,bm,az,ai];refine oc Kf ?_;simp;refine oc xS ?_;simp[dR,bw,az,ai,bH];refine oc Tm ?_;simp;refine oc Hq ?_;simp
 .rw[ho]at xS;rw[Ch]
  have nL:(e !=0)=true:=by simpa using he
  refine cw hG func21 ntmps21 c21 ?_;simp[c21,bm,az,ai];refine oc Kf ?_;simp;refine oc xS ?_;simp[dR,bw,az,ai,zT,bH,he,nL]
def abt(hG:ar GI)(s:aw)(hs:f_ s):AC prog GI 22 [bm s] (.ret (.dY (pD 1 s))):=by
 have Kf:=sC hG s hs;have xS:=C4 hG s hs
 rcases kS s with⟨hI,es,gw,ho⟩|⟨e,he,ho,Ch⟩
 .rw[ho]at xS;have hg:=gM hI;have Tm:=Md hG s (by have:=hg.cells;omega) 1 (.inr rfl);have Hq:=A2 hG s hg _ (lU hg (j8 hg.name gw)) 1
  have Ch:pD 1 s=[.int .i64 (m_ 1 s (bW s es)),.int .i64 0]:=by simp[pD,hI,gw]
  rw[Ch];refine cw hG func22 ntmps22 c22 ?_;simp[c22,bm,az,ai];refine oc Kf ?_;simp;refine oc xS ?_;simp[dR,bw,az,ai,bH];refine oc Tm ?_;simp;refine oc Hq ?_;simp
 .rw[ho]at xS;rw[Ch]
  have nL:(e !=0)=true:=by simpa using he
  refine cw hG func22 ntmps22 c22 ?_;simp[c22,bm,az,ai];refine oc Kf ?_;simp;refine oc xS ?_;simp[dR,bw,az,ai,zT,bH,he,nL]
def atR(s:aw)(r:Nat):aw:={ s with reach:=r }
def Rw{s:aw}(h:iN s){r:Nat}(h1:1<=r)(h2:r<=12):iN (atR s r):=⟨h.cells,h.AS,h.pos,⟨by show(1:Int)<=(r:Int);omega,by show(r:Int)<=12;omega⟩,h.eZ,h.dS,h.name⟩
def CO(s:aw)(av:List Int)(r:Nat):Bool:=decide (m_ 0 (atR s r) av=av.length)
def FW(s:aw):List AV:=
 if dj s then(match kl s.name with|some es=>(match(List.range' 1 12).find? (CO s (bW s es))with|some r=>[.int .i64 (r:Nat),.int .i64 0]|none=>[.int .i64 0,.int .i64 5])|none=>[.int .i64 0,.int .i64 7])else[.int .i64 0,.int .i64 2]
def N7{p:Nat->Bool}{r n:Nat}(h1:1<=r)(h2:r<=n)(hp:p r=true)(hb:∀k,1<=k->k<r->p k=false):(List.range' 1 n).find? p=some r:=by
 rw[show n=(r-1)+(n-(r-1)) by omega,<-agI,List.find?_append]
 have h0:(List.range' 1 (r-1)).find? p=none:=by
  rw[agl];intro x hx;have:=af0.1 hx;rw[hb x this.1 zo];simp
 rw[h0,Option.none_or,show n-(r-1)=(n-r)+1 by omega,aff,List.find?_cons];rw[show 1+(r-1)=r by omega,hp]
def Fs{p:Nat->Bool}{n:Nat}(hb:∀k,1<=k->k<=n->p k=false):(List.range' 1 n).find? p=none:=by
 rw[agl];intro x hx;have:=af0.1 hx;rw[hb x this.1 zo];simp
def abF(hG:ar GI)(s:aw)(hs:f_ s):AC prog GI 25 [bm s] (.ret (.dY (FW s))):=by
 have Kf:=sC hG s hs;have xS:=C4 hG s hs
 rcases kS s with⟨hI,es,gw,ho⟩|⟨e,he,ho,Ch⟩
 .rw[ho]at xS;have hg:=gM hI;have hn:=lU hg (j8 hg.name gw)
  have Ok:FW s=(match(List.range' 1 12).find? (CO s (bW s es))with|some r=>[.int .i64 (r:Nat),.int .i64 0]|none=>[.int .i64 0,.int .i64 5]):=by simp[FW,hI,gw]
  rw[Ok];generalize bW s es=av at xS hn⊢;refine cw hG func25 ntmps25 c25 ?_;simp[c25,bm,az,ai];refine oc Kf ?_;simp;refine oc xS ?_;simp[dR,bw,az,ai,bH];refine⟨λS H=>∃r:Nat,1<=r/\r<=13/\S 4=.box 4 0/\H 4=some (bw (atR s r) av)/\∀k,1<=k->k<r->CO s av k=false,λ_ H=>match H 4 with|some (_::_::.int _ r::_)=>(13-r).toNat|_=>0,⟨1,adF _,zd,?_⟩,?_⟩
  .simp[bw,az,ai,atR];intro k h1 h2;omega
  rintro S H ⟨r,Ly,RX,s4,h4,hb⟩
  by_cases hle:r<=12
  case neg=>
   have hr:r=13:=zo
   subst hr;rw[Fs λk h1 h2=>hb k h1 zo];simp[bw,az,ai,atR,s4,h4]
  have Pl:(r:Int)<=12:=zo
  have Wc:=Tg hG (atR s r) (Rw hg Ly hle) av hn
  cases hf:CO s av r with
  |true=>
   unfold CO at hf;rw[hf]at Wc;rw[N7 Ly hle (show CO s av r=true from hf) hb];simp[bw,az,ai,atR,s4,h4,Pl];refine oc Wc ?_;simp[bw,az,ai,atR,s4,h4]
  |false=>
   have uJ:=hf;unfold CO at uJ;rw[uJ]at Wc;have hw:IntKind.i64.wrap ((r:Int)+1)=r+1:=aQ zo;simp[bw,az,ai,atR,s4,h4,Pl];refine oc Wc ?_;simp[bw,az,ai,atR,s4,h4,hw];refine⟨⟨r+1,zo,zo,zo,λk h1 h2=>?_⟩,zo⟩
   by_cases hk:k=r
   .rw[hk];exact hf
   .exact hb k h1 zo
 .rw[ho]at xS
  have Cg:FW s=[.int .i64 0,.int .i64 e]:=by
   have:=Ch 0;unfold pD at this;unfold FW
   cases hI:dj s with
   |false=>simpa[hI]using this
   |true=>
    cases gw:kl s.name with
    |none=>simpa[hI,gw]using this
    |some es=>simp[hI,gw,fe]at ho;exact absurd ho.2.symm he
  rw[Cg]
  have nL:(e !=0)=true:=by simpa using he
  refine cw hG func25 ntmps25 c25 ?_;simp[c25,bm,az,ai];refine oc Kf ?_;simp;refine oc xS ?_;simp[dR,bw,az,ai,zT,bH,he,nL]
def MZ(hG:ar GI)(s:aw)(hs:f_ s)(b:Bool):AC prog GI 53 [bm s,.bool (dj s&&b)] (.ret (.dY (fe s (dj s&&b)))):=by
 cases b with
 |true=>rw[ahz];exact C4 hG s hs
 |false=>
  rw[Bool.and_false];have:=Ju hG s;simpa[fe]using this
def qy (s:aw) (b:Bool):(dj s=true∧b=true∧∃ es,kl s.name=some es∧fe s (dj s && b)=[dR s (bW s es),.int .i64 0]) ∨
  (dj s&&b)=false/\fe s (dj s&&b)=[dR zT [],.int .i64 2]\/dj s=true/\b=true/\kl s.name=none/\fe s (dj s&&b)=[dR zT [],.int .i64 7]:=by
 cases hI:(dj s&&b)with
 |false=>exact .inr (.inl ⟨rfl,by simp[fe]⟩)
 |true=>
  rw[adE]at hI
  cases hs:kl s.name with
  |some es=>exact .inl ⟨hI.1,hI.2,es,rfl,by simp[fe,hs]⟩
  |none=>exact .inr (.inr ⟨hI.1,hI.2,rfl,by simp[fe,hs]⟩)
def wj(s:aw):List AV:=if dj s then(match kl s.name with|some es=>[vI (bW s es),.int .i64 0]|none=>[vI [],.int .i64 7])else[vI [],.int .i64 2]
def aav(hG:ar GI)(s:aw)(hs:f_ s):AC prog GI 16 [bm s] (.ret (.dY (wj s))):=by
 have pC:=sC hG s hs;have kZ:=MZ hG s hs true
 have key:∃t:aw,∃l:List Int,∃e:Int,fe s (dj s&&true)=[dR t l,.int .i64 e]/\wj s=[vI l,.int .i64 e]:=by
  rcases qy s true with⟨h1,_,es,h2,h3⟩|⟨h1,h3⟩|⟨h1,_,h2,h3⟩
  .exact⟨_,_,_,h3,by simp[wj,h1,h2]⟩
  .rw[ahz]at h1;exact⟨_,_,_,h3,by simp[wj,h1]⟩
  .exact⟨_,_,_,h3,by simp[wj,h1,h2]⟩
 obtain⟨t,l,e,h3,h4⟩:=key;rw[h3,ahz]at kZ;rw[h4];refine cw hG func16 ntmps16 c16 ?_;simp[c16,bm,az,ai];refine oc pC ?_;simp;refine oc kZ ?_;simp[dR,bw,az,ai,bH]
def oJ(s:aw)(l:List Int):Bool:=decide (l.length=s.cells.length)&&(l.zip s.cells).all λx=>df x.1 x.2.lo x.2.hi
def zu{α β:Type}(p:α×β->Bool):∀(l:List α)(m:List β),l.length=m.length->((l.zip m).all p=true↔∀i (h:i<l.length)(h':i<m.length),p (l[i],m[i])=true)
 |[],[],_=>ahB
 |a::l,b::m,h=>by
  rw[List.zip_cons_cons,List.all_cons,adE,zu p l m (by simpa using h)]
  constructor
  .rintro⟨h1,h2⟩ i hi du
   cases i with
   |zero=>exact h1
   |succ i=>exact h2 i (by simpa using hi) (by simpa using du)
  .intro hh;exact⟨hh 0 ahB ahB,λi hi du=>hh (i+1) (by simpa using hi) (by simpa using du)⟩
 |[],_::_,h=>by simp at h
 |_::_,[],h=>by simp at h
def abO(hG:ar GI)(s:aw)(hs:s.cells.length<1000000)(l:List Int)(hl:l.length<1000000):AC prog GI 58 [bm s,vI l] (.ret (.bool (oJ s l))):=by
 refine cw hG func58 ntmps58 c58 ?_;refine aK (λS H=>S 1=vI l/\S 2=.box 2 0/\H 2=some (az s)) (by simp[bm,az,ai]) ?_;rintro S H ⟨s1,s2,h2⟩;simp[s1,s2,h2];refine bz 9 l.length (λi S H=>S 1=vI l/\S 2=.box 2 0/\H 2=some (az s)/\S 7=vI l/\S 8=.int .i64 l.length/\S 9=.int .i64 (i:Nat)/\∀j (h:j<l.length),j<i->∃h':j<s.cells.length,df l[j] s.cells[j].lo s.cells[j].hi=true) (λi S H h=>h.2.2.2.2.2.1) ⟨by simp[s1],by simp[s2],by simp[h2],by simp[s1],ahB,ahB,ahB⟩ ?_;clear s1 s2 h2 S H;rintro i hi S H ⟨s1,s2,h2,s7,s8,s9,hb⟩
 by_cases aq:i<l.length
 .have hw:IntKind.i64.wrap ((i:Int)+1)=i+1:=aQ zo
  have hn:¬(i:Int)<0:=zo
  by_cases hc:i<s.cells.length
  case neg=>
   have vQ:(s.cells.length:Int)<=i:=zo
   have hr:oJ s l=false:=by
    unfold oJ
    rw[agQ zo]<;>rfl
   simp[s1,s2,h2,s7,s8,s9,aq,hn,vQ,hr,az,ai]
  have vQ:¬(s.cells.length:Int)<=i:=zo
  simp[s1,s2,h2,s7,s8,s9,aq,hn,hc,vQ,fY,az,ai];refine oc (xl hG _ _ _) ?_;cases mu:df l[i] s.cells[i].lo s.cells[i].hi
  .have hr:oJ s l=false:=by
    unfold oJ
    by_cases uH:l.length=s.cells.length
    .have:¬ ((l.zip s.cells).all fun x=>df x.1 x.2.lo x.2.hi)=true:=fun h=>by
      have:=(zu _ l s.cells uH).1 h i aq hc;rw[mu]at this;cases this
     simp only[afn]at this;rw[this,Bool.and_false]
    .rw[agQ uH]<;>rfl
   simp[s1,s2,h2,s7,s8,s9,hr]
  .simp[s1,s2,h2,s7,s8,s9,hw,az,ai];intro j hj fK
   by_cases e:j=i
   .subst e;exact⟨hc,mu⟩
   .exact hb j hj zo
 .have dk:i=l.length:=zo
  subst dk
  have hr:oJ s l=decide (l.length=s.cells.length):=by
   unfold oJ
   by_cases uH:l.length=s.cells.length
   .rw[agq uH,ag3]
    exact(zu _ l s.cells uH).2 λi h h'=>let⟨_,q⟩:=hb i h h;q
   .rw[agQ uH,Bool.false_and]
  simp[s1,s2,h2,s7,s8,s9,hr,az,ai];rw[aep];simp;omega
def KR{s:aw}(h:iN s){l:List Int}(hr:oJ s l=true):l.length=s.cells.length/\(∀x∈l,1<=x/\x<=20)/\∀i (h:i<l.length)(h':i<s.cells.length),s.cells[i].lo<=l[i]/\l[i]<=s.cells[i].hi:=by
 unfold oJ at hr;rw[adE,adL]at hr;have h2:=(zu _ l s.cells hr.1).1 hr.2
 have h3:∀i (h:i<l.length)(h':i<s.cells.length),s.cells[i].lo<=l[i]/\l[i]<=s.cells[i].hi:=λi hi du=>by
  have:=h2 i hi du;simpa[df]using this
 refine⟨hr.1,λx hx=>?_,h3⟩;obtain⟨i,hi,rfl⟩:=aer hx;have:=h3 i hi zo;have:=h.AS _ (adC (show i<s.cells.length by omega));omega
def Az(s:aw)(av cn:List Int):Nat:=gf av (jY cn) (gv (gI s) s.cells.length)
def ym(s:aw)(l:List Int):List AV:=
 if dj s&&oJ s l then(match kl s.name with|some es=>[.int .i64 (Az s (bW s es) l),.int .i64 0]|none=>[.int .i64 0,.int .i64 7])else[.int .i64 0,.int .i64 2]
def aaM(hG:ar GI)(s:aw)(hs:f_ s)(l:List Int)(hl:l.length<1000000):AC prog GI 20 [bm s,vI l] (.ret (.dY (ym s l))):=by
 have pC:=sC hG s hs;have X':=abO hG s hs.cells l hl;have kZ:=MZ hG s hs (oJ s l);rcases qy s (oJ s l)with⟨h1,h0,es,h2,h3⟩|h3
 .have hg:=gM h1;obtain⟨r1,r2,_⟩:=KR hg h0;have hn:=lU hg (j8 hg.name h2);have Ja:=Tp hG s hg _ hn.1 hn.2 l r1 (λx hx=>by have:=r2 x hx;omega)
  have ho:ym s l=[.int .i64 (Az s (bW s es) l),.int .i64 0]:=by simp[ym,h1,h0,h2]
  rw[h3,h1,h0]at kZ;rw[ho];rw[h1]at pC;rw[h0]at X';refine cw hG func20 ntmps20 c20 ?_;simp[c20,bm,az,ai];refine oc pC ?_;simp;refine oc X' ?_;simp;refine oc kZ ?_;simp[dR,bw,az,ai,bH];refine oc Ja ?_;simp[Az]
 .have key:∃ e:Int,e≠0∧fe s (dj s && oJ s l)=[dR zT [],.int .i64 e]∧ym s l=[.int .i64 0,.int .i64 e]:=by
   rcases h3 with⟨h1,h3⟩|⟨h1,h0,h2,h3⟩
   .exact⟨2,zd,h3,by simp[ym,h1]⟩
   .exact⟨7,zd,h3,by simp[ym,h1,h0,h2]⟩
  obtain⟨e,he,h3,h4⟩:=key
  have nL:(e !=0)=true:=by simpa using he
  rw[h3]at kZ;rw[h4];refine cw hG func20 ntmps20 c20 ?_;simp[c20,bm,az,ai];refine oc pC ?_;cases hI:dj s
  .rw[hI]at kZ;simp;refine oc kZ ?_;simp[dR,bw,az,ai,zT,bH,he,nL]
  .rw[hI]at kZ;simp;refine oc X' ?_;simp;refine oc kZ ?_;simp[dR,bw,az,ai,zT,bH,he,nL]
def OI(s:aw)(av:List Int)(w:Int):Int:=if w<(m_ 0 s av:Nat)then 3 else if w<(m_ 1 s av:Nat)then 2 else 1
def z7(s:aw)(w:Int):Bool:=df w 0 (s.name.words.length-1)
def tY(s:aw)(w:Int):List AV:=
 if dj s&&z7 s w then(match kl s.name with|some es=>[.int .i64 (OI s (bW s es) w),.int .i64 0]|none=>[.int .i64 0,.int .i64 7])else[.int .i64 0,.int .i64 2]
def ab2(hG:ar GI)(s:aw)(hs:f_ s)(w:Int):AC prog GI 23 [bm s,.int .i64 w] (.ret (.dY (tY s w))):=by
 have pC:=sC hG s hs;have kZ:=MZ hG s hs (z7 s w)
 have uK:IntKind.i64.wrap ((s.name.words.length:Int)-1)=(s.name.words.length:Int)-1:=by
  have:=hs.name.words;exact aQ zo
 rcases qy s (z7 s w)with⟨h1,h0,es,h2,h3⟩|h3
 .have hg:=gM h1;have hn:=lU hg (j8 hg.name h2)
  have P1:∀e,e=0\/e=1->_:=λe he=>Md hG s (by have:=hg.cells;omega) e he
  have ac0:=P1 0 (.inl rfl);have ac1:=P1 1 (.inr rfl);have abT:=A2 hG s hg _ hn 0;have aaP:=A2 hG s hg _ hn 1
  have ho:tY s w=[.int .i64 (OI s (bW s es) w),.int .i64 0]:=by simp[tY,h1,h0,h2]
  rw[h3,h1,h0]at kZ;rw[ho];rw[h1]at pC;have M0:=h0;unfold z7 at M0;refine cw hG func23 ntmps23 c23 ?_;simp[c23,bm,az,ai];refine oc pC ?_;simp[uK];refine oc (xl hG _ _ _) ?_;simp[M0];refine oc kZ ?_;simp[dR,bw,az,ai,bH];refine oc ac0 ?_;simp;refine oc abT ?_;unfold OI
  by_cases c1:w<(m_ 0 s (bW s es):Nat)
  .simp[c1]
  simp[c1];refine oc ac1 ?_;simp;refine oc aaP ?_
  by_cases c2:w<(m_ 1 s (bW s es):Nat)
  .simp[c2]
  .simp[c2]
 .have key:∃ e:Int,e≠0∧fe s (dj s && z7 s w)=[dR zT [],.int .i64 e]∧tY s w=[.int .i64 0,.int .i64 e]:=by
   rcases h3 with⟨h1,h3⟩|⟨h1,h0,h2,h3⟩
   .exact⟨2,zd,h3,by simp[tY,h1]⟩
   .exact⟨7,zd,h3,by simp[tY,h1,h0,h2]⟩
  obtain⟨e,he,h3,h4⟩:=key
  have nL:(e !=0)=true:=by simpa using he
  rw[h3]at kZ;rw[h4];refine cw hG func23 ntmps23 c23 ?_;simp[c23,bm,az,ai];refine oc pC ?_;cases hI:dj s
  .rw[hI]at kZ;simp;refine oc kZ ?_;simp[dR,bw,az,ai,zT,bH,he,nL]
  .rw[hI]at kZ;simp[uK];refine oc (xl hG _ _ _) ?_;unfold z7 at kZ;simp;refine oc kZ ?_;simp[dR,bw,az,ai,zT,bH,he,nL]
def vH(s:aw)(e:Int)(he:e≠0)(ho:fe s (dj s)=[dR zT [],.int .i64 e]):(dj s=false/\e=2)\/(dj s=true/\kl s.name=none/\e=7):=by
 cases hI:dj s with
 |false=>left;simp[fe,hI]at ho;exact⟨rfl,ho.symm⟩
 |true=>
  cases hs:kl s.name with
  |none=>right;simp[fe,hI,hs]at ho;exact⟨rfl,rfl,ho.symm⟩
  |some es=>simp[fe,hI,hs]at ho;exact absurd ho.2.symm he
def yJ(s:aw)(p:Nat):aw:={ s with eZ:=p }
def QB{s:aw}(h:iN s){p:Nat}(h1:1<=p)(h2:p<=9):iN (yJ s p):=⟨h.cells,h.AS,h.pos,h.reach,⟨by show(1:Int)<=(p:Int);omega,by show(p:Int)<=9;omega⟩,h.dS,h.name⟩
def Ap(s:aw)(es:List End)(p:Nat):Bool:=decide (m_ 0 (yJ s p) (bW (yJ s p) es)=(bW (yJ s p) es).length)
def A1:List Nat:=[9,8,7,6,5,4,3,2,1]
def xL(s:aw):List AV:=
 if dj s then(match kl s.name with|some es=>(match A1.find? (Ap s es)with|some r=>[.int .i64 (r:Nat),.int .i64 0]|none=>[.int .i64 0,.int .i64 5])|none=>[.int .i64 0,.int .i64 7])else[.int .i64 0,.int .i64 2]
def Ij{p:Nat->Bool}{r:Nat}(h1:1<=r)(h2:r<=9)(hp:p r=true)(hb:∀k,r<k->k<=9->p k=false):A1.find? p=some r:=by
 have:r=1\/r=2\/r=3\/r=4\/r=5\/r=6\/r=7\/r=8\/r=9:=zo
 unfold A1;rcases this with rfl|rfl|rfl|rfl|rfl|rfl|rfl|rfl|rfl
 all_goals (repeat rw[List.find?_cons]);simp[hp,hb]
def LA{p:Nat->Bool}(hb:∀k,0<k->k<=9->p k=false):A1.find? p=none:=by
 rw[agl];intro x hx
 have:0<x/\x<=9:=by simp[A1]at hx;omega
 rw[hb x this.1 this.2];simp
def acg(hG:ar GI)(s:aw)(hs:f_ s):AC prog GI 27 [bm s] (.ret (.dY (xL s))):=by
 have pC:=sC hG s hs;have kZ:=C4 hG s hs
 rcases kS s with⟨hI,es,gw,ho⟩|⟨e,he,ho,Ch⟩
 .rw[ho]at kZ;have hg:=gM hI
  have Ok:xL s=(match A1.find? (Ap s es)with|some r=>[.int .i64 (r:Nat),.int .i64 0]|none=>[.int .i64 0,.int .i64 5]):=by simp[xL,hI,gw]
  rw[Ok];generalize bW s es=av at kZ;refine cw hG func27 ntmps27 c27 ?_;simp[c27,bm,az,ai];refine oc pC ?_;simp;refine oc kZ ?_;simp[dR,bw,az,ai,bH];refine⟨λS H=>∃r:Nat,r<=9/\S 1=.box 1 0/\H 1=some (az (yJ s r))/\∀k,r<k->k<=9->Ap s es k=false,λ_ H=>match H 1 with|some (_::_::_::.int _ r::_)=>r.toNat|_=>0,⟨9,?_⟩,?_⟩
  .simp[az,ai,yJ];intro k h1 h2;omega
  rintro S H ⟨r,hr,s1,h1,hb⟩
  by_cases h0:r=0
  .subst h0;rw[LA hb];simp[az,ai,yJ,s1,h1]
  have Ly:1<=r:=zo
  have iJ:0<r:=zo
  have Aw:=QB hg Ly hr;have yR:=lU Aw (j8 Aw.name gw);have FQ:=TC hG (yJ s r) ⟨hs.cells,hs.name⟩ Aw (es:=es) gw;have GK:=Tg hG (yJ s r) Aw (bW (yJ s r) es) yR
  cases hf:Ap s es r with
  |true=>
   have uJ:=hf;unfold Ap at uJ;rw[uJ]at GK;rw[Ij Ly hr hf hb];simp[az,ai,yJ,s1,h1,iJ];refine oc FQ ?_;simp[dR,bw,az,ai];refine oc GK ?_;simp[az,ai,yJ,s1,h1]
  |false=>
   have uJ:=hf;unfold Ap at uJ;rw[uJ]at GK
   have hw:IntKind.i64.wrap ((r:Int)-1)=((r-1:Nat):Int):=by rw[aQ zo];omega
   simp[az,ai,yJ,s1,h1,iJ];refine oc FQ ?_;simp[dR,bw,az,ai];refine oc GK ?_;simp[az,ai,yJ,s1,h1,hw];refine⟨⟨r-1,zo,rfl,λk q1 q2=>?_⟩,zo⟩
   by_cases hk:k=r
   .rw[hk];exact hf
   .exact hb k zo q2
 .rw[ho]at kZ
  have Cg:xL s=[.int .i64 0,.int .i64 e]:=by
   rcases vH s e he ho with⟨h1,rfl⟩|⟨h1,h2,rfl⟩
   .simp[xL,h1]
   .simp[xL,h1,h2]
  rw[Cg]
  have nL:(e !=0)=true:=by simpa using he
  refine cw hG func27 ntmps27 c27 ?_;simp[c27,bm,az,ai];refine oc pC ?_;simp;refine oc kZ ?_;simp[dR,bw,az,ai,zT,bH,he,nL]
def abl(hG:ar GI)(a b:End):AC prog GI 71 [bX a,bX b] (.ret (.bool (decide (b.2<a.2)))):=by
 refine cw hG func71 ntmps71 c71 ?_;simp[c71,bX]
def lZ(x:End)(l:List End):End:=l.foldl (λo y=>if o.2<y.2 then y else o) x
def Iz(x:End)(l:List End){i:Nat}(h:i<l.length):lZ x (l.take (i+1))=if(lZ x (l.take i)).2<l[i].2 then l[i]else lZ x (l.take i):=by
 unfold lZ;rw[agr,adB h,aeJ]
 rfl
def aa3(hG:ar GI)(x:End)(l:List End)(hl:l.length<1000000):AC prog GI 70 [.slice .view (aX (x::l)),.func (.func 71) [] []] (.ret (bX (lZ x l))):=by
 obtain⟨iT,TR,T5⟩:=iZ 110 2;obtain⟨fs,fH⟩:=uZ 110;have bV:aG 2 (aX (x::l))=true:=vi (x::l);refine cw hG func70 ntmps70 c70 ?_;refine aK (λS H=>S 0=.slice .view (aX (x::l))/\S 1=.func (.func 71) [] []/\S 4=.box 4 0/\H 4=some [.int .i64 0,.int .i64 0]) ahB ?_;rintro S H ⟨s0,s1,s4,h4⟩;refine aK (λS H=>S 0=.slice .view (aX (x::l))/\S 1=.func (.func 71) [] []/\S 4=.box 4 0/\H 4=some [.int .i64 0,.int .i64 0]/\S 5=.box 5 0/\H 5=some [.int .i64 x.1,.int .i64 x.2]) (by simp[s0,s1,s4,h4,aX,bX,bH]) ?_;clear s0 s1 s4 h4 S H;rintro S H ⟨s0,s1,s4,h4,s5,h5⟩
 have hd:(aX (x::l)).drop 1=aX l:=by simp[aX]
 have hlen:(aX (x::l)).length=l.length+1:=by simp[aX]
 have zU:(1:Int)<=(l.length:Int)+1:=zo
 have qQ:List.take (l.length+1) (aX (x::l))=aX (x::l):=adI zo;generalize aX (x::l)=L at s0 hd hlen qQ bV
 have YP:((l.length:Int)+1).toNat=l.length+1:=zo
 simp[bound,s0,s1,s4,h4,s5,h5,hd,hlen,zU,qQ,bV,YP];refine bz 14 l.length (λi S H=>S 1=.func (.func 71) [] []/\S 4=.box 4 0/\H 4=some [.int .i64 0,.int .i64 0]/\S 5=.box 5 0/\H 5=some [.int .i64 (lZ x (l.take i)).1,.int .i64 (lZ x (l.take i)).2]/\S 12=.slice .view (aX l)/\S 13=.int .i64 l.length/\S 14=.int .i64 (i:Nat)) (λi S H h=>h.2.2.2.2.2.2.2) ⟨by simp[s1],by simp[s4],by simp[h4],by simp[s5],by simp[h5,lZ],ahB,by simp[aX],ahB⟩ ?_;clear s0 s1 s4 h4 s5 h5 S H;rintro i hi S H ⟨s1,s4,h4,s5,h5,cM,dM,eg⟩
 by_cases aq:i<l.length
 .have hw:IntKind.i64.wrap ((i:Int)+1)=i+1:=aQ zo
  have hn:¬(i:Int)<0:=zo
  have hs:=Iz x l aq;have WW:=abl hG l[i] (lZ x (l.take i))
  generalize lZ x (l.take i)=o at*
  by_cases hc:o.2<l[i].2
  .rw[if_pos hc]at hs;rw[hs];simp[s1,s4,h4,s5,h5,cM,dM,eg,aq,hn,aX,bX,bH];refine oc WW ?_;simp[s1,s4,h4,s5,h5,cM,dM,eg,hc,hw,aX,bX]
  .rw[if_neg hc]at hs;rw[hs]
   have vQ:l[i].2<=o.2:=zo
   simp[s1,s4,h4,s5,h5,cM,dM,eg,aq,hn,aX,bX,bH];refine oc WW ?_;simp[s1,s4,h4,s5,h5,cM,dM,eg,hc,vQ,hw,aX,bX]
 .have dk:i=l.length:=zo
  subst dk;rw[aeW]at h5;simp[s1,s4,h4,s5,h5,cM,dM,eg,TR,T5,fH,eh,bX]
def dL(x:Nat×Nat):End:=((x.1:Int),(x.2:Int))
def yP:∀(l:List (Nat×Nat))(x:Nat×Nat),lZ (dL x) (l.map dL)=dL (sG x l)
 |[],_=>rfl
 |y::l,x=>by
  have e1:lZ (dL x) ((y::l).map dL)=lZ (if(dL x).2<(dL y).2 then dL y else dL x) (l.map dL):=rfl;have e2:sG x (y::l)=sG (if x.2<y.2 then y else x) l:=rfl;rw[e1,e2,<-yP l]
  congr 1
  by_cases h:x.2<y.2
  .rw[if_pos h,if_pos (by show(x.2:Int)<(y.2:Int);omega)]
  .rw[if_neg h,if_neg (by show¬(x.2:Int)<(y.2:Int);omega)]
def tL(s:aw)(a:Int):aw:={ s with pos:=a }
def Mn{s:aw}(h:iN s){a:Nat}(h1:1<=a)(h2:a<=s.cells.length):iN (tL s a):=⟨h.cells,h.AS,⟨by show(1:Int)<=(a:Int);omega,by show(a:Int)<=s.cells.length;omega⟩,h.reach,h.eZ,h.dS,h.name⟩
def je(s:aw)(av:List Int)(a:Nat):Nat:=m_ 0 (tL s (a:Int)) av
def Ak(s:aw)(av:List Int):Nat×Nat:=sG (1,je s av 1) (jh (je s av) 2 (s.cells.length-1))
def yy(s:aw):List AV:=
 if dj s then(match kl s.name with|some es=>[.int .i64 ((Ak s (bW s es)).1:Nat),.int .i64 ((Ak s (bW s es)).2:Nat),.int .i64 0]|none=>[.int .i64 0,.int .i64 0,.int .i64 7])else[.int .i64 0,.int .i64 0,.int .i64 2]
def y9(f:Nat->Nat){m:Nat}(hm:1<=m):jh f 1 m=(1,f 1)::jh f 2 (m-1):=by
 obtain⟨k,rfl⟩:∃k,m=k+1:=⟨m-1,zo⟩
 unfold jh
 rw[aff]<;>rfl
def Mm(f:Nat->Nat)(m:Nat):jh f 1 (m+1)=jh f 1 m++[(m+1,f (m+1))]:=by
 unfold jh;rw[agh,ad6];simp[Nat.add_comm]
def acs(hG:ar GI)(s:aw)(hs:f_ s):AC prog GI 28 [bm s] (.ret (.dY (yy s))):=by
 have pC:=sC hG s hs;have kZ:=C4 hG s hs
 rcases kS s with⟨hI,es,gw,ho⟩|⟨e,he,ho,Ch⟩
 .rw[ho]at kZ;have hg:=gM hI;have hc:=hg.cells
  have Ok:yy s=[.int .i64 ((Ak s (bW s es)).1:Nat),.int .i64 ((Ak s (bW s es)).2:Nat),.int .i64 0]:=by simp[yy,hI,gw]
  rw[Ok];have hn:=lU hg (j8 hg.name gw);generalize bW s es=av at kZ hn⊢;have P1:=Md hG s zo 0 (.inl rfl);have pI:=aa3 hG (dL (1,je s av 1)) ((jh (je s av) 2 (s.cells.length-1)).map dL) (by simp[jh];omega);rw[yP]at pI
  have eH:dL (1,je s av 1)::(jh (je s av) 2 (s.cells.length-1)).map dL=(jh (je s av) 1 s.cells.length).map dL:=by
   rw[y9 _ hc.1]<;>rfl
  rw[eH]at pI;refine cw hG func28 ntmps28 c28 ?_;refine aK (λS H=>S 1=.box 1 0/\H 1=some (az s)) (by simp[bm,az,ai]) ?_;rintro S H ⟨s1,h1⟩;refine aK (λS H=>S 1=.box 1 0/\H 1=some (az s)/\S 5=.box 5 0/\H 5=some (bw s av)/\S 6=.int .i64 0) ?_ ?_
  .simp[s1,h1,az,ai];refine oc pC ?_;simp;refine oc kZ ?_;simp[s1,h1,dR,bw,az,ai,bH]
  clear s1 h1 S H;rintro S H ⟨s1,h1,s5,h5,s6⟩;refine aK (λS H=>S 1=.box 1 0/\H 1=some (az s)/\S 5=.box 5 0/\H 5=some (bw s av)) (by simp[s1,h1,s5,h5,s6]) ?_;clear s1 h1 s5 h5 s6 S H;rintro S H ⟨s1,h1,s5,h5⟩;refine aK (λS H=>S 1=.box 1 0/\H 1=some (az s)/\S 5=.box 5 0/\H 5=some (bw s av)/\S 7=.slice .nil []) (by simp[s1,h1,s5,h5]) ?_;clear s1 h1 s5 h5 S H;rintro S H ⟨s1,h1,s5,h5,s7⟩;refine aK (λS H=>S 7=grow 110 (aX ((jh (je s av) 1 s.cells.length).map dL))) ?_ ?_
  .refine aK (λS H=>S 1=.box 1 0/\H 1=some (az s)/\S 5=.box 5 0/\H 5=some (bw s av)/\S 7=.slice .nil []/\S 8=.int .i64 1) (by simp[s1,h1,s5,h5,s7]) ?_;clear s1 h1 s5 h5 s7 S H;rintro S H ⟨s1,h1,s5,h5,s7,s8⟩;simp only[ez];refine⟨λS H=>∃i:Nat,i<=s.cells.length/\S 1=.box 1 0/\H 1=some (az s)/\S 5=.box 5 0/\(∃p,H 5=some (bw (tL s p) av))/\S 7=grow 110 (aX ((jh (je s av) 1 i).map dL))/\S 8=.int .i64 ((i:Int)+1),λS _=>match S 8 with|.int _ r=>(13-r).toNat|_=>0,⟨0,aeu _,s1,h1,s5,⟨s.pos,h5⟩,by rw[s7]<;>rfl,s8⟩,?_⟩;clear s1 h1 s5 h5 s7 s8 S H;rintro S H ⟨i,hi,s1,h1,s5,⟨p,h5⟩,s7,s8⟩
   by_cases aq:i<s.cells.length
   case neg=>
    have dk:i=s.cells.length:=zo
    subst dk
    have hq:¬((s.cells.length:Int)+1<=s.cells.length):=zo
    simp[s1,h1,s5,h5,s7,s8,hq,az,ai]
   have hq:(i:Int)+1<=s.cells.length:=zo
   have hw:IntKind.i64.wrap ((i:Int)+1+1)=(i:Int)+1+1:=aQ zo;have Ja:=A2 hG (tL s ((i+1:Nat):Int)) (Mn hg zo zo) av hn 0
   have xB:aX ((jh (je s av) 1 (i+1)).map dL)=aX ((jh (je s av) 1 i).map dL)++[.agg [.int .i64 ((i:Int)+1),.int .i64 (je s av (i+1):Nat)]]:=by
    rw[Mm,ad6];unfold aX;rw[ad6];simp[dL,bX]
   have hlen:(aX ((jh (je s av) 1 i).map dL)).length=i:=by simp[aX,jh]
   have bV:=vi ((jh (je s av) 1 i).map dL);have hfd:m_ 0 (tL s ((i+1:Nat):Int)) av=je s av (i+1):=rfl;rw[hfd]at Ja;have k3:aG 2 [AV.agg [.int .i64 ((i:Int)+1),.int .i64 (je s av (i+1):Nat)]]=true:=rfl
   have nt:i+1<1048576:=zo
   generalize aX ((jh (je s av) 1 i).map dL)=L at s7 xB hlen bV;simp[s1,h1,s5,h5,s7,s8,hq,bw,tL,az,ai];refine oc P1 ?_;simp[s1,h1,s5,h5,s7,s8,bw,tL,az,ai];refine oc Ja ?_;have eO:(AV.agg [.int .i64 ((i:Int)+1),.int .i64 (je s av (i+1):Nat)]).storable=true:=rfl
   cases L with
   |nil=>
    have wJ:grow 110 []=.slice .nil []:=rfl
    have J':i=0:=by simpa using hlen.symm
    subst J';simp[s1,h1,s5,h5,s8,wJ,bH,bw,tL,az,ai,aG];have j0:IntKind.i64.wrap 2=2:=aQ zo;rw[j0];exact⟨⟨1,hc.1,rfl,zo⟩,zo⟩
   |cons y L=>
    have wJ:grow 110 (y::L)=.slice (.own 110) (y::L):=rfl;simp[s1,h1,s5,h5,s8,wJ,hw,hlen,nt,k3,bV,bH,bw,tL,az,ai];exact⟨⟨i+1,zo,by rw[xB]<;>rfl,zo⟩,zo⟩
  .clear s1 h1 s5 h5 s7 S H;intro S H s7
   have iH:grow 110 (aX ((jh (je s av) 1 s.cells.length).map dL))=.slice (.own 110) (aX ((jh (je s av) 1 s.cells.length).map dL)):=by
    rw[y9 _ hc.1]<;>rfl
   rw[iH]at s7;have hb:sG (1,je s av 1) (jh (je s av) 2 (s.cells.length-1))=Ak s av:=rfl;rw[hb]at pI;generalize aX ((jh (je s av) 1 s.cells.length).map dL)=L at s7 pI;generalize Ak s av=q at pI⊢;simp[s7];refine oc pI ?_;simp[bX,dL,bH]
 .rw[ho]at kZ
  have Cg:yy s=[.int .i64 0,.int .i64 0,.int .i64 e]:=by
   rcases vH s e he ho with⟨h1,rfl⟩|⟨h1,h2,rfl⟩
   .simp[yy,h1]
   .simp[yy,h1,h2]
  rw[Cg]
  have nL:(e !=0)=true:=by simpa using he
  refine cw hG func28 ntmps28 c28 ?_;simp[c28,bm,az,ai];refine oc pC ?_;simp;refine oc kZ ?_;simp[dR,bw,az,ai,zT,bH,he,nL]
def X3(hG:ar GI)(s:aw)(hs:s.cells.length<1000)(e:Nat)(he:e=0\/e=1)(cD:cj e s≠[]):AC prog GI 60 [bm s,.int .i64 (e:Nat)] (.ret (.slice (.own 3) (ints (cj e s)))):=by
 refine AC.ji func60 rfl ntmps60 ahB λcc w=>Xm hG s hs e he cc w λS5 H5 s6=>?_
 have M0:ints (cj e s)≠[]:=by simpa[ints]using cD
 have SN:S5 6=.slice (.own 3) (ints (cj e s)):=by rw[s6];simp[grow,M0]
 clear s6;show SW prog GI 29 none (.seq (.region _ _ false) .ret) _ _ _ _
 refine SW.seq (SW.hand hG (p:=0) (lm:=[0,1]) (l2:=[]) (jX:=[]) (oh:=[_,_]) (mw:=[]) rfl rfl rfl rfl zk (λ_ h=>h) (mS:=[]) (mf:=[]) rfl rfl rfl rfl
  (K1:=λS H=>S 6=.slice (.own 3) (ints (cj e s))) (K2:=λo S H=>o=Old.plain cc w/\S 4=.slice (.own 3) (ints (cj e s))) (K3:=λo S H=>o=Old.plain cc w/\S 4=.slice (.own 3) (ints (cj e s))) ?_ ?_ ?_ ?_)
 .exact SN
 .rintro w0 g S H a w' m cm ho R s6;have r6:=R.slot 6 zd (λh=>h);rw[s6]at r6;have bl:=R.size
  obtain⟨c,hc⟩:∃c,a.tmps.getD 6 undef=c:=⟨_,rfl⟩
  rw[hc]at r6;have rv:RD g.Pr w' (.slice .view (ints (cj e s))) c:=(r6.dX rfl).aI;refine bf rfl rfl zr ((run_move (x:=.tmp 6) w' rfl).trans (congrArg (λv=>Result.ok (Next.value v) w') hc)) ?_;have R1:=R.put 28 (.slice .view (ints (cj e s))) c zd (.data _ _ rv) trivial
  have yh:(a.put (some 28) c).tmps.getD 28 undef=c:=by simp[Act.put,bl]
  refine bf rfl rfl zr ((run_assign (x:=.tmp 28) w' rfl).trans (congrArg (λv=>Result.ok (Next.value v) w') yh)) ?_;have R2:=R1.put 4 (.slice .view (ints (cj e s))) c zd (.data _ _ rv) trivial
  have e4:((a.put (some 28) c).put (some 4) c).tmps.getD 4 undef=c:=by simp[Act.put,bl]
  have e6:((a.put (some 28) c).put (some 4) c).tmps.getD 6 undef=a.tmps.getD 6 undef:=by simp[Act.put,adN]
  obtain⟨g',q1,R3⟩:=R2.Ph (t:=6) (u:=4) (e:=3) (es:=ints (cj e s)) zd zd zd (by simp[au,s6]) (by rw[e4,e6,hc]);exact⟨g',_,_,R3,by rw[q1];exact ho,aO _ _ _⟩
 .rintro o S H ⟨rfl,s4⟩;exact⟨λ_ h=>h,rfl,s4⟩
 .rintro o S H ⟨rfl,s4⟩;refine SW.ret ⟨eo.plain rfl,rfl,_,?_,rfl⟩;show cH prog 29 [.tmp 4] S H=_;simp[cH,db,c_,s4,AV.b_,AV.out]
def QX{a:Act}{w:World}{o:Oper}{x y:Operand}{t ty:TypeId}{m n:Int}(ho:o.op=.binOp .add t x y ty)(hx:a.eval x=.int .i64 m)(hy:a.eval y=.int .i64 n):(execOp a.eval o).run prog w=.ok (.value (.int .i64 (IntKind.i64.wrap (m+n)))) w:=by
 unfold execOp;simp[ho,hx,hy,Go.binOp,Op.intArith,eqGuard]
def j7(s:aw)(i n:Nat):List Int:=(cj 0 s).set i ((cj 0 s).getD i 0+n)
def qT(s:aw)(av:List Int)(i n:Nat):Bool:=decide (Az s av (j7 s i n)=av.length)
def Ug(l:List Int):ke 1 (ints l):=λx hx=>by
 obtain⟨k,_,rfl⟩:=adZ.1 hx;exact⟨rfl,rfl,λc hc=>by simp[AV.cells]at hc;subst hc;rfl⟩
def ints_set(l:List Int)(i:Nat)(x:Int):(ints l).set i (.int .i64 x)=ints (l.set i x):=by simp[ints,List.map_set]
structure PO(cc:Nat->Nat->Prop)(o:Old):Prop where
 c:o.c=cc
 ds:o.ds=[]
 bx:∀d,¬o.bx d
def acU (hG:ar GI) (s:aw) (h:iN s) (av:List Int) (hn:(∀ x∈av,0≤x∧x≤1000)∧av.length≤1000) {i:Nat} (hi:i < s.cells.length) {n:Nat} (U6:n≤900) :
  AC prog GI 64 [.int .i64 (n:Nat),.ref (az s),.ref [.int .i64 (i:Nat)],.ref (bw s av)] (.ret (.bool (qT s av i n))):=by
 have hc:=h.cells
 have xA:(cj 0 s).length=s.cells.length:=by simp[cj]
 have cD:cj 0 s≠[]:=λh0=>by rw[h0]at xA;simp at xA;omega
 have yU:=(vc h 0).2
 have dk:i<(cj 0 s).length:=zo
 have hxi:=yU _ (adC dk)
 have ady:(cj 0 s)[i]<=20:=by
  have:=h.AS _ (adC hi);simp[cj,xH];omega
 have Dj:(cj 0 s).getD i 0=(cj 0 s)[i]:=by simp[aeD,dk]
 have P1:=X3 hG s zo 0 (.inl rfl) cD
 have uK:(j7 s i n).length=s.cells.length:=by simp[j7,xA]
 have Ja:=Tp hG s h av hn.1 hn.2 (j7 s i n) uK (λx hx=>by
  rcases ae2 hx with h1|h1
  .exact yU x h1
  .rw[h1,Dj];omega)
 have qW:((gf av (jY (j7 s i n)) (gv (gI s) s.cells.length):Int)==(av.length:Int))=qT s av i n:=by
  show _=decide (gf av (jY (j7 s i n)) (gv (gI s) s.cells.length)=av.length);rw[aep,adL,aej];omega
 obtain⟨i3,CM,uI⟩:=iZ 3 1;obtain⟨d3,OO,acq⟩:=vZ 3
 refine AC.ji func64 rfl ntmps64 ahB λcc w=>?_
 refine dT hG c64.qa (λS H=>S 0=.int .i64 (n:Nat)/\S 1=.ref (az s)/\S 2=.ref [.int .i64 (i:Nat)]/\S 3=.ref (bw s av)) ?_ ?_
 .simp[c64,af.qa,bw,az,ai]
 rintro S1 H1 ⟨s0,s1,s2,s3⟩;show SW prog GI 23 none (.seq _ (.seq _ (.seq _ .ret))) _ _ _ _
 refine SW.seq (SW.hand hG (p:=1) (lm:=[1]) (l2:=[2]) (jX:=[_]) (oh:=[_]) (mw:=[_]) rfl rfl rfl rfl zk (λ_ h=>h)
  (mS:=(c64.qb.qa.dl).take 1) (mf:=(c64.qb.qa.dl).drop 2) zk zk zk zk
  (K1:=λS H=>S 0=.int .i64 (n:Nat)/\S 2=.ref [.int .i64 (i:Nat)]/\S 3=.ref (bw s av)/\S 7=bm s)
  (K2:=λo S H=>∃v,KO cc 3 1 (ints (cj 0 s)) o v/\S 0=.int .i64 (n:Nat)/\S 2=.ref [.int .i64 (i:Nat)]/\S 3=.ref (bw s av)/\S 8=.val v)
  (K3:=λo S H=>∃v,KO cc 3 1 (ints (cj 0 s)) o v/\S 0=.int .i64 (n:Nat)/\S 2=.ref [.int .i64 (i:Nat)]/\S 3=.ref (bw s av)/\S 6=.val v) ?_ ?_ ?_ ?_)
 .simp[c64,af.qa,af.qb,af.dl,s0,s1,s2,s3,bm,az,ai]
 .rintro w0 g S H a w' m cm ho R ⟨s0,s2,s3,s7⟩;have r7:=R.slot 7 zd (λh=>h);rw[s7]at r7
  refine gC rfl rfl zr (gq (k:=60) (args:=#[a.tmps.getD 7 undef,.int .i64 0]) w' rfl rfl ?_ zk) (P1 w' (fI g false) #[a.tmps.getD 7 undef,.int .i64 0] (hG w0 w' cm (by have:=R.below;rwa [R.base]at this)) rfl (λj hj dZ=>by
   match j,hj with
   |0,_=>exact(r7.cQ rfl).mono (bg.same λb k _ hp=>.inl hp) λ_ _ h=>h
   |1,_=>exact .data _ _ (.int _ _))) ?_
  .simp only[aeg,adU,aee,Act.eval]
  intro en w2 hE;obtain⟨v,g',rfl,R2,hK⟩:=FI R (cc:=cc) (by rw[ho];exact⟨rfl,rfl,λ_ h=>h⟩) CM (by rw[uI];exact Ug _) hE;rw[uI]at hK;refine⟨_,rfl,?_⟩
  have oB:v.oneCell'=true:=by
   rcases hK.row with⟨⟨_,rfl⟩,_⟩|⟨_,_,_,rfl,_⟩<;>rfl
  exact⟨g',_,_,R2.put 8 (.val v) v zd (.data _ _ (.val _ oB)) trivial,v,hK,by simp[au,s0],by simp[au,s2],by simp[au,s3],by simp[au]⟩
 .rintro o S H ⟨v,hK,s0,s2,s3,s8⟩;refine⟨hK.bx,?_⟩;simp[c64,af.qa,af.qb,af.dl,s0,s2,s3,s8];exact hK
 clear s0 s1 s2 s3 S1 H1;rintro o S1 H1 ⟨v,hK,s0,s2,s3,s6⟩;have hKb:=hK.bx
 refine SW.seq (SW.hand hG (p:=2) (lm:=[2,3,4,5,6,7]) (l2:=[]) (jX:=[_,_]) (oh:=[_,_,_,_,_,_]) (mw:=[]) rfl rfl rfl rfl zk hKb
  (mS:=(c64.qb.qb.qa.dl).take 2) (mf:=[]) zk rfl zk rfl
  (K1:=λS H=>S 0=.int .i64 (n:Nat)/\S 3=.ref (bw s av)/\S 6=.val v/\S 9=.val v/\S 10=.int .i64 (i:Nat))
  (K2:=λo S H=>PO cc o/\S 3=.ref (bw s av)/\S 6=vI (j7 s i n))
  (K3:=λo S H=>PO cc o/\S 3=.ref (bw s av)/\S 6=vI (j7 s i n)) ?_ ?_ ?_ ?_)
 .simp[c64,af.qa,af.qb,af.dl,s0,s2,s3,s6]
 .rintro w0 g S H a w' m cm ho R ⟨s0,s3,s6,s9,bJ⟩;rw[<-ho]at hK
  have Pt:i<(ints (cj 0 s)).length:=by simpa[ints]using dk
  obtain⟨b,cap,cur,hv,n9,GW,eO⟩:=hK.cell R Pt
  have Fk:(ints (cj 0 s))[i]=.int .i64 (cj 0 s)[i]:=by simp[ints]
  have wK:0<((ints (cj 0 s))[i]).cells.length:=by rw[Fk];simp[AV.cells]
  have LY:=eO 0 wK
  have Qb:Jo (((ints (cj 0 s))[i]).cells[0]'wK)=.int .i64 (cj 0 s)[i]:=by simp only[Fk];rfl
  rw[Qb,afk,Nat.add_zero]at LY;have t9:=R.slot 9 zd (λh=>h);rw[s9]at t9;have e9:a.eval (.tmp 9)=.slice (some ⟨b,0,none⟩) (ints (cj 0 s)).length cap:=t9.iA.trans hv;have t10:=R.slot 10 zd (λh=>h);rw[bJ]at t10;have iP:a.eval (.tmp 10)=.int .i64 (i:Nat):=t10.int_eq;have t0:=R.slot 0 zd (λh=>h);rw[s0]at t0;have e0:a.eval (.tmp 0)=.int .i64 (n:Nat):=t0.int_eq;have bl:=R.size;have mR:IntKind.i64.wrap ((cj 0 s)[i]+n)=(cj 0 s)[i]+n:=aQ zo;refine bf rfl rfl zr (pB (k:=i) rfl zk CM e9 iP Pt) ?_;rw[uI,afk];have R1:=R.put 11 (.val (.pointer (some ⟨b,i,none⟩))) (.pointer (some ⟨b,i,none⟩)) zd (.data _ _ (.val _ rfl)) trivial
  have p:=λt c=>cg a 11 t c zo
  have f11:=(p 11 (.pointer (some ⟨b,i,none⟩))).trans (if_pos rfl);have f9:=((p 9 (.pointer (some ⟨b,i,none⟩))).trans (if_neg zd)).trans e9;have f10:=((p 10 (.pointer (some ⟨b,i,none⟩))).trans (if_neg zd)).trans iP;have f0:=((p 0 (.pointer (some ⟨b,i,none⟩))).trans (if_neg zd)).trans e0;have XC:=R1.size;show wpOpsIn _ _ _ _ _ [3,4,5,6,7] (a.put (some 11) (.pointer (some ⟨b,i,none⟩))) w'
  generalize a.put (some 11) (.pointer (some ⟨b,i,none⟩))=a1 at*
  clear p e9 iP e0 t9 t10 t0;refine bf rfl rfl zr (BT rfl f11 OO acq GW LY.2) ?_;have R2:=R1.put 12 (.int .i64 (cj 0 s)[i]) (.int .i64 (cj 0 s)[i]) zd (.data _ _ (.int _ _)) trivial
  have p:=λt c=>cg a1 12 t c zo
  have g12:=(p 12 (.int .i64 (cj 0 s)[i])).trans (if_pos rfl);have g9:=((p 9 (.int .i64 (cj 0 s)[i])).trans (if_neg zd)).trans f9;have g10:=((p 10 (.int .i64 (cj 0 s)[i])).trans (if_neg zd)).trans f10;have g0:=((p 0 (.int .i64 (cj 0 s)[i])).trans (if_neg zd)).trans f0;have JR:=R2.size;show wpOpsIn _ _ _ _ _ [4,5,6,7] (a1.put (some 12) (.int .i64 (cj 0 s)[i])) w'
  generalize a1.put (some 12) (.int .i64 (cj 0 s)[i])=a2 at*
  clear p f11 f9 f10 f0;refine bf rfl rfl zr ((run_move (x:=.tmp 0) w' rfl).trans (congrArg (λv=>Result.ok (Next.value v) w') g0)) ?_;have R3:=R2.put 13 (.int .i64 (n:Nat)) (.int .i64 (n:Nat)) zd (.data _ _ (.int _ _)) trivial
  have p:=λt c=>cg a2 13 t c zo
  have k13:=(p 13 (.int .i64 (n:Nat))).trans (if_pos rfl);have k12:=((p 12 (.int .i64 (n:Nat))).trans (if_neg zd)).trans g12;have k9:=((p 9 (.int .i64 (n:Nat))).trans (if_neg zd)).trans g9;have k10:=((p 10 (.int .i64 (n:Nat))).trans (if_neg zd)).trans g10;have adA:=R3.size;show wpOpsIn _ _ _ _ _ [5,6,7] (a2.put (some 13) (.int .i64 (n:Nat))) w'
  generalize a2.put (some 13) (.int .i64 (n:Nat))=a3 at*
  clear p g12 g9 g10 g0;refine bf rfl rfl zr (QX rfl k12 k13) ?_;rw[mR];have R4:=R3.put 14 (.int .i64 ((cj 0 s)[i]+n)) (.int .i64 ((cj 0 s)[i]+n)) zd (.data _ _ (.int _ _)) trivial
  have p:=λt c=>cg a3 14 t c zo
  have l14:=(p 14 (.int .i64 ((cj 0 s)[i]+n))).trans (if_pos rfl);have l9:=((p 9 (.int .i64 ((cj 0 s)[i]+n))).trans (if_neg zd)).trans k9;have l10:=((p 10 (.int .i64 ((cj 0 s)[i]+n))).trans (if_neg zd)).trans k10;have Li:=R4.size;show wpOpsIn _ _ _ _ _ [6,7] (a3.put (some 14) (.int .i64 ((cj 0 s)[i]+n))) w'
  generalize a3.put (some 14) (.int .i64 ((cj 0 s)[i]+n))=a4 at*
  clear p k12 k13 k9 k10;refine bf rfl rfl zr (pB (k:=i) rfl zk CM l9 l10 Pt) ?_;rw[uI,afk];have R5:=R4.put 15 (.val (.pointer (some ⟨b,i,none⟩))) (.pointer (some ⟨b,i,none⟩)) zd (.data _ _ (.val _ rfl)) trivial
  have p:=λt c=>cg a4 15 t c zo
  have m15:=(p 15 (.pointer (some ⟨b,i,none⟩))).trans (if_pos rfl);have m14:=((p 14 (.pointer (some ⟨b,i,none⟩))).trans (if_neg zd)).trans l14;show wpOpsIn _ _ _ _ _ [7] (a4.put (some 15) (.pointer (some ⟨b,i,none⟩))) w'
  generalize a4.put (some 15) (.pointer (some ⟨b,i,none⟩))=a5 at*
  clear p l14 l9 l10;obtain ⟨DC,dE,Ta,hat⟩:=Kj (o:={ dst:=none,op := .store 3 (.tmp 15) (.tmp 14),type:=0,pos := "",after := #[],guard:=none }) (v := .int .i64 ((cj 0 s)[i]+n)) rfl m15 CM uI GW LY.1 m14 rfl;refine eT rfl rfl zr dE ?_;have R6:=R5.mQ n9 (.cells DC 3 (0,0));have XS:=hK.set (j:=i) (k:=0) Pt (by rw [Fk];simp [AV.cells]) (x := .int .i64 ((cj 0 s)[i]+n)) (u := .int .i64 ((cj 0 s)[i]+n)) (λx hx=>by simp at hx;subst hx;exact ⟨rfl,rfl,λc hc=>by simp [AV.cells] at hc;subst hc;rfl⟩) (by rw [Fk]<;>rfl) hv n9 Ta (λm=>by rw [hat m,afk,Nat.add_zero]<;>rfl);rw [ints_set] at XS
  have pZ:(cj 0 s).set i ((cj 0 s)[i]+n)=j7 s i n:=by rw[j7,Dj]
  rw[pZ]at XS;obtain⟨g',R7,q1,q2,q3⟩:=KO.done XS R6 (t:=6) zd (by simp[au,s6]);exact⟨g',_,_,R7,⟨q1,q2,q3⟩,by simp[au,s3],by simp[au]<;>rfl⟩
 .rintro o S H ⟨hp,s3,s6⟩;exact⟨hp.bx,hp,s3,s6⟩
 clear s0 s2 s3 s6 S1 H1 hK hKb;rintro o S1 H1 ⟨hp,s3,s6⟩;refine pz hG c64.qb.qb.qb.qa (λd _=>hp.bx d) (λS H=>S 5=.bool (qT s av i n)) ?_ ?_
 .simp[c64,af.qa,af.qb,s3,s6,bw,az,ai];refine oc Ja ?_;simp[s3,s6,bw,az,ai];exact qW
 .intro S H s5;refine SW.ret ⟨eo.plain hp.ds,hp.c,_,?_,rfl⟩;show cH prog 23 [.tmp 5] S H=_;simp[cH,db,c_,s5,AV.b_,AV.out]
def lT(e:List UInt8):AV:=.iface 133 (.agg [.str e])
def KG(hG:ar GI)(s:List UInt8):AC prog GI 90 [.bool true,.str s] (.ret (.dY [])):=by
 refine cw hG func90 ntmps90 c90 ?_;simp[c90]
def Ea(hG:ar GI)(s:List UInt8):AC prog GI 90 [.bool false,.str s] (.panic (lT s)):=by
 refine cw hG func90 ntmps90 c90 ?_;simp[c90,bH,lT,bq,ba,jw]
def wW(w:List UInt8):Bool:=jq w&&decide (w.length<=2)
def v_{w:List UInt8}:wW w=true↔w≠[]/\w.length<=2/\(∀c∈w,digit c)/\aY (dq w)=w:=by
 unfold wW;rw[adE,nj,adL]
 constructor
 .rintro⟨⟨h1,h2,h3,h4⟩,h5⟩;exact⟨h1,h5,h3,h4⟩
 .rintro⟨h1,h2,h3,h4⟩;exact⟨⟨h1,zo,h3,h4⟩,h2⟩
def zE:∀(w:List UInt8),(∀c∈w,digit c)->w.length<=2->0<=dq w/\dq w<100
 |[],_,_=>by simp[dq]
 |[a],h,_=>by have:=h a ahB;unfold digit at this;simp[dq];omega
 |[a,b],h,_=>by have h1:=h a ahB;have h2:=h b ahB;unfold digit at h1 h2;simp[dq];omega
def eS(w:List UInt8):Except (List UInt8) Int:=if wW w then .ok (dq w)else .error w
def uj:Except (List UInt8) Int->iK
 |.ok n=>.ret (.int .i64 n)
 |.error e=>.panic (lT e)
def Yb(i:Nat)(hi:i<100):AC prog GI 79 [.int .i64 (i:Nat)] (.ret (.str (vp 20 i))):=by
 intro w old bT hG hl hr;obtain⟨v,rfl⟩:=TZ hl rfl;have e1:=(hr 0 ahB ahB).int_eq;simp only[List.getElem_toArray,List.getElem_cons_zero]at e1;subst e1;refine(Tryz.strconv_Itoa_small i hi w).mono ?_;rintro e w' ⟨rfl,rfl⟩;refine⟨aeC _ _,λ_=>0,λ_ _=>rfl,_,rfl,.data _ _ ?_,trivial⟩;rw[C' 20 i zo zo];exact .str _
def D5{n:Int}(h0:0<=n)(h1:n<100):AC prog GI 79 [.int .i64 n] (.ret (.str (aY n))):=by
 have:=Yb (GI:=GI) n.toNat zo;rw[aga h0]at this;exact this
noncomputable def rE:af:=af.qb c91.qb.qb.qa.qb.qb
noncomputable def vO:af:=af.qb c91.qb.qb
def Gf(hG:ar GI)(wd:List UInt8)(uK:wd.length<1000000):AC prog GI 91 [.str wd] (uj (eS wd)):=by
 refine AC.ji func91 rfl ntmps91 ahB λcc w=>?_
 have bK:∀k d,¬(oK cc w k).bx d:=λ_ _ h=>h
 refine dT hG c91.qa (λS' H'=>S' 0=.str wd) ?_ ?_
 .simp[c91,af.qa]
 rintro S1 H1 s0;refine dT hG c91.qb.qa (λS' H'=>S' 0=.str wd/\S' 3=.int .i64 0) ?_ ?_
 .simp[c91,af.qa,af.qb,s0]
 rintro S2 H2 ⟨s0,s3⟩;show SW prog GI 41 none (.seq (.seq _ (.block 0 (.loop _))) (.seq _ (.seq _ .ret))) _ _ _ _
 obtain⟨sb,qW⟩:∃sb:ByteArray,sb=⟨wd.toArray⟩:=⟨_,rfl⟩
 have yO:wW wd=false->eS wd=.error wd:=λh=>by unfold eS;rw[h]<;>rfl
 refine SW.seq (SW.seq (SW.mid hG (p:=1) (oh:={ dst:=some 7,op := .range 9 (.tmp 6),type:=0,pos := "text.go:97",after:=_,guard:=none }) (jX:=[_]) (mw:=[]) (l2:=[]) rfl rfl rfl rfl zk rfl (λ_ h=>h) (mS:=(c91.qb.qb.qa.qa.dl).take 1) (mf:=[]) zk rfl zk rfl
  (K1:=λS' H'=>S' 6=.str wd/\S' 3=.int .i64 0/\S' 0=.str wd)
  (K2:=λo S' H'=>∃k b,o=oK cc w k/\k b=some (.stringIter sb 0)/\S' 7=.val (.pointer (some ⟨b,0,none⟩))/\S' 3=.int .i64 0/\S' 0=.str wd)
  (K3:=λo S' H'=>∃k b,o=oK cc w k/\k b=some (.stringIter sb 0)/\S' 7=.val (.pointer (some ⟨b,0,none⟩))/\S' 3=.int .i64 0/\S' 0=.str wd) ?_ ?_ ?_ ?_))
 .simp[c91,af.qa,af.qb,af.dl,s0,s3]
 .rintro w0 g S8 H8 a w8 ho R ⟨s6,s3,s0⟩;have t6:=R.slot 6 zd (λh=>h);rw[s6]at t6
  have t6:a.eval (.tmp 6)=.string sb:=by rw[qW];exact nP t6
  have fB:prog.underlying 9=some .string:=zk
  have R2:=R.nF (.stringIter sb 0);refine⟨_,_,_,au S8 7 (.val (.pointer (some ⟨w8.heap.size,0,none⟩))),H8,.inl (B4 rfl fB t6),R2.put 7 _ _ zd (.data _ _ (.val _ rfl)) trivial,au g.old.aU w8.heap.size (some (.stringIter sb 0)),w8.heap.size,?_,aO _ _ _,by simp[au],by simp[au,s3],by simp[au,s0]⟩;show({ g.old with aU:=au g.old.aU w8.heap.size _ }:Old)=_
  rw[ho]<;>rfl
 .rintro o S8 H8 ⟨k,b,rfl,h⟩;exact⟨bK _,k,b,rfl,h⟩
 rintro o S8 H8 ⟨k,b,rfl,zX,s7,s3,s0⟩
 refine SW.block (SW.SK (λo S' H'=>∃k b pos,o=oK cc w k/\k b=some (.stringIter sb pos)/\pos<=wd.length/\(∀c∈wd.take pos,digit c)/\(0<pos->wd.length<=2)/\S' 7=.val (.pointer (some ⟨b,0,none⟩))/\S' 3=.int .i64 (dq (wd.take pos))/\S' 0=.str wd)
  (λo S' _=>match S' 7 with|.val (.pointer (some a))=>(match o.aU a.block with|some (.stringIter _ p)=>wd.length-p|_=>0)|_=>0) ⟨k,b,0,rfl,zX,aeu _,ahB,ahB,s7,s3,s0⟩ ?_)
 rintro o S9 H9 ⟨k,b,pos,rfl,zX,iJ,Eg,wK,s7,s3,s0⟩;have m7:=s7
 have U8:∀(S:an)(k:Nat->Option Obj) p,S 7=.val (.pointer (some ⟨b,0,none⟩))->k b=some (.stringIter sb p)->(match S 7 with|.val (.pointer (some a))=>(match(oK cc w k).aU a.block with|some (.stringIter _ p)=>wd.length-p|_=>0)|_=>0)=wd.length-p:=by
  intro S k p h1 h2;rw[h1];show(match k b with|some (.stringIter _ p)=>wd.length-p|_=>0)=_;rw[h2]
 have bl:sb.size=wd.length:=by rw[qW]<;>rfl
 have WY:=KG (GI:=GI) hG wd;have EB:=Ea (GI:=GI) hG wd
 have e8:∀n H,fz H (.int .i64 n)=.int .i64 n:=λn H=>rfl
 have e9:∀H,fz H (.str wd)=.str wd:=λH=>rfl
 have iP:∀b H,fz H (.bool b)=.bool b:=λb H=>rfl
 show SW prog GI 41 none (.seq _ (.seq (.cond _ _ _) (.block 1 (.seq _ (.seq _ _))))) _ _ _ _
 by_cases hp:pos<wd.length
 case neg=>
  refine SW.seq (SW.mid hG (p:=0) (oh:={ dst:=some 8,op := .next (.tmp 7) true,type:=0,pos := "text.go:97",after := #[],guard:=none }) (jX:=[]) (mw:=[_]) (l2:=[1]) rfl rfl rfl rfl zk rfl (bK _) (mS:=[]) (mf:=(rE.qa.dl).drop 1) rfl zk rfl zk
   (K1:=λS' H'=>S' 7=.val (.pointer (some ⟨b,0,none⟩))/\S' 3=.int .i64 (dq wd)/\S' 0=.str wd)
   (K2:=λo S' H'=>o=oK cc w k/\S' 8=.dY [.bool false]/\S' 3=.int .i64 (dq wd)/\S' 0=.str wd)
   (K3:=λo S' H'=>o=oK cc w k/\S' 9=.bool false/\S' 3=.int .i64 (dq wd)/\S' 0=.str wd) ?_ ?_ ?_ ?_)
  .have:pos=wd.length:=zo
   subst this;rw[aeW]at s3;exact⟨s7,s3,s0⟩
  .rintro w0 g tM xD a Qi ho R ⟨s7,s3,s0⟩;have t7:=R.slot 7 zd (λh=>h);rw[s7]at t7;have t7:a.eval (.tmp 7)=.pointer (some ⟨b,0,none⟩):=t7.iA
   have hk:g.old.aU b=some (.stringIter sb pos):=by rw[ho];exact zX
   have hb:=(R.kept b _ hk).2.1;refine⟨_,_,_,au tM 8 (.dY [.bool false]),xD,.inl (vm rfl t7 hb zo),R.put 8 _ _ zd (.data _ _ (.dY _ _ rfl λi h h'=>?_)) trivial,ho,aO _ _ _,by simp[au,s3],by simp[au,s0]⟩
   match i,h with
   |0,_=>exact .bool _
  .rintro o tM xD ⟨rfl,s8,s3,s0⟩;refine⟨bK _,?_⟩;simp[c91,rE,af.qa,af.qb,af.dl,bq,aF,ba,aD,ev,aP.S,aP.H,au,aW,s3,s0,s8,AV.aI]
  rintro o tM xD ⟨rfl,s9,s3,s0⟩;refine SW.seq (SW.cond rfl false (by show tM 9=_;rw[s9]) (SW.exit ?_));show SW prog GI 41 none (.seq _ _) _ _ _ _
  have vj:pos=wd.length:=zo
  have wR:∀c∈wd,digit c:=by rw[vj,aeW]at Eg;exact Eg
  by_cases cD:wd=[]
  .have mT:wW wd=false:=by rw[cD]<;>rfl
   rw[yO mT]
   have yT:(wd !=[])=false:=by simpa using cD
   refine SW.seq (SW.fP hG de zk (λd _=>bK _ d) (ac:=af.qa vO) zk ?_);unfold fa.bB;simp[c91,vO,af.qa,af.qb,bB,bq,aF,ba,aD,aN,di,ev,aP.S,aP.H,au,aW,s3,s0,AV.aI,dU,yT,e8,e9,iP,bt];refine oc EB ?_;simp[eY,thenS,mO,oz,uj,lT];exact⟨rfl,rfl⟩
  have Ci:wd.length<=2:=wK (by rw[vj];exact aeR.2 cD);have hs:=zE wd wR Ci;have Fp:=D5 (GI:=GI) hs.1 hs.2
  have yT:(wd !=[])=true:=by simpa using cD
  by_cases Is:aY (dq wd)=wd
  case neg=>
   have mT:wW wd=false:=by
    rw[agv];intro h;exact Is (v_.1 h).2.2.2
   rw[yO mT]
   have hdb:(aY (dq wd)==wd)=false:=by simpa using Is
   refine SW.seq (SW.fP hG de zk (λd _=>bK _ d) (ac:=af.qa vO) zk ?_);unfold fa.bB;simp[c91,vO,af.qa,af.qb,bB,bq,aF,ba,aD,aN,di,ev,aP.S,aP.H,au,aW,s3,s0,AV.aI,dU,yT,e8,bt];refine oc Fp ?_;simp[eY,au,AV.aI,s3,s0,dU,e9,iP,hdb];refine oc EB ?_;simp[eY,thenS,mO,oz,uj,lT];exact⟨rfl,rfl⟩
  have hgw:wW wd=true:=v_.2 ⟨cD,Ci,wR,Is⟩
  have ku:eS wd=.ok (dq wd):=by unfold eS;rw[hgw]<;>rfl
  rw[ku];rw[Is]at Fp;refine pz hG vO.qa (λd _=>bK _ d) (λS' H'=>S' 3=.int .i64 (dq wd)) ?_ ?_
  .simp[c91,vO,af.qa,af.qb,bB,bq,aF,ba,aD,aN,ev,aP.S,aP.H,au,aW,s3,s0,AV.aI,dU,yT,e8];refine oc Fp ?_;simp[eY,au,AV.aI,s3,s0,dU,e9,iP];refine oc WY ?_;simp[eY,au,AV.aI,s3,s0]
  rintro S11 H11 s3;show SW prog GI 41 none (.seq _ .ret) _ _ _ _;refine pz hG vO.qb.qa (λd _=>bK _ d) (λS' H'=>S' 2=.int .i64 (dq wd)) ?_ ?_
  .simp[c91,vO,af.qa,af.qb,s3]
  rintro S12 H12 s2;refine SW.ret ⟨eo.plain rfl,rfl,_,?_,rfl⟩;show cH prog 41 [.tmp 2] S12 H12=_;simp[cH,db,c_,s2,AV.b_,AV.out]
 case pos=>
  obtain⟨c,hc⟩:∃c,wd[pos]=c:=⟨_,rfl⟩
  obtain⟨r,hr⟩:∃r:Nat,(Utf8.decode sb pos).1=r:=⟨_,rfl⟩
  obtain⟨p',u9⟩:∃p':Nat,pos+(Utf8.decode sb pos).2=p':=⟨_,rfl⟩
  have ED:sb[pos]' zo=c:=by subst qW;rw[<-hc]<;>rfl
  refine SW.seq (SW.mid hG (p:=0) (oh:={ dst:=some 8,op := .next (.tmp 7) true,type:=0,pos := "text.go:97",after := #[],guard:=none }) (jX:=[]) (mw:=[_]) (l2:=[1]) rfl rfl rfl rfl zk rfl (bK _) (mS:=[]) (mf:=(rE.qa.dl).drop 1) rfl zk rfl zk
   (K1:=λS' H'=>S' 7=.val (.pointer (some ⟨b,0,none⟩))/\S' 3=.int .i64 (dq (wd.take pos))/\S' 0=.str wd)
   (K2:=λo S' H'=>o=oK cc w (au k b (some (.stringIter sb p')))/\S' 7=.val (.pointer (some ⟨b,0,none⟩))/\S' 8=.dY [.bool true,.int .i64 pos,.int .i32 r]/\S' 3=.int .i64 (dq (wd.take pos))/\S' 0=.str wd)
   (K3:=λo S' H'=>o=oK cc w (au k b (some (.stringIter sb p')))/\S' 7=.val (.pointer (some ⟨b,0,none⟩))/\S' 9=.bool true/\S' 8=.dY [.bool true,.int .i64 pos,.int .i32 r]/\S' 3=.int .i64 (dq (wd.take pos))/\S' 0=.str wd) ⟨s7,s3,s0⟩ ?_ ?_ ?_)
  .rintro w0 g tM xD a Qi ho R ⟨s7,s3,s0⟩;have t7:=R.slot 7 zd (λh=>h);rw[s7]at t7;have t7:a.eval (.tmp 7)=.pointer (some ⟨b,0,none⟩):=t7.iA
   have hk:g.old.aU b=some (.stringIter sb pos):=by rw[ho];exact zX
   have hb:=(R.kept b _ hk).2.1;refine⟨_,_,_,au tM 8 (.dY [.bool true,.int .i64 pos,.int .i32 r]),xD,.inl (D9 rfl t7 hb zo hr u9),(R.mQ hk _).put 8 _ _ zd (.data _ _ (.dY _ _ rfl λi h h'=>?_)) trivial,?_,by simp[au,s7],aO _ _ _,by simp[au,s3],by simp[au,s0]⟩
   .match i,h with
    |0,_=>exact .bool _
    |1,_=>exact .int _ _
    |2,_=>exact .int _ _
   .show({ g.old with aU:=au g.old.aU b _ }:Old)=_
    rw[ho]<;>rfl
  .rintro o tM xD ⟨rfl,s7,s8,s3,s0⟩;refine⟨bK _,?_⟩;simp[c91,rE,af.qa,af.qb,af.dl,bq,aF,ba,aD,ev,aP.S,aP.H,au,aW,s3,s0,s7,s8,AV.aI]
  rintro o tM xD ⟨rfl,s7,s9,s8,s3,s0⟩;refine SW.seq (SW.cond rfl true (by show tM 9=_;rw[s9]) (SW.skip ?_));show SW prog GI 41 none (.block 1 (.seq _ (.seq _ _))) _ _ _ _
  by_cases vg:digit c/\wd.length<=2
  case neg=>
   have mT:wW wd=false:=by
    rw[agv];intro h;obtain⟨_,h2,h3,_⟩:=v_.1 h;exact vg ⟨h3 c (hc▸adC hp),h2⟩
   rw[yO mT]
   have YM:¬(48<=(r:Int)/\(r:Int)<=57/\(wd.length:Int)<=2):=by
    rintro⟨g1,g2,g3⟩;refine vg ⟨?_,zo⟩;have:=w_ (s:=sb) (pos:=pos) zo (by rw[hr];omega);rw[hr]at this
    have Fq:c.toNat=r:=by rw[<-ED];exact this.symm
    unfold digit;omega
   refine SW.block (SW.fP hG de zk (λd _=>bK _ d) (ac:=af.qb rE.qb.qb) zk ?_);unfold fa.bB
   by_cases g1:(48:Int)<=r
   .by_cases g2:(r:Int)<=57
    .have g3:¬(wd.length:Int)<=2:=λg3=>YM ⟨g1,g2,g3⟩
     simp[c91,rE,af.qa,af.qb,bB,bq,aF,ba,aD,di,ev,aP.S,aP.H,au,aW,s3,s0,s7,s8,AV.aI,dU,g1,g2,g3,e9,iP,bt];refine oc EB ?_;simp[eY,thenS,mO,oz,uj,lT];exact⟨rfl,rfl⟩
    .simp[c91,rE,af.qa,af.qb,bB,bq,aF,ba,aD,di,ev,aP.S,aP.H,au,aW,s3,s0,s7,s8,AV.aI,dU,g1,g2,e9,iP,bt];refine oc EB ?_;simp[eY,thenS,mO,oz,uj,lT];exact⟨rfl,rfl⟩
   .simp[c91,rE,af.qa,af.qb,bB,bq,aF,ba,aD,di,ev,aP.S,aP.H,au,aW,s3,s0,s7,s8,AV.aI,dU,g1,e9,iP,bt];refine oc EB ?_;simp[eY,thenS,mO,oz,uj,lT];exact⟨rfl,rfl⟩
  obtain⟨TF,Ci⟩:=vg;have Su:=TF;unfold digit at Su;have KE:=ahO sb pos zo (by rw[ED];omega)
  have ZM:r=c.toNat:=by rw[<-hr,KE,ED]
  have Cc:p'=pos+1:=by rw[<-u9,KE]
  subst ZM;subst Cc
  have Td:∀x∈wd.take (pos+1),digit x:=by
   rw[adJ hp,hc];intro x hx;rcases adG.1 hx with hx|hx
   .exact Eg x hx
   .rw[ad2]at hx;rw[hx];exact TF
  have qQ:wd.take (pos+1)=wd.take pos++[c]:=by rw[adJ hp,hc]
  have abi:=vC (wd.take pos) Eg (by simp;omega);refine SW.block (SW.mono (Q:=λe o S' H'=>e=.normal/\o=oK cc w (au k b (some (.stringIter sb (pos+1))))/\S' 7=.val (.pointer (some ⟨b,0,none⟩))/\S' 3=.int .i64 (dq (wd.take (pos+1)))/\S' 0=.str wd) ?_ (SW.fP hG de zk (λd _=>bK _ d) (ac:=af.qb rE.qb.qb) zk ?_))
  .rintro e o S' H' ⟨rfl,rfl,s7,s3,s0⟩;refine⟨⟨au k b (some (.stringIter sb (pos+1))),b,pos+1,rfl,aO _ _ _,hp,Td,λ_=>Ci,s7,s3,s0⟩,?_⟩;show(match S' 7 with|.val (.pointer (some a))=>(match(oK cc w (au k b (some (.stringIter sb (pos+1))))).aU a.block with|some (.stringIter _ p)=>wd.length-p|_=>0)|_=>0)<_;rw[U8 S' _ (pos+1) s7 (aO _ _ _),U8 S9 k pos m7 zX];omega
  .unfold fa.bB
   have g1:(48:Int)<=c.toNat:=zo
   have g2:(c.toNat:Int)<=57:=zo
   have g3:(wd.length:Int)<=2:=zo
   have w1:IntKind.i64.wrap (10*dq (wd.take pos))=10*dq (wd.take pos):=aQ zo;have w2:IntKind.i32.wrap ((c.toNat:Int)-48)=(c.toNat:Int)-48:=wrap32 zo;have w3:IntKind.i64.wrap ((c.toNat:Int)-48)=(c.toNat:Int)-48:=aQ zo
   have w4:IntKind.i64.wrap (10*dq (wd.take pos)+((c.toNat:Int)-48))=dq (wd.take (pos+1)):=by rw[qQ,CU,aQ zo]
   simp[c91,rE,af.qa,af.qb,bB,bq,aF,ba,aD,di,ev,aP.S,aP.H,au,aW,s3,s0,s7,s8,AV.aI,dU,g1,g2,g3,e9,iP,bt];refine oc WY ?_;simp[eY,au,AV.aI,s3,s0,s7,dU,w1,w2,w3,w4,bt]
end Go.Proofs.Tryz
namespace Go.Proofs.Tryz
open Go Go.AL Go.RowKit Go.Proofs Go.Proofs.Tram
variable{GI:World->Prop}
def zO{s:aw}(h:iN s):gI s s.cells.length=false:=by
 have:=h.pos;unfold gI
 have:¬s.cells.length<s.pos.toNat:=zo
 simp[this]
def Ob{s:aw}(h:iN s)(es:List End):∀x∈bW s es,0<x:=by
 intro x hx;obtain⟨i,hi,rfl⟩:=adZ.1 hx;have hi:=aeb.1 hi;have hw:=(mZ h.name (adC hi)).BD;have hp:=h.eZ;have ht:=h.dS;unfold Aq;rw[kP hi];have a1:1*1<=s.eZ*(s.name.words[i].aV.length:Int):=aex zo zo zo zo;have a3:0<=s.dS*(pw es i s.name.words[i].aV.length:Int):=aes zo zo;omega
def OA{av:List Int}(hp:∀x∈av,0<x){cn:Nat->Int}{vs:List (Nat×Nat)}{v:Nat×Nat}(hv:v∈vs)(h:av.sum<=mK cn v.1 (v.2+1)):gf av cn vs=av.length:=by
 obtain⟨a,b,rfl⟩:=List.append_of_mem hv
 have key:∀(b:List (Nat×Nat))(n:Nat),n=av.length->b.foldl (λn v=>n+(eu (av.drop n) (mK cn v.1 (v.2+1))).1) n=av.length:=by
  intro b
  induction b with
  |nil=>intro n hn;exact hn
  |cons y b ih=>
   intro n hn;rw[List.foldl_cons];refine ih _ ?_;rw[hn,ahd];simp[eu]
 have e:gf av cn (a++v::b)=b.foldl (λn v=>n+(eu (av.drop n) (mK cn v.1 (v.2+1))).1) (gf av cn a+(eu (av.drop (gf av cn a)) (mK cn v.1 (v.2+1))).1):=by
  unfold gf;rw[aeJ,List.foldl_cons]
 rw[e];refine key b _ ?_;have hle:=Am av cn a
 obtain⟨n,hn⟩:∃n,gf av cn a=n:=⟨_,rfl⟩
 rw[hn]at hle⊢
 have sJ:∀x∈av.drop n,0<x:=λx hx=>hp x (af6 hx)
 have hs:(av.take n).sum+(av.drop n).sum=av.sum:=by rw[<-afe,aeX]
 have h0:=nk (l:=av.take n) λx hx=>hp x (aef hx)
 have h1:=nk (l:=av.drop n) sJ;have:=(K6 sJ (t:=mK cn v.1 (v.2+1)) zo).2 zo;rw[this,ael];omega
def AH{s:aw}(h:iN s)(i n:Nat):∀j,0<=jY (j7 s i n) j:=λj=>by
 unfold jY j7;rw[aeD,ag5];have hb:=(vc h 0).2
 have hg:∀k,0<=(cj 0 s).getD k 0:=λk=>by
  rw[aeD]
  cases hk:(cj 0 s)[k]? with
  |none=>exact afx 0
  |some x=>exact(hb x (aeN hk)).1
 split
 .split
  .have:=hg i;simp only[Option.getD_some];omega
  .exact afx 0
 .have:=hg j;rwa [aeD]at this
def Gy(l:List Int)(i j:Nat)(x:Int):(l.set i x).getD j 0=if i=j then(if i<l.length then x else 0)else l.getD j 0:=by
 rw[aeD,ag5];split
 .split<;>rfl
 .rw[aeD]
def JH(s:aw)(i:Nat){m n:Nat}(hmn:m<=n)(j:Nat):jY (j7 s i m) j<=jY (j7 s i n) j:=by
 unfold jY j7;rw[Gy,Gy];split
 .split
  .omega
  .exact afx _
 .exact afx _
def Oj{s:aw}(h:iN s){av:List Int}(hp:∀x∈av,0<x)(i:Nat):∀x y,x<=y->qT s av i x=true->qT s av i y=true:=by
 intro x y hxy hx;unfold qT at hx⊢;rw[adL]at hx⊢;have h1:=OV (na:=av) (nb:=av) rfl (λ_ _ _=>afx _) hp (AH h i x) (AH h i y) (zO h) (zO h) (λj _ hs=>⟨hs,JH s i hxy j⟩);have h2:=Am av (jY (j7 s i y)) (gv (gI s) s.cells.length);unfold Az at hx⊢;omega
def NY{s:aw}(h:iN s){f t m:Nat}(hf:f<=t)(ht:t<s.cells.length):(m:Int)<=mK (jY (j7 s f m)) f (t+1):=by
 have hl:(cj 0 s).length=s.cells.length:=by simp[cj]
 have h0:(m:Int)<=jY (j7 s f m) f:=by
  unfold jY j7;rw[aeD,ag5,if_pos rfl,if_pos zo,Option.getD_some];have:=(vc h 0).2 _ (adC (show f<(cj 0 s).length by omega));rw[aeD,adB zo,Option.getD_some];omega
 have key:∀d,(m:Int)<=mK (jY (j7 s f m)) f (f+d+1):=by
  intro d
  induction d with
  |zero=>
   rw[Nat.add_zero,xY _ (adF f),CS];omega
  |succ d ih=>
   rw[show f+(d+1)+1=(f+d+1)+1 by omega,xY _ zo];have:=AH h f m (f+d+1);omega
 have:=key (t-f);rwa [show f+(t-f)+1=t+1 by omega]at this
def OU{s:aw}(h:iN s){av:List Int}(hp:∀x∈av,0<x)(hv:(eL s).isEmpty=false):∃c,c<s.cells.length/\qT s av c av.sum.toNat=true:=by
 cases xT:gv (gI s) s.cells.length with
 |nil=>simp[eL,xT]at hv
 |cons v l=>
  have bV:=(Gi (zO h)).1 v (by rw[xT];simp);refine⟨v.1,zo,?_⟩;unfold qT Az;rw[adL];have h0:=nk hp;exact OA (v:=v) hp (by rw[xT];simp) (by have:=NY h (m:=av.sum.toNat) bV.1 bV.2;omega)
def Ik(p:Nat->Bool)(k:Nat):Nat:=((List.range k).find? p).getD k
def CR(p:Nat->Bool)(k:Nat):qO p k (Ik p k):=by
 unfold Ik
 cases hf:(List.range k).find? p with
 |none=>
  refine⟨adF _,λx hx=>?_,λh=>absurd h ahB⟩;have:=agl.1 hf x (aeb.2 (by simpa using hx));simpa using this
 |some r=>
  obtain⟨h1,pa,pb,h2,h3⟩:=List.find?_eq_some_iff_append.1 hf;have hr:r<k:=aeb.1 (ag6 hf);refine⟨by simp;omega,λx hx=>?_,λ_=>h1⟩;simp only[Option.getD_some]at hx
  have mJ:x∈pa++r::pb:=by rw[<-h2];exact aeb.2 zo
  rcases adG.1 mJ with h|h
  .have:=h3 x h;simpa using this
  .exfalso
   have Z7:(pa++r::pb).Pairwise (·<·):=by rw[<-h2];exact aho
   have Z7:=(af7.1 Z7).2.1;rcases ad_.1 h with h|h
   .omega
   .have:=(agj.1 Z7).1 x h;omega
def iO(s:aw)(av:List Int)(i:Nat):Nat:=Ik (qT s av i) (av.sum.toNat+1)
def OX(s:aw)(av:List Int):Option (Nat×Nat):=match gR (iO s av) av.sum.toNat s.cells.length with
 |x::l=>some (sE x l)
 |[]=>none
def xJ(s:aw):List AV:=
 if dj s then(match kl s.name with
  |some es=>if(eL s).isEmpty then[.int .i64 0,.int .i64 0,.int .i64 5]else(match OX s (bW s es)with|some q=>[.int .i64 (q.1:Nat),.int .i64 (q.2:Nat),.int .i64 0]|none=>[])
  |none=>[.int .i64 0,.int .i64 0,.int .i64 7])else[.int .i64 0,.int .i64 0,.int .i64 2]
def za:∀(l:List (Nat×Nat))(x:Nat×Nat),l4 (dL x) (l.map dL)=dL (sE x l)
 |[],_=>rfl
 |y::l,x=>by
  have e1:l4 (dL x) ((y::l).map dL)=l4 (if(dL y).2<(dL x).2 then dL y else dL x) (l.map dL):=rfl;have e2:sE x (y::l)=sE (if y.2<x.2 then y else x) l:=rfl;rw[e1,e2,<-za l]
  congr 1
  by_cases h:y.2<x.2
  .rw[if_pos h,if_pos (by show(y.2:Int)<(x.2:Int);omega)]
  .rw[if_neg h,if_neg (by show¬(y.2:Int)<(x.2:Int);omega)]
def EJ:∀{l:List Int}{b:Int},(∀x∈l,x<=b)->0<=b->l.sum<=l.length*b
 |[],_,_,_=>ahB
 |x::l,b,h,hb=>by
  have h1:=h x ahB;have h2:=EJ (l:=l) (λy hy=>h y (by simp[hy])) hb;simp only[List.sum_cons,List.length_cons]
  have:((l.length+1:Nat):Int)*b=l.length*b+b:=by rw[Int.natCast_add,agW];simp
  omega
section
variable{w0:World}{n:Nat}{g:Gh}{S:an}{H:ao}{a:Act}{w:World}{d i1 i4 i5:Nat}{t u e:List UInt8}{z x:List AV}{y:AV}
def KF(R:Rel prog w0 n bP g S H a w){i:Nat}(hi:i<n)(hS:S i=.box i 0)(hH:H i=some [.str t]):∃b,a.tmps.getD i undef=.pointer (some ⟨b,0,none⟩)/\w.cell? ⟨b,0,none⟩=some (.string ⟨t.toArray⟩):=by
 obtain⟨b,al,e⟩:=np R hi hS;obtain⟨cs,vs,ty,k0,k1,k2,k3,k4,k5,k6,k7,k8⟩:=R.box i b al;rw[hH]at k0;cases k0
 have h0:0<vs.size:=by rw[<-k5];exact agN
 have hv:=nP (RV.data (al:=cQ) _ _ (k6 0 ahB h0));exact⟨b,e,by simp[World.cell?,k2,h0,hv]⟩
def Uo (hG:ar GI) (cm:GI w0) (R:Rel prog w0 n bP g S H a w) (hd:d < n) (EH:i1 < n) (D4:i4 < n) (ND:i5 < n) (MG:d≠i4) (Rg:d≠i5) (T8:i4≠i5)
  (C_:S i1=.box i1 0) (Df:H i1=some [.str t]) (AJ:S i4=.box i4 0) (E4:H i4=some z) (B_:S i5=.box i5 0) (I1:H i5=some [y]) (hz:z.length=15) (hx:x.length=15) (ug:AC prog GI 42 [.str t] (.ret (.dY [.agg x,.str u]))):
  Calls prog 41 #[a.tmps.getD i1 undef,a.tmps.getD i4 undef,a.tmps.getD i5 undef] w λe w2=>e=.returned (.tuple #[])/\∃(c:Value)(g':Gh)(S':an)(H':ao),g'.old=g.old/\Rel prog w0 n bP g' S' H' (a.put (some d) c) w2/\(∀t,t≠d->S' t=S t)/\H'=au (au H i4 (some (x.map AV.aI))) i5 (some [.str u]):=by
 have bl:=R.size;have gD:GI w:=hG w0 w cm (by have:=R.below;rwa [R.base]at this);obtain⟨b1,e1,eO⟩:=KF R EH C_ Df;obtain⟨b4,al4,e4⟩:=np R D4 AJ;obtain⟨b5,Y1,e5⟩:=np R ND B_;refine afJ func41 rfl ?_;refine(fy (m:=0)).1 ?_;refine ik (λa=>a.tmps.size=8/\a.defers=[]/\a.tmps.getD 0 undef=.pointer (some ⟨b1,0,none⟩)/\a.tmps.getD 1 undef=.pointer (some ⟨b4,0,none⟩)/\a.tmps.getD 2 undef=.pointer (some ⟨b5,0,none⟩)) ⟨by simp[ntmps41],rfl,(cJ _ _ 0 ahB).trans e1,(cJ _ _ 1 ahB).trans e4,(cJ _ _ 2 ahB).trans e5⟩ ?_;rintro aC ⟨zC,dC,t0,t1,t2⟩;refine aea ?_;show wpOpsIn _ _ _ _ _ [0,1,2,3,4,5,6] aC w;refine bf rfl rfl zr (jT (t:=9) (d:=.string) (b:=b1) (off:=0) rfl t0 zk rfl eO) ?_;show wpOpsIn _ _ _ _ _ [1,2,3,4,5,6] (aC.put (some 4) (.string ⟨t.toArray⟩)) w
 refine gC rfl rfl zr (gq (k:=42) (args:=#[.string ⟨t.toArray⟩]) w rfl rfl ?_ zk) (ug w (fI g false) #[.string ⟨t.toArray⟩] gD rfl (λi h h'=>by
  match i,h with
  |0,_=>exact .data _ _ (.str t))) ?_
 .simp only[aeg,adU,aee];show #[(aC.put (some 4) _).eval (.tmp 4)]=_;rw[cg _ _ _ _ zo,if_pos rfl]
 rintro e w2 ⟨iL,hi,qR,c,rfl,NJ,cZ⟩;refine⟨c,rfl,?_⟩;obtain⟨g',mT,qg,R2⟩:=R.call (some d) (λt ht=>by cases ht;exact⟨hd,id⟩) false iL qR NJ cZ (λh=>by cases h);have D2:=R2.slot d hd id
 have acF:(a.put (some d) c).tmps.getD d undef=c:=by rw[i_ _ _ _ _ zo,if_pos rfl]
 rw[acF]at D2;have V3:aW S (some d) (.dY [.agg x,.str u]) d=.dY [.agg x,.str u]:=aO _ _ _;rw[V3]at D2
 obtain⟨c0,rfl,r0⟩:∃c0,c=.tuple #[c0,.string ⟨u.toArray⟩]/\RD g'.Pr w2 (.agg x) c0:=by
  cases D2 with
  |data _ _ h=>
   cases h with
   |dY cs vs hl hr=>
    have h2:vs.size=2:=by rw[<-hl]<;>rfl
    have q0:=hr 0 ahB zo;have q1:=hr 1 ahB zo;simp only[List.getElem_cons_zero,List.getElem_cons_succ]at q0 q1;have q1:=nP (RV.data (al:=cQ) _ _ q1);refine⟨vs[0],?_,q0⟩
    congr 1
    apply afc
    .simpa using h2
    .intro i h1 h2
     match i,h2 with
     |0,_=>rfl
     |1,_=>exact q1
 have R3:=R2.put d (.agg x) c0 hd (.data _ _ r0) trivial;rw[yS]at R3;obtain⟨i31,oa,nC⟩:=iZ 31 15;obtain⟨i9,hi9,Qw⟩:=iZ 9 1
 have kV:bC z 0 (x.map AV.aI)=x.map AV.aI:=by simp[bC,hz,hx]
 obtain⟨S3,O3⟩:∃S3,au (aW S (some d) (.dY [.agg x,.str u])) d (.agg x)=S3:=⟨_,rfl⟩
 rw[O3]at R3
 have k3d:S3 d=.agg x:=by rw[<-O3];exact aO _ _ _
 have k3:∀t,t≠d->S3 t=S t:=λt ht=>by rw[<-O3];simp[au,aW,ht]
 have j3:aD S3 H (.store .any i31.size (.t i4) (.t d))=some { v:=cy,dm:=some d,hw:=some (i4,x.map AV.aI) }:=by
  simp[aD,ev,k3d,k3 i4 (aeq MG),AJ,E4,HR.okB,AV.cells,AV.storable,AV.ct,nC,hx,hz,bt,kV]
 obtain ⟨c2,w3,g3,dE,Uw,Dq,R4⟩:=nn R3 (o:={ dst:=none,op := .store 31 (.tmp i4) (.tmp d),type:=0,pos := "",after := #[],guard:=none }) (x1 := .tmp i4) (x2 := .tmp d) (y1 := .t i4) (y2 := .t d) (hr := .any) rfl rfl oa (by simp [dz,D4]) (by simp [dz,hd]) (λ_ _=>id) (λ_ _=>id) j3;have R5:=R4.put d (.str u) (.string ⟨u.toArray⟩) hd (.data _ _ (.str u)) trivial;have R5:Rel prog w0 n bP g3 (au _ d (.str u)) (au H i4 (some (x.map AV.aI))) ((a.put (some d) c0).put (some d) (.string ⟨u.toArray⟩)) w3:=R5;rw [yS] at R5
 obtain⟨S5,Lm⟩:∃S5,au (aP.S { v:=cy,dm:=some d,hw:=some (i4,x.map AV.aI) } S3 none) d (.str u)=S5:=⟨_,rfl⟩
 rw[Lm]at R5
 have k5d:S5 d=.str u:=by rw[<-Lm];exact aO _ _ _
 have k5:∀t,t≠d->S5 t=S t:=λt ht=>by rw[<-Lm,aT _ _ ht,<-k3 t ht];simp[aP.S,aW,au,ht]
 have acC:aD S5 (au H i4 (some (x.map AV.aI))) (.store .any i9.size (.t i5) (.t d))=some { v:=cy,dm:=some d,hw:=some (i5,[.str u]) }:=by
  simp[aD,ev,k5d,k5 i5 (aeq Rg),B_,I1,au,aeq T8,HR.okB,AV.cells,AV.storable,AV.ct,Qw,bC,bt,AV.aI]
 obtain ⟨c3,w4,g4,U4,adr,abK,R6⟩:=nn R5 (o:={ dst:=none,op := .store 9 (.tmp i5) (.tmp d),type:=0,pos := "",after := #[],guard:=none }) (x1 := .tmp i5) (x2 := .tmp d) (y1 := .t i5) (y2 := .t d) (hr := .any) rfl rfl hi9 (by simp [dz,ND]) (by simp [dz,hd]) (λ_ _=>id) (λ_ _=>id) acC;show wpOpsIn _ _ _ _ _ [2,3,4,5,6] ((aC.put (some 4) (.string ⟨t.toArray⟩)).put (some 5) (.tuple #[c0,.string ⟨u.toArray⟩])) w2
 obtain⟨A,hA,zA,dA,q1,q2,q5⟩:∃A,(aC.put (some 4) (.string ⟨t.toArray⟩)).put (some 5) (.tuple #[c0,.string ⟨u.toArray⟩])=A/\A.tmps.size=8/\A.defers=[]/\A.eval (.tmp 1)=.pointer (some ⟨b4,0,none⟩)/\A.eval (.tmp 2)=.pointer (some ⟨b5,0,none⟩)/\A.eval (.tmp 5)=.tuple #[c0,.string ⟨u.toArray⟩]:=by
  have Tj:(aC.put (some 4) (.string ⟨t.toArray⟩)).tmps.size=8:=by rw[l5];exact zC
  refine⟨_,rfl,by rw[l5];exact Tj,dC,?_,?_,?_⟩
  .rw[cg _ _ _ _ zo,if_neg zd,cg _ _ _ _ zo,if_neg zd];exact t1
  .rw[cg _ _ _ _ zo,if_neg zd,cg _ _ _ _ zo,if_neg zd];exact t2
  .rw[cg _ _ _ _ zo,if_pos rfl]
 rw[hA]
 have v5:(execOp A.eval { dst:=some 3,op := .move (.tmp 5),type:=72,pos := "",after := #[],guard:=none }).run prog w2 = .ok (.value (.tuple #[c0,.string ⟨u.toArray⟩])) w2:=by unfold execOp;simp [q5]
 refine bf rfl rfl zr v5 ?_;show wpOpsIn _ _ _ _ _ [3,4,5,6] (A.put (some 3) (.tuple #[c0,.string ⟨u.toArray⟩])) w2
 obtain⟨B,hB⟩:∃B,A.put (some 3) (.tuple #[c0,.string ⟨u.toArray⟩])=B:=⟨_,rfl⟩
 have zB:B.tmps.size=8:=by rw[<-hB,l5];exact zA
 have dB:B.defers=[]:=by rw[<-hB];exact dA
 have p1:B.eval (.tmp 1)=.pointer (some ⟨b4,0,none⟩):=by rw[<-hB,cg _ _ _ _ zo,if_neg zd];exact q1
 have p2:B.eval (.tmp 2)=.pointer (some ⟨b5,0,none⟩):=by rw[<-hB,cg _ _ _ _ zo,if_neg zd];exact q2
 have p3:B.eval (.tmp 3)=.tuple #[c0,.string ⟨u.toArray⟩]:=by rw[<-hB,cg _ _ _ _ zo,if_pos rfl]
 rw[hB]
 have v6:(execOp B.eval { dst:=some 6,op := .extract (.tmp 3) 0,type:=31,pos := "",after := #[],guard:=none }).run prog w2 = .ok (.value c0) w2:=by unfold execOp;simp [p3,Instr.extract]
 refine bf rfl rfl zr v6 ?_;show wpOpsIn _ _ _ _ _ [4,5,6] (B.put (some 6) c0) w2
 obtain⟨C,hC⟩:∃C,B.put (some 6) c0=C:=⟨_,rfl⟩
 have zC:C.tmps.size=8:=by rw[<-hC,l5];exact zB
 have o1:C.eval (.tmp 1)=.pointer (some ⟨b4,0,none⟩):=by rw[<-hC,cg _ _ _ _ zo,if_neg zd];exact p1
 have o2:C.eval (.tmp 2)=.pointer (some ⟨b5,0,none⟩):=by rw[<-hC,cg _ _ _ _ zo,if_neg zd];exact p2
 have o3:C.eval (.tmp 3)=.tuple #[c0,.string ⟨u.toArray⟩]:=by rw[<-hC,cg _ _ _ _ zo,if_neg zd];exact p3
 have o6:C.eval (.tmp 6)=c0:=by rw[<-hC,cg _ _ _ _ zo,if_pos rfl]
 rw[hC]
 have v7:(execOp C.eval { dst:=some 7,op := .extract (.tmp 3) 1,type:=9,pos := "",after := #[],guard:=none }).run prog w2 = .ok (.value (.string ⟨u.toArray⟩)) w2:=by unfold execOp;simp [o3,Instr.extract]
 refine bf rfl rfl zr v7 ?_;show wpOpsIn _ _ _ _ _ [5,6] (C.put (some 7) (.string ⟨u.toArray⟩)) w2
 obtain⟨D,hD⟩:∃D,C.put (some 7) (.string ⟨u.toArray⟩)=D:=⟨_,rfl⟩
 have zD:D.tmps.size=8:=by rw[<-hD,l5];exact zC
 have dD:D.defers=[]:=by rw[<-hD,<-hC];exact dB
 have m1:D.eval (.tmp 1)=.pointer (some ⟨b4,0,none⟩):=by rw[<-hD,cg _ _ _ _ zo,if_neg zd];exact o1
 have m2:D.eval (.tmp 2)=.pointer (some ⟨b5,0,none⟩):=by rw[<-hD,cg _ _ _ _ zo,if_neg zd];exact o2
 have m6:D.eval (.tmp 6)=c0:=by rw[<-hD,cg _ _ _ _ zo,if_neg zd];exact o6
 have m7:D.eval (.tmp 7)=.string ⟨u.toArray⟩:=by rw[<-hD,cg _ _ _ _ zo,if_pos rfl]
 rw[hD]
 have f4:∀c,(a.put (some d) c).eval (.tmp i4)=.pointer (some ⟨b4,0,none⟩):=λc=>by rw[cg _ _ _ _ zo,if_neg (aeq MG)];exact e4
 have f5:∀c,(a.put (some d) c).eval (.tmp i5)=.pointer (some ⟨b5,0,none⟩):=λc=>by rw[cg _ _ _ _ zo,if_neg (aeq Rg)];exact e5
 have fd:∀c,(a.put (some d) c).eval (.tmp d)=c:=λc=>by rw[cg _ _ _ _ zo,if_pos rfl]
 have bn:∀ o:Oper,o.op = .store 31 (.tmp 1) (.tmp 6)->(execOp D.eval o).run prog w2=(execOp (a.put (some d) c0).eval { dst:=none,op := .store 31 (.tmp i4) (.tmp d),type:=0,pos := "",after := #[],guard:=none }).run prog w2:=by
  intro o ho;unfold execOp;simp only[ho,m1,m6,f4,fd]
 have kB:∀ (D':Act) (o:Oper),o.op = .store 9 (.tmp 2) (.tmp 7)->D'.tmps=D.tmps->(execOp D'.eval o).run prog w3=(execOp (a.put (some d) (.string ⟨u.toArray⟩)).eval { dst:=none,op := .store 9 (.tmp i5) (.tmp d),type:=0,pos := "",after := #[],guard:=none }).run prog w3:=by
  intro D' o ho ht
  have n2:D'.eval (.tmp 2)=.pointer (some ⟨b5,0,none⟩):=by show D'.tmps.getD 2 undef=_;rw[ht];exact m2
  have n7:D'.eval (.tmp 7)=.string ⟨u.toArray⟩:=by show D'.tmps.getD 7 undef=_;rw[ht];exact m7
  unfold execOp;simp only[ho,n2,n7,f5,fd]
 have fin:∀v1 v2:Value,((D.put none v1).put none v2).defers=[]/\∃v',(results f41 ((D.put none v1).put none v2).tmps).run prog w4=.ok v' w4/\(Ending.returned v'=.returned (.tuple #[])/\∃(c:Value)(g':Gh)(S':an)(H':ao),g'.old=g.old/\Rel prog w0 n bP g' S' H' (a.put (some d) c) w4/\(∀t,t≠d->S' t=S t)/\H'=au (au H i4 (some (x.map AV.aI))) i5 (some [.str u])):=λv1 v2=>
  ⟨dD,.tuple #[],by simp[results,results41],rfl,_,g4,_,_,by rw[abK];exact Dq.trans qg,R6,λt ht=>by rw[<-k5 t ht];simp[aP.S,aW,au,ht],rfl⟩
 rcases dE with hr|⟨hr,_⟩
 .refine bf rfl rfl zr ((bn _ rfl).trans hr) ?_
  rcases U4 with hr|⟨hr,_⟩
  .exact bf rfl rfl zr ((kB (D.put none c2) _ rfl rfl).trans hr) (fin c2 _)
  .exact eT rfl rfl zr ((kB (D.put none c2) _ rfl rfl).trans hr) (fin c2 undef)
 .refine eT rfl rfl zr ((bn _ rfl).trans hr) ?_
  rcases U4 with hr|⟨hr,_⟩
  .exact bf rfl rfl zr ((kB (D.put none undef) _ rfl rfl).trans hr) (fin undef _)
  .exact eT rfl rfl zr ((kB (D.put none undef) _ rfl rfl).trans hr) (fin undef undef)
end
def wi(l:List Int):∀x∈ints l,x.cells.length=1/\x.storable=true/\∀c∈x.cells,c.one=true:=by
 intro x hx;obtain⟨e,_,rfl⟩:=adZ.1 hx;exact⟨rfl,rfl,λc hc=>by simp[AV.cells]at hc;subst hc;rfl⟩
def xQ(l:List Int):∀x∈ints l,∀c∈x.cells,iF c=true:=by
 intro x hx c hc;obtain⟨e,_,rfl⟩:=adZ.1 hx;simp[AV.cells]at hc;subst hc;rfl
def Kp(l:List (List Int)):∀x∈l.map vI,x.cells.length=1/\x.storable=true/\∀c∈x.cells,c.one=true:=by
 intro x hx;obtain⟨e,_,rfl⟩:=adZ.1 hx;exact⟨rfl,rfl,λc hc=>by simp[AV.cells,vI]at hc;subst hc;rfl⟩
structure Lv(wB:World)(Mi:Nat->Nat->Prop)(bF bN:Nat)(s:aw)(cS cR fv:Value)(fs:List (List Int))(es:List Int)(w:World):Prop where
 below:Below wB.heap.size wB w
 ge:wB.heap.size<=bF/\wB.heap.size<=bN/\bF≠bN
 lt:∀b k,Mi b k->b<w.heap.size
 gF:∀k,¬Mi bF k
 gN:∀k,¬Mi bN k
 st:∃u AP xF v CK xN,w.heap[bF]?=some (.cells #[u] AP (0,0))/\w.ownsRow (bF+1) 23 1 u fs.length xF/\jo (λb k=>Mi b k/\wB.heap.size<=b) w 1 (fs.map vI) xF/\(∀b,u.ownBlock=some b->b≠bN/\∀k,¬Mi b k)/\
  w.heap[bN]?=some (.cells #[v] CK (0,0))/\w.ownsRow (bN+1) 3 1 v es.length xN/\jo (λ_ _=>False) w 1 (ints es) xN/\∀b,v.ownBlock=some b->b≠bF/\u.ownBlock≠some b/\∀k,¬Mi b k
 s:RV Mi cQ w (.ref (az s)) cS
 r:RV Mi cQ w (.ref [.val fv]) cR
variable{wB:World}{Mi:Nat->Nat->Prop}{bF bN:Nat}{s:aw}{cS cR fv:Value}{fs:List (List Int)}{es:List Int}{w w':World}
def iR{base:Nat}{e:TypeId}{size:Nat}{v:Value}{n:Nat}{xs:List Value}(h:w.ownsRow base e size v n xs)(hk:∀b,v.ownBlock=some b->w'.heap[b]?=w.heap[b]?):w'.ownsRow base e size v n xs:=by
 refine⟨h.1,?_⟩
 rcases h.2 with h|⟨gg,cap,cur,rfl,r_,FE,rest⟩
 .exact .inl h
 .exact .inr ⟨gg,cap,cur,rfl,r_,(hk gg rfl).trans FE,rest⟩
def Lv.grow(st:Lv wB Mi bF bN s cS cR fv fs es w)(hb:Below w.heap.size w w'):Lv wB Mi bF bN s cS cR fv fs es w':=by
 have hk:bg Mi Mi w w':=bg.ja (λb h=>hb.block b h) λ_ _ _ h=>h
 obtain⟨u,AP,xF,v,CK,xN,f1,f2,f3,f4,n1,n2,n3,n4⟩:=st.st;have lF:=(adD.1 f1).1;have lN:=(adD.1 n1).1
 exact⟨st.below.trans (hb.mono st.below.size),st.ge,λb k h=>aet (st.lt b k h) hb.size,st.gF,st.gN,
  ⟨u,AP,xF,v,CK,xN,(hb.block _ lF).trans f1,iR f2 λb h=>hb.block _ (f2.lt b h).2,f3.mono (bg.ja (λb h=>hb.block b h) λ_ _ _ h=>h),f4,(hb.block _ lN).trans n1,iR n2 λb h=>hb.block _ (n2.lt b h).2,n3.mono (bg.of_eq λ_ _ h=>h.elim),n4⟩,
  st.s.mono hk λ_ _ h=>h,st.r.mono hk λ_ _ h=>h⟩
end Go.Proofs.Tryz
namespace Go.Proofs.Tryz
open Go Go.AL Go.RowKit Go.Proofs Go.Proofs.Tram
variable{GI:World->Prop}
def Tl:Nat->Bool:=λt=>decide (14<=t)
structure L2(a0:Act)(w:World)(u v:Value)(es:List Int)(c:Bool)(k:Nat)(a:Act)(w':World):Prop where
 size:a.tmps.size=50
 defers:a.defers=[]
 same:eI Tl a0 a
 below:Below w.heap.size w w'
 t14:c=true->a.tmps.getD 14 undef=u
 t15:1<=k->a.tmps.getD 15 undef=v
 t16:2<=k->AO w w' (ints es) (a.tmps.getD 16 undef)
 t17:3<=k->∃Qr,a.tmps.getD 17 undef=.slice (some ⟨Qr,0,none⟩) 1 1/\w'.heap[Qr]?=some (.cells #[a.tmps.getD 16 undef] 23 (0,0))/\w.heap.size<=Qr
def Ek{a0 a:Act}(h:eI Tl a0 a){d:Nat}(hd:14<=d)(c:Value):eI Tl a0 (a.put (some d) c):=h.trans (eI.put (λt ht=>by cases ht;simp[Tl,hd]) c)
section
variable{a0 a:Act}{w w':World}{u v:Value}{es:List Int}{c:Bool}{k:Nat}
def L2.load(h:L2 a0 w u v es c k a w'):L2 a0 w u v es true k (a.put (some 14) u) w':=by
 have hp:=λt (c:Value)=>i_ a 14 t c (by rw[h.size];omega)
 refine⟨by simp[Act.put,h.size],h.defers,Ek h.same zo _,h.below,λ_=>by rw[hp,if_pos rfl],λhk=>by rw[hp,if_neg zd];exact h.t15 hk,λhk=>by rw[hp,if_neg zd];exact h.t16 hk,λhk=>?_⟩;rw[hp,if_neg zd,hp,if_neg zd];exact h.t17 hk
def L2.now(h:L2 a0 w u v es c 0 a w'):L2 a0 w u v es c 1 (a.put (some 15) v) w':=by
 have hp:=λt (c:Value)=>i_ a 15 t c (by rw[h.size];omega)
 exact⟨by simp[Act.put,h.size],h.defers,Ek h.same zo _,h.below,λhc=>by rw[hp,if_neg zd];exact h.t14 hc,λ_=>by rw[hp,if_pos rfl],λhk=>zo,λhk=>zo⟩
def L2.copy(h:L2 a0 w u v es c 1 a w'){w2:World}{cl:Value}(hb:Below w'.heap.size w' w2)(hf:AO w' w2 (ints es) cl):L2 a0 w u v es c 2 (a.put (some 16) cl) w2:=by
 have hp:=λt (c:Value)=>i_ a 16 t c (by rw[h.size];omega)
 refine⟨by simp[Act.put,h.size],h.defers,Ek h.same zo _,h.below.trans (hb.mono h.below.size),λhc=>by rw[hp,if_neg zd];exact h.t14 hc,λhk=>by rw[hp,if_neg zd];exact h.t15 zo,λ_=>?_,λhk=>zo⟩;rw[hp,if_pos rfl];obtain⟨hi,hr⟩:=hf;exact⟨hi,hr.mono (bg.same λb k _ hp=>⟨⟨aeL h.below.size hp.1.1,hp.1.2⟩,hp.2⟩)⟩
def Ho(w:World)(o:Obj):Below w.heap.size w (w.alloc o):=(aeC _ _).alloc (adF _) _
def L2.row(h:L2 a0 w u v es c 2 a w'):L2 a0 w u v es c 3 (a.put (some 17) (.slice (some ⟨w'.heap.size,0,none⟩) 1 1)) (w'.alloc (.cells #[a.tmps.getD 16 undef] 23)):=by
 have hp:=λt (c:Value)=>i_ a 17 t c (by rw[h.size];omega)
 have hb:=Ho w' (.cells #[a.tmps.getD 16 undef] 23);refine⟨by simp[Act.put,h.size],h.defers,Ek h.same zo _,h.below.trans (hb.mono h.below.size),λhc=>by rw[hp,if_neg zd];exact h.t14 hc,λhk=>by rw[hp,if_neg zd];exact h.t15 zo,λ_=>?_,λ_=>?_⟩
 .rw[hp,if_neg zd];exact(h.t16 zo).grow hb
 .rw[hp,if_pos rfl,hp,if_neg zd];exact⟨_,rfl,aew _ _,h.below.size⟩
end
def WQ(ops:Array Oper):Bool:=decide (ops.size=6)&&
 (Region.ready .any ops #[false,false,false,false,false,false]==[0,1])&&(Region.ready .any ops #[true,false,false,false,false,false]==[1])&&(Region.ready .any ops #[false,true,false,false,false,false]==[0,2])&&
 (Region.ready .any ops #[true,true,false,false,false,false]==[2])&&(Region.ready .any ops #[false,true,true,false,false,false]==[0,3])&&(Region.ready .any ops #[true,true,true,false,false,false]==[3])&&
 (Region.ready .any ops #[false,true,true,true,false,false]==[0])&&(Region.ready .any ops #[true,true,true,true,false,false]==[4])&&(Region.ready .any ops #[true,true,true,true,true,false]==[5])&&(Region.ready .any ops #[true,true,true,true,true,true]==[])
section
variable{wB:World}{Mi:Nat->Nat->Prop}{bF bN:Nat}{s:aw}{cS cR fv:Value}{fs:List (List Int)}{es:List Int}{w:World}{a:Act}{Q:Exit->Act->World->Prop}{m:Nat}
def IH (hG:ar GI) (st:Lv wB Mi bF bN s cS cR fv fs es w) (gD:GI w) (bl:a.tmps.size=50) (eR:a.defers=[]) (t3:a.tmps.getD 3 undef = .pointer (some ⟨bN,0,none⟩)) (t4:a.tmps.getD 4 undef = .pointer (some ⟨bF,0,none⟩)) (nB:es.length < 1000) (fH:fs.length < 100000)
  {id:Nat} {ops:Array Oper} {o0 o1 o2 o3 o4 o5:Oper} {cl2 Vc:Call} (h0:ops[0]?=some o0) (h1:ops[1]?=some o1) (h2:ops[2]?=some o2) (h3:ops[3]?=some o3) (h4:ops[4]?=some o4) (h5:ops[5]?=some o5)
  (q0:o0.op=.load 113 (.tmp 4)/\o0.dst=some 14/\o0.guard=none) (q1:o1.op=.load 23 (.tmp 3)/\o1.dst=some 15/\o1.guard=none) (q2:o2.op=.call cl2/\o2.dst=some 16/\o2.guard=none) (q3:o3.op=.buildSlice 113 1 #[(0,.tmp 16)]/\o3.dst=some 17/\o3.guard=none)
  (q4:o4.op=.call Vc/\o4.dst=some 18/\o4.guard=none) (q5:o5.op=.store 113 (.tmp 4) (.tmp 18)/\o5.dst=none/\o5.guard=none)
  (c2:cl2.callee=.value (.func 74)/\cl2.args=#[.tmp 15]) (c4:Vc.callee=.builtin .append/\Vc.args=#[.tmp 14,.tmp 17]/\Vc.argTypes=#[113,113]) (hr:WQ ops=true)
  (hk:∀a' w' tH,a'.tmps.size=50->a'.defers=[]->eI Tl a a'->(∀b k,Mi b k->tH b k)->Lv wB tH bF bN s cS cR fv (fs++[es]) es w'->Q .normal a' w'):(Code.region id ops true).wpIn (FR none) m prog Q a w:=by
 unfold WQ at hr;simp only[adE,aej,adL]at hr;obtain⟨⟨⟨⟨⟨⟨⟨⟨⟨⟨r0,ra⟩,rb⟩,rc⟩,rd⟩,re⟩,rf⟩,rg⟩,rh⟩,ri⟩,rj⟩:=hr;obtain⟨u,AP,xF,v,CK,xN,f1,f2,f3,f4,n1,n2,n3,n4⟩:=st.st;have lF:=(adD.1 f1).1;have lN:=(adD.1 n1).1;obtain⟨d141,acv,aaR⟩:=vZ 113;obtain⟨d23,u23,g23⟩:=vZ 23
 have Ui:prog.underlying 113=some (.slice 23):=zk
 obtain⟨i3,CM,uI⟩:=iZ 3 1;obtain⟨i141,aam,aab⟩:=iZ 113 1;obtain⟨i23,PG,Gw⟩:=ae7.1 (show(prog.info? 23).bind (λi=>if i.size=1/\i.bytes<=65536 then i.zero else none)=some (.slice none 0 0) by kernel_rfl)
 have YS:(i23.size=1/\i23.bytes<=65536)/\i23.zero=some (.slice none 0 0):=by
  split at Gw
  .exact⟨by assumption,Gw⟩
  .cases Gw
 obtain⟨⟨JE,Yl⟩,Gw⟩:=YS;have acV:=W0 hG (GI:=GI) (ints es) (qK es) (by rw[cU];omega)
 have load:∀{c k a' w' K},L2 a w u v es c k a' w'->(∀a' w',L2 a w u v es true k a' w'->K a' w')->wpOpIn (FR none) m prog ops Q 0 K a' w':=λ{c k a' w' K} h hK=>
  zJ h0 q0.2.2 (by rw[q0.1]<;>rfl) (jT (b:=bF) (off:=0) (v:=u) q0.1 ((h.same 4 rfl).trans t4) acv aaR (by simp[World.cell?,(h.below.block bF lF).trans f1])) (by rw[q0.2.1];exact hK _ _ h.load)
 have now:∀{c a' w' K},L2 a w u v es c 0 a' w'->(∀a' w',L2 a w u v es c 1 a' w'->K a' w')->wpOpIn (FR none) m prog ops Q 1 K a' w':=λ{c a' w' K} h hK=>
  zJ h1 q1.2.2 (by rw[q1.1]<;>rfl) (jT (b:=bN) (off:=0) (v:=v) q1.1 ((h.same 3 rfl).trans t3) u23 g23 (by simp[World.cell?,(h.below.block bN lN).trans n1])) (by rw[q1.2.1];exact hK _ _ h.now)
 have copy:∀{c a' w' K},L2 a w u v es c 1 a' w'->(∀a' w',L2 a w u v es c 2 a' w'->K a' w')->wpOpIn (FR none) m prog ops Q 2 K a' w':=λ{c a' w' K} h hK=>by
  have hv:a'.tmps.getD 15 undef=v:=h.t15 (adF _)
  have hn2:w'.ownsRow (bN+1) 3 1 v es.length xN:=iR n2 λb hb=>h.below.block _ (n2.lt b hb).2
  have zp:RD (λ_ _=>True) w' (.slice .view (ints es)) v:=RD.ofRow (size:=1) (es:=ints es) (by rw[cU];exact hn2) (n3.mono (bg.of_eq λ_ _ h=>h.elim)) λ_ _ _ _=>trivial
  refine Ro h2 q2.2.2 (by rw[q2.1]<;>rfl) (gq (k:=74) (args:=#[v]) w' q2.1 c2.1 ?_ zk) (acV w' (λ_ _=>True) #[v] (hG w w' gD h.below) rfl (λi hi du=>by
   match i,hi with
   |0,_=>exact .data _ _ zp)) ?_
  .rw[c2.2];simp only[aeg,adU,aee];show #[a'.tmps.getD 15 undef]=_;rw[hv]
  intro en w2 hE;obtain⟨hb,cc,rfl,hf⟩:=Ll CM (by rw[uI];exact wi es) (xQ es) hE;refine⟨_,rfl,?_⟩;rw[q2.2.1];exact hK _ _ (h.copy hb hf)
 have row:∀{c a' w' K},L2 a w u v es c 2 a' w'->(∀a' w',L2 a w u v es c 3 a' w'->K a' w')->wpOpIn (FR none) m prog ops Q 3 K a' w':=λ{c a' w' K} h hK=>by
  obtain⟨hi,dh⟩:=h.t16 (adF _);exact zJ h3 q3.2.2 (by rw[q3.1]<;>rfl) (JL q3.1 Ui PG Gw JE rfl (dh.one rfl)) (by rw[q3.2.1];exact hK _ _ h.row)
 have tail:∀{a' w'},L2 a w u v es true 3 a' w'->wpAnyIn (FR none) m prog .any ops Q 2 #[true,true,true,true,false,false] a' w':=λ{a' w'} h=>by
  obtain⟨Qr,abz,FV,zU⟩:=h.t17 (adF _);have h14:=h.t14 rfl;have Xi:=h.t16 zo
  have oB:(a'.tmps.getD 16 undef).oneCell'=true:=by
   obtain⟨hi,dh⟩:=Xi;exact dh.one rfl
  have QH:w'.ownsRow (bF+1) 23 1 u fs.length xF:=iR f2 λb hb=>h.below.block _ (f2.lt b hb).2
  have hle:bF+1<=w'.heap.size:=aet lF h.below.size;refine sO rh ?_;obtain⟨u',w2,b',dE,cZ,Lw,jF,hor⟩:=Ku (P:=prog) (t:=113) (ty:=o4.type) Ui PG Gw (by rw[JE]<;>rfl) JE Yl QH zo hle (ad:=⟨Qr,0,none⟩) (cap:=1) (c:=a'.tmps.getD 16 undef) (by simp[World.cell?,FV]) oB;refine zJ (v:=u') (w':=w2) h4 q4.2.2 (by rw[q4.1]<;>rfl) ?_ ?_
  .have e1:a'.eval (.tmp 14)=u:=h14;have e2:a'.eval (.tmp 17)=.slice (some ⟨Qr,0,none⟩) 1 1:=abz;unfold execOp;simp[q4.1,c4.1,c4.2.1,c4.2.2,resolve,invoke,builtin,e1,e2,dE]
  rw[q4.2.1];show wpAnyIn (FR none) m prog .any ops Q 1 #[true,true,true,true,true,false] (a'.put (some 18) u') w2;refine sO ri ?_
  have hp:=λt (c:Value)=>i_ a' 18 t c (by rw[h.size];omega)
  have uF:u.ownBlock≠some bF:=λe=>by have:=(f2.lt bF e).1;omega
  have ltu:∀b,u.ownBlock=some b->b<w.heap.size:=λb hb=>(f2.lt b hb).2
  have hF2:w2.heap[bF]?=some (.cells #[u] AP (0,0)):=(jF.block bF (aet lF h.below.size) uF).trans ((h.below.block bF lF).trans f1)
  have Z6:u'.oneCell'=true:=by
   rcases cZ.2 with⟨rfl,_⟩|⟨_,_,_,rfl,_⟩<;>rfl
  refine QP h5 q5.2.2 (by rw[q5.1]<;>rfl) (iU q5.1 (by show(a'.put (some 18) u').tmps.getD 4 undef=_;rw[hp,if_neg zd];exact(h.same 4 rfl).trans t4) aam aab hF2 (by show(a'.put (some 18) u').tmps.getD 18 undef=u';rw[hp,if_pos rfl]) Z6) ?_;rw[q5.2.1];refine⟨rj,?_⟩;obtain⟨hi,dh⟩:=Xi
  have U2:∀b,b<w.heap.size->b<w'.heap.size:=λb hb=>aet hb h.below.size
  have sz2:w'.heap.size<=w2.heap.size:=jF.size
  have Y3:(w2.setRow bF #[u']).heap.size=w2.heap.size:=ahB
  have old:∀b,b<w'.heap.size->b≠bF->u.ownBlock≠some b->(w2.setRow bF #[u']).heap[b]?=w'.heap[b]?:=λb hb h1 h2=>(aeO w2 bF b #[u'] h1).trans (jF.block b hb h2)
  have Px:∀b,b<w.heap.size->b≠bF->u.ownBlock≠some b->(w2.setRow bF #[u']).heap[b]?=w.heap[b]?:=λb hb h1 h2=>(old b (U2 b hb) h1 h2).trans (h.below.block b hb)
  have bF':b'≠bF:=λe=>by have:=(cZ.lt b' Lw).1;omega
  refine hk (a'.put (some 18) u') (w2.setRow bF #[u']) (λb k=>Mi b k\/((w.heap.size<=b/\b<w'.heap.size)/\k<hi b)) (by simp[Act.put,h.size]) h.defers (Ek h.same zo _) (λb k hm=>.inl hm) ?_
  have Uh:bg Mi (λb k=>Mi b k\/((w.heap.size<=b/\b<w'.heap.size)/\k<hi b)) w (w2.setRow bF #[u']):=bg.of_eq λb k hm=>⟨.inl hm,Px b (st.lt b k hm) (λe=>st.gF k (e▸hm)) λe=>(f4 b e).2 k hm⟩
  refine⟨?_,st.ge,?_,?_,?_,⟨u',AP,xF++[a'.tmps.getD 16 undef],v,CK,xN,afq w2 bF _ #[u'] AP (0,0) hF2,?_,⟨Kp _,?_⟩,?_,?_,?_,?_,?_⟩,st.s.mono Uh λ_ _ h=>h,st.r.mono Uh λ_ _ h=>h⟩
  .have b1:=st.below.trans (h.below.mono st.below.size);have b2:=b1.trans (jF.below b1.size λb hb=>aeL st.ge.1 (agM (f2.lt b hb).1));refine b2.trans ⟨rfl,rfl,rfl,by rw[Y3];exact adF _,λk hk=>aeO w2 bF k #[u'] λe=>?_⟩;have:=st.ge.1;omega
  .rintro b k (hm|hm)
   .rw[Y3];exact aet (U2 b (st.lt b k hm)) sz2
   .rw[Y3];exact aet hm.1.2 sz2
  .rintro k (hm|hm)
   .exact st.gF k hm
   .have:=hm.1.1;omega
  .rintro k (hm|hm)
   .exact st.gN k hm
   .have:=hm.1.1;omega
  .have e:(fs++[es]).length=fs.length+1:=ahB
   rw[e]
   exact iR cZ λb hb=>aeO w2 bF b #[u'] λe=>bF' (by rw[Lw]at hb;cases hb;exact e)
  .intro j hj k z_
   have Fu:xF.length=fs.length:=by have:=f2.1;simpa using this
   have Ji:k=0:=by
    have h1:=(Kp (fs++[es]) _ (adC hj)).1;omega
   subst Ji;rw[afk,Nat.add_zero]
   by_cases qP:j<fs.length
   .have dZ:j<(fs.map vI).length:=by simpa using qP
    have im:((fs++[es]).map vI)[j]=(fs.map vI)[j]:=by
     rw[adR,adR,ad5 qP]
    obtain⟨x,x1,x2⟩:=f3.2 j dZ 0 (by rw[<-im];exact z_);rw[afk,Nat.add_zero]at x1;refine⟨x,by rw[aeH zo];exact x1,?_⟩;simp only[im];exact x2.mono (bg.of_eq λb k hm=>⟨⟨.inl hm.1,hm.2⟩,Px b (st.lt b k hm.1) (λe=>st.gF k (e▸hm.1)) λe=>(f4 b e).2 k hm.1⟩)
   .have M5:j=fs.length:=by simp at hj;omega
    subst M5;refine⟨a'.tmps.getD 16 undef,by rw[<-Fu];simp,?_⟩
    have im:((fs++[es]).map vI)[fs.length]=vI es:=ahB
    simp only[im];exact dh.mono (bg.of_eq λb k hm=>⟨⟨.inr hm,aeL st.below.size hm.1.1⟩,old b hm.1.2 (λe=>by have:=hm.1.1;omega) λe=>by have:=ltu b e;have:=hm.1.1;omega⟩)
  .intro b hb;rw[Lw]at hb;cases hb;rcases hor with ho|ho
   .refine⟨(f4 b' ho).1,?_⟩;rintro k (hm|hm)
    .exact(f4 b' ho).2 k hm
    .have:=ltu b' ho;have:=hm.1.1;omega
   .refine⟨λe=>by have:=U2 bN lN;omega,?_⟩;rintro k (hm|hm)
    .have:=U2 b' (st.lt b' k hm);omega
    .have:=hm.1.2;omega
  .exact(Px bN lN (λe=>st.ge.2.2 e.symm) λe=>(f4 bN e).1 rfl).trans n1
  .exact iR n2 λb hb=>Px b (n2.lt b hb).2 (n4 b hb).1 (n4 b hb).2.1
  .exact n3.mono (bg.of_eq λ_ _ h=>h.elim)
  .intro b hb;refine⟨(n4 b hb).1,λe=>?_,?_⟩
   .rw[Lw]at e;cases e;rcases hor with ho|ho
    .exact(n4 b' hb).2.1 ho
    .have:=U2 b' (n2.lt b' hb).2;omega
   .rintro k (hm|hm)
    .exact(n4 b hb).2.2 k hm
    .have:=(n2.lt b hb).2;have:=hm.1.1;omega
 have s3:∀{a' w'},L2 a w u v es true 3 a' w'->wpAnyIn (FR none) m prog .any ops Q 2 #[true,true,true,true,false,false] a' w':=tail
 have s2:∀{a' w'},L2 a w u v es true 2 a' w'->wpAnyIn (FR none) m prog .any ops Q 3 #[true,true,true,false,false,false] a' w':=λh=>sO rf (row h λ_ _ h=>s3 h)
 have s1:∀{a' w'},L2 a w u v es true 1 a' w'->wpAnyIn (FR none) m prog .any ops Q 4 #[true,true,false,false,false,false] a' w':=λh=>sO rd (copy h λ_ _ h=>s2 h)
 have p3:∀{a' w'},L2 a w u v es false 3 a' w'->wpAnyIn (FR none) m prog .any ops Q 3 #[false,true,true,true,false,false] a' w':=λh=>sO rg (load h λ_ _ h=>s3 h)
 have p2:∀{a' w'},L2 a w u v es false 2 a' w'->wpAnyIn (FR none) m prog .any ops Q 4 #[false,true,true,false,false,false] a' w':=λh=>CZ re (load h λ_ _ h=>s2 h) (row h λ_ _ h=>p3 h)
 have p1:∀{a' w'},L2 a w u v es false 1 a' w'->wpAnyIn (FR none) m prog .any ops Q 5 #[false,true,false,false,false,false] a' w':=λh=>CZ rc (load h λ_ _ h=>s1 h) (copy h λ_ _ h=>p2 h)
 have s0:∀{a' w'},L2 a w u v es true 0 a' w'->wpAnyIn (FR none) m prog .any ops Q 5 #[true,false,false,false,false,false] a' w':=λh=>sO rb (now h λ_ _ h=>s1 h)
 refine afi de ?_;rw[r0];show wpAnyIn (FR none) m prog .any ops Q 6 #[false,false,false,false,false,false] a { w with drawn:=w.drawn+1 }
 have hL0:L2 a w u v es false 0 a { w with drawn:=w.drawn+1 }:=⟨bl,eR,eI.refl _ _,⟨rfl,rfl,rfl,adF _,λ_ _=>rfl⟩,(λh=>by cases h),λh=>zo,λh=>zo,λh=>zo⟩
 exact CZ ra (load hL0 λ_ _ h=>s0 h) (now hL0 λ_ _ h=>p1 h)
end
end Go.Proofs.Tryz
namespace Go.Proofs.Tryz
open Go Go.AL Go.RowKit Go.Proofs Go.Proofs.Tram
attribute [local simp] ez fF qt oH eM ea eb dG dH eU dI da gZ g_ aF aD ev aP.S aP.H bt au aW AL.start AV.cells AV.storable AV.ct bC cb dU cd HR.okB post cH db c_ AV.out AV.b_ cU d_ fz ia AV.vw cW vI int cy aN di dQ iC jw eP dW bD AV.aI AV.cI
variable{GI:World->Prop}
def mH(n:Int):Prop:=0<=n/\n<100
def Nr(l:List Int):Prop:=∀n∈l,mH n
def Al{l:List Int}(h:Nr l):kQ l:=λn hn=>by have:=h n hn;unfold mH at this;exact⟨this.1,zo⟩
def DK:List UInt8:=[116,114,97,109]
def yw:List UInt8:=[99,101,108,108]
def ep(s:aw):List Int:=[s.pos,s.reach,s.eZ,s.dS]
def jK(s:aw):List UInt8:=fQ DK ((ep s).map aY)
def lk(c:fZ):List (List UInt8):=[aY c.lo,aY c.hi,jb c.hid]
def eD(c:fZ):List UInt8:=fQ yw (lk c)
def bO(s:aw):List (List UInt8):=jK s::s.cells.map eD
def lh(m:Int)(l:List (List UInt8)):List UInt8:=dJ 10 (l++[eC (bo 0 l % m),[]])
def ec(s:aw):List UInt8:=lh 223 (bO s)
def q_(m:Int)(l:List (List UInt8)):lh m l=dF l++eC (bo 0 l % m)++[10]:=by
 have:∀(l:List (List UInt8))(e:List UInt8),dJ 10 (l++[e,[]])=dF l++e++[10]:=by
  intro l
  induction l with
  |nil=>intro e;simp[dJ,dF]
  |cons p l ih=>
   intro e;rw[List.cons_append,fp 10 p ahB,ih e];unfold dF;simp
 exact this l _
structure kK(s:aw):Prop where
 head:Nr (ep s)
 cells:∀c∈s.cells,mH c.lo/\mH c.hi
def U5(hG:ar GI)(l:List Int)(h0:l≠[])(hl:l.length<1000)(h:Nr l):AC prog GI 210 [vI l] (.ret (.slice (.own 9) ((l.map aY).map .str))):=by
 refine AC.ji func210 rfl ntmps210 ahB λcc w=>?_
 refine dT hG c210.qa (λS' H'=>S' 0=vI l) (by simp[c210,af.qa,ah,ae]) ?_;rintro S1 H1 s0;refine dT hG c210.qb.qa (λS' H'=>S' 0=vI l/\S' 3=.slice .nil []) (by simp[c210,af.qa,af.qb,s0,ah,ae]) ?_;rintro S2 H2 ⟨s0,s3⟩;refine dT hG c210.qb.qb.qa (λS' H'=>S' 3=grow 9 ((l.map aY).map AV.str)) ?_ ?_
 .simp[c210,af.qa,af.qb,s0,s3,ah,ae];refine bz 8 l.length (λi S H=>S 6=vI l/\S 7=.int .i64 (l.length:Nat)/\S 8=.int .i64 (i:Nat)/\S 3=grow 9 (((l.take i).map aY).map AV.str)) (λi S H h=>h.2.2.1) ⟨by simp[s0,ah,ae],by simp[s0,ah,ae],by simp[ah,ae],by simp[s3,grow,ah,ae]⟩ ?_;clear s0 s3;rintro i hi S H ⟨s6,s7,s8,s3⟩
  by_cases aq:i<l.length
  case neg=>
   have dk:i=l.length:=zo
   subst dk;rw[adI (adF _)]at s3;simp[s6,s7,s8,s3,grow,h0,ah,ae]
  have hw:IntKind.i64.wrap ((i:Int)+1)=i+1:=aQ zo;have hn:=h _ (adC aq);have a157:=D5 (GI:=GI) hn.1 hn.2
  have ht:(l.take (i+1)).map aY=(l.take i).map aY++[aY l[i]]:=by
   rw[adJ aq,ad6]<;>rfl
  have hlen:((l.take i).map aY).length<=1000:=by simp;omega
  rw[ht]
  generalize(l.take i).map aY=B at*
  generalize aY l[i]=t at*
  have cN:aG 1 [AV.str t]=true:=rfl;simp[s6,s7,s8,s3,aq];refine oc a157 ?_;simp[s6,s7,s8,s3,cN];refine iy (B.map AV.str) (AV.str t) (.own 9) (by simp[s3,grow]) ahB cN (gr B) (by rw[adH];omega) ?_;intro S' sd cz;simp[sd,cz,s6,s7,s8,aq,hw,grow]
 clear s0 s3;rintro S3 H3 s3
 have hg:grow 9 ((l.map aY).map AV.str)=.slice (.own 9) ((l.map aY).map AV.str):=by unfold grow;rw[if_neg (by simpa using h0)]
 rw[hg]at s3;generalize(l.map aY).map AV.str=L at s3⊢;show SW prog GI 19 none (.seq (.region _ _ false) .ret) _ _ _ _
 refine SW.seq (SW.hand hG (p:=0) (lm:=[0,1]) (l2:=[]) (jX:=[]) (oh:=[_,_]) (mw:=[]) rfl rfl rfl rfl zk (λ_ h=>h) (mS:=[]) (mf:=[]) rfl rfl rfl rfl
  (K1:=λS H=>S 3=.slice (.own 9) L) (K2:=λo S H=>o=Old.plain cc w/\S 2=.slice (.own 9) L) (K3:=λo S H=>o=Old.plain cc w/\S 2=.slice (.own 9) L) ?_ ?_ ?_ ?_)
 .exact s3
 .rintro w0 g S H a w' m cm ho R s6;have r6:=R.slot 3 zd (λh=>h);rw[s6]at r6;have bl:=R.size
  obtain⟨c,hc⟩:∃c,a.tmps.getD 3 undef=c:=⟨_,rfl⟩
  rw[hc]at r6;have rv:RD g.Pr w' (.slice .view L) c:=(r6.dX rfl).aI;refine bf rfl rfl zr ((run_move (x:=.tmp 3) w' rfl).trans (congrArg (λv=>Result.ok (Next.value v) w') hc)) ?_;have R1:=R.put 18 (.slice .view L) c zd (.data _ _ rv) trivial
  have yh:(a.put (some 18) c).tmps.getD 18 undef=c:=by simp[Act.put,bl]
  refine bf rfl rfl zr ((run_assign (x:=.tmp 18) w' rfl).trans (congrArg (λv=>Result.ok (Next.value v) w') yh)) ?_;have R2:=R1.put 2 (.slice .view L) c zd (.data _ _ rv) trivial
  have e4:((a.put (some 18) c).put (some 2) c).tmps.getD 2 undef=c:=by simp[Act.put,bl]
  have e6:((a.put (some 18) c).put (some 2) c).tmps.getD 3 undef=a.tmps.getD 3 undef:=by simp[Act.put,adN]
  obtain⟨g',q1,R3⟩:=R2.Ph (t:=3) (u:=2) (e:=9) (es:=L) zd zd zd (by simp[au,s6]) (by rw[e4,e6,hc]);exact⟨g',_,_,R3,by rw[q1];exact ho,aO _ _ _⟩
 .rintro o S H ⟨rfl,s4⟩;exact⟨λ_ h=>h,rfl,s4⟩
 .rintro o S H ⟨rfl,s4⟩;refine SW.ret ⟨eo.plain rfl,rfl,_,?_,rfl⟩;show cH prog 19 [.tmp 2] S H=_;simp[cH,db,c_,s4,AV.b_,AV.out]
def ZC(hG:ar GI)(s:aw)(h:kK s):AC prog GI 209 [bm s] (.ret (strs ((ep s).map aY))):=by
 have a:=AC.nK (U5 hG (ep s) (by simp[ep]) (by simp[ep]) h.head);have gj:aG 1 [AV.int .i64 s.pos,AV.int .i64 s.reach,AV.int .i64 s.eZ,AV.int .i64 s.dS]=true:=rfl;have ha:vI (ep s)=.slice .view [AV.int .i64 s.pos,AV.int .i64 s.reach,AV.int .i64 s.eZ,AV.int .i64 s.dS]:=rfl;rw[ha]at a;unfold strs
 generalize((ep s).map aY).map AV.str=o at*
 refine cw hG func209 ntmps209 c209 ?_;simp[c209,bm,az,ai,gj,ah,ae];refine oc a ?_;simp[ah,ae]
def Yq(hG:ar GI)(c:fZ)(h:mH c.lo/\mH c.hi):AC prog GI 211 [fY c] (.ret (strs (lk c))):=by
 have a:=U5 hG [c.lo,c.hi] ahB ahB (λn hn=>by simp at hn;rcases hn with rfl|rfl;exact h.1;exact h.2);have gj:aG 1 [AV.int .i64 c.lo,AV.int .i64 c.hi]=true:=rfl;have ha:vI [c.lo,c.hi]=.slice .view [AV.int .i64 c.lo,AV.int .i64 c.hi]:=rfl;have hr:(([c.lo,c.hi]:List Int).map aY).map AV.str=[.str (aY c.lo),.str (aY c.hi)]:=rfl;rw[ha,hr]at a
 have cN:∀t,aG 1 [AV.str t]=true:=λ_=>rfl
 have Gu:aG 1 [AV.str (aY c.lo),AV.str (aY c.hi)]=true:=rfl;unfold strs lk
 generalize aY c.lo=t1 at*
 generalize aY c.hi=t2 at*
 refine AC.nK (o:=.own 9) ?_
 cases hh:c.hid with
 |true=>
  refine cw hG func211 ntmps211 c211 ?_;simp[c211,fY,gj,hh,ah,ae];refine oc a ?_;simp[cN,Gu,jb,ah,ae]
 |false=>
  refine cw hG func211 ntmps211 c211 ?_;simp[c211,fY,gj,hh,ah,ae];refine oc a ?_;simp[cN,Gu,jb,ah,ae]
def UN(hG:ar GI):AC prog GI 122 [] (.ret (.agg [.str DK,.str yw])):=by
 obtain⟨i1,QU,yb⟩:=iZ 184 2;obtain⟨d,hd,YD⟩:=adP.1 (show(prog.underlying 184).map eh=some true by kernel_rfl);refine cw hG func122 ntmps122 c122 ?_;simp[c122,bH,QU,yb,hd,YD,DK,yw,ah,ae]
def V0(s:aw)(H:ao):fz H (bm s)=bm s:=by simp[fz,ia,bm,AV.vw,az,ai,AV.cI,vI]
def UC(hG:ar GI)(s:aw)(h:kK s)(hr:(jK s).length<10000):AC prog GI 78 [.iface 120 (bm s)] (.ret (.str (jK s))):=by
 have pn:=UN (GI:=GI) hG;have b:=vf (GI:=GI) (DK::(ep s).map aY) [32] (by simp[ep]) (by rw[iu];show(jK s).length<=_;omega);rw[iu]at b;have b2:AC prog GI 121 [.slice .view (AV.str DK::((ep s).map aY).map AV.str),.str [32]] (.ret (.str (jK s))):=b;have a:=ZC (GI:=GI) hG s h;have cN:aG 1 [AV.str DK]=true:=rfl;have gj:aG 1 (((ep s).map aY).map AV.str)=true:=gr _
 have hlen:1+(((ep s).map aY).map AV.str).length<1048576:=by simp[ep]
 have hf:=V0 s;have hb:cW (bm s)=false:=rfl;have hv:(bm s).vw=bm s:=PB s;unfold strs at a
 generalize jK s=r at*
 generalize((ep s).map aY).map AV.str=W at*
 generalize bm s=V at*
 refine cw hG func78 ntmps78 c78 ?_;simp[c78,ah,ae];refine oc pn ?_;simp[ah,ae,cN];refine mW (t:=120) (v:=V) (r:=.slice .view W) (by simp[ah,ae]) zr hb (hf _) zk a ?_;refine mU [AV.str DK] W .view (by simp[ah,ae,grow]) (by simp[ah,ae]) gj cN hlen ?_;intro S' sd cz;simp[ah,ae,sd,cz,grow];refine oc b2 ?_;simp[ah,ae]
def Uv(hG:ar GI)(c:fZ)(h:mH c.lo/\mH c.hi)(hr:(eD c).length<10000):AC prog GI 78 [.iface 123 (fY c)] (.ret (.str (eD c))):=by
 have pn:=UN (GI:=GI) hG;have b:=vf (GI:=GI) (yw::lk c) [32] (by simp[lk]) (by rw[iu];show(eD c).length<=_;omega);rw[iu]at b;have b2:AC prog GI 121 [.slice .view (AV.str yw::(lk c).map AV.str),.str [32]] (.ret (.str (eD c))):=b;have a:=Yq (GI:=GI) hG c h;have cN:aG 1 [AV.str yw]=true:=rfl;have gj:aG 1 ((lk c).map AV.str)=true:=gr _
 have hlen:1+((lk c).map AV.str).length<1048576:=by simp[lk]
 have hf:∀H,fz H (fY c)=fY c:=λH=>rfl
 have hb:cW (fY c)=false:=rfl;unfold strs at a
 generalize eD c=r at*
 generalize(lk c).map AV.str=W at*
 generalize fY c=V at*
 refine cw hG func78 ntmps78 c78 ?_;simp[c78,ah,ae];refine oc pn ?_;simp[ah,ae,cN];refine mW (t:=123) (v:=V) (r:=.slice .view W) (by simp[ah,ae]) zr hb (hf _) zk a ?_;refine mU [AV.str yw] W .view (by simp[ah,ae,grow]) (by simp[ah,ae]) gj cN hlen ?_;intro S' sd cz;simp[ah,ae,sd,cz,grow];refine oc b2 ?_;simp[ah,ae]
def SB(c:fZ):List AV:=[.int .i64 c.lo,.int .i64 c.hi,.bool c.hid]
def mq(c:fZ):Nat×List AV×List UInt8:=(123,SB c,eD c)
def qV(s:aw):Nat×List AV×List UInt8:=(120,az s,jK s)
def xj{s:aw}(h:kK s):∀p∈bO s,p.length<10000:=by
 intro p hp;rcases ad_.1 hp with rfl|hp
 .exact pf zd (Al h.head) (by simp[ep])
 .obtain⟨c,hc,rfl⟩:=adZ.1 hp;have h1:=(eB (n:=c.lo) ⟨(h.cells c hc).1.1,by have:=(h.cells c hc).1.2;omega⟩).1;have h2:=(eB (n:=c.hi) ⟨(h.cells c hc).2.1,by have:=(h.cells c hc).2.2;omega⟩).1
  have h3:(jb c.hid).length<=3:=by cases c.hid<;>decide
  unfold eD fQ;simp[lk,yw,dJ];omega
def Xl(hG:ar GI)(s:aw)(hN:kK s)(kH:s.cells.length<=900):AC prog GI 33 [bm s] (.ret (.str (ec s))):=by
 have nt:=xj hN
 have uH:(bO s).length<1000:=by unfold bO;simp;omega
 have VG:ec s=lh 223 (bO s):=rfl
 have RS:∀q∈qV s::s.cells.map mq,AC prog GI 78 [ib q] (.ret (.str q.2.2)):=by
  intro q hq;rcases ad_.1 hq with rfl|hq
  .exact UC hG s hN (nt _ (by simp[bO]))
  .obtain⟨c,hc,rfl⟩:=adZ.1 hq;exact Uv hG c (hN.cells c hc) (nt _ (by simp only[bO,ad_,adZ];exact .inr ⟨c,hc,rfl⟩))
 have xA:(qV s::s.cells.map mq).map (·.2.2)=bO s:=by unfold bO;simp;exact⟨rfl,λc _=>rfl⟩
 rw[VG];refine cw hG func33 ntmps33 c33 ?_;refine aK (λS H=>S 1=.box 1 0/\H 1=some (az s)) (by simp[ah,ae,bm,az,ai]) ?_;rintro S H ⟨s1,e1⟩;refine aK (λS H=>S 1=.box 1 0/\H 1=some (az s)/\S 3=grow 125 ([qV s].map ib)) ?_ ?_
 .have bV:∀a:List AV,aG 1 [AV.iface 120 (.agg a)]=true:=λ_=>rfl
  simp[ah,ae,s1,e1,az,ai,bH,bV,grow,ib,qV]
 clear s1 e1 S H;rintro S H ⟨s1,e1,s3⟩;refine aK (λS H=>S 3=grow 125 ((qV s::s.cells.map mq).map ib)) ?_ ?_
 .simp[ah,ae,s1,e1,s3,az,ai];refine bz 19 s.cells.length (λi S H=>S 17=.slice .view (s.cells.map fY)/\S 18=.int .i64 (s.cells.length:Nat)/\S 19=.int .i64 (i:Nat)/\S 3=grow 125 ((qV s::(s.cells.take i).map mq).map ib)) (λi S H h=>h.2.2.1) ⟨by simp[ah,ae,az,ai,s1,e1],by simp[ah,ae,az,ai,s1,e1],by simp[ah,ae],by simp[ah,ae,s3,grow]⟩ ?_;clear s1 e1 s3 S H;rintro i hi S H ⟨kY,kX,rN,s3⟩
  by_cases aq:i<s.cells.length
  case neg=>
   have dk:i=s.cells.length:=zo
   subst dk;rw[adI (adF _)]at s3;simp[ah,ae,kY,kX,rN,s3]
  have hw:IntKind.i64.wrap ((i:Int)+1)=i+1:=aQ zo
  have ht:qV s::(s.cells.take (i+1)).map mq=(qV s::(s.cells.take i).map mq)++[mq s.cells[i]]:=by
   rw[adJ aq,ad6,List.cons_append]<;>rfl
  have hlen:(qV s::(s.cells.take i).map mq).length<=2000:=by simp;omega
  rw[ht]
  generalize qV s::(s.cells.take i).map mq=B at*
  have cN:aG 1 [ib (mq s.cells[i])]=true:=rfl;simp[kY,kX,rN,s3,aq,bH,mq,SB,fY]
  try simp only[mq,SB,ib]at cN
  try simp[kY,kX,rN,s3,aq,bH,cN]
  refine iy (B.map ib) (ib (mq s.cells[i])) (.own 125) (by simp[s3,grow]) (by simp[ib,mq,SB]) rfl (HV B) (by rw[adH];omega) ?_;intro S' sd cz;simp[sd,cz,kY,kX,rN,aq,hw,grow,ib,mq,SB]
 clear s1 e1 s3 S H;rintro S H s3
 generalize hR:qV s::s.cells.map mq=R at*
 have Oh:R≠[]:=by rw[<-hR];simp
 have YC:R.length=(bO s).length:=by rw[<-xA];simp
 have zp:∀i (h:i<R.length)(h':i<(bO s).length),R[i].2.2=(bO s)[i]:=by
  intro i h h'
  have:(R.map (·.2.2))[i]'(by simpa using h)=(bO s)[i]:=by simp only[xA]
  simpa using this
 clear hR hN xA VG
 generalize bO s=l at*
 rw[q_]
 have oG:∀i,(dF (l.take i)).length<=10000*1000:=λi=>by
  have:=td (l:=l.take i) (b:=10000) λx hx=>nt x (aef hx)
  have h2:10000*(l.take i).length<=10000*1000:=afN _ (by rw[adS];omega);omega
 have jJ:∀i,0<=bo 0 (l.take i)/\bo 0 (l.take i)<=25500000000000000:=λi=>by
  have:=mA (l.take i) 0 (by rw[adS];omega) λx hx=>by have:=nt x (aef hx);omega
  rw[adS]at this;omega
 refine aK (λS H=>S 3=grow 125 (R.map ib)/\S 6=.str []/\S 7=.int .i64 0) (by simp[ah,ae,s3]) ?_;clear s3 S H;rintro S H ⟨s3,s6,s7⟩;refine aK (λS H=>S 6=.str (dF l)/\S 7=.int .i64 (bo 0 l)) ?_ ?_
 .simp[ah,ae,s3,s6,s7,grow,Oh];refine bz 32 l.length (λi S H=>S 30=.slice .view (R.map ib)/\S 31=.int .i64 (l.length:Nat)/\S 32=.int .i64 (i:Nat)/\S 6=.str (dF (l.take i))/\S 7=.int .i64 (bo 0 (l.take i))) (λi S H h=>h.2.2.1) ⟨by simp[ah,ae,s3,grow,Oh],by simp[ah,ae,s3,grow,Oh,YC],by simp[ah,ae],by simp[ah,ae,s6,dF],by simp[ah,ae,s7,bo]⟩ ?_;clear s3 s6 s7 S H;rintro i hi S H ⟨pg,jI,kz,s6,s7⟩
  by_cases aq:i<l.length
  case neg=>
   have dk:i=l.length:=zo
   subst dk;rw[adI (adF _)]at s6 s7;simp[ah,ae,pg,jI,kz,s6,s7]
  have CX:i<R.length:=zo
  have hw:IntKind.i64.wrap ((i:Int)+1)=i+1:=aQ zo;have hp:=nt _ (adC aq);have hf:=oG i;have hc:=jJ i;have pn:=RS _ (adC CX);rw[zp i CX aq]at pn;have a2:AC prog GI 78 [.iface R[i].1 (.agg R[i].2.1)] (.ret (.str l[i])):=pn;have vJ:dF (l.take (i+1))=dF (l.take i)++l[i]++[10]:=rp aq;have ve:=pX aq
  have CA:∀k,0<=cP 0 (l[i].take k)/\cP 0 (l[i].take k)<=25500000000:=λk=>by
   have:=lY (l[i].take k) 0 (by rw[adS];omega);rw[adS]at this;omega
  rw[vJ,ve];clear vJ ve pn
  generalize dF (l.take i)=F at*
  generalize bo 0 (l.take i)=c at*
  generalize vj:l[i]=p at*
  refine aK (λS H=>S 30=.slice .view (R.map ib)/\S 31=.int .i64 (l.length:Nat)/\S 32=.int .i64 (i:Nat)/\S 6=.str F/\S 7=.int .i64 c/\S 33=.bool true) (by simp[ah,ae,pg,jI,kz,s6,s7,aq]) ?_;clear pg jI kz s6 s7 S H;rintro S H ⟨pg,jI,kz,s6,s7,yu⟩;refine aK (λS H=>S 30=.slice .view (R.map ib)/\S 31=.int .i64 (l.length:Nat)/\S 32=.int .i64 (i:Nat)/\S 6=.str F/\S 7=.int .i64 c) (by simp[ah,ae,pg,jI,kz,s6,s7,yu]) ?_;clear pg jI kz s6 s7 yu S H;rintro S H ⟨pg,jI,kz,s6,s7⟩;refine aK (λS H=>S 30=.slice .view (R.map ib)/\S 31=.int .i64 (l.length:Nat)/\S 32=.int .i64 (i:Nat)/\S 6=.str (F++p++[10])/\S 7=.int .i64 (c+cP 0 p*(i+1))) ?_ ?_
  .refine mz ?_;refine aK (λS H=>S 30=.slice .view (R.map ib)/\S 31=.int .i64 (l.length:Nat)/\S 32=.int .i64 (i:Nat)/\S 8=.int .i64 (i:Nat)/\S 9=.iface R[i].1 (.agg R[i].2.1)/\S 6=.str F/\S 7=.int .i64 c) (by simp[ah,ae,pg,jI,kz,s6,s7,CX,ib]) ?_;clear pg jI kz s6 s7 S H;rintro S H ⟨pg,jI,kz,s8,s9,s6,s7⟩;refine aK (λS H=>S 30=.slice .view (R.map ib)/\S 31=.int .i64 (l.length:Nat)/\S 32=.int .i64 (i:Nat)/\S 8=.int .i64 (i:Nat)/\S 10=.str p/\S 6=.str F/\S 7=.int .i64 c) ?_ ?_
   .simp[ah,ae,pg,jI,kz,s6,s7,s8,s9];refine oc a2 ?_;simp[ah,ae,pg,jI,kz,s6,s7,s8,s9]
   clear pg jI kz s6 s7 s8 s9 S H;rintro S H ⟨pg,jI,kz,s8,bJ,s6,s7⟩;refine aK (λS H=>S 30=.slice .view (R.map ib)/\S 31=.int .i64 (l.length:Nat)/\S 32=.int .i64 (i:Nat)/\S 10=.str p/\S 6=.str F/\S 7=.int .i64 (c+cP 0 p*(i+1))) ?_ ?_
   .simp[ah,ae,pg,jI,kz,s8,bJ,s6,s7];refine bz 41 p.length (λk S H=>S 30=.slice .view (R.map ib)/\S 31=.int .i64 (l.length:Nat)/\S 32=.int .i64 (i:Nat)/\S 8=.int .i64 (i:Nat)/\S 10=.str p/\S 6=.str F/\S 40=.int .i64 (p.length:Nat)/\S 41=.int .i64 (k:Nat)/\S 7=.int .i64 (c+cP 0 (p.take k)*(i+1))) (λi S H h=>h.2.2.2.2.2.2.2.1) ⟨by simp[ah,ae,pg],by simp[ah,ae,jI],by simp[ah,ae,kz],by simp[ah,ae,s8],by simp[ah,ae,bJ],by simp[ah,ae,s6],by simp[ah,ae,bJ],by simp[ah,ae],by simp[ah,ae,s7,cP]⟩ ?_;clear pg jI kz s8 bJ s6 s7 S H;rintro k hk S H ⟨pg,jI,kz,s8,bJ,s6,N3,M3,s7⟩
    by_cases gE:k<p.length
    case neg=>
     have cz:k=p.length:=zo
     subst cz;rw[adI (adF _)]at s7;simp[ah,ae,pg,jI,kz,s8,bJ,s6,N3,M3,s7]
    have sh:IntKind.i64.wrap ((k:Int)+1)=k+1:=aQ zo;have nN:=CA k;have E1:=sL p[k];rw[rq gE]
    generalize cP 0 (p.take k)=u at*
    generalize OJ:p[k].toNat=y at*
    have ZD:p[k]?=some p[k]:=adB gE;have m1:(y:Int)*(k+1)<=255*10000:=aex zo zo zo zo;have m0:0<=(y:Int)*(k+1):=aes zo zo;have m2:(y:Int)*(k+1)*(i+1)<=2550000*1000:=aex zo zo zo zo;have m3:0<=(y:Int)*(k+1)*(i+1):=aes zo zo;have m4:u*(i+1)<=25500000000*1000:=aex zo zo zo zo;have m5:0<=u*(i+1):=aes zo zo;have w0:IntKind.i64.wrap (y:Int)=y:=aQ zo;have w1:IntKind.i64.wrap ((y:Int)*(k+1))=(y:Int)*(k+1):=aQ zo;have w2:IntKind.i64.wrap ((y:Int)*(k+1)*(i+1))=(y:Int)*(k+1)*(i+1):=aQ zo
    have w3:IntKind.i64.wrap (c+u*(i+1)+(y:Int)*(k+1)*(i+1))=c+(u+(y:Int)*(k+1))*(i+1):=by
     rw[aQ zo,agW];omega
    simp[ah,ae,pg,jI,kz,s8,bJ,s6,N3,M3,s7,gE,OJ,w0,w1,w2,w3,hw,sh]
   clear pg jI kz s8 bJ s6 s7 S H;rintro S H ⟨pg,jI,kz,bJ,s6,s7⟩
   have b0:p.length+1<1073741824:=zo
   have b1:F.length+p.length<1073741824:=zo
   have b2:F.length+p.length+1<1073741824:=zo
   have b3:F.length+(p.length+1)<1073741824:=zo
   simp[ah,ae,pg,jI,kz,bJ,s6,s7,b0,b1,b2,b3]
  clear pg jI kz s6 s7 S H;rintro S H ⟨pg,jI,kz,s6,s7⟩;simp[ah,ae,pg,jI,kz,s6,s7,hw,aq]
 clear s3 s6 s7 S H;rintro S H ⟨s6,s7⟩;have hf:=oG l.length;have hc:=jJ l.length;rw[adI (adF _)]at hf hc
 generalize dF l=F at*
 obtain⟨c,MP⟩:∃c:Nat,bo 0 l=c:=⟨(bo 0 l).toNat,zo⟩
 rw[MP]at s7⊢
 have hm:(c:Int).tmod 223=((c % 223:Nat):Int):=by rw[aen zo];omega
 have uD:(c:Int) % 223=((c % 223:Nat):Int):=zo
 have Sx:c % 223<223:=af3 _ zo;rw[uD]
 generalize c % 223=r at*
 have n1:fg ((r:Int)/100):=⟨zo,zo⟩
 have n2:fg ((r:Int)/10 % 10):=⟨zo,zo⟩
 have n3:fg ((r:Int) % 10):=⟨zo,zo⟩
 have q1:IntKind.i64.wrap ((r:Int)/100)=(r:Int)/100:=aQ zo;have q2:IntKind.i64.wrap ((r:Int)/10)=(r:Int)/10:=aQ zo;have t1:(r:Int).tdiv 100=(r:Int)/100:=aev zo;have t2:(r:Int).tdiv 10=(r:Int)/10:=aev zo;have t3:((r:Int)/10).tmod 10=(r:Int)/10 % 10:=aen zo;have t4:(r:Int).tmod 10=(r:Int) % 10:=aen zo;have a1:=D5 (GI:=GI) (n:=(r:Int)/100) zo zo;have a2:=D5 (GI:=GI) (n:=(r:Int)/10 % 10) zo zo;have a3:=D5 (GI:=GI) (n:=(r:Int) % 10) zo zo;have d1:=(eB n1).1;have d2:=(eB n2).1;have d3:=(eB n3).1;have hE:eC (r:Int)=[101,110,100,32]++aY ((r:Int)/100)++aY ((r:Int)/10 % 10)++aY ((r:Int) % 10):=rfl;rw[hE]
 generalize aY ((r:Int)/100)=u at*
 generalize aY ((r:Int)/10 % 10)=v at*
 generalize aY ((r:Int) % 10)=w at*
 have e1:F.length+(u.length+1+1+1+1)+v.length<1073741824:=zo
 have e2:F.length+(u.length+v.length+1+1+1+1)+w.length<1073741824:=zo
 have e3:F.length+(u.length+(v.length+w.length)+1+1+1+1)+1<1073741824:=zo
 have e4:F.length+(u.length+v.length+w.length+1+1+1+1)+1<1073741824:=zo
 have b1:F.length+4<1073741824:=zo
 have b2:F.length+(u.length+4)<1073741824:=zo
 have b3:F.length+(v.length+u.length+4)<1073741824:=zo
 have b4:F.length+4+u.length<1073741824:=zo
 have b5:F.length+4+u.length+v.length<1073741824:=zo
 have b6:F.length+4+u.length+v.length+w.length<1073741824:=zo
 have b7:F.length+4+u.length+v.length+w.length+1<1073741824:=zo
 refine aK (λS H=>S 6=.str F/\S 7=.int .i64 r) (by simp[ah,ae,s6,s7,hm]) ?_;clear s6 s7 S H;rintro S H ⟨s6,s7⟩;simp[ah,ae,s6,s7,q1,q2,t1,t2,t3,t4,b1];refine oc a1 ?_;simp[ah,ae,s6,s7,q1,q2,t1,t2,t3,t4,b1,b4];refine oc a2 ?_;simp[ah,ae,s6,s7,q1,q2,t1,t2,t3,t4,b1,b4,b5,e1];refine oc a3 ?_;simp[ah,ae,s6,s7,q1,q2,t1,t2,t3,t4,b1,b4,b5,e1,e2,e3,e4]
def Wb(hG:ar GI)(l:List (List UInt8))(hl:l.length<1000)(h:∀p∈l,p.length<10000):AC prog GI 106 [strs l,.int .i64 223] (.ret (.str (lh 223 l))):=by
 rw[q_]
 have oG:∀i,(dF (l.take i)).length<=10000*1000:=λi=>by
  have:=td (l:=l.take i) (b:=10000) λx hx=>h x (aef hx)
  have h2:10000*(l.take i).length<=10000*1000:=afN _ (by rw[adS];omega);omega
 have jJ:∀i,0<=bo 0 (l.take i)/\bo 0 (l.take i)<=25500000000000000:=λi=>by
  have:=mA (l.take i) 0 (by rw[adS];omega) λx hx=>by have:=h x (aef hx);omega
  rw[adS]at this;omega
 refine cw hG func106 ntmps106 c106 ?_;simp[c106,ah,ae];refine bz 7 l.length (λi S H=>S 0=strs l/\S 1=.int .i64 223/\S 7=.int .i64 (i:Nat)/\S 5=.str (dF (l.take i))/\S 6=.int .i64 (bo 0 (l.take i))) (λi S H h=>h.2.2.1) ⟨by simp[ah,ae,strs],by simp[ah,ae],by simp[ah,ae],by simp[ah,ae,dF],by simp[ah,ae,bo]⟩ ?_;rintro i hi S H ⟨s0,s1,s7,s5,s6⟩
 by_cases aq:i<l.length
 case neg=>
  have dk:i=l.length:=zo
  subst dk;rw[adI (adF _)]at s5 s6;have hf:=oG l.length;have hc:=jJ l.length;rw[adI (adF _)]at hf hc
  generalize dF l=F at*
  obtain⟨c,MP⟩:∃c:Nat,bo 0 l=c:=⟨(bo 0 l).toNat,zo⟩
  rw[MP]at s6⊢
  have hm:(c:Int).tmod 223=((c % 223:Nat):Int):=by rw[aen zo];omega
  have uD:(c:Int) % 223=((c % 223:Nat):Int):=zo
  have Sx:c % 223<223:=af3 _ zo;rw[uD]
  generalize c % 223=r at*
  have n1:fg ((r:Int)/100):=⟨zo,zo⟩
  have n2:fg ((r:Int)/10 % 10):=⟨zo,zo⟩
  have n3:fg ((r:Int) % 10):=⟨zo,zo⟩
  have q1:IntKind.i64.wrap ((r:Int)/100)=(r:Int)/100:=aQ zo;have q2:IntKind.i64.wrap ((r:Int)/10)=(r:Int)/10:=aQ zo;have t1:(r:Int).tdiv 100=(r:Int)/100:=aev zo;have t2:(r:Int).tdiv 10=(r:Int)/10:=aev zo;have t3:((r:Int)/10).tmod 10=(r:Int)/10 % 10:=aen zo;have t4:(r:Int).tmod 10=(r:Int) % 10:=aen zo;have a1:=vx hG n1;have a2:=vx hG n2;have a3:=vx hG n3;have d1:=(eB n1).1;have d2:=(eB n2).1;have d3:=(eB n3).1;have hE:eC (r:Int)=[101,110,100,32]++aY ((r:Int)/100)++aY ((r:Int)/10 % 10)++aY ((r:Int) % 10):=rfl;rw[hE]
  generalize aY ((r:Int)/100)=u at*
  generalize aY ((r:Int)/10 % 10)=v at*
  generalize aY ((r:Int) % 10)=w at*
  have e1:F.length+(u.length+1+1+1+1)+v.length<1073741824:=zo
  have e2:F.length+(u.length+v.length+1+1+1+1)+w.length<1073741824:=zo
  have e3:F.length+(u.length+(v.length+w.length)+1+1+1+1)+1<1073741824:=zo
  have e4:F.length+(u.length+v.length+w.length+1+1+1+1)+1<1073741824:=zo
  have b1:F.length+4<1073741824:=zo
  have b2:F.length+(u.length+4)<1073741824:=zo
  have b3:F.length+(v.length+u.length+4)<1073741824:=zo
  have b4:F.length+4+u.length<1073741824:=zo
  have b5:F.length+4+u.length+v.length<1073741824:=zo
  have b6:F.length+4+u.length+v.length+w.length<1073741824:=zo
  have b7:F.length+4+u.length+v.length+w.length+1<1073741824:=zo
  simp[ah,ae,s0,s1,s7,s5,s6,strs,hm,uD,q1,q2,t1,t2,t3,t4,b1];refine oc a1 ?_;simp[ah,ae,s0,s1,s7,s5,s6,strs,hm,uD,q1,q2,t1,t2,t3,t4,b1,b4];refine oc a2 ?_;simp[ah,ae,s0,s1,s7,s5,s6,strs,hm,uD,q1,q2,t1,t2,t3,t4,b1,b4,b5,e1];refine oc a3 ?_;simp[ah,ae,s0,s1,s7,s5,s6,strs,hm,uD,q1,q2,t1,t2,t3,t4,b1,b4,b5,e1,e2,e3,e4]
 have hw:IntKind.i64.wrap ((i:Int)+1)=i+1:=aQ zo;have hp:=h _ (adC aq);have hf:=oG i;have hc:=jJ i;have vJ:dF (l.take (i+1))=dF (l.take i)++l[i]++[10]:=rp aq;have ve:=pX aq
 have CA:∀k,0<=cP 0 (l[i].take k)/\cP 0 (l[i].take k)<=25500000000:=λk=>by
  have:=lY (l[i].take k) 0 (by rw[adS];omega);rw[adS]at this;omega
 rw[vJ,ve];clear vJ ve
 generalize dF (l.take i)=F at*
 generalize bo 0 (l.take i)=c at*
 have im:(l.map AV.str)[i]?=some (.str l[i]):=by rw[ad9,adB aq]<;>rfl
 generalize vj:l[i]=p at*
 refine aK (λS H=>S 0=strs l/\S 1=.int .i64 223/\S 7=.int .i64 (i:Nat)/\S 5=.str F/\S 6=.int .i64 c) (by simp[ah,ae,s0,s1,s7,s5,s6,strs,aq]) ?_;clear s0 s1 s7 s5 s6 S H;rintro S H ⟨s0,s1,s7,s5,s6⟩;refine aK (λS H=>S 0=strs l/\S 1=.int .i64 223/\S 7=.int .i64 (i:Nat)/\S 5=.str (F++p++[10])/\S 6=.int .i64 (c+cP 0 p*(i+1))) ?_ ?_
 .refine mz ?_;refine aK (λS H=>S 0=strs l/\S 1=.int .i64 223/\S 7=.int .i64 (i:Nat)/\S 5=.str F/\S 6=.int .i64 (c+cP 0 p*(i+1))) ?_ ?_
  .simp[ah,ae,s0,s1,s7,s5,s6];refine bz 8 p.length (λk S H=>S 0=strs l/\S 1=.int .i64 223/\S 7=.int .i64 (i:Nat)/\S 5=.str F/\S 8=.int .i64 (k:Nat)/\S 6=.int .i64 (c+cP 0 (p.take k)*(i+1))) (λi S H h=>h.2.2.2.2.1) ⟨by simp[ah,ae,s0],by simp[ah,ae,s1],by simp[ah,ae,s7],by simp[ah,ae,s5],by simp[ah,ae],by simp[ah,ae,s6,cP]⟩ ?_;clear s0 s1 s7 s5 s6 S H;rintro k hk S H ⟨s0,s1,s7,s5,s8,s6⟩
   by_cases gE:k<p.length
   case neg=>
    have cz:k=p.length:=zo
    subst cz;rw[adI (adF _)]at s6;simp[ah,ae,s0,s1,s7,s5,s8,s6,strs,aq,vj]
   have sh:IntKind.i64.wrap ((k:Int)+1)=k+1:=aQ zo;have nN:=CA k;have E1:=sL p[k];rw[rq gE]
   generalize cP 0 (p.take k)=u at*
   generalize OJ:p[k].toNat=y at*
   have ZD:p[k]?=some p[k]:=adB gE;have m1:(y:Int)*(k+1)<=255*10000:=aex zo zo zo zo;have m0:0<=(y:Int)*(k+1):=aes zo zo;have m2:(y:Int)*(k+1)*(i+1)<=2550000*1000:=aex zo zo zo zo;have m3:0<=(y:Int)*(k+1)*(i+1):=aes zo zo;have m4:u*(i+1)<=25500000000*1000:=aex zo zo zo zo;have m5:0<=u*(i+1):=aes zo zo;have w0:IntKind.i64.wrap (y:Int)=y:=aQ zo;have w1:IntKind.i64.wrap ((y:Int)*(k+1))=(y:Int)*(k+1):=aQ zo;have w2:IntKind.i64.wrap ((y:Int)*(k+1)*(i+1))=(y:Int)*(k+1)*(i+1):=aQ zo
   have w3:IntKind.i64.wrap (c+u*(i+1)+(y:Int)*(k+1)*(i+1))=c+(u+(y:Int)*(k+1))*(i+1):=by
    rw[aQ zo,agW];omega
   simp[ah,ae,s0,s1,s7,s5,s8,s6,strs,aq,vj,gE,OJ,w0,w1,w2,w3,hw,sh]
  clear s0 s1 s7 s5 s6 S H;rintro S H ⟨s0,s1,s7,s5,s6⟩
  have b1:F.length+p.length<1073741824:=zo
  have b2:F.length+p.length+1<1073741824:=zo
  have b3:F.length+(p.length+1)<1073741824:=zo
  simp[ah,ae,s0,s1,s7,s5,s6,strs,aq,vj,b1,b2,b3]
 clear s0 s1 s7 s5 s6 S H;rintro S H ⟨s0,s1,s7,s5,s6⟩;simp[ah,ae,s0,s1,s7,s5,s6,strs,hw,aq]
def AD(b:Bool):List UInt8:=32::jb b
def Lr(c:fZ):eD c=fQ yw ([c.lo,c.hi].map aY)++AD c.hid:=by
 unfold eD fQ lk AD;simp[dJ]
def Bj{c:fZ}(h:mH c.lo/\mH c.hi):(eD c).length<=100:=by
 have h1:=(eB (n:=c.lo) ⟨h.1.1,by have:=h.1.2;omega⟩).1;have h2:=(eB (n:=c.hi) ⟨h.2.1,by have:=h.2.2;omega⟩).1
 have h3:(jb c.hid).length<=3:=by cases c.hid<;>decide
 unfold eD fQ;simp[lk,yw,dJ];omega
def abQ(hG:ar GI)(s:aw)(hN:kK s)(kH:s.cells.length<=900):AC prog GI 46 [bm s] (.ret (.str (ec s))):=by
 have uH:(bO s).length<1000:=by unfold bO;simp;omega
 have aS:=Wb hG (bO s) uH (xj hN);have aH:=zV (GI:=GI) hG DK (ep s) zd (by simp[ep]) (Al hN.head);have aH:AC prog GI 105 [.str [116,114,97,109],.slice .view [AV.int .i64 s.pos,AV.int .i64 s.reach,AV.int .i64 s.eZ,AV.int .i64 s.dS]] (.ret (.str (jK s))):=aH;have aS:AC prog GI 106 [.slice .view (((jK s)::s.cells.map eD).map AV.str),.int .i64 223] (.ret (.str (ec s))):=aS;have Ln:aG 1 [AV.int .i64 s.pos,AV.int .i64 s.reach,AV.int .i64 s.eZ,AV.int .i64 s.dS]=true:=rfl
 generalize ec s=T at*
 generalize jK s=HT at*
 clear uH
 have cN:∀t,aG 1 [AV.str t]=true:=λ_=>rfl
 refine cw hG func46 ntmps46 c46 ?_;refine aK (λS H=>S 1=.box 1 0/\H 1=some (az s)) (by simp[ah,ae,bm,az,ai]) ?_;rintro S H ⟨s1,h1⟩;refine aK (λS H=>S 1=.box 1 0/\H 1=some (az s)/\S 3=grow 9 [.str HT]) ?_ ?_
 .simp[ah,ae,s1,h1,az,ai,Ln];refine oc aH ?_;simp[ah,ae,s1,h1,az,ai,cN,grow]
 clear s1 h1 S H;rintro S H ⟨s1,h1,s3⟩;refine aK (λS H=>S 3=grow 9 ((HT::s.cells.map eD).map AV.str)) ?_ ?_
 .simp[ah,ae,s1,h1,s3];refine bz 4 s.cells.length (λi S H=>S 1=.box 1 0/\H 1=some (az s)/\S 4=.int .i64 (i:Nat)/\S 3=grow 9 ((HT::(s.cells.take i).map eD).map AV.str)) (λi S H h=>h.2.2.1) ⟨by simp[ah,ae,s1],by simp[ah,ae,h1],by simp[ah,ae],by simp[ah,ae,s3,grow]⟩ ?_;clear s1 h1 s3 S H;rintro i hi S H ⟨s1,h1,s4,s3⟩
  by_cases aq:i<s.cells.length
  case neg=>
   have dk:i=s.cells.length:=zo
   subst dk;rw[adI (adF _)]at s3;simp[ah,ae,s1,h1,s4,s3,az,ai]
  have hw:IntKind.i64.wrap ((i:Int)+1)=i+1:=aQ zo
  obtain⟨c,hc⟩:∃c,s.cells[i]=c:=⟨_,rfl⟩
  have As:=hN.cells _ (adC aq);rw[hc]at As
  have ht:HT::(s.cells.take (i+1)).map eD=(HT::(s.cells.take i).map eD)++[eD c]:=by
   rw[adJ aq,ad6,List.cons_append,hc]<;>rfl
  have hlen:(HT::(s.cells.take i).map eD).length<=2000:=by simp;omega
  have aR:=zV (GI:=GI) hG yw [c.lo,c.hi] zd ahB (Al λn hn=>by simp at hn;rcases hn with rfl|rfl;exact As.1;exact As.2);have aR:AC prog GI 105 [.str [99,101,108,108],.slice .view [AV.int .i64 c.lo,AV.int .i64 c.hi]] (.ret (.str (fQ yw ([c.lo,c.hi].map aY)))):=aR;have lE:=Lr c;have XA:=Bj As;rw[ht];rw[lE]at XA⊢
  generalize fQ yw ([c.lo,c.hi].map aY)=RT at*
  generalize HT::(s.cells.take i).map eD=B at*
  have gj:aG 1 [AV.int .i64 c.lo,AV.int .i64 c.hi]=true:=rfl;refine aK (λS H=>S 1=.box 1 0/\H 1=some (az s)/\S 4=.int .i64 (i:Nat)/\S 3=grow 9 (B.map AV.str)) (by simp[ah,ae,s1,h1,s4,s3,aq,az,ai]) ?_;clear s1 h1 s4 s3 S H;rintro S H ⟨s1,h1,s4,s3⟩;refine aK (λS H=>S 1=.box 1 0/\H 1=some (az s)/\S 4=.int .i64 (i:Nat)/\S 3=grow 9 ((B++[RT++AD c.hid]).map AV.str)) ?_ ?_
  .refine mz ?_;refine aK (λS H=>S 1=.box 1 0/\H 1=some (az s)/\S 4=.int .i64 (i:Nat)/\S 3=grow 9 (B.map AV.str)/\S 5=.str [32,110,111]) (by simp[ah,ae,s1,h1,s4,s3]) ?_;clear s1 h1 s4 s3 S H;rintro S H ⟨s1,h1,s4,s3,s5⟩;refine aK (λS H=>S 1=.box 1 0/\H 1=some (az s)/\S 4=.int .i64 (i:Nat)/\S 3=grow 9 (B.map AV.str)/\S 5=.str (AD c.hid)) ?_ ?_
   .cases hh:c.hid<;>simp[ah,ae,s1,h1,s4,s3,s5,az,ai,fY,aq,hc,hh,AD,jb]
   clear s1 h1 s4 s3 s5 S H;rintro S H ⟨s1,h1,s4,s3,s5⟩
   generalize AD c.hid=tw at*
   have Ir:RT.length+tw.length<1073741824:=by rw[adV]at XA;omega
   simp[s1,h1,s4,s3,s5,az,ai,fY,aq,hc,gj];refine oc aR ?_;simp[s1,h1,s4,s3,s5,az,ai,fY,aq,hc,cN,Ir];refine kT (B.map AV.str) (AV.str (RT++tw)) (.own 9) (by simp[s3,grow]) ahB rfl (gr B) (by rw[adH];omega) ?_;intro S' sd cz;simp[sd,cz,s1,h1,s4,az,ai,grow]
  clear s1 h1 s4 s3 S H;rintro S H ⟨s1,h1,s4,s3⟩;simp[ah,ae,s1,h1,s4,s3,hw,aq]
 clear s1 h1 s3 S H;rintro S H s3;have hg:grow 9 ((HT::s.cells.map eD).map AV.str)=.slice (.own 9) ((HT::s.cells.map eD).map AV.str):=rfl;rw[hg]at s3
 generalize(HT::s.cells.map eD).map AV.str=L at*
 simp[ah,ae,s3];refine oc aS ?_;simp[ah,ae]
def eF(s:aw):List UInt8:=ec s++fS s.name
def acJ(hG:ar GI)(s:aw)(hN:kK s)(kH:s.cells.length<=900)(hNn:qH s.name)(hf:O1 s.name)(hl:(eF s).length<1000000):AC prog GI 12 [bm s] (.ret (.str (eF s))):=by
 have a1:=abQ hG s hN kH;have a2:=acm (GI:=GI) hG s.name hNn hf;unfold eF at hl⊢;rw[adV]at hl
 generalize ec s=t1 at*
 generalize fS s.name=t2 at*
 have o_:t1.length+t2.length<1073741824:=zo
 refine cw hG func12 ntmps12 c12 ?_;simp[c12,bm,az,ai,ah,ae];refine oc a1 ?_;simp[ah,ae];refine oc a2 ?_;simp[o_,ah,ae]
end Go.Proofs.Tryz
namespace Go.Proofs.Tryz
open Go Go.AL Go.RowKit Go.Proofs Go.Proofs.Tram
section
variable{H:Type}{enc:TypeId×Value->H}{w:World}{held:Bool}
def T0:Nat->Nat->Prop:=λ_ _=>True
def qC(w:World)(l:List AV)(cs:List Value):Prop:=l.length=cs.length/\∀i (h:i<l.length)(h':i<cs.length),(l[i]).one=true/\RD T0 w l[i] cs[i]
def mV(enc:TypeId×Value->H)(w:World)(held:Bool)(t:TypeId){α:Type}(f:α->List AV)(Ed:α->Prop):Prop:=
 ∀(fuel:Nat)(cs:List Value)(x:DataW H×List MemPlace),DataW.trod enc prog w 0 (λ_=>true) held fuel t cs=some x->∃a,Ed a/\qC w (f a) cs
def nu(n:Int):Prop:= -9223372036854775808<=n/\n<9223372036854775808
def MM{t:TypeId}(ht:prog.underlying t=some (.int .i64)):mV enc w held t (λn:Int=>[.int .i64 n]) nu:=by
 intro fuel cs x h;obtain⟨n,rfl,_,hw⟩:=DataW.trod_int ht h;refine⟨n,?_,rfl,λi hi du=>?_⟩
 .simp only[Lit.wf,adE,adL]at hw
  have h1:IntKind.i64.min= -9223372036854775808:=zk
  have h2:IntKind.i64.max=9223372036854775807:=zk
  rw[h1,h2]at hw;exact⟨hw.1,zo⟩
 .match i,hi with
  |0,_=>exact⟨rfl,.int _ _⟩
def Bs{t:TypeId}(ht:prog.underlying t=some .bool):mV enc w held t (λb:Bool=>[.bool b]) (λ_=>True):=by
 intro fuel cs x h;obtain⟨b,rfl,_⟩:=DataW.trod_bool ht h;refine⟨b,trivial,rfl,λi hi du=>?_⟩
 match i,hi with
 |0,_=>exact⟨rfl,.bool _⟩
def zH{α:Type}{p:Nat->α->Prop}:∀(n:Nat),(∀i,i<n->∃a,p i a)->∃l:List α,l.length=n/\∀i (h:i<l.length),p i l[i]
 |0,_=>⟨[],rfl,λi h=>by simp at h⟩
 |n+1,h=>by
  obtain⟨l,hl,hp⟩:=zH n λi hi=>h i zo
  obtain⟨a,ha⟩:=h n zo;refine⟨l++[a],by simp[hl],λi hi=>?_⟩
  by_cases mu:i<l.length
  .rw[ad5 mu];exact hp i mu
  .have:i=n:=by simp at hi;omega
   subst this;rw[aec zo];simpa[hl]using ha
def NW{w:World}{a:Addr}{v:Value}(h:w.cell? a=some v):a=⟨a.block,a.off,none⟩:=by
 obtain⟨b,o,s⟩:=a;unfold World.cell? at h
 cases s with
 |none=>rfl
 |some s=>
  simp at h
  split at h<;>simp at h
def qh {t e:TypeId} {α:Type} {f:α→List AV} {Ed:α→Prop} (mk:α→AV) (hmk:∀ a,(mk a).cells=f a) (ht:prog.underlying t=some (.slice e)) (iJ:0 < prog.cellsOf e) (he:mV enc w held e f Ed) :
  mV enc w held t (λl:List α=>[.slice .view (l.map mk)]) (λl=>∀a∈l,Ed a):=by
 intro fuel cs x h
 rcases DataW.trod_slice ht h with⟨rfl,_⟩|⟨a,len,cap,elems,rest,n,_,rfl,_,_,hlc,wP,hlen,Es,kV,_⟩
 .refine⟨[],ahB,rfl,λi hi du=>?_⟩
  match i,hi with
  |0,_=>exact⟨rfl,.iB _⟩
 .obtain⟨size,lC⟩:∃size,prog.cellsOf e=size:=⟨_,rfl⟩
  rw[lC]at iJ Es kV;obtain⟨xA,HB⟩:=kV rfl
  by_cases fl:cap=0
  .subst fl
   have wK:len=0:=zo
   subst wK;refine⟨[],ahB,rfl,λi hi du=>?_⟩
   match i,hi with
   |0,_=>exact⟨rfl,.jz _ _⟩
  have nH:∃i fX,w.cells? 0 (a.add (i*size)) size=some fX/\i=0:=by
   by_cases wK:len=0
   .subst wK;have h0:=HB 0 zo;rw[adB zo,ae7]at h0;obtain⟨fX,h1,_⟩:=h0;exact⟨0,fX,by simpa using h1,rfl⟩
   .have h0:=Es 0 zo;rw[adB zo,ae7]at h0;obtain⟨fX,h1,_⟩:=h0;exact⟨0,fX,h1,rfl⟩
  obtain⟨_,cs0,Pu,rfl⟩:=nH;rw[Nat.zero_mul,show a.add 0=a by simp[Addr.add]]at Pu;have LY:=(World.cells?_some Pu).2.2 0 zo;rw[show a.add 0=a by simp[Addr.add]]at LY;have wK:=(World.cells?_some Pu).2.1;rw[adB zo]at LY
  obtain⟨b,off,rfl⟩:∃b off,a=⟨b,off,none⟩:=⟨_,_,NW LY⟩
  clear LY Pu wK cs0 HB kV
  obtain⟨l,hl,hp⟩:=zH (p:=λi (v:α)=>Ed v/\∃fX,w.cells? 0 ((⟨b,off,none⟩:Addr).add (i*size)) size=some fX/\qC w (f v) fX) len λi hi=>by
   have h0:=Es i hi;rw[adB zo,ae7]at h0;obtain⟨fX,h1,h2⟩:=h0;obtain⟨v,hv,hc⟩:=he _ _ _ h2;exact⟨v,hv,fX,h1,hc⟩
  refine⟨l,λv hv=>?_,rfl,λi hi du=>?_⟩
  .obtain⟨i,hi,rfl⟩:=aer hv;exact(hp i hi).1
  .have J':i=0:=by simpa using hi
   subst J';refine⟨rfl,?_⟩;show RD T0 w (.slice .view (l.map mk)) (.slice (some ⟨b,off,none⟩) len cap)
   have yl:len=(l.map mk).length:=by simp[hl]
   have L0:∀i (h:i<(l.map mk).length),((l.map mk)[i]).cells=f (l[i]'(by simpa using h)):=λi h=>by rw[adR];exact hmk _
   have key:∀m,m=(l.map mk).length->RD T0 w (.slice .view (l.map mk)) (.slice (some ⟨b,off,none⟩) m cap):=?_
   .exact key _ yl
   rintro m rfl
   have eO:∀i (h:i<l.length) j,j<size->∃fX,qC w (f l[i]) fX/\fX.length=size/\w.cell? ⟨b,off+(i*size+j),none⟩=fX[j]?:=by
    intro i h j hj;obtain⟨_,fX,h1,h2⟩:=hp i h;obtain⟨_,h3,h4⟩:=World.cells?_some h1;have h5:=h4 j hj;rw[aeA,aeA,afQ]at h5;exact⟨fX,h2,h3,h5⟩
   have TM:∀i (h:i<l.length),(f l[i]).length=size:=by
    intro i h;obtain⟨fX,h1,h2,_⟩:=eO i h 0 iJ;rw[h1.1,h2]
   refine .slice .view (l.map mk) b off cap size (λk=>(w.cell? ⟨b,off+k,none⟩).getD undef) (by rw[<-yl];exact hlc) (λh=>by cases h) (λi h=>by rw[L0];exact TM _ _) (λi h j hj=>?_) (λk hk=>⟨trivial,?_⟩) (λi h j hj=>?_)
   .have dk:i<l.length:=by simpa using h
    have dZ:j<(f l[i]).length:=by rw[L0]at hj;exact hj
    have ZP:j<size:=by rw[TM]at dZ;exact dZ
    obtain⟨fX,h1,h2,_⟩:=eO i dk j ZP
    have e:((l.map mk)[i]).cells[j]=(f l[i])[j]:=by simp only[L0]
    rw[e];exact(h1.2 j dZ zo).1
   .have cz:k<l.length*size:=by simpa using hk
    have hi:k/size<l.length:=Nat.div_lt_of_lt_mul (by rw[afs];exact cz);have hj:k % size<size:=af3 _ iJ;obtain⟨fX,h1,h2,h3⟩:=eO (k/size) hi (k % size) hj
    have e:k/size*size+k % size=k:=by rw[afs];exact agD k size
    rw[e,adB zo]at h3;rw[h3];rfl
   .have dk:i<l.length:=by simpa using h
    have dZ:j<(f l[i]).length:=by rw[L0]at hj;exact hj
    have ZP:j<size:=by rw[TM]at dZ;exact dZ
    obtain⟨fX,h1,h2,h3⟩:=eO i dk j ZP;rw[adB zo]at h3
    have e:((l.map mk)[i]).cells[j]=(f l[i])[j]:=by simp only[L0]
    rw[e,h3];exact(h1.2 j dZ zo).2
def fieldsOf:TypeDesc->Option (List (TypeId×Nat))
 |.struct fs=>some (fs.toList.map λf=>(f.type,f.offset))
 |_=>none
def l0 {t:TypeId} {B2:List (TypeId×Nat)} (hf:(prog.underlying t).bind fieldsOf=some B2) {fuel:Nat} {cs:List Value} {x:DataW H×List MemPlace} (h:DataW.trod enc prog w 0 (fun _=>true) held fuel t cs=some x) :
  cs.length=prog.cellsOf t/\∀(i t' o:Nat),B2[i]?=some (t',o)->∃n x',DataW.trod enc prog w 0 (λ_=>true) held n t' ((cs.drop o).take (prog.cellsOf t'))=some x':=by
 cases hu:prog.underlying t with
 |none=>rw[hu]at hf;cases hf
 |some d=>
  rw[hu]at hf
  cases d<;>first|(cases hf;done)|skip
  rename_i fs;simp only[Option.bind_some,fieldsOf,ad8]at hf;obtain⟨xs,n,_,_,hl,Fu,eH⟩:=DataW.trod_struct hu h;refine⟨hl,λi t' o hi=>?_⟩;rw[<-hf,ad9,adP]at hi;obtain⟨f,ZH,e⟩:=hi;cases e
  have W5:fs[i]?=some f:=by rw[<-aeQ];exact ZH
  have:=eH i f W5;have aq:i<fs.size:=(adD.1 W5).1;rw[adB zo]at this;exact⟨n,_,this⟩
def qC.append{l1 l2:List AV}{c1 c2:List Value}(h1:qC w l1 c1)(h2:qC w l2 c2):qC w (l1++l2) (c1++c2):=by
 refine⟨by simp[h1.1,h2.1],λi h h'=>?_⟩
 by_cases hi:i<l1.length
 .rw[ad5 hi,ad5 (by rw[<-h1.1];exact hi)];exact h1.2 i hi _
 .rw[aec zo,aec (by rw[<-h1.1];omega)];have:=h1.1;simp only[this];exact h2.2 _ _ _
def AU(p:kM):Prop:=nu p.l/\nu p.r/\nu p.lo/\nu p.hi
def AG(w:Word):Prop:=(∀n∈w.aV,nu n)/\∀n∈w.bZ,nu n
structure EU(s:aJ):Prop where
 aM:∀n∈s.aM,nu n
 aL:∀p∈s.aL,AU p
 gk:nu s.gk
 gl:nu s.gl
 js:nu s.js
 jr:nu s.jr
 ck:nu s.ck
 words:∀w∈s.words,AG w
 wide:nu s.wide
 rows:nu s.rows
def UQ:prog.cellsOf 3=1:=by kernel_rfl
def co4:prog.cellsOf 4=1:=by kernel_rfl
def WS:prog.cellsOf 23=1:=by kernel_rfl
def abV:prog.cellsOf 24=1:=by kernel_rfl
def PI:prog.cellsOf 26=2:=by kernel_rfl
def abX:prog.cellsOf 27=1:=by kernel_rfl
def WL:prog.cellsOf 29=10:=by kernel_rfl
def XH:prog.cellsOf 48=3:=by kernel_rfl
def Tr:prog.cellsOf 141=4:=by kernel_rfl
def u3:prog.underlying 3=some (.int .i64):=by kernel_rfl
def lW:mV enc w held 3 (λn:Int=>[.int .i64 n]) nu:=MM u3
def Dw:mV enc w held 23 (λl:List Int=>[vI l]) (λl=>∀n∈l,nu n):=
 qh (e:=3) (λn:Int=>.int .i64 n) (λ_=>rfl) zk (by rw[UQ];omega) lW
def yC:mV enc w held 26 (λp:Int×Int=>[.int .i64 p.1,.int .i64 p.2]) (λp=>nu p.1/\nu p.2):=by
 intro fuel cs x h;obtain⟨hl,hf⟩:=l0 (B2:=[(3,0),(3,1)]) zk h;rw[PI]at hl
 match cs,hl with
 |[x0,x1],_=>
  obtain⟨_,_,h0⟩:=hf 0 3 0 rfl;obtain⟨_,_,h1⟩:=hf 1 3 1 rfl;rw[UQ]at h0 h1;obtain⟨a,ga,ra⟩:=lW _ _ _ h0;obtain⟨b,gb,rb⟩:=lW _ _ _ h1;exact⟨(a,b),⟨ga,gb⟩,ra.append rb⟩
def Qv:mV enc w held 141 (λp:kM=>(dP p).cells) AU:=by
 intro fuel cs x h;obtain⟨hl,hf⟩:=l0 (B2:=[(3,0),(3,1),(26,2)]) zk h;rw[Tr]at hl
 match cs,hl with
 |[x0,x1,x2,x3],_=>
  obtain⟨_,_,h0⟩:=hf 0 3 0 rfl;obtain⟨_,_,h1⟩:=hf 1 3 1 rfl;obtain⟨_,_,h2⟩:=hf 2 26 2 rfl;rw[UQ]at h0 h1;rw[PI]at h2;obtain⟨a,ga,ra⟩:=lW _ _ _ h0;obtain⟨b,gb,rb⟩:=lW _ _ _ h1;obtain⟨c,gc,rc⟩:=yC _ _ _ h2;exact⟨⟨a,b,c.1,c.2⟩,⟨ga,gb,gc.1,gc.2⟩,ra.append (rb.append rc)⟩
def Sz:mV enc w held 24 (λl:List kM=>[.slice .view (l.map dP)]) (λl=>∀p∈l,AU p):=
 qh (e:=141) dP (λ_=>rfl) zk (by rw[Tr];omega) Qv
def T1:mV enc w held 48 (λx:Word=>(cG x).cells) AG:=by
 intro fuel cs x h;obtain⟨hl,hf⟩:=l0 (B2:=[(23,0),(23,1),(4,2)]) zk h;rw[XH]at hl
 match cs,hl with
 |[x0,x1,x2],_=>
  obtain⟨_,_,h0⟩:=hf 0 23 0 rfl;obtain⟨_,_,h1⟩:=hf 1 23 1 rfl;obtain⟨_,_,h2⟩:=hf 2 4 2 rfl;rw[WS]at h0 h1;rw[co4]at h2;obtain⟨a,ga,ra⟩:=Dw _ _ _ h0;obtain⟨b,gb,rb⟩:=Dw _ _ _ h1;obtain⟨c,_,rc⟩:=Bs (t:=4) zk _ _ _ h2;exact⟨⟨a,b,c⟩,⟨ga,gb⟩,ra.append (rb.append rc)⟩
def SR:mV enc w held 27 (λl:List Word=>[.slice .view (l.map cG)]) (λl=>∀x∈l,AG x):=
 qh (e:=48) cG (λ_=>rfl) zk (by rw[XH];omega) T1
def T':mV enc w held 29 ai EU:=by
 intro fuel cs x h;obtain⟨hl,hf⟩:=l0 (B2:=[(23,0),(24,1),(26,2),(26,4),(3,6),(27,7),(3,8),(3,9)]) zk h;rw[WL]at hl
 match cs,hl with
 |[x0,x1,x2,x3,x4,x5,x6,x7,x8,x9],_=>
  obtain⟨_,_,h0⟩:=hf 0 23 0 rfl;obtain⟨_,_,h1⟩:=hf 1 24 1 rfl;obtain⟨_,_,h2⟩:=hf 2 26 2 rfl;obtain⟨_,_,h3⟩:=hf 3 26 4 rfl;obtain⟨_,_,h4⟩:=hf 4 3 6 rfl;obtain⟨_,_,h5⟩:=hf 5 27 7 rfl;obtain⟨_,_,h6⟩:=hf 6 3 8 rfl;obtain⟨_,_,h7⟩:=hf 7 3 9 rfl;rw[WS]at h0;rw[abV]at h1;rw[PI]at h2 h3;rw[UQ]at h4 h6 h7;rw[abX]at h5;obtain⟨a0,g0,r0⟩:=Dw _ _ _ h0;obtain⟨a1,g1,r1⟩:=Sz _ _ _ h1;obtain⟨a2,g2,r2⟩:=yC _ _ _ h2;obtain⟨a3,g3,r3⟩:=yC _ _ _ h3;obtain⟨a4,g4,r4⟩:=lW _ _ _ h4;obtain⟨a5,g5,r5⟩:=SR _ _ _ h5;obtain⟨a6,g6,r6⟩:=lW _ _ _ h6;obtain⟨a7,g7,r7⟩:=lW _ _ _ h7;exact⟨⟨a0,a1,a2.1,a2.2,a3.1,a3.2,a4,a5,a6,a7⟩,⟨g0,g1,g2.1,g2.2,g3.1,g3.2,g4,g5,g6,g7⟩,r0.append (r1.append (r2.append (r3.append (r4.append (r5.append (r6.append r7))))))⟩
def TE(s:aw):Prop:=nu s.pos/\nu s.reach/\nu s.eZ/\nu s.dS/\EU s.name/\∀c∈s.cells,nu c.lo/\nu c.hi
def Xx:prog.cellsOf 67=3:=by kernel_rfl
def acS:prog.cellsOf 22=1:=by kernel_rfl
def aaK:prog.cellsOf 31=15:=by kernel_rfl
def TL:mV enc w held 67 (λc:fZ=>(fY c).cells) (λc=>nu c.lo/\nu c.hi):=by
 intro fuel cs x h;obtain⟨hl,hf⟩:=l0 (B2:=[(26,0),(4,2)]) zk h;rw[Xx]at hl
 match cs,hl with
 |[x0,x1,x2],_=>
  obtain⟨_,_,h0⟩:=hf 0 26 0 rfl;obtain⟨_,_,h2⟩:=hf 1 4 2 rfl;rw[PI]at h0;rw[show prog.cellsOf 4=1 from co4]at h2;obtain⟨a,ga,ra⟩:=yC _ _ _ h0;obtain⟨c,_,rc⟩:=Bs (t:=4) zk _ _ _ h2;exact⟨⟨a.1,a.2,c⟩,ga,ra.append rc⟩
def RN:mV enc w held 22 (λl:List fZ=>[.slice .view (l.map fY)]) (λl=>∀c∈l,nu c.lo/\nu c.hi):=
 qh (e:=67) fY (λ_=>rfl) zk (by rw[Xx];omega) TL
def UF:mV enc w held 31 az TE:=by
 intro fuel cs x h;obtain⟨hl,hf⟩:=l0 (B2:=[(22,0),(3,1),(3,2),(3,3),(3,4),(29,5)]) zk h;rw[aaK]at hl
 match cs,hl with
 |[x0,x1,x2,x3,x4,x5,x6,x7,x8,x9,xa,xb,xc,xd,xe],_=>
  obtain⟨_,_,h0⟩:=hf 0 22 0 rfl;obtain⟨_,_,h1⟩:=hf 1 3 1 rfl;obtain⟨_,_,h2⟩:=hf 2 3 2 rfl;obtain⟨_,_,h3⟩:=hf 3 3 3 rfl;obtain⟨_,_,h4⟩:=hf 4 3 4 rfl;obtain⟨_,_,h5⟩:=hf 5 29 5 rfl;rw[acS]at h0;rw[UQ]at h1 h2 h3 h4;rw[WL]at h5;obtain⟨a0,g0,r0⟩:=RN _ _ _ h0;obtain⟨a1,g1,r1⟩:=lW _ _ _ h1;obtain⟨a2,g2,r2⟩:=lW _ _ _ h2;obtain⟨a3,g3,r3⟩:=lW _ _ _ h3;obtain⟨a4,g4,r4⟩:=lW _ _ _ h4;obtain⟨a5,g5,r5⟩:=T' _ _ _ h5;exact⟨⟨a0,a1,a2,a3,a4,a5⟩,⟨g1,g2,g3,g4,g5,g0⟩,r0.append (r1.append (r2.append (r3.append (r4.append r5))))⟩
def IL{d:DataW H}{ps:List MemPlace}{v:Value}{r:Reach}{base:Nat}(xr:Value.okWide prog w r base 31 v)(h:DataW.Trod enc prog w 0 (λ_=>true) held 31 v d ps):∃s:aw,TE s/\RD T0 w (bm s) v:=by
 obtain⟨fuel,hf⟩:=h;obtain⟨s,gs,hc⟩:=UF _ _ _ hf;refine⟨s,gs,?_⟩;obtain⟨fs,fH⟩:=uZ 31;obtain⟨cs,rfl,_⟩:=WideShapes.okWide_struct fH xr;refine .agg _ _ (by simpa[Value.cells]using hc.1) (λi hi=>(hc.2 i hi (by rw[<-hc.1];exact hi)).1) (λi hi du=>?_);have:=(hc.2 i hi (by rw[<-hc.1];exact hi)).2;simpa[Value.cells]using this
end
section
variable{H:Type}{enc:TypeId×Value->H}{w:World}{held:Bool}
def open_int{d:DataW H}{ps:List MemPlace}{v:Value}{r:Reach}{base:Nat}(xr:Value.okWide prog w r base 3 v)(h:DataW.Trod enc prog w 0 (λ_=>true) held 3 v d ps):∃n:Int,nu n/\RD T0 w (.int .i64 n) v:=by
 obtain⟨fuel,hf⟩:=h;obtain⟨n,gn,hc⟩:=lW _ _ _ hf;obtain⟨m,rfl⟩:=WideShapes.okWide_int u3 xr;refine⟨n,gn,?_⟩;have:=(hc.2 0 ahB (by simp[Value.cells])).2;simpa[Value.cells]using this
def u23:prog.underlying 23=some (.slice 3):=by kernel_rfl
end
end Go.Proofs.Tryz
namespace Go.Proofs.YtajdcjkalbbogaaGreatDoor
open Go Go.AL Go.ChangeShapes Go.WideShapes Go.ChangeAt Go.RowKit
def own:ownKnob Tryz.prog.godebug=none:=by kernel_rfl
def F8:laidOutB Tryz.prog=true:=by kernel_rfl
def GI(w:World):Prop:=∃m,w.cell? ⟨1,0,none⟩=some (.int .i64 m)
def OD:ar GI:=by
 rintro w w' ⟨m,hm⟩ hb;refine⟨m,?_⟩
 have h1:1<w.heap.size:=by
  unfold World.cell? at hm
  by_cases h:1<w.heap.size
  .exact h
  .have:w.heap[1]?=none:=by simp;omega
   simp[this]at hm
 unfold World.cell? at hm⊢;rw[hb.block 1 h1];exact hm
def YY{w:World}(h:w.ShapedOpen Tryz.prog):GI w:=
 cell_of_shapedOpen_int (g:=1) (t:=3) (zero:=#[.int .i64 0]) (k:=.i64) h (afD zk) zk rfl zk zk zk
abbrev tQ:List (String×DataW Unit):=Rows.tramPrintsRow.laid
variable{H:Type}{enc:TypeId×Value->H}
def uA{w:World}{base:Nat}{spare:Nat->Bool}{held:Bool}:∀{ts:List TypeId}{vs:List Value}{ds:List (DataW H)}{ps:List MemPlace},DataW.TrodAll enc Tryz.prog w base spare held ts vs ds ps->ds.length=ts.length
 |[],[],[],_,_=>rfl
 |_::_,_::_,_::_,_,⟨_,_,_,h,_⟩=>congrArg (·+1) (uA h)
def vk {W W':World} (hb:Below W.heap.size W W'):∀ {ts:List TypeId} {vs:List Value} {ds:List (DataW H)} {ps:List MemPlace},(∀ t∈ts,Tryz.prog.readableRec t=true∧t < Tryz.prog.types.size) →
  DataW.TrodAll enc Tryz.prog W 0 (λ_=>true) true ts vs ds ps->(∀x∈ps,x.block<W.heap.size)->DataW.TrodAll enc Tryz.prog W' 0 (λb=>decide (b<W.heap.size)) true ts vs ds ps
 |[],[],[],_,_,h,_=>h
 |t::_,_::_,_::_,_,hr,⟨p,q,h1,h2,e⟩,aq=>by
  subst e;exact⟨p,q,Below.trod F8 (hr t adX).1 (hr t adX).2 h1 hb (λx hx=>aq x (afH _ hx)),vk hb (λu hu=>hr u (adO _ hu)) h2 (λx hx=>aq x (af2 _ hx)),rfl⟩
end Go.Proofs.YtajdcjkalbbogaaGreatDoor
namespace Go.Proofs.YtajdcjkalbbogaaGreatDoor
open Go Go.AL Go.ChangeShapes Go.WideShapes Go.ChangeAt Go.RowKit
def ch(l:List Nat):List Char:=l.map Char.ofNat
def w1:List Nat:=[104,97,114,110,101,115,115]
def w2:List Nat:=[56,50,49,55,49,48,57,50,98,101,57,49,52,51,54,55,54,102,52,53,97,51,48,53,54,101,98,53,99,54,98,52,97,102,55,56,55,100,100,102,57,53,51,50,99,51,50,57,98,51,54,51,53,56,100,52,57,56,97,50,49,54,100,101]
def w3:List Nat:=[99,117,116]
def w4:List Nat:=[97,116,32,109,97,104,108,115,116,105,99,107,47,109,97,104,108,115,116,105,99,107,108,97,119,48,57,46,84,114,97,109,80,114,105,110,116,115,32,109,97,104,108,115,116,105,99,107,47,109,97,104,108,115,116,105,99,107,108,97,119,48,57,46,84,114,97,109,82,101,97,100,115,32,109,97,104,108,115,116,105,99,107,47,109,97,104,108,115,116,105,99,107,108,97,119,48,57,46,84,114,97,109,83,112,111,105,108,116]
def rD:∀{a b:List Char},(a.all λc=>c !=Char.ofNat 32)=true->wordsSigns (a++Char.ofNat 32::b)=a::wordsSigns b
 |[],b,_=>rfl
 |c::a,b,h=>by
  simp only[List.all_cons,adE,agn]at h;have ih:=rD (b:=b) h.2;show wordsSigns (c::(a++Char.ofNat 32::b))=_
  conv=>lhs;unfold wordsSigns
  split
  .rename_i e;cases e
  .rename_i e;cases e;exact absurd rfl h.1
  .rename_i e;cases e;rw[ih]
def head_eq:Tryz.prog.initOrder=String.ofList (ch w1++Char.ofNat 32::(ch w2++Char.ofNat 32::(ch w3++Char.ofNat 32::ch w4))):=by kernel_rfl
def A':wordsSigns Tryz.prog.initOrder.toList=ch w1::ch w2::ch w3::wordsSigns (ch w4):=by
 rw[head_eq,agR,rD zk,rD zk,rD zk]
def Z3:ch w2 = "82171092be9143676f45a3056eb5c6b4af787ddf9532c329b36358d498a216de".toList:=by
 have : "82171092be9143676f45a3056eb5c6b4af787ddf9532c329b36358d498a216de" = String.ofList (ch w2):=by kernel_rfl
 rw[this,agR]
def tl(s:String)(l:List Nat)(h:s=String.ofList (ch l)):s.toList=ch l:=by rw[h,agR]
def Bl : "harness".toList=ch [104,97,114,110,101,115,115]:=tl _ _ zk
def Ko : "ownmain".toList=ch [111,119,110,109,97,105,110]:=tl _ _ zk
def NQ : "gc".toList=ch [103,99]:=tl _ _ zk
def JU : "spec".toList=ch [115,112,101,99]:=tl _ _ zk
def Tc : "stop".toList=ch [115,116,111,112]:=tl _ _ zk
def u_ : "carried".toList=ch [99,97,114,114,105,101,100]:=tl _ _ zk
def Cx : "cut".toList=ch [99,117,116]:=tl _ _ zk
def Dg : "finals".toList=ch [102,105,110,97,108,115]:=tl _ _ zk
def Cf : "reflectrows".toList=ch [114,101,102,108,101,99,116,114,111,119,115]:=tl _ _ zk
def He : "leanrows".toList=ch [108,101,97,110,114,111,119,115]:=tl _ _ zk
def Iv : "onebuild".toList=ch [111,110,101,98,117,105,108,100]:=tl _ _ zk
def CG : "publicsums".toList=ch [112,117,98,108,105,99,115,117,109,115]:=tl _ _ zk
def KP : "eqguard".toList=ch [101,113,103,117,97,114,100]:=tl _ _ zk
def EW : "ownunsafe".toList=ch [111,119,110,117,110,115,97,102,101]:=tl _ _ zk
def Fe : "libbeside".toList=ch [108,105,98,98,101,115,105,100,101]:=tl _ _ zk
def EZ : "ownbeside".toList=ch [111,119,110,98,101,115,105,100,101]:=tl _ _ zk
def Dh : "reflbeside".toList=ch [114,101,102,108,98,101,115,105,100,101]:=tl _ _ zk
def Lk : "aliases".toList=ch [97,108,105,97,115,101,115]:=tl _ _ zk
def FJ : "afterinit".toList=ch [97,102,116,101,114,105,110,105,116]:=tl _ _ zk
def Hg : "crcplain".toList=ch [99,114,99,112,108,97,105,110]:=tl _ _ zk
def D0 : "roadunsafe".toList=ch [114,111,97,100,117,110,115,97,102,101]:=tl _ _ zk
def Fw : "fmthandon".toList=ch [102,109,116,104,97,110,100,111,110]:=tl _ _ zk
def Ki:isSumSigns (ch w2)=true:=by kernel_rfl
def Cy(ws:List (List Char)):Option (Bool×List Char):=match ws with
 |h::s::_=>if !isSumSigns s then none else if h == "harness".toList then some (true,s) else if h == "ownmain".toList then some (false,s) else none
 |_=>none
def MO(P:Program):P.mainIs=Cy (wordsSigns P.initOrder.toList):=rfl
def NS(R:List (List Char)):Cy (ch w1::ch w2::ch w3::R)=some (true,ch w2):=by
 simp only[Cy,Ki,Bl]
 rfl
def Q4:Tryz.prog.mainIs=some (true,ch w2):=(MO _).trans ((congrArg Cy A').trans (NS _))
def NB(R:List (List Char)):behindMainWord (ch w1::ch w2::R)=R:=by
 simp only[behindMainWord,Ki,Bl,Ko]
 rfl
def wo:behindMainWord (wordsSigns Tryz.prog.initOrder.toList)=ch w3::wordsSigns (ch w4):=(congrArg behindMainWord A').trans (NB _)
def KJ(R:List (List Char)):stripLifts liftWords (ch w3::R)=([],ch w3::R):=by
 unfold liftWords;simp only[stripLifts,Dg,Cf,He,Iv,CG,KP,EW,Fe,EZ,Dh,Lk,FJ,Hg,D0,Fw]
 rfl
def Cs (ws:List (List Char)):List String:=if (stripLifts liftWords ws).2.head? == some "cut".toList then (stripLifts liftWords ws).1 else []
def Fm(P:Program):P.headLifts=Cs (behindMainWord (wordsSigns P.initOrder.toList)):=rfl
def OS(R:List (List Char)):Cs (ch w3::R)=[]:=by
 simp only[Cs,KJ,Cx]
 rfl
def zg:Tryz.prog.headLifts=[]:=(Fm _).trans ((congrArg Cs wo).trans (OS _))
def N0{P:Program}{R:List (List Char)}(h:behindMainWord (wordsSigns P.initOrder.toList)=ch w3::R)(hl:P.headLifts=[]):P.make=some .cut:=by
 unfold Program.make;rw[h];simp only[Cx,NQ,JU,Dg,u_,hl]
 rfl
def VA:Tryz.prog.make=some .cut:=N0 wo zg
def Ey{P:Program}{R:List (List Char)}(h:behindMainWord (wordsSigns P.initOrder.toList)=ch w3::R)(hl:P.headLifts=[]):P.liftsFinal=false:=by
 unfold Program.liftsFinal;simp only[h,Cx,NQ,u_,hl]
 rfl
def FA:Tryz.prog.liftsFinal=false:=Ey wo zg
def HK:Tryz.prog.laysLater=false:=by kernel_rfl
def Cn:Tryz.prog.bearsReflect=false:=by kernel_rfl
def Mf:Tryz.prog.doorFits []=true:=by kernel_rfl
def G_{P:Program}{R:List (List Char)}(h:behindMainWord (wordsSigns P.initOrder.toList)=ch w3::R)(h1:P.laysLater=false)(h2:P.bearsReflect=false)(h3:P.doorFits []=true):P.mayEnter=true:=by
 unfold Program.mayEnter;rw[h];simp only[KJ,Cx,NQ,u_,JU,Tc,h1,h2,h3]
 rfl
def Lx:Tryz.prog.mayEnter=true:=G_ wo HK Cn Mf
def GT (w:World):Prop:=GI w/\Lib.TabIs Tryz.prog w "internal/strconv.uint64pow10" .u64 Lib.pow10Tab
def N1:ar GT:=λw w' h hb=>⟨OD w w' h.1 hb,Lib.tabBelow_of_tabIs h.2 w' hb⟩
def DR{P:Program}{w:World}{x:String×DataW Unit}{l:List (String×DataW Unit)}{ps:List MemPlace}(h:DataW.LaidVars P w (x::l) ps):∃p qs,ps=p++qs/\DataW.LaidVars P w l qs:=by
 obtain⟨g',t',cs,fuel,p,q,Aw,uR,adw,hd,hr,e⟩:=h;exact⟨_,q,e,hr⟩
def xk{P:Program}{w:World}{x:String×DataW Unit}{l:List (String×DataW Unit)}(h:laidMet P (x::l) w):laidMet P l w:=by
 obtain⟨ps,h1,h2,h3⟩:=h;obtain⟨p,qs,rfl,h4⟩:=DR h1;exact⟨qs,h4,(List.nodup_append.1 h2).2.1,λb off hm=>h3 b off (af2 _ hm)⟩
def VQ {w:World} (h:laidMetH Tryz.prog Rows.tramPrintsRow.laid w.memory):Lib.TabIs Tryz.prog w "internal/strconv.uint64pow10" .u64 Lib.pow10Tab:=by
 rw [ag7 _ _ _ zk] at h;have h3:=xk (xk h);exact Lib.tabIs_of_head (W:=w.memory) (P:=Tryz.prog) (name := "internal/strconv.uint64pow10") (g:=0) (t:=256) (e:=234) (n:=20) zk zk zk zk zk zk h3
variable{H:Type}{enc:TypeId×Value->H}
def JK (f:FuncId) (fn:Func) (UT:Tryz.checked.prog.funcs[f]? = some fn) (V1:Tryz.checked.prog.inits.idxOf? f=none) (LH:fn.resultTypes = #[4]) (spec:ChangeSpec) (UD:spec.vars=[])
  (MV:∀(ds:List (DataW H)),ds.length=fn.params.size->spec.fn H ds={ results:=[.lit (.bool true)],args:=ds })
  (dh:∀t∈fn.params.toList,Tryz.prog.readableRec t=true/\t<Tryz.prog.types.size)
  (os:Os) (started:os.Started) (sT:Array Value) (fuel:Nat)
  (fJ:((World.laidAll Tryz.prog os tQ).forCall (λ_ _=>0) ⟨#[],sT,[]⟩).Shaped Tryz.checked.prog)
  (bV:Input.okWideB Tryz.checked.prog ((World.laidAll Tryz.prog os tQ).forCall (λ_ _=>0) ⟨#[],sT,[]⟩) f ⟨#[],sT,[]⟩=true)
  (acZ:spec.preB enc Tryz.checked.prog fn [] false ((World.laidAll Tryz.prog os tQ).forCall (λ_ _=>0) ⟨#[],sT,[]⟩).memory sT fuel=true)
  (bl:spec.sizedB enc Tryz.checked.prog fn false ((World.laidAll Tryz.prog os tQ).forCall (λ_ _=>0) ⟨#[],sT,[]⟩).memory sT fuel=true)
  (hx:laidMetH Tryz.prog tQ ((World.laidAll Tryz.prog os tQ).forCall (λ_ _=>0) ⟨#[],sT,[]⟩).memory)
  (ml:∀(W:World)(base:Nat)(args:Array Value)(ds:List (DataW H))(p:List MemPlace),GT W->
   (∀(j:Nat) t v,fn.params[j]?=some t->args[j]?=some v->Value.okWide Tryz.prog W .any base t v)->
   DataW.TrodAll enc Tryz.prog W 0 (λ_=>true) true fn.params.toList args.toList ds p->
   Calls Tryz.prog f args W λe W'=>e=.returned (.bool true)/\Below W.heap.size W W'):
  ReturnsInHanded {} Tryz.checked os f .any (λw args=>(spec.pre enc Tryz.checked.prog fn [] false w args/\laidMetH Tryz.checked.prog tQ w)/\sizedMet enc Tryz.checked.prog fn (OpenSpec.ofChange spec) false w args)
   (spec.post enc Tryz.checked.prog fn false true false false):=by
 refine returnsInHanded_of_calls (C:=Tryz.checked) own started V1
  (ChangeSpec.witness_shaped (enc:=enc) (C:=Tryz.checked) (os:=os) (X:=λw _=>laidMetH Tryz.prog tQ w) false (World.laidAll Tryz.prog os tQ) sT fuel (World.laidAll_os _ _ _) fJ bV acZ bl hx) ?_
 intro w tape i _ Zf _ CF hp _;obtain⟨_,_,_,SS,acf,_,_,_,_,xr⟩:=CF;have e:SS=fn:=ad7 (acf.symm.trans UT);subst e;obtain⟨⟨⟨ds,gs,before,hw,hc⟩,hlm⟩,hz⟩:=hp;have KW:=DataW.Whole.of_heap (w':=w.forCall tape i) zr hw;have hW:=KW;obtain⟨p,q,hA,hV,rfl,_,_⟩:=KW
 have jL:gs=[]/\q=[]:=by
  rw[UD]at hV;obtain⟨rfl,rfl⟩:=trodVars_none hV;exact⟨rfl,rfl⟩
 obtain⟨rfl,rfl⟩:=jL;have XO:DataW.TrodAll enc Tryz.prog (w.forCall tape i) 0 (λ_=>true) true SS.params.toList i.args.toList ds p:=hA
 have aq:∀x∈p,x.block<(w.forCall tape i).heap.size:=λx hx=>by simpa using hW.lt x (afH _ hx)
 refine(ml (w.forCall tape i) w.heap.size i.args ds p ⟨YY Zf,VQ hlm⟩ xr XO).mono λe W' ⟨he,hb⟩=>?_
 subst he;show spec.post enc Tryz.checked.prog SS false true false false (w.forCall tape i).blind i.args (.bool true) W'.blind;refine ChangeSpec.post_blind (?_:spec.post enc Tryz.checked.prog SS false true false false (w.forCall tape i) i.args (.bool true) W')
 have Sp:ds.length=SS.params.size:=by
  rw[uA XO];simp
 refine⟨ds,[],p++[],[],p,[],hW,?_,?_,?_,hb.frame _,λh=>by cases h⟩
 .rw[aeI,MV ds Sp,LH];exact trodAll_mk1 (shut_bool zk _)
 .rw[aeI,MV ds Sp];exact vk hb dh XO aq
 .rw[aeI,MV ds Sp,UD]
  rfl
end Go.Proofs.YtajdcjkalbbogaaGreatDoor
namespace Go.Proofs.Tryz
open Go Go.AL Go.RowKit Go.Proofs Go.Proofs.Tram
attribute [local simp] ez fF fo eN eM ea eb dG dH eU dI da gZ g_ aF aD ev aP.S aP.H bt au aW AL.start AV.cells AV.storable AV.ct bC cb dU cd HR.okB post cH db c_ AV.out AV.b_ cU d_ fz ia AV.vw cW vI int cy aN di dQ iC jw eP dW bD AV.aI AV.cI
variable{GI:World->Prop}
def aaI(hG:ar GI)(s:aw)(hs:f_ s):AC prog GI 24 [bm s] (.ret (.dY (xJ s))):=by
 have pC:=sC hG s hs;have kZ:=C4 hG s hs
 rcases kS s with⟨hI,es,gw,ho⟩|⟨e,he,ho,Ch⟩
 .rw[ho]at kZ;have hg:=gM hI;have hc:=hg.cells
  have Ok:xJ s=if(eL s).isEmpty then[.int .i64 0,.int .i64 0,.int .i64 5]else(match OX s (bW s es)with|some q=>[.int .i64 (q.1:Nat),.int .i64 (q.2:Nat),.int .i64 0]|none=>[]):=by unfold xJ;rw[if_pos hI,gw]<;>rfl
  rw[Ok];have hn:=lU hg (j8 hg.name gw);have hp:=Ob hg es
  have hle:(bW s es).sum<=400:=by
   have hb:∀x∈bW s es,x<=81:=λx hx=>by
    obtain⟨i,hi,rfl⟩:=adZ.1 hx
    exact(BN hg (j8 hg.name gw) (by
     rw[kP (aeb.1 hi)]
     exact(mZ hg.name (adC _)).zh)).2
   have h1:=EJ hb zd
   have h2:(bW s es).length<=4:=by
    have:=(gx hg.name).words;simp[bW];omega
   omega
  generalize bW s es=av at kZ hn hp hle⊢;have h0:=nk hp;have Mh:=Xe hG av zo hn.1
  obtain⟨most,Hp⟩:∃most,av.sum.toNat=most:=⟨_,rfl⟩
  have zx:av.sum=(most:Nat):=zo
  rw[zx]at Mh
  have SA:most<=400:=zo
  have hvw:(az s).map AV.cI=az s:=by simp[az,ai,AV.cI,vI]
  have ac8:(bw s av).map AV.cI=bw s av:=by simp[bw,az,ai,AV.cI,vI]
  have ab9:∀i:Nat,i<s.cells.length->AC prog GI 63 [.int .i64 ((most+1:Nat):Int),.func (.func 64) [] [.ref (az s),.ref [.int .i64 (i:Nat)],.ref (bw s av)]] (.ret (.int .i64 (iO s av i:Nat))):=λi hi=>by
   have:=aaG hG (n:=most+1) zo 64 (az s) [.int .i64 (i:Nat)] (bw s av) zk (Oj hg hp i) (λy hy=>acU hG s hg av hn hi (n:=y) zo) (CR (qT s av i) (most+1));unfold iO;rw[Hp];exact this
  have KI:=RL hG s;have tX:=Xn hG s (ps:=eL s) (by have:=BI s;omega) (Nj hG s hg);have tX:=AC.nK (o:=if(eL s).isEmpty then .nil else .view) tX;unfold OX;rw[Hp];refine cw hG func24 ntmps24 c24 ?_;refine aK (λS H=>S 1=.box 1 0/\H 1=some (az s)) (by simp[bm,az,ai]) ?_;rintro S H ⟨s1,h1⟩;refine aK (λS H=>S 1=.box 1 0/\H 1=some (az s)/\S 5=.box 5 0/\H 5=some (bw s av)/\S 6=.int .i64 0) ?_ ?_
  .simp[s1,h1,az,ai];refine oc pC ?_;simp;refine oc kZ ?_;simp[s1,h1,dR,bw,az,ai,bH]
  clear s1 h1 S H;rintro S H ⟨s1,h1,s5,h5,s6⟩;refine aK (λS H=>S 1=.box 1 0/\H 1=some (az s)/\S 5=.box 5 0/\H 5=some (bw s av)) (by simp[s1,h1,s5,h5,s6]) ?_;clear s1 h1 s5 h5 s6 S H;rintro S H ⟨s1,h1,s5,h5⟩;refine aK (λS H=>S 1=.box 1 0/\H 1=some (az s)/\S 5=.box 5 0/\H 5=some (bw s av)/\S 7=.int .i64 (most:Nat)) ?_ ?_
  .simp[s1,h1,s5,h5,bw,az,ai];refine oc Mh ?_;simp[s1,h1,s5,h5,bw,az,ai]
  clear s1 h1 s5 h5 S H;rintro S H ⟨s1,h1,s5,h5,s7⟩;refine aK (λS H=>S 1=.box 1 0/\H 1=some (az s)/\S 5=.box 5 0/\H 5=some (bw s av)/\S 7=.int .i64 (most:Nat)/\S 8=.slice .nil []) (by simp[s1,h1,s5,h5,s7]) ?_;clear s1 h1 s5 h5 s7 S H;rintro S H ⟨s1,h1,s5,h5,s7,s8⟩;refine aK (λS H=>S 1=.box 1 0/\H 1=some (az s)/\S 8=grow 103 (aX ((gR (iO s av) most s.cells.length).map dL))) ?_ ?_
  .refine aK (λS H=>S 1=.box 1 0/\H 1=some (az s)/\S 5=.box 5 0/\H 5=some (bw s av)/\S 7=.int .i64 (most:Nat)/\S 8=.slice .nil []/\S 27=.int .i64 s.cells.length/\S 28=.int .i64 ((0:Nat):Int)) (by simp[s1,h1,s5,h5,s7,s8,az,ai]) ?_;clear s1 h1 s5 h5 s7 s8 S H;rintro S H ⟨s1,h1,s5,h5,s7,s8,fU,wN⟩;refine bz 28 s.cells.length (λi S H=>S 1=.box 1 0/\H 1=some (az s)/\S 5=.box 5 0/\H 5=some (bw s av)/\S 7=.int .i64 (most:Nat)/\S 8=grow 103 (aX ((gR (iO s av) most i).map dL))/\S 27=.int .i64 s.cells.length/\S 28=.int .i64 (i:Nat)) (λi S H h=>h.2.2.2.2.2.2.2) ⟨s1,h1,s5,h5,s7,by rw[s8]<;>rfl,fU,wN⟩ ?_;clear s1 h1 s5 h5 s7 s8 fU wN S H;rintro i hi S H ⟨s1,h1,s5,h5,s7,s8,fU,wN⟩
   by_cases aq:i<s.cells.length
   case neg=>
    have dk:i=s.cells.length:=zo
    subst dk;simp[s1,h1,s5,h5,s7,s8,fU,wN]
   have hw:IntKind.i64.wrap ((i:Int)+1)=i+1:=aQ zo
   have j0:IntKind.i64.wrap ((most:Int)+1)=((most+1:Nat):Int):=by rw[aQ zo];omega
   have xB:=Hc (iO s av) most i
   have hlen:(aX ((gR (iO s av) most i).map dL)).length<=i:=by
    simp only[aX,adH];have:=ahf (λk=>if iO s av k<=most then some (k,iO s av k)else none) (List.range i);simpa[gR]using this
   have bV:=vi ((gR (iO s av) most i).map dL);have hh:=ab9 i aq
   have Zp:((most+1:Nat):Int)=(most:Int)+1:=zo
   rw[Zp]at hh j0;simp[s1,h1,s5,h5,s7,s8,fU,wN,aq,j0,hvw,ac8];refine⟨_,zk,hh,λ_=>rfl,?_⟩
   by_cases wP:iO s av i<=most
   .rw[if_pos wP]at xB
    have hE:aX ((gR (iO s av) most (i+1)).map dL)=aX ((gR (iO s av) most i).map dL)++[.agg [.int .i64 (i:Nat),.int .i64 (iO s av i:Nat)]]:=by
     rw[xB,ad6];unfold aX
     rw[ad6]<;>rfl
    rw[hE];have k3:aG 2 [AV.agg [.int .i64 (i:Nat),.int .i64 (iO s av i:Nat)]]=true:=rfl;generalize aX ((gR (iO s av) most i).map dL)=L at s8 hlen bV⊢
    cases L with
    |nil=>
     have wJ:grow 103 []=.slice .nil []:=rfl;simp[s1,h1,s5,h5,s7,s8,fU,wN,wP,wJ,hw,bH,k3]
     try rfl
    |cons y L=>
     have wJ:grow 103 (y::L)=.slice (.own 103) (y::L):=rfl
     have T6:∀z,grow 103 (y::(L++[z]))=.slice (.own 103) (y::(L++[z])):=λ_=>rfl
     have nt:L.length+1+1<1048576:=by simp at hlen;omega
     simp[s1,h1,s5,h5,s7,s8,fU,wN,wP,wJ,T6,hw,bH,k3,bV,nt]
   .rw[if_neg wP,aeI]at xB;rw[xB]
    have X9:∀L,grow 103 L=.slice (if L=[]then .nil else .own 103) L:=λ_=>rfl
    simp[s1,h1,s5,h5,s7,s8,fU,wN,wP,hw,X9]
  .clear s1 h1 s5 h5 s7 s8 S H;rintro S H ⟨s1,h1,s8⟩
   cases hv:(eL s).isEmpty with
   |true=>
    have pP:eL s=[]:=by simpa using hv
    rw[pP]at tX;simp[s1,h1,az,ai];refine oc KI ?_;simp;refine⟨_,zk,tX,by simp[cW,rO],?_⟩;simp
   |false=>
    have pP:eL s≠[]:=by intro h;rw[h]at hv;cases hv
    have uQ:(((eL s).length:Int)==0)=false:=by
     have:(eL s).length≠0:=λh=>pP (aem h)
     rw[aeo];omega
    obtain⟨c,q1,q2⟩:=OU hg hp hv;rw[Hp]at q2;obtain⟨x,l,Fu⟩:=MU (p:=qT s av) (f:=iO s av) (most:=most) (m:=s.cells.length) (λj _=>by unfold iO;rw[Hp];exact CR _ _) q1 (adF _) q2
    have pI:=ab5 hG (dL x) (l.map dL) (by
     have h1:=congrArg List.length Fu;have:=ahf (λk=>if iO s av k<=most then some (k,iO s av k)else none) (List.range s.cells.length);simp[gR]at h1 this
     simp;omega)
    rw[za]at pI
    have eH:dL x::l.map dL=(gR (iO s av) most s.cells.length).map dL:=by rw[Fu]<;>rfl
    have iH:grow 103 (aX ((gR (iO s av) most s.cells.length).map dL))=.slice (.own 103) (aX ((gR (iO s av) most s.cells.length).map dL)):=by rw[Fu]<;>rfl
    rw[iH]at s8;rw[eH]at pI;rw[Fu];generalize aX ((gR (iO s av) most s.cells.length).map dL)=L at s8 pI
    obtain⟨q,hq⟩:∃q,sE x l=q:=⟨_,rfl⟩
    rw[hq]at pI;simp[s1,h1,s8,az,ai];refine oc KI ?_;simp[s8];refine⟨_,zk,tX,by simp[cW,rO],?_⟩;simp[s8,pP,uQ,aX];refine oc pI ?_;simp[bX,dL,bH,hq]
 .rw[ho]at kZ
  have Cg:xJ s=[.int .i64 0,.int .i64 0,.int .i64 e]:=by
   rcases vH s e he ho with⟨h1,rfl⟩|⟨h1,h2,rfl⟩
   .simp[xJ,h1]
   .simp[xJ,h1,h2]
  rw[Cg]
  have nL:(e !=0)=true:=by simpa using he
  refine cw hG func24 ntmps24 c24 ?_;simp[c24,bm,az,ai];refine oc pC ?_;simp;refine oc kZ ?_;simp[dR,bw,az,ai,zT,bH,he,nL]
def pv(s p:List UInt8):Bool:=decide (p.length<=s.length)&&(s.take p.length==p)
def sF{s p:List UInt8}:pv s p=true↔∃u,s=p++u:=by
 unfold pv;rw[adE,adL,aej]
 constructor
 .rintro⟨h1,h2⟩;exact⟨s.drop p.length,by conv=>lhs;rw[<-aeX p.length s,h2]⟩
 .rintro⟨u,rfl⟩;simp
def Yt(hG:ar GI)(s p:List UInt8):AC prog GI 126 [.str s,.str p] (.ret (.bool (pv s p))):=by
 unfold pv;refine cw hG func126 ntmps126 c126 ?_
 by_cases h:p.length<=s.length
 .simp[c126,h,bound]
 .simp[c126,h,bound]
def Xy(hG:ar GI)(s p:List UInt8):AC prog GI 89 [.str s,.str p] (.ret (.bool (pv s p))):=by
 have a:=Yt (GI:=GI) hG s p
 generalize pv s p=b at*
 refine cw hG func89 ntmps89 c89 ?_;simp[c89];refine oc a ?_;simp
def PC:List UInt8:=[101,110,100,32]
def eW(s:List UInt8):Bool:=pv s PC
def ab1(hG:ar GI)(s:List UInt8):AC prog GI 88 [.str s] (.ret (.bool (eW s))):=by
 have a:AC prog GI 89 [.str s,.str [101,110,100,32]] (.ret (.bool (eW s))):=Xy (GI:=GI) hG s PC
 generalize eW s=b at*
 refine cw hG func88 ntmps88 c88 ?_;simp[c88];refine oc a ?_;simp
def aaF(hG:ar GI)(l:List (List UInt8))(hl:l.length<1000000):AC prog GI 87 [strs l,.func (.func 88) [] []] (.ret (.int .i64 (firstT eW l))):=by
 refine cw hG func87 ntmps87 c87 ?_;simp[c87,strs];refine bz 8 l.length (λi S H=>S 0=strs l/\S 1=_/\S 7=.int .i64 l.length/\S 8=.int .i64 (i:Nat)/\∀j (hj:j<l.length),j<i->eW l[j]=false) (λi S H h=>h.2.2.2.1) ⟨by simp[strs],by simp<;>rfl,ahB,ahB,λj _ h=>absurd h (agO _)⟩ ?_;rintro i hi S H ⟨s0,s1,s7,s8,hb⟩
 by_cases aq:i<l.length
 .have hw:IntKind.i64.wrap ((i:Int)+1)=i+1:=aQ zo;have hx:=ab1 (GI:=GI) hG l[i];cases hp:eW l[i]
  .simp[s0,s1,s7,s8,aq,strs];refine oc hx ?_;simp[s0,s1,s7,s8,aq,hp,hw,strs];intro j hj fK
   by_cases Db:j=i
   .subst Db;exact hp
   .exact hb j hj zo
  .simp[s0,s1,s7,s8,aq,strs];refine oc hx ?_;simp[s0,s1,s7,s8,aq,hp,hw];exact lQ aq hp hb
 .have dk:i=l.length:=zo
  subst dk;simp[s0,s1,s7,s8]
  exact kF λj hj=>hb j hj hj
def sy{s:aw}(h:dj s=true):bj s.name=true:=by
 unfold dj at h;rw[adE]at h;exact h.2
def se{s:aw}(h:dj s=true):kK s:=by
 unfold dj j4 df at h;simp only[adE,adL,aeF,aeE]at h;obtain⟨⟨⟨⟨⟨⟨⟨h1,h2⟩,hc⟩,h3⟩,h4⟩,h5⟩,h6⟩,_⟩:=h;refine⟨?_,λc vQ=>?_⟩
 .intro n hn;simp only[ep,ad_,aey,agz]at hn
  rcases hn with rfl|rfl|rfl|rfl<;>exact⟨zo,zo⟩
 .have:=hc c vQ;simp at this;exact⟨⟨zo,zo⟩,⟨zo,zo⟩⟩
def PA(hG:ar GI)(hT:TB GI)(s:aw)(hs:f_ s)(h:dj s=true)(hl:(eF s).length<1000000):AC prog GI 8 [bm s] (.ret (.dY [.str (eF s),.int .i64 0])):=by
 have a:=sC hG s hs;rw[h]at a;have b:=UO hG hT s.name hs.name (sy h)
 have c:=Xl hG s (se h) (by
  unfold dj df at h;simp only[adE,adL]at h
  omega)
 unfold eF at hl⊢;rw[adV]at hl
 generalize fS s.name=t at*
 generalize ec s=x at*
 have hl:x.length+t.length<1073741824:=zo
 refine cw hG func8 ntmps8 c8 ?_;simp[c8,bm,az,ai];refine⟨_,zk,a,λ_=>rfl,?_⟩;simp;refine oc b ?_;simp;refine oc c ?_;simp[hl]
def nD(s:aw):Bool:=tK s&&dj s
def Xv(hG:ar GI)(s:aw):AC prog GI 15 [bm s] (.ret (.bool (nD s))):=by
 have V8:=ac6 hG s;unfold nD
 cases hs:tK s with
 |false=>
  rw[hs]at V8;refine cw hG func15 ntmps15 c15 ?_;simp[c15,bm,az,ai];refine oc V8 ?_;simp
 |true=>
  have h30:=ac9 hG s (tr hs).1;rw[hs]at V8;refine cw hG func15 ntmps15 c15 ?_;simp[c15,bm,az,ai];refine oc V8 ?_;simp;refine oc h30 ?_;simp
end Go.Proofs.Tryz
