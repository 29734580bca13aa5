/-
  For all tram sheets the call of TramLeaves returns true, and each argument reads behind the call as it read before. Conditions: none beyond those of the given card.
-/
import Derived.Test.YtdiflocclemeaaaGreatDoorLv3
set_option maxRecDepth 100000
set_option maxHeartbeats 8000000
set_option linter.all false
set_option linter.unusedVariables false
set_option linter.unusedSimpArgs false
set_option linter.deprecated false
namespace Go.Proofs.Tryz
open Go Go.AL Go.RowKit Go.Proofs Go.Proofs.Tram
attribute [local simp] dF fc eT dW ef dI dJ cZ c_ ee cW cE gh gj aF aH ev aQ.S aQ.H bz ar aT AL.start AV.cells AV.storable AV.bZ bo bX dS b0 HR.okB post cy cJ cK AV.out AV.bT cb dk fz gI AV.vw df vI int b_ aM cU db gB iN eY dQ bQ AV.aG AV.bH
variable{GI:World->Prop}
def W6:Nat->Bool:=λt=>decide (6<=t)
def zM:Nat->Bool:=λt=>decide (35<=t)
structure AS(bF bN:Nat)(cS cR:Value)(n many:Int)(a:Act):Prop where
 size:a.tmps.size=50
 defers:a.defers=[]
 t0:a.tmps.getD 0 undef=.int .i64 n
 t1:a.tmps.getD 1 undef=.int .i64 many
 t2:a.tmps.getD 2 undef=cS
 t3:a.tmps.getD 3 undef=.pointer (some ⟨bN,0,none⟩)
 t4:a.tmps.getD 4 undef=.pointer (some ⟨bF,0,none⟩)
 t5:a.tmps.getD 5 undef=cR
def fB(s:az)(es:List Int)(fv:Value)(n many:Int)(v8:AV):av:=λt=>match t with
 |0=>.int .i64 n
 |1=>.int .i64 many
 |2=>.ref (ao s)
 |3=>.ref [.slice .view (ints es)]
 |5=>.ref [.val fv]
 |8=>v8
 |_=>.br
section
variable{wB:World}{Mi:Nat->Nat->Prop}{bF bN:Nat}{s:az}{cS cR fv:Value}{fs:List (List Int)}{es:List Int}{w:World}{a:Act}{n many:Int}
theorem AS.step{a':Act}(fr:AS bF bN cS cR n many a)(bq:a'.tmps.size=50)(dZ:a'.defers=[])(h:eL W6 a a'):AS bF bN cS cR n many a':=
 ⟨bq,dZ,(h 0 rfl).trans fr.t0,(h 1 rfl).trans fr.t1,(h 2 rfl).trans fr.t2,(h 3 rfl).trans fr.t3,(h 4 rfl).trans fr.t4,(h 5 rfl).trans fr.t5⟩
theorem Lv.eW (st:Lv wB Mi bF bN s cS cR fv fs es w) (fr:AS bF bN cS cR n many a) {v8:AV} (h8:v8.aG=v8∧RV (fun _ _=>True) cj w v8 (a.tmps.getD 8 undef)) :
  ∀t,t<50->(fB s es fv n many v8 t).aG=fB s es fv n many v8 t/\RV (λ_ _=>True) cj w (fB s es fv n many v8 t) (a.tmps.getD t undef):=by
 intro t ht;unfold fB;split
 .rw[fr.t0];exact⟨rfl,.data _ _ (.int _ _)⟩
 .rw[fr.t1];exact⟨rfl,.data _ _ (.int _ _)⟩
 .rw[fr.t2];exact⟨rfl,st.s.mono (bl.same λ_ _ _ _=>trivial) λ_ _ h=>h⟩
 .rw[fr.t3];obtain⟨u,tD,xF,v,wH,xN,f1,f2,f3,f4,n1,n2,n3,n4⟩:=st.st;refine⟨rfl,.data _ _ (.ref _ _ _ (λ_=>v) (λi hi=>?_) (λk hk=>⟨trivial,?_⟩) (λk hk=>?_))⟩
  .have:i=0:=by simpa using hi
   subst this;rfl
  .have:k=0:=by simpa using hk
   subst this;simp[World.cell?,n1]
  .have:k=0:=by simpa using hk
   subst this
   exact RD.ofRow (size:=1) (es:=ints es) (by rw[cb];exact n2) (n3.mono (bl.same λ_ _ _ h=>h.elim)) λ_ _ _ _=>trivial
 .rw[fr.t5];exact⟨rfl,st.r.mono (bl.same λ_ _ _ _=>trivial) λ_ _ h=>h⟩
 .exact h8
 .exact⟨rfl,.br _⟩
theorem Lv.dE (st:Lv wB Mi bF bN s cS cR fv fs es w) {w':World} {es':List Int} {v v':Value} {wH:TypeId} {PK:List Value} (hv:∃ ty,w.heap[bN]? = some (.cells #[v] ty (0,0))) (fY:mV (fun b=>b=bN∨v.ownBlock=some b) w w')
  (hN:w'.heap[bN]?=some (.cells #[v'] wH (0,0))) (dO:w'.ownsRow (bN+1) 3 1 v' es'.length PK) (rm:kH (λ_ _=>False) w' 1 (ints es') PK) (Gg:∀b,v'.ownBlock=some b->v.ownBlock=some b\/w.heap.size<=b):Lv wB Mi bF bN s cS cR fv fs es' w':=by
 obtain⟨u,tD,xF,v0,ab4,xN,f1,f2,f3,f4,n1,n2,n3,n4⟩:=st.st;obtain⟨ty,hv⟩:=hv
 have Jo:v0=v:=by
  rw[n1]at hv;simp only[adS,Obj.cells.injEq,Array.mk.injEq,afe]at hv;exact hv.1.1
 subst Jo;have lF:=(ade.1 f1).1
 have old:∀b,b<w.heap.size->b≠bN->v0.ownBlock≠some b->w'.heap[b]?=w.heap[b]?:=λb hb h1 h2=>fY.block b hb (by rintro(h|h);exact h1 h;exact h2 h)
 have Ry:∀b k,Mi b k->w'.heap[b]?=w.heap[b]?:=λb k hm=>old b (st.lt b k hm) (λe=>st.gN k (e▸hm)) λe=>(n4 b e).2.2 k hm
 have MH:bl Mi Mi w w':=bl.of_eq λb k hm=>⟨hm,Ry b k hm⟩
 refine⟨st.below.trans (fY.below st.below.size λb hb=>?_),st.ge,λb k hm=>adU (st.lt b k hm) fY.size,st.gF,st.gN,⟨u,tD,xF,v',wH,PK,(old bF lF st.ge.2.2 λe=>(n4 bF e).1 rfl).trans f1,fK f2 λb hb=>old b (f2.lt b hb).2 (f4 b hb).1 λe=>(n4 b e).2.1 hb,f3.mono (bl.of_eq λb k hm=>⟨hm,(Ry b k hm.1)⟩),f4,hN,dO,rm,λb hb=>?_⟩,st.s.mono MH λ_ _ h=>h,st.r.mono MH λ_ _ h=>h⟩
 .rcases hb with rfl|hb
  .exact st.ge.2.1
  .have:=(n2.lt b hb).1;have:=st.ge.2.1;omega
 .rcases Gg b hb with h|h
  .exact n4 b h
  .exact⟨λe=>by omega,λe=>by have:=(f2.lt b e).2;omega,λk hm=>by have:=st.lt b k hm;omega⟩
end
theorem uS {P:Program} {a:Act} {o:Oper} {cl:Call} {f x y:Operand} {k:Nat} {cap:Array Value} (w:World) (ho:o.op = .call cl) (hc:cl.callee = .value f) (ha:cl.args = #[x,y]) (hf:a.eval f = .func (.func k) #[] cap) (hk:dX P k=true) :
  (execOp a.eval o).run P w=.ok (.enter k (#[a.eval x,a.eval y]++cap)) w:=by
 unfold execOp;simp[ho,eU hc,hf,Deferred.ofValue,invoke,ha,gy hk]
noncomputable def oa:af:=af.qb c112.qb.qb.qb
noncomputable def tq:af:=af.qb oa.qb.qa
noncomputable def wN:af:=af.qa tq.qb
theorem L4 (hG:aw GI) {wB:World} (tG:GI wB) {bF bN:Nat} {s:az} (hs:eZ s) (hI:cL s=true) {cS cR fv:Value} (kM:fv = .func (.func 112) #[] #[cS,.pointer (some ⟨bN,0,none⟩),.pointer (some ⟨bF,0,none⟩),cR]) :
  ∀(d n:Nat)(es:List Int)(fs:List (List Int))(Mi:Nat->Nat->Prop)(w:World),dR es=n->n<=s.name.words.length->es.length+d<s.name.words.length->cq s.name es=true->(fs++iw s d es).length<=1000->Lv wB Mi bF bN s cS cR fv fs es w->
   Calls prog 112 #[.int .i64 n,.int .i64 d,cS,.pointer (some ⟨bN,0,none⟩),.pointer (some ⟨bF,0,none⟩),cR] w λe w'=>e=.returned (.tuple #[])/\∃oe,(∀b k,Mi b k->oe b k)/\Lv wB oe bF bN s cS cR fv (fs++iw s d es) es w':=by
 have jA:=(eg (er hI).name).words.2;intro d
 induction d with
 |zero=>?_
 |succ d ih=>?_
 all_goals intro n es fs Mi w rm hn hd ho hB st
 all_goals refine(jw (ro:=none) (m:=0)).1 (afS func112 rfl trivial ?_)
 .have fU:GI w:=hG wB w tG st.below
  have fr:AS bF bN cS cR n ((0:Nat):Int) { tmps:=#[.int .i64 n,.int .i64 ((0:Nat):Int),cS,.pointer (some ⟨bN,0,none⟩),.pointer (some ⟨bF,0,none⟩),cR]++Array.replicate (f112.ntmps-6) undef,defers:=[] }:=
   ⟨by simp[ntmps112],rfl,bV _ _ 0 (by simp),bV _ _ 1 (by simp),bV _ _ 2 (by simp),bV _ _ 3 (by simp),bV _ _ 4 (by simp),bV _ _ 5 (by simp)⟩
  rw[B_]at hB⊢;refine adk (adk ?_);refine bJ hG cV (n:=50) (ac:=af.qa c112.qa) (W:=W6) (by kernel_rfl) (by kernel_rfl) (by kernel_rfl) fU (λ_ _=>True) (fB s es fv n ((0:Nat):Int) .br) fr.size fr.defers (st.eW fr ⟨rfl,.br _⟩) (K:=λS' _=>S' 10=.bool true) ?_ ?_
  .simp[c112,af.qa,fB]
  rintro g S' H' a w1 hg R1 hb bb;have fr:=fr.step R1.size (by rw[R1.defers,hg]<;>rfl) bb;have st:=st.grow (by have:=R1.below;rwa [R1.base]at this);have ht:=R1.slot 10 (by decide) (λh=>h);rw[hb]at ht;have tf:=ht.eE;clear ht bb hb hg R1 g S' H' fU;have fU:GI w1:=hG wB w1 tG st.below;show Code.wpIn _ _ _ _ _ a w1;refine ad1 (t:=true) tf ?_;simp only[adJ];refine adk (adk ?_);have X':=To hG s hs hI es ho;refine bJ hG cV (n:=50) (ac:=af.qa c112.qa.qb.qa.qa) (W:=W6) (by kernel_rfl) (by kernel_rfl) (by kernel_rfl) fU (λ_ _=>True) (fB s es fv n ((0:Nat):Int) .br) fr.size fr.defers (st.eW fr ⟨rfl,.br _⟩) (K:=λS' _=>S' 13=.bool (ft s es)) ?_ ?_
  .simp[c112,af.qa,af.qb,fB,ao,ae];refine oc X' ?_;simp
  rintro g S' H' a w1 hg R1 hb bb;have fr:=fr.step R1.size (by rw[R1.defers,hg]<;>rfl) bb;have st:=st.grow (by have:=R1.below;rwa [R1.base]at this);have ht:=R1.slot 13 (by decide) (λh=>h);rw[hb]at ht;have tf:=ht.eE;clear ht bb hb hg R1 g S' H' fU;have fU:GI w1:=hG wB w1 tG st.below;show Code.wpIn _ _ _ _ _ a w1;refine ad1 (t:=ft s es) tf ?_
  have Vt:es.length<1000:=by omega
  have hf4:fs.length<100000:=by rw[adq]at hB;omega
  cases O_:ft s es with
  |true=>
   simp only[adJ];refine A4 hG st fU fr.size fr.defers fr.t3 fr.t4 Vt hf4 rfl rfl rfl rfl rfl rfl ⟨rfl,rfl,rfl⟩ ⟨rfl,rfl,rfl⟩ ⟨rfl,rfl,rfl⟩ ⟨rfl,rfl,rfl⟩ ⟨rfl,rfl,rfl⟩ ⟨rfl,rfl,rfl⟩ ⟨rfl,rfl⟩ ⟨rfl,rfl,rfl⟩ (by kernel_rfl) ?_;intro a' w' oe bq dZ _ hM nG;show Code.wpIn _ _ _ _ _ a' w';exact aeZ ⟨dZ,.tuple #[],by simp[results,results112],rfl,oe,hM,nG⟩
  |false=>
   simp only[adl,adz,adT];refine aer ?_;show Code.wpIn _ _ _ _ _ a w1;exact aeZ ⟨fr.defers,.tuple #[],by simp[results,results112],rfl,Mi,λ_ _ h=>h,st⟩
 .have fU:GI w:=hG wB w tG st.below
  have fr:AS bF bN cS cR n ((d+1:Nat):Int) { tmps:=#[.int .i64 n,.int .i64 ((d+1:Nat):Int),cS,.pointer (some ⟨bN,0,none⟩),.pointer (some ⟨bF,0,none⟩),cR]++Array.replicate (f112.ntmps-6) undef,defers:=[] }:=
   ⟨by simp[ntmps112],rfl,bV _ _ 0 (by simp),bV _ _ 1 (by simp),bV _ _ 2 (by simp),bV _ _ 3 (by simp),bV _ _ 4 (by simp),bV _ _ 5 (by simp)⟩
  rw[Dp,rm]at hB⊢
  have hd0:(((d+1:Nat):Int)==0)=false:=by rw[adW];omega
  generalize hmn:((d+1:Nat):Int)=mn at*
  refine adk (adk ?_);refine bJ hG cV (n:=50) (ac:=af.qa c112.qa) (W:=W6) (by kernel_rfl) (by kernel_rfl) (by kernel_rfl) fU (λ_ _=>True) (fB s es fv n mn .br) fr.size fr.defers (st.eW fr ⟨rfl,.br _⟩) (K:=λS' _=>S' 10=.bool false) ?_ ?_
  .simp[c112,af.qa,fB,hd0]
  rintro g S' H' a w1 hg R1 hb bb;have fr:=fr.step R1.size (by rw[R1.defers,hg]<;>rfl) bb;have st:=st.grow (by have:=R1.below;rwa [R1.base]at this);have ht:=R1.slot 10 (by decide) (λh=>h);rw[hb]at ht;have tf:=ht.eE;clear ht bb hb hg R1 g S' H' fU;have fU:GI w1:=hG wB w1 tG st.below;show Code.wpIn _ _ _ _ _ a w1;refine ad1 (t:=false) tf ?_;simp only[adl,adz];refine aer ?_;show Code.wpIn _ _ _ _ _ a w1;refine adk ?_;refine bJ hG cV (n:=50) (ac:=af.qa c112.qb) (W:=W6) (by kernel_rfl) (by kernel_rfl) (by kernel_rfl) fU (λ_ _=>True) (fB s es fv n mn .br) fr.size fr.defers (st.eW fr ⟨rfl,.br _⟩) (K:=λS' _=>S' 8=.int .i64 n) ?_ ?_
  .simp[c112,af.qa,af.qb,fB]
  rintro g S' H' a w2 hg R1 hb bb;have fr:=fr.step R1.size (by rw[R1.defers,hg]<;>rfl) bb;have st:=st.grow (by have:=R1.below;rwa [R1.base]at this);have ht:=R1.slot 8 (by decide) (λh=>h);rw[hb]at ht;have Xv:=ht.int_eq;clear ht bb hb hg R1 g S' H' fU tf;show Code.wpIn _ _ _ _ _ a w2
  refine aen (af4 (λa w=>∃(i:Nat)(Dy:List (List Int))(oe:Nat->Nat->Prop),AS bF bN cS cR n mn a/\a.tmps.getD 8 undef=.int .i64 (i:Nat)/\n<=i/\i<=s.name.words.length/\(∀b k,Mi b k->oe b k)/\Lv wB oe bF bN s cS cR fv Dy es w/\Dy++oL s d es i=fs++oL s d es n)
   (λa _=>match a.tmps.getD 8 undef with|.int _ i=>s.name.words.length-i.toNat|_=>0) ⟨n,fs,Mi,fr,Xv,adh _,hn,λ_ _ h=>h,st,rfl⟩ ?_)
  clear Xv;rintro a w3 ⟨i,Dy,oe,fr,h8,GU,cH,Vj,st,fE⟩;have fU:GI w3:=hG wB w3 tG st.below
  have LC:(AV.int .i64 (i:Int)).aG=.int .i64 (i:Int)/\RV (λ_ _=>True) cj w3 (.int .i64 (i:Int)) (a.tmps.getD 8 undef):=⟨rfl,by rw[h8];exact .data _ _ (.int _ _)⟩
  refine adk (adk ?_);refine bJ hG cV (n:=50) (ac:=af.qa oa.qa) (W:=W6) (by kernel_rfl) (by kernel_rfl) (by kernel_rfl) fU (λ_ _=>True) (fB s es fv n mn (.int .i64 (i:Int))) fr.size fr.defers (st.eW fr LC) (K:=λS' _=>S' 8=.int .i64 i/\S' 25=.bool (decide (i<s.name.words.length))) ?_ ?_
  .simp[c112,oa,af.qa,af.qb,fB,ao,ae]
  rintro g S' H' a4 w4 hg R1 ⟨q8,Zo⟩ bb;have fr:=fr.step R1.size (by rw[R1.defers,hg]<;>rfl) bb;have st:=st.grow (by have:=R1.below;rwa [R1.base]at this);have ht:=R1.slot 25 (by decide) (λh=>h);rw[Zo]at ht;have Q7:=ht.eE;have hu:=R1.slot 8 (by decide) (λh=>h);rw[q8]at hu;have M5:=hu.int_eq;clear ht hu bb q8 Zo hg R1 g S' H' fU LC;have fU:GI w4:=hG wB w4 tG st.below;show Code.wpIn _ _ _ _ _ a4 w4;refine ad1 (t:=decide (i<s.name.words.length)) Q7 ?_
  by_cases au:i<s.name.words.length
  case neg=>
   simp only[au,afG,adl,adz];refine afc ?_
   have Ir:i=s.name.words.length:=by omega
   rw[Ir,E2,adT]at fE;simp only[Exit.then,Exit.inBlock,adJ];rw[<-fE];exact⟨fr.defers,.tuple #[],by simp[results,results112],rfl,oe,Vj,st⟩
  simp only[au,afz,adJ];refine aer ?_;show Code.wpIn _ _ _ _ _ a4 w4;rw[CY s d es au]at fE
  have LC:(AV.int .i64 (i:Int)).aG=.int .i64 (i:Int)/\RV (λ_ _=>True) cj w4 (.int .i64 (i:Int)) (a4.tmps.getD 8 undef):=⟨rfl,by rw[M5];exact .data _ _ (.int _ _)⟩
  have vj:jG s.name i=s.name.words[i].free:=by simp[jG,hZ,au]
  have fin:∀ {Q:Exit→Act→World→Prop} {a5:Act} {w5:World} {Tz:List (List Int)} {Ur:Nat→Nat→Prop},AS bF bN cS cR n mn a5→a5.tmps.getD 8 undef = .int .i64 (i:Nat)→Lv wB Ur bF bN s cS cR fv Tz es w5 →
    (∀a6 w6,AS bF bN cS cR n mn a6->a6.tmps.getD 8 undef=.int .i64 ((i+1:Nat):Int)->Lv wB Ur bF bN s cS cR fv Tz es w6->Q .normal a6 w6)->∀(id:Nat)(ops:Array Oper),kY (.region id ops false)=true->d_ prog 50 (.region id ops false)=af.qb oa.qb->lY ops W6=true->(Code.region id ops false).wpIn (FR none) 0 prog Q a5 w5:=λ{Q a5 w5 Tz Ur} Bf T5 C' hQ id ops hc pU hW=>by
   have Yc:(AV.int .i64 (i:Int)).aG=.int .i64 (i:Int)/\RV (λ_ _=>True) cj w5 (.int .i64 (i:Int)) (a5.tmps.getD 8 undef):=⟨rfl,by rw[T5];exact .data _ _ (.int _ _)⟩
   refine bJ hG cV (n:=50) hc pU hW (hG wB w5 tG C'.below) (λ_ _=>True) (fB s es fv n mn (.int .i64 (i:Int))) Bf.size Bf.defers (C'.eW Bf Yc) (K:=λS' _=>S' 8=.int .i64 ((i+1:Nat):Int)) ?_ ?_
   .have oW:IntKind.i64.wrap ((i:Int)+1)=i+1:=aN (by omega);simp[c112,oa,af.qa,af.qb,fB,oW]
   intro g S' H' a6 w6 hg R1 Fw qt;have Xk:=R1.slot 8 (by decide) (λh=>h);rw[Fw]at Xk;exact hQ a6 w6 (Bf.step R1.size (by rw[R1.defers,hg]<;>rfl) qt) Xk.int_eq (C'.grow (by have:=R1.below;rwa [R1.base]at this))
  refine adk (aen (adk ?_));refine bJ hG cV (n:=50) (ac:=af.qa tq) (W:=W6) (by kernel_rfl) (by kernel_rfl) (by kernel_rfl) fU (λ_ _=>True) (fB s es fv n mn (.int .i64 (i:Int))) fr.size fr.defers (st.eW fr LC) (K:=λS' _=>S' 8=.int .i64 i/\S' 34=.bool (jG s.name i)) ?_ ?_
  .rw[vj];simp[c112,oa,tq,af.qa,af.qb,fB,ao,ae,au,bD]
  rintro g S' H' a5 w5 hg R1 ⟨q8,Xm⟩ bb;have fr:=fr.step R1.size (by rw[R1.defers,hg]<;>rfl) bb;have st:=st.grow (by have:=R1.below;rwa [R1.base]at this);have ht:=R1.slot 34 (by decide) (λh=>h);rw[Xm]at ht;have aac:=ht.eE;have hu:=R1.slot 8 (by decide) (λh=>h);rw[q8]at hu;have M5:=hu.int_eq;clear ht hu bb q8 Xm hg R1 g S' H' fU LC Q7;have fU:GI w5:=hG wB w5 tG st.below;show Code.wpIn _ _ _ _ _ a5 w5;refine ad1 (t:=jG s.name i) aac ?_
  cases qR:jG s.name i with
  |false=>
   simp only[adl,adz];refine aer ?_;simp only[Exit.then,Exit.inBlock];rw[qR]at fE;refine fin fr M5 st (λa6 w6 Di Fw Fu=>?_) _ _ (by kernel_rfl) (by kernel_rfl) (by kernel_rfl);refine⟨⟨i+1,Dy,oe,Di,Fw,by omega,by omega,Vj,Fu,by simpa using fE⟩,?_⟩;rw[Fw,h8];show s.name.words.length-((i+1:Nat):Int).toNat<s.name.words.length-(i:Int).toNat;rw[Int.toNat_natCast,Int.toNat_natCast];omega
  |true=>
   simp only[adJ];rw[qR]at fE
   have K9:es.length+1<s.name.words.length:=by omega
   obtain⟨u,tD,xF,v,wH,xN,f1,f2,f3,f4,n1,n2,n3,n4⟩:=st.st;obtain⟨i3,sh,mR⟩:=bp (P:=prog) (t:=3) (s:=1) (by kernel_rfl);obtain⟨i23,Gw,Dj⟩:=bp (P:=prog) (t:=23) (s:=1) (by kernel_rfl);have VI:(ints es).length=es.length:=cb es;refine adk ?_
   refine ug cV (n:=50) (ac:=af.qa wN) (by kernel_rfl) (by kernel_rfl) (by kernel_rfl) (W:=zM) (by kernel_rfl) (λ_ _=>False)
    (λt=>match t with|3=>.box 3 0|8=>.int .i64 (i:Int)|_=>.br) (nm:=3) (tp:=3) (es:=ints es) (es':=ints (es++[(i:Int)])) (by decide) rfl fr.t3 fr.size fr.defers n1 sh (by rw[mR,VI];exact n2) (by rw[mR];exact n3.mono (bl.same λ_ _ _ h=>h.elim)) ?_ ?_ (by rw[mR];exact qy _) (rR _) ?_
   .intro t ht;split
    .exact⟨rfl,.inl ⟨rfl,fr.t3⟩⟩
    .exact⟨rfl,.inr (by rw[M5];exact .data _ _ (.int _ _))⟩
    .exact⟨rfl,.inr (.br _)⟩
   .have pS:es.length+1<1048576:=by omega
    have Xa:ints (es++[(i:Int)])=ints es++[.int .i64 (i:Int)]:=by simp[ints]
    have cP:=lj es;have k1:aJ 1 [AV.int .i64 (i:Int)]=true:=rfl;rw[Xa]
    cases zI:v.ownBlock with
    |none=>
     have he:es=[]:=by
      rcases n2.2 with⟨_,h⟩|⟨gg,cap,cur,rfl,_⟩
      .exact adQ h
      .cases zI
     subst he;simp[c112,oa,tq,wN,af.qa,af.qb,ot,zI,k1,ints]
    |some bv=>
     simp[c112,oa,tq,wN,af.qa,af.qb,ot,zI,k1,cP,pS]
   intro a6 w6 v' FY xs6 ZG Kv qt hN6 EC Mc G6 KM;have Di:=fr.step ZG Kv (eL.weaken qt λt ht=>by simp[W6]at ht;simp[zM];omega);have Fw:a6.tmps.getD 8 undef=.int .i64 (i:Int):=(qt 8 rfl).trans M5;have Fu:Lv wB oe bF bN s cS cR fv Dy (es++[(i:Int)]) w6:=st.dE ⟨_,n1⟩ G6 hN6 (by rw[mR,cb]at EC;exact EC) (by rw[mR]at Mc;exact Mc) KM;clear KM G6 Mc EC hN6 n1 n2 n3 n4 f1 f2 f3 f4;show Code.wpIn _ _ _ _ _ a6 w6
   have Za:(AV.int .i64 (i:Int)).aG=.int .i64 (i:Int)/\RV (λ_ _=>True) cj w6 (.int .i64 (i:Int)) (a6.tmps.getD 8 undef):=⟨rfl,by rw[Fw];exact .data _ _ (.int _ _)⟩
   refine adk ?_;refine jz hG (n:=50) (p:=5) (l2:=[5]) rfl (by kernel_rfl) (by kernel_rfl) (l:=(wN.qb.qa.dl).take 5) (by kernel_rfl) (by decide) (W:=zM) (by kernel_rfl) (hG wB w6 tG Fu.below) (λ_ _=>True) (fB s (es++[(i:Int)]) fv n mn (.int .i64 (i:Int))) Di.size Di.defers (Fu.eW Di Za) (K:=λS' _=>S' 39=.val fv/\S' 41=.int .i64 ((i+1:Nat):Int)/\S' 43=.int .i64 (d:Nat)) ?_ ?_
   .have oW:IntKind.i64.wrap ((i:Int)+1)=i+1:=aN (by omega)
    have lE:IntKind.i64.wrap (mn-1)=d:=by rw[aN (by omega)];omega
    simp[c112,oa,tq,wN,af.qa,af.qb,af.dl,fB,oW,lE]
   rintro g S' H' a7 w7 hg R1 ⟨XA,q41,MN⟩ zH;have UP:=Di.step R1.size (by rw[R1.defers,hg]<;>rfl) (eL.weaken zH λt ht=>by simp[W6]at ht;simp[zM];omega);have st7:=Fu.grow (by have:=R1.below;rwa [R1.base]at this);have h87:a7.tmps.getD 8 undef=.int .i64 (i:Int):=(zH 8 rfl).trans Fw;have PC:=R1.slot 39 (by decide) (λh=>h);rw[XA]at PC;have PC:=PC.fG;have Oc:=R1.slot 41 (by decide) (λh=>h);rw[q41]at Oc;have Oc:=Oc.int_eq;have wX:=R1.slot 43 (by decide) (λh=>h);rw[MN]at wX;have wX:=wX.int_eq;clear R1 hg zH XA q41 MN
   have fV:cq s.name (es++[(i:Int)])=true:=by rw[zj ho (by rw[rm];exact GU) au K9];exact qR
   have TQ:(Dy++iw s d (es++[(i:Int)])).length<=1000:=by
    rw[<-fE]at hB;simp only[adJ,adq]at hB⊢;omega
   have fg:=ih (i+1) (es++[(i:Int)]) Dy oe w7 (by unfold dR;simp) (by omega) (by simp;omega) fV TQ st7;refine fH rfl rfl (by rfl) (f:=112) (args:=#[.int .i64 ((i+1:Nat):Int),.int .i64 (d:Nat),cS,.pointer (some ⟨bN,0,none⟩),.pointer (some ⟨bF,0,none⟩),cR]) (w':=w7) ?_ fg ?_
   .have k39:a7.eval (.tmp 39)=fv:=PC;have k41:a7.eval (.tmp 41)=.int .i64 ((i+1:Nat):Int):=Oc;have k43:a7.eval (.tmp 43)=.int .i64 (d:Nat):=wX;refine(uS (f:=.tmp 39) (x:=.tmp 41) (y:=.tmp 43) w7 rfl rfl rfl (k39.trans kM) (by kernel_rfl)).trans ?_;rw[k41,k43]
    rfl
   rintro en w8 ⟨rfl,YL,hM8,Xn⟩;refine⟨_,rfl,?_⟩;show wpOpsIn _ _ _ _ _ [] (a7.put (some 44) (.tuple #[])) w8
   obtain⟨a8,Of⟩:∃a8,a7.put (some 44) (.tuple #[])=a8:=⟨_,rfl⟩
   have Pe:eL zM a7 a8:=by rw[<-Of];exact eL.put (λt ht=>by cases ht;rfl) _
   have X2:a8.tmps.size=50:=by rw[<-Of];simp[Act.put,UP.size]
   have YD:a8.defers=[]:=by rw[<-Of];exact UP.defers
   rw[Of];have OM:=UP.step X2 YD (eL.weaken Pe λt ht=>by simp[W6]at ht;simp[zM];omega);have h88:a8.tmps.getD 8 undef=.int .i64 (i:Int):=(Pe 8 rfl).trans h87;show Code.wpIn _ _ _ _ _ a8 w8;obtain⟨u,tD,xF,v8,Y4,Qn,f1,f2,f3,f4,n1,n2,n3,n4⟩:=Xn.st
   have Rx:Qn.length=(es.length+1)*1:=by have:=n2.1;simpa using this
   refine adB ?_;show wpOpsIn _ _ _ _ _ [0,1,2,3,4,5] a8 w8
   refine GB (P:=prog) (n:=50) (T:=23) (el:=3) (p:=3) (t1:=45) (t2:=46) (t3:=47) (t4:=48) (t5:=49) (bN:=bN) (i:=i3) (iT:=i23) (v:=v8) (ty:=Y4) (k:=es.length) (xs:=Qn.take (es.length*1)) (last:=Qn.drop (es.length*1))
    rfl rfl rfl rfl rfl rfl ⟨rfl,rfl,rfl⟩ ⟨rfl,rfl,rfl⟩ ⟨rfl,rfl,rfl⟩ ⟨rfl,rfl,rfl⟩ ⟨rfl,rfl,rfl⟩ ⟨rfl,rfl,rfl⟩ rfl rfl rfl (by kernel_rfl) Gw Dj sh (by decide) OM.size (by decide) OM.t3 n1 (by rw[aeq,mR];simpa using n2) (by rw[mR,adM,Rx];omega) (by omega) ?_
   intro a9 v9 YT Zk Hd OX Xz FH
   have kC:∀b,b≠bN->(w8.setRow bN #[v9]).heap[b]?=w8.heap[b]?:=λb hb=>aec w8 bN b #[v9] hb
   have ZO:Lv wB YL bF bN s cS cR fv (Dy++iw s d (es++[(i:Int)])) es (w8.setRow bN #[v9]):=by
    refine Xn.dE ⟨_,n1⟩ ⟨rfl,rfl,rfl,by simp,λb _ hm=>kC b λe=>hm (.inl e)⟩ (aeJ w8 bN _ #[v9] Y4 (0,0) n1) (PK:=Qn.take (es.length*1)) (fK (by rw[mR]at FH;exact FH) λb hb=>kC b λe=>by rw[OX]at hb;have:=(n2.lt b hb).1;omega) ⟨qy es,λj hj k Ew=>?_⟩ λb hb=>.inl (by rw[<-OX];exact hb)
    have Ez:k=0:=by
     have:=(qy es _ (ada hj)).1;omega
    subst Ez
    have Bu:j<es.length:=by rw[cb]at hj;exact hj
    have dY:j<(ints (es++[(i:Int)])).length:=by rw[cb];simp;omega
    have iJ:(ints (es++[(i:Int)]))[j]=(ints es)[j]:=by
     simp only[ints,adD,adC,adO];exact adA (by simpa using Bu)
    obtain⟨x,x1,x2⟩:=n3.2 j dY 0 (by rw[iJ];exact Ew);refine⟨x,by rw[afh (by omega)];exact x1,?_⟩;simp only[iJ]at x2;exact x2.mono (bl.of_eq λ_ _ h=>h.elim)
   have Rd:eL zM a8 a9:=λt ht=>by
    have:t<35:=by simp[zM]at ht;omega
    exact Hd t (by omega) (by omega) (by omega) (by omega) (by omega)
   have fr9:=OM.step YT (Zk.trans OM.defers) (eL.weaken Rd λt ht=>by simp[W6]at ht;simp[zM];omega);have ou:a9.tmps.getD 8 undef=.int .i64 (i:Int):=(Rd 8 rfl).trans h88;clear FH kC;generalize w8.setRow bN #[v9]=w9 at ZO⊢;simp only[Exit.then,Exit.inBlock];refine fin fr9 ou ZO (λXp Iv XJ Sg XW=>?_) _ _ (by kernel_rfl) (by kernel_rfl) (by kernel_rfl);refine⟨⟨i+1,_,YL,XJ,Sg,by omega,by omega,λb k h=>hM8 b k (Vj b k h),XW,by rw[<-fE];simp⟩,?_⟩;rw[Sg,h8];show s.name.words.length-((i+1:Nat):Int).toNat<s.name.words.length-(i:Int).toNat;rw[Int.toNat_natCast,Int.toNat_natCast];omega
structure E3(bF bN bR:Nat)(cS:Value)(a:Act):Prop where
 size:a.tmps.size=32
 defers:a.defers=[]
 t1:a.tmps.getD 1 undef=cS
 t4:a.tmps.getD 4 undef=.pointer (some ⟨bF,0,none⟩)
 t5:a.tmps.getD 5 undef=.pointer (some ⟨bN,0,none⟩)
 t6:a.tmps.getD 6 undef=.pointer (some ⟨bR,0,none⟩)
def zY:Nat->Bool:=λt=>decide (7<=t)
def fa(s:az)(fs:List (List Int))(fv:Value)(CJ Cy x7:AV):av:=λt=>match t with
 |1=>.ref (ao s)
 |4=>.ref [.slice .view (fs.map vI)]
 |6=>.ref [.val fv]
 |7=>x7
 |15=>CJ
 |16=>Cy
 |_=>.br
section
variable{wB:World}{Mi:Nat->Nat->Prop}{bF bN bR:Nat}{s:az}{cS fv:Value}{fs:List (List Int)}{es:List Int}{w:World}{a:Act}
theorem E3.step{a':Act}(fr:E3 bF bN bR cS a)(bq:a'.tmps.size=32)(dZ:a'.defers=[])(h:eL zY a a'):E3 bF bN bR cS a':=
 ⟨bq,dZ,(h 1 rfl).trans fr.t1,(h 4 rfl).trans fr.t4,(h 5 rfl).trans fr.t5,(h 6 rfl).trans fr.t6⟩
theorem Lv.F5(st:Lv wB Mi bF bN s cS (.pointer (some ⟨bR,0,none⟩)) fv fs es w)(pr:Nat->Nat->Prop)(Pm:∀b k,wB.heap.size<=b->pr b k):RV pr cj w (.ref [.slice .view (fs.map vI)]) (.pointer (some ⟨bF,0,none⟩)):=by
 obtain⟨u,tD,xF,v,wH,xN,f1,f2,f3,f4,n1,n2,n3,n4⟩:=st.st;refine .data _ _ (.ref _ _ _ (λ_=>u) (λi hi=>?_) (λk hk=>⟨Pm _ _ st.ge.1,?_⟩) (λk hk=>?_))
 .have:i=0:=by simpa using hi
  subst this;rfl
 .have:k=0:=by simpa using hk
  subst this;simp[World.cell?,f1]
 .have:k=0:=by simpa using hk
  subst this
  exact RD.ofRow (size:=1) (es:=fs.map vI) (by rw[adi];exact f2) (f3.mono (bl.same λb k _ h=>Pm b k h.2)) λb hb k _=>Pm b k (by have:=(f2.lt b hb).1;have:=st.ge.1;omega)
theorem Lv.ig (st:Lv wB Mi bF bN s cS (.pointer (some ⟨bR,0,none⟩)) fv fs es w) (fr:E3 bF bN bR cS a) {CJ Cy x7:AV} (sn:CJ.aG=CJ∧RV (fun _ _=>True) cj w CJ (a.tmps.getD 15 undef)) (qI:Cy.aG=Cy∧RV (fun _ _=>True) cj w Cy (a.tmps.getD 16 undef)) (h7:x7.aG=x7∧RV (fun _ _=>True) cj w x7 (a.tmps.getD 7 undef)) :
  ∀t,t<32->(fa s fs fv CJ Cy x7 t).aG=fa s fs fv CJ Cy x7 t/\RV (λ_ _=>True) cj w (fa s fs fv CJ Cy x7 t) (a.tmps.getD t undef):=by
 intro t ht;unfold fa;split
 .rw[fr.t1];exact⟨rfl,st.s.mono (bl.same λ_ _ _ _=>trivial) λ_ _ h=>h⟩
 .rw[fr.t4];exact⟨rfl,st.F5 _ λ_ _ _=>trivial⟩
 .rw[fr.t6];exact⟨rfl,st.r.mono (bl.same λ_ _ _ _=>trivial) λ_ _ h=>h⟩
 .exact h7
 .exact sn
 .exact qI
 .exact⟨rfl,.br _⟩
end
theorem RD.bounded{A:Nat->Prop}{w:World}{es:List AV}{c:Value}(ID:∀x∈es,∀c∈x.cells,iC c=true)(h:RD (λb _=>A b) w (.slice .view es) c):∃hi:Nat->Nat,RD (λb k=>A b/\k<hi b) w (.slice .view es) c:=by
 cases h with
 |jU=>exact⟨λ_=>0,.jU _⟩
 |kV _ a=>exact⟨λ_=>0,.kV _ a⟩
 |slice _ _ b off cap size cs fF hn bq h1 hc hr=>
  exact⟨λ_=>off+es.length*size,.slice _ _ b off cap size cs fF hn bq h1 (λk hk=>⟨⟨(hc k hk).1,(by show off+k<off+es.length*size;omega)⟩,(hc k hk).2⟩) λi hi j hj=>(hr i hi j hj).iC (ID _ (ada hi) _ (ada hj))⟩
theorem Sc(hG:aw GI)(s:az)(hs:eZ s):AC prog GI 56 [a_ s] (.ret (.dN (vG s))):=by
 have lv:=oT hG s hs
 refine AC.iF func56 rfl ntmps56 (by simp) λcc w=>?_
 refine dU hG c56.qa (λS' H'=>S' 1=.box 1 0/\H' 1=some (ao s)) ?_ ?_
 .simp[c56,af.qa,a_,ao,ae]
 rintro S1 H1 ⟨s1,h1⟩;refine SW.scope ?_;show SW prog GI 32 none (.seq (.seq _ (.cond _ _ _)) _) _ _ _ _;refine SW.seq (dU hG (.ops [⟨some 8,none,.load .any true 15 (.t 1)⟩,⟨some 9,none,.call 77 [.t 8]⟩,⟨some 10,none,.not (.t 9)⟩]) (λS' H'=>S' 10=.bool (!cL s)/\S' 1=.box 1 0/\H' 1=some (ao s)) ?_ ?_)
 .simp[s1,h1,ao,ae];refine oc lv ?_;simp[s1,h1,ao,ae]
 clear s1 h1;rintro S2 H2 ⟨bL,s1,h1⟩;unfold vG
 cases hI:cL s with
 |false=>
  refine SW.cond rfl true (by show S2 10=_;rw[bL,hI]<;>rfl) ?_;show SW prog GI 32 none (.seq _ .ret) _ _ _ _;refine dU hG (.ops [⟨some 2,none,.mv true (.c (.slice .nil []))⟩,⟨some 3,none,.mv true (.c (.int .i64 2))⟩]) (λS' H'=>S' 2=.slice .nil []/\S' 3=.int .i64 2) (by simp) ?_;rintro S3 H3 ⟨s2,s3⟩;refine SW.ret ⟨eD.plain rfl,rfl,_,?_,rfl⟩;show cy prog 32 [.tmp 2,.tmp 3] S3 H3=_;simp[cy,cJ,cK,s2,s3,AV.bT,AV.out,AV.vw,AV.bH,vI,ints]
 |true=>
 have jA:=(eg (er hI).name).words;refine SW.cond rfl false (by show S2 10=_;rw[bL,hI]<;>rfl) (SW.skip ?_);show SW prog GI 32 none (.seq _ (.seq _ (.seq _ (.seq _ (.seq (.label 0) (.seq (.seq _ (.block _ _)) _)))))) _ _ _ _;simp only[adJ];intro w0 g a wB m cT ho R
 obtain⟨out,fV⟩:∃out,eP.ret (.dN (sH s))=out:=⟨_,rfl⟩
 rw[fV]
 have Io:Below w0.heap.size w0 wB:=by have:=R.below;rwa [R.base]at this
 have tG:GI wB:=hG w0 wB cT Io;have rS:=nQ R (by decide) s1 h1 (wY s)
 obtain⟨cS,Xw⟩:∃cS,a.tmps.getD 1 undef=cS:=⟨_,rfl⟩
 rw[Xw]at rS;have bq:=R.size
 have dZ:a.defers=[]:=by rw[R.defers,ho]<;>rfl
 have finish:∀ (aE:Act) (wE:World) (o2:Ow) (HJ:List AV) (e:Int) (eb:Nat→Nat),aE.tmps.size=32→aE.defers=[]→Below wB.heap.size wB wE→(AV.slice o2 HJ).aG = .slice o2 HJ→RD (fun b k=>(wB.heap.size≤b∧b < wE.heap.size)∧k < eb b) wE (.slice o2 HJ) (aE.tmps.getD 2 undef)→aE.tmps.getD 3 undef = .int .i64 e →
   eP.ret (.dN [.slice .view HJ,.int .i64 e])=out->QS prog w0 32 (IT prog 32 f56.results.toList out cc) .ret aE wE:=by
  intro aE wE o2 HJ e eb YN Yr Ex Yp ez h3 fV;have RG:=R.kS Ex
  have hle:g.base<=wB.heap.size:=by rw[R.base];exact Io.size
  have RC:=RG.nJ (G:=λb=>wB.heap.size<=b/\b<wE.heap.size) eb (λb hb=>by
   refine⟨⟨ael hle hb.1,(R.fresh b hb.1).1,(R.fresh b hb.1).2,λi hi=>?_⟩,hb.2,?_⟩
   .obtain⟨_,_,_,_,_,q3,_⟩:=R.box i b hi;have:=(ade.1 q3).1;omega
   .rw[ho]<;>rfl)
  have RE:=RC.Ia (a2:=aE) (S2:=λt=>if t=2 then .slice o2 HJ else if t=3 then .int .i64 e else .br) g.old rfl YN (by rw[ho];exact Yr) (by rw[ho];exact λ_ h=>by cases h) RC.still RC.grown (by rw[ho];exact λ_ _ h=>by cases h) (λt ht=>by
   by_cases h2:t=2
   .subst h2;simp only[adJ];refine⟨Yp,.data _ _ (ez.mono (bl.same λb k _ hp=>.inr ⟨ael hle hp.1.1,?_⟩))⟩;unfold Gh.nJ;simp only[if_pos hp.1];exact hp.2
   .by_cases QP:t=3
    .subst QP;simp only[if_neg h2,adJ];rw[h3];exact⟨rfl,.data _ _ (.int _ _)⟩
    .simp only[if_neg h2,if_neg QP]
     exact⟨rfl,.br _⟩)
  refine⟨_,_,_,RE,?_⟩;refine⟨by rw[ho];exact eD.plain rfl,by rw[ho]<;>rfl,_,?_,fV.symm⟩;show cy prog 32 [.tmp 2,.tmp 3] _ _=_;simp[cy,cJ,cK,AV.bT,AV.out,AV.vw,AV.bH]
 have eB:∀(a:Act)(d t:Nat)(c:Value),t≠d->(a.put (some d) c).tmps.getD t undef=a.tmps.getD t undef:=λa d t c h=>by
  simp[Act.put,adg (ad2 h)]
 have ir:∀(a:Act)(d:Nat)(c:Value),a.tmps.size=32->d<32->(a.put (some d) c).tmps.getD d undef=c:=λa d c h hd=>by
  simp[Act.put,h,hd]
 have jm:∀(a:Act)(d:Option Nat)(c:Value),(a.put d c).tmps.size=a.tmps.size:=λa d c=>by cases d<;>simp[Act.put]
 have pW:∀(a:Act)(d:Option Nat)(c:Value),(a.put d c).defers=a.defers:=λa d c=>by cases d<;>rfl
 obtain⟨bF,KP⟩:∃bF,wB.heap.size=bF:=⟨_,rfl⟩
 refine adk (adB ?_);show wpOpsIn _ _ _ _ _ [0] a wB;refine aV rfl rfl (by rfl) (jy (t:=141) (z:=.slice none 0 0) rfl (by kernel_rfl)) ?_;show Code.wpIn _ _ _ _ _ (a.put (some 4) (.pointer (some ⟨wB.heap.size,0,none⟩))) (wB.alloc (.cells #[.slice none 0 0] 141))
 obtain⟨a2,im⟩:∃a2,a.put (some 4) (.pointer (some ⟨wB.heap.size,0,none⟩))=a2:=⟨_,rfl⟩
 obtain⟨w2,gD⟩:∃w2,wB.alloc (.cells #[.slice none 0 0] 141)=w2:=⟨_,rfl⟩
 have Ge:w2.heap.size=bF+1:=by rw[<-gD,<-KP];simp
 have Q4:w2.heap[bF]?=some (.cells #[.slice none 0 0] 141 (0,0)):=by rw[<-gD,<-KP];exact ad4 wB _
 have Ri:Below bF wB w2:=by rw[<-gD,<-KP];exact(aeb _ _).alloc (adh _) _
 rw[im,gD];refine adk (adB ?_);show wpOpsIn _ _ _ _ _ [0] a2 w2;refine aV rfl rfl (by rfl) (jy (t:=23) (z:=.slice none 0 0) rfl (by kernel_rfl)) ?_;show Code.wpIn _ _ _ _ _ (a2.put (some 5) (.pointer (some ⟨w2.heap.size,0,none⟩))) (w2.alloc (.cells #[.slice none 0 0] 23))
 obtain⟨a3,qM⟩:∃a3,a2.put (some 5) (.pointer (some ⟨w2.heap.size,0,none⟩))=a3:=⟨_,rfl⟩
 obtain⟨w3,om⟩:∃w3,w2.alloc (.cells #[.slice none 0 0] 23)=w3:=⟨_,rfl⟩
 have uY:w3.heap.size=bF+2:=by rw[<-om];simp[Ge]
 have GW:w3.heap[bF+1]?=some (.cells #[.slice none 0 0] 23 (0,0)):=by rw[<-om,<-Ge];exact ad4 w2 _
 have Cf:Below (bF+1) w2 w3:=by rw[<-om,<-Ge];exact(aeb _ _).alloc (adh _) _
 rw[qM,om];refine adk (adB ?_);show wpOpsIn _ _ _ _ _ [0] a3 w3;refine aV rfl rfl (by rfl) (jy (t:=142) (z:=.nilFunc) rfl (by kernel_rfl)) ?_;show Code.wpIn _ _ _ _ _ (a3.put (some 6) (.pointer (some ⟨w3.heap.size,0,none⟩))) (w3.alloc (.cells #[.nilFunc] 142))
 obtain⟨a4,ku⟩:∃a4,a3.put (some 6) (.pointer (some ⟨w3.heap.size,0,none⟩))=a4:=⟨_,rfl⟩
 obtain⟨w4,jA⟩:∃w4,w3.alloc (.cells #[.nilFunc] 142)=w4:=⟨_,rfl⟩
 have GZ:w4.heap.size=bF+3:=by rw[<-jA];simp[uY]
 have zb:w4.heap[bF+2]?=some (.cells #[.nilFunc] 142 (0,0)):=by rw[<-jA,<-uY];exact ad4 w3 _
 have wS:Below (bF+2) w3 w4:=by rw[<-jA,<-uY];exact(aeb _ _).alloc (adh _) _
 rw[ku,jA]
 have z2:a2.tmps.size=32:=by rw[<-im,jm];exact bq
 have z3:a3.tmps.size=32:=by rw[<-qM,jm];exact z2
 have z4:a4.tmps.size=32:=by rw[<-ku,jm];exact z3
 have u1:a4.tmps.getD 1 undef=cS:=by rw[<-ku,eB _ _ _ _ (by decide),<-qM,eB _ _ _ _ (by decide),<-im,eB _ _ _ _ (by decide),Xw]
 have u4:a4.tmps.getD 4 undef=.pointer (some ⟨bF,0,none⟩):=by rw[<-ku,eB _ _ _ _ (by decide),<-qM,eB _ _ _ _ (by decide),<-im,ir _ _ _ bq (by decide),KP]
 have u5:a4.tmps.getD 5 undef=.pointer (some ⟨bF+1,0,none⟩):=by rw[<-ku,eB _ _ _ _ (by decide),<-qM,ir _ _ _ z2 (by decide),Ge]
 have u6:a4.tmps.getD 6 undef=.pointer (some ⟨bF+2,0,none⟩):=by rw[<-ku,ir _ _ _ z3 (by decide),uY]
 have d4:a4.defers=[]:=by rw[<-ku,pW,<-qM,pW,<-im,pW];exact dZ
 refine adk (adB ?_);show wpOpsIn _ _ _ _ _ [0,1] a4 w4;refine aV rfl rfl (by rfl) (lP (fn:=.func 112) (c:=#[.tmp 1,.tmp 5,.tmp 4,.tmp 6]) rfl) ?_
 have fF:(#[Operand.tmp 1,.tmp 5,.tmp 4,.tmp 6].map a4.eval)=#[cS,.pointer (some ⟨bF+1,0,none⟩),.pointer (some ⟨bF,0,none⟩),.pointer (some ⟨bF+2,0,none⟩)]:=by
  simp only[adK,adC,adO,Act.eval];rw[u1,u4,u5,u6]
 rw[fF]
 obtain⟨fv,kM⟩:∃fv:Value,fv=.func (.func 112) #[] #[cS,.pointer (some ⟨bF+1,0,none⟩),.pointer (some ⟨bF,0,none⟩),.pointer (some ⟨bF+2,0,none⟩)]:=⟨_,rfl⟩
 rw[<-kM]
 obtain⟨a5,o9⟩:∃a5,a4.put (some 11) fv=a5:=⟨_,rfl⟩
 show wpOpsIn _ _ _ _ _ [1] (a4.put (some 11) fv) w4;rw[o9]
 have z5:a5.tmps.size=32:=by rw[<-o9,jm];exact z4
 have O4:a5.tmps.getD 11 undef=fv:=by rw[<-o9];exact ir _ _ _ z4 (by decide)
 have v1:a5.tmps.getD 1 undef=cS:=by rw[<-o9,eB _ _ _ _ (by decide)];exact u1
 have v4:a5.tmps.getD 4 undef=.pointer (some ⟨bF,0,none⟩):=by rw[<-o9,eB _ _ _ _ (by decide)];exact u4
 have v5:a5.tmps.getD 5 undef=.pointer (some ⟨bF+1,0,none⟩):=by rw[<-o9,eB _ _ _ _ (by decide)];exact u5
 have v6:a5.tmps.getD 6 undef=.pointer (some ⟨bF+2,0,none⟩):=by rw[<-o9,eB _ _ _ _ (by decide)];exact u6
 have d5:a5.defers=[]:=by rw[<-o9,pW];exact d4
 obtain⟨i142,SG,Vb⟩:=bp (P:=prog) (t:=142) (s:=1) (by kernel_rfl);refine dM rfl rfl (by rfl) (gr (x:=.tmp 6) (y:=.tmp 11) rfl v6 SG Vb zb O4 (by rw[kM]<;>rfl)) ?_;show Code.wpIn _ _ _ _ _ (a5.put none undef) (w4.setRow (bF+2) #[fv])
 have fr:E3 bF (bF+1) (bF+2) cS (a5.put none undef):=⟨z5,d5,v1,v4,v5,v6⟩
 have kC:∀b,b≠bF+2->(w4.setRow (bF+2) #[fv]).heap[b]?=w4.heap[b]?:=λb hb=>aec w4 (bF+2) b #[fv] hb
 have yX:(w4.setRow (bF+2) #[fv]).heap.size=bF+3:=by simp[GZ]
 have Yi:Below bF wB w4:=Ri.trans ((Cf.mono (by omega)).trans (wS.mono (by omega)));have E_:Below bF wB (w4.setRow (bF+2) #[fv]):=Yi.trans ⟨rfl,rfl,rfl,by rw[yX,GZ];exact adh _,λk hk=>kC k (by omega)⟩
 have st:Lv wB (λb k=>(b<bF/\fy g true b k)\/(b=bF+2/\k=0)) bF (bF+1) s cS (.pointer (some ⟨bF+2,0,none⟩)) fv [] [] (w4.setRow (bF+2) #[fv]):=by
  refine⟨by rw[KP];exact E_,⟨by omega,by omega,by omega⟩,?_,?_,?_,⟨.slice none 0 0,141,[],.slice none 0 0,23,[],?_,⟨rfl,.inl ⟨rfl,rfl⟩⟩,⟨λx hx=>by simp at hx,λj hj=>by simp at hj⟩,(λb hb=>by cases hb),?_,⟨rfl,.inl ⟨rfl,rfl⟩⟩,⟨λx hx=>by simp[ints]at hx,λj hj=>by simp[ints]at hj⟩,(λb hb=>by cases hb)⟩,?_,?_⟩
  .rintro b k (h|h)
   .rw[yX];omega
   .rw[yX];omega
  .rintro k (h|h)<;>omega
  .rintro k (h|h)<;>omega
  .rw[kC _ (by omega),wS.block _ (by omega),Cf.block _ (by omega)];exact Q4
  .rw[kC _ (by omega),wS.block _ (by omega)];exact GW
  .have rS':RV (λb k=>b<bF/\fy g true b k) cj wB (.ref (ao s)) cS:=rS.mono (bl.same λb k hb h=>⟨by omega,h⟩) λ_ _ h=>h
   exact rS'.mono (bl.of_eq λb k h=>⟨.inl h,E_.block b h.1⟩) λ_ _ h=>h
  .refine .data _ _ (.ref _ _ _ (λ_=>fv) (λi hi=>?_) (λk hk=>⟨.inr ⟨rfl,(by have h0:k<1:=hk;omega)⟩,?_⟩) (λk hk=>?_))
   .have:i=0:=by simpa using hi
    subst this;rfl
   .have:k=0:=by simpa using hk
    subst this;have:=aeJ w4 (bF+2) _ #[fv] 142 (0,0) zb;simp[World.cell?,this]
   .have:k=0:=by simpa using hk
    subst this;exact .val _ (by rw[kM]<;>rfl)
 clear kC yX E_ Yi wS zb Cf GW Ri Q4;generalize w4.setRow (bF+2) #[fv]=w5 at st⊢;generalize a5.put none undef=a6 at fr⊢;generalize(λb k=>(b<bF/\fy g true b k)\/(b=bF+2/\k=0))=Mi at st;clear v1 v4 v5 v6 d5 z5 O4 o9 fF u1 u4 u5 u6 d4 z4 z3 z2
 have gi:∀{w:World},Below wB.heap.size wB w->GI w:=λh=>hG wB _ tG h
 have jk:∀(a:Act)(w:World)(t:Nat),(AV.br).aG=AV.br/\RV (λ_ _=>True) cj w AV.br (a.tmps.getD t undef):=λa w t=>⟨rfl,.br _⟩
 have iv:∀(a:Act)(w:World)(t:Nat)(k:Int),a.tmps.getD t undef=.int .i64 k->(AV.int .i64 k).aG=.int .i64 k/\RV (λ_ _=>True) cj w (.int .i64 k) (a.tmps.getD t undef):=λa w t k h=>⟨rfl,by rw[h];exact .data _ _ (.int _ _)⟩
 have yA:∀{w w':World}{g:Gh}{S:av}{H:aD}{a':Act},Rel prog w 32 cm g S H a' w'->Below w.heap.size w w':=λR=>by have:=R.below;rwa [R.base]at this
 show Code.wpIn _ _ _ _ _ a6 w5;refine adk (wpIn_label ?_);show Code.wpIn _ _ _ _ _ a6 w5;refine adk (adk ?_);refine bJ hG cV (n:=32) (ac:=.ops [⟨some 12,none,.fieldAddr 5 (.t 1)⟩,⟨some 13,none,.fieldAddr 7 (.t 12)⟩,⟨some 14,none,.load .any false 1 (.t 13)⟩,⟨some 15,none,.j6 (.t 14)⟩,⟨some 16,none,.mv false (.c (.int .i64 0))⟩]) (W:=zY) (by kernel_rfl) (by kernel_rfl) (by kernel_rfl) (gi st.below) (λ_ _=>True) (fa s [] fv .br .br .br) fr.size fr.defers (st.ig fr (jk _ _ _) (jk _ _ _) (jk _ _ _)) (K:=λS' _=>S' 15=.int .i64 (s.name.words.length:Nat)/\S' 16=.int .i64 ((0:Nat):Int)) ?_ ?_
 .simp[fa,ao,ae]
 rintro g1 S1 H1 a7 w7 kB R1 ⟨qP,qJ⟩ bb;have fr:=fr.step R1.size (by rw[R1.defers,kB]<;>rfl) bb;have st:=st.grow (yA R1);have Ba:=R1.slot 15 (by decide) id;rw[qP]at Ba;have Ba:=Ba.int_eq;have yw:=R1.slot 16 (by decide) id;rw[qJ]at yw;have yw:=yw.int_eq;clear R1 kB bb qP qJ;show Code.wpIn _ _ _ _ _ a7 w7
 refine aen (af4 (λa w=>∃(k:Nat)(oe:Nat->Nat->Prop),E3 bF (bF+1) (bF+2) cS a/\a.tmps.getD 15 undef=.int .i64 (s.name.words.length:Nat)/\a.tmps.getD 16 undef=.int .i64 (k:Nat)/\k<=s.name.words.length/\(∀j,j<k->iw s j []=[])/\Lv wB oe bF (bF+1) s cS (.pointer (some ⟨bF+2,0,none⟩)) fv [] [] w)
  (λa _=>match a.tmps.getD 16 undef with|.int _ i=>s.name.words.length-i.toNat|_=>0) ⟨0,Mi,fr,Ba,yw,adZ _,λj hj=>by omega,st⟩ ?_)
 clear Ba yw fr st;rintro a8 w8 ⟨k,oe,fr,Ba,yw,hk,ji,st⟩;refine adk ?_;refine bJ hG cV (n:=32) (ac:=.ops [⟨some 17,none,.bin .lss (.t 16) (.t 15)⟩]) (W:=zY) (by kernel_rfl) (by kernel_rfl) (by kernel_rfl) (gi st.below) (λ_ _=>True) (fa s [] fv (.int .i64 (s.name.words.length:Nat)) (.int .i64 (k:Nat)) .br) fr.size fr.defers (st.ig fr (iv _ _ _ _ Ba) (iv _ _ _ _ yw) (jk _ _ _)) (K:=λS' _=>S' 15=.int .i64 (s.name.words.length:Nat)/\S' 16=.int .i64 (k:Nat)/\S' 17=.bool (decide (k<s.name.words.length))) ?_ ?_
 .simp[fa]
 rintro g1 S1 H1 a9 w9 kB R1 ⟨qP,qJ,Zf⟩ bb;have fr:=fr.step R1.size (by rw[R1.defers,kB]<;>rfl) bb;have st:=st.grow (yA R1);have Cx:=R1.slot 15 (by decide) id;rw[qP]at Cx;have Cx:=Cx.int_eq;have BM:=R1.slot 16 (by decide) id;rw[qJ]at BM;have BM:=BM.int_eq;have Lo:=R1.slot 17 (by decide) id;rw[Zf]at Lo;have Lo:=Lo.eE;clear R1 kB bb qP qJ Zf;show Code.wpIn _ _ _ _ _ a9 w9;refine adk (ad1 (t:=decide (k<s.name.words.length)) Lo ?_)
 by_cases au:k<s.name.words.length
 case neg=>
  simp only[au,afG,adl,adz];refine afc ?_
  have UC:k=s.name.words.length:=by omega
  subst UC;simp only[Exit.then,Exit.inBlock,adJ]
  have Fv:kG s=none:=by rw[uk];exact EI _ ji
  show Code.wpIn _ _ _ _ _ a9 w9;refine adk (adk ?_);refine bJ hG cV (n:=32) (ac:=.ops [⟨some 26,none,.load .any false 1 (.t 4)⟩,⟨some 27,none,.j6 (.t 26)⟩,⟨some 28,none,.bin .eql (.t 27) (.c (.int .i64 0))⟩]) (W:=zY) (by kernel_rfl) (by kernel_rfl) (by kernel_rfl) (gi st.below) (λ_ _=>True) (fa s [] fv .br .br .br) fr.size fr.defers (st.ig fr (jk _ _ _) (jk _ _ _) (jk _ _ _)) (K:=λS' _=>S' 28=.bool true) ?_ ?_
  .simp[fa]
  rintro g1 S1 H1 aA wA kB R1 BI bb;have fr:=fr.step R1.size (by rw[R1.defers,kB]<;>rfl) bb;have st:=st.grow (yA R1);have rK:=R1.slot 28 (by decide) id;rw[BI]at rK;have rK:=rK.eE;show Code.wpIn _ _ _ _ _ aA wA;refine ad1 (t:=true) rK ?_;simp only[adJ];refine adk ?_;refine bJ hG cV (n:=32) (ac:=.ops [⟨some 2,none,.mv true (.c (.slice .nil []))⟩,⟨some 3,none,.mv true (.c (.int .i64 5))⟩]) (W:=λ_=>true) (by kernel_rfl) (by kernel_rfl) (by kernel_rfl) (gi st.below) (λ_ _=>True) (fa s [] fv .br .br .br) fr.size fr.defers (st.ig fr (jk _ _ _) (jk _ _ _) (jk _ _ _)) (K:=λS' _=>S' 2=.slice .nil []/\S' 3=.int .i64 5) ?_ ?_
  .simp[fa]
  rintro g2 S2 H2 aB L8 me R2 ⟨q2,q3⟩ _;have e2:=R2.slot 2 (by decide) id;rw[q2]at e2;have e3:=R2.slot 3 (by decide) id;rw[q3]at e3;refine aeZ (finish aB L8 .view [] 5 (λ_=>0) R2.size (by rw[R2.defers,me]<;>rfl) (st.grow (yA R2)).below rfl (e2.fj rfl).Gr e3.int_eq ?_);rw[<-fV];unfold sH
  rw[Fv]<;>rfl
 simp only[au,afz,adJ];refine aer ?_;show Code.wpIn _ _ _ _ _ a9 w9;refine adk (aen ?_);refine adk ?_;refine bJ hG cV (n:=32) (ac:=.ops [⟨some 18,none,.mv false (.t 16)⟩,⟨some 7,none,.mv true (.t 18)⟩]) (W:=zY) (by kernel_rfl) (by kernel_rfl) (by kernel_rfl) (gi st.below) (λ_ _=>True) (fa s [] fv (.int .i64 (s.name.words.length:Nat)) (.int .i64 (k:Nat)) .br) fr.size fr.defers (st.ig fr (iv _ _ _ _ Cx) (iv _ _ _ _ BM) (jk _ _ _)) (K:=λS' _=>S' 15=.int .i64 (s.name.words.length:Nat)/\S' 16=.int .i64 (k:Nat)/\S' 7=.int .i64 (k:Nat)) ?_ ?_
 .simp[fa]
 rintro g1 S1 H1 Xp Iv kB R1 ⟨qP,qJ,q7⟩ bb;have fr:=fr.step R1.size (by rw[R1.defers,kB]<;>rfl) bb;have st:=st.grow (yA R1);have f15:=R1.slot 15 (by decide) id;rw[qP]at f15;have f15:=f15.int_eq;have f16:=R1.slot 16 (by decide) id;rw[qJ]at f16;have f16:=f16.int_eq;have f7:=R1.slot 7 (by decide) id;rw[q7]at f7;have f7:=f7.int_eq;clear R1 kB bb qP qJ q7 Cx BM Lo;show Code.wpIn _ _ _ _ _ Xp Iv;refine adk ?_;refine jz hG (n:=32) (p:=2) (l2:=[2]) rfl (by kernel_rfl) (by kernel_rfl) (l:=[⟨some 19,none,.load .any false 1 (.t 6)⟩,⟨some 20,none,.mv false (.t 7)⟩]) (by kernel_rfl) (by decide) (W:=zY) (by kernel_rfl) (gi st.below) (λ_ _=>True) (fa s [] fv (.int .i64 (s.name.words.length:Nat)) (.int .i64 (k:Nat)) (.int .i64 (k:Nat))) fr.size fr.defers (st.ig fr (iv _ _ _ _ f15) (iv _ _ _ _ f16) (iv _ _ _ _ f7)) (K:=λS' _=>S' 15=.int .i64 (s.name.words.length:Nat)/\S' 16=.int .i64 (k:Nat)/\S' 19=.val fv/\S' 20=.int .i64 (k:Nat)) ?_ ?_
 .simp[fa]
 rintro g1 S1 H1 Ou TE kB R1 ⟨qP,qJ,Ya,J7⟩ bb;have fr:=fr.step R1.size (by rw[R1.defers,kB]<;>rfl) bb;have st:=st.grow (yA R1);have sn:=R1.slot 15 (by decide) id;rw[qP]at sn;have sn:=sn.int_eq;have qI:=R1.slot 16 (by decide) id;rw[qJ]at qI;have qI:=qI.int_eq;have BR:=R1.slot 19 (by decide) id;rw[Ya]at BR;have BR:=BR.fG;have ER:=R1.slot 20 (by decide) id;rw[J7]at ER;have ER:=ER.int_eq;clear R1 kB bb qP qJ Ya J7 f15 f16 f7;have xD:=Ey (by omega) (d:=k) (by omega) ([]:List Int) (s:=s);have fg:=L4 hG tG hs hI kM k 0 [] [] oe TE rfl (adZ _) (by simpa using au) (DD (by omega)) (by simp;omega) st;refine fH rfl rfl (by rfl) (f:=112) (args:=#[.int .i64 ((0:Nat):Int),.int .i64 (k:Nat),cS,.pointer (some ⟨bF+1,0,none⟩),.pointer (some ⟨bF,0,none⟩),.pointer (some ⟨bF+2,0,none⟩)]) (w':=TE) ?_ fg ?_
 .have k19:Ou.eval (.tmp 19)=fv:=BR;have WX:Ou.eval (.tmp 20)=.int .i64 (k:Nat):=ER;refine(uS (f:=.tmp 19) (x:=.const (.int .i64 0)) (y:=.tmp 20) TE rfl rfl rfl (k19.trans kM) (by kernel_rfl)).trans ?_;rw[WX]
  rfl
 rintro en w12 ⟨rfl,Mi2,hM2,st⟩;rw[List.nil_append]at st;refine⟨_,rfl,?_⟩;show Code.wpIn _ _ _ _ _ (Ou.put (some 21) (.tuple #[])) w12
 obtain⟨a12,wK⟩:∃a12,Ou.put (some 21) (.tuple #[])=a12:=⟨_,rfl⟩
 have fr:E3 bF (bF+1) (bF+2) cS a12:=fr.step (by rw[<-wK,jm];exact fr.size) (by rw[<-wK,pW];exact fr.defers) (by rw[<-wK];exact eL.put (λt ht=>by cases ht;rfl) _)
 have i15:a12.tmps.getD 15 undef=.int .i64 (s.name.words.length:Nat):=by rw[<-wK,eB _ _ _ _ (by decide)];exact sn
 have i16:a12.tmps.getD 16 undef=.int .i64 (k:Nat):=by rw[<-wK,eB _ _ _ _ (by decide)];exact qI
 rw[wK];clear wK sn qI BR ER;refine adk ?_;refine bJ hG cV (n:=32) (ac:=.ops [⟨some 22,none,.load .any false 1 (.t 4)⟩,⟨some 23,none,.j6 (.t 22)⟩,⟨some 24,none,.bin .gtr (.t 23) (.c (.int .i64 0))⟩]) (W:=zY) (by kernel_rfl) (by kernel_rfl) (by kernel_rfl) (gi st.below) (λ_ _=>True) (fa s (iw s k []) fv (.int .i64 (s.name.words.length:Nat)) (.int .i64 (k:Nat)) .br) fr.size fr.defers (st.ig fr (iv _ _ _ _ i15) (iv _ _ _ _ i16) (jk _ _ _)) (K:=λS' _=>S' 15=.int .i64 (s.name.words.length:Nat)/\S' 16=.int .i64 (k:Nat)/\S' 24=.bool (decide (0<(iw s k []).length))) ?_ ?_
 .simp[fa]
 rintro g1 S1 H1 UI Vw kB R1 ⟨qP,qJ,Y7⟩ bb;have fr:=fr.step R1.size (by rw[R1.defers,kB]<;>rfl) bb;have st:=st.grow (yA R1);have sn:=R1.slot 15 (by decide) id;rw[qP]at sn;have sn:=sn.int_eq;have qI:=R1.slot 16 (by decide) id;rw[qJ]at qI;have qI:=qI.int_eq;have Hp:=R1.slot 24 (by decide) id;rw[Y7]at Hp;have Hp:=Hp.eE;clear R1 kB bb qP qJ Y7 i15 i16;show Code.wpIn _ _ _ _ _ UI Vw;refine ad1 (t:=decide (0<(iw s k []).length)) Hp ?_
 cases hL:iw s k []with
 |nil=>
  rw[hL]at st;simp only[List.length_nil,agl,afG,adl,adz];refine aer ?_;simp only[Exit.then,Exit.inBlock];show Code.wpIn _ _ _ _ _ UI Vw;refine bJ hG cV (n:=32) (ac:=.ops [⟨some 25,none,.bin .add (.t 16) (.c (.int .i64 1))⟩,⟨some 16,none,.mv false (.t 25)⟩]) (W:=zY) (by kernel_rfl) (by kernel_rfl) (by kernel_rfl) (gi st.below) (λ_ _=>True) (fa s [] fv (.int .i64 (s.name.words.length:Nat)) (.int .i64 (k:Nat)) .br) fr.size fr.defers (st.ig fr (iv _ _ _ _ sn) (iv _ _ _ _ qI) (jk _ _ _)) (K:=λS' _=>S' 15=.int .i64 (s.name.words.length:Nat)/\S' 16=.int .i64 ((k+1:Nat):Int)) ?_ ?_
  .have oW:IntKind.i64.wrap ((k:Int)+1)=k+1:=aN (by omega);simp[fa,oW]
  rintro g1 S1 H1 a14 w14 kB R1 ⟨qP,qJ⟩ bb;have fr:=fr.step R1.size (by rw[R1.defers,kB]<;>rfl) bb;have st:=st.grow (yA R1);have Pv:=R1.slot 15 (by decide) id;rw[qP]at Pv;have Pv:=Pv.int_eq;have LX:=R1.slot 16 (by decide) id;rw[qJ]at LX;have LX:=LX.int_eq;refine⟨⟨k+1,Mi2,fr,Pv,LX,by omega,λj hj=>?_,st⟩,?_⟩
  .by_cases e:j=k
   .subst e;exact hL
   .exact ji j (by omega)
  .rw[LX,yw];show s.name.words.length-((k+1:Nat):Int).toNat<s.name.words.length-(k:Int).toNat;rw[Int.toNat_natCast,Int.toNat_natCast];omega
 |cons x l=>
  have Vh:kG s=some x:=by rw[uk];exact FE _ au ji hL
  rw[hL]at st;simp only[List.length_cons,Nat.zero_lt_succ,afz,adJ];refine afc ?_;simp only[Exit.then,Exit.inBlock];show Code.wpIn _ _ _ _ _ UI Vw;refine adk (adk ?_);refine bJ hG cV (n:=32) (ac:=.ops [⟨some 26,none,.load .any false 1 (.t 4)⟩,⟨some 27,none,.j6 (.t 26)⟩,⟨some 28,none,.bin .eql (.t 27) (.c (.int .i64 0))⟩]) (W:=zY) (by kernel_rfl) (by kernel_rfl) (by kernel_rfl) (gi st.below) (λ_ _=>True) (fa s (x::l) fv .br .br .br) fr.size fr.defers (st.ig fr (jk _ _ _) (jk _ _ _) (jk _ _ _)) (K:=λS' _=>S' 28=.bool false) ?_ ?_
  .have cI:((l.length:Int)+1==0)=false:=by rw[adW];omega
   simp[fa,cI]
   try omega
  rintro g1 S1 H1 aA wA kB R1 BI bb;have fr:=fr.step R1.size (by rw[R1.defers,kB]<;>rfl) bb;have st:=st.grow (yA R1);have rK:=R1.slot 28 (by decide) id;rw[BI]at rK;have rK:=rK.eE;show Code.wpIn _ _ _ _ _ aA wA;refine ad1 (t:=false) rK ?_;simp only[adl,adz];refine aer ?_;show Code.wpIn _ _ _ _ _ aA wA;refine adk ?_
  refine bJ hG cV (n:=32) (ac:=.ops [⟨some 29,none,.load .any false 1 (.t 4)⟩,⟨some 30,none,.indexAddr 1 (.t 29) (.c (.int .i64 0))⟩,⟨some 31,none,.load .any false 1 (.t 30)⟩,⟨some 2,none,.mv true (.t 31)⟩,⟨some 3,none,.mv true (.c (.int .i64 0))⟩]) (W:=λ_=>true) (by kernel_rfl) (by kernel_rfl) (by kernel_rfl) (gi st.below) (λb _=>wB.heap.size<=b)
   (λt=>match t with|4=>.ref [.slice .view ((x::l).map vI)]|_=>.br) fr.size fr.defers ?_ (K:=λS' _=>S' 2=.slice .view (ints x)/\S' 3=.int .i64 0) ?_ ?_
  .intro t ht;split
   .rw[fr.t4];exact⟨rfl,st.F5 _ λb k h=>h⟩
   .exact⟨rfl,.br _⟩
  .simp
  rintro g2 S2 H2 aB L8 me R2 ⟨q2,q3⟩ _;have e2:=R2.slot 2 (by decide) id;rw[q2]at e2;have e3:=R2.slot 3 (by decide) id;rw[q3]at e3;have qG:=yA R2
  have r2:RD (λb _=>wB.heap.size<=b/\b<L8.heap.size) L8 (.slice .view (ints x)) (aB.tmps.getD 2 undef):=(e2.fj rfl).mono (bl.same λb k hb hp=>by
   rcases hp with⟨_,h⟩|⟨h,_⟩
   .rw[me]at h;exact⟨h,hb⟩
   .rw[R2.base]at h;have:=st.below.size
    exact⟨by omega,hb⟩)
  obtain⟨eb,r3⟩:=RD.bounded (rR x) r2;refine aeZ (finish aB L8 .view (ints x) 0 eb R2.size (by rw[R2.defers,me]<;>rfl) (st.grow qG).below rfl r3 e3.int_eq ?_);rw[<-fV];unfold sH
  rw[Vh]<;>rfl
end Go.Proofs.Tryz
namespace Go.Proofs.Tryz
open Go Go.AL Go.RowKit Go.Proofs Go.Proofs.Tram
attribute [local simp] dF fc nC ml ef dI dJ cZ c_ ee cW cE gh gj aF aH ev aQ.S aQ.H bz ar aT AL.start AV.cells AV.storable AV.bZ bo bX dS b0 HR.okB post cy cJ cK AV.out AV.bT cb dk fz gI AV.vw df vI int b_ aM cU db gB iN eY dQ bQ
variable{GI:World->Prop}
theorem Hr{m:Nat}(hm:m<=4):∀(d:Nat)(now:List Int),(mI m d now).length<=4^d
 |0,now=>by simp[mI]
 |d+1,now=>by
  unfold mI;have h2:=tP (λi:Nat=>Hr hm d (now++[(i:Int)])) (List.range' (dR now) (m-dR now));rw[List.length_range']at h2;rw[Nat.pow_succ];have h3:4^d*(m-dR now)<=4^d*4:=Nat.mul_le_mul_left _ (by omega);omega
theorem abx(hG:aw GI)(s:aq)(cM:aU s=true):∀(d:Nat)(now:List Int),d<=4->now.length+d<=100->(∀x∈now,0<=x/\x<s.words.length)->AC prog GI 115 [vI now,.int .i64 ((now.length+d:Nat):Int),.int .i64 (s.words.length:Nat)] (.ret (.slice .view ((mI s.words.length d now).map vI))):=by
 have jA:=(eg cM).words;intro d
 induction d with
 |zero=>
  intro now hd hn hx;have cP:aJ 1 [AV.slice .view (ints now)]=true:=rfl;refine AC.iA (o:=.own 23) ?_;refine bW hG func115 ntmps115 c115 ?_;simp[c115,ai,ah,AV.aG,AV.bH,mI,cP]
 |succ d ih=>
  intro now hd hn hx;have rm:=HM hx
  have cI:((now.length:Int)==(now.length:Int)+((d:Int)+1))=false:=by simp;omega
  have DT:=Hr jA.2 (d+1) now;have h4:4^(d+1)<=4^4:=Nat.pow_le_pow_right (by omega) (by omega);refine AC.iA (o:=if mI s.words.length (d+1) now=[]then .nil else .view) ?_
  have hR:mI s.words.length (d+1) now=(List.range' (dR now) (s.words.length-dR now)).flatMap λi:Nat=>mI s.words.length d (now++[(i:Int)]):=rfl
  generalize hRg:mI s.words.length (d+1) now=R at*
  refine bW hG func115 ntmps115 c115 ?_;refine aI (λS H=>S 0=vI now/\S 1=.int .i64 ((now.length+(d+1):Nat):Int)/\S 2=.int .i64 (s.words.length:Nat)) (by simp[ai,ah,AV.aG,AV.bH]) ?_;rintro S H ⟨s0,s1,s2⟩;refine aI (λS H=>S 0=vI now/\S 1=.int .i64 ((now.length+(d+1):Nat):Int)/\S 2=.int .i64 (s.words.length:Nat)) (by simp[ai,ah,AV.aG,AV.bH,s0,s1,s2,cI]) ?_;clear s0 s1 s2 S H;rintro S H ⟨s0,s1,s2⟩;refine aI (λS H=>S 0=vI now/\S 1=.int .i64 ((now.length+(d+1):Nat):Int)/\S 2=.int .i64 (s.words.length:Nat)/\S 7=.int .i64 0) (by simp[ai,ah,AV.aG,AV.bH,s0,s1,s2]) ?_;clear s0 s1 s2 S H;rintro S H ⟨s0,s1,s2,s7⟩;refine aI (λS H=>S 0=vI now/\S 1=.int .i64 ((now.length+(d+1):Nat):Int)/\S 2=.int .i64 (s.words.length:Nat)/\S 7=.int .i64 (dR now:Nat)) ?_ ?_
  .by_cases h0:now=[]
   .subst h0;simp[ai,ah,AV.aG,AV.bH,s0,s1,s2,s7,dR]
   .have hp:=adV.2 h0;have hl:=CB hp (λx h=>(hx x h).1)
    have uh:IntKind.i64.wrap ((now.length:Int)-1)=(now.length-1:Nat):=by rw[aN (by omega)];omega
    have au:now.length-1<now.length:=by omega
    have hwf:IntKind.i64.wrap (dR now:Int)=(dR now:Nat):=aN (by omega);simp[ai,ah,AV.aG,AV.bH,s0,s1,s2,s7,hp,uh,au,hl,hwf]
  clear s0 s1 s2 s7 S H;rintro S H ⟨s0,s1,s2,s7⟩;simp[ai,ah,AV.aG,AV.bH,s0,s1,s2,s7];refine rH 9 (dR now) s.words.length (λi S H=>S 0=vI now/\S 1=.int .i64 ((now.length+(d+1):Nat):Int)/\S 2=.int .i64 (s.words.length:Nat)/\S 9=.int .i64 (i:Nat)/\∃D,S 8=grow 23 (D.map vI)/\D++((List.range' i (s.words.length-i)).flatMap λi:Nat=>mI s.words.length d (now++[(i:Int)]))=R) rm (λi S H h=>h.2.2.2.1) ⟨by simp[ai,ah,AV.aG,AV.bH,s0],by simp[ai,ah,AV.aG,AV.bH,s1],by simp[ai,ah,AV.aG,AV.bH,s2],by simp[ai,ah,AV.aG,AV.bH],[],by simp[ai,ah,AV.aG,AV.bH,grow],hR.symm⟩ ?_;clear s0 s1 s2 s7 S H;rintro i hif hi S H ⟨s0,s1,s2,s9,D,s8,hD⟩
  by_cases au:i<s.words.length
  case neg=>
   have cH:i=s.words.length:=by omega
   subst cH;rw[afQ]at hD;simp at hD;subst hD
   by_cases h0:D=[]
   .subst h0;simp[ai,ah,AV.aG,AV.bH,s0,s1,s2,s9,s8,grow]
   .have Wu:S 8=.slice (.own 23) (D.map vI):=by rw[s8];simp[grow,h0]
    simp[ai,ah,AV.aG,AV.bH,s0,s1,s2,s9,Wu,h0]
  have hw:IntKind.i64.wrap ((i:Int)+1)=i+1:=aN (by omega);rw[show s.words.length-i=(s.words.length-(i+1))+1 by omega,aeB,aex,<-aef]at hD
  have QW:=ih (now++[(i:Int)]) (by omega) (by simp;omega) (λx h=>by
   rcases adm.1 h with h|h
   .exact hx x h
   .rw[ady]at h;subst h;exact⟨by omega,by omega⟩)
  have eN:vI (now++[(i:Int)])=.slice .view (ints now++[.int .i64 i]):=by simp[vI,ints]
  have eM:(((now++[(i:Int)]).length+d:Nat):Int)=((now.length+(d+1):Nat):Int):=by simp;omega
  rw[eN,eM]at QW
  have hDl:D.length+(mI s.words.length d (now++[(i:Int)])).length<=256:=by
   have:=congrArg List.length hD;rw[adq,adq]at this;omega
  generalize mI s.words.length d (now++[(i:Int)])=B at*
  have Re:aJ 1 (ints now)=true:=kA now;have dT:aJ 1 [AV.int .i64 (i:Nat)]=true:=rfl;simp[AV.aG,AV.bH,s0,s1,s2,s9,s8,au];refine Vz (ints now) .view (by simp[AV.aG,AV.bH]) Re (by simp[ints];omega) ?_;simp[AV.aG,AV.bH,s0,s1,s2,s9,s8];refine fx (ints now) (AV.int .i64 (i:Nat)) (.own 3) (by simp[AV.aG,AV.bH,grow]) (by simp[AV.aG,AV.bH]) dT Re (by simp[ints];omega) ?_;intro S' sd dP;simp[AV.aG,AV.bH,sd,dP,s0,s1,s2,s9,s8,grow];refine oc QW ?_;simp[AV.aG,AV.bH,sd,dP,s0,s1,s2,s9,s8];refine VC (D.map vI) (B.map vI) .view (by simp[AV.aG,AV.bH,dP,s8,grow]) (by simp[AV.aG,AV.bH]) (Gq B) (Gq D) (by simp;omega) ?_;intro S'' Y5 R_;simp[AV.aG,AV.bH,Y5,R_,sd,dP,s0,s1,s2,s9,hw,au];exact⟨D++B,by simp[grow],hD⟩
theorem V9(hG:aw GI)(s:az)(hl:s.name.words.length<1000)(out:List Int)(ho:out.length<1000000):AC prog GI 69 [a_ s,vI out] (.ret (a_ (fD s out))):=by
 obtain⟨it,my,mq⟩:=qu;obtain⟨fs,fE⟩:=cd (P:=prog) (t:=31) (by kernel_rfl)
 have T5:=λi:Nat=>Mj (GI:=GI) hG out (i:Int) (by omega)
 refine bW hG func69 ntmps69 c69 ?_;refine aI (λS H=>S 1=vI out/\S 2=.box 2 0/\H 2=some (ao s)/\S 4=.box 4 0/\∃z,H 4=some z/\z.length=15) (by simp[a_,ao,ae,ai,ah,AV.aG,AV.bH]) ?_;rintro S H ⟨s1,s2,h2,s4,z,h4,hz⟩;refine aI (λS H=>S 1=vI out/\S 2=.box 2 0/\H 2=some (ao s)/\S 4=.box 4 0/\H 4=some z/\S 5=.slice .view (s.name.words.map bD)) (by simp[s1,s2,h2,s4,h4,ao,ae,ai,ah,AV.aG,AV.bH]) ?_;clear s1 s2 h2 s4 h4 S H;rintro S H ⟨s1,s2,h2,s4,h4,s5⟩;refine aI (λS H=>S 1=vI out/\S 2=.box 2 0/\H 2=some (lM s [])/\S 4=.box 4 0/\H 4=some z/\S 5=.slice .view (s.name.words.map bD)) (by simp[s1,s2,h2,s4,h4,s5,ao,ae,lM,grow,ai,ah,AV.aG,AV.bH]) ?_;clear s1 s2 h2 s4 h4 s5 S H;rintro S H ⟨s1,s2,h2,s4,h4,s5⟩;refine aI (λS H=>S 4=.box 4 0/\H 4=some z/\S 2=.box 2 0/\H 2=some (lM s (fL out 0 s.name.words))) ?_ ?_
 .simp[s1,s2,h2,s4,h4,s5,ai,ah,AV.aG,AV.bH];refine bw 6 s.name.words.length (λi S H=>S 1=vI out/\S 5=.slice .view (s.name.words.map bD)/\S 4=.box 4 0/\H 4=some z/\S 2=.box 2 0/\H 2=some (lM s (fL out 0 (s.name.words.take i)))/\S 6=.int .i64 (i:Nat)) (λi S H h=>h.2.2.2.2.2.2) ⟨by simp[s1,ai,ah,AV.aG,AV.bH],by simp[s5,ai,ah,AV.aG,AV.bH],by simp[s4,ai,ah,AV.aG,AV.bH],by simp[h4,ai,ah,AV.aG,AV.bH],by simp[s2,ai,ah,AV.aG,AV.bH],by simp[h2,fL,ai,ah,AV.aG,AV.bH],by simp[ai,ah,AV.aG,AV.bH]⟩ ?_;clear s1 s2 h2 s4 h4 s5 S H;rintro i hi S H ⟨s1,s5,s4,h4,s2,h2,s6⟩
  by_cases au:i<s.name.words.length
  case neg=>
   have cH:i=s.name.words.length:=by omega
   subst cH;rw[adn (adh _)]at h2;simp[s1,s5,s4,h4,s2,h2,s6,ai,ah,AV.aG,AV.bH]
  have hw:IntKind.i64.wrap ((i:Int)+1)=i+1:=aN (by omega);have jC:=tw out au;have hle:=nM out (s.name.words.take i) 0
  have uB:(fL out 0 (s.name.words.take i)).length<1000:=by rw[adM]at hle;omega
  obtain⟨wd,lE⟩:∃wd,s.name.words[i]=wd:=⟨_,rfl⟩
  have a85:=T5 i;unfold int at a85;rw[jC]
  generalize fL out 0 (s.name.words.take i)=L at*
  refine aI (λS H=>S 1=vI out/\S 5=.slice .view (s.name.words.map bD)/\S 4=.box 4 0/\H 4=some z/\S 2=.box 2 0/\H 2=some (lM s L)/\S 6=.int .i64 (i:Nat)) (by simp[s1,s5,s4,h4,s2,h2,s6,au,ai,ah,AV.aG,AV.bH]) ?_;clear s1 s5 s4 h4 s2 h2 s6 S H;rintro S H ⟨s1,s5,s4,h4,s2,h2,s6⟩
  cases hc:out.contains (i:Int)with
  |true=>
   rw[hc]at a85;simp[s1,s5,s4,h4,s2,h2,s6,au,lE,bD,ai,ah,AV.aG,AV.bH];refine oc a85 ?_;simp[s1,s5,s4,h4,s2,h2,s6,au,lE,bD,hw,ai,ah,AV.aG,AV.bH]
  |false=>
   rw[hc]at a85;simp[s1,s5,s4,h4,s2,h2,s6,au,lE,bD,ai,ah,AV.aG,AV.bH];refine oc a85 ?_;have cP:=wi L
   have hL:(L.map bD).length<1000:=by simpa using uB
   have e1:(L++[s.name.words[i]]).map bD=L.map bD++[bD wd]:=by rw[adD,lE]<;>rfl
   have k3:aJ 3 [AV.agg [.slice .view (ints wd.aK),.slice .view (ints wd.bK),.bool wd.free]]=true:=rfl;simp only[lE]at e1;simp[lM,e1];unfold lM at h2
   generalize L.map bD=M at*
   cases M with
   |nil=>
    have nL:grow 44 []=.slice .nil []:=rfl;simp[s1,s5,s4,h4,s2,h2,s6,au,lE,nL,hw,k3,bD,ai,ah,AV.aG,AV.bH]
    try rfl
   |cons y M=>
    have nL:grow 44 (y::M)=.slice (.own 44) (y::M):=rfl
    have BO:∀z,grow 44 (y::(M++[z]))=.slice (.own 44) (y::(M++[z])):=λ_=>rfl
    have pS:M.length+1+1<1048576:=by simp at hL;omega
    simp[s1,s5,s4,h4,s2,h2,s6,au,lE,nL,BO,hw,k3,cP,pS,bD,ai,ah,AV.aG,AV.bH]
 .clear s1 s2 h2 s4 h4 s5 S H;rintro S H ⟨s4,h4,s2,h2⟩;have KD:List.drop 15 z=[]:=aes (by omega);unfold lM at h2;simp[s4,h4,s2,h2,hz,KD,my,mq,fE,eS,ai,ah,Kl,La,xy];simp[a_,ao,ae,fD,tg,vI,ints]
end Go.Proofs.Tryz
namespace Go.Proofs.Tryz
open Go Go.AL Go.RowKit Go.Proofs Go.Proofs.Tram
attribute [local simp] dF fc eT dW ef dI dJ cZ c_ ee cW cE gh gj aF aH ev aQ.S aQ.H bz ar aT AL.start AV.cells AV.storable AV.bZ bo bX dS b0 HR.okB post cy cJ cK AV.out AV.bT cb dk fz gI AV.vw df vI int b_ aM cU db gB iN eY dQ bQ AV.aG AV.bH
variable{GI:World->Prop}
theorem Pg(s:az)(l:List Int):Hw (fD s l)=ft s l:=by
 unfold Hw ft rG
 cases fq (fD s l).name<;>rfl
def sZ(s:az)(l:List Int):Bool:=cq s.name l&&Hw (fD s l)
theorem I4(s:az):(JS s.name.words.length).find? (sZ s)=kG s:=
 Rk s.name (λl _=>(Pg s l).symm)
theorem HG{m:Nat}:∀(d:Nat)(now:List Int){l:List Int},l∈mI m d now->l.length=now.length+d
 |0,now,l,h=>by
  unfold mI at h
  rw[ady.1 h]<;>rfl
 |d+1,now,l,h=>by
  unfold mI at h;obtain⟨i,_,h⟩:=adR.1 h;have:=HG d _ h;simp at this;omega
theorem Tb{α:Type}(f:Nat->List α){n m:Nat}(h:m<n):∃r,(List.range n).flatMap f=(List.range m).flatMap f++(f m++r):=by
 have h1:List.range n=List.range m++(m::List.range' (m+1) (n-(m+1))):=by
  have h5:=afH (s:=0) (m:=m) (n:=n-m);rw[aeR,aeR,<-aeB,show n-(m+1)+1=n-m by omega];rw[show m+(n-m)=n by omega,ad3]at h5;exact h5.symm
 rw[h1,aee,aex];exact⟨_,rfl⟩
theorem Sk{α:Type}{p:α->Bool}(f:Nat->List α){n m i:Nat}(h:m<n)(hi:i<(f m).length)(hp:p (f m)[i]=true)(h1:∀k,k<m->∀x∈f k,p x=false)(h2:∀j (hj:j<(f m).length),j<i->p (f m)[j]=false):((List.range n).flatMap f).find? p=some (f m)[i]:=by
 obtain⟨r,hr⟩:=Tb f h;rw[hr,List.find?_append,List.find?_append,yV hi hp h2]
 have:((List.range m).flatMap f).find? p=none:=by
  rw[aey];intro x hx;obtain⟨k,hk,hx⟩:=adR.1 hx;rw[h1 k (adF.1 hk) x hx];simp
 rw[this]<;>rfl
def ON(s:az):List AV:=match kG s with
 |some l=>[vI l,.bool true]
 |none=>[vI [],.bool false]
theorem acd(hG:aw GI)(s:az)(hs:eZ s)(hI:cL s=true):AC prog GI 57 [a_ s] (.ret (.dN (ON s))):=by
 have h:=er hI;have cM:=h.name;have jA:=(eg cM).words;have Bm:=hs.name;unfold ON;rw[<-I4];unfold JS;generalize hO:((List.range s.name.words.length).flatMap λm=>mI s.name.words.length m []).find? (sZ s)=o;refine bW hG func57 ntmps57 c57 ?_;refine aI (λS H=>S 1=.box 1 0/\H 1=some (ao s)) (by simp[a_,ao,ae]) ?_;rintro S H ⟨s1,e1⟩;simp[s1,e1];refine bw 4 s.name.words.length (λm S H=>S 1=.box 1 0/\H 1=some (ao s)/\S 4=.int .i64 (m:Nat)/\∀k,k<m->∀l∈mI s.name.words.length k [],sZ s l=false) (λi S H h=>h.2.2.1) ⟨by simp[s1],by simp[e1],by simp,λk h=>absurd h (afm _)⟩ ?_;clear s1 e1 S H;rintro m hm S H ⟨s1,e1,s4,hb⟩
 by_cases au:m<s.name.words.length
 case neg=>
  have vK:m=s.name.words.length:=by omega
  subst vK
  have hn:((List.range s.name.words.length).flatMap λm=>mI s.name.words.length m []).find? (sZ s)=none:=by
   rw[aey];intro x hx;obtain⟨k,hk,hx⟩:=adR.1 hx;rw[hb k (adF.1 hk) x hx];simp
  rw[hO]at hn;subst hn;simp[s1,e1,s4,ao,ae,ints]
 have hw:IntKind.i64.wrap ((m:Int)+1)=m+1:=aN (by omega);have QW:=abx hG s.name cM m [] (by omega) (by simp;omega) (λx h=>(List.not_mem_nil h).elim);rw[show(([]:List Int).length+m:Nat)=m by simp]at QW;have DT:=Hr jA.2 m [];have h4:4^m<=4^4:=Nat.pow_le_pow_right (by omega) (by omega)
 have hff:=λi hi hp h2=>Sk (p:=sZ s) (λm=>mI s.name.words.length m []) (i:=i) au hi hp hb h2
 have hlen:∀l∈mI s.name.words.length m [],l.length<1000:=λl hl=>by
  have:=HG m [] hl;simp at this;omega
 simp[s1,e1,s4,au,ao,ae];refine oc QW ?_
 generalize hRm:mI s.name.words.length m []=R at*
 simp[s1,e1,s4,au,ao,ae];refine bw 6 R.length (λi S H=>S 1=.box 1 0/\H 1=some (ao s)/\S 4=.int .i64 (m:Nat)/\S 5=.slice .view (R.map vI)/\S 6=.int .i64 (i:Nat)/\∀j (hj:j<R.length),j<i->sZ s R[j]=false) (λi S H h=>h.2.2.2.2.1) ⟨by simp[s1],by simp[e1,ao,ae],by simp[s4],by simp,by simp,λj _ h=>absurd h (afm _)⟩ ?_;clear s1 e1 s4 S H;rintro i hi S H ⟨s1,e1,s4,s5,s6,hc⟩
 by_cases cH:i<R.length
 case neg=>
  simp[s1,e1,s4,s5,s6,cH,hw,au]
  first|refine⟨rfl,?_⟩|skip
  intro k hk l hl
  by_cases e:k=m
  .subst e;rw[hRm]at hl;obtain⟨j,hj,rfl⟩:=adG hl;exact hc j hj (by omega)
  .exact hb k (by omega) l hl
 have yS:IntKind.i64.wrap ((i:Int)+1)=i+1:=aN (by omega);have xD:=hlen R[i] (ada cH);have a68:=V2 (GI:=GI) hG s.name Bm R[i] (by omega);have a69:=V9 (GI:=GI) hG s (by omega) R[i] (by omega)
 cases fV:cq s.name R[i]with
 |false=>
  have hP:sZ s R[i]=false:=by unfold sZ;rw[fV]<;>rfl
  rw[fV]at a68;simp[s1,e1,s4,s5,s6,cH,ao,ae];refine oc a68 ?_;simp[s1,e1,s4,s5,s6,cH,yS,ao,ae]
  first|refine⟨rfl,?_⟩|skip
  intro j hj gw
  by_cases e:j=i
  .subst e;exact hP
  .exact hc j hj (by omega)
 |true=>
  rw[fV]at a68;have a116:=abo (GI:=GI) hG (fD s R[i]) (er (rX hI fV))
  have hP:sZ s R[i]=Hw (fD s R[i]):=by unfold sZ;rw[fV,afo]
  have qH:=hff i cH;rw[hO]at qH;rw[<-hP]at a116
  generalize fD s R[i]=X at*
  simp[s1,e1,s4,s5,s6,cH,ao,ae];refine oc a68 ?_;simp[s1,e1,s4,s5,s6,cH,ao,ae];refine oc a69 ?_;simp[s1,e1,s4,s5,s6,cH,a_,ao,ae];refine oc a116 ?_
  cases hp:sZ s R[i]with
  |true=>
   have:=qH hp hc;subst this;simp[s1,e1,s4,s5,s6,cH,hp,ao,ae]
  |false=>
   simp[s1,e1,s4,s5,s6,cH,hp,yS,ao,ae]
   first|refine⟨rfl,?_⟩|skip
   intro j hj gw
   by_cases e:j=i
   .subst e;exact hp
   .exact hc j hj (by omega)
end Go.Proofs.Tryz
namespace Go.AL
def Qh:List (Nat×xw)->Nat->Option xw
 |[],_=>none
 |x::l,f=>bif Nat.beq f x.1 then some x.2 else Qh l f
def Sq(P:Program)(x:Nat×xw):Prop:=∃(F:Func)(c:Code),P.funcs[x.1]?=some F/\F.body=some c/\F.ntmps=x.2.n/\F.results.toList=x.2.res/\d_ P x.2.n c=x.2.code
theorem Gj{P:Program}:∀{l:List (Nat×xw)},(∀x∈l,Sq P x)->Ph P (Qh l)
 |[],_,_,_,h=>by cases h
 |x::l,hl,f,fn,h=>by
  unfold Qh at h
  cases hb:Nat.beq f x.1 with
  |true=>
   rw[hb]at h;cases h;rw[agb hb];exact hl x adt
  |false=>
   rw[hb]at h;exact Gj (λy hy=>hl y (ado _ hy)) f fn h
theorem Ps{α:Type}{b:Bool}{x y:Option α}{z:α}(h:(bif b then x else y)=some z):(b=true/\x=some z)\/(b=false/\y=some z):=by
 cases b
 .exact .inr ⟨rfl,h⟩
 .exact .inl ⟨rfl,h⟩
end Go.AL
namespace Go.Proofs.Tryz
open Go Go.AL Go.RowKit Go.Proofs Go.Proofs.Tram
variable{GI:World->Prop}
noncomputable def EG:List (Nat×xw):=[(65,⟨c65,9,[.tmp 2]⟩),(118,⟨c118,80,[.tmp 2]⟩),(121,⟨c121,94,[.cell 2 31,.tmp 3]⟩),(123,⟨c123,115,[.tmp 2]⟩),(124,⟨c124,53,[.tmp 2]⟩),(125,⟨c125,114,[.tmp 2]⟩),(161,⟨c161,16,[.tmp 2]⟩),(165,⟨c165,19,[.tmp 4]⟩),(166,⟨c166,5,[.tmp 2]⟩),(167,⟨c167,8,[.tmp 4]⟩),(168,⟨c168,9,[]⟩),(173,⟨c173,25,[.tmp 2]⟩),(174,⟨c174,21,[.tmp 4]⟩),(175,⟨c175,65,[.tmp 4]⟩),(176,⟨c176,26,[.tmp 2]⟩),(200,⟨c200,2,[.cell 0 248]⟩),(203,⟨c203,18,[.tmp 4]⟩),(205,⟨c205,9,[]⟩),(206,⟨c206,2,[.cell 0 254]⟩),(207,⟨c207,19,[.tmp 4]⟩),(209,⟨c209,8,[.tmp 2]⟩),(210,⟨c210,44,[.tmp 2]⟩),(278,⟨c278,17,[.tmp 2]⟩),(280,⟨c280,20,[.tmp 2]⟩),(281,⟨c281,11,[.tmp 2]⟩),(282,⟨c282,19,[.tmp 2]⟩),(283,⟨c283,24,[.tmp 2]⟩),(284,⟨c284,7,[.tmp 2]⟩),(285,⟨c285,19,[.tmp 2]⟩),(286,⟨c286,17,[.tmp 2]⟩),(287,⟨c287,9,[.tmp 2]⟩)]
theorem Ie:∀x∈EG,Sq prog x:=by
 unfold EG;simp only[List.forall_mem_cons];exact⟨⟨f65,_,func65,rfl,ntmps65,rfl,by kernel_rfl⟩,⟨f118,_,func118,rfl,ntmps118,rfl,by kernel_rfl⟩,⟨f121,_,func121,rfl,ntmps121,rfl,by kernel_rfl⟩,⟨f123,_,func123,rfl,ntmps123,rfl,by kernel_rfl⟩,⟨f124,_,func124,rfl,ntmps124,rfl,by kernel_rfl⟩,⟨f125,_,func125,rfl,ntmps125,rfl,by kernel_rfl⟩,⟨f161,_,func161,rfl,ntmps161,rfl,by kernel_rfl⟩,⟨f165,_,func165,rfl,ntmps165,rfl,by kernel_rfl⟩,⟨f166,_,func166,rfl,ntmps166,rfl,by kernel_rfl⟩,⟨f167,_,func167,rfl,ntmps167,rfl,by kernel_rfl⟩,⟨f168,_,func168,rfl,ntmps168,rfl,by kernel_rfl⟩,⟨f173,_,func173,rfl,ntmps173,rfl,by kernel_rfl⟩,⟨f174,_,func174,rfl,ntmps174,rfl,by kernel_rfl⟩,⟨f175,_,func175,rfl,ntmps175,rfl,by kernel_rfl⟩,⟨f176,_,func176,rfl,ntmps176,rfl,by kernel_rfl⟩,⟨f200,_,func200,rfl,ntmps200,rfl,by kernel_rfl⟩,⟨f203,_,func203,rfl,ntmps203,rfl,by kernel_rfl⟩,⟨f205,_,func205,rfl,ntmps205,rfl,by kernel_rfl⟩,⟨f206,_,func206,rfl,ntmps206,rfl,by kernel_rfl⟩,⟨f207,_,func207,rfl,ntmps207,rfl,by kernel_rfl⟩,⟨f209,_,func209,rfl,ntmps209,rfl,by kernel_rfl⟩,⟨f210,_,func210,rfl,ntmps210,rfl,by kernel_rfl⟩,⟨f278,_,func278,rfl,ntmps278,rfl,by kernel_rfl⟩,⟨f280,_,func280,rfl,ntmps280,rfl,by kernel_rfl⟩,⟨f281,_,func281,rfl,ntmps281,rfl,by kernel_rfl⟩,⟨f282,_,func282,rfl,ntmps282,rfl,by kernel_rfl⟩,⟨f283,_,func283,rfl,ntmps283,rfl,by kernel_rfl⟩,⟨f284,_,func284,rfl,ntmps284,rfl,by kernel_rfl⟩,⟨f285,_,func285,rfl,ntmps285,rfl,by kernel_rfl⟩,⟨f286,_,func286,rfl,ntmps286,rfl,by kernel_rfl⟩,⟨f287,_,func287,rfl,ntmps287,rfl,by kernel_rfl⟩,λ_ h=>nomatch h⟩
def Gz:AV->Option (List UInt8)
 |.str l=>some l
 |_=>none
def Ko:List AV->Option eP
 |[.int .i64 n]=>if 0<=n/\n<100 then some (.ret (.str (kJ n)))else none
 |_=>none
def Lc:List AV->Option eP
 |[.str s,.str [c]]=>if s.length<1000 then some (.ret (strs (iO c s)))else none
 |_=>none
def Me:List AV->Option eP
 |[.slice .view es,.str sep]=>match oZ Gz es with
  |some ls=>if ls.length<=1000/\(Lib.join ls sep).length<=1000 then some (.ret (.str (Lib.join ls sep)))else none
  |none=>none
 |_=>none
def JY:List AV->Option eP
 |[.str w]=>if w.length<1000/\CQ w=true then some (.ret (.int .i64 (de w)))else none
 |_=>none
def Lx:List AV->Option eP
 |[.slice .view es]=>match oZ Gz es with
  |some ws=>if ws.length<=1000/\ws.all CQ=true then some (.ret (.slice (if ws.isEmpty then .nil else .view) (ints (ws.map de))))else none
  |none=>none
 |_=>none
def CI:AV->Option Int
 |.int .i64 n=>some n
 |_=>none
def Mf:List AV->Option eP
 |[.slice .view es]=>match oZ CI es with
  |some (n::l)=>if l.length<900/\((n::l).all λn=>decide (0<=n/\n<100))=true then some (.ret (.slice (.own 9) (((n::l).map kJ).map .str)))else none
  |_=>none
 |_=>none
def G8:iB:=λf args=>
 bif Nat.beq f 162 then Ko args else bif Nat.beq f 164 then Lc args else bif Nat.beq f 199 then Me args else bif Nat.beq f 169 then JY args else bif Nat.beq f 208 then Lx args else bif Nat.beq f 279 then Mf args else none
theorem tZ:∀{es:List AV}{ls:List (List UInt8)},oZ Gz es=some ls->es=ls.map AV.str
 |[],_,h=>by cases h;rfl
 |x::es,ls,h=>by
  unfold oZ at h;split at h
  case h_2=>cases h
  rename_i a ha;split at h
  case h_2=>cases h
  rename_i r hr;cases h
  have:x=.str a:=by
   unfold Gz at ha
   split at ha<;>cases ha
   rfl
  rw[adC,<-this,<-tZ hr]
theorem Mz(hG:aw GI){args:List AV}{out:eP}(h:Ko args=some out):AC prog GI 162 args out:=by
 unfold Ko at h;split at h
 case h_2=>cases h
 split at h<;>cases h
 rename_i hc;exact vy hc.1 hc.2
theorem M6(nk:ML GI){args:List AV}{out:eP}(h:Lc args=some out):AC prog GI 164 args out:=by
 unfold Lc at h;split at h
 case h_2=>cases h
 split at h<;>cases h
 exact UH nk _ _ (by omega)
theorem LM{args:List AV}{out:eP}(h:Me args=some out):AC prog GI 199 args out:=by
 unfold Me at h;split at h
 case h_2=>cases h
 split at h
 case h_2=>cases h
 rename_i hd
 split at h<;>cases h
 rename_i hc;rw[tZ hd];exact VK _ _ (by omega) (by omega)
theorem LB(hG:aw GI){args:List AV}{out:eP}(h:JY args=some out):AC prog GI 169 args out:=by
 unfold JY at h;split at h
 case h_2=>cases h
 split at h<;>cases h
 rename_i w hc;exact OH hG w hc.2
theorem Lf(hG:aw GI){args:List AV}{out:eP}(h:Lx args=some out):AC prog GI 208 args out:=by
 unfold Lx at h;split at h
 case h_2=>cases h
 split at h
 case h_2=>cases h
 rename_i ws hd
 split at h<;>cases h
 rename_i hc;rw[tZ hd]
 have hw:∀w∈ws,_:=λw hw=>ze.1 (adu.1 hc.2 w hw)
 exact SP hG (by omega) (λw h=>⟨(hw w h).1,by have:=(hw w h).2.1;omega,(hw w h).2.2.1⟩) λw h=>by
  have r:=sR w (hw w h).2.2.1 (hw w h).2.1;have:=vy (GI:=GI) r.1 r.2;rwa [(hw w h).2.2.2]at this
theorem zd:∀{es:List AV}{ls:List Int},oZ CI es=some ls->es=ints ls
 |[],_,h=>by cases h;rfl
 |x::es,ls,h=>by
  unfold oZ at h;split at h
  case h_2=>cases h
  rename_i a ha;split at h
  case h_2=>cases h
  rename_i r hr;cases h
  have:x=.int .i64 a:=by
   unfold CI at ha
   split at ha<;>cases ha
   rfl
  rw[this,zd hr]<;>rfl
theorem MC(hG:aw GI){args:List AV}{out:eP}(h:Mf args=some out):AC prog GI 279 args out:=by
 unfold Mf at h;split at h
 case h_2=>cases h
 split at h
 case h_2=>cases h
 rename_i n l hd
 split at h<;>cases h
 rename_i hc;rw[zd hd]
 exact Vf hG (n::l) (by simp) (by simp;omega) λx hx=>by have:=adu.1 hc.2 x hx;exact aeQ (p:=0<=x/\x<100) this
theorem nK{f k:Nat}{args:List AV}{x y:Option eP}{out:eP}(h:(bif Nat.beq f k then x else y)=some out)(h1:x=some out->AC prog GI k args out)(h2:y=some out->AC prog GI f args out):AC prog GI f args out:=by
 rcases Ps h with⟨hf,h⟩|⟨-,h⟩
 .rw[agb hf];exact h1 h
 .exact h2 h
theorem FD(hG:aw GI)(nk:ML GI)(f:Nat)(args:List AV)(out:eP)(h:G8 f args=some out):AC prog GI f args out:=
 nK h (Mz hG) λh=>nK h (M6 nk) λh=>nK h LM λh=>nK h (LB hG) λh=>nK h (Lf hG) λh=>nK h (MC hG) λh=>nomatch h
noncomputable def Ha:iB:=Sh prog G8 (Qh EG) 1000 60
theorem xr(hG:aw GI)(nk:ML GI)(f:Nat)(args:List AV)(out:eP)(h:Ha f args=some out):AC prog GI f args out:=
 Ja hG cV (FD hG nk) (Gj Ie) 60 f args out h
def mW:List UInt8:=[116,114,97,109,32,49,32,49,32,49,32,48,10,99,101,108,108,32,49,32,50,32,110,111,10,101,110,100,32,49,55,56,10,102,114,111,110,116,32,49,32,49,10,115,112,97,99,101,115,32,48,32,48,32,48,32,48,32,49,10,115,105,103,110,32,49,10,119,111,114,100,32,110,111,32,48,32,45,10,101,110,100,32,48,57,56,10]
def iG:az:=⟨[⟨1,2,false⟩],1,1,1,0,⟨[1],[],0,0,0,0,1,[⟨[0],[],false⟩],1,1⟩⟩
def Xe:aq:=⟨[],[],0,0,0,0,0,[],0,0⟩
def ql:az:={ iG with name:=Xe }
noncomputable def JU:xw:=⟨c172,171,[.cell 2 29]⟩
theorem r65:Ha 65 [a_ iG]=some (.ret (.str mW)):=by kernel_rfl
theorem X4:Oj prog Ha 1000 5 5 JU [.str (mW.drop 33)]=some (.ret (bP iG.name)):=by kernel_rfl
theorem aaF:Ha 121 [.str mW]=some (.ret (.dN [a_ ql,.str (mW.drop 33)])):=by kernel_rfl
end Go.Proofs.Tryz
namespace Go.Proofs.Tryz
open Go Go.AL Go.RowKit Go.Proofs Go.Proofs.Tram
attribute [local simp] dF fc eT dW ef dI dJ cZ c_ ee cW cE gh gj aF aH ev aQ.S aQ.H bz ar aT AL.start AV.cells AV.storable AV.bZ bo bX dS b0 HR.okB post cy cJ cK AV.out AV.bT cb dk fz gI AV.vw df vI int b_ aM cU db gB iN eY dQ bQ AV.aG AV.bH
variable{GI:World->Prop}
theorem Oe(hG:aw GI)(nk:ML GI):AC prog GI 121 [.str mW] (.ret (.dN [a_ ql,.str (mW.drop 33)])):=xr hG nk _ _ _ aaF
theorem SC(hG:aw GI)(nk:ML GI):AC prog GI 65 [a_ iG] (.ret (.str mW)):=xr hG nk _ _ _ r65
theorem Mm:eZ iG:=⟨by decide,by decide,by decide,by decide,λw hw=>by
 simp[iG]at hw;subst hw;decide,λw hw=>by
 simp[iG]at hw;subst hw;decide⟩
theorem Pd(hG:aw GI)(nk:ML GI):AC prog GI 122 [.str (mW.drop 33)] (.ret (.dN [bP iG.name,.int .i64 0])):=
 Uz hG (s:=mW.drop 33) (x:=ae iG.name) (by decide) rfl (Gt hG cV (xr hG nk) (f:=172) (fn:=JU) ⟨f172,_,func172,rfl,ntmps172,rfl,by kernel_rfl,by kernel_rfl⟩ X4) (by
  have:=zq (GI:=GI) hG iG.name Mm.name
  rwa [show aU iG.name=true by kernel_rfl]at this)
noncomputable def yu:af:=af.qb c63.qb.qb.qb
theorem Ip(x:az):(ao x).map AV.aG=ao x:=by simp[ao,ae,AV.aG,vI]
def fI:List AV:=[.slice .nil [],.int .i64 0,.int .i64 0,.int .i64 0,.int .i64 0,.slice .nil [],.slice .nil [],.int .i64 0,.int .i64 0,.int .i64 0,.int .i64 0,.int .i64 0,.slice .nil [],.int .i64 0,.int .i64 0]
theorem Vd(hG:aw GI)(nk:ML GI):AC prog GI 63 [.str mW] (.ret (.dN [a_ iG,.int .i64 0])):=by
 obtain⟨i31,my,mq⟩:=bp (P:=prog) (t:=31) (s:=15) (by kernel_rfl);obtain⟨fs,fE⟩:=cd (P:=prog) (t:=31) (by kernel_rfl);have YS:=Oe hG nk;have YZ:=Pd hG nk;have a77:=oT (GI:=GI) hG iG Mm;rw[show cL iG=true by kernel_rfl]at a77;have hK:iG={ ql with name:=iG.name }:=rfl
 have hlI:¬(530:Int)<mW.length:=by decide
 generalize mW.drop 33=u at*
 generalize mW=t at*
 have mQ:∀ (w0:World) (g:Gh) (S:av) (H:aD) (a:Act) (w:World),GI w0→Rel prog w0 42 cm g S H a w→S 1 = .box 1 0→H 1=some [.str t]→S 4 = .box 4 0→H 4=some fI→S 5 = .box 5 0→H 5=some [.str []] →
    Calls prog 119 #[.func (.func 120) #[] #[a.tmps.getD 1 undef,a.tmps.getD 4 undef,a.tmps.getD 5 undef]] w λen w2=>en=.returned (.int .i64 0)/\∃(c:Value)(g':Gh)(S':av)(H':aD),g'.old=g.old/\Rel prog w0 42 cm g' S' H' (a.put (some 14) c) w2/\S' 2=S 2/\H' 2=H 2/\S' 4=.box 4 0/\H' 4=some (ao ql)/\S' 5=.box 5 0/\H' 5=some [.str u]:=by
  intro w0 g S H a w cT R q1 h1 q4 h4 q5 h5
  refine sW (d:=14) (by kernel_rfl) R λg1 w1 R1 kB _ _=>?_
  refine(Il hG cT R1 (d:=14) (i1:=1) (i4:=4) (i5:=5) (by decide) (by decide) (by decide) (by decide) (by decide) (by decide) (by decide) q1 h1 q4 h4 q5 h5 rfl rfl YS).mono ?_;rintro en w2 ⟨rfl,c,g',S',H',ru,R',rO,rJ⟩;refine⟨rfl,c,g',S',H',ru,R',rO 2 (by decide),?_,by rw[rO 4 (by decide)];exact q4,?_,by rw[rO 5 (by decide)];exact q5,?_⟩
  .rw[rJ];simp[ar]
  .rw[rJ];simp[ar];exact Ip ql
  .rw[rJ];simp[ar]
 refine AC.iF func63 rfl ntmps63 (by simp) λcc w=>?_
 refine dU hG c63.qa (λS' H'=>S' 1=.box 1 0/\H' 1=some [.str t]/\S' 2=.box 2 0/\H' 2=some (fI)) ?_ ?_
 .simp[c63,af.qa,fI]
 rintro S H ⟨s1,h1,s2,h2⟩;refine SW.seq (dU hG c63.qb.qa.qa (λS' H'=>S' 1=.box 1 0/\H' 1=some [.str t]/\S' 2=.box 2 0/\H' 2=some (fI)/\S' 11=.bool false) ?_ ?_)
 .simp[c63,af.qa,af.qb,s1,h1,s2,h2,hlI]
 clear s1 h1 s2 h2 S H;rintro S H ⟨s1,h1,s2,h2,bG⟩;refine SW.cond rfl false (by show S 11=_;rw[bG]) (SW.skip ?_);clear bG;show SW prog GI 42 none (.seq _ (.seq _ (.seq (.seq _ (.seq _ (.cond _ (.seq _ .ret) .skip))) _))) _ _ _ _;refine dU hG c63.qb.qb.qa (λS' H'=>S' 1=.box 1 0/\H' 1=some [.str t]/\S' 2=.box 2 0/\H' 2=some (fI)/\S' 4=.box 4 0/\H' 4=some (fI)) ?_ ?_
 .simp[c63,af.qa,af.qb,s1,h1,s2,h2,fI]
 clear s1 h1 s2 h2 S H;rintro S H ⟨s1,h1,s2,h2,s4,h4⟩;refine dU hG c63.qb.qb.qb.qa (λS' H'=>S' 1=.box 1 0/\H' 1=some [.str t]/\S' 2=.box 2 0/\H' 2=some (fI)/\S' 4=.box 4 0/\H' 4=some (fI)/\S' 5=.box 5 0/\H' 5=some [.str []]) ?_ ?_
 .simp[c63,af.qa,af.qb,s1,h1,s2,h2,s4,h4]
 clear s1 h1 s2 h2 s4 h4 S H;rintro S3 H3 ⟨s1,h1,s2,h2,s4,h4,s5,h5⟩
 refine SW.seq (SW.seq (SW.hand hG (p:=0) (lm:=[0,1]) (l2:=[2]) (kd:=[]) (oh:=[_,_]) (lI:=[_]) rfl rfl rfl rfl (by kernel_rfl) (λ_ h=>h) (lU:=[]) (kZ:=(c63.qb.qb.qb.qb.qa.qa.dl).drop 2) rfl (by kernel_rfl) rfl (by kernel_rfl)
  (K1:=λS' H'=>S' 1=.box 1 0/\H' 1=some [.str t]/\S' 2=.box 2 0/\H' 2=some (fI)/\S' 4=.box 4 0/\H' 4=some (fI)/\S' 5=.box 5 0/\H' 5=some [.str []])
  (K2:=λo S' H'=>o=Old.plain cc w/\S' 2=.box 2 0/\H' 2=some (fI)/\S' 4=.box 4 0/\H' 4=some (ao ql)/\S' 5=.box 5 0/\H' 5=some [.str u]/\S' 14=.int .i64 0)
  (K3:=λo S' H'=>o=Old.plain cc w/\S' 2=.box 2 0/\H' 2=some (fI)/\S' 4=.box 4 0/\H' 4=some (ao ql)/\S' 5=.box 5 0/\H' 5=some [.str u]/\S' 6=.int .i64 0) ⟨s1,h1,s2,h2,s4,h4,s5,h5⟩ ?_ ?_ ?_))
 .rintro w0 g S5 H5 a w5 m cT ho R ⟨s1,h1,s2,h2,s4,h4,s5,h5⟩;have bq:=R.size;refine aV rfl rfl (by rfl) (lP (fn:=.func 120) (c:=#[.tmp 1,.tmp 4,.tmp 5]) rfl) ?_
  obtain⟨fv,kM⟩:∃fv:Value,fv=.func (.func 120) #[] (#[Operand.tmp 1,.tmp 4,.tmp 5].map a.eval):=⟨_,rfl⟩
  show wpOpsIn _ _ _ _ _ [1] (a.put (some 13) (.func (.func 120) #[] (#[Operand.tmp 1,.tmp 4,.tmp 5].map a.eval))) w5;rw[<-kM];have R1:=R.put 13 .br fv (by decide) (.br _) trivial
  obtain⟨a1,oX⟩:∃a1,a.put (some 13) fv=a1:=⟨_,rfl⟩
  rw[oX]at R1⊢
  have wP:fv=.func (.func 120) #[] #[a1.tmps.getD 1 undef,a1.tmps.getD 4 undef,a1.tmps.getD 5 undef]:=by
   have e1:=bB a 13 1 fv (by omega);have e2:=bB a 13 4 fv (by omega);have e4:=bB a 13 5 fv (by omega);rw[if_neg (by decide),oX]at e1 e2 e4;have BG:a1.tmps.getD 1 undef=a.eval (.tmp 1):=e1;have Pb:a1.tmps.getD 4 undef=a.eval (.tmp 4):=e2;have EN:a1.tmps.getD 5 undef=a.eval (.tmp 5):=e4;rw[BG,Pb,EN,kM];simp only[adK,adC,adO]
  have jt:a1.eval (.tmp 13)=fv:=by rw[<-oX,bB _ _ _ _ (by omega),if_pos rfl]
  refine fH rfl rfl (by rfl) (gK (k:=119) (args:=#[.func (.func 120) #[] #[a1.tmps.getD 1 undef,a1.tmps.getD 4 undef,a1.tmps.getD 5 undef]]) w5 rfl rfl ?_ (by kernel_rfl)) (mQ w0 g _ _ a1 w5 cT R1 (by simp[ar,s1]) h1 (by simp[ar,s4]) h4 (by simp[ar,s5]) h5) ?_
  .simp only[adK,adC,adO,jt,<-wP]
  .rintro en w6 ⟨rfl,c,g',S',H',ru,R2,qO,rM,AX,Fh,vd,zZ⟩;refine⟨_,rfl,?_⟩;have R3:=R2.put 14 (.int .i64 0) (.int .i64 0) (by decide) (.data _ _ (.int _ _)) trivial;rw[n_]at R3;exact⟨g',_,H',R3,ru.trans ho,by rw[bj _ _ (by decide),qO];simp[ar,s2],rM.trans h2,by rw[bj _ _ (by decide)];exact AX,Fh,by rw[bj _ _ (by decide)];exact vd,zZ,aS _ _ _⟩
 .rintro o S5 H5 ⟨rfl,s2,h2,s4,h4,s5,h5,di⟩;refine⟨λ_ h=>h,?_⟩;simp[c63,af.qa,af.qb,af.dl,s2,h2,s4,h4,s5,h5,di]
 rintro o S5 H5 ⟨rfl,s2,h2,s4,h4,s5,h5,s6⟩;clear s1 h1;show SW prog GI 42 none (.seq _ (.cond _ (.seq _ .ret) .skip)) _ _ _ _;refine dU hG c63.qb.qb.qb.qb.qa.qb.qa (λS' H'=>S' 2=.box 2 0/\H' 2=some (fI)/\S' 4=.box 4 0/\H' 4=some (ao ql)/\S' 5=.box 5 0/\H' 5=some [.str u]/\S' 6=.int .i64 0/\S' 16=.bool false) ?_ ?_
 .simp[c63,af.qa,af.qb,s2,h2,s4,h4,s5,h5,s6]
 clear s2 h2 s4 h4 s5 h5 s6;rintro S6 H6 ⟨s2,h2,s4,h4,s5,h5,s6,eV⟩;refine SW.cond rfl false (by show S6 16=_;rw[eV]) (SW.skip ?_);clear s6 eV;show SW prog GI 42 none (.seq _ (.seq (.seq _ (.cond _ (.seq _ .ret) .skip)) (.seq _ (.seq (.seq _ (.cond _ (.seq _ .ret) .skip)) (.seq _ .ret))))) _ _ _ _;refine dU hG yu.qb.qa (λS' H'=>S' 2=.box 2 0/\H' 2=some (fI)/\S' 4=.box 4 0/\H' 4=some (ao ql)/\S' 7=.box 7 0/\H' 7=some (ae iG.name)/\S' 8=.int .i64 0) ?_ ?_
 .simp[c63,yu,af.qa,af.qb,s5,h5];refine oc YZ ?_;simp[s2,h2,s4,h4,bP,ae]
 clear s2 h2 s4 h4 s5 h5;rintro S7 H7 ⟨s2,h2,s4,h4,s7,h7,s8⟩;refine SW.seq (dU hG yu.qb.qb.qa.qa (λS' H'=>S' 2=.box 2 0/\H' 2=some (fI)/\S' 4=.box 4 0/\H' 4=some (ao ql)/\S' 7=.box 7 0/\H' 7=some (ae iG.name)/\S' 8=.int .i64 0/\S' 29=.bool false) ?_ ?_)
 .simp[c63,yu,af.qa,af.qb,s2,h2,s4,h4,s7,h7,s8]
 clear s2 h2 s4 h4 s7 h7 s8;rintro S7 H7 ⟨s2,h2,s4,h4,s7,h7,s8,Y1⟩;refine SW.cond rfl false (by show S7 29=_;rw[Y1]) (SW.skip ?_);clear Y1;show SW prog GI 42 none (.seq _ (.seq (.seq _ (.cond _ (.seq _ .ret) .skip)) (.seq _ .ret))) _ _ _ _;refine dU hG yu.qb.qb.qb.qa (λS' H'=>S' 2=.box 2 0/\H' 2=some (fI)/\S' 4=.box 4 0/\H' 4=some (ao iG)/\S' 8=.int .i64 0) ?_ ?_
 .simp[c63,yu,af.qa,af.qb,s2,h2,s4,h4,s7,h7,s8,ao,ae,ql,iG,Xe]
 clear s2 h2 s4 h4 s7 h7 s8;rintro S7 H7 ⟨s2,h2,s4,h4,s8⟩;refine SW.seq (dU hG yu.qb.qb.qb.qb.qa.qa (λS' H'=>S' 2=.box 2 0/\H' 2=some (fI)/\S' 4=.box 4 0/\H' 4=some (ao iG)/\S' 39=.bool false) ?_ ?_)
 .simp[c63,yu,af.qa,af.qb,s2,h2,s4,h4,s8,ao,ae];refine oc a77 ?_;simp[s2,h2,s4,h4,s8,ao,ae]
 clear s2 h2 s4 h4 s8;rintro S7 H7 ⟨s2,h2,s4,h4,s39⟩;refine SW.cond rfl false (by show S7 39=_;rw[s39]) (SW.skip ?_);show SW prog GI 42 none (.seq _ .ret) _ _ _ _;refine dU hG yu.qb.qb.qb.qb.qb.qa (λS' H'=>S' 2=.box 2 0/\S' 3=.int .i64 0/\H' 2=some (ao iG)) ?_ ?_
 .simp[c63,yu,af.qa,af.qb,s2,h2,s4,h4,ao,ae,fI]
 clear s2 h2 s4 h4;rintro S8 H8 ⟨s2,s3,h2⟩;refine SW.ret ⟨eD.plain rfl,rfl,_,?_,rfl⟩;show cy prog 42 [.cell 2 31,.tmp 3] S8 H8=_;simp[cy,cJ,cK,s2,s3,h2,my,fE,mq,b0,eS,AV.out,AV.aG,AV.bT,AV.vw,AV.bH,a_,ao,ae,vI]
theorem Bn:vG jr=[vI [1],.int .i64 0]:=by kernel_rfl
theorem XZ(hG:aw GI)(nk:ML GI):AC prog GI 22 [] (.ret (.bool true)):=by
 have d:=aai (GI:=GI) hG;have a:=J8 (GI:=GI) hG;have b:=aad (GI:=GI) hG;have q1:=ZW (GI:=GI) hG sr Ky;have q2:=Yz (GI:=GI) hG jr oC;have q3:=ZI (GI:=GI) hG jr oC [3,2,2,4,5,1] (by decide);have q4:=VZ (GI:=GI) hG jr oC;have q5:=aaB (GI:=GI) hG sr Ky;have q6:=Yn (GI:=GI) hG jr oC 1;have q7:=ZV (GI:=GI) hG jr oC;have q8:=Zq (GI:=GI) hG xm Ml;have q9:=Y3 (GI:=GI) hG jr oC;have q10:=Z0 (GI:=GI) hG xm Ml;have XH:=Sc (GI:=GI) hG jr oC;have q12:=Vd hG nk;have q13:=SC hG nk;rw[AH]at q1;rw[A5]at q2;rw[CN]at q3;rw[Du]at q4;rw[BP]at q5;rw[Dk]at q6;rw[CK]at q7;rw[Ep]at q8;rw[BU]at q9;rw[Dn]at q10;rw[Bn]at XH;have p1:=NV (GI:=GI) hG [9] [9] (by decide);have p2:=aaz (GI:=GI) hG [(1,1),(3,5)] [(1,1),(3,5)] (by decide);have p3:=NV (GI:=GI) hG [1] [1] (by decide);refine bW hG func22 ntmps22 c22 ?_;refine aI (λS H=>S 0=.bool false) (by simp) ?_
 rintro S H -
 refine aI (λS H=>S 1=vI [9]/\S 2=.int .i64 0) ?_ ?_
 .simp;refine oc d ?_;simp[a_,ao,ae];refine oc q1 ?_;simp
 clear S H;rintro S H ⟨s1,s2⟩;refine aI (λS H=>S 1=vI [9]/\S 2=.int .i64 0/\S 3=.slice .view (aO [(1,1),(3,5)])/\S 4=.int .i64 0) ?_ ?_
 .simp[s1,s2];refine oc a ?_;simp[a_,ao,ae,s1,s2];refine oc q2 ?_;simp[s1,s2]
 clear s1 s2 S H;rintro S H ⟨s1,s2,s3,s4⟩;refine aI (λS H=>S 1=vI [9]/\S 2=.int .i64 0/\S 3=.slice .view (aO [(1,1),(3,5)])/\S 4=.int .i64 0/\S 5=.int .i64 2/\S 6=.int .i64 0) ?_ ?_
 .simp[s1,s2,s3,s4];refine oc a ?_;simp[a_,ao,ae,s1,s2,s3,s4];refine oc q3 ?_;simp[s1,s2,s3,s4]
 clear s1 s2 s3 s4 S H;rintro S H ⟨s1,s2,s3,s4,s5,s6⟩;refine aI (λS H=>S 1=vI [9]/\S 2=.int .i64 0/\S 3=.slice .view (aO [(1,1),(3,5)])/\S 4=.int .i64 0/\S 5=.int .i64 2/\S 6=.int .i64 0/\S 7=.int .i64 1/\S 8=.int .i64 0) ?_ ?_
 .simp[s1,s2,s3,s4,s5,s6];refine oc a ?_;simp[a_,ao,ae,s1,s2,s3,s4,s5,s6];refine oc q4 ?_;simp[s1,s2,s3,s4,s5,s6]
 clear s1 s2 s3 s4 s5 s6 S H;rintro S H ⟨s1,s2,s3,s4,s5,s6,s7,s8⟩;refine aI (λS H=>S 1=vI [9]/\S 2=.int .i64 0/\S 3=.slice .view (aO [(1,1),(3,5)])/\S 4=.int .i64 0/\S 5=.int .i64 2/\S 6=.int .i64 0/\S 7=.int .i64 1/\S 8=.int .i64 0/\S 9=.int .i64 1/\S 10=.int .i64 0) ?_ ?_
 .simp[s1,s2,s3,s4,s5,s6,s7,s8];refine oc d ?_;simp[a_,ao,ae,s1,s2,s3,s4,s5,s6,s7,s8];refine oc q5 ?_;simp[s1,s2,s3,s4,s5,s6,s7,s8]
 clear s1 s2 s3 s4 s5 s6 s7 s8 S H;rintro S H ⟨s1,s2,s3,s4,s5,s6,s7,s8,s9,bL⟩;refine aI (λS H=>S 1=vI [9]/\S 2=.int .i64 0/\S 3=.slice .view (aO [(1,1),(3,5)])/\S 4=.int .i64 0/\S 5=.int .i64 2/\S 6=.int .i64 0/\S 7=.int .i64 1/\S 8=.int .i64 0/\S 9=.int .i64 1/\S 10=.int .i64 0/\S 11=.int .i64 2/\S 12=.int .i64 0) ?_ ?_
 .simp[s1,s2,s3,s4,s5,s6,s7,s8,s9,bL];refine oc a ?_;simp[a_,ao,ae,s1,s2,s3,s4,s5,s6,s7,s8,s9,bL];refine oc q6 ?_;simp[s1,s2,s3,s4,s5,s6,s7,s8,s9,bL]
 clear s1 s2 s3 s4 s5 s6 s7 s8 s9 bL S H;rintro S H ⟨s1,s2,s3,s4,s5,s6,s7,s8,s9,bL,bG,bU⟩;refine aI (λS H=>S 1=vI [9]/\S 2=.int .i64 0/\S 3=.slice .view (aO [(1,1),(3,5)])/\S 4=.int .i64 0/\S 5=.int .i64 2/\S 6=.int .i64 0/\S 7=.int .i64 1/\S 8=.int .i64 0/\S 9=.int .i64 1/\S 10=.int .i64 0/\S 11=.int .i64 2/\S 12=.int .i64 0/\S 13=.int .i64 1/\S 14=.int .i64 4/\S 15=.int .i64 0) ?_ ?_
 .simp[s1,s2,s3,s4,s5,s6,s7,s8,s9,bL,bG,bU];refine oc a ?_;simp[a_,ao,ae,s1,s2,s3,s4,s5,s6,s7,s8,s9,bL,bG,bU];refine oc q7 ?_;simp[s1,s2,s3,s4,s5,s6,s7,s8,s9,bL,bG,bU]
 clear s1 s2 s3 s4 s5 s6 s7 s8 s9 bL bG bU S H;rintro S H ⟨s1,s2,s3,s4,s5,s6,s7,s8,s9,bL,bG,bU,cz,di,gm⟩;refine aI (λS H=>S 1=vI [9]/\S 2=.int .i64 0/\S 3=.slice .view (aO [(1,1),(3,5)])/\S 4=.int .i64 0/\S 5=.int .i64 2/\S 6=.int .i64 0/\S 7=.int .i64 1/\S 8=.int .i64 0/\S 9=.int .i64 1/\S 10=.int .i64 0/\S 11=.int .i64 2/\S 12=.int .i64 0/\S 13=.int .i64 1/\S 14=.int .i64 4/\S 15=.int .i64 0/\S 16=.int .i64 3/\S 17=.int .i64 0) ?_ ?_
 .simp[s1,s2,s3,s4,s5,s6,s7,s8,s9,bL,bG,bU,cz,di,gm];refine oc b ?_;simp[a_,ao,ae,s1,s2,s3,s4,s5,s6,s7,s8,s9,bL,bG,bU,cz,di,gm];refine oc q8 ?_;simp[s1,s2,s3,s4,s5,s6,s7,s8,s9,bL,bG,bU,cz,di,gm]
 clear s1 s2 s3 s4 s5 s6 s7 s8 s9 bL bG bU cz di gm S H;rintro S H ⟨s1,s2,s3,s4,s5,s6,s7,s8,s9,bL,bG,bU,cz,di,gm,eV,jS⟩;refine aI (λS H=>S 1=vI [9]/\S 2=.int .i64 0/\S 3=.slice .view (aO [(1,1),(3,5)])/\S 4=.int .i64 0/\S 5=.int .i64 2/\S 6=.int .i64 0/\S 7=.int .i64 1/\S 8=.int .i64 0/\S 9=.int .i64 1/\S 10=.int .i64 0/\S 11=.int .i64 2/\S 12=.int .i64 0/\S 13=.int .i64 1/\S 14=.int .i64 4/\S 15=.int .i64 0/\S 16=.int .i64 3/\S 17=.int .i64 0/\S 18=.int .i64 1/\S 19=.int .i64 0) ?_ ?_
 .simp[s1,s2,s3,s4,s5,s6,s7,s8,s9,bL,bG,bU,cz,di,gm,eV,jS];refine oc a ?_;simp[a_,ao,ae,s1,s2,s3,s4,s5,s6,s7,s8,s9,bL,bG,bU,cz,di,gm,eV,jS];refine oc q9 ?_;simp[s1,s2,s3,s4,s5,s6,s7,s8,s9,bL,bG,bU,cz,di,gm,eV,jS]
 clear s1 s2 s3 s4 s5 s6 s7 s8 s9 bL bG bU cz di gm eV jS S H;rintro S H ⟨s1,s2,s3,s4,s5,s6,s7,s8,s9,bL,bG,bU,cz,di,gm,eV,jS,ka,p6⟩;refine aI (λS H=>S 1=vI [9]/\S 2=.int .i64 0/\S 3=.slice .view (aO [(1,1),(3,5)])/\S 4=.int .i64 0/\S 5=.int .i64 2/\S 6=.int .i64 0/\S 7=.int .i64 1/\S 8=.int .i64 0/\S 9=.int .i64 1/\S 10=.int .i64 0/\S 11=.int .i64 2/\S 12=.int .i64 0/\S 13=.int .i64 1/\S 14=.int .i64 4/\S 15=.int .i64 0/\S 16=.int .i64 3/\S 17=.int .i64 0/\S 18=.int .i64 1/\S 19=.int .i64 0/\S 20=.int .i64 4/\S 21=.int .i64 2/\S 22=.int .i64 0) ?_ ?_
 .simp[s1,s2,s3,s4,s5,s6,s7,s8,s9,bL,bG,bU,cz,di,gm,eV,jS,ka,p6];refine oc b ?_;simp[a_,ao,ae,s1,s2,s3,s4,s5,s6,s7,s8,s9,bL,bG,bU,cz,di,gm,eV,jS,ka,p6];refine oc q10 ?_;simp[s1,s2,s3,s4,s5,s6,s7,s8,s9,bL,bG,bU,cz,di,gm,eV,jS,ka,p6]
 clear s1 s2 s3 s4 s5 s6 s7 s8 s9 bL bG bU cz di gm eV jS ka p6 S H;rintro S H ⟨s1,s2,s3,s4,s5,s6,s7,s8,s9,bL,bG,bU,cz,di,gm,eV,jS,ka,p6,nf,lV,tB⟩;refine aI (λS H=>S 1=vI [9]/\S 2=.int .i64 0/\S 3=.slice .view (aO [(1,1),(3,5)])/\S 4=.int .i64 0/\S 5=.int .i64 2/\S 6=.int .i64 0/\S 7=.int .i64 1/\S 8=.int .i64 0/\S 9=.int .i64 1/\S 10=.int .i64 0/\S 11=.int .i64 2/\S 12=.int .i64 0/\S 13=.int .i64 1/\S 14=.int .i64 4/\S 15=.int .i64 0/\S 16=.int .i64 3/\S 17=.int .i64 0/\S 18=.int .i64 1/\S 19=.int .i64 0/\S 20=.int .i64 4/\S 21=.int .i64 2/\S 22=.int .i64 0/\S 23=vI [1]/\S 24=.int .i64 0) ?_ ?_
 .simp[s1,s2,s3,s4,s5,s6,s7,s8,s9,bL,bG,bU,cz,di,gm,eV,jS,ka,p6,nf,lV,tB];refine oc a ?_;simp[a_,ao,ae,s1,s2,s3,s4,s5,s6,s7,s8,s9,bL,bG,bU,cz,di,gm,eV,jS,ka,p6,nf,lV,tB];refine oc XH ?_;simp[s1,s2,s3,s4,s5,s6,s7,s8,s9,bL,bG,bU,cz,di,gm,eV,jS,ka,p6,nf,lV,tB]
 clear s1 s2 s3 s4 s5 s6 s7 s8 s9 bL bG bU cz di gm eV jS ka p6 nf lV tB S H;rintro S H ⟨s1,s2,s3,s4,s5,s6,s7,s8,s9,bL,bG,bU,cz,di,gm,eV,jS,ka,p6,nf,lV,tB,pw,u_⟩;refine aI (λS H=>S 1=vI [9]/\S 2=.int .i64 0/\S 3=.slice .view (aO [(1,1),(3,5)])/\S 4=.int .i64 0/\S 5=.int .i64 2/\S 6=.int .i64 0/\S 7=.int .i64 1/\S 8=.int .i64 0/\S 9=.int .i64 1/\S 10=.int .i64 0/\S 11=.int .i64 2/\S 12=.int .i64 0/\S 13=.int .i64 1/\S 14=.int .i64 4/\S 15=.int .i64 0/\S 16=.int .i64 3/\S 17=.int .i64 0/\S 18=.int .i64 1/\S 19=.int .i64 0/\S 20=.int .i64 4/\S 21=.int .i64 2/\S 22=.int .i64 0/\S 23=vI [1]/\S 24=.int .i64 0/\S 25=.box 25 0/\H 25=some (ao iG)/\S 26=.int .i64 0) ?_ ?_
 .simp[s1,s2,s3,s4,s5,s6,s7,s8,s9,bL,bG,bU,cz,di,gm,eV,jS,ka,p6,nf,lV,tB,pw,u_];refine oc q12 ?_;simp[a_,ao,ae,s1,s2,s3,s4,s5,s6,s7,s8,s9,bL,bG,bU,cz,di,gm,eV,jS,ka,p6,nf,lV,tB,pw,u_]
 clear s1 s2 s3 s4 s5 s6 s7 s8 s9 bL bG bU cz di gm eV jS ka p6 nf lV tB pw u_ S H;rintro S H ⟨s1,s2,s3,s4,s5,s6,s7,s8,s9,bL,bG,bU,cz,di,gm,eV,jS,ka,p6,nf,lV,tB,pw,u_,lS,yk,tF⟩;refine aI (λS H=>S 1=vI [9]/\S 3=.slice .view (aO [(1,1),(3,5)])/\S 5=.int .i64 2/\S 7=.int .i64 1/\S 9=.int .i64 1/\S 11=.int .i64 2/\S 13=.int .i64 1/\S 14=.int .i64 4/\S 16=.int .i64 3/\S 18=.int .i64 1/\S 20=.int .i64 4/\S 21=.int .i64 2/\S 23=vI [1]/\S 25=.box 25 0/\H 25=some (ao iG)) ?_ ?_
 .simp[s1,s3,s5,s7,s9,bG,cz,di,eV,ka,nf,lV,pw,lS,yk,s2,s4,s6,s8,bL,bU,gm,jS,p6,tB,u_,tF]
 clear s1 s3 s5 s7 s9 bG cz di eV ka nf lV pw lS yk s2 s4 s6 s8 bL bU gm jS p6 tB u_ tF S H;rintro S H ⟨s1,s3,s5,s7,s9,bG,cz,di,eV,ka,nf,lV,pw,lS,yk⟩;refine aI (λS H=>S 16=.int .i64 3/\S 18=.int .i64 1/\S 20=.int .i64 4/\S 21=.int .i64 2/\S 23=vI [1]/\S 25=.box 25 0/\H 25=some (ao iG)) ?_ ?_
 .simp[s1,s3,s5,s7,s9,bG,cz,di,eV,ka,nf,lV,pw,lS,yk,aJ];refine oc p1 ?_;simp[s1,s3,s5,s7,s9,bG,cz,di,eV,ka,nf,lV,pw,lS,yk,aJ,bI];refine oc p2 ?_;simp[s1,s3,s5,s7,s9,bG,cz,di,eV,ka,nf,lV,pw,lS,yk,aJ,bI]
 clear s1 s3 s5 s7 s9 bG cz di eV ka nf lV pw lS yk S H;rintro S H ⟨eV,ka,nf,lV,pw,lS,yk⟩;simp[eV,ka,nf,lV,pw,lS,yk,aJ];refine oc p3 ?_;simp[eV,ka,nf,lV,pw,lS,yk,aJ,bI];refine oc q13 ?_;simp[mW]
theorem acN(hG:aw GI)(nk:ML GI)(s:az):AC prog GI 14 [a_ s] (.ret (.bool true)):=by
 have k:=XZ hG nk;have BI:=Xs (GI:=GI) hG s
 cases cM:q_ s with
 |false=>
  rw[cM]at BI;refine bW hG func14 ntmps14 c14 ?_;simp[c14,a_,ao,ae];refine oc BI ?_;simp;refine oc k ?_;simp
 |true=>
 rw[cM]at BI;obtain⟨hs,ni,pv⟩:=vQ cM;have Ch:=Sc (GI:=GI) hG s hs;have Xx:=aaJ (GI:=GI) hG s hs;unfold vG at Ch;refine bW hG func14 ntmps14 c14 ?_;refine aI (λS H=>S 1=.box 1 0/\H 1=some (ao s)) (by simp[a_,ao,ae]) ?_;rintro S H ⟨s1,h1⟩;refine aI (λS H=>S 1=.box 1 0/\H 1=some (ao s)) ?_ ?_
 .simp[s1,h1,ao,ae];refine oc BI ?_;simp[s1,h1,ao,ae]
 clear s1 h1 S H;rintro S H ⟨s1,h1⟩
 cases hI:cL s with
 |false=>
  rw[hI]at Xx Ch;have RX:AC prog GI 56 [a_ s] (.ret (.dN [vI [],.int .i64 2])):=Ch;simp[s1,h1,ao,ae];refine oc (RX) ?_;simp[s1,h1,ao,ae];refine oc Xx ?_;simp[ints];refine oc k ?_;simp
 |true=>
 rw[hI]at Xx;rw[if_pos hI]at Ch;unfold sH at Ch;have Z2:=acd (GI:=GI) hG s hs hI;unfold ON at Z2
 have hlen:∀l,kG s=some l->l.length<1000:=λl hl=>by
  rw[<-I4]at hl;obtain⟨d,hd,hm⟩:=adR.1 (afx hl);have:=HG d _ hm;have:=adF.1 hd;have:=(eg (er hI).name).words
  simp at*
  omega
 cases hT:kG s with
 |none=>
  rw[hT]at Ch Z2;have RX:AC prog GI 56 [a_ s] (.ret (.dN [vI [],.int .i64 5])):=Ch;have XY:AC prog GI 57 [a_ s] (.ret (.dN [vI [],.bool false])):=Z2;simp[s1,h1,ao,ae];refine oc (RX) ?_;simp[s1,h1,ao,ae];refine oc Xx ?_;simp[s1,h1,ao,ae];refine oc (XY) ?_;simp[ints];refine oc k ?_;simp
 |some l=>
  rw[hT]at Ch Z2;have RX:AC prog GI 56 [a_ s] (.ret (.dN [vI l,.int .i64 0])):=Ch;have XY:AC prog GI 57 [a_ s] (.ret (.dN [vI l,.bool true])):=Z2;have q58:=NV (GI:=GI) hG l l (by have:=hlen l hT;omega);rw[beq_self_eq_true]at q58;simp[s1,h1,ao,ae];refine oc (RX) ?_;simp[s1,h1,ao,ae];refine oc Xx ?_;simp[s1,h1,ao,ae];refine oc (XY) ?_;simp;refine oc q58 ?_;simp;refine oc k ?_;simp
end Go.Proofs.Tryz
namespace Go.Proofs.YtdiflocclemeaaaGreatDoor
open Go Go.AL Go.ChangeShapes Go.WideShapes Go.ChangeAt Go.RowKit Go.Proofs.Tryz
namespace Leaves
abbrev row:OpenClaim:=Rows.tramLeavesRow
abbrev spec:ChangeSpec:=Rows.tramLeavesSpec
theorem call (W:World) (base:Nat) (args:Array Value) {H:Type} {enc:TypeId×Value→H} (ds:List (DataW H)) (p:List MemPlace) (hG:GI W) (vr:∀ (j:Nat) t v,Tryz.f14.params[j]? = some t→args[j]? = some v→Value.okWide Tryz.prog W .any base t v)
  (hA:DataW.TrodAll enc Tryz.prog W 0 (λ_=>true) true Tryz.f14.params.toList args.toList ds p):Calls Tryz.prog 14 args W λe W'=>e=.returned (.bool true)/\Below W.heap.size W W':=by
 rw[Tryz.params14]at hA vr;obtain⟨v0,OL,d0,ds0,p0,q0,e0,rfl,rfl,h0,DZ⟩:=trodAll_cons hA;obtain⟨rfl,rfl,rfl⟩:=trodAll_nil DZ
 obtain rfl:args=#[v0]:=by
  apply Array.toList_inj.1;rw[e0]
 obtain⟨x0,g0,a0⟩:=Ar (vr 0 31 v0 rfl rfl) h0
 refine IF (acN Eg (λ_ h=>h) x0) hG rfl λi h h'=>?_
 match i,h with
 |0,_=>exact .data _ _ a0
theorem w1(os:Os):((World.laidAll Tryz.prog os row.laid).forCall (λ_ _=>0) ⟨#[],#[.agg #[.slice none 0 0,.int .i64 0,.int .i64 0,.int .i64 0,.int .i64 0,.slice none 0 0,.slice none 0 0,.int .i64 0,.int .i64 0,.int .i64 0,.int .i64 0,.int .i64 0,.slice none 0 0,.int .i64 0,.int .i64 0]],[]⟩).Shaped Tryz.checked.prog:=
 World.shaped_of_ZipB (by kernel_rfl) (by kernel_rfl)
theorem lifted (os:Os) (started:os.Started) (H:Type) (enc:TypeId×Value→H) :
  ReturnsInHanded {} Tryz.checked os 14 .any (λw args=>(spec.pre enc Tryz.prog Tryz.f14 row.domain false w args/\laidMetH Tryz.prog row.laid w)/\sizedMet enc Tryz.prog Tryz.f14 (OpenSpec.ofChange spec) false w args)
   (spec.post enc Tryz.prog Tryz.f14 false true false false):=by
 refine Ff 14 Tryz.f14 Tryz.func14 (by kernel_rfl) (by kernel_rfl) spec rfl ?_ ?_ os started _ 12 (w1 os) (by kernel_rfl) (by kernel_rfl) (by kernel_rfl) ?_ (λW base args ds p=>call W base args ds p)
 .intro ds hl;rw[show Tryz.f14.params.size=1 by kernel_rfl]at hl
  match ds,hl with
  |[d0],_=>rfl
 .rw[Tryz.params14];intro t ht
  have:t=31:=by simpa using ht
  rcases this with rfl
  all_goals exact⟨by kernel_rfl,aeQ (by kernel_rfl)⟩
 .rw[MakeChecks.laidMetH_plain _ _ _ (by kernel_rfl)];exact laidMet_laidAll _ (by kernel_rfl) (by kernel_rfl)
theorem B1:Tryz.prog.funcNamed "mahlstick/mahlsticklaw09.TramLeaves" = some 14:=by kernel_rfl
theorem Er:(row.inPlace==Tryz.prog.inPlace 14)=true:=by kernel_rfl
theorem yt:(row.unfollowed==Tryz.prog.unfollowed 14)=true:=by kernel_rfl
theorem C2:(row.recurses==Tryz.prog.recurses 14)=true:=by kernel_rfl
theorem OO:(row.named==Tryz.prog.varsNamed 14)=true:=by kernel_rfl
theorem Pf:joinedFacts Tryz.prog 14 Tryz.f14 spec row=true:=
 FL ⟨rfl,rfl,rfl,rfl,rfl,rfl⟩ (by kernel_rfl) (by kernel_rfl) (by kernel_rfl) Er yt C2 OO (by kernel_rfl) (by kernel_rfl) (by kernel_rfl) (by kernel_rfl)
theorem BW:Tryz.f14.isInstance Tryz.prog row.origin row.targs:=aeQ (by kernel_rfl)
theorem Fy:Tryz.f14.isWrapper Tryz.prog row.wrapper row.mainSum:=by
 unfold Func.isWrapper;rw[if_neg (by decide+kernel)];exact⟨rfl,rfl⟩
theorem holds:Rows.TramLeavesSaid:=
 OpenClaim.holds_of_wide 14 Tryz.f14 rfl rfl rfl rfl rfl rfl rfl ⟨rfl,rfl,rfl,rfl,rfl⟩ rfl rfl rfl rfl rfl B1 Tryz.func14 Pf BW Fy (λos started H enc _=>lifted os started H enc)
theorem YM:row.wfByText (OpenSpec.ofChange spec)=true:=by kernel_rfl
theorem PZ:false=row.goesBy Tryz.prog:=by kernel_rfl
theorem MB:([31].all λu=>!Tryz.prog.wantsStandIn u)=true:=by kernel_rfl
theorem Po:Tryz.prog.mainIs=some (true, "6409d79c938881258cf6c01a4bbb5b9da95cffe89bf69844c1f6e37b46348158".toList):=by rw [Hi,Vg]
theorem card:Rows.TramLeavesCardSaid:=
 Claim7.holds_tied_plain_at .later [] [.data,.data,.data,.data,.pinned] true (true, "6409d79c938881258cf6c01a4bbb5b9da95cffe89bf69844c1f6e37b46348158") true holds (λ_ h=>by cases h) YM (λ_ h=>by cases h) tramLeaves_row_tie rfl ⟨rfl,rfl⟩ Po rfl
  (λf fn hf QF=>by
   obtain rfl:f=14:=adw (B1.symm.trans hf)|>.symm
   obtain rfl:fn=Tryz.f14:=(adw (Tryz.func14.symm.trans QF)).symm;refine⟨LF,λj t ht=>?_⟩;rw[Tryz.params14]at ht
   have hm:t∈[31]:=by
    simpa using aeM ht
   exact(show Tryz.prog.wantsStandIn t=false by simpa using adu.1 MB t hm))
  PZ
end Leaves
#print axioms Leaves.card
end Go.Proofs.YtdiflocclemeaaaGreatDoor
