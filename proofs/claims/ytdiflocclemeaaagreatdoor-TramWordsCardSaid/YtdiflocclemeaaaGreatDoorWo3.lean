/-
  A part of the proof.
-/
import Derived.Test.YtdiflocclemeaaaGreatDoorWo2
import Derived.Test.YtdiflocclemeaaaGreatDoorTie
import Derived.Test.YtdiflocclemeaaaGreatDoorCards
set_option maxRecDepth 100000
set_option maxHeartbeats 8000000
set_option linter.all false
set_option linter.unusedVariables false
set_option linter.unusedSimpArgs false
set_option linter.deprecated false
namespace Go.Proofs.Tryz
open Go Go.AL Go.RowKit Go.Proofs Go.Proofs.Tram
variable{GI:World->Prop}
theorem ml(a:Act)(d:Nat)(c c':Value):(a.put (some d) c).put (some d) c'=a.put (some d) c':=by
 simp[Act.put]
theorem IM(s:aq):(AV.agg (ao s)).vw=.agg (ao s):=by simp[AV.vw,ao,ae,AV.cm,vI]
theorem Ab{Pr:Nat->Nat->Prop}{w:World}{n:Int}{c:Value}(h:RD Pr w (ll n) c):c=.iface 192 (.agg #[.int .i64 n]):=by
 unfold ll at h
 cases h with
 |iface _ _ c h=>
  cases h with
  |agg _ vs hl h1 hr=>
   obtain⟨u,rfl⟩:=l4 (vs:=vs) (by rw[<-hl];rfl);have:=hr 0 (by simp) (by simp);have:=(RV.data (al:=cd) _ _ this).int_eq;simp only[List.getElem_toArray,List.getElem_cons_zero]at this;rw[this]
section
variable{w0:World}{n:Nat}{g:Gh}{S:aF}{H:aK}{a:Act}{w:World}{d i2 i6:Nat}{s:aq}{z:List AV}
theorem mT (hG:au GI) (dS:GI w0) (R:Rel prog w0 n dU g S H a w) (hd:d < n) (p8:i2 < n) (vk:i6 < n) (vl:d≠i6)
  (oB:S i2=.box i2 0) (pq:H i2=some (ao s)) (vb:S i6=.box i6 0) (wS:H i6=some z) {R':Ending->World->Prop}
  (h:∀(c1:Value)(g1:Gh),g1.old=g.old->Rel prog w0 n dU g1 (av S d (.agg (ao s))) H (a.put (some d) c1) w->GI w->RV (fy g1 false) (λ_=>none) w (a_ s) c1->∀(b6:Nat),a.tmps.getD i6 undef=.pointer (some ⟨b6,0,none⟩)->
   ∃RR:Ending->World->Prop,Calls prog 108 #[c1] w RR/\∀en w2,RR en w2->match en with
    |.returned v=>∀ (aC:Act) (o:Oper),aC.eval (.tmp 1) = .pointer (some ⟨b6,0,none⟩)→aC.eval (.tmp 3)=v→o.op = .store 102 (.tmp 1) (.tmp 3) →
      ∃w3,((execOp aC.eval o).run prog w2=.ok .skip w3\/∃u,(execOp aC.eval o).run prog w2=.ok (.value u) w3)/\R' (.returned (.tuple #[])) w3
    |.panicked ch=>R' (.panicked ch) w2
    |.outgrown=>False):
  Calls prog 135 #[a.tmps.getD i2 undef,a.tmps.getD i6 undef] w R':=by
 obtain⟨b2,kP,e2⟩:=iW R p8 oB;obtain⟨b6,al6,e6⟩:=iW R vk vb;have bL:=R.size;have AN:=R.below;rw[R.base]at AN;have fR:GI w:=hG w0 w dS AN;obtain⟨i40,RQ,PA⟩:=bh (P:=prog) (t:=31) (s:=15) (by kernel_rfl);obtain⟨fs,eQ⟩:=bV (P:=prog) (t:=31) (by kernel_rfl)
 have kc:aL S H (.load .any (fg (.struct fs)) i40.size (.t i2))=some { v:=.agg (ao s) }:=by
  simp[aL,ev,oB,pq,HR.okB,PA,fg,ck,ao,ae,AV.aI,vI]
 obtain ⟨c1,w1,g1,eh,Hg,nq,R1⟩:=JN R (o:={ dst:=some d,op := .load 31 (.tmp i2),type:=0,pos := "",after := #[],guard:=none }) (x := .tmp i2) (y := .t i2) rfl (λt ht=>by cases ht;exact ⟨hd,id⟩) RQ eQ (by simp [lQ,p8]) (λ_ _=>id) kc
 have jF:w1=w:=by
  rcases eh with eh|⟨eh,_⟩
  .exact(me (P:=prog) (by rfl) eh).1
  .obtain⟨_,v,hv⟩:=me (P:=prog) (by rfl) eh;cases hv
 subst jF
 have LV:(execOp a.eval { dst:=some d,op := .load 31 (.tmp i2),type:=0,pos := "",after := #[],guard:=none }).run prog w1 = .ok (.value c1) w1:=by
  rcases eh with eh|⟨eh,_⟩
  .exact eh
  .obtain⟨_,v,hv⟩:=me (P:=prog) (by rfl) eh;cases hv
 have KY:Rel prog w0 n dU g1 (av S d (.agg (ao s))) H (a.put (some d) c1) w1:=R1
 have Si:∀(a:Act)(d:Nat)(c:Value),d<a.tmps.size->(a.put (some d) c).tmps.getD d undef=c:=λa d c h=>by
  simp[Act.put,h]
 have yL:RV (fy g1 false) (λ_=>none) w1 (a_ s) c1:=by
  have h1:=KY.slot d hd id;rw[bm,Si a d c1 (by omega)]at h1;have:=KY.iA h1 false (by simp[sx]);have e:Go.AL.iA H (.agg (ao s))=.agg (ao s):=IM s;rw[e]at this;exact this
 obtain⟨RR,iN,Vw⟩:=h c1 g1 nq KY fR yL b6 e6;rw[e2,e6];refine ahm func135 rfl ?_;refine(ez (m:=0)).1 ?_;refine eY (λa=>a.tmps.size=4/\a.defers=[]/\a.tmps.getD 0 undef=.pointer (some ⟨b2,0,none⟩)/\a.tmps.getD 1 undef=.pointer (some ⟨b6,0,none⟩)) ⟨by simp[ntmps135],rfl,bK _ _ 0 (by simp),bK _ _ 1 (by simp)⟩ ?_;rintro aC ⟨zC,dC,t0,t1⟩
 have gP:∀(a:Act)(d:Nat)(c:Value),a.tmps.size=4->d<4->(a.put (some d) c).tmps.getD d undef=c:=λa d c h hd=>by
  simp[Act.put,h,hd]
 have dW:∀(a:Act)(d t:Nat)(c:Value),t≠d->(a.put (some d) c).tmps.getD t undef=a.tmps.getD t undef:=λa d t c h=>by
  simp[Act.put,afb (afQ h)]
 refine afq ?_;show wpOpsIn _ _ _ _ _ [0,1,2] aC w1
 have KT:∀o:Oper,o.op=.load 31 (.tmp 0)->(execOp aC.eval o).run prog w1=.ok (.value c1) w1:=by
  intro o ho;have h1:aC.eval (.tmp 0)=a.eval (.tmp i2):=t0.trans e2.symm;rw[<-LV];unfold execOp;simp only[ho,h1]
 refine aW rfl rfl (by rfl) (KT _ rfl) ?_;show wpOpsIn _ _ _ _ _ [1,2] (aC.put (some 2) c1) w1;refine rk rfl rfl (by rfl) (fU (k:=108) (args:=#[c1]) w1 rfl rfl ?_ (by kernel_rfl)) iN ?_
 .simp only[afw,afv,afB];show #[(aC.put (some 2) c1).tmps.getD 2 undef]=_;rw[gP _ _ _ zC (by decide)]
 rintro en w2 IF;have:=Vw en w2 IF
 cases en with
 |returned v=>
  show wpOpsIn _ _ _ _ _ [2] ((aC.put (some 2) c1).put (some 3) v) w2
  obtain ⟨w3,TX,Ey⟩:=this ((aC.put (some 2) c1).put (some 3) v) { dst:=none,op := .store 102 (.tmp 1) (.tmp 3),type:=0,pos := "",after := #[],guard:=none }
   (by show((aC.put (some 2) c1).put (some 3) v).tmps.getD 1 undef=_;rw[dW _ _ _ _ (by decide),dW _ _ _ _ (by decide)];exact t1)
   (by show((aC.put (some 2) c1).put (some 3) v).tmps.getD 3 undef=_;exact gP _ _ _ (by simpa[Act.put]using zC) (by decide)) rfl
  have fin:∀u:Value,((aC.put (some 2) c1).put (some 3) v).defers=[]/\∃v',(results f135 ((aC.put (some 2) c1).put (some 3) v).tmps).run prog w3=.ok v' w3/\R' (.returned v') w3:=λu=>⟨dC,.tuple #[],by simp[results,results135],Ey⟩
  have kR:∀ o:Oper,o.op = .store 102 (.tmp 1) (.tmp 3)->(execOp ((aC.put (some 2) c1).put (some 3) v).eval o).run prog w2=(execOp ((aC.put (some 2) c1).put (some 3) v).eval { dst:=none,op := .store 102 (.tmp 1) (.tmp 3),type:=0,pos := "",after := #[],guard:=none }).run prog w2:=by
   intro o ho;unfold execOp;simp only[ho]
  rcases TX with hr|⟨u,hr⟩
  .exact dk rfl rfl (by rfl) ((kR _ rfl).trans hr) (fin undef)
  .exact aW rfl rfl (by rfl) ((kR _ rfl).trans hr) (fin u)
 |panicked ch=>exact⟨dC,this⟩
 |outgrown=>exact this.elim
theorem D9 (hG:au GI) (dS:GI w0) (R:Rel prog w0 n dU g S H a w) (hd:d < n) (p8:i2 < n) (vk:i6 < n) (vl:d≠i6)
  (oB:S i2=.box i2 0) (pq:H i2=some (ao s)) (vb:S i6=.box i6 0) (wS:H i6=some z) (hz:z.length=16) {ns:List Int} (mF:AC prog GI 108 [a_ s] (.ret (cb s ns))):
  Calls prog 135 #[a.tmps.getD i2 undef,a.tmps.getD i6 undef] w λe w2=>e=.returned (.tuple #[])/\∃(c:Value)(g':Gh)(S':aF)(H':aK),g'.old=g.old/\Rel prog w0 n dU g' S' H' (a.put (some d) c) w2/\(∀t,t≠d->S' t=S t)/\H'=av H i6 (some (aX s ns)):=by
 refine mT hG dS R hd p8 vk vl oB pq vb wS λc1 g1 jq R1 fR yL b6 e6=>?_
 refine⟨_,mF w (fy g1 false) #[c1] fR rfl (λi h h'=>by
  match i,h with
  |0,_=>exact yL),?_⟩
 rintro en w2 ⟨ig,hi,pS,c,rfl,Ci,h_⟩;intro aC o q1 q3 ho;obtain⟨g',Hg,nq,R2⟩:=R1.call (some d) (λt ht=>by cases ht;exact⟨hd,id⟩) false ig pS Ci h_ (λh=>by cases h);rw[ml]at R2
 have Ip:∀t,t≠d->aY (av S d (.agg (ao s))) (some d) (cb s ns) t=S t:=λt ht=>by simp[AL.aY,av,ht]
 obtain⟨i100,pC,pd⟩:=bh (P:=prog) (t:=102) (s:=16) (by kernel_rfl)
 have jo:bo z 0 ((aX s ns).map AV.aI)=aX s ns:=by
  have:(aX s ns).map AV.aI=aX s ns:=by simp[aX,ao,ae,vI,AV.aI]
  rw[this];simp[bo,hz,aX,ao,ae]
 have kc:aL (aY (av S d (.agg (ao s))) (some d) (cb s ns)) H (.store .any i100.size (.t i6) (.t d))=some { v:=cG,dm:=some d,hw:=some (i6,aX s ns) }:=by
  show aL (aY (av S d (.agg (ao s))) (some d) (.agg (aX s ns))) H (.store .any i100.size (.t i6) (.t d))=_;have e1:ev (aY (av S d (.agg (ao s))) (some d) (.agg (aX s ns))) (.t i6)=.box i6 0:=(Ip i6 (afQ vl)).trans vb
  have e2:ev (aY (av S d (.agg (ao s))) (some d) (.agg (aX s ns))) (.t d)=.agg (aX s ns):=by simp[ev,AL.aY,av]
  have hl:(aX s ns).length=16:=by simp[aX,ao,ae]
  simp only[aL,e1,e2,wS,HR.okB];simp[AV.cells,AV.storable,pd,hl,hz,bu,jo,AV.cg]
 obtain ⟨c2,w3,g3,eh,G0,uh,R3⟩:=kS R2 (o:={ dst:=none,op := .store 102 (.tmp i6) (.tmp d),type:=0,pos := "",after := #[],guard:=none }) (x1 := .tmp i6) (x2 := .tmp d) (y1 := .t i6) (y2 := .t d) (hr := .any) rfl rfl pC (by simp [lQ,vk]) (by simp [lQ,hd]) (λ_ _=>id) (λ_ _=>id) kc;have bL:=R.size
 have f6:(a.put (some d) c).eval (.tmp i6)=.pointer (some ⟨b6,0,none⟩):=by
  show(a.put (some d) c).tmps.getD i6 undef=_;rw[<-e6];simp[Act.put,afb vl]
 have fd:(a.put (some d) c).eval (.tmp d)=c:=by
  show(a.put (some d) c).tmps.getD d undef=_;simp[Act.put,bL,hd]
 have bb:(execOp aC.eval o).run prog w2=(execOp (a.put (some d) c).eval { dst:=none,op := .store 102 (.tmp i6) (.tmp d),type:=0,pos := "",after := #[],guard:=none }).run prog w2:=by
  unfold execOp;simp only[ho,q1,q3,f6,fd]
 refine⟨w3,?_,rfl,c,g3,_,_,by rw[uh,nq,jq],R3,λt ht=>?_,rfl⟩
 .rcases eh with eh|⟨eh,_⟩
  .exact .inr ⟨_,bb.trans eh⟩
  .exact .inl (bb.trans eh)
 .rw[<-Ip t ht];simp[aT.S,AL.aY,av,ht]
theorem Bz (hG:au GI) (dS:GI w0) (R:Rel prog w0 n dU g S H a w) (hd:d < n) (p8:i2 < n) (vk:i6 < n) (vl:d≠i6)
  (oB:S i2=.box i2 0) (pq:H i2=some (ao s)) (vb:S i6=.box i6 0) (wS:H i6=some z) {k:Int} (mF:AC prog GI 108 [a_ s] (.panic (ll k))):
  Calls prog 135 #[a.tmps.getD i2 undef,a.tmps.getD i6 undef] w λe w2=>e=.panicked [{ v:=.iface 192 (.agg #[.int .i64 k]),recovered:=false }]/\Below w.heap.size w w2:=by
 refine mT hG dS R hd p8 vk vl oB pq vb wS λc1 g1 jq R1 fR yL b6 e6=>?_
 refine⟨_,mF w (fy g1 false) #[c1] fR rfl (λi h h'=>by
  match i,h with
  |0,_=>exact yL),?_⟩
 rintro en w2 ⟨ig,hi,pS,c,rfl,jX⟩;have hc:=Ab jX;subst hc;exact⟨rfl,ig⟩
theorem mh(R:Rel prog w0 n dU g S H a w):g.old.bI w.heap.size=none:=by
 cases h:g.old.bI w.heap.size with
 |none=>rfl
 |some o=>
  have:=(afe.1 (R.kept _ o h).2.1).1;omega
theorem Ec (hG:au GI) (dS:GI w0) (R:Rel prog w0 n dU g S H a w) (hd:d < n) (p8:i2 < n) (vk:i6 < n) (vl:d≠i6)
  (oB:S i2=.box i2 0) (pq:H i2=some (ao s)) (vb:S i6=.box i6 0) (wS:H i6=some z) (hz:z.length=16) {ns:List Int} (mF:AC prog GI 108 [a_ s] (.ret (cb s ns))):
  Calls prog 119 #[.func (.func 135) #[] #[a.tmps.getD i2 undef,a.tmps.getD i6 undef]] w λe w2=>e=.returned (.int .i64 0)/\∃(c:Value)(g':Gh)(S':aF)(H':aK),g'.old=g.old/\Rel prog w0 n dU g' S' H' (a.put (some d) c) w2/\(∀t,t≠d->S' t=S t)/\H'=av H i6 (some (aX s ns)):=by
 have R1:=R.kA (.cells #[.int .i64 0] 34);have uv:=mh R;refine iK (by kernel_rfl) (D9 hG dS R1 hd p8 vk vl oB pq vb wS hz mF) ?_;rintro e w2 ⟨rfl,c,g',S',H',ho,R2,pv,ph⟩
 have hk:g'.old.bI w.heap.size=some (.cells #[.int .i64 0] 34):=by rw[ho];exact bm _ _ _
 have jf:=(R2.kept _ _ hk).2.1;have aw:=(afe.1 jf).1;refine⟨aw,⟨_,_,jf⟩,.inl ⟨_,rfl,rfl,c,_,S',H',?_,(R2.nS w.heap.size).mw ?_,pv,ph⟩⟩
 .show({ g'.old with bI:=av g'.old.bI w.heap.size none }:Old)=_;rw[ho]
  have:av (av g.old.bI w.heap.size (some (.cells #[.int .i64 0] 34))) w.heap.size none=g.old.bI:=by
   funext b
   by_cases hb:b=w.heap.size
   .subst hb;simp[av,uv]
   .simp[av,hb]
  show({ g.old with bI:=av (av g.old.bI w.heap.size (some (.cells #[.int .i64 0] 34))) w.heap.size none }:Old)=_;rw[this]
 .refine⟨rfl,rfl,rfl,by simp,λk ee=>?_⟩
  by_cases hb:k=w.heap.size
  .subst hb;rw[agq w2 _ _ _ _ _ jf,jf]
  .exact af4 w2 _ k _ hb
theorem BO (hG:au GI) (dS:GI w0) (R:Rel prog w0 n dU g S H a w) (hd:d < n) (p8:i2 < n) (vk:i6 < n) (vl:d≠i6)
  (oB:S i2=.box i2 0) (pq:H i2=some (ao s)) (vb:S i6=.box i6 0) (wS:H i6=some z) {k:Int} (mF:AC prog GI 108 [a_ s] (.panic (ll k))):
  Calls prog 119 #[.func (.func 135) #[] #[a.tmps.getD i2 undef,a.tmps.getD i6 undef]] w λe w2=>e=.returned (.int .i64 7)/\∃g',g'.old=g.old/\Rel prog w0 n dU g' S H a w2:=by
 have R1:=R.kA (.cells #[.int .i64 0] 34);have uv:=mh R;refine iK (by kernel_rfl) (Bz hG dS R1 hd p8 vk vl oB pq vb wS mF) ?_;rintro en w2 ⟨rfl,ig⟩;have R2:=R1.mw ig;have hk:av g.old.bI w.heap.size (some (.cells #[.int .i64 0] 34)) w.heap.size=some (.cells #[.int .i64 0] 34):=bm _ _ _;have jf:=(R2.kept _ _ hk).2.1;have aw:=(afe.1 jf).1;refine⟨aw,⟨_,_,jf⟩,.inr (.inl ⟨k,rfl,λw3 mm=>⟨rfl,?_⟩⟩)⟩;have R3:=R2.mw mm;have J0:=(R3.kept _ _ hk).2.1;have R4:=R3.m_ hk (.cells #[.int .i64 7] 34);rw[sh w3 J0];refine⟨_,?_,R4.nS w.heap.size⟩
 have:av (av (av g.old.bI w.heap.size (some (.cells #[.int .i64 0] 34))) w.heap.size (some (.cells #[.int .i64 7] 34))) w.heap.size none=g.old.bI:=by
  funext b
  by_cases hb:b=w.heap.size
  .subst hb;simp[av,uv]
  .simp[av,hb]
 show({ g.old with bI:=av (av (av g.old.bI w.heap.size (some (.cells #[.int .i64 0] 34))) w.heap.size (some (.cells #[.int .i64 7] 34))) w.heap.size none }:Old)=_;rw[this]
end
end Go.Proofs.Tryz
namespace Go.Proofs.Tryz
open Go Go.AL Go.RowKit Go.Proofs Go.Proofs.Tram
attribute [local simp] dh eE dY dv dK dj di cQ cT dL cP ct fF fE aD aL ev aT.S aT.H bu av aY AL.start AV.cells AV.storable AV.cg bo cE dI ck HR.okB post cw cH cI AV.out AV.bU b_ df fz iA AV.vw du vI int cG aP cV db fQ iu fV eG da AV.aI AV.cm
variable{GI:World->Prop}
def zT:aq:=⟨[],0,0,0,0,⟨[],[],0,0,0,0,0,[],0,0⟩⟩
def de(s:aq)(b:Bool):List AV:=
 if b then(match dV s.name with|some es=>[cb s (aR s es),.int .i64 0]|none=>[cb zT [],.int .i64 7])else[cb zT [],.int .i64 2]
def gQ:List AV:=[.slice .nil [],.int .i64 0,.int .i64 0,.int .i64 0,.int .i64 0,.slice .nil [],.slice .nil [],.int .i64 0,.int .i64 0,.int .i64 0,.int .i64 0,.int .i64 0,.slice .nil [],.int .i64 0,.int .i64 0,.slice .nil []]
theorem zn(hG:au GI)(s:aq):AC prog GI 76 [a_ s,.bool false] (.ret (.d_ [cb zT [],.int .i64 2])):=by
 obtain⟨i100,pC,pd⟩:=bh (P:=prog) (t:=102) (s:=16) (by kernel_rfl);obtain⟨fs,eQ⟩:=bV (P:=prog) (t:=102) (by kernel_rfl);refine bP hG func76 ntmps76 c76 ?_;simp[c76,a_,ao,ae,bC,pC,pd,eQ,fg,cb,aX,zT]
 try rfl
theorem tV(hG:au GI)(s:aq)(hs:er s):AC prog GI 76 [a_ s,.bool (cq s)] (.ret (.d_ (de s (cq s)))):=by
 cases hI:cq s with
 |false=>exact zn hG s
 |true=>
 have EZ:=eo hI
 refine AC.gY func76 rfl ntmps76 (by simp) λcc w=>?_
 refine dw hG c76.qa (λS' H'=>S' 1=.bool true/\S' 2=.box 2 0/\H' 2=some (ao s)/\S' 4=.box 4 0/\H' 4=some gQ) ?_ ?_
 .simp[c76,af.qa,a_,ao,ae,gQ]
 rintro S1 H1 ⟨s1,s2,h2,s4,h4⟩;refine SW.seq (dw hG c76.qb.qa.qa (λS' H'=>S' 9=.bool false/\S' 2=.box 2 0/\H' 2=some (ao s)/\S' 4=.box 4 0/\H' 4=some gQ) ?_ ?_)
 .simp[c76,af.qa,af.qb,s1,s2,h2,s4,h4]
 clear s1 s2 h2 s4 h4;rintro S2 H2 ⟨s9,s2,h2,s4,h4⟩;refine SW.cond rfl false (by show S2 9=_;rw[s9]) (SW.skip ?_);show SW prog GI 15 none (.seq _ (.seq _ (.seq _ .ret))) _ _ _ _;refine dw hG c76.qb.qb.qa (λS' H'=>S' 2=.box 2 0/\H' 2=some (ao s)/\S' 4=.box 4 0/\H' 4=some gQ/\S' 6=.box 6 0/\H' 6=some gQ) ?_ ?_
 .simp[c76,af.qa,af.qb,s2,h2,s4,h4,gQ]
 clear s9 s2 h2 s4 h4;rintro S3 H3 ⟨s2,h2,s4,h4,s6,h6⟩
 obtain ⟨l,e,hle,hO,oT⟩:∃ (l:List AV) (e:Int),l.length=16∧de s true=[(AV.agg (l.map AV.aI)).vw,.int .i64 e] ∧
   ∀(w0:World)(g:Gh)(S:aF)(H:aK)(a:Act)(w:World),GI w0->Rel prog w0 15 dU g S H a w->S 2=.box 2 0->H 2=some (ao s)->S 6=.box 6 0->H 6=some gQ->
    Calls prog 119 #[.func (.func 135) #[] #[a.tmps.getD 2 undef,a.tmps.getD 6 undef]] w λen w2=>en=.returned (.int .i64 e)/\∃(c:Value)(g':Gh)(S':aF)(H':aK),g'.old=g.old/\Rel prog w0 15 dU g' S' H' (a.put (some 12) c) w2/\(∀t,t≠12->S' t=S t)/\H'=av H 6 (some l):=by
  cases dQ:dV s.name with
  |some es=>
   refine⟨aX s (aR s es),0,by simp[aX,ao,ae],?_,λw0 g S H a w dS R q2 Bl q6 IE=>Ec hG dS R (by decide) (by decide) (by decide) (by decide) q2 Bl q6 IE rfl (BJ hG s hs EZ dQ)⟩;simp[de,dQ,cb,aX,ao,ae,vI,AV.aI,AV.vw,AV.cm]
  |none=>
   refine⟨gQ,7,rfl,?_,λw0 g S H a w dS R q2 Bl q6 IE=>(BO hG dS R (d:=12) (by decide) (by decide) (by decide) (by decide) q2 Bl q6 IE (vO hG s hs EZ dQ)).mono ?_⟩
   .simp[de,dQ,cb,aX,ao,ae,zT,gQ,vI,ints,AV.aI,AV.vw,AV.cm]
   .rintro en w2 ⟨rfl,g',yP,R'⟩;refine⟨rfl,undef,g',av S 12 .bB,H,yP,R'.put 12 .bB undef (by decide) (.bB _) trivial,λt ht=>cN _ _ ht,?_⟩
    funext k
    by_cases hk:k=6
    .subst hk;rw[bm];exact IE
    .rw[cN _ _ hk]
 rw[hO]
 refine SW.seq (SW.hand hG (p:=0) (lm:=[0,1]) (l2:=[2]) (kY:=[]) (oh:=[_,_]) (lJ:=[_]) rfl rfl rfl rfl (by kernel_rfl) (λ_ h=>h) (lM:=[]) (kP:=(c76.qb.qb.qb.qa.dl).drop 2) rfl (by kernel_rfl) rfl (by kernel_rfl)
  (K1:=λS' H'=>S' 2=.box 2 0/\H' 2=some (ao s)/\S' 4=.box 4 0/\H' 4=some gQ/\S' 6=.box 6 0/\H' 6=some gQ)
  (K2:=λo S' H'=>o=Old.plain cc w/\S' 4=.box 4 0/\H' 4=some gQ/\S' 6=.box 6 0/\H' 6=some l/\S' 12=.int .i64 e)
  (K3:=λo S' H'=>o=Old.plain cc w/\S' 4=.box 4 0/\H' 4=some gQ/\S' 6=.box 6 0/\H' 6=some l/\S' 7=.int .i64 e) ⟨s2,h2,s4,h4,s6,h6⟩ ?_ ?_ ?_)
 .rintro w0 g S5 H5 a w5 m dS ho R ⟨s2,h2,s4,h4,s6,h6⟩;have bL:=R.size;refine aW rfl rfl (by rfl) (kB (fn:=.func 135) (c:=#[.tmp 2,.tmp 6]) rfl) ?_
  obtain⟨fv,jQ⟩:∃fv:Value,fv=.func (.func 135) #[] (#[Operand.tmp 2,.tmp 6].map a.eval):=⟨_,rfl⟩
  show wpOpsIn _ _ _ _ _ [1] (a.put (some 11) (.func (.func 135) #[] (#[Operand.tmp 2,.tmp 6].map a.eval))) w5;rw[<-jQ];have R1:=R.put 11 .bB fv (by decide) (.bB _) trivial
  obtain⟨a1,oI⟩:∃a1,a.put (some 11) fv=a1:=⟨_,rfl⟩
  rw[oI]at R1⊢
  have uc:fv=.func (.func 135) #[] #[a1.tmps.getD 2 undef,a1.tmps.getD 6 undef]:=by
   have e1:=bt a 11 2 fv (by omega);have e4:=bt a 11 6 fv (by omega);rw[if_neg (by decide),oI]at e1 e4;have A6:a1.tmps.getD 2 undef=a.eval (.tmp 2):=e1;have Ch:a1.tmps.getD 6 undef=a.eval (.tmp 6):=e4;rw[A6,Ch,jQ];simp only[afw,afv,afB]
  have ij:a1.eval (.tmp 11)=fv:=by rw[<-oI,bt _ _ _ _ (by omega),if_pos rfl]
  refine eS rfl rfl (by rfl) (fU (k:=119) (args:=#[.func (.func 135) #[] #[a1.tmps.getD 2 undef,a1.tmps.getD 6 undef]]) w5 rfl rfl ?_ (by kernel_rfl)) (oT w0 g _ _ a1 w5 dS R1 (by simp[av,s2]) h2 (by simp[av,s6]) h6) ?_
  .simp only[afw,afv,afB,ij,<-uc]
  .rintro en w6 ⟨rfl,c,g',S',H',sE,R2,pv,ph⟩;refine⟨_,rfl,?_⟩;have R3:=R2.put 12 (.int .i64 e) (.int .i64 e) (by decide) (.data _ _ (.int _ _)) trivial;rw[ml]at R3;refine⟨g',_,H',R3,sE.trans ho,?_,?_,?_,?_,bm _ _ _⟩
   .show av S' 12 _ 4=_;rw[cN _ _ (by decide),pv 4 (by decide)];simp[av,s4]
   .rw[ph,cN _ _ (by decide)];exact h4
   .show av S' 12 _ 6=_;rw[cN _ _ (by decide),pv 6 (by decide)];simp[av,s6]
   .rw[ph];exact bm _ _ _
 .rintro o S5 H5 ⟨rfl,s4,h4,s6,h6,bJ⟩;refine⟨λ_ h=>h,?_⟩;simp[c76,af.qa,af.qb,af.dl,bj,aD,bf,aL,ev,aT.S,aT.H,av,aY,s4,h4,s6,h6,bJ,AV.aI,bu]
 .rintro o S5 H5 ⟨rfl,s4,h4,s6,h6,s7⟩;show SW prog GI 15 none (.seq _ .ret) _ _ _ _;have hT:List.take 16 (l.map AV.aI)=l.map AV.aI:=afh (by simp;omega);refine dw hG c76.qb.qb.qb.qb.qa (λS' H'=>S' 4=.box 4 0/\H' 4=some (l.map AV.aI)/\S' 5=.int .i64 e) ?_ ?_
  .simp[c76,af.qa,af.qb,s4,h4,s6,h6,s7,hle,hT,gQ,fD]
  rintro S6 H6 ⟨s4,h4,s5⟩;obtain⟨i100,pC,pd⟩:=bh (P:=prog) (t:=102) (s:=16) (by kernel_rfl);obtain⟨fs,eQ⟩:=bV (P:=prog) (t:=102) (by kernel_rfl);refine SW.ret ⟨eD.plain rfl,rfl,_,?_,rfl⟩;show cw prog 15 [.cell 4 102,.tmp 5] S6 H6=_;simp[cw,cH,cI,s4,h4,s5,pC,eQ,pd,ck,fg,hle,hT,fD,AV.out,AV.bU]
  try rfl
def gr(e:Nat)(s:aq)(an:List Int):Nat:=dq an (dz (bg e s)) (dn (cM s) s.cells.length)
theorem gX{s:aq}(h:dJ s){es:List End}(he:es.length<=3):(∀x∈aR s es,0<=x/\x<=1000)/\(aR s es).length<=1000:=by
 refine⟨λx hx=>?_,?_⟩
 .obtain⟨i,hi,rfl⟩:=afp.1 hx
  have:=se h he (i:=i) (by
   unfold bT;split
   .rename_i x hx;obtain⟨aw,rfl⟩:=af0.1 hx;exact(jK h.name (ae_ aw)).rz
   .omega)
  omega
 .have:=(dP h.name).words;simp[aR];omega
theorem l_{s:aq}(h:dJ s)(e:Nat):(bg e s).length=s.cells.length/\∀x∈bg e s,0<=x/\x<=1000:=by
 refine⟨by simp[bg],λx hx=>?_⟩;obtain⟨c,hc,rfl⟩:=afp.1 hx;have:=h.qx c hc;unfold ov
 split<;>omega
theorem qV(hG:au GI)(s:aq)(h:dJ s)(an:List Int)(hn:(∀x∈an,0<=x/\x<=1000)/\an.length<=1000)(e:Nat):AC prog GI 92 [cb s an,vI (bg e s)] (.ret (.int .i64 (gr e s an))):=
 FT hG s h an hn.1 hn.2 (bg e s) (l_ h e).1 (l_ h e).2
theorem BX(hG:au GI)(s:aq)(h:dJ s)(an:List Int)(hn:(∀x∈an,0<=x/\x<=1000)/\an.length<=1000):AC prog GI 107 [cb s an] (.ret (.bool (decide (gr 0 s an=an.length)))):=by
 have EY:=zP hG s (by have:=h.cells;omega) 0 (.inl rfl);have xH:=qV hG s h an hn 0;refine bP hG func107 ntmps107 c107 ?_;simp[c107,cb,aX,ao,ae];refine oc EY ?_;simp;refine oc xH ?_;simp;rw[afZ];simp;omega
def jE(e:Nat)(s:aq):List AV:=
 if cq s then(match dV s.name with|some es=>[.int .i64 (gr e s (aR s es)),.int .i64 0]|none=>[.int .i64 0,.int .i64 7])else[.int .i64 0,.int .i64 2]
theorem gx (s:aq):(cq s=true∧∃ es,dV s.name=some es∧de s (cq s)=[cb s (aR s es),.int .i64 0]) ∨
  (∃e:Int,e≠0/\de s (cq s)=[cb zT [],.int .i64 e]/\∀k,jE k s=[.int .i64 0,.int .i64 e]):=by
 cases hI:cq s with
 |false=>exact .inr ⟨2,by decide,by simp[de],λk=>by simp[jE,hI]⟩
 |true=>
  cases hs:dV s.name with
  |some es=>exact .inl ⟨rfl,es,rfl,by simp[de,hs]⟩
  |none=>exact .inr ⟨7,by decide,by simp[de,hs],λk=>by simp[jE,hI,hs]⟩
theorem Ol(hG:au GI)(s:aq)(hs:er s):AC prog GI 34 [a_ s] (.ret (.d_ (jE 0 s))):=by
 have yK:=mK hG s hs;have oY:=tV hG s hs
 rcases gx s with⟨hI,es,dQ,ho⟩|⟨e,he,ho,sr⟩
 .rw[ho]at oY;have hg:=eo hI;have EY:=zP hG s (by have:=hg.cells;omega) 0 (.inl rfl);have xH:=qV hG s hg _ (gX hg (fp hg.name dQ)) 0
  have sr:jE 0 s=[.int .i64 (gr 0 s (aR s es)),.int .i64 0]:=by simp[jE,hI,dQ]
  rw[sr];refine bP hG func34 ntmps34 c34 ?_;simp[c34,a_,ao,ae];refine oc yK ?_;simp;refine oc oY ?_;simp[cb,aX,ao,ae,bC];refine oc EY ?_;simp;refine oc xH ?_;simp
 .rw[ho]at oY;rw[sr]
  have jI:(e !=0)=true:=by simpa using he
  refine bP hG func34 ntmps34 c34 ?_;simp[c34,a_,ao,ae];refine oc yK ?_;simp;refine oc oY ?_;simp[cb,aX,ao,ae,zT,bC,he,jI]
theorem O3(hG:au GI)(s:aq)(hs:er s):AC prog GI 35 [a_ s] (.ret (.d_ (jE 1 s))):=by
 have yK:=mK hG s hs;have oY:=tV hG s hs
 rcases gx s with⟨hI,es,dQ,ho⟩|⟨e,he,ho,sr⟩
 .rw[ho]at oY;have hg:=eo hI;have EY:=zP hG s (by have:=hg.cells;omega) 1 (.inr rfl);have xH:=qV hG s hg _ (gX hg (fp hg.name dQ)) 1
  have sr:jE 1 s=[.int .i64 (gr 1 s (aR s es)),.int .i64 0]:=by simp[jE,hI,dQ]
  rw[sr];refine bP hG func35 ntmps35 c35 ?_;simp[c35,a_,ao,ae];refine oc yK ?_;simp;refine oc oY ?_;simp[cb,aX,ao,ae,bC];refine oc EY ?_;simp;refine oc xH ?_;simp
 .rw[ho]at oY;rw[sr]
  have jI:(e !=0)=true:=by simpa using he
  refine bP hG func35 ntmps35 c35 ?_;simp[c35,a_,ao,ae];refine oc yK ?_;simp;refine oc oY ?_;simp[cb,aX,ao,ae,zT,bC,he,jI]
def atR(s:aq)(r:Nat):aq:={ s with reach:=r }
theorem AS{s:aq}(h:dJ s){r:Nat}(h1:1<=r)(h2:r<=12):dJ (atR s r):=⟨h.cells,h.qx,h.pos,⟨by show(1:Int)<=(r:Int);omega,by show(r:Int)<=12;omega⟩,h.dE,h.c_,h.name⟩
def qy(s:aq)(an:List Int)(r:Nat):Bool:=decide (gr 0 (atR s r) an=an.length)
def vp(s:aq):List AV:=
 if cq s then(match dV s.name with|some es=>(match(List.range' 1 12).find? (qy s (aR s es))with|some r=>[.int .i64 (r:Nat),.int .i64 0]|none=>[.int .i64 0,.int .i64 5])|none=>[.int .i64 0,.int .i64 7])else[.int .i64 0,.int .i64 2]
theorem A1{p:Nat->Bool}{r n:Nat}(h1:1<=r)(h2:r<=n)(hp:p r=true)(hb:∀k,1<=k->k<r->p k=false):(List.range' 1 n).find? p=some r:=by
 rw[show n=(r-1)+(n-(r-1)) by omega,<-ahg,List.find?_append]
 have h0:(List.range' 1 (r-1)).find? p=none:=by
  rw[agw];intro x hx;have:=agI.1 hx;rw[hb x this.1 (by omega)];simp
 rw[h0,Option.none_or,show n-(r-1)=(n-r)+1 by omega,agr,List.find?_cons];rw[show 1+(r-1)=r by omega,hp]
theorem vm{p:Nat->Bool}{n:Nat}(hb:∀k,1<=k->k<=n->p k=false):(List.range' 1 n).find? p=none:=by
 rw[agw];intro x hx;have:=agI.1 hx;rw[hb x this.1 (by omega)];simp
theorem OY(hG:au GI)(s:aq)(hs:er s):AC prog GI 44 [a_ s] (.ret (.d_ (vp s))):=by
 have yK:=mK hG s hs;have oY:=tV hG s hs
 rcases gx s with⟨hI,es,dQ,ho⟩|⟨e,he,ho,sr⟩
 .rw[ho]at oY;have hg:=eo hI;have hn:=gX hg (fp hg.name dQ)
  have Bk:vp s=(match(List.range' 1 12).find? (qy s (aR s es))with|some r=>[.int .i64 (r:Nat),.int .i64 0]|none=>[.int .i64 0,.int .i64 5]):=by simp[vp,hI,dQ]
  rw[Bk];generalize aR s es=an at oY hn⊢;refine bP hG func44 ntmps44 c44 ?_;simp[c44,a_,ao,ae];refine oc yK ?_;simp;refine oc oY ?_;simp[cb,aX,ao,ae,bC];refine⟨λS H=>∃r:Nat,1<=r/\r<=13/\S 4=.box 4 0/\H 4=some (aX (atR s r) an)/\∀k,1<=k->k<r->qy s an k=false,λ_ H=>match H 4 with|some (_::_::.int _ r::_)=>(13-r).toNat|_=>0,⟨1,afg _,by decide,?_⟩,?_⟩
  .simp[aX,ao,ae,atR];intro k h1 h2;omega
  rintro S H ⟨r,AZ,Tc,s4,h4,hb⟩
  by_cases hle:r<=12
  case neg=>
   have hr:r=13:=by omega
   subst hr;rw[vm λk h1 h2=>hb k h1 (by omega)];simp[aX,ao,ae,atR,s4,h4]
  have vX:(r:Int)<=12:=by omega
  have Jr:=BX hG (atR s r) (AS hg AZ hle) an hn
  cases hf:qy s an r with
  |true=>
   unfold qy at hf;rw[hf]at Jr;rw[A1 AZ hle (show qy s an r=true from hf) hb];simp[aX,ao,ae,atR,s4,h4,vX];refine oc Jr ?_;simp[aX,ao,ae,atR,s4,h4]
  |false=>
   have yJ:=hf;unfold qy at yJ;rw[yJ]at Jr;have hw:IntKind.i64.wrap ((r:Int)+1)=r+1:=aN (by omega);simp[aX,ao,ae,atR,s4,h4,vX];refine oc Jr ?_;simp[aX,ao,ae,atR,s4,h4,hw];refine⟨⟨r+1,by omega,by omega,by omega,λk h1 h2=>?_⟩,by omega⟩
   by_cases hk:k=r
   .rw[hk];exact hf
   .exact hb k h1 (by omega)
 .rw[ho]at oY
  have sj:vp s=[.int .i64 0,.int .i64 e]:=by
   have:=sr 0;unfold jE at this;unfold vp
   cases hI:cq s with
   |false=>simpa[hI]using this
   |true=>
    cases dQ:dV s.name with
    |none=>simpa[hI,dQ]using this
    |some es=>simp[hI,dQ,de]at ho;exact absurd ho.2.symm he
  rw[sj]
  have jI:(e !=0)=true:=by simpa using he
  refine bP hG func44 ntmps44 c44 ?_;simp[c44,a_,ao,ae];refine oc yK ?_;simp;refine oc oY ?_;simp[cb,aX,ao,ae,zT,bC,he,jI]
theorem BV(hG:au GI)(s:aq)(hs:er s)(b:Bool):AC prog GI 76 [a_ s,.bool (cq s&&b)] (.ret (.d_ (de s (cq s&&b)))):=by
 cases b with
 |true=>rw[ahJ];exact tV hG s hs
 |false=>
  rw[Bool.and_false];have:=zn hG s;simpa[de]using this
theorem kL (s:aq) (b:Bool):(cq s=true∧b=true∧∃ es,dV s.name=some es∧de s (cq s && b)=[cb s (aR s es),.int .i64 0]) ∨
  (cq s&&b)=false/\de s (cq s&&b)=[cb zT [],.int .i64 2]\/cq s=true/\b=true/\dV s.name=none/\de s (cq s&&b)=[cb zT [],.int .i64 7]:=by
 cases hI:(cq s&&b)with
 |false=>exact .inr (.inl ⟨rfl,by simp[de]⟩)
 |true=>
  rw[afa]at hI
  cases hs:dV s.name with
  |some es=>exact .inl ⟨hI.1,hI.2,es,rfl,by simp[de,hs]⟩
  |none=>exact .inr (.inr ⟨hI.1,hI.2,rfl,by simp[de,hs]⟩)
def nf(s:aq):List AV:=if cq s then(match dV s.name with|some es=>[vI (aR s es),.int .i64 0]|none=>[vI [],.int .i64 7])else[vI [],.int .i64 2]
theorem Oh(hG:au GI)(s:aq)(hs:er s):AC prog GI 23 [a_ s] (.ret (.d_ (nf s))):=by
 have jW:=mK hG s hs;have gJ:=BV hG s hs true
 have key:∃t:aq,∃l:List Int,∃e:Int,de s (cq s&&true)=[cb t l,.int .i64 e]/\nf s=[vI l,.int .i64 e]:=by
  rcases kL s true with⟨h1,_,es,h2,h3⟩|⟨h1,h3⟩|⟨h1,_,h2,h3⟩
  .exact⟨_,_,_,h3,by simp[nf,h1,h2]⟩
  .rw[ahJ]at h1;exact⟨_,_,_,h3,by simp[nf,h1]⟩
  .exact⟨_,_,_,h3,by simp[nf,h1,h2]⟩
 obtain⟨t,l,e,h3,h4⟩:=key;rw[h3,ahJ]at gJ;rw[h4];refine bP hG func23 ntmps23 c23 ?_;simp[c23,a_,ao,ae];refine oc jW ?_;simp;refine oc gJ ?_;simp[cb,aX,ao,ae,bC]
def iD(s:aq)(l:List Int):Bool:=decide (l.length=s.cells.length)&&(l.zip s.cells).all λx=>bH x.1 x.2.lo x.2.hi
theorem oF{α β:Type}(p:α×β->Bool):∀(l:List α)(m:List β),l.length=m.length->((l.zip m).all p=true↔∀i (h:i<l.length)(h':i<m.length),p (l[i],m[i])=true)
 |[],[],_=>by simp
 |a::l,b::m,h=>by
  rw[List.zip_cons_cons,List.all_cons,afa,oF p l m (by simpa using h)]
  constructor
  .rintro⟨h1,h2⟩ i hi gq
   cases i with
   |zero=>exact h1
   |succ i=>exact h2 i (by simpa using hi) (by simpa using gq)
  .intro hh;exact⟨hh 0 (by simp) (by simp),λi hi gq=>hh (i+1) (by simpa using hi) (by simpa using gq)⟩
 |[],_::_,h=>by simp at h
 |_::_,[],h=>by simp at h
theorem P7(hG:au GI)(s:aq)(hs:s.cells.length<1000000)(l:List Int)(hl:l.length<1000000):AC prog GI 91 [a_ s,vI l] (.ret (.bool (iD s l))):=by
 refine bP hG func91 ntmps91 c91 ?_;refine az (λS H=>S 1=vI l/\S 2=.box 2 0/\H 2=some (ao s)) (by simp[a_,ao,ae]) ?_;rintro S H ⟨s1,s2,h2⟩;simp[s1,s2,h2];refine bq 9 l.length (λi S H=>S 1=vI l/\S 2=.box 2 0/\H 2=some (ao s)/\S 7=vI l/\S 8=.int .i64 l.length/\S 9=.int .i64 (i:Nat)/\∀j (h:j<l.length),j<i->∃h':j<s.cells.length,bH l[j] s.cells[j].lo s.cells[j].hi=true) (λi S H h=>h.2.2.2.2.2.1) ⟨by simp[s1],by simp[s2],by simp[h2],by simp[s1],by simp,by simp,by simp⟩ ?_;clear s1 s2 h2 S H;rintro i hi S H ⟨s1,s2,h2,s7,s8,s9,hb⟩
 by_cases aw:i<l.length
 .have hw:IntKind.i64.wrap ((i:Int)+1)=i+1:=aN (by omega)
  have hn:¬(i:Int)<0:=by omega
  by_cases hc:i<s.cells.length
  case neg=>
   have oy:(s.cells.length:Int)<=i:=by omega
   have hr:iD s l=false:=by
    unfold iD
    rw[agH (by omega)]<;>rfl
   simp[s1,s2,h2,s7,s8,s9,aw,hn,oy,hr,ao,ae]
  have oy:¬(s.cells.length:Int)<=i:=by omega
  simp[s1,s2,h2,s7,s8,s9,aw,hn,hc,oy,gy,ao,ae];refine oc (oO hG _ _ _) ?_;cases kW:bH l[i] s.cells[i].lo s.cells[i].hi
  .have hr:iD s l=false:=by
    unfold iD
    by_cases uC:l.length=s.cells.length
    .have:¬ ((l.zip s.cells).all fun x=>bH x.1 x.2.lo x.2.hi)=true:=fun h=>by
      have:=(oF _ l s.cells uC).1 h i aw hc;rw[kW]at this;cases this
     simp only[ah3]at this;rw[this,Bool.and_false]
    .rw[agH uC]<;>rfl
   simp[s1,s2,h2,s7,s8,s9,hr]
  .simp[s1,s2,h2,s7,s8,s9,hw,ao,ae];intro j hj lg
   by_cases e:j=i
   .subst e;exact⟨hc,kW⟩
   .exact hb j hj (by omega)
 .have cD:i=l.length:=by omega
  subst cD
  have hr:iD s l=decide (l.length=s.cells.length):=by
   unfold iD
   by_cases uC:l.length=s.cells.length
   .rw[ago uC,agU]
    exact(oF _ l s.cells uC).2 λi h h'=>let⟨_,q⟩:=hb i h h;q
   .rw[agH uC,Bool.false_and]
  simp[s1,s2,h2,s7,s8,s9,hr,ao,ae];rw[afZ];simp;omega
theorem AB{s:aq}(h:dJ s){l:List Int}(hr:iD s l=true):l.length=s.cells.length/\(∀x∈l,1<=x/\x<=20)/\∀i (h:i<l.length)(h':i<s.cells.length),s.cells[i].lo<=l[i]/\l[i]<=s.cells[i].hi:=by
 unfold iD at hr;rw[afa,aff]at hr;have h2:=(oF _ l s.cells hr.1).1 hr.2
 have h3:∀i (h:i<l.length)(h':i<s.cells.length),s.cells[i].lo<=l[i]/\l[i]<=s.cells[i].hi:=λi hi gq=>by
  have:=h2 i hi gq;simpa[bH]using this
 refine⟨hr.1,λx hx=>?_,h3⟩;obtain⟨i,hi,rfl⟩:=afD hx;have:=h3 i hi (by omega);have:=h.qx _ (ae_ (show i<s.cells.length by omega));omega
def om(s:aq)(an aZ:List Int):Nat:=dq an (dz aZ) (dn (cM s) s.cells.length)
def oZ(s:aq)(l:List Int):List AV:=
 if cq s&&iD s l then(match dV s.name with|some es=>[.int .i64 (om s (aR s es) l),.int .i64 0]|none=>[.int .i64 0,.int .i64 7])else[.int .i64 0,.int .i64 2]
theorem OF(hG:au GI)(s:aq)(hs:er s)(l:List Int)(hl:l.length<1000000):AC prog GI 29 [a_ s,vI l] (.ret (.d_ (oZ s l))):=by
 have jW:=mK hG s hs;have NG:=P7 hG s hs.cells l hl;have gJ:=BV hG s hs (iD s l);rcases kL s (iD s l)with⟨h1,h0,es,h2,h3⟩|h3
 .have hg:=eo h1;obtain⟨r1,r2,_⟩:=AB hg h0;have hn:=gX hg (fp hg.name h2);have xx:=FT hG s hg _ hn.1 hn.2 l r1 (λx hx=>by have:=r2 x hx;omega)
  have ho:oZ s l=[.int .i64 (om s (aR s es) l),.int .i64 0]:=by simp[oZ,h1,h0,h2]
  rw[h3,h1,h0]at gJ;rw[ho];rw[h1]at jW;rw[h0]at NG;refine bP hG func29 ntmps29 c29 ?_;simp[c29,a_,ao,ae];refine oc jW ?_;simp;refine oc NG ?_;simp;refine oc gJ ?_;simp[cb,aX,ao,ae,bC];refine oc xx ?_;simp[om]
 .have key:∃ e:Int,e≠0∧de s (cq s && iD s l)=[cb zT [],.int .i64 e]∧oZ s l=[.int .i64 0,.int .i64 e]:=by
   rcases h3 with⟨h1,h3⟩|⟨h1,h0,h2,h3⟩
   .exact⟨2,by decide,h3,by simp[oZ,h1]⟩
   .exact⟨7,by decide,h3,by simp[oZ,h1,h0,h2]⟩
  obtain⟨e,he,h3,h4⟩:=key
  have jI:(e !=0)=true:=by simpa using he
  rw[h3]at gJ;rw[h4];refine bP hG func29 ntmps29 c29 ?_;simp[c29,a_,ao,ae];refine oc jW ?_;cases hI:cq s
  .rw[hI]at gJ;simp;refine oc gJ ?_;simp[cb,aX,ao,ae,zT,bC,he,jI]
  .rw[hI]at gJ;simp;refine oc NG ?_;simp;refine oc gJ ?_;simp[cb,aX,ao,ae,zT,bC,he,jI]
def yU(s:aq)(an:List Int)(w:Int):Int:=if w<(gr 0 s an:Nat)then 3 else if w<(gr 1 s an:Nat)then 2 else 1
def oN(s:aq)(w:Int):Bool:=bH w 0 (s.name.words.length-1)
def mb(s:aq)(w:Int):List AV:=
 if cq s&&oN s w then(match dV s.name with|some es=>[.int .i64 (yU s (aR s es) w),.int .i64 0]|none=>[.int .i64 0,.int .i64 7])else[.int .i64 0,.int .i64 2]
theorem OW(hG:au GI)(s:aq)(hs:er s)(w:Int):AC prog GI 36 [a_ s,.int .i64 w] (.ret (.d_ (mb s w))):=by
 have jW:=mK hG s hs;have gJ:=BV hG s hs (oN s w)
 have oe:IntKind.i64.wrap ((s.name.words.length:Int)-1)=(s.name.words.length:Int)-1:=by
  have:=hs.name.words;exact aN (by omega)
 rcases kL s (oN s w)with⟨h1,h0,es,h2,h3⟩|h3
 .have hg:=eo h1;have hn:=gX hg (fp hg.name h2)
  have Dq:∀e,e=0\/e=1->_:=λe he=>zP hG s (by have:=hg.cells;omega) e he
  have QF:=Dq 0 (.inl rfl);have Sm:=Dq 1 (.inr rfl);have PC:=qV hG s hg _ hn 0;have Qd:=qV hG s hg _ hn 1
  have ho:mb s w=[.int .i64 (yU s (aR s es) w),.int .i64 0]:=by simp[mb,h1,h0,h2]
  rw[h3,h1,h0]at gJ;rw[ho];rw[h1]at jW;have AH:=h0;unfold oN at AH;refine bP hG func36 ntmps36 c36 ?_;simp[c36,a_,ao,ae];refine oc jW ?_;simp[oe];refine oc (oO hG _ _ _) ?_;simp[AH];refine oc gJ ?_;simp[cb,aX,ao,ae,bC];refine oc QF ?_;simp;refine oc PC ?_;unfold yU
  by_cases c1:w<(gr 0 s (aR s es):Nat)
  .simp[c1]
  simp[c1];refine oc Sm ?_;simp;refine oc Qd ?_
  by_cases c2:w<(gr 1 s (aR s es):Nat)
  .simp[c2]
  .simp[c2]
 .have key:∃ e:Int,e≠0∧de s (cq s && oN s w)=[cb zT [],.int .i64 e]∧mb s w=[.int .i64 0,.int .i64 e]:=by
   rcases h3 with⟨h1,h3⟩|⟨h1,h0,h2,h3⟩
   .exact⟨2,by decide,h3,by simp[mb,h1]⟩
   .exact⟨7,by decide,h3,by simp[mb,h1,h0,h2]⟩
  obtain⟨e,he,h3,h4⟩:=key
  have jI:(e !=0)=true:=by simpa using he
  rw[h3]at gJ;rw[h4];refine bP hG func36 ntmps36 c36 ?_;simp[c36,a_,ao,ae];refine oc jW ?_;cases hI:cq s
  .rw[hI]at gJ;simp;refine oc gJ ?_;simp[cb,aX,ao,ae,zT,bC,he,jI]
  .rw[hI]at gJ;simp[oe];refine oc (oO hG _ _ _) ?_;unfold oN at gJ;simp;refine oc gJ ?_;simp[cb,aX,ao,ae,zT,bC,he,jI]
theorem nH(s:aq)(e:Int)(he:e≠0)(ho:de s (cq s)=[cb zT [],.int .i64 e]):(cq s=false/\e=2)\/(cq s=true/\dV s.name=none/\e=7):=by
 cases hI:cq s with
 |false=>left;simp[de,hI]at ho;exact⟨rfl,ho.symm⟩
 |true=>
  cases hs:dV s.name with
  |none=>right;simp[de,hI,hs]at ho;exact⟨rfl,rfl,ho.symm⟩
  |some es=>simp[de,hI,hs]at ho;exact absurd ho.2.symm he
def o_(s:aq)(p:Nat):aq:={ s with dE:=p }
theorem yX{s:aq}(h:dJ s){p:Nat}(h1:1<=p)(h2:p<=9):dJ (o_ s p):=⟨h.cells,h.qx,h.pos,h.reach,⟨by show(1:Int)<=(p:Int);omega,by show(p:Int)<=9;omega⟩,h.c_,h.name⟩
def ot(s:aq)(es:List End)(p:Nat):Bool:=decide (gr 0 (o_ s p) (aR (o_ s p) es)=(aR (o_ s p) es).length)
def pN:List Nat:=[9,8,7,6,5,4,3,2,1]
def oW(s:aq):List AV:=
 if cq s then(match dV s.name with|some es=>(match pN.find? (ot s es)with|some r=>[.int .i64 (r:Nat),.int .i64 0]|none=>[.int .i64 0,.int .i64 5])|none=>[.int .i64 0,.int .i64 7])else[.int .i64 0,.int .i64 2]
theorem vG{p:Nat->Bool}{r:Nat}(h1:1<=r)(h2:r<=9)(hp:p r=true)(hb:∀k,r<k->k<=9->p k=false):pN.find? p=some r:=by
 have:r=1\/r=2\/r=3\/r=4\/r=5\/r=6\/r=7\/r=8\/r=9:=by omega
 unfold pN;rcases this with rfl|rfl|rfl|rfl|rfl|rfl|rfl|rfl|rfl
 all_goals (repeat rw[List.find?_cons]);simp[hp,hb]
theorem yG{p:Nat->Bool}(hb:∀k,0<k->k<=9->p k=false):pN.find? p=none:=by
 rw[agw];intro x hx
 have:0<x/\x<=9:=by simp[pN]at hx;omega
 rw[hb x this.1 this.2];simp
theorem O0(hG:au GI)(s:aq)(hs:er s):AC prog GI 45 [a_ s] (.ret (.d_ (oW s))):=by
 have jW:=mK hG s hs;have gJ:=tV hG s hs
 rcases gx s with⟨hI,es,dQ,ho⟩|⟨e,he,ho,sr⟩
 .rw[ho]at gJ;have hg:=eo hI
  have Bk:oW s=(match pN.find? (ot s es)with|some r=>[.int .i64 (r:Nat),.int .i64 0]|none=>[.int .i64 0,.int .i64 5]):=by simp[oW,hI,dQ]
  rw[Bk];generalize aR s es=an at gJ;refine bP hG func45 ntmps45 c45 ?_;simp[c45,a_,ao,ae];refine oc jW ?_;simp;refine oc gJ ?_;simp[cb,aX,ao,ae,bC];refine⟨λS H=>∃r:Nat,r<=9/\S 1=.box 1 0/\H 1=some (ao (o_ s r))/\∀k,r<k->k<=9->ot s es k=false,λ_ H=>match H 1 with|some (_::_::_::.int _ r::_)=>r.toNat|_=>0,⟨9,?_⟩,?_⟩
  .simp[ao,ae,o_];intro k h1 h2;omega
  rintro S H ⟨r,hr,s1,h1,hb⟩
  by_cases h0:r=0
  .subst h0;rw[yG hb];simp[ao,ae,o_,s1,h1]
  have AZ:1<=r:=by omega
  have jb:0<r:=by omega
  have yP:=yX hg AZ hr;have Ew:=gX yP (fp yP.name dQ);have vz:=BJ hG (o_ s r) ⟨hs.cells,hs.name⟩ yP (es:=es) dQ;have vJ:=BX hG (o_ s r) yP (aR (o_ s r) es) Ew
  cases hf:ot s es r with
  |true=>
   have yJ:=hf;unfold ot at yJ;rw[yJ]at vJ;rw[vG AZ hr hf hb];simp[ao,ae,o_,s1,h1,jb];refine oc vz ?_;simp[cb,aX,ao,ae];refine oc vJ ?_;simp[ao,ae,o_,s1,h1]
  |false=>
   have yJ:=hf;unfold ot at yJ;rw[yJ]at vJ
   have hw:IntKind.i64.wrap ((r:Int)-1)=((r-1:Nat):Int):=by rw[aN (by omega)];omega
   simp[ao,ae,o_,s1,h1,jb];refine oc vz ?_;simp[cb,aX,ao,ae];refine oc vJ ?_;simp[ao,ae,o_,s1,h1,hw];refine⟨⟨r-1,by omega,rfl,λk q1 q2=>?_⟩,by omega⟩
   by_cases hk:k=r
   .rw[hk];exact hf
   .exact hb k (by omega) q2
 .rw[ho]at gJ
  have sj:oW s=[.int .i64 0,.int .i64 e]:=by
   rcases nH s e he ho with⟨h1,rfl⟩|⟨h1,h2,rfl⟩
   .simp[oW,h1]
   .simp[oW,h1,h2]
  rw[sj]
  have jI:(e !=0)=true:=by simpa using he
  refine bP hG func45 ntmps45 c45 ?_;simp[c45,a_,ao,ae];refine oc jW ?_;simp;refine oc gJ ?_;simp[cb,aX,ao,ae,zT,bC,he,jI]
theorem Mk(hG:au GI)(a b:End):AC prog GI 111 [aS a,aS b] (.ret (.bool (decide (b.2<a.2)))):=by
 refine bP hG func111 ntmps111 c111 ?_;simp[c111,aS]
def iq(x:End)(l:List End):End:=l.foldl (λo y=>if o.2<y.2 then y else o) x
theorem wT(x:End)(l:List End){i:Nat}(h:i<l.length):iq x (l.take (i+1))=if(iq x (l.take i)).2<l[i].2 then l[i]else iq x (l.take i):=by
 unfold iq;rw[agS,ae9 h,afy]
 rfl
theorem MB(hG:au GI)(x:End)(l:List End)(hl:l.length<1000000):AC prog GI 110 [.slice .view (aH (x::l)),.func (.func 111) [] []] (.ret (aS (iq x l))):=by
 obtain⟨iT,Ld,Lb⟩:=bh (P:=prog) (t:=138) (s:=2) (by kernel_rfl);obtain⟨fs,eQ⟩:=bV (P:=prog) (t:=138) (by kernel_rfl);have eK:aM 2 (aH (x::l))=true:=nA (x::l);refine bP hG func110 ntmps110 c110 ?_;refine az (λS H=>S 0=.slice .view (aH (x::l))/\S 1=.func (.func 111) [] []/\S 4=.box 4 0/\H 4=some [.int .i64 0,.int .i64 0]) (by simp) ?_;rintro S H ⟨s0,s1,s4,h4⟩;refine az (λS H=>S 0=.slice .view (aH (x::l))/\S 1=.func (.func 111) [] []/\S 4=.box 4 0/\H 4=some [.int .i64 0,.int .i64 0]/\S 5=.box 5 0/\H 5=some [.int .i64 x.1,.int .i64 x.2]) (by simp[s0,s1,s4,h4,aH,aS,bC]) ?_;clear s0 s1 s4 h4 S H;rintro S H ⟨s0,s1,s4,h4,s5,h5⟩
 have hd:(aH (x::l)).drop 1=aH l:=by simp[aH]
 have hlen:(aH (x::l)).length=l.length+1:=by simp[aH]
 have EE:(1:Int)<=(l.length:Int)+1:=by omega
 have ly:List.take (l.length+1) (aH (x::l))=aH (x::l):=afh (by omega);generalize aH (x::l)=L at s0 hd hlen ly eK
 have LO:((l.length:Int)+1).toNat=l.length+1:=by omega
 simp[bound,s0,s1,s4,h4,s5,h5,hd,hlen,EE,ly,eK,LO];refine bq 14 l.length (λi S H=>S 1=.func (.func 111) [] []/\S 4=.box 4 0/\H 4=some [.int .i64 0,.int .i64 0]/\S 5=.box 5 0/\H 5=some [.int .i64 (iq x (l.take i)).1,.int .i64 (iq x (l.take i)).2]/\S 12=.slice .view (aH l)/\S 13=.int .i64 l.length/\S 14=.int .i64 (i:Nat)) (λi S H h=>h.2.2.2.2.2.2.2) ⟨by simp[s1],by simp[s4],by simp[h4],by simp[s5],by simp[h5,iq],by simp,by simp[aH],by simp⟩ ?_;clear s0 s1 s4 h4 s5 h5 S H;rintro i hi S H ⟨s1,s4,h4,s5,h5,bJ,b0,cU⟩
 by_cases aw:i<l.length
 .have hw:IntKind.i64.wrap ((i:Int)+1)=i+1:=aN (by omega)
  have hn:¬(i:Int)<0:=by omega
  have hs:=wT x l aw;have Kg:=Mk hG l[i] (iq x (l.take i))
  generalize iq x (l.take i)=o at*
  by_cases hc:o.2<l[i].2
  .rw[if_pos hc]at hs;rw[hs];simp[s1,s4,h4,s5,h5,bJ,b0,cU,aw,hn,aH,aS,bC];refine oc Kg ?_;simp[s1,s4,h4,s5,h5,bJ,b0,cU,hc,hw,aH,aS]
  .rw[if_neg hc]at hs;rw[hs]
   have oy:l[i].2<=o.2:=by omega
   simp[s1,s4,h4,s5,h5,bJ,b0,cU,aw,hn,aH,aS,bC];refine oc Kg ?_;simp[s1,s4,h4,s5,h5,bJ,b0,cU,hc,oy,hw,aH,aS]
 .have cD:i=l.length:=by omega
  subst cD;rw[afS]at h5;simp[s1,s4,h4,s5,h5,bJ,b0,cU,Ld,Lb,eQ,fg,aS]
def bX(x:Nat×Nat):End:=((x.1:Int),(x.2:Int))
theorem qn:∀(l:List (Nat×Nat))(x:Nat×Nat),iq (bX x) (l.map bX)=bX (kC x l)
 |[],_=>rfl
 |y::l,x=>by
  have e1:iq (bX x) ((y::l).map bX)=iq (if(bX x).2<(bX y).2 then bX y else bX x) (l.map bX):=rfl;have e2:kC x (y::l)=kC (if x.2<y.2 then y else x) l:=rfl;rw[e1,e2,<-qn l]
  congr 1
  by_cases h:x.2<y.2
  .rw[if_pos h,if_pos (by show(x.2:Int)<(y.2:Int);omega)]
  .rw[if_neg h,if_neg (by show¬(x.2:Int)<(y.2:Int);omega)]
def kX(s:aq)(a:Int):aq:={ s with pos:=a }
theorem zN{s:aq}(h:dJ s){a:Nat}(h1:1<=a)(h2:a<=s.cells.length):dJ (kX s a):=⟨h.cells,h.qx,⟨by show(1:Int)<=(a:Int);omega,by show(a:Int)<=s.cells.length;omega⟩,h.reach,h.dE,h.c_,h.name⟩
def eR(s:aq)(an:List Int)(a:Nat):Nat:=gr 0 (kX s (a:Int)) an
def oJ(s:aq)(an:List Int):Nat×Nat:=kC (1,eR s an 1) (eN (eR s an) 2 (s.cells.length-1))
def oX(s:aq):List AV:=
 if cq s then(match dV s.name with|some es=>[.int .i64 ((oJ s (aR s es)).1:Nat),.int .i64 ((oJ s (aR s es)).2:Nat),.int .i64 0]|none=>[.int .i64 0,.int .i64 0,.int .i64 7])else[.int .i64 0,.int .i64 0,.int .i64 2]
theorem pY(f:Nat->Nat){m:Nat}(hm:1<=m):eN f 1 m=(1,f 1)::eN f 2 (m-1):=by
 obtain⟨k,rfl⟩:∃k,m=k+1:=⟨m-1,by omega⟩
 unfold eN
 rw[agr]<;>rfl
theorem y7(f:Nat->Nat)(m:Nat):eN f 1 (m+1)=eN f 1 m++[(m+1,f (m+1))]:=by
 unfold eN;rw[agL,afu];simp[Nat.add_comm]
theorem O7(hG:au GI)(s:aq)(hs:er s):AC prog GI 52 [a_ s] (.ret (.d_ (oX s))):=by
 have jW:=mK hG s hs;have gJ:=tV hG s hs
 rcases gx s with⟨hI,es,dQ,ho⟩|⟨e,he,ho,sr⟩
 .rw[ho]at gJ;have hg:=eo hI;have hc:=hg.cells
  have Bk:oX s=[.int .i64 ((oJ s (aR s es)).1:Nat),.int .i64 ((oJ s (aR s es)).2:Nat),.int .i64 0]:=by simp[oX,hI,dQ]
  rw[Bk];have hn:=gX hg (fp hg.name dQ);generalize aR s es=an at gJ hn⊢;have Dq:=zP hG s (by omega) 0 (.inl rfl);have j4:=MB hG (bX (1,eR s an 1)) ((eN (eR s an) 2 (s.cells.length-1)).map bX) (by simp[eN];omega);rw[qn]at j4
  have fX:bX (1,eR s an 1)::(eN (eR s an) 2 (s.cells.length-1)).map bX=(eN (eR s an) 1 s.cells.length).map bX:=by
   rw[pY _ hc.1]<;>rfl
  rw[fX]at j4;refine bP hG func52 ntmps52 c52 ?_;refine az (λS H=>S 1=.box 1 0/\H 1=some (ao s)) (by simp[a_,ao,ae]) ?_;rintro S H ⟨s1,h1⟩;refine az (λS H=>S 1=.box 1 0/\H 1=some (ao s)/\S 5=.box 5 0/\H 5=some (aX s an)/\S 6=.int .i64 0) ?_ ?_
  .simp[s1,h1,ao,ae];refine oc jW ?_;simp;refine oc gJ ?_;simp[s1,h1,cb,aX,ao,ae,bC]
  clear s1 h1 S H;rintro S H ⟨s1,h1,s5,h5,s6⟩;refine az (λS H=>S 1=.box 1 0/\H 1=some (ao s)/\S 5=.box 5 0/\H 5=some (aX s an)) (by simp[s1,h1,s5,h5,s6]) ?_;clear s1 h1 s5 h5 s6 S H;rintro S H ⟨s1,h1,s5,h5⟩;refine az (λS H=>S 1=.box 1 0/\H 1=some (ao s)/\S 5=.box 5 0/\H 5=some (aX s an)/\S 7=.slice .nil []) (by simp[s1,h1,s5,h5]) ?_;clear s1 h1 s5 h5 S H;rintro S H ⟨s1,h1,s5,h5,s7⟩;refine az (λS H=>S 7=grow 138 (aH ((eN (eR s an) 1 s.cells.length).map bX))) ?_ ?_
  .refine az (λS H=>S 1=.box 1 0/\H 1=some (ao s)/\S 5=.box 5 0/\H 5=some (aX s an)/\S 7=.slice .nil []/\S 8=.int .i64 1) (by simp[s1,h1,s5,h5,s7]) ?_;clear s1 h1 s5 h5 s7 S H;rintro S H ⟨s1,h1,s5,h5,s7,s8⟩;simp only[dh];refine⟨λS H=>∃i:Nat,i<=s.cells.length/\S 1=.box 1 0/\H 1=some (ao s)/\S 5=.box 5 0/\(∃p,H 5=some (aX (kX s p) an))/\S 7=grow 138 (aH ((eN (eR s an) 1 i).map bX))/\S 8=.int .i64 ((i:Int)+1),λS _=>match S 8 with|.int _ r=>(13-r).toNat|_=>0,⟨0,afK _,s1,h1,s5,⟨s.pos,h5⟩,by rw[s7]<;>rfl,s8⟩,?_⟩;clear s1 h1 s5 h5 s7 s8 S H;rintro S H ⟨i,hi,s1,h1,s5,⟨p,h5⟩,s7,s8⟩
   by_cases aw:i<s.cells.length
   case neg=>
    have cD:i=s.cells.length:=by omega
    subst cD
    have hq:¬((s.cells.length:Int)+1<=s.cells.length):=by omega
    simp[s1,h1,s5,h5,s7,s8,hq,ao,ae]
   have hq:(i:Int)+1<=s.cells.length:=by omega
   have hw:IntKind.i64.wrap ((i:Int)+1+1)=(i:Int)+1+1:=aN (by omega);have xx:=qV hG (kX s ((i+1:Nat):Int)) (zN hg (by omega) (by omega)) an hn 0
   have kZ:aH ((eN (eR s an) 1 (i+1)).map bX)=aH ((eN (eR s an) 1 i).map bX)++[.agg [.int .i64 ((i:Int)+1),.int .i64 (eR s an (i+1):Nat)]]:=by
    rw[y7,afu];unfold aH;rw[afu];simp[bX,aS]
   have hlen:(aH ((eN (eR s an) 1 i).map bX)).length=i:=by simp[aH,eN]
   have eK:=nA ((eN (eR s an) 1 i).map bX);have Wg:gr 0 (kX s ((i+1:Nat):Int)) an=eR s an (i+1):=rfl;rw[Wg]at xx;have k3:aM 2 [AV.agg [.int .i64 ((i:Int)+1),.int .i64 (eR s an (i+1):Nat)]]=true:=rfl
   have pB:i+1<1048576:=by omega
   generalize aH ((eN (eR s an) 1 i).map bX)=L at s7 kZ hlen eK;simp[s1,h1,s5,h5,s7,s8,hq,aX,kX,ao,ae];refine oc Dq ?_;simp[s1,h1,s5,h5,s7,s8,aX,kX,ao,ae];refine oc xx ?_;have gG:(AV.agg [.int .i64 ((i:Int)+1),.int .i64 (eR s an (i+1):Nat)]).storable=true:=rfl
   cases L with
   |nil=>
    have ox:grow 138 []=.slice .nil []:=rfl
    have JH:i=0:=by simpa using hlen.symm
    subst JH;simp[s1,h1,s5,h5,s8,ox,bC,aX,kX,ao,ae,aM];have fL:IntKind.i64.wrap 2=2:=aN (by omega);rw[fL];exact⟨⟨1,hc.1,rfl,by omega⟩,by omega⟩
   |cons y L=>
    have ox:grow 138 (y::L)=.slice (.own 138) (y::L):=rfl;simp[s1,h1,s5,h5,s8,ox,hw,hlen,pB,k3,eK,bC,aX,kX,ao,ae];exact⟨⟨i+1,by omega,by rw[kZ]<;>rfl,by omega⟩,by omega⟩
  .clear s1 h1 s5 h5 s7 S H;intro S H s7
   have ry:grow 138 (aH ((eN (eR s an) 1 s.cells.length).map bX))=.slice (.own 138) (aH ((eN (eR s an) 1 s.cells.length).map bX)):=by
    rw[pY _ hc.1]<;>rfl
   rw[ry]at s7;have hb:kC (1,eR s an 1) (eN (eR s an) 2 (s.cells.length-1))=oJ s an:=rfl;rw[hb]at j4;generalize aH ((eN (eR s an) 1 s.cells.length).map bX)=L at s7 j4;generalize oJ s an=q at j4⊢;simp[s7];refine oc j4 ?_;simp[aS,bX,bC]
 .rw[ho]at gJ
  have sj:oX s=[.int .i64 0,.int .i64 0,.int .i64 e]:=by
   rcases nH s e he ho with⟨h1,rfl⟩|⟨h1,h2,rfl⟩
   .simp[oX,h1]
   .simp[oX,h1,h2]
  rw[sj]
  have jI:(e !=0)=true:=by simpa using he
  refine bP hG func52 ntmps52 c52 ?_;simp[c52,a_,ao,ae];refine oc jW ?_;simp;refine oc gJ ?_;simp[cb,aX,ao,ae,zT,bC,he,jI]
theorem Lz(hG:au GI)(s:aq)(hs:s.cells.length<1000)(e:Nat)(he:e=0\/e=1)(dO:bg e s≠[]):AC prog GI 98 [a_ s,.int .i64 (e:Nat)] (.ret (.slice (.own 3) (ints (bg e s)))):=by
 refine AC.gY func98 rfl ntmps98 (by simp) λcc w=>KM hG s hs e he cc w λS5 H5 s6=>?_
 have AH:ints (bg e s)≠[]:=by simpa[ints]using dO
 have BQ:S5 6=.slice (.own 3) (ints (bg e s)):=by rw[s6];simp[grow,AH]
 clear s6;show SW prog GI 29 none (.seq (.region _ _ false) .ret) _ _ _ _
 refine SW.seq (SW.hand hG (p:=0) (lm:=[0,1]) (l2:=[]) (kY:=[]) (oh:=[_,_]) (lJ:=[]) rfl rfl rfl rfl (by kernel_rfl) (λ_ h=>h) (lM:=[]) (kP:=[]) rfl rfl rfl rfl
  (K1:=λS H=>S 6=.slice (.own 3) (ints (bg e s))) (K2:=λo S H=>o=Old.plain cc w/\S 4=.slice (.own 3) (ints (bg e s))) (K3:=λo S H=>o=Old.plain cc w/\S 4=.slice (.own 3) (ints (bg e s))) ?_ ?_ ?_ ?_)
 .exact BQ
 .rintro w0 g S H a w' m dS ho R s6;have r6:=R.slot 6 (by decide) (λh=>h);rw[s6]at r6;have bL:=R.size
  obtain⟨c,hc⟩:∃c,a.tmps.getD 6 undef=c:=⟨_,rfl⟩
  rw[hc]at r6;have rv:RD g.Pr w' (.slice .view (ints (bg e s))) c:=(r6.j_ rfl).aI;refine aW rfl rfl (by rfl) ((run_move (x:=.tmp 6) w' rfl).trans (congrArg (λv=>Result.ok (Next.value v) w') hc)) ?_;have R1:=R.put 28 (.slice .view (ints (bg e s))) c (by decide) (.data _ _ rv) trivial
  have pk:(a.put (some 28) c).tmps.getD 28 undef=c:=by simp[Act.put,bL]
  refine aW rfl rfl (by rfl) ((run_assign (x:=.tmp 28) w' rfl).trans (congrArg (λv=>Result.ok (Next.value v) w') pk)) ?_;have R2:=R1.put 4 (.slice .view (ints (bg e s))) c (by decide) (.data _ _ rv) trivial
  have e4:((a.put (some 28) c).put (some 4) c).tmps.getD 4 undef=c:=by simp[Act.put,bL]
  have e6:((a.put (some 28) c).put (some 4) c).tmps.getD 6 undef=a.tmps.getD 6 undef:=by simp[Act.put,afb]
  obtain⟨g',q1,R3⟩:=R2.HE (t:=6) (u:=4) (e:=3) (es:=ints (bg e s)) (by decide) (by decide) (by decide) (by simp[av,s6]) (by rw[e4,e6,hc]);exact⟨g',_,_,R3,by rw[q1];exact ho,bm _ _ _⟩
 .rintro o S H ⟨rfl,s4⟩;exact⟨λ_ h=>h,rfl,s4⟩
 .rintro o S H ⟨rfl,s4⟩;refine SW.ret ⟨eD.plain rfl,rfl,_,?_,rfl⟩;show cw prog 29 [.tmp 4] S H=_;simp[cw,cH,cI,s4,AV.bU,AV.out]
theorem AR{a:Act}{w:World}{o:Oper}{x y:Operand}{t ty:TypeId}{m n:Int}(ho:o.op=.binOp .add t x y ty)(hx:a.eval x=.int .i64 m)(hy:a.eval y=.int .i64 n):(execOp a.eval o).run prog w=.ok (.value (.int .i64 (IntKind.i64.wrap (m+n)))) w:=by
 unfold execOp;simp[ho,hx,hy,Go.binOp,Op.intArith,eqGuard]
def fK(s:aq)(i n:Nat):List Int:=(bg 0 s).set i ((bg 0 s).getD i 0+n)
def kH(s:aq)(an:List Int)(i n:Nat):Bool:=decide (om s an (fK s i n)=an.length)
theorem E2(l:List Int):Ed 1 (ints l):=λx hx=>by
 obtain⟨k,_,rfl⟩:=afp.1 hx;exact⟨rfl,rfl,λc hc=>by simp[AV.cells]at hc;subst hc;rfl⟩
theorem ints_set(l:List Int)(i:Nat)(x:Int):(ints l).set i (.int .i64 x)=ints (l.set i x):=by simp[ints,List.map_set]
structure PO(cc:Nat->Nat->Prop)(o:Old):Prop where
 c:o.c=cc
 ds:o.ds=[]
 bx:∀d,¬o.bx d
theorem LH (hG:au GI) (s:aq) (h:dJ s) (an:List Int) (hn:(∀ x∈an,0≤x∧x≤1000)∧an.length≤1000) {i:Nat} (hi:i < s.cells.length) {n:Nat} (Bq:n≤900) :
  AC prog GI 104 [.int .i64 (n:Nat),.ref (ao s),.ref [.int .i64 (i:Nat)],.ref (aX s an)] (.ret (.bool (kH s an i n))):=by
 have hc:=h.cells
 have CN:(bg 0 s).length=s.cells.length:=by simp[bg]
 have dO:bg 0 s≠[]:=λh0=>by rw[h0]at CN;simp at CN;omega
 have mY:=(l_ h 0).2
 have cD:i<(bg 0 s).length:=by omega
 have Wt:=mY _ (ae_ cD)
 have Yj:(bg 0 s)[i]<=20:=by
  have:=h.qx _ (ae_ hi);simp[bg,ov];omega
 have Hx:(bg 0 s).getD i 0=(bg 0 s)[i]:=by simp[afA,cD]
 have Dq:=Lz hG s (by omega) 0 (.inl rfl) dO
 have oe:(fK s i n).length=s.cells.length:=by simp[fK,CN]
 have xx:=FT hG s h an hn.1 hn.2 (fK s i n) oe (λx hx=>by
  rcases ah5 hx with h1|h1
  .exact mY x h1
  .rw[h1,Hx];omega)
 have kj:((dq an (dz (fK s i n)) (dn (cM s) s.cells.length):Int)==(an.length:Int))=kH s an i n:=by
  show _=decide (dq an (dz (fK s i n)) (dn (cM s) s.cells.length)=an.length);rw[afZ,aff,afY];omega
 obtain⟨i3,pQ,lr⟩:=bh (P:=prog) (t:=3) (s:=1) (by kernel_rfl);obtain⟨d3,OO,KK⟩:=iy (P:=prog) (t:=3) (by kernel_rfl)
 refine AC.gY func104 rfl ntmps104 (by simp) λcc w=>?_
 refine dw hG c104.qa (λS H=>S 0=.int .i64 (n:Nat)/\S 1=.ref (ao s)/\S 2=.ref [.int .i64 (i:Nat)]/\S 3=.ref (aX s an)) ?_ ?_
 .simp[c104,af.qa,aX,ao,ae]
 rintro S1 H1 ⟨s0,s1,s2,s3⟩;show SW prog GI 23 none (.seq _ (.seq _ (.seq _ .ret))) _ _ _ _
 refine SW.seq (SW.hand hG (p:=1) (lm:=[1]) (l2:=[2]) (kY:=[_]) (oh:=[_]) (lJ:=[_]) rfl rfl rfl rfl (by kernel_rfl) (λ_ h=>h)
  (lM:=(c104.qb.qa.dl).take 1) (kP:=(c104.qb.qa.dl).drop 2) (by kernel_rfl) (by kernel_rfl) (by kernel_rfl) (by kernel_rfl)
  (K1:=λS H=>S 0=.int .i64 (n:Nat)/\S 2=.ref [.int .i64 (i:Nat)]/\S 3=.ref (aX s an)/\S 7=a_ s)
  (K2:=λo S H=>∃v,KO cc 3 1 (ints (bg 0 s)) o v/\S 0=.int .i64 (n:Nat)/\S 2=.ref [.int .i64 (i:Nat)]/\S 3=.ref (aX s an)/\S 8=.val v)
  (K3:=λo S H=>∃v,KO cc 3 1 (ints (bg 0 s)) o v/\S 0=.int .i64 (n:Nat)/\S 2=.ref [.int .i64 (i:Nat)]/\S 3=.ref (aX s an)/\S 6=.val v) ?_ ?_ ?_ ?_)
 .simp[c104,af.qa,af.qb,af.dl,s0,s1,s2,s3,a_,ao,ae]
 .rintro w0 g S H a w' m dS ho R ⟨s0,s2,s3,s7⟩;have r7:=R.slot 7 (by decide) (λh=>h);rw[s7]at r7
  refine eS rfl rfl (by rfl) (fU (k:=98) (args:=#[a.tmps.getD 7 undef,.int .i64 0]) w' rfl rfl ?_ (by kernel_rfl)) (Dq w' (fy g false) #[a.tmps.getD 7 undef,.int .i64 0] (hG w0 w' dS (by have:=R.below;rwa [R.base]at this)) rfl (λj hj fj=>by
   match j,hj with
   |0,_=>exact(r7.cd rfl).mono (bz.same λb k _ hp=>.inl hp) λ_ _ h=>h
   |1,_=>exact .data _ _ (.int _ _))) ?_
  .simp only[afw,afv,afB,Act.eval]
  intro en w2 hE;obtain⟨v,g',rfl,R2,hK⟩:=EV R (cc:=cc) (by rw[ho];exact⟨rfl,rfl,λ_ h=>h⟩) pQ (by rw[lr];exact E2 _) hE;rw[lr]at hK;refine⟨_,rfl,?_⟩
  have pV:v.oneCell'=true:=by
   rcases hK.row with⟨⟨_,rfl⟩,_⟩|⟨_,_,_,rfl,_⟩<;>rfl
  exact⟨g',_,_,R2.put 8 (.val v) v (by decide) (.data _ _ (.val _ pV)) trivial,v,hK,by simp[av,s0],by simp[av,s2],by simp[av,s3],by simp[av]⟩
 .rintro o S H ⟨v,hK,s0,s2,s3,s8⟩;refine⟨hK.bx,?_⟩;simp[c104,af.qa,af.qb,af.dl,s0,s2,s3,s8];exact hK
 clear s0 s1 s2 s3 S1 H1;rintro o S1 H1 ⟨v,hK,s0,s2,s3,s6⟩;have Pz:=hK.bx
 refine SW.seq (SW.hand hG (p:=2) (lm:=[2,3,4,5,6,7]) (l2:=[]) (kY:=[_,_]) (oh:=[_,_,_,_,_,_]) (lJ:=[]) rfl rfl rfl rfl (by kernel_rfl) Pz
  (lM:=(c104.qb.qb.qa.dl).take 2) (kP:=[]) (by kernel_rfl) rfl (by kernel_rfl) rfl
  (K1:=λS H=>S 0=.int .i64 (n:Nat)/\S 3=.ref (aX s an)/\S 6=.val v/\S 9=.val v/\S 10=.int .i64 (i:Nat))
  (K2:=λo S H=>PO cc o/\S 3=.ref (aX s an)/\S 6=vI (fK s i n))
  (K3:=λo S H=>PO cc o/\S 3=.ref (aX s an)/\S 6=vI (fK s i n)) ?_ ?_ ?_ ?_)
 .simp[c104,af.qa,af.qb,af.dl,s0,s2,s3,s6]
 .rintro w0 g S H a w' m dS ho R ⟨s0,s3,s6,s9,bw⟩;rw[<-ho]at hK
  have CK:i<(ints (bg 0 s)).length:=by simpa[ints]using cD
  obtain⟨b,cap,cur,hv,ng,qd,gG⟩:=hK.cell R CK
  have yQ:(ints (bg 0 s))[i]=.int .i64 (bg 0 s)[i]:=by simp[ints]
  have pU:0<((ints (bg 0 s))[i]).cells.length:=by rw[yQ];simp[AV.cells]
  have tO:=gG 0 pU
  have Ox:T9 (((ints (bg 0 s))[i]).cells[0]'pU)=.int .i64 (bg 0 s)[i]:=by simp only[yQ];rfl
  rw[Ox,agf,Nat.add_zero]at tO;have t9:=R.slot 9 (by decide) (λh=>h);rw[s9]at t9;have e9:a.eval (.tmp 9)=.slice (some ⟨b,0,none⟩) (ints (bg 0 s)).length cap:=t9.eU.trans hv;have t10:=R.slot 10 (by decide) (λh=>h);rw[bw]at t10;have ij:a.eval (.tmp 10)=.int .i64 (i:Nat):=t10.int_eq;have t0:=R.slot 0 (by decide) (λh=>h);rw[s0]at t0;have e0:a.eval (.tmp 0)=.int .i64 (n:Nat):=t0.int_eq;have bL:=R.size;have jF:IntKind.i64.wrap ((bg 0 s)[i]+n)=(bg 0 s)[i]+n:=aN (by omega);refine aW rfl rfl (by rfl) (kU (k:=i) rfl (by kernel_rfl) pQ e9 ij CK) ?_;rw[lr,agf];have R1:=R.put 11 (.val (.pointer (some ⟨b,i,none⟩))) (.pointer (some ⟨b,i,none⟩)) (by decide) (.data _ _ (.val _ rfl)) trivial
  have p:=λt c=>bt a 11 t c (by omega)
  have f11:=(p 11 (.pointer (some ⟨b,i,none⟩))).trans (if_pos rfl);have f9:=((p 9 (.pointer (some ⟨b,i,none⟩))).trans (if_neg (by decide))).trans e9;have f10:=((p 10 (.pointer (some ⟨b,i,none⟩))).trans (if_neg (by decide))).trans ij;have f0:=((p 0 (.pointer (some ⟨b,i,none⟩))).trans (if_neg (by decide))).trans e0;have O2:=R1.size;show wpOpsIn _ _ _ _ _ [3,4,5,6,7] (a.put (some 11) (.pointer (some ⟨b,i,none⟩))) w'
  generalize a.put (some 11) (.pointer (some ⟨b,i,none⟩))=a1 at*
  clear p e9 ij e0 t9 t10 t0;refine aW rfl rfl (by rfl) (uA rfl f11 OO KK qd tO.2) ?_;have R2:=R1.put 12 (.int .i64 (bg 0 s)[i]) (.int .i64 (bg 0 s)[i]) (by decide) (.data _ _ (.int _ _)) trivial
  have p:=λt c=>bt a1 12 t c (by omega)
  have g12:=(p 12 (.int .i64 (bg 0 s)[i])).trans (if_pos rfl);have g9:=((p 9 (.int .i64 (bg 0 s)[i])).trans (if_neg (by decide))).trans f9;have g10:=((p 10 (.int .i64 (bg 0 s)[i])).trans (if_neg (by decide))).trans f10;have g0:=((p 0 (.int .i64 (bg 0 s)[i])).trans (if_neg (by decide))).trans f0;have vK:=R2.size;show wpOpsIn _ _ _ _ _ [4,5,6,7] (a1.put (some 12) (.int .i64 (bg 0 s)[i])) w'
  generalize a1.put (some 12) (.int .i64 (bg 0 s)[i])=a2 at*
  clear p f11 f9 f10 f0;refine aW rfl rfl (by rfl) ((run_move (x:=.tmp 0) w' rfl).trans (congrArg (λv=>Result.ok (Next.value v) w') g0)) ?_;have R3:=R2.put 13 (.int .i64 (n:Nat)) (.int .i64 (n:Nat)) (by decide) (.data _ _ (.int _ _)) trivial
  have p:=λt c=>bt a2 13 t c (by omega)
  have SS:=(p 13 (.int .i64 (n:Nat))).trans (if_pos rfl);have Qf:=((p 12 (.int .i64 (n:Nat))).trans (if_neg (by decide))).trans g12;have k9:=((p 9 (.int .i64 (n:Nat))).trans (if_neg (by decide))).trans g9;have RX:=((p 10 (.int .i64 (n:Nat))).trans (if_neg (by decide))).trans g10;have Uf:=R3.size;show wpOpsIn _ _ _ _ _ [5,6,7] (a2.put (some 13) (.int .i64 (n:Nat))) w'
  generalize a2.put (some 13) (.int .i64 (n:Nat))=a3 at*
  clear p g12 g9 g10 g0;refine aW rfl rfl (by rfl) (AR rfl Qf SS) ?_;rw[jF];have R4:=R3.put 14 (.int .i64 ((bg 0 s)[i]+n)) (.int .i64 ((bg 0 s)[i]+n)) (by decide) (.data _ _ (.int _ _)) trivial
  have p:=λt c=>bt a3 14 t c (by omega)
  have Ke:=(p 14 (.int .i64 ((bg 0 s)[i]+n))).trans (if_pos rfl);have l9:=((p 9 (.int .i64 ((bg 0 s)[i]+n))).trans (if_neg (by decide))).trans k9;have l10:=((p 10 (.int .i64 ((bg 0 s)[i]+n))).trans (if_neg (by decide))).trans RX;have vP:=R4.size;show wpOpsIn _ _ _ _ _ [6,7] (a3.put (some 14) (.int .i64 ((bg 0 s)[i]+n))) w'
  generalize a3.put (some 14) (.int .i64 ((bg 0 s)[i]+n))=a4 at*
  clear p Qf SS k9 RX;refine aW rfl rfl (by rfl) (kU (k:=i) rfl (by kernel_rfl) pQ l9 l10 CK) ?_;rw[lr,agf];have R5:=R4.put 15 (.val (.pointer (some ⟨b,i,none⟩))) (.pointer (some ⟨b,i,none⟩)) (by decide) (.data _ _ (.val _ rfl)) trivial
  have p:=λt c=>bt a4 15 t c (by omega)
  have m15:=(p 15 (.pointer (some ⟨b,i,none⟩))).trans (if_pos rfl);have m14:=((p 14 (.pointer (some ⟨b,i,none⟩))).trans (if_neg (by decide))).trans Ke;show wpOpsIn _ _ _ _ _ [7] (a4.put (some 15) (.pointer (some ⟨b,i,none⟩))) w'
  generalize a4.put (some 15) (.pointer (some ⟨b,i,none⟩))=a5 at*
  clear p Ke l9 l10;obtain ⟨Eg,eh,EH,Mh⟩:=yI (o:={ dst:=none,op := .store 3 (.tmp 15) (.tmp 14),type:=0,pos := "",after := #[],guard:=none }) (v := .int .i64 ((bg 0 s)[i]+n)) rfl m15 pQ lr qd tO.1 m14 rfl;refine dk rfl rfl (by rfl) eh ?_;have R6:=R5.m_ ng (.cells Eg 3 (0,0));have yD:=hK.set (j:=i) (k:=0) CK (by rw [yQ];simp [AV.cells]) (x := .int .i64 ((bg 0 s)[i]+n)) (u := .int .i64 ((bg 0 s)[i]+n)) (λx hx=>by simp at hx;subst hx;exact ⟨rfl,rfl,λc hc=>by simp [AV.cells] at hc;subst hc;rfl⟩) (by rw [yQ]<;>rfl) hv ng EH (λm=>by rw [Mh m,agf,Nat.add_zero]<;>rfl);rw [ints_set] at yD
  have nk:(bg 0 s).set i ((bg 0 s)[i]+n)=fK s i n:=by rw[fK,Hx]
  rw[nk]at yD;obtain⟨g',R7,q1,q2,q3⟩:=KO.done yD R6 (t:=6) (by decide) (by simp[av,s6]);exact⟨g',_,_,R7,⟨q1,q2,q3⟩,by simp[av,s3],by simp[av]<;>rfl⟩
 .rintro o S H ⟨hp,s3,s6⟩;exact⟨hp.bx,hp,s3,s6⟩
 clear s0 s2 s3 s6 S1 H1 hK Pz;rintro o S1 H1 ⟨hp,s3,s6⟩;refine yu hG c104.qb.qb.qb.qa (λd _=>hp.bx d) (λS H=>S 5=.bool (kH s an i n)) ?_ ?_
 .simp[c104,af.qa,af.qb,s3,s6,aX,ao,ae];refine oc xx ?_;simp[s3,s6,aX,ao,ae];exact kj
 .intro S H s5;refine SW.ret ⟨eD.plain hp.ds,hp.c,_,?_,rfl⟩;show cw prog 23 [.tmp 5] S H=_;simp[cw,cH,cI,s5,AV.bU,AV.out]
theorem Oz{s:ar}(cK:aU s=true){x:List End}{l:List (List End)}(hg:eu s []=x::l):mA List.length (eu s [])=(eP (dF s) x l).length/\yy s=(eP (dF s) x l,il s [] (eP (dF s) x l))/\0<=il s [] (eP (dF s) x l):=by
 have hB:AU (jl List.length (il s [])) (eu s []) (eP (dF s) x l):=by rw[hg];exact IU x l
 have h1:∀y∈eu s [],1<=y.length:=λy hy=>afP.2 (zH (pT cK hy).1).2.1
 have h2:∀y∈eu s [],0<=il s [] y:=λy hy=>by
  obtain⟨a,_,b⟩:=pT cK hy;rw[LZ cK (nL cK a) (by omega) (by omega)]at b;simpa using b
 have e1:=Ig hB h1;refine⟨e1,?_,h2 _ (by rw[hg];exact kz _ _ _)⟩;unfold yy;rw[e1];exact Ln hB h2
end Go.Proofs.Tryz
namespace Go.Proofs.Tryz
open Go Go.AL Go.RowKit Go.Proofs Go.Proofs.Tram
section
variable{H:Type}{enc:TypeId×Value->H}{w:World}{held:Bool}
def T0:Nat->Nat->Prop:=λ_ _=>True
def kM(w:World)(l:List AV)(cs:List Value):Prop:=l.length=cs.length/\∀i (h:i<l.length)(h':i<cs.length),(l[i]).one=true/\RD T0 w l[i] cs[i]
def iP(enc:TypeId×Value->H)(w:World)(held:Bool)(t:TypeId){α:Type}(f:α->List AV)(tG:α->Prop):Prop:=
 ∀(fuel:Nat)(cs:List Value)(x:DataW H×List MemPlace),DataW.trod enc prog w 0 (λ_=>true) held fuel t cs=some x->∃a,tG a/\kM w (f a) cs
def jg(n:Int):Prop:= -9223372036854775808<=n/\n<9223372036854775808
theorem Bp{t:TypeId}(ht:prog.underlying t=some (.int .i64)):iP enc w held t (λn:Int=>[.int .i64 n]) jg:=by
 intro fuel cs x h;obtain⟨n,rfl,_,hw⟩:=DataW.trod_int ht h;refine⟨n,?_,rfl,λi hi gq=>?_⟩
 .simp only[Lit.wf,afa,aff]at hw
  have h1:IntKind.i64.min= -9223372036854775808:=by kernel_rfl
  have h2:IntKind.i64.max=9223372036854775807:=by kernel_rfl
  rw[h1,h2]at hw;exact⟨hw.1,by omega⟩
 .match i,hi with
  |0,_=>exact⟨rfl,.int _ _⟩
theorem rG{t:TypeId}(ht:prog.underlying t=some .bool):iP enc w held t (λb:Bool=>[.bool b]) (λ_=>True):=by
 intro fuel cs x h;obtain⟨b,rfl,_⟩:=DataW.trod_bool ht h;refine⟨b,trivial,rfl,λi hi gq=>?_⟩
 match i,hi with
 |0,_=>exact⟨rfl,.bool _⟩
theorem p7{α:Type}{p:Nat->α->Prop}:∀(n:Nat),(∀i,i<n->∃a,p i a)->∃l:List α,l.length=n/\∀i (h:i<l.length),p i l[i]
 |0,_=>⟨[],rfl,λi h=>by simp at h⟩
 |n+1,h=>by
  obtain⟨l,hl,hp⟩:=p7 n λi hi=>h i (by omega)
  obtain⟨a,ha⟩:=h n (by omega);refine⟨l++[a],by simp[hl],λi hi=>?_⟩
  by_cases kW:i<l.length
  .rw[afz kW];exact hp i kW
  .have:i=n:=by simp at hi;omega
   subst this;rw[af2 (by omega)];simpa[hl]using ha
theorem BZ{w:World}{a:Addr}{v:Value}(h:w.cell? a=some v):a=⟨a.block,a.off,none⟩:=by
 obtain⟨b,o,s⟩:=a;unfold World.cell? at h
 cases s with
 |none=>rfl
 |some s=>
  simp at h
  split at h<;>simp at h
theorem kf {t e:TypeId} {α:Type} {f:α→List AV} {tG:α→Prop} (mk:α→AV) (WE:∀ a,(mk a).cells=f a) (ht:prog.underlying t=some (.slice e)) (jb:0 < prog.cellsOf e) (he:iP enc w held e f tG) :
  iP enc w held t (λl:List α=>[.slice .view (l.map mk)]) (λl=>∀a∈l,tG a):=by
 intro fuel cs x h
 rcases DataW.trod_slice ht h with⟨rfl,_⟩|⟨a,len,cap,elems,rest,n,_,rfl,_,_,Uw,CA,hlen,Ej,jo,_⟩
 .refine⟨[],by simp,rfl,λi hi gq=>?_⟩
  match i,hi with
  |0,_=>exact⟨rfl,.qw _⟩
 .obtain⟨size,Dj⟩:∃size,prog.cellsOf e=size:=⟨_,rfl⟩
  rw[Dj]at jb Ej jo;obtain⟨CN,G5⟩:=jo rfl
  by_cases iV:cap=0
  .subst iV
   have pU:len=0:=by omega
   subst pU;refine⟨[],by simp,rfl,λi hi gq=>?_⟩
   match i,hi with
   |0,_=>exact⟨rfl,.sF _ _⟩
  have sM:∃i kd,w.cells? 0 (a.add (i*size)) size=some kd/\i=0:=by
   by_cases pU:len=0
   .subst pU;have h0:=G5 0 (by omega);rw[ae9 (by omega),af5]at h0;obtain⟨kd,h1,_⟩:=h0;exact⟨0,kd,by simpa using h1,rfl⟩
   .have h0:=Ej 0 (by omega);rw[ae9 (by omega),af5]at h0;obtain⟨kd,h1,_⟩:=h0;exact⟨0,kd,h1,rfl⟩
  obtain⟨_,Uy,C6,rfl⟩:=sM;rw[ain,show a.add 0=a by simp[Addr.add]]at C6;have tO:=(ahf C6).2.2 0 (by omega);rw[show a.add 0=a by simp[Addr.add]]at tO;have pU:=(ahf C6).2.1;rw[ae9 (by omega)]at tO
  obtain⟨b,off,rfl⟩:∃b off,a=⟨b,off,none⟩:=⟨_,_,BZ tO⟩
  clear tO C6 pU Uy G5 jo
  obtain⟨l,hl,hp⟩:=p7 (p:=λi (v:α)=>tG v/\∃kd,w.cells? 0 ((⟨b,off,none⟩:Addr).add (i*size)) size=some kd/\kM w (f v) kd) len λi hi=>by
   have h0:=Ej i hi;rw[ae9 (by omega),af5]at h0;obtain⟨kd,h1,h2⟩:=h0;obtain⟨v,hv,hc⟩:=he _ _ _ h2;exact⟨v,hv,kd,h1,hc⟩
  refine⟨l,λv hv=>?_,rfl,λi hi gq=>?_⟩
  .obtain⟨i,hi,rfl⟩:=afD hv;exact(hp i hi).1
  .have JH:i=0:=by simpa using hi
   subst JH;refine⟨rfl,?_⟩;show RD T0 w (.slice .view (l.map mk)) (.slice (some ⟨b,off,none⟩) len cap)
   have DG:len=(l.map mk).length:=by simp[hl]
   have zh:∀i (h:i<(l.map mk).length),((l.map mk)[i]).cells=f (l[i]'(by simpa using h)):=λi h=>by rw[afl];exact WE _
   have key:∀m,m=(l.map mk).length->RD T0 w (.slice .view (l.map mk)) (.slice (some ⟨b,off,none⟩) m cap):=?_
   .exact key _ DG
   rintro m rfl
   have gG:∀i (h:i<l.length) j,j<size->∃kd,kM w (f l[i]) kd/\kd.length=size/\w.cell? ⟨b,off+(i*size+j),none⟩=kd[j]?:=by
    intro i h j hj;obtain⟨_,kd,h1,h2⟩:=hp i h;obtain⟨_,h3,h4⟩:=ahf h1;have h5:=h4 j hj;rw[ahn,ahn,ahU]at h5;exact⟨kd,h2,h3,h5⟩
   have FZ:∀i (h:i<l.length),(f l[i]).length=size:=by
    intro i h;obtain⟨kd,h1,h2,_⟩:=gG i h 0 jb;rw[h1.1,h2]
   refine .slice .view (l.map mk) b off cap size (λk=>(w.cell? ⟨b,off+k,none⟩).getD undef) (by rw[<-DG];exact Uw) (λh=>by cases h) (λi h=>by rw[zh];exact FZ _ _) (λi h j hj=>?_) (λk hk=>⟨trivial,?_⟩) (λi h j hj=>?_)
   .have cD:i<l.length:=by simpa using h
    have fj:j<(f l[i]).length:=by rw[zh]at hj;exact hj
    have Mw:j<size:=by rw[FZ]at fj;exact fj
    obtain⟨kd,h1,h2,_⟩:=gG i cD j Mw
    have e:((l.map mk)[i]).cells[j]=(f l[i])[j]:=by simp only[zh]
    rw[e];exact(h1.2 j fj (by omega)).1
   .have ee:k<l.length*size:=by simpa using hk
    have hi:k/size<l.length:=ahF (by rw[ag6];exact ee);have hj:k % size<size:=aio _ jb;obtain⟨kd,h1,h2,h3⟩:=gG (k/size) hi (k % size) hj
    have e:k/size*size+k % size=k:=by rw[ag6];exact aih k size
    rw[e,ae9 (by omega)]at h3;rw[h3];rfl
   .have cD:i<l.length:=by simpa using h
    have fj:j<(f l[i]).length:=by rw[zh]at hj;exact hj
    have Mw:j<size:=by rw[FZ]at fj;exact fj
    obtain⟨kd,h1,h2,h3⟩:=gG i cD j Mw;rw[ae9 (by omega)]at h3
    have e:((l.map mk)[i]).cells[j]=(f l[i])[j]:=by simp only[zh]
    rw[e,h3];exact(h1.2 j fj (by omega)).2
def fieldsOf:TypeDesc->Option (List (TypeId×Nat))
 |.struct fs=>some (fs.toList.map λf=>(f.type,f.offset))
 |_=>none
theorem im {t:TypeId} {rR:List (TypeId×Nat)} (hf:(prog.underlying t).bind fieldsOf=some rR) {fuel:Nat} {cs:List Value} {x:DataW H×List MemPlace} (h:DataW.trod enc prog w 0 (fun _=>true) held fuel t cs=some x) :
  cs.length=prog.cellsOf t/\∀(i t' o:Nat),rR[i]?=some (t',o)->∃n x',DataW.trod enc prog w 0 (λ_=>true) held n t' ((cs.drop o).take (prog.cellsOf t'))=some x':=by
 cases hu:prog.underlying t with
 |none=>rw[hu]at hf;cases hf
 |some d=>
  rw[hu]at hf
  cases d<;>first|(cases hf;done)|skip
  rename_i fs;simp only[Option.bind_some,fieldsOf,agk]at hf;obtain⟨xs,n,_,_,hl,A5,fX⟩:=DataW.trod_struct hu h;refine⟨hl,λi t' o hi=>?_⟩;rw[<-hf,afG,afX]at hi;obtain⟨f,Me,e⟩:=hi;cases e
  have J3:fs[i]?=some f:=by rw[<-ahG];exact Me
  have:=fX i f J3;have aw:i<fs.size:=(afe.1 J3).1;rw[ae9 (by omega)]at this;exact⟨n,_,this⟩
theorem kM.append{l1 l2:List AV}{c1 c2:List Value}(h1:kM w l1 c1)(h2:kM w l2 c2):kM w (l1++l2) (c1++c2):=by
 refine⟨by simp[h1.1,h2.1],λi h h'=>?_⟩
 by_cases hi:i<l1.length
 .rw[afz hi,afz (by rw[<-h1.1];exact hi)];exact h1.2 i hi _
 .rw[af2 (by omega),af2 (by rw[<-h1.1];omega)];have:=h1.1;simp only[this];exact h2.2 _ _ _
def qN(p:iZ):Prop:=jg p.l/\jg p.r/\jg p.lo/\jg p.hi
def qJ(w:Word):Prop:=(∀n∈w.aG,jg n)/\∀n∈w.bD,jg n
structure tS(s:ar):Prop where
 aV:∀n∈s.aV,jg n
 aQ:∀p∈s.aQ,qN p
 gf:jg s.gf
 fY:jg s.fY
 j6:jg s.j6
 j5:jg s.j5
 cj:jg s.cj
 words:∀w∈s.words,qJ w
 wide:jg s.wide
 rows:jg s.rows
theorem FI:prog.cellsOf 3=1:=by kernel_rfl
theorem QZ:prog.cellsOf 4=1:=by kernel_rfl
theorem Ks:prog.cellsOf 23=1:=by kernel_rfl
theorem P_:prog.cellsOf 24=1:=by kernel_rfl
theorem CX:prog.cellsOf 26=2:=by kernel_rfl
theorem PI:prog.cellsOf 27=1:=by kernel_rfl
theorem Ky:prog.cellsOf 29=10:=by kernel_rfl
theorem KQ:prog.cellsOf 44=3:=by kernel_rfl
theorem GZ:prog.cellsOf 166=4:=by kernel_rfl
theorem u3:prog.underlying 3=some (.int .i64):=by kernel_rfl
theorem iC:iP enc w held 3 (λn:Int=>[.int .i64 n]) jg:=Bp u3
theorem sH:iP enc w held 23 (λl:List Int=>[vI l]) (λl=>∀n∈l,jg n):=
 kf (e:=3) (λn:Int=>.int .i64 n) (λ_=>rfl) (by kernel_rfl) (by rw[FI];omega) iC
theorem p9:iP enc w held 26 (λp:Int×Int=>[.int .i64 p.1,.int .i64 p.2]) (λp=>jg p.1/\jg p.2):=by
 intro fuel cs x h;obtain⟨hl,hf⟩:=im (rR:=[(3,0),(3,1)]) (by kernel_rfl) h;rw[CX]at hl
 match cs,hl with
 |[x0,x1],_=>
  obtain⟨_,_,h0⟩:=hf 0 3 0 rfl;obtain⟨_,_,h1⟩:=hf 1 3 1 rfl;rw[FI]at h0 h1;obtain⟨a,ga,ra⟩:=iC _ _ _ h0;obtain⟨b,gb,rb⟩:=iC _ _ _ h1;exact⟨(a,b),⟨ga,gb⟩,ra.append rb⟩
theorem DM:iP enc w held 166 (λp:iZ=>(cZ p).cells) qN:=by
 intro fuel cs x h;obtain⟨hl,hf⟩:=im (rR:=[(3,0),(3,1),(26,2)]) (by kernel_rfl) h;rw[GZ]at hl
 match cs,hl with
 |[x0,x1,x2,x3],_=>
  obtain⟨_,_,h0⟩:=hf 0 3 0 rfl;obtain⟨_,_,h1⟩:=hf 1 3 1 rfl;obtain⟨_,_,h2⟩:=hf 2 26 2 rfl;rw[FI]at h0 h1;rw[CX]at h2;obtain⟨a,ga,ra⟩:=iC _ _ _ h0;obtain⟨b,gb,rb⟩:=iC _ _ _ h1;obtain⟨c,gc,rc⟩:=p9 _ _ _ h2;exact⟨⟨a,b,c.1,c.2⟩,⟨ga,gb,gc.1,gc.2⟩,ra.append (rb.append rc)⟩
theorem FJ:iP enc w held 24 (λl:List iZ=>[.slice .view (l.map cZ)]) (λl=>∀p∈l,qN p):=
 kf (e:=166) cZ (λ_=>rfl) (by kernel_rfl) (by rw[GZ];omega) DM
theorem FB:iP enc w held 44 (λx:Word=>(bW x).cells) qJ:=by
 intro fuel cs x h;obtain⟨hl,hf⟩:=im (rR:=[(23,0),(23,1),(4,2)]) (by kernel_rfl) h;rw[KQ]at hl
 match cs,hl with
 |[x0,x1,x2],_=>
  obtain⟨_,_,h0⟩:=hf 0 23 0 rfl;obtain⟨_,_,h1⟩:=hf 1 23 1 rfl;obtain⟨_,_,h2⟩:=hf 2 4 2 rfl;rw[Ks]at h0 h1;rw[QZ]at h2;obtain⟨a,ga,ra⟩:=sH _ _ _ h0;obtain⟨b,gb,rb⟩:=sH _ _ _ h1;obtain⟨c,_,rc⟩:=rG (t:=4) (by kernel_rfl) _ _ _ h2;exact⟨⟨a,b,c⟩,⟨ga,gb⟩,ra.append (rb.append rc)⟩
theorem FG:iP enc w held 27 (λl:List Word=>[.slice .view (l.map bW)]) (λl=>∀x∈l,qJ x):=
 kf (e:=44) bW (λ_=>rfl) (by kernel_rfl) (by rw[KQ];omega) FB
theorem F7:iP enc w held 29 ae tS:=by
 intro fuel cs x h;obtain⟨hl,hf⟩:=im (rR:=[(23,0),(24,1),(26,2),(26,4),(3,6),(27,7),(3,8),(3,9)]) (by kernel_rfl) h;rw[Ky]at hl
 match cs,hl with
 |[x0,x1,x2,x3,x4,x5,x6,x7,x8,x9],_=>
  obtain⟨_,_,h0⟩:=hf 0 23 0 rfl;obtain⟨_,_,h1⟩:=hf 1 24 1 rfl;obtain⟨_,_,h2⟩:=hf 2 26 2 rfl;obtain⟨_,_,h3⟩:=hf 3 26 4 rfl;obtain⟨_,_,h4⟩:=hf 4 3 6 rfl;obtain⟨_,_,h5⟩:=hf 5 27 7 rfl;obtain⟨_,_,h6⟩:=hf 6 3 8 rfl;obtain⟨_,_,h7⟩:=hf 7 3 9 rfl;rw[Ks]at h0;rw[P_]at h1;rw[CX]at h2 h3;rw[FI]at h4 h6 h7;rw[PI]at h5;obtain⟨a0,g0,r0⟩:=sH _ _ _ h0;obtain⟨a1,g1,r1⟩:=FJ _ _ _ h1;obtain⟨a2,g2,r2⟩:=p9 _ _ _ h2;obtain⟨a3,g3,r3⟩:=p9 _ _ _ h3;obtain⟨a4,g4,r4⟩:=iC _ _ _ h4;obtain⟨a5,g5,r5⟩:=FG _ _ _ h5;obtain⟨a6,g6,r6⟩:=iC _ _ _ h6;obtain⟨a7,g7,r7⟩:=iC _ _ _ h7;exact⟨⟨a0,a1,a2.1,a2.2,a3.1,a3.2,a4,a5,a6,a7⟩,⟨g0,g1,g2.1,g2.2,g3.1,g3.2,g4,g5,g6,g7⟩,r0.append (r1.append (r2.append (r3.append (r4.append (r5.append (r6.append r7))))))⟩
def G9(s:aq):Prop:=jg s.pos/\jg s.reach/\jg s.dE/\jg s.c_/\tS s.name/\∀c∈s.cells,jg c.lo/\jg c.hi
theorem Kw:prog.cellsOf 52=3:=by kernel_rfl
theorem PL:prog.cellsOf 22=1:=by kernel_rfl
theorem Qs:prog.cellsOf 31=15:=by kernel_rfl
theorem E_:iP enc w held 52 (λc:jj=>(gy c).cells) (λc=>jg c.lo/\jg c.hi):=by
 intro fuel cs x h;obtain⟨hl,hf⟩:=im (rR:=[(26,0),(4,2)]) (by kernel_rfl) h;rw[Kw]at hl
 match cs,hl with
 |[x0,x1,x2],_=>
  obtain⟨_,_,h0⟩:=hf 0 26 0 rfl;obtain⟨_,_,h2⟩:=hf 1 4 2 rfl;rw[CX]at h0;rw[show prog.cellsOf 4=1 from QZ]at h2;obtain⟨a,ga,ra⟩:=p9 _ _ _ h0;obtain⟨c,_,rc⟩:=rG (t:=4) (by kernel_rfl) _ _ _ h2;exact⟨⟨a.1,a.2,c⟩,ga,ra.append rc⟩
theorem Gs:iP enc w held 22 (λl:List jj=>[.slice .view (l.map gy)]) (λl=>∀c∈l,jg c.lo/\jg c.hi):=
 kf (e:=52) gy (λ_=>rfl) (by kernel_rfl) (by rw[Kw];omega) E_
theorem GB:iP enc w held 31 ao G9:=by
 intro fuel cs x h;obtain⟨hl,hf⟩:=im (rR:=[(22,0),(3,1),(3,2),(3,3),(3,4),(29,5)]) (by kernel_rfl) h;rw[Qs]at hl
 match cs,hl with
 |[x0,x1,x2,x3,x4,x5,x6,x7,x8,x9,xa,xb,xc,xd,xe],_=>
  obtain⟨_,_,h0⟩:=hf 0 22 0 rfl;obtain⟨_,_,h1⟩:=hf 1 3 1 rfl;obtain⟨_,_,h2⟩:=hf 2 3 2 rfl;obtain⟨_,_,h3⟩:=hf 3 3 3 rfl;obtain⟨_,_,h4⟩:=hf 4 3 4 rfl;obtain⟨_,_,h5⟩:=hf 5 29 5 rfl;rw[PL]at h0;rw[FI]at h1 h2 h3 h4;rw[Ky]at h5;obtain⟨a0,g0,r0⟩:=Gs _ _ _ h0;obtain⟨a1,g1,r1⟩:=iC _ _ _ h1;obtain⟨a2,g2,r2⟩:=iC _ _ _ h2;obtain⟨a3,g3,r3⟩:=iC _ _ _ h3;obtain⟨a4,g4,r4⟩:=iC _ _ _ h4;obtain⟨a5,g5,r5⟩:=F7 _ _ _ h5;exact⟨⟨a0,a1,a2,a3,a4,a5⟩,⟨g1,g2,g3,g4,g5,g0⟩,r0.append (r1.append (r2.append (r3.append (r4.append r5))))⟩
theorem wX{d:DataW H}{ps:List MemPlace}{v:Value}{r:Reach}{base:Nat}(rl:Value.okWide prog w r base 31 v)(h:DataW.Trod enc prog w 0 (λ_=>true) held 31 v d ps):∃s:aq,G9 s/\RD T0 w (a_ s) v:=by
 obtain⟨fuel,hf⟩:=h;obtain⟨s,gs,hc⟩:=GB _ _ _ hf;refine⟨s,gs,?_⟩;obtain⟨fs,eQ⟩:=bV (P:=prog) (t:=31) (by kernel_rfl);obtain⟨cs,rfl,_⟩:=WideShapes.okWide_struct eQ rl;refine .agg _ _ (by simpa[Value.cells]using hc.1) (λi hi=>(hc.2 i hi (by rw[<-hc.1];exact hi)).1) (λi hi gq=>?_);have:=(hc.2 i hi (by rw[<-hc.1];exact hi)).2;simpa[Value.cells]using this
end
section
variable{H:Type}{enc:TypeId×Value->H}{w:World}{held:Bool}
theorem open_int{d:DataW H}{ps:List MemPlace}{v:Value}{r:Reach}{base:Nat}(rl:Value.okWide prog w r base 3 v)(h:DataW.Trod enc prog w 0 (λ_=>true) held 3 v d ps):∃n:Int,jg n/\RD T0 w (.int .i64 n) v:=by
 obtain⟨fuel,hf⟩:=h;obtain⟨n,gn,hc⟩:=iC _ _ _ hf;obtain⟨m,rfl⟩:=WideShapes.okWide_int u3 rl;refine⟨n,gn,?_⟩;have:=(hc.2 0 (by simp) (by simp[Value.cells])).2;simpa[Value.cells]using this
theorem Sh:prog.underlying 23=some (.slice 3):=by kernel_rfl
end
end Go.Proofs.Tryz
namespace Go.Proofs.YtdiflocclemeaaaGreatDoor
open Go Go.AL Go.ChangeShapes Go.WideShapes Go.ChangeAt Go.RowKit
theorem own:ownKnob Tryz.prog.godebug=none:=by kernel_rfl
theorem vy:laidOutB Tryz.prog=true:=by kernel_rfl
def GI(w:World):Prop:=∃m,w.cell? ⟨1,0,none⟩=some (.int .i64 m)
theorem Cg:au GI:=by
 rintro w w' ⟨m,hm⟩ hb;refine⟨m,?_⟩
 have h1:1<w.heap.size:=by
  unfold World.cell? at hm
  by_cases h:1<w.heap.size
  .exact h
  .have:w.heap[1]?=none:=by simp;omega
   simp[this]at hm
 unfold World.cell? at hm⊢;rw[hb.block 1 h1];exact hm
theorem MY{w:World}(h:w.ShapedOpen Tryz.prog):GI w:=
 cell_of_shapedOpen_int (g:=1) (t:=3) (zero:=#[.int .i64 0]) (k:=.i64) h (agE (by kernel_rfl)) (by kernel_rfl) rfl (by kernel_rfl) (by kernel_rfl) (by kernel_rfl)
abbrev mE:List (String×DataW Unit):=Rows.tramSetRow.laid
variable{H:Type}{enc:TypeId×Value->H}
theorem mM{w:World}{base:Nat}{spare:Nat->Bool}{held:Bool}:∀{ts:List TypeId}{vs:List Value}{ds:List (DataW H)}{ps:List MemPlace},DataW.TrodAll enc Tryz.prog w base spare held ts vs ds ps->ds.length=ts.length
 |[],[],[],_,_=>rfl
 |_::_,_::_,_::_,_,⟨_,_,_,h,_⟩=>congrArg (·+1) (mM h)
theorem nN {W W':World} (hb:Below W.heap.size W W'):∀ {ts:List TypeId} {vs:List Value} {ds:List (DataW H)} {ps:List MemPlace},(∀ t∈ts,Tryz.prog.readableRec t=true∧t < Tryz.prog.types.size) →
  DataW.TrodAll enc Tryz.prog W 0 (λ_=>true) true ts vs ds ps->(∀x∈ps,x.block<W.heap.size)->DataW.TrodAll enc Tryz.prog W' 0 (λb=>decide (b<W.heap.size)) true ts vs ds ps
 |[],[],[],_,_,h,_=>h
 |t::_,_::_,_::_,_,hr,⟨p,q,h1,h2,e⟩,aw=>by
  subst e;exact⟨p,q,Below.trod vy (hr t aft).1 (hr t aft).2 h1 hb (λx hx=>aw x (agX _ hx)),nN hb (λu hu=>hr u (afk _ hu)) h2 (λx hx=>aw x (aib _ hx)),rfl⟩
theorem Bs (f:FuncId) (fn:Func) (Lf:Tryz.checked.prog.funcs[f]? = some fn) (Je:Tryz.checked.prog.inits.idxOf? f=none) (OS:fn.resultTypes = #[4]) (spec:ChangeSpec) (G8:spec.vars=[])
  (BF:∀(ds:List (DataW H)),ds.length=fn.params.size->spec.fn H ds={ results:=[.lit (.bool true)],args:=ds })
  (jX:∀t∈fn.params.toList,Tryz.prog.readableRec t=true/\t<Tryz.prog.types.size)
  (os:Os) (started:os.Started) (mC:Array Value) (fuel:Nat)
  (cK:((World.laidAll Tryz.prog os mE).forCall (λ_ _=>0) ⟨#[],mC,[]⟩).Shaped Tryz.checked.prog)
  (eK:Input.okWideB Tryz.checked.prog ((World.laidAll Tryz.prog os mE).forCall (λ_ _=>0) ⟨#[],mC,[]⟩) f ⟨#[],mC,[]⟩=true)
  (J7:spec.preB enc Tryz.checked.prog fn [] false ((World.laidAll Tryz.prog os mE).forCall (λ_ _=>0) ⟨#[],mC,[]⟩).memory mC fuel=true)
  (bL:spec.sizedB enc Tryz.checked.prog fn false ((World.laidAll Tryz.prog os mE).forCall (λ_ _=>0) ⟨#[],mC,[]⟩).memory mC fuel=true)
  (hx:laidMetH Tryz.prog mE ((World.laidAll Tryz.prog os mE).forCall (λ_ _=>0) ⟨#[],mC,[]⟩).memory)
  (iN:∀(W:World)(base:Nat)(args:Array Value)(ds:List (DataW H))(p:List MemPlace),GI W->
   (∀(j:Nat) t v,fn.params[j]?=some t->args[j]?=some v->Value.okWide Tryz.prog W .any base t v)->
   DataW.TrodAll enc Tryz.prog W 0 (λ_=>true) true fn.params.toList args.toList ds p->
   Calls Tryz.prog f args W λe W'=>e=.returned (.bool true)/\Below W.heap.size W W'):
  ReturnsInHanded {} Tryz.checked os f .any (λw args=>(spec.pre enc Tryz.checked.prog fn [] false w args/\laidMetH Tryz.checked.prog mE w)/\sizedMet enc Tryz.checked.prog fn (OpenSpec.ofChange spec) false w args)
   (spec.post enc Tryz.checked.prog fn false true false false):=by
 refine returnsInHanded_of_calls (C:=Tryz.checked) own started Je
  (ChangeSpec.witness_shaped (enc:=enc) (C:=Tryz.checked) (os:=os) (X:=λw _=>laidMetH Tryz.prog mE w) false (World.laidAll Tryz.prog os mE) mC fuel (World.laidAll_os _ _ _) cK eK J7 bL hx) ?_
 intro w tape i _ LQ _ NQ hp _;obtain⟨_,_,_,Gr,QJ,_,_,_,_,rl⟩:=NQ;have e:Gr=fn:=afo (QJ.symm.trans Lf);subst e;obtain⟨⟨⟨ds,gs,before,hw,hc⟩,_⟩,hz⟩:=hp;have OQ:=DataW.Whole.of_heap (w':=w.forCall tape i) (by rfl) hw;have hW:=OQ;obtain⟨p,q,hA,hV,rfl,_,_⟩:=OQ
 have gP:gs=[]/\q=[]:=by
  rw[G8]at hV;obtain⟨rfl,rfl⟩:=trodVars_none hV;exact⟨rfl,rfl⟩
 obtain⟨rfl,rfl⟩:=gP;have MA:DataW.TrodAll enc Tryz.prog (w.forCall tape i) 0 (λ_=>true) true Gr.params.toList i.args.toList ds p:=hA
 have aw:∀x∈p,x.block<(w.forCall tape i).heap.size:=λx hx=>by simpa using hW.lt x (agX _ hx)
 refine(iN (w.forCall tape i) w.heap.size i.args ds p (MY LQ) rl MA).mono λe W' ⟨he,hb⟩=>?_
 subst he;show spec.post enc Tryz.checked.prog Gr false true false false (w.forCall tape i).blind i.args (.bool true) W'.blind;refine ChangeSpec.post_blind (?_:spec.post enc Tryz.checked.prog Gr false true false false (w.forCall tape i) i.args (.bool true) W')
 have Gp:ds.length=Gr.params.size:=by
  rw[mM MA];simp
 refine⟨ds,[],p++[],[],p,[],hW,?_,?_,?_,hb.frame _,λh=>by cases h⟩
 .rw[afL,BF ds Gp,OS];exact trodAll_mk1 (shut_bool (by kernel_rfl) _)
 .rw[afL,BF ds Gp];exact nN hb jX MA aw
 .rw[afL,BF ds Gp,G8]
  rfl
end Go.Proofs.YtdiflocclemeaaaGreatDoor
namespace Go.Proofs.YtdiflocclemeaaaGreatDoor
open Go Go.AL Go.ChangeShapes Go.WideShapes Go.ChangeAt Go.RowKit
def ch(l:List Nat):List Char:=l.map Char.ofNat
def w1:List Nat:=[104,97,114,110,101,115,115]
def w2:List Nat:=[54,52,48,57,100,55,57,99,57,51,56,56,56,49,50,53,56,99,102,54,99,48,49,97,52,98,98,98,53,98,57,100,97,57,53,99,102,102,101,56,57,98,102,54,57,56,52,52,99,49,102,54,101,51,55,98,52,54,51,52,56,49,53,56]
def w3:List Nat:=[99,117,116]
def w4:List Nat:=[97,116,32,109,97,104,108,115,116,105,99,107,47,109,97,104,108,115,116,105,99,107,108,97,119,48,57,46,84,114,97,109,83,101,116,32,109,97,104,108,115,116,105,99,107,47,109,97,104,108,115,116,105,99,107,108,97,119,48,57,46,84,114,97,109,86,105,101,119,101,100,32,109,97,104,108,115,116,105,99,107,47,109,97,104,108,115,116,105,99,107,108,97,119,48,57,46,84,114,97,109,83,101,101,115,32,109,97,104,108,115,116,105,99,107,47,109,97,104,108,115,116,105,99,107,108,97,119,48,57,46,84,114,97,109,87,111,114,100,115,32,109,97,104,108,115,116,105,99,107,47,109,97,104,108,115,116,105,99,107,108,97,119,48,57,46,84,114,97,109,84,114,117,101,32,109,97,104,108,115,116,105,99,107,47,109,97,104,108,115,116,105,99,107,108,97,119,48,57,46,84,114,97,109,83,116,111,112,115,32,109,97,104,108,115,116,105,99,107,47,109,97,104,108,115,116,105,99,107,108,97,119,48,57,46,84,114,97,109,87,97,105,116,101,100,32,109,97,104,108,115,116,105,99,107,47,109,97,104,108,115,116,105,99,107,108,97,119,48,57,46,84,114,97,109,70,97,114,115,32,109,97,104,108,115,116,105,99,107,47,109,97,104,108,115,116,105,99,107,108,97,119,48,57,46,84,114,97,109,80,97,99,101,100,32,109,97,104,108,115,116,105,99,107,47,109,97,104,108,115,116,105,99,107,108,97,119,48,57,46,84,114,97,109,72,97,110,103,115,32,109,97,104,108,115,116,105,99,107,47,109,97,104,108,115,116,105,99,107,108,97,119,48,57,46,84,114,97,109,72,117,110,103,32,109,97,104,108,115,116,105,99,107,47,109,97,104,108,115,116,105,99,107,108,97,119,48,57,46,84,114,97,109,76,101,97,118,101,115,32,109,97,104,108,115,116,105,99,107,47,109,97,104,108,115,116,105,99,107,108,97,119,48,57,46,84,114,97,109,77,111,114,101,32,109,97,104,108,115,116,105,99,107,47,109,97,104,108,115,116,105,99,107,108,97,119,48,57,46,84,114,97,109,78,101,101,100,115,32,109,97,104,108,115,116,105,99,107,47,109,97,104,108,115,116,105,99,107,108,97,119,48,57,46,84,114,97,109,80,114,105,110,116,115,32,109,97,104,108,115,116,105,99,107,47,109,97,104,108,115,116,105,99,107,108,97,119,48,57,46,84,114,97,109,82,101,97,100,115,32,109,97,104,108,115,116,105,99,107,47,109,97,104,108,115,116,105,99,107,108,97,119,48,57,46,84,114,97,109,83,112,111,105,108,116,32,109,97,104,108,115,116,105,99,107,47,109,97,104,108,115,116,105,99,107,108,97,119,48,57,46,84,114,97,109,76,101,102,116]
theorem lu:∀{a b:List Char},(a.all λc=>c !=Char.ofNat 32)=true->wordsSigns (a++Char.ofNat 32::b)=a::wordsSigns b
 |[],b,_=>rfl
 |c::a,b,h=>by
  simp only[List.all_cons,afa,ah9]at h;have ih:=lu (b:=b) h.2;show wordsSigns (c::(a++Char.ofNat 32::b))=_
  conv=>lhs;unfold wordsSigns
  split
  .rename_i e;cases e
  .rename_i e;cases e;exact absurd rfl h.1
  .rename_i e;cases e;rw[ih]
theorem head_eq:Tryz.prog.initOrder=String.ofList (ch w1++Char.ofNat 32::(ch w2++Char.ofNat 32::(ch w3++Char.ofNat 32::ch w4))):=by kernel_rfl
theorem sc:wordsSigns Tryz.prog.initOrder.toList=ch w1::ch w2::ch w3::wordsSigns (ch w4):=by
 rw[head_eq,ag1,lu (by kernel_rfl),lu (by kernel_rfl),lu (by kernel_rfl)]
theorem MJ:ch w2 = "6409d79c938881258cf6c01a4bbb5b9da95cffe89bf69844c1f6e37b46348158".toList:=by
 have : "6409d79c938881258cf6c01a4bbb5b9da95cffe89bf69844c1f6e37b46348158" = String.ofList (ch w2):=by kernel_rfl
 rw[this,ag1]
theorem tl(s:String)(l:List Nat)(h:s=String.ofList (ch l)):s.toList=ch l:=by rw[h,ag1]
theorem rB : "harness".toList=ch [104,97,114,110,101,115,115]:=tl _ _ (by kernel_rfl)
theorem Ad : "ownmain".toList=ch [111,119,110,109,97,105,110]:=tl _ _ (by kernel_rfl)
theorem By : "gc".toList=ch [103,99]:=tl _ _ (by kernel_rfl)
theorem zo : "spec".toList=ch [115,112,101,99]:=tl _ _ (by kernel_rfl)
theorem F5 : "stop".toList=ch [115,116,111,112]:=tl _ _ (by kernel_rfl)
theorem nr : "carried".toList=ch [99,97,114,114,105,101,100]:=tl _ _ (by kernel_rfl)
theorem sR : "cut".toList=ch [99,117,116]:=tl _ _ (by kernel_rfl)
theorem uk : "finals".toList=ch [102,105,110,97,108,115]:=tl _ _ (by kernel_rfl)
theorem sn : "reflectrows".toList=ch [114,101,102,108,101,99,116,114,111,119,115]:=tl _ _ (by kernel_rfl)
theorem wP : "leanrows".toList=ch [108,101,97,110,114,111,119,115]:=tl _ _ (by kernel_rfl)
theorem xI : "onebuild".toList=ch [111,110,101,98,117,105,108,100]:=tl _ _ (by kernel_rfl)
theorem ug : "publicsums".toList=ch [112,117,98,108,105,99,115,117,109,115]:=tl _ _ (by kernel_rfl)
theorem zZ : "eqguard".toList=ch [101,113,103,117,97,114,100]:=tl _ _ (by kernel_rfl)
theorem uT : "ownunsafe".toList=ch [111,119,110,117,110,115,97,102,101]:=tl _ _ (by kernel_rfl)
theorem uQ : "libbeside".toList=ch [108,105,98,98,101,115,105,100,101]:=tl _ _ (by kernel_rfl)
theorem uM : "ownbeside".toList=ch [111,119,110,98,101,115,105,100,101]:=tl _ _ (by kernel_rfl)
theorem t_ : "reflbeside".toList=ch [114,101,102,108,98,101,115,105,100,101]:=tl _ _ (by kernel_rfl)
theorem zf : "aliases".toList=ch [97,108,105,97,115,101,115]:=tl _ _ (by kernel_rfl)
theorem uS : "afterinit".toList=ch [97,102,116,101,114,105,110,105,116]:=tl _ _ (by kernel_rfl)
theorem xk : "crcplain".toList=ch [99,114,99,112,108,97,105,110]:=tl _ _ (by kernel_rfl)
theorem tZ : "roadunsafe".toList=ch [114,111,97,100,117,110,115,97,102,101]:=tl _ _ (by kernel_rfl)
theorem u9 : "fmthandon".toList=ch [102,109,116,104,97,110,100,111,110]:=tl _ _ (by kernel_rfl)
theorem Av:isSumSigns (ch w2)=true:=by kernel_rfl
def sI(ws:List (List Char)):Option (Bool×List Char):=match ws with
 |h::s::_=>if !isSumSigns s then none else if h == "harness".toList then some (true,s) else if h == "ownmain".toList then some (false,s) else none
 |_=>none
theorem Ce(P:Program):P.mainIs=sI (wordsSigns P.initOrder.toList):=rfl
theorem Bn(R:List (List Char)):sI (ch w1::ch w2::ch w3::R)=some (true,ch w2):=by
 simp only[sI,Av,rB]
 rfl
theorem DN:Tryz.prog.mainIs=some (true,ch w2):=(Ce _).trans ((congrArg sI sc).trans (Bn _))
theorem Bw(R:List (List Char)):behindMainWord (ch w1::ch w2::R)=R:=by
 simp only[behindMainWord,Av,rB,Ad]
 rfl
theorem n9:behindMainWord (wordsSigns Tryz.prog.initOrder.toList)=ch w3::wordsSigns (ch w4):=(congrArg behindMainWord sc).trans (Bw _)
theorem zQ(R:List (List Char)):stripLifts liftWords (ch w3::R)=([],ch w3::R):=by
 unfold liftWords;simp only[stripLifts,uk,sn,wP,xI,ug,zZ,uT,uQ,uM,t_,zf,uS,xk,tZ,u9]
 rfl
def sJ (ws:List (List Char)):List String:=if (stripLifts liftWords ws).2.head? == some "cut".toList then (stripLifts liftWords ws).1 else []
theorem vc(P:Program):P.headLifts=sJ (behindMainWord (wordsSigns P.initOrder.toList)):=rfl
theorem Bm(R:List (List Char)):sJ (ch w3::R)=[]:=by
 simp only[sJ,zQ,sR]
 rfl
theorem qq:Tryz.prog.headLifts=[]:=(vc _).trans ((congrArg sJ n9).trans (Bm _))
theorem Cd{P:Program}{R:List (List Char)}(h:behindMainWord (wordsSigns P.initOrder.toList)=ch w3::R)(hl:P.headLifts=[]):P.make=some .cut:=by
 unfold Program.make;rw[h];simp only[sR,By,zo,uk,nr,hl]
 rfl
theorem Ik:Tryz.prog.make=some .cut:=Cd n9 qq
theorem tJ{P:Program}{R:List (List Char)}(h:behindMainWord (wordsSigns P.initOrder.toList)=ch w3::R)(hl:P.headLifts=[]):P.liftsFinal=false:=by
 unfold Program.liftsFinal;simp only[h,sR,By,nr,hl]
 rfl
theorem va:Tryz.prog.liftsFinal=false:=tJ n9 qq
theorem w_:Tryz.prog.laysLater=false:=by kernel_rfl
theorem so:Tryz.prog.bearsReflect=false:=by kernel_rfl
theorem Ao:Tryz.prog.doorFits []=true:=by kernel_rfl
theorem xj{P:Program}{R:List (List Char)}(h:behindMainWord (wordsSigns P.initOrder.toList)=ch w3::R)(h1:P.laysLater=false)(h2:P.bearsReflect=false)(h3:P.doorFits []=true):P.mayEnter=true:=by
 unfold Program.mayEnter;rw[h];simp only[zQ,sR,By,nr,zo,F5,h1,h2,h3]
 rfl
theorem Ar:Tryz.prog.mayEnter=true:=xj n9 w_ so Ao
end Go.Proofs.YtdiflocclemeaaaGreatDoor
namespace Go.Proofs.Tryz
open Go Go.AL Go.RowKit Go.Proofs Go.Proofs.Tram
variable{GI:World->Prop}
theorem lh{s:aq}(h:dJ s):cM s s.cells.length=false:=by
 have:=h.pos;unfold cM
 have:¬s.cells.length<s.pos.toNat:=by omega
 simp[this]
theorem yV{s:aq}(h:dJ s)(es:List End):∀x∈aR s es,0<x:=by
 intro x hx;obtain⟨i,hi,rfl⟩:=afp.1 hx;have hi:=afE.1 hi;have hw:=(jK h.name (ae_ hi)).z_;have hp:=h.dE;have ht:=h.c_;unfold pO;rw[eT hi];have a1:1*1<=s.dE*(s.name.words[i].aG.length:Int):=agh (by omega) (by omega) (by omega) (by omega);have a3:0<=s.c_*(gw es i s.name.words[i].aG.length:Int):=agc (by omega) (by omega);omega
theorem Cb{an:List Int}(hp:∀x∈an,0<x){aZ:Nat->Int}{vs:List (Nat×Nat)}{v:Nat×Nat}(hv:v∈vs)(h:an.sum<=fG aZ v.1 (v.2+1)):dq an aZ vs=an.length:=by
 obtain⟨a,b,rfl⟩:=List.append_of_mem hv
 have key:∀(b:List (Nat×Nat))(n:Nat),n=an.length->b.foldl (λn v=>n+(cy (an.drop n) (fG aZ v.1 (v.2+1))).1) n=an.length:=by
  intro b
  induction b with
  |nil=>intro n hn;exact hn
  |cons y b ih=>
   intro n hn;rw[List.foldl_cons];refine ih _ ?_;rw[hn,ag5];simp[cy]
 have e:dq an aZ (a++v::b)=b.foldl (λn v=>n+(cy (an.drop n) (fG aZ v.1 (v.2+1))).1) (dq an aZ a+(cy (an.drop (dq an aZ a)) (fG aZ v.1 (v.2+1))).1):=by
  unfold dq;rw[afy,List.foldl_cons]
 rw[e];refine key b _ ?_;have hle:=o9 an aZ a
 obtain⟨n,hn⟩:∃n,dq an aZ a=n:=⟨_,rfl⟩
 rw[hn]at hle⊢
 have pL:∀x∈an.drop n,0<x:=λx hx=>hp x (agC hx)
 have hs:(an.take n).sum+(an.drop n).sum=an.sum:=by rw[<-af8,agA]
 have h0:=iX (l:=an.take n) λx hx=>hp x (afV hx)
 have h1:=iX (l:=an.drop n) pL;have:=(Ae pL (t:=fG aZ v.1 (v.2+1)) (by omega)).2 (by omega);rw[this,agN];omega
theorem qT{s:aq}(h:dJ s)(i n:Nat):∀j,0<=dz (fK s i n) j:=λj=>by
 unfold dz fK;rw[afA,ahe];have hb:=(l_ h 0).2
 have hg:∀k,0<=(bg 0 s).getD k 0:=λk=>by
  rw[afA]
  cases hk:(bg 0 s)[k]? with
  |none=>exact af9 0
  |some x=>exact(hb x (agB hk)).1
 split
 .split
  .have:=hg i;simp only[Option.getD_some];omega
  .exact af9 0
 .have:=hg j;rwa [afA]at this
theorem vN(l:List Int)(i j:Nat)(x:Int):(l.set i x).getD j 0=if i=j then(if i<l.length then x else 0)else l.getD j 0:=by
 rw[afA,ahe];split
 .split<;>rfl
 .rw[afA]
theorem z7(s:aq)(i:Nat){m n:Nat}(U7:m<=n)(j:Nat):dz (fK s i m) j<=dz (fK s i n) j:=by
 unfold dz fK;rw[vN,vN];split
 .split
  .omega
  .exact af9 _
 .exact af9 _
theorem Bc{s:aq}(h:dJ s){an:List Int}(hp:∀x∈an,0<x)(i:Nat):∀x y,x<=y->kH s an i x=true->kH s an i y=true:=by
 intro x y Ua hx;unfold kH at hx⊢;rw[aff]at hx⊢;have h1:=yR (na:=an) (nb:=an) rfl (λ_ _ _=>af9 _) hp (qT h i x) (qT h i y) (lh h) (lh h) (λj _ hs=>⟨hs,z7 s i Ua j⟩);have h2:=o9 an (dz (fK s i y)) (dn (cM s) s.cells.length);unfold om at hx⊢;omega
theorem Cy{s:aq}(h:dJ s){f t m:Nat}(hf:f<=t)(ht:t<s.cells.length):(m:Int)<=fG (dz (fK s f m)) f (t+1):=by
 have hl:(bg 0 s).length=s.cells.length:=by simp[bg]
 have h0:(m:Int)<=dz (fK s f m) f:=by
  unfold dz fK;rw[afA,ahe,if_pos rfl,if_pos (by omega),Option.getD_some];have:=(l_ h 0).2 _ (ae_ (show f<(bg 0 s).length by omega));rw[afA,ae9 (by omega),Option.getD_some];omega
 have key:∀d,(m:Int)<=fG (dz (fK s f m)) f (f+d+1):=by
  intro d
  induction d with
  |zero=>
   rw[Nat.add_zero,nh _ (afg f),qX];omega
  |succ d ih=>
   rw[show f+(d+1)+1=(f+d+1)+1 by omega,nh _ (by omega)];have:=qT h f m (f+d+1);omega
 have:=key (t-f);rwa [show f+(t-f)+1=t+1 by omega]at this
theorem BA{s:aq}(h:dJ s){an:List Int}(hp:∀x∈an,0<x)(hv:(cL s).isEmpty=false):∃c,c<s.cells.length/\kH s an c an.sum.toNat=true:=by
 cases AK:dn (cM s) s.cells.length with
 |nil=>simp[cL,AK]at hv
 |cons v l=>
  have eK:=(sf (lh h)).1 v (by rw[AK];simp);refine⟨v.1,by omega,?_⟩;unfold kH om;rw[aff];have h0:=iX hp;exact Cb (v:=v) hp (by rw[AK];simp) (by have:=Cy h (m:=an.sum.toNat) eK.1 eK.2;omega)
def xD(p:Nat->Bool)(k:Nat):Nat:=((List.range k).find? p).getD k
theorem tq(p:Nat->Bool)(k:Nat):kN p k (xD p k):=by
 unfold xD
 cases hf:(List.range k).find? p with
 |none=>
  refine⟨afg _,λx hx=>?_,λh=>absurd h (by simp)⟩;have:=agw.1 hf x (afE.2 (by simpa using hx));simpa using this
 |some r=>
  obtain⟨h1,pa,pb,h2,h3⟩:=List.find?_eq_some_iff_append.1 hf;have hr:r<k:=afE.1 (ag8 hf);refine⟨by simp;omega,λx hx=>?_,λ_=>h1⟩;simp only[Option.getD_some]at hx
  have AJ:x∈pa++r::pb:=by rw[<-h2];exact afE.2 (by omega)
  rcases afr.1 AJ with h|h
  .have:=h3 x h;simpa using this
  .exfalso
   have HX:(pa++r::pb).Pairwise (·<·):=by rw[<-h2];exact ahw
   have HX:=(agy.1 HX).2.1;rcases afU.1 h with h|h
   .omega
   .have:=(agz.1 HX).1 x h;omega
def eM(s:aq)(an:List Int)(i:Nat):Nat:=xD (kH s an i) (an.sum.toNat+1)
def B'(s:aq)(an:List Int):Option (Nat×Nat):=match eg (eM s an) an.sum.toNat s.cells.length with
 |x::l=>some (lT x l)
 |[]=>none
def pt(s:aq):List AV:=
 if cq s then(match dV s.name with
  |some es=>if(cL s).isEmpty then[.int .i64 0,.int .i64 0,.int .i64 5]else(match B' s (aR s es)with|some q=>[.int .i64 (q.1:Nat),.int .i64 (q.2:Nat),.int .i64 0]|none=>[])
  |none=>[.int .i64 0,.int .i64 0,.int .i64 7])else[.int .i64 0,.int .i64 0,.int .i64 2]
theorem qk:∀(l:List (Nat×Nat))(x:Nat×Nat),ik (bX x) (l.map bX)=bX (lT x l)
 |[],_=>rfl
 |y::l,x=>by
  have e1:ik (bX x) ((y::l).map bX)=ik (if(bX y).2<(bX x).2 then bX y else bX x) (l.map bX):=rfl;have e2:lT x (y::l)=lT (if y.2<x.2 then y else x) l:=rfl;rw[e1,e2,<-qk l]
  congr 1
  by_cases h:y.2<x.2
  .rw[if_pos h,if_pos (by show(y.2:Int)<(x.2:Int);omega)]
  .rw[if_neg h,if_neg (by show¬(y.2:Int)<(x.2:Int);omega)]
theorem uf:∀{l:List Int}{b:Int},(∀x∈l,x<=b)->0<=b->l.sum<=l.length*b
 |[],_,_,_=>by simp
 |x::l,b,h,hb=>by
  have h1:=h x (by simp);have h2:=uf (l:=l) (λy hy=>h y (by simp[hy])) hb;simp only[List.sum_cons,List.length_cons]
  have:((l.length+1:Nat):Int)*b=l.length*b+b:=by rw[Int.natCast_add,Int.add_mul];simp
  omega
def oG(s:aq):List End:=(dV s.name).getD []
theorem F6{s:ar}(hs:aU s=true):(yy s).1=(dV s).getD []/\decide (0<=(yy s).2)=(dV s).isSome:=by
 unfold dV
 cases hg:eu s []with
 |nil=>
  have hD:yy s=([],-1):=by unfold yy;rw[hg]<;>rfl
  rw[hD];exact⟨rfl,rfl⟩
 |cons x l=>
  obtain⟨_,hD,h0⟩:=Oz hs hg;rw[hD];exact⟨rfl,by simpa using h0⟩
theorem Ek{s:aq}(h:dJ s):(oG s).length<=3:=by
 unfold oG
 cases he:dV s.name with
 |none=>simp
 |some es=>exact fp h.name he
theorem Ot{s:aq}(h:dJ s):∀e∈oG s,0<=e.1/\e.1.toNat<s.name.words.length:=by
 unfold oG dV
 cases hg:eu s.name []with
 |nil=>intro e he;cases he
 |cons x l=>
  intro e he
  have hm:eP (dF s.name) x l∈eu s.name []:=by rw[hg];exact kz _ _ _
  have h1:=(nx h.name (mX h.name)).1 hm;have h2:=(zH h1.1).2.2.1 e he;unfold nU bH at h2;simp only[afa,aff]at h2;omega
theorem Mb (s:aq) (es:List End) (k:Nat) (hk:k < es.length) (h0:0≤es[k].1) (h1:es[k].1.toNat < s.name.words.length) :
  gp s (es.take (k+1))=if es[k].2<((s.name.words[es[k].1.toNat].aG.length:Nat):Int)then(gp s (es.take k)).set es[k].1.toNat ((gp s (es.take k)).getD es[k].1.toNat 0+1)else gp s (es.take k):=by
 rw[afd hk]
 have hc:∀i n,gw (es.take k++[es[k]]) i n=gw (es.take k) i n+if es[k].1=((i:Nat):Int)/\es[k].2<((n:Nat):Int)then 1 else 0:=by
  intro i n;unfold gw;rw[List.countP_append,List.countP_cons,List.countP_nil];simp
 have hl:∀l,(gp s l).length=s.name.words.length:=by intro l;simp[gp]
 apply ahb
 .split<;>simp[hl]
 .intro i h2 h3
  have hi:i<s.name.words.length:=by rw[hl]at h2;exact h2
  have e1:(gp s (es.take k++[es[k]]))[i]=((gw (es.take k++[es[k]]) i (bT s.name i):Nat):Int):=by simp[gp]
  have e2:∀(hh:i<(gp s (es.take k)).length),(gp s (es.take k))[i]=((gw (es.take k) i (bT s.name i):Nat):Int):=by intro hh;simp[gp]
  rw[e1,hc]
  by_cases hb:es[k].2<((s.name.words[es[k].1.toNat].aG.length:Nat):Int)
  .simp only[if_pos hb];rw[aim]
   by_cases nc:es[k].1.toNat=i
   .rw[if_pos nc];subst nc;rw[eT hi,if_pos ⟨by omega,hb⟩]
    have:(gp s (es.take k)).getD es[k].1.toNat 0=((gw (es.take k) es[k].1.toNat (bT s.name es[k].1.toNat):Nat):Int):=by
     rw[afA,ae9 (by rw[hl];exact hi)];exact e2 _
    rw[this,eT hi];simp
   .rw[if_neg nc,e2,if_neg (by omega)];simp
  .simp only[if_neg hb];rw[e2]
   by_cases nc:es[k].1=((i:Nat):Int)
   .have:es[k].1.toNat=i:=by omega
    subst this;rw[eT hi,if_neg (λh=>hb h.2)];simp
   .rw[if_neg (λh=>nc h.1)];simp
theorem Oo(s:aq):ints (gp s [])=List.replicate s.name.words.length (.int .i64 0):=by
 apply ahb
 .simp[gp,ints]
 .intro i h1 h2;simp[gp,ints,gw]
theorem nV(l:List Int):∀x∈ints l,x.cells.length=1/\x.storable=true/\∀c∈x.cells,c.one=true:=by
 intro x hx;obtain⟨e,_,rfl⟩:=afp.1 hx;exact⟨rfl,rfl,λc hc=>by simp[AV.cells]at hc;subst hc;rfl⟩
theorem pj(l:List Int):∀x∈ints l,∀c∈x.cells,jA c=true:=by
 intro x hx c hc;obtain⟨e,_,rfl⟩:=afp.1 hx;simp[AV.cells]at hc;subst hc;rfl
theorem zc(l:List (List Int)):∀x∈l.map vI,x.cells.length=1/\x.storable=true/\∀c∈x.cells,c.one=true:=by
 intro x hx;obtain⟨e,_,rfl⟩:=afp.1 hx;exact⟨rfl,rfl,λc hc=>by simp[AV.cells,vI]at hc;subst hc;rfl⟩
structure Lv(wB:World)(Mi:Nat->Nat->Prop)(bF bN:Nat)(s:aq)(cS cR fv:Value)(fs:List (List Int))(es:List Int)(w:World):Prop where
 below:Below wB.heap.size wB w
 ge:wB.heap.size<=bF/\wB.heap.size<=bN/\bF≠bN
 lt:∀b k,Mi b k->b<w.heap.size
 gF:∀k,¬Mi bF k
 gN:∀k,¬Mi bN k
 st:∃u qG xF v tw xN,w.heap[bF]?=some (.cells #[u] qG (0,0))/\w.ownsRow (bF+1) 23 1 u fs.length xF/\rr (λb k=>Mi b k/\wB.heap.size<=b) w 1 (fs.map vI) xF/\(∀b,u.ownBlock=some b->b≠bN/\∀k,¬Mi b k)/\
  w.heap[bN]?=some (.cells #[v] tw (0,0))/\w.ownsRow (bN+1) 3 1 v es.length xN/\rr (λ_ _=>False) w 1 (ints es) xN/\∀b,v.ownBlock=some b->b≠bF/\u.ownBlock≠some b/\∀k,¬Mi b k
 s:RV Mi cd w (.ref (ao s)) cS
 r:RV Mi cd w (.ref [.val fv]) cR
variable{wB:World}{Mi:Nat->Nat->Prop}{bF bN:Nat}{s:aq}{cS cR fv:Value}{fs:List (List Int)}{es:List Int}{w w':World}
theorem eO{base:Nat}{e:TypeId}{size:Nat}{v:Value}{n:Nat}{xs:List Value}(h:w.ownsRow base e size v n xs)(hk:∀b,v.ownBlock=some b->w'.heap[b]?=w.heap[b]?):w'.ownsRow base e size v n xs:=by
 refine⟨h.1,?_⟩
 rcases h.2 with h|⟨gg,cap,cur,rfl,uq,yM,rest⟩
 .exact .inl h
 .exact .inr ⟨gg,cap,cur,rfl,uq,(hk gg rfl).trans yM,rest⟩
theorem Lv.grow(st:Lv wB Mi bF bN s cS cR fv fs es w)(hb:Below w.heap.size w w'):Lv wB Mi bF bN s cS cR fv fs es w':=by
 have hk:bz Mi Mi w w':=bz.jV (λb h=>hb.block b h) λ_ _ _ h=>h
 obtain⟨u,qG,xF,v,tw,xN,f1,f2,f3,f4,n1,n2,n3,n4⟩:=st.st;have lF:=(afe.1 f1).1;have lN:=(afe.1 n1).1
 exact⟨st.below.trans (hb.mono st.below.size),st.ge,λb k h=>afI (st.lt b k h) hb.size,st.gF,st.gN,
  ⟨u,qG,xF,v,tw,xN,(hb.block _ lF).trans f1,eO f2 λb h=>hb.block _ (f2.lt b h).2,f3.mono (bz.jV (λb h=>hb.block b h) λ_ _ _ h=>h),f4,(hb.block _ lN).trans n1,eO n2 λb h=>hb.block _ (n2.lt b h).2,n3.mono (bz.of_eq λ_ _ h=>h.elim),n4⟩,
  st.s.mono hk λ_ _ h=>h,st.r.mono hk λ_ _ h=>h⟩
end Go.Proofs.Tryz
namespace Go.Proofs.Tryz
open Go Go.AL Go.RowKit Go.Proofs Go.Proofs.Tram
attribute [local simp] dh eE dY dv dK dj di cQ cT dL cP ct fF fE aD aL ev aT.S aT.H bu av aY AL.start AV.cells AV.storable AV.cg bo cE dI ck HR.okB post cw cH cI AV.out AV.bU b_ df fz iA AV.vw du vI int cG aP cV db fQ iu fV eG da AV.aI AV.cm
variable{GI:World->Prop}
theorem Qe(hG:au GI)(s:aq)(hs:er s):AC prog GI 40 [a_ s] (.ret (.d_ (pt s))):=by
 have jW:=mK hG s hs;have gJ:=tV hG s hs
 rcases gx s with⟨hI,es,dQ,ho⟩|⟨e,he,ho,sr⟩
 .rw[ho]at gJ;have hg:=eo hI;have hc:=hg.cells
  have Bk:pt s=if(cL s).isEmpty then[.int .i64 0,.int .i64 0,.int .i64 5]else(match B' s (aR s es)with|some q=>[.int .i64 (q.1:Nat),.int .i64 (q.2:Nat),.int .i64 0]|none=>[]):=by unfold pt;rw[if_pos hI,dQ]<;>rfl
  rw[Bk];have hn:=gX hg (fp hg.name dQ);have hp:=yV hg es
  have hle:(aR s es).sum<=400:=by
   have hb:∀x∈aR s es,x<=81:=λx hx=>by
    obtain⟨i,hi,rfl⟩:=afp.1 hx
    exact(se hg (fp hg.name dQ) (by
     rw[eT (afE.1 hi)]
     exact(jK hg.name (ae_ _)).rz)).2
   have h1:=uf hb (by decide)
   have h2:(aR s es).length<=4:=by
    have:=(dP hg.name).words;simp[aR];omega
   omega
  generalize aR s es=an at gJ hn hp hle⊢;have h0:=iX hp;have Af:=Gb hG an (by omega) hn.1
  obtain⟨most,wK⟩:∃most,an.sum.toNat=most:=⟨_,rfl⟩
  have rT:an.sum=(most:Nat):=by omega
  rw[rT]at Af
  have A3:most<=400:=by omega
  have V0:(ao s).map AV.cm=ao s:=by simp[ao,ae,AV.cm,vI]
  have P9:(aX s an).map AV.cm=aX s an:=by simp[aX,ao,ae,AV.cm,vI]
  have Ru:∀i:Nat,i<s.cells.length->AC prog GI 103 [.int .i64 ((most+1:Nat):Int),.func (.func 104) [] [.ref (ao s),.ref [.int .i64 (i:Nat)],.ref (aX s an)]] (.ret (.int .i64 (eM s an i:Nat))):=λi hi=>by
   have:=NM hG (n:=most+1) (by omega) 104 (ao s) [.int .i64 (i:Nat)] (aX s an) (by kernel_rfl) (Bc hg hp i) (λy hy=>LH hG s hg an hn hi (n:=y) (by omega)) (tq (kH s an i) (most+1));unfold eM;rw[wK];exact this
  have Ax:=E6 hG s;have mF:=KC hG s (ps:=cL s) (by have:=q' s;omega) (Bf hG s hg);have mF:=AC.g_ (o:=if(cL s).isEmpty then .nil else .view) mF;unfold B';rw[wK];refine bP hG func40 ntmps40 c40 ?_;refine az (λS H=>S 1=.box 1 0/\H 1=some (ao s)) (by simp[a_,ao,ae]) ?_;rintro S H ⟨s1,h1⟩;refine az (λS H=>S 1=.box 1 0/\H 1=some (ao s)/\S 5=.box 5 0/\H 5=some (aX s an)/\S 6=.int .i64 0) ?_ ?_
  .simp[s1,h1,ao,ae];refine oc jW ?_;simp;refine oc gJ ?_;simp[s1,h1,cb,aX,ao,ae,bC]
  clear s1 h1 S H;rintro S H ⟨s1,h1,s5,h5,s6⟩;refine az (λS H=>S 1=.box 1 0/\H 1=some (ao s)/\S 5=.box 5 0/\H 5=some (aX s an)) (by simp[s1,h1,s5,h5,s6]) ?_;clear s1 h1 s5 h5 s6 S H;rintro S H ⟨s1,h1,s5,h5⟩;refine az (λS H=>S 1=.box 1 0/\H 1=some (ao s)/\S 5=.box 5 0/\H 5=some (aX s an)/\S 7=.int .i64 (most:Nat)) ?_ ?_
  .simp[s1,h1,s5,h5,aX,ao,ae];refine oc Af ?_;simp[s1,h1,s5,h5,aX,ao,ae]
  clear s1 h1 s5 h5 S H;rintro S H ⟨s1,h1,s5,h5,s7⟩;refine az (λS H=>S 1=.box 1 0/\H 1=some (ao s)/\S 5=.box 5 0/\H 5=some (aX s an)/\S 7=.int .i64 (most:Nat)/\S 8=.slice .nil []) (by simp[s1,h1,s5,h5,s7]) ?_;clear s1 h1 s5 h5 s7 S H;rintro S H ⟨s1,h1,s5,h5,s7,s8⟩;refine az (λS H=>S 1=.box 1 0/\H 1=some (ao s)/\S 8=grow 132 (aH ((eg (eM s an) most s.cells.length).map bX))) ?_ ?_
  .refine az (λS H=>S 1=.box 1 0/\H 1=some (ao s)/\S 5=.box 5 0/\H 5=some (aX s an)/\S 7=.int .i64 (most:Nat)/\S 8=.slice .nil []/\S 27=.int .i64 s.cells.length/\S 28=.int .i64 ((0:Nat):Int)) (by simp[s1,h1,s5,h5,s7,s8,ao,ae]) ?_;clear s1 h1 s5 h5 s7 s8 S H;rintro S H ⟨s1,h1,s5,h5,s7,s8,lY,sg⟩;refine bq 28 s.cells.length (λi S H=>S 1=.box 1 0/\H 1=some (ao s)/\S 5=.box 5 0/\H 5=some (aX s an)/\S 7=.int .i64 (most:Nat)/\S 8=grow 132 (aH ((eg (eM s an) most i).map bX))/\S 27=.int .i64 s.cells.length/\S 28=.int .i64 (i:Nat)) (λi S H h=>h.2.2.2.2.2.2.2) ⟨s1,h1,s5,h5,s7,by rw[s8]<;>rfl,lY,sg⟩ ?_;clear s1 h1 s5 h5 s7 s8 lY sg S H;rintro i hi S H ⟨s1,h1,s5,h5,s7,s8,lY,sg⟩
   by_cases aw:i<s.cells.length
   case neg=>
    have cD:i=s.cells.length:=by omega
    subst cD;simp[s1,h1,s5,h5,s7,s8,lY,sg]
   have hw:IntKind.i64.wrap ((i:Int)+1)=i+1:=aN (by omega)
   have fL:IntKind.i64.wrap ((most:Int)+1)=((most+1:Nat):Int):=by rw[aN (by omega)];omega
   have kZ:=yc (eM s an) most i
   have hlen:(aH ((eg (eM s an) most i).map bX)).length<=i:=by
    simp only[aH,afi];have:=ahk (λk=>if eM s an k<=most then some (k,eM s an k)else none) (List.range i);simpa[eg]using this
   have eK:=nA ((eg (eM s an) most i).map bX);have hh:=Ru i aw
   have Nl:((most+1:Nat):Int)=(most:Int)+1:=by omega
   rw[Nl]at hh fL;simp[s1,h1,s5,h5,s7,s8,lY,sg,aw,fL,V0,P9];refine⟨_,by kernel_rfl,hh,λ_=>rfl,?_⟩
   by_cases CA:eM s an i<=most
   .rw[if_pos CA]at kZ
    have hE:aH ((eg (eM s an) most (i+1)).map bX)=aH ((eg (eM s an) most i).map bX)++[.agg [.int .i64 (i:Nat),.int .i64 (eM s an i:Nat)]]:=by
     rw[kZ,afu];unfold aH
     rw[afu]<;>rfl
    rw[hE];have k3:aM 2 [AV.agg [.int .i64 (i:Nat),.int .i64 (eM s an i:Nat)]]=true:=rfl;generalize aH ((eg (eM s an) most i).map bX)=L at s8 hlen eK⊢
    cases L with
    |nil=>
     have ox:grow 132 []=.slice .nil []:=rfl;simp[s1,h1,s5,h5,s7,s8,lY,sg,CA,ox,hw,bC,k3]
     try rfl
    |cons y L=>
     have ox:grow 132 (y::L)=.slice (.own 132) (y::L):=rfl
     have F0:∀z,grow 132 (y::(L++[z]))=.slice (.own 132) (y::(L++[z])):=λ_=>rfl
     have pB:L.length+1+1<1048576:=by simp at hlen;omega
     simp[s1,h1,s5,h5,s7,s8,lY,sg,CA,ox,F0,hw,bC,k3,eK,pB]
   .rw[if_neg CA,afL]at kZ;rw[kZ]
    have Jf:∀L,grow 132 L=.slice (if L=[]then .nil else .own 132) L:=λ_=>rfl
    simp[s1,h1,s5,h5,s7,s8,lY,sg,CA,hw,Jf]
  .clear s1 h1 s5 h5 s7 s8 S H;rintro S H ⟨s1,h1,s8⟩
   cases hv:(cL s).isEmpty with
   |true=>
    have Dn:cL s=[]:=by simpa using hv
    rw[Dn]at mF;simp[s1,h1,ao,ae];refine oc Ax ?_;simp;refine⟨_,by kernel_rfl,mF,by simp[du,sx],?_⟩;simp
   |false=>
    have Dn:cL s≠[]:=by intro h;rw[h]at hv;cases hv
    have AN:(((cL s).length:Int)==0)=false:=by
     have:(cL s).length≠0:=λh=>Dn (afR h)
     rw[afN];omega
    obtain⟨c,q1,q2⟩:=BA hg hp hv;rw[wK]at q2;obtain⟨x,l,A5⟩:=B4 (p:=kH s an) (f:=eM s an) (most:=most) (m:=s.cells.length) (λj _=>by unfold eM;rw[wK];exact tq _ _) q1 (afg _) q2
    have j4:=Mo hG (bX x) (l.map bX) (by
     have h1:=congrArg List.length A5;have:=ahk (λk=>if eM s an k<=most then some (k,eM s an k)else none) (List.range s.cells.length);simp[eg]at h1 this
     simp;omega)
    rw[qk]at j4
    have fX:bX x::l.map bX=(eg (eM s an) most s.cells.length).map bX:=by rw[A5]<;>rfl
    have ry:grow 132 (aH ((eg (eM s an) most s.cells.length).map bX))=.slice (.own 132) (aH ((eg (eM s an) most s.cells.length).map bX)):=by rw[A5]<;>rfl
    rw[ry]at s8;rw[fX]at j4;rw[A5];generalize aH ((eg (eM s an) most s.cells.length).map bX)=L at s8 j4
    obtain⟨q,hq⟩:∃q,lT x l=q:=⟨_,rfl⟩
    rw[hq]at j4;simp[s1,h1,s8,ao,ae];refine oc Ax ?_;simp[s8];refine⟨_,by kernel_rfl,mF,by simp[du,sx],?_⟩;simp[s8,Dn,AN,aH];refine oc j4 ?_;simp[aS,bX,bC,hq]
 .rw[ho]at gJ
  have sj:pt s=[.int .i64 0,.int .i64 0,.int .i64 e]:=by
   rcases nH s e he ho with⟨h1,rfl⟩|⟨h1,h2,rfl⟩
   .simp[pt,h1]
   .simp[pt,h1,h2]
  rw[sj]
  have jI:(e !=0)=true:=by simpa using he
  refine bP hG func40 ntmps40 c40 ?_;simp[c40,a_,ao,ae];refine oc jW ?_;simp;refine oc gJ ?_;simp[cb,aX,ao,ae,zT,bC,he,jI]
def Px : af := .ops [⟨(some 22), none, .mv false (.t 8)⟩,
    ⟨(some 23),none,.fieldAddr 1 (.t 4)⟩,
    ⟨(some 24),none,.load .any false 1 (.t 23)⟩,
    ⟨(some 25),none,.lO (.t 24)⟩,
    ⟨(some 26),none,.bin .lss (.t 22) (.t 25)⟩]
def RT:af := .ops [⟨(some 29),none,.fieldAddr 1 (.t 4)⟩,
     ⟨(some 30),none,.load .any false 1 (.t 29)⟩,
     ⟨(some 31),none,.mv false (.t 8)⟩,
     ⟨(some 32),none,.indexAddr 2 (.t 30) (.t 31)⟩,
     ⟨(some 33),none,.fieldAddr 0 (.t 32)⟩,
     ⟨(some 34),none,.load .any false 1 (.t 33)⟩,
     ⟨(some 9),none,.mv true (.t 34)⟩]
def SM:af := .eB [⟨(some 35),none,.fieldAddr 1 (.t 4)⟩,
     ⟨(some 36),none,.load (.box 4) false 1 (.t 35)⟩,
     ⟨(some 37),none,.mv false (.t 8)⟩,
     ⟨(some 38),none,.indexAddr 2 (.t 36) (.t 37)⟩,
     ⟨(some 39),none,.fieldAddr 1 (.t 38)⟩,
     ⟨(some 40),none,.load .ref false 1 (.t 39)⟩,
     ⟨(some 41),none,.fieldAddr 5 (.t 1)⟩,
     ⟨(some 42),none,.fieldAddr 7 (.t 41)⟩,
     ⟨(some 43),none,.load (.box 1) false 1 (.t 42)⟩,
     ⟨(some 44),none,.mv false (.t 9)⟩,
     ⟨(some 45),none,.indexAddr 3 (.t 43) (.t 44)⟩,
     ⟨(some 46),none,.fieldAddr 0 (.t 45)⟩,
     ⟨(some 47),none,.load .ref false 1 (.t 46)⟩,
     ⟨(some 48),none,.lO (.t 47)⟩,
     ⟨(some 49),none,.bin .lss (.t 40) (.t 48)⟩]
def Sw : af := .ops [⟨(some 27), none, .mv false (.t 8)⟩,
    ⟨(some 28),none,.bin .add (.t 27) (.c (.int .i64 1))⟩,
    ⟨(some 8),none,.mv true (.t 28)⟩]
def Qi:List fw:=[⟨(some 50),none,.mv false (.t 7)⟩,
      ⟨(some 51),none,.mv false (.t 9)⟩,
      ⟨(some 52),none,.indexAddr 1 (.t 50) (.t 51)⟩,
      ⟨(some 53),none,.load .any false 1 (.t 52)⟩,
      ⟨(some 54),none,.bin .add (.t 53) (.c (.int .i64 1))⟩,
      ⟨(some 55),none,.indexAddr 1 (.t 50) (.t 51)⟩,
      ⟨none,none,.store .any 1 (.t 55) (.t 54)⟩]
structure CL(s:aq)(es:List End)(ok:Bool)(S:aF)(H:aK):Prop where
 s1:S 1=.box 1 0
 h1:H 1=some (ao s)
 s4:S 4=.box 4 0
 h4:H 4=some [vI [],.slice .view (es.map aS)]
 s6:S 6=.bool ok
theorem WS(hG:au GI)(s:aq)(h:dJ s):AC prog GI 95 [a_ s] (.ret (.d_ [vI (gp s (oG s)),.bool (dV s.name).isSome])):=by
 have QL:=U6 hG s.name h.name;rw[(F6 h.name).1,(F6 h.name).2]at QL;have Ej:=Ek h;have Vp:=Ot h
 have yS:∀l,(gp s l).length=s.name.words.length:=by intro l;simp[gp]
 have oe:=(dP h.name).words
 have kR:=λk hk=>Mb s (oG s) k hk (Vp _ (ae_ hk)).1 (Vp _ (ae_ hk)).2
 change AC prog GI 156 [bQ s.name] (.ret (.d_ [aJ [] (oG s),.int .i64 (max 0 (yy s.name).2),.bool (dV s.name).isSome]))at QL
 generalize oG s=es at*
 generalize(dV s.name).isSome=ok at*
 generalize max 0 (yy s.name).2=mx at*
 obtain⟨i3,pQ,OI⟩:=afX.1 (show(prog.info? 3).map (λi=>(i.zero,i.size,i.bytes))=some (some (Value.int .i64 0),1,8) by kernel_rfl);simp only[aij]at OI;obtain⟨hz3,lr,mm⟩:=OI;obtain⟨d3,OO,KK⟩:=iy (P:=prog) (t:=3) (by kernel_rfl)
 have mJ:prog.underlying 23=some (.slice 3):=by kernel_rfl
 refine AC.gY func95 rfl ntmps95 (by simp) λcc w=>?_
 refine dw hG c95.qa (λS H=>S 1=.box 1 0/\H 1=some (ao s)) ?_ ?_
 .simp[c95,af.qa,a_,ao,ae]
 rintro S1 H1 ⟨s1,h1⟩;refine dw hG c95.qb.qa (CL s es ok) ?_ ?_
 .simp[c95,af.qa,af.qb,s1,h1,ao,ae];refine oc QL ?_;simp[s1,h1,ao,ae,aJ];exact⟨by first|exact s1|simp[av,s1],by first|exact h1|simp[av,h1,ao,ae],by first|exact s4|simp[av,s4]|simp[av],by first|exact h4|simp[av,h4]|simp[av,aH,vI],by first|exact s6|simp[av,s6]|simp[av]⟩
 clear s1 h1;rintro S2 H2 hF;obtain⟨s1,h1,s4,h4,s6⟩:=hF;show SW prog GI 58 none (.seq _ (.seq (.seq _ (.block 0 (.loop (.seq (.seq _ (.cond _ .skip (.exit 0))) (.seq (.block 1 (.seq _ (.seq _ (.cond _ _ .skip)))) _))))) (.seq _ .ret))) _ _ _ _
 refine SW.seq (SW.hand hG (p:=4) (lm:=[4]) (l2:=[5]) (kY:=[_,_,_,_]) (oh:=[_]) (lJ:=[_]) rfl rfl rfl rfl (by kernel_rfl) (λ_ h=>h)
  (lM:=(c95.qb.qb.qa.dl).take 4) (kP:=(c95.qb.qb.qa.dl).drop 5) (by kernel_rfl) (by kernel_rfl) (by kernel_rfl) (by kernel_rfl)
  (K1:=λS H=>CL s es ok S H/\S 20=.int .i64 s.name.words.length)
  (K2:=λo S H=>∃v,KO cc 3 1 (ints (gp s (es.take 0))) o v/\CL s es ok S H/\S 21=.val v)
  (K3:=λo S H=>∃v,KO cc 3 1 (ints (gp s (es.take 0))) o v/\CL s es ok S H/\S 7=.val v) ?_ ?_ ?_ ?_)
 .simp[c95,af.qa,af.qb,af.dl,s1,h1,s4,h4,s6,ao,ae];exact⟨by first|exact s1|simp[av,s1],by first|exact h1|simp[av,h1,ao,ae],by first|exact s4|simp[av,s4]|simp[av],by first|exact h4|simp[av,h4]|simp[av,aH,vI],by first|exact s6|simp[av,s6]|simp[av]⟩
 .rintro w0 g S H a w' m dS ho R ⟨⟨s1,h1,s4,h4,s6⟩,ld⟩;have t20:=R.slot 20 (by decide) (λh=>h);rw[ld]at t20;have Iy:a.eval (.tmp 20)=.int .i64 (s.name.words.length:Nat):=t20.int_eq;refine aW rfl rfl (by rfl) (OZ (m:=s.name.words.length) rfl mJ pQ hz3 lr (by rw[mm];omega) (by omega) Iy Iy) ?_;obtain⟨g',R1,hK⟩:=KO.make (cc:=cc) (e:=3) R (by rw[ho];exact⟨rfl,rfl,λ_ h=>h⟩) (m:=s.name.words.length) (by omega);rw[<-Oo s]at hK;exact⟨g',_,_,R1.put 21 (.val _) _ (by decide) (.data _ _ (.val _ rfl)) trivial,_,hK,⟨by simp[av,s1],h1,by simp[av,s4],h4,by simp[av,s6]⟩,bm _ _ _⟩
 .rintro o S H ⟨v,hK,⟨s1,h1,s4,h4,s6⟩,i_⟩;refine⟨hK.bx,?_⟩;simp[c95,af.qa,af.qb,af.dl,s1,h1,s4,h4,s6,i_];exact⟨hK,⟨by first|exact s1|simp[av,s1],by first|exact h1|simp[av,h1,ao,ae],by first|exact s4|simp[av,s4]|simp[av],by first|exact h4|simp[av,h4]|simp[av,aH,vI],by first|exact s6|simp[av,s6]|simp[av]⟩⟩
 .rintro o S3 H3 ⟨v,hK,⟨s1,h1,s4,h4,s6⟩,s7⟩;refine SW.seq (yu hG (.ops [⟨some 8,none,.mv true (.c (.int .i64 0))⟩]) (λd _=>hK.bx d) (λS H=>CL s es ok S H/\S 7=.val v/\S 8=.int .i64 ((0:Nat):Int)) ?_ ?_)
  .simp[s1,h1,s4,h4,s6,s7];exact⟨by first|exact s1|simp[av,s1],by first|exact h1|simp[av,h1,ao,ae],by first|exact s4|simp[av,s4]|simp[av],by first|exact h4|simp[av,h4]|simp[av,aH,vI],by first|exact s6|simp[av,s6]|simp[av]⟩
  clear s1 h1 s4 h4 s6 s7;rintro S4 H4 ⟨hF,s7,s8⟩;refine SW.block (SW.loop (λo S H=>∃k,k<=es.length/\KO cc 3 1 (ints (gp s (es.take k))) o v/\CL s es ok S H/\S 7=.val v/\S 8=.int .i64 (k:Nat)) (λS _=>match S 8 with|.int _ j=>es.length-j.toNat|_=>0) ⟨0,by omega,hK,hF,s7,s8⟩ ?_);clear hF s7 s8 hK;rintro o S5 H5 ⟨k,hk,hK,hF,s7,s8⟩;have hF5:=hF;obtain⟨s1,h1,s4,h4,s6⟩:=hF
  have hdk:decide ((k:Int)<(es.length:Int))=decide (k<es.length):=by simp
  refine SW.seq (yu hG Px (λd _=>hK.bx d) (λS H=>CL s es ok S H/\S 7=.val v/\S 8=.int .i64 (k:Nat)/\S 26=.bool (decide (k<es.length))) ?_ ?_)
  .simp[Px,s1,h1,s4,h4,s6,s7,s8];exact⟨by first|exact s1|simp[av,s1],by first|exact h1|simp[av,h1,ao,ae],by first|exact s4|simp[av,s4]|simp[av],by first|exact h4|simp[av,h4]|simp[av,aH,vI],by first|exact s6|simp[av,s6]|simp[av]⟩
  clear s1 h1 s4 h4 s6 s7 hF5;rintro S6 H6 ⟨hF,s7,TN,pE⟩;refine SW.cond (c':=.t 26) (by kernel_rfl) (decide (k<es.length)) pE ?_
  by_cases aw:k<es.length
  case neg=>
   rw[agH aw]
   have LJ:k=es.length:=by omega
   subst LJ;rw[afS]at hK;refine SW.exit ?_;show SW prog GI 58 none (.seq _ .ret) _ _ _ _;obtain⟨s1,h1,s4,h4,s6⟩:=hF;refine SW.ghost (K:=λo S H=>PO cc o/\S 7=vI (gp s es)/\S 6=.bool ok) ?_ ?_
   .rintro w0 g a w ho R;rw[<-ho]at hK;obtain⟨g',R2,q1,q2,q3⟩:=KO.done hK R (t:=7) (by decide) s7;exact⟨g',_,_,R2,⟨q1,q2,q3⟩,bm _ _ _,by simp[av,s6]⟩
   rintro o S7 H7 ⟨hp,s7,s6⟩;refine yu hG c95.qb.qb.qb.qb.qa (λd _=>hp.bx d) (λS H=>S 2=vI (gp s es)/\S 3=.bool ok) ?_ ?_
   .simp[c95,af.qa,af.qb,s6,s7]
   intro S H ⟨s2,s3⟩;refine SW.ret ⟨eD.plain hp.ds,hp.c,_,?_,rfl⟩;show cw prog 58 [.tmp 2,.tmp 3] S H=_;simp[cw,cH,cI,s2,s3,vI,AV.bU,AV.out,AV.vw,AV.cm]
  rw[ago aw];refine SW.skip ?_;show SW prog GI 58 none (.seq (.block 1 (.seq _ (.seq _ (.cond _ _ .skip)))) _) _ _ _ _;have Xi:=Vp _ (ae_ aw);have Km:=kR k aw;refine SW.seq (SW.block (SW.mono (Q:=λx o S H=>x=.normal/\KO cc 3 1 (ints (gp s (es.take (k+1)))) o v/\CL s es ok S H/\S 7=.val v/\S 8=.int .i64 (k:Nat)) ?_ ?_))
  .rintro x o S H ⟨rfl,hK,⟨s1,h1,s4,h4,s6⟩,s7,DR⟩;have hw:IntKind.i64.wrap ((k:Int)+1)=k+1:=aN (by omega);refine SW.last hG cC (by kernel_rfl) (ac:=Sw) (by kernel_rfl) (λd _=>hK.bx d) (λS H=>CL s es ok S H/\S 7=.val v/\S 8=.int .i64 ((k+1:Nat):Int)) ?_ ?_
   .simp[Sw,s1,h1,s4,h4,s6,s7,DR,hw];exact⟨by first|exact s1|simp[av,s1],by first|exact h1|simp[av,h1,ao,ae],by first|exact s4|simp[av,s4]|simp[av],by first|exact h4|simp[av,h4]|simp[av,aH,vI],by first|exact s6|simp[av,s6]|simp[av]⟩
   rintro S' H' ⟨hF,s7,TN⟩;refine⟨⟨k+1,by omega,hK,hF,s7,TN⟩,?_⟩;rw[s8,TN];simp;omega
  have np:es[k].1.toNat<s.name.words.length:=Xi.2
  have XR:((es[k].1.toNat:Nat):Int)=es[k].1:=by omega
  obtain⟨j,hj⟩:∃j,es[k].1.toNat=j:=⟨_,rfl⟩
  simp only[hj]at Km np XR;clear kR
  have uv:¬(k:Int)<0:=by omega
  have j9:¬(es.length:Int)<=k:=by omega
  have HA:¬es[k].1<0:=by omega
  have lj:¬(s.name.words.length:Int)<=es[k].1:=by omega
  obtain⟨s1,h1,s4,h4,s6⟩:=hF;refine yu hG RT (λd _=>hK.bx d) (λS H=>CL s es ok S H/\S 7=.val v/\S 8=.int .i64 (k:Nat)/\S 9=.int .i64 es[k].1) ?_ ?_
  .simp[RT,s1,h1,s4,h4,s6,s7,TN,aw,uv,j9,aS];exact⟨by first|exact s1|simp[av,s1],by first|exact h1|simp[av,h1,ao,ae],by first|exact s4|simp[av,s4]|simp[av],by first|exact h4|simp[av,h4]|simp[av,aH,vI],by first|exact s6|simp[av,s6]|simp[av]⟩
  clear s1 h1 s4 h4 s6 s7;rintro S7 H7 ⟨⟨s1,h1,s4,h4,s6⟩,s7,DR,s9⟩;refine yu hG SM (λd _=>hK.bx d) (λS H=>CL s es ok S H/\S 7=.val v/\S 8=.int .i64 (k:Nat)/\S 9=.int .i64 es[k].1/\S 49=.bool (decide (es[k].2<((s.name.words[j].aG.length:Nat):Int)))) ?_ ?_
  .simp[SM,s1,h1,s4,h4,s6,s7,DR,s9,aw,uv,j9,HA,lj,Xi.1,hj,np,aS,bW,ao,ae];exact⟨by first|exact s1|simp[av,s1],by first|exact h1|simp[av,h1,ao,ae],by first|exact s4|simp[av,s4]|simp[av],by first|exact h4|simp[av,h4]|simp[av,aH,vI],by first|exact s6|simp[av,s6]|simp[av]⟩
  clear s1 h1 s4 h4 s6 s7 DR s9;rintro S8 H8 ⟨⟨s1,h1,s4,h4,s6⟩,s7,DR,s9,s49⟩;refine SW.cond (c':=.t 49) (by kernel_rfl) _ s49 ?_
  by_cases hb:es[k].2<((s.name.words[j].aG.length:Nat):Int)
  case neg=>
   rw[agH hb];rw[if_neg hb]at Km;refine SW.skip ⟨rfl,by rw[Km];exact hK,⟨s1,h1,s4,h4,s6⟩,s7,DR⟩
  rw[ago hb];rw[if_pos hb]at Km;have hlen:(gp s (es.take k)).length=s.name.words.length:=yS _
  have Yt:∀x∈gp s (es.take k),0<=x/\x<=3:=by
   intro x hx;obtain⟨i,_,rfl⟩:=afp.1 hx;have:=wD (es.take k) i (bT s.name i);rw[afJ]at this;omega
  rw[<-hj]at Km
  generalize gp s (es.take (k+1))=l2 at*
  generalize gp s (es.take k)=l at*
  have Er:es[k].1.toNat<l.length:=by omega
  have Wt:=Yt _ (ae_ Er)
  have Hx:l.getD es[k].1.toNat 0=l[es[k].1.toNat]:=by simp[afA,Er]
  rw[Hx]at Km
  have Q2:S8 9=.int .i64 ((j:Nat):Int):=by rw[s9,<-XR]
  simp only[hj]at Km Wt Er
  have Eo:j<(ints l).length:=by simpa[ints]using Er
  refine SW.hand hG (p:=2) (lm:=[2,3,4,5,6]) (l2:=[]) (kY:=[_,_]) (oh:=[_,_,_,_,_]) (lJ:=[]) rfl rfl rfl rfl (by kernel_rfl) hK.bx
   (lM:=Qi.take 2) (kP:=[]) (by kernel_rfl) rfl (by kernel_rfl) rfl
   (K1:=λS H=>CL s es ok S H/\S 7=.val v/\S 8=.int .i64 (k:Nat)/\S 50=.val v/\S 51=.int .i64 (j:Nat))
   (K2:=λo S H=>KO cc 3 1 (ints l2) o v/\CL s es ok S H/\S 7=.val v/\S 8=.int .i64 (k:Nat))
   (K3:=λo S H=>KO cc 3 1 (ints l2) o v/\CL s es ok S H/\S 7=.val v/\S 8=.int .i64 (k:Nat)) ?_ ?_ ?_ ?_
  .simp[Qi,s1,h1,s4,h4,s6,s7,DR,Q2];exact⟨by first|exact s1|simp[av,s1],by first|exact h1|simp[av,h1,ao,ae],by first|exact s4|simp[av,s4]|simp[av],by first|exact h4|simp[av,h4]|simp[av,aH,vI],by first|exact s6|simp[av,s6]|simp[av]⟩
  .rintro w0 g S H a w' m dS ho R ⟨⟨s1,h1,s4,h4,s6⟩,s7,DR,s50,s51⟩;rw[<-ho]at hK;obtain⟨b,cap,cur,hv,ng,qd,gG⟩:=hK.cell R Eo
   have yQ:(ints l)[j]=.int .i64 l[j]:=by simp[ints]
   have pU:0<((ints l)[j]).cells.length:=by rw[yQ];simp[AV.cells]
   have tO:=gG 0 pU
   have Ox:T9 (((ints l)[j]).cells[0]'pU)=.int .i64 l[j]:=by simp only[yQ];rfl
   rw[Ox,agf,Nat.add_zero]at tO;have t9:=R.slot 50 (by decide) (λh=>h);rw[s50]at t9;have e9:a.eval (.tmp 50)=.slice (some ⟨b,0,none⟩) (ints l).length cap:=t9.eU.trans hv;have t10:=R.slot 51 (by decide) (λh=>h);rw[s51]at t10;have ij:a.eval (.tmp 51)=.int .i64 (j:Nat):=t10.int_eq;have bL:=R.size;have jF:IntKind.i64.wrap (l[j]+1)=l[j]+1:=aN (by omega);refine aW rfl rfl (by rfl) (kU (k:=j) rfl (by kernel_rfl) pQ e9 ij Eo) ?_;rw[lr,agf];have R1:=R.put 52 (.val (.pointer (some ⟨b,j,none⟩))) (.pointer (some ⟨b,j,none⟩)) (by decide) (.data _ _ (.val _ rfl)) trivial
   have p:=λt c=>bt a 52 t c (by omega)
   have f11:=(p 52 (.pointer (some ⟨b,j,none⟩))).trans (if_pos rfl);have f9:=((p 50 (.pointer (some ⟨b,j,none⟩))).trans (if_neg (by decide))).trans e9;have f10:=((p 51 (.pointer (some ⟨b,j,none⟩))).trans (if_neg (by decide))).trans ij;have O2:=R1.size;show wpOpsIn _ _ _ _ _ [3,4,5,6] (a.put (some 52) (.pointer (some ⟨b,j,none⟩))) w'
   generalize a.put (some 52) (.pointer (some ⟨b,j,none⟩))=a1 at*
   clear p e9 ij t9 t10;refine aW rfl rfl (by rfl) (uA rfl f11 OO KK qd tO.2) ?_;have R2:=R1.put 53 (.int .i64 l[j]) (.int .i64 l[j]) (by decide) (.data _ _ (.int _ _)) trivial
   have p:=λt c=>bt a1 53 t c (by omega)
   have g12:=(p 53 (.int .i64 l[j])).trans (if_pos rfl);have g9:=((p 50 (.int .i64 l[j])).trans (if_neg (by decide))).trans f9;have g10:=((p 51 (.int .i64 l[j])).trans (if_neg (by decide))).trans f10;have vK:=R2.size;show wpOpsIn _ _ _ _ _ [4,5,6] (a1.put (some 53) (.int .i64 l[j])) w'
   generalize a1.put (some 53) (.int .i64 l[j])=a2 at*
   clear p f11 f9 f10;refine aW rfl rfl (by rfl) (AR (n:=1) rfl g12 rfl) ?_;rw[jF];have R4:=R2.put 54 (.int .i64 (l[j]+1)) (.int .i64 (l[j]+1)) (by decide) (.data _ _ (.int _ _)) trivial
   have p:=λt c=>bt a2 54 t c (by omega)
   have Ke:=(p 54 (.int .i64 (l[j]+1))).trans (if_pos rfl);have l9:=((p 50 (.int .i64 (l[j]+1))).trans (if_neg (by decide))).trans g9;have l10:=((p 51 (.int .i64 (l[j]+1))).trans (if_neg (by decide))).trans g10;have vP:=R4.size;show wpOpsIn _ _ _ _ _ [5,6] (a2.put (some 54) (.int .i64 (l[j]+1))) w'
   generalize a2.put (some 54) (.int .i64 (l[j]+1))=a4 at*
   clear p g12 g9 g10;refine aW rfl rfl (by rfl) (kU (k:=j) rfl (by kernel_rfl) pQ l9 l10 Eo) ?_;rw[lr,agf];have R5:=R4.put 55 (.val (.pointer (some ⟨b,j,none⟩))) (.pointer (some ⟨b,j,none⟩)) (by decide) (.data _ _ (.val _ rfl)) trivial
   have p:=λt c=>bt a4 55 t c (by omega)
   have m15:=(p 55 (.pointer (some ⟨b,j,none⟩))).trans (if_pos rfl);have m14:=((p 54 (.pointer (some ⟨b,j,none⟩))).trans (if_neg (by decide))).trans Ke;show wpOpsIn _ _ _ _ _ [6] (a4.put (some 55) (.pointer (some ⟨b,j,none⟩))) w'
   generalize a4.put (some 55) (.pointer (some ⟨b,j,none⟩))=a5 at*
   clear p Ke l9 l10;obtain ⟨Eg,eh,EH,Mh⟩:=yI (o:={ dst:=none,op := .store 3 (.tmp 55) (.tmp 54),type:=0,pos := "",after := #[],guard:=none }) (v := .int .i64 (l[j]+1)) rfl m15 pQ lr qd tO.1 m14 rfl;refine dk rfl rfl (by rfl) eh ?_;have R6:=R5.m_ ng (.cells Eg 3 (0,0));have yD:=hK.set (j:=j) (k:=0) Eo (by rw [yQ];simp [AV.cells]) (x := .int .i64 (l[j]+1)) (u := .int .i64 (l[j]+1)) (λx hx=>by simp at hx;subst hx;exact ⟨rfl,rfl,λc hc=>by simp [AV.cells] at hc;subst hc;rfl⟩) (by rw [yQ]<;>rfl) hv ng EH (λm=>by rw [Mh m,agf,Nat.add_zero]<;>rfl);rw [ints_set,<-Km] at yD;exact ⟨_,_,_,R6,yD,⟨by simp [av,s1],h1,by simp [av,s4],h4,by simp [av,s6]⟩,by simp [av,s7],by simp [av,DR]⟩
  .rintro o S H ⟨hK,hF,s7,DR⟩;exact⟨hK.bx,hK,hF,s7,DR⟩
  .rintro o S H ⟨hK,hF,s7,DR⟩;exact⟨rfl,hK,hF,s7,DR⟩
end Go.Proofs.Tryz
namespace Go.Proofs.Tryz
open Go Go.AL Go.RowKit Go.Proofs Go.Proofs.Tram
attribute [local simp] dh eE dY dv dK dj di cQ cT dL cP ct fF fE aD aL ev aT.S aT.H bu av aY AL.start AV.cells AV.storable AV.cg bo cE dI ck HR.okB post cw cH cI AV.out AV.bU b_ df fz iA AV.vw du vI int cG aP cV db fQ iu fV eG da AV.aI AV.cm
variable{GI:World->Prop}{S:aF}{H:aK}{Q:ft->aF->aK->Prop}
def fc(v:Nat×Nat):AV:=.agg [.int .i64 (v.1:Nat),.int .i64 (v.2:Nat)]
noncomputable def T1:af :=
    .seq (.seq (.ops [⟨(some 22),none,.mv false (.t 10)⟩,
      ⟨(some 23),none,.mv false (.t 1)⟩,
      ⟨(some 24),none,.mv false (.t 8)⟩,
      ⟨(some 25),none,.indexAddr 2 (.t 23) (.t 24)⟩,
      ⟨(some 26),none,.fieldAddr 1 (.t 25)⟩,
      ⟨(some 27),none,.load .any false 1 (.t 26)⟩,
      ⟨(some 28),none,.bin .leq (.t 22) (.t 27)⟩])<|
    .cond (.t 28)
     (.skip)
     (.exit 2))<|
    .seq (.block 3 <| .ops [⟨(some 31),none,.mv false (.t 9)⟩,
       ⟨(some 32),none,.mv false (.t 2)⟩,
       ⟨(some 33),none,.mv false (.t 10)⟩,
       ⟨(some 34),none,.indexAddr 1 (.t 32) (.t 33)⟩,
       ⟨(some 35),none,.load .any false 1 (.t 34)⟩,
       ⟨(some 36),none,.bin .add (.t 31) (.t 35)⟩,
       ⟨(some 9),none,.mv true (.t 36)⟩])<|
    .ops [⟨(some 29),none,.mv false (.t 10)⟩,
      ⟨(some 30),none,.bin .add (.t 29) (.c (.int .i64 1))⟩,
      ⟨(some 10),none,.mv true (.t 30)⟩]
noncomputable def SR:af :=
    .seq (.seq (.ops [⟨(some 37),none,.mv false (.t 7)⟩,
      ⟨(some 38),none,.mv false (.t 0)⟩,
      ⟨(some 39),none,.lO (.t 38)⟩,
      ⟨(some 40),none,.bin .lss (.t 37) (.t 39)⟩,
      ⟨(some 41),none,.mv false (.t 40)⟩,
      ⟨(some 42),(some (41,true)),.mv false (.t 0)⟩,
      ⟨(some 43),(some (41,true)),.mv false (.t 7)⟩,
      ⟨(some 44),(some (41,true)),.indexAddr 1 (.t 42) (.t 43)⟩,
      ⟨(some 45),(some (41,true)),.load .any false 1 (.t 44)⟩,
      ⟨(some 46),(some (41,true)),.mv false (.t 9)⟩,
      ⟨(some 47),(some (41,true)),.bin .leq (.t 45) (.t 46)⟩,
      ⟨(some 48),none,.pick (.t 41) (.t 47) (.c (.bool false))⟩])<|
    .cond (.t 48)
     (.skip)
     (.exit 4))<|
    .block 5 <| .seq (.ops [⟨(some 49),none,.mv false (.t 9)⟩,
       ⟨(some 50),none,.mv false (.t 0)⟩,
       ⟨(some 51),none,.mv false (.t 7)⟩,
       ⟨(some 52),none,.indexAddr 1 (.t 50) (.t 51)⟩,
       ⟨(some 53),none,.load .any false 1 (.t 52)⟩,
       ⟨(some 54),none,.bin .sub (.t 49) (.t 53)⟩,
       ⟨(some 9),none,.mv true (.t 54)⟩])<|
     .ops [⟨(some 55),none,.mv false (.t 7)⟩,
       ⟨(some 56),none,.bin .add (.t 55) (.c (.int .i64 1))⟩,
       ⟨(some 7),none,.mv true (.t 56)⟩]
theorem O'{l:List Int}{i:Nat}(h:i<l.length):dz l i=l[i]:=by simp[dz,afA,h]
theorem Hy{aZ:List Int}(mY:∀x∈aZ,0<=x/\x<=1000)(hr:aZ.length<=100){a b:Nat}(oD:a<=b)(hb:b<=aZ.length):0<=fG (dz aZ) a b/\fG (dz aZ) a b<=100000:=by
 rw[<-vq aZ oD hb];have:=mI (l:=(aZ.take b).drop a) (λx hx=>mY x (afV (agC hx)))
 have hl:((aZ.take b).drop a).length<=100:=by simp;omega
 omega
theorem T5 {vs:List (Nat×Nat)} {aZ an:List Int} {n i f t:Nat} (hi:i < vs.length) (hv:vs[i]=(f,t)) (CB:f≤t) (ht:t < aZ.length) (hr:aZ.length≤100) (mY:∀ x∈aZ,0≤x∧x≤1000)
  (s0:S 0=vI an) (s1:S 1=.slice .view (vs.map fc)) (s2:S 2=vI aZ) (s7:S 7=.int .i64 (n:Nat)) (s8:S 8=.int .i64 (i:Nat)) (s9:S 9=.int .i64 0) (bw:S 10=.int .i64 (f:Nat))
  (hQ:∀S H,S 0=vI an->S 1=.slice .view (vs.map fc)->S 2=vI aZ->S 7=.int .i64 (n:Nat)->S 8=.int .i64 (i:Nat)->S 9=.int .i64 (fG (dz aZ) f (t+1))->Q (.exit 2) S H):bO prog GI (.loop T1) Q S H:=by
 refine⟨λS _=>∃m:Nat,f<=m/\m<=t+1/\S 0=vI an/\S 1=.slice .view (vs.map fc)/\S 2=vI aZ/\S 7=.int .i64 (n:Nat)/\S 8=.int .i64 (i:Nat)/\S 9=.int .i64 (fG (dz aZ) f m)/\S 10=.int .i64 (m:Nat),
  λS _=>match S 10 with|.int _ j=>(t+1-j).toNat|_=>0,⟨f,afg _,by omega,s0,s1,s2,s7,s8,by rw[qX];exact s9,bw⟩,?_⟩
 clear s0 s1 s2 s7 s8 s9 bw;rintro S H ⟨m,Ee,JF,s0,s1,s2,s7,s8,s9,bw⟩
 have Vx:¬(i:Int)<0:=by omega
 have LI:¬(vs.length:Int)<=i:=by omega
 by_cases aw:m<=t
 .have hb:=Hy mY hr Ee (by omega:m<=aZ.length);have ig:=mY aZ[m] (ae_ (by omega));have hw:IntKind.i64.wrap ((m:Int)+1)=m+1:=aN (by omega);have fL:IntKind.i64.wrap (fG (dz aZ) f m+aZ[m])=fG (dz aZ) f m+aZ[m]:=aN (by omega);have hs:=nh (dz aZ) Ee;rw[O' (by omega:m<aZ.length)]at hs
  have hn:¬(m:Int)<0:=by omega
  have hl:¬(aZ.length:Int)<=m:=by omega
  have A3:m<aZ.length:=by omega
  have jL:(m:Int)<=t:=by omega
  rw[<-hs]at fL
  generalize hy:fG (dz aZ) f m=y at*
  simp[T1,s0,s1,s2,s7,s8,s9,bw,hi,hv,Vx,LI,fc,aw,hn,hl,A3,hw];rw[<-hs,fL];refine⟨⟨m+1,by omega,by omega,by simp,by simp⟩,?_⟩;omega
 .have JP:m=t+1:=by omega
  subst JP
  have jL:¬((t:Int)+1<=t):=by omega
  have ZH:S 10=.int .i64 ((t:Int)+1):=by rw[bw];simp
  simp[T1,s0,s1,s2,s7,s8,s9,ZH,hi,hv,Vx,LI,fc,jL];exact hQ _ _ (by simp[s0]) (by simp[s1]) (by simp[s2]) (by simp[s7]) (by simp[s8]) (by simp[s9])
theorem T4 {V:AV} {an:List Int} {aZ:AV} {n i nC:Nat} {T:Int} (hn:∀ x∈an,0≤x∧x≤1000) (A0:an.length≤1000) (G_:n≤an.length) (hT:0≤T∧T≤100000) (sW:(cy (an.drop n) T).1=nC)
  (s0:S 0=vI an) (s1:S 1=V) (s2:S 2=aZ) (s7:S 7=.int .i64 (n:Nat)) (s8:S 8=.int .i64 (i:Nat)) (s9:S 9=.int .i64 T)
  (hQ:∀S H,S 0=vI an->S 1=V->S 2=aZ->S 7=.int .i64 ((n+nC:Nat):Int)->S 8=.int .i64 (i:Nat)->Q (.exit 4) S H):bO prog GI (.loop SR) Q S H:=by
 have tr:nC<=an.length-n:=by rw[<-sW];have:=mP (an.drop n) T;simpa using this
 refine⟨λS _=>∃m:Nat,m<=nC/\S 0=vI an/\S 1=V/\S 2=aZ/\S 7=.int .i64 ((n+m:Nat):Int)/\S 8=.int .i64 (i:Nat)/\S 9=.int .i64 (T-((an.drop n).take m).sum)/\T-((an.drop n).take m).sum<=T/\0<=T-((an.drop n).take m).sum,
  λS _=>match S 7 with|.int _ j=>(an.length-j).toNat|_=>0,⟨0,afK _,s0,s1,s2,s7,s8,by simpa using s9,by simp,by simpa using hT.1⟩,?_⟩
 clear s0 s1 s2 s7 s8 s9;rintro S H ⟨m,hm,s0,s1,s2,s7,s8,s9,tj,ig⟩;have jo:=nQ (an.drop n) T m (by omega);rw[agV]at jo
 have yN:nC=m+(cy (an.drop (n+m)) (T-((an.drop n).take m).sum)).1:=by
  rw[<-sW,jo]
 obtain⟨left,Hf⟩:∃left,T-((an.drop n).take m).sum=left:=⟨_,rfl⟩
 rw[Hf]at yN s9 tj ig
 have Hu:S 7=.int .i64 ((n:Int)+m):=by rw[s7];simp
 by_cases zW:n+m<an.length
 case neg=>
  have CF:(cy (an.drop (n+m)) left).1=0:=by
   have:=mP (an.drop (n+m)) left;simp at this;omega
  have Bq:¬((n:Int)+m<an.length):=by omega
  have Hc:nC=m:=by omega
  subst Hc;simp[SR,s0,s1,s2,Hu,s8,s9,zW,Bq];exact hQ _ _ (by simp[s0]) (by simp[s1]) (by simp[s2]) (by simp[Hu]) (by simp[s8])
 have hd:an.drop (n+m)=an[n+m]::an.drop (n+m+1):=ags zW;have hx:=hn an[n+m] (ae_ zW)
 have Bq:(n:Int)+m<an.length:=by omega
 have wv:¬(n:Int)+m<0:=by omega
 have Le:(0:Int)<=(n:Int)+m:=by omega
 have WZ:¬(an.length:Int)<=(n:Int)+m:=by omega
 have EP:((n:Int)+m).toNat=n+m:=by omega
 by_cases hle:an[n+m]<=left
 case neg=>
  have CF:(cy (an.drop (n+m)) left).1=0:=by rw[hd,cy,if_neg hle]
  have Hc:nC=m:=by omega
  subst Hc;simp[SR,s0,s1,s2,Hu,s8,s9,zW,Bq,wv,WZ,Le,EP,hle];refine hQ _ _ ?_ ?_ ?_ ?_ ?_
  .simp[s0]
  .simp[s1]
  .simp[s2]
  .simp[Hu]
  .simp[s8]
 case pos=>
  have Ee:m+1<=nC:=by rw[hd,cy,if_pos hle]at yN;omega
  have jF:IntKind.i64.wrap (left-an[n+m])=left-an[n+m]:=aN (by omega);have fL:IntKind.i64.wrap ((n:Int)+m+1)=n+m+1:=aN (by omega)
  have Hi:T-((an.drop n).take (m+1)).sum=left-an[n+m]:=by
   rw[afd (by simp;omega),af8];simp;omega
  simp[SR,s0,s1,s2,Hu,s8,s9,zW,Bq,wv,WZ,Le,EP,hle,jF,fL];refine⟨⟨m+1,Ee,by omega,by rw[Hi],by omega,by omega⟩,by omega⟩
theorem YZ (hG:au GI) (an:List Int) (hn:∀ x∈an,0≤x∧x≤1000) (A0:an.length≤1000) (vs:List (Nat×Nat)) (XD:vs.length < 1000) (aZ:List Int) (hr:aZ.length≤100) (mY:∀ x∈aZ,0≤x∧x≤1000)
  (AK:∀v∈vs,v.1<=v.2/\v.2<aZ.length):AC prog GI 97 [vI an,.slice .view (vs.map fc),vI aZ] (.ret (.int .i64 (dq an (dz aZ) vs))):=by
 refine bP hG func97 ntmps97 c97 ?_;refine az (λS H=>S 0=vI an/\S 1=.slice .view (vs.map fc)/\S 2=vI aZ) (by simp) ?_;rintro S H ⟨s0,s1,s2⟩;refine az (λS H=>S 0=vI an/\S 1=.slice .view (vs.map fc)/\S 2=vI aZ/\S 7=.int .i64 0) (by simp[s0,s1,s2]) ?_;clear s0 s1 s2 S H;rintro S H ⟨s0,s1,s2,s7⟩;refine az (λS H=>S 7=.int .i64 (dq an (dz aZ) vs)) ?_ ?_
 case refine_2=>
  rintro S H s7;simp[s7]
 refine az (λS H=>S 0=vI an/\S 1=.slice .view (vs.map fc)/\S 2=vI aZ/\S 7=.int .i64 0/\S 8=.int .i64 0) (by simp[s0,s1,s2,s7]) ?_;clear s0 s1 s2 s7 S H;rintro S H ⟨s0,s1,s2,s7,s8⟩;rw[dh.2.2.2.2.2.1];refine bq 8 vs.length (λi S H=>S 0=vI an/\S 1=.slice .view (vs.map fc)/\S 2=vI aZ/\S 8=.int .i64 (i:Nat)/\S 7=.int .i64 (dq an (dz aZ) (vs.take i))) (λi S H h=>h.2.2.2.1) ⟨s0,s1,s2,s8,s7⟩ ?_;clear s0 s1 s2 s7 s8 S H;rintro i hi S H ⟨s0,s1,s2,s8,s7⟩
 by_cases aw:i<vs.length
 case neg=>
  have cD:i=vs.length:=by omega
  subst cD;rw[afS]at s7;simp[s0,s1,s2,s7,s8]
 have hw:IntKind.i64.wrap ((i:Int)+1)=i+1:=aN (by omega)
 obtain⟨f,t,hv⟩:∃f t,vs[i]=(f,t):=⟨_,_,rfl⟩
 have CB:=AK _ (ae_ aw);rw[hv]at CB;simp only at CB
 have jD:dq an (dz aZ) (vs.take (i+1))=dq an (dz aZ) (vs.take i)+(cy (an.drop (dq an (dz aZ) (vs.take i))) (fG (dz aZ) f (t+1))).1:=by
  rw[afd aw,hv,kq]
 have G_:dq an (dz aZ) (vs.take i)<=an.length:=o9 _ _ _;have hT:=Hy mY hr (by omega:f<=t+1) (by omega:t+1<=aZ.length);rw[jD]
 generalize dq an (dz aZ) (vs.take i)=n at*
 have Vx:¬(i:Int)<0:=by omega
 have LI:¬(vs.length:Int)<=i:=by omega
 refine az (λS H=>S 0=vI an/\S 1=.slice .view (vs.map fc)/\S 2=vI aZ/\S 8=.int .i64 (i:Nat)/\S 7=.int .i64 (n:Nat)) (by simp[s0,s1,s2,s7,s8,aw]) ?_;clear s0 s1 s2 s7 s8 S H;rintro S H ⟨s0,s1,s2,s8,s7⟩;refine az (λS H=>S 0=vI an/\S 1=.slice .view (vs.map fc)/\S 2=vI aZ/\S 8=.int .i64 (i:Nat)/\S 7=.int .i64 ((n+(cy (an.drop n) (fG (dz aZ) f (t+1))).1:Nat):Int)) ?_ ?_
 case refine_2=>
  clear s0 s1 s2 s7 s8;rintro S H ⟨s0,s1,s2,s8,s7⟩;simp[s0,s1,s2,s7,s8,aw,hw]
 rw[dh.2.2.2.2.2.1];refine az (λS H=>S 0=vI an/\S 1=.slice .view (vs.map fc)/\S 2=vI aZ/\S 8=.int .i64 (i:Nat)/\S 7=.int .i64 (n:Nat)/\S 9=.int .i64 0) (by simp[s0,s1,s2,s7,s8]) ?_;clear s0 s1 s2 s7 s8 S H;rintro S H ⟨s0,s1,s2,s8,s7,s9⟩;refine az (λS H=>S 0=vI an/\S 1=.slice .view (vs.map fc)/\S 2=vI aZ/\S 8=.int .i64 (i:Nat)/\S 7=.int .i64 (n:Nat)/\S 9=.int .i64 (fG (dz aZ) f (t+1))) ?_ ?_
 .refine az (λS H=>S 0=vI an/\S 1=.slice .view (vs.map fc)/\S 2=vI aZ/\S 8=.int .i64 (i:Nat)/\S 7=.int .i64 (n:Nat)/\S 9=.int .i64 0/\S 10=.int .i64 (f:Nat)) (by simp[s0,s1,s2,s7,s8,s9,aw,Vx,LI,hv,fc]) ?_;clear s0 s1 s2 s7 s8 s9 S H;rintro S H ⟨s0,s1,s2,s8,s7,s9,bw⟩;rw[dh.2.2.2.2.2.1];refine T5 aw hv CB.1 CB.2 hr mY s0 s1 s2 s7 s8 s9 bw ?_;intro S H s0 s1 s2 s7 s8 s9;simp[s0,s1,s2,s7,s8,s9]
 clear s0 s1 s2 s7 s8 s9 S H;rintro S H ⟨s0,s1,s2,s8,s7,s9⟩;rw[dh.2.2.2.2.2.1];refine T4 hn A0 G_ hT rfl s0 s1 s2 s7 s8 s9 ?_;intro S H s0 s1 s2 s7 s8;simp[s0,s1,s2,s7,s8]
end Go.Proofs.Tryz
namespace Go.Proofs.Tryz
open Go Go.AL Go.RowKit Go.Proofs Go.Proofs.Tram
attribute [local simp] dh eE pG nJ dK dj di cQ cT dL cP ct fF fE aD aL ev aT.S aT.H bu av aY AL.start AV.cells AV.storable AV.cg bo cE dI ck HR.okB post cw cH cI AV.out AV.bU b_ df fz iA AV.vw du vI int cG aP cV db fQ iu fV eG da AV.aI AV.cm
variable{GI:World->Prop}
theorem YK(hG:au GI)(s:aq)(hs:s.cells.length<1000)(h0:s.cells≠[]):AC prog GI 100 [a_ s] (.ret (vI (bg 0 s))):=by
 refine bP hG func100 ntmps100 c100 ?_;refine az (λS H=>S 1=.box 1 0/\H 1=some (ao s)) (by simp[a_,ao,ae,ai,ah]) ?_;rintro S H ⟨s1,h1⟩;refine az (λS H=>S 1=.box 1 0/\H 1=some (ao s)/\S 3=grow 3 (ints [])) (by simp[s1,h1,ao,ae,ints,grow,ai,ah]) ?_;clear s1 h1 S H;rintro S H ⟨s1,h1,s3⟩;simp[s1,h1,s3,ao,ae,ai,ah];refine bq 4 s.cells.length (λi S H=>S 1=.box 1 0/\H 1=some (ao s)/\S 4=.int .i64 (i:Nat)/\S 3=grow 3 (ints ((bg 0 s).take i))) (λi S H h=>h.2.2.1) ⟨by simp[s1,ai,ah],by simp[h1,ao,ae,ai,ah],by simp[ai,ah],by simp[s3,ai,ah]⟩ ?_;clear s1 h1 s3 S H;rintro i hi S H ⟨s1,h1,s4,s3⟩
 have sZ:(bg 0 s).length=s.cells.length:=by simp[bg]
 by_cases aw:i<s.cells.length
 .have hw:IntKind.i64.wrap ((i:Int)+1)=i+1:=aN (by omega)
  have hn:¬(i:Int)<0:=by omega
  have oy:¬(s.cells.length:Int)<=i:=by omega
  have hm:ints ((bg 0 s).take (i+1))=ints ((bg 0 s).take i)++[.int .i64 s.cells[i].lo]:=by
   rw[afd (by omega)];simp[ints,bg,ov]
  have hlen:(ints ((bg 0 s).take i)).length<=s.cells.length:=by simp[ints];omega
  have Tk:=jS ((bg 0 s).take i);rw[hm]
  generalize ints ((bg 0 s).take i)=L at*
  have dM:aM 1 [AV.int .i64 s.cells[i].lo]=true:=rfl;simp[s1,h1,s4,s3,aw,hn,oy,gy,ao,ae,dM];refine fe L (.int .i64 s.cells[i].lo) (.own 3) (by simp[s3,grow]) (by simp) dM Tk (by omega) ?_;intro S' sd ee;simp[sd,ee,s1,h1,s4,hw,aw,ao,ae,grow]
 .have cD:i=s.cells.length:=by omega
  subst cD;rw[<-sZ,afS]at s3
  have AH:ints (bg 0 s)≠[]:=by simpa[ints,bg]using h0
  simp only[grow,if_neg AH]at s3
  generalize ints (bg 0 s)=L at*
  simp[s1,h1,s4,s3,ao,ae,ai,ah]
theorem adE(hG:au GI)(s:aq)(hs:s.cells.length<1000)(h0:s.cells≠[]):AC prog GI 101 [a_ s] (.ret (vI (bg 1 s))):=by
 refine bP hG func101 ntmps101 c101 ?_;refine az (λS H=>S 1=.box 1 0/\H 1=some (ao s)) (by simp[a_,ao,ae,ai,ah]) ?_;rintro S H ⟨s1,h1⟩;refine az (λS H=>S 1=.box 1 0/\H 1=some (ao s)/\S 3=grow 3 (ints [])) (by simp[s1,h1,ao,ae,ints,grow,ai,ah]) ?_;clear s1 h1 S H;rintro S H ⟨s1,h1,s3⟩;simp[s1,h1,s3,ao,ae,ai,ah];refine bq 4 s.cells.length (λi S H=>S 1=.box 1 0/\H 1=some (ao s)/\S 4=.int .i64 (i:Nat)/\S 3=grow 3 (ints ((bg 1 s).take i))) (λi S H h=>h.2.2.1) ⟨by simp[s1,ai,ah],by simp[h1,ao,ae,ai,ah],by simp[ai,ah],by simp[s3,ai,ah]⟩ ?_;clear s1 h1 s3 S H;rintro i hi S H ⟨s1,h1,s4,s3⟩
 have sZ:(bg 1 s).length=s.cells.length:=by simp[bg]
 by_cases aw:i<s.cells.length
 .have hw:IntKind.i64.wrap ((i:Int)+1)=i+1:=aN (by omega)
  have hn:¬(i:Int)<0:=by omega
  have oy:¬(s.cells.length:Int)<=i:=by omega
  have hm:ints ((bg 1 s).take (i+1))=ints ((bg 1 s).take i)++[.int .i64 s.cells[i].hi]:=by
   rw[afd (by omega)];simp[ints,bg,ov]
  have hlen:(ints ((bg 1 s).take i)).length<=s.cells.length:=by simp[ints];omega
  have Tk:=jS ((bg 1 s).take i);rw[hm]
  generalize ints ((bg 1 s).take i)=L at*
  have dM:aM 1 [AV.int .i64 s.cells[i].hi]=true:=rfl;simp[s1,h1,s4,s3,aw,hn,oy,gy,ao,ae,dM];refine fe L (.int .i64 s.cells[i].hi) (.own 3) (by simp[s3,grow]) (by simp) dM Tk (by omega) ?_;intro S' sd ee;simp[sd,ee,s1,h1,s4,hw,aw,ao,ae,grow]
 .have cD:i=s.cells.length:=by omega
  subst cD;rw[<-sZ,afS]at s3
  have AH:ints (bg 1 s)≠[]:=by simpa[ints,bg]using h0
  simp only[grow,if_neg AH]at s3
  generalize ints (bg 1 s)=L at*
  simp[s1,h1,s4,s3,ao,ae,ai,ah]
theorem QV(hG:au GI)(s:aq)(h:dJ s)(c:Nat):AC prog GI 117 [a_ s,.int .i64 (c:Nat)] (.ret (.bool (decide (c<s.cells.length)&&cM s c))):=by
 have sM:=h.cells;have jb:=h.pos;have N4:=h.reach;have jF:IntKind.i64.wrap (s.pos-s.reach)=s.pos-s.reach:=aN (by omega);have fL:IntKind.i64.wrap (s.pos-1)=s.pos-1:=aN (by omega)
 have hn:¬(c:Int)<0:=by omega
 refine bP hG func117 ntmps117 c117 ?_;simp[c117,a_,ao,ae,ai,ah];refine oc (Ty hG s (by omega) c) ?_;cases e1:bH (c:Int) 0 ((s.cells.length:Int)-1)
 .have hc:¬ c < s.cells.length:=by
   simp[bH]at e1;omega
  simp[ai,ah,hc]
 .have hc:c < s.cells.length:=by
   simp[bH]at e1;omega
  have oy:¬(s.cells.length:Int)<=c:=by omega
  simp[ai,ah,hc,jF,fL];refine oc (q_ hG c (s.pos-s.reach) (s.pos-1)) ?_;cases e2:bH (c:Int) (s.pos-s.reach) (s.pos-1)
  .have hz:cM s c=false:=by
    simp[bH]at e2;unfold cM gM;simp;omega
   simp[ai,ah,hz]
  .have hz:cM s c = !s.cells[c].hid:=by
    simp[bH]at e2;unfold cM gM mc
    have a1:c<s.pos.toNat:=by omega
    simp[hc,a1];omega
   simp[ai,ah,hn,oy,hc,gy,hz]
end Go.Proofs.Tryz
namespace Go.Proofs.Tryz
open Go Go.AL Go.RowKit Go.Proofs Go.Proofs.Tram
attribute [local simp] dh eE dY dv dK dj di cQ cT dL cP ct fF fE aD aL ev aT.S aT.H bu av aY AL.start AV.cells AV.storable AV.cg bo cE dI ck HR.okB post cw cH cI AV.out AV.bU b_ df fz iA AV.vw du vI int cG aP cV db fQ iu fV eG da AV.aI AV.cm
variable{GI:World->Prop}
def CG(s:aq):List AV:=match dV s.name with
 |some es=>[vI (aR s es),.bool true]
 |none=>[.slice .view [],.bool false]
theorem UA(hG:au GI)(s:aq)(h:dJ s):AC prog GI 32 [a_ s] (.ret (.d_ (CG s))):=by
 have OL:=WS hG s h;have HM:=Xq hG s h (oG s) (Ek h)
 have dO:CG s=if(dV s.name).isSome then[vI (aR s (oG s)),.bool true]else[.slice .view [],.bool false]:=by
  unfold CG oG
  cases dV s.name<;>rfl
 rw[dO];clear dO
 generalize(dV s.name).isSome=ok at*
 generalize aR s (oG s)=ns at*
 generalize gp s (oG s)=cs at*
 refine bP hG func32 ntmps32 c32 ?_;simp[c32,a_,ao,ae];refine oc OL ?_;cases ok
 .simp
 .simp;refine oc HM ?_;simp
theorem TA(hG:au GI)(s:aq)(h:dJ s)(c:Int)(hc:c<0):AC prog GI 117 [a_ s,.int .i64 c] (.ret (.bool false)):=by
 have sM:=h.cells
 have e1:bH c 0 ((s.cells.length:Int)-1)=false:=by
  simp[bH];omega
 have Yh:=Ty hG s (by omega) c;rw[e1]at Yh;refine bP hG func117 ntmps117 c117 ?_;simp[c117,a_,ao,ae];refine oc Yh ?_;simp
theorem TE(hG:au GI)(s:aq)(h:dJ s)(c:Nat)(hc:c<s.cells.length):AC prog GI 117 [a_ s,.int .i64 ((c:Int)-1)] (.ret (.bool (decide (0<c)&&cM s (c-1)))):=by
 by_cases h0:0<c
 .have:=QV hG s h (c-1);rw[ago (by omega),agU,show(((c-1:Nat):Nat):Int)=(c:Int)-1 by omega]at this;rw[ago h0,agU];exact this
 .rw[agH h0,Bool.false_and];exact TA hG s h _ (by omega)
def QR : af := .ops [⟨(some 5), none, .mv false (.t 4)⟩,
    ⟨(some 6),none,.fieldAddr 0 (.t 1)⟩,
    ⟨(some 7),none,.load .any false 1 (.t 6)⟩,
    ⟨(some 8),none,.lO (.t 7)⟩,
    ⟨(some 9),none,.bin .lss (.t 5) (.t 8)⟩]
def N_:af := .ops [⟨(some 12),none,.load .any true 15 (.t 1)⟩,
     ⟨(some 13),none,.mv false (.t 4)⟩,
     ⟨(some 14),none,.call 117 [(.t 12),(.t 13)]⟩,
     ⟨(some 15),none,.not (.t 14)⟩]
def N5:af := .ops [⟨(some 16),none,.load .any true 15 (.t 1)⟩,
     ⟨(some 17),none,.mv false (.t 4)⟩,
     ⟨(some 18),none,.bin .sub (.t 17) (.c (.int .i64 1))⟩,
     ⟨(some 19),none,.call 117 [(.t 16),(.t 18)]⟩]
def N7:List fw:=[⟨(some 20),none,.mv false (.t 3)⟩,
      ⟨(some 21),none,.mv false (.t 3)⟩,
      ⟨(some 22),none,.lO (.t 21)⟩,
      ⟨(some 23),none,.bin .sub (.t 22) (.c (.int .i64 1))⟩,
      ⟨(some 24),none,.mv false (.t 4)⟩,
      ⟨(some 25),none,.indexAddr 2 (.t 20) (.t 23)⟩,
      ⟨(some 26),none,.fieldAddr 1 (.t 25)⟩,
      ⟨none,none,.store .any 1 (.t 26) (.t 24)⟩]
def EO:List fw:=[⟨(some 27),none,.mv true (.t 3)⟩,
      ⟨(some 28),none,.mv false (.t 4)⟩,
      ⟨(some 29),none,.mv false (.t 4)⟩,
      ⟨(some 30),none,.build [(.int .i64 0),(.int .i64 0)] [(0,1,(.t 28)),(1,1,(.t 29))]⟩,
      ⟨(some 31),none,.buildSlice 48 26 2 [(.t 30)]⟩,
      ⟨(some 32),none,.append 48 26 2 16 (.t 27) (.t 31)⟩,
      ⟨(some 3),none,.mv true (.t 32)⟩]
def N8 : af := .ops [⟨(some 10), none, .mv false (.t 4)⟩,
    ⟨(some 11),none,.bin .add (.t 10) (.c (.int .i64 1))⟩,
    ⟨(some 4),none,.mv true (.t 11)⟩]
def kV(s:aq)(k:Nat):List (Nat×Nat):=(List.range k).foldl (ae' (cM s)) []
theorem Bo(s:aq)(k:Nat):kV s (k+1)=ae' (cM s) (kV s k) k:=by
 unfold kV
 rw[afM,afy]<;>rfl
theorem Lm{s:aq}{k:Nat}(h:cM s k=true):kV s (k+1)≠[]:=by
 rw[Bo];unfold ae';rw[if_pos h]
 split<;>simp
theorem Eb(s:aq)(k:Nat):(kV s k).length<=k:=by
 induction k with
 |zero=>simp[kV]
 |succ k ih=>
  rw[Bo];unfold ae';split
  .split
   .simp;omega
   .simp;omega
  .omega
theorem J4(l:List (Nat×Nat)):Ed 2 (l.map fc):=λx hx=>by
 obtain⟨v,_,rfl⟩:=afp.1 hx;exact⟨rfl,rfl,λc hc=>by simp[fc,AV.cells]at hc;rcases hc with rfl|rfl<;>rfl⟩
theorem HD{α:Type}:∀(l:List α)(x:α),l≠[]->l.set (l.length-1) x=l.dropLast++[x]
 |[],_,h=>absurd rfl h
 |[a],x,_=>rfl
 |a::b::l,x,_=>by
  have:=HD (b::l) x (by simp);simp only[List.length_cons,agj]at this⊢;rw[List.set_cons_succ,List.dropLast_cons_of_ne_nil (by simp),List.cons_append];rw[<-this]
structure D5(s:aq)(v:Value)(k:Nat)(S:aF)(H:aK):Prop where
 s1:S 1=.box 1 0
 h1:H 1=some (ao s)
 s3:S 3=.val v
 s4:S 4=.int .i64 (k:Nat)
theorem Xp(hG:au GI)(s:aq)(h:dJ s):AC prog GI 61 [a_ s] (.ret (.slice .view ((dn (cM s) s.cells.length).map fc))):=by
 have yS:=h.cells;have AK:dn (cM s) s.cells.length=kV s s.cells.length:=Dl (lh h);rw[AK];obtain⟨i3,pQ,lr⟩:=bh (P:=prog) (t:=3) (s:=1) (by kernel_rfl);obtain⟨i26,Uk,OI⟩:=afX.1 (show(prog.info? 26).map (λi=>(i.zero.map λz=>z.cells.size,i.size,i.bytes))=some (some 2,2,16) by kernel_rfl);simp only[aij]at OI;obtain⟨QY,Kl,X2⟩:=OI;obtain⟨z26,QY,UT⟩:=afX.1 QY
 have mJ:prog.underlying 48=some (.slice 26):=by kernel_rfl
 refine AC.gY func61 rfl ntmps61 (by simp) λcc w=>?_
 refine dw hG c61.qa (λS H=>S 1=.box 1 0/\H 1=some (ao s)) ?_ ?_
 .simp[c61,af.qa,a_,ao,ae]
 rintro S1 H1 ⟨s1,h1⟩;refine dw hG c61.qb.qa (λS H=>S 1=.box 1 0/\H 1=some (ao s)/\S 3=.slice .nil []) ?_ ?_
 .simp[c61,af.qa,af.qb,s1,h1]
 clear s1 h1;rintro S2 H2 ⟨s1,h1,s3⟩;show SW prog GI 34 none (.seq (.seq _ (.block 0 (.loop (.seq (.seq _ (.cond _ .skip (.exit 0))) (.seq (.block 1 (.seq (.seq _ (.cond _ (.exit 1) .skip)) (.seq _ (.cond _ _ _)))) _))))) (.seq _ .ret)) _ _ _ _;refine SW.seq (yu hG (.ops [⟨some 4,none,.mv true (.c (.int .i64 0))⟩]) (λd _ h=>h) (λS H=>S 1=.box 1 0/\H 1=some (ao s)/\S 3=.slice .nil []/\S 4=.int .i64 ((0:Nat):Int)) ?_ ?_)
 .simp[s1,h1,s3]
 clear s1 h1 s3;rintro S3 H3 ⟨s1,h1,s3,s4⟩;refine SW.ghost (K:=λo S H=>∃v,KO cc 26 2 ((kV s 0).map fc) o v/\D5 s v 0 S H) ?_ ?_
 .rintro w0 g a w ho R;obtain⟨v,R2,hK⟩:=KO.start (cc:=cc) (e:=26) (size:=2) R (by rw[ho];exact⟨rfl,rfl,λ_ h=>h⟩) (t:=3) (by decide) s3;exact⟨_,_,_,R2,v,hK,by simp[av,s1],h1,by simp[av],by simp[av,s4]⟩
 rintro o S4 H4 ⟨v,hK,hF⟩;refine SW.block (SW.loop (λo S H=>∃k v,k<=s.cells.length/\KO cc 26 2 ((kV s k).map fc) o v/\D5 s v k S H) (λS _=>match S 4 with|.int _ j=>s.cells.length-j.toNat|_=>0) ⟨0,v,by omega,hK,hF⟩ ?_);clear hF hK s1 h1 s3 s4 v;rintro o S5 H5 ⟨k,v,hk,hK,⟨s1,h1,s3,s4⟩⟩;refine SW.seq (yu hG QR (λd _=>hK.bx d) (λS H=>D5 s v k S H/\S 9=.bool (decide (k<s.cells.length))) ?_ ?_)
 .simp[QR,s1,h1,s3,s4,ao,ae];exact⟨by first|exact s1|simp[s1],by first|exact h1|simp[h1,ao,ae],by first|exact s3|simp[s3],by first|exact s4|simp[s4]⟩
 have m4:=s4;clear s1 h1 s3 s4;rintro S6 H6 ⟨⟨s1,h1,s3,s4⟩,s9⟩;refine SW.cond (c':=.t 9) (by kernel_rfl) (decide (k<s.cells.length)) s9 ?_
 by_cases aw:k<s.cells.length
 case neg=>
  rw[agH aw]
  have LJ:k=s.cells.length:=by omega
  subst LJ;refine SW.exit ?_;show SW prog GI 34 none (.seq _ .ret) _ _ _ _;refine SW.ghost (K:=λo S H=>PO cc o/\S 3=.slice .view ((kV s s.cells.length).map fc)) ?_ ?_
  .rintro w0 g a w ho R;rw[<-ho]at hK;obtain⟨g',R2,q1,q2,q3⟩:=KO.done hK R (t:=3) (by decide) s3;exact⟨g',_,_,R2,⟨q1,q2,q3⟩,bm _ _ _⟩
  rintro o S7 H7 ⟨hp,s3⟩;refine yu hG c61.qb.qb.qb.qa (λd _=>hp.bx d) (λS H=>S 2=.slice .view ((kV s s.cells.length).map fc)) ?_ ?_
  .simp[c61,af.qa,af.qb,s3]
  intro S H s2;refine SW.ret ⟨eD.plain hp.ds,hp.c,_,?_,rfl⟩;show cw prog 34 [.tmp 2] S H=_;simp[cw,cH,cI,s2,AV.bU,AV.out,AV.vw,AV.cm]
  try rfl
 rw[ago aw];refine SW.skip ?_;show SW prog GI 34 none (.seq (.block 1 (.seq (.seq _ (.cond _ (.exit 1) .skip)) (.seq _ (.cond _ _ _)))) _) _ _ _ _;have kZ:=Bo s k;refine SW.seq (SW.block (SW.mono (Q:=λx o S H=>(x=.normal\/x=.exit 1)/\∃v,KO cc 26 2 ((kV s (k+1)).map fc) o v/\D5 s v k S H) ?_ ?_))
 .rintro x o S H ⟨hx,v,hK,⟨s1,h1,s3,s4⟩⟩;have hw:IntKind.i64.wrap ((k:Int)+1)=k+1:=aN (by omega);rcases hx with rfl|rfl
  all_goals
   refine SW.last hG cC (by kernel_rfl) (ac:=N8) (by kernel_rfl) (λd _=>hK.bx d) (λS H=>D5 s v (k+1) S H) ?_ ?_
   .simp[N8,s1,h1,s3,s4,hw];exact⟨by first|exact s1|simp[s1],by first|exact h1|simp[h1,ao,ae],by first|exact s3|simp[s3],by simp[av]⟩
   rintro S' H' hF;refine⟨⟨k+1,v,by omega,hK,hF⟩,?_⟩;have e:=hF.s4;rw[m4,e];simp;omega
 refine SW.seq (yu hG N_ (λd _=>hK.bx d) (λS H=>D5 s v k S H/\S 15=.bool (!cM s k)) ?_ ?_)
 .have N3:=QV hG s h k;rw[ago aw,agU]at N3;simp[N_,s1,h1,s3,s4,ao,ae];refine oc N3 ?_;simp[s1,h1,s3,s4,ao,ae];exact⟨by first|exact s1|simp[s1],by first|exact h1|simp[h1,ao,ae],by first|exact s3|simp[s3],by first|exact s4|simp[s4]⟩
 clear s1 h1 s3 s4;rintro S7 H7 ⟨hF,fq⟩;refine SW.cond (c':=.t 15) (by kernel_rfl) _ fq ?_;cases VA:cM s k
 .refine SW.exit ⟨.inr rfl,v,?_,hF⟩;rw[kZ];unfold ae';rw[VA];exact hK
 refine SW.skip ?_;obtain⟨s1,h1,s3,s4⟩:=hF;show SW prog GI 34 none (.seq _ (.cond _ _ _)) _ _ _ _;refine yu hG N5 (λd _=>hK.bx d) (λS H=>D5 s v k S H/\S 19=.bool (decide (0<k)&&cM s (k-1))) ?_ ?_
 .have N3:=TE hG s h k aw;have hw:IntKind.i64.wrap ((k:Int)-1)=k-1:=aN (by omega);simp[N5,s1,h1,s3,s4,hw,ao,ae];refine oc N3 ?_;simp[s1,h1,s3,s4,ao,ae];exact⟨by first|exact s1|simp[s1],by first|exact h1|simp[h1,ao,ae],by first|exact s3|simp[s3],by first|exact s4|simp[s4]⟩
 clear s1 h1 s3 s4;rintro S8 H8 ⟨⟨s1,h1,s3,s4⟩,j3⟩;refine SW.cond (c':=.t 19) (by kernel_rfl) _ j3 ?_
 cases hb:(decide (0<k)&&cM s (k-1))
 .have kR:ae' (cM s) (kV s k) k=kV s k++[(k,k)]:=by
   unfold ae';rw[if_pos VA,if_neg (λhh=>by rw[ago hh.1,hh.2]at hb;cases hb)]
  rw[kR]at kZ;have sZ:=Eb s k;show SW prog GI 34 none (.region 8 _ false) _ _ _ _
  refine SW.hand hG (p:=5) (lm:=[5]) (l2:=[6]) (kY:=[_,_,_,_,_]) (oh:=[_]) (lJ:=[_]) rfl rfl rfl rfl (by kernel_rfl) hK.bx
   (lM:=EO.take 5) (kP:=EO.drop 6) (by kernel_rfl) (by kernel_rfl) (by kernel_rfl) (by kernel_rfl)
   (K1:=λS H=>D5 s v k S H/\S 27=.val v/\S 31=.slice (.own 26) [fc (k,k)])
   (K2:=λo S H=>∃v',KO cc 26 2 ((kV s (k+1)).map fc) o v'/\D5 s v k S H/\S 32=.val v')
   (K3:=λo S H=>∃v',KO cc 26 2 ((kV s (k+1)).map fc) o v'/\D5 s v' k S H) ?_ ?_ ?_ ?_
  .simp[EO,s1,h1,s3,s4,fc,bC,aM];exact⟨by first|exact s1|simp[av,s1],by first|exact h1|simp[h1,ao,ae],by first|exact s3|simp[av,s3]|simp[av],by first|exact s4|simp[av,s4]⟩
  .rintro w0 g S H a w' m dS ho R ⟨⟨s1,h1,s3,s4⟩,lY,qR⟩;rw [<-ho] at hK;have t27:=R.slot 27 (by decide) (λh=>h);rw [lY] at t27;have e27:a.eval (.tmp 27)=v:=t27.eU;rw [<-Kl] at hK;obtain ⟨v',w2,g',eh,R2,yD⟩:=KO.append R hK (o:={ dst:=some 32,op := .call { callee := .builtin .append,args := #[.tmp 27,.tmp 31],argTypes := #[48,48] },type:=48,pos := "",after := #[],guard:=none }) (x:=fc (k,k)) (t:=48) rfl rfl rfl rfl mJ Uk QY (by rw [UT,Kl]) (by rw [X2];decide) e27 (y2 := .t 31) (by kernel_rfl) qR (by rw [Kl];exact J4 [(k,k)]) (by simp;omega);refine aW rfl rfl (by rfl) eh ?_
   have pV:v'.oneCell'=true:=by
    rcases yD.row with⟨⟨_,rfl⟩,_⟩|⟨_,_,_,rfl,_⟩<;>rfl
   rw[Kl]at yD
   have Ei:(kV s k).map fc++[fc (k,k)]=(kV s (k+1)).map fc:=by rw[kZ];simp
   rw[Ei]at yD;exact⟨g',_,_,R2.put 32 (.val v') v' (by decide) (.data _ _ (.val _ pV)) trivial,v',yD,⟨by simp[av,s1],h1,by simp[av,s3],by simp[av,s4]⟩,bm _ _ _⟩
  .rintro o S H ⟨v',hK,⟨s1,h1,s3,s4⟩,qY⟩;refine⟨hK.bx,?_⟩;simp[EO,s1,h1,s3,s4,qY];exact⟨v',hK,by first|exact s1|simp[s1],by first|exact h1|simp[h1,ao,ae],by first|exact s3|simp[av,s3]|simp[av],by first|exact s4|simp[s4]⟩
  .rintro o S H ⟨v',hK,hF⟩;exact⟨.inl rfl,v',hK,hF⟩
 have ig:0<k/\cM s (k-1)=true:=by simpa using hb
 have dO:kV s k≠[]:=by
  have:=Lm ig.2;rwa [show k-1+1=k by omega]at this
 have sZ:=Eb s k;have Hq:0<(kV s k).length:=afP.2 dO
 obtain⟨j,hj⟩:∃j,(kV s k).length-1=j:=⟨_,rfl⟩
 have lj:j<(kV s k).length:=by omega
 obtain⟨p0,q0,tF⟩:∃p0 q0,(kV s k)[j]=(p0,q0):=⟨_,_,rfl⟩
 have kR:ae' (cM s) (kV s k) k=(kV s k).set j (p0,k):=by
  rw[<-hj,HD _ _ dO];unfold ae';rw[if_pos VA,if_pos ig,List.getLast?_eq_getElem?,hj,ae9 lj,tF]
  rfl
 rw[kR]at kZ
 have Wk:((kV s k).map fc).set j (fc (p0,k))=(kV s (k+1)).map fc:=by rw[kZ,List.map_set]
 clear kR kZ
 generalize kV s (k+1)=l2 at*
 generalize kV s k=l at*
 have Eo:j<(l.map fc).length:=by simp;omega
 show SW prog GI 34 none (.region 7 _ false) _ _ _ _
 refine SW.hand hG (p:=2) (lm:=[2,3,4,5,6,7]) (l2:=[]) (kY:=[_,_]) (oh:=[_,_,_,_,_,_]) (lJ:=[]) rfl rfl rfl rfl (by kernel_rfl) hK.bx
  (lM:=N7.take 2) (kP:=[]) (by kernel_rfl) rfl (by kernel_rfl) rfl
  (K1:=λS H=>D5 s v k S H/\S 20=.val v/\S 21=.val v)
  (K2:=λo S H=>KO cc 26 2 (l2.map fc) o v/\D5 s v k S H)
  (K3:=λo S H=>KO cc 26 2 (l2.map fc) o v/\D5 s v k S H) ?_ ?_ ?_ ?_
 .simp[N7,s1,h1,s3,s4];exact⟨by first|exact s1|simp[av,s1],by first|exact h1|simp[h1,ao,ae],by first|exact s3|simp[av,s3]|simp[av],by first|exact s4|simp[av,s4]⟩
 .rintro w0 g S H a w' m dS ho R ⟨⟨s1,h1,s3,s4⟩,ld,i_⟩;rw[<-ho]at hK;obtain⟨b,cap,cur,hv,ng,qd,gG⟩:=hK.cell R Eo
  have yQ:(l.map fc)[j]=fc (p0,q0):=by rw[afl,tF]
  have pU:1<((l.map fc)[j]).cells.length:=by rw[yQ];simp[fc,AV.cells]
  have tO:=gG 1 pU;have t20:=R.slot 20 (by decide) (λh=>h);rw[ld]at t20;have Iy:a.eval (.tmp 20)=.slice (some ⟨b,0,none⟩) (l.map fc).length cap:=t20.eU.trans hv;have t21:=R.slot 21 (by decide) (λh=>h);rw[i_]at t21;have Ou:a.eval (.tmp 21)=.slice (some ⟨b,0,none⟩) (l.map fc).length cap:=t21.eU.trans hv;have t4:=R.slot 4 (by decide) (λh=>h);rw[s4]at t4;have e4:a.eval (.tmp 4)=.int .i64 (k:Nat):=t4.int_eq;have bL:=R.size
  have hlm:(l.map fc).length=l.length:=by simp
  have jF:IntKind.i64.wrap (((l.map fc).length:Int)-1)=(j:Nat):=by
   rw[hlm,aN (by omega)];omega
  refine aW rfl rfl (by rfl) (TQ (t:=48) rfl rfl rfl rfl mJ Ou) ?_;have R1:=R.put 22 (.int .i64 ((l.map fc).length:Int)) (.int .i64 ((l.map fc).length:Int)) (by decide) (.data _ _ (.int _ _)) trivial
  have p:=λt c=>bt a 22 t c (by omega)
  have f22:=(p 22 (.int .i64 ((l.map fc).length:Int))).trans (if_pos rfl);have f20:=((p 20 (.int .i64 ((l.map fc).length:Int))).trans (if_neg (by decide))).trans Iy;have f4:=((p 4 (.int .i64 ((l.map fc).length:Int))).trans (if_neg (by decide))).trans e4;have O2:=R1.size;show wpOpsIn _ _ _ _ _ [3,4,5,6,7] (a.put (some 22) (.int .i64 ((l.map fc).length:Int))) w'
  generalize a.put (some 22) (.int .i64 ((l.map fc).length:Int))=a1 at*
  clear p Iy Ou e4 t20 t21 t4;refine aW rfl rfl (by rfl) (TU (q:=1) rfl f22 rfl) ?_;rw[jF];have R2:=R1.put 23 (.int .i64 (j:Nat)) (.int .i64 (j:Nat)) (by decide) (.data _ _ (.int _ _)) trivial
  have p:=λt c=>bt a1 23 t c (by omega)
  have g23:=(p 23 (.int .i64 (j:Nat))).trans (if_pos rfl);have g20:=((p 20 (.int .i64 (j:Nat))).trans (if_neg (by decide))).trans f20;have g4:=((p 4 (.int .i64 (j:Nat))).trans (if_neg (by decide))).trans f4;have vK:=R2.size;show wpOpsIn _ _ _ _ _ [4,5,6,7] (a1.put (some 23) (.int .i64 (j:Nat))) w'
  generalize a1.put (some 23) (.int .i64 (j:Nat))=a2 at*
  clear p f22 f20 f4;refine aW rfl rfl (by rfl) ((run_move (x:=.tmp 4) w' rfl).trans (congrArg (λv=>Result.ok (Next.value v) w') g4)) ?_;have R3:=R2.put 24 (.int .i64 (k:Nat)) (.int .i64 (k:Nat)) (by decide) (.data _ _ (.int _ _)) trivial
  have p:=λt c=>bt a2 24 t c (by omega)
  have Yk:=(p 24 (.int .i64 (k:Nat))).trans (if_pos rfl);have X3:=((p 23 (.int .i64 (k:Nat))).trans (if_neg (by decide))).trans g23;have On:=((p 20 (.int .i64 (k:Nat))).trans (if_neg (by decide))).trans g20;have Uf:=R3.size;show wpOpsIn _ _ _ _ _ [5,6,7] (a2.put (some 24) (.int .i64 (k:Nat))) w'
  generalize a2.put (some 24) (.int .i64 (k:Nat))=a3 at*
  clear p g23 g20 g4;refine aW rfl rfl (by rfl) (kU (k:=j) rfl mJ Uk On X3 Eo) ?_;rw[Kl];have R4:=R3.put 25 (.val (.pointer (some ⟨b,j*2,none⟩))) (.pointer (some ⟨b,j*2,none⟩)) (by decide) (.data _ _ (.val _ rfl)) trivial
  have p:=λt c=>bt a3 25 t c (by omega)
  have XI:=(p 25 (.pointer (some ⟨b,j*2,none⟩))).trans (if_pos rfl);have XP:=((p 24 (.pointer (some ⟨b,j*2,none⟩))).trans (if_neg (by decide))).trans Yk;have vP:=R4.size;show wpOpsIn _ _ _ _ _ [6,7] (a3.put (some 25) (.pointer (some ⟨b,j*2,none⟩))) w'
  generalize a3.put (some 25) (.pointer (some ⟨b,j*2,none⟩))=a4 at*
  clear p Yk X3 On;refine aW rfl rfl (by rfl) (oC (s:=26) (j:=1) (ZZ:=1) (sz:=1) (x:=.tmp 25) (by kernel_rfl) (by decide) rfl XI) ?_;have R5:=R4.put 26 (.val (.pointer (some ⟨b,j*2+1,none⟩))) (.pointer (some ⟨b,j*2+1,none⟩)) (by decide) (.data _ _ (.val _ rfl)) trivial
  have p:=λt c=>bt a4 26 t c (by omega)
  have m26:=(p 26 (.pointer (some ⟨b,j*2+1,none⟩))).trans (if_pos rfl);have m24:=((p 24 (.pointer (some ⟨b,j*2+1,none⟩))).trans (if_neg (by decide))).trans XP;show wpOpsIn _ _ _ _ _ [7] (a4.put (some 26) (.pointer (some ⟨b,j*2+1,none⟩))) w'
  generalize a4.put (some 26) (.pointer (some ⟨b,j*2+1,none⟩))=a5 at*
  clear p XI XP;obtain ⟨Eg,eh,EH,Mh⟩:=yI (o:={ dst:=none,op := .store 3 (.tmp 26) (.tmp 24),type:=0,pos := "",after := #[],guard:=none }) (v := .int .i64 (k:Nat)) rfl m26 pQ lr qd tO.1 m24 rfl;refine dk rfl rfl (by rfl) eh ?_;have R6:=R5.m_ ng (.cells Eg 26 (0,0));have yD:=hK.set (j:=j) (k:=1) Eo pU (x:=fc (p0,k)) (u := .int .i64 (k:Nat)) (J4 [(p0,k)]) (by rw [yQ]<;>rfl) hv ng EH (λm=>by rw [Mh m]<;>rfl);rw [Wk] at yD;exact ⟨_,_,_,R6,yD,⟨by simp [av,s1],h1,by simp [av,s3],by simp [av,s4]⟩⟩
 .rintro o S H ⟨hK,hF⟩;exact⟨hK.bx,hK,hF⟩
 .rintro o S H ⟨hK,hF⟩;exact⟨.inl rfl,v,hK,hF⟩
def HV(s:aq):List Int:=match dV s.name with
 |some es=>aR s es
 |none=>[]
theorem MH(s:aq):CG s=[vI (HV s),.bool (dV s.name).isSome]:=by
 unfold CG HV
 cases dV s.name<;>rfl
theorem Te{s:aq}(h:dJ s):(∀x∈HV s,0<=x/\x<=1000)/\(HV s).length<=1000:=by
 unfold HV
 cases he:dV s.name with
 |none=>simp
 |some es=>exact gX h (fp h.name he)
theorem acn(hG:au GI)(s:aq)(h:dJ s)(aZ:List Int)(hr:aZ.length=s.cells.length)(mY:∀x∈aZ,0<=x/\x<=1000):AC prog GI 33 [a_ s,vI aZ] (.ret (.int .i64 (om s (HV s) aZ))):=by
 have hc:=h.cells;have YM:=UA hG s h;rw[MH]at YM;have h61:=Xp hG s h;have hv:=(sf (lh h)).1
 have XD:(dn (cM s) s.cells.length).length<1000:=by
  rw[Dl (lh h)];have:=Eb s s.cells.length;unfold kV at this;unfold N1;omega
 have h97:=YZ hG (HV s) (Te h).1 (Te h).2 (dn (cM s) s.cells.length) XD aZ (by omega) mY (λv hx=>by have:=hv v hx;omega);show AC prog GI 33 [a_ s,vI aZ] (.ret (.int .i64 (dq (HV s) (dz aZ) (dn (cM s) s.cells.length))))
 generalize dn (cM s) s.cells.length=vs at*
 generalize HV s=ns at*
 generalize(dV s.name).isSome=ok at*
 refine bP hG func33 ntmps33 c33 ?_;simp[c33,a_,ao,ae];refine oc YM ?_;simp;refine oc h61 ?_;simp;refine oc h97 ?_;simp
theorem aeS(hG:au GI)(s:aq)(h:dJ s):AC prog GI 37 [a_ s] (.ret (.int .i64 (gr 0 s (HV s)))):=by
 have hc:=h.cells;have ZL:=YK hG s (by omega) (λh0=>by rw[h0]at hc;simp at hc);have T3:=acn hG s h (bg 0 s) (l_ h 0).1 (l_ h 0).2;refine bP hG func37 ntmps37 c37 ?_;simp[c37,a_,ao,ae];refine oc ZL ?_;simp;refine oc T3 ?_;simp[om,gr]
theorem aeI(hG:au GI)(s:aq)(h:dJ s):AC prog GI 38 [a_ s] (.ret (.int .i64 (gr 1 s (HV s)))):=by
 have hc:=h.cells;have adm:=adE hG s (by omega) (λh0=>by rw[h0]at hc;simp at hc);have T3:=acn hG s h (bg 1 s) (l_ h 1).1 (l_ h 1).2;refine bP hG func38 ntmps38 c38 ?_;simp[c38,a_,ao,ae];refine oc adm ?_;simp;refine oc T3 ?_;simp[om,gr]
theorem W8{s:aq}(h:dJ s):(dn (cM s) s.cells.length).length<1000:=by
 have hc:=h.cells;rw[Dl (lh h)];have:=Eb s s.cells.length;unfold kV at this;unfold N1;omega
theorem adA(hG:au GI)(s:aq)(h:dJ s)(e:Nat):AC prog GI 97 [vI (HV s),.slice .view ((dn (cM s) s.cells.length).map fc),vI (bg e s)] (.ret (.int .i64 (gr e s (HV s)))):=by
 have hc:=h.cells;have hv:=(sf (lh h)).1;have hr:=l_ h e;exact YZ hG (HV s) (Te h).1 (Te h).2 (dn (cM s) s.cells.length) (W8 h) (bg e s) (by omega) hr.2 (λv hx=>by have:=hv v hx;omega)
theorem ae0(hG:au GI)(s:aq)(h:dJ s)(w:Int):AC prog GI 39 [a_ s,.int .i64 w] (.ret (.int .i64 (yU s (HV s) w))):=by
 have hc:=h.cells
 have dO:s.cells≠[]:=λh0=>by rw[h0]at hc;simp at hc
 have YM:=UA hG s h;rw[MH]at YM;have h61:=Xp hG s h;have ZL:=YK hG s (by omega) dO;have adm:=adE hG s (by omega) dO;have r0:=adA hG s h 0;have r1:=adA hG s h 1;unfold yU
 generalize gr 0 s (HV s)=n0 at*
 generalize gr 1 s (HV s)=n1 at*
 generalize dn (cM s) s.cells.length=vs at*
 generalize HV s=ns at*
 generalize(dV s.name).isSome=ok at*
 refine bP hG func39 ntmps39 c39 ?_;simp[c39,a_,ao,ae];refine oc YM ?_;simp;refine oc h61 ?_;simp;refine oc ZL ?_;simp;refine oc r0 ?_
 by_cases a0:w<(n0:Int)
 .simp[a0]
 simp[a0];refine oc h61 ?_;simp;refine oc adm ?_;simp;refine oc r1 ?_
 by_cases a1:w<(n1:Int)<;>simp[a1]
theorem D8(a b:End):(a.1=b.1/\a.2=b.2)↔a=b:=by
 obtain⟨a1,a2⟩:=a;obtain⟨b1,b2⟩:=b;simp
theorem Pd(hG:au GI)(a b:List End)(ha:a.length<1000000):AC prog GI 60 [.slice .view (a.map aS),.slice .view (b.map aS)] (.ret (.bool (a==b))):=by
 refine bP hG func60 ntmps60 c60 ?_
 by_cases hl:a.length=b.length
 case neg=>
  have rp:((a.length:Int)!=b.length)=true:=by simp;omega
  have dO:(a==b)=false:=by
   rw[afN];intro e;exact hl (by rw[e])
  simp[c60,rp,dO]
 have rp:((a.length:Int)!=b.length)=false:=by simp;omega
 simp[c60,rp];refine bq 5 a.length (λi S H=>S 0=.slice .view (a.map aS)/\S 1=.slice .view (b.map aS)/\S 5=.int .i64 (i:Nat)/\∀j (hj:j<a.length),j<i->a[j]=b[j]'(by omega)) (λi S H h=>h.2.2.1) ⟨by simp,by simp,by simp,λj _ h=>absurd h (ahX _)⟩ ?_;rintro i hi S H ⟨s0,s1,s5,hb⟩
 by_cases aw:i<a.length
 case neg=>
  have he:(a==b)=true:=by
   rw[afY]
   exact ahb hl λj h1 h2=>hb j h1 (by omega)
  have hn:¬(i:Int)<a.length:=by omega
  simp[s0,s1,s5,hn,he]
 have hw:IntKind.i64.wrap ((i:Int)+1)=i+1:=aN (by omega)
 have JY:i<b.length:=by omega
 by_cases he:a[i]=b[i]
 .simp[s0,s1,s5,aw,JY,hw,he,aS,sY];intro j hj lg
  by_cases e:j=i
  .subst e;exact he
  .exact hb j hj (by omega)
 .have dO:(a==b)=false:=by
   rw[afN];intro e;subst e;exact he rfl
  have jI:¬(a[i].1=b[i].1/\a[i].2=b[i].2):=λh=>he ((D8 _ _).1 h)
  have ig:([a[i].1,a[i].2]!=[b[i].1,b[i].2])=true:=by
   rw[ah9];intro e;simp at e;exact jI e
  simp[s0,s1,s5,aw,JY,aS,sY,dO,ig]
def kE(w:Word):Bool:=decide (w.aG.length<=8)&&decide (w.bD.length<=8)
def lq(s:ar):Bool:=(s.words.take 6).all kE&&(decide (s.aV.length<=8)&&decide (s.aQ.length<=8)&&decide (s.words.length<=6))
theorem ym{s:ar}(h:lq s=true):mG s:=by
 unfold lq at h;simp only[afa,aff]at h;obtain⟨h1,⟨h2,h3⟩,h4⟩:=h;rw[afh h4,afC]at h1
 have h5:∀w∈s.words,w.aG.length<=8/\w.bD.length<=8:=λw hw=>by simpa[kE]using h1 w hw
 exact⟨by omega,by omega,by omega,λw hw=>by have:=(h5 w hw).1;omega,λw hw=>by have:=(h5 w hw).2;omega⟩
def o7(s:aq):Bool:=lq s.name&&decide (s.cells.length<=14)
theorem sO{s:aq}(h:o7 s=true):er s/\s.cells.length<=14/\s.name.words.length<=6:=by
 unfold o7 at h;rw[afa,aff]at h
 have h6:s.name.words.length<=6:=by
  have:=h.1;unfold lq at this;simp only[afa,aff]at this;exact this.2.2
 exact⟨⟨by omega,ym h.1⟩,h.2,h6⟩
theorem QT(hG:au GI)(s:aq):AC prog GI 28 [a_ s] (.ret (.bool (o7 s))):=by
 obtain⟨n,hn⟩:∃n,s.name=n:=⟨_,rfl⟩
 obtain⟨cs,IQ⟩:∃n,s.cells=n:=⟨_,rfl⟩
 have hc:((cs.length:Int)<=14)↔cs.length<=14:=by omega
 have Qm:((n.aV.length:Int)<=8)↔n.aV.length<=8:=by omega
 have RA:((n.aQ.length:Int)<=8)↔n.aQ.length<=8:=by omega
 have Qw:((n.words.length:Int)<=6)↔n.words.length<=6:=by omega
 unfold o7;rw[hn,IQ];refine bP hG func28 ntmps28 c28 ?_;refine az (λS H=>S 1=.box 1 0/\H 1=some (ao s)) (by simp[a_,ao,ae]) ?_;rintro S H ⟨s1,h1⟩
 have hT:ao s=[.slice .view (cs.map gy),.int .i64 s.pos,.int .i64 s.reach,.int .i64 s.dE,.int .i64 s.c_]++ae n:=by rw[<-hn,<-IQ]<;>rfl
 rw[hT]at h1;generalize ao s=T at hT;simp[s1,h1];refine bq 3 (min n.words.length 6) (λi S H=>S 1=.box 1 0/\H 1=some ([.slice .view (cs.map gy),.int .i64 s.pos,.int .i64 s.reach,.int .i64 s.dE,.int .i64 s.c_]++ae n)/\S 3=.int .i64 (i:Nat)/\(∀j (hj:j<(n.words.take 6).length),j<i->kE (n.words.take 6)[j]=true)) (λi S H h=>h.2.2.1) ⟨by simp[s1],by simp[h1],by simp,by simp⟩ ?_;clear s1 h1 S H;rintro i hi S H ⟨s1,e1,s3,hb⟩
 by_cases aw:i<n.words.length
 case neg=>
  have cD:i=n.words.length:=by omega
  subst cD
  have EB:n.words.length<=6:=by omega
  have fX:(n.words.take 6).all kE=true:=qh λj hj=>hb j hj (by rw[afJ]at hj;omega)
  by_cases h0:cs.length<=14<;>by_cases h1:n.aV.length<=8<;>by_cases h2:n.aQ.length<=8<;>simp[s1,e1,s3,ae,lq,fX,h0,h1,h2,EB,hc,Qm,RA,Qw]
 by_cases h6:i<6
 case neg=>
  have FY:¬(i:Int)<6:=by omega
  have fX:(n.words.take 6).all kE=true:=qh λj hj=>hb j hj (by rw[afJ]at hj;omega)
  by_cases h0:cs.length<=14<;>by_cases h1:n.aV.length<=8<;>by_cases h2:n.aQ.length<=8<;>simp[s1,e1,s3,aw,FY,ae,lq,fX,h0,h1,h2,hc,Qm,RA,Qw]
 have hw:IntKind.i64.wrap ((i:Int)+1)=i+1:=aN (by omega)
 have FY:(i:Int)<6:=by omega
 have hit:i<(n.words.take 6).length:=by rw[afJ];omega
 have jy:(n.words.take 6)[i]=n.words[i]:=ag9
 by_cases h1:n.words[i].aG.length<=8
 case neg=>
  have hf:kE (n.words.take 6)[i]=false:=by rw[jy];simp[kE,h1]
  have Df:(8:Int)<n.words[i].aG.length:=by omega
  simp[s1,e1,s3,aw,FY,ae,bW,Df];simp[lq,nM hit hf]
 have Df:¬(8:Int)<n.words[i].aG.length:=by omega
 by_cases h2:n.words[i].bD.length<=8
 case neg=>
  have th:(8:Int)<n.words[i].bD.length:=by omega
  have hf:kE (n.words.take 6)[i]=false:=by rw[jy];simp[kE,h2]
  simp[s1,e1,s3,aw,FY,ae,bW,Df,th];simp[lq,nM hit hf]
 have th:¬(8:Int)<n.words[i].bD.length:=by omega
 have ht:kE (n.words.take 6)[i]=true:=by rw[jy];simp[kE,h1,h2]
 simp[s1,e1,s3,aw,FY,ae,bW,Df,th,hw]
 exact⟨by omega,λj hj lg=>by
  have:=jw hit hb ht j (by rw[afJ];omega) lg
  rwa [ag9]at this⟩
theorem MS(hG:au GI)(s:List UInt8):AC prog GI 168 [.bool true,.str s] (.ret (.d_ [])):=by
 refine bP hG func168 ntmps168 c168 ?_;simp[c168]
def yY(w:List UInt8):Bool:=p_ w&&decide (w.length<=2)
theorem vW{w:List UInt8}:yY w=true↔w≠[]/\w.length<=2/\(∀c∈w,digit c)/\jC (cz w)=w:=by
 unfold yY;rw[afa,AA,aff]
 constructor
 .rintro⟨⟨h1,h2,h3,h4⟩,h5⟩;exact⟨h1,h5,h3,h4⟩
 .rintro⟨h1,h2,h3,h4⟩;exact⟨⟨h1,by omega,h3,h4⟩,h2⟩
theorem qe:∀(w:List UInt8),(∀c∈w,digit c)->w.length<=2->0<=cz w/\cz w<100
 |[],_,_=>by simp[cz]
 |[a],h,_=>by have:=h a (by simp);unfold digit at this;simp[cz];omega
 |[a,b],h,_=>by have h1:=h a (by simp);have h2:=h b (by simp);unfold digit at h1 h2;simp[cz];omega
theorem I1(i:Nat)(hi:i<100):AC prog GI 162 [.int .i64 (i:Nat)] (.ret (.str (zr 20 i))):=by
 intro w old dH hG hl hr;obtain⟨v,rfl⟩:=Mm hl rfl;have e1:=(hr 0 (by simp) (by simp)).int_eq;simp only[List.getElem_toArray,List.getElem_cons_zero]at e1;subst e1;refine(Tryz.strconv_Itoa_small i hi w).mono ?_;rintro e w' ⟨rfl,rfl⟩;refine⟨aga _ _,λ_=>0,λ_ _=>rfl,_,rfl,.data _ _ ?_,trivial⟩;rw[zu 20 i (by omega) (by omega)];exact .str _
theorem sQ{n:Int}(h0:0<=n)(h1:n<100):AC prog GI 162 [.int .i64 n] (.ret (.str (jC n))):=by
 have:=I1 (GI:=GI) n.toNat (by omega);rw[ag4 h0]at this;exact this
noncomputable def qQ:af:=af.qb c169.qb.qb.qa.qb.qb
noncomputable def ye:af:=af.qb c169.qb.qb
theorem HZ(hG:au GI)(wd:List UInt8)(hw:yY wd=true):AC prog GI 169 [.str wd] (.ret (.int .i64 (cz wd))):=by
 obtain⟨dO,HB,wm,Wh⟩:=vW.1 hw
 refine AC.gY func169 rfl ntmps169 (by simp) λcc w=>?_
 have ib:∀k d,¬(oK cc w k).bx d:=λ_ _ h=>h
 refine dw hG c169.qa (λS' H'=>S' 0=.str wd) ?_ ?_
 .simp[c169,af.qa]
 rintro S1 H1 s0;refine dw hG c169.qb.qa (λS' H'=>S' 0=.str wd/\S' 3=.int .i64 0) ?_ ?_
 .simp[c169,af.qa,af.qb,s0]
 rintro S2 H2 ⟨s0,s3⟩;show SW prog GI 41 none (.seq (.seq _ (.block 0 (.loop _))) (.seq _ (.seq _ .ret))) _ _ _ _
 obtain⟨sb,kj⟩:∃sb:ByteArray,sb=⟨wd.toArray⟩:=⟨_,rfl⟩
 refine SW.seq (SW.seq (SW.mid hG (p:=1) (oh:={ dst:=some 7,op := .range 9 (.tmp 6),type:=0,pos := "text.go:97",after:=_,guard:=none }) (kY:=[_]) (lJ:=[]) (l2:=[]) rfl rfl rfl rfl (by kernel_rfl) rfl (λ_ h=>h) (lM:=(c169.qb.qb.qa.qa.dl).take 1) (kP:=[]) (by kernel_rfl) rfl (by kernel_rfl) rfl
  (K1:=λS' H'=>S' 6=.str wd/\S' 3=.int .i64 0/\S' 0=.str wd)
  (K2:=λo S' H'=>∃k b,o=oK cc w k/\k b=some (.stringIter sb 0)/\S' 7=.val (.pointer (some ⟨b,0,none⟩))/\S' 3=.int .i64 0/\S' 0=.str wd)
  (K3:=λo S' H'=>∃k b,o=oK cc w k/\k b=some (.stringIter sb 0)/\S' 7=.val (.pointer (some ⟨b,0,none⟩))/\S' 3=.int .i64 0/\S' 0=.str wd) ?_ ?_ ?_ ?_))
 .simp[c169,af.qa,af.qb,af.dl,s0,s3]
 .rintro w0 g S8 H8 a w8 ho R ⟨s6,s3,s0⟩;have t6:=R.slot 6 (by decide) (λh=>h);rw[s6]at t6
  have t6:a.eval (.tmp 6)=.string sb:=by rw[kj];exact kg t6
  have mJ:prog.underlying 9=some .string:=by kernel_rfl
  have R2:=R.kA (.stringIter sb 0);refine⟨_,_,_,av S8 7 (.val (.pointer (some ⟨w8.heap.size,0,none⟩))),H8,.inl (yE rfl mJ t6),R2.put 7 _ _ (by decide) (.data _ _ (.val _ rfl)) trivial,av g.old.bI w8.heap.size (some (.stringIter sb 0)),w8.heap.size,?_,bm _ _ _,by simp[av],by simp[av,s3],by simp[av,s0]⟩;show({ g.old with bI:=av g.old.bI w8.heap.size _ }:Old)=_
  rw[ho]<;>rfl
 .rintro o S8 H8 ⟨k,b,rfl,h⟩;exact⟨ib _,k,b,rfl,h⟩
 rintro o S8 H8 ⟨k,b,rfl,tf,s7,s3,s0⟩
 refine SW.block (SW.K0 (λo S' H'=>∃k b pos,o=oK cc w k/\k b=some (.stringIter sb pos)/\pos<=wd.length/\(∀c∈wd.take pos,digit c)/\(0<pos->wd.length<=2)/\S' 7=.val (.pointer (some ⟨b,0,none⟩))/\S' 3=.int .i64 (cz (wd.take pos))/\S' 0=.str wd)
  (λo S' _=>match S' 7 with|.val (.pointer (some a))=>(match o.bI a.block with|some (.stringIter _ p)=>wd.length-p|_=>0)|_=>0) ⟨k,b,0,rfl,tf,afK _,by simp,by simp,s7,s3,s0⟩ ?_)
 rintro o S9 H9 ⟨k,b,pos,rfl,tf,jb,Sl,pU,s7,s3,s0⟩;have m7:=s7
 have Fm:∀(S:aF)(k:Nat->Option Obj) p,S 7=.val (.pointer (some ⟨b,0,none⟩))->k b=some (.stringIter sb p)->(match S 7 with|.val (.pointer (some a))=>(match(oK cc w k).bI a.block with|some (.stringIter _ p)=>wd.length-p|_=>0)|_=>0)=wd.length-p:=by
  intro S k p h1 h2;rw[h1];show(match k b with|some (.stringIter _ p)=>wd.length-p|_=>0)=_;rw[h2]
 have bL:sb.size=wd.length:=by rw[kj]<;>rfl
 have Kb:=MS (GI:=GI) hG wd
 have e8:∀n H,fz H (.int .i64 n)=.int .i64 n:=λn H=>rfl
 have e9:∀H,fz H (.str wd)=.str wd:=λH=>rfl
 have ij:∀b H,fz H (.bool b)=.bool b:=λb H=>rfl
 show SW prog GI 41 none (.seq _ (.seq (.cond _ _ _) (.block 1 (.seq _ (.seq _ _))))) _ _ _ _
 by_cases hp:pos<wd.length
 case neg=>
  refine SW.seq (SW.mid hG (p:=0) (oh:={ dst:=some 8,op := .next (.tmp 7) true,type:=0,pos := "text.go:97",after := #[],guard:=none }) (kY:=[]) (lJ:=[_]) (l2:=[1]) rfl rfl rfl rfl (by kernel_rfl) rfl (ib _) (lM:=[]) (kP:=(qQ.qa.dl).drop 1) rfl (by kernel_rfl) rfl (by kernel_rfl)
   (K1:=λS' H'=>S' 7=.val (.pointer (some ⟨b,0,none⟩))/\S' 3=.int .i64 (cz wd)/\S' 0=.str wd)
   (K2:=λo S' H'=>o=oK cc w k/\S' 8=.d_ [.bool false]/\S' 3=.int .i64 (cz wd)/\S' 0=.str wd)
   (K3:=λo S' H'=>o=oK cc w k/\S' 9=.bool false/\S' 3=.int .i64 (cz wd)/\S' 0=.str wd) ?_ ?_ ?_ ?_)
  .have:pos=wd.length:=by omega
   subst this;rw[afS]at s3;exact⟨s7,s3,s0⟩
  .rintro w0 g my pD a DT ho R ⟨s7,s3,s0⟩;have t7:=R.slot 7 (by decide) (λh=>h);rw[s7]at t7;have t7:a.eval (.tmp 7)=.pointer (some ⟨b,0,none⟩):=t7.eU
   have hk:g.old.bI b=some (.stringIter sb pos):=by rw[ho];exact tf
   have hb:=(R.kept b _ hk).2.1;refine⟨_,_,_,av my 8 (.d_ [.bool false]),pD,.inl (sG rfl t7 hb (by omega)),R.put 8 _ _ (by decide) (.data _ _ (.d_ _ _ rfl λi h h'=>?_)) trivial,ho,bm _ _ _,by simp[av,s3],by simp[av,s0]⟩
   match i,h with
   |0,_=>exact .bool _
  .rintro o my pD ⟨rfl,s8,s3,s0⟩;refine⟨ib _,?_⟩;simp[c169,qQ,af.qa,af.qb,af.dl,bj,aD,bf,aL,ev,aT.S,aT.H,av,aY,s3,s0,s8,AV.aI]
  rintro o my pD ⟨rfl,s9,s3,s0⟩;refine SW.seq (SW.cond rfl false (by show my 9=_;rw[s9]) (SW.exit ?_));show SW prog GI 41 none (.seq _ _) _ _ _ _
  have ZB:pos=wd.length:=by omega
  have hs:=qe wd wm HB;have Fy:=sQ (GI:=GI) hs.1 hs.2
  have F3:(wd !=[])=true:=by simpa using dO
  rw[Wh]at Fy;refine yu hG ye.qa (λd _=>ib _ d) (λS' H'=>S' 3=.int .i64 (cz wd)) ?_ ?_
  .simp[c169,ye,af.qa,af.qb,bO,bj,aD,bf,aL,aP,ev,aT.S,aT.H,av,aY,s3,s0,AV.aI,dI,F3,e8];refine oc Fy ?_;simp[iH,av,AV.aI,s3,s0,dI,e9,ij];refine oc Kb ?_;simp[iH,av,AV.aI,s3,s0]
  rintro WC UM s3;show SW prog GI 41 none (.seq _ .ret) _ _ _ _;refine yu hG ye.qb.qa (λd _=>ib _ d) (λS' H'=>S' 2=.int .i64 (cz wd)) ?_ ?_
  .simp[c169,ye,af.qa,af.qb,s3]
  rintro U3 V5 s2;refine SW.ret ⟨eD.plain rfl,rfl,_,?_,rfl⟩;show cw prog 41 [.tmp 2] U3 V5=_;simp[cw,cH,cI,s2,AV.bU,AV.out]
 case pos=>
  obtain⟨c,hc⟩:∃c,wd[pos]=c:=⟨_,rfl⟩
  obtain⟨r,hr⟩:∃r:Nat,(Utf8.decode sb pos).1=r:=⟨_,rfl⟩
  obtain⟨p',wz⟩:∃p':Nat,pos+(Utf8.decode sb pos).2=p':=⟨_,rfl⟩
  have y5:sb[pos]'(by omega)=c:=by subst kj;rw[<-hc]<;>rfl
  refine SW.seq (SW.mid hG (p:=0) (oh:={ dst:=some 8,op := .next (.tmp 7) true,type:=0,pos := "text.go:97",after := #[],guard:=none }) (kY:=[]) (lJ:=[_]) (l2:=[1]) rfl rfl rfl rfl (by kernel_rfl) rfl (ib _) (lM:=[]) (kP:=(qQ.qa.dl).drop 1) rfl (by kernel_rfl) rfl (by kernel_rfl)
   (K1:=λS' H'=>S' 7=.val (.pointer (some ⟨b,0,none⟩))/\S' 3=.int .i64 (cz (wd.take pos))/\S' 0=.str wd)
   (K2:=λo S' H'=>o=oK cc w (av k b (some (.stringIter sb p')))/\S' 7=.val (.pointer (some ⟨b,0,none⟩))/\S' 8=.d_ [.bool true,.int .i64 pos,.int .i32 r]/\S' 3=.int .i64 (cz (wd.take pos))/\S' 0=.str wd)
   (K3:=λo S' H'=>o=oK cc w (av k b (some (.stringIter sb p')))/\S' 7=.val (.pointer (some ⟨b,0,none⟩))/\S' 9=.bool true/\S' 8=.d_ [.bool true,.int .i64 pos,.int .i32 r]/\S' 3=.int .i64 (cz (wd.take pos))/\S' 0=.str wd) ⟨s7,s3,s0⟩ ?_ ?_ ?_)
  .rintro w0 g my pD a DT ho R ⟨s7,s3,s0⟩;have t7:=R.slot 7 (by decide) (λh=>h);rw[s7]at t7;have t7:a.eval (.tmp 7)=.pointer (some ⟨b,0,none⟩):=t7.eU
   have hk:g.old.bI b=some (.stringIter sb pos):=by rw[ho];exact tf
   have hb:=(R.kept b _ hk).2.1;refine⟨_,_,_,av my 8 (.d_ [.bool true,.int .i64 pos,.int .i32 r]),pD,.inl (Bv rfl t7 hb (by omega) hr wz),(R.m_ hk _).put 8 _ _ (by decide) (.data _ _ (.d_ _ _ rfl λi h h'=>?_)) trivial,?_,by simp[av,s7],bm _ _ _,by simp[av,s3],by simp[av,s0]⟩
   .match i,h with
    |0,_=>exact .bool _
    |1,_=>exact .int _ _
    |2,_=>exact .int _ _
   .show({ g.old with bI:=av g.old.bI b _ }:Old)=_
    rw[ho]<;>rfl
  .rintro o my pD ⟨rfl,s7,s8,s3,s0⟩;refine⟨ib _,?_⟩;simp[c169,qQ,af.qa,af.qb,af.dl,bj,aD,bf,aL,ev,aT.S,aT.H,av,aY,s3,s0,s7,s8,AV.aI]
  rintro o my pD ⟨rfl,s7,s9,s8,s3,s0⟩;refine SW.seq (SW.cond rfl true (by show my 9=_;rw[s9]) (SW.skip ?_));show SW prog GI 41 none (.block 1 (.seq _ (.seq _ _))) _ _ _ _;have I':digit c:=wm c (hc▸ae_ hp);have FH:=I';unfold digit at FH;have J8:=decode_ascii sb pos (by omega) (by rw[y5];omega)
  have VI:r=c.toNat:=by rw[<-hr,J8,y5]
  have SU:p'=pos+1:=by rw[<-wz,J8]
  subst VI;subst SU
  have P0:∀x∈wd.take (pos+1),digit x:=by
   rw[afd hp,hc];intro x hx;rcases afr.1 hx with hx|hx
   .exact Sl x hx
   .rw[afs]at hx;rw[hx];exact I'
  have ly:wd.take (pos+1)=wd.take pos++[c]:=by rw[afd hp,hc]
  have SK:=nK (wd.take pos) Sl (by simp;omega);refine SW.block (SW.mono (Q:=λe o S' H'=>e=.normal/\o=oK cc w (av k b (some (.stringIter sb (pos+1))))/\S' 7=.val (.pointer (some ⟨b,0,none⟩))/\S' 3=.int .i64 (cz (wd.take (pos+1)))/\S' 0=.str wd) ?_ (SW.nz hG cC (by kernel_rfl) (λd _=>ib _ d) (ac:=af.qb qQ.qb.qb) (by kernel_rfl) ?_))
  .rintro e o S' H' ⟨rfl,rfl,s7,s3,s0⟩;refine⟨⟨av k b (some (.stringIter sb (pos+1))),b,pos+1,rfl,bm _ _ _,hp,P0,λ_=>HB,s7,s3,s0⟩,?_⟩;show(match S' 7 with|.val (.pointer (some a))=>(match(oK cc w (av k b (some (.stringIter sb (pos+1))))).bI a.block with|some (.stringIter _ p)=>wd.length-p|_=>0)|_=>0)<_;rw[Fm S' _ (pos+1) s7 (bm _ _ _),Fm S9 k pos m7 tf];omega
  .unfold mL.bO
   have g1:(48:Int)<=c.toNat:=by omega
   have g2:(c.toNat:Int)<=57:=by omega
   have g3:(wd.length:Int)<=2:=by omega
   have w1:IntKind.i64.wrap (10*cz (wd.take pos))=10*cz (wd.take pos):=aN (by omega);have w2:IntKind.i32.wrap ((c.toNat:Int)-48)=(c.toNat:Int)-48:=wrap32 (by omega);have w3:IntKind.i64.wrap ((c.toNat:Int)-48)=(c.toNat:Int)-48:=aN (by omega)
   have w4:IntKind.i64.wrap (10*cz (wd.take pos)+((c.toNat:Int)-48))=cz (wd.take (pos+1)):=by rw[ly,tW,aN (by omega)]
   simp[c169,qQ,af.qa,af.qb,bO,bj,aD,bf,aL,cV,ev,aT.S,aT.H,av,aY,s3,s0,s7,s8,AV.aI,dI,g1,g2,g3,e9,ij,bu];refine oc Kb ?_;simp[iH,av,AV.aI,s3,s0,s7,dI,w1,w2,w3,w4,bu]
end Go.Proofs.Tryz
namespace Go.Proofs.Tryz
open Go Go.AL Go.RowKit Go.Proofs Go.Proofs.Tram
variable{GI:World->Prop}
section
variable{w0:World}{n:Nat}{g:Gh}{S:aF}{H:aK}{a:Act}{w:World}{d i1 i4 i5:Nat}{t u e:List UInt8}{z x:List AV}{y:AV}
theorem F4(R:Rel prog w0 n dU g S H a w){i:Nat}(hi:i<n)(hS:S i=.box i 0)(hH:H i=some [.str t]):∃b,a.tmps.getD i undef=.pointer (some ⟨b,0,none⟩)/\w.cell? ⟨b,0,none⟩=some (.string ⟨t.toArray⟩):=by
 obtain⟨b,al,e⟩:=iW R hi hS;obtain⟨cs,vs,ty,k0,k1,k2,k3,k4,k5,k6,k7,k8⟩:=R.box i b al;rw[hH]at k0;cases k0
 have h0:0<vs.size:=by rw[<-k5];exact Nat.zero_lt_one
 have hv:=kg (RV.data (al:=cd) _ _ (k6 0 (by simp) h0));exact⟨b,e,by simp[World.cell?,k2,h0,hv]⟩
theorem DF (hG:au GI) (dS:GI w0) (R:Rel prog w0 n dU g S H a w) (hd:d < n) (F_:i1 < n) (Ca:i4 < n) (Br:i5 < n) (Cq:d≠i4) (Gt:d≠i5) (EF:i4≠i5)
  (FD:S i1=.box i1 0) (Gl:H i1=some [.str t]) (xl:S i4=.box i4 0) (BU:H i4=some z) (tC:S i5=.box i5 0) (yv:H i5=some [y]) (hz:z.length=15) (hx:x.length=15) (Sc:AC prog GI 121 [.str t] (.ret (.d_ [.agg x,.str u]))):
  Calls prog 120 #[a.tmps.getD i1 undef,a.tmps.getD i4 undef,a.tmps.getD i5 undef] w λe w2=>e=.returned (.tuple #[])/\∃(c:Value)(g':Gh)(S':aF)(H':aK),g'.old=g.old/\Rel prog w0 n dU g' S' H' (a.put (some d) c) w2/\(∀t,t≠d->S' t=S t)/\H'=av (av H i4 (some (x.map AV.aI))) i5 (some [.str u]):=by
 have bL:=R.size;have fR:GI w:=hG w0 w dS (by have:=R.below;rwa [R.base]at this);obtain⟨b1,e1,gG⟩:=F4 R F_ FD Gl;obtain⟨b4,al4,e4⟩:=iW R Ca xl;obtain⟨b5,Nt,e5⟩:=iW R Br tC;refine ahm func120 rfl ?_;refine(ez (m:=0)).1 ?_;refine eY (λa=>a.tmps.size=8/\a.defers=[]/\a.tmps.getD 0 undef=.pointer (some ⟨b1,0,none⟩)/\a.tmps.getD 1 undef=.pointer (some ⟨b4,0,none⟩)/\a.tmps.getD 2 undef=.pointer (some ⟨b5,0,none⟩)) ⟨by simp[ntmps120],rfl,(bK _ _ 0 (by simp)).trans e1,(bK _ _ 1 (by simp)).trans e4,(bK _ _ 2 (by simp)).trans e5⟩ ?_;rintro aC ⟨zC,dC,t0,t1,t2⟩;refine afq ?_;show wpOpsIn _ _ _ _ _ [0,1,2,3,4,5,6] aC w;refine aW rfl rfl (by rfl) (lP (t:=9) (d:=.string) (b:=b1) (off:=0) rfl t0 (by kernel_rfl) rfl gG) ?_;show wpOpsIn _ _ _ _ _ [1,2,3,4,5,6] (aC.put (some 4) (.string ⟨t.toArray⟩)) w
 refine eS rfl rfl (by rfl) (fU (k:=121) (args:=#[.string ⟨t.toArray⟩]) w rfl rfl ?_ (by kernel_rfl)) (Sc w (fy g false) #[.string ⟨t.toArray⟩] fR rfl (λi h h'=>by
  match i,h with
  |0,_=>exact .data _ _ (.str t))) ?_
 .simp only[afw,afv,afB];show #[(aC.put (some 4) _).eval (.tmp 4)]=_;rw[bt _ _ _ _ (by omega),if_pos rfl]
 rintro e w2 ⟨ig,hi,pS,c,rfl,Ci,h_⟩;refine⟨c,rfl,?_⟩;obtain⟨g',Hg,nq,R2⟩:=R.call (some d) (λt ht=>by cases ht;exact⟨hd,id⟩) false ig pS Ci h_ (λh=>by cases h);have Dk:=R2.slot d hd id
 have Sy:(a.put (some d) c).tmps.getD d undef=c:=by rw[ji _ _ _ _ (by omega),if_pos rfl]
 rw[Sy]at Dk;have Ip:aY S (some d) (.d_ [.agg x,.str u]) d=.d_ [.agg x,.str u]:=bm _ _ _;rw[Ip]at Dk
 obtain⟨c0,rfl,r0⟩:∃c0,c=.tuple #[c0,.string ⟨u.toArray⟩]/\RD g'.Pr w2 (.agg x) c0:=by
  cases Dk with
  |data _ _ h=>
   cases h with
   |d_ cs vs hl hr=>
    have h2:vs.size=2:=by rw[<-hl]<;>rfl
    have q0:=hr 0 (by simp) (by omega);have q1:=hr 1 (by simp) (by omega);simp only[List.getElem_cons_zero,List.getElem_cons_succ]at q0 q1;have q1:=kg (RV.data (al:=cd) _ _ q1);refine⟨vs[0],?_,q0⟩
    congr 1
    apply agp
    .simpa using h2
    .intro i h1 h2
     match i,h2 with
     |0,_=>rfl
     |1,_=>exact q1
 have R3:=R2.put d (.agg x) c0 hd (.data _ _ r0) trivial;rw[um]at R3;obtain⟨i31,lz,lx⟩:=bh (P:=prog) (t:=31) (s:=15) (by kernel_rfl);obtain⟨i9,WI,Dx⟩:=bh (P:=prog) (t:=9) (s:=1) (by kernel_rfl)
 have jo:bo z 0 (x.map AV.aI)=x.map AV.aI:=by simp[bo,hz,hx]
 obtain⟨S3,Be⟩:∃S3,av (aY S (some d) (.d_ [.agg x,.str u])) d (.agg x)=S3:=⟨_,rfl⟩
 rw[Be]at R3
 have Vz:S3 d=.agg x:=by rw[<-Be];exact bm _ _ _
 have k3:∀t,t≠d->S3 t=S t:=λt ht=>by rw[<-Be];simp[av,aY,ht]
 have kc:aL S3 H (.store .any i31.size (.t i4) (.t d))=some { v:=cG,dm:=some d,hw:=some (i4,x.map AV.aI) }:=by
  simp[aL,ev,Vz,k3 i4 (afQ Cq),xl,BU,HR.okB,AV.cells,AV.storable,AV.cg,lx,hx,hz,bu,jo]
 obtain ⟨c2,w3,g3,eh,G0,uh,R4⟩:=kS R3 (o:={ dst:=none,op := .store 31 (.tmp i4) (.tmp d),type:=0,pos := "",after := #[],guard:=none }) (x1 := .tmp i4) (x2 := .tmp d) (y1 := .t i4) (y2 := .t d) (hr := .any) rfl rfl lz (by simp [lQ,Ca]) (by simp [lQ,hd]) (λ_ _=>id) (λ_ _=>id) kc;have R5:=R4.put d (.str u) (.string ⟨u.toArray⟩) hd (.data _ _ (.str u)) trivial;have R5:Rel prog w0 n dU g3 (av _ d (.str u)) (av H i4 (some (x.map AV.aI))) ((a.put (some d) c0).put (some d) (.string ⟨u.toArray⟩)) w3:=R5;rw [um] at R5
 obtain⟨S5,Ag⟩:∃S5,av (aT.S { v:=cG,dm:=some d,hw:=some (i4,x.map AV.aI) } S3 none) d (.str u)=S5:=⟨_,rfl⟩
 rw[Ag]at R5
 have Wy:S5 d=.str u:=by rw[<-Ag];exact bm _ _ _
 have k5:∀t,t≠d->S5 t=S t:=λt ht=>by rw[<-Ag,cN _ _ ht,<-k3 t ht];simp[aT.S,aY,av,ht]
 have RS:aL S5 (av H i4 (some (x.map AV.aI))) (.store .any i9.size (.t i5) (.t d))=some { v:=cG,dm:=some d,hw:=some (i5,[.str u]) }:=by
  simp[aL,ev,Wy,k5 i5 (afQ Gt),tC,yv,av,afQ EF,HR.okB,AV.cells,AV.storable,AV.cg,Dx,bo,bu,AV.aI]
 obtain ⟨c3,w4,g4,FF,Yx,Sj,R6⟩:=kS R5 (o:={ dst:=none,op := .store 9 (.tmp i5) (.tmp d),type:=0,pos := "",after := #[],guard:=none }) (x1 := .tmp i5) (x2 := .tmp d) (y1 := .t i5) (y2 := .t d) (hr := .any) rfl rfl WI (by simp [lQ,Br]) (by simp [lQ,hd]) (λ_ _=>id) (λ_ _=>id) RS;show wpOpsIn _ _ _ _ _ [2,3,4,5,6] ((aC.put (some 4) (.string ⟨t.toArray⟩)).put (some 5) (.tuple #[c0,.string ⟨u.toArray⟩])) w2
 obtain⟨A,hA,zA,dA,q1,q2,q5⟩:∃A,(aC.put (some 4) (.string ⟨t.toArray⟩)).put (some 5) (.tuple #[c0,.string ⟨u.toArray⟩])=A/\A.tmps.size=8/\A.defers=[]/\A.eval (.tmp 1)=.pointer (some ⟨b4,0,none⟩)/\A.eval (.tmp 2)=.pointer (some ⟨b5,0,none⟩)/\A.eval (.tmp 5)=.tuple #[c0,.string ⟨u.toArray⟩]:=by
  have TV:(aC.put (some 4) (.string ⟨t.toArray⟩)).tmps.size=8:=by rw[iU];exact zC
  refine⟨_,rfl,by rw[iU];exact TV,dC,?_,?_,?_⟩
  .rw[bt _ _ _ _ (by omega),if_neg (by decide),bt _ _ _ _ (by omega),if_neg (by decide)];exact t1
  .rw[bt _ _ _ _ (by omega),if_neg (by decide),bt _ _ _ _ (by omega),if_neg (by decide)];exact t2
  .rw[bt _ _ _ _ (by omega),if_pos rfl]
 rw[hA]
 have v5:(execOp A.eval { dst:=some 3,op := .move (.tmp 5),type:=146,pos := "",after := #[],guard:=none }).run prog w2 = .ok (.value (.tuple #[c0,.string ⟨u.toArray⟩])) w2:=by unfold execOp;simp [q5]
 refine aW rfl rfl (by rfl) v5 ?_;show wpOpsIn _ _ _ _ _ [3,4,5,6] (A.put (some 3) (.tuple #[c0,.string ⟨u.toArray⟩])) w2
 obtain⟨B,hB⟩:∃B,A.put (some 3) (.tuple #[c0,.string ⟨u.toArray⟩])=B:=⟨_,rfl⟩
 have zB:B.tmps.size=8:=by rw[<-hB,iU];exact zA
 have dB:B.defers=[]:=by rw[<-hB];exact dA
 have p1:B.eval (.tmp 1)=.pointer (some ⟨b4,0,none⟩):=by rw[<-hB,bt _ _ _ _ (by omega),if_neg (by decide)];exact q1
 have p2:B.eval (.tmp 2)=.pointer (some ⟨b5,0,none⟩):=by rw[<-hB,bt _ _ _ _ (by omega),if_neg (by decide)];exact q2
 have p3:B.eval (.tmp 3)=.tuple #[c0,.string ⟨u.toArray⟩]:=by rw[<-hB,bt _ _ _ _ (by omega),if_pos rfl]
 rw[hB]
 have v6:(execOp B.eval { dst:=some 6,op := .extract (.tmp 3) 0,type:=31,pos := "",after := #[],guard:=none }).run prog w2 = .ok (.value c0) w2:=by unfold execOp;simp [p3,Instr.extract]
 refine aW rfl rfl (by rfl) v6 ?_;show wpOpsIn _ _ _ _ _ [4,5,6] (B.put (some 6) c0) w2
 obtain⟨C,hC⟩:∃C,B.put (some 6) c0=C:=⟨_,rfl⟩
 have zC:C.tmps.size=8:=by rw[<-hC,iU];exact zB
 have o1:C.eval (.tmp 1)=.pointer (some ⟨b4,0,none⟩):=by rw[<-hC,bt _ _ _ _ (by omega),if_neg (by decide)];exact p1
 have o2:C.eval (.tmp 2)=.pointer (some ⟨b5,0,none⟩):=by rw[<-hC,bt _ _ _ _ (by omega),if_neg (by decide)];exact p2
 have o3:C.eval (.tmp 3)=.tuple #[c0,.string ⟨u.toArray⟩]:=by rw[<-hC,bt _ _ _ _ (by omega),if_neg (by decide)];exact p3
 have o6:C.eval (.tmp 6)=c0:=by rw[<-hC,bt _ _ _ _ (by omega),if_pos rfl]
 rw[hC]
 have v7:(execOp C.eval { dst:=some 7,op := .extract (.tmp 3) 1,type:=9,pos := "",after := #[],guard:=none }).run prog w2 = .ok (.value (.string ⟨u.toArray⟩)) w2:=by unfold execOp;simp [o3,Instr.extract]
 refine aW rfl rfl (by rfl) v7 ?_;show wpOpsIn _ _ _ _ _ [5,6] (C.put (some 7) (.string ⟨u.toArray⟩)) w2
 obtain⟨D,hD⟩:∃D,C.put (some 7) (.string ⟨u.toArray⟩)=D:=⟨_,rfl⟩
 have zD:D.tmps.size=8:=by rw[<-hD,iU];exact zC
 have dD:D.defers=[]:=by rw[<-hD,<-hC];exact dB
 have m1:D.eval (.tmp 1)=.pointer (some ⟨b4,0,none⟩):=by rw[<-hD,bt _ _ _ _ (by omega),if_neg (by decide)];exact o1
 have m2:D.eval (.tmp 2)=.pointer (some ⟨b5,0,none⟩):=by rw[<-hD,bt _ _ _ _ (by omega),if_neg (by decide)];exact o2
 have m6:D.eval (.tmp 6)=c0:=by rw[<-hD,bt _ _ _ _ (by omega),if_neg (by decide)];exact o6
 have m7:D.eval (.tmp 7)=.string ⟨u.toArray⟩:=by rw[<-hD,bt _ _ _ _ (by omega),if_pos rfl]
 rw[hD]
 have f4:∀c,(a.put (some d) c).eval (.tmp i4)=.pointer (some ⟨b4,0,none⟩):=λc=>by rw[bt _ _ _ _ (by omega),if_neg (afQ Cq)];exact e4
 have f5:∀c,(a.put (some d) c).eval (.tmp i5)=.pointer (some ⟨b5,0,none⟩):=λc=>by rw[bt _ _ _ _ (by omega),if_neg (afQ Gt)];exact e5
 have fd:∀c,(a.put (some d) c).eval (.tmp d)=c:=λc=>by rw[bt _ _ _ _ (by omega),if_pos rfl]
 have bb:∀ o:Oper,o.op = .store 31 (.tmp 1) (.tmp 6)->(execOp D.eval o).run prog w2=(execOp (a.put (some d) c0).eval { dst:=none,op := .store 31 (.tmp i4) (.tmp d),type:=0,pos := "",after := #[],guard:=none }).run prog w2:=by
  intro o ho;unfold execOp;simp only[ho,m1,m6,f4,fd]
 have gm:∀ (D':Act) (o:Oper),o.op = .store 9 (.tmp 2) (.tmp 7)->D'.tmps=D.tmps->(execOp D'.eval o).run prog w3=(execOp (a.put (some d) (.string ⟨u.toArray⟩)).eval { dst:=none,op := .store 9 (.tmp i5) (.tmp d),type:=0,pos := "",after := #[],guard:=none }).run prog w3:=by
  intro D' o ho ht
  have n2:D'.eval (.tmp 2)=.pointer (some ⟨b5,0,none⟩):=by show D'.tmps.getD 2 undef=_;rw[ht];exact m2
  have n7:D'.eval (.tmp 7)=.string ⟨u.toArray⟩:=by show D'.tmps.getD 7 undef=_;rw[ht];exact m7
  unfold execOp;simp only[ho,n2,n7,f5,fd]
 have fin:∀v1 v2:Value,((D.put none v1).put none v2).defers=[]/\∃v',(results f120 ((D.put none v1).put none v2).tmps).run prog w4=.ok v' w4/\(Ending.returned v'=.returned (.tuple #[])/\∃(c:Value)(g':Gh)(S':aF)(H':aK),g'.old=g.old/\Rel prog w0 n dU g' S' H' (a.put (some d) c) w4/\(∀t,t≠d->S' t=S t)/\H'=av (av H i4 (some (x.map AV.aI))) i5 (some [.str u])):=λv1 v2=>
  ⟨dD,.tuple #[],by simp[results,results120],rfl,_,g4,_,_,by rw[Sj];exact uh.trans nq,R6,λt ht=>by rw[<-k5 t ht];simp[aT.S,aY,av,ht],rfl⟩
 rcases eh with hr|⟨hr,_⟩
 .refine aW rfl rfl (by rfl) ((bb _ rfl).trans hr) ?_
  rcases FF with hr|⟨hr,_⟩
  .exact aW rfl rfl (by rfl) ((gm (D.put none c2) _ rfl rfl).trans hr) (fin c2 _)
  .exact dk rfl rfl (by rfl) ((gm (D.put none c2) _ rfl rfl).trans hr) (fin c2 undef)
 .refine dk rfl rfl (by rfl) ((bb _ rfl).trans hr) ?_
  rcases FF with hr|⟨hr,_⟩
  .exact aW rfl rfl (by rfl) ((gm (D.put none undef) _ rfl rfl).trans hr) (fin undef _)
  .exact dk rfl rfl (by rfl) ((gm (D.put none undef) _ rfl rfl).trans hr) (fin undef undef)
end
def FC:Nat->Bool:=λt=>decide (14<=t)
structure L2(a0:Act)(w:World)(u v:Value)(es:List Int)(c:Bool)(k:Nat)(a:Act)(w':World):Prop where
 size:a.tmps.size=50
 defers:a.defers=[]
 same:fC FC a0 a
 below:Below w.heap.size w w'
 t14:c=true->a.tmps.getD 14 undef=u
 t15:1<=k->a.tmps.getD 15 undef=v
 t16:2<=k->Jc w w' (ints es) (a.tmps.getD 16 undef)
 t17:3<=k->∃DJ,a.tmps.getD 17 undef=.slice (some ⟨DJ,0,none⟩) 1 1/\w'.heap[DJ]?=some (.cells #[a.tmps.getD 16 undef] 23 (0,0))/\w.heap.size<=DJ
theorem tD{a0 a:Act}(h:fC FC a0 a){d:Nat}(hd:14<=d)(c:Value):fC FC a0 (a.put (some d) c):=h.trans (fC.put (λt ht=>by cases ht;simp[FC,hd]) c)
section
variable{a0 a:Act}{w w':World}{u v:Value}{es:List Int}{c:Bool}{k:Nat}
theorem L2.load(h:L2 a0 w u v es c k a w'):L2 a0 w u v es true k (a.put (some 14) u) w':=by
 have hp:=λt (c:Value)=>ji a 14 t c (by rw[h.size];omega)
 refine⟨by simp[Act.put,h.size],h.defers,tD h.same (by omega) _,h.below,λ_=>by rw[hp,if_pos rfl],λhk=>by rw[hp,if_neg (by decide)];exact h.t15 hk,λhk=>by rw[hp,if_neg (by decide)];exact h.t16 hk,λhk=>?_⟩;rw[hp,if_neg (by decide),hp,if_neg (by decide)];exact h.t17 hk
theorem L2.now(h:L2 a0 w u v es c 0 a w'):L2 a0 w u v es c 1 (a.put (some 15) v) w':=by
 have hp:=λt (c:Value)=>ji a 15 t c (by rw[h.size];omega)
 exact⟨by simp[Act.put,h.size],h.defers,tD h.same (by omega) _,h.below,λhc=>by rw[hp,if_neg (by decide)];exact h.t14 hc,λ_=>by rw[hp,if_pos rfl],λhk=>by omega,λhk=>by omega⟩
theorem L2.copy(h:L2 a0 w u v es c 1 a w'){w2:World}{cl:Value}(hb:Below w'.heap.size w' w2)(hf:Jc w' w2 (ints es) cl):L2 a0 w u v es c 2 (a.put (some 16) cl) w2:=by
 have hp:=λt (c:Value)=>ji a 16 t c (by rw[h.size];omega)
 refine⟨by simp[Act.put,h.size],h.defers,tD h.same (by omega) _,h.below.trans (hb.mono h.below.size),λhc=>by rw[hp,if_neg (by decide)];exact h.t14 hc,λhk=>by rw[hp,if_neg (by decide)];exact h.t15 (by omega),λ_=>?_,λhk=>by omega⟩;rw[hp,if_pos rfl];obtain⟨hi,hr⟩:=hf;exact⟨hi,hr.mono (bz.same λb k _ hp=>⟨⟨agu h.below.size hp.1.1,hp.1.2⟩,hp.2⟩)⟩
theorem xE(w:World)(o:Obj):Below w.heap.size w (w.alloc o):=(aga _ _).alloc (afg _) _
theorem L2.row(h:L2 a0 w u v es c 2 a w'):L2 a0 w u v es c 3 (a.put (some 17) (.slice (some ⟨w'.heap.size,0,none⟩) 1 1)) (w'.alloc (.cells #[a.tmps.getD 16 undef] 23)):=by
 have hp:=λt (c:Value)=>ji a 17 t c (by rw[h.size];omega)
 have hb:=xE w' (.cells #[a.tmps.getD 16 undef] 23);refine⟨by simp[Act.put,h.size],h.defers,tD h.same (by omega) _,h.below.trans (hb.mono h.below.size),λhc=>by rw[hp,if_neg (by decide)];exact h.t14 hc,λhk=>by rw[hp,if_neg (by decide)];exact h.t15 (by omega),λ_=>?_,λ_=>?_⟩
 .rw[hp,if_neg (by decide)];exact(h.t16 (by omega)).grow hb
 .rw[hp,if_pos rfl,hp,if_neg (by decide)];exact⟨_,rfl,afO _ _,h.below.size⟩
end
def Kx(ops:Array Oper):Bool:=decide (ops.size=6)&&
 (Region.ready .any ops #[false,false,false,false,false,false]==[0,1])&&(Region.ready .any ops #[true,false,false,false,false,false]==[1])&&(Region.ready .any ops #[false,true,false,false,false,false]==[0,2])&&
 (Region.ready .any ops #[true,true,false,false,false,false]==[2])&&(Region.ready .any ops #[false,true,true,false,false,false]==[0,3])&&(Region.ready .any ops #[true,true,true,false,false,false]==[3])&&
 (Region.ready .any ops #[false,true,true,true,false,false]==[0])&&(Region.ready .any ops #[true,true,true,true,false,false]==[4])&&(Region.ready .any ops #[true,true,true,true,true,false]==[5])&&(Region.ready .any ops #[true,true,true,true,true,true]==[])
section
variable{wB:World}{Mi:Nat->Nat->Prop}{bF bN:Nat}{s:aq}{cS cR fv:Value}{fs:List (List Int)}{es:List Int}{w:World}{a:Act}{Q:Exit->Act->World->Prop}{m:Nat}
theorem yt (hG:au GI) (st:Lv wB Mi bF bN s cS cR fv fs es w) (fR:GI w) (bL:a.tmps.size=50) (ea:a.defers=[]) (t3:a.tmps.getD 3 undef = .pointer (some ⟨bN,0,none⟩)) (t4:a.tmps.getD 4 undef = .pointer (some ⟨bF,0,none⟩)) (sk:es.length < 1000) (eQ:fs.length < 100000)
  {id:Nat} {ops:Array Oper} {o0 o1 o2 o3 o4 o5:Oper} {L5 Jm:Call} (h0:ops[0]?=some o0) (h1:ops[1]?=some o1) (h2:ops[2]?=some o2) (h3:ops[3]?=some o3) (h4:ops[4]?=some o4) (h5:ops[5]?=some o5)
  (q0:o0.op=.load 141 (.tmp 4)/\o0.dst=some 14/\o0.guard=none) (q1:o1.op=.load 23 (.tmp 3)/\o1.dst=some 15/\o1.guard=none) (q2:o2.op=.call L5/\o2.dst=some 16/\o2.guard=none) (q3:o3.op=.buildSlice 141 1 #[(0,.tmp 16)]/\o3.dst=some 17/\o3.guard=none)
  (q4:o4.op=.call Jm/\o4.dst=some 18/\o4.guard=none) (q5:o5.op=.store 141 (.tmp 4) (.tmp 18)/\o5.dst=none/\o5.guard=none)
  (c2:L5.callee=.value (.func 114)/\L5.args=#[.tmp 15]) (c4:Jm.callee=.builtin .append/\Jm.args=#[.tmp 14,.tmp 17]/\Jm.argTypes=#[141,141]) (hr:Kx ops=true)
  (hk:∀a' w' mz,a'.tmps.size=50->a'.defers=[]->fC FC a a'->(∀b k,Mi b k->mz b k)->Lv wB mz bF bN s cS cR fv (fs++[es]) es w'->Q .normal a' w'):(Code.region id ops true).wpIn (FR none) m prog Q a w:=by
 unfold Kx at hr;simp only[afa,afY,aff]at hr;obtain⟨⟨⟨⟨⟨⟨⟨⟨⟨⟨r0,ra⟩,rb⟩,rc⟩,rd⟩,re⟩,rf⟩,rg⟩,rh⟩,ri⟩,rj⟩:=hr;obtain⟨u,qG,xF,v,tw,xN,f1,f2,f3,f4,n1,n2,n3,n4⟩:=st.st;have lF:=(afe.1 f1).1;have lN:=(afe.1 n1).1;obtain⟨d141,PU,Pu⟩:=iy (P:=prog) (t:=141) (by kernel_rfl);obtain⟨d23,Sh,g23⟩:=iy (P:=prog) (t:=23) (by kernel_rfl)
 have FK:prog.underlying 141=some (.slice 23):=by kernel_rfl
 obtain⟨i3,pQ,lr⟩:=bh (P:=prog) (t:=3) (s:=1) (by kernel_rfl);obtain⟨i141,Nb,Lu⟩:=bh (P:=prog) (t:=141) (s:=1) (by kernel_rfl);obtain⟨i23,CO,vT⟩:=af5.1 (show(prog.info? 23).bind (λi=>if i.size=1/\i.bytes<=65536 then i.zero else none)=some (.slice none 0 0) by kernel_rfl)
 have LL:(i23.size=1/\i23.bytes<=65536)/\i23.zero=some (.slice none 0 0):=by
  split at vT
  .exact⟨by assumption,vT⟩
  .cases vT
 obtain⟨⟨y4,MW⟩,vT⟩:=LL;have Sz:=Gi hG (GI:=GI) (ints es) (jS es) (by rw[b_];omega)
 have load:∀{c k a' w' K},L2 a w u v es c k a' w'->(∀a' w',L2 a w u v es true k a' w'->K a' w')->wpOpIn (FR none) m prog ops Q 0 K a' w':=λ{c k a' w' K} h hK=>
  sU h0 q0.2.2 (by rw[q0.1]<;>rfl) (lP (b:=bF) (off:=0) (v:=u) q0.1 ((h.same 4 rfl).trans t4) PU Pu (by simp[World.cell?,(h.below.block bF lF).trans f1])) (by rw[q0.2.1];exact hK _ _ h.load)
 have now:∀{c a' w' K},L2 a w u v es c 0 a' w'->(∀a' w',L2 a w u v es c 1 a' w'->K a' w')->wpOpIn (FR none) m prog ops Q 1 K a' w':=λ{c a' w' K} h hK=>
  sU h1 q1.2.2 (by rw[q1.1]<;>rfl) (lP (b:=bN) (off:=0) (v:=v) q1.1 ((h.same 3 rfl).trans t3) Sh g23 (by simp[World.cell?,(h.below.block bN lN).trans n1])) (by rw[q1.2.1];exact hK _ _ h.now)
 have copy:∀{c a' w' K},L2 a w u v es c 1 a' w'->(∀a' w',L2 a w u v es c 2 a' w'->K a' w')->wpOpIn (FR none) m prog ops Q 2 K a' w':=λ{c a' w' K} h hK=>by
  have hv:a'.tmps.getD 15 undef=v:=h.t15 (afg _)
  have Le:w'.ownsRow (bN+1) 3 1 v es.length xN:=eO n2 λb hb=>h.below.block _ (n2.lt b hb).2
  have CD:RD (λ_ _=>True) w' (.slice .view (ints es)) v:=RD.ofRow (size:=1) (es:=ints es) (by rw[b_];exact Le) (n3.mono (bz.of_eq λ_ _ h=>h.elim)) λ_ _ _ _=>trivial
  refine NY h2 q2.2.2 (by rw[q2.1]<;>rfl) (fU (k:=114) (args:=#[v]) w' q2.1 c2.1 ?_ (by kernel_rfl)) (Sz w' (λ_ _=>True) #[v] (hG w w' fR h.below) rfl (λi hi gq=>by
   match i,hi with
   |0,_=>exact .data _ _ CD)) ?_
  .rw[c2.2];simp only[afw,afv,afB];show #[a'.tmps.getD 15 undef]=_;rw[hv]
  intro en w2 hE;obtain⟨hb,cc,rfl,hf⟩:=Jy pQ (by rw[lr];exact nV es) (pj es) hE;refine⟨_,rfl,?_⟩;rw[q2.2.1];exact hK _ _ (h.copy hb hf)
 have row:∀{c a' w' K},L2 a w u v es c 2 a' w'->(∀a' w',L2 a w u v es c 3 a' w'->K a' w')->wpOpIn (FR none) m prog ops Q 3 K a' w':=λ{c a' w' K} h hK=>by
  obtain⟨hi,jX⟩:=h.t16 (afg _);exact sU h3 q3.2.2 (by rw[q3.1]<;>rfl) (Jw q3.1 FK CO vT y4 rfl (jX.one rfl)) (by rw[q3.2.1];exact hK _ _ h.row)
 have tail:∀{a' w'},L2 a w u v es true 3 a' w'->wpAnyIn (FR none) m prog .any ops Q 2 #[true,true,true,true,false,false] a' w':=λ{a' w'} h=>by
  obtain⟨DJ,Sn,N6,EE⟩:=h.t17 (afg _);have ON:=h.t14 rfl;have J':=h.t16 (by omega)
  have pV:(a'.tmps.getD 16 undef).oneCell'=true:=by
   obtain⟨hi,jX⟩:=J';exact jX.one rfl
  have D0:w'.ownsRow (bF+1) 23 1 u fs.length xF:=eO f2 λb hb=>h.below.block _ (f2.lt b hb).2
  have hle:bF+1<=w'.heap.size:=afI lF h.below.size;refine ni rh ?_;obtain⟨u',w2,b',eh,h_,Ht,fa,PJ⟩:=Jx (P:=prog) (t:=141) (ty:=o4.type) FK CO vT (by rw[y4]<;>rfl) y4 MW D0 (by omega) hle (ad:=⟨DJ,0,none⟩) (cap:=1) (c:=a'.tmps.getD 16 undef) (by simp[World.cell?,N6]) pV;refine sU (v:=u') (w':=w2) h4 q4.2.2 (by rw[q4.1]<;>rfl) ?_ ?_
  .have e1:a'.eval (.tmp 14)=u:=ON;have e2:a'.eval (.tmp 17)=.slice (some ⟨DJ,0,none⟩) 1 1:=Sn;unfold execOp;simp[q4.1,c4.1,c4.2.1,c4.2.2,resolve,invoke,builtin,e1,e2,eh]
  rw[q4.2.1];show wpAnyIn (FR none) m prog .any ops Q 1 #[true,true,true,true,true,false] (a'.put (some 18) u') w2;refine ni ri ?_
  have hp:=λt (c:Value)=>ji a' 18 t c (by rw[h.size];omega)
  have uF:u.ownBlock≠some bF:=λe=>by have:=(f2.lt bF e).1;omega
  have SQ:∀b,u.ownBlock=some b->b<w.heap.size:=λb hb=>(f2.lt b hb).2
  have Q_:w2.heap[bF]?=some (.cells #[u] qG (0,0)):=(fa.block bF (afI lF h.below.size) uF).trans ((h.below.block bF lF).trans f1)
  have L8:u'.oneCell'=true:=by
   rcases h_.2 with⟨rfl,_⟩|⟨_,_,_,rfl,_⟩<;>rfl
  refine NX h5 q5.2.2 (by rw[q5.1]<;>rfl) (fM q5.1 (by show(a'.put (some 18) u').tmps.getD 4 undef=_;rw[hp,if_neg (by decide)];exact(h.same 4 rfl).trans t4) Nb Lu Q_ (by show(a'.put (some 18) u').tmps.getD 18 undef=u';rw[hp,if_pos rfl]) L8) ?_;rw[q5.2.1];refine⟨rj,?_⟩;obtain⟨hi,jX⟩:=J'
  have GN:∀b,b<w.heap.size->b<w'.heap.size:=λb hb=>afI hb h.below.size
  have Sg:w'.heap.size<=w2.heap.size:=fa.size
  have LP:(w2.setRow bF #[u']).heap.size=w2.heap.size:=by simp
  have old:∀b,b<w'.heap.size->b≠bF->u.ownBlock≠some b->(w2.setRow bF #[u']).heap[b]?=w'.heap[b]?:=λb hb h1 h2=>(af4 w2 bF b #[u'] h1).trans (fa.block b hb h2)
  have Dc:∀b,b<w.heap.size->b≠bF->u.ownBlock≠some b->(w2.setRow bF #[u']).heap[b]?=w.heap[b]?:=λb hb h1 h2=>(old b (GN b hb) h1 h2).trans (h.below.block b hb)
  have V6:b'≠bF:=λe=>by have:=(h_.lt b' Ht).1;omega
  refine hk (a'.put (some 18) u') (w2.setRow bF #[u']) (λb k=>Mi b k\/((w.heap.size<=b/\b<w'.heap.size)/\k<hi b)) (by simp[Act.put,h.size]) h.defers (tD h.same (by omega) _) (λb k hm=>.inl hm) ?_
  have FX:bz Mi (λb k=>Mi b k\/((w.heap.size<=b/\b<w'.heap.size)/\k<hi b)) w (w2.setRow bF #[u']):=bz.of_eq λb k hm=>⟨.inl hm,Dc b (st.lt b k hm) (λe=>st.gF k (e▸hm)) λe=>(f4 b e).2 k hm⟩
  refine⟨?_,st.ge,?_,?_,?_,⟨u',qG,xF++[a'.tmps.getD 16 undef],v,tw,xN,agq w2 bF _ #[u'] qG (0,0) Q_,?_,⟨zc _,?_⟩,?_,?_,?_,?_,?_⟩,st.s.mono FX λ_ _ h=>h,st.r.mono FX λ_ _ h=>h⟩
  .have b1:=st.below.trans (h.below.mono st.below.size);have b2:=b1.trans (fa.below b1.size λb hb=>agu st.ge.1 (ahP (f2.lt b hb).1));refine b2.trans ⟨rfl,rfl,rfl,by rw[LP];exact afg _,λk hk=>af4 w2 bF k #[u'] λe=>?_⟩;have:=st.ge.1;omega
  .rintro b k (hm|hm)
   .rw[LP];exact afI (GN b (st.lt b k hm)) Sg
   .rw[LP];exact afI hm.1.2 Sg
  .rintro k (hm|hm)
   .exact st.gF k hm
   .have:=hm.1.1;omega
  .rintro k (hm|hm)
   .exact st.gN k hm
   .have:=hm.1.1;omega
  .have e:(fs++[es]).length=fs.length+1:=by simp
   rw[e]
   exact eO h_ λb hb=>af4 w2 bF b #[u'] λe=>V6 (by rw[Ht]at hb;cases hb;exact e)
  .intro j hj k JQ
   have A5:xF.length=fs.length:=by have:=f2.1;simpa using this
   have Hd:k=0:=by
    have h1:=(zc (fs++[es]) _ (ae_ hj)).1;omega
   subst Hd;rw[agf,Nat.add_zero]
   by_cases lj:j<fs.length
   .have fj:j<(fs.map vI).length:=by simpa using lj
    have jy:((fs++[es]).map vI)[j]=(fs.map vI)[j]:=by
     rw[afl,afl,afz lj]
    obtain⟨x,x1,x2⟩:=f3.2 j fj 0 (by rw[<-jy];exact JQ);rw[agf,Nat.add_zero]at x1;refine⟨x,by rw[ahl (by omega)];exact x1,?_⟩;simp only[jy];exact x2.mono (bz.of_eq λb k hm=>⟨⟨.inl hm.1,hm.2⟩,Dc b (st.lt b k hm.1) (λe=>st.gF k (e▸hm.1)) λe=>(f4 b e).2 k hm.1⟩)
   .have wy:j=fs.length:=by simp at hj;omega
    subst wy;refine⟨a'.tmps.getD 16 undef,by rw[<-A5];simp,?_⟩
    have jy:((fs++[es]).map vI)[fs.length]=vI es:=by simp
    simp only[jy];exact jX.mono (bz.of_eq λb k hm=>⟨⟨.inr hm,agu st.below.size hm.1.1⟩,old b hm.1.2 (λe=>by have:=hm.1.1;omega) λe=>by have:=SQ b e;have:=hm.1.1;omega⟩)
  .intro b hb;rw[Ht]at hb;cases hb;rcases PJ with ho|ho
   .refine⟨(f4 b' ho).1,?_⟩;rintro k (hm|hm)
    .exact(f4 b' ho).2 k hm
    .have:=SQ b' ho;have:=hm.1.1;omega
   .refine⟨λe=>by have:=GN bN lN;omega,?_⟩;rintro k (hm|hm)
    .have:=GN b' (st.lt b' k hm);omega
    .have:=hm.1.2;omega
  .exact(Dc bN lN (λe=>st.ge.2.2 e.symm) λe=>(f4 bN e).1 rfl).trans n1
  .exact eO n2 λb hb=>Dc b (n2.lt b hb).2 (n4 b hb).1 (n4 b hb).2.1
  .exact n3.mono (bz.of_eq λ_ _ h=>h.elim)
  .intro b hb;refine⟨(n4 b hb).1,λe=>?_,?_⟩
   .rw[Ht]at e;cases e;rcases PJ with ho|ho
    .exact(n4 b' hb).2.1 ho
    .have:=GN b' (n2.lt b' hb).2;omega
   .rintro k (hm|hm)
    .exact(n4 b hb).2.2 k hm
    .have:=(n2.lt b hb).2;have:=hm.1.1;omega
 have s3:∀{a' w'},L2 a w u v es true 3 a' w'->wpAnyIn (FR none) m prog .any ops Q 2 #[true,true,true,true,false,false] a' w':=tail
 have s2:∀{a' w'},L2 a w u v es true 2 a' w'->wpAnyIn (FR none) m prog .any ops Q 3 #[true,true,true,false,false,false] a' w':=λh=>ni rf (row h λ_ _ h=>s3 h)
 have s1:∀{a' w'},L2 a w u v es true 1 a' w'->wpAnyIn (FR none) m prog .any ops Q 4 #[true,true,false,false,false,false] a' w':=λh=>ni rd (copy h λ_ _ h=>s2 h)
 have p3:∀{a' w'},L2 a w u v es false 3 a' w'->wpAnyIn (FR none) m prog .any ops Q 3 #[false,true,true,true,false,false] a' w':=λh=>ni rg (load h λ_ _ h=>s3 h)
 have p2:∀{a' w'},L2 a w u v es false 2 a' w'->wpAnyIn (FR none) m prog .any ops Q 4 #[false,true,true,false,false,false] a' w':=λh=>yO re (load h λ_ _ h=>s2 h) (row h λ_ _ h=>p3 h)
 have p1:∀{a' w'},L2 a w u v es false 1 a' w'->wpAnyIn (FR none) m prog .any ops Q 5 #[false,true,false,false,false,false] a' w':=λh=>yO rc (load h λ_ _ h=>s1 h) (copy h λ_ _ h=>p2 h)
 have s0:∀{a' w'},L2 a w u v es true 0 a' w'->wpAnyIn (FR none) m prog .any ops Q 5 #[true,false,false,false,false,false] a' w':=λh=>ni rb (now h λ_ _ h=>s1 h)
 refine aid cC ?_;rw[r0];show wpAnyIn (FR none) m prog .any ops Q 6 #[false,false,false,false,false,false] a { w with drawn:=w.drawn+1 }
 have P5:L2 a w u v es false 0 a { w with drawn:=w.drawn+1 }:=⟨bL,ea,fC.refl _ _,⟨rfl,rfl,rfl,afg _,λ_ _=>rfl⟩,(λh=>by cases h),λh=>by omega,λh=>by omega,λh=>by omega⟩
 exact yO ra (load P5 λ_ _ h=>s0 h) (now P5 λ_ _ h=>p1 h)
end
end Go.Proofs.Tryz
namespace Go.Proofs.Tryz
open Go Go.AL Go.RowKit Go.Proofs Go.Proofs.Tram
attribute [local simp] dh eE pG nJ dK dj di cQ cT dL cP ct fF fE aD aL ev aT.S aT.H bu av aY AL.start AV.cells AV.storable AV.cg bo cE dI ck HR.okB post cw cH cI AV.out AV.bU b_ df fz iA AV.vw du vI int cG aP cV db fQ iu fV eG da AV.aI AV.cm
variable{GI:World->Prop}
def Qq(n:Int):Prop:=0<=n/\n<100
def Nu(l:List Int):Prop:=∀n∈l,Qq n
theorem NI(hG:au GI)(l:List Int)(h0:l≠[])(hl:l.length<1000)(h:Nu l):AC prog GI 279 [vI l] (.ret (.slice (.own 9) ((l.map jC).map .str))):=by
 refine AC.gY func279 rfl ntmps279 (by simp) λcc w=>?_
 refine dw hG c279.qa (λS' H'=>S' 0=vI l) (by simp[c279,af.qa,ai,ah]) ?_;rintro S1 H1 s0;refine dw hG c279.qb.qa (λS' H'=>S' 0=vI l/\S' 3=.slice .nil []) (by simp[c279,af.qa,af.qb,s0,ai,ah]) ?_;rintro S2 H2 ⟨s0,s3⟩;refine dw hG c279.qb.qb.qa (λS' H'=>S' 3=grow 9 ((l.map jC).map AV.str)) ?_ ?_
 .simp[c279,af.qa,af.qb,s0,s3,ai,ah];refine bq 8 l.length (λi S H=>S 6=vI l/\S 7=.int .i64 (l.length:Nat)/\S 8=.int .i64 (i:Nat)/\S 3=grow 9 (((l.take i).map jC).map AV.str)) (λi S H h=>h.2.2.1) ⟨by simp[s0,ai,ah],by simp[s0,ai,ah],by simp[ai,ah],by simp[s3,grow,ai,ah]⟩ ?_;clear s0 s3;rintro i hi S H ⟨s6,s7,s8,s3⟩
  by_cases aw:i<l.length
  case neg=>
   have cD:i=l.length:=by omega
   subst cD;rw[afh (afg _)]at s3;simp[s6,s7,s8,s3,grow,h0,ai,ah]
  have hw:IntKind.i64.wrap ((i:Int)+1)=i+1:=aN (by omega);have hn:=h _ (ae_ aw);have a157:=sQ (GI:=GI) hn.1 hn.2
  have ht:(l.take (i+1)).map jC=(l.take i).map jC++[jC l[i]]:=by
   rw[afd aw,afu]<;>rfl
  have hlen:((l.take i).map jC).length<=1000:=by simp;omega
  rw[ht]
  generalize(l.take i).map jC=B at*
  generalize jC l[i]=t at*
  have dM:aM 1 [AV.str t]=true:=rfl;simp[s6,s7,s8,s3,aw];refine oc a157 ?_;simp[s6,s7,s8,s3,dM];refine fe (B.map AV.str) (AV.str t) (.own 9) (by simp[s3,grow]) (by simp) dM (Gm B) (by rw[afi];omega) ?_;intro S' sd ee;simp[sd,ee,s6,s7,s8,aw,hw,grow]
 clear s0 s3;rintro S3 H3 s3
 have hg:grow 9 ((l.map jC).map AV.str)=.slice (.own 9) ((l.map jC).map AV.str):=by unfold grow;rw[if_neg (by simpa using h0)]
 rw[hg]at s3;generalize(l.map jC).map AV.str=L at s3⊢;show SW prog GI 19 none (.seq (.region _ _ false) .ret) _ _ _ _
 refine SW.seq (SW.hand hG (p:=0) (lm:=[0,1]) (l2:=[]) (kY:=[]) (oh:=[_,_]) (lJ:=[]) rfl rfl rfl rfl (by kernel_rfl) (λ_ h=>h) (lM:=[]) (kP:=[]) rfl rfl rfl rfl
  (K1:=λS H=>S 3=.slice (.own 9) L) (K2:=λo S H=>o=Old.plain cc w/\S 2=.slice (.own 9) L) (K3:=λo S H=>o=Old.plain cc w/\S 2=.slice (.own 9) L) ?_ ?_ ?_ ?_)
 .exact s3
 .rintro w0 g S H a w' m dS ho R s6;have r6:=R.slot 3 (by decide) (λh=>h);rw[s6]at r6;have bL:=R.size
  obtain⟨c,hc⟩:∃c,a.tmps.getD 3 undef=c:=⟨_,rfl⟩
  rw[hc]at r6;have rv:RD g.Pr w' (.slice .view L) c:=(r6.j_ rfl).aI;refine aW rfl rfl (by rfl) ((run_move (x:=.tmp 3) w' rfl).trans (congrArg (λv=>Result.ok (Next.value v) w') hc)) ?_;have R1:=R.put 18 (.slice .view L) c (by decide) (.data _ _ rv) trivial
  have pk:(a.put (some 18) c).tmps.getD 18 undef=c:=by simp[Act.put,bL]
  refine aW rfl rfl (by rfl) ((run_assign (x:=.tmp 18) w' rfl).trans (congrArg (λv=>Result.ok (Next.value v) w') pk)) ?_;have R2:=R1.put 2 (.slice .view L) c (by decide) (.data _ _ rv) trivial
  have e4:((a.put (some 18) c).put (some 2) c).tmps.getD 2 undef=c:=by simp[Act.put,bL]
  have e6:((a.put (some 18) c).put (some 2) c).tmps.getD 3 undef=a.tmps.getD 3 undef:=by simp[Act.put,afb]
  obtain⟨g',q1,R3⟩:=R2.HE (t:=3) (u:=2) (e:=9) (es:=L) (by decide) (by decide) (by decide) (by simp[av,s6]) (by rw[e4,e6,hc]);exact⟨g',_,_,R3,by rw[q1];exact ho,bm _ _ _⟩
 .rintro o S H ⟨rfl,s4⟩;exact⟨λ_ h=>h,rfl,s4⟩
 .rintro o S H ⟨rfl,s4⟩;refine SW.ret ⟨eD.plain rfl,rfl,_,?_,rfl⟩;show cw prog 19 [.tmp 2] S H=_;simp[cw,cH,cI,s4,AV.bU,AV.out]
end Go.Proofs.Tryz
namespace Go.Proofs.YtdiflocclemeaaaGreatDoor
open Go Go.AL Go.ChangeShapes Go.WideShapes Go.ChangeAt Go.RowKit Go.Proofs.Tryz
theorem wL:mapsRowed Tryz.prog=true:=by kernel_rfl
theorem Gx:(Tryz.prog.stops==[])=true:=by kernel_rfl
theorem yh:(Tryz.prog.stopKnobs==[])=true:=by kernel_rfl
theorem xR:Tryz.prog.plainKeys=false:=by kernel_rfl
theorem ve:Tryz.prog.stopsHeard=true:=by kernel_rfl
theorem Gd:true=Tryz.prog.looks []:=by kernel_rfl
theorem Cc {f:FuncId} {fn:Func} {s:ChangeSpec} {c:OpenClaim}
  (h0:c.stops=[]/\c.knobs=[]/\c.plainKeys=false/\c.shortTexts=none/\c.lifted=false/\c.make=.cut)
  (h1:c.wf (OpenSpec.ofChange s)=true) (h2:fn.params.all (Tryz.prog.readableRec ·)=true) (h3:namedTie Tryz.prog c.named s.vars=true)
  (h4:(c.inPlace==Tryz.prog.inPlace f)=true) (h5:(c.unfollowed==Tryz.prog.unfollowed f)=true) (h6:(c.recurses==Tryz.prog.recurses f)=true) (h7:(c.named==Tryz.prog.varsNamed f)=true)
  (h8:((c.maps==(fn.params.toList++s.plain.varTypes Tryz.prog).any (Tryz.prog.mapsRec ·))&&(c.ifaces==(fn.params.toList++s.plain.varTypes Tryz.prog).any (Tryz.prog.ifacesRec ·))&&(c.mapsOut==Tryz.prog.mapsAmong fn.resultTypes.toList)&&
   (c.loops==(fn.params.toList++s.plain.varTypes Tryz.prog).any (Tryz.prog.loopsFrom ·))&&(c.wideKeys==(fn.params.toList++s.plain.varTypes Tryz.prog++fn.resultTypes.toList).any (Tryz.prog.wideKeysFrom ·))&&
   s.vars.all (Tryz.prog.varReadable ·)&&fn.resultTypes.all (λt=>Tryz.prog.readableRec t&&decide (t<Tryz.prog.types.size))&&(c.ifacesOut==fn.resultTypes.toList.any (Tryz.prog.ifacesRec ·))&&(c.loopsOut==fn.resultTypes.toList.any (Tryz.prog.loopsFrom ·)))=true)
  (h9:(c.kinds==(if c.domain.isEmpty then[]else fn.params.toList.map λt=>match Tryz.prog.underlying t with|some (.int k)=>some k|_=>none))=true) (l3:(c.pinned==c.pinnedBy)=true)
  (Gw:((c.veiled==(fn.params.toList++s.plain.varTypes Tryz.prog++fn.resultTypes.toList).any (Tryz.prog.veiledRec ·))&&c.veiledFits Tryz.prog fn.params.toList (fn.params.toList++s.plain.varTypes Tryz.prog++fn.resultTypes.toList))=true):
  joinedFacts Tryz.prog f fn s c=true:=by
 obtain⟨a1,a2,a3,a4,a5,a6⟩:=h0;unfold joinedFacts;simp only[afa]at h8 Gw⊢;obtain⟨⟨⟨⟨⟨⟨⟨⟨b1,b2⟩,b3⟩,b4⟩,b5⟩,b6⟩,b7⟩,b8⟩,b9⟩:=h8;refine⟨⟨⟨⟨⟨⟨⟨⟨⟨⟨⟨⟨⟨⟨⟨⟨⟨⟨⟨⟨⟨⟨⟨⟨⟨⟨⟨⟨⟨⟨⟨h1,vy⟩,wL⟩,h2⟩,h3⟩,?_⟩,Gx⟩,?_⟩,yh⟩,h4⟩,h5⟩,h6⟩,h7⟩,b1⟩,b2⟩,b3⟩,b4⟩,b5⟩,b6⟩,b7⟩,b8⟩,b9⟩,?_⟩,?_⟩,ve⟩,Ar⟩,?_⟩,?_⟩,h9⟩,l3⟩,Gw.1⟩,Gw.2⟩
 .rw[a1];rfl
 .rw[a2];rfl
 .rw[a3,xR];rfl
 .rw[a4];rfl
 .rw[a5,va];rfl
 .rw[Ik,a6];rfl
theorem DQ {G:World→Prop} {f:Nat} {Jg:List AV} {W:World} {args:Array Value} (h:AC Tryz.prog G f Jg (.ret (.bool true))) (hG:G W) (hl:Jg.length=args.size) (hr:∀ i (h:i < Jg.length) (h':i < args.size),RV T0 (fun _=>none) W Jg[i] args[i]) :
  Calls Tryz.prog f args W λe W'=>e=.returned (.bool true)/\Below W.heap.size W W':=by
 refine(h W T0 args hG hl hr).mono ?_;rintro e W' ⟨hb,hi,_,c,rfl,hv,_⟩
 cases hv with
 |data _ _ h=>cases h with
  |bool b=>exact⟨rfl,hb⟩
end Go.Proofs.YtdiflocclemeaaaGreatDoor
namespace Go.Proofs.Tryz
open Go Go.AL Go.RowKit Go.Proofs Go.Proofs.Tram
attribute [local simp] dh eE dY dv dK dj di cQ cT dL cP ct fF fE aD aL ev aT.S aT.H bu av aY AL.start AV.cells AV.storable AV.cg bo cE dI ck HR.okB post cw cH cI AV.out AV.bU b_ df fz iA AV.vw du vI int cG aP cV db fQ iu fV eG da AV.aI AV.cm
def bS:ar:=⟨[6,4,8],[⟨0,1,1,3⟩,⟨2,0,0,2⟩],2,4,5,8,3,[⟨[2,0,1],[],false⟩,⟨[0,2],[1],true⟩],18,2⟩
variable{GI:World->Prop}
theorem xX(hG:au GI)(a b:Int):AC prog GI 182 [.int .i64 a,.int .i64 b] (.ret (aS (a,b))):=by
 obtain⟨i33,G6,GQ⟩:=bh (P:=prog) (t:=26) (s:=2) (by kernel_rfl);obtain⟨fs,eQ⟩:=bV (P:=prog) (t:=26) (by kernel_rfl);refine bP hG func182 ntmps182 c182 ?_;simp[c182,G6,GQ,eQ,fg,aS,bC]
theorem LY(hG:au GI):AC prog GI 134 [] (.ret (bQ { bS with wide:=21 })):=by
 obtain⟨i36,l0,lZ⟩:=bh (P:=prog) (t:=29) (s:=10) (by kernel_rfl);obtain⟨fs,eQ⟩:=bV (P:=prog) (t:=29) (by kernel_rfl);refine bP hG func134 ntmps134 c134 ?_;simp[c134,aM];refine oc (xX hG 1 3) ?_;simp[aS,bC,aM];refine oc (xX hG 0 2) ?_;simp[aS,bC,aM];refine oc (xX hG 2 4) ?_;simp[aS,bC,aM];refine oc (xX hG 5 8) ?_;simp[aS,bC,aM,l0,lZ,eQ,fg,bQ,ae,bS,bW,cZ,ints]
end Go.Proofs.Tryz
namespace Go.Proofs.Tryz
open Go Go.AL Go.RowKit Go.Proofs Go.Proofs.Tram
attribute [local simp] dh eE dY dv dK dj di cQ cT dL cP ct fF fE aD aL ev aT.S aT.H bu av aY AL.start AV.cells AV.storable AV.cg bo cE dI ck HR.okB post cw cH cI AV.out AV.bU b_ df fz iA AV.vw du vI int cG aP cV db fQ iu fV eG da AV.aI AV.cm
variable{GI:World->Prop}
def iw:aq:=⟨[⟨2,3,false⟩,⟨2,2,false⟩,⟨1,2,true⟩,⟨3,4,false⟩,⟨2,5,false⟩,⟨1,1,false⟩],6,5,2,1,{ bS with wide:=21 }⟩
def tM:aq:={ iw with dE:=1 }
def qm:aq:={ iw with name:=⟨[5],[],0,0,0,0,1,[⟨[0,0,0,0],[1,3],false⟩],16,2⟩ }
theorem xz:nf qm=[vI [9],.int .i64 0]:=by kernel_rfl
theorem wU:vr iw=[.slice .view (aH [(1,1),(3,5)]),.int .i64 0]:=by kernel_rfl
theorem zb:oZ iw [3,2,2,4,5,1]=[.int .i64 2,.int .i64 0]:=by kernel_rfl
theorem Al:jE 0 iw=[.int .i64 1,.int .i64 0]:=by kernel_rfl
theorem AF:jE 1 qm=[.int .i64 1,.int .i64 0]:=by kernel_rfl
theorem Aw:mb iw 1=[.int .i64 2,.int .i64 0]:=by kernel_rfl
theorem zR:pt iw=[.int .i64 1,.int .i64 4,.int .i64 0]:=by kernel_rfl
theorem BH:vp tM=[.int .i64 3,.int .i64 0]:=by kernel_rfl
theorem At:oW iw=[.int .i64 1,.int .i64 0]:=by kernel_rfl
theorem An:oX tM=[.int .i64 4,.int .i64 2,.int .i64 0]:=by kernel_rfl
theorem mu:er iw:=⟨by decide,by decide,by decide,by decide,λw hw=>by
 simp[iw,bS]at hw;rcases hw with rfl|rfl<;>decide,λw hw=>by
 simp[iw,bS]at hw;rcases hw with rfl|rfl<;>decide⟩
theorem EW:er tM:=⟨mu.cells,mu.name⟩
theorem E':er qm:=⟨by decide,by decide,by decide,by decide,λw hw=>by
 simp[qm]at hw;subst hw;decide,λw hw=>by
 simp[qm]at hw;subst hw;decide⟩
theorem qW(hG:au GI)(lo hi:Int)(hid:Bool):AC prog GI 133 [.int .i64 lo,.int .i64 hi,.bool hid] (.ret (gy ⟨lo,hi,hid⟩)):=by
 obtain⟨i52,Qj,Rk⟩:=bh (P:=prog) (t:=52) (s:=3) (by kernel_rfl);obtain⟨fs,eQ⟩:=bV (P:=prog) (t:=52) (by kernel_rfl);refine bP hG func133 ntmps133 c133 ?_;simp[c133,Qj,Rk,eQ,fg,gy,bC]
theorem pc:∃it,prog.info? 31=some it/\it.size=15:=bh (by kernel_rfl)
theorem FP(hG:au GI):AC prog GI 74 [] (.ret (a_ iw)):=by
 obtain⟨i31,lz,lx⟩:=pc;obtain⟨fs,eQ⟩:=bV (P:=prog) (t:=31) (by kernel_rfl);refine bP hG func74 ntmps74 c74 ?_;simp[c74];refine oc (qW hG 2 3 false) ?_;simp[gy];refine oc (qW hG 2 2 false) ?_;simp[gy];refine oc (qW hG 1 2 true) ?_;simp[gy];refine oc (qW hG 3 4 false) ?_;simp[gy];refine oc (qW hG 2 5 false) ?_;simp[gy];refine oc (qW hG 1 1 false) ?_;simp[gy,aM];refine oc (LY hG) ?_;simp[gy,aM,bC,lz,lx,eQ,fg,a_,ao,bQ,ae,iw]
theorem O5(hG:au GI)(s:aq)(p:Int):AC prog GI 51 [a_ s,.int .i64 p] (.ret (a_ { s with dE:=p })):=by
 obtain⟨i31,lz,lx⟩:=pc;obtain⟨fs,eQ⟩:=bV (P:=prog) (t:=31) (by kernel_rfl);refine bP hG func51 ntmps51 c51 ?_;simp[c51,a_,ao,ae,lz,lx,eQ,fg,bC]
theorem Qy(hG:au GI):AC prog GI 75 [] (.ret (a_ tM)):=by
 obtain⟨i31,lz,lx⟩:=pc;obtain⟨fs,eQ⟩:=bV (P:=prog) (t:=31) (by kernel_rfl);have h:=O5 hG iw 1;refine bP hG func75 ntmps75 c75 ?_;simp[c75];refine oc (FP hG) ?_;simp[a_,ao,ae];refine oc h ?_;simp[lz,lx,eQ,fg,bC,a_,ao,ae,tM]
theorem Rw(hG:au GI):AC prog GI 73 [] (.ret (a_ qm)):=by
 obtain⟨i31,lz,lx⟩:=pc;obtain⟨fs,eQ⟩:=bV (P:=prog) (t:=31) (by kernel_rfl);refine bP hG func73 ntmps73 c73 ?_;simp[c73];refine oc (FP hG) ?_;simp[lz,lx,eQ,fg,bC,aM,a_,ao,ae,qm,bW,ints]
end Go.Proofs.Tryz
namespace Go.Proofs.Tryz
open Go Go.AL Go.RowKit Go.Proofs Go.Proofs.Tram
attribute [local simp] dh eE dY dv dK dj di cQ cT dL cP ct fF fE aD aL ev aT.S aT.H bu av aY AL.start AV.cells AV.storable AV.cg bo cE dI ck HR.okB post cw cH cI AV.out AV.bU b_ df fz iA AV.vw du vI int cG aP cV db fQ iu fV eG da
variable{GI:World->Prop}
def jt(s:aq)(out:List Int):aq:={ s with name:=vD s.name out }
theorem DU{s:aq}(hs:cq s=true){l:List Int}(ho:ec s.name l=true):cq (jt s l)=true:=by
 unfold cq at hs⊢;rw[afa]at hs⊢;exact⟨hs.1,zv hs.2 ho⟩
def rF(s:aq)(l:List Word):List AV:=[.slice .view (s.cells.map gy),.int .i64 s.pos,.int .i64 s.reach,.int .i64 s.dE,.int .i64 s.c_,vI s.name.aV,.slice .view (s.name.aQ.map cZ),.int .i64 s.name.gf,.int .i64 s.name.fY,.int .i64 s.name.j6,.int .i64 s.name.j5,.int .i64 s.name.cj,grow 44 (l.map bW),.int .i64 s.name.wide,.int .i64 s.name.rows]
theorem BL(l:List Word):aM 3 (l.map bW)=true:=fZ λa=>⟨rfl,rfl⟩
theorem Mc(hG:au GI)(s:aq)(hl:s.name.words.length<1000)(out:List Int)(ho:out.length<1000000):AC prog GI 160 [a_ s,vI out] (.ret (a_ (jt s out))):=by
 obtain⟨it,lz,lx⟩:=pc;obtain⟨fs,eQ⟩:=bV (P:=prog) (t:=31) (by kernel_rfl)
 have QM:=λi:Nat=>Cp (GI:=GI) hG out ho (i:Int)
 refine bP hG func160 ntmps160 c160 ?_;refine az (λS H=>S 1=vI out/\S 2=.box 2 0/\H 2=some (ao s)/\S 4=.box 4 0/\∃z,H 4=some z/\z.length=15) (by simp[a_,ao,ae,AV.aI,AV.cm]) ?_;rintro S H ⟨s1,s2,h2,s4,z,h4,hz⟩;refine az (λS H=>S 1=vI out/\S 2=.box 2 0/\H 2=some (ao s)/\S 4=.box 4 0/\H 4=some z/\S 5=.box 5 0/\H 5=some (ao s)) (by simp[s1,s2,h2,s4,h4,ao,ae,AV.aI,AV.cm]) ?_;clear s1 s2 h2 s4 h4 S H;rintro S H ⟨s1,s2,h2,s4,h4,s5,h5⟩;refine az (λS H=>S 1=vI out/\S 2=.box 2 0/\H 2=some (ao s)/\S 4=.box 4 0/\H 4=some z/\S 5=.box 5 0/\H 5=some (rF s [])) (by simp[s1,s2,h2,s4,h4,s5,h5,ao,ae,rF,grow,AV.aI,AV.cm]) ?_;clear s1 s2 h2 s4 h4 s5 h5 S H;rintro S H ⟨s1,s2,h2,s4,h4,s5,h5⟩;refine az (λS H=>S 4=.box 4 0/\H 4=some z/\S 5=.box 5 0/\H 5=some (rF s (gv out 0 s.name.words))) ?_ ?_
 .simp[s1,s2,h2,s4,h4,s5,h5,ao,ae,AV.aI,AV.cm];refine bq 15 s.name.words.length (λi S H=>S 1=vI out/\S 13=.slice .view (s.name.words.map bW)/\S 14=.int .i64 s.name.words.length/\S 4=.box 4 0/\H 4=some z/\S 5=.box 5 0/\H 5=some (rF s (gv out 0 (s.name.words.take i)))/\S 15=.int .i64 (i:Nat)) (λi S H h=>h.2.2.2.2.2.2.2) ⟨by simp[s1,AV.aI,AV.cm],by simp[s1,h2,ao,ae,AV.aI,AV.cm],by simp[s1,h2,ao,ae,AV.aI,AV.cm],by simp[s4,AV.aI,AV.cm],by simp[h4,AV.aI,AV.cm],by simp[s5,AV.aI,AV.cm],by simp[h5,gv,AV.aI,AV.cm],by simp[AV.aI,AV.cm]⟩ ?_;clear s1 s2 h2 s4 h4 s5 h5 S H;rintro i hi S H ⟨s1,b0,cU,s4,h4,s5,h5,fq⟩
  by_cases aw:i<s.name.words.length
  case neg=>
   have cD:i=s.name.words.length:=by omega
   subst cD;rw[afh (afg _)]at h5;simp[s1,b0,cU,s4,h4,s5,h5,fq,AV.aI,AV.cm]
  have hw:IntKind.i64.wrap ((i:Int)+1)=i+1:=aN (by omega);have kR:=B8 out aw;have hle:=nZ out (s.name.words.take i) 0
  have vX:(gv out 0 (s.name.words.take i)).length<1000:=by rw[afJ]at hle;omega
  obtain⟨wd,np⟩:∃wd,s.name.words[i]=wd:=⟨_,rfl⟩
  have a198:=QM i;rw[kR]
  generalize gv out 0 (s.name.words.take i)=L at*
  refine az (λS H=>S 1=vI out/\S 13=.slice .view (s.name.words.map bW)/\S 14=.int .i64 s.name.words.length/\S 4=.box 4 0/\H 4=some z/\S 5=.box 5 0/\H 5=some (rF s L)/\S 15=.int .i64 (i:Nat)/\S 16=.bool true) (by simp[s1,b0,cU,s4,h4,s5,h5,fq,aw,AV.aI,AV.cm]) ?_;clear s1 b0 cU s4 h4 s5 h5 fq S H;rintro S H ⟨s1,b0,cU,s4,h4,s5,h5,fq,dR⟩
  cases hc:out.contains (i:Int)with
  |true=>
   rw[hc]at a198;simp[s1,b0,cU,s4,h4,s5,h5,fq,dR,aw,np,bW,AV.aI,AV.cm];refine oc a198 ?_;simp[s1,b0,cU,s4,h4,s5,h5,fq,dR,aw,np,bW,hw,AV.aI,AV.cm]
  |false=>
   rw[hc]at a198;simp[s1,b0,cU,s4,h4,s5,h5,fq,dR,aw,np,bW,AV.aI,AV.cm];refine oc a198 ?_;have eK:=BL L
   have hL:(L.map bW).length<1000:=by simpa using vX
   have e1:(L++[s.name.words[i]]).map bW=L.map bW++[bW wd]:=by rw[afu,np]<;>rfl
   have k3:aM 3 [AV.agg [.slice .view (ints wd.aG),.slice .view (ints wd.bD),.bool wd.free]]=true:=rfl;simp only[np]at e1;simp[rF,e1];unfold rF at h5
   generalize L.map bW=M at*
   cases M with
   |nil=>
    have ox:grow 44 []=.slice .nil []:=rfl;simp[s1,b0,cU,s4,h4,s5,h5,fq,dR,aw,np,ox,hw,k3,bW,AV.aI,AV.cm]
    try rfl
   |cons y M=>
    have ox:grow 44 (y::M)=.slice (.own 44) (y::M):=rfl
    have F0:∀z,grow 44 (y::(M++[z]))=.slice (.own 44) (y::(M++[z])):=λ_=>rfl
    have pB:M.length+1+1<1048576:=by simp at hL;omega
    simp[s1,b0,cU,s4,h4,s5,h5,fq,dR,aw,np,ox,F0,hw,k3,eK,pB,bW,AV.aI,AV.cm]
 .clear s1 s2 h2 s4 h4 s5 h5 S H;rintro S H ⟨s4,h4,s5,h5⟩;have QC:List.drop 15 z=[]:=agx (by omega);unfold rF at h5;simp[s4,h4,s5,h5,hz,QC,lz,lx,eQ,fg,ME,L4,Bt];simp[a_,ao,ae,jt,vD,vI,ints]
end Go.Proofs.Tryz
namespace Go.Proofs.Tryz
open Go Go.AL Go.RowKit Go.Proofs Go.Proofs.Tram
attribute [local simp] dh eE dY dv dK dj di cQ cT dL cP ct fF fE aD aL ev aT.S aT.H bu av aY AL.start AV.cells AV.storable AV.cg bo cE dI ck HR.okB post cw cH cI AV.out AV.bU b_ df fz iA AV.vw du vI int cG aP cV db fQ iu fV eG da AV.aI AV.cm
variable{GI:World->Prop}
section
variable{w0:World}{n:Nat}{g:Gh}{S:aF}{H:aK}{a:Act}{w:World}{d:Nat}
theorem Dt{k:Nat->Option Obj}{b:Nat}(o:Option Obj)(h:k b=none):av (av k b o) b none=k:=by
 funext c
 by_cases hc:c=b
 .subst hc;simp[av,h]
 .simp[av,hc]
theorem qj {k:Nat} {us:Array Value} (sX:dZ prog k=true) (R:Rel prog w0 n dU g S H a w) {X:aF→aK→Prop}
  (hc:∀g1 w1,Rel prog w0 n dU g1 S H a w1->g1.old={ g.old with bI:=av g.old.bI w.heap.size (some (.cells #[.int .i64 0] 34)) }->Below w.heap.size w w1->w1=w.alloc (.cells #[.int .i64 0] 34)->
   Calls prog k us w1 λe w2=>e=.returned (.tuple #[])/\∃(c:Value)(g':Gh)(S':aF)(H':aK),g'.old=g1.old/\Rel prog w0 n dU g' S' H' (a.put (some d) c) w2/\X S' H'):
  Calls prog 119 #[.func (.func k) #[] us] w λe w2=>e=.returned (.int .i64 0)/\∃(c:Value)(g':Gh)(S':aF)(H':aK),g'.old=g.old/\Rel prog w0 n dU g' S' H' (a.put (some d) c) w2/\X S' H':=by
 have R1:=R.kA (.cells #[.int .i64 0] 34);have uv:=mh R;refine iK sX (hc _ _ R1 rfl ((aga _ _).alloc (afg _) _) rfl) ?_;rintro e w2 ⟨rfl,c,g',S',H',ho,R2,hX⟩
 have hk:g'.old.bI w.heap.size=some (.cells #[.int .i64 0] 34):=by rw[ho];exact bm _ _ _
 have jf:=(R2.kept _ _ hk).2.1;have aw:=(afe.1 jf).1;refine⟨aw,⟨_,_,jf⟩,.inl ⟨_,rfl,rfl,c,_,S',H',?_,(R2.nS w.heap.size).mw ?_,hX⟩⟩
 .show({ g'.old with bI:=av g'.old.bI w.heap.size none }:Old)=_;rw[ho];show({ g.old with bI:=av (av g.old.bI w.heap.size (some (.cells #[.int .i64 0] 34))) w.heap.size none }:Old)=_;rw[Dt _ uv]
 .refine⟨rfl,rfl,rfl,by simp,λk ee=>?_⟩
  by_cases hb:k=w.heap.size
  .subst hb;rw[agq w2 _ _ _ _ _ jf,jf]
  .exact af4 w2 _ k _ hb
theorem zg {k:Nat} {us:Array Value} (sX:dZ prog k=true) (R:Rel prog w0 n dU g S H a w) {r:Int}
  (hc:∀g1 w1,Rel prog w0 n dU g1 S H a w1->Below w.heap.size w w1->w1=w.alloc (.cells #[.int .i64 0] 34)->
   Calls prog k us w1 λe w2=>Below w1.heap.size w1 w2/\((r=7/\∃n,e=.panicked [{ v:=.iface 192 (.agg #[.int .i64 n]),recovered:=false }])\/(r=4/\∃s:List UInt8,e=.panicked [{ v:=.iface 203 (.agg #[.string ⟨s.toArray⟩]),recovered:=false }]))):
  Calls prog 119 #[.func (.func k) #[] us] w λe w2=>e=.returned (.int .i64 r)/\∃g',g'.old=g.old/\Rel prog w0 n dU g' S H a w2:=by
 have R1:=R.kA (.cells #[.int .i64 0] 34);have uv:=mh R;refine iK sX (hc _ _ R1 ((aga _ _).alloc (afg _) _) rfl) ?_;rintro en w2 ⟨ig,IF⟩;have R2:=R1.mw ig;have hk:av g.old.bI w.heap.size (some (.cells #[.int .i64 0] 34)) w.heap.size=some (.cells #[.int .i64 0] 34):=bm _ _ _;have jf:=(R2.kept _ _ hk).2.1;have aw:=(afe.1 jf).1
 have fin:∀w3,Below w2.heap.size w2 w3->∃g',g'.old=g.old/\Rel prog w0 n dU g' S H a (w3.setRow w.heap.size #[.int .i64 r]):=λw3 mm=>by
  have R3:=R2.mw mm;have J0:=(R3.kept _ _ hk).2.1;have R4:=R3.m_ hk (.cells #[.int .i64 r] 34);rw[sh w3 J0];refine⟨_,?_,R4.nS w.heap.size⟩;show({ g.old with bI:=av (av (av g.old.bI w.heap.size (some (.cells #[.int .i64 0] 34))) w.heap.size (some (.cells #[.int .i64 r] 34))) w.heap.size none }:Old)=_
  have:av (av (av g.old.bI w.heap.size (some (.cells #[.int .i64 0] 34))) w.heap.size (some (.cells #[.int .i64 r] 34))) w.heap.size none=g.old.bI:=by
   funext c
   by_cases hc:c=w.heap.size
   .subst hc;simp[av,uv]
   .simp[av,hc]
  rw[this]
 rcases IF with⟨rfl,k,rfl⟩|⟨rfl,k,rfl⟩
 .exact⟨aw,⟨_,_,jf⟩,.inr (.inl ⟨k,rfl,λw3 mm=>⟨rfl,fin w3 mm⟩⟩)⟩
 .exact⟨aw,⟨_,_,jf⟩,.inr (.inr ⟨k,rfl,λw3 mm=>⟨rfl,fin w3 mm⟩⟩)⟩
variable{i2 i3 i5:Nat}{s x:aq}{out ns:List Int}{b:Bool}{z:AV}
theorem tu(s:aq):(ao s).map AV.cm=ao s:=by simp[ao,ae,AV.cm,vI]
theorem lV(R:Rel prog w0 n dU g S H a w){i:Nat}{cs:List AV}(hi:i<n)(hS:S i=.box i 0)(hH:H i=some cs)(hv:cs.map AV.cm=cs):RV (fy g true) cd w (.ref cs) (a.tmps.getD i undef):=by
 have h:=R.slot i hi id;rw[hS]at h;have:=R.iA h true (λ_=>rfl);simp only[Go.AL.iA,hH,List.drop_zero,hv]at this;exact this
theorem Bj (hG:au GI) (dS:GI w0) (R:Rel prog w0 n dU g S H a w) (p8:i2 < n) (Mz:i3 < n) (Br:i5 < n)
  (oB:S i2=.box i2 0) (pq:H i2=some (ao s)) (Be:S i3=.box i3 0) (Ml:H i3=some [vI out]) (tC:S i5=.box i5 0) (yv:H i5=some [.bool false])
  (tN:AC prog GI 160 [a_ s,vI out] (.ret (a_ x))) {k:Int} (vz:AC prog GI 108 [a_ x] (.panic (ll k))):
  Calls prog 159 #[a.tmps.getD i2 undef,a.tmps.getD i3 undef,a.tmps.getD i5 undef] w λe w2=>Below w.heap.size w w2/\e=.panicked [{ v:=.iface 192 (.agg #[.int .i64 k]),recovered:=false }]:=by
 have fR:GI w:=hG w0 w dS (by have:=R.below;rwa [R.base]at this)
 have hA:AC prog GI 159 [.ref (ao s),.ref [vI out],.ref [.bool false]] (.panic (ll k)):=by
  refine bP hG func159 ntmps159 c159 ?_;simp[c159,ao,ae];refine oc tN ?_;simp[a_,ao,ae];refine oc vz ?_;simp[iH]
 refine(hA w (fy g true) #[a.tmps.getD i2 undef,a.tmps.getD i3 undef,a.tmps.getD i5 undef] fR rfl (λi h h'=>?_)).mono ?_
 .match i,h with
  |0,_=>exact lV R p8 oB pq (tu s)
  |1,_=>exact lV R Mz Be Ml rfl
  |2,_=>exact lV R Br tC yv rfl
 .rintro en w2 ⟨ig,hi,pS,c,rfl,jX⟩;have hc:=Ab jX;subst hc;exact⟨ig,rfl⟩
theorem DY (hG:au GI) (dS:GI w0) (R:Rel prog w0 n dU g S H a w) (hd:d < n) (p8:i2 < n) (Mz:i3 < n) (Br:i5 < n) (Gt:d≠i5)
  (oB:S i2=.box i2 0) (pq:H i2=some (ao s)) (Be:S i3=.box i3 0) (Ml:H i3=some [vI out]) (tC:S i5=.box i5 0) (yv:H i5=some [z])
  (tN:AC prog GI 160 [a_ s,vI out] (.ret (a_ x))) (vz:AC prog GI 108 [a_ x] (.ret (cb x ns))) (vJ:AC prog GI 107 [cb x ns] (.ret (.bool b))):
  Calls prog 159 #[a.tmps.getD i2 undef,a.tmps.getD i3 undef,a.tmps.getD i5 undef] w λe w2=>e=.returned (.tuple #[])/\∃(c:Value)(g':Gh)(S':aF)(H':aK),g'.old=g.old/\Rel prog w0 n dU g' S' H' (a.put (some d) c) w2/\(∀t,t≠d->S' t=S t)/\H'=av H i5 (some [.bool b]):=by
 have fR:GI w:=hG w0 w dS (by have:=R.below;rwa [R.base]at this);have r2:=lV R p8 oB pq (tu s);have r3:=lV R Mz Be Ml rfl;obtain⟨b5,Nt,e5⟩:=iW R Br tC;have bL:=R.size;refine ahm func159 rfl ?_;refine(ez (m:=0)).1 ?_;refine eY (λc=>c.tmps.size=8/\c.defers=[]/\c.tmps.getD 0 undef=a.tmps.getD i2 undef/\c.tmps.getD 1 undef=a.tmps.getD i3 undef/\c.tmps.getD 2 undef=a.tmps.getD i5 undef) ⟨by simp[ntmps159],rfl,bK _ _ 0 (by simp),bK _ _ 1 (by simp),bK _ _ 2 (by simp)⟩ ?_;rintro aC ⟨zC,dC,t0,t1,t2⟩
 refine iR hG (n:=8) (p:=5) (l2:=[5]) rfl (by kernel_rfl) (by kernel_rfl) (l:=(af.dl c159).take 5) (by kernel_rfl) (by decide) (W:=λt=>decide (3<=t)) (by kernel_rfl) fR (fy g true)
  (λt=>match t with|0=>.ref (ao s)|1=>.ref [vI out]|2=>.val (.pointer (some ⟨b5,0,none⟩))|_=>.bB) zC dC ?_ (K:=λS' _=>S' 7=.bool b/\S' 2=.val (.pointer (some ⟨b5,0,none⟩))) ?_ ?_
 .intro t ht;split
  .exact⟨rfl,by rw[t0];exact r2⟩
  .exact⟨rfl,by rw[t1];exact r3⟩
  .exact⟨rfl,by rw[t2,e5];exact .data _ _ (.val _ rfl)⟩
  .exact⟨rfl,.bB _⟩
 .simp[c159,af.dl,ao,ae];refine oc tN ?_;simp[a_,ao,ae];refine oc vz ?_;simp[cb,aX,ao,ae];refine oc vJ ?_;simp
 .rintro g1 S1 H1 a1 w1 jq R1 ⟨q7,q2⟩ _
  have tj:Below w.heap.size w w1:=by have:=R1.below;rwa [R1.base]at this
  have u7:=R1.slot 7 (by decide) id;rw[q7]at u7;have u7:=u7.dN;have u2:=R1.slot 2 (by decide) id;rw[q2]at u2;have u2:=u2.eU;have R2:=(R.mw tj).put d (.bool b) (.bool b) hd (.data _ _ (.bool _)) trivial;obtain⟨i4,La,D3⟩:=bh (P:=prog) (t:=4) (s:=1) (by kernel_rfl);have Ag:av S d (.bool b) i5=.box i5 0:=(cN _ _ (afQ Gt)).trans tC
  have kc:aL (av S d (.bool b)) H (.store .any i4.size (.t i5) (.t d))=some { v:=cG,dm:=some d,hw:=some (i5,[.bool b]) }:=by
   simp[aL,ev,Ag,tC,afQ Gt,yv,HR.okB,D3,AV.cells,AV.storable,AV.cg,bo,bu,bm]
  obtain ⟨c2,w3,g3,eh,G0,uh,R3⟩:=kS R2 (o:={ dst:=none,op := .store 4 (.tmp i5) (.tmp d),type:=0,pos := "",after := #[],guard:=none }) (x1 := .tmp i5) (x2 := .tmp d) (y1 := .t i5) (y2 := .t d) (hr := .any) rfl rfl La (by simp [lQ,Br]) (by simp [lQ,hd]) (λ_ _=>id) (λ_ _=>id) kc
  have f5:(a.put (some d) (.bool b)).eval (.tmp i5)=.pointer (some ⟨b5,0,none⟩):=by
   show(a.put (some d) (.bool b)).tmps.getD i5 undef=_;rw[ji _ _ _ _ (by omega),if_neg (afQ Gt),e5]
  have fd:(a.put (some d) (.bool b)).eval (.tmp d)=.bool b:=by
   show(a.put (some d) (.bool b)).tmps.getD d undef=_;rw[ji _ _ _ _ (by omega),if_pos rfl]
  have bb:∀ o:Oper,o.op = .store 4 (.tmp 2) (.tmp 7)->(execOp a1.eval o).run prog w1=(execOp (a.put (some d) (.bool b)).eval { dst:=none,op := .store 4 (.tmp i5) (.tmp d),type:=0,pos := "",after := #[],guard:=none }).run prog w1:=by
   intro o ho;have k2:a1.eval (.tmp 2)=.pointer (some ⟨b5,0,none⟩):=u2;have k7:a1.eval (.tmp 7)=.bool b:=u7;unfold execOp;simp only[ho,k2,k7,f5,fd]
  have fin:∀u:Value,(a1.put none u).defers=[]/\∃v',(results f159 (a1.put none u).tmps).run prog w3=.ok v' w3/\(v'=.tuple #[]/\∃(c:Value)(g':Gh)(S':aF)(H':aK),g'.old=g.old/\Rel prog w0 n dU g' S' H' (a.put (some d) c) w3/\(∀t,t≠d->S' t=S t)/\H'=av H i5 (some [.bool b])):=λu=>
   ⟨R1.defers.trans (by rw[jq]<;>rfl),.tuple #[],by simp[results,results159],rfl,.bool b,g3,_,_,uh,R3,λt ht=>by simp[aT.S,AL.aY,av,ht],rfl⟩
  have Jz:∀u:Value,(a1.put none u).defers=[]/\∃v',(results f159 (a1.put none u).tmps).run prog w3=.ok v' w3/\(Ending.returned v'=.returned (.tuple #[])/\∃(c:Value)(g':Gh)(S':aF)(H':aK),g'.old=g.old/\Rel prog w0 n dU g' S' H' (a.put (some d) c) w3/\(∀t,t≠d->S' t=S t)/\H'=av H i5 (some [.bool b])):=λu=>by
   obtain⟨q1,v',q2,rfl,q3⟩:=fin u;exact⟨q1,_,q2,rfl,q3⟩
  rcases eh with hr|⟨hr,_⟩
  .exact aW rfl rfl (by rfl) ((bb _ rfl).trans hr) (Jz _)
  .exact dk rfl rfl (by rfl) ((bb _ rfl).trans hr) (Jz undef)
end
def iF(s:aq)(out:List Int):Bool:=match dV (jt s out).name with
 |some es=>decide (gr 0 (jt s out) (aR (jt s out) es)=(aR (jt s out) es).length)
 |none=>false
theorem D_{s:aq}(h:er s)(out:List Int):er (jt s out):=by
 have hl:=nZ out s.name.words 0;exact⟨h.cells,⟨h.name.aV,h.name.aQ,Nat.lt_of_le_of_lt hl h.name.words,λw hw=>h.name.aG w (lS hw),λw hw=>h.name.bD w (lS hw)⟩⟩
theorem NN(hG:au GI)(s:aq)(hs:er s)(hI:cq s=true)(out:List Int)(ho:ec s.name out=true):AC prog GI 113 [a_ s,vI out] (.ret (.bool (iF s out))):=by
 have Up:=DU hI ho;have hg:=eo hI;have lv:=eo Up;have jz:=(dP hg.name).words;have hol:=zM ho;have a160:=Mc hG s (by omega) out (by omega);have s_:er (jt s out):=D_ hs out;unfold iF
 obtain ⟨b,e,hO,oT⟩:∃ (b:Bool) (e:Int),(match dV (jt s out).name with
   |some es=>decide (gr 0 (jt s out) (aR (jt s out) es)=(aR (jt s out) es).length)
   |none=>false)=(e==0&&b)/\
   ∀(w0:World)(g:Gh)(S:aF)(H:aK)(a:Act)(w:World),GI w0->Rel prog w0 14 dU g S H a w->S 2=.box 2 0->H 2=some (ao s)->S 3=.box 3 0->H 3=some [vI out]->S 5=.box 5 0->H 5=some [.bool false]->
    Calls prog 119 #[.func (.func 159) #[] #[a.tmps.getD 2 undef,a.tmps.getD 3 undef,a.tmps.getD 5 undef]] w λen w2=>en=.returned (.int .i64 e)/\∃(c:Value)(g':Gh)(S':aF)(H':aK),g'.old=g.old/\Rel prog w0 14 dU g' S' H' (a.put (some 8) c) w2/\S' 5=.box 5 0/\H' 5=some [.bool b]:=by
  cases dQ:dV (jt s out).name with
  |some es=>
   have hn:=gX lv (fp lv.name dQ);refine⟨_,0,(agU _).symm,λw0 g S H a w dS R q2 Bl q3 LK q5 I6=>?_⟩
   refine qj (d:=8) (by kernel_rfl) R λg1 w1 R1 jq _ _=>?_
   refine(DY hG dS R1 (d:=8) (by decide) (by decide) (by decide) (by decide) (by decide) q2 Bl q3 LK q5 I6 a160 (BJ hG (jt s out) s_ lv dQ) (BX hG (jt s out) lv (aR (jt s out) es) hn)).mono ?_;rintro en w2 ⟨rfl,c,g',S',H',sE,R',pv,ph⟩;exact⟨rfl,c,g',S',H',sE,R',by rw[pv 5 (by decide)];exact q5,by rw[ph];exact bm _ _ _⟩
  |none=>
   refine⟨false,7,rfl,λw0 g S H a w dS R q2 Bl q3 LK q5 I6=>?_⟩;refine(zg (by kernel_rfl) R (r:=7) λg1 w1 R1 _ _=>?_).mono ?_
   .refine(Bj hG dS R1 (by decide) (by decide) (by decide) q2 Bl q3 LK q5 I6 a160 (vO hG (jt s out) s_ lv dQ)).mono ?_;rintro en w2 ⟨hb,rfl⟩;exact⟨hb,.inl ⟨rfl,_,rfl⟩⟩
   .rintro en w2 ⟨rfl,g',yP,R'⟩;exact⟨rfl,undef,g',av S 8 .bB,H,yP,R'.put 8 .bB undef (by decide) (.bB _) trivial,(cN _ _ (by decide)).trans q5,I6⟩
 rw[hO]
 refine AC.gY func113 rfl ntmps113 (by simp) λcc w=>?_
 refine dw hG c113.qa (λS' H'=>S' 2=.box 2 0/\H' 2=some (ao s)/\S' 3=.box 3 0/\H' 3=some [vI out]) ?_ ?_
 .simp[c113,af.qa,a_,ao,ae]
 rintro S1 H1 ⟨s2,h2,s3,h3⟩;show SW prog GI 14 none (.seq _ (.seq _ (.seq _ .ret))) _ _ _ _;refine dw hG c113.qb.qa (λS' H'=>S' 2=.box 2 0/\H' 2=some (ao s)/\S' 3=.box 3 0/\H' 3=some [vI out]/\S' 5=.box 5 0/\H' 5=some [.bool false]) ?_ ?_
 .simp[c113,af.qa,af.qb,s2,h2,s3,h3]
 clear s2 h2 s3 h3;rintro S3 H3 ⟨s2,h2,s3,h3,s5,h5⟩
 refine SW.seq (SW.hand hG (p:=0) (lm:=[0,1]) (l2:=[2]) (kY:=[]) (oh:=[_,_]) (lJ:=[_]) rfl rfl rfl rfl (by kernel_rfl) (λ_ h=>h) (lM:=[]) (kP:=(c113.qb.qb.qa.dl).drop 2) rfl (by kernel_rfl) rfl (by kernel_rfl)
  (K1:=λS' H'=>S' 2=.box 2 0/\H' 2=some (ao s)/\S' 3=.box 3 0/\H' 3=some [vI out]/\S' 5=.box 5 0/\H' 5=some [.bool false])
  (K2:=λo S' H'=>o=Old.plain cc w/\S' 5=.box 5 0/\H' 5=some [.bool b]/\S' 8=.int .i64 e)
  (K3:=λo S' H'=>o=Old.plain cc w/\S' 5=.box 5 0/\H' 5=some [.bool b]/\S' 6=.int .i64 e) ⟨s2,h2,s3,h3,s5,h5⟩ ?_ ?_ ?_)
 .rintro w0 g S5 H5 a w5 m dS ho R ⟨s2,h2,s3,h3,s5,h5⟩;have bL:=R.size;refine aW rfl rfl (by rfl) (kB (fn:=.func 159) (c:=#[.tmp 2,.tmp 3,.tmp 5]) rfl) ?_
  obtain⟨fv,jQ⟩:∃fv:Value,fv=.func (.func 159) #[] (#[Operand.tmp 2,.tmp 3,.tmp 5].map a.eval):=⟨_,rfl⟩
  show wpOpsIn _ _ _ _ _ [1] (a.put (some 7) (.func (.func 159) #[] (#[Operand.tmp 2,.tmp 3,.tmp 5].map a.eval))) w5;rw[<-jQ];have R1:=R.put 7 .bB fv (by decide) (.bB _) trivial
  obtain⟨a1,oI⟩:∃a1,a.put (some 7) fv=a1:=⟨_,rfl⟩
  rw[oI]at R1⊢
  have uc:fv=.func (.func 159) #[] #[a1.tmps.getD 2 undef,a1.tmps.getD 3 undef,a1.tmps.getD 5 undef]:=by
   have e1:=bt a 7 2 fv (by omega);have e2:=bt a 7 3 fv (by omega);have e4:=bt a 7 5 fv (by omega);rw[if_neg (by decide),oI]at e1 e2 e4;have A6:a1.tmps.getD 2 undef=a.eval (.tmp 2):=e1;have K6:a1.tmps.getD 3 undef=a.eval (.tmp 3):=e2;have Ch:a1.tmps.getD 5 undef=a.eval (.tmp 5):=e4;rw[A6,K6,Ch,jQ];simp only[afw,afv,afB]
  have ij:a1.eval (.tmp 7)=fv:=by rw[<-oI,bt _ _ _ _ (by omega),if_pos rfl]
  refine eS rfl rfl (by rfl) (fU (k:=119) (args:=#[.func (.func 159) #[] #[a1.tmps.getD 2 undef,a1.tmps.getD 3 undef,a1.tmps.getD 5 undef]]) w5 rfl rfl ?_ (by kernel_rfl)) (oT w0 g _ _ a1 w5 dS R1 (by simp[av,s2]) h2 (by simp[av,s3]) h3 (by simp[av,s5]) h5) ?_
  .simp only[afw,afv,afB,ij,<-uc]
  .rintro en w6 ⟨rfl,c,g',S',H',sE,R2,tC,yv⟩;refine⟨_,rfl,?_⟩;have R3:=R2.put 8 (.int .i64 e) (.int .i64 e) (by decide) (.data _ _ (.int _ _)) trivial;rw[ml]at R3;exact⟨g',_,H',R3,sE.trans ho,by rw[cN _ _ (by decide)];exact tC,yv,bm _ _ _⟩
 .rintro o S5 H5 ⟨rfl,s5,h5,s8⟩;refine⟨λ_ h=>h,?_⟩;simp[c113,af.qa,af.qb,af.dl,s5,h5,s8]
 .rintro o S5 H5 ⟨rfl,s5,h5,s6⟩;show SW prog GI 14 none (.seq _ .ret) _ _ _ _;refine dw hG c113.qb.qb.qb.qa (λS' H'=>S' 4=.bool (e==0&&b)) ?_ ?_
  .by_cases he:e=0
   .subst he;simp[c113,af.qa,af.qb,s5,h5,s6]
   .have jI:(e==0)=false:=by simpa using he
    simp[c113,af.qa,af.qb,s5,h5,s6,jI]
  rintro S6 H6 s4;refine SW.ret ⟨eD.plain rfl,rfl,_,?_,rfl⟩;show cw prog 14 [.tmp 4] S6 H6=_;simp[cw,cH,cI,s4,AV.bU,AV.out]
end Go.Proofs.Tryz
namespace Go.Proofs.Tryz
open Go Go.AL Go.RowKit Go.Proofs Go.Proofs.Tram
def gk(s:aq)(d:Nat)(es:List Int):List (List Int):=(oV s.name d es).filter (iF s)
def mo(s:aq)(d:Nat)(es:List Int)(i:Nat):List (List Int):=(List.range' i (s.name.words.length-i)).flatMap λk=>if jY s.name k then gk s d (es++[(k:Int)])else[]
theorem zY(s:aq)(es:List Int):gk s 0 es=if iF s es then[es]else[]:=by
 unfold gk oV
 cases h:iF s es<;>simp[h]
theorem y_(s:aq)(d:Nat)(es:List Int):gk s (d+1) es=mo s d es (kI es):=by
 unfold gk mo oV;rw[ahL]
 refine uW λi _=>?_
 cases jY s.name i<;>rfl
theorem zL(s:aq)(d:Nat)(es:List Int){i:Nat}(h:i<s.name.words.length):mo s d es i=(if jY s.name i then gk s d (es++[(i:Int)])else[])++mo s d es (i+1):=by
 unfold mo;rw[show s.name.words.length-i=s.name.words.length-(i+1)+1 by omega,agr,agP]
theorem B2(s:aq)(d:Nat)(es:List Int):mo s d es s.name.words.length=[]:=by
 unfold mo
 rw[ahi]<;>rfl
theorem tx{α β:Type}{f:α->List β}{b:Nat}(hf:∀x,(f x).length<=b):∀l:List α,(l.flatMap f).length<=b*l.length
 |[]=>by simp
 |a::l=>by
  rw[agP,afm,List.length_cons,Nat.mul_succ];have:=tx hf l;have:=hf a;omega
theorem tP{s:ar}(h:s.words.length<=4):∀(d:Nat)(now:List Int),(oV s d now).length<=4^d
 |0,now=>by simp[oV]
 |d+1,now=>by
  unfold oV
  have h1:∀i:Nat,(if jY s i then oV s d (now++[(i:Int)])else[]).length<=4^d:=by
   intro i;split
   .exact tP h d _
   .simp
  have h2:=tx h1 (List.range' (kI now) (s.words.length-kI now));rw[List.length_range']at h2;rw[Nat.pow_succ];have h3:4^d*(s.words.length-kI now)<=4^d*4:=Nat.mul_le_mul_left _ (by omega);omega
theorem Bi{s:aq}(h:s.name.words.length<=4){d:Nat}(hd:d<4)(es:List Int):(gk s d es).length<=64:=by
 have h1:=agJ (iF s) (oV s.name d es);have h2:=tP h d es;have h3:4^d<=4^3:=Nat.pow_le_pow_right (by decide) (by omega);unfold gk;omega
def qg(s:aq):Option (List Int):=(C8 s.name).find? (iF s)
theorem rL(s:aq):qg s=((List.range s.name.words.length).flatMap λd=>gk s d []).head?:=by
 unfold qg C8 gk;rw[<-List.head?_filter,ahL]
theorem Bh{α:Type}(f:Nat->List α){n m:Nat}(h:m<n)(hb:∀j,j<m->f j=[]){x:α}{l:List α}(hm:f m=x::l):((List.range n).flatMap f).head?=some x:=by
 have e:List.range n=List.range m++m::List.range' (m+1) (n-(m+1)):=by
  have h1:List.range' 0 m++List.range' (0+m) (n-(m+1)+1)=List.range' 0 (m+(n-(m+1)+1)):=ahg;rw[af6,show m+(n-(m+1)+1)=n by omega]at h1;rw[agW,agW,<-h1,agr]
 rw[e,agm,ahp.2 λj hj=>hb j (afE.1 hj),List.nil_append,agP,hm]
 rfl
theorem Cm{α:Type}(f:Nat->List α){n:Nat}(hb:∀j,j<n->f j=[]):((List.range n).flatMap f).head?=none:=by
 rw[ahp.2 λj hj=>hb j (afE.1 hj)]
 rfl
def sP(s:aq):List AV:=match qg s with
 |some l=>[vI l,.int .i64 0]
 |none=>[vI [],.int .i64 5]
def xu(s:aq):List AV:=if cq s then sP s else[vI [],.int .i64 2]
end Go.Proofs.Tryz
namespace Go.Proofs.Tryz
open Go Go.AL Go.RowKit Go.Proofs Go.Proofs.Tram
attribute [local simp] dh eE dY dv dK dj di cQ cT dL cP ct fF fE aD aL ev aT.S aT.H bu av aY AL.start AV.cells AV.storable AV.cg bo cE dI ck HR.okB post cw cH cI AV.out AV.bU b_ df fz iA AV.vw du vI int cG aP cV db fQ iu fV eG da AV.aI AV.cm
variable{GI:World->Prop}
def W6:Nat->Bool:=λt=>decide (6<=t)
def x_:Nat->Bool:=λt=>decide (35<=t)
structure xW(bF bN:Nat)(cS cR:Value)(n many:Int)(a:Act):Prop where
 size:a.tmps.size=50
 defers:a.defers=[]
 t0:a.tmps.getD 0 undef=.int .i64 n
 t1:a.tmps.getD 1 undef=.int .i64 many
 t2:a.tmps.getD 2 undef=cS
 t3:a.tmps.getD 3 undef=.pointer (some ⟨bN,0,none⟩)
 t4:a.tmps.getD 4 undef=.pointer (some ⟨bF,0,none⟩)
 t5:a.tmps.getD 5 undef=cR
def eJ(s:aq)(es:List Int)(fv:Value)(n many:Int)(v8:AV):aF:=λt=>match t with
 |0=>.int .i64 n
 |1=>.int .i64 many
 |2=>.ref (ao s)
 |3=>.ref [.slice .view (ints es)]
 |5=>.ref [.val fv]
 |8=>v8
 |_=>.bB
section
variable{wB:World}{Mi:Nat->Nat->Prop}{bF bN:Nat}{s:aq}{cS cR fv:Value}{fs:List (List Int)}{es:List Int}{w:World}{a:Act}{n many:Int}
theorem xW.step{a':Act}(fr:xW bF bN cS cR n many a)(bL:a'.tmps.size=50)(ea:a'.defers=[])(h:fC W6 a a'):xW bF bN cS cR n many a':=
 ⟨bL,ea,(h 0 rfl).trans fr.t0,(h 1 rfl).trans fr.t1,(h 2 rfl).trans fr.t2,(h 3 rfl).trans fr.t3,(h 4 rfl).trans fr.t4,(h 5 rfl).trans fr.t5⟩
theorem Lv.dX (st:Lv wB Mi bF bN s cS cR fv fs es w) (fr:xW bF bN cS cR n many a) {v8:AV} (h8:v8.aI=v8∧RV (fun _ _=>True) cd w v8 (a.tmps.getD 8 undef)) :
  ∀t,t<50->(eJ s es fv n many v8 t).aI=eJ s es fv n many v8 t/\RV (λ_ _=>True) cd w (eJ s es fv n many v8 t) (a.tmps.getD t undef):=by
 intro t ht;unfold eJ;split
 .rw[fr.t0];exact⟨rfl,.data _ _ (.int _ _)⟩
 .rw[fr.t1];exact⟨rfl,.data _ _ (.int _ _)⟩
 .rw[fr.t2];exact⟨rfl,st.s.mono (bz.same λ_ _ _ _=>trivial) λ_ _ h=>h⟩
 .rw[fr.t3];obtain⟨u,qG,xF,v,tw,xN,f1,f2,f3,f4,n1,n2,n3,n4⟩:=st.st;refine⟨rfl,.data _ _ (.ref _ _ _ (λ_=>v) (λi hi=>?_) (λk hk=>⟨trivial,?_⟩) (λk hk=>?_))⟩
  .have:i=0:=by simpa using hi
   subst this;rfl
  .have:k=0:=by simpa using hk
   subst this;simp[World.cell?,n1]
  .have:k=0:=by simpa using hk
   subst this
   exact RD.ofRow (size:=1) (es:=ints es) (by rw[b_];exact n2) (n3.mono (bz.same λ_ _ _ h=>h.elim)) λ_ _ _ _=>trivial
 .rw[fr.t5];exact⟨rfl,st.r.mono (bz.same λ_ _ _ _=>trivial) λ_ _ h=>h⟩
 .exact h8
 .exact⟨rfl,.bB _⟩
theorem Lv.c_ (st:Lv wB Mi bF bN s cS cR fv fs es w) {w':World} {es':List Int} {v v':Value} {tw:TypeId} {IL:List Value} (hv:∃ ty,w.heap[bN]? = some (.cells #[v] ty (0,0))) (fa:sB (fun b=>b=bN∨v.ownBlock=some b) w w')
  (hN:w'.heap[bN]?=some (.cells #[v'] tw (0,0))) (h_:w'.ownsRow (bN+1) 3 1 v' es'.length IL) (si:rr (λ_ _=>False) w' 1 (ints es') IL) (CV:∀b,v'.ownBlock=some b->v.ownBlock=some b\/w.heap.size<=b):Lv wB Mi bF bN s cS cR fv fs es' w':=by
 obtain⟨u,qG,xF,v0,Ys,xN,f1,f2,f3,f4,n1,n2,n3,n4⟩:=st.st;obtain⟨ty,hv⟩:=hv
 have SV:v0=v:=by
  rw[n1]at hv;simp only[agk,Obj.cells.injEq,Array.mk.injEq,ahc]at hv;exact hv.1.1
 subst SV;have lF:=(afe.1 f1).1
 have old:∀b,b<w.heap.size->b≠bN->v0.ownBlock≠some b->w'.heap[b]?=w.heap[b]?:=λb hb h1 h2=>fa.block b hb (by rintro(h|h);exact h1 h;exact h2 h)
 have Ka:∀b k,Mi b k->w'.heap[b]?=w.heap[b]?:=λb k hm=>old b (st.lt b k hm) (λe=>st.gN k (e▸hm)) λe=>(n4 b e).2.2 k hm
 have FX:bz Mi Mi w w':=bz.of_eq λb k hm=>⟨hm,Ka b k hm⟩
 refine⟨st.below.trans (fa.below st.below.size λb hb=>?_),st.ge,λb k hm=>afI (st.lt b k hm) fa.size,st.gF,st.gN,⟨u,qG,xF,v',tw,IL,(old bF lF st.ge.2.2 λe=>(n4 bF e).1 rfl).trans f1,eO f2 λb hb=>old b (f2.lt b hb).2 (f4 b hb).1 λe=>(n4 b e).2.1 hb,f3.mono (bz.of_eq λb k hm=>⟨hm,(Ka b k hm.1)⟩),f4,hN,h_,si,λb hb=>?_⟩,st.s.mono FX λ_ _ h=>h,st.r.mono FX λ_ _ h=>h⟩
 .rcases hb with rfl|hb
  .exact st.ge.2.1
  .have:=(n2.lt b hb).1;have:=st.ge.2.1;omega
 .rcases CV b hb with h|h
  .exact n4 b h
  .exact⟨λe=>by omega,λe=>by have:=(f2.lt b e).2;omega,λk hm=>by have:=st.lt b k hm;omega⟩
end
theorem rC {P:Program} {a:Act} {o:Oper} {cl:Call} {f x y:Operand} {k:Nat} {cap:Array Value} (w:World) (ho:o.op = .call cl) (hc:cl.callee = .value f) (ha:cl.args = #[x,y]) (hf:a.eval f = .func (.func k) #[] cap) (hk:dZ P k=true) :
  (execOp a.eval o).run P w=.ok (.enter k (#[a.eval x,a.eval y]++cap)) w:=by
 unfold execOp;simp[ho,eV hc,hf,Deferred.ofValue,invoke,ha,je hk]
noncomputable def mr:af:=af.qb c112.qb.qb.qb
noncomputable def qP:af:=af.qb mr.qb.qa
noncomputable def tz:af:=af.qa qP.qb
theorem GG (hG:au GI) {wB:World} (qF:GI wB) {bF bN:Nat} {s:aq} (hs:er s) (hI:cq s=true) {cS cR fv:Value} (jQ:fv = .func (.func 112) #[] #[cS,.pointer (some ⟨bN,0,none⟩),.pointer (some ⟨bF,0,none⟩),cR]) :
  ∀(d n:Nat)(es:List Int)(fs:List (List Int))(Mi:Nat->Nat->Prop)(w:World),kI es=n->n<=s.name.words.length->es.length+d<s.name.words.length->ec s.name es=true->(fs++gk s d es).length<=1000->Lv wB Mi bF bN s cS cR fv fs es w->
   Calls prog 112 #[.int .i64 n,.int .i64 d,cS,.pointer (some ⟨bN,0,none⟩),.pointer (some ⟨bF,0,none⟩),cR] w λe w'=>e=.returned (.tuple #[])/\∃mz,(∀b k,Mi b k->mz b k)/\Lv wB mz bF bN s cS cR fv (fs++gk s d es) es w':=by
 have jz:=(dP (eo hI).name).words.2;intro d
 induction d with
 |zero=>?_
 |succ d ih=>?_
 all_goals intro n es fs Mi w si hn hd ho hB st
 all_goals refine(lR (ro:=none) (m:=0)).1 (aha func112 rfl trivial ?_)
 .have fR:GI w:=hG wB w qF st.below
  have fr:xW bF bN cS cR n ((0:Nat):Int) { tmps:=#[.int .i64 n,.int .i64 ((0:Nat):Int),cS,.pointer (some ⟨bN,0,none⟩),.pointer (some ⟨bF,0,none⟩),cR]++Array.replicate (f112.ntmps-6) undef,defers:=[] }:=
   ⟨by simp[ntmps112],rfl,bK _ _ 0 (by simp),bK _ _ 1 (by simp),bK _ _ 2 (by simp),bK _ _ 3 (by simp),bK _ _ 4 (by simp),bK _ _ 5 (by simp)⟩
  rw[zY]at hB⊢;refine afc (afc ?_);refine bG hG cC (n:=50) (ac:=af.qa c112.qa) (W:=W6) (by kernel_rfl) (by kernel_rfl) (by kernel_rfl) fR (λ_ _=>True) (eJ s es fv n ((0:Nat):Int) .bB) fr.size fr.defers (st.dX fr ⟨rfl,.bB _⟩) (K:=λS' _=>S' 10=.bool true) ?_ ?_
  .simp[c112,af.qa,eJ]
  rintro g S' H' a w1 hg R1 hb bb;have fr:=fr.step R1.size (by rw[R1.defers,hg]<;>rfl) bb;have st:=st.grow (by have:=R1.below;rwa [R1.base]at this);have ht:=R1.slot 10 (by decide) (λh=>h);rw[hb]at ht;have uB:=ht.dN;clear ht bb hb hg R1 g S' H' fR;have fR:GI w1:=hG wB w1 qF st.below;show Code.wpIn _ _ _ _ _ a w1;refine afF (t:=true) uB ?_;simp only[afH];refine afc (afc ?_);have RH:=NN hG s hs hI es ho;refine bG hG cC (n:=50) (ac:=af.qa c112.qa.qb.qa.qa) (W:=W6) (by kernel_rfl) (by kernel_rfl) (by kernel_rfl) fR (λ_ _=>True) (eJ s es fv n ((0:Nat):Int) .bB) fr.size fr.defers (st.dX fr ⟨rfl,.bB _⟩) (K:=λS' _=>S' 13=.bool (iF s es)) ?_ ?_
  .simp[c112,af.qa,af.qb,eJ,ao,ae];refine oc RH ?_;simp
  rintro g S' H' a w1 hg R1 hb bb;have fr:=fr.step R1.size (by rw[R1.defers,hg]<;>rfl) bb;have st:=st.grow (by have:=R1.below;rwa [R1.base]at this);have ht:=R1.slot 13 (by decide) (λh=>h);rw[hb]at ht;have uB:=ht.dN;clear ht bb hb hg R1 g S' H' fR;have fR:GI w1:=hG wB w1 qF st.below;show Code.wpIn _ _ _ _ _ a w1;refine afF (t:=iF s es) uB ?_
  have NB:es.length<1000:=by omega
  have Va:fs.length<100000:=by rw[afm]at hB;omega
  cases IF:iF s es with
  |true=>
   simp only[afH];refine yt hG st fR fr.size fr.defers fr.t3 fr.t4 NB Va rfl rfl rfl rfl rfl rfl ⟨rfl,rfl,rfl⟩ ⟨rfl,rfl,rfl⟩ ⟨rfl,rfl,rfl⟩ ⟨rfl,rfl,rfl⟩ ⟨rfl,rfl,rfl⟩ ⟨rfl,rfl,rfl⟩ ⟨rfl,rfl⟩ ⟨rfl,rfl,rfl⟩ (by kernel_rfl) ?_;intro a' w' mz bL ea _ hM lU;show Code.wpIn _ _ _ _ _ a' w';exact agK ⟨ea,.tuple #[],by simp[results,results112],rfl,mz,hM,lU⟩
  |false=>
   simp only[afj,afx,afL];refine af7 ?_;show Code.wpIn _ _ _ _ _ a w1;exact agK ⟨fr.defers,.tuple #[],by simp[results,results112],rfl,Mi,λ_ _ h=>h,st⟩
 .have fR:GI w:=hG wB w qF st.below
  have fr:xW bF bN cS cR n ((d+1:Nat):Int) { tmps:=#[.int .i64 n,.int .i64 ((d+1:Nat):Int),cS,.pointer (some ⟨bN,0,none⟩),.pointer (some ⟨bF,0,none⟩),cR]++Array.replicate (f112.ntmps-6) undef,defers:=[] }:=
   ⟨by simp[ntmps112],rfl,bK _ _ 0 (by simp),bK _ _ 1 (by simp),bK _ _ 2 (by simp),bK _ _ 3 (by simp),bK _ _ 4 (by simp),bK _ _ 5 (by simp)⟩
  rw[y_,si]at hB⊢
  have Vs:(((d+1:Nat):Int)==0)=false:=by rw[afN];omega
  generalize U7:((d+1:Nat):Int)=mn at*
  refine afc (afc ?_);refine bG hG cC (n:=50) (ac:=af.qa c112.qa) (W:=W6) (by kernel_rfl) (by kernel_rfl) (by kernel_rfl) fR (λ_ _=>True) (eJ s es fv n mn .bB) fr.size fr.defers (st.dX fr ⟨rfl,.bB _⟩) (K:=λS' _=>S' 10=.bool false) ?_ ?_
  .simp[c112,af.qa,eJ,Vs]
  rintro g S' H' a w1 hg R1 hb bb;have fr:=fr.step R1.size (by rw[R1.defers,hg]<;>rfl) bb;have st:=st.grow (by have:=R1.below;rwa [R1.base]at this);have ht:=R1.slot 10 (by decide) (λh=>h);rw[hb]at ht;have uB:=ht.dN;clear ht bb hb hg R1 g S' H' fR;have fR:GI w1:=hG wB w1 qF st.below;show Code.wpIn _ _ _ _ _ a w1;refine afF (t:=false) uB ?_;simp only[afj,afx];refine af7 ?_;show Code.wpIn _ _ _ _ _ a w1;refine afc ?_;refine bG hG cC (n:=50) (ac:=af.qa c112.qb) (W:=W6) (by kernel_rfl) (by kernel_rfl) (by kernel_rfl) fR (λ_ _=>True) (eJ s es fv n mn .bB) fr.size fr.defers (st.dX fr ⟨rfl,.bB _⟩) (K:=λS' _=>S' 8=.int .i64 n) ?_ ?_
  .simp[c112,af.qa,af.qb,eJ]
  rintro g S' H' a w2 hg R1 hb bb;have fr:=fr.step R1.size (by rw[R1.defers,hg]<;>rfl) bb;have st:=st.grow (by have:=R1.below;rwa [R1.base]at this);have ht:=R1.slot 8 (by decide) (λh=>h);rw[hb]at ht;have Pt:=ht.int_eq;clear ht bb hb hg R1 g S' H' fR uB;show Code.wpIn _ _ _ _ _ a w2
  refine af3 (ahq (λa w=>∃(i:Nat)(zy:List (List Int))(mz:Nat->Nat->Prop),xW bF bN cS cR n mn a/\a.tmps.getD 8 undef=.int .i64 (i:Nat)/\n<=i/\i<=s.name.words.length/\(∀b k,Mi b k->mz b k)/\Lv wB mz bF bN s cS cR fv zy es w/\zy++mo s d es i=fs++mo s d es n)
   (λa _=>match a.tmps.getD 8 undef with|.int _ i=>s.name.words.length-i.toNat|_=>0) ⟨n,fs,Mi,fr,Pt,afg _,hn,λ_ _ h=>h,st,rfl⟩ ?_)
  clear Pt;rintro a w3 ⟨i,zy,mz,fr,h8,NP,cD,LX,st,eQ⟩;have fR:GI w3:=hG wB w3 qF st.below
  have FU:(AV.int .i64 (i:Int)).aI=.int .i64 (i:Int)/\RV (λ_ _=>True) cd w3 (.int .i64 (i:Int)) (a.tmps.getD 8 undef):=⟨rfl,by rw[h8];exact .data _ _ (.int _ _)⟩
  refine afc (afc ?_);refine bG hG cC (n:=50) (ac:=af.qa mr.qa) (W:=W6) (by kernel_rfl) (by kernel_rfl) (by kernel_rfl) fR (λ_ _=>True) (eJ s es fv n mn (.int .i64 (i:Int))) fr.size fr.defers (st.dX fr FU) (K:=λS' _=>S' 8=.int .i64 i/\S' 25=.bool (decide (i<s.name.words.length))) ?_ ?_
  .simp[c112,mr,af.qa,af.qb,eJ,ao,ae]
  rintro g S' H' a4 w4 hg R1 ⟨q8,O4⟩ bb;have fr:=fr.step R1.size (by rw[R1.defers,hg]<;>rfl) bb;have st:=st.grow (by have:=R1.below;rwa [R1.base]at this);have ht:=R1.slot 25 (by decide) (λh=>h);rw[O4]at ht;have KG:=ht.dN;have hu:=R1.slot 8 (by decide) (λh=>h);rw[q8]at hu;have Gu:=hu.int_eq;clear ht hu bb q8 O4 hg R1 g S' H' fR FU;have fR:GI w4:=hG wB w4 qF st.below;show Code.wpIn _ _ _ _ _ a4 w4;refine afF (t:=decide (i<s.name.words.length)) KG ?_
  by_cases aw:i<s.name.words.length
  case neg=>
   simp only[aw,agY,afj,afx];refine agT ?_
   have JO:i=s.name.words.length:=by omega
   rw[JO,B2,afL]at eQ;simp only[Exit.then,Exit.inBlock,afH];rw[<-eQ];exact⟨fr.defers,.tuple #[],by simp[results,results112],rfl,mz,LX,st⟩
  simp only[aw,agZ,afH];refine af7 ?_;show Code.wpIn _ _ _ _ _ a4 w4;rw[zL s d es aw]at eQ
  have FU:(AV.int .i64 (i:Int)).aI=.int .i64 (i:Int)/\RV (λ_ _=>True) cd w4 (.int .i64 (i:Int)) (a4.tmps.getD 8 undef):=⟨rfl,by rw[Gu];exact .data _ _ (.int _ _)⟩
  have G':jY s.name i=s.name.words[i].free:=by simp[jY,ko,aw]
  have fin:∀ {Q:Exit→Act→World→Prop} {a5:Act} {w5:World} {Ny:List (List Int)} {MM:Nat→Nat→Prop},xW bF bN cS cR n mn a5→a5.tmps.getD 8 undef = .int .i64 (i:Nat)→Lv wB MM bF bN s cS cR fv Ny es w5 →
    (∀a6 w6,xW bF bN cS cR n mn a6->a6.tmps.getD 8 undef=.int .i64 ((i+1:Nat):Int)->Lv wB MM bF bN s cS cR fv Ny es w6->Q .normal a6 w6)->∀(id:Nat)(ops:Array Oper),ur (.region id ops false)=true->kT prog 50 (.region id ops false)=af.qb mr.qb->Ai ops W6=true->(Code.region id ops false).wpIn (FR none) 0 prog Q a5 w5:=λ{Q a5 w5 Ny MM} xG U9 y3 hQ id ops hc wR hW=>by
   have SA:(AV.int .i64 (i:Int)).aI=.int .i64 (i:Int)/\RV (λ_ _=>True) cd w5 (.int .i64 (i:Int)) (a5.tmps.getD 8 undef):=⟨rfl,by rw[U9];exact .data _ _ (.int _ _)⟩
   refine bG hG cC (n:=50) hc wR hW (hG wB w5 qF y3.below) (λ_ _=>True) (eJ s es fv n mn (.int .i64 (i:Int))) xG.size xG.defers (y3.dX xG SA) (K:=λS' _=>S' 8=.int .i64 ((i+1:Nat):Int)) ?_ ?_
   .have nk:IntKind.i64.wrap ((i:Int)+1)=i+1:=aN (by omega);simp[c112,mr,af.qa,af.qb,eJ,nk]
   intro g S' H' a6 w6 hg R1 BN nR;have QU:=R1.slot 8 (by decide) (λh=>h);rw[BN]at QU;exact hQ a6 w6 (xG.step R1.size (by rw[R1.defers,hg]<;>rfl) nR) QU.int_eq (y3.grow (by have:=R1.below;rwa [R1.base]at this))
  refine afc (af3 (afc ?_));refine bG hG cC (n:=50) (ac:=af.qa qP) (W:=W6) (by kernel_rfl) (by kernel_rfl) (by kernel_rfl) fR (λ_ _=>True) (eJ s es fv n mn (.int .i64 (i:Int))) fr.size fr.defers (st.dX fr FU) (K:=λS' _=>S' 8=.int .i64 i/\S' 34=.bool (jY s.name i)) ?_ ?_
  .rw[G'];simp[c112,mr,qP,af.qa,af.qb,eJ,ao,ae,aw,bW]
  rintro g S' H' a5 w5 hg R1 ⟨q8,HT⟩ bb;have fr:=fr.step R1.size (by rw[R1.defers,hg]<;>rfl) bb;have st:=st.grow (by have:=R1.below;rwa [R1.base]at this);have ht:=R1.slot 34 (by decide) (λh=>h);rw[HT]at ht;have Q4:=ht.dN;have hu:=R1.slot 8 (by decide) (λh=>h);rw[q8]at hu;have Gu:=hu.int_eq;clear ht hu bb q8 HT hg R1 g S' H' fR FU KG;have fR:GI w5:=hG wB w5 qF st.below;show Code.wpIn _ _ _ _ _ a5 w5;refine afF (t:=jY s.name i) Q4 ?_
  cases pS:jY s.name i with
  |false=>
   simp only[afj,afx];refine af7 ?_;simp only[Exit.then,Exit.inBlock];rw[pS]at eQ;refine fin fr Gu st (λa6 w6 Aq BN Bd=>?_) _ _ (by kernel_rfl) (by kernel_rfl) (by kernel_rfl);refine⟨⟨i+1,zy,mz,Aq,BN,by omega,by omega,LX,Bd,by simpa using eQ⟩,?_⟩;rw[BN,h8];show s.name.words.length-((i+1:Nat):Int).toNat<s.name.words.length-(i:Int).toNat;rw[Int.toNat_natCast,Int.toNat_natCast];omega
  |true=>
   simp only[afH];rw[pS]at eQ
   have Gp:es.length+1<s.name.words.length:=by omega
   obtain⟨u,qG,xF,v,tw,xN,f1,f2,f3,f4,n1,n2,n3,n4⟩:=st.st;obtain⟨i3,pQ,lr⟩:=bh (P:=prog) (t:=3) (s:=1) (by kernel_rfl);obtain⟨i23,CO,y4⟩:=bh (P:=prog) (t:=23) (s:=1) (by kernel_rfl);have Nn:(ints es).length=es.length:=b_ es;refine afc ?_
   refine uD cC (n:=50) (ac:=af.qa tz) (by kernel_rfl) (by kernel_rfl) (by kernel_rfl) (W:=x_) (by kernel_rfl) (λ_ _=>False)
    (λt=>match t with|3=>.box 3 0|8=>.int .i64 (i:Int)|_=>.bB) (nm:=3) (tp:=3) (es:=ints es) (es':=ints (es++[(i:Int)])) (by decide) rfl fr.t3 fr.size fr.defers n1 pQ (by rw[lr,Nn];exact n2) (by rw[lr];exact n3.mono (bz.same λ_ _ _ h=>h.elim)) ?_ ?_ (by rw[lr];exact nV _) (pj _) ?_
   .intro t ht;split
    .exact⟨rfl,.inl ⟨rfl,fr.t3⟩⟩
    .exact⟨rfl,.inr (by rw[Gu];exact .data _ _ (.int _ _))⟩
    .exact⟨rfl,.inr (.bB _)⟩
   .have pB:es.length+1<1048576:=by omega
    have Qr:ints (es++[(i:Int)])=ints es++[.int .i64 (i:Int)]:=by simp[ints]
    have eK:=jS es;have k1:aM 1 [AV.int .i64 (i:Int)]=true:=rfl;rw[Qr]
    cases A4:v.ownBlock with
    |none=>
     have he:es=[]:=by
      rcases n2.2 with⟨_,h⟩|⟨gg,cap,cur,rfl,_⟩
      .exact afR h
      .cases A4
     subst he;simp[c112,mr,qP,tz,af.qa,af.qb,tT,A4,k1,ints]
    |some bv=>
     simp[c112,mr,qP,tz,af.qa,af.qb,tT,A4,k1,eK,pB]
   intro a6 w6 v' MC xs6 Rt GX nR QO Cv GC C0 Gg;have Aq:=fr.step Rt GX (fC.weaken nR λt ht=>by simp[W6]at ht;simp[x_];omega);have BN:a6.tmps.getD 8 undef=.int .i64 (i:Int):=(nR 8 rfl).trans Gu;have Bd:Lv wB mz bF bN s cS cR fv zy (es++[(i:Int)]) w6:=st.c_ ⟨_,n1⟩ C0 QO (by rw[lr,b_]at Cv;exact Cv) (by rw[lr]at GC;exact GC) Gg;clear Gg C0 GC Cv QO n1 n2 n3 n4 f1 f2 f3 f4;show Code.wpIn _ _ _ _ _ a6 w6
   have Sq:(AV.int .i64 (i:Int)).aI=.int .i64 (i:Int)/\RV (λ_ _=>True) cd w6 (.int .i64 (i:Int)) (a6.tmps.getD 8 undef):=⟨rfl,by rw[BN];exact .data _ _ (.int _ _)⟩
   refine afc ?_;refine iR hG (n:=50) (p:=5) (l2:=[5]) rfl (by kernel_rfl) (by kernel_rfl) (l:=(tz.qb.qa.dl).take 5) (by kernel_rfl) (by decide) (W:=x_) (by kernel_rfl) (hG wB w6 qF Bd.below) (λ_ _=>True) (eJ s (es++[(i:Int)]) fv n mn (.int .i64 (i:Int))) Aq.size Aq.defers (Bd.dX Aq Sq) (K:=λS' _=>S' 39=.val fv/\S' 41=.int .i64 ((i+1:Nat):Int)/\S' 43=.int .i64 (d:Nat)) ?_ ?_
   .have nk:IntKind.i64.wrap ((i:Int)+1)=i+1:=aN (by omega)
    have np:IntKind.i64.wrap (mn-1)=d:=by rw[aN (by omega)];omega
    simp[c112,mr,qP,tz,af.qa,af.qb,af.dl,eJ,nk,np]
   rintro g S' H' a7 w7 hg R1 ⟨OP,RI,GO⟩ xT;have Nz:=Aq.step R1.size (by rw[R1.defers,hg]<;>rfl) (fC.weaken xT λt ht=>by simp[W6]at ht;simp[x_];omega);have Vr:=Bd.grow (by have:=R1.below;rwa [R1.base]at this);have Ws:a7.tmps.getD 8 undef=.int .i64 (i:Int):=(xT 8 rfl).trans BN;have IV:=R1.slot 39 (by decide) (λh=>h);rw[OP]at IV;have IV:=IV.eU;have Il:=R1.slot 41 (by decide) (λh=>h);rw[RI]at Il;have Il:=Il.int_eq;have tY:=R1.slot 43 (by decide) (λh=>h);rw[GO]at tY;have tY:=tY.int_eq;clear R1 hg xT OP RI GO
   have iJ:ec s.name (es++[(i:Int)])=true:=by rw[DP ho (by rw[si];exact NP) aw Gp];exact pS
   have TW:(zy++gk s d (es++[(i:Int)])).length<=1000:=by
    rw[<-eQ]at hB;simp only[afH,afm]at hB⊢;omega
   have iN:=ih (i+1) (es++[(i:Int)]) zy mz w7 (by unfold kI;simp) (by omega) (by simp;omega) iJ TW Vr;refine eS rfl rfl (by rfl) (f:=112) (args:=#[.int .i64 ((i+1:Nat):Int),.int .i64 (d:Nat),cS,.pointer (some ⟨bN,0,none⟩),.pointer (some ⟨bF,0,none⟩),cR]) (w':=w7) ?_ iN ?_
   .have WJ:a7.eval (.tmp 39)=fv:=IV;have UI:a7.eval (.tmp 41)=.int .i64 ((i+1:Nat):Int):=Il;have VV:a7.eval (.tmp 43)=.int .i64 (d:Nat):=tY;refine(rC (f:=.tmp 39) (x:=.tmp 41) (y:=.tmp 43) w7 rfl rfl rfl (WJ.trans jQ) (by kernel_rfl)).trans ?_;rw[UI,VV]
    rfl
   rintro en w8 ⟨rfl,Rp,UQ,Qx⟩;refine⟨_,rfl,?_⟩;show wpOpsIn _ _ _ _ _ [] (a7.put (some 44) (.tuple #[])) w8
   obtain⟨a8,I_⟩:∃a8,a7.put (some 44) (.tuple #[])=a8:=⟨_,rfl⟩
   have I7:fC x_ a7 a8:=by rw[<-I_];exact fC.put (λt ht=>by cases ht;rfl) _
   have Qa:a8.tmps.size=50:=by rw[<-I_];simp[Act.put,Nz.size]
   have Pv:a8.defers=[]:=by rw[<-I_];exact Nz.defers
   rw[I_];have I5:=Nz.step Qa Pv (fC.weaken I7 λt ht=>by simp[W6]at ht;simp[x_];omega);have Vt:a8.tmps.getD 8 undef=.int .i64 (i:Int):=(I7 8 rfl).trans Ws;show Code.wpIn _ _ _ _ _ a8 w8;obtain⟨u,qG,xF,v8,QD,Jk,f1,f2,f3,f4,n1,n2,n3,n4⟩:=Qx.st
   have LI:Jk.length=(es.length+1)*1:=by have:=n2.1;simpa using this
   refine afq ?_;show wpOpsIn _ _ _ _ _ [0,1,2,3,4,5] a8 w8
   refine EL (P:=prog) (n:=50) (T:=23) (el:=3) (p:=3) (t1:=45) (t2:=46) (t3:=47) (t4:=48) (t5:=49) (bN:=bN) (i:=i3) (iT:=i23) (v:=v8) (ty:=QD) (k:=es.length) (xs:=Jk.take (es.length*1)) (last:=Jk.drop (es.length*1))
    rfl rfl rfl rfl rfl rfl ⟨rfl,rfl,rfl⟩ ⟨rfl,rfl,rfl⟩ ⟨rfl,rfl,rfl⟩ ⟨rfl,rfl,rfl⟩ ⟨rfl,rfl,rfl⟩ ⟨rfl,rfl,rfl⟩ rfl rfl rfl (by kernel_rfl) CO y4 pQ (by decide) I5.size (by decide) I5.t3 n1 (by rw[agA,lr];simpa using n2) (by rw[lr,afJ,LI];omega) (by omega) ?_
   intro a9 v9 Sx Sp Dx Jt Qn BD
   have ke:∀b,b≠bN->(w8.setRow bN #[v9]).heap[b]?=w8.heap[b]?:=λb hb=>af4 w8 bN b #[v9] hb
   have SG:Lv wB Rp bF bN s cS cR fv (zy++gk s d (es++[(i:Int)])) es (w8.setRow bN #[v9]):=by
    refine Qx.c_ ⟨_,n1⟩ ⟨rfl,rfl,rfl,by simp,λb _ hm=>ke b λe=>hm (.inl e)⟩ (agq w8 bN _ #[v9] QD (0,0) n1) (IL:=Jk.take (es.length*1)) (eO (by rw[lr]at BD;exact BD) λb hb=>ke b λe=>by rw[Jt]at hb;have:=(n2.lt b hb).1;omega) ⟨nV es,λj hj k JQ=>?_⟩ λb hb=>.inl (by rw[<-Jt];exact hb)
    have Hd:k=0:=by
     have:=(nV es _ (ae_ hj)).1;omega
    subst Hd
    have wy:j<es.length:=by rw[b_]at hj;exact hj
    have fj:j<(ints (es++[(i:Int)])).length:=by rw[b_];simp;omega
    have jy:(ints (es++[(i:Int)]))[j]=(ints es)[j]:=by
     simp only[ints,afu,afv,afB];exact afz (by simpa using wy)
    obtain⟨x,x1,x2⟩:=n3.2 j fj 0 (by rw[jy];exact JQ);refine⟨x,by rw[agR (by omega)];exact x1,?_⟩;simp only[jy]at x2;exact x2.mono (bz.of_eq λ_ _ h=>h.elim)
   have Kh:fC x_ a8 a9:=λt ht=>by
    have:t<35:=by simp[x_]at ht;omega
    exact Dx t (by omega) (by omega) (by omega) (by omega) (by omega)
   have VZ:=I5.step Sx (Sp.trans I5.defers) (fC.weaken Kh λt ht=>by simp[W6]at ht;simp[x_];omega);have mF:a9.tmps.getD 8 undef=.int .i64 (i:Int):=(Kh 8 rfl).trans Vt;clear BD ke;generalize w8.setRow bN #[v9]=w9 at SG⊢;simp only[Exit.then,Exit.inBlock];refine fin VZ mF SG (λQ5 DT Pp KL QP=>?_) _ _ (by kernel_rfl) (by kernel_rfl) (by kernel_rfl);refine⟨⟨i+1,_,Rp,Pp,KL,by omega,by omega,λb k h=>UQ b k (LX b k h),QP,by rw[<-eQ];simp⟩,?_⟩;rw[KL,h8];show s.name.words.length-((i+1:Nat):Int).toNat<s.name.words.length-(i:Int).toNat;rw[Int.toNat_natCast,Int.toNat_natCast];omega
end Go.Proofs.Tryz
