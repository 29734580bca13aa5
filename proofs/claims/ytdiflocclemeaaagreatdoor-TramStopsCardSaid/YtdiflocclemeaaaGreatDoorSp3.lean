/- A part of the proof. -/
import Derived.Test.YtdiflocclemeaaaGreatDoorSp2
import Derived.Test.YtdiflocclemeaaaGreatDoorTie
import Derived.Test.YtdiflocclemeaaaGreatDoorCards
set_option maxRecDepth 100000
set_option maxHeartbeats 8000000
set_option linter.all false
namespace Go.Proofs.Tryz
open Go Go.AL Go.RowKit Go.Proofs Go.Proofs.Tram
variable{GI:World->Prop}
def qS(a:Act)(d:Nat)(c c':Value):(a.put (some d) c).put (some d) c'=a.put (some d) c':=by
 simp[Act.put]
def TN(s:az):(AV.agg (ar s)).vw=.agg (ar s):=by simp[AV.vw,ar,ae,AV.cT,vI]
def J6{Pr:Nat->Nat->Prop}{w:World}{n:Int}{c:Value}(h:RD Pr w (pL n) c):c=.iface 192 (.agg #[.int .i64 n]):=by
 unfold pL at h
 cases h with
 |iface _ _ c h=>
  cases h with
  |agg _ vs hl h1 hr=>
   obtain⟨u,rfl⟩:=qE (vs:=vs) (by rw[<-hl];rfl);have:=hr 0 (by simp) (by simp);have:=(RV.data (al:=cD) _ _ this).int_eq;simp only[List.getElem_toArray,List.getElem_cons_zero]at this;rw[this]
section
variable{w0:World}{n:Nat}{g:Gh}{S:an}{H:aq}{a:Act}{w:World}{d i2 i6:Nat}{s:az}{z:List AV}
def rX (hG:aw GI) (cj:GI w0) (R:Rel prog w0 n bz g S H a w) (hd:d < n) (wT:i2 < n) (C8:i6 < n) (Du:d≠i6)
  (ub:S i2=.box i2 0) (vf:H i2=some (ar s)) (CP:S i6=.box i6 0) (Gn:H i6=some z) {R':Ending->World->Prop}
  (h:∀(c1:Value)(g1:Gh),g1.old=g.old->Rel prog w0 n bz g1 (au S d (.agg (ar s))) H (a.put (some d) c1) w->GI w->RV (fB g1 false) (λ_=>none) w (bn s) c1->∀(b6:Nat),a.tmps.getD i6 undef=.pointer (some ⟨b6,0,none⟩)->
   ∃RR:Ending->World->Prop,Calls prog 108 #[c1] w RR/\∀en w2,RR en w2->match en with
    |.returned v=>∀ (aC:Act) (o:Oper),aC.eval (.tmp 1) = .pointer (some ⟨b6,0,none⟩)→aC.eval (.tmp 3)=v→o.op = .store 102 (.tmp 1) (.tmp 3) →
      ∃w3,((execOp aC.eval o).run prog w2=.ok .skip w3\/∃u,(execOp aC.eval o).run prog w2=.ok (.value u) w3)/\R' (.returned (.tuple #[])) w3
    |.panicked ch=>R' (.panicked ch) w2
    |.outgrown=>False):
  Calls prog 135 #[a.tmps.getD i2 undef,a.tmps.getD i6 undef] w R':=by
 obtain⟨b2,lu,e2⟩:=lY R wT ub;obtain⟨b6,al6,e6⟩:=lY R C8 CP;have bg:=R.size;have sq:=R.below;rw[R.base]at sq;have gm:GI w:=hG w0 w cj sq;obtain⟨i40,ab_,abh⟩:=iZ 31 15;obtain⟨fs,gv⟩:=uZ 31
 have ky:aD S H (.load .any (eh (.struct fs)) i40.size (.t i2))=some { v:=.agg (ar s) }:=by
  simp[aD,ev,ub,vf,HR.okB,abh,eh,b0,ar,ae,AV.aH,vI]
 obtain ⟨c1,w1,g1,cM,qQ,nx,R1⟩:=Cg R (o:={ dst:=some d,op := .load 31 (.tmp i2),type:=0,pos := "",after := #[],guard:=none }) (x := .tmp i2) (y := .t i2) rfl (λt ht=>by cases ht;exact ⟨hd,id⟩) ab_ gv (by simp [c_,wT]) (λ_ _=>id) ky
 have kv:w1=w:=by
  rcases cM with cM|⟨cM,_⟩
  .exact(pN (P:=prog) (by rfl) cM).1
  .obtain⟨_,v,hv⟩:=pN (P:=prog) (by rfl) cM;cases hv
 subst kv
 have WH:(execOp a.eval { dst:=some d,op := .load 31 (.tmp i2),type:=0,pos := "",after := #[],guard:=none }).run prog w1 = .ok (.value c1) w1:=by
  rcases cM with cM|⟨cM,_⟩
  .exact cM
  .obtain⟨_,v,hv⟩:=pN (P:=prog) (by rfl) cM;cases hv
 have OF:Rel prog w0 n bz g1 (au S d (.agg (ar s))) H (a.put (some d) c1) w1:=R1
 have Zs:∀(a:Act)(d:Nat)(c:Value),d<a.tmps.size->(a.put (some d) c).tmps.getD d undef=c:=λa d c h=>by
  simp[Act.put,h]
 have jm:RV (fB g1 false) (λ_=>none) w1 (bn s) c1:=by
  have h1:=OF.slot d hd id;rw[aK,Zs a d c1 (by omega)]at h1;have:=OF.gM h1 false (by simp[p9]);have e:Go.AL.gM H (.agg (ar s))=.agg (ar s):=TN s;rw[e]at this;exact this
 obtain⟨RR,d_,hRR⟩:=h c1 g1 nx OF gm jm b6 e6;rw[e2,e6];refine afc func135 rfl ?_;refine(fE (m:=0)).1 ?_;refine ia (λa=>a.tmps.size=4/\a.defers=[]/\a.tmps.getD 0 undef=.pointer (some ⟨b2,0,none⟩)/\a.tmps.getD 1 undef=.pointer (some ⟨b6,0,none⟩)) ⟨by simp[ntmps135],rfl,cH _ _ 0 (by simp),cH _ _ 1 (by simp)⟩ ?_;rintro aC ⟨zC,dC,t0,t1⟩
 have jy:∀(a:Act)(d:Nat)(c:Value),a.tmps.size=4->d<4->(a.put (some d) c).tmps.getD d undef=c:=λa d c h hd=>by
  simp[Act.put,h,hd]
 have eY:∀(a:Act)(d t:Nat)(c:Value),t≠d->(a.put (some d) c).tmps.getD t undef=a.tmps.getD t undef:=λa d t c h=>by
  simp[Act.put,acB (adi h)]
 refine ac6 ?_;show wpOpsIn _ _ _ _ _ [0,1,2] aC w1
 have LH:∀o:Oper,o.op=.load 31 (.tmp 0)->(execOp aC.eval o).run prog w1=.ok (.value c1) w1:=by
  intro o ho;have h1:aC.eval (.tmp 0)=a.eval (.tmp i2):=t0.trans e2.symm;rw[<-WH];unfold execOp;simp only[ho,h1]
 refine aV rfl rfl (by rfl) (LH _ rfl) ?_;show wpOpsIn _ _ _ _ _ [1,2] (aC.put (some 2) c1) w1;refine sX rfl rfl (by rfl) (jr (k:=108) (args:=#[c1]) w1 rfl rfl ?_ (by kernel_rfl)) d_ ?_
 .simp only[ado,ac5,adp];show #[(aC.put (some 2) c1).tmps.getD 2 undef]=_;rw[jy _ _ _ zC (by decide)]
 rintro en w2 UG;have:=hRR en w2 UG
 cases en with
 |returned v=>
  show wpOpsIn _ _ _ _ _ [2] ((aC.put (some 2) c1).put (some 3) v) w2
  obtain ⟨w3,hr3,BN⟩:=this ((aC.put (some 2) c1).put (some 3) v) { dst:=none,op := .store 102 (.tmp 1) (.tmp 3),type:=0,pos := "",after := #[],guard:=none }
   (by show((aC.put (some 2) c1).put (some 3) v).tmps.getD 1 undef=_;rw[eY _ _ _ _ (by decide),eY _ _ _ _ (by decide)];exact t1)
   (by show((aC.put (some 2) c1).put (some 3) v).tmps.getD 3 undef=_;exact jy _ _ _ (by simpa[Act.put]using zC) (by decide)) rfl
  have fin:∀u:Value,((aC.put (some 2) c1).put (some 3) v).defers=[]/\∃v',(results f135 ((aC.put (some 2) c1).put (some 3) v).tmps).run prog w3=.ok v' w3/\R' (.returned v') w3:=λu=>⟨dC,.tuple #[],by simp[results,results135],BN⟩
  have fx:∀ o:Oper,o.op = .store 102 (.tmp 1) (.tmp 3)->(execOp ((aC.put (some 2) c1).put (some 3) v).eval o).run prog w2=(execOp ((aC.put (some 2) c1).put (some 3) v).eval { dst:=none,op := .store 102 (.tmp 1) (.tmp 3),type:=0,pos := "",after := #[],guard:=none }).run prog w2:=by
   intro o ho;unfold execOp;simp only[ho]
  rcases hr3 with hr|⟨u,hr⟩
  .exact dU rfl rfl (by rfl) ((fx _ rfl).trans hr) (fin undef)
  .exact aV rfl rfl (by rfl) ((fx _ rfl).trans hr) (fin u)
 |panicked ch=>exact⟨dC,this⟩
 |outgrown=>exact this.elim
def OH (hG:aw GI) (cj:GI w0) (R:Rel prog w0 n bz g S H a w) (hd:d < n) (wT:i2 < n) (C8:i6 < n) (Du:d≠i6)
  (ub:S i2=.box i2 0) (vf:H i2=some (ar s)) (CP:S i6=.box i6 0) (Gn:H i6=some z) (hz:z.length=16) {ns:List Int} (qU:AC prog GI 108 [bn s] (.ret (dv s ns))):
  Calls prog 135 #[a.tmps.getD i2 undef,a.tmps.getD i6 undef] w λe w2=>e=.returned (.tuple #[])/\∃(c:Value)(g':Gh)(S':an)(H':aq),g'.old=g.old/\Rel prog w0 n bz g' S' H' (a.put (some d) c) w2/\(∀t,t≠d->S' t=S t)/\H'=au H i6 (some (bq s ns)):=by
 refine rX hG cj R hd wT C8 Du ub vf CP Gn λc1 g1 lq R1 gm jm b6 e6=>?_
 refine⟨_,qU w (fB g1 false) #[c1] gm rfl (λi h h'=>by
  match i,h with
  |0,_=>exact jm),?_⟩
 rintro en w2 ⟨jK,hi,si,c,rfl,Mw,cI⟩;intro aC o q1 q3 ho;obtain⟨g',qQ,nx,R2⟩:=R1.call (some d) (λt ht=>by cases ht;exact⟨hd,id⟩) false jK si Mw cI (λh=>by cases h);rw[qS]at R2
 have Uo:∀t,t≠d->aY (au S d (.agg (ar s))) (some d) (dv s ns) t=S t:=λt ht=>by simp[AL.aY,au,ht]
 obtain⟨i100,uM,vl⟩:=iZ 102 16
 have iS:bu z 0 ((bq s ns).map AV.aH)=bq s ns:=by
  have:(bq s ns).map AV.aH=bq s ns:=by simp[bq,ar,ae,vI,AV.aH]
  rw[this];simp[bu,hz,bq,ar,ae]
 have ky:aD (aY (au S d (.agg (ar s))) (some d) (dv s ns)) H (.store .any i100.size (.t i6) (.t d))=some { v:=bO,dm:=some d,hw:=some (i6,bq s ns) }:=by
  show aD (aY (au S d (.agg (ar s))) (some d) (.agg (bq s ns))) H (.store .any i100.size (.t i6) (.t d))=_;have e1:ev (aY (au S d (.agg (ar s))) (some d) (.agg (bq s ns))) (.t i6)=.box i6 0:=(Uo i6 (adi Du)).trans CP
  have e2:ev (aY (au S d (.agg (ar s))) (some d) (.agg (bq s ns))) (.t d)=.agg (bq s ns):=by simp[ev,AL.aY,au]
  have hl:(bq s ns).length=16:=by simp[bq,ar,ae]
  simp only[aD,e1,e2,Gn,HR.okB];simp[AV.cells,AV.storable,vl,hl,hz,bG,iS,AV.bZ]
 obtain ⟨c2,w3,g3,cM,QN,A2,R3⟩:=l0 R2 (o:={ dst:=none,op := .store 102 (.tmp i6) (.tmp d),type:=0,pos := "",after := #[],guard:=none }) (x1 := .tmp i6) (x2 := .tmp d) (y1 := .t i6) (y2 := .t d) (hr := .any) rfl rfl uM (by simp [c_,C8]) (by simp [c_,hd]) (λ_ _=>id) (λ_ _=>id) ky;have bg:=R.size
 have f6:(a.put (some d) c).eval (.tmp i6)=.pointer (some ⟨b6,0,none⟩):=by
  show(a.put (some d) c).tmps.getD i6 undef=_;rw[<-e6];simp[Act.put,acB Du]
 have fd:(a.put (some d) c).eval (.tmp d)=c:=by
  show(a.put (some d) c).tmps.getD d undef=_;simp[Act.put,bg,hd]
 have bj:(execOp aC.eval o).run prog w2=(execOp (a.put (some d) c).eval { dst:=none,op := .store 102 (.tmp i6) (.tmp d),type:=0,pos := "",after := #[],guard:=none }).run prog w2:=by
  unfold execOp;simp only[ho,q1,q3,f6,fd]
 refine⟨w3,?_,rfl,c,g3,_,_,by rw[A2,nx,lq],R3,λt ht=>?_,rfl⟩
 .rcases cM with cM|⟨cM,_⟩
  .exact .inr ⟨_,bj.trans cM⟩
  .exact .inl (bj.trans cM)
 .rw[<-Uo t ht];simp[aQ.S,AL.aY,au,ht]
def L7 (hG:aw GI) (cj:GI w0) (R:Rel prog w0 n bz g S H a w) (hd:d < n) (wT:i2 < n) (C8:i6 < n) (Du:d≠i6)
  (ub:S i2=.box i2 0) (vf:H i2=some (ar s)) (CP:S i6=.box i6 0) (Gn:H i6=some z) {k:Int} (qU:AC prog GI 108 [bn s] (.panic (pL k))):
  Calls prog 135 #[a.tmps.getD i2 undef,a.tmps.getD i6 undef] w λe w2=>e=.panicked [{ v:=.iface 192 (.agg #[.int .i64 k]),recovered:=false }]/\Below w.heap.size w w2:=by
 refine rX hG cj R hd wT C8 Du ub vf CP Gn λc1 g1 lq R1 gm jm b6 e6=>?_
 refine⟨_,qU w (fB g1 false) #[c1] gm rfl (λi h h'=>by
  match i,h with
  |0,_=>exact jm),?_⟩
 rintro en w2 ⟨jK,hi,si,c,rfl,cP⟩;have hc:=J6 cP;subst hc;exact⟨rfl,jK⟩
def rO(R:Rel prog w0 n bz g S H a w):g.old.aR w.heap.size=none:=by
 cases h:g.old.aR w.heap.size with
 |none=>rfl
 |some o=>
  have:=(acz.1 (R.kept _ o h).2.1).1;omega
def NT (hG:aw GI) (cj:GI w0) (R:Rel prog w0 n bz g S H a w) (hd:d < n) (wT:i2 < n) (C8:i6 < n) (Du:d≠i6)
  (ub:S i2=.box i2 0) (vf:H i2=some (ar s)) (CP:S i6=.box i6 0) (Gn:H i6=some z) (hz:z.length=16) {ns:List Int} (qU:AC prog GI 108 [bn s] (.ret (dv s ns))):
  Calls prog 119 #[.func (.func 135) #[] #[a.tmps.getD i2 undef,a.tmps.getD i6 undef]] w λe w2=>e=.returned (.int .i64 0)/\∃(c:Value)(g':Gh)(S':an)(H':aq),g'.old=g.old/\Rel prog w0 n bz g' S' H' (a.put (some d) c) w2/\(∀t,t≠d->S' t=S t)/\H'=au H i6 (some (bq s ns)):=by
 have R1:=R.nn (.cells #[.int .i64 0] 34);have uz:=rO R;refine lI (by kernel_rfl) (OH hG cj R1 hd wT C8 Du ub vf CP Gn hz qU) ?_;rintro e w2 ⟨rfl,c,g',S',H',ho,R2,uB,uL⟩
 have hk:g'.old.aR w.heap.size=some (.cells #[.int .i64 0] 34):=by rw[ho];exact aK _ _ _
 have jD:=(R2.kept _ _ hk).2.1;have av:=(acz.1 jD).1;refine⟨av,⟨_,_,jD⟩,.inl ⟨_,rfl,rfl,c,_,S',H',?_,(R2.tN w.heap.size).jR ?_,uB,uL⟩⟩
 .show({ g'.old with aR:=au g'.old.aR w.heap.size none }:Old)=_;rw[ho]
  have:au (au g.old.aR w.heap.size (some (.cells #[.int .i64 0] 34))) w.heap.size none=g.old.aR:=by
   funext b
   by_cases hb:b=w.heap.size
   .subst hb;simp[au,uz]
   .simp[au,hb]
  show({ g.old with aR:=au (au g.old.aR w.heap.size (some (.cells #[.int .i64 0] 34))) w.heap.size none }:Old)=_;rw[this]
 .refine⟨rfl,rfl,rfl,by simp,λk dN=>?_⟩
  by_cases hb:k=w.heap.size
  .subst hb;rw[aer w2 _ _ _ _ _ jD,jD]
  .exact adL w2 _ k _ hb
def LS (hG:aw GI) (cj:GI w0) (R:Rel prog w0 n bz g S H a w) (hd:d < n) (wT:i2 < n) (C8:i6 < n) (Du:d≠i6)
  (ub:S i2=.box i2 0) (vf:H i2=some (ar s)) (CP:S i6=.box i6 0) (Gn:H i6=some z) {k:Int} (qU:AC prog GI 108 [bn s] (.panic (pL k))):
  Calls prog 119 #[.func (.func 135) #[] #[a.tmps.getD i2 undef,a.tmps.getD i6 undef]] w λe w2=>e=.returned (.int .i64 7)/\∃g',g'.old=g.old/\Rel prog w0 n bz g' S H a w2:=by
 have R1:=R.nn (.cells #[.int .i64 0] 34);have uz:=rO R;refine lI (by kernel_rfl) (L7 hG cj R1 hd wT C8 Du ub vf CP Gn qU) ?_;rintro en w2 ⟨rfl,jK⟩;have R2:=R1.jR jK;have hk:au g.old.aR w.heap.size (some (.cells #[.int .i64 0] 34)) w.heap.size=some (.cells #[.int .i64 0] 34):=aK _ _ _;have jD:=(R2.kept _ _ hk).2.1;have av:=(acz.1 jD).1;refine⟨av,⟨_,_,jD⟩,.inr (.inl ⟨k,rfl,λw3 qn=>⟨rfl,?_⟩⟩)⟩;have R3:=R2.jR qn;have E':=(R3.kept _ _ hk).2.1;have R4:=R3.kn hk (.cells #[.int .i64 7] 34);rw[o7 w3 E'];refine⟨_,?_,R4.tN w.heap.size⟩
 have:au (au (au g.old.aR w.heap.size (some (.cells #[.int .i64 0] 34))) w.heap.size (some (.cells #[.int .i64 7] 34))) w.heap.size none=g.old.aR:=by
  funext b
  by_cases hb:b=w.heap.size
  .subst hb;simp[au,uz]
  .simp[au,hb]
 show({ g.old with aR:=au (au (au g.old.aR w.heap.size (some (.cells #[.int .i64 0] 34))) w.heap.size (some (.cells #[.int .i64 7] 34))) w.heap.size none }:Old)=_;rw[this]
end
end Go.Proofs.Tryz
namespace Go.Proofs.Tryz
open Go Go.AL Go.RowKit Go.Proofs Go.Proofs.Tram
attribute [local simp] dP fu fb eu eL dV dW du dp eJ dq cU gG gD aG aD ev aQ.S aQ.H bG au aY AL.start AV.cells AV.storable AV.bZ bu bQ eF b0 HR.okB post cL dc db AV.out AV.bW cy dK fz gM AV.vw da vI int bO aO dE dj iJ jF eo dG bt AV.aH AV.cT
variable{GI:World->Prop}
def zT:az:=⟨[],0,0,0,0,⟨[],[],0,0,0,0,0,[],0,0⟩⟩
def eK(s:az)(b:Bool):List AV:=
 if b then(match eX s.name with|some es=>[dv s (aU s es),.int .i64 0]|none=>[dv zT [],.int .i64 7])else[dv zT [],.int .i64 2]
def km:List AV:=[.slice .nil [],.int .i64 0,.int .i64 0,.int .i64 0,.int .i64 0,.slice .nil [],.slice .nil [],.int .i64 0,.int .i64 0,.int .i64 0,.int .i64 0,.int .i64 0,.slice .nil [],.int .i64 0,.int .i64 0,.slice .nil []]
def IW(hG:aw GI)(s:az):AC prog GI 76 [bn s,.bool false] (.ret (.dR [dv zT [],.int .i64 2])):=by
 obtain⟨i100,uM,vl⟩:=iZ 102 16;obtain⟨fs,gv⟩:=uZ 102;refine cE hG func76 ntmps76 c76 ?_;simp[c76,bn,ar,ae,bV,uM,vl,gv,eh,dv,bq,zT]
 try rfl
def Br(hG:aw GI)(s:az)(hs:gh s):AC prog GI 76 [bn s,.bool (dQ s)] (.ret (.dR (eK s (dQ s)))):=by
 cases hI:dQ s with
 |false=>exact IW hG s
 |true=>
 have SB:=fl hI
 refine AC.jw func76 rfl ntmps76 (by simp) λcc w=>?_
 refine eV hG c76.qa (λS' H'=>S' 1=.bool true/\S' 2=.box 2 0/\H' 2=some (ar s)/\S' 4=.box 4 0/\H' 4=some km) ?_ ?_
 .simp[c76,af.qa,bn,ar,ae,km]
 rintro S1 H1 ⟨s1,s2,h2,s4,h4⟩;refine SW.seq (eV hG c76.qb.qa.qa (λS' H'=>S' 9=.bool false/\S' 2=.box 2 0/\H' 2=some (ar s)/\S' 4=.box 4 0/\H' 4=some km) ?_ ?_)
 .simp[c76,af.qa,af.qb,s1,s2,h2,s4,h4]
 clear s1 s2 h2 s4 h4;rintro S2 H2 ⟨s9,s2,h2,s4,h4⟩;refine SW.cond rfl false (by show S2 9=_;rw[s9]) (SW.skip ?_);show SW prog GI 15 none (.seq _ (.seq _ (.seq _ .ret))) _ _ _ _;refine eV hG c76.qb.qb.qa (λS' H'=>S' 2=.box 2 0/\H' 2=some (ar s)/\S' 4=.box 4 0/\H' 4=some km/\S' 6=.box 6 0/\H' 6=some km) ?_ ?_
 .simp[c76,af.qa,af.qb,s2,h2,s4,h4,km]
 clear s9 s2 h2 s4 h4;rintro S3 H3 ⟨s2,h2,s4,h4,s6,h6⟩
 obtain ⟨l,e,hle,hO,mh⟩:∃ (l:List AV) (e:Int),l.length=16∧eK s true=[(AV.agg (l.map AV.aH)).vw,.int .i64 e] ∧
   ∀(w0:World)(g:Gh)(S:an)(H:aq)(a:Act)(w:World),GI w0->Rel prog w0 15 bz g S H a w->S 2=.box 2 0->H 2=some (ar s)->S 6=.box 6 0->H 6=some km->
    Calls prog 119 #[.func (.func 135) #[] #[a.tmps.getD 2 undef,a.tmps.getD 6 undef]] w λen w2=>en=.returned (.int .i64 e)/\∃(c:Value)(g':Gh)(S':an)(H':aq),g'.old=g.old/\Rel prog w0 15 bz g' S' H' (a.put (some 12) c) w2/\(∀t,t≠12->S' t=S t)/\H'=au H 6 (some l):=by
  cases fw:eX s.name with
  |some es=>
   refine⟨bq s (aU s es),0,by simp[bq,ar,ae],?_,λw0 g S H a w cj R q2 LZ q6 Uw=>NT hG cj R (by decide) (by decide) (by decide) (by decide) q2 LZ q6 Uw rfl (MM hG s hs SB fw)⟩;simp[eK,fw,dv,bq,ar,ae,vI,AV.aH,AV.vw,AV.cT]
  |none=>
   refine⟨km,7,rfl,?_,λw0 g S H a w cj R q2 LZ q6 Uw=>(LS hG cj R (d:=12) (by decide) (by decide) (by decide) (by decide) q2 LZ q6 Uw (D5 hG s hs SB fw)).mono ?_⟩
   .simp[eK,fw,dv,bq,ar,ae,zT,km,vI,ints,AV.aH,AV.vw,AV.cT]
   .rintro en w2 ⟨rfl,g',C7,R'⟩;refine⟨rfl,undef,g',au S 12 .bm,H,C7,R'.put 12 .bm undef (by decide) (.bm _) trivial,λt ht=>aN _ _ ht,?_⟩
    funext k
    by_cases hk:k=6
    .subst hk;rw[aK];exact Uw
    .rw[aN _ _ hk]
 rw[hO]
 refine SW.seq (SW.hand hG (p:=0) (lm:=[0,1]) (l2:=[2]) (js:=[]) (oh:=[_,_]) (lv:=[_]) rfl rfl rfl rfl (by kernel_rfl) (λ_ h=>h) (lO:=[]) (lu:=(c76.qb.qb.qb.qa.dl).drop 2) rfl (by kernel_rfl) rfl (by kernel_rfl)
  (K1:=λS' H'=>S' 2=.box 2 0/\H' 2=some (ar s)/\S' 4=.box 4 0/\H' 4=some km/\S' 6=.box 6 0/\H' 6=some km)
  (K2:=λo S' H'=>o=Old.plain cc w/\S' 4=.box 4 0/\H' 4=some km/\S' 6=.box 6 0/\H' 6=some l/\S' 12=.int .i64 e)
  (K3:=λo S' H'=>o=Old.plain cc w/\S' 4=.box 4 0/\H' 4=some km/\S' 6=.box 6 0/\H' 6=some l/\S' 7=.int .i64 e) ⟨s2,h2,s4,h4,s6,h6⟩ ?_ ?_ ?_)
 .rintro w0 g S5 H5 a w5 m cj ho R ⟨s2,h2,s4,h4,s6,h6⟩;have bg:=R.size;refine aV rfl rfl (by rfl) (nA (fn:=.func 135) (c:=#[.tmp 2,.tmp 6]) rfl) ?_
  obtain⟨fv,lT⟩:∃fv:Value,fv=.func (.func 135) #[] (#[Operand.tmp 2,.tmp 6].map a.eval):=⟨_,rfl⟩
  show wpOpsIn _ _ _ _ _ [1] (a.put (some 11) (.func (.func 135) #[] (#[Operand.tmp 2,.tmp 6].map a.eval))) w5;rw[<-lT];have R1:=R.put 11 .bm fv (by decide) (.bm _) trivial
  obtain⟨a1,pA⟩:∃a1,a.put (some 11) fv=a1:=⟨_,rfl⟩
  rw[pA]at R1⊢
  have Cf:fv=.func (.func 135) #[] #[a1.tmps.getD 2 undef,a1.tmps.getD 6 undef]:=by
   have e1:=bJ a 11 2 fv (by omega);have e4:=bJ a 11 6 fv (by omega);rw[if_neg (by decide),pA]at e1 e4;have CS:a1.tmps.getD 2 undef=a.eval (.tmp 2):=e1;have Lg:a1.tmps.getD 6 undef=a.eval (.tmp 6):=e4;rw[CS,Lg,lT];simp only[ado,ac5,adp]
  have kR:a1.eval (.tmp 11)=fv:=by rw[<-pA,bJ _ _ _ _ (by omega),if_pos rfl]
  refine gE rfl rfl (by rfl) (jr (k:=119) (args:=#[.func (.func 135) #[] #[a1.tmps.getD 2 undef,a1.tmps.getD 6 undef]]) w5 rfl rfl ?_ (by kernel_rfl)) (mh w0 g _ _ a1 w5 cj R1 (by simp[au,s2]) h2 (by simp[au,s6]) h6) ?_
  .simp only[ado,ac5,adp,kR,<-Cf]
  .rintro en w6 ⟨rfl,c,g',S',H',lQ,R2,uB,uL⟩;refine⟨_,rfl,?_⟩;have R3:=R2.put 12 (.int .i64 e) (.int .i64 e) (by decide) (.data _ _ (.int _ _)) trivial;rw[qS]at R3;refine⟨g',_,H',R3,lQ.trans ho,?_,?_,?_,?_,aK _ _ _⟩
   .show au S' 12 _ 4=_;rw[aN _ _ (by decide),uB 4 (by decide)];simp[au,s4]
   .rw[uL,aN _ _ (by decide)];exact h4
   .show au S' 12 _ 6=_;rw[aN _ _ (by decide),uB 6 (by decide)];simp[au,s6]
   .rw[uL];exact aK _ _ _
 .rintro o S5 H5 ⟨rfl,s4,h4,s6,h6,cJ⟩;refine⟨λ_ h=>h,?_⟩;simp[c76,af.qa,af.qb,af.dl,bw,aG,bh,aD,ev,aQ.S,aQ.H,au,aY,s4,h4,s6,h6,cJ,AV.aH,bG]
 .rintro o S5 H5 ⟨rfl,s4,h4,s6,h6,s7⟩;show SW prog GI 15 none (.seq _ .ret) _ _ _ _;have hT:List.take 16 (l.map AV.aH)=l.map AV.aH:=acQ (by simp;omega);refine eV hG c76.qb.qb.qb.qb.qa (λS' H'=>S' 4=.box 4 0/\H' 4=some (l.map AV.aH)/\S' 5=.int .i64 e) ?_ ?_
  .simp[c76,af.qa,af.qb,s4,h4,s6,h6,s7,hle,hT,km,iD]
  rintro S6 H6 ⟨s4,h4,s5⟩;obtain⟨i100,uM,vl⟩:=iZ 102 16;obtain⟨fs,gv⟩:=uZ 102;refine SW.ret ⟨eA.plain rfl,rfl,_,?_,rfl⟩;show cL prog 15 [.cell 4 102,.tmp 5] S6 H6=_;simp[cL,dc,db,s4,h4,s5,uM,gv,vl,b0,eh,hle,hT,iD,AV.out,AV.bW]
  try rfl
def lP(e:Nat)(s:az)(ao:List Int):Nat:=eI ao (ec (bo e s)) (ez (dk s) s.cells.length)
def ka{s:az}(h:eG s){es:List End}(he:es.length<=3):(∀x∈aU s es,0<=x/\x<=1000)/\(aU s es).length<=1000:=by
 refine⟨λx hx=>?_,?_⟩
 .obtain⟨i,hi,rfl⟩:=acZ.1 hx
  have:=tf h he (i:=i) (by
   unfold ct;split
   .rename_i x hx;obtain⟨av,rfl⟩:=acT.1 hx;exact(lV h.name (acy av)).uy
   .omega)
  omega
 .have:=(eM h.name).words;simp[aU];omega
def o9{s:az}(h:eG s)(e:Nat):(bo e s).length=s.cells.length/\∀x∈bo e s,0<=x/\x<=1000:=by
 refine⟨by simp[bo],λx hx=>?_⟩;obtain⟨c,hc,rfl⟩:=acZ.1 hx;have:=h.th c hc;unfold mA
 split<;>omega
def yy(hG:aw GI)(s:az)(h:eG s)(ao:List Int)(hn:(∀x∈ao,0<=x/\x<=1000)/\ao.length<=1000)(e:Nat):AC prog GI 92 [dv s ao,vI (bo e s)] (.ret (.int .i64 (lP e s ao))):=
 Tg hG s h ao hn.1 hn.2 (bo e s) (o9 h e).1 (o9 h e).2
def Ks(hG:aw GI)(s:az)(h:eG s)(ao:List Int)(hn:(∀x∈ao,0<=x/\x<=1000)/\ao.length<=1000):AC prog GI 107 [dv s ao] (.ret (.bool (decide (lP 0 s ao=ao.length)))):=by
 have Sc:=IS hG s (by have:=h.cells;omega) 0 (.inl rfl);have FJ:=yy hG s h ao hn 0;refine cE hG func107 ntmps107 c107 ?_;simp[c107,dv,bq,ar,ae];refine oc Sc ?_;simp;refine oc FJ ?_;simp;rw[adE];simp;omega
def nU(e:Nat)(s:az):List AV:=
 if dQ s then(match eX s.name with|some es=>[.int .i64 (lP e s (aU s es)),.int .i64 0]|none=>[.int .i64 0,.int .i64 7])else[.int .i64 0,.int .i64 2]
def j_ (s:az):(dQ s=true∧∃ es,eX s.name=some es∧eK s (dQ s)=[dv s (aU s es),.int .i64 0]) ∨
  (∃e:Int,e≠0/\eK s (dQ s)=[dv zT [],.int .i64 e]/\∀k,nU k s=[.int .i64 0,.int .i64 e]):=by
 cases hI:dQ s with
 |false=>exact .inr ⟨2,by decide,by simp[eK],λk=>by simp[nU,hI]⟩
 |true=>
  cases hs:eX s.name with
  |some es=>exact .inl ⟨rfl,es,rfl,by simp[eK,hs]⟩
  |none=>exact .inr ⟨7,by decide,by simp[eK,hs],λk=>by simp[nU,hI,hs]⟩
def aaS(hG:aw GI)(s:az)(hs:gh s):AC prog GI 34 [bn s] (.ret (.dR (nU 0 s))):=by
 have JY:=rZ hG s hs;have vn:=Br hG s hs
 rcases j_ s with⟨hI,es,fw,ho⟩|⟨e,he,ho,zV⟩
 .rw[ho]at vn;have hg:=fl hI;have Sc:=IS hG s (by have:=hg.cells;omega) 0 (.inl rfl);have FJ:=yy hG s hg _ (ka hg (iq hg.name fw)) 0
  have zV:nU 0 s=[.int .i64 (lP 0 s (aU s es)),.int .i64 0]:=by simp[nU,hI,fw]
  rw[zV];refine cE hG func34 ntmps34 c34 ?_;simp[c34,bn,ar,ae];refine oc JY ?_;simp;refine oc vn ?_;simp[dv,bq,ar,ae,bV];refine oc Sc ?_;simp;refine oc FJ ?_;simp
 .rw[ho]at vn;rw[zV]
  have mS:(e !=0)=true:=by simpa using he
  refine cE hG func34 ntmps34 c34 ?_;simp[c34,bn,ar,ae];refine oc JY ?_;simp;refine oc vn ?_;simp[dv,bq,ar,ae,zT,bV,he,mS]
def aai(hG:aw GI)(s:az)(hs:gh s):AC prog GI 35 [bn s] (.ret (.dR (nU 1 s))):=by
 have JY:=rZ hG s hs;have vn:=Br hG s hs
 rcases j_ s with⟨hI,es,fw,ho⟩|⟨e,he,ho,zV⟩
 .rw[ho]at vn;have hg:=fl hI;have Sc:=IS hG s (by have:=hg.cells;omega) 1 (.inr rfl);have FJ:=yy hG s hg _ (ka hg (iq hg.name fw)) 1
  have zV:nU 1 s=[.int .i64 (lP 1 s (aU s es)),.int .i64 0]:=by simp[nU,hI,fw]
  rw[zV];refine cE hG func35 ntmps35 c35 ?_;simp[c35,bn,ar,ae];refine oc JY ?_;simp;refine oc vn ?_;simp[dv,bq,ar,ae,bV];refine oc Sc ?_;simp;refine oc FJ ?_;simp
 .rw[ho]at vn;rw[zV]
  have mS:(e !=0)=true:=by simpa using he
  refine cE hG func35 ntmps35 c35 ?_;simp[c35,bn,ar,ae];refine oc JY ?_;simp;refine oc vn ?_;simp[dv,bq,ar,ae,zT,bV,he,mS]
def atR(s:az)(r:Nat):az:={ s with reach:=r }
def N_{s:az}(h:eG s){r:Nat}(h1:1<=r)(h2:r<=12):eG (atR s r):=⟨h.cells,h.th,h.pos,⟨by show(1:Int)<=(r:Int);omega,by show(r:Int)<=12;omega⟩,h.eW,h.dS,h.name⟩
def B9(s:az)(ao:List Int)(r:Nat):Bool:=decide (lP 0 (atR s r) ao=ao.length)
def DW(s:az):List AV:=
 if dQ s then(match eX s.name with|some es=>(match(List.range' 1 12).find? (B9 s (aU s es))with|some r=>[.int .i64 (r:Nat),.int .i64 0]|none=>[.int .i64 0,.int .i64 5])|none=>[.int .i64 0,.int .i64 7])else[.int .i64 0,.int .i64 2]
def Mc{p:Nat->Bool}{r n:Nat}(h1:1<=r)(h2:r<=n)(hp:p r=true)(hb:∀k,1<=k->k<r->p k=false):(List.range' 1 n).find? p=some r:=by
 rw[show n=(r-1)+(n-(r-1)) by omega,<-ae7,List.find?_append]
 have h0:(List.range' 1 (r-1)).find? p=none:=by
  rw[aeE];intro x hx;have:=aeK.1 hx;rw[hb x this.1 (by omega)];simp
 rw[h0,Option.none_or,show n-(r-1)=(n-r)+1 by omega,ad_,List.find?_cons];rw[show 1+(r-1)=r by omega,hp]
def C_{p:Nat->Bool}{n:Nat}(hb:∀k,1<=k->k<=n->p k=false):(List.range' 1 n).find? p=none:=by
 rw[aeE];intro x hx;have:=aeK.1 hx;rw[hb x this.1 (by omega)];simp
def aa4(hG:aw GI)(s:az)(hs:gh s):AC prog GI 44 [bn s] (.ret (.dR (DW s))):=by
 have JY:=rZ hG s hs;have vn:=Br hG s hs
 rcases j_ s with⟨hI,es,fw,ho⟩|⟨e,he,ho,zV⟩
 .rw[ho]at vn;have hg:=fl hI;have hn:=ka hg (iq hg.name fw)
  have Lz:DW s=(match(List.range' 1 12).find? (B9 s (aU s es))with|some r=>[.int .i64 (r:Nat),.int .i64 0]|none=>[.int .i64 0,.int .i64 5]):=by simp[DW,hI,fw]
  rw[Lz];generalize aU s es=ao at vn hn⊢;refine cE hG func44 ntmps44 c44 ?_;simp[c44,bn,ar,ae];refine oc JY ?_;simp;refine oc vn ?_;simp[dv,bq,ar,ae,bV];refine⟨λS H=>∃r:Nat,1<=r/\r<=13/\S 4=.box 4 0/\H 4=some (bq (atR s r) ao)/\∀k,1<=k->k<r->B9 s ao k=false,λ_ H=>match H 4 with|some (_::_::.int _ r::_)=>(13-r).toNat|_=>0,⟨1,acD _,by decide,?_⟩,?_⟩
  .simp[bq,ar,ae,atR];intro k h1 h2;omega
  rintro S H ⟨r,Is,hr2,s4,h4,hb⟩
  by_cases hle:r<=12
  case neg=>
   have hr:r=13:=by omega
   subst hr;rw[C_ λk h1 h2=>hb k h1 (by omega)];simp[bq,ar,ae,atR,s4,h4]
  have zd:(r:Int)<=12:=by omega
  have T8:=Ks hG (atR s r) (N_ hg Is hle) ao hn
  cases hf:B9 s ao r with
  |true=>
   unfold B9 at hf;rw[hf]at T8;rw[Mc Is hle (show B9 s ao r=true from hf) hb];simp[bq,ar,ae,atR,s4,h4,zd];refine oc T8 ?_;simp[bq,ar,ae,atR,s4,h4]
  |false=>
   have Aa:=hf;unfold B9 at Aa;rw[Aa]at T8;have hw:IntKind.i64.wrap ((r:Int)+1)=r+1:=aP (by omega);simp[bq,ar,ae,atR,s4,h4,zd];refine oc T8 ?_;simp[bq,ar,ae,atR,s4,h4,hw];refine⟨⟨r+1,by omega,by omega,by omega,λk h1 h2=>?_⟩,by omega⟩
   by_cases hk:k=r
   .rw[hk];exact hf
   .exact hb k h1 (by omega)
 .rw[ho]at vn
  have zU:DW s=[.int .i64 0,.int .i64 e]:=by
   have:=zV 0;unfold nU at this;unfold DW
   cases hI:dQ s with
   |false=>simpa[hI]using this
   |true=>
    cases fw:eX s.name with
    |none=>simpa[hI,fw]using this
    |some es=>simp[hI,fw,eK]at ho;exact absurd ho.2.symm he
  rw[zU]
  have mS:(e !=0)=true:=by simpa using he
  refine cE hG func44 ntmps44 c44 ?_;simp[c44,bn,ar,ae];refine oc JY ?_;simp;refine oc vn ?_;simp[dv,bq,ar,ae,zT,bV,he,mS]
def L8(hG:aw GI)(s:az)(hs:gh s)(b:Bool):AC prog GI 76 [bn s,.bool (dQ s&&b)] (.ret (.dR (eK s (dQ s&&b)))):=by
 cases b with
 |true=>rw[agm];exact Br hG s hs
 |false=>
  rw[Bool.and_false];have:=IW hG s;simpa[eK]using this
def oQ (s:az) (b:Bool):(dQ s=true∧b=true∧∃ es,eX s.name=some es∧eK s (dQ s && b)=[dv s (aU s es),.int .i64 0]) ∨
  (dQ s&&b)=false/\eK s (dQ s&&b)=[dv zT [],.int .i64 2]\/dQ s=true/\b=true/\eX s.name=none/\eK s (dQ s&&b)=[dv zT [],.int .i64 7]:=by
 cases hI:(dQ s&&b)with
 |false=>exact .inr (.inl ⟨rfl,by simp[eK]⟩)
 |true=>
  rw[acA]at hI
  cases hs:eX s.name with
  |some es=>exact .inl ⟨hI.1,hI.2,es,rfl,by simp[eK,hs]⟩
  |none=>exact .inr (.inr ⟨hI.1,hI.2,rfl,by simp[eK,hs]⟩)
def tR(s:az):List AV:=if dQ s then(match eX s.name with|some es=>[vI (aU s es),.int .i64 0]|none=>[vI [],.int .i64 7])else[vI [],.int .i64 2]
def Zz(hG:aw GI)(s:az)(hs:gh s):AC prog GI 23 [bn s] (.ret (.dR (tR s))):=by
 have nP:=rZ hG s hs;have kc:=L8 hG s hs true
 have key:∃t:az,∃l:List Int,∃e:Int,eK s (dQ s&&true)=[dv t l,.int .i64 e]/\tR s=[vI l,.int .i64 e]:=by
  rcases oQ s true with⟨h1,_,es,h2,h3⟩|⟨h1,h3⟩|⟨h1,_,h2,h3⟩
  .exact⟨_,_,_,h3,by simp[tR,h1,h2]⟩
  .rw[agm]at h1;exact⟨_,_,_,h3,by simp[tR,h1]⟩
  .exact⟨_,_,_,h3,by simp[tR,h1,h2]⟩
 obtain⟨t,l,e,h3,h4⟩:=key;rw[h3,agm]at kc;rw[h4];refine cE hG func23 ntmps23 c23 ?_;simp[c23,bn,ar,ae];refine oc nP ?_;simp;refine oc kc ?_;simp[dv,bq,ar,ae,bV]
def mN(s:az)(l:List Int):Bool:=decide (l.length=s.cells.length)&&(l.zip s.cells).all λx=>cG x.1 x.2.lo x.2.hi
def wc{α β:Type}(p:α×β->Bool):∀(l:List α)(m:List β),l.length=m.length->((l.zip m).all p=true↔∀i (h:i<l.length)(h':i<m.length),p (l[i],m[i])=true)
 |[],[],_=>by simp
 |a::l,b::m,h=>by
  rw[List.zip_cons_cons,List.all_cons,acA,wc p l m (by simpa using h)]
  constructor
  .rintro⟨h1,h2⟩ i hi cQ
   cases i with
   |zero=>exact h1
   |succ i=>exact h2 i (by simpa using hi) (by simpa using cQ)
  .intro hh;exact⟨hh 0 (by simp) (by simp),λi hi cQ=>hh (i+1) (by simpa using hi) (by simpa using cQ)⟩
 |[],_::_,h=>by simp at h
 |_::_,[],h=>by simp at h
def aal(hG:aw GI)(s:az)(hs:s.cells.length<1000000)(l:List Int)(hl:l.length<1000000):AC prog GI 91 [bn s,vI l] (.ret (.bool (mN s l))):=by
 refine cE hG func91 ntmps91 c91 ?_;refine aI (λS H=>S 1=vI l/\S 2=.box 2 0/\H 2=some (ar s)) (by simp[bn,ar,ae]) ?_;rintro S H ⟨s1,s2,h2⟩;simp[s1,s2,h2];refine bC 9 l.length (λi S H=>S 1=vI l/\S 2=.box 2 0/\H 2=some (ar s)/\S 7=vI l/\S 8=.int .i64 l.length/\S 9=.int .i64 (i:Nat)/\∀j (h:j<l.length),j<i->∃h':j<s.cells.length,cG l[j] s.cells[j].lo s.cells[j].hi=true) (λi S H h=>h.2.2.2.2.2.1) ⟨by simp[s1],by simp[s2],by simp[h2],by simp[s1],by simp,by simp,by simp⟩ ?_;clear s1 s2 h2 S H;rintro i hi S H ⟨s1,s2,h2,s7,s8,s9,hb⟩
 by_cases av:i<l.length
 .have hw:IntKind.i64.wrap ((i:Int)+1)=i+1:=aP (by omega)
  have hn:¬(i:Int)<0:=by omega
  by_cases hc:i<s.cells.length
  case neg=>
   have mU:(s.cells.length:Int)<=i:=by omega
   have hr:mN s l=false:=by
    unfold mN
    rw[aeh (by omega)]<;>rfl
   simp[s1,s2,h2,s7,s8,s9,av,hn,mU,hr,ar,ae]
  have mU:¬(s.cells.length:Int)<=i:=by omega
  simp[s1,s2,h2,s7,s8,s9,av,hn,hc,mU,fo,ar,ae];refine oc (uo hG _ _ _) ?_;cases lz:cG l[i] s.cells[i].lo s.cells[i].hi
  .have hr:mN s l=false:=by
    unfold mN
    by_cases Gp:l.length=s.cells.length
    .have:¬ ((l.zip s.cells).all fun x=>cG x.1 x.2.lo x.2.hi)=true:=fun h=>by
      have:=(wc _ l s.cells Gp).1 h i av hc;rw[lz]at this;cases this
     simp only[ad8]at this;rw[this,Bool.and_false]
    .rw[aeh Gp]<;>rfl
   simp[s1,s2,h2,s7,s8,s9,hr]
  .simp[s1,s2,h2,s7,s8,s9,hw,ar,ae];intro j hj fh
   by_cases e:j=i
   .subst e;exact⟨hc,lz⟩
   .exact hb j hj (by omega)
 .have cN:i=l.length:=by omega
  subst cN
  have hr:mN s l=decide (l.length=s.cells.length):=by
   unfold mN
   by_cases Gp:l.length=s.cells.length
   .rw[adX Gp,afa]
    exact(wc _ l s.cells Gp).2 λi h h'=>let⟨_,q⟩:=hb i h h;q
   .rw[aeh Gp,Bool.false_and]
  simp[s1,s2,h2,s7,s8,s9,hr,ar,ae];rw[adE];simp;omega
def Jf{s:az}(h:eG s){l:List Int}(hr:mN s l=true):l.length=s.cells.length/\(∀x∈l,1<=x/\x<=20)/\∀i (h:i<l.length)(h':i<s.cells.length),s.cells[i].lo<=l[i]/\l[i]<=s.cells[i].hi:=by
 unfold mN at hr;rw[acA,acJ]at hr;have h2:=(wc _ l s.cells hr.1).1 hr.2
 have h3:∀i (h:i<l.length)(h':i<s.cells.length),s.cells[i].lo<=l[i]/\l[i]<=s.cells[i].hi:=λi hi cQ=>by
  have:=h2 i hi cQ;simpa[cG]using this
 refine⟨hr.1,λx hx=>?_,h3⟩;obtain⟨i,hi,rfl⟩:=adm hx;have:=h3 i hi (by omega);have:=h.th _ (acy (show i<s.cells.length by omega));omega
def ru(s:az)(ao bb:List Int):Nat:=eI ao (ec bb) (ez (dk s) s.cells.length)
def uH(s:az)(l:List Int):List AV:=
 if dQ s&&mN s l then(match eX s.name with|some es=>[.int .i64 (ru s (aU s es) l),.int .i64 0]|none=>[.int .i64 0,.int .i64 7])else[.int .i64 0,.int .i64 2]
def aau(hG:aw GI)(s:az)(hs:gh s)(l:List Int)(hl:l.length<1000000):AC prog GI 29 [bn s,vI l] (.ret (.dR (uH s l))):=by
 have nP:=rZ hG s hs;have Zc:=aal hG s hs.cells l hl;have kc:=L8 hG s hs (mN s l);rcases oQ s (mN s l)with⟨h1,h0,es,h2,h3⟩|h3
 .have hg:=fl h1;obtain⟨r1,r2,_⟩:=Jf hg h0;have hn:=ka hg (iq hg.name h2);have ER:=Tg hG s hg _ hn.1 hn.2 l r1 (λx hx=>by have:=r2 x hx;omega)
  have ho:uH s l=[.int .i64 (ru s (aU s es) l),.int .i64 0]:=by simp[uH,h1,h0,h2]
  rw[h3,h1,h0]at kc;rw[ho];rw[h1]at nP;rw[h0]at Zc;refine cE hG func29 ntmps29 c29 ?_;simp[c29,bn,ar,ae];refine oc nP ?_;simp;refine oc Zc ?_;simp;refine oc kc ?_;simp[dv,bq,ar,ae,bV];refine oc ER ?_;simp[ru]
 .have key:∃ e:Int,e≠0∧eK s (dQ s && mN s l)=[dv zT [],.int .i64 e]∧uH s l=[.int .i64 0,.int .i64 e]:=by
   rcases h3 with⟨h1,h3⟩|⟨h1,h0,h2,h3⟩
   .exact⟨2,by decide,h3,by simp[uH,h1]⟩
   .exact⟨7,by decide,h3,by simp[uH,h1,h0,h2]⟩
  obtain⟨e,he,h3,h4⟩:=key
  have mS:(e !=0)=true:=by simpa using he
  rw[h3]at kc;rw[h4];refine cE hG func29 ntmps29 c29 ?_;simp[c29,bn,ar,ae];refine oc nP ?_;cases hI:dQ s
  .rw[hI]at kc;simp;refine oc kc ?_;simp[dv,bq,ar,ae,zT,bV,he,mS]
  .rw[hI]at kc;simp;refine oc Zc ?_;simp;refine oc kc ?_;simp[dv,bq,ar,ae,zT,bV,he,mS]
def Mm(s:az)(ao:List Int)(w:Int):Int:=if w<(lP 0 s ao:Nat)then 3 else if w<(lP 1 s ao:Nat)then 2 else 1
def xT(s:az)(w:Int):Bool:=cG w 0 (s.name.words.length-1)
def qP(s:az)(w:Int):List AV:=
 if dQ s&&xT s w then(match eX s.name with|some es=>[.int .i64 (Mm s (aU s es) w),.int .i64 0]|none=>[.int .i64 0,.int .i64 7])else[.int .i64 0,.int .i64 2]
def abI(hG:aw GI)(s:az)(hs:gh s)(w:Int):AC prog GI 36 [bn s,.int .i64 w] (.ret (.dR (qP s w))):=by
 have nP:=rZ hG s hs;have kc:=L8 hG s hs (xT s w)
 have rI:IntKind.i64.wrap ((s.name.words.length:Int)-1)=(s.name.words.length:Int)-1:=by
  have:=hs.name.words;exact aP (by omega)
 rcases oQ s (xT s w)with⟨h1,h0,es,h2,h3⟩|h3
 .have hg:=fl h1;have hn:=ka hg (iq hg.name h2)
  have NP:∀e,e=0\/e=1->_:=λe he=>IS hG s (by have:=hg.cells;omega) e he
  have Zo:=NP 0 (.inl rfl);have abF:=NP 1 (.inr rfl);have abS:=yy hG s hg _ hn 0;have Z4:=yy hG s hg _ hn 1
  have ho:qP s w=[.int .i64 (Mm s (aU s es) w),.int .i64 0]:=by simp[qP,h1,h0,h2]
  rw[h3,h1,h0]at kc;rw[ho];rw[h1]at nP;have BF:=h0;unfold xT at BF;refine cE hG func36 ntmps36 c36 ?_;simp[c36,bn,ar,ae];refine oc nP ?_;simp[rI];refine oc (uo hG _ _ _) ?_;simp[BF];refine oc kc ?_;simp[dv,bq,ar,ae,bV];refine oc Zo ?_;simp;refine oc abS ?_;unfold Mm
  by_cases c1:w<(lP 0 s (aU s es):Nat)
  .simp[c1]
  simp[c1];refine oc abF ?_;simp;refine oc Z4 ?_
  by_cases c2:w<(lP 1 s (aU s es):Nat)
  .simp[c2]
  .simp[c2]
 .have key:∃ e:Int,e≠0∧eK s (dQ s && xT s w)=[dv zT [],.int .i64 e]∧qP s w=[.int .i64 0,.int .i64 e]:=by
   rcases h3 with⟨h1,h3⟩|⟨h1,h0,h2,h3⟩
   .exact⟨2,by decide,h3,by simp[qP,h1]⟩
   .exact⟨7,by decide,h3,by simp[qP,h1,h0,h2]⟩
  obtain⟨e,he,h3,h4⟩:=key
  have mS:(e !=0)=true:=by simpa using he
  rw[h3]at kc;rw[h4];refine cE hG func36 ntmps36 c36 ?_;simp[c36,bn,ar,ae];refine oc nP ?_;cases hI:dQ s
  .rw[hI]at kc;simp;refine oc kc ?_;simp[dv,bq,ar,ae,zT,bV,he,mS]
  .rw[hI]at kc;simp[rI];refine oc (uo hG _ _ _) ?_;unfold xT at kc;simp;refine oc kc ?_;simp[dv,bq,ar,ae,zT,bV,he,mS]
def tu(s:az)(e:Int)(he:e≠0)(ho:eK s (dQ s)=[dv zT [],.int .i64 e]):(dQ s=false/\e=2)\/(dQ s=true/\eX s.name=none/\e=7):=by
 cases hI:dQ s with
 |false=>left;simp[eK,hI]at ho;exact⟨rfl,ho.symm⟩
 |true=>
  cases hs:eX s.name with
  |none=>right;simp[eK,hI,hs]at ho;exact⟨rfl,rfl,ho.symm⟩
  |some es=>simp[eK,hI,hs]at ho;exact absurd ho.2.symm he
def wg(s:az)(p:Nat):az:={ s with eW:=p }
def OM{s:az}(h:eG s){p:Nat}(h1:1<=p)(h2:p<=9):eG (wg s p):=⟨h.cells,h.th,h.pos,h.reach,⟨by show(1:Int)<=(p:Int);omega,by show(p:Int)<=9;omega⟩,h.dS,h.name⟩
def xQ(s:az)(es:List End)(p:Nat):Bool:=decide (lP 0 (wg s p) (aU (wg s p) es)=(aU (wg s p) es).length)
def xL:List Nat:=[9,8,7,6,5,4,3,2,1]
def ve(s:az):List AV:=
 if dQ s then(match eX s.name with|some es=>(match xL.find? (xQ s es)with|some r=>[.int .i64 (r:Nat),.int .i64 0]|none=>[.int .i64 0,.int .i64 5])|none=>[.int .i64 0,.int .i64 7])else[.int .i64 0,.int .i64 2]
def Ge{p:Nat->Bool}{r:Nat}(h1:1<=r)(h2:r<=9)(hp:p r=true)(hb:∀k,r<k->k<=9->p k=false):xL.find? p=some r:=by
 have:r=1\/r=2\/r=3\/r=4\/r=5\/r=6\/r=7\/r=8\/r=9:=by omega
 unfold xL;rcases this with rfl|rfl|rfl|rfl|rfl|rfl|rfl|rfl|rfl
 all_goals (repeat rw[List.find?_cons]);simp[hp,hb]
def JN{p:Nat->Bool}(hb:∀k,0<k->k<=9->p k=false):xL.find? p=none:=by
 rw[aeE];intro x hx
 have:0<x/\x<=9:=by simp[xL]at hx;omega
 rw[hb x this.1 this.2];simp
def Zx(hG:aw GI)(s:az)(hs:gh s):AC prog GI 45 [bn s] (.ret (.dR (ve s))):=by
 have nP:=rZ hG s hs;have kc:=Br hG s hs
 rcases j_ s with⟨hI,es,fw,ho⟩|⟨e,he,ho,zV⟩
 .rw[ho]at kc;have hg:=fl hI
  have Lz:ve s=(match xL.find? (xQ s es)with|some r=>[.int .i64 (r:Nat),.int .i64 0]|none=>[.int .i64 0,.int .i64 5]):=by simp[ve,hI,fw]
  rw[Lz];generalize aU s es=ao at kc;refine cE hG func45 ntmps45 c45 ?_;simp[c45,bn,ar,ae];refine oc nP ?_;simp;refine oc kc ?_;simp[dv,bq,ar,ae,bV];refine⟨λS H=>∃r:Nat,r<=9/\S 1=.box 1 0/\H 1=some (ar (wg s r))/\∀k,r<k->k<=9->xQ s es k=false,λ_ H=>match H 1 with|some (_::_::_::.int _ r::_)=>r.toNat|_=>0,⟨9,?_⟩,?_⟩
  .simp[ar,ae,wg];intro k h1 h2;omega
  rintro S H ⟨r,hr,s1,h1,hb⟩
  by_cases h0:r=0
  .subst h0;rw[JN hb];simp[ar,ae,wg,s1,h1]
  have Is:1<=r:=by omega
  have fI:0<r:=by omega
  have C7:=OM hg Is hr;have xr:=ka C7 (iq C7.name fw);have Es:=MM hG (wg s r) ⟨hs.cells,hs.name⟩ C7 (es:=es) fw;have D4:=Ks hG (wg s r) C7 (aU (wg s r) es) xr
  cases hf:xQ s es r with
  |true=>
   have Aa:=hf;unfold xQ at Aa;rw[Aa]at D4;rw[Ge Is hr hf hb];simp[ar,ae,wg,s1,h1,fI];refine oc Es ?_;simp[dv,bq,ar,ae];refine oc D4 ?_;simp[ar,ae,wg,s1,h1]
  |false=>
   have Aa:=hf;unfold xQ at Aa;rw[Aa]at D4
   have hw:IntKind.i64.wrap ((r:Int)-1)=((r-1:Nat):Int):=by rw[aP (by omega)];omega
   simp[ar,ae,wg,s1,h1,fI];refine oc Es ?_;simp[dv,bq,ar,ae];refine oc D4 ?_;simp[ar,ae,wg,s1,h1,hw];refine⟨⟨r-1,by omega,rfl,λk q1 q2=>?_⟩,by omega⟩
   by_cases hk:k=r
   .rw[hk];exact hf
   .exact hb k (by omega) q2
 .rw[ho]at kc
  have zU:ve s=[.int .i64 0,.int .i64 e]:=by
   rcases tu s e he ho with⟨h1,rfl⟩|⟨h1,h2,rfl⟩
   .simp[ve,h1]
   .simp[ve,h1,h2]
  rw[zU]
  have mS:(e !=0)=true:=by simpa using he
  refine cE hG func45 ntmps45 c45 ?_;simp[c45,bn,ar,ae];refine oc nP ?_;simp;refine oc kc ?_;simp[dv,bq,ar,ae,zT,bV,he,mS]
def YF(hG:aw GI)(a b:End):AC prog GI 111 [a_ a,a_ b] (.ret (.bool (decide (b.2<a.2)))):=by
 refine cE hG func111 ntmps111 c111 ?_;simp[c111,a_]
def kW(x:End)(l:List End):End:=l.foldl (λo y=>if o.2<y.2 then y else o) x
def Fk(x:End)(l:List End){i:Nat}(h:i<l.length):kW x (l.take (i+1))=if(kW x (l.take i)).2<l[i].2 then l[i]else kW x (l.take i):=by
 unfold kW;rw[afq,acx h,adk]
 rfl
def YQ(hG:aw GI)(x:End)(l:List End)(hl:l.length<1000000):AC prog GI 110 [.slice .view (aS (x::l)),.func (.func 111) [] []] (.ret (a_ (kW x l))):=by
 obtain⟨iT,QM,Qo⟩:=iZ 138 2;obtain⟨fs,gv⟩:=uZ 138;have b_:aJ 2 (aS (x::l))=true:=sB (x::l);refine cE hG func110 ntmps110 c110 ?_;refine aI (λS H=>S 0=.slice .view (aS (x::l))/\S 1=.func (.func 111) [] []/\S 4=.box 4 0/\H 4=some [.int .i64 0,.int .i64 0]) (by simp) ?_;rintro S H ⟨s0,s1,s4,h4⟩;refine aI (λS H=>S 0=.slice .view (aS (x::l))/\S 1=.func (.func 111) [] []/\S 4=.box 4 0/\H 4=some [.int .i64 0,.int .i64 0]/\S 5=.box 5 0/\H 5=some [.int .i64 x.1,.int .i64 x.2]) (by simp[s0,s1,s4,h4,aS,a_,bV]) ?_;clear s0 s1 s4 h4 S H;rintro S H ⟨s0,s1,s4,h4,s5,h5⟩
 have hd:(aS (x::l)).drop 1=aS l:=by simp[aS]
 have hlen:(aS (x::l)).length=l.length+1:=by simp[aS]
 have AY:(1:Int)<=(l.length:Int)+1:=by omega
 have oy:List.take (l.length+1) (aS (x::l))=aS (x::l):=acQ (by omega);generalize aS (x::l)=L at s0 hd hlen oy b_
 have Wz:((l.length:Int)+1).toNat=l.length+1:=by omega
 simp[bound,s0,s1,s4,h4,s5,h5,hd,hlen,AY,oy,b_,Wz];refine bC 14 l.length (λi S H=>S 1=.func (.func 111) [] []/\S 4=.box 4 0/\H 4=some [.int .i64 0,.int .i64 0]/\S 5=.box 5 0/\H 5=some [.int .i64 (kW x (l.take i)).1,.int .i64 (kW x (l.take i)).2]/\S 12=.slice .view (aS l)/\S 13=.int .i64 l.length/\S 14=.int .i64 (i:Nat)) (λi S H h=>h.2.2.2.2.2.2.2) ⟨by simp[s1],by simp[s4],by simp[h4],by simp[s5],by simp[h5,kW],by simp,by simp[aS],by simp⟩ ?_;clear s0 s1 s4 h4 s5 h5 S H;rintro i hi S H ⟨s1,s4,h4,s5,h5,cJ,dw,er⟩
 by_cases av:i<l.length
 .have hw:IntKind.i64.wrap ((i:Int)+1)=i+1:=aP (by omega)
  have hn:¬(i:Int)<0:=by omega
  have hs:=Fk x l av;have V0:=YF hG l[i] (kW x (l.take i))
  generalize kW x (l.take i)=o at*
  by_cases hc:o.2<l[i].2
  .rw[if_pos hc]at hs;rw[hs];simp[s1,s4,h4,s5,h5,cJ,dw,er,av,hn,aS,a_,bV];refine oc V0 ?_;simp[s1,s4,h4,s5,h5,cJ,dw,er,hc,hw,aS,a_]
  .rw[if_neg hc]at hs;rw[hs]
   have mU:l[i].2<=o.2:=by omega
   simp[s1,s4,h4,s5,h5,cJ,dw,er,av,hn,aS,a_,bV];refine oc V0 ?_;simp[s1,s4,h4,s5,h5,cJ,dw,er,hc,mU,hw,aS,a_]
 .have cN:i=l.length:=by omega
  subst cN;rw[adG]at h5;simp[s1,s4,h4,s5,h5,cJ,dw,er,QM,Qo,gv,eh,a_]
def di(x:Nat×Nat):End:=((x.1:Int),(x.2:Int))
def xn:∀(l:List (Nat×Nat))(x:Nat×Nat),kW (di x) (l.map di)=di (qG x l)
 |[],_=>rfl
 |y::l,x=>by
  have e1:kW (di x) ((y::l).map di)=kW (if(di x).2<(di y).2 then di y else di x) (l.map di):=rfl;have e2:qG x (y::l)=qG (if x.2<y.2 then y else x) l:=rfl;rw[e1,e2,<-xn l]
  congr 1
  by_cases h:x.2<y.2
  .rw[if_pos h,if_pos (by show(x.2:Int)<(y.2:Int);omega)]
  .rw[if_neg h,if_neg (by show¬(x.2:Int)<(y.2:Int);omega)]
def qY(s:az)(a:Int):az:={ s with pos:=a }
def Ie{s:az}(h:eG s){a:Nat}(h1:1<=a)(h2:a<=s.cells.length):eG (qY s a):=⟨h.cells,h.th,⟨by show(1:Int)<=(a:Int);omega,by show(a:Int)<=s.cells.length;omega⟩,h.reach,h.eW,h.dS,h.name⟩
def iM(s:az)(ao:List Int)(a:Nat):Nat:=lP 0 (qY s (a:Int)) ao
def xU(s:az)(ao:List Int):Nat×Nat:=qG (1,iM s ao 1) (iC (iM s ao) 2 (s.cells.length-1))
def vu(s:az):List AV:=
 if dQ s then(match eX s.name with|some es=>[.int .i64 ((xU s (aU s es)).1:Nat),.int .i64 ((xU s (aU s es)).2:Nat),.int .i64 0]|none=>[.int .i64 0,.int .i64 0,.int .i64 7])else[.int .i64 0,.int .i64 0,.int .i64 2]
def wQ(f:Nat->Nat){m:Nat}(hm:1<=m):iC f 1 m=(1,f 1)::iC f 2 (m-1):=by
 obtain⟨k,rfl⟩:∃k,m=k+1:=⟨m-1,by omega⟩
 unfold iC
 rw[ad_]<;>rfl
def JJ(f:Nat->Nat)(m:Nat):iC f 1 (m+1)=iC f 1 m++[(m+1,f (m+1))]:=by
 unfold iC;rw[aeZ,ada];simp[Nat.add_comm]
def aby(hG:aw GI)(s:az)(hs:gh s):AC prog GI 52 [bn s] (.ret (.dR (vu s))):=by
 have nP:=rZ hG s hs;have kc:=Br hG s hs
 rcases j_ s with⟨hI,es,fw,ho⟩|⟨e,he,ho,zV⟩
 .rw[ho]at kc;have hg:=fl hI;have hc:=hg.cells
  have Lz:vu s=[.int .i64 ((xU s (aU s es)).1:Nat),.int .i64 ((xU s (aU s es)).2:Nat),.int .i64 0]:=by simp[vu,hI,fw]
  rw[Lz];have hn:=ka hg (iq hg.name fw);generalize aU s es=ao at kc hn⊢;have NP:=IS hG s (by omega) 0 (.inl rfl);have nS:=YQ hG (di (1,iM s ao 1)) ((iC (iM s ao) 2 (s.cells.length-1)).map di) (by simp[iC];omega);rw[xn]at nS
  have e_:di (1,iM s ao 1)::(iC (iM s ao) 2 (s.cells.length-1)).map di=(iC (iM s ao) 1 s.cells.length).map di:=by
   rw[wQ _ hc.1]<;>rfl
  rw[e_]at nS;refine cE hG func52 ntmps52 c52 ?_;refine aI (λS H=>S 1=.box 1 0/\H 1=some (ar s)) (by simp[bn,ar,ae]) ?_;rintro S H ⟨s1,h1⟩;refine aI (λS H=>S 1=.box 1 0/\H 1=some (ar s)/\S 5=.box 5 0/\H 5=some (bq s ao)/\S 6=.int .i64 0) ?_ ?_
  .simp[s1,h1,ar,ae];refine oc nP ?_;simp;refine oc kc ?_;simp[s1,h1,dv,bq,ar,ae,bV]
  clear s1 h1 S H;rintro S H ⟨s1,h1,s5,h5,s6⟩;refine aI (λS H=>S 1=.box 1 0/\H 1=some (ar s)/\S 5=.box 5 0/\H 5=some (bq s ao)) (by simp[s1,h1,s5,h5,s6]) ?_;clear s1 h1 s5 h5 s6 S H;rintro S H ⟨s1,h1,s5,h5⟩;refine aI (λS H=>S 1=.box 1 0/\H 1=some (ar s)/\S 5=.box 5 0/\H 5=some (bq s ao)/\S 7=.slice .nil []) (by simp[s1,h1,s5,h5]) ?_;clear s1 h1 s5 h5 S H;rintro S H ⟨s1,h1,s5,h5,s7⟩;refine aI (λS H=>S 7=grow 138 (aS ((iC (iM s ao) 1 s.cells.length).map di))) ?_ ?_
  .refine aI (λS H=>S 1=.box 1 0/\H 1=some (ar s)/\S 5=.box 5 0/\H 5=some (bq s ao)/\S 7=.slice .nil []/\S 8=.int .i64 1) (by simp[s1,h1,s5,h5,s7]) ?_;clear s1 h1 s5 h5 s7 S H;rintro S H ⟨s1,h1,s5,h5,s7,s8⟩;simp only[dP];refine⟨λS H=>∃i:Nat,i<=s.cells.length/\S 1=.box 1 0/\H 1=some (ar s)/\S 5=.box 5 0/\(∃p,H 5=some (bq (qY s p) ao))/\S 7=grow 138 (aS ((iC (iM s ao) 1 i).map di))/\S 8=.int .i64 ((i:Int)+1),λS _=>match S 8 with|.int _ r=>(13-r).toNat|_=>0,⟨0,adr _,s1,h1,s5,⟨s.pos,h5⟩,by rw[s7]<;>rfl,s8⟩,?_⟩;clear s1 h1 s5 h5 s7 s8 S H;rintro S H ⟨i,hi,s1,h1,s5,⟨p,h5⟩,s7,s8⟩
   by_cases av:i<s.cells.length
   case neg=>
    have cN:i=s.cells.length:=by omega
    subst cN
    have hq:¬((s.cells.length:Int)+1<=s.cells.length):=by omega
    simp[s1,h1,s5,h5,s7,s8,hq,ar,ae]
   have hq:(i:Int)+1<=s.cells.length:=by omega
   have hw:IntKind.i64.wrap ((i:Int)+1+1)=(i:Int)+1+1:=aP (by omega);have ER:=yy hG (qY s ((i+1:Nat):Int)) (Ie hg (by omega) (by omega)) ao hn 0
   have mu:aS ((iC (iM s ao) 1 (i+1)).map di)=aS ((iC (iM s ao) 1 i).map di)++[.agg [.int .i64 ((i:Int)+1),.int .i64 (iM s ao (i+1):Nat)]]:=by
    rw[JJ,ada];unfold aS;rw[ada];simp[di,a_]
   have hlen:(aS ((iC (iM s ao) 1 i).map di)).length=i:=by simp[aS,iC]
   have b_:=sB ((iC (iM s ao) 1 i).map di);have hfd:lP 0 (qY s ((i+1:Nat):Int)) ao=iM s ao (i+1):=rfl;rw[hfd]at ER;have k3:aJ 2 [AV.agg [.int .i64 ((i:Int)+1),.int .i64 (iM s ao (i+1):Nat)]]=true:=rfl
   have uW:i+1<1048576:=by omega
   generalize aS ((iC (iM s ao) 1 i).map di)=L at s7 mu hlen b_;simp[s1,h1,s5,h5,s7,s8,hq,bq,qY,ar,ae];refine oc NP ?_;simp[s1,h1,s5,h5,s7,s8,bq,qY,ar,ae];refine oc ER ?_;have dX:(AV.agg [.int .i64 ((i:Int)+1),.int .i64 (iM s ao (i+1):Nat)]).storable=true:=rfl
   cases L with
   |nil=>
    have tZ:grow 138 []=.slice .nil []:=rfl
    have Gk:i=0:=by simpa using hlen.symm
    subst Gk;simp[s1,h1,s5,h5,s8,tZ,bV,bq,qY,ar,ae,aJ];have iy:IntKind.i64.wrap 2=2:=aP (by omega);rw[iy];exact⟨⟨1,hc.1,rfl,by omega⟩,by omega⟩
   |cons y L=>
    have tZ:grow 138 (y::L)=.slice (.own 138) (y::L):=rfl;simp[s1,h1,s5,h5,s8,tZ,hw,hlen,uW,k3,b_,bV,bq,qY,ar,ae];exact⟨⟨i+1,by omega,by rw[mu]<;>rfl,by omega⟩,by omega⟩
  .clear s1 h1 s5 h5 s7 S H;intro S H s7
   have iU:grow 138 (aS ((iC (iM s ao) 1 s.cells.length).map di))=.slice (.own 138) (aS ((iC (iM s ao) 1 s.cells.length).map di)):=by
    rw[wQ _ hc.1]<;>rfl
   rw[iU]at s7;have hb:qG (1,iM s ao 1) (iC (iM s ao) 2 (s.cells.length-1))=xU s ao:=rfl;rw[hb]at nS;generalize aS ((iC (iM s ao) 1 s.cells.length).map di)=L at s7 nS;generalize xU s ao=q at nS⊢;simp[s7];refine oc nS ?_;simp[a_,di,bV]
 .rw[ho]at kc
  have zU:vu s=[.int .i64 0,.int .i64 0,.int .i64 e]:=by
   rcases tu s e he ho with⟨h1,rfl⟩|⟨h1,h2,rfl⟩
   .simp[vu,h1]
   .simp[vu,h1,h2]
  rw[zU]
  have mS:(e !=0)=true:=by simpa using he
  refine cE hG func52 ntmps52 c52 ?_;simp[c52,bn,ar,ae];refine oc nP ?_;simp;refine oc kc ?_;simp[dv,bq,ar,ae,zT,bV,he,mS]
def V3(hG:aw GI)(s:az)(hs:s.cells.length<1000)(e:Nat)(he:e=0\/e=1)(bP:bo e s≠[]):AC prog GI 98 [bn s,.int .i64 (e:Nat)] (.ret (.slice (.own 3) (ints (bo e s)))):=by
 refine AC.jw func98 rfl ntmps98 (by simp) λcc w=>VK hG s hs e he cc w λS5 H5 s6=>?_
 have BF:ints (bo e s)≠[]:=by simpa[ints]using bP
 have Fl:S5 6=.slice (.own 3) (ints (bo e s)):=by rw[s6];simp[grow,BF]
 clear s6;show SW prog GI 29 none (.seq (.region _ _ false) .ret) _ _ _ _
 refine SW.seq (SW.hand hG (p:=0) (lm:=[0,1]) (l2:=[]) (js:=[]) (oh:=[_,_]) (lv:=[]) rfl rfl rfl rfl (by kernel_rfl) (λ_ h=>h) (lO:=[]) (lu:=[]) rfl rfl rfl rfl
  (K1:=λS H=>S 6=.slice (.own 3) (ints (bo e s))) (K2:=λo S H=>o=Old.plain cc w/\S 4=.slice (.own 3) (ints (bo e s))) (K3:=λo S H=>o=Old.plain cc w/\S 4=.slice (.own 3) (ints (bo e s))) ?_ ?_ ?_ ?_)
 .exact Fl
 .rintro w0 g S H a w' m cj ho R s6;have r6:=R.slot 6 (by decide) (λh=>h);rw[s6]at r6;have bg:=R.size
  obtain⟨c,hc⟩:∃c,a.tmps.getD 6 undef=c:=⟨_,rfl⟩
  rw[hc]at r6;have rv:RD g.Pr w' (.slice .view (ints (bo e s))) c:=(r6.dL rfl).aH;refine aV rfl rfl (by rfl) ((run_move (x:=.tmp 6) w' rfl).trans (congrArg (λv=>Result.ok (Next.value v) w') hc)) ?_;have R1:=R.put 28 (.slice .view (ints (bo e s))) c (by decide) (.data _ _ rv) trivial
  have vi:(a.put (some 28) c).tmps.getD 28 undef=c:=by simp[Act.put,bg]
  refine aV rfl rfl (by rfl) ((run_assign (x:=.tmp 28) w' rfl).trans (congrArg (λv=>Result.ok (Next.value v) w') vi)) ?_;have R2:=R1.put 4 (.slice .view (ints (bo e s))) c (by decide) (.data _ _ rv) trivial
  have e4:((a.put (some 28) c).put (some 4) c).tmps.getD 4 undef=c:=by simp[Act.put,bg]
  have e6:((a.put (some 28) c).put (some 4) c).tmps.getD 6 undef=a.tmps.getD 6 undef:=by simp[Act.put,acB]
  obtain⟨g',q1,R3⟩:=R2.NI (t:=6) (u:=4) (e:=3) (es:=ints (bo e s)) (by decide) (by decide) (by decide) (by simp[au,s6]) (by rw[e4,e6,hc]);exact⟨g',_,_,R3,by rw[q1];exact ho,aK _ _ _⟩
 .rintro o S H ⟨rfl,s4⟩;exact⟨λ_ h=>h,rfl,s4⟩
 .rintro o S H ⟨rfl,s4⟩;refine SW.ret ⟨eA.plain rfl,rfl,_,?_,rfl⟩;show cL prog 29 [.tmp 4] S H=_;simp[cL,dc,db,s4,AV.bW,AV.out]
def yB{a:Act}{w:World}{o:Oper}{x y:Operand}{t ty:TypeId}{m n:Int}(ho:o.op=.binOp .add t x y ty)(hx:a.eval x=.int .i64 m)(hy:a.eval y=.int .i64 n):(execOp a.eval o).run prog w=.ok (.value (.int .i64 (IntKind.i64.wrap (m+n)))) w:=by
 unfold execOp;simp[ho,hx,hy,Go.binOp,Op.intArith,eqGuard]
def fN(s:az)(i n:Nat):List Int:=(bo 0 s).set i ((bo 0 s).getD i 0+n)
def iL(s:az)(ao:List Int)(i n:Nat):Bool:=decide (ru s ao (fN s i n)=ao.length)
def Rz(l:List Int):iO 1 (ints l):=λx hx=>by
 obtain⟨k,_,rfl⟩:=acZ.1 hx;exact⟨rfl,rfl,λc hc=>by simp[AV.cells]at hc;subst hc;rfl⟩
def ints_set(l:List Int)(i:Nat)(x:Int):(ints l).set i (.int .i64 x)=ints (l.set i x):=by simp[ints,List.map_set]
structure PO(cc:Nat->Nat->Prop)(o:Old):Prop where
 c:o.c=cc
 ds:o.ds=[]
 bx:∀d,¬o.bx d
def Yp (hG:aw GI) (s:az) (h:eG s) (ao:List Int) (hn:(∀ x∈ao,0≤x∧x≤1000)∧ao.length≤1000) {i:Nat} (hi:i < s.cells.length) {n:Nat} (Cj:n≤900) :
  AC prog GI 104 [.int .i64 (n:Nat),.ref (ar s),.ref [.int .i64 (i:Nat)],.ref (bq s ao)] (.ret (.bool (iL s ao i n))):=by
 have hc:=h.cells
 have Jq:(bo 0 s).length=s.cells.length:=by simp[bo]
 have bP:bo 0 s≠[]:=λh0=>by rw[h0]at Jq;simp at Jq;omega
 have pB:=(o9 h 0).2
 have cN:i<(bo 0 s).length:=by omega
 have hxi:=pB _ (acy cN)
 have aci:(bo 0 s)[i]<=20:=by
  have:=h.th _ (acy hi);simp[bo,mA];omega
 have Cc:(bo 0 s).getD i 0=(bo 0 s)[i]:=by simp[ac2,cN]
 have NP:=V3 hG s (by omega) 0 (.inl rfl) bP
 have rI:(fN s i n).length=s.cells.length:=by simp[fN,Jq]
 have ER:=Tg hG s h ao hn.1 hn.2 (fN s i n) rI (λx hx=>by
  rcases aff hx with h1|h1
  .exact pB x h1
  .rw[h1,Cc];omega)
 have nr:((eI ao (ec (fN s i n)) (ez (dk s) s.cells.length):Int)==(ao.length:Int))=iL s ao i n:=by
  show _=decide (eI ao (ec (fN s i n)) (ez (dk s) s.cells.length)=ao.length);rw[adE,acJ,ac7];omega
 obtain⟨i3,pZ,mD⟩:=iZ 3 1;obtain⟨d3,CT,Pu⟩:=vZ 3
 refine AC.jw func104 rfl ntmps104 (by simp) λcc w=>?_
 refine eV hG c104.qa (λS H=>S 0=.int .i64 (n:Nat)/\S 1=.ref (ar s)/\S 2=.ref [.int .i64 (i:Nat)]/\S 3=.ref (bq s ao)) ?_ ?_
 .simp[c104,af.qa,bq,ar,ae]
 rintro S1 H1 ⟨s0,s1,s2,s3⟩;show SW prog GI 23 none (.seq _ (.seq _ (.seq _ .ret))) _ _ _ _
 refine SW.seq (SW.hand hG (p:=1) (lm:=[1]) (l2:=[2]) (js:=[_]) (oh:=[_]) (lv:=[_]) rfl rfl rfl rfl (by kernel_rfl) (λ_ h=>h)
  (lO:=(c104.qb.qa.dl).take 1) (lu:=(c104.qb.qa.dl).drop 2) (by kernel_rfl) (by kernel_rfl) (by kernel_rfl) (by kernel_rfl)
  (K1:=λS H=>S 0=.int .i64 (n:Nat)/\S 2=.ref [.int .i64 (i:Nat)]/\S 3=.ref (bq s ao)/\S 7=bn s)
  (K2:=λo S H=>∃v,KO cc 3 1 (ints (bo 0 s)) o v/\S 0=.int .i64 (n:Nat)/\S 2=.ref [.int .i64 (i:Nat)]/\S 3=.ref (bq s ao)/\S 8=.val v)
  (K3:=λo S H=>∃v,KO cc 3 1 (ints (bo 0 s)) o v/\S 0=.int .i64 (n:Nat)/\S 2=.ref [.int .i64 (i:Nat)]/\S 3=.ref (bq s ao)/\S 6=.val v) ?_ ?_ ?_ ?_)
 .simp[c104,af.qa,af.qb,af.dl,s0,s1,s2,s3,bn,ar,ae]
 .rintro w0 g S H a w' m cj ho R ⟨s0,s2,s3,s7⟩;have r7:=R.slot 7 (by decide) (λh=>h);rw[s7]at r7
  refine gE rfl rfl (by rfl) (jr (k:=98) (args:=#[a.tmps.getD 7 undef,.int .i64 0]) w' rfl rfl ?_ (by kernel_rfl)) (NP w' (fB g false) #[a.tmps.getD 7 undef,.int .i64 0] (hG w0 w' cj (by have:=R.below;rwa [R.base]at this)) rfl (λj hj dH=>by
   match j,hj with
   |0,_=>exact(r7.cD rfl).mono (bc.same λb k _ hp=>.inl hp) λ_ _ h=>h
   |1,_=>exact .data _ _ (.int _ _))) ?_
  .simp only[ado,ac5,adp,Act.eval]
  intro en w2 hE;obtain⟨v,g',rfl,R2,hK⟩:=C1 R (cc:=cc) (by rw[ho];exact⟨rfl,rfl,λ_ h=>h⟩) pZ (by rw[mD];exact Rz _) hE;rw[mD]at hK;refine⟨_,rfl,?_⟩
  have lj:v.oneCell'=true:=by
   rcases hK.row with⟨⟨_,rfl⟩,_⟩|⟨_,_,_,rfl,_⟩<;>rfl
  exact⟨g',_,_,R2.put 8 (.val v) v (by decide) (.data _ _ (.val _ lj)) trivial,v,hK,by simp[au,s0],by simp[au,s2],by simp[au,s3],by simp[au]⟩
 .rintro o S H ⟨v,hK,s0,s2,s3,s8⟩;refine⟨hK.bx,?_⟩;simp[c104,af.qa,af.qb,af.dl,s0,s2,s3,s8];exact hK
 clear s0 s1 s2 s3 S1 H1;rintro o S1 H1 ⟨v,hK,s0,s2,s3,s6⟩;have ZK:=hK.bx
 refine SW.seq (SW.hand hG (p:=2) (lm:=[2,3,4,5,6,7]) (l2:=[]) (js:=[_,_]) (oh:=[_,_,_,_,_,_]) (lv:=[]) rfl rfl rfl rfl (by kernel_rfl) ZK
  (lO:=(c104.qb.qb.qa.dl).take 2) (lu:=[]) (by kernel_rfl) rfl (by kernel_rfl) rfl
  (K1:=λS H=>S 0=.int .i64 (n:Nat)/\S 3=.ref (bq s ao)/\S 6=.val v/\S 9=.val v/\S 10=.int .i64 (i:Nat))
  (K2:=λo S H=>PO cc o/\S 3=.ref (bq s ao)/\S 6=vI (fN s i n))
  (K3:=λo S H=>PO cc o/\S 3=.ref (bq s ao)/\S 6=vI (fN s i n)) ?_ ?_ ?_ ?_)
 .simp[c104,af.qa,af.qb,af.dl,s0,s2,s3,s6]
 .rintro w0 g S H a w' m cj ho R ⟨s0,s3,s6,s9,cb⟩;rw[<-ho]at hK
  have Nn:i<(ints (bo 0 s)).length:=by simpa[ints]using cN
  obtain⟨b,cap,cur,hv,kI,mH,dX⟩:=hK.cell R Nn
  have sk:(ints (bo 0 s))[i]=.int .i64 (bo 0 s)[i]:=by simp[ints]
  have rq:0<((ints (bo 0 s))[i]).cells.length:=by rw[sk];simp[AV.cells]
  have ry:=dX 0 rq
  have JM:Dj (((ints (bo 0 s))[i]).cells[0]'rq)=.int .i64 (bo 0 s)[i]:=by simp only[sk];rfl
  rw[JM,adY,Nat.add_zero]at ry;have t9:=R.slot 9 (by decide) (λh=>h);rw[s9]at t9;have e9:a.eval (.tmp 9)=.slice (some ⟨b,0,none⟩) (ints (bo 0 s)).length cap:=t9.fY.trans hv;have t10:=R.slot 10 (by decide) (λh=>h);rw[cb]at t10;have kR:a.eval (.tmp 10)=.int .i64 (i:Nat):=t10.int_eq;have t0:=R.slot 0 (by decide) (λh=>h);rw[s0]at t0;have e0:a.eval (.tmp 0)=.int .i64 (n:Nat):=t0.int_eq;have bg:=R.size;have kv:IntKind.i64.wrap ((bo 0 s)[i]+n)=(bo 0 s)[i]+n:=aP (by omega);refine aV rfl rfl (by rfl) (gP (k:=i) rfl (by kernel_rfl) pZ e9 kR Nn) ?_;rw[mD,adY];have R1:=R.put 11 (.val (.pointer (some ⟨b,i,none⟩))) (.pointer (some ⟨b,i,none⟩)) (by decide) (.data _ _ (.val _ rfl)) trivial
  have p:=λt c=>bJ a 11 t c (by omega)
  have f11:=(p 11 (.pointer (some ⟨b,i,none⟩))).trans (if_pos rfl);have f9:=((p 9 (.pointer (some ⟨b,i,none⟩))).trans (if_neg (by decide))).trans e9;have f10:=((p 10 (.pointer (some ⟨b,i,none⟩))).trans (if_neg (by decide))).trans kR;have f0:=((p 0 (.pointer (some ⟨b,i,none⟩))).trans (if_neg (by decide))).trans e0;have IJ:=R1.size;show wpOpsIn _ _ _ _ _ [3,4,5,6,7] (a.put (some 11) (.pointer (some ⟨b,i,none⟩))) w'
  generalize a.put (some 11) (.pointer (some ⟨b,i,none⟩))=a1 at*
  clear p e9 kR e0 t9 t10 t0;refine aV rfl rfl (by rfl) (jn rfl f11 CT Pu mH ry.2) ?_;have R2:=R1.put 12 (.int .i64 (bo 0 s)[i]) (.int .i64 (bo 0 s)[i]) (by decide) (.data _ _ (.int _ _)) trivial
  have p:=λt c=>bJ a1 12 t c (by omega)
  have g12:=(p 12 (.int .i64 (bo 0 s)[i])).trans (if_pos rfl);have g9:=((p 9 (.int .i64 (bo 0 s)[i])).trans (if_neg (by decide))).trans f9;have g10:=((p 10 (.int .i64 (bo 0 s)[i])).trans (if_neg (by decide))).trans f10;have g0:=((p 0 (.int .i64 (bo 0 s)[i])).trans (if_neg (by decide))).trans f0;have zq:=R2.size;show wpOpsIn _ _ _ _ _ [4,5,6,7] (a1.put (some 12) (.int .i64 (bo 0 s)[i])) w'
  generalize a1.put (some 12) (.int .i64 (bo 0 s)[i])=a2 at*
  clear p f11 f9 f10 f0;refine aV rfl rfl (by rfl) ((run_move (x:=.tmp 0) w' rfl).trans (congrArg (λv=>Result.ok (Next.value v) w') g0)) ?_;have R3:=R2.put 13 (.int .i64 (n:Nat)) (.int .i64 (n:Nat)) (by decide) (.data _ _ (.int _ _)) trivial
  have p:=λt c=>bJ a2 13 t c (by omega)
  have k13:=(p 13 (.int .i64 (n:Nat))).trans (if_pos rfl);have k12:=((p 12 (.int .i64 (n:Nat))).trans (if_neg (by decide))).trans g12;have k9:=((p 9 (.int .i64 (n:Nat))).trans (if_neg (by decide))).trans g9;have k10:=((p 10 (.int .i64 (n:Nat))).trans (if_neg (by decide))).trans g10;have Ve:=R3.size;show wpOpsIn _ _ _ _ _ [5,6,7] (a2.put (some 13) (.int .i64 (n:Nat))) w'
  generalize a2.put (some 13) (.int .i64 (n:Nat))=a3 at*
  clear p g12 g9 g10 g0;refine aV rfl rfl (by rfl) (yB rfl k12 k13) ?_;rw[kv];have R4:=R3.put 14 (.int .i64 ((bo 0 s)[i]+n)) (.int .i64 ((bo 0 s)[i]+n)) (by decide) (.data _ _ (.int _ _)) trivial
  have p:=λt c=>bJ a3 14 t c (by omega)
  have SD:=(p 14 (.int .i64 ((bo 0 s)[i]+n))).trans (if_pos rfl);have l9:=((p 9 (.int .i64 ((bo 0 s)[i]+n))).trans (if_neg (by decide))).trans k9;have l10:=((p 10 (.int .i64 ((bo 0 s)[i]+n))).trans (if_neg (by decide))).trans k10;have Cr:=R4.size;show wpOpsIn _ _ _ _ _ [6,7] (a3.put (some 14) (.int .i64 ((bo 0 s)[i]+n))) w'
  generalize a3.put (some 14) (.int .i64 ((bo 0 s)[i]+n))=a4 at*
  clear p k12 k13 k9 k10;refine aV rfl rfl (by rfl) (gP (k:=i) rfl (by kernel_rfl) pZ l9 l10 Nn) ?_;rw[mD,adY];have R5:=R4.put 15 (.val (.pointer (some ⟨b,i,none⟩))) (.pointer (some ⟨b,i,none⟩)) (by decide) (.data _ _ (.val _ rfl)) trivial
  have p:=λt c=>bJ a4 15 t c (by omega)
  have m15:=(p 15 (.pointer (some ⟨b,i,none⟩))).trans (if_pos rfl);have m14:=((p 14 (.pointer (some ⟨b,i,none⟩))).trans (if_neg (by decide))).trans SD;show wpOpsIn _ _ _ _ _ [7] (a4.put (some 15) (.pointer (some ⟨b,i,none⟩))) w'
  generalize a4.put (some 15) (.pointer (some ⟨b,i,none⟩))=a5 at*
  clear p SD l9 l10;obtain ⟨cur',cM,BG,Lb⟩:=nB (o:={ dst:=none,op := .store 3 (.tmp 15) (.tmp 14),type:=0,pos := "",after := #[],guard:=none }) (v := .int .i64 ((bo 0 s)[i]+n)) rfl m15 pZ mD mH ry.1 m14 rfl;refine dU rfl rfl (by rfl) cM ?_;have R6:=R5.kn kI (.cells cur' 3 (0,0));have su:=hK.set (j:=i) (k:=0) Nn (by rw [sk];simp [AV.cells]) (x := .int .i64 ((bo 0 s)[i]+n)) (u := .int .i64 ((bo 0 s)[i]+n)) (λx hx=>by simp at hx;subst hx;exact ⟨rfl,rfl,λc hc=>by simp [AV.cells] at hc;subst hc;rfl⟩) (by rw [sk]<;>rfl) hv kI BG (λm=>by rw [Lb m,adY,Nat.add_zero]<;>rfl);rw [ints_set] at su
  have qM:(bo 0 s).set i ((bo 0 s)[i]+n)=fN s i n:=by rw[fN,Cc]
  rw[qM]at su;obtain⟨g',R7,q1,q2,q3⟩:=KO.done su R6 (t:=6) (by decide) (by simp[au,s6]);exact⟨g',_,_,R7,⟨q1,q2,q3⟩,by simp[au,s3],by simp[au]<;>rfl⟩
 .rintro o S H ⟨hp,s3,s6⟩;exact⟨hp.bx,hp,s3,s6⟩
 clear s0 s2 s3 s6 S1 H1 hK ZK;rintro o S1 H1 ⟨hp,s3,s6⟩;refine wm hG c104.qb.qb.qb.qa (λd _=>hp.bx d) (λS H=>S 5=.bool (iL s ao i n)) ?_ ?_
 .simp[c104,af.qa,af.qb,s3,s6,bq,ar,ae];refine oc ER ?_;simp[s3,s6,bq,ar,ae];exact nr
 .intro S H s5;refine SW.ret ⟨eA.plain hp.ds,hp.c,_,?_,rfl⟩;show cL prog 23 [.tmp 5] S H=_;simp[cL,dc,db,s5,AV.bW,AV.out]
def NN{s:aF}(cV:bf s=true){x:List End}{l:List (List End)}(hg:eR s []=x::l):jV List.length (eR s [])=(fV (eQ s) x l).length/\sg s=(fV (eQ s) x l,gl s [] (fV (eQ s) x l))/\0<=gl s [] (fV (eQ s) x l):=by
 have hB:tS (gV List.length (gl s [])) (eR s []) (fV (eQ s) x l):=by rw[hg];exact Gr x l
 have h1:∀y∈eR s [],1<=y.length:=λy hy=>ade.2 (sV (qK cV hy).1).2.1
 have h2:∀y∈eR s [],0<=gl s [] y:=λy hy=>by
  obtain⟨a,_,b⟩:=qK cV hy;rw[LN cV (qm cV a) (by omega) (by omega)]at b;simpa using b
 have e1:=G3 hB h1;refine⟨e1,?_,h2 _ (by rw[hg];exact mR _ _ _)⟩;unfold sg;rw[e1];exact Mu hB h2
end Go.Proofs.Tryz
namespace Go.Proofs.Tryz
open Go Go.AL Go.RowKit Go.Proofs Go.Proofs.Tram
section
variable{H:Type}{enc:TypeId×Value->H}{w:World}{held:Bool}
def T0:Nat->Nat->Prop:=λ_ _=>True
def oN(w:World)(l:List AV)(cs:List Value):Prop:=l.length=cs.length/\∀i (h:i<l.length)(h':i<cs.length),(l[i]).one=true/\RD T0 w l[i] cs[i]
def lW(enc:TypeId×Value->H)(w:World)(held:Bool)(t:TypeId){α:Type}(f:α->List AV)(A3:α->Prop):Prop:=
 ∀(fuel:Nat)(cs:List Value)(x:DataW H×List MemPlace),DataW.trod enc prog w 0 (λ_=>true) held fuel t cs=some x->∃a,A3 a/\oN w (f a) cs
def ma(n:Int):Prop:= -9223372036854775808<=n/\n<9223372036854775808
def K5{t:TypeId}(ht:prog.underlying t=some (.int .i64)):lW enc w held t (λn:Int=>[.int .i64 n]) ma:=by
 intro fuel cs x h;obtain⟨n,rfl,_,hw⟩:=DataW.trod_int ht h;refine⟨n,?_,rfl,λi hi cQ=>?_⟩
 .simp only[Lit.wf,acA,acJ]at hw
  have h1:IntKind.i64.min= -9223372036854775808:=by kernel_rfl
  have h2:IntKind.i64.max=9223372036854775807:=by kernel_rfl
  rw[h1,h2]at hw;exact⟨hw.1,by omega⟩
 .match i,hi with
  |0,_=>exact⟨rfl,.int _ _⟩
def yQ{t:TypeId}(ht:prog.underlying t=some .bool):lW enc w held t (λb:Bool=>[.bool b]) (λ_=>True):=by
 intro fuel cs x h;obtain⟨b,rfl,_⟩:=DataW.trod_bool ht h;refine⟨b,trivial,rfl,λi hi cQ=>?_⟩
 match i,hi with
 |0,_=>exact⟨rfl,.bool _⟩
def vT{α:Type}{p:Nat->α->Prop}:∀(n:Nat),(∀i,i<n->∃a,p i a)->∃l:List α,l.length=n/\∀i (h:i<l.length),p i l[i]
 |0,_=>⟨[],rfl,λi h=>by simp at h⟩
 |n+1,h=>by
  obtain⟨l,hl,hp⟩:=vT n λi hi=>h i (by omega)
  obtain⟨a,ha⟩:=h n (by omega);refine⟨l++[a],by simp[hl],λi hi=>?_⟩
  by_cases lz:i<l.length
  .rw[ac9 lz];exact hp i lz
  .have:i=n:=by simp at hi;omega
   subst this;rw[adF (by omega)];simpa[hl]using ha
def LU{w:World}{a:Addr}{v:Value}(h:w.cell? a=some v):a=⟨a.block,a.off,none⟩:=by
 obtain⟨b,o,s⟩:=a;unfold World.cell? at h
 cases s with
 |none=>rfl
 |some s=>
  simp at h
  split at h<;>simp at h
def oe {t e:TypeId} {α:Type} {f:α→List AV} {A3:α→Prop} (mk:α→AV) (hmk:∀ a,(mk a).cells=f a) (ht:prog.underlying t=some (.slice e)) (fI:0 < prog.cellsOf e) (he:lW enc w held e f A3) :
  lW enc w held t (λl:List α=>[.slice .view (l.map mk)]) (λl=>∀a∈l,A3 a):=by
 intro fuel cs x h
 rcases DataW.trod_slice ht h with⟨rfl,_⟩|⟨a,len,cap,elems,rest,n,_,rfl,_,_,ZC,vS,hlen,uJ,iS,_⟩
 .refine⟨[],by simp,rfl,λi hi cQ=>?_⟩
  match i,hi with
  |0,_=>exact⟨rfl,.gx _⟩
 .obtain⟨size,kG⟩:∃size,prog.cellsOf e=size:=⟨_,rfl⟩
  rw[kG]at fI uJ iS;obtain⟨Jq,GC⟩:=iS rfl
  by_cases eT:cap=0
  .subst eT
   have rq:len=0:=by omega
   subst rq;refine⟨[],by simp,rfl,λi hi cQ=>?_⟩
   match i,hi with
   |0,_=>exact⟨rfl,.ja _ _⟩
  have wF:∃i fj,w.cells? 0 (a.add (i*size)) size=some fj/\i=0:=by
   by_cases rq:len=0
   .subst rq;have h0:=GC 0 (by omega);rw[acx (by omega),adZ]at h0;obtain⟨fj,h1,_⟩:=h0;exact⟨0,fj,by simpa using h1,rfl⟩
   .have h0:=uJ 0 (by omega);rw[acx (by omega),adZ]at h0;obtain⟨fj,h1,_⟩:=h0;exact⟨0,fj,h1,rfl⟩
  obtain⟨_,cs0,MX,rfl⟩:=wF;rw[agw,show a.add 0=a by simp[Addr.add]]at MX;have ry:=(afQ MX).2.2 0 (by omega);rw[show a.add 0=a by simp[Addr.add]]at ry;have rq:=(afQ MX).2.1;rw[acx (by omega)]at ry
  obtain⟨b,off,rfl⟩:∃b off,a=⟨b,off,none⟩:=⟨_,_,LU ry⟩
  clear ry MX rq cs0 GC iS
  obtain⟨l,hl,hp⟩:=vT (p:=λi (v:α)=>A3 v/\∃fj,w.cells? 0 ((⟨b,off,none⟩:Addr).add (i*size)) size=some fj/\oN w (f v) fj) len λi hi=>by
   have h0:=uJ i hi;rw[acx (by omega),adZ]at h0;obtain⟨fj,h1,h2⟩:=h0;obtain⟨v,hv,hc⟩:=he _ _ _ h2;exact⟨v,hv,fj,h1,hc⟩
  refine⟨l,λv hv=>?_,rfl,λi hi cQ=>?_⟩
  .obtain⟨i,hi,rfl⟩:=adm hv;exact(hp i hi).1
  .have Gk:i=0:=by simpa using hi
   subst Gk;refine⟨rfl,?_⟩;show RD T0 w (.slice .view (l.map mk)) (.slice (some ⟨b,off,none⟩) len cap)
   have vk:len=(l.map mk).length:=by simp[hl]
   have JP:∀i (h:i<(l.map mk).length),((l.map mk)[i]).cells=f (l[i]'(by simpa using h)):=λi h=>by rw[acM];exact hmk _
   have key:∀m,m=(l.map mk).length->RD T0 w (.slice .view (l.map mk)) (.slice (some ⟨b,off,none⟩) m cap):=?_
   .exact key _ vk
   rintro m rfl
   have dX:∀i (h:i<l.length) j,j<size->∃fj,oN w (f l[i]) fj/\fj.length=size/\w.cell? ⟨b,off+(i*size+j),none⟩=fj[j]?:=by
    intro i h j hj;obtain⟨_,fj,h1,h2⟩:=hp i h;obtain⟨_,h3,h4⟩:=afQ h1;have h5:=h4 j hj;rw[adt,adt,aeU]at h5;exact⟨fj,h2,h3,h5⟩
   have Rn:∀i (h:i<l.length),(f l[i]).length=size:=by
    intro i h;obtain⟨fj,h1,h2,_⟩:=dX i h 0 fI;rw[h1.1,h2]
   refine .slice .view (l.map mk) b off cap size (λk=>(w.cell? ⟨b,off+k,none⟩).getD undef) (by rw[<-vk];exact ZC) (λh=>by cases h) (λi h=>by rw[JP];exact Rn _ _) (λi h j hj=>?_) (λk hk=>⟨trivial,?_⟩) (λi h j hj=>?_)
   .have cN:i<l.length:=by simpa using h
    have dH:j<(f l[i]).length:=by rw[JP]at hj;exact hj
    have Y5:j<size:=by rw[Rn]at dH;exact dH
    obtain⟨fj,h1,h2,_⟩:=dX i cN j Y5
    have e:((l.map mk)[i]).cells[j]=(f l[i])[j]:=by simp only[JP]
    rw[e];exact(h1.2 j dH (by omega)).1
   .have dN:k<l.length*size:=by simpa using hk
    have hi:k/size<l.length:=agk (by rw[aei];exact dN);have hj:k % size<size:=afS _ fI;obtain⟨fj,h1,h2,h3⟩:=dX (k/size) hi (k % size) hj
    have e:k/size*size+k % size=k:=by rw[aei];exact afe k size
    rw[e,acx (by omega)]at h3;rw[h3];rfl
   .have cN:i<l.length:=by simpa using h
    have dH:j<(f l[i]).length:=by rw[JP]at hj;exact hj
    have Y5:j<size:=by rw[Rn]at dH;exact dH
    obtain⟨fj,h1,h2,h3⟩:=dX i cN j Y5;rw[acx (by omega)]at h3
    have e:((l.map mk)[i]).cells[j]=(f l[i])[j]:=by simp only[JP]
    rw[e,h3];exact(h1.2 j dH (by omega)).2
def fieldsOf:TypeDesc->Option (List (TypeId×Nat))
 |.struct fs=>some (fs.toList.map λf=>(f.type,f.offset))
 |_=>none
def ld {t:TypeId} {zJ:List (TypeId×Nat)} (hf:(prog.underlying t).bind fieldsOf=some zJ) {fuel:Nat} {cs:List Value} {x:DataW H×List MemPlace} (h:DataW.trod enc prog w 0 (fun _=>true) held fuel t cs=some x) :
  cs.length=prog.cellsOf t/\∀(i t' o:Nat),zJ[i]?=some (t',o)->∃n x',DataW.trod enc prog w 0 (λ_=>true) held n t' ((cs.drop o).take (prog.cellsOf t'))=some x':=by
 cases hu:prog.underlying t with
 |none=>rw[hu]at hf;cases hf
 |some d=>
  rw[hu]at hf
  cases d<;>first|(cases hf;done)|skip
  rename_i fs;simp only[Option.bind_some,fieldsOf,ac0]at hf;obtain⟨xs,n,_,_,hl,yA,e_⟩:=DataW.trod_struct hu h;refine⟨hl,λi t' o hi=>?_⟩;rw[<-hf,ac1,acE]at hi;obtain⟨f,XC,e⟩:=hi;cases e
  have VX:fs[i]?=some f:=by rw[<-adM];exact XC
  have:=e_ i f VX;have av:i<fs.size:=(acz.1 VX).1;rw[acx (by omega)]at this;exact⟨n,_,this⟩
def oN.append{l1 l2:List AV}{c1 c2:List Value}(h1:oN w l1 c1)(h2:oN w l2 c2):oN w (l1++l2) (c1++c2):=by
 refine⟨by simp[h1.1,h2.1],λi h h'=>?_⟩
 by_cases hi:i<l1.length
 .rw[ac9 hi,ac9 (by rw[<-h1.1];exact hi)];exact h1.2 i hi _
 .rw[adF (by omega),adF (by rw[<-h1.1];omega)];have:=h1.1;simp only[this];exact h2.2 _ _ _
def yq(p:l6):Prop:=ma p.l/\ma p.r/\ma p.lo/\ma p.hi
def xG(w:Word):Prop:=(∀n∈w.aM,ma n)/\∀n∈w.cd,ma n
structure A_(s:aF):Prop where
 bp:∀n∈s.bp,ma n
 aW:∀p∈s.aW,yq p
 jM:ma s.jM
 jN:ma s.jN
 nK:ma s.nK
 nL:ma s.nL
 dn:ma s.dn
 words:∀w∈s.words,xG w
 wide:ma s.wide
 rows:ma s.rows
def Q5:prog.cellsOf 3=1:=by kernel_rfl
def co4:prog.cellsOf 4=1:=by kernel_rfl
def VM:prog.cellsOf 23=1:=by kernel_rfl
def ZV:prog.cellsOf 24=1:=by kernel_rfl
def MY:prog.cellsOf 26=2:=by kernel_rfl
def ab4:prog.cellsOf 27=1:=by kernel_rfl
def Vh:prog.cellsOf 29=10:=by kernel_rfl
def VP:prog.cellsOf 44=3:=by kernel_rfl
def PY:prog.cellsOf 166=4:=by kernel_rfl
def u3:prog.underlying 3=some (.int .i64):=by kernel_rfl
def lM:lW enc w held 3 (λn:Int=>[.int .i64 n]) ma:=K5 u3
def B1:lW enc w held 23 (λl:List Int=>[vI l]) (λl=>∀n∈l,ma n):=
 oe (e:=3) (λn:Int=>.int .i64 n) (λ_=>rfl) (by kernel_rfl) (by rw[Q5];omega) lM
def wS:lW enc w held 26 (λp:Int×Int=>[.int .i64 p.1,.int .i64 p.2]) (λp=>ma p.1/\ma p.2):=by
 intro fuel cs x h;obtain⟨hl,hf⟩:=ld (zJ:=[(3,0),(3,1)]) (by kernel_rfl) h;rw[MY]at hl
 match cs,hl with
 |[x0,x1],_=>
  obtain⟨_,_,h0⟩:=hf 0 3 0 rfl;obtain⟨_,_,h1⟩:=hf 1 3 1 rfl;rw[Q5]at h0 h1;obtain⟨a,ga,ra⟩:=lM _ _ _ h0;obtain⟨b,gb,rb⟩:=lM _ _ _ h1;exact⟨(a,b),⟨ga,gb⟩,ra.append rb⟩
def Pl:lW enc w held 166 (λp:l6=>(eb p).cells) yq:=by
 intro fuel cs x h;obtain⟨hl,hf⟩:=ld (zJ:=[(3,0),(3,1),(26,2)]) (by kernel_rfl) h;rw[PY]at hl
 match cs,hl with
 |[x0,x1,x2,x3],_=>
  obtain⟨_,_,h0⟩:=hf 0 3 0 rfl;obtain⟨_,_,h1⟩:=hf 1 3 1 rfl;obtain⟨_,_,h2⟩:=hf 2 26 2 rfl;rw[Q5]at h0 h1;rw[MY]at h2;obtain⟨a,ga,ra⟩:=lM _ _ _ h0;obtain⟨b,gb,rb⟩:=lM _ _ _ h1;obtain⟨c,gc,rc⟩:=wS _ _ _ h2;exact⟨⟨a,b,c.1,c.2⟩,⟨ga,gb,gc.1,gc.2⟩,ra.append (rb.append rc)⟩
def Sq:lW enc w held 24 (λl:List l6=>[.slice .view (l.map eb)]) (λl=>∀p∈l,yq p):=
 oe (e:=166) eb (λ_=>rfl) (by kernel_rfl) (by rw[PY];omega) Pl
def Qn:lW enc w held 44 (λx:Word=>(cZ x).cells) xG:=by
 intro fuel cs x h;obtain⟨hl,hf⟩:=ld (zJ:=[(23,0),(23,1),(4,2)]) (by kernel_rfl) h;rw[VP]at hl
 match cs,hl with
 |[x0,x1,x2],_=>
  obtain⟨_,_,h0⟩:=hf 0 23 0 rfl;obtain⟨_,_,h1⟩:=hf 1 23 1 rfl;obtain⟨_,_,h2⟩:=hf 2 4 2 rfl;rw[VM]at h0 h1;rw[co4]at h2;obtain⟨a,ga,ra⟩:=B1 _ _ _ h0;obtain⟨b,gb,rb⟩:=B1 _ _ _ h1;obtain⟨c,_,rc⟩:=yQ (t:=4) (by kernel_rfl) _ _ _ h2;exact⟨⟨a,b,c⟩,⟨ga,gb⟩,ra.append (rb.append rc)⟩
def Q0:lW enc w held 27 (λl:List Word=>[.slice .view (l.map cZ)]) (λl=>∀x∈l,xG x):=
 oe (e:=44) cZ (λ_=>rfl) (by kernel_rfl) (by rw[VP];omega) Qn
def Sh:lW enc w held 29 ae A_:=by
 intro fuel cs x h;obtain⟨hl,hf⟩:=ld (zJ:=[(23,0),(24,1),(26,2),(26,4),(3,6),(27,7),(3,8),(3,9)]) (by kernel_rfl) h;rw[Vh]at hl
 match cs,hl with
 |[x0,x1,x2,x3,x4,x5,x6,x7,x8,x9],_=>
  obtain⟨_,_,h0⟩:=hf 0 23 0 rfl;obtain⟨_,_,h1⟩:=hf 1 24 1 rfl;obtain⟨_,_,h2⟩:=hf 2 26 2 rfl;obtain⟨_,_,h3⟩:=hf 3 26 4 rfl;obtain⟨_,_,h4⟩:=hf 4 3 6 rfl;obtain⟨_,_,h5⟩:=hf 5 27 7 rfl;obtain⟨_,_,h6⟩:=hf 6 3 8 rfl;obtain⟨_,_,h7⟩:=hf 7 3 9 rfl;rw[VM]at h0;rw[ZV]at h1;rw[MY]at h2 h3;rw[Q5]at h4 h6 h7;rw[ab4]at h5;obtain⟨a0,g0,r0⟩:=B1 _ _ _ h0;obtain⟨a1,g1,r1⟩:=Sq _ _ _ h1;obtain⟨a2,g2,r2⟩:=wS _ _ _ h2;obtain⟨a3,g3,r3⟩:=wS _ _ _ h3;obtain⟨a4,g4,r4⟩:=lM _ _ _ h4;obtain⟨a5,g5,r5⟩:=Q0 _ _ _ h5;obtain⟨a6,g6,r6⟩:=lM _ _ _ h6;obtain⟨a7,g7,r7⟩:=lM _ _ _ h7;exact⟨⟨a0,a1,a2.1,a2.2,a3.1,a3.2,a4,a5,a6,a7⟩,⟨g0,g1,g2.1,g2.2,g3.1,g3.2,g4,g5,g6,g7⟩,r0.append (r1.append (r2.append (r3.append (r4.append (r5.append (r6.append r7))))))⟩
def Pz(s:az):Prop:=ma s.pos/\ma s.reach/\ma s.eW/\ma s.dS/\A_ s.name/\∀c∈s.cells,ma c.lo/\ma c.hi
def Vi:prog.cellsOf 52=3:=by kernel_rfl
def ab9:prog.cellsOf 22=1:=by kernel_rfl
def aaL:prog.cellsOf 31=15:=by kernel_rfl
def Pq:lW enc w held 52 (λc:kf=>(fo c).cells) (λc=>ma c.lo/\ma c.hi):=by
 intro fuel cs x h;obtain⟨hl,hf⟩:=ld (zJ:=[(26,0),(4,2)]) (by kernel_rfl) h;rw[Vi]at hl
 match cs,hl with
 |[x0,x1,x2],_=>
  obtain⟨_,_,h0⟩:=hf 0 26 0 rfl;obtain⟨_,_,h2⟩:=hf 1 4 2 rfl;rw[MY]at h0;rw[show prog.cellsOf 4=1 from co4]at h2;obtain⟨a,ga,ra⟩:=wS _ _ _ h0;obtain⟨c,_,rc⟩:=yQ (t:=4) (by kernel_rfl) _ _ _ h2;exact⟨⟨a.1,a.2,c⟩,ga,ra.append rc⟩
def PR:lW enc w held 22 (λl:List kf=>[.slice .view (l.map fo)]) (λl=>∀c∈l,ma c.lo/\ma c.hi):=
 oe (e:=52) fo (λ_=>rfl) (by kernel_rfl) (by rw[Vi];omega) Pq
def PD:lW enc w held 31 ar Pz:=by
 intro fuel cs x h;obtain⟨hl,hf⟩:=ld (zJ:=[(22,0),(3,1),(3,2),(3,3),(3,4),(29,5)]) (by kernel_rfl) h;rw[aaL]at hl
 match cs,hl with
 |[x0,x1,x2,x3,x4,x5,x6,x7,x8,x9,xa,xb,xc,xd,xe],_=>
  obtain⟨_,_,h0⟩:=hf 0 22 0 rfl;obtain⟨_,_,h1⟩:=hf 1 3 1 rfl;obtain⟨_,_,h2⟩:=hf 2 3 2 rfl;obtain⟨_,_,h3⟩:=hf 3 3 3 rfl;obtain⟨_,_,h4⟩:=hf 4 3 4 rfl;obtain⟨_,_,h5⟩:=hf 5 29 5 rfl;rw[ab9]at h0;rw[Q5]at h1 h2 h3 h4;rw[Vh]at h5;obtain⟨a0,g0,r0⟩:=PR _ _ _ h0;obtain⟨a1,g1,r1⟩:=lM _ _ _ h1;obtain⟨a2,g2,r2⟩:=lM _ _ _ h2;obtain⟨a3,g3,r3⟩:=lM _ _ _ h3;obtain⟨a4,g4,r4⟩:=lM _ _ _ h4;obtain⟨a5,g5,r5⟩:=Sh _ _ _ h5;exact⟨⟨a0,a1,a2,a3,a4,a5⟩,⟨g1,g2,g3,g4,g5,g0⟩,r0.append (r1.append (r2.append (r3.append (r4.append r5))))⟩
def Fb{d:DataW H}{ps:List MemPlace}{v:Value}{r:Reach}{base:Nat}(ED:Value.okWide prog w r base 31 v)(h:DataW.Trod enc prog w 0 (λ_=>true) held 31 v d ps):∃s:az,Pz s/\RD T0 w (bn s) v:=by
 obtain⟨fuel,hf⟩:=h;obtain⟨s,gs,hc⟩:=PD _ _ _ hf;refine⟨s,gs,?_⟩;obtain⟨fs,gv⟩:=uZ 31;obtain⟨cs,rfl,_⟩:=WideShapes.okWide_struct gv ED;refine .agg _ _ (by simpa[Value.cells]using hc.1) (λi hi=>(hc.2 i hi (by rw[<-hc.1];exact hi)).1) (λi hi cQ=>?_);have:=(hc.2 i hi (by rw[<-hc.1];exact hi)).2;simpa[Value.cells]using this
end
end Go.Proofs.Tryz
namespace Go.Proofs.Tryz
open Go Go.AL Go.RowKit Go.Proofs Go.Proofs.Tram
variable{GI:World->Prop}
def oI{s:az}(h:eG s):dk s s.cells.length=false:=by
 have:=h.pos;unfold dk
 have:¬s.cells.length<s.pos.toNat:=by omega
 simp[this]
def vg{s:az}(h:eG s)(es:List End):∀x∈aU s es,0<x:=by
 intro x hx;obtain⟨i,hi,rfl⟩:=acZ.1 hx;have hi:=acY.1 hi;have hw:=(lV h.name (acy hi)).Ea;have hp:=h.eW;have ht:=h.dS;unfold uK;rw[fM hi];have a1:1*1<=s.eW*(s.name.words[i].aM.length:Int):=aep (by omega) (by omega) (by omega) (by omega);have a3:0<=s.dS*(iY es i s.name.words[i].aM.length:Int):=ad3 (by omega) (by omega);omega
def KJ{ao:List Int}(hp:∀x∈ao,0<x){bb:Nat->Int}{vs:List (Nat×Nat)}{v:Nat×Nat}(hv:v∈vs)(h:ao.sum<=iI bb v.1 (v.2+1)):eI ao bb vs=ao.length:=by
 obtain⟨a,b,rfl⟩:=List.append_of_mem hv
 have key:∀(b:List (Nat×Nat))(n:Nat),n=ao.length->b.foldl (λn v=>n+(dJ (ao.drop n) (iI bb v.1 (v.2+1))).1) n=ao.length:=by
  intro b
  induction b with
  |nil=>intro n hn;exact hn
  |cons y b ih=>
   intro n hn;rw[List.foldl_cons];refine ih _ ?_;rw[hn,afy];simp[dJ]
 have e:eI ao bb (a++v::b)=b.foldl (λn v=>n+(dJ (ao.drop n) (iI bb v.1 (v.2+1))).1) (eI ao bb a+(dJ (ao.drop (eI ao bb a)) (iI bb v.1 (v.2+1))).1):=by
  unfold eI;rw[adk,List.foldl_cons]
 rw[e];refine key b _ ?_;have hle:=tC ao bb a
 obtain⟨n,hn⟩:∃n,eI ao bb a=n:=⟨_,rfl⟩
 rw[hn]at hle⊢
 have qB:∀x∈ao.drop n,0<x:=λx hx=>hp x (aeN hx)
 have hs:(ao.take n).sum+(ao.drop n).sum=ao.sum:=by rw[<-aeg,aem]
 have h0:=l4 (l:=ao.take n) λx hx=>hp x (adS hx)
 have h1:=l4 (l:=ao.drop n) qB;have:=(Ic qB (t:=iI bb v.1 (v.2+1)) (by omega)).2 (by omega);rw[this,adg];omega
def yu{s:az}(h:eG s)(i n:Nat):∀j,0<=ec (fN s i n) j:=λj=>by
 unfold ec fN;rw[ac2,afR];have hb:=(o9 h 0).2
 have hg:∀k,0<=(bo 0 s).getD k 0:=λk=>by
  rw[ac2]
  cases hk:(bo 0 s)[k]? with
  |none=>exact aed 0
  |some x=>exact(hb x (adR hk)).1
 split
 .split
  .have:=hg i;simp only[Option.getD_some];omega
  .exact aed 0
 .have:=hg j;rwa [ac2]at this
def EI(l:List Int)(i j:Nat)(x:Int):(l.set i x).getD j 0=if i=j then(if i<l.length then x else 0)else l.getD j 0:=by
 rw[ac2,afR];split
 .split<;>rfl
 .rw[ac2]
def HU(s:az)(i:Nat){m n:Nat}(hmn:m<=n)(j:Nat):ec (fN s i m) j<=ec (fN s i n) j:=by
 unfold ec fN;rw[EI,EI];split
 .split
  .omega
  .exact aed _
 .exact aed _
def ME{s:az}(h:eG s){ao:List Int}(hp:∀x∈ao,0<x)(i:Nat):∀x y,x<=y->iL s ao i x=true->iL s ao i y=true:=by
 intro x y hxy hx;unfold iL at hx⊢;rw[acJ]at hx⊢;have h1:=Mf (na:=ao) (nb:=ao) rfl (λ_ _ _=>aed _) hp (yu h i x) (yu h i y) (oI h) (oI h) (λj _ hs=>⟨hs,HU s i hxy j⟩);have h2:=tC ao (ec (fN s i y)) (ez (dk s) s.cells.length);unfold ru at hx⊢;omega
def LJ{s:az}(h:eG s){f t m:Nat}(hf:f<=t)(ht:t<s.cells.length):(m:Int)<=iI (ec (fN s f m)) f (t+1):=by
 have hl:(bo 0 s).length=s.cells.length:=by simp[bo]
 have h0:(m:Int)<=ec (fN s f m) f:=by
  unfold ec fN;rw[ac2,afR,if_pos rfl,if_pos (by omega),Option.getD_some];have:=(o9 h 0).2 _ (acy (show f<(bo 0 s).length by omega));rw[ac2,acx (by omega),Option.getD_some];omega
 have key:∀d,(m:Int)<=iI (ec (fN s f m)) f (f+d+1):=by
  intro d
  induction d with
  |zero=>
   rw[Nat.add_zero,rL _ (acD f),vm];omega
  |succ d ih=>
   rw[show f+(d+1)+1=(f+d+1)+1 by omega,rL _ (by omega)];have:=yu h f m (f+d+1);omega
 have:=key (t-f);rwa [show f+(t-f)+1=t+1 by omega]at this
def vj{s:az}(h:eG s){ao:List Int}(hp:∀x∈ao,0<x)(hv:(dz s).isEmpty=false):∃c,c<s.cells.length/\iL s ao c ao.sum.toNat=true:=by
 cases n_:ez (dk s) s.cells.length with
 |nil=>simp[dz,n_]at hv
 |cons v l=>
  have b_:=(yl (oI h)).1 v (by rw[n_];simp);refine⟨v.1,by omega,?_⟩;unfold iL ru;rw[acJ];have h0:=l4 hp;exact KJ (v:=v) hp (by rw[n_];simp) (by have:=LJ h (m:=ao.sum.toNat) b_.1 b_.2;omega)
def GA(p:Nat->Bool)(k:Nat):Nat:=((List.range k).find? p).getD k
def uX(p:Nat->Bool)(k:Nat):mg p k (GA p k):=by
 unfold GA
 cases hf:(List.range k).find? p with
 |none=>
  refine⟨acD _,λx hx=>?_,λh=>absurd h (by simp)⟩;have:=aeE.1 hf x (acY.2 (by simpa using hx));simpa using this
 |some r=>
  obtain⟨h1,pa,pb,h2,h3⟩:=List.find?_eq_some_iff_append.1 hf;have hr:r<k:=acY.1 (afT hf);refine⟨by simp;omega,λx hx=>?_,λ_=>h1⟩;simp only[Option.getD_some]at hx
  have k_:x∈pa++r::pb:=by rw[<-h2];exact acY.2 (by omega)
  rcases acF.1 k_ with h|h
  .have:=h3 x h;simpa using this
  .exfalso
   have Zk:(pa++r::pb).Pairwise (·<·):=by rw[<-h2];exact af_
   have Zk:=(aey.1 Zk).2.1;rcases adl.1 h with h|h
   .omega
   .have:=(adT.1 Zk).1 x h;omega
def gO(s:az)(ao:List Int)(i:Nat):Nat:=GA (iL s ao i) (ao.sum.toNat+1)
def u_(s:az)(ao:List Int):Option (Nat×Nat):=match fD (gO s ao) ao.sum.toNat s.cells.length with
 |x::l=>some (fP x l)
 |[]=>none
def sF(s:az):List AV:=
 if dQ s then(match eX s.name with
  |some es=>if(dz s).isEmpty then[.int .i64 0,.int .i64 0,.int .i64 5]else(match u_ s (aU s es)with|some q=>[.int .i64 (q.1:Nat),.int .i64 (q.2:Nat),.int .i64 0]|none=>[])
  |none=>[.int .i64 0,.int .i64 0,.int .i64 7])else[.int .i64 0,.int .i64 0,.int .i64 2]
def wR:∀(l:List (Nat×Nat))(x:Nat×Nat),kY (di x) (l.map di)=di (fP x l)
 |[],_=>rfl
 |y::l,x=>by
  have e1:kY (di x) ((y::l).map di)=kY (if(di y).2<(di x).2 then di y else di x) (l.map di):=rfl;have e2:fP x (y::l)=fP (if y.2<x.2 then y else x) l:=rfl;rw[e1,e2,<-wR l]
  congr 1
  by_cases h:y.2<x.2
  .rw[if_pos h,if_pos (by show(y.2:Int)<(x.2:Int);omega)]
  .rw[if_neg h,if_neg (by show¬(y.2:Int)<(x.2:Int);omega)]
def vd:∀{l:List Int}{b:Int},(∀x∈l,x<=b)->0<=b->l.sum<=l.length*b
 |[],_,_,_=>by simp
 |x::l,b,h,hb=>by
  have h1:=h x (by simp);have h2:=vd (l:=l) (λy hy=>h y (by simp[hy])) hb;simp only[List.sum_cons,List.length_cons]
  have:((l.length+1:Nat):Int)*b=l.length*b+b:=by rw[Int.natCast_add,Int.add_mul];simp
  omega
def mL(s:az):List End:=(eX s.name).getD []
def BD{s:aF}(hs:bf s=true):(sg s).1=(eX s).getD []/\decide (0<=(sg s).2)=(eX s).isSome:=by
 unfold eX
 cases hg:eR s []with
 |nil=>
  have hD:sg s=([],-1):=by unfold sg;rw[hg]<;>rfl
  rw[hD];exact⟨rfl,rfl⟩
 |cons x l=>
  obtain⟨_,hD,h0⟩:=NN hs hg;rw[hD];exact⟨rfl,by simpa using h0⟩
def B8{s:az}(h:eG s):(mL s).length<=3:=by
 unfold mL
 cases he:eX s.name with
 |none=>simp
 |some es=>exact iq h.name he
def NQ{s:az}(h:eG s):∀e∈mL s,0<=e.1/\e.1.toNat<s.name.words.length:=by
 unfold mL eX
 cases hg:eR s.name []with
 |nil=>intro e he;cases he
 |cons x l=>
  intro e he
  have hm:fV (eQ s.name) x l∈eR s.name []:=by rw[hg];exact mR _ _ _
  have h1:=(rG h.name (oC h.name)).1 hm;have h2:=(sV h1.1).2.2.1 e he;unfold t_ cG at h2;simp only[acA,acJ]at h2;omega
def KZ (s:az) (es:List End) (k:Nat) (hk:k < es.length) (h0:0≤es[k].1) (h1:es[k].1.toNat < s.name.words.length) :
  eO s (es.take (k+1))=if es[k].2<((s.name.words[es[k].1.toNat].aM.length:Nat):Int)then(eO s (es.take k)).set es[k].1.toNat ((eO s (es.take k)).getD es[k].1.toNat 0+1)else eO s (es.take k):=by
 rw[acL hk]
 have hc:∀i n,iY (es.take k++[es[k]]) i n=iY (es.take k) i n+if es[k].1=((i:Nat):Int)/\es[k].2<((n:Nat):Int)then 1 else 0:=by
  intro i n;unfold iY;rw[List.countP_append,List.countP_cons,List.countP_nil];simp
 have hl:∀l,(eO s l).length=s.name.words.length:=by intro l;simp[eO]
 apply aeQ
 .split<;>simp[hl]
 .intro i h2 h3
  have hi:i<s.name.words.length:=by rw[hl]at h2;exact h2
  have e1:(eO s (es.take k++[es[k]]))[i]=((iY (es.take k++[es[k]]) i (ct s.name i):Nat):Int):=by simp[eO]
  have e2:∀(hh:i<(eO s (es.take k)).length),(eO s (es.take k))[i]=((iY (es.take k) i (ct s.name i):Nat):Int):=by intro hh;simp[eO]
  rw[e1,hc]
  by_cases hb:es[k].2<((s.name.words[es[k].1.toNat].aM.length:Nat):Int)
  .simp only[if_pos hb];rw[ae5]
   by_cases oA:es[k].1.toNat=i
   .rw[if_pos oA];subst oA;rw[fM hi,if_pos ⟨by omega,hb⟩]
    have:(eO s (es.take k)).getD es[k].1.toNat 0=((iY (es.take k) es[k].1.toNat (ct s.name es[k].1.toNat):Nat):Int):=by
     rw[ac2,acx (by rw[hl];exact hi)];exact e2 _
    rw[this,fM hi];simp
   .rw[if_neg oA,e2,if_neg (by omega)];simp
  .simp only[if_neg hb];rw[e2]
   by_cases oA:es[k].1=((i:Nat):Int)
   .have:es[k].1.toNat=i:=by omega
    subst this;rw[fM hi,if_neg (λh=>hb h.2)];simp
   .rw[if_neg (λh=>oA h.1)];simp
def N1(s:az):ints (eO s [])=List.replicate s.name.words.length (.int .i64 0):=by
 apply aeQ
 .simp[eO,ints]
 .intro i h1 h2;simp[eO,ints,iY]
def tO(l:List Int):∀x∈ints l,x.cells.length=1/\x.storable=true/\∀c∈x.cells,c.one=true:=by
 intro x hx;obtain⟨e,_,rfl⟩:=acZ.1 hx;exact⟨rfl,rfl,λc hc=>by simp[AV.cells]at hc;subst hc;rfl⟩
def uS(l:List Int):∀x∈ints l,∀c∈x.cells,gQ c=true:=by
 intro x hx c hc;obtain⟨e,_,rfl⟩:=acZ.1 hx;simp[AV.cells]at hc;subst hc;rfl
def Je(l:List (List Int)):∀x∈l.map vI,x.cells.length=1/\x.storable=true/\∀c∈x.cells,c.one=true:=by
 intro x hx;obtain⟨e,_,rfl⟩:=acZ.1 hx;exact⟨rfl,rfl,λc hc=>by simp[AV.cells,vI]at hc;subst hc;rfl⟩
structure Lv(wB:World)(Mi:Nat->Nat->Prop)(bF bN:Nat)(s:az)(cS cR fv:Value)(fs:List (List Int))(es:List Int)(w:World):Prop where
 below:Below wB.heap.size wB w
 ge:wB.heap.size<=bF/\wB.heap.size<=bN/\bF≠bN
 lt:∀b k,Mi b k->b<w.heap.size
 gF:∀k,¬Mi bF k
 gN:∀k,¬Mi bN k
 st:∃u xE xF v Cs xN,w.heap[bF]?=some (.cells #[u] xE (0,0))/\w.ownsRow (bF+1) 23 1 u fs.length xF/\iQ (λb k=>Mi b k/\wB.heap.size<=b) w 1 (fs.map vI) xF/\(∀b,u.ownBlock=some b->b≠bN/\∀k,¬Mi b k)/\
  w.heap[bN]?=some (.cells #[v] Cs (0,0))/\w.ownsRow (bN+1) 3 1 v es.length xN/\iQ (λ_ _=>False) w 1 (ints es) xN/\∀b,v.ownBlock=some b->b≠bF/\u.ownBlock≠some b/\∀k,¬Mi b k
 s:RV Mi cD w (.ref (ar s)) cS
 r:RV Mi cD w (.ref [.val fv]) cR
variable{wB:World}{Mi:Nat->Nat->Prop}{bF bN:Nat}{s:az}{cS cR fv:Value}{fs:List (List Int)}{es:List Int}{w w':World}
def im{base:Nat}{e:TypeId}{size:Nat}{v:Value}{n:Nat}{xs:List Value}(h:w.ownsRow base e size v n xs)(hk:∀b,v.ownBlock=some b->w'.heap[b]?=w.heap[b]?):w'.ownsRow base e size v n xs:=by
 refine⟨h.1,?_⟩
 rcases h.2 with h|⟨gg,cap,cur,rfl,nC,CN,rest⟩
 .exact .inl h
 .exact .inr ⟨gg,cap,cur,rfl,nC,(hk gg rfl).trans CN,rest⟩
def Lv.grow(st:Lv wB Mi bF bN s cS cR fv fs es w)(hb:Below w.heap.size w w'):Lv wB Mi bF bN s cS cR fv fs es w':=by
 have hk:bc Mi Mi w w':=bc.iN (λb h=>hb.block b h) λ_ _ _ h=>h
 obtain⟨u,xE,xF,v,Cs,xN,f1,f2,f3,f4,n1,n2,n3,n4⟩:=st.st;have lF:=(acz.1 f1).1;have lN:=(acz.1 n1).1
 exact⟨st.below.trans (hb.mono st.below.size),st.ge,λb k h=>adq (st.lt b k h) hb.size,st.gF,st.gN,
  ⟨u,xE,xF,v,Cs,xN,(hb.block _ lF).trans f1,im f2 λb h=>hb.block _ (f2.lt b h).2,f3.mono (bc.iN (λb h=>hb.block b h) λ_ _ _ h=>h),f4,(hb.block _ lN).trans n1,im n2 λb h=>hb.block _ (n2.lt b h).2,n3.mono (bc.of_eq λ_ _ h=>h.elim),n4⟩,
  st.s.mono hk λ_ _ h=>h,st.r.mono hk λ_ _ h=>h⟩
end Go.Proofs.Tryz
namespace Go.Proofs.Tryz
open Go Go.AL Go.RowKit Go.Proofs Go.Proofs.Tram
variable{GI:World->Prop}
def yc(x:kf)(n:Nat):kf:=⟨x.lo+n,x.hi+n,x.hid⟩
def pY(s:az)(i n:Nat):az:={ s with cells:=s.cells.set i (yc (s.cells.getD i ⟨0,0,false⟩) n) }
def DM(s:az)(i n:Nat):(pY s i n).cells.length=s.cells.length:=by simp[pY]
def Mn(e:Nat)(x:kf)(n:Nat):mA e (yc x n)=mA e x+n:=by
 unfold mA yc
 split<;>rfl
def Km(e:Nat){s:az}{i:Nat}(hi:i<s.cells.length)(n:Nat):bo e (pY s i n)=(bo e s).set i ((bo e s).getD i 0+n):=by
 unfold bo pY;rw[List.map_set,Mn]
 have e1:(s.cells.map (mA e)).getD i 0=mA e (s.cells.getD i ⟨0,0,false⟩):=by
  rw[ac2,ac2,ac1,acx hi]
  rfl
 rw[e1]
def Iu{s:az}{i:Nat}(hi:i<s.cells.length)(n:Nat):bo 0 (pY s i n)=fN s i n:=Km 0 hi n
def IC{s:az}(h:eG s)(es:List End)(hv:(dz s).isEmpty=false):∃q,u_ s (aU s es)=some q/\pM (iL s (aU s es)) s.cells.length q.1 q.2:=by
 have hf:∀i,i<s.cells.length->mg (iL s (aU s es) i) ((aU s es).sum.toNat+1) (gO s (aU s es) i):=λi _=>uX _ _
 obtain⟨c,hc,hd⟩:=vj h (vg h es) hv;obtain⟨x,l,yA⟩:=AF hf hc (acD _) hd;refine⟨fP x l,?_,Tp hf yA⟩;unfold u_;rw[yA]
end Go.Proofs.Tryz
namespace Go.Proofs.Tryz
open Go Go.AL Go.RowKit Go.Proofs Go.Proofs.Tram
attribute [local simp] dP fu fb eu eL dV dW du dp eJ dq cU gG gD aG aD ev aQ.S aQ.H bG au aY AL.start AV.cells AV.storable AV.bZ bu bQ eF b0 HR.okB post cL dc db AV.out AV.bW cy dK fz gM AV.vw da vI int bO aO dE dj iJ jF eo dG bt AV.aH AV.cT
variable{GI:World->Prop}
def VC(hG:aw GI)(s:az)(hs:gh s):AC prog GI 40 [bn s] (.ret (.dR (sF s))):=by
 have nP:=rZ hG s hs;have kc:=Br hG s hs
 rcases j_ s with⟨hI,es,fw,ho⟩|⟨e,he,ho,zV⟩
 .rw[ho]at kc;have hg:=fl hI;have hc:=hg.cells
  have Lz:sF s=if(dz s).isEmpty then[.int .i64 0,.int .i64 0,.int .i64 5]else(match u_ s (aU s es)with|some q=>[.int .i64 (q.1:Nat),.int .i64 (q.2:Nat),.int .i64 0]|none=>[]):=by unfold sF;rw[if_pos hI,fw]<;>rfl
  rw[Lz];have hn:=ka hg (iq hg.name fw);have hp:=vg hg es
  have hle:(aU s es).sum<=400:=by
   have hb:∀x∈aU s es,x<=81:=λx hx=>by
    obtain⟨i,hi,rfl⟩:=acZ.1 hx
    exact(tf hg (iq hg.name fw) (by
     rw[fM (acY.1 hi)]
     exact(lV hg.name (acy _)).uy)).2
   have h1:=vd hb (by decide)
   have h2:(aU s es).length<=4:=by
    have:=(eM hg.name).words;simp[aU];omega
   omega
  generalize aU s es=ao at kc hn hp hle⊢;have h0:=l4 hp;have HJ:=PG hG ao (by omega) hn.1
  obtain⟨most,E8⟩:∃most,ao.sum.toNat=most:=⟨_,rfl⟩
  have y9:ao.sum=(most:Nat):=by omega
  rw[y9]at HJ
  have zY:most<=400:=by omega
  have hvw:(ar s).map AV.cT=ar s:=by simp[ar,ae,AV.cT,vI]
  have ZA:(bq s ao).map AV.cT=bq s ao:=by simp[bq,ar,ae,AV.cT,vI]
  have aac:∀i:Nat,i<s.cells.length->AC prog GI 103 [.int .i64 ((most+1:Nat):Int),.func (.func 104) [] [.ref (ar s),.ref [.int .i64 (i:Nat)],.ref (bq s ao)]] (.ret (.int .i64 (gO s ao i:Nat))):=λi hi=>by
   have:=Yn hG (n:=most+1) (by omega) 104 (ar s) [.int .i64 (i:Nat)] (bq s ao) (by kernel_rfl) (ME hg hp i) (λy hy=>Yp hG s hg ao hn hi (n:=y) (by omega)) (uX (iL s ao i) (most+1));unfold gO;rw[E8];exact this
  have HC:=Tf hG s;have qU:=Vp hG s (ps:=dz s) (by have:=zE s;omega) (LG hG s hg);have qU:=AC.gW (o:=if(dz s).isEmpty then .nil else .view) qU;unfold u_;rw[E8];refine cE hG func40 ntmps40 c40 ?_;refine aI (λS H=>S 1=.box 1 0/\H 1=some (ar s)) (by simp[bn,ar,ae]) ?_;rintro S H ⟨s1,h1⟩;refine aI (λS H=>S 1=.box 1 0/\H 1=some (ar s)/\S 5=.box 5 0/\H 5=some (bq s ao)/\S 6=.int .i64 0) ?_ ?_
  .simp[s1,h1,ar,ae];refine oc nP ?_;simp;refine oc kc ?_;simp[s1,h1,dv,bq,ar,ae,bV]
  clear s1 h1 S H;rintro S H ⟨s1,h1,s5,h5,s6⟩;refine aI (λS H=>S 1=.box 1 0/\H 1=some (ar s)/\S 5=.box 5 0/\H 5=some (bq s ao)) (by simp[s1,h1,s5,h5,s6]) ?_;clear s1 h1 s5 h5 s6 S H;rintro S H ⟨s1,h1,s5,h5⟩;refine aI (λS H=>S 1=.box 1 0/\H 1=some (ar s)/\S 5=.box 5 0/\H 5=some (bq s ao)/\S 7=.int .i64 (most:Nat)) ?_ ?_
  .simp[s1,h1,s5,h5,bq,ar,ae];refine oc HJ ?_;simp[s1,h1,s5,h5,bq,ar,ae]
  clear s1 h1 s5 h5 S H;rintro S H ⟨s1,h1,s5,h5,s7⟩;refine aI (λS H=>S 1=.box 1 0/\H 1=some (ar s)/\S 5=.box 5 0/\H 5=some (bq s ao)/\S 7=.int .i64 (most:Nat)/\S 8=.slice .nil []) (by simp[s1,h1,s5,h5,s7]) ?_;clear s1 h1 s5 h5 s7 S H;rintro S H ⟨s1,h1,s5,h5,s7,s8⟩;refine aI (λS H=>S 1=.box 1 0/\H 1=some (ar s)/\S 8=grow 132 (aS ((fD (gO s ao) most s.cells.length).map di))) ?_ ?_
  .refine aI (λS H=>S 1=.box 1 0/\H 1=some (ar s)/\S 5=.box 5 0/\H 5=some (bq s ao)/\S 7=.int .i64 (most:Nat)/\S 8=.slice .nil []/\S 27=.int .i64 s.cells.length/\S 28=.int .i64 ((0:Nat):Int)) (by simp[s1,h1,s5,h5,s7,s8,ar,ae]) ?_;clear s1 h1 s5 h5 s7 s8 S H;rintro S H ⟨s1,h1,s5,h5,s7,s8,qx,Cp⟩;refine bC 28 s.cells.length (λi S H=>S 1=.box 1 0/\H 1=some (ar s)/\S 5=.box 5 0/\H 5=some (bq s ao)/\S 7=.int .i64 (most:Nat)/\S 8=grow 132 (aS ((fD (gO s ao) most i).map di))/\S 27=.int .i64 s.cells.length/\S 28=.int .i64 (i:Nat)) (λi S H h=>h.2.2.2.2.2.2.2) ⟨s1,h1,s5,h5,s7,by rw[s8]<;>rfl,qx,Cp⟩ ?_;clear s1 h1 s5 h5 s7 s8 qx Cp S H;rintro i hi S H ⟨s1,h1,s5,h5,s7,s8,qx,Cp⟩
   by_cases av:i<s.cells.length
   case neg=>
    have cN:i=s.cells.length:=by omega
    subst cN;simp[s1,h1,s5,h5,s7,s8,qx,Cp]
   have hw:IntKind.i64.wrap ((i:Int)+1)=i+1:=aP (by omega)
   have iy:IntKind.i64.wrap ((most:Int)+1)=((most+1:Nat):Int):=by rw[aP (by omega)];omega
   have mu:=xf (gO s ao) most i
   have hlen:(aS ((fD (gO s ao) most i).map di)).length<=i:=by
    simp only[aS,acC];have:=af2 (λk=>if gO s ao k<=most then some (k,gO s ao k)else none) (List.range i);simpa[fD]using this
   have b_:=sB ((fD (gO s ao) most i).map di);have hh:=aac i av
   have Zg:((most+1:Nat):Int)=(most:Int)+1:=by omega
   rw[Zg]at hh iy;simp[s1,h1,s5,h5,s7,s8,qx,Cp,av,iy,hvw,ZA];refine⟨_,by kernel_rfl,hh,λ_=>rfl,?_⟩
   by_cases vS:gO s ao i<=most
   .rw[if_pos vS]at mu
    have hE:aS ((fD (gO s ao) most (i+1)).map di)=aS ((fD (gO s ao) most i).map di)++[.agg [.int .i64 (i:Nat),.int .i64 (gO s ao i:Nat)]]:=by
     rw[mu,ada];unfold aS
     rw[ada]<;>rfl
    rw[hE];have k3:aJ 2 [AV.agg [.int .i64 (i:Nat),.int .i64 (gO s ao i:Nat)]]=true:=rfl;generalize aS ((fD (gO s ao) most i).map di)=L at s8 hlen b_⊢
    cases L with
    |nil=>
     have tZ:grow 132 []=.slice .nil []:=rfl;simp[s1,h1,s5,h5,s7,s8,qx,Cp,vS,tZ,hw,bV,k3]
     try rfl
    |cons y L=>
     have tZ:grow 132 (y::L)=.slice (.own 132) (y::L):=rfl
     have PA:∀z,grow 132 (y::(L++[z]))=.slice (.own 132) (y::(L++[z])):=λ_=>rfl
     have uW:L.length+1+1<1048576:=by simp at hlen;omega
     simp[s1,h1,s5,h5,s7,s8,qx,Cp,vS,tZ,PA,hw,bV,k3,b_,uW]
   .rw[if_neg vS,adn]at mu;rw[mu]
    have QB:∀L,grow 132 L=.slice (if L=[]then .nil else .own 132) L:=λ_=>rfl
    simp[s1,h1,s5,h5,s7,s8,qx,Cp,vS,hw,QB]
  .clear s1 h1 s5 h5 s7 s8 S H;rintro S H ⟨s1,h1,s8⟩
   cases hv:(dz s).isEmpty with
   |true=>
    have nM:dz s=[]:=by simpa using hv
    rw[nM]at qU;simp[s1,h1,ar,ae];refine oc HC ?_;simp;refine⟨_,by kernel_rfl,qU,by simp[da,p9],?_⟩;simp
   |false=>
    have nM:dz s≠[]:=by intro h;rw[h]at hv;cases hv
    have sq:(((dz s).length:Int)==0)=false:=by
     have:(dz s).length≠0:=λh=>nM (adb h)
     rw[adj];omega
    obtain⟨c,q1,q2⟩:=vj hg hp hv;rw[E8]at q2;obtain⟨x,l,yA⟩:=AF (p:=iL s ao) (f:=gO s ao) (most:=most) (m:=s.cells.length) (λj _=>by unfold gO;rw[E8];exact uX _ _) q1 (acD _) q2
    have nS:=Y7 hG (di x) (l.map di) (by
     have h1:=congrArg List.length yA;have:=af2 (λk=>if gO s ao k<=most then some (k,gO s ao k)else none) (List.range s.cells.length);simp[fD]at h1 this
     simp;omega)
    rw[wR]at nS
    have e_:di x::l.map di=(fD (gO s ao) most s.cells.length).map di:=by rw[yA]<;>rfl
    have iU:grow 132 (aS ((fD (gO s ao) most s.cells.length).map di))=.slice (.own 132) (aS ((fD (gO s ao) most s.cells.length).map di)):=by rw[yA]<;>rfl
    rw[iU]at s8;rw[e_]at nS;rw[yA];generalize aS ((fD (gO s ao) most s.cells.length).map di)=L at s8 nS
    obtain⟨q,hq⟩:∃q,fP x l=q:=⟨_,rfl⟩
    rw[hq]at nS;simp[s1,h1,s8,ar,ae];refine oc HC ?_;simp[s8];refine⟨_,by kernel_rfl,qU,by simp[da,p9],?_⟩;simp[s8,nM,sq,aS];refine oc nS ?_;simp[a_,di,bV,hq]
 .rw[ho]at kc
  have zU:sF s=[.int .i64 0,.int .i64 0,.int .i64 e]:=by
   rcases tu s e he ho with⟨h1,rfl⟩|⟨h1,h2,rfl⟩
   .simp[sF,h1]
   .simp[sF,h1,h2]
  rw[zU]
  have mS:(e !=0)=true:=by simpa using he
  refine cE hG func40 ntmps40 c40 ?_;simp[c40,bn,ar,ae];refine oc nP ?_;simp;refine oc kc ?_;simp[dv,bq,ar,ae,zT,bV,he,mS]
def QD : af := .ops [⟨(some 22), none, .mv false (.t 8)⟩,
    ⟨(some 23),none,.fieldAddr 1 (.t 4)⟩,
    ⟨(some 24),none,.load .any false 1 (.t 23)⟩,
    ⟨(some 25),none,.iW (.t 24)⟩,
    ⟨(some 26),none,.bin .lss (.t 22) (.t 25)⟩]
def P7:af := .ops [⟨(some 29),none,.fieldAddr 1 (.t 4)⟩,
     ⟨(some 30),none,.load .any false 1 (.t 29)⟩,
     ⟨(some 31),none,.mv false (.t 8)⟩,
     ⟨(some 32),none,.indexAddr 2 (.t 30) (.t 31)⟩,
     ⟨(some 33),none,.fieldAddr 0 (.t 32)⟩,
     ⟨(some 34),none,.load .any false 1 (.t 33)⟩,
     ⟨(some 9),none,.mv true (.t 34)⟩]
def RH:af := .cq [⟨(some 35),none,.fieldAddr 1 (.t 4)⟩,
     ⟨(some 36),none,.load (.box 4) false 1 (.t 35)⟩,
     ⟨(some 37),none,.mv false (.t 8)⟩,
     ⟨(some 38),none,.indexAddr 2 (.t 36) (.t 37)⟩,
     ⟨(some 39),none,.fieldAddr 1 (.t 38)⟩,
     ⟨(some 40),none,.load .ref false 1 (.t 39)⟩,
     ⟨(some 41),none,.fieldAddr 5 (.t 1)⟩,
     ⟨(some 42),none,.fieldAddr 7 (.t 41)⟩,
     ⟨(some 43),none,.load (.box 1) false 1 (.t 42)⟩,
     ⟨(some 44),none,.mv false (.t 9)⟩,
     ⟨(some 45),none,.indexAddr 3 (.t 43) (.t 44)⟩,
     ⟨(some 46),none,.fieldAddr 0 (.t 45)⟩,
     ⟨(some 47),none,.load .ref false 1 (.t 46)⟩,
     ⟨(some 48),none,.iW (.t 47)⟩,
     ⟨(some 49),none,.bin .lss (.t 40) (.t 48)⟩]
def Si : af := .ops [⟨(some 27), none, .mv false (.t 8)⟩,
    ⟨(some 28),none,.bin .add (.t 27) (.c (.int .i64 1))⟩,
    ⟨(some 8),none,.mv true (.t 28)⟩]
def RF:List bB:=[⟨(some 50),none,.mv false (.t 7)⟩,
      ⟨(some 51),none,.mv false (.t 9)⟩,
      ⟨(some 52),none,.indexAddr 1 (.t 50) (.t 51)⟩,
      ⟨(some 53),none,.load .any false 1 (.t 52)⟩,
      ⟨(some 54),none,.bin .add (.t 53) (.c (.int .i64 1))⟩,
      ⟨(some 55),none,.indexAddr 1 (.t 50) (.t 51)⟩,
      ⟨none,none,.store .any 1 (.t 55) (.t 54)⟩]
structure xx(s:az)(es:List End)(ok:Bool)(S:an)(H:aq):Prop where
 s1:S 1=.box 1 0
 h1:H 1=some (ar s)
 s4:S 4=.box 4 0
 h4:H 4=some [vI [],.slice .view (es.map a_)]
 s6:S 6=.bool ok
def aaK(hG:aw GI)(s:az)(h:eG s):AC prog GI 95 [bn s] (.ret (.dR [vI (eO s (mL s)),.bool (eX s.name).isSome])):=by
 have RA:=Xj hG s.name h.name;rw[(BD h.name).1,(BD h.name).2]at RA;have uJ:=B8 h;have XA:=NQ h
 have gr:∀l,(eO s l).length=s.name.words.length:=by intro l;simp[eO]
 have rI:=(eM h.name).words
 have fx:=λk hk=>KZ s (mL s) k hk (XA _ (acy hk)).1 (XA _ (acy hk)).2
 change AC prog GI 156 [bU s.name] (.ret (.dR [aL [] (mL s),.int .i64 (max 0 (sg s.name).2),.bool (eX s.name).isSome]))at RA
 generalize mL s=es at*
 generalize(eX s.name).isSome=ok at*
 generalize max 0 (sg s.name).2=mx at*
 obtain⟨i3,pZ,Ad⟩:=acE.1 (show(prog.info? 3).map (λi=>(i.zero,i.size,i.bytes))=some (some (Value.int .i64 0),1,8) by kernel_rfl);simp only[aeW]at Ad;obtain⟨hz3,mD,qn⟩:=Ad;obtain⟨d3,CT,Pu⟩:=vZ 3
 have ep:prog.underlying 23=some (.slice 3):=by kernel_rfl
 refine AC.jw func95 rfl ntmps95 (by simp) λcc w=>?_
 refine eV hG c95.qa (λS H=>S 1=.box 1 0/\H 1=some (ar s)) ?_ ?_
 .simp[c95,af.qa,bn,ar,ae]
 rintro S1 H1 ⟨s1,h1⟩;refine eV hG c95.qb.qa (xx s es ok) ?_ ?_
 .simp[c95,af.qa,af.qb,s1,h1,ar,ae];refine oc RA ?_;simp[s1,h1,ar,ae,aL];exact⟨by simp[au,s1],by simp[au,h1,ar,ae],by simp[au],by first|exact h4|simp[au,h4]|simp[au,aS,vI],by simp[au]⟩
 clear s1 h1;rintro S2 H2 hF;obtain⟨s1,h1,s4,h4,s6⟩:=hF;show SW prog GI 58 none (.seq _ (.seq (.seq _ (.block 0 (.loop (.seq (.seq _ (.cond _ .skip (.exit 0))) (.seq (.block 1 (.seq _ (.seq _ (.cond _ _ .skip)))) _))))) (.seq _ .ret))) _ _ _ _
 refine SW.seq (SW.hand hG (p:=4) (lm:=[4]) (l2:=[5]) (js:=[_,_,_,_]) (oh:=[_]) (lv:=[_]) rfl rfl rfl rfl (by kernel_rfl) (λ_ h=>h)
  (lO:=(c95.qb.qb.qa.dl).take 4) (lu:=(c95.qb.qb.qa.dl).drop 5) (by kernel_rfl) (by kernel_rfl) (by kernel_rfl) (by kernel_rfl)
  (K1:=λS H=>xx s es ok S H/\S 20=.int .i64 s.name.words.length)
  (K2:=λo S H=>∃v,KO cc 3 1 (ints (eO s (es.take 0))) o v/\xx s es ok S H/\S 21=.val v)
  (K3:=λo S H=>∃v,KO cc 3 1 (ints (eO s (es.take 0))) o v/\xx s es ok S H/\S 7=.val v) ?_ ?_ ?_ ?_)
 .simp[c95,af.qa,af.qb,af.dl,s1,h1,s4,h4,s6,ar,ae];exact⟨by simp[au,s1],by simp[au,h1,ar,ae],by simp[au,s4],by first|exact h4|simp[au,h4]|simp[au,aS,vI],by simp[au,s6]⟩
 .rintro w0 g S H a w' m cj ho R ⟨⟨s1,h1,s4,h4,s6⟩,pg⟩;have t20:=R.slot 20 (by decide) (λh=>h);rw[pg]at t20;have Ly:a.eval (.tmp 20)=.int .i64 (s.name.words.length:Nat):=t20.int_eq;refine aV rfl rfl (by rfl) (CZ (m:=s.name.words.length) rfl ep pZ hz3 mD (by rw[qn];omega) (by omega) Ly Ly) ?_;obtain⟨g',R1,hK⟩:=KO.make (cc:=cc) (e:=3) R (by rw[ho];exact⟨rfl,rfl,λ_ h=>h⟩) (m:=s.name.words.length) (by omega);rw[<-N1 s]at hK;exact⟨g',_,_,R1.put 21 (.val _) _ (by decide) (.data _ _ (.val _ rfl)) trivial,_,hK,⟨by simp[au,s1],h1,by simp[au,s4],h4,by simp[au,s6]⟩,aK _ _ _⟩
 .rintro o S H ⟨v,hK,⟨s1,h1,s4,h4,s6⟩,np⟩;refine⟨hK.bx,?_⟩;simp[c95,af.qa,af.qb,af.dl,s1,h1,s4,h4,s6,np];exact⟨hK,⟨by simp[au,s1],by simp[au,h1,ar,ae],by simp[au,s4],by first|exact h4|simp[au,h4]|simp[au,aS,vI],by simp[au,s6]⟩⟩
 .rintro o S3 H3 ⟨v,hK,⟨s1,h1,s4,h4,s6⟩,s7⟩;refine SW.seq (wm hG (.ops [⟨some 8,none,.mv true (.c (.int .i64 0))⟩]) (λd _=>hK.bx d) (λS H=>xx s es ok S H/\S 7=.val v/\S 8=.int .i64 ((0:Nat):Int)) ?_ ?_)
  .simp[s1,h1,s4,h4,s6,s7];exact⟨by simp[au,s1],by simp[au,h1,ar,ae],by simp[au,s4],by first|exact h4|simp[au,h4]|simp[au,aS,vI],by simp[au,s6]⟩
  clear s1 h1 s4 h4 s6 s7;rintro S4 H4 ⟨hF,s7,s8⟩;refine SW.block (SW.loop (λo S H=>∃k,k<=es.length/\KO cc 3 1 (ints (eO s (es.take k))) o v/\xx s es ok S H/\S 7=.val v/\S 8=.int .i64 (k:Nat)) (λS _=>match S 8 with|.int _ j=>es.length-j.toNat|_=>0) ⟨0,by omega,hK,hF,s7,s8⟩ ?_);clear hF s7 s8 hK;rintro o S5 H5 ⟨k,hk,hK,hF,s7,s8⟩;have hF5:=hF;obtain⟨s1,h1,s4,h4,s6⟩:=hF
  have hdk:decide ((k:Int)<(es.length:Int))=decide (k<es.length):=by simp
  refine SW.seq (wm hG QD (λd _=>hK.bx d) (λS H=>xx s es ok S H/\S 7=.val v/\S 8=.int .i64 (k:Nat)/\S 26=.bool (decide (k<es.length))) ?_ ?_)
  .simp[QD,s1,h1,s4,h4,s6,s7,s8];exact⟨by simp[au,s1],by simp[au,h1,ar,ae],by simp[au,s4],by first|exact h4|simp[au,h4]|simp[au,aS,vI],by simp[au,s6]⟩
  clear s1 h1 s4 h4 s6 s7 hF5;rintro S6 H6 ⟨hF,s7,OC,wH⟩;refine SW.cond (c':=.t 26) (by kernel_rfl) (decide (k<es.length)) wH ?_
  by_cases av:k<es.length
  case neg=>
   rw[aeh av]
   have QK:k=es.length:=by omega
   subst QK;rw[adG]at hK;refine SW.exit ?_;show SW prog GI 58 none (.seq _ .ret) _ _ _ _;obtain⟨s1,h1,s4,h4,s6⟩:=hF;refine SW.ghost (K:=λo S H=>PO cc o/\S 7=vI (eO s es)/\S 6=.bool ok) ?_ ?_
   .rintro w0 g a w ho R;rw[<-ho]at hK;obtain⟨g',R2,q1,q2,q3⟩:=KO.done hK R (t:=7) (by decide) s7;exact⟨g',_,_,R2,⟨q1,q2,q3⟩,aK _ _ _,by simp[au,s6]⟩
   rintro o S7 H7 ⟨hp,s7,s6⟩;refine wm hG c95.qb.qb.qb.qb.qa (λd _=>hp.bx d) (λS H=>S 2=vI (eO s es)/\S 3=.bool ok) ?_ ?_
   .simp[c95,af.qa,af.qb,s6,s7]
   intro S H ⟨s2,s3⟩;refine SW.ret ⟨eA.plain hp.ds,hp.c,_,?_,rfl⟩;show cL prog 58 [.tmp 2,.tmp 3] S H=_;simp[cL,dc,db,s2,s3,vI,AV.bW,AV.out,AV.vw,AV.cT]
  rw[adX av];refine SW.skip ?_;show SW prog GI 58 none (.seq (.block 1 (.seq _ (.seq _ (.cond _ _ .skip)))) _) _ _ _ _;have U8:=XA _ (acy av);have I7:=fx k av;refine SW.seq (SW.block (SW.mono (Q:=λx o S H=>x=.normal/\KO cc 3 1 (ints (eO s (es.take (k+1)))) o v/\xx s es ok S H/\S 7=.val v/\S 8=.int .i64 (k:Nat)) ?_ ?_))
  .rintro x o S H ⟨rfl,hK,⟨s1,h1,s4,h4,s6⟩,s7,yF⟩;have hw:IntKind.i64.wrap ((k:Int)+1)=k+1:=aP (by omega);refine SW.last hG dO (by kernel_rfl) (ac:=Si) (by kernel_rfl) (λd _=>hK.bx d) (λS H=>xx s es ok S H/\S 7=.val v/\S 8=.int .i64 ((k+1:Nat):Int)) ?_ ?_
   .simp[Si,s1,h1,s4,h4,s6,s7,yF,hw];exact⟨by simp[au,s1],by simp[au,h1,ar,ae],by simp[au,s4],by first|exact h4|simp[au,h4]|simp[au,aS,vI],by simp[au,s6]⟩
   rintro S' H' ⟨hF,s7,OC⟩;refine⟨⟨k+1,by omega,hK,hF,s7,OC⟩,?_⟩;rw[s8,OC];simp;omega
  have rA:es[k].1.toNat<s.name.words.length:=U8.2
  have hiw:((es[k].1.toNat:Nat):Int)=es[k].1:=by omega
  obtain⟨j,hj⟩:∃j,es[k].1.toNat=j:=⟨_,rfl⟩
  simp only[hj]at I7 rA hiw;clear fx
  have uz:¬(k:Int)<0:=by omega
  have jB:¬(es.length:Int)<=k:=by omega
  have sO:¬es[k].1<0:=by omega
  have o_:¬(s.name.words.length:Int)<=es[k].1:=by omega
  obtain⟨s1,h1,s4,h4,s6⟩:=hF;refine wm hG P7 (λd _=>hK.bx d) (λS H=>xx s es ok S H/\S 7=.val v/\S 8=.int .i64 (k:Nat)/\S 9=.int .i64 es[k].1) ?_ ?_
  .simp[P7,s1,h1,s4,h4,s6,s7,OC,av,uz,jB,a_];exact⟨by simp[au,s1],by simp[au,h1,ar,ae],by simp[au,s4],by first|exact h4|simp[au,h4]|simp[au,aS,vI],by simp[au,s6]⟩
  clear s1 h1 s4 h4 s6 s7;rintro S7 H7 ⟨⟨s1,h1,s4,h4,s6⟩,s7,yF,s9⟩;refine wm hG RH (λd _=>hK.bx d) (λS H=>xx s es ok S H/\S 7=.val v/\S 8=.int .i64 (k:Nat)/\S 9=.int .i64 es[k].1/\S 49=.bool (decide (es[k].2<((s.name.words[j].aM.length:Nat):Int)))) ?_ ?_
  .simp[RH,s1,h1,s4,h4,s6,s7,yF,s9,av,uz,jB,sO,o_,U8.1,hj,rA,a_,cZ,ar,ae];exact⟨by simp[au,s1],by simp[au,h1,ar,ae],by simp[au,s4],by first|exact h4|simp[au,h4]|simp[au,aS,vI],by simp[au,s6]⟩
  clear s1 h1 s4 h4 s6 s7 yF s9;rintro S8 H8 ⟨⟨s1,h1,s4,h4,s6⟩,s7,yF,s9,s49⟩;refine SW.cond (c':=.t 49) (by kernel_rfl) _ s49 ?_
  by_cases hb:es[k].2<((s.name.words[j].aM.length:Nat):Int)
  case neg=>
   rw[aeh hb];rw[if_neg hb]at I7;refine SW.skip ⟨rfl,by rw[I7];exact hK,⟨s1,h1,s4,h4,s6⟩,s7,yF⟩
  rw[adX hb];rw[if_pos hb]at I7;have hlen:(eO s (es.take k)).length=s.name.words.length:=gr _
  have abm:∀x∈eO s (es.take k),0<=x/\x<=3:=by
   intro x hx;obtain⟨i,_,rfl⟩:=acZ.1 hx;have:=Ap (es.take k) i (ct s.name i);rw[adf]at this;omega
  rw[<-hj]at I7
  generalize eO s (es.take (k+1))=l2 at*
  generalize eO s (es.take k)=l at*
  have EH:es[k].1.toNat<l.length:=by omega
  have hxi:=abm _ (acy EH)
  have Cc:l.getD es[k].1.toNat 0=l[es[k].1.toNat]:=by simp[ac2,EH]
  rw[Cc]at I7
  have RN:S8 9=.int .i64 ((j:Nat):Int):=by rw[s9,<-hiw]
  simp only[hj]at I7 hxi EH
  have zw:j<(ints l).length:=by simpa[ints]using EH
  refine SW.hand hG (p:=2) (lm:=[2,3,4,5,6]) (l2:=[]) (js:=[_,_]) (oh:=[_,_,_,_,_]) (lv:=[]) rfl rfl rfl rfl (by kernel_rfl) hK.bx
   (lO:=RF.take 2) (lu:=[]) (by kernel_rfl) rfl (by kernel_rfl) rfl
   (K1:=λS H=>xx s es ok S H/\S 7=.val v/\S 8=.int .i64 (k:Nat)/\S 50=.val v/\S 51=.int .i64 (j:Nat))
   (K2:=λo S H=>KO cc 3 1 (ints l2) o v/\xx s es ok S H/\S 7=.val v/\S 8=.int .i64 (k:Nat))
   (K3:=λo S H=>KO cc 3 1 (ints l2) o v/\xx s es ok S H/\S 7=.val v/\S 8=.int .i64 (k:Nat)) ?_ ?_ ?_ ?_
  .simp[RF,s1,h1,s4,h4,s6,s7,yF,RN];exact⟨by simp[au,s1],by simp[au,h1,ar,ae],by simp[au,s4],by first|exact h4|simp[au,h4]|simp[au,aS,vI],by simp[au,s6]⟩
  .rintro w0 g S H a w' m cj ho R ⟨⟨s1,h1,s4,h4,s6⟩,s7,yF,s50,s51⟩;rw[<-ho]at hK;obtain⟨b,cap,cur,hv,kI,mH,dX⟩:=hK.cell R zw
   have sk:(ints l)[j]=.int .i64 l[j]:=by simp[ints]
   have rq:0<((ints l)[j]).cells.length:=by rw[sk];simp[AV.cells]
   have ry:=dX 0 rq
   have JM:Dj (((ints l)[j]).cells[0]'rq)=.int .i64 l[j]:=by simp only[sk];rfl
   rw[JM,adY,Nat.add_zero]at ry;have t9:=R.slot 50 (by decide) (λh=>h);rw[s50]at t9;have e9:a.eval (.tmp 50)=.slice (some ⟨b,0,none⟩) (ints l).length cap:=t9.fY.trans hv;have t10:=R.slot 51 (by decide) (λh=>h);rw[s51]at t10;have kR:a.eval (.tmp 51)=.int .i64 (j:Nat):=t10.int_eq;have bg:=R.size;have kv:IntKind.i64.wrap (l[j]+1)=l[j]+1:=aP (by omega);refine aV rfl rfl (by rfl) (gP (k:=j) rfl (by kernel_rfl) pZ e9 kR zw) ?_;rw[mD,adY];have R1:=R.put 52 (.val (.pointer (some ⟨b,j,none⟩))) (.pointer (some ⟨b,j,none⟩)) (by decide) (.data _ _ (.val _ rfl)) trivial
   have p:=λt c=>bJ a 52 t c (by omega)
   have f11:=(p 52 (.pointer (some ⟨b,j,none⟩))).trans (if_pos rfl);have f9:=((p 50 (.pointer (some ⟨b,j,none⟩))).trans (if_neg (by decide))).trans e9;have f10:=((p 51 (.pointer (some ⟨b,j,none⟩))).trans (if_neg (by decide))).trans kR;have IJ:=R1.size;show wpOpsIn _ _ _ _ _ [3,4,5,6] (a.put (some 52) (.pointer (some ⟨b,j,none⟩))) w'
   generalize a.put (some 52) (.pointer (some ⟨b,j,none⟩))=a1 at*
   clear p e9 kR t9 t10;refine aV rfl rfl (by rfl) (jn rfl f11 CT Pu mH ry.2) ?_;have R2:=R1.put 53 (.int .i64 l[j]) (.int .i64 l[j]) (by decide) (.data _ _ (.int _ _)) trivial
   have p:=λt c=>bJ a1 53 t c (by omega)
   have g12:=(p 53 (.int .i64 l[j])).trans (if_pos rfl);have g9:=((p 50 (.int .i64 l[j])).trans (if_neg (by decide))).trans f9;have g10:=((p 51 (.int .i64 l[j])).trans (if_neg (by decide))).trans f10;have zq:=R2.size;show wpOpsIn _ _ _ _ _ [4,5,6] (a1.put (some 53) (.int .i64 l[j])) w'
   generalize a1.put (some 53) (.int .i64 l[j])=a2 at*
   clear p f11 f9 f10;refine aV rfl rfl (by rfl) (yB (n:=1) rfl g12 rfl) ?_;rw[kv];have R4:=R2.put 54 (.int .i64 (l[j]+1)) (.int .i64 (l[j]+1)) (by decide) (.data _ _ (.int _ _)) trivial
   have p:=λt c=>bJ a2 54 t c (by omega)
   have SD:=(p 54 (.int .i64 (l[j]+1))).trans (if_pos rfl);have l9:=((p 50 (.int .i64 (l[j]+1))).trans (if_neg (by decide))).trans g9;have l10:=((p 51 (.int .i64 (l[j]+1))).trans (if_neg (by decide))).trans g10;have Cr:=R4.size;show wpOpsIn _ _ _ _ _ [5,6] (a2.put (some 54) (.int .i64 (l[j]+1))) w'
   generalize a2.put (some 54) (.int .i64 (l[j]+1))=a4 at*
   clear p g12 g9 g10;refine aV rfl rfl (by rfl) (gP (k:=j) rfl (by kernel_rfl) pZ l9 l10 zw) ?_;rw[mD,adY];have R5:=R4.put 55 (.val (.pointer (some ⟨b,j,none⟩))) (.pointer (some ⟨b,j,none⟩)) (by decide) (.data _ _ (.val _ rfl)) trivial
   have p:=λt c=>bJ a4 55 t c (by omega)
   have m15:=(p 55 (.pointer (some ⟨b,j,none⟩))).trans (if_pos rfl);have m14:=((p 54 (.pointer (some ⟨b,j,none⟩))).trans (if_neg (by decide))).trans SD;show wpOpsIn _ _ _ _ _ [6] (a4.put (some 55) (.pointer (some ⟨b,j,none⟩))) w'
   generalize a4.put (some 55) (.pointer (some ⟨b,j,none⟩))=a5 at*
   clear p SD l9 l10;obtain ⟨cur',cM,BG,Lb⟩:=nB (o:={ dst:=none,op := .store 3 (.tmp 55) (.tmp 54),type:=0,pos := "",after := #[],guard:=none }) (v := .int .i64 (l[j]+1)) rfl m15 pZ mD mH ry.1 m14 rfl;refine dU rfl rfl (by rfl) cM ?_;have R6:=R5.kn kI (.cells cur' 3 (0,0));have su:=hK.set (j:=j) (k:=0) zw (by rw [sk];simp [AV.cells]) (x := .int .i64 (l[j]+1)) (u := .int .i64 (l[j]+1)) (λx hx=>by simp at hx;subst hx;exact ⟨rfl,rfl,λc hc=>by simp [AV.cells] at hc;subst hc;rfl⟩) (by rw [sk]<;>rfl) hv kI BG (λm=>by rw [Lb m,adY,Nat.add_zero]<;>rfl);rw [ints_set,<-I7] at su;exact ⟨_,_,_,R6,su,⟨by simp [au,s1],h1,by simp [au,s4],h4,by simp [au,s6]⟩,by simp [au,s7],by simp [au,yF]⟩
  .rintro o S H ⟨hK,hF,s7,yF⟩;exact⟨hK.bx,hK,hF,s7,yF⟩
  .rintro o S H ⟨hK,hF,s7,yF⟩;exact⟨rfl,hK,hF,s7,yF⟩
end Go.Proofs.Tryz
namespace Go.Proofs.YtdiflocclemeaaaGreatDoor
open Go Go.AL Go.ChangeShapes Go.WideShapes Go.ChangeAt Go.RowKit
def own:ownKnob Tryz.prog.godebug=none:=by kernel_rfl
def DZ:laidOutB Tryz.prog=true:=by kernel_rfl
def GI(w:World):Prop:=∃m,w.cell? ⟨1,0,none⟩=some (.int .i64 m)
def Lw:aw GI:=by
 rintro w w' ⟨m,hm⟩ hb;refine⟨m,?_⟩
 have h1:1<w.heap.size:=by
  unfold World.cell? at hm
  by_cases h:1<w.heap.size
  .exact h
  .have:w.heap[1]?=none:=by simp;omega
   simp[this]at hm
 unfold World.cell? at hm⊢;rw[hb.block 1 h1];exact hm
def Yl{w:World}(h:w.ShapedOpen Tryz.prog):GI w:=
 cell_of_shapedOpen_int (g:=1) (t:=3) (zero:=#[.int .i64 0]) (k:=.i64) h (aez (by kernel_rfl)) (by kernel_rfl) rfl (by kernel_rfl) (by kernel_rfl) (by kernel_rfl)
abbrev rH:List (String×DataW Unit):=Rows.tramSetRow.laid
variable{H:Type}{enc:TypeId×Value->H}
def rW{w:World}{base:Nat}{spare:Nat->Bool}{held:Bool}:∀{ts:List TypeId}{vs:List Value}{ds:List (DataW H)}{ps:List MemPlace},DataW.TrodAll enc Tryz.prog w base spare held ts vs ds ps->ds.length=ts.length
 |[],[],[],_,_=>rfl
 |_::_,_::_,_::_,_,⟨_,_,_,h,_⟩=>congrArg (·+1) (rW h)
def tg {W W':World} (hb:Below W.heap.size W W'):∀ {ts:List TypeId} {vs:List Value} {ds:List (DataW H)} {ps:List MemPlace},(∀ t∈ts,Tryz.prog.readableRec t=true∧t < Tryz.prog.types.size) →
  DataW.TrodAll enc Tryz.prog W 0 (λ_=>true) true ts vs ds ps->(∀x∈ps,x.block<W.heap.size)->DataW.TrodAll enc Tryz.prog W' 0 (λb=>decide (b<W.heap.size)) true ts vs ds ps
 |[],[],[],_,_,h,_=>h
 |t::_,_::_,_::_,_,hr,⟨p,q,h1,h2,e⟩,av=>by
  subst e;exact⟨p,q,Below.trod DZ (hr t acS).1 (hr t acS).2 h1 hb (λx hx=>av x (aeM _ hx)),tg hb (λu hu=>hr u (acH _ hu)) h2 (λx hx=>av x (afA _ hx)),rfl⟩
def Kp (f:FuncId) (fn:Func) (UM:Tryz.checked.prog.funcs[f]? = some fn) (TI:Tryz.checked.prog.inits.idxOf? f=none) (P2:fn.resultTypes = #[4]) (spec:ChangeSpec) (Qv:spec.vars=[])
  (LA:∀(ds:List (DataW H)),ds.length=fn.params.size->spec.fn H ds={ results:=[.lit (.bool true)],args:=ds })
  (cP:∀t∈fn.params.toList,Tryz.prog.readableRec t=true/\t<Tryz.prog.types.size)
  (os:Os) (started:os.Started) (rB:Array Value) (fuel:Nat)
  (cV:((World.laidAll Tryz.prog os rH).forCall (λ_ _=>0) ⟨#[],rB,[]⟩).Shaped Tryz.checked.prog)
  (b_:Input.okWideB Tryz.checked.prog ((World.laidAll Tryz.prog os rH).forCall (λ_ _=>0) ⟨#[],rB,[]⟩) f ⟨#[],rB,[]⟩=true)
  (PJ:spec.preB enc Tryz.checked.prog fn [] false ((World.laidAll Tryz.prog os rH).forCall (λ_ _=>0) ⟨#[],rB,[]⟩).memory rB fuel=true)
  (bg:spec.sizedB enc Tryz.checked.prog fn false ((World.laidAll Tryz.prog os rH).forCall (λ_ _=>0) ⟨#[],rB,[]⟩).memory rB fuel=true)
  (hx:laidMetH Tryz.prog rH ((World.laidAll Tryz.prog os rH).forCall (λ_ _=>0) ⟨#[],rB,[]⟩).memory)
  (d_:∀(W:World)(base:Nat)(args:Array Value)(ds:List (DataW H))(p:List MemPlace),GI W->
   (∀(j:Nat) t v,fn.params[j]?=some t->args[j]?=some v->Value.okWide Tryz.prog W .any base t v)->
   DataW.TrodAll enc Tryz.prog W 0 (λ_=>true) true fn.params.toList args.toList ds p->
   Calls Tryz.prog f args W λe W'=>e=.returned (.bool true)/\Below W.heap.size W W'):
  ReturnsInHanded {} Tryz.checked os f .any (λw args=>(spec.pre enc Tryz.checked.prog fn [] false w args/\laidMetH Tryz.checked.prog rH w)/\sizedMet enc Tryz.checked.prog fn (OpenSpec.ofChange spec) false w args)
   (spec.post enc Tryz.checked.prog fn false true false false):=by
 refine returnsInHanded_of_calls (C:=Tryz.checked) own started TI
  (ChangeSpec.witness_shaped (enc:=enc) (C:=Tryz.checked) (os:=os) (X:=λw _=>laidMetH Tryz.prog rH w) false (World.laidAll Tryz.prog os rH) rB fuel (World.laidAll_os _ _ _) cV b_ PJ bg hx) ?_
 intro w tape i _ XZ _ BA hp _;obtain⟨_,_,_,RP,aaJ,_,_,_,_,ED⟩:=BA;have e:RP=fn:=acX (aaJ.symm.trans UM);subst e;obtain⟨⟨⟨ds,gs,before,hw,hc⟩,_⟩,hz⟩:=hp;have TV:=DataW.Whole.of_heap (w':=w.forCall tape i) (by rfl) hw;have hW:=TV;obtain⟨p,q,hA,hV,rfl,_,_⟩:=TV
 have jy:gs=[]/\q=[]:=by
  rw[Qv]at hV;obtain⟨rfl,rfl⟩:=trodVars_none hV;exact⟨rfl,rfl⟩
 obtain⟨rfl,rfl⟩:=jy;have WK:DataW.TrodAll enc Tryz.prog (w.forCall tape i) 0 (λ_=>true) true RP.params.toList i.args.toList ds p:=hA
 have av:∀x∈p,x.block<(w.forCall tape i).heap.size:=λx hx=>by simpa using hW.lt x (aeM _ hx)
 refine(d_ (w.forCall tape i) w.heap.size i.args ds p (Yl XZ) ED WK).mono λe W' ⟨he,hb⟩=>?_
 subst he;show spec.post enc Tryz.checked.prog RP false true false false (w.forCall tape i).blind i.args (.bool true) W'.blind;refine ChangeSpec.post_blind (?_:spec.post enc Tryz.checked.prog RP false true false false (w.forCall tape i) i.args (.bool true) W')
 have Th:ds.length=RP.params.size:=by
  rw[rW WK];simp
 refine⟨ds,[],p++[],[],p,[],hW,?_,?_,?_,hb.frame _,λh=>by cases h⟩
 .rw[adn,LA ds Th,P2];exact trodAll_mk1 (shut_bool (by kernel_rfl) _)
 .rw[adn,LA ds Th];exact tg hb cP WK av
 .rw[adn,LA ds Th,Qv]
  rfl
end Go.Proofs.YtdiflocclemeaaaGreatDoor
namespace Go.Proofs.YtdiflocclemeaaaGreatDoor
open Go Go.AL Go.ChangeShapes Go.WideShapes Go.ChangeAt Go.RowKit
def ch(l:List Nat):List Char:=l.map Char.ofNat
def w1:List Nat:=[104,97,114,110,101,115,115]
def w2:List Nat:=[54,52,48,57,100,55,57,99,57,51,56,56,56,49,50,53,56,99,102,54,99,48,49,97,52,98,98,98,53,98,57,100,97,57,53,99,102,102,101,56,57,98,102,54,57,56,52,52,99,49,102,54,101,51,55,98,52,54,51,52,56,49,53,56]
def w3:List Nat:=[99,117,116]
def w4:List Nat:=[97,116,32,109,97,104,108,115,116,105,99,107,47,109,97,104,108,115,116,105,99,107,108,97,119,48,57,46,84,114,97,109,83,101,116,32,109,97,104,108,115,116,105,99,107,47,109,97,104,108,115,116,105,99,107,108,97,119,48,57,46,84,114,97,109,86,105,101,119,101,100,32,109,97,104,108,115,116,105,99,107,47,109,97,104,108,115,116,105,99,107,108,97,119,48,57,46,84,114,97,109,83,101,101,115,32,109,97,104,108,115,116,105,99,107,47,109,97,104,108,115,116,105,99,107,108,97,119,48,57,46,84,114,97,109,87,111,114,100,115,32,109,97,104,108,115,116,105,99,107,47,109,97,104,108,115,116,105,99,107,108,97,119,48,57,46,84,114,97,109,84,114,117,101,32,109,97,104,108,115,116,105,99,107,47,109,97,104,108,115,116,105,99,107,108,97,119,48,57,46,84,114,97,109,83,116,111,112,115,32,109,97,104,108,115,116,105,99,107,47,109,97,104,108,115,116,105,99,107,108,97,119,48,57,46,84,114,97,109,87,97,105,116,101,100,32,109,97,104,108,115,116,105,99,107,47,109,97,104,108,115,116,105,99,107,108,97,119,48,57,46,84,114,97,109,70,97,114,115,32,109,97,104,108,115,116,105,99,107,47,109,97,104,108,115,116,105,99,107,108,97,119,48,57,46,84,114,97,109,80,97,99,101,100,32,109,97,104,108,115,116,105,99,107,47,109,97,104,108,115,116,105,99,107,108,97,119,48,57,46,84,114,97,109,72,97,110,103,115,32,109,97,104,108,115,116,105,99,107,47,109,97,104,108,115,116,105,99,107,108,97,119,48,57,46,84,114,97,109,72,117,110,103,32,109,97,104,108,115,116,105,99,107,47,109,97,104,108,115,116,105,99,107,108,97,119,48,57,46,84,114,97,109,76,101,97,118,101,115,32,109,97,104,108,115,116,105,99,107,47,109,97,104,108,115,116,105,99,107,108,97,119,48,57,46,84,114,97,109,77,111,114,101,32,109,97,104,108,115,116,105,99,107,47,109,97,104,108,115,116,105,99,107,108,97,119,48,57,46,84,114,97,109,78,101,101,100,115,32,109,97,104,108,115,116,105,99,107,47,109,97,104,108,115,116,105,99,107,108,97,119,48,57,46,84,114,97,109,80,114,105,110,116,115,32,109,97,104,108,115,116,105,99,107,47,109,97,104,108,115,116,105,99,107,108,97,119,48,57,46,84,114,97,109,82,101,97,100,115,32,109,97,104,108,115,116,105,99,107,47,109,97,104,108,115,116,105,99,107,108,97,119,48,57,46,84,114,97,109,83,112,111,105,108,116,32,109,97,104,108,115,116,105,99,107,47,109,97,104,108,115,116,105,99,107,108,97,119,48,57,46,84,114,97,109,76,101,102,116]
def pE:∀{a b:List Char},(a.all λc=>c !=Char.ofNat 32)=true->wordsSigns (a++Char.ofNat 32::b)=a::wordsSigns b
 |[],b,_=>rfl
 |c::a,b,h=>by
  simp only[List.all_cons,acA,afm]at h;have ih:=pE (b:=b) h.2;show wordsSigns (c::(a++Char.ofNat 32::b))=_
  conv=>lhs;unfold wordsSigns
  split
  .rename_i e;cases e
  .rename_i e;cases e;exact absurd rfl h.1
  .rename_i e;cases e;rw[ih]
def head_eq:Tryz.prog.initOrder=String.ofList (ch w1++Char.ofNat 32::(ch w2++Char.ofNat 32::(ch w3++Char.ofNat 32::ch w4))):=by kernel_rfl
def zl:wordsSigns Tryz.prog.initOrder.toList=ch w1::ch w2::ch w3::wordsSigns (ch w4):=by
 rw[head_eq,afF,pE (by kernel_rfl),pE (by kernel_rfl),pE (by kernel_rfl)]
def XH:ch w2 = "6409d79c938881258cf6c01a4bbb5b9da95cffe89bf69844c1f6e37b46348158".toList:=by
 have : "6409d79c938881258cf6c01a4bbb5b9da95cffe89bf69844c1f6e37b46348158" = String.ofList (ch w2):=by kernel_rfl
 rw[this,afF]
def tl(s:String)(l:List Nat)(h:s=String.ofList (ch l)):s.toList=ch l:=by rw[h,afF]
def yX : "harness".toList=ch [104,97,114,110,101,115,115]:=tl _ _ (by kernel_rfl)
def Jn : "ownmain".toList=ch [111,119,110,109,97,105,110]:=tl _ _ (by kernel_rfl)
def MA : "gc".toList=ch [103,99]:=tl _ _ (by kernel_rfl)
def Jj : "spec".toList=ch [115,112,101,99]:=tl _ _ (by kernel_rfl)
def R_ : "stop".toList=ch [115,116,111,112]:=tl _ _ (by kernel_rfl)
def sU : "carried".toList=ch [99,97,114,114,105,101,100]:=tl _ _ (by kernel_rfl)
def Aw : "cut".toList=ch [99,117,116]:=tl _ _ (by kernel_rfl)
def Bt : "finals".toList=ch [102,105,110,97,108,115]:=tl _ _ (by kernel_rfl)
def An : "reflectrows".toList=ch [114,101,102,108,101,99,116,114,111,119,115]:=tl _ _ (by kernel_rfl)
def GK : "leanrows".toList=ch [108,101,97,110,114,111,119,115]:=tl _ _ (by kernel_rfl)
def Gi : "onebuild".toList=ch [111,110,101,98,117,105,108,100]:=tl _ _ (by kernel_rfl)
def A' : "publicsums".toList=ch [112,117,98,108,105,99,115,117,109,115]:=tl _ _ (by kernel_rfl)
def HH : "eqguard".toList=ch [101,113,103,117,97,114,100]:=tl _ _ (by kernel_rfl)
def Dr : "ownunsafe".toList=ch [111,119,110,117,110,115,97,102,101]:=tl _ _ (by kernel_rfl)
def CM : "libbeside".toList=ch [108,105,98,98,101,115,105,100,101]:=tl _ _ (by kernel_rfl)
def Dq : "ownbeside".toList=ch [111,119,110,98,101,115,105,100,101]:=tl _ _ (by kernel_rfl)
def Bd : "reflbeside".toList=ch [114,101,102,108,98,101,115,105,100,101]:=tl _ _ (by kernel_rfl)
def IM : "aliases".toList=ch [97,108,105,97,115,101,115]:=tl _ _ (by kernel_rfl)
def DA : "afterinit".toList=ch [97,102,116,101,114,105,110,105,116]:=tl _ _ (by kernel_rfl)
def G6 : "crcplain".toList=ch [99,114,99,112,108,97,105,110]:=tl _ _ (by kernel_rfl)
def Bs : "roadunsafe".toList=ch [114,111,97,100,117,110,115,97,102,101]:=tl _ _ (by kernel_rfl)
def Da : "fmthandon".toList=ch [102,109,116,104,97,110,100,111,110]:=tl _ _ (by kernel_rfl)
def I3:isSumSigns (ch w2)=true:=by kernel_rfl
def Ao(ws:List (List Char)):Option (Bool×List Char):=match ws with
 |h::s::_=>if !isSumSigns s then none else if h == "harness".toList then some (true,s) else if h == "ownmain".toList then some (false,s) else none
 |_=>none
def L5(P:Program):P.mainIs=Ao (wordsSigns P.initOrder.toList):=rfl
def K8(R:List (List Char)):Ao (ch w1::ch w2::ch w3::R)=some (true,ch w2):=by
 simp only[Ao,I3,yX]
 rfl
def Ox:Tryz.prog.mainIs=some (true,ch w2):=(L5 _).trans ((congrArg Ao zl).trans (K8 _))
def KH(R:List (List Char)):behindMainWord (ch w1::ch w2::R)=R:=by
 simp only[behindMainWord,I3,yX,Jn]
 rfl
def tT:behindMainWord (wordsSigns Tryz.prog.initOrder.toList)=ch w3::wordsSigns (ch w4):=(congrArg behindMainWord zl).trans (KH _)
def HD(R:List (List Char)):stripLifts liftWords (ch w3::R)=([],ch w3::R):=by
 unfold liftWords;simp only[stripLifts,Bt,An,GK,Gi,A',HH,Dr,CM,Dq,Bd,IM,DA,G6,Bs,Da]
 rfl
def Ay (ws:List (List Char)):List String:=if (stripLifts liftWords ws).2.head? == some "cut".toList then (stripLifts liftWords ws).1 else []
def Dc(P:Program):P.headLifts=Ay (behindMainWord (wordsSigns P.initOrder.toList)):=rfl
def Mp(R:List (List Char)):Ay (ch w3::R)=[]:=by
 simp only[Ay,HD,Aw]
 rfl
def wY:Tryz.prog.headLifts=[]:=(Dc _).trans ((congrArg Ay tT).trans (Mp _))
def LQ{P:Program}{R:List (List Char)}(h:behindMainWord (wordsSigns P.initOrder.toList)=ch w3::R)(hl:P.headLifts=[]):P.make=some .cut:=by
 unfold Program.make;rw[h];simp only[Aw,MA,Jj,Bt,sU,hl]
 rfl
def T3:Tryz.prog.make=some .cut:=LQ tT wY
def A9{P:Program}{R:List (List Char)}(h:behindMainWord (wordsSigns P.initOrder.toList)=ch w3::R)(hl:P.headLifts=[]):P.liftsFinal=false:=by
 unfold Program.liftsFinal;simp only[h,Aw,MA,sU,hl]
 rfl
def C6:Tryz.prog.liftsFinal=false:=A9 tT wY
def F0:Tryz.prog.laysLater=false:=by kernel_rfl
def zW:Tryz.prog.bearsReflect=false:=by kernel_rfl
def Hm:Tryz.prog.doorFits []=true:=by kernel_rfl
def Ft{P:Program}{R:List (List Char)}(h:behindMainWord (wordsSigns P.initOrder.toList)=ch w3::R)(h1:P.laysLater=false)(h2:P.bearsReflect=false)(h3:P.doorFits []=true):P.mayEnter=true:=by
 unfold Program.mayEnter;rw[h];simp only[HD,Aw,MA,sU,Jj,R_,h1,h2,h3]
 rfl
def HA:Tryz.prog.mayEnter=true:=Ft tT F0 zW Hm
end Go.Proofs.YtdiflocclemeaaaGreatDoor
namespace Go.Proofs.Tryz
open Go Go.AL Go.RowKit Go.Proofs Go.Proofs.Tram
attribute [local simp] dP fu fb eu eL dV dW du dp eJ dq cU gG gD aG aD ev aQ.S aQ.H bG au aY AL.start AV.cells AV.storable AV.bZ bu bQ eF b0 HR.okB post cL dc db AV.out AV.bW cy dK fz gM AV.vw da vI int bO aO dE dj iJ jF eo dG bt AV.aH AV.cT
variable{GI:World->Prop}{S:an}{H:aq}{Q:cw->an->aq->Prop}
def dM(v:Nat×Nat):AV:=.agg [.int .i64 (v.1:Nat),.int .i64 (v.2:Nat)]
noncomputable def SN:af :=
    .seq (.seq (.ops [⟨(some 22),none,.mv false (.t 10)⟩,
      ⟨(some 23),none,.mv false (.t 1)⟩,
      ⟨(some 24),none,.mv false (.t 8)⟩,
      ⟨(some 25),none,.indexAddr 2 (.t 23) (.t 24)⟩,
      ⟨(some 26),none,.fieldAddr 1 (.t 25)⟩,
      ⟨(some 27),none,.load .any false 1 (.t 26)⟩,
      ⟨(some 28),none,.bin .leq (.t 22) (.t 27)⟩])<|
    .cond (.t 28)
     (.skip)
     (.exit 2))<|
    .seq (.block 3 <| .ops [⟨(some 31),none,.mv false (.t 9)⟩,
       ⟨(some 32),none,.mv false (.t 2)⟩,
       ⟨(some 33),none,.mv false (.t 10)⟩,
       ⟨(some 34),none,.indexAddr 1 (.t 32) (.t 33)⟩,
       ⟨(some 35),none,.load .any false 1 (.t 34)⟩,
       ⟨(some 36),none,.bin .add (.t 31) (.t 35)⟩,
       ⟨(some 9),none,.mv true (.t 36)⟩])<|
    .ops [⟨(some 29),none,.mv false (.t 10)⟩,
      ⟨(some 30),none,.bin .add (.t 29) (.c (.int .i64 1))⟩,
      ⟨(some 10),none,.mv true (.t 30)⟩]
noncomputable def MZ:af :=
    .seq (.seq (.ops [⟨(some 37),none,.mv false (.t 7)⟩,
      ⟨(some 38),none,.mv false (.t 0)⟩,
      ⟨(some 39),none,.iW (.t 38)⟩,
      ⟨(some 40),none,.bin .lss (.t 37) (.t 39)⟩,
      ⟨(some 41),none,.mv false (.t 40)⟩,
      ⟨(some 42),(some (41,true)),.mv false (.t 0)⟩,
      ⟨(some 43),(some (41,true)),.mv false (.t 7)⟩,
      ⟨(some 44),(some (41,true)),.indexAddr 1 (.t 42) (.t 43)⟩,
      ⟨(some 45),(some (41,true)),.load .any false 1 (.t 44)⟩,
      ⟨(some 46),(some (41,true)),.mv false (.t 9)⟩,
      ⟨(some 47),(some (41,true)),.bin .leq (.t 45) (.t 46)⟩,
      ⟨(some 48),none,.pick (.t 41) (.t 47) (.c (.bool false))⟩])<|
    .cond (.t 48)
     (.skip)
     (.exit 4))<|
    .block 5 <| .seq (.ops [⟨(some 49),none,.mv false (.t 9)⟩,
       ⟨(some 50),none,.mv false (.t 0)⟩,
       ⟨(some 51),none,.mv false (.t 7)⟩,
       ⟨(some 52),none,.indexAddr 1 (.t 50) (.t 51)⟩,
       ⟨(some 53),none,.load .any false 1 (.t 52)⟩,
       ⟨(some 54),none,.bin .sub (.t 49) (.t 53)⟩,
       ⟨(some 9),none,.mv true (.t 54)⟩])<|
     .ops [⟨(some 55),none,.mv false (.t 7)⟩,
       ⟨(some 56),none,.bin .add (.t 55) (.c (.int .i64 1))⟩,
       ⟨(some 7),none,.mv true (.t 56)⟩]
def KG{l:List Int}{i:Nat}(h:i<l.length):ec l i=l[i]:=by simp[ec,ac2,h]
def y6{bb:List Int}(pB:∀x∈bb,0<=x/\x<=1000)(hr:bb.length<=100){a b:Nat}(qF:a<=b)(hb:b<=bb.length):0<=iI (ec bb) a b/\iI (ec bb) a b<=100000:=by
 rw[<-zn bb qF hb];have:=pP (l:=(bb.take b).drop a) (λx hx=>pB x (adS (aeN hx)))
 have hl:((bb.take b).drop a).length<=100:=by simp;omega
 omega
def Sg {vs:List (Nat×Nat)} {bb ao:List Int} {n i f t:Nat} (hi:i < vs.length) (hv:vs[i]=(f,t)) (BT:f≤t) (ht:t < bb.length) (hr:bb.length≤100) (pB:∀ x∈bb,0≤x∧x≤1000)
  (s0:S 0=vI ao) (s1:S 1=.slice .view (vs.map dM)) (s2:S 2=vI bb) (s7:S 7=.int .i64 (n:Nat)) (s8:S 8=.int .i64 (i:Nat)) (s9:S 9=.int .i64 0) (cb:S 10=.int .i64 (f:Nat))
  (hQ:∀S H,S 0=vI ao->S 1=.slice .view (vs.map dM)->S 2=vI bb->S 7=.int .i64 (n:Nat)->S 8=.int .i64 (i:Nat)->S 9=.int .i64 (iI (ec bb) f (t+1))->Q (.exit 2) S H):bL prog GI (.loop SN) Q S H:=by
 refine⟨λS _=>∃m:Nat,f<=m/\m<=t+1/\S 0=vI ao/\S 1=.slice .view (vs.map dM)/\S 2=vI bb/\S 7=.int .i64 (n:Nat)/\S 8=.int .i64 (i:Nat)/\S 9=.int .i64 (iI (ec bb) f m)/\S 10=.int .i64 (m:Nat),
  λS _=>match S 10 with|.int _ j=>(t+1-j).toNat|_=>0,⟨f,acD _,by omega,s0,s1,s2,s7,s8,by rw[vm];exact s9,cb⟩,?_⟩
 clear s0 s1 s2 s7 s8 s9 cb;rintro S H ⟨m,E0,UO,s0,s1,s2,s7,s8,s9,cb⟩
 have U4:¬(i:Int)<0:=by omega
 have NX:¬(vs.length:Int)<=i:=by omega
 by_cases av:m<=t
 .have hb:=y6 pB hr E0 (by omega:m<=bb.length);have jK:=pB bb[m] (acy (by omega));have hw:IntKind.i64.wrap ((m:Int)+1)=m+1:=aP (by omega);have iy:IntKind.i64.wrap (iI (ec bb) f m+bb[m])=iI (ec bb) f m+bb[m]:=aP (by omega);have hs:=rL (ec bb) E0;rw[KG (by omega:m<bb.length)]at hs
  have hn:¬(m:Int)<0:=by omega
  have hl:¬(bb.length:Int)<=m:=by omega
  have zY:m<bb.length:=by omega
  have jG:(m:Int)<=t:=by omega
  rw[<-hs]at iy
  generalize hy:iI (ec bb) f m=y at*
  simp[SN,s0,s1,s2,s7,s8,s9,cb,hi,hv,U4,NX,dM,av,hn,hl,zY,hw];rw[<-hs,iy];refine⟨⟨m+1,by omega,by omega,by simp,by simp⟩,?_⟩;omega
 .have PK:m=t+1:=by omega
  subst PK
  have jG:¬((t:Int)+1<=t):=by omega
  have aaD:S 10=.int .i64 ((t:Int)+1):=by rw[cb];simp
  simp[SN,s0,s1,s2,s7,s8,s9,aaD,hi,hv,U4,NX,dM,jG];exact hQ _ _ (by simp[s0]) (by simp[s1]) (by simp[s2]) (by simp[s7]) (by simp[s8]) (by simp[s9])
def SS {V:AV} {ao:List Int} {bb:AV} {n i kA:Nat} {T:Int} (hn:∀ x∈ao,0≤x∧x≤1000) (C0:ao.length≤1000) (Io:n≤ao.length) (hT:0≤T∧T≤100000) (wX:(dJ (ao.drop n) T).1=kA)
  (s0:S 0=vI ao) (s1:S 1=V) (s2:S 2=bb) (s7:S 7=.int .i64 (n:Nat)) (s8:S 8=.int .i64 (i:Nat)) (s9:S 9=.int .i64 T)
  (hQ:∀S H,S 0=vI ao->S 1=V->S 2=bb->S 7=.int .i64 ((n+kA:Nat):Int)->S 8=.int .i64 (i:Nat)->Q (.exit 4) S H):bL prog GI (.loop MZ) Q S H:=by
 have wV:kA<=ao.length-n:=by rw[<-wX];have:=pR (ao.drop n) T;simpa using this
 refine⟨λS _=>∃m:Nat,m<=kA/\S 0=vI ao/\S 1=V/\S 2=bb/\S 7=.int .i64 ((n+m:Nat):Int)/\S 8=.int .i64 (i:Nat)/\S 9=.int .i64 (T-((ao.drop n).take m).sum)/\T-((ao.drop n).take m).sum<=T/\0<=T-((ao.drop n).take m).sum,
  λS _=>match S 7 with|.int _ j=>(ao.length-j).toNat|_=>0,⟨0,adr _,s0,s1,s2,s7,s8,by simpa using s9,by simp,by simpa using hT.1⟩,?_⟩
 clear s0 s1 s2 s7 s8 s9;rintro S H ⟨m,hm,s0,s1,s2,s7,s8,s9,tq,jK⟩;have iS:=q_ (ao.drop n) T m (by omega);rw[aeP]at iS
 have AS:kA=m+(dJ (ao.drop (n+m)) (T-((ao.drop n).take m).sum)).1:=by
  rw[<-wX,iS]
 obtain⟨left,Lj⟩:∃left,T-((ao.drop n).take m).sum=left:=⟨_,rfl⟩
 rw[Lj]at AS s9 tq jK
 have Fq:S 7=.int .i64 ((n:Int)+m):=by rw[s7];simp
 by_cases uC:n+m<ao.length
 case neg=>
  have CB:(dJ (ao.drop (n+m)) left).1=0:=by
   have:=pR (ao.drop (n+m)) left;simp at this;omega
  have Cj:¬((n:Int)+m<ao.length):=by omega
  have K_:kA=m:=by omega
  subst K_;simp[MZ,s0,s1,s2,Fq,s8,s9,uC,Cj];exact hQ _ _ (by simp[s0]) (by simp[s1]) (by simp[s2]) (by simp[Fq]) (by simp[s8])
 have hd:ao.drop (n+m)=ao[n+m]::ao.drop (n+m+1):=ad7 uC;have hx:=hn ao[n+m] (acy uC)
 have Cj:(n:Int)+m<ao.length:=by omega
 have p_:¬(n:Int)+m<0:=by omega
 have TO:(0:Int)<=(n:Int)+m:=by omega
 have Sv:¬(ao.length:Int)<=(n:Int)+m:=by omega
 have GU:((n:Int)+m).toNat=n+m:=by omega
 by_cases hle:ao[n+m]<=left
 case neg=>
  have CB:(dJ (ao.drop (n+m)) left).1=0:=by rw[hd,dJ,if_neg hle]
  have K_:kA=m:=by omega
  subst K_;simp[MZ,s0,s1,s2,Fq,s8,s9,uC,Cj,p_,Sv,TO,GU,hle];refine hQ _ _ ?_ ?_ ?_ ?_ ?_
  .simp[s0]
  .simp[s1]
  .simp[s2]
  .simp[Fq]
  .simp[s8]
 case pos=>
  have E0:m+1<=kA:=by rw[hd,dJ,if_pos hle]at AS;omega
  have kv:IntKind.i64.wrap (left-ao[n+m])=left-ao[n+m]:=aP (by omega);have iy:IntKind.i64.wrap ((n:Int)+m+1)=n+m+1:=aP (by omega)
  have LX:T-((ao.drop n).take (m+1)).sum=left-ao[n+m]:=by
   rw[acL (by simp;omega),aeg];simp;omega
  simp[MZ,s0,s1,s2,Fq,s8,s9,uC,Cj,p_,Sv,TO,GU,hle,kv,iy];refine⟨⟨m+1,E0,by omega,by rw[LX],by omega,by omega⟩,by omega⟩
def aao (hG:aw GI) (ao:List Int) (hn:∀ x∈ao,0≤x∧x≤1000) (C0:ao.length≤1000) (vs:List (Nat×Nat)) (OD:vs.length < 1000) (bb:List Int) (hr:bb.length≤100) (pB:∀ x∈bb,0≤x∧x≤1000)
  (n_:∀v∈vs,v.1<=v.2/\v.2<bb.length):AC prog GI 97 [vI ao,.slice .view (vs.map dM),vI bb] (.ret (.int .i64 (eI ao (ec bb) vs))):=by
 refine cE hG func97 ntmps97 c97 ?_;refine aI (λS H=>S 0=vI ao/\S 1=.slice .view (vs.map dM)/\S 2=vI bb) (by simp) ?_;rintro S H ⟨s0,s1,s2⟩;refine aI (λS H=>S 0=vI ao/\S 1=.slice .view (vs.map dM)/\S 2=vI bb/\S 7=.int .i64 0) (by simp[s0,s1,s2]) ?_;clear s0 s1 s2 S H;rintro S H ⟨s0,s1,s2,s7⟩;refine aI (λS H=>S 7=.int .i64 (eI ao (ec bb) vs)) ?_ ?_
 case refine_2=>
  rintro S H s7;simp[s7]
 refine aI (λS H=>S 0=vI ao/\S 1=.slice .view (vs.map dM)/\S 2=vI bb/\S 7=.int .i64 0/\S 8=.int .i64 0) (by simp[s0,s1,s2,s7]) ?_;clear s0 s1 s2 s7 S H;rintro S H ⟨s0,s1,s2,s7,s8⟩;rw[dP.2.2.2.2.2.1];refine bC 8 vs.length (λi S H=>S 0=vI ao/\S 1=.slice .view (vs.map dM)/\S 2=vI bb/\S 8=.int .i64 (i:Nat)/\S 7=.int .i64 (eI ao (ec bb) (vs.take i))) (λi S H h=>h.2.2.2.1) ⟨s0,s1,s2,s8,s7⟩ ?_;clear s0 s1 s2 s7 s8 S H;rintro i hi S H ⟨s0,s1,s2,s8,s7⟩
 by_cases av:i<vs.length
 case neg=>
  have cN:i=vs.length:=by omega
  subst cN;rw[adG]at s7;simp[s0,s1,s2,s7,s8]
 have hw:IntKind.i64.wrap ((i:Int)+1)=i+1:=aP (by omega)
 obtain⟨f,t,hv⟩:∃f t,vs[i]=(f,t):=⟨_,_,rfl⟩
 have BT:=n_ _ (acy av);rw[hv]at BT;simp only at BT
 have jh:eI ao (ec bb) (vs.take (i+1))=eI ao (ec bb) (vs.take i)+(dJ (ao.drop (eI ao (ec bb) (vs.take i))) (iI (ec bb) f (t+1))).1:=by
  rw[acL av,hv,nf]
 have Io:eI ao (ec bb) (vs.take i)<=ao.length:=tC _ _ _;have hT:=y6 pB hr (by omega:f<=t+1) (by omega:t+1<=bb.length);rw[jh]
 generalize eI ao (ec bb) (vs.take i)=n at*
 have U4:¬(i:Int)<0:=by omega
 have NX:¬(vs.length:Int)<=i:=by omega
 refine aI (λS H=>S 0=vI ao/\S 1=.slice .view (vs.map dM)/\S 2=vI bb/\S 8=.int .i64 (i:Nat)/\S 7=.int .i64 (n:Nat)) (by simp[s0,s1,s2,s7,s8,av]) ?_;clear s0 s1 s2 s7 s8 S H;rintro S H ⟨s0,s1,s2,s8,s7⟩;refine aI (λS H=>S 0=vI ao/\S 1=.slice .view (vs.map dM)/\S 2=vI bb/\S 8=.int .i64 (i:Nat)/\S 7=.int .i64 ((n+(dJ (ao.drop n) (iI (ec bb) f (t+1))).1:Nat):Int)) ?_ ?_
 case refine_2=>
  clear s0 s1 s2 s7 s8;rintro S H ⟨s0,s1,s2,s8,s7⟩;simp[s0,s1,s2,s7,s8,av,hw]
 rw[dP.2.2.2.2.2.1];refine aI (λS H=>S 0=vI ao/\S 1=.slice .view (vs.map dM)/\S 2=vI bb/\S 8=.int .i64 (i:Nat)/\S 7=.int .i64 (n:Nat)/\S 9=.int .i64 0) (by simp[s0,s1,s2,s7,s8]) ?_;clear s0 s1 s2 s7 s8 S H;rintro S H ⟨s0,s1,s2,s8,s7,s9⟩;refine aI (λS H=>S 0=vI ao/\S 1=.slice .view (vs.map dM)/\S 2=vI bb/\S 8=.int .i64 (i:Nat)/\S 7=.int .i64 (n:Nat)/\S 9=.int .i64 (iI (ec bb) f (t+1))) ?_ ?_
 .refine aI (λS H=>S 0=vI ao/\S 1=.slice .view (vs.map dM)/\S 2=vI bb/\S 8=.int .i64 (i:Nat)/\S 7=.int .i64 (n:Nat)/\S 9=.int .i64 0/\S 10=.int .i64 (f:Nat)) (by simp[s0,s1,s2,s7,s8,s9,av,U4,NX,hv,dM]) ?_;clear s0 s1 s2 s7 s8 s9 S H;rintro S H ⟨s0,s1,s2,s8,s7,s9,cb⟩;rw[dP.2.2.2.2.2.1];refine Sg av hv BT.1 BT.2 hr pB s0 s1 s2 s7 s8 s9 cb ?_;intro S H s0 s1 s2 s7 s8 s9;simp[s0,s1,s2,s7,s8,s9]
 clear s0 s1 s2 s7 s8 s9 S H;rintro S H ⟨s0,s1,s2,s8,s7,s9⟩;rw[dP.2.2.2.2.2.1];refine SS hn C0 Io hT rfl s0 s1 s2 s7 s8 s9 ?_;intro S H s0 s1 s2 s7 s8;simp[s0,s1,s2,s7,s8]
end Go.Proofs.Tryz
namespace Go.Proofs.Tryz
open Go Go.AL Go.RowKit Go.Proofs Go.Proofs.Tram
attribute [local simp] dP fu qw pn eL dV dW du dp eJ dq cU gG gD aG aD ev aQ.S aQ.H bG au aY AL.start AV.cells AV.storable AV.bZ bu bQ eF b0 HR.okB post cL dc db AV.out AV.bW cy dK fz gM AV.vw da vI int bO aO dE dj iJ jF eo dG bt AV.aH AV.cT
variable{GI:World->Prop}
def YL(hG:aw GI)(s:az)(hs:s.cells.length<1000)(h0:s.cells≠[]):AC prog GI 100 [bn s] (.ret (vI (bo 0 s))):=by
 refine cE hG func100 ntmps100 c100 ?_;refine aI (λS H=>S 1=.box 1 0/\H 1=some (ar s)) (by simp[bn,ar,ae,ai,ah]) ?_;rintro S H ⟨s1,h1⟩;refine aI (λS H=>S 1=.box 1 0/\H 1=some (ar s)/\S 3=grow 3 (ints [])) (by simp[s1,h1,ar,ae,ints,grow,ai,ah]) ?_;clear s1 h1 S H;rintro S H ⟨s1,h1,s3⟩;simp[s1,h1,s3,ar,ae,ai,ah];refine bC 4 s.cells.length (λi S H=>S 1=.box 1 0/\H 1=some (ar s)/\S 4=.int .i64 (i:Nat)/\S 3=grow 3 (ints ((bo 0 s).take i))) (λi S H h=>h.2.2.1) ⟨by simp[s1,ai,ah],by simp[h1,ar,ae,ai,ah],by simp[ai,ah],by simp[s3,ai,ah]⟩ ?_;clear s1 h1 s3 S H;rintro i hi S H ⟨s1,h1,s4,s3⟩
 have vx:(bo 0 s).length=s.cells.length:=by simp[bo]
 by_cases av:i<s.cells.length
 .have hw:IntKind.i64.wrap ((i:Int)+1)=i+1:=aP (by omega)
  have hn:¬(i:Int)<0:=by omega
  have mU:¬(s.cells.length:Int)<=i:=by omega
  have hm:ints ((bo 0 s).take (i+1))=ints ((bo 0 s).take i)++[.int .i64 s.cells[i].lo]:=by
   rw[acL (by omega)];simp[ints,bo,mA]
  have hlen:(ints ((bo 0 s).take i)).length<=s.cells.length:=by simp[ints];omega
  have Sx:=mw ((bo 0 s).take i);rw[hm]
  generalize ints ((bo 0 s).take i)=L at*
  have dI:aJ 1 [AV.int .i64 s.cells[i].lo]=true:=rfl;simp[s1,h1,s4,s3,av,hn,mU,fo,ar,ae,dI];refine fk L (.int .i64 s.cells[i].lo) (.own 3) (by simp[s3,grow]) (by simp) dI Sx (by omega) ?_;intro S' sd dN;simp[sd,dN,s1,h1,s4,hw,av,ar,ae,grow]
 .have cN:i=s.cells.length:=by omega
  subst cN;rw[<-vx,adG]at s3
  have BF:ints (bo 0 s)≠[]:=by simpa[ints,bo]using h0
  simp only[grow,if_neg BF]at s3
  generalize ints (bo 0 s)=L at*
  simp[s1,h1,s4,s3,ar,ae,ai,ah]
def SQ(hG:aw GI)(s:az)(h:eG s)(c:Nat):AC prog GI 117 [bn s,.int .i64 (c:Nat)] (.ret (.bool (decide (c<s.cells.length)&&dk s c))):=by
 have wF:=h.cells;have fI:=h.pos;have Ty:=h.reach;have kv:IntKind.i64.wrap (s.pos-s.reach)=s.pos-s.reach:=aP (by omega);have iy:IntKind.i64.wrap (s.pos-1)=s.pos-1:=aP (by omega)
 have hn:¬(c:Int)<0:=by omega
 refine cE hG func117 ntmps117 c117 ?_;simp[c117,bn,ar,ae,ai,ah];refine oc (VI hG s (by omega) c) ?_;cases e1:cG (c:Int) 0 ((s.cells.length:Int)-1)
 .have hc:¬ c < s.cells.length:=by
   simp[cG]at e1;omega
  simp[ai,ah,hc]
 .have hc:c < s.cells.length:=by
   simp[cG]at e1;omega
  have mU:¬(s.cells.length:Int)<=c:=by omega
  simp[ai,ah,hc,kv,iy];refine oc (wN hG c (s.pos-s.reach) (s.pos-1)) ?_;cases e2:cG (c:Int) (s.pos-s.reach) (s.pos-1)
  .have hz:dk s c=false:=by
    simp[cG]at e2;unfold dk j8;simp;omega
   simp[ai,ah,hz]
  .have hz:dk s c = !s.cells[c].hid:=by
    simp[cG]at e2;unfold dk j8 qk
    have a1:c<s.pos.toNat:=by omega
    simp[hc,a1];omega
   simp[ai,ah,hn,mU,hc,fo,hz]
end Go.Proofs.Tryz
namespace Go.Proofs.Tryz
open Go Go.AL Go.RowKit Go.Proofs Go.Proofs.Tram
attribute [local simp] dP fu fb eu eL dV dW du dp eJ dq cU gG gD aG aD ev aQ.S aQ.H bG au aY AL.start AV.cells AV.storable AV.bZ bu bQ eF b0 HR.okB post cL dc db AV.out AV.bW cy dK fz gM AV.vw da vI int bO aO dE dj iJ jF eo dG bt AV.aH AV.cT
variable{GI:World->Prop}
def rn(s:az):List AV:=match eX s.name with
 |some es=>[vI (aU s es),.bool true]
 |none=>[.slice .view [],.bool false]
def Rx(hG:aw GI)(s:az)(h:eG s):AC prog GI 32 [bn s] (.ret (.dR (rn s))):=by
 have Xi:=aaK hG s h;have QO:=ZE hG s h (mL s) (B8 h)
 have bP:rn s=if(eX s.name).isSome then[vI (aU s (mL s)),.bool true]else[.slice .view [],.bool false]:=by
  unfold rn mL
  cases eX s.name<;>rfl
 rw[bP];clear bP
 generalize(eX s.name).isSome=ok at*
 generalize aU s (mL s)=ns at*
 generalize eO s (mL s)=cs at*
 refine cE hG func32 ntmps32 c32 ?_;simp[c32,bn,ar,ae];refine oc Xi ?_;cases ok
 .simp
 .simp;refine oc QO ?_;simp
def T4(hG:aw GI)(s:az)(h:eG s)(c:Int)(hc:c<0):AC prog GI 117 [bn s,.int .i64 c] (.ret (.bool false)):=by
 have wF:=h.cells
 have e1:cG c 0 ((s.cells.length:Int)-1)=false:=by
  simp[cG];omega
 have h26:=VI hG s (by omega) c;rw[e1]at h26;refine cE hG func117 ntmps117 c117 ?_;simp[c117,bn,ar,ae];refine oc h26 ?_;simp
def TW(hG:aw GI)(s:az)(h:eG s)(c:Nat)(hc:c<s.cells.length):AC prog GI 117 [bn s,.int .i64 ((c:Int)-1)] (.ret (.bool (decide (0<c)&&dk s (c-1)))):=by
 by_cases h0:0<c
 .have:=SQ hG s h (c-1);rw[adX (by omega),afa,show(((c-1:Nat):Nat):Int)=(c:Int)-1 by omega]at this;rw[adX h0,afa];exact this
 .rw[aeh h0,Bool.false_and];exact T4 hG s h _ (by omega)
def Td : af := .ops [⟨(some 5), none, .mv false (.t 4)⟩,
    ⟨(some 6),none,.fieldAddr 0 (.t 1)⟩,
    ⟨(some 7),none,.load .any false 1 (.t 6)⟩,
    ⟨(some 8),none,.iW (.t 7)⟩,
    ⟨(some 9),none,.bin .lss (.t 5) (.t 8)⟩]
def MU:af := .ops [⟨(some 12),none,.load .any true 15 (.t 1)⟩,
     ⟨(some 13),none,.mv false (.t 4)⟩,
     ⟨(some 14),none,.call 117 [(.t 12),(.t 13)]⟩,
     ⟨(some 15),none,.not (.t 14)⟩]
def Nr:af := .ops [⟨(some 16),none,.load .any true 15 (.t 1)⟩,
     ⟨(some 17),none,.mv false (.t 4)⟩,
     ⟨(some 18),none,.bin .sub (.t 17) (.c (.int .i64 1))⟩,
     ⟨(some 19),none,.call 117 [(.t 16),(.t 18)]⟩]
def Nv:List bB:=[⟨(some 20),none,.mv false (.t 3)⟩,
      ⟨(some 21),none,.mv false (.t 3)⟩,
      ⟨(some 22),none,.iW (.t 21)⟩,
      ⟨(some 23),none,.bin .sub (.t 22) (.c (.int .i64 1))⟩,
      ⟨(some 24),none,.mv false (.t 4)⟩,
      ⟨(some 25),none,.indexAddr 2 (.t 20) (.t 23)⟩,
      ⟨(some 26),none,.fieldAddr 1 (.t 25)⟩,
      ⟨none,none,.store .any 1 (.t 26) (.t 24)⟩]
def AD:List bB:=[⟨(some 27),none,.mv true (.t 3)⟩,
      ⟨(some 28),none,.mv false (.t 4)⟩,
      ⟨(some 29),none,.mv false (.t 4)⟩,
      ⟨(some 30),none,.build [(.int .i64 0),(.int .i64 0)] [(0,1,(.t 28)),(1,1,(.t 29))]⟩,
      ⟨(some 31),none,.buildSlice 48 26 2 [(.t 30)]⟩,
      ⟨(some 32),none,.append 48 26 2 16 (.t 27) (.t 31)⟩,
      ⟨(some 3),none,.mv true (.t 32)⟩]
def NH : af := .ops [⟨(some 10), none, .mv false (.t 4)⟩,
    ⟨(some 11),none,.bin .add (.t 10) (.c (.int .i64 1))⟩,
    ⟨(some 4),none,.mv true (.t 11)⟩]
def iX(s:az)(k:Nat):List (Nat×Nat):=(List.range k).foldl (iR (dk s)) []
def va(s:az)(k:Nat):iX s (k+1)=iR (dk s) (iX s k) k:=by
 unfold iX
 rw[ady,adk]<;>rfl
def Lr{s:az}{k:Nat}(h:dk s k=true):iX s (k+1)≠[]:=by
 rw[va];unfold iR;rw[if_pos h]
 split<;>simp
def yf(s:az)(k:Nat):(iX s k).length<=k:=by
 induction k with
 |zero=>simp[iX]
 |succ k ih=>
  rw[va];unfold iR;split
  .split
   .simp;omega
   .simp;omega
  .omega
def HB(l:List (Nat×Nat)):iO 2 (l.map dM):=λx hx=>by
 obtain⟨v,_,rfl⟩:=acZ.1 hx;exact⟨rfl,rfl,λc hc=>by simp[dM,AV.cells]at hc;rcases hc with rfl|rfl<;>rfl⟩
def DV{α:Type}:∀(l:List α)(x:α),l≠[]->l.set (l.length-1) x=l.dropLast++[x]
 |[],_,h=>absurd rfl h
 |[a],x,_=>rfl
 |a::b::l,x,_=>by
  have:=DV (b::l) x (by simp);simp only[List.length_cons,aeb]at this⊢;rw[List.set_cons_succ,List.dropLast_cons_of_ne_nil (by simp),List.cons_append];rw[<-this]
structure yJ(s:az)(v:Value)(k:Nat)(S:an)(H:aq):Prop where
 s1:S 1=.box 1 0
 h1:H 1=some (ar s)
 s3:S 3=.val v
 s4:S 4=.int .i64 (k:Nat)
def aaY(hG:aw GI)(s:az)(h:eG s):AC prog GI 61 [bn s] (.ret (.slice .view ((ez (dk s) s.cells.length).map dM))):=by
 have gr:=h.cells;have n_:ez (dk s) s.cells.length=iX s s.cells.length:=zH (oI h);rw[n_];obtain⟨i3,pZ,mD⟩:=iZ 3 1;obtain⟨i26,Vu,Ad⟩:=acE.1 (show(prog.info? 26).map (λi=>(i.zero.map λz=>z.cells.size,i.size,i.bytes))=some (some 2,2,16) by kernel_rfl);simp only[aeW]at Ad;obtain⟨QY,JF,abv⟩:=Ad;obtain⟨z26,QY,WZ⟩:=acE.1 QY
 have ep:prog.underlying 48=some (.slice 26):=by kernel_rfl
 refine AC.jw func61 rfl ntmps61 (by simp) λcc w=>?_
 refine eV hG c61.qa (λS H=>S 1=.box 1 0/\H 1=some (ar s)) ?_ ?_
 .simp[c61,af.qa,bn,ar,ae]
 rintro S1 H1 ⟨s1,h1⟩;refine eV hG c61.qb.qa (λS H=>S 1=.box 1 0/\H 1=some (ar s)/\S 3=.slice .nil []) ?_ ?_
 .simp[c61,af.qa,af.qb,s1,h1]
 clear s1 h1;rintro S2 H2 ⟨s1,h1,s3⟩;show SW prog GI 34 none (.seq (.seq _ (.block 0 (.loop (.seq (.seq _ (.cond _ .skip (.exit 0))) (.seq (.block 1 (.seq (.seq _ (.cond _ (.exit 1) .skip)) (.seq _ (.cond _ _ _)))) _))))) (.seq _ .ret)) _ _ _ _;refine SW.seq (wm hG (.ops [⟨some 4,none,.mv true (.c (.int .i64 0))⟩]) (λd _ h=>h) (λS H=>S 1=.box 1 0/\H 1=some (ar s)/\S 3=.slice .nil []/\S 4=.int .i64 ((0:Nat):Int)) ?_ ?_)
 .simp[s1,h1,s3]
 clear s1 h1 s3;rintro S3 H3 ⟨s1,h1,s3,s4⟩;refine SW.ghost (K:=λo S H=>∃v,KO cc 26 2 ((iX s 0).map dM) o v/\yJ s v 0 S H) ?_ ?_
 .rintro w0 g a w ho R;obtain⟨v,R2,hK⟩:=KO.start (cc:=cc) (e:=26) (size:=2) R (by rw[ho];exact⟨rfl,rfl,λ_ h=>h⟩) (t:=3) (by decide) s3;exact⟨_,_,_,R2,v,hK,by simp[au,s1],h1,by simp[au],by simp[au,s4]⟩
 rintro o S4 H4 ⟨v,hK,hF⟩;refine SW.block (SW.loop (λo S H=>∃k v,k<=s.cells.length/\KO cc 26 2 ((iX s k).map dM) o v/\yJ s v k S H) (λS _=>match S 4 with|.int _ j=>s.cells.length-j.toNat|_=>0) ⟨0,v,by omega,hK,hF⟩ ?_);clear hF hK s1 h1 s3 s4 v;rintro o S5 H5 ⟨k,v,hk,hK,⟨s1,h1,s3,s4⟩⟩;refine SW.seq (wm hG Td (λd _=>hK.bx d) (λS H=>yJ s v k S H/\S 9=.bool (decide (k<s.cells.length))) ?_ ?_)
 .simp[Td,s1,h1,s3,s4,ar,ae];exact⟨by simp[s1],by simp[h1,ar,ae],by simp[s3],by simp[s4]⟩
 have m4:=s4;clear s1 h1 s3 s4;rintro S6 H6 ⟨⟨s1,h1,s3,s4⟩,s9⟩;refine SW.cond (c':=.t 9) (by kernel_rfl) (decide (k<s.cells.length)) s9 ?_
 by_cases av:k<s.cells.length
 case neg=>
  rw[aeh av]
  have QK:k=s.cells.length:=by omega
  subst QK;refine SW.exit ?_;show SW prog GI 34 none (.seq _ .ret) _ _ _ _;refine SW.ghost (K:=λo S H=>PO cc o/\S 3=.slice .view ((iX s s.cells.length).map dM)) ?_ ?_
  .rintro w0 g a w ho R;rw[<-ho]at hK;obtain⟨g',R2,q1,q2,q3⟩:=KO.done hK R (t:=3) (by decide) s3;exact⟨g',_,_,R2,⟨q1,q2,q3⟩,aK _ _ _⟩
  rintro o S7 H7 ⟨hp,s3⟩;refine wm hG c61.qb.qb.qb.qa (λd _=>hp.bx d) (λS H=>S 2=.slice .view ((iX s s.cells.length).map dM)) ?_ ?_
  .simp[c61,af.qa,af.qb,s3]
  intro S H s2;refine SW.ret ⟨eA.plain hp.ds,hp.c,_,?_,rfl⟩;show cL prog 34 [.tmp 2] S H=_;simp[cL,dc,db,s2,AV.bW,AV.out,AV.vw,AV.cT]
  try rfl
 rw[adX av];refine SW.skip ?_;show SW prog GI 34 none (.seq (.block 1 (.seq (.seq _ (.cond _ (.exit 1) .skip)) (.seq _ (.cond _ _ _)))) _) _ _ _ _;have mu:=va s k;refine SW.seq (SW.block (SW.mono (Q:=λx o S H=>(x=.normal\/x=.exit 1)/\∃v,KO cc 26 2 ((iX s (k+1)).map dM) o v/\yJ s v k S H) ?_ ?_))
 .rintro x o S H ⟨hx,v,hK,⟨s1,h1,s3,s4⟩⟩;have hw:IntKind.i64.wrap ((k:Int)+1)=k+1:=aP (by omega);rcases hx with rfl|rfl
  all_goals
   refine SW.last hG dO (by kernel_rfl) (ac:=NH) (by kernel_rfl) (λd _=>hK.bx d) (λS H=>yJ s v (k+1) S H) ?_ ?_
   .simp[NH,s1,h1,s3,s4,hw];exact⟨by simp[s1],by simp[h1,ar,ae],by simp[s3],by simp[au]⟩
   rintro S' H' hF;refine⟨⟨k+1,v,by omega,hK,hF⟩,?_⟩;have e:=hF.s4;rw[m4,e];simp;omega
 refine SW.seq (wm hG MU (λd _=>hK.bx d) (λS H=>yJ s v k S H/\S 15=.bool (!dk s k)) ?_ ?_)
 .have MV:=SQ hG s h k;rw[adX av,afa]at MV;simp[MU,s1,h1,s3,s4,ar,ae];refine oc MV ?_;simp[s1,h1,s3,s4,ar,ae];exact⟨by simp[s1],by simp[h1,ar,ae],by simp[s3],by simp[s4]⟩
 clear s1 h1 s3 s4;rintro S7 H7 ⟨hF,jA⟩;refine SW.cond (c':=.t 15) (by kernel_rfl) _ jA ?_;cases WV:dk s k
 .refine SW.exit ⟨.inr rfl,v,?_,hF⟩;rw[mu];unfold iR;rw[WV];exact hK
 refine SW.skip ?_;obtain⟨s1,h1,s3,s4⟩:=hF;show SW prog GI 34 none (.seq _ (.cond _ _ _)) _ _ _ _;refine wm hG Nr (λd _=>hK.bx d) (λS H=>yJ s v k S H/\S 19=.bool (decide (0<k)&&dk s (k-1))) ?_ ?_
 .have MV:=TW hG s h k av;have hw:IntKind.i64.wrap ((k:Int)-1)=k-1:=aP (by omega);simp[Nr,s1,h1,s3,s4,hw,ar,ae];refine oc MV ?_;simp[s1,h1,s3,s4,ar,ae];exact⟨by simp[s1],by simp[h1,ar,ae],by simp[s3],by simp[s4]⟩
 clear s1 h1 s3 s4;rintro S8 H8 ⟨⟨s1,h1,s3,s4⟩,sr⟩;refine SW.cond (c':=.t 19) (by kernel_rfl) _ sr ?_
 cases hb:(decide (0<k)&&dk s (k-1))
 .have fx:iR (dk s) (iX s k) k=iX s k++[(k,k)]:=by
   unfold iR;rw[if_pos WV,if_neg (λhh=>by rw[adX hh.1,hh.2]at hb;cases hb)]
  rw[fx]at mu;have vx:=yf s k;show SW prog GI 34 none (.region 8 _ false) _ _ _ _
  refine SW.hand hG (p:=5) (lm:=[5]) (l2:=[6]) (js:=[_,_,_,_,_]) (oh:=[_]) (lv:=[_]) rfl rfl rfl rfl (by kernel_rfl) hK.bx
   (lO:=AD.take 5) (lu:=AD.drop 6) (by kernel_rfl) (by kernel_rfl) (by kernel_rfl) (by kernel_rfl)
   (K1:=λS H=>yJ s v k S H/\S 27=.val v/\S 31=.slice (.own 26) [dM (k,k)])
   (K2:=λo S H=>∃v',KO cc 26 2 ((iX s (k+1)).map dM) o v'/\yJ s v k S H/\S 32=.val v')
   (K3:=λo S H=>∃v',KO cc 26 2 ((iX s (k+1)).map dM) o v'/\yJ s v' k S H) ?_ ?_ ?_ ?_
  .simp[AD,s1,h1,s3,s4,dM,bV,aJ];exact⟨by simp[au,s1],by simp[h1,ar,ae],by simp[au,s3],by simp[au,s4]⟩
  .rintro w0 g S H a w' m cj ho R ⟨⟨s1,h1,s3,s4⟩,qx,wq⟩;rw [<-ho] at hK;have t27:=R.slot 27 (by decide) (λh=>h);rw [qx] at t27;have e27:a.eval (.tmp 27)=v:=t27.fY;rw [<-JF] at hK;obtain ⟨v',w2,g',cM,R2,su⟩:=KO.append R hK (o:={ dst:=some 32,op := .call { callee := .builtin .append,args := #[.tmp 27,.tmp 31],argTypes := #[48,48] },type:=48,pos := "",after := #[],guard:=none }) (x:=dM (k,k)) (t:=48) rfl rfl rfl rfl ep Vu QY (by rw [WZ,JF]) (by rw [abv];decide) e27 (y2 := .t 31) (by kernel_rfl) wq (by rw [JF];exact HB [(k,k)]) (by simp;omega);refine aV rfl rfl (by rfl) cM ?_
   have lj:v'.oneCell'=true:=by
    rcases su.row with⟨⟨_,rfl⟩,_⟩|⟨_,_,_,rfl,_⟩<;>rfl
   rw[JF]at su
   have Ab:(iX s k).map dM++[dM (k,k)]=(iX s (k+1)).map dM:=by rw[mu];simp
   rw[Ab]at su;exact⟨g',_,_,R2.put 32 (.val v') v' (by decide) (.data _ _ (.val _ lj)) trivial,v',su,⟨by simp[au,s1],h1,by simp[au,s3],by simp[au,s4]⟩,aK _ _ _⟩
  .rintro o S H ⟨v',hK,⟨s1,h1,s3,s4⟩,wz⟩;refine⟨hK.bx,?_⟩;simp[AD,s1,h1,s3,s4,wz];exact⟨v',hK,by simp[s1],by simp[h1,ar,ae],by simp[au,s3],by simp[s4]⟩
  .rintro o S H ⟨v',hK,hF⟩;exact⟨.inl rfl,v',hK,hF⟩
 have jK:0<k/\dk s (k-1)=true:=by simpa using hb
 have bP:iX s k≠[]:=by
  have:=Lr jK.2;rwa [show k-1+1=k by omega]at this
 have vx:=yf s k;have Po:0<(iX s k).length:=ade.2 bP
 obtain⟨j,hj⟩:∃j,(iX s k).length-1=j:=⟨_,rfl⟩
 have o_:j<(iX s k).length:=by omega
 obtain⟨p0,q0,xC⟩:∃p0 q0,(iX s k)[j]=(p0,q0):=⟨_,_,rfl⟩
 have fx:iR (dk s) (iX s k) k=(iX s k).set j (p0,k):=by
  rw[<-hj,DV _ _ bP];unfold iR;rw[if_pos WV,if_pos jK,List.getLast?_eq_getElem?,hj,acx o_,xC]
  rfl
 rw[fx]at mu
 have XT:((iX s k).map dM).set j (dM (p0,k))=(iX s (k+1)).map dM:=by rw[mu,List.map_set]
 clear fx mu
 generalize iX s (k+1)=l2 at*
 generalize iX s k=l at*
 have zw:j<(l.map dM).length:=by simp;omega
 show SW prog GI 34 none (.region 7 _ false) _ _ _ _
 refine SW.hand hG (p:=2) (lm:=[2,3,4,5,6,7]) (l2:=[]) (js:=[_,_]) (oh:=[_,_,_,_,_,_]) (lv:=[]) rfl rfl rfl rfl (by kernel_rfl) hK.bx
  (lO:=Nv.take 2) (lu:=[]) (by kernel_rfl) rfl (by kernel_rfl) rfl
  (K1:=λS H=>yJ s v k S H/\S 20=.val v/\S 21=.val v)
  (K2:=λo S H=>KO cc 26 2 (l2.map dM) o v/\yJ s v k S H)
  (K3:=λo S H=>KO cc 26 2 (l2.map dM) o v/\yJ s v k S H) ?_ ?_ ?_ ?_
 .simp[Nv,s1,h1,s3,s4];exact⟨by simp[au,s1],by simp[h1,ar,ae],by simp[au,s3],by simp[au,s4]⟩
 .rintro w0 g S H a w' m cj ho R ⟨⟨s1,h1,s3,s4⟩,pg,np⟩;rw[<-ho]at hK;obtain⟨b,cap,cur,hv,kI,mH,dX⟩:=hK.cell R zw
  have sk:(l.map dM)[j]=dM (p0,q0):=by rw[acM,xC]
  have rq:1<((l.map dM)[j]).cells.length:=by rw[sk];simp[dM,AV.cells]
  have ry:=dX 1 rq;have t20:=R.slot 20 (by decide) (λh=>h);rw[pg]at t20;have Ly:a.eval (.tmp 20)=.slice (some ⟨b,0,none⟩) (l.map dM).length cap:=t20.fY.trans hv;have t21:=R.slot 21 (by decide) (λh=>h);rw[np]at t21;have Ut:a.eval (.tmp 21)=.slice (some ⟨b,0,none⟩) (l.map dM).length cap:=t21.fY.trans hv;have t4:=R.slot 4 (by decide) (λh=>h);rw[s4]at t4;have e4:a.eval (.tmp 4)=.int .i64 (k:Nat):=t4.int_eq;have bg:=R.size
  have U9:(l.map dM).length=l.length:=by simp
  have kv:IntKind.i64.wrap (((l.map dM).length:Int)-1)=(j:Nat):=by
   rw[U9,aP (by omega)];omega
  refine aV rfl rfl (by rfl) (D1 (t:=48) rfl rfl rfl rfl ep Ut) ?_;have R1:=R.put 22 (.int .i64 ((l.map dM).length:Int)) (.int .i64 ((l.map dM).length:Int)) (by decide) (.data _ _ (.int _ _)) trivial
  have p:=λt c=>bJ a 22 t c (by omega)
  have f22:=(p 22 (.int .i64 ((l.map dM).length:Int))).trans (if_pos rfl);have f20:=((p 20 (.int .i64 ((l.map dM).length:Int))).trans (if_neg (by decide))).trans Ly;have f4:=((p 4 (.int .i64 ((l.map dM).length:Int))).trans (if_neg (by decide))).trans e4;have IJ:=R1.size;show wpOpsIn _ _ _ _ _ [3,4,5,6,7] (a.put (some 22) (.int .i64 ((l.map dM).length:Int))) w'
  generalize a.put (some 22) (.int .i64 ((l.map dM).length:Int))=a1 at*
  clear p Ly Ut e4 t20 t21 t4;refine aV rfl rfl (by rfl) (Eu (q:=1) rfl f22 rfl) ?_;rw[kv];have R2:=R1.put 23 (.int .i64 (j:Nat)) (.int .i64 (j:Nat)) (by decide) (.data _ _ (.int _ _)) trivial
  have p:=λt c=>bJ a1 23 t c (by omega)
  have g23:=(p 23 (.int .i64 (j:Nat))).trans (if_pos rfl);have g20:=((p 20 (.int .i64 (j:Nat))).trans (if_neg (by decide))).trans f20;have g4:=((p 4 (.int .i64 (j:Nat))).trans (if_neg (by decide))).trans f4;have zq:=R2.size;show wpOpsIn _ _ _ _ _ [4,5,6,7] (a1.put (some 23) (.int .i64 (j:Nat))) w'
  generalize a1.put (some 23) (.int .i64 (j:Nat))=a2 at*
  clear p f22 f20 f4;refine aV rfl rfl (by rfl) ((run_move (x:=.tmp 4) w' rfl).trans (congrArg (λv=>Result.ok (Next.value v) w') g4)) ?_;have R3:=R2.put 24 (.int .i64 (k:Nat)) (.int .i64 (k:Nat)) (by decide) (.data _ _ (.int _ _)) trivial
  have p:=λt c=>bJ a2 24 t c (by omega)
  have k24:=(p 24 (.int .i64 (k:Nat))).trans (if_pos rfl);have k23:=((p 23 (.int .i64 (k:Nat))).trans (if_neg (by decide))).trans g23;have UF:=((p 20 (.int .i64 (k:Nat))).trans (if_neg (by decide))).trans g20;have Ve:=R3.size;show wpOpsIn _ _ _ _ _ [5,6,7] (a2.put (some 24) (.int .i64 (k:Nat))) w'
  generalize a2.put (some 24) (.int .i64 (k:Nat))=a3 at*
  clear p g23 g20 g4;refine aV rfl rfl (by rfl) (gP (k:=j) rfl ep Vu UF k23 zw) ?_;rw[JF];have R4:=R3.put 25 (.val (.pointer (some ⟨b,j*2,none⟩))) (.pointer (some ⟨b,j*2,none⟩)) (by decide) (.data _ _ (.val _ rfl)) trivial
  have p:=λt c=>bJ a3 25 t c (by omega)
  have l25:=(p 25 (.pointer (some ⟨b,j*2,none⟩))).trans (if_pos rfl);have l24:=((p 24 (.pointer (some ⟨b,j*2,none⟩))).trans (if_neg (by decide))).trans k24;have Cr:=R4.size;show wpOpsIn _ _ _ _ _ [6,7] (a3.put (some 25) (.pointer (some ⟨b,j*2,none⟩))) w'
  generalize a3.put (some 25) (.pointer (some ⟨b,j*2,none⟩))=a4 at*
  clear p k24 k23 UF;refine aV rfl rfl (by rfl) (nI (s:=26) (j:=1) (PL:=1) (sz:=1) (x:=.tmp 25) (by kernel_rfl) (by decide) rfl l25) ?_;have R5:=R4.put 26 (.val (.pointer (some ⟨b,j*2+1,none⟩))) (.pointer (some ⟨b,j*2+1,none⟩)) (by decide) (.data _ _ (.val _ rfl)) trivial
  have p:=λt c=>bJ a4 26 t c (by omega)
  have m26:=(p 26 (.pointer (some ⟨b,j*2+1,none⟩))).trans (if_pos rfl);have m24:=((p 24 (.pointer (some ⟨b,j*2+1,none⟩))).trans (if_neg (by decide))).trans l24;show wpOpsIn _ _ _ _ _ [7] (a4.put (some 26) (.pointer (some ⟨b,j*2+1,none⟩))) w'
  generalize a4.put (some 26) (.pointer (some ⟨b,j*2+1,none⟩))=a5 at*
  clear p l25 l24;obtain ⟨cur',cM,BG,Lb⟩:=nB (o:={ dst:=none,op := .store 3 (.tmp 26) (.tmp 24),type:=0,pos := "",after := #[],guard:=none }) (v := .int .i64 (k:Nat)) rfl m26 pZ mD mH ry.1 m24 rfl;refine dU rfl rfl (by rfl) cM ?_;have R6:=R5.kn kI (.cells cur' 26 (0,0));have su:=hK.set (j:=j) (k:=1) zw rq (x:=dM (p0,k)) (u := .int .i64 (k:Nat)) (HB [(p0,k)]) (by rw [sk]<;>rfl) hv kI BG (λm=>by rw [Lb m]<;>rfl);rw [XT] at su;exact ⟨_,_,_,R6,su,⟨by simp [au,s1],h1,by simp [au,s3],by simp [au,s4]⟩⟩
 .rintro o S H ⟨hK,hF⟩;exact⟨hK.bx,hK,hF⟩
 .rintro o S H ⟨hK,hF⟩;exact⟨.inl rfl,v,hK,hF⟩
def T_(s:az):List Int:=match eX s.name with
 |some es=>aU s es
 |none=>[]
def LC(s:az):rn s=[vI (T_ s),.bool (eX s.name).isSome]:=by
 unfold rn T_
 cases eX s.name<;>rfl
def Qg{s:az}(h:eG s):(ez (dk s) s.cells.length).length<1000:=by
 have hc:=h.cells;rw[zH (oI h)];have:=yf s s.cells.length;unfold iX at this;unfold Nt;omega
def Pb(a b:End):(a.1=b.1/\a.2=b.2)↔a=b:=by
 obtain⟨a1,a2⟩:=a;obtain⟨b1,b2⟩:=b;simp
def aa3(hG:aw GI)(a b:List End)(ha:a.length<1000000):AC prog GI 60 [.slice .view (a.map a_),.slice .view (b.map a_)] (.ret (.bool (a==b))):=by
 refine cE hG func60 ntmps60 c60 ?_
 by_cases hl:a.length=b.length
 case neg=>
  have nJ:((a.length:Int)!=b.length)=true:=by simp;omega
  have bP:(a==b)=false:=by
   rw[adj];intro e;exact hl (by rw[e])
  simp[c60,nJ,bP]
 have nJ:((a.length:Int)!=b.length)=false:=by simp;omega
 simp[c60,nJ];refine bC 5 a.length (λi S H=>S 0=.slice .view (a.map a_)/\S 1=.slice .view (b.map a_)/\S 5=.int .i64 (i:Nat)/\∀j (hj:j<a.length),j<i->a[j]=b[j]'(by omega)) (λi S H h=>h.2.2.1) ⟨by simp,by simp,by simp,λj _ h=>absurd h (af4 _)⟩ ?_;rintro i hi S H ⟨s0,s1,s5,hb⟩
 by_cases av:i<a.length
 case neg=>
  have he:(a==b)=true:=by
   rw[ac7]
   exact aeQ hl λj h1 h2=>hb j h1 (by omega)
  have hn:¬(i:Int)<a.length:=by omega
  simp[s0,s1,s5,hn,he]
 have hw:IntKind.i64.wrap ((i:Int)+1)=i+1:=aP (by omega)
 have Ys:i<b.length:=by omega
 by_cases he:a[i]=b[i]
 .simp[s0,s1,s5,av,Ys,hw,he,a_,AP];intro j hj fh
  by_cases e:j=i
  .subst e;exact he
  .exact hb j hj (by omega)
 .have bP:(a==b)=false:=by
   rw[adj];intro e;subst e;exact he rfl
  have mS:¬(a[i].1=b[i].1/\a[i].2=b[i].2):=λh=>he ((Pb _ _).1 h)
  have jK:([a[i].1,a[i].2]!=[b[i].1,b[i].2])=true:=by
   rw[afm];intro e;simp at e;exact mS e
  simp[s0,s1,s5,av,Ys,a_,AP,bP,jK]
def pf(w:Word):Bool:=decide (w.aM.length<=8)&&decide (w.cd.length<=8)
def pK(s:aF):Bool:=(s.words.take 6).all pf&&(decide (s.bp.length<=8)&&decide (s.aW.length<=8)&&decide (s.words.length<=6))
def F1{s:aF}(h:pK s=true):oP s:=by
 unfold pK at h;simp only[acA,acJ]at h;obtain⟨h1,⟨h2,h3⟩,h4⟩:=h;rw[acQ h4,acN]at h1
 have h5:∀w∈s.words,w.aM.length<=8/\w.cd.length<=8:=λw hw=>by simpa[pf]using h1 w hw
 exact⟨by omega,by omega,by omega,λw hw=>by have:=(h5 w hw).1;omega,λw hw=>by have:=(h5 w hw).2;omega⟩
def vM(s:az):Bool:=pK s.name&&decide (s.cells.length<=14)
def GP{s:az}(h:vM s=true):gh s/\s.cells.length<=14/\s.name.words.length<=6:=by
 unfold vM at h;rw[acA,acJ]at h
 have h6:s.name.words.length<=6:=by
  have:=h.1;unfold pK at this;simp only[acA,acJ]at this;exact this.2.2
 exact⟨⟨by omega,F1 h.1⟩,h.2,h6⟩
def ab7(hG:aw GI)(s:az):AC prog GI 28 [bn s] (.ret (.bool (vM s))):=by
 obtain⟨n,hn⟩:∃n,s.name=n:=⟨_,rfl⟩
 obtain⟨cs,pC⟩:∃n,s.cells=n:=⟨_,rfl⟩
 have hc:((cs.length:Int)<=14)↔cs.length<=14:=by omega
 have hw8:((n.bp.length:Int)<=8)↔n.bp.length<=8:=by omega
 have Z_:((n.aW.length:Int)<=8)↔n.aW.length<=8:=by omega
 have ZO:((n.words.length:Int)<=6)↔n.words.length<=6:=by omega
 unfold vM;rw[hn,pC];refine cE hG func28 ntmps28 c28 ?_;refine aI (λS H=>S 1=.box 1 0/\H 1=some (ar s)) (by simp[bn,ar,ae]) ?_;rintro S H ⟨s1,h1⟩
 have hT:ar s=[.slice .view (cs.map fo),.int .i64 s.pos,.int .i64 s.reach,.int .i64 s.eW,.int .i64 s.dS]++ae n:=by rw[<-hn,<-pC]<;>rfl
 rw[hT]at h1;generalize ar s=T at hT;simp[s1,h1];refine bC 3 (min n.words.length 6) (λi S H=>S 1=.box 1 0/\H 1=some ([.slice .view (cs.map fo),.int .i64 s.pos,.int .i64 s.reach,.int .i64 s.eW,.int .i64 s.dS]++ae n)/\S 3=.int .i64 (i:Nat)/\(∀j (hj:j<(n.words.take 6).length),j<i->pf (n.words.take 6)[j]=true)) (λi S H h=>h.2.2.1) ⟨by simp[s1],by simp[h1],by simp,by simp⟩ ?_;clear s1 h1 S H;rintro i hi S H ⟨s1,e1,s3,hb⟩
 by_cases av:i<n.words.length
 case neg=>
  have cN:i=n.words.length:=by omega
  subst cN
  have EN:n.words.length<=6:=by omega
  have e_:(n.words.take 6).all pf=true:=vD λj hj=>hb j hj (by rw[adf]at hj;omega)
  by_cases h0:cs.length<=14<;>by_cases h1:n.bp.length<=8<;>by_cases h2:n.aW.length<=8<;>simp[s1,e1,s3,ae,pK,e_,h0,h1,h2,EN,hc,hw8,Z_,ZO]
 by_cases h6:i<6
 case neg=>
  have SI:¬(i:Int)<6:=by omega
  have e_:(n.words.take 6).all pf=true:=vD λj hj=>hb j hj (by rw[adf]at hj;omega)
  by_cases h0:cs.length<=14<;>by_cases h1:n.bp.length<=8<;>by_cases h2:n.aW.length<=8<;>simp[s1,e1,s3,av,SI,ae,pK,e_,h0,h1,h2,hc,hw8,Z_,ZO]
 have hw:IntKind.i64.wrap ((i:Int)+1)=i+1:=aP (by omega)
 have SI:(i:Int)<6:=by omega
 have hit:i<(n.words.take 6).length:=by rw[adf];omega
 have ib:(n.words.take 6)[i]=n.words[i]:=ae3
 by_cases h1:n.words[i].aM.length<=8
 case neg=>
  have hf:pf (n.words.take 6)[i]=false:=by rw[ib];simp[pf,h1]
  have Gv:(8:Int)<n.words[i].aM.length:=by omega
  simp[s1,e1,s3,av,SI,ae,cZ,Gv];simp[pK,s_ hit hf]
 have Gv:¬(8:Int)<n.words[i].aM.length:=by omega
 by_cases h2:n.words[i].cd.length<=8
 case neg=>
  have B3:(8:Int)<n.words[i].cd.length:=by omega
  have hf:pf (n.words.take 6)[i]=false:=by rw[ib];simp[pf,h2]
  simp[s1,e1,s3,av,SI,ae,cZ,Gv,B3];simp[pK,s_ hit hf]
 have B3:¬(8:Int)<n.words[i].cd.length:=by omega
 have ht:pf (n.words.take 6)[i]=true:=by rw[ib];simp[pf,h1,h2]
 simp[s1,e1,s3,av,SI,ae,cZ,Gv,B3,hw]
 exact⟨by omega,λj hj fh=>by
  have:=mT hit hb ht j (by rw[adf];omega) fh
  rwa [ae3]at this⟩
def Zi(hG:aw GI)(s:List UInt8):AC prog GI 168 [.bool true,.str s] (.ret (.dR [])):=by
 refine cE hG func168 ntmps168 c168 ?_;simp[c168]
def JR(w:List UInt8):Bool:=EY w&&decide (w.length<=2)
def D7{w:List UInt8}:JR w=true↔w≠[]/\w.length<=2/\(∀c∈w,digit c)/\mG (dY w)=w:=by
 unfold JR;rw[acA,Iv,acJ]
 constructor
 .rintro⟨⟨h1,h2,h3,h4⟩,h5⟩;exact⟨h1,h5,h3,h4⟩
 .rintro⟨h1,h2,h3,h4⟩;exact⟨⟨h1,by omega,h3,h4⟩,h2⟩
def vV:∀(w:List UInt8),(∀c∈w,digit c)->w.length<=2->0<=dY w/\dY w<100
 |[],_,_=>by simp[dY]
 |[a],h,_=>by have:=h a (by simp);unfold digit at this;simp[dY];omega
 |[a,b],h,_=>by have h1:=h a (by simp);have h2:=h b (by simp);unfold digit at h1 h2;simp[dY];omega
def UT(i:Nat)(hi:i<100):AC prog GI 162 [.int .i64 (i:Nat)] (.ret (.str (HS 20 i))):=by
 intro w old bH hG hl hr;obtain⟨v,rfl⟩:=Xd hl rfl;have e1:=(hr 0 (by simp) (by simp)).int_eq;simp only[List.getElem_toArray,List.getElem_cons_zero]at e1;subst e1;refine(Tryz.strconv_Itoa_small i hi w).mono ?_;rintro e w' ⟨rfl,rfl⟩;refine⟨adA _ _,λ_=>0,λ_ _=>rfl,_,rfl,.data _ _ ?_,trivial⟩;rw[HX 20 i (by omega) (by omega)];exact .str _
def Aq{n:Int}(h0:0<=n)(h1:n<100):AC prog GI 162 [.int .i64 n] (.ret (.str (mG n))):=by
 have:=UT (GI:=GI) n.toNat (by omega);rw[afd h0]at this;exact this
noncomputable def yH:af:=af.qb c169.qb.qb.qa.qb.qb
noncomputable def Fo:af:=af.qb c169.qb.qb
def U7(hG:aw GI)(wd:List UInt8)(hw:JR wd=true):AC prog GI 169 [.str wd] (.ret (.int .i64 (dY wd))):=by
 obtain⟨bP,zR,DO,hde⟩:=D7.1 hw
 refine AC.jw func169 rfl ntmps169 (by simp) λcc w=>?_
 have cg:∀k d,¬(oK cc w k).bx d:=λ_ _ h=>h
 refine eV hG c169.qa (λS' H'=>S' 0=.str wd) ?_ ?_
 .simp[c169,af.qa]
 rintro S1 H1 s0;refine eV hG c169.qb.qa (λS' H'=>S' 0=.str wd/\S' 3=.int .i64 0) ?_ ?_
 .simp[c169,af.qa,af.qb,s0]
 rintro S2 H2 ⟨s0,s3⟩;show SW prog GI 41 none (.seq (.seq _ (.block 0 (.loop _))) (.seq _ (.seq _ .ret))) _ _ _ _
 obtain⟨sb,nr⟩:∃sb:ByteArray,sb=⟨wd.toArray⟩:=⟨_,rfl⟩
 refine SW.seq (SW.seq (SW.mid hG (p:=1) (oh:={ dst:=some 7,op := .range 9 (.tmp 6),type:=0,pos := "text.go:97",after:=_,guard:=none }) (js:=[_]) (lv:=[]) (l2:=[]) rfl rfl rfl rfl (by kernel_rfl) rfl (λ_ h=>h) (lO:=(c169.qb.qb.qa.qa.dl).take 1) (lu:=[]) (by kernel_rfl) rfl (by kernel_rfl) rfl
  (K1:=λS' H'=>S' 6=.str wd/\S' 3=.int .i64 0/\S' 0=.str wd)
  (K2:=λo S' H'=>∃k b,o=oK cc w k/\k b=some (.stringIter sb 0)/\S' 7=.val (.pointer (some ⟨b,0,none⟩))/\S' 3=.int .i64 0/\S' 0=.str wd)
  (K3:=λo S' H'=>∃k b,o=oK cc w k/\k b=some (.stringIter sb 0)/\S' 7=.val (.pointer (some ⟨b,0,none⟩))/\S' 3=.int .i64 0/\S' 0=.str wd) ?_ ?_ ?_ ?_))
 .simp[c169,af.qa,af.qb,af.dl,s0,s3]
 .rintro w0 g S8 H8 a w8 ho R ⟨s6,s3,s0⟩;have t6:=R.slot 6 (by decide) (λh=>h);rw[s6]at t6
  have t6:a.eval (.tmp 6)=.string sb:=by rw[nr];exact oz t6
  have ep:prog.underlying 9=some .string:=by kernel_rfl
  have R2:=R.nn (.stringIter sb 0);refine⟨_,_,_,au S8 7 (.val (.pointer (some ⟨w8.heap.size,0,none⟩))),H8,.inl (zg rfl ep t6),R2.put 7 _ _ (by decide) (.data _ _ (.val _ rfl)) trivial,au g.old.aR w8.heap.size (some (.stringIter sb 0)),w8.heap.size,?_,aK _ _ _,by simp[au],by simp[au,s3],by simp[au,s0]⟩;show({ g.old with aR:=au g.old.aR w8.heap.size _ }:Old)=_
  rw[ho]<;>rfl
 .rintro o S8 H8 ⟨k,b,rfl,h⟩;exact⟨cg _,k,b,rfl,h⟩
 rintro o S8 H8 ⟨k,b,rfl,xS,s7,s3,s0⟩
 refine SW.block (SW.QF (λo S' H'=>∃k b pos,o=oK cc w k/\k b=some (.stringIter sb pos)/\pos<=wd.length/\(∀c∈wd.take pos,digit c)/\(0<pos->wd.length<=2)/\S' 7=.val (.pointer (some ⟨b,0,none⟩))/\S' 3=.int .i64 (dY (wd.take pos))/\S' 0=.str wd)
  (λo S' _=>match S' 7 with|.val (.pointer (some a))=>(match o.aR a.block with|some (.stringIter _ p)=>wd.length-p|_=>0)|_=>0) ⟨k,b,0,rfl,xS,adr _,by simp,by simp,s7,s3,s0⟩ ?_)
 rintro o S9 H9 ⟨k,b,pos,rfl,xS,fI,ZP,rq,s7,s3,s0⟩;have m7:=s7
 have SG:∀(S:an)(k:Nat->Option Obj) p,S 7=.val (.pointer (some ⟨b,0,none⟩))->k b=some (.stringIter sb p)->(match S 7 with|.val (.pointer (some a))=>(match(oK cc w k).aR a.block with|some (.stringIter _ p)=>wd.length-p|_=>0)|_=>0)=wd.length-p:=by
  intro S k p h1 h2;rw[h1];show(match k b with|some (.stringIter _ p)=>wd.length-p|_=>0)=_;rw[h2]
 have bg:sb.size=wd.length:=by rw[nr]<;>rfl
 have Vg:=Zi (GI:=GI) hG wd
 have e8:∀n H,fz H (.int .i64 n)=.int .i64 n:=λn H=>rfl
 have e9:∀H,fz H (.str wd)=.str wd:=λH=>rfl
 have kR:∀b H,fz H (.bool b)=.bool b:=λb H=>rfl
 show SW prog GI 41 none (.seq _ (.seq (.cond _ _ _) (.block 1 (.seq _ (.seq _ _))))) _ _ _ _
 by_cases hp:pos<wd.length
 case neg=>
  refine SW.seq (SW.mid hG (p:=0) (oh:={ dst:=some 8,op := .next (.tmp 7) true,type:=0,pos := "text.go:97",after := #[],guard:=none }) (js:=[]) (lv:=[_]) (l2:=[1]) rfl rfl rfl rfl (by kernel_rfl) rfl (cg _) (lO:=[]) (lu:=(yH.qa.dl).drop 1) rfl (by kernel_rfl) rfl (by kernel_rfl)
   (K1:=λS' H'=>S' 7=.val (.pointer (some ⟨b,0,none⟩))/\S' 3=.int .i64 (dY wd)/\S' 0=.str wd)
   (K2:=λo S' H'=>o=oK cc w k/\S' 8=.dR [.bool false]/\S' 3=.int .i64 (dY wd)/\S' 0=.str wd)
   (K3:=λo S' H'=>o=oK cc w k/\S' 9=.bool false/\S' 3=.int .i64 (dY wd)/\S' 0=.str wd) ?_ ?_ ?_ ?_)
  .have:pos=wd.length:=by omega
   subst this;rw[adG]at s3;exact⟨s7,s3,s0⟩
  .rintro w0 g rp uD a Oz ho R ⟨s7,s3,s0⟩;have t7:=R.slot 7 (by decide) (λh=>h);rw[s7]at t7;have t7:a.eval (.tmp 7)=.pointer (some ⟨b,0,none⟩):=t7.fY
   have hk:g.old.aR b=some (.stringIter sb pos):=by rw[ho];exact xS
   have hb:=(R.kept b _ hk).2.1;refine⟨_,_,_,au rp 8 (.dR [.bool false]),uD,.inl (sC rfl t7 hb (by omega)),R.put 8 _ _ (by decide) (.data _ _ (.dR _ _ rfl λi h h'=>?_)) trivial,ho,aK _ _ _,by simp[au,s3],by simp[au,s0]⟩
   match i,h with
   |0,_=>exact .bool _
  .rintro o rp uD ⟨rfl,s8,s3,s0⟩;refine⟨cg _,?_⟩;simp[c169,yH,af.qa,af.qb,af.dl,bw,aG,bh,aD,ev,aQ.S,aQ.H,au,aY,s3,s0,s8,AV.aH]
  rintro o rp uD ⟨rfl,s9,s3,s0⟩;refine SW.seq (SW.cond rfl false (by show rp 9=_;rw[s9]) (SW.exit ?_));show SW prog GI 41 none (.seq _ _) _ _ _ _
  have hpe:pos=wd.length:=by omega
  have hs:=vV wd DO zR;have P_:=Aq (GI:=GI) hs.1 hs.2
  have SX:(wd !=[])=true:=by simpa using bP
  rw[hde]at P_;refine wm hG Fo.qa (λd _=>cg _ d) (λS' H'=>S' 3=.int .i64 (dY wd)) ?_ ?_
  .simp[c169,Fo,af.qa,af.qb,bL,bw,aG,bh,aD,aO,ev,aQ.S,aQ.H,au,aY,s3,s0,AV.aH,eF,SX,e8];refine oc P_ ?_;simp[j0,au,AV.aH,s3,s0,eF,e9,kR];refine oc Vg ?_;simp[j0,au,AV.aH,s3,s0]
  rintro S11 H11 s3;show SW prog GI 41 none (.seq _ .ret) _ _ _ _;refine wm hG Fo.qb.qa (λd _=>cg _ d) (λS' H'=>S' 2=.int .i64 (dY wd)) ?_ ?_
  .simp[c169,Fo,af.qa,af.qb,s3]
  rintro S12 H12 s2;refine SW.ret ⟨eA.plain rfl,rfl,_,?_,rfl⟩;show cL prog 41 [.tmp 2] S12 H12=_;simp[cL,dc,db,s2,AV.bW,AV.out]
 case pos=>
  obtain⟨c,hc⟩:∃c,wd[pos]=c:=⟨_,rfl⟩
  obtain⟨r,hr⟩:∃r:Nat,(Utf8.decode sb pos).1=r:=⟨_,rfl⟩
  obtain⟨p',Cw⟩:∃p':Nat,pos+(Utf8.decode sb pos).2=p':=⟨_,rfl⟩
  have Hq:sb[pos]'(by omega)=c:=by subst nr;rw[<-hc]<;>rfl
  refine SW.seq (SW.mid hG (p:=0) (oh:={ dst:=some 8,op := .next (.tmp 7) true,type:=0,pos := "text.go:97",after := #[],guard:=none }) (js:=[]) (lv:=[_]) (l2:=[1]) rfl rfl rfl rfl (by kernel_rfl) rfl (cg _) (lO:=[]) (lu:=(yH.qa.dl).drop 1) rfl (by kernel_rfl) rfl (by kernel_rfl)
   (K1:=λS' H'=>S' 7=.val (.pointer (some ⟨b,0,none⟩))/\S' 3=.int .i64 (dY (wd.take pos))/\S' 0=.str wd)
   (K2:=λo S' H'=>o=oK cc w (au k b (some (.stringIter sb p')))/\S' 7=.val (.pointer (some ⟨b,0,none⟩))/\S' 8=.dR [.bool true,.int .i64 pos,.int .i32 r]/\S' 3=.int .i64 (dY (wd.take pos))/\S' 0=.str wd)
   (K3:=λo S' H'=>o=oK cc w (au k b (some (.stringIter sb p')))/\S' 7=.val (.pointer (some ⟨b,0,none⟩))/\S' 9=.bool true/\S' 8=.dR [.bool true,.int .i64 pos,.int .i32 r]/\S' 3=.int .i64 (dY (wd.take pos))/\S' 0=.str wd) ⟨s7,s3,s0⟩ ?_ ?_ ?_)
  .rintro w0 g rp uD a Oz ho R ⟨s7,s3,s0⟩;have t7:=R.slot 7 (by decide) (λh=>h);rw[s7]at t7;have t7:a.eval (.tmp 7)=.pointer (some ⟨b,0,none⟩):=t7.fY
   have hk:g.old.aR b=some (.stringIter sb pos):=by rw[ho];exact xS
   have hb:=(R.kept b _ hk).2.1;refine⟨_,_,_,au rp 8 (.dR [.bool true,.int .i64 pos,.int .i32 r]),uD,.inl (KP rfl t7 hb (by omega) hr Cw),(R.kn hk _).put 8 _ _ (by decide) (.data _ _ (.dR _ _ rfl λi h h'=>?_)) trivial,?_,by simp[au,s7],aK _ _ _,by simp[au,s3],by simp[au,s0]⟩
   .match i,h with
    |0,_=>exact .bool _
    |1,_=>exact .int _ _
    |2,_=>exact .int _ _
   .show({ g.old with aR:=au g.old.aR b _ }:Old)=_
    rw[ho]<;>rfl
  .rintro o rp uD ⟨rfl,s7,s8,s3,s0⟩;refine⟨cg _,?_⟩;simp[c169,yH,af.qa,af.qb,af.dl,bw,aG,bh,aD,ev,aQ.S,aQ.H,au,aY,s3,s0,s7,s8,AV.aH]
  rintro o rp uD ⟨rfl,s7,s9,s8,s3,s0⟩;refine SW.seq (SW.cond rfl true (by show rp 9=_;rw[s9]) (SW.skip ?_));show SW prog GI 41 none (.block 1 (.seq _ (.seq _ _))) _ _ _ _;have Ux:digit c:=DO c (hc▸acy hp);have Rp:=Ux;unfold digit at Rp;have Vz:=decode_ascii sb pos (by omega) (by rw[Hq];omega)
  have hrc:r=c.toNat:=by rw[<-hr,Vz,Hq]
  have Dv:p'=pos+1:=by rw[<-Cw,Vz]
  subst hrc;subst Dv
  have abz:∀x∈wd.take (pos+1),digit x:=by
   rw[acL hp,hc];intro x hx;rcases acF.1 hx with hx|hx
   .exact ZP x hx
   .rw[ac4]at hx;rw[hx];exact Ux
  have oy:wd.take (pos+1)=wd.take pos++[c]:=by rw[acL hp,hc]
  have abk:=sL (wd.take pos) ZP (by simp;omega);refine SW.block (SW.mono (Q:=λe o S' H'=>e=.normal/\o=oK cc w (au k b (some (.stringIter sb (pos+1))))/\S' 7=.val (.pointer (some ⟨b,0,none⟩))/\S' 3=.int .i64 (dY (wd.take (pos+1)))/\S' 0=.str wd) ?_ (SW.pF hG dO (by kernel_rfl) (λd _=>cg _ d) (ac:=af.qb yH.qb.qb) (by kernel_rfl) ?_))
  .rintro e o S' H' ⟨rfl,rfl,s7,s3,s0⟩;refine⟨⟨au k b (some (.stringIter sb (pos+1))),b,pos+1,rfl,aK _ _ _,hp,abz,λ_=>zR,s7,s3,s0⟩,?_⟩;show(match S' 7 with|.val (.pointer (some a))=>(match(oK cc w (au k b (some (.stringIter sb (pos+1))))).aR a.block with|some (.stringIter _ p)=>wd.length-p|_=>0)|_=>0)<_;rw[SG S' _ (pos+1) s7 (aK _ _ _),SG S9 k pos m7 xS];omega
  .unfold ij.bL
   have g1:(48:Int)<=c.toNat:=by omega
   have g2:(c.toNat:Int)<=57:=by omega
   have g3:(wd.length:Int)<=2:=by omega
   have w1:IntKind.i64.wrap (10*dY (wd.take pos))=10*dY (wd.take pos):=aP (by omega);have w2:IntKind.i32.wrap ((c.toNat:Int)-48)=(c.toNat:Int)-48:=wrap32 (by omega);have w3:IntKind.i64.wrap ((c.toNat:Int)-48)=(c.toNat:Int)-48:=aP (by omega)
   have w4:IntKind.i64.wrap (10*dY (wd.take pos)+((c.toNat:Int)-48))=dY (wd.take (pos+1)):=by rw[oy,Bh,aP (by omega)]
   simp[c169,yH,af.qa,af.qb,bL,bw,aG,bh,aD,dE,ev,aQ.S,aQ.H,au,aY,s3,s0,s7,s8,AV.aH,eF,g1,g2,g3,e9,kR,bG];refine oc Vg ?_;simp[j0,au,AV.aH,s3,s0,s7,eF,w1,w2,w3,w4,bG]
end Go.Proofs.Tryz
namespace Go.Proofs.Tryz
open Go Go.AL Go.RowKit Go.Proofs Go.Proofs.Tram
variable{GI:World->Prop}
section
variable{w0:World}{n:Nat}{g:Gh}{S:an}{H:aq}{a:Act}{w:World}{d i1 i4 i5:Nat}{t u e:List UInt8}{z x:List AV}{y:AV}
def RM(R:Rel prog w0 n bz g S H a w){i:Nat}(hi:i<n)(hS:S i=.box i 0)(hH:H i=some [.str t]):∃b,a.tmps.getD i undef=.pointer (some ⟨b,0,none⟩)/\w.cell? ⟨b,0,none⟩=some (.string ⟨t.toArray⟩):=by
 obtain⟨b,al,e⟩:=lY R hi hS;obtain⟨cs,vs,ty,k0,k1,k2,k3,k4,k5,k6,k7,k8⟩:=R.box i b al;rw[hH]at k0;cases k0
 have h0:0<vs.size:=by rw[<-k5];exact Nat.zero_lt_one
 have hv:=oz (RV.data (al:=cD) _ _ (k6 0 (by simp) h0));exact⟨b,e,by simp[World.cell?,k2,h0,hv]⟩
def Ot (hG:aw GI) (cj:GI w0) (R:Rel prog w0 n bz g S H a w) (hd:d < n) (QH:i1 < n) (Kx:i4 < n) (Kv:i5 < n) (LV:d≠i4) (OL:d≠i5) (P0:i4≠i5)
  (Te:S i1=.box i1 0) (Qx:H i1=some [.str t]) (GS:S i4=.box i4 0) (Lq:H i4=some z) (z7:S i5=.box i5 0) (Gc:H i5=some [y]) (hz:z.length=15) (hx:x.length=15) (aan:AC prog GI 121 [.str t] (.ret (.dR [.agg x,.str u]))):
  Calls prog 120 #[a.tmps.getD i1 undef,a.tmps.getD i4 undef,a.tmps.getD i5 undef] w λe w2=>e=.returned (.tuple #[])/\∃(c:Value)(g':Gh)(S':an)(H':aq),g'.old=g.old/\Rel prog w0 n bz g' S' H' (a.put (some d) c) w2/\(∀t,t≠d->S' t=S t)/\H'=au (au H i4 (some (x.map AV.aH))) i5 (some [.str u]):=by
 have bg:=R.size;have gm:GI w:=hG w0 w cj (by have:=R.below;rwa [R.base]at this);obtain⟨b1,e1,dX⟩:=RM R QH Te Qx;obtain⟨b4,al4,e4⟩:=lY R Kx GS;obtain⟨b5,Y_,e5⟩:=lY R Kv z7;refine afc func120 rfl ?_;refine(fE (m:=0)).1 ?_;refine ia (λa=>a.tmps.size=8/\a.defers=[]/\a.tmps.getD 0 undef=.pointer (some ⟨b1,0,none⟩)/\a.tmps.getD 1 undef=.pointer (some ⟨b4,0,none⟩)/\a.tmps.getD 2 undef=.pointer (some ⟨b5,0,none⟩)) ⟨by simp[ntmps120],rfl,(cH _ _ 0 (by simp)).trans e1,(cH _ _ 1 (by simp)).trans e4,(cH _ _ 2 (by simp)).trans e5⟩ ?_;rintro aC ⟨zC,dC,t0,t1,t2⟩;refine ac6 ?_;show wpOpsIn _ _ _ _ _ [0,1,2,3,4,5,6] aC w;refine aV rfl rfl (by rfl) (kS (t:=9) (d:=.string) (b:=b1) (off:=0) rfl t0 (by kernel_rfl) rfl dX) ?_;show wpOpsIn _ _ _ _ _ [1,2,3,4,5,6] (aC.put (some 4) (.string ⟨t.toArray⟩)) w
 refine gE rfl rfl (by rfl) (jr (k:=121) (args:=#[.string ⟨t.toArray⟩]) w rfl rfl ?_ (by kernel_rfl)) (aan w (fB g false) #[.string ⟨t.toArray⟩] gm rfl (λi h h'=>by
  match i,h with
  |0,_=>exact .data _ _ (.str t))) ?_
 .simp only[ado,ac5,adp];show #[(aC.put (some 4) _).eval (.tmp 4)]=_;rw[bJ _ _ _ _ (by omega),if_pos rfl]
 rintro e w2 ⟨jK,hi,si,c,rfl,Mw,cI⟩;refine⟨c,rfl,?_⟩;obtain⟨g',qQ,nx,R2⟩:=R.call (some d) (λt ht=>by cases ht;exact⟨hd,id⟩) false jK si Mw cI (λh=>by cases h);have EP:=R2.slot d hd id
 have abD:(a.put (some d) c).tmps.getD d undef=c:=by rw[ir _ _ _ _ (by omega),if_pos rfl]
 rw[abD]at EP;have Uo:aY S (some d) (.dR [.agg x,.str u]) d=.dR [.agg x,.str u]:=aK _ _ _;rw[Uo]at EP
 obtain⟨c0,rfl,r0⟩:∃c0,c=.tuple #[c0,.string ⟨u.toArray⟩]/\RD g'.Pr w2 (.agg x) c0:=by
  cases EP with
  |data _ _ h=>
   cases h with
   |dR cs vs hl hr=>
    have h2:vs.size=2:=by rw[<-hl]<;>rfl
    have q0:=hr 0 (by simp) (by omega);have q1:=hr 1 (by simp) (by omega);simp only[List.getElem_cons_zero,List.getElem_cons_succ]at q0 q1;have q1:=oz (RV.data (al:=cD) _ _ q1);refine⟨vs[0],?_,q0⟩
    congr 1
    apply aea
    .simpa using h2
    .intro i h1 h2
     match i,h2 with
     |0,_=>rfl
     |1,_=>exact q1
 have R3:=R2.put d (.agg x) c0 hd (.data _ _ r0) trivial;rw[CC]at R3;obtain⟨i31,oU,o8⟩:=iZ 31 15;obtain⟨i9,hi9,Oq⟩:=iZ 9 1
 have iS:bu z 0 (x.map AV.aH)=x.map AV.aH:=by simp[bu,hz,hx]
 obtain⟨S3,J'⟩:∃S3,au (aY S (some d) (.dR [.agg x,.str u])) d (.agg x)=S3:=⟨_,rfl⟩
 rw[J']at R3
 have k3d:S3 d=.agg x:=by rw[<-J'];exact aK _ _ _
 have k3:∀t,t≠d->S3 t=S t:=λt ht=>by rw[<-J'];simp[au,aY,ht]
 have ky:aD S3 H (.store .any i31.size (.t i4) (.t d))=some { v:=bO,dm:=some d,hw:=some (i4,x.map AV.aH) }:=by
  simp[aD,ev,k3d,k3 i4 (adi LV),GS,Lq,HR.okB,AV.cells,AV.storable,AV.bZ,o8,hx,hz,bG,iS]
 obtain ⟨c2,w3,g3,cM,QN,A2,R4⟩:=l0 R3 (o:={ dst:=none,op := .store 31 (.tmp i4) (.tmp d),type:=0,pos := "",after := #[],guard:=none }) (x1 := .tmp i4) (x2 := .tmp d) (y1 := .t i4) (y2 := .t d) (hr := .any) rfl rfl oU (by simp [c_,Kx]) (by simp [c_,hd]) (λ_ _=>id) (λ_ _=>id) ky;have R5:=R4.put d (.str u) (.string ⟨u.toArray⟩) hd (.data _ _ (.str u)) trivial;have R5:Rel prog w0 n bz g3 (au _ d (.str u)) (au H i4 (some (x.map AV.aH))) ((a.put (some d) c0).put (some d) (.string ⟨u.toArray⟩)) w3:=R5;rw [CC] at R5
 obtain⟨S5,HP⟩:∃S5,au (aQ.S { v:=bO,dm:=some d,hw:=some (i4,x.map AV.aH) } S3 none) d (.str u)=S5:=⟨_,rfl⟩
 rw[HP]at R5
 have k5d:S5 d=.str u:=by rw[<-HP];exact aK _ _ _
 have k5:∀t,t≠d->S5 t=S t:=λt ht=>by rw[<-HP,aN _ _ ht,<-k3 t ht];simp[aQ.S,aY,au,ht]
 have abd:aD S5 (au H i4 (some (x.map AV.aH))) (.store .any i9.size (.t i5) (.t d))=some { v:=bO,dm:=some d,hw:=some (i5,[.str u]) }:=by
  simp[aD,ev,k5d,k5 i5 (adi OL),z7,Gc,au,adi P0,HR.okB,AV.cells,AV.storable,AV.bZ,Oq,bu,bG,AV.aH]
 obtain ⟨c3,w4,g4,GN,acs,ZX,R6⟩:=l0 R5 (o:={ dst:=none,op := .store 9 (.tmp i5) (.tmp d),type:=0,pos := "",after := #[],guard:=none }) (x1 := .tmp i5) (x2 := .tmp d) (y1 := .t i5) (y2 := .t d) (hr := .any) rfl rfl hi9 (by simp [c_,Kv]) (by simp [c_,hd]) (λ_ _=>id) (λ_ _=>id) abd;show wpOpsIn _ _ _ _ _ [2,3,4,5,6] ((aC.put (some 4) (.string ⟨t.toArray⟩)).put (some 5) (.tuple #[c0,.string ⟨u.toArray⟩])) w2
 obtain⟨A,hA,zA,dA,q1,q2,q5⟩:∃A,(aC.put (some 4) (.string ⟨t.toArray⟩)).put (some 5) (.tuple #[c0,.string ⟨u.toArray⟩])=A/\A.tmps.size=8/\A.defers=[]/\A.eval (.tmp 1)=.pointer (some ⟨b4,0,none⟩)/\A.eval (.tmp 2)=.pointer (some ⟨b5,0,none⟩)/\A.eval (.tmp 5)=.tuple #[c0,.string ⟨u.toArray⟩]:=by
  have Qz:(aC.put (some 4) (.string ⟨t.toArray⟩)).tmps.size=8:=by rw[lg];exact zC
  refine⟨_,rfl,by rw[lg];exact Qz,dC,?_,?_,?_⟩
  .rw[bJ _ _ _ _ (by omega),if_neg (by decide),bJ _ _ _ _ (by omega),if_neg (by decide)];exact t1
  .rw[bJ _ _ _ _ (by omega),if_neg (by decide),bJ _ _ _ _ (by omega),if_neg (by decide)];exact t2
  .rw[bJ _ _ _ _ (by omega),if_pos rfl]
 rw[hA]
 have v5:(execOp A.eval { dst:=some 3,op := .move (.tmp 5),type:=146,pos := "",after := #[],guard:=none }).run prog w2 = .ok (.value (.tuple #[c0,.string ⟨u.toArray⟩])) w2:=by unfold execOp;simp [q5]
 refine aV rfl rfl (by rfl) v5 ?_;show wpOpsIn _ _ _ _ _ [3,4,5,6] (A.put (some 3) (.tuple #[c0,.string ⟨u.toArray⟩])) w2
 obtain⟨B,hB⟩:∃B,A.put (some 3) (.tuple #[c0,.string ⟨u.toArray⟩])=B:=⟨_,rfl⟩
 have zB:B.tmps.size=8:=by rw[<-hB,lg];exact zA
 have dB:B.defers=[]:=by rw[<-hB];exact dA
 have p1:B.eval (.tmp 1)=.pointer (some ⟨b4,0,none⟩):=by rw[<-hB,bJ _ _ _ _ (by omega),if_neg (by decide)];exact q1
 have p2:B.eval (.tmp 2)=.pointer (some ⟨b5,0,none⟩):=by rw[<-hB,bJ _ _ _ _ (by omega),if_neg (by decide)];exact q2
 have p3:B.eval (.tmp 3)=.tuple #[c0,.string ⟨u.toArray⟩]:=by rw[<-hB,bJ _ _ _ _ (by omega),if_pos rfl]
 rw[hB]
 have v6:(execOp B.eval { dst:=some 6,op := .extract (.tmp 3) 0,type:=31,pos := "",after := #[],guard:=none }).run prog w2 = .ok (.value c0) w2:=by unfold execOp;simp [p3,Instr.extract]
 refine aV rfl rfl (by rfl) v6 ?_;show wpOpsIn _ _ _ _ _ [4,5,6] (B.put (some 6) c0) w2
 obtain⟨C,hC⟩:∃C,B.put (some 6) c0=C:=⟨_,rfl⟩
 have zC:C.tmps.size=8:=by rw[<-hC,lg];exact zB
 have o1:C.eval (.tmp 1)=.pointer (some ⟨b4,0,none⟩):=by rw[<-hC,bJ _ _ _ _ (by omega),if_neg (by decide)];exact p1
 have o2:C.eval (.tmp 2)=.pointer (some ⟨b5,0,none⟩):=by rw[<-hC,bJ _ _ _ _ (by omega),if_neg (by decide)];exact p2
 have o3:C.eval (.tmp 3)=.tuple #[c0,.string ⟨u.toArray⟩]:=by rw[<-hC,bJ _ _ _ _ (by omega),if_neg (by decide)];exact p3
 have o6:C.eval (.tmp 6)=c0:=by rw[<-hC,bJ _ _ _ _ (by omega),if_pos rfl]
 rw[hC]
 have v7:(execOp C.eval { dst:=some 7,op := .extract (.tmp 3) 1,type:=9,pos := "",after := #[],guard:=none }).run prog w2 = .ok (.value (.string ⟨u.toArray⟩)) w2:=by unfold execOp;simp [o3,Instr.extract]
 refine aV rfl rfl (by rfl) v7 ?_;show wpOpsIn _ _ _ _ _ [5,6] (C.put (some 7) (.string ⟨u.toArray⟩)) w2
 obtain⟨D,hD⟩:∃D,C.put (some 7) (.string ⟨u.toArray⟩)=D:=⟨_,rfl⟩
 have zD:D.tmps.size=8:=by rw[<-hD,lg];exact zC
 have dD:D.defers=[]:=by rw[<-hD,<-hC];exact dB
 have m1:D.eval (.tmp 1)=.pointer (some ⟨b4,0,none⟩):=by rw[<-hD,bJ _ _ _ _ (by omega),if_neg (by decide)];exact o1
 have m2:D.eval (.tmp 2)=.pointer (some ⟨b5,0,none⟩):=by rw[<-hD,bJ _ _ _ _ (by omega),if_neg (by decide)];exact o2
 have m6:D.eval (.tmp 6)=c0:=by rw[<-hD,bJ _ _ _ _ (by omega),if_neg (by decide)];exact o6
 have m7:D.eval (.tmp 7)=.string ⟨u.toArray⟩:=by rw[<-hD,bJ _ _ _ _ (by omega),if_pos rfl]
 rw[hD]
 have f4:∀c,(a.put (some d) c).eval (.tmp i4)=.pointer (some ⟨b4,0,none⟩):=λc=>by rw[bJ _ _ _ _ (by omega),if_neg (adi LV)];exact e4
 have f5:∀c,(a.put (some d) c).eval (.tmp i5)=.pointer (some ⟨b5,0,none⟩):=λc=>by rw[bJ _ _ _ _ (by omega),if_neg (adi OL)];exact e5
 have fd:∀c,(a.put (some d) c).eval (.tmp d)=c:=λc=>by rw[bJ _ _ _ _ (by omega),if_pos rfl]
 have bj:∀ o:Oper,o.op = .store 31 (.tmp 1) (.tmp 6)->(execOp D.eval o).run prog w2=(execOp (a.put (some d) c0).eval { dst:=none,op := .store 31 (.tmp i4) (.tmp d),type:=0,pos := "",after := #[],guard:=none }).run prog w2:=by
  intro o ho;unfold execOp;simp only[ho,m1,m6,f4,fd]
 have jX:∀ (D':Act) (o:Oper),o.op = .store 9 (.tmp 2) (.tmp 7)->D'.tmps=D.tmps->(execOp D'.eval o).run prog w3=(execOp (a.put (some d) (.string ⟨u.toArray⟩)).eval { dst:=none,op := .store 9 (.tmp i5) (.tmp d),type:=0,pos := "",after := #[],guard:=none }).run prog w3:=by
  intro D' o ho ht
  have n2:D'.eval (.tmp 2)=.pointer (some ⟨b5,0,none⟩):=by show D'.tmps.getD 2 undef=_;rw[ht];exact m2
  have n7:D'.eval (.tmp 7)=.string ⟨u.toArray⟩:=by show D'.tmps.getD 7 undef=_;rw[ht];exact m7
  unfold execOp;simp only[ho,n2,n7,f5,fd]
 have fin:∀v1 v2:Value,((D.put none v1).put none v2).defers=[]/\∃v',(results f120 ((D.put none v1).put none v2).tmps).run prog w4=.ok v' w4/\(Ending.returned v'=.returned (.tuple #[])/\∃(c:Value)(g':Gh)(S':an)(H':aq),g'.old=g.old/\Rel prog w0 n bz g' S' H' (a.put (some d) c) w4/\(∀t,t≠d->S' t=S t)/\H'=au (au H i4 (some (x.map AV.aH))) i5 (some [.str u])):=λv1 v2=>
  ⟨dD,.tuple #[],by simp[results,results120],rfl,_,g4,_,_,by rw[ZX];exact A2.trans nx,R6,λt ht=>by rw[<-k5 t ht];simp[aQ.S,aY,au,ht],rfl⟩
 rcases cM with hr|⟨hr,_⟩
 .refine aV rfl rfl (by rfl) ((bj _ rfl).trans hr) ?_
  rcases GN with hr|⟨hr,_⟩
  .exact aV rfl rfl (by rfl) ((jX (D.put none c2) _ rfl rfl).trans hr) (fin c2 _)
  .exact dU rfl rfl (by rfl) ((jX (D.put none c2) _ rfl rfl).trans hr) (fin c2 undef)
 .refine dU rfl rfl (by rfl) ((bj _ rfl).trans hr) ?_
  rcases GN with hr|⟨hr,_⟩
  .exact aV rfl rfl (by rfl) ((jX (D.put none undef) _ rfl rfl).trans hr) (fin undef _)
  .exact dU rfl rfl (by rfl) ((jX (D.put none undef) _ rfl rfl).trans hr) (fin undef undef)
end
def Tr:Nat->Bool:=λt=>decide (14<=t)
structure L2(a0:Act)(w:World)(u v:Value)(es:List Int)(c:Bool)(k:Nat)(a:Act)(w':World):Prop where
 size:a.tmps.size=50
 defers:a.defers=[]
 same:dZ Tr a0 a
 below:Below w.heap.size w w'
 t14:c=true->a.tmps.getD 14 undef=u
 t15:1<=k->a.tmps.getD 15 undef=v
 t16:2<=k->xA w w' (ints es) (a.tmps.getD 16 undef)
 t17:3<=k->∃O6,a.tmps.getD 17 undef=.slice (some ⟨O6,0,none⟩) 1 1/\w'.heap[O6]?=some (.cells #[a.tmps.getD 16 undef] 23 (0,0))/\w.heap.size<=O6
def A4{a0 a:Act}(h:dZ Tr a0 a){d:Nat}(hd:14<=d)(c:Value):dZ Tr a0 (a.put (some d) c):=h.trans (dZ.put (λt ht=>by cases ht;simp[Tr,hd]) c)
section
variable{a0 a:Act}{w w':World}{u v:Value}{es:List Int}{c:Bool}{k:Nat}
def L2.load(h:L2 a0 w u v es c k a w'):L2 a0 w u v es true k (a.put (some 14) u) w':=by
 have hp:=λt (c:Value)=>ir a 14 t c (by rw[h.size];omega)
 refine⟨by simp[Act.put,h.size],h.defers,A4 h.same (by omega) _,h.below,λ_=>by rw[hp,if_pos rfl],λhk=>by rw[hp,if_neg (by decide)];exact h.t15 hk,λhk=>by rw[hp,if_neg (by decide)];exact h.t16 hk,λhk=>?_⟩;rw[hp,if_neg (by decide),hp,if_neg (by decide)];exact h.t17 hk
def L2.now(h:L2 a0 w u v es c 0 a w'):L2 a0 w u v es c 1 (a.put (some 15) v) w':=by
 have hp:=λt (c:Value)=>ir a 15 t c (by rw[h.size];omega)
 exact⟨by simp[Act.put,h.size],h.defers,A4 h.same (by omega) _,h.below,λhc=>by rw[hp,if_neg (by decide)];exact h.t14 hc,λ_=>by rw[hp,if_pos rfl],λhk=>by omega,λhk=>by omega⟩
def L2.copy(h:L2 a0 w u v es c 1 a w'){w2:World}{cl:Value}(hb:Below w'.heap.size w' w2)(hf:xA w' w2 (ints es) cl):L2 a0 w u v es c 2 (a.put (some 16) cl) w2:=by
 have hp:=λt (c:Value)=>ir a 16 t c (by rw[h.size];omega)
 refine⟨by simp[Act.put,h.size],h.defers,A4 h.same (by omega) _,h.below.trans (hb.mono h.below.size),λhc=>by rw[hp,if_neg (by decide)];exact h.t14 hc,λhk=>by rw[hp,if_neg (by decide)];exact h.t15 (by omega),λ_=>?_,λhk=>by omega⟩;rw[hp,if_pos rfl];obtain⟨hi,hr⟩:=hf;exact⟨hi,hr.mono (bc.same λb k _ hp=>⟨⟨adD h.below.size hp.1.1,hp.1.2⟩,hp.2⟩)⟩
def Fu(w:World)(o:Obj):Below w.heap.size w (w.alloc o):=(adA _ _).alloc (acD _) _
def L2.row(h:L2 a0 w u v es c 2 a w'):L2 a0 w u v es c 3 (a.put (some 17) (.slice (some ⟨w'.heap.size,0,none⟩) 1 1)) (w'.alloc (.cells #[a.tmps.getD 16 undef] 23)):=by
 have hp:=λt (c:Value)=>ir a 17 t c (by rw[h.size];omega)
 have hb:=Fu w' (.cells #[a.tmps.getD 16 undef] 23);refine⟨by simp[Act.put,h.size],h.defers,A4 h.same (by omega) _,h.below.trans (hb.mono h.below.size),λhc=>by rw[hp,if_neg (by decide)];exact h.t14 hc,λhk=>by rw[hp,if_neg (by decide)];exact h.t15 (by omega),λ_=>?_,λ_=>?_⟩
 .rw[hp,if_neg (by decide)];exact(h.t16 (by omega)).grow hb
 .rw[hp,if_pos rfl,hp,if_neg (by decide)];exact⟨_,rfl,adv _ _,h.below.size⟩
end
def Vq(ops:Array Oper):Bool:=decide (ops.size=6)&&
 (Region.ready .any ops #[false,false,false,false,false,false]==[0,1])&&(Region.ready .any ops #[true,false,false,false,false,false]==[1])&&(Region.ready .any ops #[false,true,false,false,false,false]==[0,2])&&
 (Region.ready .any ops #[true,true,false,false,false,false]==[2])&&(Region.ready .any ops #[false,true,true,false,false,false]==[0,3])&&(Region.ready .any ops #[true,true,true,false,false,false]==[3])&&
 (Region.ready .any ops #[false,true,true,true,false,false]==[0])&&(Region.ready .any ops #[true,true,true,true,false,false]==[4])&&(Region.ready .any ops #[true,true,true,true,true,false]==[5])&&(Region.ready .any ops #[true,true,true,true,true,true]==[])
section
variable{wB:World}{Mi:Nat->Nat->Prop}{bF bN:Nat}{s:az}{cS cR fv:Value}{fs:List (List Int)}{es:List Int}{w:World}{a:Act}{Q:Exit->Act->World->Prop}{m:Nat}
def FL (hG:aw GI) (st:Lv wB Mi bF bN s cS cR fv fs es w) (gm:GI w) (bg:a.tmps.size=50) (ee:a.defers=[]) (t3:a.tmps.getD 3 undef = .pointer (some ⟨bN,0,none⟩)) (t4:a.tmps.getD 4 undef = .pointer (some ⟨bF,0,none⟩)) (mb:es.length < 1000) (gv:fs.length < 100000)
  {id:Nat} {ops:Array Oper} {o0 o1 o2 o3 o4 o5:Oper} {Xh TP:Call} (h0:ops[0]?=some o0) (h1:ops[1]?=some o1) (h2:ops[2]?=some o2) (h3:ops[3]?=some o3) (h4:ops[4]?=some o4) (h5:ops[5]?=some o5)
  (q0:o0.op=.load 141 (.tmp 4)/\o0.dst=some 14/\o0.guard=none) (q1:o1.op=.load 23 (.tmp 3)/\o1.dst=some 15/\o1.guard=none) (q2:o2.op=.call Xh/\o2.dst=some 16/\o2.guard=none) (q3:o3.op=.buildSlice 141 1 #[(0,.tmp 16)]/\o3.dst=some 17/\o3.guard=none)
  (q4:o4.op=.call TP/\o4.dst=some 18/\o4.guard=none) (q5:o5.op=.store 141 (.tmp 4) (.tmp 18)/\o5.dst=none/\o5.guard=none)
  (c2:Xh.callee=.value (.func 114)/\Xh.args=#[.tmp 15]) (c4:TP.callee=.builtin .append/\TP.args=#[.tmp 14,.tmp 17]/\TP.argTypes=#[141,141]) (hr:Vq ops=true)
  (hk:∀a' w' qO,a'.tmps.size=50->a'.defers=[]->dZ Tr a a'->(∀b k,Mi b k->qO b k)->Lv wB qO bF bN s cS cR fv (fs++[es]) es w'->Q .normal a' w'):(Code.region id ops true).wpIn (FR none) m prog Q a w:=by
 unfold Vq at hr;simp only[acA,ac7,acJ]at hr;obtain⟨⟨⟨⟨⟨⟨⟨⟨⟨⟨r0,ra⟩,rb⟩,rc⟩,rd⟩,re⟩,rf⟩,rg⟩,rh⟩,ri⟩,rj⟩:=hr;obtain⟨u,xE,xF,v,Cs,xN,f1,f2,f3,f4,n1,n2,n3,n4⟩:=st.st;have lF:=(acz.1 f1).1;have lN:=(acz.1 n1).1;obtain⟨d141,aaF,abB⟩:=vZ 141;obtain⟨d23,u23,g23⟩:=vZ 23
 have SA:prog.underlying 141=some (.slice 23):=by kernel_rfl
 obtain⟨i3,pZ,mD⟩:=iZ 3 1;obtain⟨i141,X3,YP⟩:=iZ 141 1;obtain⟨i23,M1,Ej⟩:=adZ.1 (show(prog.info? 23).bind (λi=>if i.size=1/\i.bytes<=65536 then i.zero else none)=some (.slice none 0 0) by kernel_rfl)
 have YU:(i23.size=1/\i23.bytes<=65536)/\i23.zero=some (.slice none 0 0):=by
  split at Ej
  .exact⟨by assumption,Ej⟩
  .cases Ej
 obtain⟨⟨HY,Y0⟩,Ej⟩:=YU;have abT:=SP hG (GI:=GI) (ints es) (mw es) (by rw[cy];omega)
 have load:∀{c k a' w' K},L2 a w u v es c k a' w'->(∀a' w',L2 a w u v es true k a' w'->K a' w')->wpOpIn (FR none) m prog ops Q 0 K a' w':=λ{c k a' w' K} h hK=>
  xk h0 q0.2.2 (by rw[q0.1]<;>rfl) (kS (b:=bF) (off:=0) (v:=u) q0.1 ((h.same 4 rfl).trans t4) aaF abB (by simp[World.cell?,(h.below.block bF lF).trans f1])) (by rw[q0.2.1];exact hK _ _ h.load)
 have now:∀{c a' w' K},L2 a w u v es c 0 a' w'->(∀a' w',L2 a w u v es c 1 a' w'->K a' w')->wpOpIn (FR none) m prog ops Q 1 K a' w':=λ{c a' w' K} h hK=>
  xk h1 q1.2.2 (by rw[q1.1]<;>rfl) (kS (b:=bN) (off:=0) (v:=v) q1.1 ((h.same 3 rfl).trans t3) u23 g23 (by simp[World.cell?,(h.below.block bN lN).trans n1])) (by rw[q1.2.1];exact hK _ _ h.now)
 have copy:∀{c a' w' K},L2 a w u v es c 1 a' w'->(∀a' w',L2 a w u v es c 2 a' w'->K a' w')->wpOpIn (FR none) m prog ops Q 2 K a' w':=λ{c a' w' K} h hK=>by
  have hv:a'.tmps.getD 15 undef=v:=h.t15 (acD _)
  have TO:w'.ownsRow (bN+1) 3 1 v es.length xN:=im n2 λb hb=>h.below.block _ (n2.lt b hb).2
  have Bg:RD (λ_ _=>True) w' (.slice .view (ints es)) v:=RD.ofRow (size:=1) (es:=ints es) (by rw[cy];exact TO) (n3.mono (bc.of_eq λ_ _ h=>h.elim)) λ_ _ _ _=>trivial
  refine OG h2 q2.2.2 (by rw[q2.1]<;>rfl) (jr (k:=114) (args:=#[v]) w' q2.1 c2.1 ?_ (by kernel_rfl)) (abT w' (λ_ _=>True) #[v] (hG w w' gm h.below) rfl (λi hi cQ=>by
   match i,hi with
   |0,_=>exact .data _ _ Bg)) ?_
  .rw[c2.2];simp only[ado,ac5,adp];show #[a'.tmps.getD 15 undef]=_;rw[hv]
  intro en w2 hE;obtain⟨hb,cc,rfl,hf⟩:=Hz pZ (by rw[mD];exact tO es) (uS es) hE;refine⟨_,rfl,?_⟩;rw[q2.2.1];exact hK _ _ (h.copy hb hf)
 have row:∀{c a' w' K},L2 a w u v es c 2 a' w'->(∀a' w',L2 a w u v es c 3 a' w'->K a' w')->wpOpIn (FR none) m prog ops Q 3 K a' w':=λ{c a' w' K} h hK=>by
  obtain⟨hi,cP⟩:=h.t16 (acD _);exact xk h3 q3.2.2 (by rw[q3.1]<;>rfl) (Ht q3.1 SA M1 Ej HY rfl (cP.one rfl)) (by rw[q3.2.1];exact hK _ _ h.row)
 have tail:∀{a' w'},L2 a w u v es true 3 a' w'->wpAnyIn (FR none) m prog .any ops Q 2 #[true,true,true,true,false,false] a' w':=λ{a' w'} h=>by
  obtain⟨O6,abo,DH,AY⟩:=h.t17 (acD _);have h14:=h.t14 rfl;have Vx:=h.t16 (by omega)
  have lj:(a'.tmps.getD 16 undef).oneCell'=true:=by
   obtain⟨hi,cP⟩:=Vx;exact cP.one rfl
  have Oe:w'.ownsRow (bF+1) 23 1 u fs.length xF:=im f2 λb hb=>h.below.block _ (f2.lt b hb).2
  have hle:bF+1<=w'.heap.size:=adq lF h.below.size;refine qi rh ?_;obtain⟨u',w2,b',cM,cI,Hh,iF,hor⟩:=He (P:=prog) (t:=141) (ty:=o4.type) SA M1 Ej (by rw[HY]<;>rfl) HY Y0 Oe (by omega) hle (ad:=⟨O6,0,none⟩) (cap:=1) (c:=a'.tmps.getD 16 undef) (by simp[World.cell?,DH]) lj;refine xk (v:=u') (w':=w2) h4 q4.2.2 (by rw[q4.1]<;>rfl) ?_ ?_
  .have e1:a'.eval (.tmp 14)=u:=h14;have e2:a'.eval (.tmp 17)=.slice (some ⟨O6,0,none⟩) 1 1:=abo;unfold execOp;simp[q4.1,c4.1,c4.2.1,c4.2.2,resolve,invoke,builtin,e1,e2,cM]
  rw[q4.2.1];show wpAnyIn (FR none) m prog .any ops Q 1 #[true,true,true,true,true,false] (a'.put (some 18) u') w2;refine qi ri ?_
  have hp:=λt (c:Value)=>ir a' 18 t c (by rw[h.size];omega)
  have uF:u.ownBlock≠some bF:=λe=>by have:=(f2.lt bF e).1;omega
  have ltu:∀b,u.ownBlock=some b->b<w.heap.size:=λb hb=>(f2.lt b hb).2
  have hF2:w2.heap[bF]?=some (.cells #[u] xE (0,0)):=(iF.block bF (adq lF h.below.size) uF).trans ((h.below.block bF lF).trans f1)
  have YO:u'.oneCell'=true:=by
   rcases cI.2 with⟨rfl,_⟩|⟨_,_,_,rfl,_⟩<;>rfl
  refine Of h5 q5.2.2 (by rw[q5.1]<;>rfl) (il q5.1 (by show(a'.put (some 18) u').tmps.getD 4 undef=_;rw[hp,if_neg (by decide)];exact(h.same 4 rfl).trans t4) X3 YP hF2 (by show(a'.put (some 18) u').tmps.getD 18 undef=u';rw[hp,if_pos rfl]) YO) ?_;rw[q5.2.1];refine⟨rj,?_⟩;obtain⟨hi,cP⟩:=Vx
  have Q9:∀b,b<w.heap.size->b<w'.heap.size:=λb hb=>adq hb h.below.size
  have sz2:w'.heap.size<=w2.heap.size:=iF.size
  have YH:(w2.setRow bF #[u']).heap.size=w2.heap.size:=by simp
  have old:∀b,b<w'.heap.size->b≠bF->u.ownBlock≠some b->(w2.setRow bF #[u']).heap[b]?=w'.heap[b]?:=λb hb h1 h2=>(adL w2 bF b #[u'] h1).trans (iF.block b hb h2)
  have Nx:∀b,b<w.heap.size->b≠bF->u.ownBlock≠some b->(w2.setRow bF #[u']).heap[b]?=w.heap[b]?:=λb hb h1 h2=>(old b (Q9 b hb) h1 h2).trans (h.below.block b hb)
  have bF':b'≠bF:=λe=>by have:=(cI.lt b' Hh).1;omega
  refine hk (a'.put (some 18) u') (w2.setRow bF #[u']) (λb k=>Mi b k\/((w.heap.size<=b/\b<w'.heap.size)/\k<hi b)) (by simp[Act.put,h.size]) h.defers (A4 h.same (by omega) _) (λb k hm=>.inl hm) ?_
  have SU:bc Mi (λb k=>Mi b k\/((w.heap.size<=b/\b<w'.heap.size)/\k<hi b)) w (w2.setRow bF #[u']):=bc.of_eq λb k hm=>⟨.inl hm,Nx b (st.lt b k hm) (λe=>st.gF k (e▸hm)) λe=>(f4 b e).2 k hm⟩
  refine⟨?_,st.ge,?_,?_,?_,⟨u',xE,xF++[a'.tmps.getD 16 undef],v,Cs,xN,aer w2 bF _ #[u'] xE (0,0) hF2,?_,⟨Je _,?_⟩,?_,?_,?_,?_,?_⟩,st.s.mono SU λ_ _ h=>h,st.r.mono SU λ_ _ h=>h⟩
  .have b1:=st.below.trans (h.below.mono st.below.size);have b2:=b1.trans (iF.below b1.size λb hb=>adD st.ge.1 (agy (f2.lt b hb).1));refine b2.trans ⟨rfl,rfl,rfl,by rw[YH];exact acD _,λk hk=>adL w2 bF k #[u'] λe=>?_⟩;have:=st.ge.1;omega
  .rintro b k (hm|hm)
   .rw[YH];exact adq (Q9 b (st.lt b k hm)) sz2
   .rw[YH];exact adq hm.1.2 sz2
  .rintro k (hm|hm)
   .exact st.gF k hm
   .have:=hm.1.1;omega
  .rintro k (hm|hm)
   .exact st.gN k hm
   .have:=hm.1.1;omega
  .have e:(fs++[es]).length=fs.length+1:=by simp
   rw[e]
   exact im cI λb hb=>adL w2 bF b #[u'] λe=>bF' (by rw[Hh]at hb;cases hb;exact e)
  .intro j hj k yb
   have yA:xF.length=fs.length:=by have:=f2.1;simpa using this
   have Bz:k=0:=by
    have h1:=(Je (fs++[es]) _ (acy hj)).1;omega
   subst Bz;rw[adY,Nat.add_zero]
   by_cases o_:j<fs.length
   .have dH:j<(fs.map vI).length:=by simpa using o_
    have ib:((fs++[es]).map vI)[j]=(fs.map vI)[j]:=by
     rw[acM,acM,ac9 o_]
    obtain⟨x,x1,x2⟩:=f3.2 j dH 0 (by rw[<-ib];exact yb);rw[adY,Nat.add_zero]at x1;refine⟨x,by rw[adB (by omega)];exact x1,?_⟩;simp only[ib];exact x2.mono (bc.of_eq λb k hm=>⟨⟨.inl hm.1,hm.2⟩,Nx b (st.lt b k hm.1) (λe=>st.gF k (e▸hm.1)) λe=>(f4 b e).2 k hm.1⟩)
   .have Bw:j=fs.length:=by simp at hj;omega
    subst Bw;refine⟨a'.tmps.getD 16 undef,by rw[<-yA];simp,?_⟩
    have ib:((fs++[es]).map vI)[fs.length]=vI es:=by simp
    simp only[ib];exact cP.mono (bc.of_eq λb k hm=>⟨⟨.inr hm,adD st.below.size hm.1.1⟩,old b hm.1.2 (λe=>by have:=hm.1.1;omega) λe=>by have:=ltu b e;have:=hm.1.1;omega⟩)
  .intro b hb;rw[Hh]at hb;cases hb;rcases hor with ho|ho
   .refine⟨(f4 b' ho).1,?_⟩;rintro k (hm|hm)
    .exact(f4 b' ho).2 k hm
    .have:=ltu b' ho;have:=hm.1.1;omega
   .refine⟨λe=>by have:=Q9 bN lN;omega,?_⟩;rintro k (hm|hm)
    .have:=Q9 b' (st.lt b' k hm);omega
    .have:=hm.1.2;omega
  .exact(Nx bN lN (λe=>st.ge.2.2 e.symm) λe=>(f4 bN e).1 rfl).trans n1
  .exact im n2 λb hb=>Nx b (n2.lt b hb).2 (n4 b hb).1 (n4 b hb).2.1
  .exact n3.mono (bc.of_eq λ_ _ h=>h.elim)
  .intro b hb;refine⟨(n4 b hb).1,λe=>?_,?_⟩
   .rw[Hh]at e;cases e;rcases hor with ho|ho
    .exact(n4 b' hb).2.1 ho
    .have:=Q9 b' (n2.lt b' hb).2;omega
   .rintro k (hm|hm)
    .exact(n4 b hb).2.2 k hm
    .have:=(n2.lt b hb).2;have:=hm.1.1;omega
 have s3:∀{a' w'},L2 a w u v es true 3 a' w'->wpAnyIn (FR none) m prog .any ops Q 2 #[true,true,true,true,false,false] a' w':=tail
 have s2:∀{a' w'},L2 a w u v es true 2 a' w'->wpAnyIn (FR none) m prog .any ops Q 3 #[true,true,true,false,false,false] a' w':=λh=>qi rf (row h λ_ _ h=>s3 h)
 have s1:∀{a' w'},L2 a w u v es true 1 a' w'->wpAnyIn (FR none) m prog .any ops Q 4 #[true,true,false,false,false,false] a' w':=λh=>qi rd (copy h λ_ _ h=>s2 h)
 have p3:∀{a' w'},L2 a w u v es false 3 a' w'->wpAnyIn (FR none) m prog .any ops Q 3 #[false,true,true,true,false,false] a' w':=λh=>qi rg (load h λ_ _ h=>s3 h)
 have p2:∀{a' w'},L2 a w u v es false 2 a' w'->wpAnyIn (FR none) m prog .any ops Q 4 #[false,true,true,false,false,false] a' w':=λh=>AU re (load h λ_ _ h=>s2 h) (row h λ_ _ h=>p3 h)
 have p1:∀{a' w'},L2 a w u v es false 1 a' w'->wpAnyIn (FR none) m prog .any ops Q 5 #[false,true,false,false,false,false] a' w':=λh=>AU rc (load h λ_ _ h=>s1 h) (copy h λ_ _ h=>p2 h)
 have s0:∀{a' w'},L2 a w u v es true 0 a' w'->wpAnyIn (FR none) m prog .any ops Q 5 #[true,false,false,false,false,false] a' w':=λh=>qi rb (now h λ_ _ h=>s1 h)
 refine aex dO ?_;rw[r0];show wpAnyIn (FR none) m prog .any ops Q 6 #[false,false,false,false,false,false] a { w with drawn:=w.drawn+1 }
 have hL0:L2 a w u v es false 0 a { w with drawn:=w.drawn+1 }:=⟨bg,ee,dZ.refl _ _,⟨rfl,rfl,rfl,acD _,λ_ _=>rfl⟩,(λh=>by cases h),λh=>by omega,λh=>by omega,λh=>by omega⟩
 exact AU ra (load hL0 λ_ _ h=>s0 h) (now hL0 λ_ _ h=>p1 h)
end
end Go.Proofs.Tryz
namespace Go.Proofs.Tryz
open Go Go.AL Go.RowKit Go.Proofs Go.Proofs.Tram
attribute [local simp] dP fu qw pn eL dV dW du dp eJ dq cU gG gD aG aD ev aQ.S aQ.H bG au aY AL.start AV.cells AV.storable AV.bZ bu bQ eF b0 HR.okB post cL dc db AV.out AV.bW cy dK fz gM AV.vw da vI int bO aO dE dj iJ jF eo dG bt AV.aH AV.cT
variable{GI:World->Prop}
def abw(n:Int):Prop:=0<=n/\n<100
def Yf(l:List Int):Prop:=∀n∈l,abw n
def Wt(hG:aw GI)(l:List Int)(h0:l≠[])(hl:l.length<1000)(h:Yf l):AC prog GI 279 [vI l] (.ret (.slice (.own 9) ((l.map mG).map .str))):=by
 refine AC.jw func279 rfl ntmps279 (by simp) λcc w=>?_
 refine eV hG c279.qa (λS' H'=>S' 0=vI l) (by simp[c279,af.qa,ai,ah]) ?_;rintro S1 H1 s0;refine eV hG c279.qb.qa (λS' H'=>S' 0=vI l/\S' 3=.slice .nil []) (by simp[c279,af.qa,af.qb,s0,ai,ah]) ?_;rintro S2 H2 ⟨s0,s3⟩;refine eV hG c279.qb.qb.qa (λS' H'=>S' 3=grow 9 ((l.map mG).map AV.str)) ?_ ?_
 .simp[c279,af.qa,af.qb,s0,s3,ai,ah];refine bC 8 l.length (λi S H=>S 6=vI l/\S 7=.int .i64 (l.length:Nat)/\S 8=.int .i64 (i:Nat)/\S 3=grow 9 (((l.take i).map mG).map AV.str)) (λi S H h=>h.2.2.1) ⟨by simp[s0,ai,ah],by simp[s0,ai,ah],by simp[ai,ah],by simp[s3,grow,ai,ah]⟩ ?_;clear s0 s3;rintro i hi S H ⟨s6,s7,s8,s3⟩
  by_cases av:i<l.length
  case neg=>
   have cN:i=l.length:=by omega
   subst cN;rw[acQ (acD _)]at s3;simp[s6,s7,s8,s3,grow,h0,ai,ah]
  have hw:IntKind.i64.wrap ((i:Int)+1)=i+1:=aP (by omega);have hn:=h _ (acy av);have a157:=Aq (GI:=GI) hn.1 hn.2
  have ht:(l.take (i+1)).map mG=(l.take i).map mG++[mG l[i]]:=by
   rw[acL av,ada]<;>rfl
  have hlen:((l.take i).map mG).length<=1000:=by simp;omega
  rw[ht]
  generalize(l.take i).map mG=B at*
  generalize mG l[i]=t at*
  have dI:aJ 1 [AV.str t]=true:=rfl;simp[s6,s7,s8,s3,av];refine oc a157 ?_;simp[s6,s7,s8,s3,dI];refine fk (B.map AV.str) (AV.str t) (.own 9) (by simp[s3,grow]) (by simp) dI (Pt B) (by rw[acC];omega) ?_;intro S' sd dN;simp[sd,dN,s6,s7,s8,av,hw,grow]
 clear s0 s3;rintro S3 H3 s3
 have hg:grow 9 ((l.map mG).map AV.str)=.slice (.own 9) ((l.map mG).map AV.str):=by unfold grow;rw[if_neg (by simpa using h0)]
 rw[hg]at s3;generalize(l.map mG).map AV.str=L at s3⊢;show SW prog GI 19 none (.seq (.region _ _ false) .ret) _ _ _ _
 refine SW.seq (SW.hand hG (p:=0) (lm:=[0,1]) (l2:=[]) (js:=[]) (oh:=[_,_]) (lv:=[]) rfl rfl rfl rfl (by kernel_rfl) (λ_ h=>h) (lO:=[]) (lu:=[]) rfl rfl rfl rfl
  (K1:=λS H=>S 3=.slice (.own 9) L) (K2:=λo S H=>o=Old.plain cc w/\S 2=.slice (.own 9) L) (K3:=λo S H=>o=Old.plain cc w/\S 2=.slice (.own 9) L) ?_ ?_ ?_ ?_)
 .exact s3
 .rintro w0 g S H a w' m cj ho R s6;have r6:=R.slot 3 (by decide) (λh=>h);rw[s6]at r6;have bg:=R.size
  obtain⟨c,hc⟩:∃c,a.tmps.getD 3 undef=c:=⟨_,rfl⟩
  rw[hc]at r6;have rv:RD g.Pr w' (.slice .view L) c:=(r6.dL rfl).aH;refine aV rfl rfl (by rfl) ((run_move (x:=.tmp 3) w' rfl).trans (congrArg (λv=>Result.ok (Next.value v) w') hc)) ?_;have R1:=R.put 18 (.slice .view L) c (by decide) (.data _ _ rv) trivial
  have vi:(a.put (some 18) c).tmps.getD 18 undef=c:=by simp[Act.put,bg]
  refine aV rfl rfl (by rfl) ((run_assign (x:=.tmp 18) w' rfl).trans (congrArg (λv=>Result.ok (Next.value v) w') vi)) ?_;have R2:=R1.put 2 (.slice .view L) c (by decide) (.data _ _ rv) trivial
  have e4:((a.put (some 18) c).put (some 2) c).tmps.getD 2 undef=c:=by simp[Act.put,bg]
  have e6:((a.put (some 18) c).put (some 2) c).tmps.getD 3 undef=a.tmps.getD 3 undef:=by simp[Act.put,acB]
  obtain⟨g',q1,R3⟩:=R2.NI (t:=3) (u:=2) (e:=9) (es:=L) (by decide) (by decide) (by decide) (by simp[au,s6]) (by rw[e4,e6,hc]);exact⟨g',_,_,R3,by rw[q1];exact ho,aK _ _ _⟩
 .rintro o S H ⟨rfl,s4⟩;exact⟨λ_ h=>h,rfl,s4⟩
 .rintro o S H ⟨rfl,s4⟩;refine SW.ret ⟨eA.plain rfl,rfl,_,?_,rfl⟩;show cL prog 19 [.tmp 2] S H=_;simp[cL,dc,db,s4,AV.bW,AV.out]
end Go.Proofs.Tryz
namespace Go.Proofs.YtdiflocclemeaaaGreatDoor
open Go Go.AL Go.ChangeShapes Go.WideShapes Go.ChangeAt Go.RowKit Go.Proofs.Tryz
def FP:mapsRowed Tryz.prog=true:=by kernel_rfl
def RL:(Tryz.prog.stops==[])=true:=by kernel_rfl
def G':(Tryz.prog.stopKnobs==[])=true:=by kernel_rfl
def Fg:Tryz.prog.plainKeys=false:=by kernel_rfl
def DB:Tryz.prog.stopsHeard=true:=by kernel_rfl
def RB:true=Tryz.prog.looks []:=by kernel_rfl
def Ka {f:FuncId} {fn:Func} {s:ChangeSpec} {c:OpenClaim}
  (h0:c.stops=[]/\c.knobs=[]/\c.plainKeys=false/\c.shortTexts=none/\c.lifted=false/\c.make=.cut)
  (h1:c.wf (OpenSpec.ofChange s)=true) (h2:fn.params.all (Tryz.prog.readableRec ·)=true) (h3:namedTie Tryz.prog c.named s.vars=true)
  (h4:(c.inPlace==Tryz.prog.inPlace f)=true) (h5:(c.unfollowed==Tryz.prog.unfollowed f)=true) (h6:(c.recurses==Tryz.prog.recurses f)=true) (h7:(c.named==Tryz.prog.varsNamed f)=true)
  (h8:((c.maps==(fn.params.toList++s.plain.varTypes Tryz.prog).any (Tryz.prog.mapsRec ·))&&(c.ifaces==(fn.params.toList++s.plain.varTypes Tryz.prog).any (Tryz.prog.ifacesRec ·))&&(c.mapsOut==Tryz.prog.mapsAmong fn.resultTypes.toList)&&
   (c.loops==(fn.params.toList++s.plain.varTypes Tryz.prog).any (Tryz.prog.loopsFrom ·))&&(c.wideKeys==(fn.params.toList++s.plain.varTypes Tryz.prog++fn.resultTypes.toList).any (Tryz.prog.wideKeysFrom ·))&&
   s.vars.all (Tryz.prog.varReadable ·)&&fn.resultTypes.all (λt=>Tryz.prog.readableRec t&&decide (t<Tryz.prog.types.size))&&(c.ifacesOut==fn.resultTypes.toList.any (Tryz.prog.ifacesRec ·))&&(c.loopsOut==fn.resultTypes.toList.any (Tryz.prog.loopsFrom ·)))=true)
  (h9:(c.kinds==(if c.domain.isEmpty then[]else fn.params.toList.map λt=>match Tryz.prog.underlying t with|some (.int k)=>some k|_=>none))=true) (qI:(c.pinned==c.pinnedBy)=true)
  (RS:((c.veiled==(fn.params.toList++s.plain.varTypes Tryz.prog++fn.resultTypes.toList).any (Tryz.prog.veiledRec ·))&&c.veiledFits Tryz.prog fn.params.toList (fn.params.toList++s.plain.varTypes Tryz.prog++fn.resultTypes.toList))=true):
  joinedFacts Tryz.prog f fn s c=true:=by
 obtain⟨a1,a2,a3,a4,a5,a6⟩:=h0;unfold joinedFacts;simp only[acA]at h8 RS⊢;obtain⟨⟨⟨⟨⟨⟨⟨⟨b1,b2⟩,b3⟩,b4⟩,b5⟩,b6⟩,b7⟩,b8⟩,b9⟩:=h8;refine⟨⟨⟨⟨⟨⟨⟨⟨⟨⟨⟨⟨⟨⟨⟨⟨⟨⟨⟨⟨⟨⟨⟨⟨⟨⟨⟨⟨⟨⟨⟨h1,DZ⟩,FP⟩,h2⟩,h3⟩,?_⟩,RL⟩,?_⟩,G'⟩,h4⟩,h5⟩,h6⟩,h7⟩,b1⟩,b2⟩,b3⟩,b4⟩,b5⟩,b6⟩,b7⟩,b8⟩,b9⟩,?_⟩,?_⟩,DB⟩,HA⟩,?_⟩,?_⟩,h9⟩,qI⟩,RS.1⟩,RS.2⟩
 .rw[a1];rfl
 .rw[a2];rfl
 .rw[a3,Fg];rfl
 .rw[a4];rfl
 .rw[a5,C6];rfl
 .rw[T3,a6];rfl
def Ob {G:World→Prop} {f:Nat} {U0:List AV} {W:World} {args:Array Value} (h:AC Tryz.prog G f U0 (.ret (.bool true))) (hG:G W) (hl:U0.length=args.size) (hr:∀ i (h:i < U0.length) (h':i < args.size),RV T0 (fun _=>none) W U0[i] args[i]) :
  Calls Tryz.prog f args W λe W'=>e=.returned (.bool true)/\Below W.heap.size W W':=by
 refine(h W T0 args hG hl hr).mono ?_;rintro e W' ⟨hb,hi,_,c,rfl,hv,_⟩
 cases hv with
 |data _ _ h=>cases h with
  |bool b=>exact⟨rfl,hb⟩
end Go.Proofs.YtdiflocclemeaaaGreatDoor
namespace Go.Proofs.Tryz
open Go Go.AL Go.RowKit Go.Proofs Go.Proofs.Tram
attribute [local simp] dP fu fb eu eL dV dW du dp eJ dq cU gG gD aG aD ev aQ.S aQ.H bG au aY AL.start AV.cells AV.storable AV.bZ bu bQ eF b0 HR.okB post cL dc db AV.out AV.bW cy dK fz gM AV.vw da vI int bO aO dE dj iJ jF eo dG bt AV.aH AV.cT
def bS:aF:=⟨[6,4,8],[⟨0,1,1,3⟩,⟨2,0,0,2⟩],2,4,5,8,3,[⟨[2,0,1],[],false⟩,⟨[0,2],[1],true⟩],18,2⟩
variable{GI:World->Prop}
def GL(hG:aw GI)(a b:Int):AC prog GI 182 [.int .i64 a,.int .i64 b] (.ret (a_ (a,b))):=by
 obtain⟨i33,Sk,Q7⟩:=iZ 26 2;obtain⟨fs,gv⟩:=uZ 26;refine cE hG func182 ntmps182 c182 ?_;simp[c182,Sk,Q7,gv,eh,a_,bV]
def YW(hG:aw GI):AC prog GI 134 [] (.ret (bU { bS with wide:=21 })):=by
 obtain⟨i36,qu,qD⟩:=iZ 29 10;obtain⟨fs,gv⟩:=uZ 29;refine cE hG func134 ntmps134 c134 ?_;simp[c134,aJ];refine oc (GL hG 1 3) ?_;simp[a_,bV,aJ];refine oc (GL hG 0 2) ?_;simp[a_,bV,aJ];refine oc (GL hG 2 4) ?_;simp[a_,bV,aJ];refine oc (GL hG 5 8) ?_;simp[a_,bV,aJ,qu,qD,gv,eh,bU,ae,bS,cZ,eb,ints]
end Go.Proofs.Tryz
namespace Go.Proofs.Tryz
open Go Go.AL Go.RowKit Go.Proofs Go.Proofs.Tram
attribute [local simp] dP fu fb eu eL dV dW du dp eJ dq cU gG gD aG aD ev aQ.S aQ.H bG au aY AL.start AV.cells AV.storable AV.bZ bu bQ eF b0 HR.okB post cL dc db AV.out AV.bW cy dK fz gM AV.vw da vI int bO aO dE dj iJ jF eo dG bt AV.aH AV.cT
variable{GI:World->Prop}
def ln:az:=⟨[⟨2,3,false⟩,⟨2,2,false⟩,⟨1,2,true⟩,⟨3,4,false⟩,⟨2,5,false⟩,⟨1,1,false⟩],6,5,2,1,{ bS with wide:=21 }⟩
def AE:az:={ ln with eW:=1 }
def vA:az:={ ln with name:=⟨[5],[],0,0,0,0,1,[⟨[0,0,0,0],[1,3],false⟩],16,2⟩ }
def E_:tR vA=[vI [9],.int .i64 0]:=by kernel_rfl
def Fh:EU ln=[.slice .view (aS [(1,1),(3,5)]),.int .i64 0]:=by kernel_rfl
def IH:uH ln [3,2,2,4,5,1]=[.int .i64 2,.int .i64 0]:=by kernel_rfl
def Hr:nU 0 ln=[.int .i64 1,.int .i64 0]:=by kernel_rfl
def IG:nU 1 vA=[.int .i64 1,.int .i64 0]:=by kernel_rfl
def Hf:qP ln 1=[.int .i64 2,.int .i64 0]:=by kernel_rfl
def JE:sF ln=[.int .i64 1,.int .i64 4,.int .i64 0]:=by kernel_rfl
def L4:DW AE=[.int .i64 3,.int .i64 0]:=by kernel_rfl
def Hn:ve ln=[.int .i64 1,.int .i64 0]:=by kernel_rfl
def IU:vu AE=[.int .i64 4,.int .i64 2,.int .i64 0]:=by kernel_rfl
def rm:gh ln:=⟨by decide,by decide,by decide,by decide,λw hw=>by
 simp[ln,bS]at hw;rcases hw with rfl|rfl<;>decide,λw hw=>by
 simp[ln,bS]at hw;rcases hw with rfl|rfl<;>decide⟩
def QZ:gh AE:=⟨rm.cells,rm.name⟩
def Rs:gh vA:=⟨by decide,by decide,by decide,by decide,λw hw=>by
 simp[vA]at hw;subst hw;decide,λw hw=>by
 simp[vA]at hw;subst hw;decide⟩
def yk(hG:aw GI)(lo hi:Int)(hid:Bool):AC prog GI 133 [.int .i64 lo,.int .i64 hi,.bool hid] (.ret (fo ⟨lo,hi,hid⟩)):=by
 obtain⟨i52,B5,vC⟩:=iZ 52 3;obtain⟨fs,gv⟩:=uZ 52;refine cE hG func133 ntmps133 c133 ?_;simp[c133,B5,vC,gv,eh,fo,bV]
def tA:∃it,prog.info? 31=some it/\it.size=15:=AJ (by kernel_rfl)
def Su(hG:aw GI):AC prog GI 74 [] (.ret (bn ln)):=by
 obtain⟨i31,oU,o8⟩:=tA;obtain⟨fs,gv⟩:=uZ 31;refine cE hG func74 ntmps74 c74 ?_;simp[c74];refine oc (yk hG 2 3 false) ?_;simp[fo];refine oc (yk hG 2 2 false) ?_;simp[fo];refine oc (yk hG 1 2 true) ?_;simp[fo];refine oc (yk hG 3 4 false) ?_;simp[fo];refine oc (yk hG 2 5 false) ?_;simp[fo];refine oc (yk hG 1 1 false) ?_;simp[fo,aJ];refine oc (YW hG) ?_;simp[fo,aJ,bV,oU,o8,gv,eh,bn,ar,bU,ae,ln]
def ab5(hG:aw GI)(s:az)(p:Int):AC prog GI 51 [bn s,.int .i64 p] (.ret (bn { s with eW:=p })):=by
 obtain⟨i31,oU,o8⟩:=tA;obtain⟨fs,gv⟩:=uZ 31;refine cE hG func51 ntmps51 c51 ?_;simp[c51,bn,ar,ae,oU,o8,gv,eh,bV]
def abN(hG:aw GI):AC prog GI 75 [] (.ret (bn AE)):=by
 obtain⟨i31,oU,o8⟩:=tA;obtain⟨fs,gv⟩:=uZ 31;have h:=ab5 hG ln 1;refine cE hG func75 ntmps75 c75 ?_;simp[c75];refine oc (Su hG) ?_;simp[bn,ar,ae];refine oc h ?_;simp[oU,o8,gv,eh,bV,bn,ar,ae,AE]
def abE(hG:aw GI):AC prog GI 73 [] (.ret (bn vA)):=by
 obtain⟨i31,oU,o8⟩:=tA;obtain⟨fs,gv⟩:=uZ 31;refine cE hG func73 ntmps73 c73 ?_;simp[c73];refine oc (Su hG) ?_;simp[oU,o8,gv,eh,bV,aJ,bn,ar,ae,vA,cZ,ints]
end Go.Proofs.Tryz
namespace Go.Proofs.Tryz
open Go Go.AL Go.RowKit Go.Proofs Go.Proofs.Tram
attribute [local simp] dP fu fb eu eL dV dW du dp eJ dq cU gG gD aG aD ev aQ.S aQ.H bG au aY AL.start AV.cells AV.storable AV.bZ bu bQ eF b0 HR.okB post cL dc db AV.out AV.bW cy dK fz gM AV.vw da vI int bO aO dE dj iJ jF eo dG bt
variable{GI:World->Prop}
def j6(s:az)(out:List Int):az:={ s with name:=D2 s.name out }
def Oj{s:az}(hs:dQ s=true){l:List Int}(ho:fQ s.name l=true):dQ (j6 s l)=true:=by
 unfold dQ at hs⊢;rw[acA]at hs⊢;exact⟨hs.1,Hy hs.2 ho⟩
def y8(s:az)(l:List Word):List AV:=[.slice .view (s.cells.map fo),.int .i64 s.pos,.int .i64 s.reach,.int .i64 s.eW,.int .i64 s.dS,vI s.name.bp,.slice .view (s.name.aW.map eb),.int .i64 s.name.jM,.int .i64 s.name.jN,.int .i64 s.name.nK,.int .i64 s.name.nL,.int .i64 s.name.dn,grow 44 (l.map cZ),.int .i64 s.name.wide,.int .i64 s.name.rows]
def LY(l:List Word):aJ 3 (l.map cZ)=true:=iK λa=>⟨rfl,rfl⟩
def Zd(hG:aw GI)(s:az)(hl:s.name.words.length<1000)(out:List Int)(ho:out.length<1000000):AC prog GI 160 [bn s,vI out] (.ret (bn (j6 s out))):=by
 obtain⟨it,oU,o8⟩:=tA;obtain⟨fs,gv⟩:=uZ 31
 have aaT:=λi:Nat=>Ky (GI:=GI) hG out ho (i:Int)
 refine cE hG func160 ntmps160 c160 ?_;refine aI (λS H=>S 1=vI out/\S 2=.box 2 0/\H 2=some (ar s)/\S 4=.box 4 0/\∃z,H 4=some z/\z.length=15) (by simp[bn,ar,ae,AV.aH,AV.cT]) ?_;rintro S H ⟨s1,s2,h2,s4,z,h4,hz⟩;refine aI (λS H=>S 1=vI out/\S 2=.box 2 0/\H 2=some (ar s)/\S 4=.box 4 0/\H 4=some z/\S 5=.box 5 0/\H 5=some (ar s)) (by simp[s1,s2,h2,s4,h4,ar,ae,AV.aH,AV.cT]) ?_;clear s1 s2 h2 s4 h4 S H;rintro S H ⟨s1,s2,h2,s4,h4,s5,h5⟩;refine aI (λS H=>S 1=vI out/\S 2=.box 2 0/\H 2=some (ar s)/\S 4=.box 4 0/\H 4=some z/\S 5=.box 5 0/\H 5=some (y8 s [])) (by simp[s1,s2,h2,s4,h4,s5,h5,ar,ae,y8,grow,AV.aH,AV.cT]) ?_;clear s1 s2 h2 s4 h4 s5 h5 S H;rintro S H ⟨s1,s2,h2,s4,h4,s5,h5⟩;refine aI (λS H=>S 4=.box 4 0/\H 4=some z/\S 5=.box 5 0/\H 5=some (y8 s (j7 out 0 s.name.words))) ?_ ?_
 .simp[s1,s2,h2,s4,h4,s5,h5,ar,ae,AV.aH,AV.cT];refine bC 15 s.name.words.length (λi S H=>S 1=vI out/\S 13=.slice .view (s.name.words.map cZ)/\S 14=.int .i64 s.name.words.length/\S 4=.box 4 0/\H 4=some z/\S 5=.box 5 0/\H 5=some (y8 s (j7 out 0 (s.name.words.take i)))/\S 15=.int .i64 (i:Nat)) (λi S H h=>h.2.2.2.2.2.2.2) ⟨by simp[s1,AV.aH,AV.cT],by simp[s1,h2,ar,ae,AV.aH,AV.cT],by simp[s1,h2,ar,ae,AV.aH,AV.cT],by simp[s4,AV.aH,AV.cT],by simp[h4,AV.aH,AV.cT],by simp[s5,AV.aH,AV.cT],by simp[h5,j7,AV.aH,AV.cT],by simp[AV.aH,AV.cT]⟩ ?_;clear s1 s2 h2 s4 h4 s5 h5 S H;rintro i hi S H ⟨s1,dw,er,s4,h4,s5,h5,jA⟩
  by_cases av:i<s.name.words.length
  case neg=>
   have cN:i=s.name.words.length:=by omega
   subst cN;rw[acQ (acD _)]at h5;simp[s1,dw,er,s4,h4,s5,h5,jA,AV.aH,AV.cT]
  have hw:IntKind.i64.wrap ((i:Int)+1)=i+1:=aP (by omega);have fx:=Kq out av;have hle:=tJ out (s.name.words.take i) 0
  have zd:(j7 out 0 (s.name.words.take i)).length<1000:=by rw[adf]at hle;omega
  obtain⟨wd,rA⟩:∃wd,s.name.words[i]=wd:=⟨_,rfl⟩
  have a198:=aaT i;rw[fx]
  generalize j7 out 0 (s.name.words.take i)=L at*
  refine aI (λS H=>S 1=vI out/\S 13=.slice .view (s.name.words.map cZ)/\S 14=.int .i64 s.name.words.length/\S 4=.box 4 0/\H 4=some z/\S 5=.box 5 0/\H 5=some (y8 s L)/\S 15=.int .i64 (i:Nat)/\S 16=.bool true) (by simp[s1,dw,er,s4,h4,s5,h5,jA,av,AV.aH,AV.cT]) ?_;clear s1 dw er s4 h4 s5 h5 jA S H;rintro S H ⟨s1,dw,er,s4,h4,s5,h5,jA,fL⟩
  cases hc:out.contains (i:Int)with
  |true=>
   rw[hc]at a198;simp[s1,dw,er,s4,h4,s5,h5,jA,fL,av,rA,cZ,AV.aH,AV.cT];refine oc a198 ?_;simp[s1,dw,er,s4,h4,s5,h5,jA,fL,av,rA,cZ,hw,AV.aH,AV.cT]
  |false=>
   rw[hc]at a198;simp[s1,dw,er,s4,h4,s5,h5,jA,fL,av,rA,cZ,AV.aH,AV.cT];refine oc a198 ?_;have b_:=LY L
   have hL:(L.map cZ).length<1000:=by simpa using zd
   have e1:(L++[s.name.words[i]]).map cZ=L.map cZ++[cZ wd]:=by rw[ada,rA]<;>rfl
   have k3:aJ 3 [AV.agg [.slice .view (ints wd.aM),.slice .view (ints wd.cd),.bool wd.free]]=true:=rfl;simp only[rA]at e1;simp[y8,e1];unfold y8 at h5
   generalize L.map cZ=M at*
   cases M with
   |nil=>
    have tZ:grow 44 []=.slice .nil []:=rfl;simp[s1,dw,er,s4,h4,s5,h5,jA,fL,av,rA,tZ,hw,k3,cZ,AV.aH,AV.cT]
    try rfl
   |cons y M=>
    have tZ:grow 44 (y::M)=.slice (.own 44) (y::M):=rfl
    have PA:∀z,grow 44 (y::(M++[z]))=.slice (.own 44) (y::(M++[z])):=λ_=>rfl
    have uW:M.length+1+1<1048576:=by simp at hL;omega
    simp[s1,dw,er,s4,h4,s5,h5,jA,fL,av,rA,tZ,PA,hw,k3,b_,uW,cZ,AV.aH,AV.cT]
 .clear s1 s2 h2 s4 h4 s5 h5 S H;rintro S H ⟨s4,h4,s5,h5⟩;have P9:List.drop 15 z=[]:=adU (by omega);unfold y8 at h5;simp[s4,h4,s5,h5,hz,P9,oU,o8,gv,eh,SV,SC,Bc];simp[bn,ar,ae,j6,D2,vI,ints]
end Go.Proofs.Tryz
namespace Go.Proofs.Tryz
open Go Go.AL Go.RowKit Go.Proofs Go.Proofs.Tram
attribute [local simp] dP fu fb eu eL dV dW du dp eJ dq cU gG gD aG aD ev aQ.S aQ.H bG au aY AL.start AV.cells AV.storable AV.bZ bu bQ eF b0 HR.okB post cL dc db AV.out AV.bW cy dK fz gM AV.vw da vI int bO aO dE dj iJ jF eo dG bt AV.aH AV.cT
variable{GI:World->Prop}
section
variable{w0:World}{n:Nat}{g:Gh}{S:an}{H:aq}{a:Act}{w:World}{d:Nat}
def Ov{k:Nat->Option Obj}{b:Nat}(o:Option Obj)(h:k b=none):au (au k b o) b none=k:=by
 funext c
 by_cases hc:c=b
 .subst hc;simp[au,h]
 .simp[au,hc]
def vQ {k:Nat} {us:Array Value} (kh:ef prog k=true) (R:Rel prog w0 n bz g S H a w) {X:an→aq→Prop}
  (hc:∀g1 w1,Rel prog w0 n bz g1 S H a w1->g1.old={ g.old with aR:=au g.old.aR w.heap.size (some (.cells #[.int .i64 0] 34)) }->Below w.heap.size w w1->w1=w.alloc (.cells #[.int .i64 0] 34)->
   Calls prog k us w1 λe w2=>e=.returned (.tuple #[])/\∃(c:Value)(g':Gh)(S':an)(H':aq),g'.old=g1.old/\Rel prog w0 n bz g' S' H' (a.put (some d) c) w2/\X S' H'):
  Calls prog 119 #[.func (.func k) #[] us] w λe w2=>e=.returned (.int .i64 0)/\∃(c:Value)(g':Gh)(S':an)(H':aq),g'.old=g.old/\Rel prog w0 n bz g' S' H' (a.put (some d) c) w2/\X S' H':=by
 have R1:=R.nn (.cells #[.int .i64 0] 34);have uz:=rO R;refine lI kh (hc _ _ R1 rfl ((adA _ _).alloc (acD _) _) rfl) ?_;rintro e w2 ⟨rfl,c,g',S',H',ho,R2,hX⟩
 have hk:g'.old.aR w.heap.size=some (.cells #[.int .i64 0] 34):=by rw[ho];exact aK _ _ _
 have jD:=(R2.kept _ _ hk).2.1;have av:=(acz.1 jD).1;refine⟨av,⟨_,_,jD⟩,.inl ⟨_,rfl,rfl,c,_,S',H',?_,(R2.tN w.heap.size).jR ?_,hX⟩⟩
 .show({ g'.old with aR:=au g'.old.aR w.heap.size none }:Old)=_;rw[ho];show({ g.old with aR:=au (au g.old.aR w.heap.size (some (.cells #[.int .i64 0] 34))) w.heap.size none }:Old)=_;rw[Ov _ uz]
 .refine⟨rfl,rfl,rfl,by simp,λk dN=>?_⟩
  by_cases hb:k=w.heap.size
  .subst hb;rw[aer w2 _ _ _ _ _ jD,jD]
  .exact adL w2 _ k _ hb
def JZ {k:Nat} {us:Array Value} (kh:ef prog k=true) (R:Rel prog w0 n bz g S H a w) {r:Int}
  (hc:∀g1 w1,Rel prog w0 n bz g1 S H a w1->Below w.heap.size w w1->w1=w.alloc (.cells #[.int .i64 0] 34)->
   Calls prog k us w1 λe w2=>Below w1.heap.size w1 w2/\((r=7/\∃n,e=.panicked [{ v:=.iface 192 (.agg #[.int .i64 n]),recovered:=false }])\/(r=4/\∃s:List UInt8,e=.panicked [{ v:=.iface 203 (.agg #[.string ⟨s.toArray⟩]),recovered:=false }]))):
  Calls prog 119 #[.func (.func k) #[] us] w λe w2=>e=.returned (.int .i64 r)/\∃g',g'.old=g.old/\Rel prog w0 n bz g' S H a w2:=by
 have R1:=R.nn (.cells #[.int .i64 0] 34);have uz:=rO R;refine lI kh (hc _ _ R1 ((adA _ _).alloc (acD _) _) rfl) ?_;rintro en w2 ⟨jK,UG⟩;have R2:=R1.jR jK;have hk:au g.old.aR w.heap.size (some (.cells #[.int .i64 0] 34)) w.heap.size=some (.cells #[.int .i64 0] 34):=aK _ _ _;have jD:=(R2.kept _ _ hk).2.1;have av:=(acz.1 jD).1
 have fin:∀w3,Below w2.heap.size w2 w3->∃g',g'.old=g.old/\Rel prog w0 n bz g' S H a (w3.setRow w.heap.size #[.int .i64 r]):=λw3 qn=>by
  have R3:=R2.jR qn;have E':=(R3.kept _ _ hk).2.1;have R4:=R3.kn hk (.cells #[.int .i64 r] 34);rw[o7 w3 E'];refine⟨_,?_,R4.tN w.heap.size⟩;show({ g.old with aR:=au (au (au g.old.aR w.heap.size (some (.cells #[.int .i64 0] 34))) w.heap.size (some (.cells #[.int .i64 r] 34))) w.heap.size none }:Old)=_
  have:au (au (au g.old.aR w.heap.size (some (.cells #[.int .i64 0] 34))) w.heap.size (some (.cells #[.int .i64 r] 34))) w.heap.size none=g.old.aR:=by
   funext c
   by_cases hc:c=w.heap.size
   .subst hc;simp[au,uz]
   .simp[au,hc]
  rw[this]
 rcases UG with⟨rfl,k,rfl⟩|⟨rfl,k,rfl⟩
 .exact⟨av,⟨_,_,jD⟩,.inr (.inl ⟨k,rfl,λw3 qn=>⟨rfl,fin w3 qn⟩⟩)⟩
 .exact⟨av,⟨_,_,jD⟩,.inr (.inr ⟨k,rfl,λw3 qn=>⟨rfl,fin w3 qn⟩⟩)⟩
variable{i2 i3 i5:Nat}{s x:az}{out ns:List Int}{b:Bool}{z:AV}
def BU(s:az):(ar s).map AV.cT=ar s:=by simp[ar,ae,AV.cT,vI]
def qj(R:Rel prog w0 n bz g S H a w){i:Nat}{cs:List AV}(hi:i<n)(hS:S i=.box i 0)(hH:H i=some cs)(hv:cs.map AV.cT=cs):RV (fB g true) cD w (.ref cs) (a.tmps.getD i undef):=by
 have h:=R.slot i hi id;rw[hS]at h;have:=R.gM h true (λ_=>rfl);simp only[Go.AL.gM,hH,List.drop_zero,hv]at this;exact this
def L9 (hG:aw GI) (cj:GI w0) (R:Rel prog w0 n bz g S H a w) (wT:i2 < n) (YA:i3 < n) (Kv:i5 < n)
  (ub:S i2=.box i2 0) (vf:H i2=some (ar s)) (J':S i3=.box i3 0) (Wc:H i3=some [vI out]) (z7:S i5=.box i5 0) (Gc:H i5=some [.bool false])
  (CI:AC prog GI 160 [bn s,vI out] (.ret (bn x))) {k:Int} (Es:AC prog GI 108 [bn x] (.panic (pL k))):
  Calls prog 159 #[a.tmps.getD i2 undef,a.tmps.getD i3 undef,a.tmps.getD i5 undef] w λe w2=>Below w.heap.size w w2/\e=.panicked [{ v:=.iface 192 (.agg #[.int .i64 k]),recovered:=false }]:=by
 have gm:GI w:=hG w0 w cj (by have:=R.below;rwa [R.base]at this)
 have hA:AC prog GI 159 [.ref (ar s),.ref [vI out],.ref [.bool false]] (.panic (pL k)):=by
  refine cE hG func159 ntmps159 c159 ?_;simp[c159,ar,ae];refine oc CI ?_;simp[bn,ar,ae];refine oc Es ?_;simp[j0]
 refine(hA w (fB g true) #[a.tmps.getD i2 undef,a.tmps.getD i3 undef,a.tmps.getD i5 undef] gm rfl (λi h h'=>?_)).mono ?_
 .match i,h with
  |0,_=>exact qj R wT ub vf (BU s)
  |1,_=>exact qj R YA J' Wc rfl
  |2,_=>exact qj R Kv z7 Gc rfl
 .rintro en w2 ⟨jK,hi,si,c,rfl,cP⟩;have hc:=J6 cP;subst hc;exact⟨jK,rfl⟩
def N4 (hG:aw GI) (cj:GI w0) (R:Rel prog w0 n bz g S H a w) (hd:d < n) (wT:i2 < n) (YA:i3 < n) (Kv:i5 < n) (OL:d≠i5)
  (ub:S i2=.box i2 0) (vf:H i2=some (ar s)) (J':S i3=.box i3 0) (Wc:H i3=some [vI out]) (z7:S i5=.box i5 0) (Gc:H i5=some [z])
  (CI:AC prog GI 160 [bn s,vI out] (.ret (bn x))) (Es:AC prog GI 108 [bn x] (.ret (dv x ns))) (D4:AC prog GI 107 [dv x ns] (.ret (.bool b))):
  Calls prog 159 #[a.tmps.getD i2 undef,a.tmps.getD i3 undef,a.tmps.getD i5 undef] w λe w2=>e=.returned (.tuple #[])/\∃(c:Value)(g':Gh)(S':an)(H':aq),g'.old=g.old/\Rel prog w0 n bz g' S' H' (a.put (some d) c) w2/\(∀t,t≠d->S' t=S t)/\H'=au H i5 (some [.bool b]):=by
 have gm:GI w:=hG w0 w cj (by have:=R.below;rwa [R.base]at this);have r2:=qj R wT ub vf (BU s);have r3:=qj R YA J' Wc rfl;obtain⟨b5,Y_,e5⟩:=lY R Kv z7;have bg:=R.size;refine afc func159 rfl ?_;refine(fE (m:=0)).1 ?_;refine ia (λc=>c.tmps.size=8/\c.defers=[]/\c.tmps.getD 0 undef=a.tmps.getD i2 undef/\c.tmps.getD 1 undef=a.tmps.getD i3 undef/\c.tmps.getD 2 undef=a.tmps.getD i5 undef) ⟨by simp[ntmps159],rfl,cH _ _ 0 (by simp),cH _ _ 1 (by simp),cH _ _ 2 (by simp)⟩ ?_;rintro aC ⟨zC,dC,t0,t1,t2⟩
 refine kN hG (n:=8) (p:=5) (l2:=[5]) rfl (by kernel_rfl) (by kernel_rfl) (l:=(af.dl c159).take 5) (by kernel_rfl) (by decide) (W:=λt=>decide (3<=t)) (by kernel_rfl) gm (fB g true)
  (λt=>match t with|0=>.ref (ar s)|1=>.ref [vI out]|2=>.val (.pointer (some ⟨b5,0,none⟩))|_=>.bm) zC dC ?_ (K:=λS' _=>S' 7=.bool b/\S' 2=.val (.pointer (some ⟨b5,0,none⟩))) ?_ ?_
 .intro t ht;split
  .exact⟨rfl,by rw[t0];exact r2⟩
  .exact⟨rfl,by rw[t1];exact r3⟩
  .exact⟨rfl,by rw[t2,e5];exact .data _ _ (.val _ rfl)⟩
  .exact⟨rfl,.bm _⟩
 .simp[c159,af.dl,ar,ae];refine oc CI ?_;simp[bn,ar,ae];refine oc Es ?_;simp[dv,bq,ar,ae];refine oc D4 ?_;simp
 .rintro g1 S1 H1 a1 w1 lq R1 ⟨q7,q2⟩ _
  have tq:Below w.heap.size w w1:=by have:=R1.below;rwa [R1.base]at this
  have u7:=R1.slot 7 (by decide) id;rw[q7]at u7;have u7:=u7.fq;have u2:=R1.slot 2 (by decide) id;rw[q2]at u2;have u2:=u2.fY;have R2:=(R.jR tq).put d (.bool b) (.bool b) hd (.data _ _ (.bool _)) trivial;obtain⟨i4,P6,O4⟩:=iZ 4 1;have HP:au S d (.bool b) i5=.box i5 0:=(aN _ _ (adi OL)).trans z7
  have ky:aD (au S d (.bool b)) H (.store .any i4.size (.t i5) (.t d))=some { v:=bO,dm:=some d,hw:=some (i5,[.bool b]) }:=by
   simp[aD,ev,HP,z7,adi OL,Gc,HR.okB,O4,AV.cells,AV.storable,AV.bZ,bu,bG,aK]
  obtain ⟨c2,w3,g3,cM,QN,A2,R3⟩:=l0 R2 (o:={ dst:=none,op := .store 4 (.tmp i5) (.tmp d),type:=0,pos := "",after := #[],guard:=none }) (x1 := .tmp i5) (x2 := .tmp d) (y1 := .t i5) (y2 := .t d) (hr := .any) rfl rfl P6 (by simp [c_,Kv]) (by simp [c_,hd]) (λ_ _=>id) (λ_ _=>id) ky
  have f5:(a.put (some d) (.bool b)).eval (.tmp i5)=.pointer (some ⟨b5,0,none⟩):=by
   show(a.put (some d) (.bool b)).tmps.getD i5 undef=_;rw[ir _ _ _ _ (by omega),if_neg (adi OL),e5]
  have fd:(a.put (some d) (.bool b)).eval (.tmp d)=.bool b:=by
   show(a.put (some d) (.bool b)).tmps.getD d undef=_;rw[ir _ _ _ _ (by omega),if_pos rfl]
  have bj:∀ o:Oper,o.op = .store 4 (.tmp 2) (.tmp 7)->(execOp a1.eval o).run prog w1=(execOp (a.put (some d) (.bool b)).eval { dst:=none,op := .store 4 (.tmp i5) (.tmp d),type:=0,pos := "",after := #[],guard:=none }).run prog w1:=by
   intro o ho;have k2:a1.eval (.tmp 2)=.pointer (some ⟨b5,0,none⟩):=u2;have k7:a1.eval (.tmp 7)=.bool b:=u7;unfold execOp;simp only[ho,k2,k7,f5,fd]
  have fin:∀u:Value,(a1.put none u).defers=[]/\∃v',(results f159 (a1.put none u).tmps).run prog w3=.ok v' w3/\(v'=.tuple #[]/\∃(c:Value)(g':Gh)(S':an)(H':aq),g'.old=g.old/\Rel prog w0 n bz g' S' H' (a.put (some d) c) w3/\(∀t,t≠d->S' t=S t)/\H'=au H i5 (some [.bool b])):=λu=>
   ⟨R1.defers.trans (by rw[lq]<;>rfl),.tuple #[],by simp[results,results159],rfl,.bool b,g3,_,_,A2,R3,λt ht=>by simp[aQ.S,AL.aY,au,ht],rfl⟩
  have IB:∀u:Value,(a1.put none u).defers=[]/\∃v',(results f159 (a1.put none u).tmps).run prog w3=.ok v' w3/\(Ending.returned v'=.returned (.tuple #[])/\∃(c:Value)(g':Gh)(S':an)(H':aq),g'.old=g.old/\Rel prog w0 n bz g' S' H' (a.put (some d) c) w3/\(∀t,t≠d->S' t=S t)/\H'=au H i5 (some [.bool b])):=λu=>by
   obtain⟨q1,v',q2,rfl,q3⟩:=fin u;exact⟨q1,_,q2,rfl,q3⟩
  rcases cM with hr|⟨hr,_⟩
  .exact aV rfl rfl (by rfl) ((bj _ rfl).trans hr) (IB _)
  .exact dU rfl rfl (by rfl) ((bj _ rfl).trans hr) (IB undef)
end
def lC(s:az)(out:List Int):Bool:=match eX (j6 s out).name with
 |some es=>decide (lP 0 (j6 s out) (aU (j6 s out) es)=(aU (j6 s out) es).length)
 |none=>false
def NU{s:az}(h:gh s)(out:List Int):gh (j6 s out):=by
 have hl:=tJ out s.name.words 0;exact⟨h.cells,⟨h.name.bp,h.name.aW,Nat.lt_of_le_of_lt hl h.name.words,λw hw=>h.name.aM w (qC hw),λw hw=>h.name.cd w (qC hw)⟩⟩
def X6(hG:aw GI)(s:az)(hs:gh s)(hI:dQ s=true)(out:List Int)(ho:fQ s.name out=true):AC prog GI 113 [bn s,vI out] (.ret (.bool (lC s out))):=by
 have hI2:=Oj hI ho;have hg:=fl hI;have nR:=fl hI2;have lS:=(eM hg.name).words;have hol:=IV ho;have a160:=Zd hG s (by omega) out (by omega);have xm:gh (j6 s out):=NU hs out;unfold lC
 obtain ⟨b,e,hO,mh⟩:∃ (b:Bool) (e:Int),(match eX (j6 s out).name with
   |some es=>decide (lP 0 (j6 s out) (aU (j6 s out) es)=(aU (j6 s out) es).length)
   |none=>false)=(e==0&&b)/\
   ∀(w0:World)(g:Gh)(S:an)(H:aq)(a:Act)(w:World),GI w0->Rel prog w0 14 bz g S H a w->S 2=.box 2 0->H 2=some (ar s)->S 3=.box 3 0->H 3=some [vI out]->S 5=.box 5 0->H 5=some [.bool false]->
    Calls prog 119 #[.func (.func 159) #[] #[a.tmps.getD 2 undef,a.tmps.getD 3 undef,a.tmps.getD 5 undef]] w λen w2=>en=.returned (.int .i64 e)/\∃(c:Value)(g':Gh)(S':an)(H':aq),g'.old=g.old/\Rel prog w0 14 bz g' S' H' (a.put (some 8) c) w2/\S' 5=.box 5 0/\H' 5=some [.bool b]:=by
  cases fw:eX (j6 s out).name with
  |some es=>
   have hn:=ka nR (iq nR.name fw);refine⟨_,0,(afa _).symm,λw0 g S H a w cj R q2 LZ q3 XF q5 T6=>?_⟩
   refine vQ (d:=8) (by kernel_rfl) R λg1 w1 R1 lq _ _=>?_
   refine(N4 hG cj R1 (d:=8) (by decide) (by decide) (by decide) (by decide) (by decide) q2 LZ q3 XF q5 T6 a160 (MM hG (j6 s out) xm nR fw) (Ks hG (j6 s out) nR (aU (j6 s out) es) hn)).mono ?_;rintro en w2 ⟨rfl,c,g',S',H',lQ,R',uB,uL⟩;exact⟨rfl,c,g',S',H',lQ,R',by rw[uB 5 (by decide)];exact q5,by rw[uL];exact aK _ _ _⟩
  |none=>
   refine⟨false,7,rfl,λw0 g S H a w cj R q2 LZ q3 XF q5 T6=>?_⟩;refine(JZ (by kernel_rfl) R (r:=7) λg1 w1 R1 _ _=>?_).mono ?_
   .refine(L9 hG cj R1 (by decide) (by decide) (by decide) q2 LZ q3 XF q5 T6 a160 (D5 hG (j6 s out) xm nR fw)).mono ?_;rintro en w2 ⟨hb,rfl⟩;exact⟨hb,.inl ⟨rfl,_,rfl⟩⟩
   .rintro en w2 ⟨rfl,g',C7,R'⟩;exact⟨rfl,undef,g',au S 8 .bm,H,C7,R'.put 8 .bm undef (by decide) (.bm _) trivial,(aN _ _ (by decide)).trans q5,T6⟩
 rw[hO]
 refine AC.jw func113 rfl ntmps113 (by simp) λcc w=>?_
 refine eV hG c113.qa (λS' H'=>S' 2=.box 2 0/\H' 2=some (ar s)/\S' 3=.box 3 0/\H' 3=some [vI out]) ?_ ?_
 .simp[c113,af.qa,bn,ar,ae]
 rintro S1 H1 ⟨s2,h2,s3,h3⟩;show SW prog GI 14 none (.seq _ (.seq _ (.seq _ .ret))) _ _ _ _;refine eV hG c113.qb.qa (λS' H'=>S' 2=.box 2 0/\H' 2=some (ar s)/\S' 3=.box 3 0/\H' 3=some [vI out]/\S' 5=.box 5 0/\H' 5=some [.bool false]) ?_ ?_
 .simp[c113,af.qa,af.qb,s2,h2,s3,h3]
 clear s2 h2 s3 h3;rintro S3 H3 ⟨s2,h2,s3,h3,s5,h5⟩
 refine SW.seq (SW.hand hG (p:=0) (lm:=[0,1]) (l2:=[2]) (js:=[]) (oh:=[_,_]) (lv:=[_]) rfl rfl rfl rfl (by kernel_rfl) (λ_ h=>h) (lO:=[]) (lu:=(c113.qb.qb.qa.dl).drop 2) rfl (by kernel_rfl) rfl (by kernel_rfl)
  (K1:=λS' H'=>S' 2=.box 2 0/\H' 2=some (ar s)/\S' 3=.box 3 0/\H' 3=some [vI out]/\S' 5=.box 5 0/\H' 5=some [.bool false])
  (K2:=λo S' H'=>o=Old.plain cc w/\S' 5=.box 5 0/\H' 5=some [.bool b]/\S' 8=.int .i64 e)
  (K3:=λo S' H'=>o=Old.plain cc w/\S' 5=.box 5 0/\H' 5=some [.bool b]/\S' 6=.int .i64 e) ⟨s2,h2,s3,h3,s5,h5⟩ ?_ ?_ ?_)
 .rintro w0 g S5 H5 a w5 m cj ho R ⟨s2,h2,s3,h3,s5,h5⟩;have bg:=R.size;refine aV rfl rfl (by rfl) (nA (fn:=.func 159) (c:=#[.tmp 2,.tmp 3,.tmp 5]) rfl) ?_
  obtain⟨fv,lT⟩:∃fv:Value,fv=.func (.func 159) #[] (#[Operand.tmp 2,.tmp 3,.tmp 5].map a.eval):=⟨_,rfl⟩
  show wpOpsIn _ _ _ _ _ [1] (a.put (some 7) (.func (.func 159) #[] (#[Operand.tmp 2,.tmp 3,.tmp 5].map a.eval))) w5;rw[<-lT];have R1:=R.put 7 .bm fv (by decide) (.bm _) trivial
  obtain⟨a1,pA⟩:∃a1,a.put (some 7) fv=a1:=⟨_,rfl⟩
  rw[pA]at R1⊢
  have Cf:fv=.func (.func 159) #[] #[a1.tmps.getD 2 undef,a1.tmps.getD 3 undef,a1.tmps.getD 5 undef]:=by
   have e1:=bJ a 7 2 fv (by omega);have e2:=bJ a 7 3 fv (by omega);have e4:=bJ a 7 5 fv (by omega);rw[if_neg (by decide),pA]at e1 e2 e4;have CS:a1.tmps.getD 2 undef=a.eval (.tmp 2):=e1;have Rj:a1.tmps.getD 3 undef=a.eval (.tmp 3):=e2;have Lg:a1.tmps.getD 5 undef=a.eval (.tmp 5):=e4;rw[CS,Rj,Lg,lT];simp only[ado,ac5,adp]
  have kR:a1.eval (.tmp 7)=fv:=by rw[<-pA,bJ _ _ _ _ (by omega),if_pos rfl]
  refine gE rfl rfl (by rfl) (jr (k:=119) (args:=#[.func (.func 159) #[] #[a1.tmps.getD 2 undef,a1.tmps.getD 3 undef,a1.tmps.getD 5 undef]]) w5 rfl rfl ?_ (by kernel_rfl)) (mh w0 g _ _ a1 w5 cj R1 (by simp[au,s2]) h2 (by simp[au,s3]) h3 (by simp[au,s5]) h5) ?_
  .simp only[ado,ac5,adp,kR,<-Cf]
  .rintro en w6 ⟨rfl,c,g',S',H',lQ,R2,z7,Gc⟩;refine⟨_,rfl,?_⟩;have R3:=R2.put 8 (.int .i64 e) (.int .i64 e) (by decide) (.data _ _ (.int _ _)) trivial;rw[qS]at R3;exact⟨g',_,H',R3,lQ.trans ho,by rw[aN _ _ (by decide)];exact z7,Gc,aK _ _ _⟩
 .rintro o S5 H5 ⟨rfl,s5,h5,s8⟩;refine⟨λ_ h=>h,?_⟩;simp[c113,af.qa,af.qb,af.dl,s5,h5,s8]
 .rintro o S5 H5 ⟨rfl,s5,h5,s6⟩;show SW prog GI 14 none (.seq _ .ret) _ _ _ _;refine eV hG c113.qb.qb.qb.qa (λS' H'=>S' 4=.bool (e==0&&b)) ?_ ?_
  .by_cases he:e=0
   .subst he;simp[c113,af.qa,af.qb,s5,h5,s6]
   .have mS:(e==0)=false:=by simpa using he
    simp[c113,af.qa,af.qb,s5,h5,s6,mS]
  rintro S6 H6 s4;refine SW.ret ⟨eA.plain rfl,rfl,_,?_,rfl⟩;show cL prog 14 [.tmp 4] S6 H6=_;simp[cL,dc,db,s4,AV.bW,AV.out]
end Go.Proofs.Tryz
namespace Go.Proofs.Tryz
open Go Go.AL Go.RowKit Go.Proofs Go.Proofs.Tram
def jW(s:az)(d:Nat)(es:List Int):List (List Int):=(uu s.name d es).filter (lC s)
def rD(s:az)(d:Nat)(es:List Int)(i:Nat):List (List Int):=(List.range' i (s.name.words.length-i)).flatMap λk=>if nF s.name k then jW s d (es++[(k:Int)])else[]
def Hx(s:az)(es:List Int):jW s 0 es=if lC s es then[es]else[]:=by
 unfold jW uu
 cases h:lC s es<;>simp[h]
def J_(s:az)(d:Nat)(es:List Int):jW s (d+1) es=rD s d es (oR es):=by
 unfold jW rD uu;rw[agq]
 refine Dh λi _=>?_
 cases nF s.name i<;>rfl
def IX(s:az)(d:Nat)(es:List Int){i:Nat}(h:i<s.name.words.length):rD s d es i=(if nF s.name i then jW s d (es++[(i:Int)])else[])++rD s d es (i+1):=by
 unfold rD;rw[show s.name.words.length-i=s.name.words.length-(i+1)+1 by omega,ad_,ad4]
def Lk(s:az)(d:Nat)(es:List Int):rD s d es s.name.words.length=[]:=by
 unfold rD
 rw[af0]<;>rfl
def BW{α β:Type}{f:α->List β}{b:Nat}(hf:∀x,(f x).length<=b):∀l:List α,(l.flatMap f).length<=b*l.length
 |[]=>by simp
 |a::l=>by
  rw[ad4,acV,List.length_cons,Nat.mul_succ];have:=BW hf l;have:=hf a;omega
def AQ{s:aF}(h:s.words.length<=4):∀(d:Nat)(now:List Int),(uu s d now).length<=4^d
 |0,now=>by simp[uu]
 |d+1,now=>by
  unfold uu
  have h1:∀i:Nat,(if nF s i then uu s d (now++[(i:Int)])else[]).length<=4^d:=by
   intro i;split
   .exact AQ h d _
   .simp
  have h2:=BW h1 (List.range' (oR now) (s.words.length-oR now));rw[List.length_range']at h2;rw[Nat.pow_succ];have h3:4^d*(s.words.length-oR now)<=4^d*4:=Nat.mul_le_mul_left _ (by omega);omega
def KE{s:az}(h:s.name.words.length<=4){d:Nat}(hd:d<4)(es:List Int):(jW s d es).length<=64:=by
 have h1:=aeo (lC s) (uu s.name d es);have h2:=AQ h d es;have h3:4^d<=4^3:=Nat.pow_le_pow_right (by decide) (by omega);unfold jW;omega
def wi(s:az):Option (List Int):=(MN s.name).find? (lC s)
def yM(s:az):wi s=((List.range s.name.words.length).flatMap λd=>jW s d []).head?:=by
 unfold wi MN jW;rw[<-List.head?_filter,agq]
def Mg{α:Type}(f:Nat->List α){n m:Nat}(h:m<n)(hb:∀j,j<m->f j=[]){x:α}{l:List α}(hm:f m=x::l):((List.range n).flatMap f).head?=some x:=by
 have e:List.range n=List.range m++m::List.range' (m+1) (n-(m+1)):=by
  have h1:List.range' 0 m++List.range' (0+m) (n-(m+1)+1)=List.range' 0 (m+(n-(m+1)+1)):=ae7;rw[ac_,show m+(n-(m+1)+1)=n by omega]at h1;rw[ad0,ad0,<-h1,ad_]
 rw[e,aeB,af3.2 λj hj=>hb j (acY.1 hj),List.nil_append,ad4,hm]
 rfl
def KU{α:Type}(f:Nat->List α){n:Nat}(hb:∀j,j<n->f j=[]):((List.range n).flatMap f).head?=none:=by
 rw[af3.2 λj hj=>hb j (acY.1 hj)]
 rfl
def Az(s:az):List AV:=match wi s with
 |some l=>[vI l,.int .i64 0]
 |none=>[vI [],.int .i64 5]
def E9(s:az):List AV:=if dQ s then Az s else[vI [],.int .i64 2]
end Go.Proofs.Tryz
namespace Go.Proofs.Tryz
open Go Go.AL Go.RowKit Go.Proofs Go.Proofs.Tram
attribute [local simp] dP fu fb eu eL dV dW du dp eJ dq cU gG gD aG aD ev aQ.S aQ.H bG au aY AL.start AV.cells AV.storable AV.bZ bu bQ eF b0 HR.okB post cL dc db AV.out AV.bW cy dK fz gM AV.vw da vI int bO aO dE dj iJ jF eo dG bt AV.aH AV.cT
variable{GI:World->Prop}
def W6:Nat->Bool:=λt=>decide (6<=t)
def FI:Nat->Bool:=λt=>decide (35<=t)
structure Gu(bF bN:Nat)(cS cR:Value)(n many:Int)(a:Act):Prop where
 size:a.tmps.size=50
 defers:a.defers=[]
 t0:a.tmps.getD 0 undef=.int .i64 n
 t1:a.tmps.getD 1 undef=.int .i64 many
 t2:a.tmps.getD 2 undef=cS
 t3:a.tmps.getD 3 undef=.pointer (some ⟨bN,0,none⟩)
 t4:a.tmps.getD 4 undef=.pointer (some ⟨bF,0,none⟩)
 t5:a.tmps.getD 5 undef=cR
def gB(s:az)(es:List Int)(fv:Value)(n many:Int)(v8:AV):an:=λt=>match t with
 |0=>.int .i64 n
 |1=>.int .i64 many
 |2=>.ref (ar s)
 |3=>.ref [.slice .view (ints es)]
 |5=>.ref [.val fv]
 |8=>v8
 |_=>.bm
section
variable{wB:World}{Mi:Nat->Nat->Prop}{bF bN:Nat}{s:az}{cS cR fv:Value}{fs:List (List Int)}{es:List Int}{w:World}{a:Act}{n many:Int}
def Gu.step{a':Act}(fr:Gu bF bN cS cR n many a)(bg:a'.tmps.size=50)(ee:a'.defers=[])(h:dZ W6 a a'):Gu bF bN cS cR n many a':=
 ⟨bg,ee,(h 0 rfl).trans fr.t0,(h 1 rfl).trans fr.t1,(h 2 rfl).trans fr.t2,(h 3 rfl).trans fr.t3,(h 4 rfl).trans fr.t4,(h 5 rfl).trans fr.t5⟩
def Lv.fO (st:Lv wB Mi bF bN s cS cR fv fs es w) (fr:Gu bF bN cS cR n many a) {v8:AV} (h8:v8.aH=v8∧RV (fun _ _=>True) cD w v8 (a.tmps.getD 8 undef)) :
  ∀t,t<50->(gB s es fv n many v8 t).aH=gB s es fv n many v8 t/\RV (λ_ _=>True) cD w (gB s es fv n many v8 t) (a.tmps.getD t undef):=by
 intro t ht;unfold gB;split
 .rw[fr.t0];exact⟨rfl,.data _ _ (.int _ _)⟩
 .rw[fr.t1];exact⟨rfl,.data _ _ (.int _ _)⟩
 .rw[fr.t2];exact⟨rfl,st.s.mono (bc.same λ_ _ _ _=>trivial) λ_ _ h=>h⟩
 .rw[fr.t3];obtain⟨u,xE,xF,v,Cs,xN,f1,f2,f3,f4,n1,n2,n3,n4⟩:=st.st;refine⟨rfl,.data _ _ (.ref _ _ _ (λ_=>v) (λi hi=>?_) (λk hk=>⟨trivial,?_⟩) (λk hk=>?_))⟩
  .have:i=0:=by simpa using hi
   subst this;rfl
  .have:k=0:=by simpa using hk
   subst this;simp[World.cell?,n1]
  .have:k=0:=by simpa using hk
   subst this
   exact RD.ofRow (size:=1) (es:=ints es) (by rw[cy];exact n2) (n3.mono (bc.same λ_ _ _ h=>h.elim)) λ_ _ _ _=>trivial
 .rw[fr.t5];exact⟨rfl,st.r.mono (bc.same λ_ _ _ _=>trivial) λ_ _ h=>h⟩
 .exact h8
 .exact⟨rfl,.bm _⟩
def Lv.dS (st:Lv wB Mi bF bN s cS cR fv fs es w) {w':World} {es':List Int} {v v':Value} {Cs:TypeId} {U':List Value} (hv:∃ ty,w.heap[bN]? = some (.cells #[v] ty (0,0))) (iF:lh (fun b=>b=bN∨v.ownBlock=some b) w w')
  (hN:w'.heap[bN]?=some (.cells #[v'] Cs (0,0))) (cI:w'.ownsRow (bN+1) 3 1 v' es'.length U') (xj:iQ (λ_ _=>False) w' 1 (ints es') U') (NA:∀b,v'.ownBlock=some b->v.ownBlock=some b\/w.heap.size<=b):Lv wB Mi bF bN s cS cR fv fs es' w':=by
 obtain⟨u,xE,xF,v0,ack,xN,f1,f2,f3,f4,n1,n2,n3,n4⟩:=st.st;obtain⟨ty,hv⟩:=hv
 have CV:v0=v:=by
  rw[n1]at hv;simp only[ac0,Obj.cells.injEq,Array.mk.injEq,aeG]at hv;exact hv.1.1
 subst CV;have lF:=(acz.1 f1).1
 have old:∀b,b<w.heap.size->b≠bN->v0.ownBlock≠some b->w'.heap[b]?=w.heap[b]?:=λb hb h1 h2=>iF.block b hb (by rintro(h|h);exact h1 h;exact h2 h)
 have Vb:∀b k,Mi b k->w'.heap[b]?=w.heap[b]?:=λb k hm=>old b (st.lt b k hm) (λe=>st.gN k (e▸hm)) λe=>(n4 b e).2.2 k hm
 have SU:bc Mi Mi w w':=bc.of_eq λb k hm=>⟨hm,Vb b k hm⟩
 refine⟨st.below.trans (iF.below st.below.size λb hb=>?_),st.ge,λb k hm=>adq (st.lt b k hm) iF.size,st.gF,st.gN,⟨u,xE,xF,v',Cs,U',(old bF lF st.ge.2.2 λe=>(n4 bF e).1 rfl).trans f1,im f2 λb hb=>old b (f2.lt b hb).2 (f4 b hb).1 λe=>(n4 b e).2.1 hb,f3.mono (bc.of_eq λb k hm=>⟨hm,(Vb b k hm.1)⟩),f4,hN,cI,xj,λb hb=>?_⟩,st.s.mono SU λ_ _ h=>h,st.r.mono SU λ_ _ h=>h⟩
 .rcases hb with rfl|hb
  .exact st.ge.2.1
  .have:=(n2.lt b hb).1;have:=st.ge.2.1;omega
 .rcases NA b hb with h|h
  .exact n4 b h
  .exact⟨λe=>by omega,λe=>by have:=(f2.lt b e).2;omega,λk hm=>by have:=st.lt b k hm;omega⟩
end
def y0 {P:Program} {a:Act} {o:Oper} {cl:Call} {f x y:Operand} {k:Nat} {cap:Array Value} (w:World) (ho:o.op = .call cl) (hc:cl.callee = .value f) (ha:cl.args = #[x,y]) (hf:a.eval f = .func (.func k) #[] cap) (hk:ef P k=true) :
  (execOp a.eval o).run P w=.ok (.enter k (#[a.eval x,a.eval y]++cap)) w:=by
 unfold execOp;simp[ho,eP hc,hf,Deferred.ofValue,invoke,ha,fG hk]
noncomputable def qW:af:=af.qb c112.qb.qb.qb
noncomputable def xR:af:=af.qb qW.qb.qa
noncomputable def AR:af:=af.qa xR.qb
def RQ (hG:aw GI) {wB:World} (ye:GI wB) {bF bN:Nat} {s:az} (hs:gh s) (hI:dQ s=true) {cS cR fv:Value} (lT:fv = .func (.func 112) #[] #[cS,.pointer (some ⟨bN,0,none⟩),.pointer (some ⟨bF,0,none⟩),cR]) :
  ∀(d n:Nat)(es:List Int)(fs:List (List Int))(Mi:Nat->Nat->Prop)(w:World),oR es=n->n<=s.name.words.length->es.length+d<s.name.words.length->fQ s.name es=true->(fs++jW s d es).length<=1000->Lv wB Mi bF bN s cS cR fv fs es w->
   Calls prog 112 #[.int .i64 n,.int .i64 d,cS,.pointer (some ⟨bN,0,none⟩),.pointer (some ⟨bF,0,none⟩),cR] w λe w'=>e=.returned (.tuple #[])/\∃qO,(∀b k,Mi b k->qO b k)/\Lv wB qO bF bN s cS cR fv (fs++jW s d es) es w':=by
 have lS:=(eM (fl hI).name).words.2;intro d
 induction d with
 |zero=>?_
 |succ d ih=>?_
 all_goals intro n es fs Mi w xj hn hd ho hB st
 all_goals refine(ig (ro:=none) (m:=0)).1 (afO func112 rfl trivial ?_)
 .have gm:GI w:=hG wB w ye st.below
  have fr:Gu bF bN cS cR n ((0:Nat):Int) { tmps:=#[.int .i64 n,.int .i64 ((0:Nat):Int),cS,.pointer (some ⟨bN,0,none⟩),.pointer (some ⟨bF,0,none⟩),cR]++Array.replicate (f112.ntmps-6) undef,defers:=[] }:=
   ⟨by simp[ntmps112],rfl,cH _ _ 0 (by simp),cH _ _ 1 (by simp),cH _ _ 2 (by simp),cH _ _ 3 (by simp),cH _ _ 4 (by simp),cH _ _ 5 (by simp)⟩
  rw[Hx]at hB⊢;refine acO (acO ?_);refine cm hG dO (n:=50) (ac:=af.qa c112.qa) (W:=W6) (by kernel_rfl) (by kernel_rfl) (by kernel_rfl) gm (λ_ _=>True) (gB s es fv n ((0:Nat):Int) .bm) fr.size fr.defers (st.fO fr ⟨rfl,.bm _⟩) (K:=λS' _=>S' 10=.bool true) ?_ ?_
  .simp[c112,af.qa,gB]
  rintro g S' H' a w1 hg R1 hb bj;have fr:=fr.step R1.size (by rw[R1.defers,hg]<;>rfl) bj;have st:=st.grow (by have:=R1.below;rwa [R1.base]at this);have ht:=R1.slot 10 (by decide) (λh=>h);rw[hb]at ht;have tc:=ht.fq;clear ht bj hb hg R1 g S' H' gm;have gm:GI w1:=hG wB w1 ye st.below;show Code.wpIn _ _ _ _ _ a w1;refine adu (t:=true) tc ?_;simp only[ac3];refine acO (acO ?_);have aak:=X6 hG s hs hI es ho;refine cm hG dO (n:=50) (ac:=af.qa c112.qa.qb.qa.qa) (W:=W6) (by kernel_rfl) (by kernel_rfl) (by kernel_rfl) gm (λ_ _=>True) (gB s es fv n ((0:Nat):Int) .bm) fr.size fr.defers (st.fO fr ⟨rfl,.bm _⟩) (K:=λS' _=>S' 13=.bool (lC s es)) ?_ ?_
  .simp[c112,af.qa,af.qb,gB,ar,ae];refine oc aak ?_;simp
  rintro g S' H' a w1 hg R1 hb bj;have fr:=fr.step R1.size (by rw[R1.defers,hg]<;>rfl) bj;have st:=st.grow (by have:=R1.below;rwa [R1.base]at this);have ht:=R1.slot 13 (by decide) (λh=>h);rw[hb]at ht;have tc:=ht.fq;clear ht bj hb hg R1 g S' H' gm;have gm:GI w1:=hG wB w1 ye st.below;show Code.wpIn _ _ _ _ _ a w1;refine adu (t:=lC s es) tc ?_
  have W8:es.length<1000:=by omega
  have hf4:fs.length<100000:=by rw[acV]at hB;omega
  cases UG:lC s es with
  |true=>
   simp only[ac3];refine FL hG st gm fr.size fr.defers fr.t3 fr.t4 W8 hf4 rfl rfl rfl rfl rfl rfl ⟨rfl,rfl,rfl⟩ ⟨rfl,rfl,rfl⟩ ⟨rfl,rfl,rfl⟩ ⟨rfl,rfl,rfl⟩ ⟨rfl,rfl,rfl⟩ ⟨rfl,rfl,rfl⟩ ⟨rfl,rfl⟩ ⟨rfl,rfl,rfl⟩ (by kernel_rfl) ?_;intro a' w' qO bg ee _ hM qL;show Code.wpIn _ _ _ _ _ a' w';exact aeJ ⟨ee,.tuple #[],by simp[results,results112],rfl,qO,hM,qL⟩
  |false=>
   simp only[acI,acW,adn];refine ad5 ?_;show Code.wpIn _ _ _ _ _ a w1;exact aeJ ⟨fr.defers,.tuple #[],by simp[results,results112],rfl,Mi,λ_ _ h=>h,st⟩
 .have gm:GI w:=hG wB w ye st.below
  have fr:Gu bF bN cS cR n ((d+1:Nat):Int) { tmps:=#[.int .i64 n,.int .i64 ((d+1:Nat):Int),cS,.pointer (some ⟨bN,0,none⟩),.pointer (some ⟨bF,0,none⟩),cR]++Array.replicate (f112.ntmps-6) undef,defers:=[] }:=
   ⟨by simp[ntmps112],rfl,cH _ _ 0 (by simp),cH _ _ 1 (by simp),cH _ _ 2 (by simp),cH _ _ 3 (by simp),cH _ _ 4 (by simp),cH _ _ 5 (by simp)⟩
  rw[J_,xj]at hB⊢
  have hd0:(((d+1:Nat):Int)==0)=false:=by rw[adj];omega
  generalize hmn:((d+1:Nat):Int)=mn at*
  refine acO (acO ?_);refine cm hG dO (n:=50) (ac:=af.qa c112.qa) (W:=W6) (by kernel_rfl) (by kernel_rfl) (by kernel_rfl) gm (λ_ _=>True) (gB s es fv n mn .bm) fr.size fr.defers (st.fO fr ⟨rfl,.bm _⟩) (K:=λS' _=>S' 10=.bool false) ?_ ?_
  .simp[c112,af.qa,gB,hd0]
  rintro g S' H' a w1 hg R1 hb bj;have fr:=fr.step R1.size (by rw[R1.defers,hg]<;>rfl) bj;have st:=st.grow (by have:=R1.below;rwa [R1.base]at this);have ht:=R1.slot 10 (by decide) (λh=>h);rw[hb]at ht;have tc:=ht.fq;clear ht bj hb hg R1 g S' H' gm;have gm:GI w1:=hG wB w1 ye st.below;show Code.wpIn _ _ _ _ _ a w1;refine adu (t:=false) tc ?_;simp only[acI,acW];refine ad5 ?_;show Code.wpIn _ _ _ _ _ a w1;refine acO ?_;refine cm hG dO (n:=50) (ac:=af.qa c112.qb) (W:=W6) (by kernel_rfl) (by kernel_rfl) (by kernel_rfl) gm (λ_ _=>True) (gB s es fv n mn .bm) fr.size fr.defers (st.fO fr ⟨rfl,.bm _⟩) (K:=λS' _=>S' 8=.int .i64 n) ?_ ?_
  .simp[c112,af.qa,af.qb,gB]
  rintro g S' H' a w2 hg R1 hb bj;have fr:=fr.step R1.size (by rw[R1.defers,hg]<;>rfl) bj;have st:=st.grow (by have:=R1.below;rwa [R1.base]at this);have ht:=R1.slot 8 (by decide) (λh=>h);rw[hb]at ht;have ht8:=ht.int_eq;clear ht bj hb hg R1 g S' H' gm tc;show Code.wpIn _ _ _ _ _ a w2
  refine ad1 (af5 (λa w=>∃(i:Nat)(II:List (List Int))(qO:Nat->Nat->Prop),Gu bF bN cS cR n mn a/\a.tmps.getD 8 undef=.int .i64 (i:Nat)/\n<=i/\i<=s.name.words.length/\(∀b k,Mi b k->qO b k)/\Lv wB qO bF bN s cS cR fv II es w/\II++rD s d es i=fs++rD s d es n)
   (λa _=>match a.tmps.getD 8 undef with|.int _ i=>s.name.words.length-i.toNat|_=>0) ⟨n,fs,Mi,fr,ht8,acD _,hn,λ_ _ h=>h,st,rfl⟩ ?_)
  clear ht8;rintro a w3 ⟨i,II,qO,fr,h8,BY,cN,Yi,st,gv⟩;have gm:GI w3:=hG wB w3 ye st.below
  have Rq:(AV.int .i64 (i:Int)).aH=.int .i64 (i:Int)/\RV (λ_ _=>True) cD w3 (.int .i64 (i:Int)) (a.tmps.getD 8 undef):=⟨rfl,by rw[h8];exact .data _ _ (.int _ _)⟩
  refine acO (acO ?_);refine cm hG dO (n:=50) (ac:=af.qa qW.qa) (W:=W6) (by kernel_rfl) (by kernel_rfl) (by kernel_rfl) gm (λ_ _=>True) (gB s es fv n mn (.int .i64 (i:Int))) fr.size fr.defers (st.fO fr Rq) (K:=λS' _=>S' 8=.int .i64 i/\S' 25=.bool (decide (i<s.name.words.length))) ?_ ?_
  .simp[c112,qW,af.qa,af.qb,gB,ar,ae]
  rintro g S' H' a4 w4 hg R1 ⟨q8,q25⟩ bj;have fr:=fr.step R1.size (by rw[R1.defers,hg]<;>rfl) bj;have st:=st.grow (by have:=R1.below;rwa [R1.base]at this);have ht:=R1.slot 25 (by decide) (λh=>h);rw[q25]at ht;have Vs:=ht.fq;have hu:=R1.slot 8 (by decide) (λh=>h);rw[q8]at hu;have P4:=hu.int_eq;clear ht hu bj q8 q25 hg R1 g S' H' gm Rq;have gm:GI w4:=hG wB w4 ye st.below;show Code.wpIn _ _ _ _ _ a4 w4;refine adu (t:=decide (i<s.name.words.length)) Vs ?_
  by_cases av:i<s.name.words.length
  case neg=>
   simp only[av,afE,acI,acW];refine aeY ?_
   have GG:i=s.name.words.length:=by omega
   rw[GG,Lk,adn]at gv;simp only[Exit.then,Exit.inBlock,ac3];rw[<-gv];exact⟨fr.defers,.tuple #[],by simp[results,results112],rfl,qO,Yi,st⟩
  simp only[av,afv,ac3];refine ad5 ?_;show Code.wpIn _ _ _ _ _ a4 w4;rw[IX s d es av]at gv
  have Rq:(AV.int .i64 (i:Int)).aH=.int .i64 (i:Int)/\RV (λ_ _=>True) cD w4 (.int .i64 (i:Int)) (a4.tmps.getD 8 undef):=⟨rfl,by rw[P4];exact .data _ _ (.int _ _)⟩
  have qg:nF s.name i=s.name.words[i].free:=by simp[nF,ph,av]
  have fin:∀ {Q:Exit→Act→World→Prop} {a5:Act} {w5:World} {Yt:List (List Int)} {Xl:Nat→Nat→Prop},Gu bF bN cS cR n mn a5→a5.tmps.getD 8 undef = .int .i64 (i:Nat)→Lv wB Xl bF bN s cS cR fv Yt es w5 →
    (∀a6 w6,Gu bF bN cS cR n mn a6->a6.tmps.getD 8 undef=.int .i64 ((i+1:Nat):Int)->Lv wB Xl bF bN s cS cR fv Yt es w6->Q .normal a6 w6)->∀(id:Nat)(ops:Array Oper),iB (.region id ops false)=true->cC prog 50 (.region id ops false)=af.qb qW.qb->jq ops W6=true->(Code.region id ops false).wpIn (FR none) 0 prog Q a5 w5:=λ{Q a5 w5 Yt Xl} ET h85 I8 hQ id ops hc lD hW=>by
   have Zq:(AV.int .i64 (i:Int)).aH=.int .i64 (i:Int)/\RV (λ_ _=>True) cD w5 (.int .i64 (i:Int)) (a5.tmps.getD 8 undef):=⟨rfl,by rw[h85];exact .data _ _ (.int _ _)⟩
   refine cm hG dO (n:=50) hc lD hW (hG wB w5 ye I8.below) (λ_ _=>True) (gB s es fv n mn (.int .i64 (i:Int))) ET.size ET.defers (I8.fO ET Zq) (K:=λS' _=>S' 8=.int .i64 ((i+1:Nat):Int)) ?_ ?_
   .have qM:IntKind.i64.wrap ((i:Int)+1)=i+1:=aP (by omega);simp[c112,qW,af.qa,af.qb,gB,qM]
   intro g S' H' a6 w6 hg R1 MG tB;have Z0:=R1.slot 8 (by decide) (λh=>h);rw[MG]at Z0;exact hQ a6 w6 (ET.step R1.size (by rw[R1.defers,hg]<;>rfl) tB) Z0.int_eq (I8.grow (by have:=R1.below;rwa [R1.base]at this))
  refine acO (ad1 (acO ?_));refine cm hG dO (n:=50) (ac:=af.qa xR) (W:=W6) (by kernel_rfl) (by kernel_rfl) (by kernel_rfl) gm (λ_ _=>True) (gB s es fv n mn (.int .i64 (i:Int))) fr.size fr.defers (st.fO fr Rq) (K:=λS' _=>S' 8=.int .i64 i/\S' 34=.bool (nF s.name i)) ?_ ?_
  .rw[qg];simp[c112,qW,xR,af.qa,af.qb,gB,ar,ae,av,cZ]
  rintro g S' H' a5 w5 hg R1 ⟨q8,q34⟩ bj;have fr:=fr.step R1.size (by rw[R1.defers,hg]<;>rfl) bj;have st:=st.grow (by have:=R1.below;rwa [R1.base]at this);have ht:=R1.slot 34 (by decide) (λh=>h);rw[q34]at ht;have aaA:=ht.fq;have hu:=R1.slot 8 (by decide) (λh=>h);rw[q8]at hu;have P4:=hu.int_eq;clear ht hu bj q8 q34 hg R1 g S' H' gm Rq Vs;have gm:GI w5:=hG wB w5 ye st.below;show Code.wpIn _ _ _ _ _ a5 w5;refine adu (t:=nF s.name i) aaA ?_
  cases si:nF s.name i with
  |false=>
   simp only[acI,acW];refine ad5 ?_;simp only[Exit.then,Exit.inBlock];rw[si]at gv;refine fin fr P4 st (λa6 w6 Ib MG Lf=>?_) _ _ (by kernel_rfl) (by kernel_rfl) (by kernel_rfl);refine⟨⟨i+1,II,qO,Ib,MG,by omega,by omega,Yi,Lf,by simpa using gv⟩,?_⟩;rw[MG,h8];show s.name.words.length-((i+1:Nat):Int).toNat<s.name.words.length-(i:Int).toNat;rw[Int.toNat_natCast,Int.toNat_natCast];omega
  |true=>
   simp only[ac3];rw[si]at gv
   have Th:es.length+1<s.name.words.length:=by omega
   obtain⟨u,xE,xF,v,Cs,xN,f1,f2,f3,f4,n1,n2,n3,n4⟩:=st.st;obtain⟨i3,pZ,mD⟩:=iZ 3 1;obtain⟨i23,M1,HY⟩:=iZ 23 1;have Yz:(ints es).length=es.length:=cy es;refine acO ?_
   refine ue dO (n:=50) (ac:=af.qa AR) (by kernel_rfl) (by kernel_rfl) (by kernel_rfl) (W:=FI) (by kernel_rfl) (λ_ _=>False)
    (λt=>match t with|3=>.box 3 0|8=>.int .i64 (i:Int)|_=>.bm) (nm:=3) (tp:=3) (es:=ints es) (es':=ints (es++[(i:Int)])) (by decide) rfl fr.t3 fr.size fr.defers n1 pZ (by rw[mD,Yz];exact n2) (by rw[mD];exact n3.mono (bc.same λ_ _ _ h=>h.elim)) ?_ ?_ (by rw[mD];exact tO _) (uS _) ?_
   .intro t ht;split
    .exact⟨rfl,.inl ⟨rfl,fr.t3⟩⟩
    .exact⟨rfl,.inr (by rw[P4];exact .data _ _ (.int _ _))⟩
    .exact⟨rfl,.inr (.bm _)⟩
   .have uW:es.length+1<1048576:=by omega
    have ZL:ints (es++[(i:Int)])=ints es++[.int .i64 (i:Int)]:=by simp[ints]
    have b_:=mw es;have k1:aJ 1 [AV.int .i64 (i:Int)]=true:=rfl;rw[ZL]
    cases BJ:v.ownBlock with
    |none=>
     have he:es=[]:=by
      rcases n2.2 with⟨_,h⟩|⟨gg,cap,cur,rfl,_⟩
      .exact adb h
      .cases BJ
     subst he;simp[c112,qW,xR,AR,af.qa,af.qb,me,BJ,k1,ints]
    |some bv=>
     simp[c112,qW,xR,AR,af.qa,af.qb,me,BJ,k1,b_,uW]
   intro a6 w6 v' Aj xs6 abZ Tn tB Z5 Mx Qf Nl PT;have Ib:=fr.step abZ Tn (dZ.weaken tB λt ht=>by simp[W6]at ht;simp[FI];omega);have MG:a6.tmps.getD 8 undef=.int .i64 (i:Int):=(tB 8 rfl).trans P4;have Lf:Lv wB qO bF bN s cS cR fv II (es++[(i:Int)]) w6:=st.dS ⟨_,n1⟩ Nl Z5 (by rw[mD,cy]at Mx;exact Mx) (by rw[mD]at Qf;exact Qf) PT;clear PT Nl Qf Mx Z5 n1 n2 n3 n4 f1 f2 f3 f4;show Code.wpIn _ _ _ _ _ a6 w6
   have aa':(AV.int .i64 (i:Int)).aH=.int .i64 (i:Int)/\RV (λ_ _=>True) cD w6 (.int .i64 (i:Int)) (a6.tmps.getD 8 undef):=⟨rfl,by rw[MG];exact .data _ _ (.int _ _)⟩
   refine acO ?_;refine kN hG (n:=50) (p:=5) (l2:=[5]) rfl (by kernel_rfl) (by kernel_rfl) (l:=(AR.qb.qa.dl).take 5) (by kernel_rfl) (by decide) (W:=FI) (by kernel_rfl) (hG wB w6 ye Lf.below) (λ_ _=>True) (gB s (es++[(i:Int)]) fv n mn (.int .i64 (i:Int))) Ib.size Ib.defers (Lf.fO Ib aa') (K:=λS' _=>S' 39=.val fv/\S' 41=.int .i64 ((i+1:Nat):Int)/\S' 43=.int .i64 (d:Nat)) ?_ ?_
   .have qM:IntKind.i64.wrap ((i:Int)+1)=i+1:=aP (by omega)
    have rA:IntKind.i64.wrap (mn-1)=d:=by rw[aP (by omega)];omega
    simp[c112,qW,xR,AR,af.qa,af.qb,af.dl,gB,qM,rA]
   rintro g S' H' a7 w7 hg R1 ⟨q39,Rh,QI⟩ Gd;have XV:=Ib.step R1.size (by rw[R1.defers,hg]<;>rfl) (dZ.weaken Gd λt ht=>by simp[W6]at ht;simp[FI];omega);have st7:=Lf.grow (by have:=R1.below;rwa [R1.base]at this);have h87:a7.tmps.getD 8 undef=.int .i64 (i:Int):=(Gd 8 rfl).trans MG;have Tw:=R1.slot 39 (by decide) (λh=>h);rw[q39]at Tw;have Tw:=Tw.fY;have UC:=R1.slot 41 (by decide) (λh=>h);rw[Rh]at UC;have UC:=UC.int_eq;have A7:=R1.slot 43 (by decide) (λh=>h);rw[QI]at A7;have A7:=A7.int_eq;clear R1 hg Gd q39 Rh QI
   have ko:fQ s.name (es++[(i:Int)])=true:=by rw[Pd ho (by rw[xj];exact BY) av Th];exact si
   have Sz:(II++jW s d (es++[(i:Int)])).length<=1000:=by
    rw[<-gv]at hB;simp only[ac3,acV]at hB⊢;omega
   have d_:=ih (i+1) (es++[(i:Int)]) II qO w7 (by unfold oR;simp) (by omega) (by simp;omega) ko Sz st7;refine gE rfl rfl (by rfl) (f:=112) (args:=#[.int .i64 ((i+1:Nat):Int),.int .i64 (d:Nat),cS,.pointer (some ⟨bN,0,none⟩),.pointer (some ⟨bF,0,none⟩),cR]) (w':=w7) ?_ d_ ?_
   .have k39:a7.eval (.tmp 39)=fv:=Tw;have k41:a7.eval (.tmp 41)=.int .i64 ((i+1:Nat):Int):=UC;have k43:a7.eval (.tmp 43)=.int .i64 (d:Nat):=A7;refine(y0 (f:=.tmp 39) (x:=.tmp 41) (y:=.tmp 43) w7 rfl rfl rfl (k39.trans lT) (by kernel_rfl)).trans ?_;rw[k41,k43]
    rfl
   rintro en w8 ⟨rfl,Mi8,hM8,st8⟩;refine⟨_,rfl,?_⟩;show wpOpsIn _ _ _ _ _ [] (a7.put (some 44) (.tuple #[])) w8
   obtain⟨a8,Uu⟩:∃a8,a7.put (some 44) (.tuple #[])=a8:=⟨_,rfl⟩
   have Ur:dZ FI a7 a8:=by rw[<-Uu];exact dZ.put (λt ht=>by cases ht;rfl) _
   have ZU:a8.tmps.size=50:=by rw[<-Uu];simp[Act.put,XV.size]
   have aaP:a8.defers=[]:=by rw[<-Uu];exact XV.defers
   rw[Uu];have UJ:=XV.step ZU aaP (dZ.weaken Ur λt ht=>by simp[W6]at ht;simp[FI];omega);have h88:a8.tmps.getD 8 undef=.int .i64 (i:Int):=(Ur 8 rfl).trans h87;show Code.wpIn _ _ _ _ _ a8 w8;obtain⟨u,xE,xF,v8,ty8,T2,f1,f2,f3,f4,n1,n2,n3,n4⟩:=st8.st
   have NX:T2.length=(es.length+1)*1:=by have:=n2.1;simpa using this
   refine ac6 ?_;show wpOpsIn _ _ _ _ _ [0,1,2,3,4,5] a8 w8
   refine JT (P:=prog) (n:=50) (T:=23) (el:=3) (p:=3) (t1:=45) (t2:=46) (t3:=47) (t4:=48) (t5:=49) (bN:=bN) (i:=i3) (iT:=i23) (v:=v8) (ty:=ty8) (k:=es.length) (xs:=T2.take (es.length*1)) (last:=T2.drop (es.length*1))
    rfl rfl rfl rfl rfl rfl ⟨rfl,rfl,rfl⟩ ⟨rfl,rfl,rfl⟩ ⟨rfl,rfl,rfl⟩ ⟨rfl,rfl,rfl⟩ ⟨rfl,rfl,rfl⟩ ⟨rfl,rfl,rfl⟩ rfl rfl rfl (by kernel_rfl) M1 HY pZ (by decide) UJ.size (by decide) UJ.t3 n1 (by rw[aem,mD];simpa using n2) (by rw[mD,adf,NX];omega) (by omega) ?_
   intro a9 v9 abH aaZ Oq TB aaz Ke
   have ll:∀b,b≠bN->(w8.setRow bN #[v9]).heap[b]?=w8.heap[b]?:=λb hb=>adL w8 bN b #[v9] hb
   have st9:Lv wB Mi8 bF bN s cS cR fv (II++jW s d (es++[(i:Int)])) es (w8.setRow bN #[v9]):=by
    refine st8.dS ⟨_,n1⟩ ⟨rfl,rfl,rfl,by simp,λb _ hm=>ll b λe=>hm (.inl e)⟩ (aer w8 bN _ #[v9] ty8 (0,0) n1) (U':=T2.take (es.length*1)) (im (by rw[mD]at Ke;exact Ke) λb hb=>ll b λe=>by rw[TB]at hb;have:=(n2.lt b hb).1;omega) ⟨tO es,λj hj k yb=>?_⟩ λb hb=>.inl (by rw[<-TB];exact hb)
    have Bz:k=0:=by
     have:=(tO es _ (acy hj)).1;omega
    subst Bz
    have Bw:j<es.length:=by rw[cy]at hj;exact hj
    have dH:j<(ints (es++[(i:Int)])).length:=by rw[cy];simp;omega
    have ib:(ints (es++[(i:Int)]))[j]=(ints es)[j]:=by
     simp only[ints,ada,ac5,adp];exact ac9 (by simpa using Bw)
    obtain⟨x,x1,x2⟩:=n3.2 j dH 0 (by rw[ib];exact yb);refine⟨x,by rw[afk (by omega)];exact x1,?_⟩;simp only[ib]at x2;exact x2.mono (bc.of_eq λ_ _ h=>h.elim)
   have VG:dZ FI a8 a9:=λt ht=>by
    have:t<35:=by simp[FI]at ht;omega
    exact Oq t (by omega) (by omega) (by omega) (by omega) (by omega)
   have fr9:=UJ.step abH (aaZ.trans UJ.defers) (dZ.weaken VG λt ht=>by simp[W6]at ht;simp[FI];omega);have qU:a9.tmps.getD 8 undef=.int .i64 (i:Int):=(VG 8 rfl).trans h88;clear Ke ll;generalize w8.setRow bN #[v9]=w9 at st9⊢;simp only[Exit.then,Exit.inBlock];refine fin fr9 qU st9 (λa10 Oz abJ VB ZZ=>?_) _ _ (by kernel_rfl) (by kernel_rfl) (by kernel_rfl);refine⟨⟨i+1,_,Mi8,abJ,VB,by omega,by omega,λb k h=>hM8 b k (Yi b k h),ZZ,by rw[<-gv];simp⟩,?_⟩;rw[VB,h8];show s.name.words.length-((i+1:Nat):Int).toNat<s.name.words.length-(i:Int).toNat;rw[Int.toNat_natCast,Int.toNat_natCast];omega
end Go.Proofs.Tryz
