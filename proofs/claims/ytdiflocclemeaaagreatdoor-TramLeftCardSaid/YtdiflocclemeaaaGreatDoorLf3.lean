/-
  For all tram sheets and all lists of words the call of TramLeft returns true, and each argument reads behind the call as it read before. Conditions: none beyond those of the given card.
-/
import Derived.Test.YtdiflocclemeaaaGreatDoorLf2
import Derived.Test.YtdiflocclemeaaaGreatDoorTie
import Derived.Test.YtdiflocclemeaaaGreatDoorCards
set_option maxRecDepth 100000
set_option maxHeartbeats 8000000
set_option linter.all false
set_option linter.unusedVariables false
set_option linter.unusedSimpArgs false
set_option linter.deprecated false
namespace Go.Proofs.Tryz
open Go Go.AL Go.RowKit Go.Proofs Go.Proofs.Tram
attribute [local simp] dF fc eT dW ef dI dJ cZ c_ ee cW cE gh gj aF aH ev aQ.S aQ.H bz ar aT AL.start AV.cells AV.storable AV.bZ bo bX dS b0 HR.okB post cy cJ cK AV.out AV.bT cb dk fz gI AV.vw df vI int b_ aM cU db gB iN eY dQ bQ AV.aG AV.bH
variable{GI:World->Prop}
theorem Uc(hG:aw GI)(s:az)(hs:s.cells.length<1000)(e:Nat)(he:e=0\/e=1)(cI:bm e s≠[]):AC prog GI 98 [a_ s,.int .i64 (e:Nat)] (.ret (.slice (.own 3) (ints (bm e s)))):=by
 refine AC.iF func98 rfl ntmps98 (by simp) λcc w=>RT hG s hs e he cc w λS5 H5 s6=>?_
 have BL:ints (bm e s)≠[]:=by simpa[ints]using cI
 have Fq:S5 6=.slice (.own 3) (ints (bm e s)):=by rw[s6];simp[grow,BL]
 clear s6;show SW prog GI 29 none (.seq (.region _ _ false) .ret) _ _ _ _
 refine SW.seq (SW.hand hG (p:=0) (lm:=[0,1]) (l2:=[]) (kd:=[]) (oh:=[_,_]) (lI:=[]) rfl rfl rfl rfl (by kernel_rfl) (λ_ h=>h) (lU:=[]) (kZ:=[]) rfl rfl rfl rfl
  (K1:=λS H=>S 6=.slice (.own 3) (ints (bm e s))) (K2:=λo S H=>o=Old.plain cc w/\S 4=.slice (.own 3) (ints (bm e s))) (K3:=λo S H=>o=Old.plain cc w/\S 4=.slice (.own 3) (ints (bm e s))) ?_ ?_ ?_ ?_)
 .exact Fq
 .rintro w0 g S H a w' m cT ho R s6;have r6:=R.slot 6 (by decide) (λh=>h);rw[s6]at r6;have bq:=R.size
  obtain⟨c,hc⟩:∃c,a.tmps.getD 6 undef=c:=⟨_,rfl⟩
  rw[hc]at r6;have rv:RD g.Pr w' (.slice .view (ints (bm e s))) c:=(r6.fj rfl).aG;refine aV rfl rfl (by rfl) ((run_move (x:=.tmp 6) w' rfl).trans (congrArg (λv=>Result.ok (Next.value v) w') hc)) ?_;have R1:=R.put 28 (.slice .view (ints (bm e s))) c (by decide) (.data _ _ rv) trivial
  have rK:(a.put (some 28) c).tmps.getD 28 undef=c:=by simp[Act.put,bq]
  refine aV rfl rfl (by rfl) ((run_assign (x:=.tmp 28) w' rfl).trans (congrArg (λv=>Result.ok (Next.value v) w') rK)) ?_;have R2:=R1.put 4 (.slice .view (ints (bm e s))) c (by decide) (.data _ _ rv) trivial
  have e4:((a.put (some 28) c).put (some 4) c).tmps.getD 4 undef=c:=by simp[Act.put,bq]
  have e6:((a.put (some 28) c).put (some 4) c).tmps.getD 6 undef=a.tmps.getD 6 undef:=by simp[Act.put,adg]
  obtain⟨g',q1,R3⟩:=R2.JE (t:=6) (u:=4) (e:=3) (es:=ints (bm e s)) (by decide) (by decide) (by decide) (by simp[ar,s6]) (by rw[e4,e6,hc]);exact⟨g',_,_,R3,by rw[q1];exact ho,aS _ _ _⟩
 .rintro o S H ⟨rfl,s4⟩;exact⟨λ_ h=>h,rfl,s4⟩
 .rintro o S H ⟨rfl,s4⟩;refine SW.ret ⟨eD.plain rfl,rfl,_,?_,rfl⟩;show cy prog 29 [.tmp 4] S H=_;simp[cy,cJ,cK,s4,AV.bT,AV.out]
theorem DJ{a:Act}{w:World}{o:Oper}{x y:Operand}{t ty:TypeId}{m n:Int}(ho:o.op=.binOp .add t x y ty)(hx:a.eval x=.int .i64 m)(hy:a.eval y=.int .i64 n):(execOp a.eval o).run prog w=.ok (.value (.int .i64 (IntKind.i64.wrap (m+n)))) w:=by
 unfold execOp;simp[ho,hx,hy,Go.binOp,Op.intArith,eqGuard]
def gP(s:az)(i n:Nat):List Int:=(bm 0 s).set i ((bm 0 s).getD i 0+n)
def mz(s:az)(an:List Int)(i n:Nat):Bool:=decide (tN s an (gP s i n)=an.length)
theorem Mw(l:List Int):mP 1 (ints l):=λx hx=>by
 obtain⟨k,_,rfl⟩:=adx.1 hx;exact⟨rfl,rfl,λc hc=>by simp[AV.cells]at hc;subst hc;rfl⟩
theorem ints_set(l:List Int)(i:Nat)(x:Int):(ints l).set i (.int .i64 x)=ints (l.set i x):=by simp[ints,List.map_set]
structure PO(cc:Nat->Nat->Prop)(o:Old):Prop where
 c:o.c=cc
 ds:o.ds=[]
 bx:∀d,¬o.bx d
theorem TL (hG:aw GI) (s:az) (h:eQ s) (an:List Int) (hn:(∀ x∈an,0≤x∧x≤1000)∧an.length≤1000) {i:Nat} (hi:i < s.cells.length) {n:Nat} (D1:n≤900) :
  AC prog GI 104 [.int .i64 (n:Nat),.ref (ao s),.ref [.int .i64 (i:Nat)],.ref (aZ s an)] (.ret (.bool (mz s an i n))):=by
 have hc:=h.cells
 have DT:(bm 0 s).length=s.cells.length:=by simp[bm]
 have cI:bm 0 s≠[]:=λh0=>by rw[h0]at DT;simp at DT;omega
 have px:=(pg h 0).2
 have cH:i<(bm 0 s).length:=by omega
 have hxi:=px _ (ada cH)
 have ab5:(bm 0 s)[i]<=20:=by
  have:=h.tH _ (ada hi);simp[bm,qK];omega
 have Gy:(bm 0 s).getD i 0=(bm 0 s)[i]:=by simp[adN,cH]
 have HK:=Uc hG s (by omega) 0 (.inl rfl) cI
 have pv:(gP s i n).length=s.cells.length:=by simp[gP,DT]
 have A6:=M1 hG s h an hn.1 hn.2 (gP s i n) pv (λx hx=>by
  rcases agr hx with h1|h1
  .exact px x h1
  .rw[h1,Gy];omega)
 have lX:((dV an (eC (gP s i n)) (eh (dz s) s.cells.length):Int)==(an.length:Int))=mz s an i n:=by
  show _=decide (dV an (eC (gP s i n)) (eh (dz s) s.cells.length)=an.length);rw[ad7,adf,adX];omega
 obtain⟨i3,sh,mR⟩:=bp (P:=prog) (t:=3) (s:=1) (by kernel_rfl);obtain⟨d3,O9,QU⟩:=js (P:=prog) (t:=3) (by kernel_rfl)
 refine AC.iF func104 rfl ntmps104 (by simp) λcc w=>?_
 refine dU hG c104.qa (λS H=>S 0=.int .i64 (n:Nat)/\S 1=.ref (ao s)/\S 2=.ref [.int .i64 (i:Nat)]/\S 3=.ref (aZ s an)) ?_ ?_
 .simp[c104,af.qa,aZ,ao,ae]
 rintro S1 H1 ⟨s0,s1,s2,s3⟩;show SW prog GI 23 none (.seq _ (.seq _ (.seq _ .ret))) _ _ _ _
 refine SW.seq (SW.hand hG (p:=1) (lm:=[1]) (l2:=[2]) (kd:=[_]) (oh:=[_]) (lI:=[_]) rfl rfl rfl rfl (by kernel_rfl) (λ_ h=>h)
  (lU:=(c104.qb.qa.dl).take 1) (kZ:=(c104.qb.qa.dl).drop 2) (by kernel_rfl) (by kernel_rfl) (by kernel_rfl) (by kernel_rfl)
  (K1:=λS H=>S 0=.int .i64 (n:Nat)/\S 2=.ref [.int .i64 (i:Nat)]/\S 3=.ref (aZ s an)/\S 7=a_ s)
  (K2:=λo S H=>∃v,KO cc 3 1 (ints (bm 0 s)) o v/\S 0=.int .i64 (n:Nat)/\S 2=.ref [.int .i64 (i:Nat)]/\S 3=.ref (aZ s an)/\S 8=.val v)
  (K3:=λo S H=>∃v,KO cc 3 1 (ints (bm 0 s)) o v/\S 0=.int .i64 (n:Nat)/\S 2=.ref [.int .i64 (i:Nat)]/\S 3=.ref (aZ s an)/\S 6=.val v) ?_ ?_ ?_ ?_)
 .simp[c104,af.qa,af.qb,af.dl,s0,s1,s2,s3,a_,ao,ae]
 .rintro w0 g S H a w' m cT ho R ⟨s0,s2,s3,s7⟩;have r7:=R.slot 7 (by decide) (λh=>h);rw[s7]at r7
  refine fH rfl rfl (by rfl) (gK (k:=98) (args:=#[a.tmps.getD 7 undef,.int .i64 0]) w' rfl rfl ?_ (by kernel_rfl)) (HK w' (fy g false) #[a.tmps.getD 7 undef,.int .i64 0] (hG w0 w' cT (by have:=R.below;rwa [R.base]at this)) rfl (λj hj dY=>by
   match j,hj with
   |0,_=>exact(r7.cj rfl).mono (bl.same λb k _ hp=>.inl hp) λ_ _ h=>h
   |1,_=>exact .data _ _ (.int _ _))) ?_
  .simp only[adK,adC,adO,Act.eval]
  intro en w2 hE;obtain⟨v,g',rfl,R2,hK⟩:=D8 R (cc:=cc) (by rw[ho];exact⟨rfl,rfl,λ_ h=>h⟩) sh (by rw[mR];exact Mw _) hE;rw[mR]at hK;refine⟨_,rfl,?_⟩
  have nu:v.oneCell'=true:=by
   rcases hK.row with⟨⟨_,rfl⟩,_⟩|⟨_,_,_,rfl,_⟩<;>rfl
  exact⟨g',_,_,R2.put 8 (.val v) v (by decide) (.data _ _ (.val _ nu)) trivial,v,hK,by simp[ar,s0],by simp[ar,s2],by simp[ar,s3],by simp[ar]⟩
 .rintro o S H ⟨v,hK,s0,s2,s3,s8⟩;refine⟨hK.bx,?_⟩;simp[c104,af.qa,af.qb,af.dl,s0,s2,s3,s8];exact hK
 clear s0 s1 s2 s3 S1 H1;rintro o S1 H1 ⟨v,hK,s0,s2,s3,s6⟩;have ZT:=hK.bx
 refine SW.seq (SW.hand hG (p:=2) (lm:=[2,3,4,5,6,7]) (l2:=[]) (kd:=[_,_]) (oh:=[_,_,_,_,_,_]) (lI:=[]) rfl rfl rfl rfl (by kernel_rfl) ZT
  (lU:=(c104.qb.qb.qa.dl).take 2) (kZ:=[]) (by kernel_rfl) rfl (by kernel_rfl) rfl
  (K1:=λS H=>S 0=.int .i64 (n:Nat)/\S 3=.ref (aZ s an)/\S 6=.val v/\S 9=.val v/\S 10=.int .i64 (i:Nat))
  (K2:=λo S H=>PO cc o/\S 3=.ref (aZ s an)/\S 6=vI (gP s i n))
  (K3:=λo S H=>PO cc o/\S 3=.ref (aZ s an)/\S 6=vI (gP s i n)) ?_ ?_ ?_ ?_)
 .simp[c104,af.qa,af.qb,af.dl,s0,s2,s3,s6]
 .rintro w0 g S H a w' m cT ho R ⟨s0,s3,s6,s9,bL⟩;rw[<-ho]at hK
  have GQ:i<(ints (bm 0 s)).length:=by simpa[ints]using cH
  obtain⟨b,cap,cur,hv,n9,sI,fo⟩:=hK.cell R GQ
  have A2:(ints (bm 0 s))[i]=.int .i64 (bm 0 s)[i]:=by simp[ints]
  have rI:0<((ints (bm 0 s))[i]).cells.length:=by rw[A2];simp[AV.cells]
  have xh:=fo 0 rI
  have No:KB (((ints (bm 0 s))[i]).cells[0]'rI)=.int .i64 (bm 0 s)[i]:=by simp only[A2];rfl
  rw[No,aeD,Nat.add_zero]at xh;have t9:=R.slot 9 (by decide) (λh=>h);rw[s9]at t9;have e9:a.eval (.tmp 9)=.slice (some ⟨b,0,none⟩) (ints (bm 0 s)).length cap:=t9.fG.trans hv;have t10:=R.slot 10 (by decide) (λh=>h);rw[bL]at t10;have jt:a.eval (.tmp 10)=.int .i64 (i:Nat):=t10.int_eq;have t0:=R.slot 0 (by decide) (λh=>h);rw[s0]at t0;have e0:a.eval (.tmp 0)=.int .i64 (n:Nat):=t0.int_eq;have bq:=R.size;have kR:IntKind.i64.wrap ((bm 0 s)[i]+n)=(bm 0 s)[i]+n:=aN (by omega);refine aV rfl rfl (by rfl) (lH (k:=i) rfl (by kernel_rfl) sh e9 jt GQ) ?_;rw[mR,aeD];have R1:=R.put 11 (.val (.pointer (some ⟨b,i,none⟩))) (.pointer (some ⟨b,i,none⟩)) (by decide) (.data _ _ (.val _ rfl)) trivial
  have p:=λt c=>bB a 11 t c (by omega)
  have f11:=(p 11 (.pointer (some ⟨b,i,none⟩))).trans (if_pos rfl);have f9:=((p 9 (.pointer (some ⟨b,i,none⟩))).trans (if_neg (by decide))).trans e9;have f10:=((p 10 (.pointer (some ⟨b,i,none⟩))).trans (if_neg (by decide))).trans jt;have f0:=((p 0 (.pointer (some ⟨b,i,none⟩))).trans (if_neg (by decide))).trans e0;have RF:=R1.size;show wpOpsIn _ _ _ _ _ [3,4,5,6,7] (a.put (some 11) (.pointer (some ⟨b,i,none⟩))) w'
  generalize a.put (some 11) (.pointer (some ⟨b,i,none⟩))=a1 at*
  clear p e9 jt e0 t9 t10 t0;refine aV rfl rfl (by rfl) (uC rfl f11 O9 QU sI xh.2) ?_;have R2:=R1.put 12 (.int .i64 (bm 0 s)[i]) (.int .i64 (bm 0 s)[i]) (by decide) (.data _ _ (.int _ _)) trivial
  have p:=λt c=>bB a1 12 t c (by omega)
  have g12:=(p 12 (.int .i64 (bm 0 s)[i])).trans (if_pos rfl);have g9:=((p 9 (.int .i64 (bm 0 s)[i])).trans (if_neg (by decide))).trans f9;have g10:=((p 10 (.int .i64 (bm 0 s)[i])).trans (if_neg (by decide))).trans f10;have g0:=((p 0 (.int .i64 (bm 0 s)[i])).trans (if_neg (by decide))).trans f0;have yO:=R2.size;show wpOpsIn _ _ _ _ _ [4,5,6,7] (a1.put (some 12) (.int .i64 (bm 0 s)[i])) w'
  generalize a1.put (some 12) (.int .i64 (bm 0 s)[i])=a2 at*
  clear p f11 f9 f10 f0;refine aV rfl rfl (by rfl) ((run_move (x:=.tmp 0) w' rfl).trans (congrArg (λv=>Result.ok (Next.value v) w') g0)) ?_;have R3:=R2.put 13 (.int .i64 (n:Nat)) (.int .i64 (n:Nat)) (by decide) (.data _ _ (.int _ _)) trivial
  have p:=λt c=>bB a2 13 t c (by omega)
  have k13:=(p 13 (.int .i64 (n:Nat))).trans (if_pos rfl);have k12:=((p 12 (.int .i64 (n:Nat))).trans (if_neg (by decide))).trans g12;have k9:=((p 9 (.int .i64 (n:Nat))).trans (if_neg (by decide))).trans g9;have XF:=((p 10 (.int .i64 (n:Nat))).trans (if_neg (by decide))).trans g10;have aa9:=R3.size;show wpOpsIn _ _ _ _ _ [5,6,7] (a2.put (some 13) (.int .i64 (n:Nat))) w'
  generalize a2.put (some 13) (.int .i64 (n:Nat))=a3 at*
  clear p g12 g9 g10 g0;refine aV rfl rfl (by rfl) (DJ rfl k12 k13) ?_;rw[kR];have R4:=R3.put 14 (.int .i64 ((bm 0 s)[i]+n)) (.int .i64 ((bm 0 s)[i]+n)) (by decide) (.data _ _ (.int _ _)) trivial
  have p:=λt c=>bB a3 14 t c (by omega)
  have QC:=(p 14 (.int .i64 ((bm 0 s)[i]+n))).trans (if_pos rfl);have l9:=((p 9 (.int .i64 ((bm 0 s)[i]+n))).trans (if_neg (by decide))).trans k9;have l10:=((p 10 (.int .i64 ((bm 0 s)[i]+n))).trans (if_neg (by decide))).trans XF;have y0:=R4.size;show wpOpsIn _ _ _ _ _ [6,7] (a3.put (some 14) (.int .i64 ((bm 0 s)[i]+n))) w'
  generalize a3.put (some 14) (.int .i64 ((bm 0 s)[i]+n))=a4 at*
  clear p k12 k13 k9 XF;refine aV rfl rfl (by rfl) (lH (k:=i) rfl (by kernel_rfl) sh l9 l10 GQ) ?_;rw[mR,aeD];have R5:=R4.put 15 (.val (.pointer (some ⟨b,i,none⟩))) (.pointer (some ⟨b,i,none⟩)) (by decide) (.data _ _ (.val _ rfl)) trivial
  have p:=λt c=>bB a4 15 t c (by omega)
  have m15:=(p 15 (.pointer (some ⟨b,i,none⟩))).trans (if_pos rfl);have m14:=((p 14 (.pointer (some ⟨b,i,none⟩))).trans (if_neg (by decide))).trans QC;show wpOpsIn _ _ _ _ _ [7] (a4.put (some 15) (.pointer (some ⟨b,i,none⟩))) w'
  generalize a4.put (some 15) (.pointer (some ⟨b,i,none⟩))=a5 at*
  clear p QC l9 l10;obtain ⟨y3,dv,Gc,Tm⟩:=xS (o:={ dst:=none,op := .store 3 (.tmp 15) (.tmp 14),type:=0,pos := "",after := #[],guard:=none }) (v := .int .i64 ((bm 0 s)[i]+n)) rfl m15 sh mR sI xh.1 m14 rfl;refine dM rfl rfl (by rfl) dv ?_;have R6:=R5.mF n9 (.cells y3 3 (0,0));have BJ:=hK.set (j:=i) (k:=0) GQ (by rw [A2];simp [AV.cells]) (x := .int .i64 ((bm 0 s)[i]+n)) (u := .int .i64 ((bm 0 s)[i]+n)) (λx hx=>by simp at hx;subst hx;exact ⟨rfl,rfl,λc hc=>by simp [AV.cells] at hc;subst hc;rfl⟩) (by rw [A2]<;>rfl) hv n9 Gc (λm=>by rw [Tm m,aeD,Nat.add_zero]<;>rfl);rw [ints_set] at BJ
  have oW:(bm 0 s).set i ((bm 0 s)[i]+n)=gP s i n:=by rw[gP,Gy]
  rw[oW]at BJ;obtain⟨g',R7,q1,q2,q3⟩:=KO.done BJ R6 (t:=6) (by decide) (by simp[ar,s6]);exact⟨g',_,_,R7,⟨q1,q2,q3⟩,by simp[ar,s3],by simp[ar]<;>rfl⟩
 .rintro o S H ⟨hp,s3,s6⟩;exact⟨hp.bx,hp,s3,s6⟩
 clear s0 s2 s3 s6 S1 H1 hK ZT;rintro o S1 H1 ⟨hp,s3,s6⟩;refine zJ hG c104.qb.qb.qb.qa (λd _=>hp.bx d) (λS H=>S 5=.bool (mz s an i n)) ?_ ?_
 .simp[c104,af.qa,af.qb,s3,s6,aZ,ao,ae];refine oc A6 ?_;simp[s3,s6,aZ,ao,ae];exact lX
 .intro S H s5;refine SW.ret ⟨eD.plain hp.ds,hp.c,_,?_,rfl⟩;show cy prog 23 [.tmp 5] S H=_;simp[cy,cJ,cK,s5,AV.bT,AV.out]
def mm(w:Word):Bool:=decide (w.aK.length<=8)&&decide (w.bK.length<=8)
def mU(s:aq):Bool:=(s.words.take 6).all mm&&(decide (s.aY.length<=8)&&decide (s.aR.length<=8)&&decide (s.words.length<=6))
theorem Ab{s:aq}(h:mU s=true):mG s:=by
 unfold mU at h;simp only[adb,adf]at h;obtain⟨h1,⟨h2,h3⟩,h4⟩:=h;rw[adn h4,adu]at h1
 have h5:∀w∈s.words,w.aK.length<=8/\w.bK.length<=8:=λw hw=>by simpa[mm]using h1 w hw
 exact⟨by omega,by omega,by omega,λw hw=>by have:=(h5 w hw).1;omega,λw hw=>by have:=(h5 w hw).2;omega⟩
def q_(s:az):Bool:=mU s.name&&decide (s.cells.length<=14)
theorem vQ{s:az}(h:q_ s=true):eZ s/\s.cells.length<=14/\s.name.words.length<=6:=by
 unfold q_ at h;rw[adb,adf]at h
 have h6:s.name.words.length<=6:=by
  have:=h.1;unfold mU at this;simp only[adb,adf]at this;exact this.2.2
 exact⟨⟨by omega,Ab h.1⟩,h.2,h6⟩
theorem Xs(hG:aw GI)(s:az):AC prog GI 28 [a_ s] (.ret (.bool (q_ s))):=by
 obtain⟨n,hn⟩:∃n,s.name=n:=⟨_,rfl⟩
 obtain⟨cs,vi⟩:∃n,s.cells=n:=⟨_,rfl⟩
 have hc:((cs.length:Int)<=14)↔cs.length<=14:=by omega
 have YG:((n.aY.length:Int)<=8)↔n.aY.length<=8:=by omega
 have ZJ:((n.aR.length:Int)<=8)↔n.aR.length<=8:=by omega
 have XK:((n.words.length:Int)<=6)↔n.words.length<=6:=by omega
 unfold q_;rw[hn,vi];refine bW hG func28 ntmps28 c28 ?_;refine aI (λS H=>S 1=.box 1 0/\H 1=some (ao s)) (by simp[a_,ao,ae]) ?_;rintro S H ⟨s1,h1⟩
 have hT:ao s=[.slice .view (cs.map iK),.int .i64 s.pos,.int .i64 s.reach,.int .i64 s.eH,.int .i64 s.dE]++ae n:=by rw[<-hn,<-vi]<;>rfl
 rw[hT]at h1;generalize ao s=T at hT;simp[s1,h1];refine bw 3 (min n.words.length 6) (λi S H=>S 1=.box 1 0/\H 1=some ([.slice .view (cs.map iK),.int .i64 s.pos,.int .i64 s.reach,.int .i64 s.eH,.int .i64 s.dE]++ae n)/\S 3=.int .i64 (i:Nat)/\(∀j (hj:j<(n.words.take 6).length),j<i->mm (n.words.take 6)[j]=true)) (λi S H h=>h.2.2.1) ⟨by simp[s1],by simp[h1],by simp,by simp⟩ ?_;clear s1 h1 S H;rintro i hi S H ⟨s1,e1,s3,hb⟩
 by_cases au:i<n.words.length
 case neg=>
  have cH:i=n.words.length:=by omega
  subst cH
  have Jt:n.words.length<=6:=by omega
  have fQ:(n.words.take 6).all mm=true:=sJ λj hj=>hb j hj (by rw[adM]at hj;omega)
  by_cases h0:cs.length<=14<;>by_cases h1:n.aY.length<=8<;>by_cases h2:n.aR.length<=8<;>simp[s1,e1,s3,ae,mU,fQ,h0,h1,h2,Jt,hc,YG,ZJ,XK]
 by_cases h6:i<6
 case neg=>
  have Kr:¬(i:Int)<6:=by omega
  have fQ:(n.words.take 6).all mm=true:=sJ λj hj=>hb j hj (by rw[adM]at hj;omega)
  by_cases h0:cs.length<=14<;>by_cases h1:n.aY.length<=8<;>by_cases h2:n.aR.length<=8<;>simp[s1,e1,s3,au,Kr,ae,mU,fQ,h0,h1,h2,hc,YG,ZJ,XK]
 have hw:IntKind.i64.wrap ((i:Int)+1)=i+1:=aN (by omega)
 have Kr:(i:Int)<6:=by omega
 have hit:i<(n.words.take 6).length:=by rw[adM];omega
 have iJ:(n.words.take 6)[i]=n.words[i]:=afk
 by_cases h1:n.words[i].aK.length<=8
 case neg=>
  have hf:mm (n.words.take 6)[i]=false:=by rw[iJ];simp[mm,h1]
  have DY:(8:Int)<n.words[i].aK.length:=by omega
  simp[s1,e1,s3,au,Kr,ae,bD,DY];simp[mU,pP hit hf]
 have DY:¬(8:Int)<n.words[i].aK.length:=by omega
 by_cases h2:n.words[i].bK.length<=8
 case neg=>
  have sT:(8:Int)<n.words[i].bK.length:=by omega
  have hf:mm (n.words.take 6)[i]=false:=by rw[iJ];simp[mm,h2]
  simp[s1,e1,s3,au,Kr,ae,bD,DY,sT];simp[mU,pP hit hf]
 have sT:¬(8:Int)<n.words[i].bK.length:=by omega
 have ht:mm (n.words.take 6)[i]=true:=by rw[iJ];simp[mm,h1,h2]
 simp[s1,e1,s3,au,Kr,ae,bD,DY,sT,hw]
 exact⟨by omega,λj hj gw=>by
  have:=jY hit hb ht j (by rw[adM];omega) gw
  rwa [afk]at this⟩
def JD(s:az):Bool:=q_ s&&cL s
theorem acY(hG:aw GI)(s:az):AC prog GI 21 [a_ s] (.ret (.bool (JD s))):=by
 have h28:=Xs hG s;unfold JD
 cases hs:q_ s with
 |false=>
  rw[hs]at h28;refine bW hG func21 ntmps21 c21 ?_;simp[c21,a_,ao,ae];refine oc h28 ?_;simp
 |true=>
  have h30:=aaJ hG s (vQ hs).1;rw[hs]at h28;refine bW hG func21 ntmps21 c21 ?_;simp[c21,a_,ao,ae];refine oc h28 ?_;simp;refine oc h30 ?_;simp
def Ks(s:az):AV:=match j_ 0 s with
 |[.int _ n,.int _ e]=>.dN [.bool (e==0&&n==s.name.words.length),.bool (e==0&&(decide (0<=n)&&decide (n<=s.name.words.length))||e==7)]
 |_=>.br
theorem Wf(e:Nat)(s:az):∃n k:Int,j_ e s=[.int .i64 n,.int .i64 k]:=by
 unfold j_;split
 .split<;>exact⟨_,_,rfl⟩
 .exact⟨_,_,rfl⟩
theorem aae(hG:aw GI)(s:az)(hs:eZ s):AC prog GI 42 [a_ s] (.ret (Ks s)):=by
 have Zg:=VZ hG s hs;unfold Ks;obtain⟨n,k,G0⟩:=Wf 0 s;rw[G0]at Zg⊢;simp only
 by_cases h0:k=0
 .subst h0
  by_cases h1:0<=n
  .by_cases h2:n<=s.name.words.length
   .refine bW hG func42 ntmps42 c42 ?_;simp[c42,a_,ao,ae];refine oc Zg ?_;simp[h1,h2]
   .refine bW hG func42 ntmps42 c42 ?_;simp[c42,a_,ao,ae];refine oc Zg ?_;simp[h1,h2]
  .refine bW hG func42 ntmps42 c42 ?_;simp[c42,a_,ao,ae];refine oc Zg ?_;simp[h1]
 .have hk:(k==0)=false:=by simpa using h0
  refine bW hG func42 ntmps42 c42 ?_;simp[c42,a_,ao,ae];refine oc Zg ?_;simp[h0,hk]
theorem UX(hG:aw GI)(s:List UInt8):AC prog GI 168 [.bool true,.str s] (.ret (.dN [])):=by
 refine bW hG func168 ntmps168 c168 ?_;simp[c168]
def CQ(w:List UInt8):Bool:=Bb w&&decide (w.length<=2)
theorem ze{w:List UInt8}:CQ w=true↔w≠[]/\w.length<=2/\(∀c∈w,digit c)/\kJ (de w)=w:=by
 unfold CQ;rw[adb,CD,adf]
 constructor
 .rintro⟨⟨h1,h2,h3,h4⟩,h5⟩;exact⟨h1,h5,h3,h4⟩
 .rintro⟨h1,h2,h3,h4⟩;exact⟨⟨h1,by omega,h3,h4⟩,h2⟩
theorem sR:∀(w:List UInt8),(∀c∈w,digit c)->w.length<=2->0<=de w/\de w<100
 |[],_,_=>by simp[de]
 |[a],h,_=>by have:=h a (by simp);unfold digit at this;simp[de];omega
 |[a,b],h,_=>by have h1:=h a (by simp);have h2:=h b (by simp);unfold digit at h1 h2;simp[de];omega
theorem Pp(i:Nat)(hi:i<100):AC prog GI 162 [.int .i64 (i:Nat)] (.ret (.str (B6 20 i))):=by
 intro w old ck hG hl hr;obtain⟨v,rfl⟩:=U5 hl rfl;have e1:=(hr 0 (by simp) (by simp)).int_eq;simp only[List.getElem_toArray,List.getElem_cons_zero]at e1;subst e1;refine(Tryz.strconv_Itoa_small i hi w).mono ?_;rintro e w' ⟨rfl,rfl⟩;refine⟨aeb _ _,λ_=>0,λ_ _=>rfl,_,rfl,.data _ _ ?_,trivial⟩;rw[B0 20 i (by omega) (by omega)];exact .str _
theorem vy{n:Int}(h0:0<=n)(h1:n<100):AC prog GI 162 [.int .i64 n] (.ret (.str (kJ n))):=by
 have:=Pp (GI:=GI) n.toNat (by omega);rw[afN h0]at this;exact this
noncomputable def tY:af:=af.qb c169.qb.qb.qa.qb.qb
noncomputable def A9:af:=af.qb c169.qb.qb
theorem OH(hG:aw GI)(wd:List UInt8)(hw:CQ wd=true):AC prog GI 169 [.str wd] (.ret (.int .i64 (de wd))):=by
 obtain⟨cI,Lz,zF,hde⟩:=ze.1 hw
 refine AC.iF func169 rfl ntmps169 (by simp) λcc w=>?_
 have dH:∀k d,¬(oK cc w k).bx d:=λ_ _ h=>h
 refine dU hG c169.qa (λS' H'=>S' 0=.str wd) ?_ ?_
 .simp[c169,af.qa]
 rintro S1 H1 s0;refine dU hG c169.qb.qa (λS' H'=>S' 0=.str wd/\S' 3=.int .i64 0) ?_ ?_
 .simp[c169,af.qa,af.qb,s0]
 rintro S2 H2 ⟨s0,s3⟩;show SW prog GI 41 none (.seq (.seq _ (.block 0 (.loop _))) (.seq _ (.seq _ .ret))) _ _ _ _
 obtain⟨sb,lX⟩:∃sb:ByteArray,sb=⟨wd.toArray⟩:=⟨_,rfl⟩
 refine SW.seq (SW.seq (SW.mid hG (p:=1) (oh:={ dst:=some 7,op := .range 9 (.tmp 6),type:=0,pos := "text.go:97",after:=_,guard:=none }) (kd:=[_]) (lI:=[]) (l2:=[]) rfl rfl rfl rfl (by kernel_rfl) rfl (λ_ h=>h) (lU:=(c169.qb.qb.qa.qa.dl).take 1) (kZ:=[]) (by kernel_rfl) rfl (by kernel_rfl) rfl
  (K1:=λS' H'=>S' 6=.str wd/\S' 3=.int .i64 0/\S' 0=.str wd)
  (K2:=λo S' H'=>∃k b,o=oK cc w k/\k b=some (.stringIter sb 0)/\S' 7=.val (.pointer (some ⟨b,0,none⟩))/\S' 3=.int .i64 0/\S' 0=.str wd)
  (K3:=λo S' H'=>∃k b,o=oK cc w k/\k b=some (.stringIter sb 0)/\S' 7=.val (.pointer (some ⟨b,0,none⟩))/\S' 3=.int .i64 0/\S' 0=.str wd) ?_ ?_ ?_ ?_))
 .simp[c169,af.qa,af.qb,af.dl,s0,s3]
 .rintro w0 g S8 H8 a w8 ho R ⟨s6,s3,s0⟩;have t6:=R.slot 6 (by decide) (λh=>h);rw[s6]at t6
  have t6:a.eval (.tmp 6)=.string sb:=by rw[lX];exact l0 t6
  have gE:prog.underlying 9=some .string:=by kernel_rfl
  have R2:=R.lO (.stringIter sb 0);refine⟨_,_,_,ar S8 7 (.val (.pointer (some ⟨w8.heap.size,0,none⟩))),H8,.inl (xG rfl gE t6),R2.put 7 _ _ (by decide) (.data _ _ (.val _ rfl)) trivial,ar g.old.bf w8.heap.size (some (.stringIter sb 0)),w8.heap.size,?_,aS _ _ _,by simp[ar],by simp[ar,s3],by simp[ar,s0]⟩;show({ g.old with bf:=ar g.old.bf w8.heap.size _ }:Old)=_
  rw[ho]<;>rfl
 .rintro o S8 H8 ⟨k,b,rfl,h⟩;exact⟨dH _,k,b,rfl,h⟩
 rintro o S8 H8 ⟨k,b,rfl,vm,s7,s3,s0⟩
 refine SW.block (SW.Qe (λo S' H'=>∃k b pos,o=oK cc w k/\k b=some (.stringIter sb pos)/\pos<=wd.length/\(∀c∈wd.take pos,digit c)/\(0<pos->wd.length<=2)/\S' 7=.val (.pointer (some ⟨b,0,none⟩))/\S' 3=.int .i64 (de (wd.take pos))/\S' 0=.str wd)
  (λo S' _=>match S' 7 with|.val (.pointer (some a))=>(match o.bf a.block with|some (.stringIter _ p)=>wd.length-p|_=>0)|_=>0) ⟨k,b,0,rfl,vm,adZ _,by simp,by simp,s7,s3,s0⟩ ?_)
 rintro o S9 H9 ⟨k,b,pos,rfl,vm,gf,Z6,rI,s7,s3,s0⟩;have m7:=s7
 have Lq:∀(S:av)(k:Nat->Option Obj) p,S 7=.val (.pointer (some ⟨b,0,none⟩))->k b=some (.stringIter sb p)->(match S 7 with|.val (.pointer (some a))=>(match(oK cc w k).bf a.block with|some (.stringIter _ p)=>wd.length-p|_=>0)|_=>0)=wd.length-p:=by
  intro S k p h1 h2;rw[h1];show(match k b with|some (.stringIter _ p)=>wd.length-p|_=>0)=_;rw[h2]
 have bq:sb.size=wd.length:=by rw[lX]<;>rfl
 have QD:=UX (GI:=GI) hG wd
 have e8:∀n H,fz H (.int .i64 n)=.int .i64 n:=λn H=>rfl
 have e9:∀H,fz H (.str wd)=.str wd:=λH=>rfl
 have jt:∀b H,fz H (.bool b)=.bool b:=λb H=>rfl
 show SW prog GI 41 none (.seq _ (.seq (.cond _ _ _) (.block 1 (.seq _ (.seq _ _))))) _ _ _ _
 by_cases hp:pos<wd.length
 case neg=>
  refine SW.seq (SW.mid hG (p:=0) (oh:={ dst:=some 8,op := .next (.tmp 7) true,type:=0,pos := "text.go:97",after := #[],guard:=none }) (kd:=[]) (lI:=[_]) (l2:=[1]) rfl rfl rfl rfl (by kernel_rfl) rfl (dH _) (lU:=[]) (kZ:=(tY.qa.dl).drop 1) rfl (by kernel_rfl) rfl (by kernel_rfl)
   (K1:=λS' H'=>S' 7=.val (.pointer (some ⟨b,0,none⟩))/\S' 3=.int .i64 (de wd)/\S' 0=.str wd)
   (K2:=λo S' H'=>o=oK cc w k/\S' 8=.dN [.bool false]/\S' 3=.int .i64 (de wd)/\S' 0=.str wd)
   (K3:=λo S' H'=>o=oK cc w k/\S' 9=.bool false/\S' 3=.int .i64 (de wd)/\S' 0=.str wd) ?_ ?_ ?_ ?_)
  .have:pos=wd.length:=by omega
   subst this;rw[aea]at s3;exact⟨s7,s3,s0⟩
  .rintro w0 g oH rB a Iv ho R ⟨s7,s3,s0⟩;have t7:=R.slot 7 (by decide) (λh=>h);rw[s7]at t7;have t7:a.eval (.tmp 7)=.pointer (some ⟨b,0,none⟩):=t7.fG
   have hk:g.old.bf b=some (.stringIter sb pos):=by rw[ho];exact vm
   have hb:=(R.kept b _ hk).2.1;refine⟨_,_,_,ar oH 8 (.dN [.bool false]),rB,.inl (so rfl t7 hb (by omega)),R.put 8 _ _ (by decide) (.data _ _ (.dN _ _ rfl λi h h'=>?_)) trivial,ho,aS _ _ _,by simp[ar,s3],by simp[ar,s0]⟩
   match i,h with
   |0,_=>exact .bool _
  .rintro o oH rB ⟨rfl,s8,s3,s0⟩;refine⟨dH _,?_⟩;simp[c169,tY,af.qa,af.qb,af.dl,bn,aF,bg,aH,ev,aQ.S,aQ.H,ar,aT,s3,s0,s8,AV.aG]
  rintro o oH rB ⟨rfl,s9,s3,s0⟩;refine SW.seq (SW.cond rfl false (by show oH 9=_;rw[s9]) (SW.exit ?_));show SW prog GI 41 none (.seq _ _) _ _ _ _
  have hpe:pos=wd.length:=by omega
  have hs:=sR wd zF Lz;have J3:=vy (GI:=GI) hs.1 hs.2
  have L0:(wd !=[])=true:=by simpa using cI
  rw[hde]at J3;refine zJ hG A9.qa (λd _=>dH _ d) (λS' H'=>S' 3=.int .i64 (de wd)) ?_ ?_
  .simp[c169,A9,af.qa,af.qb,bC,bn,aF,bg,aH,aM,ev,aQ.S,aQ.H,ar,aT,s3,s0,AV.aG,dS,L0,e8];refine oc J3 ?_;simp[iD,ar,AV.aG,s3,s0,dS,e9,jt];refine oc QD ?_;simp[iD,ar,AV.aG,s3,s0]
  rintro S11 H11 s3;show SW prog GI 41 none (.seq _ .ret) _ _ _ _;refine zJ hG A9.qb.qa (λd _=>dH _ d) (λS' H'=>S' 2=.int .i64 (de wd)) ?_ ?_
  .simp[c169,A9,af.qa,af.qb,s3]
  rintro S12 H12 s2;refine SW.ret ⟨eD.plain rfl,rfl,_,?_,rfl⟩;show cy prog 41 [.tmp 2] S12 H12=_;simp[cy,cJ,cK,s2,AV.bT,AV.out]
 case pos=>
  obtain⟨c,hc⟩:∃c,wd[pos]=c:=⟨_,rfl⟩
  obtain⟨r,hr⟩:∃r:Nat,(Utf8.decode sb pos).1=r:=⟨_,rfl⟩
  obtain⟨p',xW⟩:∃p':Nat,pos+(Utf8.decode sb pos).2=p':=⟨_,rfl⟩
  have CO:sb[pos]'(by omega)=c:=by subst lX;rw[<-hc]<;>rfl
  refine SW.seq (SW.mid hG (p:=0) (oh:={ dst:=some 8,op := .next (.tmp 7) true,type:=0,pos := "text.go:97",after := #[],guard:=none }) (kd:=[]) (lI:=[_]) (l2:=[1]) rfl rfl rfl rfl (by kernel_rfl) rfl (dH _) (lU:=[]) (kZ:=(tY.qa.dl).drop 1) rfl (by kernel_rfl) rfl (by kernel_rfl)
   (K1:=λS' H'=>S' 7=.val (.pointer (some ⟨b,0,none⟩))/\S' 3=.int .i64 (de (wd.take pos))/\S' 0=.str wd)
   (K2:=λo S' H'=>o=oK cc w (ar k b (some (.stringIter sb p')))/\S' 7=.val (.pointer (some ⟨b,0,none⟩))/\S' 8=.dN [.bool true,.int .i64 pos,.int .i32 r]/\S' 3=.int .i64 (de (wd.take pos))/\S' 0=.str wd)
   (K3:=λo S' H'=>o=oK cc w (ar k b (some (.stringIter sb p')))/\S' 7=.val (.pointer (some ⟨b,0,none⟩))/\S' 9=.bool true/\S' 8=.dN [.bool true,.int .i64 pos,.int .i32 r]/\S' 3=.int .i64 (de (wd.take pos))/\S' 0=.str wd) ⟨s7,s3,s0⟩ ?_ ?_ ?_)
  .rintro w0 g oH rB a Iv ho R ⟨s7,s3,s0⟩;have t7:=R.slot 7 (by decide) (λh=>h);rw[s7]at t7;have t7:a.eval (.tmp 7)=.pointer (some ⟨b,0,none⟩):=t7.fG
   have hk:g.old.bf b=some (.stringIter sb pos):=by rw[ho];exact vm
   have hb:=(R.kept b _ hk).2.1;refine⟨_,_,_,ar oH 8 (.dN [.bool true,.int .i64 pos,.int .i32 r]),rB,.inl (Fk rfl t7 hb (by omega) hr xW),(R.mF hk _).put 8 _ _ (by decide) (.data _ _ (.dN _ _ rfl λi h h'=>?_)) trivial,?_,by simp[ar,s7],aS _ _ _,by simp[ar,s3],by simp[ar,s0]⟩
   .match i,h with
    |0,_=>exact .bool _
    |1,_=>exact .int _ _
    |2,_=>exact .int _ _
   .show({ g.old with bf:=ar g.old.bf b _ }:Old)=_
    rw[ho]<;>rfl
  .rintro o oH rB ⟨rfl,s7,s8,s3,s0⟩;refine⟨dH _,?_⟩;simp[c169,tY,af.qa,af.qb,af.dl,bn,aF,bg,aH,ev,aQ.S,aQ.H,ar,aT,s3,s0,s7,s8,AV.aG]
  rintro o oH rB ⟨rfl,s7,s9,s8,s3,s0⟩;refine SW.seq (SW.cond rfl true (by show oH 9=_;rw[s9]) (SW.skip ?_));show SW prog GI 41 none (.block 1 (.seq _ (.seq _ _))) _ _ _ _;have PB:digit c:=zF c (hc▸ada hp);have Ls:=PB;unfold digit at Ls;have RL:=decode_ascii sb pos (by omega) (by rw[CO];omega)
  have hrc:r=c.toNat:=by rw[<-hr,RL,CO]
  have Jm:p'=pos+1:=by rw[<-xW,RL]
  subst hrc;subst Jm
  have YH:∀x∈wd.take (pos+1),digit x:=by
   rw[adj hp,hc];intro x hx;rcases adm.1 hx with hx|hx
   .exact Z6 x hx
   .rw[ady]at hx;rw[hx];exact PB
  have lT:wd.take (pos+1)=wd.take pos++[c]:=by rw[adj hp,hc]
  have ZL:=qe (wd.take pos) Z6 (by simp;omega);refine SW.block (SW.mono (Q:=λe o S' H'=>e=.normal/\o=oK cc w (ar k b (some (.stringIter sb (pos+1))))/\S' 7=.val (.pointer (some ⟨b,0,none⟩))/\S' 3=.int .i64 (de (wd.take (pos+1)))/\S' 0=.str wd) ?_ (SW.og hG cV (by kernel_rfl) (λd _=>dH _ d) (ac:=af.qb tY.qb.qb) (by kernel_rfl) ?_))
  .rintro e o S' H' ⟨rfl,rfl,s7,s3,s0⟩;refine⟨⟨ar k b (some (.stringIter sb (pos+1))),b,pos+1,rfl,aS _ _ _,hp,YH,λ_=>Lz,s7,s3,s0⟩,?_⟩;show(match S' 7 with|.val (.pointer (some a))=>(match(oK cc w (ar k b (some (.stringIter sb (pos+1))))).bf a.block with|some (.stringIter _ p)=>wd.length-p|_=>0)|_=>0)<_;rw[Lq S' _ (pos+1) s7 (aS _ _ _),Lq S9 k pos m7 vm];omega
  .unfold jM.bC
   have g1:(48:Int)<=c.toNat:=by omega
   have g2:(c.toNat:Int)<=57:=by omega
   have g3:(wd.length:Int)<=2:=by omega
   have w1:IntKind.i64.wrap (10*de (wd.take pos))=10*de (wd.take pos):=aN (by omega);have w2:IntKind.i32.wrap ((c.toNat:Int)-48)=(c.toNat:Int)-48:=wrap32 (by omega);have w3:IntKind.i64.wrap ((c.toNat:Int)-48)=(c.toNat:Int)-48:=aN (by omega)
   have w4:IntKind.i64.wrap (10*de (wd.take pos)+((c.toNat:Int)-48))=de (wd.take (pos+1)):=by rw[lT,wz,aN (by omega)]
   simp[c169,tY,af.qa,af.qb,bC,bn,aF,bg,aH,cU,ev,aQ.S,aQ.H,ar,aT,s3,s0,s7,s8,AV.aG,dS,g1,g2,g3,e9,jt,bz];refine oc QD ?_;simp[iD,ar,AV.aG,s3,s0,s7,dS,w1,w2,w3,w4,bz]
end Go.Proofs.Tryz
namespace Go.Proofs.Tryz
open Go Go.AL Go.RowKit Go.Proofs Go.Proofs.Tram
variable{GI:World->Prop}
theorem po{s:az}(h:eQ s):dz s s.cells.length=false:=by
 have:=h.pos;unfold dz
 have:¬s.cells.length<s.pos.toNat:=by omega
 simp[this]
theorem Fg{s:az}(h:eQ s)(es:List End):∀x∈aW s es,0<x:=by
 intro x hx;obtain⟨i,hi,rfl⟩:=adx.1 hx;have hi:=adF.1 hi;have hw:=(lg h.name (ada hi)).C0;have hp:=h.eH;have ht:=h.dE;unfold ss;rw[fP hi];have a1:1*1<=s.eH*(s.name.words[i].aK.length:Int):=aeO (by omega) (by omega) (by omega) (by omega);have a3:0<=s.dE*(iV es i s.name.words[i].aK.length:Int):=aeF (by omega) (by omega);omega
theorem Fl{an:List Int}(hp:∀x∈an,0<x){bc:Nat->Int}{vs:List (Nat×Nat)}{v:Nat×Nat}(hv:v∈vs)(h:an.sum<=ia bc v.1 (v.2+1)):dV an bc vs=an.length:=by
 obtain⟨a,b,rfl⟩:=List.append_of_mem hv
 have key:∀(b:List (Nat×Nat))(n:Nat),n=an.length->b.foldl (λn v=>n+(cQ (an.drop n) (ia bc v.1 (v.2+1))).1) n=an.length:=by
  intro b
  induction b with
  |nil=>intro n hn;exact hn
  |cons y b ih=>
   intro n hn;rw[List.foldl_cons];refine ih _ ?_;rw[hn,afq];simp[cQ]
 have e:dV an bc (a++v::b)=b.foldl (λn v=>n+(cQ (an.drop n) (ia bc v.1 (v.2+1))).1) (dV an bc a+(cQ (an.drop (dV an bc a)) (ia bc v.1 (v.2+1))).1):=by
  unfold dV;rw[adL,List.foldl_cons]
 rw[e];refine key b _ ?_;have hle:=qp an bc a
 obtain⟨n,hn⟩:∃n,dV an bc a=n:=⟨_,rfl⟩
 rw[hn]at hle⊢
 have pW:∀x∈an.drop n,0<x:=λx hx=>hp x (ae3 hx)
 have hs:(an.take n).sum+(an.drop n).sum=an.sum:=by rw[<-aeC,aeq]
 have h0:=j4 (l:=an.take n) λx hx=>hp x (aeg hx)
 have h1:=j4 (l:=an.drop n) pW;have:=(Dq pW (t:=ia bc v.1 (v.2+1)) (by omega)).2 (by omega);rw[this,ad8];omega
theorem tE{s:az}(h:eQ s)(i n:Nat):∀j,0<=eC (gP s i n) j:=λj=>by
 unfold eC gP;rw[adN,afV];have hb:=(pg h 0).2
 have hg:∀k,0<=(bm 0 s).getD k 0:=λk=>by
  rw[adN]
  cases hk:(bm 0 s)[k]? with
  |none=>exact aeE 0
  |some x=>exact(hb x (aet hk)).1
 split
 .split
  .have:=hg i;simp only[Option.getD_some];omega
  .exact aeE 0
 .have:=hg j;rwa [adN]at this
theorem zl(l:List Int)(i j:Nat)(x:Int):(l.set i x).getD j 0=if i=j then(if i<l.length then x else 0)else l.getD j 0:=by
 rw[adN,afV];split
 .split<;>rfl
 .rw[adN]
theorem CC(s:az)(i:Nat){m n:Nat}(hmn:m<=n)(j:Nat):eC (gP s i m) j<=eC (gP s i n) j:=by
 unfold eC gP;rw[zl,zl];split
 .split
  .omega
  .exact aeE _
 .exact aeE _
theorem EO{s:az}(h:eQ s){an:List Int}(hp:∀x∈an,0<x)(i:Nat):∀x y,x<=y->mz s an i x=true->mz s an i y=true:=by
 intro x y hxy hx;unfold mz at hx⊢;rw[adf]at hx⊢;have h1:=EV (na:=an) (nb:=an) rfl (λ_ _ _=>aeE _) hp (tE h i x) (tE h i y) (po h) (po h) (λj _ hs=>⟨hs,CC s i hxy j⟩);have h2:=qp an (eC (gP s i y)) (eh (dz s) s.cells.length);unfold tN at hx⊢;omega
theorem Fj{s:az}(h:eQ s){f t m:Nat}(hf:f<=t)(ht:t<s.cells.length):(m:Int)<=ia (eC (gP s f m)) f (t+1):=by
 have hl:(bm 0 s).length=s.cells.length:=by simp[bm]
 have h0:(m:Int)<=eC (gP s f m) f:=by
  unfold eC gP;rw[adN,afV,if_pos rfl,if_pos (by omega),Option.getD_some];have:=(pg h 0).2 _ (ada (show f<(bm 0 s).length by omega));rw[adN,ac_ (by omega),Option.getD_some];omega
 have key:∀d,(m:Int)<=ia (eC (gP s f m)) f (f+d+1):=by
  intro d
  induction d with
  |zero=>
   rw[Nat.add_zero,p_ _ (adh f),tz];omega
  |succ d ih=>
   rw[show f+(d+1)+1=(f+d+1)+1 by omega,p_ _ (by omega)];have:=tE h f m (f+d+1);omega
 have:=key (t-f);rwa [show f+(t-f)+1=t+1 by omega]at this
theorem FJ{s:az}(h:eQ s){an:List Int}(hp:∀x∈an,0<x)(hv:(dn s).isEmpty=false):∃c,c<s.cells.length/\mz s an c an.sum.toNat=true:=by
 cases vb:eh (dz s) s.cells.length with
 |nil=>simp[dn,vb]at hv
 |cons v l=>
  have cP:=(vV (po h)).1 v (by rw[vb];simp);refine⟨v.1,by omega,?_⟩;unfold mz tN;rw[adf];have h0:=j4 hp;exact Fl (v:=v) hp (by rw[vb];simp) (by have:=Fj h (m:=an.sum.toNat) cP.1 cP.2;omega)
def zL(p:Nat->Bool)(k:Nat):Nat:=((List.range k).find? p).getD k
theorem wT(p:Nat->Bool)(k:Nat):mw p k (zL p k):=by
 unfold zL
 cases hf:(List.range k).find? p with
 |none=>
  refine⟨adh _,λx hx=>?_,λh=>absurd h (by simp)⟩;have:=aey.1 hf x (adF.2 (by simpa using hx));simpa using this
 |some r=>
  obtain⟨h1,pa,pb,h2,h3⟩:=List.find?_eq_some_iff_append.1 hf;have hr:r<k:=adF.1 (afx hf);refine⟨by simp;omega,λx hx=>?_,λ_=>h1⟩;simp only[Option.getD_some]at hx
  have pc:x∈pa++r::pb:=by rw[<-h2];exact adF.2 (by omega)
  rcases adm.1 pc with h|h
  .have:=h3 x h;simpa using this
  .exfalso
   have TD:(pa++r::pb).Pairwise (·<·):=by rw[<-h2];exact afn
   have TD:=(ae4.1 TD).2.1;rcases ad6.1 h with h|h
   .omega
   .have:=(aeT.1 TD).1 x h;omega
def fJ(s:az)(an:List Int)(i:Nat):Nat:=zL (mz s an i) (an.sum.toNat+1)
def Ef(s:az)(an:List Int):Option (Nat×Nat):=match fb (fJ s an) an.sum.toNat s.cells.length with
 |x::l=>some (nI x l)
 |[]=>none
def rQ(s:az):List AV:=
 if cL s then(match fq s.name with
  |some es=>if(dn s).isEmpty then[.int .i64 0,.int .i64 0,.int .i64 5]else(match Ef s (aW s es)with|some q=>[.int .i64 (q.1:Nat),.int .i64 (q.2:Nat),.int .i64 0]|none=>[])
  |none=>[.int .i64 0,.int .i64 0,.int .i64 7])else[.int .i64 0,.int .i64 0,.int .i64 2]
theorem sU:∀(l:List (Nat×Nat))(x:Nat×Nat),jl (cw x) (l.map cw)=cw (nI x l)
 |[],_=>rfl
 |y::l,x=>by
  have e1:jl (cw x) ((y::l).map cw)=jl (if(cw y).2<(cw x).2 then cw y else cw x) (l.map cw):=rfl;have e2:nI x (y::l)=nI (if y.2<x.2 then y else x) l:=rfl;rw[e1,e2,<-sU l]
  congr 1
  by_cases h:y.2<x.2
  .rw[if_pos h,if_pos (by show(y.2:Int)<(x.2:Int);omega)]
  .rw[if_neg h,if_neg (by show¬(y.2:Int)<(x.2:Int);omega)]
theorem xl:∀{l:List Int}{b:Int},(∀x∈l,x<=b)->0<=b->l.sum<=l.length*b
 |[],_,_,_=>by simp
 |x::l,b,h,hb=>by
  have h1:=h x (by simp);have h2:=xl (l:=l) (λy hy=>h y (by simp[hy])) hb;simp only[List.sum_cons,List.length_cons]
  have:((l.length+1:Nat):Int)*b=l.length*b+b:=by rw[Int.natCast_add,Int.add_mul];simp
  omega
section
variable{w0:World}{n:Nat}{g:Gh}{S:av}{H:aD}{a:Act}{w:World}{d i1 i4 i5:Nat}{t u e:List UInt8}{z x:List AV}{y:AV}
theorem KH(R:Rel prog w0 n cm g S H a w){i:Nat}(hi:i<n)(hS:S i=.box i 0)(hH:H i=some [.str t]):∃b,a.tmps.getD i undef=.pointer (some ⟨b,0,none⟩)/\w.cell? ⟨b,0,none⟩=some (.string ⟨t.toArray⟩):=by
 obtain⟨b,al,e⟩:=jV R hi hS;obtain⟨cs,vs,ty,k0,k1,k2,k3,k4,k5,k6,k7,k8⟩:=R.box i b al;rw[hH]at k0;cases k0
 have h0:0<vs.size:=by rw[<-k5];exact Nat.zero_lt_one
 have hv:=l0 (RV.data (al:=cj) _ _ (k6 0 (by simp) h0));exact⟨b,e,by simp[World.cell?,k2,h0,hv]⟩
theorem Il (hG:aw GI) (cT:GI w0) (R:Rel prog w0 n cm g S H a w) (hd:d < n) (LJ:i1 < n) (Ek:i4 < n) (EP:i5 < n) (FT:d≠i4) (Hm:d≠i5) (Mh:i4≠i5)
  (Lu:S i1=.box i1 0) (MR:H i1=some [.str t]) (AX:S i4=.box i4 0) (Fh:H i4=some z) (vd:S i5=.box i5 0) (zZ:H i5=some [y]) (hz:z.length=15) (hx:x.length=15) (Zw:AC prog GI 121 [.str t] (.ret (.dN [.agg x,.str u]))):
  Calls prog 120 #[a.tmps.getD i1 undef,a.tmps.getD i4 undef,a.tmps.getD i5 undef] w λe w2=>e=.returned (.tuple #[])/\∃(c:Value)(g':Gh)(S':av)(H':aD),g'.old=g.old/\Rel prog w0 n cm g' S' H' (a.put (some d) c) w2/\(∀t,t≠d->S' t=S t)/\H'=ar (ar H i4 (some (x.map AV.aG))) i5 (some [.str u]):=by
 have bq:=R.size;have fU:GI w:=hG w0 w cT (by have:=R.below;rwa [R.base]at this);obtain⟨b1,e1,fo⟩:=KH R LJ Lu MR;obtain⟨b4,al4,e4⟩:=jV R Ek AX;obtain⟨b5,SU,e5⟩:=jV R EP vd;refine afy func120 rfl ?_;refine(e_ (m:=0)).1 ?_;refine fM (λa=>a.tmps.size=8/\a.defers=[]/\a.tmps.getD 0 undef=.pointer (some ⟨b1,0,none⟩)/\a.tmps.getD 1 undef=.pointer (some ⟨b4,0,none⟩)/\a.tmps.getD 2 undef=.pointer (some ⟨b5,0,none⟩)) ⟨by simp[ntmps120],rfl,(bV _ _ 0 (by simp)).trans e1,(bV _ _ 1 (by simp)).trans e4,(bV _ _ 2 (by simp)).trans e5⟩ ?_;rintro aC ⟨zC,dC,t0,t1,t2⟩;refine adB ?_;show wpOpsIn _ _ _ _ _ [0,1,2,3,4,5,6] aC w;refine aV rfl rfl (by rfl) (kN (t:=9) (d:=.string) (b:=b1) (off:=0) rfl t0 (by kernel_rfl) rfl fo) ?_;show wpOpsIn _ _ _ _ _ [1,2,3,4,5,6] (aC.put (some 4) (.string ⟨t.toArray⟩)) w
 refine fH rfl rfl (by rfl) (gK (k:=121) (args:=#[.string ⟨t.toArray⟩]) w rfl rfl ?_ (by kernel_rfl)) (Zw w (fy g false) #[.string ⟨t.toArray⟩] fU rfl (λi h h'=>by
  match i,h with
  |0,_=>exact .data _ _ (.str t))) ?_
 .simp only[adK,adC,adO];show #[(aC.put (some 4) _).eval (.tmp 4)]=_;rw[bB _ _ _ _ (by omega),if_pos rfl]
 rintro e w2 ⟨iU,hi,qR,c,rfl,EB,dO⟩;refine⟨c,rfl,?_⟩;obtain⟨g',xu,py,R2⟩:=R.call (some d) (λt ht=>by cases ht;exact⟨hd,id⟩) false iU qR EB dO (λh=>by cases h);have Bm:=R2.slot d hd id
 have Xf:(a.put (some d) c).tmps.getD d undef=c:=by rw[iH _ _ _ _ (by omega),if_pos rfl]
 rw[Xf]at Bm;have Oy:aT S (some d) (.dN [.agg x,.str u]) d=.dN [.agg x,.str u]:=aS _ _ _;rw[Oy]at Bm
 obtain⟨c0,rfl,r0⟩:∃c0,c=.tuple #[c0,.string ⟨u.toArray⟩]/\RD g'.Pr w2 (.agg x) c0:=by
  cases Bm with
  |data _ _ h=>
   cases h with
   |dN cs vs hl hr=>
    have h2:vs.size=2:=by rw[<-hl]<;>rfl
    have q0:=hr 0 (by simp) (by omega);have q1:=hr 1 (by simp) (by omega);simp only[List.getElem_cons_zero,List.getElem_cons_succ]at q0 q1;have q1:=l0 (RV.data (al:=cj) _ _ q1);refine⟨vs[0],?_,q0⟩
    congr 1
    apply aeI
    .simpa using h2
    .intro i h1 h2
     match i,h2 with
     |0,_=>rfl
     |1,_=>exact q1
 have R3:=R2.put d (.agg x) c0 hd (.data _ _ r0) trivial;rw[xi]at R3;obtain⟨i31,my,mq⟩:=bp (P:=prog) (t:=31) (s:=15) (by kernel_rfl);obtain⟨i9,hi9,Hd⟩:=bp (P:=prog) (t:=9) (s:=1) (by kernel_rfl)
 have jB:bo z 0 (x.map AV.aG)=x.map AV.aG:=by simp[bo,hz,hx]
 obtain⟨S3,EY⟩:∃S3,ar (aT S (some d) (.dN [.agg x,.str u])) d (.agg x)=S3:=⟨_,rfl⟩
 rw[EY]at R3
 have k3d:S3 d=.agg x:=by rw[<-EY];exact aS _ _ _
 have k3:∀t,t≠d->S3 t=S t:=λt ht=>by rw[<-EY];simp[ar,aT,ht]
 have ke:aH S3 H (.store .any i31.size (.t i4) (.t d))=some { v:=b_,dm:=some d,hw:=some (i4,x.map AV.aG) }:=by
  simp[aH,ev,k3d,k3 i4 (ad2 FT),AX,Fh,HR.okB,AV.cells,AV.storable,AV.bZ,mq,hx,hz,bz,jB]
 obtain ⟨c2,w3,g3,dv,Mo,wG,R4⟩:=kX R3 (o:={ dst:=none,op := .store 31 (.tmp i4) (.tmp d),type:=0,pos := "",after := #[],guard:=none }) (x1 := .tmp i4) (x2 := .tmp d) (y1 := .t i4) (y2 := .t d) (hr := .any) rfl rfl my (by simp [eO,Ek]) (by simp [eO,hd]) (λ_ _=>id) (λ_ _=>id) ke;have R5:=R4.put d (.str u) (.string ⟨u.toArray⟩) hd (.data _ _ (.str u)) trivial;have R5:Rel prog w0 n cm g3 (ar _ d (.str u)) (ar H i4 (some (x.map AV.aG))) ((a.put (some d) c0).put (some d) (.string ⟨u.toArray⟩)) w3:=R5;rw [xi] at R5
 obtain⟨S5,Dr⟩:∃S5,ar (aQ.S { v:=b_,dm:=some d,hw:=some (i4,x.map AV.aG) } S3 none) d (.str u)=S5:=⟨_,rfl⟩
 rw[Dr]at R5
 have k5d:S5 d=.str u:=by rw[<-Dr];exact aS _ _ _
 have k5:∀t,t≠d->S5 t=S t:=λt ht=>by rw[<-Dr,bj _ _ ht,<-k3 t ht];simp[aQ.S,aT,ar,ht]
 have aan:aH S5 (ar H i4 (some (x.map AV.aG))) (.store .any i9.size (.t i5) (.t d))=some { v:=b_,dm:=some d,hw:=some (i5,[.str u]) }:=by
  simp[aH,ev,k5d,k5 i5 (ad2 Hm),vd,zZ,ar,ad2 Mh,HR.okB,AV.cells,AV.storable,AV.bZ,Hd,bo,bz,AV.aG]
 obtain ⟨c3,w4,g4,LH,acw,W9,R6⟩:=kX R5 (o:={ dst:=none,op := .store 9 (.tmp i5) (.tmp d),type:=0,pos := "",after := #[],guard:=none }) (x1 := .tmp i5) (x2 := .tmp d) (y1 := .t i5) (y2 := .t d) (hr := .any) rfl rfl hi9 (by simp [eO,EP]) (by simp [eO,hd]) (λ_ _=>id) (λ_ _=>id) aan;show wpOpsIn _ _ _ _ _ [2,3,4,5,6] ((aC.put (some 4) (.string ⟨t.toArray⟩)).put (some 5) (.tuple #[c0,.string ⟨u.toArray⟩])) w2
 obtain⟨A,hA,zA,dA,q1,q2,q5⟩:∃A,(aC.put (some 4) (.string ⟨t.toArray⟩)).put (some 5) (.tuple #[c0,.string ⟨u.toArray⟩])=A/\A.tmps.size=8/\A.defers=[]/\A.eval (.tmp 1)=.pointer (some ⟨b4,0,none⟩)/\A.eval (.tmp 2)=.pointer (some ⟨b5,0,none⟩)/\A.eval (.tmp 5)=.tuple #[c0,.string ⟨u.toArray⟩]:=by
  have SM:(aC.put (some 4) (.string ⟨t.toArray⟩)).tmps.size=8:=by rw[jD];exact zC
  refine⟨_,rfl,by rw[jD];exact SM,dC,?_,?_,?_⟩
  .rw[bB _ _ _ _ (by omega),if_neg (by decide),bB _ _ _ _ (by omega),if_neg (by decide)];exact t1
  .rw[bB _ _ _ _ (by omega),if_neg (by decide),bB _ _ _ _ (by omega),if_neg (by decide)];exact t2
  .rw[bB _ _ _ _ (by omega),if_pos rfl]
 rw[hA]
 have v5:(execOp A.eval { dst:=some 3,op := .move (.tmp 5),type:=146,pos := "",after := #[],guard:=none }).run prog w2 = .ok (.value (.tuple #[c0,.string ⟨u.toArray⟩])) w2:=by unfold execOp;simp [q5]
 refine aV rfl rfl (by rfl) v5 ?_;show wpOpsIn _ _ _ _ _ [3,4,5,6] (A.put (some 3) (.tuple #[c0,.string ⟨u.toArray⟩])) w2
 obtain⟨B,hB⟩:∃B,A.put (some 3) (.tuple #[c0,.string ⟨u.toArray⟩])=B:=⟨_,rfl⟩
 have zB:B.tmps.size=8:=by rw[<-hB,jD];exact zA
 have dB:B.defers=[]:=by rw[<-hB];exact dA
 have p1:B.eval (.tmp 1)=.pointer (some ⟨b4,0,none⟩):=by rw[<-hB,bB _ _ _ _ (by omega),if_neg (by decide)];exact q1
 have p2:B.eval (.tmp 2)=.pointer (some ⟨b5,0,none⟩):=by rw[<-hB,bB _ _ _ _ (by omega),if_neg (by decide)];exact q2
 have p3:B.eval (.tmp 3)=.tuple #[c0,.string ⟨u.toArray⟩]:=by rw[<-hB,bB _ _ _ _ (by omega),if_pos rfl]
 rw[hB]
 have v6:(execOp B.eval { dst:=some 6,op := .extract (.tmp 3) 0,type:=31,pos := "",after := #[],guard:=none }).run prog w2 = .ok (.value c0) w2:=by unfold execOp;simp [p3,Instr.extract]
 refine aV rfl rfl (by rfl) v6 ?_;show wpOpsIn _ _ _ _ _ [4,5,6] (B.put (some 6) c0) w2
 obtain⟨C,hC⟩:∃C,B.put (some 6) c0=C:=⟨_,rfl⟩
 have zC:C.tmps.size=8:=by rw[<-hC,jD];exact zB
 have o1:C.eval (.tmp 1)=.pointer (some ⟨b4,0,none⟩):=by rw[<-hC,bB _ _ _ _ (by omega),if_neg (by decide)];exact p1
 have o2:C.eval (.tmp 2)=.pointer (some ⟨b5,0,none⟩):=by rw[<-hC,bB _ _ _ _ (by omega),if_neg (by decide)];exact p2
 have o3:C.eval (.tmp 3)=.tuple #[c0,.string ⟨u.toArray⟩]:=by rw[<-hC,bB _ _ _ _ (by omega),if_neg (by decide)];exact p3
 have o6:C.eval (.tmp 6)=c0:=by rw[<-hC,bB _ _ _ _ (by omega),if_pos rfl]
 rw[hC]
 have v7:(execOp C.eval { dst:=some 7,op := .extract (.tmp 3) 1,type:=9,pos := "",after := #[],guard:=none }).run prog w2 = .ok (.value (.string ⟨u.toArray⟩)) w2:=by unfold execOp;simp [o3,Instr.extract]
 refine aV rfl rfl (by rfl) v7 ?_;show wpOpsIn _ _ _ _ _ [5,6] (C.put (some 7) (.string ⟨u.toArray⟩)) w2
 obtain⟨D,hD⟩:∃D,C.put (some 7) (.string ⟨u.toArray⟩)=D:=⟨_,rfl⟩
 have zD:D.tmps.size=8:=by rw[<-hD,jD];exact zC
 have dD:D.defers=[]:=by rw[<-hD,<-hC];exact dB
 have m1:D.eval (.tmp 1)=.pointer (some ⟨b4,0,none⟩):=by rw[<-hD,bB _ _ _ _ (by omega),if_neg (by decide)];exact o1
 have m2:D.eval (.tmp 2)=.pointer (some ⟨b5,0,none⟩):=by rw[<-hD,bB _ _ _ _ (by omega),if_neg (by decide)];exact o2
 have m6:D.eval (.tmp 6)=c0:=by rw[<-hD,bB _ _ _ _ (by omega),if_neg (by decide)];exact o6
 have m7:D.eval (.tmp 7)=.string ⟨u.toArray⟩:=by rw[<-hD,bB _ _ _ _ (by omega),if_pos rfl]
 rw[hD]
 have f4:∀c,(a.put (some d) c).eval (.tmp i4)=.pointer (some ⟨b4,0,none⟩):=λc=>by rw[bB _ _ _ _ (by omega),if_neg (ad2 FT)];exact e4
 have f5:∀c,(a.put (some d) c).eval (.tmp i5)=.pointer (some ⟨b5,0,none⟩):=λc=>by rw[bB _ _ _ _ (by omega),if_neg (ad2 Hm)];exact e5
 have fd:∀c,(a.put (some d) c).eval (.tmp d)=c:=λc=>by rw[bB _ _ _ _ (by omega),if_pos rfl]
 have bb:∀ o:Oper,o.op = .store 31 (.tmp 1) (.tmp 6)->(execOp D.eval o).run prog w2=(execOp (a.put (some d) c0).eval { dst:=none,op := .store 31 (.tmp i4) (.tmp d),type:=0,pos := "",after := #[],guard:=none }).run prog w2:=by
  intro o ho;unfold execOp;simp only[ho,m1,m6,f4,fd]
 have iy:∀ (D':Act) (o:Oper),o.op = .store 9 (.tmp 2) (.tmp 7)->D'.tmps=D.tmps->(execOp D'.eval o).run prog w3=(execOp (a.put (some d) (.string ⟨u.toArray⟩)).eval { dst:=none,op := .store 9 (.tmp i5) (.tmp d),type:=0,pos := "",after := #[],guard:=none }).run prog w3:=by
  intro D' o ho ht
  have n2:D'.eval (.tmp 2)=.pointer (some ⟨b5,0,none⟩):=by show D'.tmps.getD 2 undef=_;rw[ht];exact m2
  have n7:D'.eval (.tmp 7)=.string ⟨u.toArray⟩:=by show D'.tmps.getD 7 undef=_;rw[ht];exact m7
  unfold execOp;simp only[ho,n2,n7,f5,fd]
 have fin:∀v1 v2:Value,((D.put none v1).put none v2).defers=[]/\∃v',(results f120 ((D.put none v1).put none v2).tmps).run prog w4=.ok v' w4/\(Ending.returned v'=.returned (.tuple #[])/\∃(c:Value)(g':Gh)(S':av)(H':aD),g'.old=g.old/\Rel prog w0 n cm g' S' H' (a.put (some d) c) w4/\(∀t,t≠d->S' t=S t)/\H'=ar (ar H i4 (some (x.map AV.aG))) i5 (some [.str u])):=λv1 v2=>
  ⟨dD,.tuple #[],by simp[results,results120],rfl,_,g4,_,_,by rw[W9];exact wG.trans py,R6,λt ht=>by rw[<-k5 t ht];simp[aQ.S,aT,ar,ht],rfl⟩
 rcases dv with hr|⟨hr,_⟩
 .refine aV rfl rfl (by rfl) ((bb _ rfl).trans hr) ?_
  rcases LH with hr|⟨hr,_⟩
  .exact aV rfl rfl (by rfl) ((iy (D.put none c2) _ rfl rfl).trans hr) (fin c2 _)
  .exact dM rfl rfl (by rfl) ((iy (D.put none c2) _ rfl rfl).trans hr) (fin c2 undef)
 .refine dM rfl rfl (by rfl) ((bb _ rfl).trans hr) ?_
  rcases LH with hr|⟨hr,_⟩
  .exact aV rfl rfl (by rfl) ((iy (D.put none undef) _ rfl rfl).trans hr) (fin undef _)
  .exact dM rfl rfl (by rfl) ((iy (D.put none undef) _ rfl rfl).trans hr) (fin undef undef)
end
theorem qy(l:List Int):∀x∈ints l,x.cells.length=1/\x.storable=true/\∀c∈x.cells,c.one=true:=by
 intro x hx;obtain⟨e,_,rfl⟩:=adx.1 hx;exact⟨rfl,rfl,λc hc=>by simp[AV.cells]at hc;subst hc;rfl⟩
theorem rR(l:List Int):∀x∈ints l,∀c∈x.cells,iC c=true:=by
 intro x hx c hc;obtain⟨e,_,rfl⟩:=adx.1 hx;simp[AV.cells]at hc;subst hc;rfl
theorem BQ(l:List (List Int)):∀x∈l.map vI,x.cells.length=1/\x.storable=true/\∀c∈x.cells,c.one=true:=by
 intro x hx;obtain⟨e,_,rfl⟩:=adx.1 hx;exact⟨rfl,rfl,λc hc=>by simp[AV.cells,vI]at hc;subst hc;rfl⟩
structure Lv(wB:World)(Mi:Nat->Nat->Prop)(bF bN:Nat)(s:az)(cS cR fv:Value)(fs:List (List Int))(es:List Int)(w:World):Prop where
 below:Below wB.heap.size wB w
 ge:wB.heap.size<=bF/\wB.heap.size<=bN/\bF≠bN
 lt:∀b k,Mi b k->b<w.heap.size
 gF:∀k,¬Mi bF k
 gN:∀k,¬Mi bN k
 st:∃u tD xF v wH xN,w.heap[bF]?=some (.cells #[u] tD (0,0))/\w.ownsRow (bF+1) 23 1 u fs.length xF/\kH (λb k=>Mi b k/\wB.heap.size<=b) w 1 (fs.map vI) xF/\(∀b,u.ownBlock=some b->b≠bN/\∀k,¬Mi b k)/\
  w.heap[bN]?=some (.cells #[v] wH (0,0))/\w.ownsRow (bN+1) 3 1 v es.length xN/\kH (λ_ _=>False) w 1 (ints es) xN/\∀b,v.ownBlock=some b->b≠bF/\u.ownBlock≠some b/\∀k,¬Mi b k
 s:RV Mi cj w (.ref (ao s)) cS
 r:RV Mi cj w (.ref [.val fv]) cR
variable{wB:World}{Mi:Nat->Nat->Prop}{bF bN:Nat}{s:az}{cS cR fv:Value}{fs:List (List Int)}{es:List Int}{w w':World}
theorem fK{base:Nat}{e:TypeId}{size:Nat}{v:Value}{n:Nat}{xs:List Value}(h:w.ownsRow base e size v n xs)(hk:∀b,v.ownBlock=some b->w'.heap[b]?=w.heap[b]?):w'.ownsRow base e size v n xs:=by
 refine⟨h.1,?_⟩
 rcases h.2 with h|⟨gg,cap,cur,rfl,qL,Ah,rest⟩
 .exact .inl h
 .exact .inr ⟨gg,cap,cur,rfl,qL,(hk gg rfl).trans Ah,rest⟩
theorem Lv.grow(st:Lv wB Mi bF bN s cS cR fv fs es w)(hb:Below w.heap.size w w'):Lv wB Mi bF bN s cS cR fv fs es w':=by
 have hk:bl Mi Mi w w':=bl.iY (λb h=>hb.block b h) λ_ _ _ h=>h
 obtain⟨u,tD,xF,v,wH,xN,f1,f2,f3,f4,n1,n2,n3,n4⟩:=st.st;have lF:=(ade.1 f1).1;have lN:=(ade.1 n1).1
 exact⟨st.below.trans (hb.mono st.below.size),st.ge,λb k h=>adU (st.lt b k h) hb.size,st.gF,st.gN,
  ⟨u,tD,xF,v,wH,xN,(hb.block _ lF).trans f1,fK f2 λb h=>hb.block _ (f2.lt b h).2,f3.mono (bl.iY (λb h=>hb.block b h) λ_ _ _ h=>h),f4,(hb.block _ lN).trans n1,fK n2 λb h=>hb.block _ (n2.lt b h).2,n3.mono (bl.of_eq λ_ _ h=>h.elim),n4⟩,
  st.s.mono hk λ_ _ h=>h,st.r.mono hk λ_ _ h=>h⟩
end Go.Proofs.Tryz
namespace Go.Proofs.Tryz
open Go Go.AL Go.RowKit Go.Proofs Go.Proofs.Tram
variable{GI:World->Prop}
def JK:Nat->Bool:=λt=>decide (14<=t)
structure L2(a0:Act)(w:World)(u v:Value)(es:List Int)(c:Bool)(k:Nat)(a:Act)(w':World):Prop where
 size:a.tmps.size=50
 defers:a.defers=[]
 same:eL JK a0 a
 below:Below w.heap.size w w'
 t14:c=true->a.tmps.getD 14 undef=u
 t15:1<=k->a.tmps.getD 15 undef=v
 t16:2<=k->DB w w' (ints es) (a.tmps.getD 16 undef)
 t17:3<=k->∃HT,a.tmps.getD 17 undef=.slice (some ⟨HT,0,none⟩) 1 1/\w'.heap[HT]?=some (.cells #[a.tmps.getD 16 undef] 23 (0,0))/\w.heap.size<=HT
theorem wo{a0 a:Act}(h:eL JK a0 a){d:Nat}(hd:14<=d)(c:Value):eL JK a0 (a.put (some d) c):=h.trans (eL.put (λt ht=>by cases ht;simp[JK,hd]) c)
section
variable{a0 a:Act}{w w':World}{u v:Value}{es:List Int}{c:Bool}{k:Nat}
theorem L2.load(h:L2 a0 w u v es c k a w'):L2 a0 w u v es true k (a.put (some 14) u) w':=by
 have hp:=λt (c:Value)=>iH a 14 t c (by rw[h.size];omega)
 refine⟨by simp[Act.put,h.size],h.defers,wo h.same (by omega) _,h.below,λ_=>by rw[hp,if_pos rfl],λhk=>by rw[hp,if_neg (by decide)];exact h.t15 hk,λhk=>by rw[hp,if_neg (by decide)];exact h.t16 hk,λhk=>?_⟩;rw[hp,if_neg (by decide),hp,if_neg (by decide)];exact h.t17 hk
theorem L2.now(h:L2 a0 w u v es c 0 a w'):L2 a0 w u v es c 1 (a.put (some 15) v) w':=by
 have hp:=λt (c:Value)=>iH a 15 t c (by rw[h.size];omega)
 exact⟨by simp[Act.put,h.size],h.defers,wo h.same (by omega) _,h.below,λhc=>by rw[hp,if_neg (by decide)];exact h.t14 hc,λ_=>by rw[hp,if_pos rfl],λhk=>by omega,λhk=>by omega⟩
theorem L2.copy(h:L2 a0 w u v es c 1 a w'){w2:World}{cl:Value}(hb:Below w'.heap.size w' w2)(hf:DB w' w2 (ints es) cl):L2 a0 w u v es c 2 (a.put (some 16) cl) w2:=by
 have hp:=λt (c:Value)=>iH a 16 t c (by rw[h.size];omega)
 refine⟨by simp[Act.put,h.size],h.defers,wo h.same (by omega) _,h.below.trans (hb.mono h.below.size),λhc=>by rw[hp,if_neg (by decide)];exact h.t14 hc,λhk=>by rw[hp,if_neg (by decide)];exact h.t15 (by omega),λ_=>?_,λhk=>by omega⟩;rw[hp,if_pos rfl];obtain⟨hi,hr⟩:=hf;exact⟨hi,hr.mono (bl.same λb k _ hp=>⟨⟨ael h.below.size hp.1.1,hp.1.2⟩,hp.2⟩)⟩
theorem Af(w:World)(o:Obj):Below w.heap.size w (w.alloc o):=(aeb _ _).alloc (adh _) _
theorem L2.row(h:L2 a0 w u v es c 2 a w'):L2 a0 w u v es c 3 (a.put (some 17) (.slice (some ⟨w'.heap.size,0,none⟩) 1 1)) (w'.alloc (.cells #[a.tmps.getD 16 undef] 23)):=by
 have hp:=λt (c:Value)=>iH a 17 t c (by rw[h.size];omega)
 have hb:=Af w' (.cells #[a.tmps.getD 16 undef] 23);refine⟨by simp[Act.put,h.size],h.defers,wo h.same (by omega) _,h.below.trans (hb.mono h.below.size),λhc=>by rw[hp,if_neg (by decide)];exact h.t14 hc,λhk=>by rw[hp,if_neg (by decide)];exact h.t15 (by omega),λ_=>?_,λ_=>?_⟩
 .rw[hp,if_neg (by decide)];exact(h.t16 (by omega)).grow hb
 .rw[hp,if_pos rfl,hp,if_neg (by decide)];exact⟨_,rfl,ad4 _ _,h.below.size⟩
end
def QG(ops:Array Oper):Bool:=decide (ops.size=6)&&
 (Region.ready .any ops #[false,false,false,false,false,false]==[0,1])&&(Region.ready .any ops #[true,false,false,false,false,false]==[1])&&(Region.ready .any ops #[false,true,false,false,false,false]==[0,2])&&
 (Region.ready .any ops #[true,true,false,false,false,false]==[2])&&(Region.ready .any ops #[false,true,true,false,false,false]==[0,3])&&(Region.ready .any ops #[true,true,true,false,false,false]==[3])&&
 (Region.ready .any ops #[false,true,true,true,false,false]==[0])&&(Region.ready .any ops #[true,true,true,true,false,false]==[4])&&(Region.ready .any ops #[true,true,true,true,true,false]==[5])&&(Region.ready .any ops #[true,true,true,true,true,true]==[])
section
variable{wB:World}{Mi:Nat->Nat->Prop}{bF bN:Nat}{s:az}{cS cR fv:Value}{fs:List (List Int)}{es:List Int}{w:World}{a:Act}{Q:Exit->Act->World->Prop}{m:Nat}
theorem A4 (hG:aw GI) (st:Lv wB Mi bF bN s cS cR fv fs es w) (fU:GI w) (bq:a.tmps.size=50) (dZ:a.defers=[]) (t3:a.tmps.getD 3 undef = .pointer (some ⟨bN,0,none⟩)) (t4:a.tmps.getD 4 undef = .pointer (some ⟨bF,0,none⟩)) (nU:es.length < 1000) (fE:fs.length < 100000)
  {id:Nat} {ops:Array Oper} {o0 o1 o2 o3 o4 o5:Oper} {UN Oh:Call} (h0:ops[0]?=some o0) (h1:ops[1]?=some o1) (h2:ops[2]?=some o2) (h3:ops[3]?=some o3) (h4:ops[4]?=some o4) (h5:ops[5]?=some o5)
  (q0:o0.op=.load 141 (.tmp 4)/\o0.dst=some 14/\o0.guard=none) (q1:o1.op=.load 23 (.tmp 3)/\o1.dst=some 15/\o1.guard=none) (q2:o2.op=.call UN/\o2.dst=some 16/\o2.guard=none) (q3:o3.op=.buildSlice 141 1 #[(0,.tmp 16)]/\o3.dst=some 17/\o3.guard=none)
  (q4:o4.op=.call Oh/\o4.dst=some 18/\o4.guard=none) (q5:o5.op=.store 141 (.tmp 4) (.tmp 18)/\o5.dst=none/\o5.guard=none)
  (c2:UN.callee=.value (.func 114)/\UN.args=#[.tmp 15]) (c4:Oh.callee=.builtin .append/\Oh.args=#[.tmp 14,.tmp 17]/\Oh.argTypes=#[141,141]) (hr:QG ops=true)
  (hk:∀a' w' oe,a'.tmps.size=50->a'.defers=[]->eL JK a a'->(∀b k,Mi b k->oe b k)->Lv wB oe bF bN s cS cR fv (fs++[es]) es w'->Q .normal a' w'):(Code.region id ops true).wpIn (FR none) m prog Q a w:=by
 unfold QG at hr;simp only[adb,adX,adf]at hr;obtain⟨⟨⟨⟨⟨⟨⟨⟨⟨⟨r0,ra⟩,rb⟩,rc⟩,rd⟩,re⟩,rf⟩,rg⟩,rh⟩,ri⟩,rj⟩:=hr;obtain⟨u,tD,xF,v,wH,xN,f1,f2,f3,f4,n1,n2,n3,n4⟩:=st.st;have lF:=(ade.1 f1).1;have lN:=(ade.1 n1).1;obtain⟨d141,ZB,aaU⟩:=js (P:=prog) (t:=141) (by kernel_rfl);obtain⟨d23,ZZ,g23⟩:=js (P:=prog) (t:=23) (by kernel_rfl)
 have KG:prog.underlying 141=some (.slice 23):=by kernel_rfl
 obtain⟨i3,sh,mR⟩:=bp (P:=prog) (t:=3) (s:=1) (by kernel_rfl);obtain⟨i141,Tj,SO⟩:=bp (P:=prog) (t:=141) (s:=1) (by kernel_rfl);obtain⟨i23,Gw,y7⟩:=aep.1 (show(prog.info? 23).bind (λi=>if i.size=1/\i.bytes<=65536 then i.zero else none)=some (.slice none 0 0) by kernel_rfl)
 have Ut:(i23.size=1/\i23.bytes<=65536)/\i23.zero=some (.slice none 0 0):=by
  split at y7
  .exact⟨by assumption,y7⟩
  .cases y7
 obtain⟨⟨Dj,SZ⟩,y7⟩:=Ut;have aaI:=Iq hG (GI:=GI) (ints es) (lj es) (by rw[cb];omega)
 have load:∀{c k a' w' K},L2 a w u v es c k a' w'->(∀a' w',L2 a w u v es true k a' w'->K a' w')->wpOpIn (FR none) m prog ops Q 0 K a' w':=λ{c k a' w' K} h hK=>
  uD h0 q0.2.2 (by rw[q0.1]<;>rfl) (kN (b:=bF) (off:=0) (v:=u) q0.1 ((h.same 4 rfl).trans t4) ZB aaU (by simp[World.cell?,(h.below.block bF lF).trans f1])) (by rw[q0.2.1];exact hK _ _ h.load)
 have now:∀{c a' w' K},L2 a w u v es c 0 a' w'->(∀a' w',L2 a w u v es c 1 a' w'->K a' w')->wpOpIn (FR none) m prog ops Q 1 K a' w':=λ{c a' w' K} h hK=>
  uD h1 q1.2.2 (by rw[q1.1]<;>rfl) (kN (b:=bN) (off:=0) (v:=v) q1.1 ((h.same 3 rfl).trans t3) ZZ g23 (by simp[World.cell?,(h.below.block bN lN).trans n1])) (by rw[q1.2.1];exact hK _ _ h.now)
 have copy:∀{c a' w' K},L2 a w u v es c 1 a' w'->(∀a' w',L2 a w u v es c 2 a' w'->K a' w')->wpOpIn (FR none) m prog ops Q 2 K a' w':=λ{c a' w' K} h hK=>by
  have hv:a'.tmps.getD 15 undef=v:=h.t15 (adh _)
  have WB:w'.ownsRow (bN+1) 3 1 v es.length xN:=fK n2 λb hb=>h.below.block _ (n2.lt b hb).2
  have CH:RD (λ_ _=>True) w' (.slice .view (ints es)) v:=RD.ofRow (size:=1) (es:=ints es) (by rw[cb];exact WB) (n3.mono (bl.of_eq λ_ _ h=>h.elim)) λ_ _ _ _=>trivial
  refine N5 h2 q2.2.2 (by rw[q2.1]<;>rfl) (gK (k:=114) (args:=#[v]) w' q2.1 c2.1 ?_ (by kernel_rfl)) (aaI w' (λ_ _=>True) #[v] (hG w w' fU h.below) rfl (λi hi eb=>by
   match i,hi with
   |0,_=>exact .data _ _ CH)) ?_
  .rw[c2.2];simp only[adK,adC,adO];show #[a'.tmps.getD 15 undef]=_;rw[hv]
  intro en w2 hE;obtain⟨hb,cc,rfl,hf⟩:=Je sh (by rw[mR];exact qy es) (rR es) hE;refine⟨_,rfl,?_⟩;rw[q2.2.1];exact hK _ _ (h.copy hb hf)
 have row:∀{c a' w' K},L2 a w u v es c 2 a' w'->(∀a' w',L2 a w u v es c 3 a' w'->K a' w')->wpOpIn (FR none) m prog ops Q 3 K a' w':=λ{c a' w' K} h hK=>by
  obtain⟨hi,ez⟩:=h.t16 (adh _);exact uD h3 q3.2.2 (by rw[q3.1]<;>rfl) (IH q3.1 KG Gw y7 Dj rfl (ez.one rfl)) (by rw[q3.2.1];exact hK _ _ h.row)
 have tail:∀{a' w'},L2 a w u v es true 3 a' w'->wpAnyIn (FR none) m prog .any ops Q 2 #[true,true,true,true,false,false] a' w':=λ{a' w'} h=>by
  obtain⟨HT,aak,IP,D2⟩:=h.t17 (adh _);have h14:=h.t14 rfl;have Sr:=h.t16 (by omega)
  have nu:(a'.tmps.getD 16 undef).oneCell'=true:=by
   obtain⟨hi,ez⟩:=Sr;exact ez.one rfl
  have Hs:w'.ownsRow (bF+1) 23 1 u fs.length xF:=fK f2 λb hb=>h.below.block _ (f2.lt b hb).2
  have hle:bF+1<=w'.heap.size:=adU lF h.below.size;refine oY rh ?_;obtain⟨u',w2,b',dv,dO,Ij,fY,hor⟩:=I3 (P:=prog) (t:=141) (ty:=o4.type) KG Gw y7 (by rw[Dj]<;>rfl) Dj SZ Hs (by omega) hle (ad:=⟨HT,0,none⟩) (cap:=1) (c:=a'.tmps.getD 16 undef) (by simp[World.cell?,IP]) nu;refine uD (v:=u') (w':=w2) h4 q4.2.2 (by rw[q4.1]<;>rfl) ?_ ?_
  .have e1:a'.eval (.tmp 14)=u:=h14;have e2:a'.eval (.tmp 17)=.slice (some ⟨HT,0,none⟩) 1 1:=aak;unfold execOp;simp[q4.1,c4.1,c4.2.1,c4.2.2,resolve,invoke,builtin,e1,e2,dv]
  rw[q4.2.1];show wpAnyIn (FR none) m prog .any ops Q 1 #[true,true,true,true,true,false] (a'.put (some 18) u') w2;refine oY ri ?_
  have hp:=λt (c:Value)=>iH a' 18 t c (by rw[h.size];omega)
  have uF:u.ownBlock≠some bF:=λe=>by have:=(f2.lt bF e).1;omega
  have Zj:∀b,u.ownBlock=some b->b<w.heap.size:=λb hb=>(f2.lt b hb).2
  have Y6:w2.heap[bF]?=some (.cells #[u] tD (0,0)):=(fY.block bF (adU lF h.below.size) uF).trans ((h.below.block bF lF).trans f1)
  have Ud:u'.oneCell'=true:=by
   rcases dO.2 with⟨rfl,_⟩|⟨_,_,_,rfl,_⟩<;>rfl
  refine N' h5 q5.2.2 (by rw[q5.1]<;>rfl) (gr q5.1 (by show(a'.put (some 18) u').tmps.getD 4 undef=_;rw[hp,if_neg (by decide)];exact(h.same 4 rfl).trans t4) Tj SO Y6 (by show(a'.put (some 18) u').tmps.getD 18 undef=u';rw[hp,if_pos rfl]) Ud) ?_;rw[q5.2.1];refine⟨rj,?_⟩;obtain⟨hi,ez⟩:=Sr
  have LV:∀b,b<w.heap.size->b<w'.heap.size:=λb hb=>adU hb h.below.size
  have XQ:w'.heap.size<=w2.heap.size:=fY.size
  have TK:(w2.setRow bF #[u']).heap.size=w2.heap.size:=by simp
  have old:∀b,b<w'.heap.size->b≠bF->u.ownBlock≠some b->(w2.setRow bF #[u']).heap[b]?=w'.heap[b]?:=λb hb h1 h2=>(aec w2 bF b #[u'] h1).trans (fY.block b hb h2)
  have GX:∀b,b<w.heap.size->b≠bF->u.ownBlock≠some b->(w2.setRow bF #[u']).heap[b]?=w.heap[b]?:=λb hb h1 h2=>(old b (LV b hb) h1 h2).trans (h.below.block b hb)
  have bF':b'≠bF:=λe=>by have:=(dO.lt b' Ij).1;omega
  refine hk (a'.put (some 18) u') (w2.setRow bF #[u']) (λb k=>Mi b k\/((w.heap.size<=b/\b<w'.heap.size)/\k<hi b)) (by simp[Act.put,h.size]) h.defers (wo h.same (by omega) _) (λb k hm=>.inl hm) ?_
  have MH:bl Mi (λb k=>Mi b k\/((w.heap.size<=b/\b<w'.heap.size)/\k<hi b)) w (w2.setRow bF #[u']):=bl.of_eq λb k hm=>⟨.inl hm,GX b (st.lt b k hm) (λe=>st.gF k (e▸hm)) λe=>(f4 b e).2 k hm⟩
  refine⟨?_,st.ge,?_,?_,?_,⟨u',tD,xF++[a'.tmps.getD 16 undef],v,wH,xN,aeJ w2 bF _ #[u'] tD (0,0) Y6,?_,⟨BQ _,?_⟩,?_,?_,?_,?_,?_⟩,st.s.mono MH λ_ _ h=>h,st.r.mono MH λ_ _ h=>h⟩
  .have b1:=st.below.trans (h.below.mono st.below.size);have b2:=b1.trans (fY.below b1.size λb hb=>ael st.ge.1 (agx (f2.lt b hb).1));refine b2.trans ⟨rfl,rfl,rfl,by rw[TK];exact adh _,λk hk=>aec w2 bF k #[u'] λe=>?_⟩;have:=st.ge.1;omega
  .rintro b k (hm|hm)
   .rw[TK];exact adU (LV b (st.lt b k hm)) XQ
   .rw[TK];exact adU hm.1.2 XQ
  .rintro k (hm|hm)
   .exact st.gF k hm
   .have:=hm.1.1;omega
  .rintro k (hm|hm)
   .exact st.gN k hm
   .have:=hm.1.1;omega
  .have e:(fs++[es]).length=fs.length+1:=by simp
   rw[e]
   exact fK dO λb hb=>aec w2 bF b #[u'] λe=>bF' (by rw[Ij]at hb;cases hb;exact e)
  .intro j hj k Ew
   have BK:xF.length=fs.length:=by have:=f2.1;simpa using this
   have Ez:k=0:=by
    have h1:=(BQ (fs++[es]) _ (ada hj)).1;omega
   subst Ez;rw[aeD,Nat.add_zero]
   by_cases nc:j<fs.length
   .have dY:j<(fs.map vI).length:=by simpa using nc
    have iJ:((fs++[es]).map vI)[j]=(fs.map vI)[j]:=by
     rw[adp,adp,adA nc]
    obtain⟨x,x1,x2⟩:=f3.2 j dY 0 (by rw[<-iJ];exact Ew);rw[aeD,Nat.add_zero]at x1;refine⟨x,by rw[aem (by omega)];exact x1,?_⟩;simp only[iJ];exact x2.mono (bl.of_eq λb k hm=>⟨⟨.inl hm.1,hm.2⟩,GX b (st.lt b k hm.1) (λe=>st.gF k (e▸hm.1)) λe=>(f4 b e).2 k hm.1⟩)
   .have Bu:j=fs.length:=by simp at hj;omega
    subst Bu;refine⟨a'.tmps.getD 16 undef,by rw[<-BK];simp,?_⟩
    have iJ:((fs++[es]).map vI)[fs.length]=vI es:=by simp
    simp only[iJ];exact ez.mono (bl.of_eq λb k hm=>⟨⟨.inr hm,ael st.below.size hm.1.1⟩,old b hm.1.2 (λe=>by have:=hm.1.1;omega) λe=>by have:=Zj b e;have:=hm.1.1;omega⟩)
  .intro b hb;rw[Ij]at hb;cases hb;rcases hor with ho|ho
   .refine⟨(f4 b' ho).1,?_⟩;rintro k (hm|hm)
    .exact(f4 b' ho).2 k hm
    .have:=Zj b' ho;have:=hm.1.1;omega
   .refine⟨λe=>by have:=LV bN lN;omega,?_⟩;rintro k (hm|hm)
    .have:=LV b' (st.lt b' k hm);omega
    .have:=hm.1.2;omega
  .exact(GX bN lN (λe=>st.ge.2.2 e.symm) λe=>(f4 bN e).1 rfl).trans n1
  .exact fK n2 λb hb=>GX b (n2.lt b hb).2 (n4 b hb).1 (n4 b hb).2.1
  .exact n3.mono (bl.of_eq λ_ _ h=>h.elim)
  .intro b hb;refine⟨(n4 b hb).1,λe=>?_,?_⟩
   .rw[Ij]at e;cases e;rcases hor with ho|ho
    .exact(n4 b' hb).2.1 ho
    .have:=LV b' (n2.lt b' hb).2;omega
   .rintro k (hm|hm)
    .exact(n4 b hb).2.2 k hm
    .have:=(n2.lt b hb).2;have:=hm.1.1;omega
 have s3:∀{a' w'},L2 a w u v es true 3 a' w'->wpAnyIn (FR none) m prog .any ops Q 2 #[true,true,true,true,false,false] a' w':=tail
 have s2:∀{a' w'},L2 a w u v es true 2 a' w'->wpAnyIn (FR none) m prog .any ops Q 3 #[true,true,true,false,false,false] a' w':=λh=>oY rf (row h λ_ _ h=>s3 h)
 have s1:∀{a' w'},L2 a w u v es true 1 a' w'->wpAnyIn (FR none) m prog .any ops Q 4 #[true,true,false,false,false,false] a' w':=λh=>oY rd (copy h λ_ _ h=>s2 h)
 have p3:∀{a' w'},L2 a w u v es false 3 a' w'->wpAnyIn (FR none) m prog .any ops Q 3 #[false,true,true,true,false,false] a' w':=λh=>oY rg (load h λ_ _ h=>s3 h)
 have p2:∀{a' w'},L2 a w u v es false 2 a' w'->wpAnyIn (FR none) m prog .any ops Q 4 #[false,true,true,false,false,false] a' w':=λh=>y8 re (load h λ_ _ h=>s2 h) (row h λ_ _ h=>p3 h)
 have p1:∀{a' w'},L2 a w u v es false 1 a' w'->wpAnyIn (FR none) m prog .any ops Q 5 #[false,true,false,false,false,false] a' w':=λh=>y8 rc (load h λ_ _ h=>s1 h) (copy h λ_ _ h=>p2 h)
 have s0:∀{a' w'},L2 a w u v es true 0 a' w'->wpAnyIn (FR none) m prog .any ops Q 5 #[true,false,false,false,false,false] a' w':=λh=>oY rb (now h λ_ _ h=>s1 h)
 refine afC cV ?_;rw[r0];show wpAnyIn (FR none) m prog .any ops Q 6 #[false,false,false,false,false,false] a { w with drawn:=w.drawn+1 }
 have XB:L2 a w u v es false 0 a { w with drawn:=w.drawn+1 }:=⟨bq,dZ,eL.refl _ _,⟨rfl,rfl,rfl,adh _,λ_ _=>rfl⟩,(λh=>by cases h),λh=>by omega,λh=>by omega,λh=>by omega⟩
 exact y8 ra (load XB λ_ _ h=>s0 h) (now XB λ_ _ h=>p1 h)
end
end Go.Proofs.Tryz
namespace Go.Proofs.Tryz
open Go Go.AL Go.RowKit Go.Proofs Go.Proofs.Tram
section
variable{H:Type}{enc:TypeId×Value->H}{w:World}{held:Bool}
def T0:Nat->Nat->Prop:=λ_ _=>True
def mC(w:World)(l:List AV)(cs:List Value):Prop:=l.length=cs.length/\∀i (h:i<l.length)(h':i<cs.length),(l[i]).one=true/\RD T0 w l[i] cs[i]
def jT(enc:TypeId×Value->H)(w:World)(held:Bool)(t:TypeId){α:Type}(f:α->List AV)(xA:α->Prop):Prop:=
 ∀(fuel:Nat)(cs:List Value)(x:DataW H×List MemPlace),DataW.trod enc prog w 0 (λ_=>true) held fuel t cs=some x->∃a,xA a/\mC w (f a) cs
def kh(n:Int):Prop:= -9223372036854775808<=n/\n<9223372036854775808
theorem EA{t:TypeId}(ht:prog.underlying t=some (.int .i64)):jT enc w held t (λn:Int=>[.int .i64 n]) kh:=by
 intro fuel cs x h;obtain⟨n,rfl,_,hw⟩:=DataW.trod_int ht h;refine⟨n,?_,rfl,λi hi eb=>?_⟩
 .simp only[Lit.wf,adb,adf]at hw
  have h1:IntKind.i64.min= -9223372036854775808:=by kernel_rfl
  have h2:IntKind.i64.max=9223372036854775807:=by kernel_rfl
  rw[h1,h2]at hw;exact⟨hw.1,by omega⟩
 .match i,hi with
  |0,_=>exact⟨rfl,.int _ _⟩
theorem uM{t:TypeId}(ht:prog.underlying t=some .bool):jT enc w held t (λb:Bool=>[.bool b]) (λ_=>True):=by
 intro fuel cs x h;obtain⟨b,rfl,_⟩:=DataW.trod_bool ht h;refine⟨b,trivial,rfl,λi hi eb=>?_⟩
 match i,hi with
 |0,_=>exact⟨rfl,.bool _⟩
theorem sD{α:Type}{p:Nat->α->Prop}:∀(n:Nat),(∀i,i<n->∃a,p i a)->∃l:List α,l.length=n/\∀i (h:i<l.length),p i l[i]
 |0,_=>⟨[],rfl,λi h=>by simp at h⟩
 |n+1,h=>by
  obtain⟨l,hl,hp⟩:=sD n λi hi=>h i (by omega)
  obtain⟨a,ha⟩:=h n (by omega);refine⟨l++[a],by simp[hl],λi hi=>?_⟩
  by_cases jJ:i<l.length
  .rw[adA jJ];exact hp i jJ
  .have:i=n:=by simp at hi;omega
   subst this;rw[ad_ (by omega)];simpa[hl]using ha
theorem Eu{w:World}{a:Addr}{v:Value}(h:w.cell? a=some v):a=⟨a.block,a.off,none⟩:=by
 obtain⟨b,o,s⟩:=a;unfold World.cell? at h
 cases s with
 |none=>rfl
 |some s=>
  simp at h
  split at h<;>simp at h
theorem l3 {t e:TypeId} {α:Type} {f:α→List AV} {xA:α→Prop} (mk:α→AV) (hmk:∀ a,(mk a).cells=f a) (ht:prog.underlying t=some (.slice e)) (gf:0 < prog.cellsOf e) (he:jT enc w held e f xA) :
  jT enc w held t (λl:List α=>[.slice .view (l.map mk)]) (λl=>∀a∈l,xA a):=by
 intro fuel cs x h
 rcases DataW.trod_slice ht h with⟨rfl,_⟩|⟨a,len,cap,elems,rest,n,_,rfl,_,_,hlc,yp,hlen,Au,jB,_⟩
 .refine⟨[],by simp,rfl,λi hi eb=>?_⟩
  match i,hi with
  |0,_=>exact⟨rfl,.jU _⟩
 .obtain⟨size,oq⟩:∃size,prog.cellsOf e=size:=⟨_,rfl⟩
  rw[oq]at gf Au jB;obtain⟨DT,KF⟩:=jB rfl
  by_cases fF:cap=0
  .subst fF
   have rI:len=0:=by omega
   subst rI;refine⟨[],by simp,rfl,λi hi eb=>?_⟩
   match i,hi with
   |0,_=>exact⟨rfl,.kV _ _⟩
  have vO:∃i gM,w.cells? 0 (a.add (i*size)) size=some gM/\i=0:=by
   by_cases rI:len=0
   .subst rI;have h0:=KF 0 (by omega);rw[ac_ (by omega),aep]at h0;obtain⟨gM,h1,_⟩:=h0;exact⟨0,gM,by simpa using h1,rfl⟩
   .have h0:=Au 0 (by omega);rw[ac_ (by omega),aep]at h0;obtain⟨gM,h1,_⟩:=h0;exact⟨0,gM,h1,rfl⟩
  obtain⟨_,cs0,F_,rfl⟩:=vO;rw[agX,show a.add 0=a by simp[Addr.add]]at F_;have xh:=(afU F_).2.2 0 (by omega);rw[show a.add 0=a by simp[Addr.add]]at xh;have rI:=(afU F_).2.1;rw[ac_ (by omega)]at xh
  obtain⟨b,off,rfl⟩:∃b off,a=⟨b,off,none⟩:=⟨_,_,Eu xh⟩
  clear xh F_ rI cs0 KF jB
  obtain⟨l,hl,hp⟩:=sD (p:=λi (v:α)=>xA v/\∃gM,w.cells? 0 ((⟨b,off,none⟩:Addr).add (i*size)) size=some gM/\mC w (f v) gM) len λi hi=>by
   have h0:=Au i hi;rw[ac_ (by omega),aep]at h0;obtain⟨gM,h1,h2⟩:=h0;obtain⟨v,hv,hc⟩:=he _ _ _ h2;exact⟨v,hv,gM,h1,hc⟩
  refine⟨l,λv hv=>?_,rfl,λi hi eb=>?_⟩
  .obtain⟨i,hi,rfl⟩:=adG hv;exact(hp i hi).1
  .have Jr:i=0:=by simpa using hi
   subst Jr;refine⟨rfl,?_⟩;show RD T0 w (.slice .view (l.map mk)) (.slice (some ⟨b,off,none⟩) len cap)
   have sV:len=(l.map mk).length:=by simp[hl]
   have Cv:∀i (h:i<(l.map mk).length),((l.map mk)[i]).cells=f (l[i]'(by simpa using h)):=λi h=>by rw[adp];exact hmk _
   have key:∀m,m=(l.map mk).length->RD T0 w (.slice .view (l.map mk)) (.slice (some ⟨b,off,none⟩) m cap):=?_
   .exact key _ sV
   rintro m rfl
   have fo:∀i (h:i<l.length) j,j<size->∃gM,mC w (f l[i]) gM/\gM.length=size/\w.cell? ⟨b,off+(i*size+j),none⟩=gM[j]?:=by
    intro i h j hj;obtain⟨_,gM,h1,h2⟩:=hp i h;obtain⟨_,h3,h4⟩:=afU h1;have h5:=h4 j hj;rw[aev,aev,afJ]at h5;exact⟨gM,h2,h3,h5⟩
   have Ll:∀i (h:i<l.length),(f l[i]).length=size:=by
    intro i h;obtain⟨gM,h1,h2,_⟩:=fo i h 0 gf;rw[h1.1,h2]
   refine .slice .view (l.map mk) b off cap size (λk=>(w.cell? ⟨b,off+k,none⟩).getD undef) (by rw[<-sV];exact hlc) (λh=>by cases h) (λi h=>by rw[Cv];exact Ll _ _) (λi h j hj=>?_) (λk hk=>⟨trivial,?_⟩) (λi h j hj=>?_)
   .have cH:i<l.length:=by simpa using h
    have dY:j<(f l[i]).length:=by rw[Cv]at hj;exact hj
    have U4:j<size:=by rw[Ll]at dY;exact dY
    obtain⟨gM,h1,h2,_⟩:=fo i cH j U4
    have e:((l.map mk)[i]).cells[j]=(f l[i])[j]:=by simp only[Cv]
    rw[e];exact(h1.2 j dY (by omega)).1
   .have dP:k<l.length*size:=by simpa using hk
    have hi:k/size<l.length:=agi (by rw[ae7];exact dP);have hj:k % size<size:=agS _ gf;obtain⟨gM,h1,h2,h3⟩:=fo (k/size) hi (k % size) hj
    have e:k/size*size+k % size=k:=by rw[ae7];exact agq k size
    rw[e,ac_ (by omega)]at h3;rw[h3];rfl
   .have cH:i<l.length:=by simpa using h
    have dY:j<(f l[i]).length:=by rw[Cv]at hj;exact hj
    have U4:j<size:=by rw[Ll]at dY;exact dY
    obtain⟨gM,h1,h2,h3⟩:=fo i cH j U4;rw[ac_ (by omega)]at h3
    have e:((l.map mk)[i]).cells[j]=(f l[i])[j]:=by simp only[Cv]
    rw[e,h3];exact(h1.2 j dY (by omega)).2
def fieldsOf:TypeDesc->Option (List (TypeId×Nat))
 |.struct fs=>some (fs.toList.map λf=>(f.type,f.offset))
 |_=>none
theorem jh {t:TypeId} {uI:List (TypeId×Nat)} (hf:(prog.underlying t).bind fieldsOf=some uI) {fuel:Nat} {cs:List Value} {x:DataW H×List MemPlace} (h:DataW.trod enc prog w 0 (fun _=>true) held fuel t cs=some x) :
  cs.length=prog.cellsOf t/\∀(i t' o:Nat),uI[i]?=some (t',o)->∃n x',DataW.trod enc prog w 0 (λ_=>true) held n t' ((cs.drop o).take (prog.cellsOf t'))=some x':=by
 cases hu:prog.underlying t with
 |none=>rw[hu]at hf;cases hf
 |some d=>
  rw[hu]at hf
  cases d<;>first|(cases hf;done)|skip
  rename_i fs;simp only[Option.bind_some,fieldsOf,adS]at hf;obtain⟨xs,n,_,_,hl,BK,fQ⟩:=DataW.trod_struct hu h;refine⟨hl,λi t' o hi=>?_⟩;rw[<-hf,adI,adr]at hi;obtain⟨f,Tc,e⟩:=hi;cases e
  have RY:fs[i]?=some f:=by rw[<-aeH];exact Tc
  have:=fQ i f RY;have au:i<fs.size:=(ade.1 RY).1;rw[ac_ (by omega)]at this;exact⟨n,_,this⟩
theorem mC.append{l1 l2:List AV}{c1 c2:List Value}(h1:mC w l1 c1)(h2:mC w l2 c2):mC w (l1++l2) (c1++c2):=by
 refine⟨by simp[h1.1,h2.1],λi h h'=>?_⟩
 by_cases hi:i<l1.length
 .rw[adA hi,adA (by rw[<-h1.1];exact hi)];exact h1.2 i hi _
 .rw[ad_ (by omega),ad_ (by rw[<-h1.1];omega)];have:=h1.1;simp only[this];exact h2.2 _ _ _
def tv(p:j7):Prop:=kh p.l/\kh p.r/\kh p.lo/\kh p.hi
def tQ(w:Word):Prop:=(∀n∈w.aK,kh n)/\∀n∈w.bK,kh n
structure wj(s:aq):Prop where
 aY:∀n∈s.aY,kh n
 aR:∀p∈s.aR,tv p
 ib:kh s.ib
 g_:kh s.g_
 lx:kh s.lx
 lL:kh s.lL
 cG:kh s.cG
 words:∀w∈s.words,tQ w
 wide:kh s.wide
 rows:kh s.rows
theorem JM:prog.cellsOf 3=1:=by kernel_rfl
theorem XL:prog.cellsOf 4=1:=by kernel_rfl
theorem Sd:prog.cellsOf 23=1:=by kernel_rfl
theorem W8:prog.cellsOf 24=1:=by kernel_rfl
theorem G9:prog.cellsOf 26=2:=by kernel_rfl
theorem XG:prog.cellsOf 27=1:=by kernel_rfl
theorem Sf:prog.cellsOf 29=10:=by kernel_rfl
theorem RI:prog.cellsOf 44=3:=by kernel_rfl
theorem LA:prog.cellsOf 166=4:=by kernel_rfl
theorem u3:prog.underlying 3=some (.int .i64):=by kernel_rfl
theorem jL:jT enc w held 3 (λn:Int=>[.int .i64 n]) kh:=EA u3
theorem ux:jT enc w held 23 (λl:List Int=>[vI l]) (λl=>∀n∈l,kh n):=
 l3 (e:=3) (λn:Int=>.int .i64 n) (λ_=>rfl) (by kernel_rfl) (by rw[JM];omega) jL
theorem sN:jT enc w held 26 (λp:Int×Int=>[.int .i64 p.1,.int .i64 p.2]) (λp=>kh p.1/\kh p.2):=by
 intro fuel cs x h;obtain⟨hl,hf⟩:=jh (uI:=[(3,0),(3,1)]) (by kernel_rfl) h;rw[G9]at hl
 match cs,hl with
 |[x0,x1],_=>
  obtain⟨_,_,h0⟩:=hf 0 3 0 rfl;obtain⟨_,_,h1⟩:=hf 1 3 1 rfl;rw[JM]at h0 h1;obtain⟨a,ga,ra⟩:=jL _ _ _ h0;obtain⟨b,gb,rb⟩:=jL _ _ _ h1;exact⟨(a,b),⟨ga,gb⟩,ra.append rb⟩
theorem HS:jT enc w held 166 (λp:j7=>(dq p).cells) tv:=by
 intro fuel cs x h;obtain⟨hl,hf⟩:=jh (uI:=[(3,0),(3,1),(26,2)]) (by kernel_rfl) h;rw[LA]at hl
 match cs,hl with
 |[x0,x1,x2,x3],_=>
  obtain⟨_,_,h0⟩:=hf 0 3 0 rfl;obtain⟨_,_,h1⟩:=hf 1 3 1 rfl;obtain⟨_,_,h2⟩:=hf 2 26 2 rfl;rw[JM]at h0 h1;rw[G9]at h2;obtain⟨a,ga,ra⟩:=jL _ _ _ h0;obtain⟨b,gb,rb⟩:=jL _ _ _ h1;obtain⟨c,gc,rc⟩:=sN _ _ _ h2;exact⟨⟨a,b,c.1,c.2⟩,⟨ga,gb,gc.1,gc.2⟩,ra.append (rb.append rc)⟩
theorem Mp:jT enc w held 24 (λl:List j7=>[.slice .view (l.map dq)]) (λl=>∀p∈l,tv p):=
 l3 (e:=166) dq (λ_=>rfl) (by kernel_rfl) (by rw[LA];omega) HS
theorem J9:jT enc w held 44 (λx:Word=>(bD x).cells) tQ:=by
 intro fuel cs x h;obtain⟨hl,hf⟩:=jh (uI:=[(23,0),(23,1),(4,2)]) (by kernel_rfl) h;rw[RI]at hl
 match cs,hl with
 |[x0,x1,x2],_=>
  obtain⟨_,_,h0⟩:=hf 0 23 0 rfl;obtain⟨_,_,h1⟩:=hf 1 23 1 rfl;obtain⟨_,_,h2⟩:=hf 2 4 2 rfl;rw[Sd]at h0 h1;rw[XL]at h2;obtain⟨a,ga,ra⟩:=ux _ _ _ h0;obtain⟨b,gb,rb⟩:=ux _ _ _ h1;obtain⟨c,_,rc⟩:=uM (t:=4) (by kernel_rfl) _ _ _ h2;exact⟨⟨a,b,c⟩,⟨ga,gb⟩,ra.append (rb.append rc)⟩
theorem MJ:jT enc w held 27 (λl:List Word=>[.slice .view (l.map bD)]) (λl=>∀x∈l,tQ x):=
 l3 (e:=44) bD (λ_=>rfl) (by kernel_rfl) (by rw[RI];omega) J9
theorem KS:jT enc w held 29 ae wj:=by
 intro fuel cs x h;obtain⟨hl,hf⟩:=jh (uI:=[(23,0),(24,1),(26,2),(26,4),(3,6),(27,7),(3,8),(3,9)]) (by kernel_rfl) h;rw[Sf]at hl
 match cs,hl with
 |[x0,x1,x2,x3,x4,x5,x6,x7,x8,x9],_=>
  obtain⟨_,_,h0⟩:=hf 0 23 0 rfl;obtain⟨_,_,h1⟩:=hf 1 24 1 rfl;obtain⟨_,_,h2⟩:=hf 2 26 2 rfl;obtain⟨_,_,h3⟩:=hf 3 26 4 rfl;obtain⟨_,_,h4⟩:=hf 4 3 6 rfl;obtain⟨_,_,h5⟩:=hf 5 27 7 rfl;obtain⟨_,_,h6⟩:=hf 6 3 8 rfl;obtain⟨_,_,h7⟩:=hf 7 3 9 rfl;rw[Sd]at h0;rw[W8]at h1;rw[G9]at h2 h3;rw[JM]at h4 h6 h7;rw[XG]at h5;obtain⟨a0,g0,r0⟩:=ux _ _ _ h0;obtain⟨a1,g1,r1⟩:=Mp _ _ _ h1;obtain⟨a2,g2,r2⟩:=sN _ _ _ h2;obtain⟨a3,g3,r3⟩:=sN _ _ _ h3;obtain⟨a4,g4,r4⟩:=jL _ _ _ h4;obtain⟨a5,g5,r5⟩:=MJ _ _ _ h5;obtain⟨a6,g6,r6⟩:=jL _ _ _ h6;obtain⟨a7,g7,r7⟩:=jL _ _ _ h7;exact⟨⟨a0,a1,a2.1,a2.2,a3.1,a3.2,a4,a5,a6,a7⟩,⟨g0,g1,g2.1,g2.2,g3.1,g3.2,g4,g5,g6,g7⟩,r0.append (r1.append (r2.append (r3.append (r4.append (r5.append (r6.append r7))))))⟩
def JO(s:az):Prop:=kh s.pos/\kh s.reach/\kh s.eH/\kh s.dE/\wj s.name/\∀c∈s.cells,kh c.lo/\kh c.hi
theorem Rm:prog.cellsOf 52=3:=by kernel_rfl
theorem YU:prog.cellsOf 22=1:=by kernel_rfl
theorem XS:prog.cellsOf 31=15:=by kernel_rfl
theorem JZ:jT enc w held 52 (λc:kq=>(iK c).cells) (λc=>kh c.lo/\kh c.hi):=by
 intro fuel cs x h;obtain⟨hl,hf⟩:=jh (uI:=[(26,0),(4,2)]) (by kernel_rfl) h;rw[Rm]at hl
 match cs,hl with
 |[x0,x1,x2],_=>
  obtain⟨_,_,h0⟩:=hf 0 26 0 rfl;obtain⟨_,_,h2⟩:=hf 1 4 2 rfl;rw[G9]at h0;rw[show prog.cellsOf 4=1 from XL]at h2;obtain⟨a,ga,ra⟩:=sN _ _ _ h0;obtain⟨c,_,rc⟩:=uM (t:=4) (by kernel_rfl) _ _ _ h2;exact⟨⟨a.1,a.2,c⟩,ga,ra.append rc⟩
theorem KY:jT enc w held 22 (λl:List kq=>[.slice .view (l.map iK)]) (λl=>∀c∈l,kh c.lo/\kh c.hi):=
 l3 (e:=52) iK (λ_=>rfl) (by kernel_rfl) (by rw[Rm];omega) JZ
theorem JV:jT enc w held 31 ao JO:=by
 intro fuel cs x h;obtain⟨hl,hf⟩:=jh (uI:=[(22,0),(3,1),(3,2),(3,3),(3,4),(29,5)]) (by kernel_rfl) h;rw[XS]at hl
 match cs,hl with
 |[x0,x1,x2,x3,x4,x5,x6,x7,x8,x9,xa,xb,xc,xd,xe],_=>
  obtain⟨_,_,h0⟩:=hf 0 22 0 rfl;obtain⟨_,_,h1⟩:=hf 1 3 1 rfl;obtain⟨_,_,h2⟩:=hf 2 3 2 rfl;obtain⟨_,_,h3⟩:=hf 3 3 3 rfl;obtain⟨_,_,h4⟩:=hf 4 3 4 rfl;obtain⟨_,_,h5⟩:=hf 5 29 5 rfl;rw[YU]at h0;rw[JM]at h1 h2 h3 h4;rw[Sf]at h5;obtain⟨a0,g0,r0⟩:=KY _ _ _ h0;obtain⟨a1,g1,r1⟩:=jL _ _ _ h1;obtain⟨a2,g2,r2⟩:=jL _ _ _ h2;obtain⟨a3,g3,r3⟩:=jL _ _ _ h3;obtain⟨a4,g4,r4⟩:=jL _ _ _ h4;obtain⟨a5,g5,r5⟩:=KS _ _ _ h5;exact⟨⟨a0,a1,a2,a3,a4,a5⟩,⟨g1,g2,g3,g4,g5,g0⟩,r0.append (r1.append (r2.append (r3.append (r4.append r5))))⟩
theorem Ar{d:DataW H}{ps:List MemPlace}{v:Value}{r:Reach}{base:Nat}(vr:Value.okWide prog w r base 31 v)(h:DataW.Trod enc prog w 0 (λ_=>true) held 31 v d ps):∃s:az,JO s/\RD T0 w (a_ s) v:=by
 obtain⟨fuel,hf⟩:=h;obtain⟨s,gs,hc⟩:=JV _ _ _ hf;refine⟨s,gs,?_⟩;obtain⟨fs,fE⟩:=cd (P:=prog) (t:=31) (by kernel_rfl);obtain⟨cs,rfl,_⟩:=WideShapes.okWide_struct fE vr;refine .agg _ _ (by simpa[Value.cells]using hc.1) (λi hi=>(hc.2 i hi (by rw[<-hc.1];exact hi)).1) (λi hi eb=>?_);have:=(hc.2 i hi (by rw[<-hc.1];exact hi)).2;simpa[Value.cells]using this
end
section
variable{H:Type}{enc:TypeId×Value->H}{w:World}{held:Bool}
theorem ZZ:prog.underlying 23=some (.slice 3):=by kernel_rfl
theorem open_ints{d:DataW H}{ps:List MemPlace}{v:Value}{r:Reach}{base:Nat}(vr:Value.okWide prog w r base 23 v)(h:DataW.Trod enc prog w 0 (λ_=>true) held 23 v d ps):∃l:List Int,(∀n∈l,kh n)/\RD T0 w (vI l) v:=by
 obtain⟨fuel,hf⟩:=h;obtain⟨l,gl,hc⟩:=ux _ _ _ hf;obtain⟨a,n,m,rfl⟩:=WideShapes.okWide_slice ZZ vr;refine⟨l,gl,?_⟩;have:=(hc.2 0 (by simp) (by simp[Value.cells])).2;simpa[Value.cells]using this
end
end Go.Proofs.Tryz
namespace Go.Proofs.YtdiflocclemeaaaGreatDoor
open Go Go.AL Go.ChangeShapes Go.WideShapes Go.ChangeAt Go.RowKit
theorem own:ownKnob Tryz.prog.godebug=none:=by kernel_rfl
theorem y4:laidOutB Tryz.prog=true:=by kernel_rfl
def GI(w:World):Prop:=∃m,w.cell? ⟨1,0,none⟩=some (.int .i64 m)
theorem Eg:aw GI:=by
 rintro w w' ⟨m,hm⟩ hb;refine⟨m,?_⟩
 have h1:1<w.heap.size:=by
  unfold World.cell? at hm
  by_cases h:1<w.heap.size
  .exact h
  .have:w.heap[1]?=none:=by simp;omega
   simp[this]at hm
 unfold World.cell? at hm⊢;rw[hb.block 1 h1];exact hm
theorem Ug{w:World}(h:w.ShapedOpen Tryz.prog):GI w:=
 cell_of_shapedOpen_int (g:=1) (t:=3) (zero:=#[.int .i64 0]) (k:=.i64) h (aeQ (by kernel_rfl)) (by kernel_rfl) rfl (by kernel_rfl) (by kernel_rfl) (by kernel_rfl)
abbrev oP:List (String×DataW Unit):=Rows.tramSetRow.laid
variable{H:Type}{enc:TypeId×Value->H}
theorem o8{w:World}{base:Nat}{spare:Nat->Bool}{held:Bool}:∀{ts:List TypeId}{vs:List Value}{ds:List (DataW H)}{ps:List MemPlace},DataW.TrodAll enc Tryz.prog w base spare held ts vs ds ps->ds.length=ts.length
 |[],[],[],_,_=>rfl
 |_::_,_::_,_::_,_,⟨_,_,_,h,_⟩=>congrArg (·+1) (o8 h)
theorem qc {W W':World} (hb:Below W.heap.size W W'):∀ {ts:List TypeId} {vs:List Value} {ds:List (DataW H)} {ps:List MemPlace},(∀ t∈ts,Tryz.prog.readableRec t=true∧t < Tryz.prog.types.size) →
  DataW.TrodAll enc Tryz.prog W 0 (λ_=>true) true ts vs ds ps->(∀x∈ps,x.block<W.heap.size)->DataW.TrodAll enc Tryz.prog W' 0 (λb=>decide (b<W.heap.size)) true ts vs ds ps
 |[],[],[],_,_,h,_=>h
 |t::_,_::_,_::_,_,hr,⟨p,q,h1,h2,e⟩,au=>by
  subst e;exact⟨p,q,Below.trod y4 (hr t adt).1 (hr t adt).2 h1 hb (λx hx=>au x (aeu _ hx)),qc hb (λu hu=>hr u (ado _ hu)) h2 (λx hx=>au x (af_ _ hx)),rfl⟩
theorem Ff (f:FuncId) (fn:Func) (QF:Tryz.checked.prog.funcs[f]? = some fn) (PN:Tryz.checked.prog.inits.idxOf? f=none) (R8:fn.resultTypes = #[4]) (spec:ChangeSpec) (L6:spec.vars=[])
  (Fp:∀(ds:List (DataW H)),ds.length=fn.params.size->spec.fn H ds={ results:=[.lit (.bool true)],args:=ds })
  (ez:∀t∈fn.params.toList,Tryz.prog.readableRec t=true/\t<Tryz.prog.types.size)
  (os:Os) (started:os.Started) (oI:Array Value) (fuel:Nat)
  (cM:((World.laidAll Tryz.prog os oP).forCall (λ_ _=>0) ⟨#[],oI,[]⟩).Shaped Tryz.checked.prog)
  (cP:Input.okWideB Tryz.checked.prog ((World.laidAll Tryz.prog os oP).forCall (λ_ _=>0) ⟨#[],oI,[]⟩) f ⟨#[],oI,[]⟩=true)
  (Ra:spec.preB enc Tryz.checked.prog fn [] false ((World.laidAll Tryz.prog os oP).forCall (λ_ _=>0) ⟨#[],oI,[]⟩).memory oI fuel=true)
  (bq:spec.sizedB enc Tryz.checked.prog fn false ((World.laidAll Tryz.prog os oP).forCall (λ_ _=>0) ⟨#[],oI,[]⟩).memory oI fuel=true)
  (hx:laidMetH Tryz.prog oP ((World.laidAll Tryz.prog os oP).forCall (λ_ _=>0) ⟨#[],oI,[]⟩).memory)
  (fg:∀(W:World)(base:Nat)(args:Array Value)(ds:List (DataW H))(p:List MemPlace),GI W->
   (∀(j:Nat) t v,fn.params[j]?=some t->args[j]?=some v->Value.okWide Tryz.prog W .any base t v)->
   DataW.TrodAll enc Tryz.prog W 0 (λ_=>true) true fn.params.toList args.toList ds p->
   Calls Tryz.prog f args W λe W'=>e=.returned (.bool true)/\Below W.heap.size W W'):
  ReturnsInHanded {} Tryz.checked os f .any (λw args=>(spec.pre enc Tryz.checked.prog fn [] false w args/\laidMetH Tryz.checked.prog oP w)/\sizedMet enc Tryz.checked.prog fn (OpenSpec.ofChange spec) false w args)
   (spec.post enc Tryz.checked.prog fn false true false false):=by
 refine returnsInHanded_of_calls (C:=Tryz.checked) own started PN
  (ChangeSpec.witness_shaped (enc:=enc) (C:=Tryz.checked) (os:=os) (X:=λw _=>laidMetH Tryz.prog oP w) false (World.laidAll Tryz.prog os oP) oI fuel (World.laidAll_os _ _ _) cM cP Ra bq hx) ?_
 intro w tape i _ Vi _ Dg hp _;obtain⟨_,_,_,Kx,X1,_,_,_,_,vr⟩:=Dg;have e:Kx=fn:=adw (X1.symm.trans QF);subst e;obtain⟨⟨⟨ds,gs,before,hw,hc⟩,_⟩,hz⟩:=hp;have LW:=DataW.Whole.of_heap (w':=w.forCall tape i) (by rfl) hw;have hW:=LW;obtain⟨p,q,hA,hV,rfl,_,_⟩:=LW
 have ir:gs=[]/\q=[]:=by
  rw[L6]at hV;obtain⟨rfl,rfl⟩:=trodVars_none hV;exact⟨rfl,rfl⟩
 obtain⟨rfl,rfl⟩:=ir;have Sz:DataW.TrodAll enc Tryz.prog (w.forCall tape i) 0 (λ_=>true) true Kx.params.toList i.args.toList ds p:=hA
 have au:∀x∈p,x.block<(w.forCall tape i).heap.size:=λx hx=>by simpa using hW.lt x (aeu _ hx)
 refine(fg (w.forCall tape i) w.heap.size i.args ds p (Ug Vi) vr Sz).mono λe W' ⟨he,hb⟩=>?_
 subst he;show spec.post enc Tryz.checked.prog Kx false true false false (w.forCall tape i).blind i.args (.bool true) W'.blind;refine ChangeSpec.post_blind (?_:spec.post enc Tryz.checked.prog Kx false true false false (w.forCall tape i) i.args (.bool true) W')
 have K9:ds.length=Kx.params.size:=by
  rw[o8 Sz];simp
 refine⟨ds,[],p++[],[],p,[],hW,?_,?_,?_,hb.frame _,λh=>by cases h⟩
 .rw[adT,Fp ds K9,R8];exact trodAll_mk1 (shut_bool (by kernel_rfl) _)
 .rw[adT,Fp ds K9];exact qc hb ez Sz au
 .rw[adT,Fp ds K9,L6]
  rfl
end Go.Proofs.YtdiflocclemeaaaGreatDoor
namespace Go.Proofs.YtdiflocclemeaaaGreatDoor
open Go Go.AL Go.ChangeShapes Go.WideShapes Go.ChangeAt Go.RowKit
def ch(l:List Nat):List Char:=l.map Char.ofNat
def w1:List Nat:=[104,97,114,110,101,115,115]
def w2:List Nat:=[54,52,48,57,100,55,57,99,57,51,56,56,56,49,50,53,56,99,102,54,99,48,49,97,52,98,98,98,53,98,57,100,97,57,53,99,102,102,101,56,57,98,102,54,57,56,52,52,99,49,102,54,101,51,55,98,52,54,51,52,56,49,53,56]
def w3:List Nat:=[99,117,116]
def w4:List Nat:=[97,116,32,109,97,104,108,115,116,105,99,107,47,109,97,104,108,115,116,105,99,107,108,97,119,48,57,46,84,114,97,109,83,101,116,32,109,97,104,108,115,116,105,99,107,47,109,97,104,108,115,116,105,99,107,108,97,119,48,57,46,84,114,97,109,86,105,101,119,101,100,32,109,97,104,108,115,116,105,99,107,47,109,97,104,108,115,116,105,99,107,108,97,119,48,57,46,84,114,97,109,83,101,101,115,32,109,97,104,108,115,116,105,99,107,47,109,97,104,108,115,116,105,99,107,108,97,119,48,57,46,84,114,97,109,87,111,114,100,115,32,109,97,104,108,115,116,105,99,107,47,109,97,104,108,115,116,105,99,107,108,97,119,48,57,46,84,114,97,109,84,114,117,101,32,109,97,104,108,115,116,105,99,107,47,109,97,104,108,115,116,105,99,107,108,97,119,48,57,46,84,114,97,109,83,116,111,112,115,32,109,97,104,108,115,116,105,99,107,47,109,97,104,108,115,116,105,99,107,108,97,119,48,57,46,84,114,97,109,87,97,105,116,101,100,32,109,97,104,108,115,116,105,99,107,47,109,97,104,108,115,116,105,99,107,108,97,119,48,57,46,84,114,97,109,70,97,114,115,32,109,97,104,108,115,116,105,99,107,47,109,97,104,108,115,116,105,99,107,108,97,119,48,57,46,84,114,97,109,80,97,99,101,100,32,109,97,104,108,115,116,105,99,107,47,109,97,104,108,115,116,105,99,107,108,97,119,48,57,46,84,114,97,109,72,97,110,103,115,32,109,97,104,108,115,116,105,99,107,47,109,97,104,108,115,116,105,99,107,108,97,119,48,57,46,84,114,97,109,72,117,110,103,32,109,97,104,108,115,116,105,99,107,47,109,97,104,108,115,116,105,99,107,108,97,119,48,57,46,84,114,97,109,76,101,97,118,101,115,32,109,97,104,108,115,116,105,99,107,47,109,97,104,108,115,116,105,99,107,108,97,119,48,57,46,84,114,97,109,77,111,114,101,32,109,97,104,108,115,116,105,99,107,47,109,97,104,108,115,116,105,99,107,108,97,119,48,57,46,84,114,97,109,78,101,101,100,115,32,109,97,104,108,115,116,105,99,107,47,109,97,104,108,115,116,105,99,107,108,97,119,48,57,46,84,114,97,109,80,114,105,110,116,115,32,109,97,104,108,115,116,105,99,107,47,109,97,104,108,115,116,105,99,107,108,97,119,48,57,46,84,114,97,109,82,101,97,100,115,32,109,97,104,108,115,116,105,99,107,47,109,97,104,108,115,116,105,99,107,108,97,119,48,57,46,84,114,97,109,83,112,111,105,108,116,32,109,97,104,108,115,116,105,99,107,47,109,97,104,108,115,116,105,99,107,108,97,119,48,57,46,84,114,97,109,76,101,102,116]
theorem mT:∀{a b:List Char},(a.all λc=>c !=Char.ofNat 32)=true->wordsSigns (a++Char.ofNat 32::b)=a::wordsSigns b
 |[],b,_=>rfl
 |c::a,b,h=>by
  simp only[List.all_cons,adb,af2]at h;have ih:=mT (b:=b) h.2;show wordsSigns (c::(a++Char.ofNat 32::b))=_
  conv=>lhs;unfold wordsSigns
  split
  .rename_i e;cases e
  .rename_i e;cases e;exact absurd rfl h.1
  .rename_i e;cases e;rw[ih]
theorem head_eq:Tryz.prog.initOrder=String.ofList (ch w1++Char.ofNat 32::(ch w2++Char.ofNat 32::(ch w3++Char.ofNat 32::ch w4))):=by kernel_rfl
theorem uz:wordsSigns Tryz.prog.initOrder.toList=ch w1::ch w2::ch w3::wordsSigns (ch w4):=by
 rw[head_eq,afI,mT (by kernel_rfl),mT (by kernel_rfl),mT (by kernel_rfl)]
theorem Vg:ch w2 = "6409d79c938881258cf6c01a4bbb5b9da95cffe89bf69844c1f6e37b46348158".toList:=by
 have : "6409d79c938881258cf6c01a4bbb5b9da95cffe89bf69844c1f6e37b46348158" = String.ofList (ch w2):=by kernel_rfl
 rw[this,afI]
theorem tl(s:String)(l:List Nat)(h:s=String.ofList (ch l)):s.toList=ch l:=by rw[h,afI]
theorem uG : "harness".toList=ch [104,97,114,110,101,115,115]:=tl _ _ (by kernel_rfl)
theorem C9 : "ownmain".toList=ch [111,119,110,109,97,105,110]:=tl _ _ (by kernel_rfl)
theorem Ft : "gc".toList=ch [103,99]:=tl _ _ (by kernel_rfl)
theorem BZ : "spec".toList=ch [115,112,101,99]:=tl _ _ (by kernel_rfl)
theorem MZ : "stop".toList=ch [115,116,111,112]:=tl _ _ (by kernel_rfl)
theorem pO : "carried".toList=ch [99,97,114,114,105,101,100]:=tl _ _ (by kernel_rfl)
theorem vA : "cut".toList=ch [99,117,116]:=tl _ _ (by kernel_rfl)
theorem wV : "finals".toList=ch [102,105,110,97,108,115]:=tl _ _ (by kernel_rfl)
theorem vl : "reflectrows".toList=ch [114,101,102,108,101,99,116,114,111,119,115]:=tl _ _ (by kernel_rfl)
theorem zS : "leanrows".toList=ch [108,101,97,110,114,111,119,115]:=tl _ _ (by kernel_rfl)
theorem zQ : "onebuild".toList=ch [111,110,101,98,117,105,108,100]:=tl _ _ (by kernel_rfl)
theorem xj : "publicsums".toList=ch [112,117,98,108,105,99,115,117,109,115]:=tl _ _ (by kernel_rfl)
theorem CU : "eqguard".toList=ch [101,113,103,117,97,114,100]:=tl _ _ (by kernel_rfl)
theorem yc : "ownunsafe".toList=ch [111,119,110,117,110,115,97,102,101]:=tl _ _ (by kernel_rfl)
theorem x_ : "libbeside".toList=ch [108,105,98,98,101,115,105,100,101]:=tl _ _ (by kernel_rfl)
theorem ym : "ownbeside".toList=ch [111,119,110,98,101,115,105,100,101]:=tl _ _ (by kernel_rfl)
theorem wb : "reflbeside".toList=ch [114,101,102,108,98,101,115,105,100,101]:=tl _ _ (by kernel_rfl)
theorem Cs : "aliases".toList=ch [97,108,105,97,115,101,115]:=tl _ _ (by kernel_rfl)
theorem xV : "afterinit".toList=ch [97,102,116,101,114,105,110,105,116]:=tl _ _ (by kernel_rfl)
theorem zP : "crcplain".toList=ch [99,114,99,112,108,97,105,110]:=tl _ _ (by kernel_rfl)
theorem wL : "roadunsafe".toList=ch [114,111,97,100,117,110,115,97,102,101]:=tl _ _ (by kernel_rfl)
theorem yB : "fmthandon".toList=ch [102,109,116,104,97,110,100,111,110]:=tl _ _ (by kernel_rfl)
theorem Ck:isSumSigns (ch w2)=true:=by kernel_rfl
def vC(ws:List (List Char)):Option (Bool×List Char):=match ws with
 |h::s::_=>if !isSumSigns s then none else if h == "harness".toList then some (true,s) else if h == "ownmain".toList then some (false,s) else none
 |_=>none
theorem EJ(P:Program):P.mainIs=vC (wordsSigns P.initOrder.toList):=rfl
theorem FQ(R:List (List Char)):vC (ch w1::ch w2::ch w3::R)=some (true,ch w2):=by
 simp only[vC,Ck,uG]
 rfl
theorem Hi:Tryz.prog.mainIs=some (true,ch w2):=(EJ _).trans ((congrArg vC uz).trans (FQ _))
theorem E1(R:List (List Char)):behindMainWord (ch w1::ch w2::R)=R:=by
 simp only[behindMainWord,Ck,uG,C9]
 rfl
theorem qD:behindMainWord (wordsSigns Tryz.prog.initOrder.toList)=ch w3::wordsSigns (ch w4):=(congrArg behindMainWord uz).trans (E1 _)
theorem Cl(R:List (List Char)):stripLifts liftWords (ch w3::R)=([],ch w3::R):=by
 unfold liftWords;simp only[stripLifts,wV,vl,zS,zQ,xj,CU,yc,x_,ym,wb,Cs,xV,zP,wL,yB]
 rfl
def vz (ws:List (List Char)):List String:=if (stripLifts liftWords ws).2.head? == some "cut".toList then (stripLifts liftWords ws).1 else []
theorem yF(P:Program):P.headLifts=vz (behindMainWord (wordsSigns P.initOrder.toList)):=rfl
theorem E6(R:List (List Char)):vz (ch w3::R)=[]:=by
 simp only[vz,Cl,vA]
 rfl
theorem sY:Tryz.prog.headLifts=[]:=(yF _).trans ((congrArg vz qD).trans (E6 _))
theorem E9{P:Program}{R:List (List Char)}(h:behindMainWord (wordsSigns P.initOrder.toList)=ch w3::R)(hl:P.headLifts=[]):P.make=some .cut:=by
 unfold Program.make;rw[h];simp only[vA,Ft,BZ,wV,pO,hl]
 rfl
theorem PE:Tryz.prog.make=some .cut:=E9 qD sY
theorem wJ{P:Program}{R:List (List Char)}(h:behindMainWord (wordsSigns P.initOrder.toList)=ch w3::R)(hl:P.headLifts=[]):P.liftsFinal=false:=by
 unfold Program.liftsFinal;simp only[h,vA,Ft,pO,hl]
 rfl
theorem yD:Tryz.prog.liftsFinal=false:=wJ qD sY
theorem AQ:Tryz.prog.laysLater=false:=by kernel_rfl
theorem vc:Tryz.prog.bearsReflect=false:=by kernel_rfl
theorem Dz:Tryz.prog.doorFits []=true:=by kernel_rfl
theorem Am{P:Program}{R:List (List Char)}(h:behindMainWord (wordsSigns P.initOrder.toList)=ch w3::R)(h1:P.laysLater=false)(h2:P.bearsReflect=false)(h3:P.doorFits []=true):P.mayEnter=true:=by
 unfold Program.mayEnter;rw[h];simp only[Cl,vA,Ft,pO,BZ,MZ,h1,h2,h3]
 rfl
theorem B8:Tryz.prog.mayEnter=true:=Am qD AQ vc Dz
end Go.Proofs.YtdiflocclemeaaaGreatDoor
namespace Go.Proofs.Tryz
open Go Go.AL Go.RowKit Go.Proofs Go.Proofs.Tram
attribute [local simp] dF fc nC ml ef dI dJ cZ c_ ee cW cE gh gj aF aH ev aQ.S aQ.H bz ar aT AL.start AV.cells AV.storable AV.bZ bo bX dS b0 HR.okB post cy cJ cK AV.out AV.bT cb dk fz gI AV.vw df vI int b_ aM cU db gB iN eY dQ bQ AV.aG AV.bH
variable{GI:World->Prop}
theorem WJ{s:aq}(h:s.words.length<=4)(i:Nat):(lJ s i).length<=2000:=by
 obtain⟨r,hr⟩:=AU s i;have:=LI h;rw[hr,adq]at this;omega
def PF(s:aq):List AV:=if aU s then match AD s with
 |some l=>[vI l,.int .i64 0]
 |none=>[vI [],.int .i64 5]
 else[vI [],.int .i64 2]
theorem PH{s:aq}{l:List Int}(h:l∈ep s):l.length<=s.words.length:=by
 unfold ep at h;obtain⟨m,hm,hl⟩:=adR.1 h;rw[qT hl];have:=adF.1 hm;omega
theorem ab8(hG:aw GI)(s:aq)(hs:mG s):AC prog GI 70 [bP s] (.ret (.dN (PF s))):=by
 unfold PF
 cases cM:aU s with
 |false=>
  have Y':=zq hG s hs;rw[cM]at Y';refine bW hG func70 ntmps70 c70 ?_;refine aI (λS H=>S 1=.box 1 0/\H 1=some (ae s)) (by simp[ai,ah,bP,ae]) ?_;rintro S H ⟨s1,e1⟩;simp[ai,ah,s1,e1,ae];refine⟨_,by kernel_rfl,Y',λ_=>rfl,?_⟩;simp[ai,ah,ints]
 |true=>
 have jA:=(eg cM).words;have Y':=zq hG s hs;rw[cM]at Y';rw[if_pos rfl];unfold AD;generalize hO:(ep s).find? (λl=>cq s l&&!(dw s l).isEmpty)=o;have hql:=LI jA.2;refine bW hG func70 ntmps70 c70 ?_;refine aI (λS H=>S 1=.box 1 0/\H 1=some (ae s)) (by simp[ai,ah,bP,ae]) ?_;rintro S H ⟨s1,e1⟩;refine aI (λS H=>S 1=.box 1 0/\H 1=some (ae s)) ?_ ?_
 .simp[ai,ah,s1,e1,ae];refine⟨_,by kernel_rfl,Y',λ_=>rfl,?_⟩;simp[ai,ah,s1,e1,ae]
 clear s1 e1 S H;rintro S H ⟨s1,e1⟩;refine aI (λS H=>S 1=.box 1 0/\H 1=some (ae s)/\S 4=.box 4 0/\H 4=some (aP s)) ?_ ?_
 .simp[ai,ah,s1,e1,ae];refine oc (HA hG s cM) ?_;simp[ai,ah,s1,e1,fl,aP,ae,bt]
 clear s1 e1 S H;rintro S H ⟨s1,e1,s4,e4⟩;refine aI (λS H=>S 1=.box 1 0/\H 1=some (ae s)/\S 4=.box 4 0/\H 4=some (aP s)/\S 5=grow 23 ((lJ s 0).map vI)) ?_ ?_
 .have cP:aJ 1 [AV.slice .nil []]=true:=rfl;have Dg:aJ 1 [AV.slice .view []]=true:=rfl;simp[ai,ah,s1,e1,s4,e4,cP,Dg,lJ,grow,ints]
 clear s1 e1 s4 e4 S H;rintro S H ⟨s1,e1,s4,e4,s5⟩;simp[ai,ah,s1,e1,s4,e4,s5];refine bw 6 (ep s).length (λi S H=>S 1=.box 1 0/\H 1=some (ae s)/\S 4=.box 4 0/\H 4=some (aP s)/\S 6=.int .i64 (i:Nat)/\S 5=grow 23 ((lJ s i).map vI)/\∀j (hj:j<(ep s).length),j<i->(cq s (ep s)[j]&&!(dw s (ep s)[j]).isEmpty)=false) (λi S H h=>h.2.2.2.2.1) ⟨by simp[ai,ah,s1],by simp[ai,ah,e1],by simp[ai,ah,s4],by simp[ai,ah,e4],by simp[ai,ah],by simp[ai,ah,s5,grow],λj _ h=>absurd h (afm _)⟩ ?_;clear s1 e1 s4 e4 s5 S H;rintro i hi S H ⟨s1,e1,s4,e4,s6,s5,hb⟩;have Bm:=WJ jA.2 i
 have jO:S 5=.slice (.own 23) ((lJ s i).map vI):=by rw[s5];simp[grow,lJ]
 by_cases au:i<(lJ s i).length
 case neg=>
  have fQ:=Wn hi (by omega)
  have hn:=WO (l:=ep s) (p:=λl=>cq s l&&!(dw s l).isEmpty) λj hj=>hb j hj (by omega)
  rw[hO]at hn;subst hn
  have jN:¬(i:Int)<(lJ s i).length:=by omega
  simp[ai,ah,s1,e1,s4,e4,s6,jO,au,ints]
 obtain⟨XE,iJ⟩:=Wz au;have Lk:=Te XE;have hw:IntKind.i64.wrap ((i:Int)+1)=i+1:=aN (by omega);have Jl:=PH (ada XE)
 have hgv:(lJ s i)[i]?=some (ep s)[i]:=by rw[ac_ au,iJ]
 have qH:=λh=>yV (l:=ep s) (p:=λl=>cq s l&&!(dw s l).isEmpty) XE h hb
 rw[hO]at qH
 have Ic:(cq s (ep s)[i]&&!(dw s (ep s)[i]).isEmpty)=false->∀j (hj:j<(ep s).length),j<i+1->(cq s (ep s)[j]&&!(dw s (ep s)[j]).isEmpty)=false:=λh j hj gw=>by
  by_cases e:j=i
  .subst e;exact h
  .exact hb j hj (by omega)
 generalize hl:(ep s)[i]=l at Lk Jl hgv qH Ic;generalize hSQ:lJ s i=Q at s5 jO au Bm hgv Lk
 have jN:(i:Int)<Q.length:=by omega
 have V5:=abD hG s hs l (by omega);refine aI (λS H=>S 1=.box 1 0/\H 1=some (ae s)/\S 4=.box 4 0/\H 4=some (aP s)/\S 6=.int .i64 (i:Nat)/\S 5=.slice (.own 23) (Q.map vI)) (by simp[ai,ah,s1,e1,s4,e4,s6,jO,au]) ?_;clear s1 e1 s4 e4 s6 s5 jO S H;rintro S H ⟨s1,e1,s4,e4,s6,s5⟩;refine xL ?_;obtain⟨Jx,hgv⟩:=adE.1 hgv;refine aI (λS H=>S 1=.box 1 0/\H 1=some (ae s)/\S 4=.box 4 0/\H 4=some (aP s)/\S 6=.int .i64 (i:Nat)/\S 5=.slice (.own 23) (Q.map vI)/\S 7=vI l) ?_ ?_
 .simp[ai,ah,s1,e1,s4,e4,s6,s5,au,hgv]
 clear s1 e1 s4 e4 s6 s5 S H;rintro S H ⟨s1,e1,s4,e4,s6,s5,s7⟩;cases fV:cq s l
 .rw[fV]at V5
  have hx:mK s l=[]:=by unfold mK;rw[fV];rfl
  rw[hx,adT]at Lk;have Ic:=Ic (by rw[fV];rfl);simp[ai,ah,s1,e1,s4,e4,s6,s5,s7,ae];refine⟨_,by kernel_rfl,V5,λ_=>rfl,?_⟩;simp[ai,ah,s1,e1,s4,e4,s6,s5,s7,ae,hw,XE];refine⟨?_,λj hj gw=>by simpa using Ic j hj gw⟩;rw[Lk];simp[grow];intro h;rw[h]at au;simp at au
 have hx:mK s l=NY s.words.length l:=by unfold mK;rw[fV];rfl
 rw[hx]at Lk;rw[fV]at V5;obtain⟨hlm,xD⟩:=Nw fV;have a107:=aaY hG s cM l (by omega) fV;have rm:=HM hlm;refine aI (λS H=>S 1=.box 1 0/\H 1=some (ae s)/\S 4=.box 4 0/\H 4=some (aP s)/\S 6=.int .i64 (i:Nat)/\S 5=.slice (.own 23) (Q.map vI)/\S 7=vI l) ?_ ?_
 .simp[ai,ah,s1,e1,s4,e4,s6,s5,s7,ae];refine⟨_,by kernel_rfl,V5,λ_=>rfl,?_⟩;simp[ai,ah,s1,e1,s4,e4,s6,s5,s7,ae]
 clear s1 e1 s4 e4 s6 s5 s7 S H;rintro S H ⟨s1,e1,s4,e4,s6,s5,s7⟩
 cases hg:dw s l with
 |cons x g=>
  rw[hg]at a107;have qH:=qH (by rw[fV,hg];rfl);subst qH;simp[ai,ah,s1,e1,s4,e4,s6,s5,s7,aP,ae,bt];refine⟨_,by kernel_rfl,a107,λ_=>rfl,?_⟩;simp[ai,ah,s1,e1,s4,e4,s6,s5,s7]
 |nil=>
 rw[hg]at a107;have Ic:=Ic (by rw[fV,hg];rfl);refine aI (λS H=>S 1=.box 1 0/\H 1=some (ae s)/\S 4=.box 4 0/\H 4=some (aP s)/\S 6=.int .i64 (i:Nat)/\S 5=.slice (.own 23) (Q.map vI)/\S 7=vI l) ?_ ?_
 .simp[ai,ah,s1,e1,s4,e4,s6,s5,s7,aP,ae,bt];refine⟨_,by kernel_rfl,a107,λ_=>rfl,?_⟩;simp[ai,ah,s1,e1,s4,e4,s6,s5,s7,aP,ae,bt]
 clear s1 e1 s4 e4 s6 s5 s7 S H;rintro S H ⟨s1,e1,s4,e4,s6,s5,s7⟩;refine aI (λS H=>S 1=.box 1 0/\H 1=some (ae s)/\S 4=.box 4 0/\H 4=some (aP s)/\S 6=.int .i64 (i:Nat)/\S 5=.slice (.own 23) (Q.map vI)/\S 7=vI l/\S 8=.int .i64 0) (by simp[ai,ah,s1,e1,s4,e4,s6,s5,s7]) ?_;clear s1 e1 s4 e4 s6 s5 s7 S H;rintro S H ⟨s1,e1,s4,e4,s6,s5,s7,s8⟩;refine aI (λS H=>S 1=.box 1 0/\H 1=some (ae s)/\S 4=.box 4 0/\H 4=some (aP s)/\S 6=.int .i64 (i:Nat)/\S 5=.slice (.own 23) (Q.map vI)/\S 7=vI l/\S 8=.int .i64 (dR l:Nat)) ?_ ?_
 .by_cases h0:l=[]
  .subst h0;simp[ai,ah,s1,e1,s4,e4,s6,s5,s7,s8,dR]
  .have hp:=adV.2 h0;have hla:=CB hp (λx h=>(hlm x h).1)
   have uh:IntKind.i64.wrap ((l.length:Int)-1)=(l.length-1:Nat):=by rw[aN (by omega)];omega
   have hlz:l.length-1<l.length:=by omega
   have hwf:IntKind.i64.wrap (dR l:Int)=(dR l:Nat):=aN (by omega);simp[ai,ah,s1,e1,s4,e4,s6,s5,s7,s8,hp,uh,hlz,hla,hwf]
 clear s1 e1 s4 e4 s6 s5 s7 s8 S H;rintro S H ⟨s1,e1,s4,e4,s6,s5,s7,s8⟩
 have hQn:Q≠[]:=by intro h;rw[h]at au;simp at au
 simp[ai,ah,s1,e1,s4,e4,s6,s5,s7,s8];refine rH 9 (dR l) s.words.length (λk S H=>S 1=.box 1 0/\H 1=some (ae s)/\S 4=.box 4 0/\H 4=some (aP s)/\S 6=.int .i64 (i:Nat)/\S 7=vI l/\S 9=.int .i64 (k:Nat)/\S 5=grow 23 ((Q++(List.range' (dR l) (k-dR l)).map λi:Nat=>l++[(i:Int)]).map vI)) rm (λk S H h=>h.2.2.2.2.2.2.1) ⟨by simp[ai,ah,s1],by simp[ai,ah,e1],by simp[ai,ah,s4],by simp[ai,ah,e4],by simp[ai,ah,s6],by simp[ai,ah,s7],by simp[ai,ah],by simp[ai,ah,s5,grow,hQn]⟩ ?_;clear s1 e1 s4 e4 s6 s5 s7 s8 S H;rintro k hkf hk S H ⟨s1,e1,s4,e4,s6,s7,s9,s5⟩
 by_cases iQ:k<s.words.length
 case neg=>
  have X3:k=s.words.length:=by omega
  subst X3;have e:Q++(List.range' (dR l) (s.words.length-dR l)).map (λi:Nat=>l++[(i:Int)])=lJ s (i+1):=Lk.symm;rw[e]at s5
  have hQ2:lJ s (i+1)≠[]:=by simp[lJ]
  simp[ai,ah,s1,e1,s4,e4,s6,s7,s9,s5,ae,hw,XE,grow,hQ2]
  exact λj hj gw=>by simpa using Ic j hj gw
 have Yt:IntKind.i64.wrap ((k:Int)+1)=k+1:=aN (by omega);have acK:=Iq hG (ints l) (kA l) (by simp[ints];omega);have hrs:=PD (dR l) k hkf
 have hPl:(Q++(List.range' (dR l) (k-dR l)).map λi:Nat=>l++[(i:Int)]).length<=2100:=by simp;omega
 have aa_:Q++(List.range' (dR l) (k+1-dR l)).map (λi:Nat=>l++[(i:Int)])=(Q++(List.range' (dR l) (k-dR l)).map λi:Nat=>l++[(i:Int)])++[l++[(k:Int)]]:=by rw[hrs,adD,aef];rfl
 rw[aa_];clear hrs aa_;generalize Q++(List.range' (dR l) (k-dR l)).map (λi:Nat=>l++[(i:Int)])=P at s5 hPl⊢;have dT:aJ 1 [AV.int .i64 (k:Nat)]=true:=rfl;have Gs:aJ 1 [vI (l++[(k:Int)])]=true:=rfl;have ab0:aJ 1 (ints l)=true:=kA l;simp[s1,e1,s4,e4,s6,s7,s9,s5,iQ,ae];refine oc acK ?_;simp[s1,e1,s4,e4,s6,s7,s9,s5,iQ,dT];refine fx (ints l) (AV.int .i64 (k:Nat)) (.own 3) (by simp[grow]) (by simp) dT ab0 (by simp[ints];omega) ?_;intro S' sd dP;have ab3:aJ 1 [AV.slice .view (ints l++[AV.int .i64 (k:Nat)])]=true:=rfl;simp[sd,dP,s1,e1,s4,e4,s6,s7,s9,s5,grow,ab3];refine fx (P.map vI) (vI (l++[(k:Int)])) (.own 23) (by simp[dP,s5,grow]) (by simp[ints]) Gs (Gq P) (by simp;omega) ?_;intro S'' Y5 R_;simp[Y5,R_,dP,s1,e1,s4,e4,s6,s7,s9,iQ,Yt,ae,grow]
def Yy(n:Int):Prop:=0<=n/\n<100
def T7(l:List Int):Prop:=∀n∈l,Yy n
theorem Vf(hG:aw GI)(l:List Int)(h0:l≠[])(hl:l.length<1000)(h:T7 l):AC prog GI 279 [vI l] (.ret (.slice (.own 9) ((l.map kJ).map .str))):=by
 refine AC.iF func279 rfl ntmps279 (by simp) λcc w=>?_
 refine dU hG c279.qa (λS' H'=>S' 0=vI l) (by simp[c279,af.qa,ai,ah]) ?_;rintro S1 H1 s0;refine dU hG c279.qb.qa (λS' H'=>S' 0=vI l/\S' 3=.slice .nil []) (by simp[c279,af.qa,af.qb,s0,ai,ah]) ?_;rintro S2 H2 ⟨s0,s3⟩;refine dU hG c279.qb.qb.qa (λS' H'=>S' 3=grow 9 ((l.map kJ).map AV.str)) ?_ ?_
 .simp[c279,af.qa,af.qb,s0,s3,ai,ah];refine bw 8 l.length (λi S H=>S 6=vI l/\S 7=.int .i64 (l.length:Nat)/\S 8=.int .i64 (i:Nat)/\S 3=grow 9 (((l.take i).map kJ).map AV.str)) (λi S H h=>h.2.2.1) ⟨by simp[s0,ai,ah],by simp[s0,ai,ah],by simp[ai,ah],by simp[s3,grow,ai,ah]⟩ ?_;clear s0 s3;rintro i hi S H ⟨s6,s7,s8,s3⟩
  by_cases au:i<l.length
  case neg=>
   have cH:i=l.length:=by omega
   subst cH;rw[adn (adh _)]at s3;simp[s6,s7,s8,s3,grow,h0,ai,ah]
  have hw:IntKind.i64.wrap ((i:Int)+1)=i+1:=aN (by omega);have hn:=h _ (ada au);have a157:=vy (GI:=GI) hn.1 hn.2
  have ht:(l.take (i+1)).map kJ=(l.take i).map kJ++[kJ l[i]]:=by
   rw[adj au,adD]<;>rfl
  have hlen:((l.take i).map kJ).length<=1000:=by simp;omega
  rw[ht]
  generalize(l.take i).map kJ=B at*
  generalize kJ l[i]=t at*
  have dT:aJ 1 [AV.str t]=true:=rfl;simp[s6,s7,s8,s3,au];refine oc a157 ?_;simp[s6,s7,s8,s3,dT];refine fx (B.map AV.str) (AV.str t) (.own 9) (by simp[s3,grow]) (by simp) dT (L5 B) (by rw[adi];omega) ?_;intro S' sd dP;simp[sd,dP,s6,s7,s8,au,hw,grow]
 clear s0 s3;rintro S3 H3 s3
 have hg:grow 9 ((l.map kJ).map AV.str)=.slice (.own 9) ((l.map kJ).map AV.str):=by unfold grow;rw[if_neg (by simpa using h0)]
 rw[hg]at s3;generalize(l.map kJ).map AV.str=L at s3⊢;show SW prog GI 19 none (.seq (.region _ _ false) .ret) _ _ _ _
 refine SW.seq (SW.hand hG (p:=0) (lm:=[0,1]) (l2:=[]) (kd:=[]) (oh:=[_,_]) (lI:=[]) rfl rfl rfl rfl (by kernel_rfl) (λ_ h=>h) (lU:=[]) (kZ:=[]) rfl rfl rfl rfl
  (K1:=λS H=>S 3=.slice (.own 9) L) (K2:=λo S H=>o=Old.plain cc w/\S 2=.slice (.own 9) L) (K3:=λo S H=>o=Old.plain cc w/\S 2=.slice (.own 9) L) ?_ ?_ ?_ ?_)
 .exact s3
 .rintro w0 g S H a w' m cT ho R s6;have r6:=R.slot 3 (by decide) (λh=>h);rw[s6]at r6;have bq:=R.size
  obtain⟨c,hc⟩:∃c,a.tmps.getD 3 undef=c:=⟨_,rfl⟩
  rw[hc]at r6;have rv:RD g.Pr w' (.slice .view L) c:=(r6.fj rfl).aG;refine aV rfl rfl (by rfl) ((run_move (x:=.tmp 3) w' rfl).trans (congrArg (λv=>Result.ok (Next.value v) w') hc)) ?_;have R1:=R.put 18 (.slice .view L) c (by decide) (.data _ _ rv) trivial
  have rK:(a.put (some 18) c).tmps.getD 18 undef=c:=by simp[Act.put,bq]
  refine aV rfl rfl (by rfl) ((run_assign (x:=.tmp 18) w' rfl).trans (congrArg (λv=>Result.ok (Next.value v) w') rK)) ?_;have R2:=R1.put 2 (.slice .view L) c (by decide) (.data _ _ rv) trivial
  have e4:((a.put (some 18) c).put (some 2) c).tmps.getD 2 undef=c:=by simp[Act.put,bq]
  have e6:((a.put (some 18) c).put (some 2) c).tmps.getD 3 undef=a.tmps.getD 3 undef:=by simp[Act.put,adg]
  obtain⟨g',q1,R3⟩:=R2.JE (t:=3) (u:=2) (e:=9) (es:=L) (by decide) (by decide) (by decide) (by simp[ar,s6]) (by rw[e4,e6,hc]);exact⟨g',_,_,R3,by rw[q1];exact ho,aS _ _ _⟩
 .rintro o S H ⟨rfl,s4⟩;exact⟨λ_ h=>h,rfl,s4⟩
 .rintro o S H ⟨rfl,s4⟩;refine SW.ret ⟨eD.plain rfl,rfl,_,?_,rfl⟩;show cy prog 19 [.tmp 2] S H=_;simp[cy,cJ,cK,s4,AV.bT,AV.out]
end Go.Proofs.Tryz
namespace Go.Proofs.Tryz
open Go Go.AL Go.RowKit Go.Proofs Go.Proofs.Tram
attribute [local simp] dF fc eT dW ef dI dJ cZ c_ ee cW cE gh gj aF aH ev aQ.S aQ.H bz ar aT AL.start AV.cells AV.storable AV.bZ bo bX dS b0 HR.okB post cy cJ cK AV.out AV.bT cb dk fz gI AV.vw df vI int b_ aM cU db gB iN eY dQ bQ AV.aG AV.bH
variable{GI:World->Prop}
theorem ZV(hG:aw GI)(s:az)(hs:eZ s):AC prog GI 40 [a_ s] (.ret (.dN (rQ s))):=by
 have lv:=oT hG s hs;have iL:=wg hG s hs
 rcases iI s with⟨hI,es,eG,ho⟩|⟨e,he,ho,vk⟩
 .rw[ho]at iL;have hg:=er hI;have hc:=hg.cells
  have EE:rQ s=if(dn s).isEmpty then[.int .i64 0,.int .i64 0,.int .i64 5]else(match Ef s (aW s es)with|some q=>[.int .i64 (q.1:Nat),.int .i64 (q.2:Nat),.int .i64 0]|none=>[]):=by unfold rQ;rw[if_pos hI,eG]<;>rfl
  rw[EE];have hn:=iW hg (gz hg.name eG);have hp:=Fg hg es
  have hle:(aW s es).sum<=400:=by
   have hb:∀x∈aW s es,x<=81:=λx hx=>by
    obtain⟨i,hi,rfl⟩:=adx.1 hx
    exact(uN hg (gz hg.name eG) (by
     rw[fP (adF.1 hi)]
     exact(lg hg.name (ada _)).uw)).2
   have h1:=xl hb (by decide)
   have h2:(aW s es).length<=4:=by
    have:=(eg hg.name).words;simp[aW];omega
   omega
  generalize aW s es=an at iL hn hp hle⊢;have h0:=j4 hp;have xO:=Lr hG an (by omega) hn.1
  obtain⟨most,zK⟩:∃most,an.sum.toNat=most:=⟨_,rfl⟩
  have uR:an.sum=(most:Nat):=by omega
  rw[uR]at xO
  have vK:most<=400:=by omega
  have hvw:(ao s).map AV.bH=ao s:=by simp[ao,ae,AV.bH,vI]
  have aam:(aZ s an).map AV.bH=aZ s an:=by simp[aZ,ao,ae,AV.bH,vI]
  have aar:∀i:Nat,i<s.cells.length->AC prog GI 103 [.int .i64 ((most+1:Nat):Int),.func (.func 104) [] [.ref (ao s),.ref [.int .i64 (i:Nat)],.ref (aZ s an)]] (.ret (.int .i64 (fJ s an i:Nat))):=λi hi=>by
   have:=U' hG (n:=most+1) (by omega) 104 (ao s) [.int .i64 (i:Nat)] (aZ s an) (by kernel_rfl) (EO hg hp i) (λy hy=>TL hG s hg an hn hi (n:=y) (by omega)) (wT (mz s an i) (most+1));unfold fJ;rw[zK];exact this
  have CT:=MX hG s;have ou:=Sv hG s (ps:=dn s) (by have:=uJ s;omega) (ES hG s hg);have ou:=AC.iA (o:=if(dn s).isEmpty then .nil else .view) ou;unfold Ef;rw[zK];refine bW hG func40 ntmps40 c40 ?_;refine aI (λS H=>S 1=.box 1 0/\H 1=some (ao s)) (by simp[a_,ao,ae]) ?_;rintro S H ⟨s1,h1⟩;refine aI (λS H=>S 1=.box 1 0/\H 1=some (ao s)/\S 5=.box 5 0/\H 5=some (aZ s an)/\S 6=.int .i64 0) ?_ ?_
  .simp[s1,h1,ao,ae];refine oc lv ?_;simp;refine oc iL ?_;simp[s1,h1,cD,aZ,ao,ae,bI]
  clear s1 h1 S H;rintro S H ⟨s1,h1,s5,h5,s6⟩;refine aI (λS H=>S 1=.box 1 0/\H 1=some (ao s)/\S 5=.box 5 0/\H 5=some (aZ s an)) (by simp[s1,h1,s5,h5,s6]) ?_;clear s1 h1 s5 h5 s6 S H;rintro S H ⟨s1,h1,s5,h5⟩;refine aI (λS H=>S 1=.box 1 0/\H 1=some (ao s)/\S 5=.box 5 0/\H 5=some (aZ s an)/\S 7=.int .i64 (most:Nat)) ?_ ?_
  .simp[s1,h1,s5,h5,aZ,ao,ae];refine oc xO ?_;simp[s1,h1,s5,h5,aZ,ao,ae]
  clear s1 h1 s5 h5 S H;rintro S H ⟨s1,h1,s5,h5,s7⟩;refine aI (λS H=>S 1=.box 1 0/\H 1=some (ao s)/\S 5=.box 5 0/\H 5=some (aZ s an)/\S 7=.int .i64 (most:Nat)/\S 8=.slice .nil []) (by simp[s1,h1,s5,h5,s7]) ?_;clear s1 h1 s5 h5 s7 S H;rintro S H ⟨s1,h1,s5,h5,s7,s8⟩;refine aI (λS H=>S 1=.box 1 0/\H 1=some (ao s)/\S 8=grow 132 (aO ((fb (fJ s an) most s.cells.length).map cw))) ?_ ?_
  .refine aI (λS H=>S 1=.box 1 0/\H 1=some (ao s)/\S 5=.box 5 0/\H 5=some (aZ s an)/\S 7=.int .i64 (most:Nat)/\S 8=.slice .nil []/\S 27=.int .i64 s.cells.length/\S 28=.int .i64 ((0:Nat):Int)) (by simp[s1,h1,s5,h5,s7,s8,ao,ae]) ?_;clear s1 h1 s5 h5 s7 s8 S H;rintro S H ⟨s1,h1,s5,h5,s7,s8,oz,xk⟩;refine bw 28 s.cells.length (λi S H=>S 1=.box 1 0/\H 1=some (ao s)/\S 5=.box 5 0/\H 5=some (aZ s an)/\S 7=.int .i64 (most:Nat)/\S 8=grow 132 (aO ((fb (fJ s an) most i).map cw))/\S 27=.int .i64 s.cells.length/\S 28=.int .i64 (i:Nat)) (λi S H h=>h.2.2.2.2.2.2.2) ⟨s1,h1,s5,h5,s7,by rw[s8]<;>rfl,oz,xk⟩ ?_;clear s1 h1 s5 h5 s7 s8 oz xk S H;rintro i hi S H ⟨s1,h1,s5,h5,s7,s8,oz,xk⟩
   by_cases au:i<s.cells.length
   case neg=>
    have cH:i=s.cells.length:=by omega
    subst cH;simp[s1,h1,s5,h5,s7,s8,oz,xk]
   have hw:IntKind.i64.wrap ((i:Int)+1)=i+1:=aN (by omega)
   have gD:IntKind.i64.wrap ((most:Int)+1)=((most+1:Nat):Int):=by rw[aN (by omega)];omega
   have mL:=z_ (fJ s an) most i
   have hlen:(aO ((fb (fJ s an) most i).map cw)).length<=i:=by
    simp only[aO,adi];have:=afZ (λk=>if fJ s an k<=most then some (k,fJ s an k)else none) (List.range i);simpa[fb]using this
   have cP:=qj ((fb (fJ s an) most i).map cw);have hh:=aar i au
   have Ta:((most+1:Nat):Int)=(most:Int)+1:=by omega
   rw[Ta]at hh gD;simp[s1,h1,s5,h5,s7,s8,oz,xk,au,gD,hvw,aam];refine⟨_,by kernel_rfl,hh,λ_=>rfl,?_⟩
   by_cases yp:fJ s an i<=most
   .rw[if_pos yp]at mL
    have hE:aO ((fb (fJ s an) most (i+1)).map cw)=aO ((fb (fJ s an) most i).map cw)++[.agg [.int .i64 (i:Nat),.int .i64 (fJ s an i:Nat)]]:=by
     rw[mL,adD];unfold aO
     rw[adD]<;>rfl
    rw[hE];have k3:aJ 2 [AV.agg [.int .i64 (i:Nat),.int .i64 (fJ s an i:Nat)]]=true:=rfl;generalize aO ((fb (fJ s an) most i).map cw)=L at s8 hlen cP⊢
    cases L with
    |nil=>
     have nL:grow 132 []=.slice .nil []:=rfl;simp[s1,h1,s5,h5,s7,s8,oz,xk,yp,nL,hw,bI,k3]
     try rfl
    |cons y L=>
     have nL:grow 132 (y::L)=.slice (.own 132) (y::L):=rfl
     have BO:∀z,grow 132 (y::(L++[z]))=.slice (.own 132) (y::(L++[z])):=λ_=>rfl
     have pS:L.length+1+1<1048576:=by simp at hlen;omega
     simp[s1,h1,s5,h5,s7,s8,oz,xk,yp,nL,BO,hw,bI,k3,cP,pS]
   .rw[if_neg yp,adT]at mL;rw[mL]
    have Jx:∀L,grow 132 L=.slice (if L=[]then .nil else .own 132) L:=λ_=>rfl
    simp[s1,h1,s5,h5,s7,s8,oz,xk,yp,hw,Jx]
  .clear s1 h1 s5 h5 s7 s8 S H;rintro S H ⟨s1,h1,s8⟩
   cases hv:(dn s).isEmpty with
   |true=>
    have si:dn s=[]:=by simpa using hv
    rw[si]at ou;simp[s1,h1,ao,ae];refine oc CT ?_;simp;refine⟨_,by kernel_rfl,ou,by simp[df,qS],?_⟩;simp
   |false=>
    have si:dn s≠[]:=by intro h;rw[h]at hv;cases hv
    have wh:(((dn s).length:Int)==0)=false:=by
     have:(dn s).length≠0:=λh=>si (adQ h)
     rw[adW];omega
    obtain⟨c,q1,q2⟩:=FJ hg hp hv;rw[zK]at q2;obtain⟨x,l,BK⟩:=E4 (p:=mz s an) (f:=fJ s an) (most:=most) (m:=s.cells.length) (λj _=>by unfold fJ;rw[zK];exact wT _ _) q1 (adh _) q2
    have lD:=Un hG (cw x) (l.map cw) (by
     have h1:=congrArg List.length BK;have:=afZ (λk=>if fJ s an k<=most then some (k,fJ s an k)else none) (List.range s.cells.length);simp[fb]at h1 this
     simp;omega)
    rw[sU]at lD
    have fQ:cw x::l.map cw=(fb (fJ s an) most s.cells.length).map cw:=by rw[BK]<;>rfl
    have kL:grow 132 (aO ((fb (fJ s an) most s.cells.length).map cw))=.slice (.own 132) (aO ((fb (fJ s an) most s.cells.length).map cw)):=by rw[BK]<;>rfl
    rw[kL]at s8;rw[fQ]at lD;rw[BK];generalize aO ((fb (fJ s an) most s.cells.length).map cw)=L at s8 lD
    obtain⟨q,hq⟩:∃q,nI x l=q:=⟨_,rfl⟩
    rw[hq]at lD;simp[s1,h1,s8,ao,ae];refine oc CT ?_;simp[s8];refine⟨_,by kernel_rfl,ou,by simp[df,qS],?_⟩;simp[s8,si,wh,aO];refine oc lD ?_;simp[aX,cw,bI,hq]
 .rw[ho]at iL
  have vp:rQ s=[.int .i64 0,.int .i64 0,.int .i64 e]:=by
   rcases p7 s e he ho with⟨h1,rfl⟩|⟨h1,h2,rfl⟩
   .simp[rQ,h1]
   .simp[rQ,h1,h2]
  rw[vp]
  have ky:(e !=0)=true:=by simpa using he
  refine bW hG func40 ntmps40 c40 ?_;simp[c40,a_,ao,ae];refine oc lv ?_;simp;refine oc iL ?_;simp[cD,aZ,ao,ae,zT,bI,he,ky]
theorem WM(e:Nat)(s:az)(ns:List Int):gC e s ns<=ns.length:=qp _ _ _
theorem all_none{s:az}(hI:cL s=true)(hE:fq s.name=none):Ks s=.dN [.bool false,.bool true]:=by
 unfold Ks j_;rw[if_pos hI,hE]
 rfl
theorem all_some{s:az}(hI:cL s=true){es:List End}(hE:fq s.name=some es):Ks s=.dN [.bool (decide (gC 0 s (aW s es)=(aW s es).length)),.bool true]:=by
 have hl:(aW s es).length=s.name.words.length:=by simp[aW]
 have h1:=WM 0 s (aW s es);unfold Ks j_;rw[if_pos hI,hE,hl];simp only
 have e1:((0:Int)==0&&((gC 0 s (aW s es):Nat):Int)==(s.name.words.length:Nat))=decide (gC 0 s (aW s es)=s.name.words.length):=by
  rw[ad7];simp;omega
 have e2:((0:Int)==0&&(decide ((0:Int)<=((gC 0 s (aW s es):Nat):Int))&&decide (((gC 0 s (aW s es):Nat):Int)<=(s.name.words.length:Nat)))||(0:Int)==7)=true:=by
  simp;omega
 rw[e1,e2]
end Go.Proofs.Tryz
namespace Go.Proofs.YtdiflocclemeaaaGreatDoor
open Go Go.AL Go.ChangeShapes Go.WideShapes Go.ChangeAt Go.RowKit Go.Proofs.Tryz
theorem A7:mapsRowed Tryz.prog=true:=by kernel_rfl
theorem KQ:(Tryz.prog.stops==[])=true:=by kernel_rfl
theorem Ai:(Tryz.prog.stopKnobs==[])=true:=by kernel_rfl
theorem zU:Tryz.prog.plainKeys=false:=by kernel_rfl
theorem yb:Tryz.prog.stopsHeard=true:=by kernel_rfl
theorem LF:true=Tryz.prog.looks []:=by kernel_rfl
theorem FL {f:FuncId} {fn:Func} {s:ChangeSpec} {c:OpenClaim}
  (h0:c.stops=[]/\c.knobs=[]/\c.plainKeys=false/\c.shortTexts=none/\c.lifted=false/\c.make=.cut)
  (h1:c.wf (OpenSpec.ofChange s)=true) (h2:fn.params.all (Tryz.prog.readableRec ·)=true) (h3:namedTie Tryz.prog c.named s.vars=true)
  (h4:(c.inPlace==Tryz.prog.inPlace f)=true) (h5:(c.unfollowed==Tryz.prog.unfollowed f)=true) (h6:(c.recurses==Tryz.prog.recurses f)=true) (h7:(c.named==Tryz.prog.varsNamed f)=true)
  (h8:((c.maps==(fn.params.toList++s.plain.varTypes Tryz.prog).any (Tryz.prog.mapsRec ·))&&(c.ifaces==(fn.params.toList++s.plain.varTypes Tryz.prog).any (Tryz.prog.ifacesRec ·))&&(c.mapsOut==Tryz.prog.mapsAmong fn.resultTypes.toList)&&
   (c.loops==(fn.params.toList++s.plain.varTypes Tryz.prog).any (Tryz.prog.loopsFrom ·))&&(c.wideKeys==(fn.params.toList++s.plain.varTypes Tryz.prog++fn.resultTypes.toList).any (Tryz.prog.wideKeysFrom ·))&&
   s.vars.all (Tryz.prog.varReadable ·)&&fn.resultTypes.all (λt=>Tryz.prog.readableRec t&&decide (t<Tryz.prog.types.size))&&(c.ifacesOut==fn.resultTypes.toList.any (Tryz.prog.ifacesRec ·))&&(c.loopsOut==fn.resultTypes.toList.any (Tryz.prog.loopsFrom ·)))=true)
  (h9:(c.kinds==(if c.domain.isEmpty then[]else fn.params.toList.map λt=>match Tryz.prog.underlying t with|some (.int k)=>some k|_=>none))=true) (nB:(c.pinned==c.pinnedBy)=true)
  (L':((c.veiled==(fn.params.toList++s.plain.varTypes Tryz.prog++fn.resultTypes.toList).any (Tryz.prog.veiledRec ·))&&c.veiledFits Tryz.prog fn.params.toList (fn.params.toList++s.plain.varTypes Tryz.prog++fn.resultTypes.toList))=true):
  joinedFacts Tryz.prog f fn s c=true:=by
 obtain⟨a1,a2,a3,a4,a5,a6⟩:=h0;unfold joinedFacts;simp only[adb]at h8 L'⊢;obtain⟨⟨⟨⟨⟨⟨⟨⟨b1,b2⟩,b3⟩,b4⟩,b5⟩,b6⟩,b7⟩,b8⟩,b9⟩:=h8;refine⟨⟨⟨⟨⟨⟨⟨⟨⟨⟨⟨⟨⟨⟨⟨⟨⟨⟨⟨⟨⟨⟨⟨⟨⟨⟨⟨⟨⟨⟨⟨h1,y4⟩,A7⟩,h2⟩,h3⟩,?_⟩,KQ⟩,?_⟩,Ai⟩,h4⟩,h5⟩,h6⟩,h7⟩,b1⟩,b2⟩,b3⟩,b4⟩,b5⟩,b6⟩,b7⟩,b8⟩,b9⟩,?_⟩,?_⟩,yb⟩,B8⟩,?_⟩,?_⟩,h9⟩,nB⟩,L'.1⟩,L'.2⟩
 .rw[a1];rfl
 .rw[a2];rfl
 .rw[a3,zU];rfl
 .rw[a4];rfl
 .rw[a5,yD];rfl
 .rw[PE,a6];rfl
theorem IF {G:World→Prop} {f:Nat} {PV:List AV} {W:World} {args:Array Value} (h:AC Tryz.prog G f PV (.ret (.bool true))) (hG:G W) (hl:PV.length=args.size) (hr:∀ i (h:i < PV.length) (h':i < args.size),RV T0 (fun _=>none) W PV[i] args[i]) :
  Calls Tryz.prog f args W λe W'=>e=.returned (.bool true)/\Below W.heap.size W W':=by
 refine(h W T0 args hG hl hr).mono ?_;rintro e W' ⟨hb,hi,_,c,rfl,hv,_⟩
 cases hv with
 |data _ _ h=>cases h with
  |bool b=>exact⟨rfl,hb⟩
end Go.Proofs.YtdiflocclemeaaaGreatDoor
namespace Go.Proofs.Tryz
open Go Go.AL Go.RowKit Go.Proofs Go.Proofs.Tram
attribute [local simp] dF fc eT dW ef dI dJ cZ c_ ee cW cE gh gj aF aH ev aQ.S aQ.H bz ar aT AL.start AV.cells AV.storable AV.bZ bo bX dS b0 HR.okB post cy cJ cK AV.out AV.bT cb dk fz gI AV.vw df vI int b_ aM cU db gB iN eY dQ bQ AV.aG AV.bH
def bS:aq:=⟨[6,4,8],[⟨0,1,1,3⟩,⟨2,0,0,2⟩],2,4,5,8,3,[⟨[2,0,1],[],false⟩,⟨[0,2],[1],true⟩],18,2⟩
variable{GI:World->Prop}
theorem Bw(hG:aw GI)(a b:Int):AC prog GI 182 [.int .i64 a,.int .i64 b] (.ret (aX (a,b))):=by
 obtain⟨i33,Ka,KU⟩:=bp (P:=prog) (t:=26) (s:=2) (by kernel_rfl);obtain⟨fs,fE⟩:=cd (P:=prog) (t:=26) (by kernel_rfl);refine bW hG func182 ntmps182 c182 ?_;simp[c182,Ka,KU,fE,eS,aX,bI]
theorem UY(hG:aw GI):AC prog GI 134 [] (.ret (bP { bS with wide:=21 })):=by
 obtain⟨i36,nO,nS⟩:=bp (P:=prog) (t:=29) (s:=10) (by kernel_rfl);obtain⟨fs,fE⟩:=cd (P:=prog) (t:=29) (by kernel_rfl);refine bW hG func134 ntmps134 c134 ?_;simp[c134,aJ];refine oc (Bw hG 1 3) ?_;simp[aX,bI,aJ];refine oc (Bw hG 0 2) ?_;simp[aX,bI,aJ];refine oc (Bw hG 2 4) ?_;simp[aX,bI,aJ];refine oc (Bw hG 5 8) ?_;simp[aX,bI,aJ,nO,nS,fE,eS,bP,ae,bS,bD,dq,ints]
end Go.Proofs.Tryz
namespace Go.Proofs.Tryz
open Go Go.AL Go.RowKit Go.Proofs Go.Proofs.Tram
attribute [local simp] dF fc eT dW ef dI dJ cZ c_ ee cW cE gh gj aF aH ev aQ.S aQ.H bz ar aT AL.start AV.cells AV.storable AV.bZ bo bX dS b0 HR.okB post cy cJ cK AV.out AV.bT cb dk fz gI AV.vw df vI int b_ aM cU db gB iN eY dQ bQ AV.aG AV.bH
variable{GI:World->Prop}
def jr:az:=⟨[⟨2,3,false⟩,⟨2,2,false⟩,⟨1,2,true⟩,⟨3,4,false⟩,⟨2,5,false⟩,⟨1,1,false⟩],6,5,2,1,{ bS with wide:=21 }⟩
def xm:az:={ jr with eH:=1 }
def sr:az:={ jr with name:=⟨[5],[],0,0,0,0,1,[⟨[0,0,0,0],[1,3],false⟩],16,2⟩ }
theorem AH:qx sr=[vI [9],.int .i64 0]:=by kernel_rfl
theorem A5:Ak jr=[.slice .view (aO [(1,1),(3,5)]),.int .i64 0]:=by kernel_rfl
theorem CN:rn jr [3,2,2,4,5,1]=[.int .i64 2,.int .i64 0]:=by kernel_rfl
theorem Du:j_ 0 jr=[.int .i64 1,.int .i64 0]:=by kernel_rfl
theorem BP:j_ 1 sr=[.int .i64 1,.int .i64 0]:=by kernel_rfl
theorem Dk:ov jr 1=[.int .i64 2,.int .i64 0]:=by kernel_rfl
theorem CK:rQ jr=[.int .i64 1,.int .i64 4,.int .i64 0]:=by kernel_rfl
theorem Ep:yU xm=[.int .i64 3,.int .i64 0]:=by kernel_rfl
theorem BU:rF jr=[.int .i64 1,.int .i64 0]:=by kernel_rfl
theorem Dn:rl xm=[.int .i64 4,.int .i64 2,.int .i64 0]:=by kernel_rfl
theorem oC:eZ jr:=⟨by decide,by decide,by decide,by decide,λw hw=>by
 simp[jr,bS]at hw;rcases hw with rfl|rfl<;>decide,λw hw=>by
 simp[jr,bS]at hw;rcases hw with rfl|rfl<;>decide⟩
theorem Ml:eZ xm:=⟨oC.cells,oC.name⟩
theorem Ky:eZ sr:=⟨by decide,by decide,by decide,by decide,λw hw=>by
 simp[sr]at hw;subst hw;decide,λw hw=>by
 simp[sr]at hw;subst hw;decide⟩
theorem tO(hG:aw GI)(lo hi:Int)(hid:Bool):AC prog GI 133 [.int .i64 lo,.int .i64 hi,.bool hid] (.ret (iK ⟨lo,hi,hid⟩)):=by
 obtain⟨i52,ZU,aas⟩:=bp (P:=prog) (t:=52) (s:=3) (by kernel_rfl);obtain⟨fs,fE⟩:=cd (P:=prog) (t:=52) (by kernel_rfl);refine bW hG func133 ntmps133 c133 ?_;simp[c133,ZU,aas,fE,eS,iK,bI]
theorem qu:∃it,prog.info? 31=some it/\it.size=15:=bp (by kernel_rfl)
theorem J8(hG:aw GI):AC prog GI 74 [] (.ret (a_ jr)):=by
 obtain⟨i31,my,mq⟩:=qu;obtain⟨fs,fE⟩:=cd (P:=prog) (t:=31) (by kernel_rfl);refine bW hG func74 ntmps74 c74 ?_;simp[c74];refine oc (tO hG 2 3 false) ?_;simp[iK];refine oc (tO hG 2 2 false) ?_;simp[iK];refine oc (tO hG 1 2 true) ?_;simp[iK];refine oc (tO hG 3 4 false) ?_;simp[iK];refine oc (tO hG 2 5 false) ?_;simp[iK];refine oc (tO hG 1 1 false) ?_;simp[iK,aJ];refine oc (UY hG) ?_;simp[iK,aJ,bI,my,mq,fE,eS,a_,ao,bP,ae,jr]
theorem ZY(hG:aw GI)(s:az)(p:Int):AC prog GI 51 [a_ s,.int .i64 p] (.ret (a_ { s with eH:=p })):=by
 obtain⟨i31,my,mq⟩:=qu;obtain⟨fs,fE⟩:=cd (P:=prog) (t:=31) (by kernel_rfl);refine bW hG func51 ntmps51 c51 ?_;simp[c51,a_,ao,ae,my,mq,fE,eS,bI]
theorem aad(hG:aw GI):AC prog GI 75 [] (.ret (a_ xm)):=by
 obtain⟨i31,my,mq⟩:=qu;obtain⟨fs,fE⟩:=cd (P:=prog) (t:=31) (by kernel_rfl);have h:=ZY hG jr 1;refine bW hG func75 ntmps75 c75 ?_;simp[c75];refine oc (J8 hG) ?_;simp[a_,ao,ae];refine oc h ?_;simp[my,mq,fE,eS,bI,a_,ao,ae,xm]
theorem aai(hG:aw GI):AC prog GI 73 [] (.ret (a_ sr)):=by
 obtain⟨i31,my,mq⟩:=qu;obtain⟨fs,fE⟩:=cd (P:=prog) (t:=31) (by kernel_rfl);refine bW hG func73 ntmps73 c73 ?_;simp[c73];refine oc (J8 hG) ?_;simp[my,mq,fE,eS,bI,aJ,a_,ao,ae,sr,bD,ints]
end Go.Proofs.Tryz
namespace Go.Proofs.Tryz
open Go Go.AL Go.RowKit Go.Proofs Go.Proofs.Tram
attribute [local simp] dF fc eT dW ef dI dJ cZ c_ ee cW cE gh gj aF aH ev aQ.S aQ.H bz ar aT AL.start AV.cells AV.storable AV.bZ bo bX dS b0 HR.okB post cy cJ cK AV.out AV.bT cb dk fz gI AV.vw df vI int b_ aM cU db gB iN eY dQ bQ
variable{GI:World->Prop}
def fD(s:az)(out:List Int):az:={ s with name:=tg s.name out }
theorem rX{s:az}(hs:cL s=true){l:List Int}(ho:cq s.name l=true):cL (fD s l)=true:=by
 unfold cL at hs⊢;rw[adb]at hs⊢;exact⟨hs.1,CR hs.2 ho⟩
def lM(s:az)(l:List Word):List AV:=[.slice .view (s.cells.map iK),.int .i64 s.pos,.int .i64 s.reach,.int .i64 s.eH,.int .i64 s.dE,vI s.name.aY,.slice .view (s.name.aR.map dq),.int .i64 s.name.ib,.int .i64 s.name.g_,.int .i64 s.name.lx,.int .i64 s.name.lL,.int .i64 s.name.cG,grow 44 (l.map bD),.int .i64 s.name.wide,.int .i64 s.name.rows]
theorem wi(l:List Word):aJ 3 (l.map bD)=true:=gx λa=>⟨rfl,rfl⟩
theorem UJ(hG:aw GI)(s:az)(hl:s.name.words.length<1000)(out:List Int)(ho:out.length<1000000):AC prog GI 160 [a_ s,vI out] (.ret (a_ (fD s out))):=by
 obtain⟨it,my,mq⟩:=qu;obtain⟨fs,fE⟩:=cd (P:=prog) (t:=31) (by kernel_rfl)
 have YK:=λi:Nat=>EX (GI:=GI) hG out ho (i:Int)
 refine bW hG func160 ntmps160 c160 ?_;refine aI (λS H=>S 1=vI out/\S 2=.box 2 0/\H 2=some (ao s)/\S 4=.box 4 0/\∃z,H 4=some z/\z.length=15) (by simp[a_,ao,ae,AV.aG,AV.bH]) ?_;rintro S H ⟨s1,s2,h2,s4,z,h4,hz⟩;refine aI (λS H=>S 1=vI out/\S 2=.box 2 0/\H 2=some (ao s)/\S 4=.box 4 0/\H 4=some z/\S 5=.box 5 0/\H 5=some (ao s)) (by simp[s1,s2,h2,s4,h4,ao,ae,AV.aG,AV.bH]) ?_;clear s1 s2 h2 s4 h4 S H;rintro S H ⟨s1,s2,h2,s4,h4,s5,h5⟩;refine aI (λS H=>S 1=vI out/\S 2=.box 2 0/\H 2=some (ao s)/\S 4=.box 4 0/\H 4=some z/\S 5=.box 5 0/\H 5=some (lM s [])) (by simp[s1,s2,h2,s4,h4,s5,h5,ao,ae,lM,grow,AV.aG,AV.bH]) ?_;clear s1 s2 h2 s4 h4 s5 h5 S H;rintro S H ⟨s1,s2,h2,s4,h4,s5,h5⟩;refine aI (λS H=>S 4=.box 4 0/\H 4=some z/\S 5=.box 5 0/\H 5=some (lM s (fL out 0 s.name.words))) ?_ ?_
 .simp[s1,s2,h2,s4,h4,s5,h5,ao,ae,AV.aG,AV.bH];refine bw 15 s.name.words.length (λi S H=>S 1=vI out/\S 13=.slice .view (s.name.words.map bD)/\S 14=.int .i64 s.name.words.length/\S 4=.box 4 0/\H 4=some z/\S 5=.box 5 0/\H 5=some (lM s (fL out 0 (s.name.words.take i)))/\S 15=.int .i64 (i:Nat)) (λi S H h=>h.2.2.2.2.2.2.2) ⟨by simp[s1,AV.aG,AV.bH],by simp[s1,h2,ao,ae,AV.aG,AV.bH],by simp[s1,h2,ao,ae,AV.aG,AV.bH],by simp[s4,AV.aG,AV.bH],by simp[h4,AV.aG,AV.bH],by simp[s5,AV.aG,AV.bH],by simp[h5,fL,AV.aG,AV.bH],by simp[AV.aG,AV.bH]⟩ ?_;clear s1 s2 h2 s4 h4 s5 h5 S H;rintro i hi S H ⟨s1,cz,di,s4,h4,s5,h5,gm⟩
  by_cases au:i<s.name.words.length
  case neg=>
   have cH:i=s.name.words.length:=by omega
   subst cH;rw[adn (adh _)]at h5;simp[s1,cz,di,s4,h4,s5,h5,gm,AV.aG,AV.bH]
  have hw:IntKind.i64.wrap ((i:Int)+1)=i+1:=aN (by omega);have jC:=tw out au;have hle:=nM out (s.name.words.take i) 0
  have uB:(fL out 0 (s.name.words.take i)).length<1000:=by rw[adM]at hle;omega
  obtain⟨wd,lE⟩:∃wd,s.name.words[i]=wd:=⟨_,rfl⟩
  have a198:=YK i;rw[jC]
  generalize fL out 0 (s.name.words.take i)=L at*
  refine aI (λS H=>S 1=vI out/\S 13=.slice .view (s.name.words.map bD)/\S 14=.int .i64 s.name.words.length/\S 4=.box 4 0/\H 4=some z/\S 5=.box 5 0/\H 5=some (lM s L)/\S 15=.int .i64 (i:Nat)/\S 16=.bool true) (by simp[s1,cz,di,s4,h4,s5,h5,gm,au,AV.aG,AV.bH]) ?_;clear s1 cz di s4 h4 s5 h5 gm S H;rintro S H ⟨s1,cz,di,s4,h4,s5,h5,gm,eV⟩
  cases hc:out.contains (i:Int)with
  |true=>
   rw[hc]at a198;simp[s1,cz,di,s4,h4,s5,h5,gm,eV,au,lE,bD,AV.aG,AV.bH];refine oc a198 ?_;simp[s1,cz,di,s4,h4,s5,h5,gm,eV,au,lE,bD,hw,AV.aG,AV.bH]
  |false=>
   rw[hc]at a198;simp[s1,cz,di,s4,h4,s5,h5,gm,eV,au,lE,bD,AV.aG,AV.bH];refine oc a198 ?_;have cP:=wi L
   have hL:(L.map bD).length<1000:=by simpa using uB
   have e1:(L++[s.name.words[i]]).map bD=L.map bD++[bD wd]:=by rw[adD,lE]<;>rfl
   have k3:aJ 3 [AV.agg [.slice .view (ints wd.aK),.slice .view (ints wd.bK),.bool wd.free]]=true:=rfl;simp only[lE]at e1;simp[lM,e1];unfold lM at h5
   generalize L.map bD=M at*
   cases M with
   |nil=>
    have nL:grow 44 []=.slice .nil []:=rfl;simp[s1,cz,di,s4,h4,s5,h5,gm,eV,au,lE,nL,hw,k3,bD,AV.aG,AV.bH]
    try rfl
   |cons y M=>
    have nL:grow 44 (y::M)=.slice (.own 44) (y::M):=rfl
    have BO:∀z,grow 44 (y::(M++[z]))=.slice (.own 44) (y::(M++[z])):=λ_=>rfl
    have pS:M.length+1+1<1048576:=by simp at hL;omega
    simp[s1,cz,di,s4,h4,s5,h5,gm,eV,au,lE,nL,BO,hw,k3,cP,pS,bD,AV.aG,AV.bH]
 .clear s1 s2 h2 s4 h4 s5 h5 S H;rintro S H ⟨s4,h4,s5,h5⟩;have KD:List.drop 15 z=[]:=aes (by omega);unfold lM at h5;simp[s4,h4,s5,h5,hz,KD,my,mq,fE,eS,Kl,La,xy];simp[a_,ao,ae,fD,tg,vI,ints]
end Go.Proofs.Tryz
namespace Go.Proofs.Tryz
open Go Go.AL Go.RowKit Go.Proofs Go.Proofs.Tram
attribute [local simp] dF fc eT dW ef dI dJ cZ c_ ee cW cE gh gj aF aH ev aQ.S aQ.H bz ar aT AL.start AV.cells AV.storable AV.bZ bo bX dS b0 HR.okB post cy cJ cK AV.out AV.bT cb dk fz gI AV.vw df vI int b_ aM cU db gB iN eY dQ bQ AV.aG AV.bH
variable{GI:World->Prop}
section
variable{w0:World}{n:Nat}{g:Gh}{S:av}{H:aD}{a:Act}{w:World}{d:Nat}
theorem HI{k:Nat->Option Obj}{b:Nat}(o:Option Obj)(h:k b=none):ar (ar k b o) b none=k:=by
 funext c
 by_cases hc:c=b
 .subst hc;simp[ar,h]
 .simp[ar,hc]
theorem sW {k:Nat} {us:Array Value} (nv:dX prog k=true) (R:Rel prog w0 n cm g S H a w) {X:av→aD→Prop}
  (hc:∀g1 w1,Rel prog w0 n cm g1 S H a w1->g1.old={ g.old with bf:=ar g.old.bf w.heap.size (some (.cells #[.int .i64 0] 34)) }->Below w.heap.size w w1->w1=w.alloc (.cells #[.int .i64 0] 34)->
   Calls prog k us w1 λe w2=>e=.returned (.tuple #[])/\∃(c:Value)(g':Gh)(S':av)(H':aD),g'.old=g1.old/\Rel prog w0 n cm g' S' H' (a.put (some d) c) w2/\X S' H'):
  Calls prog 119 #[.func (.func k) #[] us] w λe w2=>e=.returned (.int .i64 0)/\∃(c:Value)(g':Gh)(S':av)(H':aD),g'.old=g.old/\Rel prog w0 n cm g' S' H' (a.put (some d) c) w2/\X S' H':=by
 have R1:=R.lO (.cells #[.int .i64 0] 34);have vf:=oN R;refine jH nv (hc _ _ R1 rfl ((aeb _ _).alloc (adh _) _) rfl) ?_;rintro e w2 ⟨rfl,c,g',S',H',ho,R2,hX⟩
 have hk:g'.old.bf w.heap.size=some (.cells #[.int .i64 0] 34):=by rw[ho];exact aS _ _ _
 have ju:=(R2.kept _ _ hk).2.1;have au:=(ade.1 ju).1;refine⟨au,⟨_,_,ju⟩,.inl ⟨_,rfl,rfl,c,_,S',H',?_,(R2.qn w.heap.size).kS ?_,hX⟩⟩
 .show({ g'.old with bf:=ar g'.old.bf w.heap.size none }:Old)=_;rw[ho];show({ g.old with bf:=ar (ar g.old.bf w.heap.size (some (.cells #[.int .i64 0] 34))) w.heap.size none }:Old)=_;rw[HI _ vf]
 .refine⟨rfl,rfl,rfl,by simp,λk dP=>?_⟩
  by_cases hb:k=w.heap.size
  .subst hb;rw[aeJ w2 _ _ _ _ _ ju,ju]
  .exact aec w2 _ k _ hb
theorem Dx {k:Nat} {us:Array Value} (nv:dX prog k=true) (R:Rel prog w0 n cm g S H a w) {r:Int}
  (hc:∀g1 w1,Rel prog w0 n cm g1 S H a w1->Below w.heap.size w w1->w1=w.alloc (.cells #[.int .i64 0] 34)->
   Calls prog k us w1 λe w2=>Below w1.heap.size w1 w2/\((r=7/\∃n,e=.panicked [{ v:=.iface 192 (.agg #[.int .i64 n]),recovered:=false }])\/(r=4/\∃s:List UInt8,e=.panicked [{ v:=.iface 203 (.agg #[.string ⟨s.toArray⟩]),recovered:=false }]))):
  Calls prog 119 #[.func (.func k) #[] us] w λe w2=>e=.returned (.int .i64 r)/\∃g',g'.old=g.old/\Rel prog w0 n cm g' S H a w2:=by
 have R1:=R.lO (.cells #[.int .i64 0] 34);have vf:=oN R;refine jH nv (hc _ _ R1 ((aeb _ _).alloc (adh _) _) rfl) ?_;rintro en w2 ⟨iU,O_⟩;have R2:=R1.kS iU;have hk:ar g.old.bf w.heap.size (some (.cells #[.int .i64 0] 34)) w.heap.size=some (.cells #[.int .i64 0] 34):=aS _ _ _;have ju:=(R2.kept _ _ hk).2.1;have au:=(ade.1 ju).1
 have fin:∀w3,Below w2.heap.size w2 w3->∃g',g'.old=g.old/\Rel prog w0 n cm g' S H a (w3.setRow w.heap.size #[.int .i64 r]):=λw3 oB=>by
  have R3:=R2.kS oB;have Hz:=(R3.kept _ _ hk).2.1;have R4:=R3.mF hk (.cells #[.int .i64 r] 34);rw[pT w3 Hz];refine⟨_,?_,R4.qn w.heap.size⟩;show({ g.old with bf:=ar (ar (ar g.old.bf w.heap.size (some (.cells #[.int .i64 0] 34))) w.heap.size (some (.cells #[.int .i64 r] 34))) w.heap.size none }:Old)=_
  have:ar (ar (ar g.old.bf w.heap.size (some (.cells #[.int .i64 0] 34))) w.heap.size (some (.cells #[.int .i64 r] 34))) w.heap.size none=g.old.bf:=by
   funext c
   by_cases hc:c=w.heap.size
   .subst hc;simp[ar,vf]
   .simp[ar,hc]
  rw[this]
 rcases O_ with⟨rfl,k,rfl⟩|⟨rfl,k,rfl⟩
 .exact⟨au,⟨_,_,ju⟩,.inr (.inl ⟨k,rfl,λw3 oB=>⟨rfl,fin w3 oB⟩⟩)⟩
 .exact⟨au,⟨_,_,ju⟩,.inr (.inr ⟨k,rfl,λw3 oB=>⟨rfl,fin w3 oB⟩⟩)⟩
variable{i2 i3 i5:Nat}{s x:az}{out ns:List Int}{b:Bool}{z:AV}
theorem wY(s:az):(ao s).map AV.bH=ao s:=by simp[ao,ae,AV.bH,vI]
theorem nQ(R:Rel prog w0 n cm g S H a w){i:Nat}{cs:List AV}(hi:i<n)(hS:S i=.box i 0)(hH:H i=some cs)(hv:cs.map AV.bH=cs):RV (fy g true) cj w (.ref cs) (a.tmps.getD i undef):=by
 have h:=R.slot i hi id;rw[hS]at h;have:=R.gI h true (λ_=>rfl);simp only[Go.AL.gI,hH,List.drop_zero,hv]at this;exact this
theorem El (hG:aw GI) (cT:GI w0) (R:Rel prog w0 n cm g S H a w) (sX:i2 < n) (Tx:i3 < n) (EP:i5 < n)
  (qO:S i2=.box i2 0) (rM:H i2=some (ao s)) (EY:S i3=.box i3 0) (Uo:H i3=some [vI out]) (vd:S i5=.box i5 0) (zZ:H i5=some [.bool false])
  (wa:AC prog GI 160 [a_ s,vI out] (.ret (a_ x))) {k:Int} (yP:AC prog GI 108 [a_ x] (.panic (mY k))):
  Calls prog 159 #[a.tmps.getD i2 undef,a.tmps.getD i3 undef,a.tmps.getD i5 undef] w λe w2=>Below w.heap.size w w2/\e=.panicked [{ v:=.iface 192 (.agg #[.int .i64 k]),recovered:=false }]:=by
 have fU:GI w:=hG w0 w cT (by have:=R.below;rwa [R.base]at this)
 have hA:AC prog GI 159 [.ref (ao s),.ref [vI out],.ref [.bool false]] (.panic (mY k)):=by
  refine bW hG func159 ntmps159 c159 ?_;simp[c159,ao,ae];refine oc wa ?_;simp[a_,ao,ae];refine oc yP ?_;simp[iD]
 refine(hA w (fy g true) #[a.tmps.getD i2 undef,a.tmps.getD i3 undef,a.tmps.getD i5 undef] fU rfl (λi h h'=>?_)).mono ?_
 .match i,h with
  |0,_=>exact nQ R sX qO rM (wY s)
  |1,_=>exact nQ R Tx EY Uo rfl
  |2,_=>exact nQ R EP vd zZ rfl
 .rintro en w2 ⟨iU,hi,qR,c,rfl,ez⟩;have hc:=CW ez;subst hc;exact⟨iU,rfl⟩
theorem Hn (hG:aw GI) (cT:GI w0) (R:Rel prog w0 n cm g S H a w) (hd:d < n) (sX:i2 < n) (Tx:i3 < n) (EP:i5 < n) (Hm:d≠i5)
  (qO:S i2=.box i2 0) (rM:H i2=some (ao s)) (EY:S i3=.box i3 0) (Uo:H i3=some [vI out]) (vd:S i5=.box i5 0) (zZ:H i5=some [z])
  (wa:AC prog GI 160 [a_ s,vI out] (.ret (a_ x))) (yP:AC prog GI 108 [a_ x] (.ret (cD x ns))) (zv:AC prog GI 107 [cD x ns] (.ret (.bool b))):
  Calls prog 159 #[a.tmps.getD i2 undef,a.tmps.getD i3 undef,a.tmps.getD i5 undef] w λe w2=>e=.returned (.tuple #[])/\∃(c:Value)(g':Gh)(S':av)(H':aD),g'.old=g.old/\Rel prog w0 n cm g' S' H' (a.put (some d) c) w2/\(∀t,t≠d->S' t=S t)/\H'=ar H i5 (some [.bool b]):=by
 have fU:GI w:=hG w0 w cT (by have:=R.below;rwa [R.base]at this);have r2:=nQ R sX qO rM (wY s);have r3:=nQ R Tx EY Uo rfl;obtain⟨b5,SU,e5⟩:=jV R EP vd;have bq:=R.size;refine afy func159 rfl ?_;refine(e_ (m:=0)).1 ?_;refine fM (λc=>c.tmps.size=8/\c.defers=[]/\c.tmps.getD 0 undef=a.tmps.getD i2 undef/\c.tmps.getD 1 undef=a.tmps.getD i3 undef/\c.tmps.getD 2 undef=a.tmps.getD i5 undef) ⟨by simp[ntmps159],rfl,bV _ _ 0 (by simp),bV _ _ 1 (by simp),bV _ _ 2 (by simp)⟩ ?_;rintro aC ⟨zC,dC,t0,t1,t2⟩
 refine jz hG (n:=8) (p:=5) (l2:=[5]) rfl (by kernel_rfl) (by kernel_rfl) (l:=(af.dl c159).take 5) (by kernel_rfl) (by decide) (W:=λt=>decide (3<=t)) (by kernel_rfl) fU (fy g true)
  (λt=>match t with|0=>.ref (ao s)|1=>.ref [vI out]|2=>.val (.pointer (some ⟨b5,0,none⟩))|_=>.br) zC dC ?_ (K:=λS' _=>S' 7=.bool b/\S' 2=.val (.pointer (some ⟨b5,0,none⟩))) ?_ ?_
 .intro t ht;split
  .exact⟨rfl,by rw[t0];exact r2⟩
  .exact⟨rfl,by rw[t1];exact r3⟩
  .exact⟨rfl,by rw[t2,e5];exact .data _ _ (.val _ rfl)⟩
  .exact⟨rfl,.br _⟩
 .simp[c159,af.dl,ao,ae];refine oc wa ?_;simp[a_,ao,ae];refine oc yP ?_;simp[cD,aZ,ao,ae];refine oc zv ?_;simp
 .rintro g1 S1 H1 a1 w1 kB R1 ⟨q7,q2⟩ _
  have uX:Below w.heap.size w w1:=by have:=R1.below;rwa [R1.base]at this
  have u7:=R1.slot 7 (by decide) id;rw[q7]at u7;have u7:=u7.eE;have u2:=R1.slot 2 (by decide) id;rw[q2]at u2;have u2:=u2.fG;have R2:=(R.kS uX).put d (.bool b) (.bool b) hd (.data _ _ (.bool _)) trivial;obtain⟨i4,O',HB⟩:=bp (P:=prog) (t:=4) (s:=1) (by kernel_rfl);have Dr:ar S d (.bool b) i5=.box i5 0:=(bj _ _ (ad2 Hm)).trans vd
  have ke:aH (ar S d (.bool b)) H (.store .any i4.size (.t i5) (.t d))=some { v:=b_,dm:=some d,hw:=some (i5,[.bool b]) }:=by
   simp[aH,ev,Dr,vd,ad2 Hm,zZ,HR.okB,HB,AV.cells,AV.storable,AV.bZ,bo,bz,aS]
  obtain ⟨c2,w3,g3,dv,Mo,wG,R3⟩:=kX R2 (o:={ dst:=none,op := .store 4 (.tmp i5) (.tmp d),type:=0,pos := "",after := #[],guard:=none }) (x1 := .tmp i5) (x2 := .tmp d) (y1 := .t i5) (y2 := .t d) (hr := .any) rfl rfl O' (by simp [eO,EP]) (by simp [eO,hd]) (λ_ _=>id) (λ_ _=>id) ke
  have f5:(a.put (some d) (.bool b)).eval (.tmp i5)=.pointer (some ⟨b5,0,none⟩):=by
   show(a.put (some d) (.bool b)).tmps.getD i5 undef=_;rw[iH _ _ _ _ (by omega),if_neg (ad2 Hm),e5]
  have fd:(a.put (some d) (.bool b)).eval (.tmp d)=.bool b:=by
   show(a.put (some d) (.bool b)).tmps.getD d undef=_;rw[iH _ _ _ _ (by omega),if_pos rfl]
  have bb:∀ o:Oper,o.op = .store 4 (.tmp 2) (.tmp 7)->(execOp a1.eval o).run prog w1=(execOp (a.put (some d) (.bool b)).eval { dst:=none,op := .store 4 (.tmp i5) (.tmp d),type:=0,pos := "",after := #[],guard:=none }).run prog w1:=by
   intro o ho;have k2:a1.eval (.tmp 2)=.pointer (some ⟨b5,0,none⟩):=u2;have k7:a1.eval (.tmp 7)=.bool b:=u7;unfold execOp;simp only[ho,k2,k7,f5,fd]
  have fin:∀u:Value,(a1.put none u).defers=[]/\∃v',(results f159 (a1.put none u).tmps).run prog w3=.ok v' w3/\(v'=.tuple #[]/\∃(c:Value)(g':Gh)(S':av)(H':aD),g'.old=g.old/\Rel prog w0 n cm g' S' H' (a.put (some d) c) w3/\(∀t,t≠d->S' t=S t)/\H'=ar H i5 (some [.bool b])):=λu=>
   ⟨R1.defers.trans (by rw[kB]<;>rfl),.tuple #[],by simp[results,results159],rfl,.bool b,g3,_,_,wG,R3,λt ht=>by simp[aQ.S,AL.aT,ar,ht],rfl⟩
  have II:∀u:Value,(a1.put none u).defers=[]/\∃v',(results f159 (a1.put none u).tmps).run prog w3=.ok v' w3/\(Ending.returned v'=.returned (.tuple #[])/\∃(c:Value)(g':Gh)(S':av)(H':aD),g'.old=g.old/\Rel prog w0 n cm g' S' H' (a.put (some d) c) w3/\(∀t,t≠d->S' t=S t)/\H'=ar H i5 (some [.bool b])):=λu=>by
   obtain⟨q1,v',q2,rfl,q3⟩:=fin u;exact⟨q1,_,q2,rfl,q3⟩
  rcases dv with hr|⟨hr,_⟩
  .exact aV rfl rfl (by rfl) ((bb _ rfl).trans hr) (II _)
  .exact dM rfl rfl (by rfl) ((bb _ rfl).trans hr) (II undef)
end
def ft(s:az)(out:List Int):Bool:=match fq (fD s out).name with
 |some es=>decide (gC 0 (fD s out) (aW (fD s out) es)=(aW (fD s out) es).length)
 |none=>false
theorem vY{s:az}(h:eZ s)(out:List Int):eZ (fD s out):=by
 have hl:=nM out s.name.words 0;exact⟨h.cells,⟨h.name.aY,h.name.aR,Nat.lt_of_le_of_lt hl h.name.words,λw hw=>h.name.aK w (nD hw),λw hw=>h.name.bK w (nD hw)⟩⟩
theorem To(hG:aw GI)(s:az)(hs:eZ s)(hI:cL s=true)(out:List Int)(ho:cq s.name out=true):AC prog GI 113 [a_ s,vI out] (.ret (.bool (ft s out))):=by
 have hI2:=rX hI ho;have hg:=er hI;have me:=er hI2;have jA:=(eg hg.name).words;have hol:=uv ho;have a160:=UJ hG s (by omega) out (by omega);have uu:eZ (fD s out):=vY hs out;unfold ft
 obtain ⟨b,e,hO,mQ⟩:∃ (b:Bool) (e:Int),(match fq (fD s out).name with
   |some es=>decide (gC 0 (fD s out) (aW (fD s out) es)=(aW (fD s out) es).length)
   |none=>false)=(e==0&&b)/\
   ∀(w0:World)(g:Gh)(S:av)(H:aD)(a:Act)(w:World),GI w0->Rel prog w0 14 cm g S H a w->S 2=.box 2 0->H 2=some (ao s)->S 3=.box 3 0->H 3=some [vI out]->S 5=.box 5 0->H 5=some [.bool false]->
    Calls prog 119 #[.func (.func 159) #[] #[a.tmps.getD 2 undef,a.tmps.getD 3 undef,a.tmps.getD 5 undef]] w λen w2=>en=.returned (.int .i64 e)/\∃(c:Value)(g':Gh)(S':av)(H':aD),g'.old=g.old/\Rel prog w0 14 cm g' S' H' (a.put (some 8) c) w2/\S' 5=.box 5 0/\H' 5=some [.bool b]:=by
  cases eG:fq (fD s out).name with
  |some es=>
   have hn:=iW me (gz me.name eG);refine⟨_,0,(afo _).symm,λw0 g S H a w cT R q2 Fs q3 Tf q5 Qj=>?_⟩
   refine sW (d:=8) (by kernel_rfl) R λg1 w1 R1 kB _ _=>?_
   refine(Hn hG cT R1 (d:=8) (by decide) (by decide) (by decide) (by decide) (by decide) q2 Fs q3 Tf q5 Qj a160 (FP hG (fD s out) uu me eG) (FC hG (fD s out) me (aW (fD s out) es) hn)).mono ?_;rintro en w2 ⟨rfl,c,g',S',H',ru,R',rO,rJ⟩;exact⟨rfl,c,g',S',H',ru,R',by rw[rO 5 (by decide)];exact q5,by rw[rJ];exact aS _ _ _⟩
  |none=>
   refine⟨false,7,rfl,λw0 g S H a w cT R q2 Fs q3 Tf q5 Qj=>?_⟩;refine(Dx (by kernel_rfl) R (r:=7) λg1 w1 R1 _ _=>?_).mono ?_
   .refine(El hG cT R1 (by decide) (by decide) (by decide) q2 Fs q3 Tf q5 Qj a160 (zc hG (fD s out) uu me eG)).mono ?_;rintro en w2 ⟨hb,rfl⟩;exact⟨hb,.inl ⟨rfl,_,rfl⟩⟩
   .rintro en w2 ⟨rfl,g',z7,R'⟩;exact⟨rfl,undef,g',ar S 8 .br,H,z7,R'.put 8 .br undef (by decide) (.br _) trivial,(bj _ _ (by decide)).trans q5,Qj⟩
 rw[hO]
 refine AC.iF func113 rfl ntmps113 (by simp) λcc w=>?_
 refine dU hG c113.qa (λS' H'=>S' 2=.box 2 0/\H' 2=some (ao s)/\S' 3=.box 3 0/\H' 3=some [vI out]) ?_ ?_
 .simp[c113,af.qa,a_,ao,ae]
 rintro S1 H1 ⟨s2,h2,s3,h3⟩;show SW prog GI 14 none (.seq _ (.seq _ (.seq _ .ret))) _ _ _ _;refine dU hG c113.qb.qa (λS' H'=>S' 2=.box 2 0/\H' 2=some (ao s)/\S' 3=.box 3 0/\H' 3=some [vI out]/\S' 5=.box 5 0/\H' 5=some [.bool false]) ?_ ?_
 .simp[c113,af.qa,af.qb,s2,h2,s3,h3]
 clear s2 h2 s3 h3;rintro S3 H3 ⟨s2,h2,s3,h3,s5,h5⟩
 refine SW.seq (SW.hand hG (p:=0) (lm:=[0,1]) (l2:=[2]) (kd:=[]) (oh:=[_,_]) (lI:=[_]) rfl rfl rfl rfl (by kernel_rfl) (λ_ h=>h) (lU:=[]) (kZ:=(c113.qb.qb.qa.dl).drop 2) rfl (by kernel_rfl) rfl (by kernel_rfl)
  (K1:=λS' H'=>S' 2=.box 2 0/\H' 2=some (ao s)/\S' 3=.box 3 0/\H' 3=some [vI out]/\S' 5=.box 5 0/\H' 5=some [.bool false])
  (K2:=λo S' H'=>o=Old.plain cc w/\S' 5=.box 5 0/\H' 5=some [.bool b]/\S' 8=.int .i64 e)
  (K3:=λo S' H'=>o=Old.plain cc w/\S' 5=.box 5 0/\H' 5=some [.bool b]/\S' 6=.int .i64 e) ⟨s2,h2,s3,h3,s5,h5⟩ ?_ ?_ ?_)
 .rintro w0 g S5 H5 a w5 m cT ho R ⟨s2,h2,s3,h3,s5,h5⟩;have bq:=R.size;refine aV rfl rfl (by rfl) (lP (fn:=.func 159) (c:=#[.tmp 2,.tmp 3,.tmp 5]) rfl) ?_
  obtain⟨fv,kM⟩:∃fv:Value,fv=.func (.func 159) #[] (#[Operand.tmp 2,.tmp 3,.tmp 5].map a.eval):=⟨_,rfl⟩
  show wpOpsIn _ _ _ _ _ [1] (a.put (some 7) (.func (.func 159) #[] (#[Operand.tmp 2,.tmp 3,.tmp 5].map a.eval))) w5;rw[<-kM];have R1:=R.put 7 .br fv (by decide) (.br _) trivial
  obtain⟨a1,oX⟩:∃a1,a.put (some 7) fv=a1:=⟨_,rfl⟩
  rw[oX]at R1⊢
  have wP:fv=.func (.func 159) #[] #[a1.tmps.getD 2 undef,a1.tmps.getD 3 undef,a1.tmps.getD 5 undef]:=by
   have e1:=bB a 7 2 fv (by omega);have e2:=bB a 7 3 fv (by omega);have e4:=bB a 7 5 fv (by omega);rw[if_neg (by decide),oX]at e1 e2 e4;have BG:a1.tmps.getD 2 undef=a.eval (.tmp 2):=e1;have Pb:a1.tmps.getD 3 undef=a.eval (.tmp 3):=e2;have EN:a1.tmps.getD 5 undef=a.eval (.tmp 5):=e4;rw[BG,Pb,EN,kM];simp only[adK,adC,adO]
  have jt:a1.eval (.tmp 7)=fv:=by rw[<-oX,bB _ _ _ _ (by omega),if_pos rfl]
  refine fH rfl rfl (by rfl) (gK (k:=119) (args:=#[.func (.func 159) #[] #[a1.tmps.getD 2 undef,a1.tmps.getD 3 undef,a1.tmps.getD 5 undef]]) w5 rfl rfl ?_ (by kernel_rfl)) (mQ w0 g _ _ a1 w5 cT R1 (by simp[ar,s2]) h2 (by simp[ar,s3]) h3 (by simp[ar,s5]) h5) ?_
  .simp only[adK,adC,adO,jt,<-wP]
  .rintro en w6 ⟨rfl,c,g',S',H',ru,R2,vd,zZ⟩;refine⟨_,rfl,?_⟩;have R3:=R2.put 8 (.int .i64 e) (.int .i64 e) (by decide) (.data _ _ (.int _ _)) trivial;rw[n_]at R3;exact⟨g',_,H',R3,ru.trans ho,by rw[bj _ _ (by decide)];exact vd,zZ,aS _ _ _⟩
 .rintro o S5 H5 ⟨rfl,s5,h5,s8⟩;refine⟨λ_ h=>h,?_⟩;simp[c113,af.qa,af.qb,af.dl,s5,h5,s8]
 .rintro o S5 H5 ⟨rfl,s5,h5,s6⟩;show SW prog GI 14 none (.seq _ .ret) _ _ _ _;refine dU hG c113.qb.qb.qb.qa (λS' H'=>S' 4=.bool (e==0&&b)) ?_ ?_
  .by_cases he:e=0
   .subst he;simp[c113,af.qa,af.qb,s5,h5,s6]
   .have ky:(e==0)=false:=by simpa using he
    simp[c113,af.qa,af.qb,s5,h5,s6,ky]
  rintro S6 H6 s4;refine SW.ret ⟨eD.plain rfl,rfl,_,?_,rfl⟩;show cy prog 14 [.tmp 4] S6 H6=_;simp[cy,cJ,cK,s4,AV.bT,AV.out]
end Go.Proofs.Tryz
namespace Go.Proofs.Tryz
open Go Go.AL Go.RowKit Go.Proofs Go.Proofs.Tram
attribute [local simp] dF fc nC ml ef dI dJ cZ c_ ee cW cE gh gj aF aH ev aQ.S aQ.H bz ar aT AL.start AV.cells AV.storable AV.bZ bo bX dS b0 HR.okB post cy cJ cK AV.out AV.bT cb dk fz gI AV.vw df vI int b_ aM cU db gB iN eY dQ bQ
variable{GI:World->Prop}
theorem V9(hG:aw GI)(s:az)(hl:s.name.words.length<1000)(out:List Int)(ho:out.length<1000000):AC prog GI 69 [a_ s,vI out] (.ret (a_ (fD s out))):=by
 obtain⟨it,my,mq⟩:=qu;obtain⟨fs,fE⟩:=cd (P:=prog) (t:=31) (by kernel_rfl)
 have T5:=λi:Nat=>Mj (GI:=GI) hG out (i:Int) (by omega)
 refine bW hG func69 ntmps69 c69 ?_;refine aI (λS H=>S 1=vI out/\S 2=.box 2 0/\H 2=some (ao s)/\S 4=.box 4 0/\∃z,H 4=some z/\z.length=15) (by simp[a_,ao,ae,ai,ah,AV.aG,AV.bH]) ?_;rintro S H ⟨s1,s2,h2,s4,z,h4,hz⟩;refine aI (λS H=>S 1=vI out/\S 2=.box 2 0/\H 2=some (ao s)/\S 4=.box 4 0/\H 4=some z/\S 5=.slice .view (s.name.words.map bD)) (by simp[s1,s2,h2,s4,h4,ao,ae,ai,ah,AV.aG,AV.bH]) ?_;clear s1 s2 h2 s4 h4 S H;rintro S H ⟨s1,s2,h2,s4,h4,s5⟩;refine aI (λS H=>S 1=vI out/\S 2=.box 2 0/\H 2=some (lM s [])/\S 4=.box 4 0/\H 4=some z/\S 5=.slice .view (s.name.words.map bD)) (by simp[s1,s2,h2,s4,h4,s5,ao,ae,lM,grow,ai,ah,AV.aG,AV.bH]) ?_;clear s1 s2 h2 s4 h4 s5 S H;rintro S H ⟨s1,s2,h2,s4,h4,s5⟩;refine aI (λS H=>S 4=.box 4 0/\H 4=some z/\S 2=.box 2 0/\H 2=some (lM s (fL out 0 s.name.words))) ?_ ?_
 .simp[s1,s2,h2,s4,h4,s5,ai,ah,AV.aG,AV.bH];refine bw 6 s.name.words.length (λi S H=>S 1=vI out/\S 5=.slice .view (s.name.words.map bD)/\S 4=.box 4 0/\H 4=some z/\S 2=.box 2 0/\H 2=some (lM s (fL out 0 (s.name.words.take i)))/\S 6=.int .i64 (i:Nat)) (λi S H h=>h.2.2.2.2.2.2) ⟨by simp[s1,ai,ah,AV.aG,AV.bH],by simp[s5,ai,ah,AV.aG,AV.bH],by simp[s4,ai,ah,AV.aG,AV.bH],by simp[h4,ai,ah,AV.aG,AV.bH],by simp[s2,ai,ah,AV.aG,AV.bH],by simp[h2,fL,ai,ah,AV.aG,AV.bH],by simp[ai,ah,AV.aG,AV.bH]⟩ ?_;clear s1 s2 h2 s4 h4 s5 S H;rintro i hi S H ⟨s1,s5,s4,h4,s2,h2,s6⟩
  by_cases au:i<s.name.words.length
  case neg=>
   have cH:i=s.name.words.length:=by omega
   subst cH;rw[adn (adh _)]at h2;simp[s1,s5,s4,h4,s2,h2,s6,ai,ah,AV.aG,AV.bH]
  have hw:IntKind.i64.wrap ((i:Int)+1)=i+1:=aN (by omega);have jC:=tw out au;have hle:=nM out (s.name.words.take i) 0
  have uB:(fL out 0 (s.name.words.take i)).length<1000:=by rw[adM]at hle;omega
  obtain⟨wd,lE⟩:∃wd,s.name.words[i]=wd:=⟨_,rfl⟩
  have a85:=T5 i;unfold int at a85;rw[jC]
  generalize fL out 0 (s.name.words.take i)=L at*
  refine aI (λS H=>S 1=vI out/\S 5=.slice .view (s.name.words.map bD)/\S 4=.box 4 0/\H 4=some z/\S 2=.box 2 0/\H 2=some (lM s L)/\S 6=.int .i64 (i:Nat)) (by simp[s1,s5,s4,h4,s2,h2,s6,au,ai,ah,AV.aG,AV.bH]) ?_;clear s1 s5 s4 h4 s2 h2 s6 S H;rintro S H ⟨s1,s5,s4,h4,s2,h2,s6⟩
  cases hc:out.contains (i:Int)with
  |true=>
   rw[hc]at a85;simp[s1,s5,s4,h4,s2,h2,s6,au,lE,bD,ai,ah,AV.aG,AV.bH];refine oc a85 ?_;simp[s1,s5,s4,h4,s2,h2,s6,au,lE,bD,hw,ai,ah,AV.aG,AV.bH]
  |false=>
   rw[hc]at a85;simp[s1,s5,s4,h4,s2,h2,s6,au,lE,bD,ai,ah,AV.aG,AV.bH];refine oc a85 ?_;have cP:=wi L
   have hL:(L.map bD).length<1000:=by simpa using uB
   have e1:(L++[s.name.words[i]]).map bD=L.map bD++[bD wd]:=by rw[adD,lE]<;>rfl
   have k3:aJ 3 [AV.agg [.slice .view (ints wd.aK),.slice .view (ints wd.bK),.bool wd.free]]=true:=rfl;simp only[lE]at e1;simp[lM,e1];unfold lM at h2
   generalize L.map bD=M at*
   cases M with
   |nil=>
    have nL:grow 44 []=.slice .nil []:=rfl;simp[s1,s5,s4,h4,s2,h2,s6,au,lE,nL,hw,k3,bD,ai,ah,AV.aG,AV.bH]
    try rfl
   |cons y M=>
    have nL:grow 44 (y::M)=.slice (.own 44) (y::M):=rfl
    have BO:∀z,grow 44 (y::(M++[z]))=.slice (.own 44) (y::(M++[z])):=λ_=>rfl
    have pS:M.length+1+1<1048576:=by simp at hL;omega
    simp[s1,s5,s4,h4,s2,h2,s6,au,lE,nL,BO,hw,k3,cP,pS,bD,ai,ah,AV.aG,AV.bH]
 .clear s1 s2 h2 s4 h4 s5 S H;rintro S H ⟨s4,h4,s2,h2⟩;have KD:List.drop 15 z=[]:=aes (by omega);unfold lM at h2;simp[s4,h4,s2,h2,hz,KD,my,mq,fE,eS,ai,ah,Kl,La,xy];simp[a_,ao,ae,fD,tg,vI,ints]
end Go.Proofs.Tryz
namespace Go.Proofs.Tryz
open Go Go.AL Go.RowKit Go.Proofs Go.Proofs.Tram
def iw(s:az)(d:Nat)(es:List Int):List (List Int):=(nR s.name d es).filter (ft s)
def oL(s:az)(d:Nat)(es:List Int)(i:Nat):List (List Int):=(List.range' i (s.name.words.length-i)).flatMap λk=>if jG s.name k then iw s d (es++[(k:Int)])else[]
theorem B_(s:az)(es:List Int):iw s 0 es=if ft s es then[es]else[]:=by
 unfold iw nR
 cases h:ft s es<;>simp[h]
theorem Dp(s:az)(d:Nat)(es:List Int):iw s (d+1) es=oL s d es (dR es):=by
 unfold iw oL nR;rw[afd]
 refine nn λi _=>?_
 cases jG s.name i<;>rfl
theorem CY(s:az)(d:Nat)(es:List Int){i:Nat}(h:i<s.name.words.length):oL s d es i=(if jG s.name i then iw s d (es++[(i:Int)])else[])++oL s d es (i+1):=by
 unfold oL;rw[show s.name.words.length-i=s.name.words.length-(i+1)+1 by omega,aeB,aex]
theorem E2(s:az)(d:Nat)(es:List Int):oL s d es s.name.words.length=[]:=by
 unfold oL
 rw[afQ]<;>rfl
theorem tP{α β:Type}{f:α->List β}{b:Nat}(hf:∀x,(f x).length<=b):∀l:List α,(l.flatMap f).length<=b*l.length
 |[]=>by simp
 |a::l=>by
  rw[aex,adq,List.length_cons,Nat.mul_succ];have:=tP hf l;have:=hf a;omega
theorem wF{s:aq}(h:s.words.length<=4):∀(d:Nat)(now:List Int),(nR s d now).length<=4^d
 |0,now=>by simp[nR]
 |d+1,now=>by
  unfold nR
  have h1:∀i:Nat,(if jG s i then nR s d (now++[(i:Int)])else[]).length<=4^d:=by
   intro i;split
   .exact wF h d _
   .simp
  have h2:=tP h1 (List.range' (dR now) (s.words.length-dR now));rw[List.length_range']at h2;rw[Nat.pow_succ];have h3:4^d*(s.words.length-dR now)<=4^d*4:=Nat.mul_le_mul_left _ (by omega);omega
theorem Ey{s:az}(h:s.name.words.length<=4){d:Nat}(hd:d<4)(es:List Int):(iw s d es).length<=64:=by
 have h1:=aeV (ft s) (nR s.name d es);have h2:=wF h d es;have h3:4^d<=4^3:=Nat.pow_le_pow_right (by decide) (by omega);unfold iw;omega
def kG(s:az):Option (List Int):=(vL s.name).find? (ft s)
theorem uk(s:az):kG s=((List.range s.name.words.length).flatMap λd=>iw s d []).head?:=by
 unfold kG vL iw;rw[<-List.head?_filter,afd]
theorem FE{α:Type}(f:Nat->List α){n m:Nat}(h:m<n)(hb:∀j,j<m->f j=[]){x:α}{l:List α}(hm:f m=x::l):((List.range n).flatMap f).head?=some x:=by
 have e:List.range n=List.range m++m::List.range' (m+1) (n-(m+1)):=by
  have h1:List.range' 0 m++List.range' (0+m) (n-(m+1)+1)=List.range' 0 (m+(n-(m+1)+1)):=afH;rw[ad3,show m+(n-(m+1)+1)=n by omega]at h1;rw[aeR,aeR,<-h1,aeB]
 rw[e,aee,af0.2 λj hj=>hb j (adF.1 hj),List.nil_append,aex,hm]
 rfl
theorem EI{α:Type}(f:Nat->List α){n:Nat}(hb:∀j,j<n->f j=[]):((List.range n).flatMap f).head?=none:=by
 rw[af0.2 λj hj=>hb j (adF.1 hj)]
 rfl
def sH(s:az):List AV:=match kG s with
 |some l=>[vI l,.int .i64 0]
 |none=>[vI [],.int .i64 5]
def vG(s:az):List AV:=if cL s then sH s else[vI [],.int .i64 2]
end Go.Proofs.Tryz
namespace Go.Proofs.Tryz
open Go Go.AL Go.RowKit Go.Proofs Go.Proofs.Tram
attribute [local simp] dF fc eT dW ef dI dJ cZ c_ ee cW cE gh gj aF aH ev aQ.S aQ.H bz ar aT AL.start AV.cells AV.storable AV.bZ bo bX dS b0 HR.okB post cy cJ cK AV.out AV.bT cb dk fz gI AV.vw df vI int b_ aM cU db gB iN eY dQ bQ AV.aG AV.bH
variable{GI:World->Prop}
def W6:Nat->Bool:=λt=>decide (6<=t)
def zM:Nat->Bool:=λt=>decide (35<=t)
structure AS(bF bN:Nat)(cS cR:Value)(n many:Int)(a:Act):Prop where
 size:a.tmps.size=50
 defers:a.defers=[]
 t0:a.tmps.getD 0 undef=.int .i64 n
 t1:a.tmps.getD 1 undef=.int .i64 many
 t2:a.tmps.getD 2 undef=cS
 t3:a.tmps.getD 3 undef=.pointer (some ⟨bN,0,none⟩)
 t4:a.tmps.getD 4 undef=.pointer (some ⟨bF,0,none⟩)
 t5:a.tmps.getD 5 undef=cR
def fB(s:az)(es:List Int)(fv:Value)(n many:Int)(v8:AV):av:=λt=>match t with
 |0=>.int .i64 n
 |1=>.int .i64 many
 |2=>.ref (ao s)
 |3=>.ref [.slice .view (ints es)]
 |5=>.ref [.val fv]
 |8=>v8
 |_=>.br
section
variable{wB:World}{Mi:Nat->Nat->Prop}{bF bN:Nat}{s:az}{cS cR fv:Value}{fs:List (List Int)}{es:List Int}{w:World}{a:Act}{n many:Int}
theorem AS.step{a':Act}(fr:AS bF bN cS cR n many a)(bq:a'.tmps.size=50)(dZ:a'.defers=[])(h:eL W6 a a'):AS bF bN cS cR n many a':=
 ⟨bq,dZ,(h 0 rfl).trans fr.t0,(h 1 rfl).trans fr.t1,(h 2 rfl).trans fr.t2,(h 3 rfl).trans fr.t3,(h 4 rfl).trans fr.t4,(h 5 rfl).trans fr.t5⟩
theorem Lv.eW (st:Lv wB Mi bF bN s cS cR fv fs es w) (fr:AS bF bN cS cR n many a) {v8:AV} (h8:v8.aG=v8∧RV (fun _ _=>True) cj w v8 (a.tmps.getD 8 undef)) :
  ∀t,t<50->(fB s es fv n many v8 t).aG=fB s es fv n many v8 t/\RV (λ_ _=>True) cj w (fB s es fv n many v8 t) (a.tmps.getD t undef):=by
 intro t ht;unfold fB;split
 .rw[fr.t0];exact⟨rfl,.data _ _ (.int _ _)⟩
 .rw[fr.t1];exact⟨rfl,.data _ _ (.int _ _)⟩
 .rw[fr.t2];exact⟨rfl,st.s.mono (bl.same λ_ _ _ _=>trivial) λ_ _ h=>h⟩
 .rw[fr.t3];obtain⟨u,tD,xF,v,wH,xN,f1,f2,f3,f4,n1,n2,n3,n4⟩:=st.st;refine⟨rfl,.data _ _ (.ref _ _ _ (λ_=>v) (λi hi=>?_) (λk hk=>⟨trivial,?_⟩) (λk hk=>?_))⟩
  .have:i=0:=by simpa using hi
   subst this;rfl
  .have:k=0:=by simpa using hk
   subst this;simp[World.cell?,n1]
  .have:k=0:=by simpa using hk
   subst this
   exact RD.ofRow (size:=1) (es:=ints es) (by rw[cb];exact n2) (n3.mono (bl.same λ_ _ _ h=>h.elim)) λ_ _ _ _=>trivial
 .rw[fr.t5];exact⟨rfl,st.r.mono (bl.same λ_ _ _ _=>trivial) λ_ _ h=>h⟩
 .exact h8
 .exact⟨rfl,.br _⟩
theorem Lv.dE (st:Lv wB Mi bF bN s cS cR fv fs es w) {w':World} {es':List Int} {v v':Value} {wH:TypeId} {PK:List Value} (hv:∃ ty,w.heap[bN]? = some (.cells #[v] ty (0,0))) (fY:mV (fun b=>b=bN∨v.ownBlock=some b) w w')
  (hN:w'.heap[bN]?=some (.cells #[v'] wH (0,0))) (dO:w'.ownsRow (bN+1) 3 1 v' es'.length PK) (rm:kH (λ_ _=>False) w' 1 (ints es') PK) (Gg:∀b,v'.ownBlock=some b->v.ownBlock=some b\/w.heap.size<=b):Lv wB Mi bF bN s cS cR fv fs es' w':=by
 obtain⟨u,tD,xF,v0,ab4,xN,f1,f2,f3,f4,n1,n2,n3,n4⟩:=st.st;obtain⟨ty,hv⟩:=hv
 have Jo:v0=v:=by
  rw[n1]at hv;simp only[adS,Obj.cells.injEq,Array.mk.injEq,afe]at hv;exact hv.1.1
 subst Jo;have lF:=(ade.1 f1).1
 have old:∀b,b<w.heap.size->b≠bN->v0.ownBlock≠some b->w'.heap[b]?=w.heap[b]?:=λb hb h1 h2=>fY.block b hb (by rintro(h|h);exact h1 h;exact h2 h)
 have Ry:∀b k,Mi b k->w'.heap[b]?=w.heap[b]?:=λb k hm=>old b (st.lt b k hm) (λe=>st.gN k (e▸hm)) λe=>(n4 b e).2.2 k hm
 have MH:bl Mi Mi w w':=bl.of_eq λb k hm=>⟨hm,Ry b k hm⟩
 refine⟨st.below.trans (fY.below st.below.size λb hb=>?_),st.ge,λb k hm=>adU (st.lt b k hm) fY.size,st.gF,st.gN,⟨u,tD,xF,v',wH,PK,(old bF lF st.ge.2.2 λe=>(n4 bF e).1 rfl).trans f1,fK f2 λb hb=>old b (f2.lt b hb).2 (f4 b hb).1 λe=>(n4 b e).2.1 hb,f3.mono (bl.of_eq λb k hm=>⟨hm,(Ry b k hm.1)⟩),f4,hN,dO,rm,λb hb=>?_⟩,st.s.mono MH λ_ _ h=>h,st.r.mono MH λ_ _ h=>h⟩
 .rcases hb with rfl|hb
  .exact st.ge.2.1
  .have:=(n2.lt b hb).1;have:=st.ge.2.1;omega
 .rcases Gg b hb with h|h
  .exact n4 b h
  .exact⟨λe=>by omega,λe=>by have:=(f2.lt b e).2;omega,λk hm=>by have:=st.lt b k hm;omega⟩
end
theorem uS {P:Program} {a:Act} {o:Oper} {cl:Call} {f x y:Operand} {k:Nat} {cap:Array Value} (w:World) (ho:o.op = .call cl) (hc:cl.callee = .value f) (ha:cl.args = #[x,y]) (hf:a.eval f = .func (.func k) #[] cap) (hk:dX P k=true) :
  (execOp a.eval o).run P w=.ok (.enter k (#[a.eval x,a.eval y]++cap)) w:=by
 unfold execOp;simp[ho,eU hc,hf,Deferred.ofValue,invoke,ha,gy hk]
noncomputable def oa:af:=af.qb c112.qb.qb.qb
noncomputable def tq:af:=af.qb oa.qb.qa
noncomputable def wN:af:=af.qa tq.qb
theorem L4 (hG:aw GI) {wB:World} (tG:GI wB) {bF bN:Nat} {s:az} (hs:eZ s) (hI:cL s=true) {cS cR fv:Value} (kM:fv = .func (.func 112) #[] #[cS,.pointer (some ⟨bN,0,none⟩),.pointer (some ⟨bF,0,none⟩),cR]) :
  ∀(d n:Nat)(es:List Int)(fs:List (List Int))(Mi:Nat->Nat->Prop)(w:World),dR es=n->n<=s.name.words.length->es.length+d<s.name.words.length->cq s.name es=true->(fs++iw s d es).length<=1000->Lv wB Mi bF bN s cS cR fv fs es w->
   Calls prog 112 #[.int .i64 n,.int .i64 d,cS,.pointer (some ⟨bN,0,none⟩),.pointer (some ⟨bF,0,none⟩),cR] w λe w'=>e=.returned (.tuple #[])/\∃oe,(∀b k,Mi b k->oe b k)/\Lv wB oe bF bN s cS cR fv (fs++iw s d es) es w':=by
 have jA:=(eg (er hI).name).words.2;intro d
 induction d with
 |zero=>?_
 |succ d ih=>?_
 all_goals intro n es fs Mi w rm hn hd ho hB st
 all_goals refine(jw (ro:=none) (m:=0)).1 (afS func112 rfl trivial ?_)
 .have fU:GI w:=hG wB w tG st.below
  have fr:AS bF bN cS cR n ((0:Nat):Int) { tmps:=#[.int .i64 n,.int .i64 ((0:Nat):Int),cS,.pointer (some ⟨bN,0,none⟩),.pointer (some ⟨bF,0,none⟩),cR]++Array.replicate (f112.ntmps-6) undef,defers:=[] }:=
   ⟨by simp[ntmps112],rfl,bV _ _ 0 (by simp),bV _ _ 1 (by simp),bV _ _ 2 (by simp),bV _ _ 3 (by simp),bV _ _ 4 (by simp),bV _ _ 5 (by simp)⟩
  rw[B_]at hB⊢;refine adk (adk ?_);refine bJ hG cV (n:=50) (ac:=af.qa c112.qa) (W:=W6) (by kernel_rfl) (by kernel_rfl) (by kernel_rfl) fU (λ_ _=>True) (fB s es fv n ((0:Nat):Int) .br) fr.size fr.defers (st.eW fr ⟨rfl,.br _⟩) (K:=λS' _=>S' 10=.bool true) ?_ ?_
  .simp[c112,af.qa,fB]
  rintro g S' H' a w1 hg R1 hb bb;have fr:=fr.step R1.size (by rw[R1.defers,hg]<;>rfl) bb;have st:=st.grow (by have:=R1.below;rwa [R1.base]at this);have ht:=R1.slot 10 (by decide) (λh=>h);rw[hb]at ht;have tf:=ht.eE;clear ht bb hb hg R1 g S' H' fU;have fU:GI w1:=hG wB w1 tG st.below;show Code.wpIn _ _ _ _ _ a w1;refine ad1 (t:=true) tf ?_;simp only[adJ];refine adk (adk ?_);have X':=To hG s hs hI es ho;refine bJ hG cV (n:=50) (ac:=af.qa c112.qa.qb.qa.qa) (W:=W6) (by kernel_rfl) (by kernel_rfl) (by kernel_rfl) fU (λ_ _=>True) (fB s es fv n ((0:Nat):Int) .br) fr.size fr.defers (st.eW fr ⟨rfl,.br _⟩) (K:=λS' _=>S' 13=.bool (ft s es)) ?_ ?_
  .simp[c112,af.qa,af.qb,fB,ao,ae];refine oc X' ?_;simp
  rintro g S' H' a w1 hg R1 hb bb;have fr:=fr.step R1.size (by rw[R1.defers,hg]<;>rfl) bb;have st:=st.grow (by have:=R1.below;rwa [R1.base]at this);have ht:=R1.slot 13 (by decide) (λh=>h);rw[hb]at ht;have tf:=ht.eE;clear ht bb hb hg R1 g S' H' fU;have fU:GI w1:=hG wB w1 tG st.below;show Code.wpIn _ _ _ _ _ a w1;refine ad1 (t:=ft s es) tf ?_
  have Vt:es.length<1000:=by omega
  have hf4:fs.length<100000:=by rw[adq]at hB;omega
  cases O_:ft s es with
  |true=>
   simp only[adJ];refine A4 hG st fU fr.size fr.defers fr.t3 fr.t4 Vt hf4 rfl rfl rfl rfl rfl rfl ⟨rfl,rfl,rfl⟩ ⟨rfl,rfl,rfl⟩ ⟨rfl,rfl,rfl⟩ ⟨rfl,rfl,rfl⟩ ⟨rfl,rfl,rfl⟩ ⟨rfl,rfl,rfl⟩ ⟨rfl,rfl⟩ ⟨rfl,rfl,rfl⟩ (by kernel_rfl) ?_;intro a' w' oe bq dZ _ hM nG;show Code.wpIn _ _ _ _ _ a' w';exact aeZ ⟨dZ,.tuple #[],by simp[results,results112],rfl,oe,hM,nG⟩
  |false=>
   simp only[adl,adz,adT];refine aer ?_;show Code.wpIn _ _ _ _ _ a w1;exact aeZ ⟨fr.defers,.tuple #[],by simp[results,results112],rfl,Mi,λ_ _ h=>h,st⟩
 .have fU:GI w:=hG wB w tG st.below
  have fr:AS bF bN cS cR n ((d+1:Nat):Int) { tmps:=#[.int .i64 n,.int .i64 ((d+1:Nat):Int),cS,.pointer (some ⟨bN,0,none⟩),.pointer (some ⟨bF,0,none⟩),cR]++Array.replicate (f112.ntmps-6) undef,defers:=[] }:=
   ⟨by simp[ntmps112],rfl,bV _ _ 0 (by simp),bV _ _ 1 (by simp),bV _ _ 2 (by simp),bV _ _ 3 (by simp),bV _ _ 4 (by simp),bV _ _ 5 (by simp)⟩
  rw[Dp,rm]at hB⊢
  have hd0:(((d+1:Nat):Int)==0)=false:=by rw[adW];omega
  generalize hmn:((d+1:Nat):Int)=mn at*
  refine adk (adk ?_);refine bJ hG cV (n:=50) (ac:=af.qa c112.qa) (W:=W6) (by kernel_rfl) (by kernel_rfl) (by kernel_rfl) fU (λ_ _=>True) (fB s es fv n mn .br) fr.size fr.defers (st.eW fr ⟨rfl,.br _⟩) (K:=λS' _=>S' 10=.bool false) ?_ ?_
  .simp[c112,af.qa,fB,hd0]
  rintro g S' H' a w1 hg R1 hb bb;have fr:=fr.step R1.size (by rw[R1.defers,hg]<;>rfl) bb;have st:=st.grow (by have:=R1.below;rwa [R1.base]at this);have ht:=R1.slot 10 (by decide) (λh=>h);rw[hb]at ht;have tf:=ht.eE;clear ht bb hb hg R1 g S' H' fU;have fU:GI w1:=hG wB w1 tG st.below;show Code.wpIn _ _ _ _ _ a w1;refine ad1 (t:=false) tf ?_;simp only[adl,adz];refine aer ?_;show Code.wpIn _ _ _ _ _ a w1;refine adk ?_;refine bJ hG cV (n:=50) (ac:=af.qa c112.qb) (W:=W6) (by kernel_rfl) (by kernel_rfl) (by kernel_rfl) fU (λ_ _=>True) (fB s es fv n mn .br) fr.size fr.defers (st.eW fr ⟨rfl,.br _⟩) (K:=λS' _=>S' 8=.int .i64 n) ?_ ?_
  .simp[c112,af.qa,af.qb,fB]
  rintro g S' H' a w2 hg R1 hb bb;have fr:=fr.step R1.size (by rw[R1.defers,hg]<;>rfl) bb;have st:=st.grow (by have:=R1.below;rwa [R1.base]at this);have ht:=R1.slot 8 (by decide) (λh=>h);rw[hb]at ht;have Xv:=ht.int_eq;clear ht bb hb hg R1 g S' H' fU tf;show Code.wpIn _ _ _ _ _ a w2
  refine aen (af4 (λa w=>∃(i:Nat)(Dy:List (List Int))(oe:Nat->Nat->Prop),AS bF bN cS cR n mn a/\a.tmps.getD 8 undef=.int .i64 (i:Nat)/\n<=i/\i<=s.name.words.length/\(∀b k,Mi b k->oe b k)/\Lv wB oe bF bN s cS cR fv Dy es w/\Dy++oL s d es i=fs++oL s d es n)
   (λa _=>match a.tmps.getD 8 undef with|.int _ i=>s.name.words.length-i.toNat|_=>0) ⟨n,fs,Mi,fr,Xv,adh _,hn,λ_ _ h=>h,st,rfl⟩ ?_)
  clear Xv;rintro a w3 ⟨i,Dy,oe,fr,h8,GU,cH,Vj,st,fE⟩;have fU:GI w3:=hG wB w3 tG st.below
  have LC:(AV.int .i64 (i:Int)).aG=.int .i64 (i:Int)/\RV (λ_ _=>True) cj w3 (.int .i64 (i:Int)) (a.tmps.getD 8 undef):=⟨rfl,by rw[h8];exact .data _ _ (.int _ _)⟩
  refine adk (adk ?_);refine bJ hG cV (n:=50) (ac:=af.qa oa.qa) (W:=W6) (by kernel_rfl) (by kernel_rfl) (by kernel_rfl) fU (λ_ _=>True) (fB s es fv n mn (.int .i64 (i:Int))) fr.size fr.defers (st.eW fr LC) (K:=λS' _=>S' 8=.int .i64 i/\S' 25=.bool (decide (i<s.name.words.length))) ?_ ?_
  .simp[c112,oa,af.qa,af.qb,fB,ao,ae]
  rintro g S' H' a4 w4 hg R1 ⟨q8,Zo⟩ bb;have fr:=fr.step R1.size (by rw[R1.defers,hg]<;>rfl) bb;have st:=st.grow (by have:=R1.below;rwa [R1.base]at this);have ht:=R1.slot 25 (by decide) (λh=>h);rw[Zo]at ht;have Q7:=ht.eE;have hu:=R1.slot 8 (by decide) (λh=>h);rw[q8]at hu;have M5:=hu.int_eq;clear ht hu bb q8 Zo hg R1 g S' H' fU LC;have fU:GI w4:=hG wB w4 tG st.below;show Code.wpIn _ _ _ _ _ a4 w4;refine ad1 (t:=decide (i<s.name.words.length)) Q7 ?_
  by_cases au:i<s.name.words.length
  case neg=>
   simp only[au,afG,adl,adz];refine afc ?_
   have Ir:i=s.name.words.length:=by omega
   rw[Ir,E2,adT]at fE;simp only[Exit.then,Exit.inBlock,adJ];rw[<-fE];exact⟨fr.defers,.tuple #[],by simp[results,results112],rfl,oe,Vj,st⟩
  simp only[au,afz,adJ];refine aer ?_;show Code.wpIn _ _ _ _ _ a4 w4;rw[CY s d es au]at fE
  have LC:(AV.int .i64 (i:Int)).aG=.int .i64 (i:Int)/\RV (λ_ _=>True) cj w4 (.int .i64 (i:Int)) (a4.tmps.getD 8 undef):=⟨rfl,by rw[M5];exact .data _ _ (.int _ _)⟩
  have vj:jG s.name i=s.name.words[i].free:=by simp[jG,hZ,au]
  have fin:∀ {Q:Exit→Act→World→Prop} {a5:Act} {w5:World} {Tz:List (List Int)} {Ur:Nat→Nat→Prop},AS bF bN cS cR n mn a5→a5.tmps.getD 8 undef = .int .i64 (i:Nat)→Lv wB Ur bF bN s cS cR fv Tz es w5 →
    (∀a6 w6,AS bF bN cS cR n mn a6->a6.tmps.getD 8 undef=.int .i64 ((i+1:Nat):Int)->Lv wB Ur bF bN s cS cR fv Tz es w6->Q .normal a6 w6)->∀(id:Nat)(ops:Array Oper),kY (.region id ops false)=true->d_ prog 50 (.region id ops false)=af.qb oa.qb->lY ops W6=true->(Code.region id ops false).wpIn (FR none) 0 prog Q a5 w5:=λ{Q a5 w5 Tz Ur} Bf T5 C' hQ id ops hc pU hW=>by
   have Yc:(AV.int .i64 (i:Int)).aG=.int .i64 (i:Int)/\RV (λ_ _=>True) cj w5 (.int .i64 (i:Int)) (a5.tmps.getD 8 undef):=⟨rfl,by rw[T5];exact .data _ _ (.int _ _)⟩
   refine bJ hG cV (n:=50) hc pU hW (hG wB w5 tG C'.below) (λ_ _=>True) (fB s es fv n mn (.int .i64 (i:Int))) Bf.size Bf.defers (C'.eW Bf Yc) (K:=λS' _=>S' 8=.int .i64 ((i+1:Nat):Int)) ?_ ?_
   .have oW:IntKind.i64.wrap ((i:Int)+1)=i+1:=aN (by omega);simp[c112,oa,af.qa,af.qb,fB,oW]
   intro g S' H' a6 w6 hg R1 Fw qt;have Xk:=R1.slot 8 (by decide) (λh=>h);rw[Fw]at Xk;exact hQ a6 w6 (Bf.step R1.size (by rw[R1.defers,hg]<;>rfl) qt) Xk.int_eq (C'.grow (by have:=R1.below;rwa [R1.base]at this))
  refine adk (aen (adk ?_));refine bJ hG cV (n:=50) (ac:=af.qa tq) (W:=W6) (by kernel_rfl) (by kernel_rfl) (by kernel_rfl) fU (λ_ _=>True) (fB s es fv n mn (.int .i64 (i:Int))) fr.size fr.defers (st.eW fr LC) (K:=λS' _=>S' 8=.int .i64 i/\S' 34=.bool (jG s.name i)) ?_ ?_
  .rw[vj];simp[c112,oa,tq,af.qa,af.qb,fB,ao,ae,au,bD]
  rintro g S' H' a5 w5 hg R1 ⟨q8,Xm⟩ bb;have fr:=fr.step R1.size (by rw[R1.defers,hg]<;>rfl) bb;have st:=st.grow (by have:=R1.below;rwa [R1.base]at this);have ht:=R1.slot 34 (by decide) (λh=>h);rw[Xm]at ht;have aac:=ht.eE;have hu:=R1.slot 8 (by decide) (λh=>h);rw[q8]at hu;have M5:=hu.int_eq;clear ht hu bb q8 Xm hg R1 g S' H' fU LC Q7;have fU:GI w5:=hG wB w5 tG st.below;show Code.wpIn _ _ _ _ _ a5 w5;refine ad1 (t:=jG s.name i) aac ?_
  cases qR:jG s.name i with
  |false=>
   simp only[adl,adz];refine aer ?_;simp only[Exit.then,Exit.inBlock];rw[qR]at fE;refine fin fr M5 st (λa6 w6 Di Fw Fu=>?_) _ _ (by kernel_rfl) (by kernel_rfl) (by kernel_rfl);refine⟨⟨i+1,Dy,oe,Di,Fw,by omega,by omega,Vj,Fu,by simpa using fE⟩,?_⟩;rw[Fw,h8];show s.name.words.length-((i+1:Nat):Int).toNat<s.name.words.length-(i:Int).toNat;rw[Int.toNat_natCast,Int.toNat_natCast];omega
  |true=>
   simp only[adJ];rw[qR]at fE
   have K9:es.length+1<s.name.words.length:=by omega
   obtain⟨u,tD,xF,v,wH,xN,f1,f2,f3,f4,n1,n2,n3,n4⟩:=st.st;obtain⟨i3,sh,mR⟩:=bp (P:=prog) (t:=3) (s:=1) (by kernel_rfl);obtain⟨i23,Gw,Dj⟩:=bp (P:=prog) (t:=23) (s:=1) (by kernel_rfl);have VI:(ints es).length=es.length:=cb es;refine adk ?_
   refine ug cV (n:=50) (ac:=af.qa wN) (by kernel_rfl) (by kernel_rfl) (by kernel_rfl) (W:=zM) (by kernel_rfl) (λ_ _=>False)
    (λt=>match t with|3=>.box 3 0|8=>.int .i64 (i:Int)|_=>.br) (nm:=3) (tp:=3) (es:=ints es) (es':=ints (es++[(i:Int)])) (by decide) rfl fr.t3 fr.size fr.defers n1 sh (by rw[mR,VI];exact n2) (by rw[mR];exact n3.mono (bl.same λ_ _ _ h=>h.elim)) ?_ ?_ (by rw[mR];exact qy _) (rR _) ?_
   .intro t ht;split
    .exact⟨rfl,.inl ⟨rfl,fr.t3⟩⟩
    .exact⟨rfl,.inr (by rw[M5];exact .data _ _ (.int _ _))⟩
    .exact⟨rfl,.inr (.br _)⟩
   .have pS:es.length+1<1048576:=by omega
    have Xa:ints (es++[(i:Int)])=ints es++[.int .i64 (i:Int)]:=by simp[ints]
    have cP:=lj es;have k1:aJ 1 [AV.int .i64 (i:Int)]=true:=rfl;rw[Xa]
    cases zI:v.ownBlock with
    |none=>
     have he:es=[]:=by
      rcases n2.2 with⟨_,h⟩|⟨gg,cap,cur,rfl,_⟩
      .exact adQ h
      .cases zI
     subst he;simp[c112,oa,tq,wN,af.qa,af.qb,ot,zI,k1,ints]
    |some bv=>
     simp[c112,oa,tq,wN,af.qa,af.qb,ot,zI,k1,cP,pS]
   intro a6 w6 v' FY xs6 ZG Kv qt hN6 EC Mc G6 KM;have Di:=fr.step ZG Kv (eL.weaken qt λt ht=>by simp[W6]at ht;simp[zM];omega);have Fw:a6.tmps.getD 8 undef=.int .i64 (i:Int):=(qt 8 rfl).trans M5;have Fu:Lv wB oe bF bN s cS cR fv Dy (es++[(i:Int)]) w6:=st.dE ⟨_,n1⟩ G6 hN6 (by rw[mR,cb]at EC;exact EC) (by rw[mR]at Mc;exact Mc) KM;clear KM G6 Mc EC hN6 n1 n2 n3 n4 f1 f2 f3 f4;show Code.wpIn _ _ _ _ _ a6 w6
   have Za:(AV.int .i64 (i:Int)).aG=.int .i64 (i:Int)/\RV (λ_ _=>True) cj w6 (.int .i64 (i:Int)) (a6.tmps.getD 8 undef):=⟨rfl,by rw[Fw];exact .data _ _ (.int _ _)⟩
   refine adk ?_;refine jz hG (n:=50) (p:=5) (l2:=[5]) rfl (by kernel_rfl) (by kernel_rfl) (l:=(wN.qb.qa.dl).take 5) (by kernel_rfl) (by decide) (W:=zM) (by kernel_rfl) (hG wB w6 tG Fu.below) (λ_ _=>True) (fB s (es++[(i:Int)]) fv n mn (.int .i64 (i:Int))) Di.size Di.defers (Fu.eW Di Za) (K:=λS' _=>S' 39=.val fv/\S' 41=.int .i64 ((i+1:Nat):Int)/\S' 43=.int .i64 (d:Nat)) ?_ ?_
   .have oW:IntKind.i64.wrap ((i:Int)+1)=i+1:=aN (by omega)
    have lE:IntKind.i64.wrap (mn-1)=d:=by rw[aN (by omega)];omega
    simp[c112,oa,tq,wN,af.qa,af.qb,af.dl,fB,oW,lE]
   rintro g S' H' a7 w7 hg R1 ⟨XA,q41,MN⟩ zH;have UP:=Di.step R1.size (by rw[R1.defers,hg]<;>rfl) (eL.weaken zH λt ht=>by simp[W6]at ht;simp[zM];omega);have st7:=Fu.grow (by have:=R1.below;rwa [R1.base]at this);have h87:a7.tmps.getD 8 undef=.int .i64 (i:Int):=(zH 8 rfl).trans Fw;have PC:=R1.slot 39 (by decide) (λh=>h);rw[XA]at PC;have PC:=PC.fG;have Oc:=R1.slot 41 (by decide) (λh=>h);rw[q41]at Oc;have Oc:=Oc.int_eq;have wX:=R1.slot 43 (by decide) (λh=>h);rw[MN]at wX;have wX:=wX.int_eq;clear R1 hg zH XA q41 MN
   have fV:cq s.name (es++[(i:Int)])=true:=by rw[zj ho (by rw[rm];exact GU) au K9];exact qR
   have TQ:(Dy++iw s d (es++[(i:Int)])).length<=1000:=by
    rw[<-fE]at hB;simp only[adJ,adq]at hB⊢;omega
   have fg:=ih (i+1) (es++[(i:Int)]) Dy oe w7 (by unfold dR;simp) (by omega) (by simp;omega) fV TQ st7;refine fH rfl rfl (by rfl) (f:=112) (args:=#[.int .i64 ((i+1:Nat):Int),.int .i64 (d:Nat),cS,.pointer (some ⟨bN,0,none⟩),.pointer (some ⟨bF,0,none⟩),cR]) (w':=w7) ?_ fg ?_
   .have k39:a7.eval (.tmp 39)=fv:=PC;have k41:a7.eval (.tmp 41)=.int .i64 ((i+1:Nat):Int):=Oc;have k43:a7.eval (.tmp 43)=.int .i64 (d:Nat):=wX;refine(uS (f:=.tmp 39) (x:=.tmp 41) (y:=.tmp 43) w7 rfl rfl rfl (k39.trans kM) (by kernel_rfl)).trans ?_;rw[k41,k43]
    rfl
   rintro en w8 ⟨rfl,YL,hM8,Xn⟩;refine⟨_,rfl,?_⟩;show wpOpsIn _ _ _ _ _ [] (a7.put (some 44) (.tuple #[])) w8
   obtain⟨a8,Of⟩:∃a8,a7.put (some 44) (.tuple #[])=a8:=⟨_,rfl⟩
   have Pe:eL zM a7 a8:=by rw[<-Of];exact eL.put (λt ht=>by cases ht;rfl) _
   have X2:a8.tmps.size=50:=by rw[<-Of];simp[Act.put,UP.size]
   have YD:a8.defers=[]:=by rw[<-Of];exact UP.defers
   rw[Of];have OM:=UP.step X2 YD (eL.weaken Pe λt ht=>by simp[W6]at ht;simp[zM];omega);have h88:a8.tmps.getD 8 undef=.int .i64 (i:Int):=(Pe 8 rfl).trans h87;show Code.wpIn _ _ _ _ _ a8 w8;obtain⟨u,tD,xF,v8,Y4,Qn,f1,f2,f3,f4,n1,n2,n3,n4⟩:=Xn.st
   have Rx:Qn.length=(es.length+1)*1:=by have:=n2.1;simpa using this
   refine adB ?_;show wpOpsIn _ _ _ _ _ [0,1,2,3,4,5] a8 w8
   refine GB (P:=prog) (n:=50) (T:=23) (el:=3) (p:=3) (t1:=45) (t2:=46) (t3:=47) (t4:=48) (t5:=49) (bN:=bN) (i:=i3) (iT:=i23) (v:=v8) (ty:=Y4) (k:=es.length) (xs:=Qn.take (es.length*1)) (last:=Qn.drop (es.length*1))
    rfl rfl rfl rfl rfl rfl ⟨rfl,rfl,rfl⟩ ⟨rfl,rfl,rfl⟩ ⟨rfl,rfl,rfl⟩ ⟨rfl,rfl,rfl⟩ ⟨rfl,rfl,rfl⟩ ⟨rfl,rfl,rfl⟩ rfl rfl rfl (by kernel_rfl) Gw Dj sh (by decide) OM.size (by decide) OM.t3 n1 (by rw[aeq,mR];simpa using n2) (by rw[mR,adM,Rx];omega) (by omega) ?_
   intro a9 v9 YT Zk Hd OX Xz FH
   have kC:∀b,b≠bN->(w8.setRow bN #[v9]).heap[b]?=w8.heap[b]?:=λb hb=>aec w8 bN b #[v9] hb
   have ZO:Lv wB YL bF bN s cS cR fv (Dy++iw s d (es++[(i:Int)])) es (w8.setRow bN #[v9]):=by
    refine Xn.dE ⟨_,n1⟩ ⟨rfl,rfl,rfl,by simp,λb _ hm=>kC b λe=>hm (.inl e)⟩ (aeJ w8 bN _ #[v9] Y4 (0,0) n1) (PK:=Qn.take (es.length*1)) (fK (by rw[mR]at FH;exact FH) λb hb=>kC b λe=>by rw[OX]at hb;have:=(n2.lt b hb).1;omega) ⟨qy es,λj hj k Ew=>?_⟩ λb hb=>.inl (by rw[<-OX];exact hb)
    have Ez:k=0:=by
     have:=(qy es _ (ada hj)).1;omega
    subst Ez
    have Bu:j<es.length:=by rw[cb]at hj;exact hj
    have dY:j<(ints (es++[(i:Int)])).length:=by rw[cb];simp;omega
    have iJ:(ints (es++[(i:Int)]))[j]=(ints es)[j]:=by
     simp only[ints,adD,adC,adO];exact adA (by simpa using Bu)
    obtain⟨x,x1,x2⟩:=n3.2 j dY 0 (by rw[iJ];exact Ew);refine⟨x,by rw[afh (by omega)];exact x1,?_⟩;simp only[iJ]at x2;exact x2.mono (bl.of_eq λ_ _ h=>h.elim)
   have Rd:eL zM a8 a9:=λt ht=>by
    have:t<35:=by simp[zM]at ht;omega
    exact Hd t (by omega) (by omega) (by omega) (by omega) (by omega)
   have fr9:=OM.step YT (Zk.trans OM.defers) (eL.weaken Rd λt ht=>by simp[W6]at ht;simp[zM];omega);have ou:a9.tmps.getD 8 undef=.int .i64 (i:Int):=(Rd 8 rfl).trans h88;clear FH kC;generalize w8.setRow bN #[v9]=w9 at ZO⊢;simp only[Exit.then,Exit.inBlock];refine fin fr9 ou ZO (λXp Iv XJ Sg XW=>?_) _ _ (by kernel_rfl) (by kernel_rfl) (by kernel_rfl);refine⟨⟨i+1,_,YL,XJ,Sg,by omega,by omega,λb k h=>hM8 b k (Vj b k h),XW,by rw[<-fE];simp⟩,?_⟩;rw[Sg,h8];show s.name.words.length-((i+1:Nat):Int).toNat<s.name.words.length-(i:Int).toNat;rw[Int.toNat_natCast,Int.toNat_natCast];omega
structure E3(bF bN bR:Nat)(cS:Value)(a:Act):Prop where
 size:a.tmps.size=32
 defers:a.defers=[]
 t1:a.tmps.getD 1 undef=cS
 t4:a.tmps.getD 4 undef=.pointer (some ⟨bF,0,none⟩)
 t5:a.tmps.getD 5 undef=.pointer (some ⟨bN,0,none⟩)
 t6:a.tmps.getD 6 undef=.pointer (some ⟨bR,0,none⟩)
def zY:Nat->Bool:=λt=>decide (7<=t)
def fa(s:az)(fs:List (List Int))(fv:Value)(CJ Cy x7:AV):av:=λt=>match t with
 |1=>.ref (ao s)
 |4=>.ref [.slice .view (fs.map vI)]
 |6=>.ref [.val fv]
 |7=>x7
 |15=>CJ
 |16=>Cy
 |_=>.br
section
variable{wB:World}{Mi:Nat->Nat->Prop}{bF bN bR:Nat}{s:az}{cS fv:Value}{fs:List (List Int)}{es:List Int}{w:World}{a:Act}
theorem E3.step{a':Act}(fr:E3 bF bN bR cS a)(bq:a'.tmps.size=32)(dZ:a'.defers=[])(h:eL zY a a'):E3 bF bN bR cS a':=
 ⟨bq,dZ,(h 1 rfl).trans fr.t1,(h 4 rfl).trans fr.t4,(h 5 rfl).trans fr.t5,(h 6 rfl).trans fr.t6⟩
theorem Lv.F5(st:Lv wB Mi bF bN s cS (.pointer (some ⟨bR,0,none⟩)) fv fs es w)(pr:Nat->Nat->Prop)(Pm:∀b k,wB.heap.size<=b->pr b k):RV pr cj w (.ref [.slice .view (fs.map vI)]) (.pointer (some ⟨bF,0,none⟩)):=by
 obtain⟨u,tD,xF,v,wH,xN,f1,f2,f3,f4,n1,n2,n3,n4⟩:=st.st;refine .data _ _ (.ref _ _ _ (λ_=>u) (λi hi=>?_) (λk hk=>⟨Pm _ _ st.ge.1,?_⟩) (λk hk=>?_))
 .have:i=0:=by simpa using hi
  subst this;rfl
 .have:k=0:=by simpa using hk
  subst this;simp[World.cell?,f1]
 .have:k=0:=by simpa using hk
  subst this
  exact RD.ofRow (size:=1) (es:=fs.map vI) (by rw[adi];exact f2) (f3.mono (bl.same λb k _ h=>Pm b k h.2)) λb hb k _=>Pm b k (by have:=(f2.lt b hb).1;have:=st.ge.1;omega)
theorem Lv.ig (st:Lv wB Mi bF bN s cS (.pointer (some ⟨bR,0,none⟩)) fv fs es w) (fr:E3 bF bN bR cS a) {CJ Cy x7:AV} (sn:CJ.aG=CJ∧RV (fun _ _=>True) cj w CJ (a.tmps.getD 15 undef)) (qI:Cy.aG=Cy∧RV (fun _ _=>True) cj w Cy (a.tmps.getD 16 undef)) (h7:x7.aG=x7∧RV (fun _ _=>True) cj w x7 (a.tmps.getD 7 undef)) :
  ∀t,t<32->(fa s fs fv CJ Cy x7 t).aG=fa s fs fv CJ Cy x7 t/\RV (λ_ _=>True) cj w (fa s fs fv CJ Cy x7 t) (a.tmps.getD t undef):=by
 intro t ht;unfold fa;split
 .rw[fr.t1];exact⟨rfl,st.s.mono (bl.same λ_ _ _ _=>trivial) λ_ _ h=>h⟩
 .rw[fr.t4];exact⟨rfl,st.F5 _ λ_ _ _=>trivial⟩
 .rw[fr.t6];exact⟨rfl,st.r.mono (bl.same λ_ _ _ _=>trivial) λ_ _ h=>h⟩
 .exact h7
 .exact sn
 .exact qI
 .exact⟨rfl,.br _⟩
end
theorem RD.bounded{A:Nat->Prop}{w:World}{es:List AV}{c:Value}(ID:∀x∈es,∀c∈x.cells,iC c=true)(h:RD (λb _=>A b) w (.slice .view es) c):∃hi:Nat->Nat,RD (λb k=>A b/\k<hi b) w (.slice .view es) c:=by
 cases h with
 |jU=>exact⟨λ_=>0,.jU _⟩
 |kV _ a=>exact⟨λ_=>0,.kV _ a⟩
 |slice _ _ b off cap size cs fF hn bq h1 hc hr=>
  exact⟨λ_=>off+es.length*size,.slice _ _ b off cap size cs fF hn bq h1 (λk hk=>⟨⟨(hc k hk).1,(by show off+k<off+es.length*size;omega)⟩,(hc k hk).2⟩) λi hi j hj=>(hr i hi j hj).iC (ID _ (ada hi) _ (ada hj))⟩
theorem Sc(hG:aw GI)(s:az)(hs:eZ s):AC prog GI 56 [a_ s] (.ret (.dN (vG s))):=by
 have lv:=oT hG s hs
 refine AC.iF func56 rfl ntmps56 (by simp) λcc w=>?_
 refine dU hG c56.qa (λS' H'=>S' 1=.box 1 0/\H' 1=some (ao s)) ?_ ?_
 .simp[c56,af.qa,a_,ao,ae]
 rintro S1 H1 ⟨s1,h1⟩;refine SW.scope ?_;show SW prog GI 32 none (.seq (.seq _ (.cond _ _ _)) _) _ _ _ _;refine SW.seq (dU hG (.ops [⟨some 8,none,.load .any true 15 (.t 1)⟩,⟨some 9,none,.call 77 [.t 8]⟩,⟨some 10,none,.not (.t 9)⟩]) (λS' H'=>S' 10=.bool (!cL s)/\S' 1=.box 1 0/\H' 1=some (ao s)) ?_ ?_)
 .simp[s1,h1,ao,ae];refine oc lv ?_;simp[s1,h1,ao,ae]
 clear s1 h1;rintro S2 H2 ⟨bL,s1,h1⟩;unfold vG
 cases hI:cL s with
 |false=>
  refine SW.cond rfl true (by show S2 10=_;rw[bL,hI]<;>rfl) ?_;show SW prog GI 32 none (.seq _ .ret) _ _ _ _;refine dU hG (.ops [⟨some 2,none,.mv true (.c (.slice .nil []))⟩,⟨some 3,none,.mv true (.c (.int .i64 2))⟩]) (λS' H'=>S' 2=.slice .nil []/\S' 3=.int .i64 2) (by simp) ?_;rintro S3 H3 ⟨s2,s3⟩;refine SW.ret ⟨eD.plain rfl,rfl,_,?_,rfl⟩;show cy prog 32 [.tmp 2,.tmp 3] S3 H3=_;simp[cy,cJ,cK,s2,s3,AV.bT,AV.out,AV.vw,AV.bH,vI,ints]
 |true=>
 have jA:=(eg (er hI).name).words;refine SW.cond rfl false (by show S2 10=_;rw[bL,hI]<;>rfl) (SW.skip ?_);show SW prog GI 32 none (.seq _ (.seq _ (.seq _ (.seq _ (.seq (.label 0) (.seq (.seq _ (.block _ _)) _)))))) _ _ _ _;simp only[adJ];intro w0 g a wB m cT ho R
 obtain⟨out,fV⟩:∃out,eP.ret (.dN (sH s))=out:=⟨_,rfl⟩
 rw[fV]
 have Io:Below w0.heap.size w0 wB:=by have:=R.below;rwa [R.base]at this
 have tG:GI wB:=hG w0 wB cT Io;have rS:=nQ R (by decide) s1 h1 (wY s)
 obtain⟨cS,Xw⟩:∃cS,a.tmps.getD 1 undef=cS:=⟨_,rfl⟩
 rw[Xw]at rS;have bq:=R.size
 have dZ:a.defers=[]:=by rw[R.defers,ho]<;>rfl
 have finish:∀ (aE:Act) (wE:World) (o2:Ow) (HJ:List AV) (e:Int) (eb:Nat→Nat),aE.tmps.size=32→aE.defers=[]→Below wB.heap.size wB wE→(AV.slice o2 HJ).aG = .slice o2 HJ→RD (fun b k=>(wB.heap.size≤b∧b < wE.heap.size)∧k < eb b) wE (.slice o2 HJ) (aE.tmps.getD 2 undef)→aE.tmps.getD 3 undef = .int .i64 e →
   eP.ret (.dN [.slice .view HJ,.int .i64 e])=out->QS prog w0 32 (IT prog 32 f56.results.toList out cc) .ret aE wE:=by
  intro aE wE o2 HJ e eb YN Yr Ex Yp ez h3 fV;have RG:=R.kS Ex
  have hle:g.base<=wB.heap.size:=by rw[R.base];exact Io.size
  have RC:=RG.nJ (G:=λb=>wB.heap.size<=b/\b<wE.heap.size) eb (λb hb=>by
   refine⟨⟨ael hle hb.1,(R.fresh b hb.1).1,(R.fresh b hb.1).2,λi hi=>?_⟩,hb.2,?_⟩
   .obtain⟨_,_,_,_,_,q3,_⟩:=R.box i b hi;have:=(ade.1 q3).1;omega
   .rw[ho]<;>rfl)
  have RE:=RC.Ia (a2:=aE) (S2:=λt=>if t=2 then .slice o2 HJ else if t=3 then .int .i64 e else .br) g.old rfl YN (by rw[ho];exact Yr) (by rw[ho];exact λ_ h=>by cases h) RC.still RC.grown (by rw[ho];exact λ_ _ h=>by cases h) (λt ht=>by
   by_cases h2:t=2
   .subst h2;simp only[adJ];refine⟨Yp,.data _ _ (ez.mono (bl.same λb k _ hp=>.inr ⟨ael hle hp.1.1,?_⟩))⟩;unfold Gh.nJ;simp only[if_pos hp.1];exact hp.2
   .by_cases QP:t=3
    .subst QP;simp only[if_neg h2,adJ];rw[h3];exact⟨rfl,.data _ _ (.int _ _)⟩
    .simp only[if_neg h2,if_neg QP]
     exact⟨rfl,.br _⟩)
  refine⟨_,_,_,RE,?_⟩;refine⟨by rw[ho];exact eD.plain rfl,by rw[ho]<;>rfl,_,?_,fV.symm⟩;show cy prog 32 [.tmp 2,.tmp 3] _ _=_;simp[cy,cJ,cK,AV.bT,AV.out,AV.vw,AV.bH]
 have eB:∀(a:Act)(d t:Nat)(c:Value),t≠d->(a.put (some d) c).tmps.getD t undef=a.tmps.getD t undef:=λa d t c h=>by
  simp[Act.put,adg (ad2 h)]
 have ir:∀(a:Act)(d:Nat)(c:Value),a.tmps.size=32->d<32->(a.put (some d) c).tmps.getD d undef=c:=λa d c h hd=>by
  simp[Act.put,h,hd]
 have jm:∀(a:Act)(d:Option Nat)(c:Value),(a.put d c).tmps.size=a.tmps.size:=λa d c=>by cases d<;>simp[Act.put]
 have pW:∀(a:Act)(d:Option Nat)(c:Value),(a.put d c).defers=a.defers:=λa d c=>by cases d<;>rfl
 obtain⟨bF,KP⟩:∃bF,wB.heap.size=bF:=⟨_,rfl⟩
 refine adk (adB ?_);show wpOpsIn _ _ _ _ _ [0] a wB;refine aV rfl rfl (by rfl) (jy (t:=141) (z:=.slice none 0 0) rfl (by kernel_rfl)) ?_;show Code.wpIn _ _ _ _ _ (a.put (some 4) (.pointer (some ⟨wB.heap.size,0,none⟩))) (wB.alloc (.cells #[.slice none 0 0] 141))
 obtain⟨a2,im⟩:∃a2,a.put (some 4) (.pointer (some ⟨wB.heap.size,0,none⟩))=a2:=⟨_,rfl⟩
 obtain⟨w2,gD⟩:∃w2,wB.alloc (.cells #[.slice none 0 0] 141)=w2:=⟨_,rfl⟩
 have Ge:w2.heap.size=bF+1:=by rw[<-gD,<-KP];simp
 have Q4:w2.heap[bF]?=some (.cells #[.slice none 0 0] 141 (0,0)):=by rw[<-gD,<-KP];exact ad4 wB _
 have Ri:Below bF wB w2:=by rw[<-gD,<-KP];exact(aeb _ _).alloc (adh _) _
 rw[im,gD];refine adk (adB ?_);show wpOpsIn _ _ _ _ _ [0] a2 w2;refine aV rfl rfl (by rfl) (jy (t:=23) (z:=.slice none 0 0) rfl (by kernel_rfl)) ?_;show Code.wpIn _ _ _ _ _ (a2.put (some 5) (.pointer (some ⟨w2.heap.size,0,none⟩))) (w2.alloc (.cells #[.slice none 0 0] 23))
 obtain⟨a3,qM⟩:∃a3,a2.put (some 5) (.pointer (some ⟨w2.heap.size,0,none⟩))=a3:=⟨_,rfl⟩
 obtain⟨w3,om⟩:∃w3,w2.alloc (.cells #[.slice none 0 0] 23)=w3:=⟨_,rfl⟩
 have uY:w3.heap.size=bF+2:=by rw[<-om];simp[Ge]
 have GW:w3.heap[bF+1]?=some (.cells #[.slice none 0 0] 23 (0,0)):=by rw[<-om,<-Ge];exact ad4 w2 _
 have Cf:Below (bF+1) w2 w3:=by rw[<-om,<-Ge];exact(aeb _ _).alloc (adh _) _
 rw[qM,om];refine adk (adB ?_);show wpOpsIn _ _ _ _ _ [0] a3 w3;refine aV rfl rfl (by rfl) (jy (t:=142) (z:=.nilFunc) rfl (by kernel_rfl)) ?_;show Code.wpIn _ _ _ _ _ (a3.put (some 6) (.pointer (some ⟨w3.heap.size,0,none⟩))) (w3.alloc (.cells #[.nilFunc] 142))
 obtain⟨a4,ku⟩:∃a4,a3.put (some 6) (.pointer (some ⟨w3.heap.size,0,none⟩))=a4:=⟨_,rfl⟩
 obtain⟨w4,jA⟩:∃w4,w3.alloc (.cells #[.nilFunc] 142)=w4:=⟨_,rfl⟩
 have GZ:w4.heap.size=bF+3:=by rw[<-jA];simp[uY]
 have zb:w4.heap[bF+2]?=some (.cells #[.nilFunc] 142 (0,0)):=by rw[<-jA,<-uY];exact ad4 w3 _
 have wS:Below (bF+2) w3 w4:=by rw[<-jA,<-uY];exact(aeb _ _).alloc (adh _) _
 rw[ku,jA]
 have z2:a2.tmps.size=32:=by rw[<-im,jm];exact bq
 have z3:a3.tmps.size=32:=by rw[<-qM,jm];exact z2
 have z4:a4.tmps.size=32:=by rw[<-ku,jm];exact z3
 have u1:a4.tmps.getD 1 undef=cS:=by rw[<-ku,eB _ _ _ _ (by decide),<-qM,eB _ _ _ _ (by decide),<-im,eB _ _ _ _ (by decide),Xw]
 have u4:a4.tmps.getD 4 undef=.pointer (some ⟨bF,0,none⟩):=by rw[<-ku,eB _ _ _ _ (by decide),<-qM,eB _ _ _ _ (by decide),<-im,ir _ _ _ bq (by decide),KP]
 have u5:a4.tmps.getD 5 undef=.pointer (some ⟨bF+1,0,none⟩):=by rw[<-ku,eB _ _ _ _ (by decide),<-qM,ir _ _ _ z2 (by decide),Ge]
 have u6:a4.tmps.getD 6 undef=.pointer (some ⟨bF+2,0,none⟩):=by rw[<-ku,ir _ _ _ z3 (by decide),uY]
 have d4:a4.defers=[]:=by rw[<-ku,pW,<-qM,pW,<-im,pW];exact dZ
 refine adk (adB ?_);show wpOpsIn _ _ _ _ _ [0,1] a4 w4;refine aV rfl rfl (by rfl) (lP (fn:=.func 112) (c:=#[.tmp 1,.tmp 5,.tmp 4,.tmp 6]) rfl) ?_
 have fF:(#[Operand.tmp 1,.tmp 5,.tmp 4,.tmp 6].map a4.eval)=#[cS,.pointer (some ⟨bF+1,0,none⟩),.pointer (some ⟨bF,0,none⟩),.pointer (some ⟨bF+2,0,none⟩)]:=by
  simp only[adK,adC,adO,Act.eval];rw[u1,u4,u5,u6]
 rw[fF]
 obtain⟨fv,kM⟩:∃fv:Value,fv=.func (.func 112) #[] #[cS,.pointer (some ⟨bF+1,0,none⟩),.pointer (some ⟨bF,0,none⟩),.pointer (some ⟨bF+2,0,none⟩)]:=⟨_,rfl⟩
 rw[<-kM]
 obtain⟨a5,o9⟩:∃a5,a4.put (some 11) fv=a5:=⟨_,rfl⟩
 show wpOpsIn _ _ _ _ _ [1] (a4.put (some 11) fv) w4;rw[o9]
 have z5:a5.tmps.size=32:=by rw[<-o9,jm];exact z4
 have O4:a5.tmps.getD 11 undef=fv:=by rw[<-o9];exact ir _ _ _ z4 (by decide)
 have v1:a5.tmps.getD 1 undef=cS:=by rw[<-o9,eB _ _ _ _ (by decide)];exact u1
 have v4:a5.tmps.getD 4 undef=.pointer (some ⟨bF,0,none⟩):=by rw[<-o9,eB _ _ _ _ (by decide)];exact u4
 have v5:a5.tmps.getD 5 undef=.pointer (some ⟨bF+1,0,none⟩):=by rw[<-o9,eB _ _ _ _ (by decide)];exact u5
 have v6:a5.tmps.getD 6 undef=.pointer (some ⟨bF+2,0,none⟩):=by rw[<-o9,eB _ _ _ _ (by decide)];exact u6
 have d5:a5.defers=[]:=by rw[<-o9,pW];exact d4
 obtain⟨i142,SG,Vb⟩:=bp (P:=prog) (t:=142) (s:=1) (by kernel_rfl);refine dM rfl rfl (by rfl) (gr (x:=.tmp 6) (y:=.tmp 11) rfl v6 SG Vb zb O4 (by rw[kM]<;>rfl)) ?_;show Code.wpIn _ _ _ _ _ (a5.put none undef) (w4.setRow (bF+2) #[fv])
 have fr:E3 bF (bF+1) (bF+2) cS (a5.put none undef):=⟨z5,d5,v1,v4,v5,v6⟩
 have kC:∀b,b≠bF+2->(w4.setRow (bF+2) #[fv]).heap[b]?=w4.heap[b]?:=λb hb=>aec w4 (bF+2) b #[fv] hb
 have yX:(w4.setRow (bF+2) #[fv]).heap.size=bF+3:=by simp[GZ]
 have Yi:Below bF wB w4:=Ri.trans ((Cf.mono (by omega)).trans (wS.mono (by omega)));have E_:Below bF wB (w4.setRow (bF+2) #[fv]):=Yi.trans ⟨rfl,rfl,rfl,by rw[yX,GZ];exact adh _,λk hk=>kC k (by omega)⟩
 have st:Lv wB (λb k=>(b<bF/\fy g true b k)\/(b=bF+2/\k=0)) bF (bF+1) s cS (.pointer (some ⟨bF+2,0,none⟩)) fv [] [] (w4.setRow (bF+2) #[fv]):=by
  refine⟨by rw[KP];exact E_,⟨by omega,by omega,by omega⟩,?_,?_,?_,⟨.slice none 0 0,141,[],.slice none 0 0,23,[],?_,⟨rfl,.inl ⟨rfl,rfl⟩⟩,⟨λx hx=>by simp at hx,λj hj=>by simp at hj⟩,(λb hb=>by cases hb),?_,⟨rfl,.inl ⟨rfl,rfl⟩⟩,⟨λx hx=>by simp[ints]at hx,λj hj=>by simp[ints]at hj⟩,(λb hb=>by cases hb)⟩,?_,?_⟩
  .rintro b k (h|h)
   .rw[yX];omega
   .rw[yX];omega
  .rintro k (h|h)<;>omega
  .rintro k (h|h)<;>omega
  .rw[kC _ (by omega),wS.block _ (by omega),Cf.block _ (by omega)];exact Q4
  .rw[kC _ (by omega),wS.block _ (by omega)];exact GW
  .have rS':RV (λb k=>b<bF/\fy g true b k) cj wB (.ref (ao s)) cS:=rS.mono (bl.same λb k hb h=>⟨by omega,h⟩) λ_ _ h=>h
   exact rS'.mono (bl.of_eq λb k h=>⟨.inl h,E_.block b h.1⟩) λ_ _ h=>h
  .refine .data _ _ (.ref _ _ _ (λ_=>fv) (λi hi=>?_) (λk hk=>⟨.inr ⟨rfl,(by have h0:k<1:=hk;omega)⟩,?_⟩) (λk hk=>?_))
   .have:i=0:=by simpa using hi
    subst this;rfl
   .have:k=0:=by simpa using hk
    subst this;have:=aeJ w4 (bF+2) _ #[fv] 142 (0,0) zb;simp[World.cell?,this]
   .have:k=0:=by simpa using hk
    subst this;exact .val _ (by rw[kM]<;>rfl)
 clear kC yX E_ Yi wS zb Cf GW Ri Q4;generalize w4.setRow (bF+2) #[fv]=w5 at st⊢;generalize a5.put none undef=a6 at fr⊢;generalize(λb k=>(b<bF/\fy g true b k)\/(b=bF+2/\k=0))=Mi at st;clear v1 v4 v5 v6 d5 z5 O4 o9 fF u1 u4 u5 u6 d4 z4 z3 z2
 have gi:∀{w:World},Below wB.heap.size wB w->GI w:=λh=>hG wB _ tG h
 have jk:∀(a:Act)(w:World)(t:Nat),(AV.br).aG=AV.br/\RV (λ_ _=>True) cj w AV.br (a.tmps.getD t undef):=λa w t=>⟨rfl,.br _⟩
 have iv:∀(a:Act)(w:World)(t:Nat)(k:Int),a.tmps.getD t undef=.int .i64 k->(AV.int .i64 k).aG=.int .i64 k/\RV (λ_ _=>True) cj w (.int .i64 k) (a.tmps.getD t undef):=λa w t k h=>⟨rfl,by rw[h];exact .data _ _ (.int _ _)⟩
 have yA:∀{w w':World}{g:Gh}{S:av}{H:aD}{a':Act},Rel prog w 32 cm g S H a' w'->Below w.heap.size w w':=λR=>by have:=R.below;rwa [R.base]at this
 show Code.wpIn _ _ _ _ _ a6 w5;refine adk (wpIn_label ?_);show Code.wpIn _ _ _ _ _ a6 w5;refine adk (adk ?_);refine bJ hG cV (n:=32) (ac:=.ops [⟨some 12,none,.fieldAddr 5 (.t 1)⟩,⟨some 13,none,.fieldAddr 7 (.t 12)⟩,⟨some 14,none,.load .any false 1 (.t 13)⟩,⟨some 15,none,.j6 (.t 14)⟩,⟨some 16,none,.mv false (.c (.int .i64 0))⟩]) (W:=zY) (by kernel_rfl) (by kernel_rfl) (by kernel_rfl) (gi st.below) (λ_ _=>True) (fa s [] fv .br .br .br) fr.size fr.defers (st.ig fr (jk _ _ _) (jk _ _ _) (jk _ _ _)) (K:=λS' _=>S' 15=.int .i64 (s.name.words.length:Nat)/\S' 16=.int .i64 ((0:Nat):Int)) ?_ ?_
 .simp[fa,ao,ae]
 rintro g1 S1 H1 a7 w7 kB R1 ⟨qP,qJ⟩ bb;have fr:=fr.step R1.size (by rw[R1.defers,kB]<;>rfl) bb;have st:=st.grow (yA R1);have Ba:=R1.slot 15 (by decide) id;rw[qP]at Ba;have Ba:=Ba.int_eq;have yw:=R1.slot 16 (by decide) id;rw[qJ]at yw;have yw:=yw.int_eq;clear R1 kB bb qP qJ;show Code.wpIn _ _ _ _ _ a7 w7
 refine aen (af4 (λa w=>∃(k:Nat)(oe:Nat->Nat->Prop),E3 bF (bF+1) (bF+2) cS a/\a.tmps.getD 15 undef=.int .i64 (s.name.words.length:Nat)/\a.tmps.getD 16 undef=.int .i64 (k:Nat)/\k<=s.name.words.length/\(∀j,j<k->iw s j []=[])/\Lv wB oe bF (bF+1) s cS (.pointer (some ⟨bF+2,0,none⟩)) fv [] [] w)
  (λa _=>match a.tmps.getD 16 undef with|.int _ i=>s.name.words.length-i.toNat|_=>0) ⟨0,Mi,fr,Ba,yw,adZ _,λj hj=>by omega,st⟩ ?_)
 clear Ba yw fr st;rintro a8 w8 ⟨k,oe,fr,Ba,yw,hk,ji,st⟩;refine adk ?_;refine bJ hG cV (n:=32) (ac:=.ops [⟨some 17,none,.bin .lss (.t 16) (.t 15)⟩]) (W:=zY) (by kernel_rfl) (by kernel_rfl) (by kernel_rfl) (gi st.below) (λ_ _=>True) (fa s [] fv (.int .i64 (s.name.words.length:Nat)) (.int .i64 (k:Nat)) .br) fr.size fr.defers (st.ig fr (iv _ _ _ _ Ba) (iv _ _ _ _ yw) (jk _ _ _)) (K:=λS' _=>S' 15=.int .i64 (s.name.words.length:Nat)/\S' 16=.int .i64 (k:Nat)/\S' 17=.bool (decide (k<s.name.words.length))) ?_ ?_
 .simp[fa]
 rintro g1 S1 H1 a9 w9 kB R1 ⟨qP,qJ,Zf⟩ bb;have fr:=fr.step R1.size (by rw[R1.defers,kB]<;>rfl) bb;have st:=st.grow (yA R1);have Cx:=R1.slot 15 (by decide) id;rw[qP]at Cx;have Cx:=Cx.int_eq;have BM:=R1.slot 16 (by decide) id;rw[qJ]at BM;have BM:=BM.int_eq;have Lo:=R1.slot 17 (by decide) id;rw[Zf]at Lo;have Lo:=Lo.eE;clear R1 kB bb qP qJ Zf;show Code.wpIn _ _ _ _ _ a9 w9;refine adk (ad1 (t:=decide (k<s.name.words.length)) Lo ?_)
 by_cases au:k<s.name.words.length
 case neg=>
  simp only[au,afG,adl,adz];refine afc ?_
  have UC:k=s.name.words.length:=by omega
  subst UC;simp only[Exit.then,Exit.inBlock,adJ]
  have Fv:kG s=none:=by rw[uk];exact EI _ ji
  show Code.wpIn _ _ _ _ _ a9 w9;refine adk (adk ?_);refine bJ hG cV (n:=32) (ac:=.ops [⟨some 26,none,.load .any false 1 (.t 4)⟩,⟨some 27,none,.j6 (.t 26)⟩,⟨some 28,none,.bin .eql (.t 27) (.c (.int .i64 0))⟩]) (W:=zY) (by kernel_rfl) (by kernel_rfl) (by kernel_rfl) (gi st.below) (λ_ _=>True) (fa s [] fv .br .br .br) fr.size fr.defers (st.ig fr (jk _ _ _) (jk _ _ _) (jk _ _ _)) (K:=λS' _=>S' 28=.bool true) ?_ ?_
  .simp[fa]
  rintro g1 S1 H1 aA wA kB R1 BI bb;have fr:=fr.step R1.size (by rw[R1.defers,kB]<;>rfl) bb;have st:=st.grow (yA R1);have rK:=R1.slot 28 (by decide) id;rw[BI]at rK;have rK:=rK.eE;show Code.wpIn _ _ _ _ _ aA wA;refine ad1 (t:=true) rK ?_;simp only[adJ];refine adk ?_;refine bJ hG cV (n:=32) (ac:=.ops [⟨some 2,none,.mv true (.c (.slice .nil []))⟩,⟨some 3,none,.mv true (.c (.int .i64 5))⟩]) (W:=λ_=>true) (by kernel_rfl) (by kernel_rfl) (by kernel_rfl) (gi st.below) (λ_ _=>True) (fa s [] fv .br .br .br) fr.size fr.defers (st.ig fr (jk _ _ _) (jk _ _ _) (jk _ _ _)) (K:=λS' _=>S' 2=.slice .nil []/\S' 3=.int .i64 5) ?_ ?_
  .simp[fa]
  rintro g2 S2 H2 aB L8 me R2 ⟨q2,q3⟩ _;have e2:=R2.slot 2 (by decide) id;rw[q2]at e2;have e3:=R2.slot 3 (by decide) id;rw[q3]at e3;refine aeZ (finish aB L8 .view [] 5 (λ_=>0) R2.size (by rw[R2.defers,me]<;>rfl) (st.grow (yA R2)).below rfl (e2.fj rfl).Gr e3.int_eq ?_);rw[<-fV];unfold sH
  rw[Fv]<;>rfl
 simp only[au,afz,adJ];refine aer ?_;show Code.wpIn _ _ _ _ _ a9 w9;refine adk (aen ?_);refine adk ?_;refine bJ hG cV (n:=32) (ac:=.ops [⟨some 18,none,.mv false (.t 16)⟩,⟨some 7,none,.mv true (.t 18)⟩]) (W:=zY) (by kernel_rfl) (by kernel_rfl) (by kernel_rfl) (gi st.below) (λ_ _=>True) (fa s [] fv (.int .i64 (s.name.words.length:Nat)) (.int .i64 (k:Nat)) .br) fr.size fr.defers (st.ig fr (iv _ _ _ _ Cx) (iv _ _ _ _ BM) (jk _ _ _)) (K:=λS' _=>S' 15=.int .i64 (s.name.words.length:Nat)/\S' 16=.int .i64 (k:Nat)/\S' 7=.int .i64 (k:Nat)) ?_ ?_
 .simp[fa]
 rintro g1 S1 H1 Xp Iv kB R1 ⟨qP,qJ,q7⟩ bb;have fr:=fr.step R1.size (by rw[R1.defers,kB]<;>rfl) bb;have st:=st.grow (yA R1);have f15:=R1.slot 15 (by decide) id;rw[qP]at f15;have f15:=f15.int_eq;have f16:=R1.slot 16 (by decide) id;rw[qJ]at f16;have f16:=f16.int_eq;have f7:=R1.slot 7 (by decide) id;rw[q7]at f7;have f7:=f7.int_eq;clear R1 kB bb qP qJ q7 Cx BM Lo;show Code.wpIn _ _ _ _ _ Xp Iv;refine adk ?_;refine jz hG (n:=32) (p:=2) (l2:=[2]) rfl (by kernel_rfl) (by kernel_rfl) (l:=[⟨some 19,none,.load .any false 1 (.t 6)⟩,⟨some 20,none,.mv false (.t 7)⟩]) (by kernel_rfl) (by decide) (W:=zY) (by kernel_rfl) (gi st.below) (λ_ _=>True) (fa s [] fv (.int .i64 (s.name.words.length:Nat)) (.int .i64 (k:Nat)) (.int .i64 (k:Nat))) fr.size fr.defers (st.ig fr (iv _ _ _ _ f15) (iv _ _ _ _ f16) (iv _ _ _ _ f7)) (K:=λS' _=>S' 15=.int .i64 (s.name.words.length:Nat)/\S' 16=.int .i64 (k:Nat)/\S' 19=.val fv/\S' 20=.int .i64 (k:Nat)) ?_ ?_
 .simp[fa]
 rintro g1 S1 H1 Ou TE kB R1 ⟨qP,qJ,Ya,J7⟩ bb;have fr:=fr.step R1.size (by rw[R1.defers,kB]<;>rfl) bb;have st:=st.grow (yA R1);have sn:=R1.slot 15 (by decide) id;rw[qP]at sn;have sn:=sn.int_eq;have qI:=R1.slot 16 (by decide) id;rw[qJ]at qI;have qI:=qI.int_eq;have BR:=R1.slot 19 (by decide) id;rw[Ya]at BR;have BR:=BR.fG;have ER:=R1.slot 20 (by decide) id;rw[J7]at ER;have ER:=ER.int_eq;clear R1 kB bb qP qJ Ya J7 f15 f16 f7;have xD:=Ey (by omega) (d:=k) (by omega) ([]:List Int) (s:=s);have fg:=L4 hG tG hs hI kM k 0 [] [] oe TE rfl (adZ _) (by simpa using au) (DD (by omega)) (by simp;omega) st;refine fH rfl rfl (by rfl) (f:=112) (args:=#[.int .i64 ((0:Nat):Int),.int .i64 (k:Nat),cS,.pointer (some ⟨bF+1,0,none⟩),.pointer (some ⟨bF,0,none⟩),.pointer (some ⟨bF+2,0,none⟩)]) (w':=TE) ?_ fg ?_
 .have k19:Ou.eval (.tmp 19)=fv:=BR;have WX:Ou.eval (.tmp 20)=.int .i64 (k:Nat):=ER;refine(uS (f:=.tmp 19) (x:=.const (.int .i64 0)) (y:=.tmp 20) TE rfl rfl rfl (k19.trans kM) (by kernel_rfl)).trans ?_;rw[WX]
  rfl
 rintro en w12 ⟨rfl,Mi2,hM2,st⟩;rw[List.nil_append]at st;refine⟨_,rfl,?_⟩;show Code.wpIn _ _ _ _ _ (Ou.put (some 21) (.tuple #[])) w12
 obtain⟨a12,wK⟩:∃a12,Ou.put (some 21) (.tuple #[])=a12:=⟨_,rfl⟩
 have fr:E3 bF (bF+1) (bF+2) cS a12:=fr.step (by rw[<-wK,jm];exact fr.size) (by rw[<-wK,pW];exact fr.defers) (by rw[<-wK];exact eL.put (λt ht=>by cases ht;rfl) _)
 have i15:a12.tmps.getD 15 undef=.int .i64 (s.name.words.length:Nat):=by rw[<-wK,eB _ _ _ _ (by decide)];exact sn
 have i16:a12.tmps.getD 16 undef=.int .i64 (k:Nat):=by rw[<-wK,eB _ _ _ _ (by decide)];exact qI
 rw[wK];clear wK sn qI BR ER;refine adk ?_;refine bJ hG cV (n:=32) (ac:=.ops [⟨some 22,none,.load .any false 1 (.t 4)⟩,⟨some 23,none,.j6 (.t 22)⟩,⟨some 24,none,.bin .gtr (.t 23) (.c (.int .i64 0))⟩]) (W:=zY) (by kernel_rfl) (by kernel_rfl) (by kernel_rfl) (gi st.below) (λ_ _=>True) (fa s (iw s k []) fv (.int .i64 (s.name.words.length:Nat)) (.int .i64 (k:Nat)) .br) fr.size fr.defers (st.ig fr (iv _ _ _ _ i15) (iv _ _ _ _ i16) (jk _ _ _)) (K:=λS' _=>S' 15=.int .i64 (s.name.words.length:Nat)/\S' 16=.int .i64 (k:Nat)/\S' 24=.bool (decide (0<(iw s k []).length))) ?_ ?_
 .simp[fa]
 rintro g1 S1 H1 UI Vw kB R1 ⟨qP,qJ,Y7⟩ bb;have fr:=fr.step R1.size (by rw[R1.defers,kB]<;>rfl) bb;have st:=st.grow (yA R1);have sn:=R1.slot 15 (by decide) id;rw[qP]at sn;have sn:=sn.int_eq;have qI:=R1.slot 16 (by decide) id;rw[qJ]at qI;have qI:=qI.int_eq;have Hp:=R1.slot 24 (by decide) id;rw[Y7]at Hp;have Hp:=Hp.eE;clear R1 kB bb qP qJ Y7 i15 i16;show Code.wpIn _ _ _ _ _ UI Vw;refine ad1 (t:=decide (0<(iw s k []).length)) Hp ?_
 cases hL:iw s k []with
 |nil=>
  rw[hL]at st;simp only[List.length_nil,agl,afG,adl,adz];refine aer ?_;simp only[Exit.then,Exit.inBlock];show Code.wpIn _ _ _ _ _ UI Vw;refine bJ hG cV (n:=32) (ac:=.ops [⟨some 25,none,.bin .add (.t 16) (.c (.int .i64 1))⟩,⟨some 16,none,.mv false (.t 25)⟩]) (W:=zY) (by kernel_rfl) (by kernel_rfl) (by kernel_rfl) (gi st.below) (λ_ _=>True) (fa s [] fv (.int .i64 (s.name.words.length:Nat)) (.int .i64 (k:Nat)) .br) fr.size fr.defers (st.ig fr (iv _ _ _ _ sn) (iv _ _ _ _ qI) (jk _ _ _)) (K:=λS' _=>S' 15=.int .i64 (s.name.words.length:Nat)/\S' 16=.int .i64 ((k+1:Nat):Int)) ?_ ?_
  .have oW:IntKind.i64.wrap ((k:Int)+1)=k+1:=aN (by omega);simp[fa,oW]
  rintro g1 S1 H1 a14 w14 kB R1 ⟨qP,qJ⟩ bb;have fr:=fr.step R1.size (by rw[R1.defers,kB]<;>rfl) bb;have st:=st.grow (yA R1);have Pv:=R1.slot 15 (by decide) id;rw[qP]at Pv;have Pv:=Pv.int_eq;have LX:=R1.slot 16 (by decide) id;rw[qJ]at LX;have LX:=LX.int_eq;refine⟨⟨k+1,Mi2,fr,Pv,LX,by omega,λj hj=>?_,st⟩,?_⟩
  .by_cases e:j=k
   .subst e;exact hL
   .exact ji j (by omega)
  .rw[LX,yw];show s.name.words.length-((k+1:Nat):Int).toNat<s.name.words.length-(k:Int).toNat;rw[Int.toNat_natCast,Int.toNat_natCast];omega
 |cons x l=>
  have Vh:kG s=some x:=by rw[uk];exact FE _ au ji hL
  rw[hL]at st;simp only[List.length_cons,Nat.zero_lt_succ,afz,adJ];refine afc ?_;simp only[Exit.then,Exit.inBlock];show Code.wpIn _ _ _ _ _ UI Vw;refine adk (adk ?_);refine bJ hG cV (n:=32) (ac:=.ops [⟨some 26,none,.load .any false 1 (.t 4)⟩,⟨some 27,none,.j6 (.t 26)⟩,⟨some 28,none,.bin .eql (.t 27) (.c (.int .i64 0))⟩]) (W:=zY) (by kernel_rfl) (by kernel_rfl) (by kernel_rfl) (gi st.below) (λ_ _=>True) (fa s (x::l) fv .br .br .br) fr.size fr.defers (st.ig fr (jk _ _ _) (jk _ _ _) (jk _ _ _)) (K:=λS' _=>S' 28=.bool false) ?_ ?_
  .have cI:((l.length:Int)+1==0)=false:=by rw[adW];omega
   simp[fa,cI]
   try omega
  rintro g1 S1 H1 aA wA kB R1 BI bb;have fr:=fr.step R1.size (by rw[R1.defers,kB]<;>rfl) bb;have st:=st.grow (yA R1);have rK:=R1.slot 28 (by decide) id;rw[BI]at rK;have rK:=rK.eE;show Code.wpIn _ _ _ _ _ aA wA;refine ad1 (t:=false) rK ?_;simp only[adl,adz];refine aer ?_;show Code.wpIn _ _ _ _ _ aA wA;refine adk ?_
  refine bJ hG cV (n:=32) (ac:=.ops [⟨some 29,none,.load .any false 1 (.t 4)⟩,⟨some 30,none,.indexAddr 1 (.t 29) (.c (.int .i64 0))⟩,⟨some 31,none,.load .any false 1 (.t 30)⟩,⟨some 2,none,.mv true (.t 31)⟩,⟨some 3,none,.mv true (.c (.int .i64 0))⟩]) (W:=λ_=>true) (by kernel_rfl) (by kernel_rfl) (by kernel_rfl) (gi st.below) (λb _=>wB.heap.size<=b)
   (λt=>match t with|4=>.ref [.slice .view ((x::l).map vI)]|_=>.br) fr.size fr.defers ?_ (K:=λS' _=>S' 2=.slice .view (ints x)/\S' 3=.int .i64 0) ?_ ?_
  .intro t ht;split
   .rw[fr.t4];exact⟨rfl,st.F5 _ λb k h=>h⟩
   .exact⟨rfl,.br _⟩
  .simp
  rintro g2 S2 H2 aB L8 me R2 ⟨q2,q3⟩ _;have e2:=R2.slot 2 (by decide) id;rw[q2]at e2;have e3:=R2.slot 3 (by decide) id;rw[q3]at e3;have qG:=yA R2
  have r2:RD (λb _=>wB.heap.size<=b/\b<L8.heap.size) L8 (.slice .view (ints x)) (aB.tmps.getD 2 undef):=(e2.fj rfl).mono (bl.same λb k hb hp=>by
   rcases hp with⟨_,h⟩|⟨h,_⟩
   .rw[me]at h;exact⟨h,hb⟩
   .rw[R2.base]at h;have:=st.below.size
    exact⟨by omega,hb⟩)
  obtain⟨eb,r3⟩:=RD.bounded (rR x) r2;refine aeZ (finish aB L8 .view (ints x) 0 eb R2.size (by rw[R2.defers,me]<;>rfl) (st.grow qG).below rfl r3 e3.int_eq ?_);rw[<-fV];unfold sH
  rw[Vh]<;>rfl
end Go.Proofs.Tryz
namespace Go.Proofs.Tryz
open Go Go.AL Go.RowKit Go.Proofs Go.Proofs.Tram
variable{GI:World->Prop}
theorem KN(s:aq)(out:List Int):∀n,n<=s.words.length->wQ s out n=fL out 0 (s.words.take n)
 |0,_=>by simp[wQ,rL,fL]
 |n+1,h=>by rw[Sj (by omega),tw out (by omega),KN s out n (by omega)]
theorem PA(s:aq)(out:List Int):tg s out=kQ s out:=by
 unfold tg kQ;rw[KN s out _ (adh _),adn (adh _)]
theorem Ea:∀(l:List Word)(k:Nat),fL [] k l=l
 |[],_=>rfl
 |w::l,k=>by
  unfold fL;rw[Ea l (k+1)]
  rfl
theorem MW(s:az):fD s []=s:=by
 unfold fD tg;rw[Ea]
theorem Cq{s:az}{l:List Int}(hI:cL (fD s l)=true):Ks (fD s l)=.dN [.bool (ft s l),.bool true]:=by
 unfold ft
 cases hE:fq (fD s l).name with
 |none=>rw[all_none hI hE]
 |some es=>rw[all_some hI hE]
theorem Ec{s:az}(hI:cL s=true):kG s=(ep s.name).find? λl=>cq s.name l&&ft s l:=by
 have ho:=lq (er hI).name;exact drop_eq ho (ft s)
theorem I1{s:az}(hI:cL s=true){l:List Int}(h:kG s=some l):cq s.name l=true/\ft s l=true/\∀o,cq s.name o=true->ft s o=true->l=o\/We l o:=by
 rw[Ec hI]at h;have hp:=List.find?_some h;simp only[adb]at hp;refine⟨hp.1,hp.2,λo ho hg=>?_⟩;refine B5 (yz s.name) h (AA ho) ?_;simp[ho,hg]
theorem Oa{s:az}(hI:cL s=true)(h:kG s=none){o:List Int}(ho:cq s.name o=true):ft s o=false:=by
 rw[Ec hI,aey]at h;have:=h o (AA ho);simpa[ho]using this
theorem OU{s:az}(hI:cL s=true){l:List Int}(ho:cq s.name l=true)(h:ft s l=true):dw (fD s l).name []≠[]/\dw s.name l≠[]:=by
 have h1:dw (fD s l).name []≠[]:=by
  intro h0;unfold ft fq at h;rw[h0]at h;cases h
 refine⟨h1,?_⟩;have h2:(fD s l).name=kQ s.name l:=PA s.name l;rw[h2]at h1;exact(M8 (er hI).name ho).1 h1
theorem aaE{s:aq}{l:List Int}(ho:cq s l=true)(hg:dw s l≠[]):∃d,AD s=some d/\d.length<=l.length:=by
 cases hd:AD s with
 |none=>
  unfold AD at hd;rw[aey]at hd;have:=hd l (AA ho);simp[ho,hg]at this
 |some d=>
  refine⟨d,rfl,?_⟩;unfold AD at hd;rcases B5 (yz s) hd (AA ho) (by simp[ho,hg])with e|e
  .rw[e];exact adh _
  .rcases e with e|e
   .omega
   .omega
theorem TJ{s:aq}(hs:aU s=true)(hg:dw s []≠[]):∃n:Int,Qa s=[.int .i64 n,.int .i64 0]:=by
 unfold Qa;rw[if_pos hs]
 cases h:dw s []with
 |nil=>exact absurd h hg
 |cons x l=>exact⟨_,rfl⟩
theorem aag{s:aq}(hs:aU s=true):∃(d:List Int)(f:Int),PF s=[vI d,.int .i64 f]/\((AD s=none/\d=[]/\f=5)\/(AD s=some d/\f=0)):=by
 unfold PF;rw[if_pos hs]
 cases h:AD s with
 |none=>exact⟨_,_,rfl,.inl ⟨rfl,rfl,rfl⟩⟩
 |some d=>exact⟨_,_,rfl,.inr ⟨rfl,rfl⟩⟩
theorem Ot{s:az}(hI:cL s=true){l:List Int}(h:kG s=some l):ft s []=((l.length:Int)==0):=by
 obtain⟨h1,h2,h3⟩:=I1 hI h;rw[ad7]
 constructor
 .intro h0;rcases h3 [] (lq (er hI).name) h0 with e|e
  .rw[e]<;>rfl
  .rcases e with e|e
   .simp at e
   .have:=adQ e.1
    rw[this]<;>rfl
 .intro h0
  have:l=[]:=by simpa using h0
  rw[<-this];exact h2
end Go.Proofs.Tryz
namespace Go.AL
def Qh:List (Nat×xw)->Nat->Option xw
 |[],_=>none
 |x::l,f=>bif Nat.beq f x.1 then some x.2 else Qh l f
def Sq(P:Program)(x:Nat×xw):Prop:=∃(F:Func)(c:Code),P.funcs[x.1]?=some F/\F.body=some c/\F.ntmps=x.2.n/\F.results.toList=x.2.res/\d_ P x.2.n c=x.2.code
theorem Gj{P:Program}:∀{l:List (Nat×xw)},(∀x∈l,Sq P x)->Ph P (Qh l)
 |[],_,_,_,h=>by cases h
 |x::l,hl,f,fn,h=>by
  unfold Qh at h
  cases hb:Nat.beq f x.1 with
  |true=>
   rw[hb]at h;cases h;rw[agb hb];exact hl x adt
  |false=>
   rw[hb]at h;exact Gj (λy hy=>hl y (ado _ hy)) f fn h
theorem Ps{α:Type}{b:Bool}{x y:Option α}{z:α}(h:(bif b then x else y)=some z):(b=true/\x=some z)\/(b=false/\y=some z):=by
 cases b
 .exact .inr ⟨rfl,h⟩
 .exact .inl ⟨rfl,h⟩
end Go.AL
namespace Go.Proofs.Tryz
open Go Go.AL Go.RowKit Go.Proofs Go.Proofs.Tram
variable{GI:World->Prop}
noncomputable def EG:List (Nat×xw):=[(65,⟨c65,9,[.tmp 2]⟩),(118,⟨c118,80,[.tmp 2]⟩),(121,⟨c121,94,[.cell 2 31,.tmp 3]⟩),(123,⟨c123,115,[.tmp 2]⟩),(124,⟨c124,53,[.tmp 2]⟩),(125,⟨c125,114,[.tmp 2]⟩),(161,⟨c161,16,[.tmp 2]⟩),(165,⟨c165,19,[.tmp 4]⟩),(166,⟨c166,5,[.tmp 2]⟩),(167,⟨c167,8,[.tmp 4]⟩),(168,⟨c168,9,[]⟩),(173,⟨c173,25,[.tmp 2]⟩),(174,⟨c174,21,[.tmp 4]⟩),(175,⟨c175,65,[.tmp 4]⟩),(176,⟨c176,26,[.tmp 2]⟩),(200,⟨c200,2,[.cell 0 248]⟩),(203,⟨c203,18,[.tmp 4]⟩),(205,⟨c205,9,[]⟩),(206,⟨c206,2,[.cell 0 254]⟩),(207,⟨c207,19,[.tmp 4]⟩),(209,⟨c209,8,[.tmp 2]⟩),(210,⟨c210,44,[.tmp 2]⟩),(278,⟨c278,17,[.tmp 2]⟩),(280,⟨c280,20,[.tmp 2]⟩),(281,⟨c281,11,[.tmp 2]⟩),(282,⟨c282,19,[.tmp 2]⟩),(283,⟨c283,24,[.tmp 2]⟩),(284,⟨c284,7,[.tmp 2]⟩),(285,⟨c285,19,[.tmp 2]⟩),(286,⟨c286,17,[.tmp 2]⟩),(287,⟨c287,9,[.tmp 2]⟩)]
theorem Ie:∀x∈EG,Sq prog x:=by
 unfold EG;simp only[List.forall_mem_cons];exact⟨⟨f65,_,func65,rfl,ntmps65,rfl,by kernel_rfl⟩,⟨f118,_,func118,rfl,ntmps118,rfl,by kernel_rfl⟩,⟨f121,_,func121,rfl,ntmps121,rfl,by kernel_rfl⟩,⟨f123,_,func123,rfl,ntmps123,rfl,by kernel_rfl⟩,⟨f124,_,func124,rfl,ntmps124,rfl,by kernel_rfl⟩,⟨f125,_,func125,rfl,ntmps125,rfl,by kernel_rfl⟩,⟨f161,_,func161,rfl,ntmps161,rfl,by kernel_rfl⟩,⟨f165,_,func165,rfl,ntmps165,rfl,by kernel_rfl⟩,⟨f166,_,func166,rfl,ntmps166,rfl,by kernel_rfl⟩,⟨f167,_,func167,rfl,ntmps167,rfl,by kernel_rfl⟩,⟨f168,_,func168,rfl,ntmps168,rfl,by kernel_rfl⟩,⟨f173,_,func173,rfl,ntmps173,rfl,by kernel_rfl⟩,⟨f174,_,func174,rfl,ntmps174,rfl,by kernel_rfl⟩,⟨f175,_,func175,rfl,ntmps175,rfl,by kernel_rfl⟩,⟨f176,_,func176,rfl,ntmps176,rfl,by kernel_rfl⟩,⟨f200,_,func200,rfl,ntmps200,rfl,by kernel_rfl⟩,⟨f203,_,func203,rfl,ntmps203,rfl,by kernel_rfl⟩,⟨f205,_,func205,rfl,ntmps205,rfl,by kernel_rfl⟩,⟨f206,_,func206,rfl,ntmps206,rfl,by kernel_rfl⟩,⟨f207,_,func207,rfl,ntmps207,rfl,by kernel_rfl⟩,⟨f209,_,func209,rfl,ntmps209,rfl,by kernel_rfl⟩,⟨f210,_,func210,rfl,ntmps210,rfl,by kernel_rfl⟩,⟨f278,_,func278,rfl,ntmps278,rfl,by kernel_rfl⟩,⟨f280,_,func280,rfl,ntmps280,rfl,by kernel_rfl⟩,⟨f281,_,func281,rfl,ntmps281,rfl,by kernel_rfl⟩,⟨f282,_,func282,rfl,ntmps282,rfl,by kernel_rfl⟩,⟨f283,_,func283,rfl,ntmps283,rfl,by kernel_rfl⟩,⟨f284,_,func284,rfl,ntmps284,rfl,by kernel_rfl⟩,⟨f285,_,func285,rfl,ntmps285,rfl,by kernel_rfl⟩,⟨f286,_,func286,rfl,ntmps286,rfl,by kernel_rfl⟩,⟨f287,_,func287,rfl,ntmps287,rfl,by kernel_rfl⟩,λ_ h=>nomatch h⟩
def Gz:AV->Option (List UInt8)
 |.str l=>some l
 |_=>none
def Ko:List AV->Option eP
 |[.int .i64 n]=>if 0<=n/\n<100 then some (.ret (.str (kJ n)))else none
 |_=>none
def Lc:List AV->Option eP
 |[.str s,.str [c]]=>if s.length<1000 then some (.ret (strs (iO c s)))else none
 |_=>none
def Me:List AV->Option eP
 |[.slice .view es,.str sep]=>match oZ Gz es with
  |some ls=>if ls.length<=1000/\(Lib.join ls sep).length<=1000 then some (.ret (.str (Lib.join ls sep)))else none
  |none=>none
 |_=>none
def JY:List AV->Option eP
 |[.str w]=>if w.length<1000/\CQ w=true then some (.ret (.int .i64 (de w)))else none
 |_=>none
def Lx:List AV->Option eP
 |[.slice .view es]=>match oZ Gz es with
  |some ws=>if ws.length<=1000/\ws.all CQ=true then some (.ret (.slice (if ws.isEmpty then .nil else .view) (ints (ws.map de))))else none
  |none=>none
 |_=>none
def CI:AV->Option Int
 |.int .i64 n=>some n
 |_=>none
def Mf:List AV->Option eP
 |[.slice .view es]=>match oZ CI es with
  |some (n::l)=>if l.length<900/\((n::l).all λn=>decide (0<=n/\n<100))=true then some (.ret (.slice (.own 9) (((n::l).map kJ).map .str)))else none
  |_=>none
 |_=>none
def G8:iB:=λf args=>
 bif Nat.beq f 162 then Ko args else bif Nat.beq f 164 then Lc args else bif Nat.beq f 199 then Me args else bif Nat.beq f 169 then JY args else bif Nat.beq f 208 then Lx args else bif Nat.beq f 279 then Mf args else none
theorem tZ:∀{es:List AV}{ls:List (List UInt8)},oZ Gz es=some ls->es=ls.map AV.str
 |[],_,h=>by cases h;rfl
 |x::es,ls,h=>by
  unfold oZ at h;split at h
  case h_2=>cases h
  rename_i a ha;split at h
  case h_2=>cases h
  rename_i r hr;cases h
  have:x=.str a:=by
   unfold Gz at ha
   split at ha<;>cases ha
   rfl
  rw[adC,<-this,<-tZ hr]
theorem Mz(hG:aw GI){args:List AV}{out:eP}(h:Ko args=some out):AC prog GI 162 args out:=by
 unfold Ko at h;split at h
 case h_2=>cases h
 split at h<;>cases h
 rename_i hc;exact vy hc.1 hc.2
theorem M6(nk:ML GI){args:List AV}{out:eP}(h:Lc args=some out):AC prog GI 164 args out:=by
 unfold Lc at h;split at h
 case h_2=>cases h
 split at h<;>cases h
 exact UH nk _ _ (by omega)
theorem LM{args:List AV}{out:eP}(h:Me args=some out):AC prog GI 199 args out:=by
 unfold Me at h;split at h
 case h_2=>cases h
 split at h
 case h_2=>cases h
 rename_i hd
 split at h<;>cases h
 rename_i hc;rw[tZ hd];exact VK _ _ (by omega) (by omega)
theorem LB(hG:aw GI){args:List AV}{out:eP}(h:JY args=some out):AC prog GI 169 args out:=by
 unfold JY at h;split at h
 case h_2=>cases h
 split at h<;>cases h
 rename_i w hc;exact OH hG w hc.2
theorem Lf(hG:aw GI){args:List AV}{out:eP}(h:Lx args=some out):AC prog GI 208 args out:=by
 unfold Lx at h;split at h
 case h_2=>cases h
 split at h
 case h_2=>cases h
 rename_i ws hd
 split at h<;>cases h
 rename_i hc;rw[tZ hd]
 have hw:∀w∈ws,_:=λw hw=>ze.1 (adu.1 hc.2 w hw)
 exact SP hG (by omega) (λw h=>⟨(hw w h).1,by have:=(hw w h).2.1;omega,(hw w h).2.2.1⟩) λw h=>by
  have r:=sR w (hw w h).2.2.1 (hw w h).2.1;have:=vy (GI:=GI) r.1 r.2;rwa [(hw w h).2.2.2]at this
theorem zd:∀{es:List AV}{ls:List Int},oZ CI es=some ls->es=ints ls
 |[],_,h=>by cases h;rfl
 |x::es,ls,h=>by
  unfold oZ at h;split at h
  case h_2=>cases h
  rename_i a ha;split at h
  case h_2=>cases h
  rename_i r hr;cases h
  have:x=.int .i64 a:=by
   unfold CI at ha
   split at ha<;>cases ha
   rfl
  rw[this,zd hr]<;>rfl
theorem MC(hG:aw GI){args:List AV}{out:eP}(h:Mf args=some out):AC prog GI 279 args out:=by
 unfold Mf at h;split at h
 case h_2=>cases h
 split at h
 case h_2=>cases h
 rename_i n l hd
 split at h<;>cases h
 rename_i hc;rw[zd hd]
 exact Vf hG (n::l) (by simp) (by simp;omega) λx hx=>by have:=adu.1 hc.2 x hx;exact aeQ (p:=0<=x/\x<100) this
theorem nK{f k:Nat}{args:List AV}{x y:Option eP}{out:eP}(h:(bif Nat.beq f k then x else y)=some out)(h1:x=some out->AC prog GI k args out)(h2:y=some out->AC prog GI f args out):AC prog GI f args out:=by
 rcases Ps h with⟨hf,h⟩|⟨-,h⟩
 .rw[agb hf];exact h1 h
 .exact h2 h
theorem FD(hG:aw GI)(nk:ML GI)(f:Nat)(args:List AV)(out:eP)(h:G8 f args=some out):AC prog GI f args out:=
 nK h (Mz hG) λh=>nK h (M6 nk) λh=>nK h LM λh=>nK h (LB hG) λh=>nK h (Lf hG) λh=>nK h (MC hG) λh=>nomatch h
noncomputable def Ha:iB:=Sh prog G8 (Qh EG) 1000 60
theorem xr(hG:aw GI)(nk:ML GI)(f:Nat)(args:List AV)(out:eP)(h:Ha f args=some out):AC prog GI f args out:=
 Ja hG cV (FD hG nk) (Gj Ie) 60 f args out h
def mW:List UInt8:=[116,114,97,109,32,49,32,49,32,49,32,48,10,99,101,108,108,32,49,32,50,32,110,111,10,101,110,100,32,49,55,56,10,102,114,111,110,116,32,49,32,49,10,115,112,97,99,101,115,32,48,32,48,32,48,32,48,32,49,10,115,105,103,110,32,49,10,119,111,114,100,32,110,111,32,48,32,45,10,101,110,100,32,48,57,56,10]
def iG:az:=⟨[⟨1,2,false⟩],1,1,1,0,⟨[1],[],0,0,0,0,1,[⟨[0],[],false⟩],1,1⟩⟩
def Xe:aq:=⟨[],[],0,0,0,0,0,[],0,0⟩
def ql:az:={ iG with name:=Xe }
noncomputable def JU:xw:=⟨c172,171,[.cell 2 29]⟩
theorem r65:Ha 65 [a_ iG]=some (.ret (.str mW)):=by kernel_rfl
theorem X4:Oj prog Ha 1000 5 5 JU [.str (mW.drop 33)]=some (.ret (bP iG.name)):=by kernel_rfl
theorem aaF:Ha 121 [.str mW]=some (.ret (.dN [a_ ql,.str (mW.drop 33)])):=by kernel_rfl
end Go.Proofs.Tryz
namespace Go.Proofs.Tryz
open Go Go.AL Go.RowKit Go.Proofs Go.Proofs.Tram
attribute [local simp] dF fc eT dW ef dI dJ cZ c_ ee cW cE gh gj aF aH ev aQ.S aQ.H bz ar aT AL.start AV.cells AV.storable AV.bZ bo bX dS b0 HR.okB post cy cJ cK AV.out AV.bT cb dk fz gI AV.vw df vI int b_ aM cU db gB iN eY dQ bQ AV.aG AV.bH
variable{GI:World->Prop}
theorem Oe(hG:aw GI)(nk:ML GI):AC prog GI 121 [.str mW] (.ret (.dN [a_ ql,.str (mW.drop 33)])):=xr hG nk _ _ _ aaF
theorem SC(hG:aw GI)(nk:ML GI):AC prog GI 65 [a_ iG] (.ret (.str mW)):=xr hG nk _ _ _ r65
theorem Mm:eZ iG:=⟨by decide,by decide,by decide,by decide,λw hw=>by
 simp[iG]at hw;subst hw;decide,λw hw=>by
 simp[iG]at hw;subst hw;decide⟩
theorem Pd(hG:aw GI)(nk:ML GI):AC prog GI 122 [.str (mW.drop 33)] (.ret (.dN [bP iG.name,.int .i64 0])):=
 Uz hG (s:=mW.drop 33) (x:=ae iG.name) (by decide) rfl (Gt hG cV (xr hG nk) (f:=172) (fn:=JU) ⟨f172,_,func172,rfl,ntmps172,rfl,by kernel_rfl,by kernel_rfl⟩ X4) (by
  have:=zq (GI:=GI) hG iG.name Mm.name
  rwa [show aU iG.name=true by kernel_rfl]at this)
noncomputable def yu:af:=af.qb c63.qb.qb.qb
theorem Ip(x:az):(ao x).map AV.aG=ao x:=by simp[ao,ae,AV.aG,vI]
def fI:List AV:=[.slice .nil [],.int .i64 0,.int .i64 0,.int .i64 0,.int .i64 0,.slice .nil [],.slice .nil [],.int .i64 0,.int .i64 0,.int .i64 0,.int .i64 0,.int .i64 0,.slice .nil [],.int .i64 0,.int .i64 0]
theorem Vd(hG:aw GI)(nk:ML GI):AC prog GI 63 [.str mW] (.ret (.dN [a_ iG,.int .i64 0])):=by
 obtain⟨i31,my,mq⟩:=bp (P:=prog) (t:=31) (s:=15) (by kernel_rfl);obtain⟨fs,fE⟩:=cd (P:=prog) (t:=31) (by kernel_rfl);have YS:=Oe hG nk;have YZ:=Pd hG nk;have a77:=oT (GI:=GI) hG iG Mm;rw[show cL iG=true by kernel_rfl]at a77;have hK:iG={ ql with name:=iG.name }:=rfl
 have hlI:¬(530:Int)<mW.length:=by decide
 generalize mW.drop 33=u at*
 generalize mW=t at*
 have mQ:∀ (w0:World) (g:Gh) (S:av) (H:aD) (a:Act) (w:World),GI w0→Rel prog w0 42 cm g S H a w→S 1 = .box 1 0→H 1=some [.str t]→S 4 = .box 4 0→H 4=some fI→S 5 = .box 5 0→H 5=some [.str []] →
    Calls prog 119 #[.func (.func 120) #[] #[a.tmps.getD 1 undef,a.tmps.getD 4 undef,a.tmps.getD 5 undef]] w λen w2=>en=.returned (.int .i64 0)/\∃(c:Value)(g':Gh)(S':av)(H':aD),g'.old=g.old/\Rel prog w0 42 cm g' S' H' (a.put (some 14) c) w2/\S' 2=S 2/\H' 2=H 2/\S' 4=.box 4 0/\H' 4=some (ao ql)/\S' 5=.box 5 0/\H' 5=some [.str u]:=by
  intro w0 g S H a w cT R q1 h1 q4 h4 q5 h5
  refine sW (d:=14) (by kernel_rfl) R λg1 w1 R1 kB _ _=>?_
  refine(Il hG cT R1 (d:=14) (i1:=1) (i4:=4) (i5:=5) (by decide) (by decide) (by decide) (by decide) (by decide) (by decide) (by decide) q1 h1 q4 h4 q5 h5 rfl rfl YS).mono ?_;rintro en w2 ⟨rfl,c,g',S',H',ru,R',rO,rJ⟩;refine⟨rfl,c,g',S',H',ru,R',rO 2 (by decide),?_,by rw[rO 4 (by decide)];exact q4,?_,by rw[rO 5 (by decide)];exact q5,?_⟩
  .rw[rJ];simp[ar]
  .rw[rJ];simp[ar];exact Ip ql
  .rw[rJ];simp[ar]
 refine AC.iF func63 rfl ntmps63 (by simp) λcc w=>?_
 refine dU hG c63.qa (λS' H'=>S' 1=.box 1 0/\H' 1=some [.str t]/\S' 2=.box 2 0/\H' 2=some (fI)) ?_ ?_
 .simp[c63,af.qa,fI]
 rintro S H ⟨s1,h1,s2,h2⟩;refine SW.seq (dU hG c63.qb.qa.qa (λS' H'=>S' 1=.box 1 0/\H' 1=some [.str t]/\S' 2=.box 2 0/\H' 2=some (fI)/\S' 11=.bool false) ?_ ?_)
 .simp[c63,af.qa,af.qb,s1,h1,s2,h2,hlI]
 clear s1 h1 s2 h2 S H;rintro S H ⟨s1,h1,s2,h2,bG⟩;refine SW.cond rfl false (by show S 11=_;rw[bG]) (SW.skip ?_);clear bG;show SW prog GI 42 none (.seq _ (.seq _ (.seq (.seq _ (.seq _ (.cond _ (.seq _ .ret) .skip))) _))) _ _ _ _;refine dU hG c63.qb.qb.qa (λS' H'=>S' 1=.box 1 0/\H' 1=some [.str t]/\S' 2=.box 2 0/\H' 2=some (fI)/\S' 4=.box 4 0/\H' 4=some (fI)) ?_ ?_
 .simp[c63,af.qa,af.qb,s1,h1,s2,h2,fI]
 clear s1 h1 s2 h2 S H;rintro S H ⟨s1,h1,s2,h2,s4,h4⟩;refine dU hG c63.qb.qb.qb.qa (λS' H'=>S' 1=.box 1 0/\H' 1=some [.str t]/\S' 2=.box 2 0/\H' 2=some (fI)/\S' 4=.box 4 0/\H' 4=some (fI)/\S' 5=.box 5 0/\H' 5=some [.str []]) ?_ ?_
 .simp[c63,af.qa,af.qb,s1,h1,s2,h2,s4,h4]
 clear s1 h1 s2 h2 s4 h4 S H;rintro S3 H3 ⟨s1,h1,s2,h2,s4,h4,s5,h5⟩
 refine SW.seq (SW.seq (SW.hand hG (p:=0) (lm:=[0,1]) (l2:=[2]) (kd:=[]) (oh:=[_,_]) (lI:=[_]) rfl rfl rfl rfl (by kernel_rfl) (λ_ h=>h) (lU:=[]) (kZ:=(c63.qb.qb.qb.qb.qa.qa.dl).drop 2) rfl (by kernel_rfl) rfl (by kernel_rfl)
  (K1:=λS' H'=>S' 1=.box 1 0/\H' 1=some [.str t]/\S' 2=.box 2 0/\H' 2=some (fI)/\S' 4=.box 4 0/\H' 4=some (fI)/\S' 5=.box 5 0/\H' 5=some [.str []])
  (K2:=λo S' H'=>o=Old.plain cc w/\S' 2=.box 2 0/\H' 2=some (fI)/\S' 4=.box 4 0/\H' 4=some (ao ql)/\S' 5=.box 5 0/\H' 5=some [.str u]/\S' 14=.int .i64 0)
  (K3:=λo S' H'=>o=Old.plain cc w/\S' 2=.box 2 0/\H' 2=some (fI)/\S' 4=.box 4 0/\H' 4=some (ao ql)/\S' 5=.box 5 0/\H' 5=some [.str u]/\S' 6=.int .i64 0) ⟨s1,h1,s2,h2,s4,h4,s5,h5⟩ ?_ ?_ ?_))
 .rintro w0 g S5 H5 a w5 m cT ho R ⟨s1,h1,s2,h2,s4,h4,s5,h5⟩;have bq:=R.size;refine aV rfl rfl (by rfl) (lP (fn:=.func 120) (c:=#[.tmp 1,.tmp 4,.tmp 5]) rfl) ?_
  obtain⟨fv,kM⟩:∃fv:Value,fv=.func (.func 120) #[] (#[Operand.tmp 1,.tmp 4,.tmp 5].map a.eval):=⟨_,rfl⟩
  show wpOpsIn _ _ _ _ _ [1] (a.put (some 13) (.func (.func 120) #[] (#[Operand.tmp 1,.tmp 4,.tmp 5].map a.eval))) w5;rw[<-kM];have R1:=R.put 13 .br fv (by decide) (.br _) trivial
  obtain⟨a1,oX⟩:∃a1,a.put (some 13) fv=a1:=⟨_,rfl⟩
  rw[oX]at R1⊢
  have wP:fv=.func (.func 120) #[] #[a1.tmps.getD 1 undef,a1.tmps.getD 4 undef,a1.tmps.getD 5 undef]:=by
   have e1:=bB a 13 1 fv (by omega);have e2:=bB a 13 4 fv (by omega);have e4:=bB a 13 5 fv (by omega);rw[if_neg (by decide),oX]at e1 e2 e4;have BG:a1.tmps.getD 1 undef=a.eval (.tmp 1):=e1;have Pb:a1.tmps.getD 4 undef=a.eval (.tmp 4):=e2;have EN:a1.tmps.getD 5 undef=a.eval (.tmp 5):=e4;rw[BG,Pb,EN,kM];simp only[adK,adC,adO]
  have jt:a1.eval (.tmp 13)=fv:=by rw[<-oX,bB _ _ _ _ (by omega),if_pos rfl]
  refine fH rfl rfl (by rfl) (gK (k:=119) (args:=#[.func (.func 120) #[] #[a1.tmps.getD 1 undef,a1.tmps.getD 4 undef,a1.tmps.getD 5 undef]]) w5 rfl rfl ?_ (by kernel_rfl)) (mQ w0 g _ _ a1 w5 cT R1 (by simp[ar,s1]) h1 (by simp[ar,s4]) h4 (by simp[ar,s5]) h5) ?_
  .simp only[adK,adC,adO,jt,<-wP]
  .rintro en w6 ⟨rfl,c,g',S',H',ru,R2,qO,rM,AX,Fh,vd,zZ⟩;refine⟨_,rfl,?_⟩;have R3:=R2.put 14 (.int .i64 0) (.int .i64 0) (by decide) (.data _ _ (.int _ _)) trivial;rw[n_]at R3;exact⟨g',_,H',R3,ru.trans ho,by rw[bj _ _ (by decide),qO];simp[ar,s2],rM.trans h2,by rw[bj _ _ (by decide)];exact AX,Fh,by rw[bj _ _ (by decide)];exact vd,zZ,aS _ _ _⟩
 .rintro o S5 H5 ⟨rfl,s2,h2,s4,h4,s5,h5,di⟩;refine⟨λ_ h=>h,?_⟩;simp[c63,af.qa,af.qb,af.dl,s2,h2,s4,h4,s5,h5,di]
 rintro o S5 H5 ⟨rfl,s2,h2,s4,h4,s5,h5,s6⟩;clear s1 h1;show SW prog GI 42 none (.seq _ (.cond _ (.seq _ .ret) .skip)) _ _ _ _;refine dU hG c63.qb.qb.qb.qb.qa.qb.qa (λS' H'=>S' 2=.box 2 0/\H' 2=some (fI)/\S' 4=.box 4 0/\H' 4=some (ao ql)/\S' 5=.box 5 0/\H' 5=some [.str u]/\S' 6=.int .i64 0/\S' 16=.bool false) ?_ ?_
 .simp[c63,af.qa,af.qb,s2,h2,s4,h4,s5,h5,s6]
 clear s2 h2 s4 h4 s5 h5 s6;rintro S6 H6 ⟨s2,h2,s4,h4,s5,h5,s6,eV⟩;refine SW.cond rfl false (by show S6 16=_;rw[eV]) (SW.skip ?_);clear s6 eV;show SW prog GI 42 none (.seq _ (.seq (.seq _ (.cond _ (.seq _ .ret) .skip)) (.seq _ (.seq (.seq _ (.cond _ (.seq _ .ret) .skip)) (.seq _ .ret))))) _ _ _ _;refine dU hG yu.qb.qa (λS' H'=>S' 2=.box 2 0/\H' 2=some (fI)/\S' 4=.box 4 0/\H' 4=some (ao ql)/\S' 7=.box 7 0/\H' 7=some (ae iG.name)/\S' 8=.int .i64 0) ?_ ?_
 .simp[c63,yu,af.qa,af.qb,s5,h5];refine oc YZ ?_;simp[s2,h2,s4,h4,bP,ae]
 clear s2 h2 s4 h4 s5 h5;rintro S7 H7 ⟨s2,h2,s4,h4,s7,h7,s8⟩;refine SW.seq (dU hG yu.qb.qb.qa.qa (λS' H'=>S' 2=.box 2 0/\H' 2=some (fI)/\S' 4=.box 4 0/\H' 4=some (ao ql)/\S' 7=.box 7 0/\H' 7=some (ae iG.name)/\S' 8=.int .i64 0/\S' 29=.bool false) ?_ ?_)
 .simp[c63,yu,af.qa,af.qb,s2,h2,s4,h4,s7,h7,s8]
 clear s2 h2 s4 h4 s7 h7 s8;rintro S7 H7 ⟨s2,h2,s4,h4,s7,h7,s8,Y1⟩;refine SW.cond rfl false (by show S7 29=_;rw[Y1]) (SW.skip ?_);clear Y1;show SW prog GI 42 none (.seq _ (.seq (.seq _ (.cond _ (.seq _ .ret) .skip)) (.seq _ .ret))) _ _ _ _;refine dU hG yu.qb.qb.qb.qa (λS' H'=>S' 2=.box 2 0/\H' 2=some (fI)/\S' 4=.box 4 0/\H' 4=some (ao iG)/\S' 8=.int .i64 0) ?_ ?_
 .simp[c63,yu,af.qa,af.qb,s2,h2,s4,h4,s7,h7,s8,ao,ae,ql,iG,Xe]
 clear s2 h2 s4 h4 s7 h7 s8;rintro S7 H7 ⟨s2,h2,s4,h4,s8⟩;refine SW.seq (dU hG yu.qb.qb.qb.qb.qa.qa (λS' H'=>S' 2=.box 2 0/\H' 2=some (fI)/\S' 4=.box 4 0/\H' 4=some (ao iG)/\S' 39=.bool false) ?_ ?_)
 .simp[c63,yu,af.qa,af.qb,s2,h2,s4,h4,s8,ao,ae];refine oc a77 ?_;simp[s2,h2,s4,h4,s8,ao,ae]
 clear s2 h2 s4 h4 s8;rintro S7 H7 ⟨s2,h2,s4,h4,s39⟩;refine SW.cond rfl false (by show S7 39=_;rw[s39]) (SW.skip ?_);show SW prog GI 42 none (.seq _ .ret) _ _ _ _;refine dU hG yu.qb.qb.qb.qb.qb.qa (λS' H'=>S' 2=.box 2 0/\S' 3=.int .i64 0/\H' 2=some (ao iG)) ?_ ?_
 .simp[c63,yu,af.qa,af.qb,s2,h2,s4,h4,ao,ae,fI]
 clear s2 h2 s4 h4;rintro S8 H8 ⟨s2,s3,h2⟩;refine SW.ret ⟨eD.plain rfl,rfl,_,?_,rfl⟩;show cy prog 42 [.cell 2 31,.tmp 3] S8 H8=_;simp[cy,cJ,cK,s2,s3,h2,my,fE,mq,b0,eS,AV.out,AV.aG,AV.bT,AV.vw,AV.bH,a_,ao,ae,vI]
theorem Bn:vG jr=[vI [1],.int .i64 0]:=by kernel_rfl
theorem XZ(hG:aw GI)(nk:ML GI):AC prog GI 22 [] (.ret (.bool true)):=by
 have d:=aai (GI:=GI) hG;have a:=J8 (GI:=GI) hG;have b:=aad (GI:=GI) hG;have q1:=ZW (GI:=GI) hG sr Ky;have q2:=Yz (GI:=GI) hG jr oC;have q3:=ZI (GI:=GI) hG jr oC [3,2,2,4,5,1] (by decide);have q4:=VZ (GI:=GI) hG jr oC;have q5:=aaB (GI:=GI) hG sr Ky;have q6:=Yn (GI:=GI) hG jr oC 1;have q7:=ZV (GI:=GI) hG jr oC;have q8:=Zq (GI:=GI) hG xm Ml;have q9:=Y3 (GI:=GI) hG jr oC;have q10:=Z0 (GI:=GI) hG xm Ml;have XH:=Sc (GI:=GI) hG jr oC;have q12:=Vd hG nk;have q13:=SC hG nk;rw[AH]at q1;rw[A5]at q2;rw[CN]at q3;rw[Du]at q4;rw[BP]at q5;rw[Dk]at q6;rw[CK]at q7;rw[Ep]at q8;rw[BU]at q9;rw[Dn]at q10;rw[Bn]at XH;have p1:=NV (GI:=GI) hG [9] [9] (by decide);have p2:=aaz (GI:=GI) hG [(1,1),(3,5)] [(1,1),(3,5)] (by decide);have p3:=NV (GI:=GI) hG [1] [1] (by decide);refine bW hG func22 ntmps22 c22 ?_;refine aI (λS H=>S 0=.bool false) (by simp) ?_
 rintro S H -
 refine aI (λS H=>S 1=vI [9]/\S 2=.int .i64 0) ?_ ?_
 .simp;refine oc d ?_;simp[a_,ao,ae];refine oc q1 ?_;simp
 clear S H;rintro S H ⟨s1,s2⟩;refine aI (λS H=>S 1=vI [9]/\S 2=.int .i64 0/\S 3=.slice .view (aO [(1,1),(3,5)])/\S 4=.int .i64 0) ?_ ?_
 .simp[s1,s2];refine oc a ?_;simp[a_,ao,ae,s1,s2];refine oc q2 ?_;simp[s1,s2]
 clear s1 s2 S H;rintro S H ⟨s1,s2,s3,s4⟩;refine aI (λS H=>S 1=vI [9]/\S 2=.int .i64 0/\S 3=.slice .view (aO [(1,1),(3,5)])/\S 4=.int .i64 0/\S 5=.int .i64 2/\S 6=.int .i64 0) ?_ ?_
 .simp[s1,s2,s3,s4];refine oc a ?_;simp[a_,ao,ae,s1,s2,s3,s4];refine oc q3 ?_;simp[s1,s2,s3,s4]
 clear s1 s2 s3 s4 S H;rintro S H ⟨s1,s2,s3,s4,s5,s6⟩;refine aI (λS H=>S 1=vI [9]/\S 2=.int .i64 0/\S 3=.slice .view (aO [(1,1),(3,5)])/\S 4=.int .i64 0/\S 5=.int .i64 2/\S 6=.int .i64 0/\S 7=.int .i64 1/\S 8=.int .i64 0) ?_ ?_
 .simp[s1,s2,s3,s4,s5,s6];refine oc a ?_;simp[a_,ao,ae,s1,s2,s3,s4,s5,s6];refine oc q4 ?_;simp[s1,s2,s3,s4,s5,s6]
 clear s1 s2 s3 s4 s5 s6 S H;rintro S H ⟨s1,s2,s3,s4,s5,s6,s7,s8⟩;refine aI (λS H=>S 1=vI [9]/\S 2=.int .i64 0/\S 3=.slice .view (aO [(1,1),(3,5)])/\S 4=.int .i64 0/\S 5=.int .i64 2/\S 6=.int .i64 0/\S 7=.int .i64 1/\S 8=.int .i64 0/\S 9=.int .i64 1/\S 10=.int .i64 0) ?_ ?_
 .simp[s1,s2,s3,s4,s5,s6,s7,s8];refine oc d ?_;simp[a_,ao,ae,s1,s2,s3,s4,s5,s6,s7,s8];refine oc q5 ?_;simp[s1,s2,s3,s4,s5,s6,s7,s8]
 clear s1 s2 s3 s4 s5 s6 s7 s8 S H;rintro S H ⟨s1,s2,s3,s4,s5,s6,s7,s8,s9,bL⟩;refine aI (λS H=>S 1=vI [9]/\S 2=.int .i64 0/\S 3=.slice .view (aO [(1,1),(3,5)])/\S 4=.int .i64 0/\S 5=.int .i64 2/\S 6=.int .i64 0/\S 7=.int .i64 1/\S 8=.int .i64 0/\S 9=.int .i64 1/\S 10=.int .i64 0/\S 11=.int .i64 2/\S 12=.int .i64 0) ?_ ?_
 .simp[s1,s2,s3,s4,s5,s6,s7,s8,s9,bL];refine oc a ?_;simp[a_,ao,ae,s1,s2,s3,s4,s5,s6,s7,s8,s9,bL];refine oc q6 ?_;simp[s1,s2,s3,s4,s5,s6,s7,s8,s9,bL]
 clear s1 s2 s3 s4 s5 s6 s7 s8 s9 bL S H;rintro S H ⟨s1,s2,s3,s4,s5,s6,s7,s8,s9,bL,bG,bU⟩;refine aI (λS H=>S 1=vI [9]/\S 2=.int .i64 0/\S 3=.slice .view (aO [(1,1),(3,5)])/\S 4=.int .i64 0/\S 5=.int .i64 2/\S 6=.int .i64 0/\S 7=.int .i64 1/\S 8=.int .i64 0/\S 9=.int .i64 1/\S 10=.int .i64 0/\S 11=.int .i64 2/\S 12=.int .i64 0/\S 13=.int .i64 1/\S 14=.int .i64 4/\S 15=.int .i64 0) ?_ ?_
 .simp[s1,s2,s3,s4,s5,s6,s7,s8,s9,bL,bG,bU];refine oc a ?_;simp[a_,ao,ae,s1,s2,s3,s4,s5,s6,s7,s8,s9,bL,bG,bU];refine oc q7 ?_;simp[s1,s2,s3,s4,s5,s6,s7,s8,s9,bL,bG,bU]
 clear s1 s2 s3 s4 s5 s6 s7 s8 s9 bL bG bU S H;rintro S H ⟨s1,s2,s3,s4,s5,s6,s7,s8,s9,bL,bG,bU,cz,di,gm⟩;refine aI (λS H=>S 1=vI [9]/\S 2=.int .i64 0/\S 3=.slice .view (aO [(1,1),(3,5)])/\S 4=.int .i64 0/\S 5=.int .i64 2/\S 6=.int .i64 0/\S 7=.int .i64 1/\S 8=.int .i64 0/\S 9=.int .i64 1/\S 10=.int .i64 0/\S 11=.int .i64 2/\S 12=.int .i64 0/\S 13=.int .i64 1/\S 14=.int .i64 4/\S 15=.int .i64 0/\S 16=.int .i64 3/\S 17=.int .i64 0) ?_ ?_
 .simp[s1,s2,s3,s4,s5,s6,s7,s8,s9,bL,bG,bU,cz,di,gm];refine oc b ?_;simp[a_,ao,ae,s1,s2,s3,s4,s5,s6,s7,s8,s9,bL,bG,bU,cz,di,gm];refine oc q8 ?_;simp[s1,s2,s3,s4,s5,s6,s7,s8,s9,bL,bG,bU,cz,di,gm]
 clear s1 s2 s3 s4 s5 s6 s7 s8 s9 bL bG bU cz di gm S H;rintro S H ⟨s1,s2,s3,s4,s5,s6,s7,s8,s9,bL,bG,bU,cz,di,gm,eV,jS⟩;refine aI (λS H=>S 1=vI [9]/\S 2=.int .i64 0/\S 3=.slice .view (aO [(1,1),(3,5)])/\S 4=.int .i64 0/\S 5=.int .i64 2/\S 6=.int .i64 0/\S 7=.int .i64 1/\S 8=.int .i64 0/\S 9=.int .i64 1/\S 10=.int .i64 0/\S 11=.int .i64 2/\S 12=.int .i64 0/\S 13=.int .i64 1/\S 14=.int .i64 4/\S 15=.int .i64 0/\S 16=.int .i64 3/\S 17=.int .i64 0/\S 18=.int .i64 1/\S 19=.int .i64 0) ?_ ?_
 .simp[s1,s2,s3,s4,s5,s6,s7,s8,s9,bL,bG,bU,cz,di,gm,eV,jS];refine oc a ?_;simp[a_,ao,ae,s1,s2,s3,s4,s5,s6,s7,s8,s9,bL,bG,bU,cz,di,gm,eV,jS];refine oc q9 ?_;simp[s1,s2,s3,s4,s5,s6,s7,s8,s9,bL,bG,bU,cz,di,gm,eV,jS]
 clear s1 s2 s3 s4 s5 s6 s7 s8 s9 bL bG bU cz di gm eV jS S H;rintro S H ⟨s1,s2,s3,s4,s5,s6,s7,s8,s9,bL,bG,bU,cz,di,gm,eV,jS,ka,p6⟩;refine aI (λS H=>S 1=vI [9]/\S 2=.int .i64 0/\S 3=.slice .view (aO [(1,1),(3,5)])/\S 4=.int .i64 0/\S 5=.int .i64 2/\S 6=.int .i64 0/\S 7=.int .i64 1/\S 8=.int .i64 0/\S 9=.int .i64 1/\S 10=.int .i64 0/\S 11=.int .i64 2/\S 12=.int .i64 0/\S 13=.int .i64 1/\S 14=.int .i64 4/\S 15=.int .i64 0/\S 16=.int .i64 3/\S 17=.int .i64 0/\S 18=.int .i64 1/\S 19=.int .i64 0/\S 20=.int .i64 4/\S 21=.int .i64 2/\S 22=.int .i64 0) ?_ ?_
 .simp[s1,s2,s3,s4,s5,s6,s7,s8,s9,bL,bG,bU,cz,di,gm,eV,jS,ka,p6];refine oc b ?_;simp[a_,ao,ae,s1,s2,s3,s4,s5,s6,s7,s8,s9,bL,bG,bU,cz,di,gm,eV,jS,ka,p6];refine oc q10 ?_;simp[s1,s2,s3,s4,s5,s6,s7,s8,s9,bL,bG,bU,cz,di,gm,eV,jS,ka,p6]
 clear s1 s2 s3 s4 s5 s6 s7 s8 s9 bL bG bU cz di gm eV jS ka p6 S H;rintro S H ⟨s1,s2,s3,s4,s5,s6,s7,s8,s9,bL,bG,bU,cz,di,gm,eV,jS,ka,p6,nf,lV,tB⟩;refine aI (λS H=>S 1=vI [9]/\S 2=.int .i64 0/\S 3=.slice .view (aO [(1,1),(3,5)])/\S 4=.int .i64 0/\S 5=.int .i64 2/\S 6=.int .i64 0/\S 7=.int .i64 1/\S 8=.int .i64 0/\S 9=.int .i64 1/\S 10=.int .i64 0/\S 11=.int .i64 2/\S 12=.int .i64 0/\S 13=.int .i64 1/\S 14=.int .i64 4/\S 15=.int .i64 0/\S 16=.int .i64 3/\S 17=.int .i64 0/\S 18=.int .i64 1/\S 19=.int .i64 0/\S 20=.int .i64 4/\S 21=.int .i64 2/\S 22=.int .i64 0/\S 23=vI [1]/\S 24=.int .i64 0) ?_ ?_
 .simp[s1,s2,s3,s4,s5,s6,s7,s8,s9,bL,bG,bU,cz,di,gm,eV,jS,ka,p6,nf,lV,tB];refine oc a ?_;simp[a_,ao,ae,s1,s2,s3,s4,s5,s6,s7,s8,s9,bL,bG,bU,cz,di,gm,eV,jS,ka,p6,nf,lV,tB];refine oc XH ?_;simp[s1,s2,s3,s4,s5,s6,s7,s8,s9,bL,bG,bU,cz,di,gm,eV,jS,ka,p6,nf,lV,tB]
 clear s1 s2 s3 s4 s5 s6 s7 s8 s9 bL bG bU cz di gm eV jS ka p6 nf lV tB S H;rintro S H ⟨s1,s2,s3,s4,s5,s6,s7,s8,s9,bL,bG,bU,cz,di,gm,eV,jS,ka,p6,nf,lV,tB,pw,u_⟩;refine aI (λS H=>S 1=vI [9]/\S 2=.int .i64 0/\S 3=.slice .view (aO [(1,1),(3,5)])/\S 4=.int .i64 0/\S 5=.int .i64 2/\S 6=.int .i64 0/\S 7=.int .i64 1/\S 8=.int .i64 0/\S 9=.int .i64 1/\S 10=.int .i64 0/\S 11=.int .i64 2/\S 12=.int .i64 0/\S 13=.int .i64 1/\S 14=.int .i64 4/\S 15=.int .i64 0/\S 16=.int .i64 3/\S 17=.int .i64 0/\S 18=.int .i64 1/\S 19=.int .i64 0/\S 20=.int .i64 4/\S 21=.int .i64 2/\S 22=.int .i64 0/\S 23=vI [1]/\S 24=.int .i64 0/\S 25=.box 25 0/\H 25=some (ao iG)/\S 26=.int .i64 0) ?_ ?_
 .simp[s1,s2,s3,s4,s5,s6,s7,s8,s9,bL,bG,bU,cz,di,gm,eV,jS,ka,p6,nf,lV,tB,pw,u_];refine oc q12 ?_;simp[a_,ao,ae,s1,s2,s3,s4,s5,s6,s7,s8,s9,bL,bG,bU,cz,di,gm,eV,jS,ka,p6,nf,lV,tB,pw,u_]
 clear s1 s2 s3 s4 s5 s6 s7 s8 s9 bL bG bU cz di gm eV jS ka p6 nf lV tB pw u_ S H;rintro S H ⟨s1,s2,s3,s4,s5,s6,s7,s8,s9,bL,bG,bU,cz,di,gm,eV,jS,ka,p6,nf,lV,tB,pw,u_,lS,yk,tF⟩;refine aI (λS H=>S 1=vI [9]/\S 3=.slice .view (aO [(1,1),(3,5)])/\S 5=.int .i64 2/\S 7=.int .i64 1/\S 9=.int .i64 1/\S 11=.int .i64 2/\S 13=.int .i64 1/\S 14=.int .i64 4/\S 16=.int .i64 3/\S 18=.int .i64 1/\S 20=.int .i64 4/\S 21=.int .i64 2/\S 23=vI [1]/\S 25=.box 25 0/\H 25=some (ao iG)) ?_ ?_
 .simp[s1,s3,s5,s7,s9,bG,cz,di,eV,ka,nf,lV,pw,lS,yk,s2,s4,s6,s8,bL,bU,gm,jS,p6,tB,u_,tF]
 clear s1 s3 s5 s7 s9 bG cz di eV ka nf lV pw lS yk s2 s4 s6 s8 bL bU gm jS p6 tB u_ tF S H;rintro S H ⟨s1,s3,s5,s7,s9,bG,cz,di,eV,ka,nf,lV,pw,lS,yk⟩;refine aI (λS H=>S 16=.int .i64 3/\S 18=.int .i64 1/\S 20=.int .i64 4/\S 21=.int .i64 2/\S 23=vI [1]/\S 25=.box 25 0/\H 25=some (ao iG)) ?_ ?_
 .simp[s1,s3,s5,s7,s9,bG,cz,di,eV,ka,nf,lV,pw,lS,yk,aJ];refine oc p1 ?_;simp[s1,s3,s5,s7,s9,bG,cz,di,eV,ka,nf,lV,pw,lS,yk,aJ,bI];refine oc p2 ?_;simp[s1,s3,s5,s7,s9,bG,cz,di,eV,ka,nf,lV,pw,lS,yk,aJ,bI]
 clear s1 s3 s5 s7 s9 bG cz di eV ka nf lV pw lS yk S H;rintro S H ⟨eV,ka,nf,lV,pw,lS,yk⟩;simp[eV,ka,nf,lV,pw,lS,yk,aJ];refine oc p3 ?_;simp[eV,ka,nf,lV,pw,lS,yk,aJ,bI];refine oc q13 ?_;simp[mW]
theorem acP(hG:aw GI)(nk:ML GI)(s:az)(o:List Int):AC prog GI 20 [a_ s,vI o] (.ret (.bool true)):=by
 have k:=XZ hG nk;have Jp:=acY (GI:=GI) hG s
 cases hr:JD s with
 |false=>
  rw[hr]at Jp;refine bW hG func20 ntmps20 c20 ?_;simp[c20,a_,ao,ae];refine oc Jp ?_;simp;refine oc k ?_;simp
 |true=>
 rw[hr]at Jp;unfold JD at hr;rw[adb]at hr;obtain⟨cM,hI⟩:=hr;obtain⟨hs,ni,pv⟩:=vQ cM;have hg:=er hI
 by_cases h6:o.length<=6
 case neg=>
  have Jn:(6:Int)<o.length:=by omega
  refine bW hG func20 ntmps20 c20 ?_;simp[c20,a_,ao,ae];refine oc Jp ?_;simp[Jn];refine oc k ?_;simp
 have Jn:¬(6:Int)<o.length:=by omega
 have q68:=V2 (GI:=GI) hG s.name hs.name o (by omega)
 cases ho:cq s.name o with
 |false=>
  rw[ho]at q68;refine bW hG func20 ntmps20 c20 ?_;simp[c20,a_,ao,ae];refine oc Jp ?_;simp[Jn,ao,ae];refine oc q68 ?_;simp;refine oc k ?_;simp
 |true=>
 rw[ho]at q68;have Ch:=Sc (GI:=GI) hG s hs;have Np:=aae (GI:=GI) hG s hs;have q70:=ab8 (GI:=GI) hG s.name hs.name;have q69:=V9 (GI:=GI) hG s (by omega) o (by omega);have ZX:=aae (GI:=GI) hG (fD s o) (vY hs o);obtain⟨d,f,hdO,hd⟩:=aag hg.name;rw[hdO]at q70;have ho0:=lq hg.name;have acu:=Np;rw[<-MW s,Cq (rX hI ho0),MW]at Np;rw[Cq (rX hI ho)]at ZX;unfold vG sH at Ch;rw[if_pos hI]at Ch;clear acu;refine bW hG func20 ntmps20 c20 ?_;refine aI (λS H=>S 1=vI o/\S 2=.box 2 0/\H 2=some (ao s)) (by simp[a_,ao,ae]) ?_;rintro S H ⟨s1,s2,h2⟩;refine aI (λS H=>S 1=vI o/\S 2=.box 2 0/\H 2=some (ao s)) ?_ ?_
 .simp[s1,s2,h2,ao,ae];refine oc Jp ?_;simp[s1,s2,h2,Jn,ao,ae];refine oc q68 ?_;simp[s1,s2,h2,ao,ae]
 clear s1 s2 h2 S H;rintro S H ⟨s1,s2,h2⟩
 obtain⟨l,e,h56,hl⟩:∃(l:List Int)(e:Int),AC prog GI 56 [a_ s] (.ret (.dN [vI l,.int .i64 e]))/\((kG s=none/\l=[]/\e=5)\/(kG s=some l/\e=0)):=by
  cases hT:kG s with
  |none=>rw[hT]at Ch;exact⟨_,_,Ch,.inl ⟨rfl,rfl,rfl⟩⟩
  |some l=>rw[hT]at Ch;exact⟨_,_,Ch,.inr ⟨rfl,rfl⟩⟩
 clear Ch;refine aI (λS H=>S 1=vI o/\S 2=.box 2 0/\H 2=some (ao s)/\S 5=vI l/\S 6=.int .i64 e) ?_ ?_
 .simp[s1,s2,h2,ao,ae];refine oc h56 ?_;simp[s1,s2,h2,ao,ae]
 clear s1 s2 h2 S H;rintro S H ⟨s1,s2,h2,s5,s6⟩;generalize aa':ft s []=now at Np;generalize aa8:ft s o=My at ZX;refine aI (λS H=>S 1=vI o/\S 2=.box 2 0/\H 2=some (ao s)/\S 5=vI l/\S 6=.int .i64 e/\S 7=.bool now/\S 8=.bool true) ?_ ?_
 .simp[s1,s2,h2,ao,ae];refine oc Np ?_;simp[s1,s2,h2,s5,s6,ao,ae]
 clear s1 s2 h2 s5 s6 S H;rintro S H ⟨s1,s2,h2,s5,s6,s7,s8⟩;refine aI (λS H=>S 1=vI o/\S 2=.box 2 0/\H 2=some (ao s)/\S 5=vI l/\S 6=.int .i64 e/\S 7=.bool now/\S 8=.bool true/\S 9=.bool My/\S 10=.bool true) ?_ ?_
 .generalize fD s o=X at*
  simp[s1,s2,h2,ao,ae];refine oc q69 ?_;simp[s1,s2,h2,s5,s6,s7,s8,a_,ao,ae];refine oc ZX ?_;simp[s1,s2,h2,s5,s6,s7,s8,ao,ae]
 clear s1 s2 h2 s5 s6 s7 s8 S H;rintro S H ⟨s1,s2,h2,s5,s6,s7,s8,s9,bL⟩;refine aI (λS H=>S 1=vI o/\S 2=.box 2 0/\H 2=some (ao s)/\S 5=vI l/\S 6=.int .i64 e/\S 7=.bool now/\S 8=.bool true/\S 9=.bool My/\S 10=.bool true/\S 11=vI d/\S 12=.int .i64 f) ?_ ?_
 .simp[s1,s2,h2,ao,ae];refine oc q70 ?_;simp[s1,s2,h2,s5,s6,s7,s8,s9,bL,ao,ae]
 clear s1 s2 h2 s5 s6 s7 s8 s9 bL S H;rintro S H ⟨s1,s2,h2,s5,s6,s7,s8,s9,bL,bG,bU⟩
 rcases hl with⟨hT,rfl,rfl⟩|⟨hT,rfl⟩
 .have hn:now=false:=by rw[<-aa'];exact Oa hI hT ho0
  have hi:My=false:=by rw[<-aa8];exact Oa hI hT ho
  subst hn hi
  rcases hd with⟨_,rfl,rfl⟩|⟨_,rfl⟩<;>simp[s1,s2,h2,s5,s6,s7,s8,s9,bL,bG,bU]<;>exact⟨_,by kernel_rfl,k,by simp[df],by simp⟩
 obtain⟨sj,hle,hlf⟩:=I1 hI hT;obtain⟨hgx,Jx⟩:=OU hI sj hle;obtain⟨d',Ap,zi⟩:=aaE sj Jx
 obtain⟨rfl,rfl⟩:d=d'/\f=0:=by
  rcases hd with⟨h,_⟩|⟨h,hf⟩
  .rw[Ap]at h;cases h
  .rw[Ap]at h;cases h;exact⟨rfl,hf⟩
 have cI:=Ot hI hT;rw[aa']at cI;subst cI;refine aI (λS H=>S 1=vI o/\S 2=.box 2 0/\H 2=some (ao s)/\S 5=vI l/\S 6=.int .i64 0/\S 9=.bool My/\S 11=vI d) ?_ ?_
 .cases My<;>cases hz:((l.length:Int)==0)<;>simp[s1,s2,h2,s5,s6,s7,s8,s9,bL,bG,bU,hz,ao,ae]
 clear s1 s2 h2 s5 s6 s7 s8 s9 bL bG bU S H;rintro S H ⟨s1,s2,h2,s5,s6,s9,bG⟩;refine aI (λS H=>S 1=vI o/\S 2=.box 2 0/\H 2=some (ao s)/\S 5=vI l/\S 9=.bool My/\S 11=vI d) (by simp[s1,s2,h2,s5,s6,s9,bG,ao,ae]) ?_;clear s1 s2 h2 s5 s6 s9 bG S H;rintro S H ⟨s1,s2,h2,s5,s9,bG⟩;have xD:=(Nw sj).2;have abg:=V2 (GI:=GI) hG s.name hs.name l (by omega);rw[sj]at abg
 have c1:¬(s.name.words.length:Int)<l.length:=by omega
 have c2:¬(l.length:Int)<d.length:=by omega
 refine aI (λS H=>S 1=vI o/\S 2=.box 2 0/\H 2=some (ao s)/\S 5=vI l/\S 9=.bool My) ?_ ?_
 .simp[s1,s2,h2,s5,s9,bG,c1,ao,ae];refine oc abg ?_;simp[s1,s2,h2,s5,s9,bG,c2,ao,ae]
 clear s1 s2 h2 s5 s9 bG S H;rintro S H ⟨s1,s2,h2,s5,s9⟩;have ack:=V9 (GI:=GI) hG s (by omega) l (by omega);have abe:=aae (GI:=GI) hG (fD s l) (vY hs l);rw[Cq (rX hI sj),hle]at abe;obtain⟨r,hr⟩:=TJ (er (rX hI sj)).name hgx;have q71:=ab6 (GI:=GI) hG (fD s l).name (vY hs l).name;rw[hr]at q71;clear hgx hr
 generalize fD s l=X at*
 refine aI (λS H=>S 1=vI o/\S 5=vI l/\S 9=.bool My/\S 13=.box 13 0/\H 13=some (ao X)) ?_ ?_
 .simp[s1,s2,h2,s5,s9,ao,ae];refine oc ack ?_;simp[s1,s2,h2,s5,s9,a_,ao,ae]
 clear s1 s2 h2 s5 s9 S H;rintro S H ⟨s1,s5,s9,cz,Wp⟩;refine aI (λS H=>S 1=vI o/\S 5=vI l/\S 9=.bool My/\S 13=.box 13 0/\H 13=some (ao X)/\S 14=.bool true/\S 15=.bool true) ?_ ?_
 .simp[s1,s5,s9,cz,Wp,ao,ae];refine oc abe ?_;simp[s1,s5,s9,cz,Wp,ao,ae]
 clear s1 s5 s9 cz Wp S H;rintro S H ⟨s1,s5,s9,cz,Wp,di,gm⟩;refine aI (λS H=>S 1=vI o/\S 5=vI l/\S 9=.bool My/\S 14=.bool true/\S 15=.bool true/\S 17=.int .i64 0) ?_ ?_
 .simp[s1,s5,s9,cz,Wp,di,gm,ao,ae];refine oc q71 ?_;simp[s1,s5,s9,di,gm]
 clear s1 s5 s9 cz Wp di gm S H;rintro S H ⟨s1,s5,s9,di,gm,jS⟩
 cases My with
 |false=>
  simp[s1,s5,s9,di,gm,jS];refine oc k ?_;simp
 |true=>
  have acT:=hlf o ho aa8
  by_cases hlen:l.length<o.length
  .have sV:(l.length:Int)<o.length:=by omega
   simp[s1,s5,s9,di,gm,jS,sV];refine oc k ?_;simp
  .have DX:o.length=l.length∧pD o l=false:=by
    rcases acT with e|e
    .subst e;exact⟨rfl,GK _⟩
    .rcases e with e|e
     .exact absurd e hlen
     .exact⟨e.1.symm,IU e.2⟩
   have q72:=acL (GI:=GI) hG o l (by omega);rw[DX.2]at q72
   have sV:¬(l.length:Int)<o.length:=by omega
   have heq:((o.length:Int)==l.length)=true:=by simp;omega
   simp[s1,s5,s9,di,gm,jS,sV,heq];refine oc q72 ?_;simp;refine oc k ?_;simp
end Go.Proofs.Tryz
namespace Go.Proofs.YtdiflocclemeaaaGreatDoor
open Go Go.AL Go.ChangeShapes Go.WideShapes Go.ChangeAt Go.RowKit Go.Proofs.Tryz
namespace Left
abbrev row:OpenClaim:=Rows.tramLeftRow
abbrev spec:ChangeSpec:=Rows.tramLeftSpec
theorem call (W:World) (base:Nat) (args:Array Value) {H:Type} {enc:TypeId×Value→H} (ds:List (DataW H)) (p:List MemPlace) (hG:GI W) (vr:∀ (j:Nat) t v,Tryz.f20.params[j]? = some t→args[j]? = some v→Value.okWide Tryz.prog W .any base t v)
  (hA:DataW.TrodAll enc Tryz.prog W 0 (λ_=>true) true Tryz.f20.params.toList args.toList ds p):Calls Tryz.prog 20 args W λe W'=>e=.returned (.bool true)/\Below W.heap.size W W':=by
 rw[Tryz.params20]at hA vr;obtain⟨v0,OL,d0,ds0,p0,q0,e0,rfl,rfl,h0,DZ⟩:=trodAll_cons hA;obtain⟨v1,vs1,d1,ds1,p1,q1,e1,rfl,rfl,h1,hr2⟩:=trodAll_cons DZ;obtain⟨rfl,rfl,rfl⟩:=trodAll_nil hr2
 obtain rfl:args=#[v0,v1]:=by
  apply Array.toList_inj.1;rw[e0,e1]
 obtain⟨x0,g0,a0⟩:=Ar (vr 0 31 v0 rfl rfl) h0;obtain⟨x1,g1,a1⟩:=open_ints (vr 1 23 v1 rfl rfl) h1
 refine IF (acP Eg (λ_ h=>h) x0 x1) hG rfl λi h h'=>?_
 match i,h with
 |0,_=>exact .data _ _ a0
 |1,_=>exact .data _ _ a1
theorem w1(os:Os):((World.laidAll Tryz.prog os row.laid).forCall (λ_ _=>0) ⟨#[],#[.agg #[.slice none 0 0,.int .i64 0,.int .i64 0,.int .i64 0,.int .i64 0,.slice none 0 0,.slice none 0 0,.int .i64 0,.int .i64 0,.int .i64 0,.int .i64 0,.int .i64 0,.slice none 0 0,.int .i64 0,.int .i64 0],.slice none 0 0],[]⟩).Shaped Tryz.checked.prog:=
 World.shaped_of_ZipB (by kernel_rfl) (by kernel_rfl)
theorem lifted (os:Os) (started:os.Started) (H:Type) (enc:TypeId×Value→H) :
  ReturnsInHanded {} Tryz.checked os 20 .any (λw args=>(spec.pre enc Tryz.prog Tryz.f20 row.domain false w args/\laidMetH Tryz.prog row.laid w)/\sizedMet enc Tryz.prog Tryz.f20 (OpenSpec.ofChange spec) false w args)
   (spec.post enc Tryz.prog Tryz.f20 false true false false):=by
 refine Ff 20 Tryz.f20 Tryz.func20 (by kernel_rfl) (by kernel_rfl) spec rfl ?_ ?_ os started _ 12 (w1 os) (by kernel_rfl) (by kernel_rfl) (by kernel_rfl) ?_ (λW base args ds p=>call W base args ds p)
 .intro ds hl;rw[show Tryz.f20.params.size=2 by kernel_rfl]at hl
  match ds,hl with
  |[d0,d1],_=>rfl
 .rw[Tryz.params20];intro t ht
  have:t=31\/t=23:=by simpa using ht
  rcases this with rfl|rfl
  all_goals exact⟨by kernel_rfl,aeQ (by kernel_rfl)⟩
 .rw[MakeChecks.laidMetH_plain _ _ _ (by kernel_rfl)];exact laidMet_laidAll _ (by kernel_rfl) (by kernel_rfl)
theorem B1:Tryz.prog.funcNamed "mahlstick/mahlsticklaw09.TramLeft" = some 20:=by kernel_rfl
theorem Er:(row.inPlace==Tryz.prog.inPlace 20)=true:=by kernel_rfl
theorem yt:(row.unfollowed==Tryz.prog.unfollowed 20)=true:=by kernel_rfl
theorem C2:(row.recurses==Tryz.prog.recurses 20)=true:=by kernel_rfl
theorem OO:(row.named==Tryz.prog.varsNamed 20)=true:=by kernel_rfl
theorem Pf:joinedFacts Tryz.prog 20 Tryz.f20 spec row=true:=
 FL ⟨rfl,rfl,rfl,rfl,rfl,rfl⟩ (by kernel_rfl) (by kernel_rfl) (by kernel_rfl) Er yt C2 OO (by kernel_rfl) (by kernel_rfl) (by kernel_rfl) (by kernel_rfl)
theorem BW:Tryz.f20.isInstance Tryz.prog row.origin row.targs:=aeQ (by kernel_rfl)
theorem Fy:Tryz.f20.isWrapper Tryz.prog row.wrapper row.mainSum:=by
 unfold Func.isWrapper;rw[if_neg (by decide+kernel)];exact⟨rfl,rfl⟩
theorem holds:Rows.TramLeftSaid:=
 OpenClaim.holds_of_wide 20 Tryz.f20 rfl rfl rfl rfl rfl rfl rfl ⟨rfl,rfl,rfl,rfl,rfl⟩ rfl rfl rfl rfl rfl B1 Tryz.func20 Pf BW Fy (λos started H enc _=>lifted os started H enc)
theorem YM:row.wfByText (OpenSpec.ofChange spec)=true:=by kernel_rfl
theorem PZ:false=row.goesBy Tryz.prog:=by kernel_rfl
theorem MB:([31,23].all λu=>!Tryz.prog.wantsStandIn u)=true:=by kernel_rfl
theorem Po:Tryz.prog.mainIs=some (true, "6409d79c938881258cf6c01a4bbb5b9da95cffe89bf69844c1f6e37b46348158".toList):=by rw [Hi,Vg]
theorem card:Rows.TramLeftCardSaid:=
 Claim7.holds_tied_plain_at .later [] [.data,.data,.data,.data,.pinned] true (true, "6409d79c938881258cf6c01a4bbb5b9da95cffe89bf69844c1f6e37b46348158") true holds (λ_ h=>by cases h) YM (λ_ h=>by cases h) tramLeft_row_tie rfl ⟨rfl,rfl⟩ Po rfl
  (λf fn hf QF=>by
   obtain rfl:f=20:=adw (B1.symm.trans hf)|>.symm
   obtain rfl:fn=Tryz.f20:=(adw (Tryz.func20.symm.trans QF)).symm;refine⟨LF,λj t ht=>?_⟩;rw[Tryz.params20]at ht
   have hm:t∈[31,23]:=by
    simpa using aeM ht
   exact(show Tryz.prog.wantsStandIn t=false by simpa using adu.1 MB t hm))
  PZ
end Left
#print axioms Left.card
end Go.Proofs.YtdiflocclemeaaaGreatDoor
