/-
  A part of the proof.
-/
import Derived.Test.YtdiflocclemeaaaGreatDoorLf1
set_option maxRecDepth 100000
set_option maxHeartbeats 8000000
set_option linter.all false
set_option linter.unusedVariables false
set_option linter.unusedSimpArgs false
set_option linter.deprecated false
namespace Go.Proofs.Tryz
open Go Go.AL Go.RowKit Go.Proofs Go.Proofs.Tram
attribute [local simp] dF fc eT dW ef dI dJ cZ c_ ee cW cE gh gj aF aH ev aQ.S aQ.H bz ar aT AL.start AV.cells AV.storable AV.bZ bo bX dS b0 HR.okB post cy cJ cK AV.out AV.bT cb dk fz gI AV.vw df vI int b_ aM cU db gB iN eY dQ bQ AV.aG AV.bH
variable{GI:World->Prop}
def ko(k:Nat):Value:=.func (.func k) #[] #[]
def qK(e:Nat)(c:kq):Int:=if e=0 then c.lo else c.hi
def bm(e:Nat)(s:az):List Int:=s.cells.map (qK e)
def qA(e:Nat):Nat->Op->Op
 |2,_=>.fieldAddr 26 (.tmp 5) e
 |3,_=>.move (.func (157+e))
 |_,op=>op
def C5(s:az)(e i:Nat)(S:av)(H:aD):Prop:=
 S 1=.int .i64 (e:Nat)/\S 2=.box 2 0/\H 2=some (ao s)/\S 5=.box 5 0/\H 5=some [.val (ko 157),.val (ko 158)]/\S 6=grow 3 (ints ((bm e s).take i))/\S 11=.int .i64 s.cells.length/\S 12=.int .i64 (i:Nat)
noncomputable def zt:af:=af.qb c98.qb.qb.qb.qa.qb.qb
def Qz(e:Nat):List cC:=[⟨some 15,none,.mv true (.t 6)⟩,⟨some 16,none,.mv false (.t 1)⟩,⟨some 17,none,.fieldAddr e (.t 5)⟩,⟨some 18,none,.mv false (.f (157+e))⟩,⟨some 19,none,.fieldAddr 0 (.t 2)⟩,
 ⟨some 20,none,.load (.box 2) false 1 (.t 19)⟩,⟨some 21,none,.mv false (.t 7)⟩,⟨some 22,none,.indexAddr 3 (.t 20) (.t 21)⟩,⟨some 23,none,.load .ref true 3 (.t 22)⟩,⟨some 24,none,.ik (.t 18) [.t 23]⟩,
 ⟨some 25,none,.buildSlice 23 3 1 [.t 24]⟩,⟨some 26,none,.append 23 3 1 8 (.t 15) (.t 25)⟩,⟨some 6,none,.mv true (.t 26)⟩]
theorem Bc{Pr:Nat->Nat->Prop}{al:Nat->Option Nat}{w:World}{f1 f2:Nat}{c:Value}(h:RV Pr al w (.j0 [.func (.func f1) [] [],.func (.func f2) [] []]) c):c=.agg #[ko f1,ko f2]:=by
 have one:∀{f:Nat}{c:Value},RV Pr al w (.func (.func f) [] []) c->c=ko f:=by
  intro f c h
  cases h with
  |data _ _ h=>cases h
  |func _ _ _ vs us h1 h2 r1 r2=>
   have:vs=#[]:=aeG (by simpa using h1.symm);subst this;have:us=#[]:=aeG (by simpa using h2.symm);subst this
   rfl
 cases h with
 |data _ _ h=>cases h
 |j0 _ vs hl hr=>
  have hs:vs.size=2:=by rw[<-hl];rfl
  have e1:=one (hr 0 (by simp) (by omega));have e2:=one (hr 1 (by simp) (by omega))
  congr 1
  apply aeI
  .simpa using hs
  .intro i h1 h2
   match i,h2 with
   |0,_=>exact e1
   |1,_=>exact e2
theorem AR {rest:List cC} {K:av→aD→Prop} {S:av} {H:aD} {d j k:Nat} {args:List eA} {v:AV} (hj:S j = .func (.func k) [] []) (hk:dX prog k=true) (hb:(args.map (ev S)).any df=false)
  (Tq:AC prog GI k ((args.map (ev S)).map (fz H)) (.ret v)) (h:dc prog GI rest K (ar S d v) H):dc prog GI (⟨some d,none,.ik (.t j) args⟩::rest) K S H:=by
 have e:ev S (.t j)=.func (.func k) [] []:=hj;show i_ prog GI (.ik (.t j) args) (some d) (dc prog GI rest K) S H;simp only[i_,bg,e];refine⟨by simpa using hb,.ret v,hk,by simpa using Tq,λhh=>?_,h⟩;simp only[List.nil_append,adT]at hh;rw[hb]at hh;cases hh
theorem B2 {K:av→aD→Prop} {S:av} {H:aD} {l:List Int} {x:Int} (sn:S 15=grow 3 (ints l)) (Hp:S 24 = .int .i64 x) (hn:l.length+1 < 1048576)
  (h:∀S',S' 6=grow 3 (ints (l++[x]))->(∀k,k∉[6,15,25,26]->S' k=S k)->K S' H):dc prog GI [⟨some 25,none,.buildSlice 23 3 1 [.t 24]⟩,⟨some 26,none,.append 23 3 1 8 (.t 15) (.t 25)⟩,⟨some 6,none,.mv true (.t 26)⟩] K S H:=by
 have hb:aH S H (.buildSlice 23 3 1 [.t 24])=some { v:=.slice (.own 3) [.int .i64 x] }:=by simp[aH,ev,Hp,aJ,AV.storable,AV.cells,AV.vw,AV.bH]
 show i_ prog GI (.buildSlice 23 3 1 [.t 24]) (some 25) (dc prog GI _ K) S H;simp only[i_,bg,hb];refine pn (e:=3) (ints l) (.int .i64 x) (.own 3) (by simp[aQ.S,aT,ar,sn]) (by simp[aQ.S,aT,ar]) rfl (lj _) (by simpa[ints]using hn) ?_;intro S' d1 d2
 have ke:ints l++[.int .i64 x]=ints (l++[x]):=by simp[ints]
 rw[ke]at d1
 have hm:∃dm,(dm=none\/dm=some 26)/\aH S' H (.mv true (.t 26))=some { v:=grow 3 (ints (l++[x])),dm:=dm }:=by
  refine⟨some 26,.inr rfl,?_⟩;simp only[aH,ev,d1]
  rfl
 obtain⟨dm,Df,hm⟩:=hm;obtain⟨k1,k2⟩:=qo (S:=S') (d:=6) Df (grow 3 (ints (l++[x])));show i_ prog GI (.mv true (.t 26)) (some 6) (dc prog GI [] K) S' H;simp only[i_,bg,hm]
 refine h _ k1 λk hk=>?_
 simp only[ad6,List.not_mem_nil,or_false,not_or]at hk;rw[k2 k hk.1 hk.2.2.2,d2 k hk.2.2.2 hk.2.1];simp[aQ.S,aT,ar,hk.2.2.1]
structure PI(e b2 b5:Nat)(l:Array Bool)(a:Act)(w:World):Prop where
 size:a.tmps.size=29
 t1:a.tmps.getD 1 undef=.int .i64 (e:Nat)
 t2:a.tmps.getD 2 undef=.pointer (some ⟨b2,0,none⟩)
 t5:a.tmps.getD 5 undef=.pointer (some ⟨b5,0,none⟩)
 t16:l.getD 1 false=true->a.tmps.getD 16 undef=.int .i64 (e:Nat)
 t17:l.getD 2 false=true->a.tmps.getD 17 undef=.pointer (some ⟨b5,e,none⟩)
 heap:∃ty,w.heap[b5]?=some (.cells #[ko 157,ko 158] ty (0,0))
 c9:l.getD 9 false=true->l.getD 3 false=true
 c10:l.getD 10 false=true->l.getD 9 false=true
 c11:l.getD 11 false=true->l.getD 10 false=true
 c3:l.getD 3 false=true->l.getD 2 false=true
def X0(e b2 b5:Nat)(l:Array Bool)(a:Act)(w:World):Prop:=(l.getD 2 false=true/\l.getD 3 false=true)\/PI e b2 b5 l a w
theorem mj{l:Array Bool}{i:Nat}(h:i<l.size):(l.setIfInBounds i true).getD i false=true:=by
 simp[ad9,h]
theorem dL{l:Array Bool}{i j:Nat}(h:i≠j):(l.setIfInBounds i true).getD j false=l.getD j false:=by
 simp[ad9,adg h]
theorem PI.put {e b2 b5:Nat} {l:Array Bool} {a:Act} {w:World} (h:PI e b2 b5 l a w) (i t:Nat) (v:Value) (ht:t≠1∧t≠2∧t≠5) (hl:l.size=13) (hi:i < 9) (h3:i≠3) (h1:i=1→t=16∧v = .int .i64 (e:Nat)) (h2:i=2→t=17∧v = .pointer (some ⟨b5,e,none⟩)) (ho:i≠1→t≠16) (Kw:i≠2→t≠17) (Jy:t < 29) :
  PI e b2 b5 (l.setIfInBounds i true) (a.put (some t) v) w:=by
 have eB:∀k,k≠t->(a.put (some t) v).tmps.getD k undef=a.tmps.getD k undef:=λk hk=>by
  simp[Act.put,adg (ad2 hk)]
 have ir:(a.put (some t) v).tmps.getD t undef=v:=by simp[Act.put,h.size,Jy]
 refine⟨by simp[Act.put,h.size],by rw[eB 1 (ad2 ht.1)];exact h.t1,by rw[eB 2 (ad2 ht.2.1)];exact h.t2,by rw[eB 5 (ad2 ht.2.2)];exact h.t5,?_,?_,h.heap,?_,?_,?_,?_⟩
 .by_cases MU:i=1
  .obtain⟨rfl,rfl⟩:=h1 MU
   exact λ_=>ir
  .rw[dL MU,eB 16 (ad2 (ho MU))];exact h.t16
 .by_cases pI:i=2
  .obtain⟨rfl,rfl⟩:=h2 pI
   exact λ_=>ir
  .rw[dL pI,eB 17 (ad2 (Kw pI))];exact h.t17
 .rw[dL (by omega),dL h3];exact h.c9
 .rw[dL (by omega),dL (by omega)];exact h.c10
 .rw[dL (by omega),dL (by omega)];exact h.c11
 .rw[dL h3]
  by_cases pI:i=2
  .subst pI;exact λ_=>mj (by omega)
  .rw[dL pI];exact h.c3
theorem Z1(hG:aw GI)(e:Nat)(he:e=0\/e=1)(x:kq):AC prog GI (157+e) [iK x] (.ret (.int .i64 (qK e x))):=by
 rcases he with rfl|rfl
 .exact UR hG x
 .exact Vq hG x
noncomputable def G5:Code:=f98.body.getD .skip
def P1:Code->Code
 |.seq _ y=>y
 |c=>c
theorem RT (hG:aw GI) (s:az) (hs:s.cells.length < 1000) (e:Nat) (he:e=0∨e=1) (cc:Nat→Nat→Prop) (w:World) {Q:jM}
  (Cb:∀S H,S 6=grow 3 (ints (bm e s))->SW prog GI 29 none (P1 (P1 (P1 (P1 G5)))) Q (Old.plain cc w) S H):SW prog GI 29 none G5 Q (Old.plain cc w) (AL.start [a_ s,.int .i64 (e:Nat)]) (λ_=>none):=by
 show SW prog GI 29 none (.seq _ (.seq _ (.seq _ (.seq _ _)))) _ _ _ _;refine dU hG c98.qa (λS' H'=>S' 1=.int .i64 (e:Nat)/\S' 2=.box 2 0/\H' 2=some (ao s)) ?_ ?_
 .simp[c98,af.qa,a_,ao,ae]
 rintro S1 H1 ⟨s1,s2,h2⟩
 refine SW.seq (SW.hand hG (p:=1) (lm:=[1,2]) (l2:=[]) (kd:=[_]) (oh:=[_,_]) (lI:=[]) rfl rfl rfl rfl (by kernel_rfl) (λ_ h=>h)
  (lU:=(c98.qb.qa.dl).take 1) (kZ:=[]) (by kernel_rfl) rfl (by kernel_rfl) rfl
  (K1:=λS H=>S 1=.int .i64 (e:Nat)/\S 2=.box 2 0/\H 2=some (ao s)/\S 8=.j0 [.func (.func 157) [] [],.func (.func 158) [] []])
  (K2:=λo S H=>o=Old.plain cc w/\S 1=.int .i64 (e:Nat)/\S 2=.box 2 0/\H 2=some (ao s)/\S 5=.box 5 0/\H 5=some [.val (ko 157),.val (ko 158)])
  (K3:=λo S H=>o=Old.plain cc w/\S 1=.int .i64 (e:Nat)/\S 2=.box 2 0/\H 2=some (ao s)/\S 5=.box 5 0/\H 5=some [.val (ko 157),.val (ko 158)]) ?_ ?_ ?_ ?_)
 .simp[c98,af.qa,af.qb,af.dl,s1,s2,h2,Cg]
 .rintro w0 g S2 H2 a w' m cT ho R ⟨s1,s2,h2,s8⟩;have bq:=R.size
  have e8:a.tmps.getD 8 undef=.agg #[ko 157,ko 158]:=by
   have:=R.slot 8 (by decide) id;rw[s8]at this;exact Bc this
  have eB:∀(a:Act)(d t:Nat)(c:Value),t≠d->(a.put (some d) c).tmps.getD t undef=a.tmps.getD t undef:=λa d t c h=>by
   simp[Act.put,adg (ad2 h)]
  have ir:∀(a:Act)(d:Nat)(c:Value),a.tmps.size=29->d<29->(a.put (some d) c).tmps.getD d undef=c:=λa d c h hd=>by
   simp[Act.put,h,hd]
  obtain⟨it,hi,hz⟩:=aep.1 (show(prog.info? 189).bind (·.zero)=some (.agg #[.nilFunc,.nilFunc]) by kernel_rfl)
  have YW:it.size=2:=by
   have:(prog.info? 189).map (·.size)=some 2:=by kernel_rfl
   rw[hi]at this;exact adw this
  refine aV rfl rfl (by rfl) (IN (t:=189) rfl hi hz) ?_
  obtain⟨g4,q1,q2,q3,q4,q5,R4⟩:=R.V8 5 (by decide) (by rw[ho];exact λh=>h) [.val .nilFunc,.val .nilFunc] #[.nilFunc,.nilFunc] 189 ⟨rfl,λj h h'=>by
   match j,h with
   |0,_|1,_=>exact .val _ rfl,λj h=>by
   match j,h with
   |0,_|1,_=>rfl⟩ (λg' j h h'=>by
   match j,h with
   |0,_|1,_=>exact⟨trivial,trivial⟩)
  obtain⟨b,hb⟩:∃b,w'.heap.size=b:=⟨_,rfl⟩
  obtain⟨w4,jA⟩:∃w4,w'.alloc (.cells #[.nilFunc,.nilFunc] 189)=w4:=⟨_,rfl⟩
  have Rw:w4.heap[b]?=some (.cells #[.nilFunc,.nilFunc] 189 (0,0)):=by rw[<-jA,<-hb];exact ad4 w' _
  rw[hb]at R4 q5
  obtain⟨a4,ku⟩:∃a4,a.put (some 5) (.pointer (some ⟨b,0,none⟩))=a4:=⟨_,rfl⟩
  show wpOpsIn _ _ _ _ _ [2] (a.put (some 5) (.pointer (some ⟨w'.heap.size,0,none⟩))) (w'.alloc (.cells #[.nilFunc,.nilFunc] 189));rw[hb,jA,ku];rw[jA,ku]at R4
  have g8:a4.tmps.getD 8 undef=.agg #[ko 157,ko 158]:=by rw[<-ku,eB _ _ _ _ (by decide)];exact e8
  have g5:a4.tmps.getD 5 undef=.pointer (some ⟨b,0,none⟩):=by rw[<-ku];exact ir _ _ _ bq (by decide)
  refine dM rfl rfl (by rfl) (D_ (t:=189) (x:=.tmp 5) (y:=.tmp 8) rfl g5 hi Rw g8 (by rw[YW];rfl) (by rw[YW];rfl) (by intro u hu;simp[Value.cells]at hu;rcases hu with rfl|rfl<;>rfl)) ?_;show HQ prog w0 29 _ .normal a4 (w4.setRow b #[ko 157,ko 158])
  have R5:=R4.JI 5 b q5 _ #[ko 157,ko 158] 189 Rw [.val (ko 157),.val (ko 158)] rfl (λj h h'=>by
   match j,h with
   |0,_|1,_=>exact .val _ rfl) (λj h h'=>by
   match j,h with
   |0,_|1,_=>trivial) (λj h=>by
   match j,h with
   |0,_|1,_=>rfl)
  exact⟨g4,_,_,R5,by rw[q2,ho],by simp[ar,s1,bX],by simp[ar,s2,bX],by simp[ar,h2],by simp[ar],by simp[ar]⟩
 .rintro o S2 H2 h;exact⟨λd hd=>by rw[h.1]at hd;exact hd,h⟩
 rintro o S2 H2 ⟨rfl,s1,s2,h2,s5,h5⟩;show SW prog GI 29 none (.seq _ (.seq (.seq _ (.block 0 (.loop _))) (.seq _ .ret))) _ _ _ _;refine dU hG c98.qb.qb.qa (λS H=>S 1=.int .i64 (e:Nat)/\S 2=.box 2 0/\H 2=some (ao s)/\S 5=.box 5 0/\H 5=some [.val (ko 157),.val (ko 158)]/\S 6=.slice .nil []) ?_ ?_
 .simp[c98,af.qa,af.qb,s1,s2,h2,s5,h5,grow]
 clear s1 s2 h2 s5 h5 S2 H2;rintro S2 H2 ⟨s1,s2,h2,s5,h5,s6⟩;refine SW.seq (dU hG c98.qb.qb.qb.qa.qa (C5 s e 0) ?_ ?_)
 .simp[c98,af.qa,af.qb,ao,ae,s1,s2,h2,s5,h5,s6,C5,grow];exact⟨rfl,rfl⟩
 clear s1 s2 h2 s5 h5 s6 S2 H2;intro S3 H3 hF;refine SW.block (SW.loop (λo S' H'=>∃i,o=Old.plain cc w/\i<=s.cells.length/\C5 s e i S' H') (λS' _=>match S' 12 with|.int _ j=>s.cells.length-j.toNat|_=>0) ⟨0,rfl,adZ _,hF⟩ ?_);rintro o S4 H4 ⟨i,rfl,hi,hF⟩;have m12:S4 12=.int .i64 (i:Nat):=hF.2.2.2.2.2.2.2;show SW prog GI 29 none (.seq _ (.seq (.cond _ _ _) (.seq (.block 1 (.seq _ _)) _))) _ _ _ _;refine dU hG zt.qa (λS' H'=>S' 13=.bool (decide (i<s.cells.length))/\C5 s e i S' H') ?_ ?_
 .obtain⟨s1,s2,h2,s5,h5,s6,bG,bU⟩:=hF;simp[c98,zt,af.qa,af.qb,C5,s1,s2,h2,s5,h5,s6,bG,bU]
 rintro S5 H5 ⟨cz,hF⟩
 by_cases au:i<s.cells.length
 case neg=>
  have cH:i=s.cells.length:=by omega
  refine SW.seq (SW.cond rfl false (by show S5 13=_;rw[cz];simp[au]) (SW.exit ?_));subst cH;obtain⟨s1,s2,h2,s5,h5,s6,bG,bU⟩:=hF;have el:(bm e s).take s.cells.length=bm e s:=adn (by simp[bm]);rw[el]at s6;exact Cb S5 H5 s6
 case pos=>
  refine SW.seq (SW.cond rfl true (by show S5 13=_;rw[cz];simp[au]) (SW.skip ?_));show SW prog GI 29 none (.seq (.block 1 (.seq _ _)) _) _ _ _ _;refine SW.seq (SW.block (dU hG zt.qb.qb.qa.qb.qa (λS' H'=>S' 7=.int .i64 (i:Nat)/\C5 s e i S' H') ?_ ?_))
  .obtain⟨s1,s2,h2,s5,h5,s6,bG,bU⟩:=hF;simp[c98,zt,af.qa,af.qb,C5,s1,s2,h2,s5,h5,s6,bG,bU]
  clear cz hF;rintro S6 H6 ⟨s7,hF⟩;have hx:=Z1 hG e he s.cells[i]
  have Nr:(bm e s).take (i+1)=(bm e s).take i++[qK e s.cells[i]]:=by
   rw[afj,ac_ (by simpa[bm]using au)];simp[bm]
  refine SW.mono (Q:=λx o S H=>x=.normal/\o=Old.plain cc w/\S 1=.int .i64 (e:Nat)/\S 2=.box 2 0/\H 2=some (ao s)/\S 5=.box 5 0/\H 5=some [.val (ko 157),.val (ko 158)]/\S 6=grow 3 (ints ((bm e s).take (i+1)))/\S 11=.int .i64 s.cells.length/\S 12=.int .i64 (i:Nat)) ?_ (SW.Yh hG cV (ops':=DQ (qA e) _) (GP _ (by kernel_rfl)) ?_ ?_ (l:=Qz e) ?_ ?_ ?_)
  .rintro x o S7 H7 ⟨rfl,rfl,s1,s2,h2,s5,h5,s6,bG,bU⟩;show SW prog GI 29 none _ _ _ _ _;have hw:IntKind.i64.wrap ((i:Int)+1)=i+1:=aN (by omega);refine SW.og hG cV (by kernel_rfl) (λ_ _ h=>h) (ac:=af.qb zt.qb.qb) (by kernel_rfl) ?_
   have m12:S4 12=.int .i64 (i:Nat):=by assumption
   simp[c98,zt,af.qa,af.qb,C5,thenS,jM.bC,s1,s2,h2,s5,h5,s6,bG,bU,hw];refine⟨⟨i+1,by omega,rfl,by simp⟩,?_⟩;rw[m12];simp;omega
  .rcases he with rfl|rfl<;>kernel_rfl
  .rcases he with rfl|rfl<;>kernel_rfl
  .rcases he with rfl|rfl<;>kernel_rfl
  .intro w0 g a w' py R;obtain⟨s1,s2,h2,s5,h5,s6,bG,bU⟩:=hF;obtain⟨b2,kZ,e2⟩:=jV R (by decide) s2;obtain⟨b5,SU,e5⟩:=jV R (by decide) s5;obtain⟨cs,vs,ty5,k0,k1,k2,k3,k4,k5,k6,k7,k8⟩:=R.box 5 b5 SU;rw[h5]at k0;cases k0
   have ic:vs.size=2:=by rw[<-k5];rfl
   have vb:vs=#[ko 157,ko 158]:=by
    have c0:=k6 0 (by simp) (by omega);have c1:=k6 1 (by simp) (by omega);simp only[List.getElem_cons_zero,List.getElem_cons_succ]at c0 c1;apply aeI
    .simpa using ic
    .intro j h1 h2
     match j,h2 with
     |0,_=>exact(RV.data (al:=cj) _ _ c0).fG
     |1,_=>exact(RV.data (al:=cj) _ _ c1).fG
   subst vb;refine⟨X0 e b2 b5,.inr ⟨R.size,qv R (by decide) s1,e2,e5,by simp,by simp,⟨ty5,k2⟩,by simp,by simp,by simp,by simp⟩,?_⟩;intro i o o' l a w iX lQ hl gE hJ fQ;have hl:l.size=13:=hl;rw[BS,iX]at lQ;simp only[Option.map_some,adS]at lQ
   have flip:∀j,j<13->l.getD j true=l.getD j false:=λj hj=>by simp[ad9,hl,hj]
   have mono:∀j,l.getD j false=true->(l.setIfInBounds i true).getD j false=true:=λj hj=>by
    by_cases pK:i=j
    .subst pK;exact mj (by
      rw[hl]
      exact(ade.1 iX).1)
    .rw[dL pK];exact hj
   rcases hJ with⟨h2,h3⟩|hI
   .have n2:i≠2:=by rintro rfl;rw[flip 2 (by omega),h2]at gE;cases gE
    have n3:i≠3:=by rintro rfl;rw[flip 3 (by omega),h3]at gE;cases gE
    refine⟨?_,.inl λa' w'=>.inl ⟨mono 2 h2,mono 3 h3⟩⟩;subst lQ
    have:qA e i o.op=o.op:=by unfold qA;split<;>first|omega|rfl
    rw[this]
   .have jd:∀ j,(o.after.any fun ed=>Region.binds .any ed && ed.on==j)=true→l.getD j false=true:=fun j hj=>by
     obtain⟨ed,Yq,xC⟩:=af3.1 hj;simp only[adb,adX]at xC;have:=fQ ed Yq xC.1;rwa [xC.2]at this
    have done:l.getD 3 false=true->X0 e b2 b5 (l.setIfInBounds i true)=λ_ _=>True:=λh3=>by
     funext a' w'
     exact eq_true (.inl ⟨mono 2 (hI.c3 h3),mono 3 h3⟩)
    match i,iX with
    |0,iX=>
     have e0:=adw (iX.symm.trans (rfl:_=some _));subst lQ
     have eI:o.op=.move (.tmp 6):=by rw[e0];rfl
     have hd:o.dst=some 15:=by rw[e0];rfl
     refine⟨rfl,.inr λx w' hr=>?_⟩;have jE:(execOp a.eval o).run prog w=.ok x w':=hr;obtain⟨rfl,v,rfl⟩:=nz (by rw[eI]) jE;rw[hd];exact⟨v,rfl,.inr (hI.put 0 15 v (by decide) hl (by decide) (by decide) (λh=>absurd h (by decide)) (λh=>absurd h (by decide)) (by decide) (by decide) (by decide))⟩
    |1,iX=>
     have e0:=adw (iX.symm.trans (rfl:_=some _));subst lQ
     have eI:o.op=.move (.tmp 1):=by rw[e0];rfl
     have hd:o.dst=some 16:=by rw[e0];rfl
     refine⟨rfl,.inr λx w' hr=>?_⟩;have jE:(execOp a.eval o).run prog w=.ok x w':=hr;have DY:a.eval (.tmp 1)=.int .i64 (e:Nat):=hI.t1;rw[run_move (x:=.tmp 1) w eI,DY]at jE;cases jE;rw[hd];exact⟨_,rfl,.inr (hI.put 1 16 _ (by decide) hl (by decide) (by decide) (λ_=>⟨rfl,rfl⟩) (λh=>absurd h (by decide)) (by decide) (by decide) (by decide))⟩
    |2,iX=>
     have e0:=adw (iX.symm.trans (rfl:_=some _));subst lQ
     have eI:o.op=.indexAddr 189 (.tmp 5) (.tmp 16):=by rw[e0];rfl
     have hd:o.dst=some 17:=by rw[e0];rfl
     have qI:a.eval (.tmp 16)=.int .i64 (e:Nat):=hI.t16 (jd 1 (by rw[e0];kernel_rfl));have VE:a.eval (.tmp 5)=.pointer (some ⟨b5,0,none⟩):=hI.t5
     have xC:e<2:=by omega
     have ZM:prog.underlying 189=some (.array 2 186):=by kernel_rfl
     obtain⟨i176,Ue,VH⟩:=bp (P:=prog) (t:=186) (s:=1) (by kernel_rfl)
     have r1:(execOp a.eval o).run prog w=.ok (.value (.pointer (some ⟨b5,e,none⟩))) w:=by
      have:=BC (P:=prog) (w:=w) (o:=o) eI ZM Ue VE qI xC;rw[VH,aeD,ad3]at this;exact this
     have r2:(execOp a.eval { o with op:=qA e 2 o.op }).run prog w=.ok (.value (.pointer (some ⟨b5,e,none⟩))) w:=by
      have hc:DG prog 26 e=some (e,1):=by rcases he with rfl|rfl<;>kernel_rfl
      have:=oV (P:=prog) (w:=w) (a:=a) (o:={ o with op:=qA e 2 o.op }) hc (by decide) rfl VE;rw[ad3]at this;exact this
     refine⟨r1.trans r2.symm,.inr λx w' hr=>?_⟩;have jE:(execOp a.eval o).run prog w=.ok x w':=hr;rw[r1]at jE;cases jE;rw[hd];exact⟨_,rfl,.inr (hI.put 2 17 _ (by decide) hl (by decide) (by decide) (λh=>absurd h (by decide)) (λ_=>⟨rfl,rfl⟩) (by decide) (by decide) (by decide))⟩
    |3,iX=>
     have e0:=adw (iX.symm.trans (rfl:_=some _));subst lQ
     have eI:o.op=.load 186 (.tmp 17):=by rw[e0];rfl
     have hd:o.dst=some 18:=by rw[e0];rfl
     have qN:l.getD 2 false=true:=jd 2 (by rw[e0];kernel_rfl);have h17:a.eval (.tmp 17)=.pointer (some ⟨b5,e,none⟩):=hI.t17 qN;obtain⟨ty,sI⟩:=hI.heap;obtain⟨d,Hj,fk⟩:=js (P:=prog) (t:=186) (by kernel_rfl)
     have r1:(execOp a.eval o).run prog w=.ok (.value (ko (157+e))) w:=
      uC (P:=prog) (o:=o) eI h17 Hj fk sI (by rcases he with rfl|rfl<;>rfl)
     have r2:(execOp a.eval { o with op:=qA e 3 o.op }).run prog w=.ok (.value (ko (157+e))) w:=
      run_move (x:=.func (157+e)) w rfl
     refine⟨r1.trans r2.symm,.inl λa' w'=>.inl ⟨mono 2 qN,?_⟩⟩;exact mj (by omega)
    |4,iX=>
     have e0:=adw (iX.symm.trans (rfl:_=some _));subst lQ
     have eI:o.op=.fieldAddr 31 (.tmp 2) 0:=by rw[e0];rfl
     have hd:o.dst=some 19:=by rw[e0];rfl
     have sT:a.eval (.tmp 2)=.pointer (some ⟨b2,0,none⟩):=hI.t2;have r1:(execOp a.eval o).run prog w=.ok (.value (.pointer (some ⟨b2,0+0,none⟩))) w:=oV (P:=prog) (w:=w) (a:=a) (o:=o) (show DG prog 31 0=some (0,1) by kernel_rfl) (by decide) eI sT;refine⟨rfl,.inr λx w' hr=>?_⟩;have jE:(execOp a.eval o).run prog w=.ok x w':=hr;rw[r1]at jE;cases jE;rw[hd];exact⟨_,rfl,.inr (hI.put 4 19 _ (by decide) hl (by decide) (by decide) (λh=>absurd h (by decide)) (λh=>absurd h (by decide)) (by decide) (by decide) (by decide))⟩
    |5,iX=>
     have e0:=adw (iX.symm.trans (rfl:_=some _));subst lQ
     have eI:o.op=.load 22 (.tmp 19):=by rw[e0];rfl
     have hd:o.dst=some 20:=by rw[e0];rfl
     refine⟨rfl,.inr λx w' hr=>?_⟩;have jE:(execOp a.eval o).run prog w=.ok x w':=hr;obtain⟨rfl,v,rfl⟩:=nz (by rw[eI]) jE;rw[hd];exact⟨v,rfl,.inr (hI.put 5 20 v (by decide) hl (by decide) (by decide) (λh=>absurd h (by decide)) (λh=>absurd h (by decide)) (by decide) (by decide) (by decide))⟩
    |6,iX=>
     have e0:=adw (iX.symm.trans (rfl:_=some _));subst lQ
     have eI:o.op=.move (.tmp 7):=by rw[e0];rfl
     have hd:o.dst=some 21:=by rw[e0];rfl
     refine⟨rfl,.inr λx w' hr=>?_⟩;have jE:(execOp a.eval o).run prog w=.ok x w':=hr;obtain⟨rfl,v,rfl⟩:=nz (by rw[eI]) jE;rw[hd];exact⟨v,rfl,.inr (hI.put 6 21 v (by decide) hl (by decide) (by decide) (λh=>absurd h (by decide)) (λh=>absurd h (by decide)) (by decide) (by decide) (by decide))⟩
    |7,iX=>
     have e0:=adw (iX.symm.trans (rfl:_=some _));subst lQ
     have eI:o.op=.indexAddr 22 (.tmp 20) (.tmp 21):=by rw[e0];rfl
     have hd:o.dst=some 22:=by rw[e0];rfl
     refine⟨rfl,.inr λx w' hr=>?_⟩;have jE:(execOp a.eval o).run prog w=.ok x w':=hr;obtain⟨rfl,v,rfl⟩:=nz (by rw[eI]) jE;rw[hd];exact⟨v,rfl,.inr (hI.put 7 22 v (by decide) hl (by decide) (by decide) (λh=>absurd h (by decide)) (λh=>absurd h (by decide)) (by decide) (by decide) (by decide))⟩
    |8,iX=>
     have e0:=adw (iX.symm.trans (rfl:_=some _));subst lQ
     have eI:o.op=.load 52 (.tmp 22):=by rw[e0];rfl
     have hd:o.dst=some 23:=by rw[e0];rfl
     refine⟨rfl,.inr λx w' hr=>?_⟩;have jE:(execOp a.eval o).run prog w=.ok x w':=hr;obtain⟨rfl,v,rfl⟩:=nz (by rw[eI]) jE;rw[hd];exact⟨v,rfl,.inr (hI.put 8 23 v (by decide) hl (by decide) (by decide) (λh=>absurd h (by decide)) (λh=>absurd h (by decide)) (by decide) (by decide) (by decide))⟩
    |9,iX=>
     have e0:=adw (iX.symm.trans (rfl:_=some _));subst lQ;exact⟨rfl,.inl λa' w'=>by rw[done (jd 3 (by rw[e0];kernel_rfl))];trivial⟩
    |10,iX=>
     have e0:=adw (iX.symm.trans (rfl:_=some _));subst lQ;exact⟨rfl,.inl λa' w'=>by rw[done (hI.c9 (jd 9 (by rw[e0];kernel_rfl)))];trivial⟩
    |11,iX=>
     have e0:=adw (iX.symm.trans (rfl:_=some _));subst lQ;exact⟨rfl,.inl λa' w'=>by rw[done (hI.c9 (hI.c10 (jd 10 (by rw[e0];kernel_rfl))))];trivial⟩
    |12,iX=>
     have e0:=adw (iX.symm.trans (rfl:_=some _));subst lQ;exact⟨rfl,.inl λa' w'=>by rw[done (hI.c9 (hI.c10 (hI.c11 (jd 11 (by rw[e0];kernel_rfl)))))];trivial⟩
    |k+13,iX=>exact absurd iX (by simp)
  .obtain⟨s1,s2,h2,s5,h5,s6,bG,bU⟩:=hF;simp only[Qz];simp[s1,s2,h2,s5,h5,s7,bG,bU,ao,ae,au,iK];refine AR (k:=157+e) (v:=.int .i64 (qK e s.cells[i])) (by simp[ar]) (by rcases he with rfl|rfl<;>kernel_rfl) (by simp[ev,ar,df]) (by simpa[ev,ar,fz,gI,iK,AV.vw,AV.bH]using hx) ?_;refine B2 (l:=(bm e s).take i) (x:=qK e s.cells[i]) (by simp only[bj _ _ (show(15:Nat)≠24 by decide),bj _ _ (show(15:Nat)≠23 by decide),bj _ _ (show(15:Nat)≠22 by decide),bj _ _ (show(15:Nat)≠21 by decide),bj _ _ (show(15:Nat)≠20 by decide),bj _ _ (show(15:Nat)≠19 by decide),bj _ _ (show(15:Nat)≠18 by decide),bj _ _ (show(15:Nat)≠17 by decide),bj _ _ (show(15:Nat)≠16 by decide),aS];exact s6) (aS _ _ _) (by simp;omega) ?_;intro S' d1 d2;rw[Nr];refine⟨?_,?_,?_,?_,h5,d1,?_,?_⟩
   .rw[d2 1 (by decide)];simp[ar,s1]
   .rw[d2 2 (by decide)];simp[ar,s2]
   .rw[h2];rfl
   .rw[d2 5 (by decide)];simp[ar,s5]
   .rw[d2 11 (by decide)];simp[ar,bG]
   .rw[d2 12 (by decide)];simp[ar,bU]
theorem B7(hG:aw GI)(s:az)(hs:s.cells.length<1000)(e:Nat)(he:e=0\/e=1):AC prog GI 98 [a_ s,.int .i64 (e:Nat)] (.ret (vI (bm e s))):=by
 refine AC.iA (o:=if bm e s=[]then .nil else .view) ?_
 refine AC.iF func98 rfl ntmps98 (by simp) λcc w=>RT hG s hs e he cc w λS5 H5 s6=>?_
 show SW prog GI 29 none (.seq _ .ret) _ _ _ _;refine SW.og hG cV (by kernel_rfl) (λ_ _ h=>h) (ac:=af.qb c98.qb.qb.qb) (by kernel_rfl) ?_
 by_cases h0:bm e s=[]
 .have Fq:S5 6=.slice .nil []:=by rw[s6,h0];rfl
  simp[c98,af.qb,jM.bC,IT,Fq,h0];exact⟨eD.plain rfl,rfl,rfl⟩
 .have BL:ints (bm e s)≠[]:=by simpa[ints]using h0
  have Fq:S5 6=.slice (.own 3) (ints (bm e s)):=by rw[s6];simp[grow,BL]
  simp[c98,af.qb,jM.bC,IT,Fq,h0]
  try exact⟨eD.plain rfl,rfl⟩
theorem UT{a b:List Int}{i:Nat}(hb:∀j (h1:j<a.length)(h2:j<b.length),j<i->a[j]=b[j])(Pj:i<=a.length)(kg:i<=b.length):pD a b=pD (a.drop i) (b.drop i):=by
 have e:a.take i=b.take i:=by
  apply afg
  .simp;omega
  .intro j h1 h2;simp at h1 h2;simp;exact hb j (by omega) (by omega) (by omega)
 conv=>lhs;rw[<-aeq i a,<-aeq i b,e]
 exact N1 _ _ _
theorem acL(hG:aw GI)(a b:List Int)(ha:a.length<1000000):AC prog GI 72 [vI a,vI b] (.ret (.bool (pD a b))):=by
 refine bW hG func72 ntmps72 c72 ?_;simp[c72];refine bw 5 (min a.length b.length) (λi S H=>S 0=vI a/\S 1=vI b/\S 5=.int .i64 (i:Nat)/\∀j (h1:j<a.length)(h2:j<b.length),j<i->a[j]=b[j]) (λi S H h=>h.2.2.1) ⟨by simp,by simp,by simp,λj _ _ h=>absurd h (afm _)⟩ ?_;rintro i hi S H ⟨s0,s1,s5,hb⟩;have hbd:=UT hb (by omega) (by omega)
 by_cases h1:i<a.length
 case neg=>
  have hn:¬(i:Int)<a.length:=by omega
  have cH:i=a.length:=by omega
  rw[hbd,cH,afq]
  by_cases h2:a.length<b.length
  .have sT:(a.length:Int)<b.length:=by omega
   rw[aek h2];simp[s0,s1,s5,hn,sT,pD]
  .have sT:¬(a.length:Int)<b.length:=by omega
   rw[List.drop_of_length_le (by omega)];simp[s0,s1,s5,hn,sT,pD]
 by_cases h2:i<b.length
 case neg=>
  have hn:¬(i:Int)<b.length:=by omega
  have sT:¬(a.length:Int)<b.length:=by omega
  rw[hbd,aek h1,List.drop_of_length_le (show b.length<=i by omega)];simp[s0,s1,s5,hn,h1,sT,pD]
 have hw:IntKind.i64.wrap ((i:Int)+1)=i+1:=aN (by omega)
 by_cases he:a[i]=b[i]
 .simp[s0,s1,s5,h1,h2,hw,he];refine⟨by omega,λj hj1 R9 gw=>?_⟩
  by_cases e:j=i
  .subst e;exact he
  .exact hb j hj1 R9 (by omega)
 .have DX:pD a b=decide (a[i] < b[i]):=by
   rw[hbd,aek h1,aek h2];show(if a[i]=b[i]then _ else decide (a[i]<b[i]))=_;rw[if_neg he]
  have cI:(a[i]!=b[i])=true:=by simpa using he
  simp[s0,s1,s5,h1,h2,cI,DX]
theorem Kl:(∀k n,(AV.int k n).aG=.int k n)/\(∀b,(AV.bool b).aG=.bool b)/\(∀l,(AV.str l).aG=.str l)/\(∀l,(AV.slice .view l).aG=.slice .view l)/\(∀l,(AV.slice .nil l).aG=.slice .nil l)/\(∀e l,(AV.slice (.own e) l).aG=.slice .view l)/\(∀cs,(AV.agg cs).aG=.agg cs)/\(∀cs,(AV.dN cs).aG=.dN cs)/\(∀cs,(AV.ref cs).aG=.ref cs)/\(∀i o,(AV.box i o).aG=.box i o)/\(∀t v,(AV.iface t v).aG=.iface t v)/\∀v:AV,v.aG.aG=v.aG:=
 ⟨λ_ _=>rfl,λ_=>rfl,λ_=>rfl,λ_=>rfl,λ_=>rfl,λ_ _=>rfl,λ_=>rfl,λ_=>rfl,λ_=>rfl,λ_ _=>rfl,λ_ _=>rfl,AV.idem⟩
theorem La:(∀k n,(AV.int k n).bH=.int k n)/\(∀b,(AV.bool b).bH=.bool b)/\(∀l,(AV.str l).bH=.str l)/\(∀o l,(AV.slice o l).bH=.slice .view l)/\(∀cs,(AV.agg cs).bH=.agg cs)/\(∀cs,(AV.dN cs).bH=.dN cs)/\(∀cs,(AV.ref cs).bH=.ref cs)/\∀t v,(AV.iface t v).bH=.iface t v:=
 ⟨λ_ _=>rfl,λ_=>rfl,λ_=>rfl,λ_ _=>rfl,λ_=>rfl,λ_=>rfl,λ_=>rfl,λ_ _=>rfl⟩
theorem H_(e:Nat)(l:List AV):(grow e l).aG=.slice (if l=[]then .nil else .view) l:=by
 unfold grow
 by_cases h:l=[]<;>simp[h,AV.aG]
theorem xy(e:Nat)(l:List AV):(grow e l).aG.bH=.slice .view l:=by
 rw[H_];rfl
end Go.Proofs.Tryz
namespace Go.Proofs.Tryz
open Go Go.AL Go.RowKit Go.Proofs Go.Proofs.Tram
attribute [local simp] dF fc nC ml ef dI dJ cZ c_ ee cW cE gh gj aF aH ev aQ.S aQ.H bz ar aT AL.start AV.cells AV.storable AV.bZ bo bX dS b0 HR.okB post cy cJ cK AV.out AV.bT cb dk fz gI AV.vw df vI int b_ aM cU db gB iN eY dQ bQ AV.aG AV.bH
variable{GI:World->Prop}
def np(l:List End):AV:=grow 46 (l.map aX)
theorem DS{s:aq}{out:List Int}{n:Nat}(h:n<s.words.length)(hc:out.contains (n:Int)=false):fN s out n=(s.words[n].bK.map λk=>((n:Int),k))++[((n:Int),(s.words[n].aK.length:Int))]:=by
 unfold fN;rw[hc,ac_ h]
 rfl
theorem AO{s:aq}{out:List Int}{n:Nat}(hc:out.contains (n:Int)=true):fN s out n=[]:=by
 unfold fN;rw[hc]
 rfl
def kc(s:aq)(out:List Int)(i:Nat):List End:=(List.range i).flatMap (fN s out)
theorem uP(s:aq)(out:List Int)(i:Nat):kc s out (i+1)=kc s out i++fN s out i:=by unfold kc;rw[adY,aee,aez]
theorem U0(hG:aw GI)(s:aq)(hs:mG s)(out:List Int)(ho:out.length<1000000):AC prog GI 188 [bP s,vI out] (.ret (.slice .view (aO (gV s out)))):=by
 have q3:=hs.words;refine AC.iA (o:=if gV s out=[]then .nil else .view) ?_;refine bW hG func188 ntmps188 c188 ?_;simp[c188,ai,ah,bP,ae];refine bw 12 s.words.length (λi S H=>S 1=vI out/\S 2=.box 2 0/\H 2=some (ae s)/\S 11=.int .i64 s.words.length/\S 12=.int .i64 (i:Nat)/\S 5=np (kc s out i)/\(kc s out i).length<=1001*i) (λi S H h=>h.2.2.2.2.1) ⟨by simp[ai,ah],by simp[ai,ah],by simp[ai,ah,ae],by simp[ai,ah],by simp[ai,ah],by simp[ai,ah,np,kc,grow],by simp[kc]⟩ ?_;rintro i hi S H ⟨s1,s2,e2,bG,bU,s5,hl⟩
 by_cases au:i<s.words.length
 case neg=>
  have cH:i=s.words.length:=by omega
  subst cH;have s5:S 5=np (gV s out):=s5
  by_cases h0:gV s out=[]
  .rw[h0]at s5
   have jO:S 5=.slice .nil []:=by rw[s5];simp[np,grow]
   simp[ai,ah,s1,s2,e2,bG,bU,jO,h0,aO]
  .have jO:S 5=.slice (.own 46) ((gV s out).map aX):=by rw[s5];simp[np,grow,h0]
   simp[ai,ah,s1,s2,e2,bG,bU,jO,h0,aO]
 have hw:IntKind.i64.wrap ((i:Int)+1)=i+1:=aN (by omega);have Ga:=hs.bK _ (ada au);have hr:=uP s out i;generalize hL:kc s out i=L at s5 hl hr;simp[ai,ah,s1,s2,e2,bG,bU,au];refine⟨_,by kernel_rfl,EX hG out ho i,λ_=>rfl,?_⟩;cases hc:out.contains (i:Int)
 case true=>
  have jE:kc s out (i+1)=L:=by rw[hr,AO hc,adT]
  rw[jE];simp[ai,ah,s1,s2,e2,bG,bU,s5,hw,au];omega
 have hew:=DS au hc;simp[ai,ah,s1,s2,e2,bG,bU,au,ae,bD];refine bw 25 s.words[i].bK.length (λj S H=>S 1=vI out/\S 2=.box 2 0/\H 2=some (ae s)/\S 11=.int .i64 s.words.length/\S 12=.int .i64 (i:Nat)/\S 6=.int .i64 (i:Nat)/\S 23=vI s.words[i].bK/\S 24=.int .i64 s.words[i].bK.length/\S 25=.int .i64 (j:Nat)/\S 5=np (L++(s.words[i].bK.take j).map λk=>((i:Int),k))) (λi S H h=>h.2.2.2.2.2.2.2.2.1) ⟨by simp[ai,ah,s1],by simp[ai,ah,s2],by simp[ai,ah,e2,ae],by simp[ai,ah,bG],by simp[ai,ah,bU],by simp[ai,ah],by simp[ai,ah],by simp[ai,ah],by simp[ai,ah],by simp[ai,ah,s5]⟩ ?_;clear s1 s2 e2 bG bU s5 S H;rintro j hj S H ⟨s1,s2,e2,bG,bU,s6,pw,u_,lS,s5⟩
 by_cases Ty:j<s.words[i].bK.length
 .have U3:IntKind.i64.wrap ((j:Int)+1)=j+1:=aN (by omega);have lT:s.words[i].bK.take (j+1)=s.words[i].bK.take j++[s.words[i].bK[j]]:=adj Ty
  have hlen:(L++(s.words[i].bK.take j).map λk=>((i:Int),k)).length<1040000:=by
   simp only[adq,adi,adM];omega
  rw[lT,adD,<-aef];generalize(L++(s.words[i].bK.take j).map λk=>((i:Int),k))=M at s5 hlen⊢;have dT:aJ 2 [AV.agg [AV.int .i64 (i:Nat),AV.int .i64 s.words[i].bK[j]]]=true:=rfl;simp[s1,s2,e2,bG,bU,s6,pw,u_,lS,Ty,dT];refine fx (M.map aX) (aX ((i:Int),s.words[i].bK[j])) (.own 46) (by simp[s5,np]) (by simp[aX]) rfl (qw _) (by rw[adi];omega) ?_;intro S' sd hk;simp[sd,hk,s1,s2,e2,bG,bU,s6,pw,u_,lS,U3,Ty,np]
 .have nc:j=s.words[i].bK.length:=by omega
  subst nc;rw[aea]at s5
  have hlen:(L++s.words[i].bK.map λk=>((i:Int),k)).length<=1001*i+1000:=by
   simp only[adq,adi];omega
  rw[hr,hew,<-aef];generalize(L++s.words[i].bK.map λk=>((i:Int),k))=M at s5 hlen⊢;have dT:aJ 2 [AV.agg [AV.int .i64 (i:Nat),AV.int .i64 s.words[i].aK.length]]=true:=rfl;simp[s1,s2,e2,bG,bU,s6,pw,u_,lS,au,dT,ae,bD];refine fx (M.map aX) (aX ((i:Int),(s.words[i].aK.length:Int))) (.own 46) (by simp[s5,np]) (by simp[aX]) rfl (qw _) (by rw[adi];omega) ?_;intro S' sd hk;simp[sd,hk,s1,s2,e2,bG,bU,hw,au,np,ae];omega
def okO(s:aq)(n:Int):Bool:=bO n 0 (s.words.length-1)&&!hZ s n
theorem KV(s:aq)(out:List Int):cq s out=(iz (okO s) (λa b=>decide (a<b)) out&&decide (out.length<s.words.length)):=by
 unfold cq eo;rw[ad7];simp only[adb,eu,adf,okO,adP,ad5]
 constructor
 .rintro⟨⟨⟨h1,h2⟩,h3⟩,h4⟩;exact⟨⟨λx hx=>⟨h1 x hx,by simpa using h4 x hx⟩,h2⟩,h3⟩
 .rintro⟨⟨h1,h2⟩,h3⟩;exact⟨⟨⟨λx hx=>(h1 x hx).1,h2⟩,h3⟩,λx hx=>by simpa using(h1 x hx).2⟩
theorem V2(hG:aw GI)(s:aq)(hs:mG s)(l:List Int)(hl:l.length<1000000):AC prog GI 68 [bP s,vI l] (.ret (.bool (cq s l))):=by
 have q3:=hs.words;have pv:IntKind.i64.wrap ((s.words.length:Int)-1)=s.words.length-1:=aN (by omega);rw[KV];refine bW hG func68 ntmps68 c68 ?_;simp[c68,ai,ah,bP,ae];refine bw 5 l.length (λi S H=>S 1=vI l/\S 2=.box 2 0/\H 2=some (ae s)/\S 5=.int .i64 (i:Nat)/\(∀j (hj:j<l.length),j<i->okO s l[j]=true)/\∀j (hj:j+1<l.length),j+1<i->decide (l[j]<l[j+1])=true) (λi S H h=>h.2.2.2.1) ⟨by simp[ai,ah],by simp[ai,ah],by simp[ai,ah,ae],by simp[ai,ah],by simp,by simp⟩ ?_;rintro i hi S H ⟨s1,s2,e2,s5,hb,hc⟩
 by_cases au:i<l.length
 case neg=>
  have cH:i=l.length:=by omega
  subst cH;have hr:iz (okO s) (λa b=>decide (a<b)) l=true:=mD (λj hj=>hb j hj hj) (λj hj=>hc j hj hj)
  by_cases hw:l.length<s.words.length
  .have LW:(l.length:Int)<s.words.length:=by omega
   simp[ai,ah,s1,s2,e2,s5,ae,hr,hw]
  .have LW:¬(l.length:Int)<s.words.length:=by omega
   simp[ai,ah,s1,s2,e2,s5,ae,hr,hw]
 have hw:IntKind.i64.wrap ((i:Int)+1)=i+1:=aN (by omega);simp[ai,ah,s1,s2,e2,s5,au,ae,pv];refine⟨_,by kernel_rfl,oR hG l[i] 0 (s.words.length-1),λ_=>rfl,?_⟩;cases hp:bO l[i] 0 (s.words.length-1)
 .have hr:iz (okO s) (λa b=>decide (a<b)) l=false:=jX au (by simp[okO,hp]);simp[ai,ah,hr]
 have hrg:0<=l[i]/\l[i]<s.words.length:=by
  simp[bO]at hp;omega
 obtain⟨k,hk⟩:∃k:Nat,l[i]=k:=⟨l[i].toNat,by omega⟩
 have iQ:k<s.words.length:=by omega
 have X8:hZ s l[i]=!s.words[k].free:=by unfold hZ;rw[hk,Int.toNat_natCast,ac_ iQ]
 cases hf:s.words[k].free
 .have hr:iz (okO s) (λa b=>decide (a<b)) l=false:=jX au (by simp[okO,hp,X8,hf]);simp[ai,ah,s1,s2,e2,s5,au,ae,bD,hk,iQ,hf,hr]
 have cP:okO s l[i]=true:=by simp[okO,hp,X8,hf]
 cases i with
 |zero=>
  simp[ai,ah,s1,s2,e2,s5,au,ae,bD,hk,iQ,hf];exact⟨aN (by omega),λj hj ve=>by subst ve;exact cP⟩
 |succ m=>
  have uh:IntKind.i64.wrap (m:Int)=m:=aN (by omega);have gD:IntKind.i64.wrap ((m:Int)+1+1)=m+1+1:=aN (by omega)
  have vK:m<l.length:=by omega
  have h0:(0:Int)<(m:Int)+1:=by omega
  have MT:(0:Int)<=(m:Int)+1:=by omega
  by_cases hle:(k:Int)<=l[m]
  .have hr:iz (okO s) (λa b=>decide (a<b)) l=false:=kn (lt:=λa b=>decide (a<b)) au (by rw[aew];omega);simp[ai,ah,s1,s2,e2,s5,au,ae,bD,hk,iQ,hf,uh,vK,h0,MT,hle,hr]
  .simp[ai,ah,s1,s2,e2,s5,au,ae,bD,hk,iQ,hf,uh,vK,h0,MT,hle,gD];exact⟨jY au hb cP,λj hj ye=>by simpa using qB (lt:=λa b=>decide (a<b)) au hc (by rw[adf];omega) j hj (by omega)⟩
theorem qC{s:aq}(hs:aU s=true){g:Nat×Nat}(h:FM s g):C1 s (bh s g):=GF hs h
theorem VA(hG:aw GI)(s:aq)(hs:aU s=true){l:List (Nat×Nat)}(hl:l.length<10000)(jJ:∀g∈l,FM s g)(cut:Bool)(x:Int):AC prog GI 212 [fl s,Fb l cut,.int .i64 x] (.ret (.int .i64 (fZ s (l.map (bh s)) l.length+(if cut then s.cG else 0)))):=by
 have hF:=eg hs;have pv:=hF.RU
 have hb:∀x∈(l.map λg=>gu s (bh s g)),0<=x/\x<=1000:=by
  intro x hx;obtain⟨g,hg,rfl⟩:=adx.1 hx;have:=rY hF (qC hs (jJ g hg));omega
 have uR:fZ s (l.map (bh s)) l.length=(l.map λg=>gu s (bh s g)).sum:=by
  have:=uQ s (l.map (bh s)) l.length (by simp);rw[this,adn (by simp),aeh];rfl
 have BT:(l.map λg=>gu s (bh s g)).length<10000:=by rw[adi];exact hl
 rw[uR];refine bW hG func212 ntmps212 c212 ?_;refine aI (λS H=>S 3=.box 3 0/\S 4=.box 4 0/\H 3=some (aP s)/\H 4=some [.slice .view (l.map gA),.bool cut]) (by simp[ai,ah,fl,aP,Fb,A1,ae,bt]) ?_;rintro S H ⟨s3,s4,e3,e4⟩;refine aI (λS H=>S 3=.box 3 0/\S 4=.box 4 0/\H 3=some (aP s)/\H 4=some [.slice .view (l.map gA),.bool cut]/\S 7=fe []) (by simp[ai,ah,s3,s4,e3,e4,fe,grow]) ?_;clear s3 s4 e3 e4 S H;rintro S H ⟨s3,s4,e3,e4,s7⟩;refine aI (λS H=>S 3=.box 3 0/\S 4=.box 4 0/\H 3=some (aP s)/\H 4=some [.slice .view (l.map gA),.bool cut]/\S 7=fe (l.map λg=>gu s (bh s g))) ?_ ?_
 .simp[ai,ah,s3,s4,e3,e4];refine bw 13 l.length (λi S H=>S 3=.box 3 0/\S 4=.box 4 0/\H 3=some (aP s)/\H 4=some [.slice .view (l.map gA),.bool cut]/\S 11=.slice .view (l.map gA)/\S 12=.int .i64 l.length/\S 13=.int .i64 (i:Nat)/\S 7=fe ((l.take i).map λg=>gu s (bh s g))) (λi S H h=>h.2.2.2.2.2.2.1) ⟨by simp[ai,ah,s3],by simp[ai,ah,s4],by simp[ai,ah,e3],by simp[ai,ah,e4],by simp[ai,ah],by simp[ai,ah],by simp[ai,ah],by simp[ai,ah,s7]⟩ ?_;clear s3 s4 e3 e4 s7 S H;rintro i hi S H ⟨s3,s4,e3,e4,bG,bU,cz,s7⟩
  by_cases au:i<l.length
  case neg=>
   have cH:i=l.length:=by omega
   subst cH;rw[aea]at s7;simp[ai,ah,s3,s4,e3,e4,bG,bU,cz,s7]
  have hw:IntKind.i64.wrap ((i:Int)+1)=i+1:=aN (by omega)
  obtain⟨k,hk⟩:∃k:Nat,(bh s l[i]).2=k:=⟨(bh s l[i]).2.toNat,by have:=(qC hs (jJ _ (ada au))).1;omega⟩
  have iQ:k<s.aY.length:=by have:=(qC hs (jJ _ (ada au))).2;omega
  have lE:gu s (bh s l[i])=s.aY[k]:=by
   unfold gu;rw[hk,if_neg (by omega),Int.toNat_natCast,ac_ iQ];rfl
  rw[adj au,adD,List.map_singleton,lE]
  have hlen:((l.take i).map λg=>gu s (bh s g)).length<1000000:=by
   rw[adi,adM];omega
  generalize((l.take i).map λg=>gu s (bh s g))=L at s7 hlen⊢;simp[s3,s4,e3,e4,bG,bU,cz,s7,au,gA,aP,ae,bt];refine oc (FV hG s (jJ _ (ada au))) ?_;have dT:aJ 1 [AV.int .i64 s.aY[k]]=true:=rfl;simp[s3,s4,e3,e4,bG,bU,cz,s7,au,aP,ae,bt,hk,iQ,dT];refine pn (L.map (AV.int .i64)) (AV.int .i64 s.aY[k]) (.own 3) (by simp[s7,fe,grow]) (by simp) rfl (kA _) (by rw[adi];omega) ?_;intro S' sd dP;simp[sd,dP,s3,s4,e3,e4,bG,bU,cz,au,hw,fe,aP,ae,bt]
 clear s3 s4 e3 e4 s7 S H;rintro S H ⟨s3,s4,e3,e4,s7⟩;refine aI (λS H=>S 7=fe ((l.map λg=>gu s (bh s g))++if cut then[s.cG]else[])) ?_ ?_
 .cases cut with
  |false=>simp[ai,ah,s3,s4,e3,e4,s7]
  |true=>
   have dT:aJ 1 [AV.int .i64 s.cG]=true:=rfl;generalize(l.map λg=>gu s (bh s g))=L at s7 BT⊢;simp[s3,s4,e3,e4,s7,aP,ae,bt,dT];refine fx (L.map (AV.int .i64)) (AV.int .i64 s.cG) (.own 3) (by simp[fe]) (by simp) rfl (kA _) (by rw[adi];omega) ?_;intro S' sd dP;simp[sd,dP,fe]
 clear s3 s4 e3 e4 s7 S H;rintro S H s7;have hh:=hF.cG
 have iU:∀x∈((l.map λg=>gu s (bh s g))++if cut then[s.cG]else[]),0<=x/\x<=1000:=by
  intro x hx;rcases adm.1 hx with hx|hx
  .exact hb x hx
  .cases cut with
   |false=>simp at hx
   |true=>simp at hx;omega
 have Ei:((l.map λg=>gu s (bh s g))++if cut then[s.cG]else[]).sum=(l.map λg=>gu s (bh s g)).sum+if cut then s.cG else 0:=by
  rw[aeC]
  cases cut<;>simp
 have qN:((l.map λg=>gu s (bh s g))++if cut then[s.cG]else[]).length<100000:=by
  rw[adq]
  cases cut<;>simp<;>omega
 rw[<-Ei];generalize((l.map λg=>gu s (bh s g))++if cut then[s.cG]else[])=L at s7 iU qN⊢;rcases sg L with⟨hg,rfl⟩|hg
 .rw[hg]at s7;simp[ai,ah,s7];refine oc (AK hG [] qN iU) ?_;simp[ai,ah]
 .rw[hg]at s7;simp[ai,ah,s7];refine oc (AK hG L qN iU) ?_;simp[ai,ah]
theorem SI(hG:aw GI)(s:aq)(hs:aU s=true){l:List (Nat×Nat)}(cI:l≠[])(hl:l.length<10000)(jJ:∀g∈l,FM s g)(cut:Bool){st:Int}(h0:0<=st)(h1:st<=10):AC prog GI 213 [fl s,Fb l cut,.int .i64 st] (.ret (.int .i64 (gk s st (l.map (bh s)) (l.length-1)+(if cut then jb s.ib s.g_ st else 0)))):=by
 have hF:=eg hs;have gf:=adV.2 cI
 have uR:gk s st (l.map (bh s)) (l.length-1)=(gO s st (l.map (bh s)) l.length).sum:=by
  have:=y6 (s:=s) (st:=st) (l:=l.map (bh s)) (l.length-1) (by rw[adi];omega);rw[show l.length-1+1=l.length by omega]at this;exact this.symm
 rw[uR];refine bW hG func213 ntmps213 c213 ?_;refine aI (λS H=>S 2=.int .i64 st/\S 3=.box 3 0/\S 4=.box 4 0/\H 3=some (aP s)/\H 4=some [.slice .view (l.map gA),.bool cut]) (by simp[ai,ah,fl,aP,Fb,A1,ae,bt]) ?_;rintro S H ⟨s2,s3,s4,e3,e4⟩;refine aI (λS H=>S 2=.int .i64 st/\S 3=.box 3 0/\S 4=.box 4 0/\H 3=some (aP s)/\H 4=some [.slice .view (l.map gA),.bool cut]/\S 7=fe []) (by simp[ai,ah,s2,s3,s4,e3,e4,fe,grow]) ?_;clear s2 s3 s4 e3 e4 S H;rintro S H ⟨s2,s3,s4,e3,e4,s7⟩;refine aI (λS H=>S 2=.int .i64 st/\S 3=.box 3 0/\S 4=.box 4 0/\H 3=some (aP s)/\H 4=some [.slice .view (l.map gA),.bool cut]/\S 7=fe (gO s st (l.map (bh s)) l.length)) ?_ ?_
 .simp[ai,ah,s2,s3,s4,e3,e4];refine bw 13 l.length (λi S H=>S 2=.int .i64 st/\S 3=.box 3 0/\S 4=.box 4 0/\H 3=some (aP s)/\H 4=some [.slice .view (l.map gA),.bool cut]/\S 11=.slice .view (l.map gA)/\S 12=.int .i64 l.length/\S 13=.int .i64 (i:Nat)/\S 7=fe (gO s st (l.map (bh s)) i)) (λi S H h=>h.2.2.2.2.2.2.2.1) ⟨by simp[ai,ah,s2],by simp[ai,ah,s3],by simp[ai,ah,s4],by simp[ai,ah,e3],by simp[ai,ah,e4],by simp[ai,ah],by simp[ai,ah],by simp[ai,ah],by simp[ai,ah,s7,gO]⟩ ?_;clear s2 s3 s4 e3 e4 s7 S H;rintro i hi S H ⟨s2,s3,s4,e3,e4,bG,bU,cz,s7⟩
  by_cases au:i<l.length
  case neg=>
   have cH:i=l.length:=by omega
   subst cH;simp[ai,ah,s2,s3,s4,e3,e4,bG,bU,cz,s7]
  have hw:IntKind.i64.wrap ((i:Int)+1)=i+1:=aN (by omega)
  cases i with
  |zero=>
   have MS:S 7=.slice .nil []:=by rw[s7];rfl
   simp[ai,ah,s2,s3,s4,e3,e4,bG,bU,cz,MS,au,gA];exact⟨aN (by omega),by simp[gO,fe,grow]⟩
  |succ m=>
   have vK:m<l.length:=by omega
   have Jx:gO s st (l.map (bh s)) (m+1+1)=gO s st (l.map (bh s)) (m+1)++[kf s st (bh s l[m]) (bh s l[m+1])]:=by
    rw[wy (by simpa using au)];simp
   have hlen:(gO s st (l.map (bh s)) (m+1)).length<1000000:=by have:=ua (s:=s) (st:=st) (l:=l.map (bh s)) (m+1);omega
   rw[Jx];have uh:IntKind.i64.wrap (m:Int)=m:=aN (by omega);have gD:IntKind.i64.wrap ((m:Int)+1+1)=m+1+1:=aN (by omega)
   have Py:(0:Int)<(m:Int)+1:=by omega
   have aaK:(0:Int)<=(m:Int)+1:=by omega
   have jN:(m:Int)+1<l.length:=by omega
   generalize gO s st (l.map (bh s)) (m+1)=L at s7 hlen⊢;have dT:aJ 1 [AV.int .i64 (kf s st (bh s l[m]) (bh s l[m+1]))]=true:=rfl;simp[s2,s3,s4,e3,e4,bG,bU,cz,s7,au,gA,aP,ae,bt,uh,Py,aaK,vK,jN];refine oc (Tn hG s hF (jJ _ (ada vK)) (jJ _ (ada au)) h0 h1) ?_;simp[s2,s3,s4,e3,e4,bG,bU,cz,s7,dT];refine pn (L.map (AV.int .i64)) (AV.int .i64 (kf s st (bh s l[m]) (bh s l[m+1]))) (.own 3) (by simp[s7,fe,grow]) (by simp) rfl (kA _) (by rw[adi];omega) ?_;intro S' sd dP;simp[sd,dP,s2,s3,s4,e3,e4,bG,bU,cz,au,jN,gD,fe,aP,ae,bt]
 clear s2 s3 s4 e3 e4 s7 S H;rintro S H ⟨s2,s3,s4,e3,e4,s7⟩;have Io:=jI hF.o.2.1 h0 h1
 have BT:(gO s st (l.map (bh s)) l.length).length<10000:=by have:=ua (s:=s) (st:=st) (l:=l.map (bh s)) l.length;omega
 have hb:∀x∈gO s st (l.map (bh s)) l.length,0<=x/\x<=1000:=λx hx=>by have:=zu hF h0 h1 _ x hx;omega
 refine aI (λS H=>S 7=fe (gO s st (l.map (bh s)) l.length++if cut then[jb s.ib s.g_ st]else[])) ?_ ?_
 .cases cut with
  |false=>simp[ai,ah,s2,s3,s4,e3,e4,s7]
  |true=>
   have dT:aJ 1 [AV.int .i64 (jb s.ib s.g_ st)]=true:=rfl;generalize gO s st (l.map (bh s)) l.length=L at s7 BT⊢;simp[s2,s3,s4,e3,e4,s7,aP,ae,bt];refine oc (AZ hG hF.o.1 hF.o.2.1 (by have:=hF.o.2.2;omega) h0 h1) ?_;simp[dT];refine fx (L.map (AV.int .i64)) (AV.int .i64 (jb s.ib s.g_ st)) (.own 3) (by simp[fe]) (by simp) rfl (kA _) (by rw[adi];omega) ?_;intro S' sd dP;simp[sd,dP,fe]
 clear s2 s3 s4 e3 e4 s7 S H;rintro S H s7;have ho:=hF.o
 have iU:∀x∈(gO s st (l.map (bh s)) l.length++if cut then[jb s.ib s.g_ st]else[]),0<=x/\x<=1000:=by
  intro x hx;rcases adm.1 hx with hx|hx
  .exact hb x hx
  .cases cut with
   |false=>simp at hx
   |true=>simp at hx;omega
 have Ei:(gO s st (l.map (bh s)) l.length++if cut then[jb s.ib s.g_ st]else[]).sum=(gO s st (l.map (bh s)) l.length).sum+if cut then jb s.ib s.g_ st else 0:=by
  rw[aeC]
  cases cut<;>simp
 have qN:(gO s st (l.map (bh s)) l.length++if cut then[jb s.ib s.g_ st]else[]).length<100000:=by
  rw[adq]
  cases cut<;>simp<;>omega
 rw[<-Ei];generalize(gO s st (l.map (bh s)) l.length++if cut then[jb s.ib s.g_ st]else[])=L at s7 iU qN⊢;rcases sg L with⟨hg,rfl⟩|hg
 .rw[hg]at s7;simp[ai,ah,s7];refine oc (AK hG [] qN iU) ?_;simp[ai,ah]
 .rw[hg]at s7;simp[ai,ah,s7];refine oc (AK hG L qN iU) ?_;simp[ai,ah]
theorem Vv(hG:aw GI)(s:aq)(hs:aU s=true){l:List (Nat×Nat)}(cI:l≠[])(hl:l.length<=24)(jJ:∀g∈l,FM s g)(cut:Bool){st:Int}(h0:0<=st)(h1:st<=10):AC prog GI 193 [fl s,Fb l cut,.int .i64 st] (.ret (.int .i64 (gY s st (l.map (bh s)) cut))):=by
 have hF:=eg hs
 have cP:∀a∈l.map (bh s),C1 s a:=λa ha=>by
  obtain⟨g,hg,rfl⟩:=adx.1 ha;exact qC hs (jJ g hg)
 have Yj:l.map (bh s)≠[]:=by simpa using cI
 have hb:=yi hF h0 h1 Yj cP (by simpa using hl) cut;have gf:=adV.2 cI;have hg:=nj hF h0 h1 (l:=l.map (bh s)) (i:=l.length-1) (by rw[adi];omega);have Th:=m_ hF cP (i:=l.length) (by simp);have Io:=jI hF.o.2.1 h0 h1;have ho:=hF.o;have hh:=hF.cG;have a1:=VA hG s hs (by omega:l.length<10000) jJ cut st;have a2:=SI hG s hs cI (by omega) jJ cut h0 h1
 have hwp:gY s st (l.map (bh s)) cut=(fZ s (l.map (bh s)) l.length+(if cut then s.cG else 0))+(gk s st (l.map (bh s)) (l.length-1)+(if cut then jb s.ib s.g_ st else 0)):=by
  unfold gY;rw[adi]
 rw[hwp]at hb⊢
 have qU:0<=fZ s (l.map (bh s)) l.length+(if cut then s.cG else 0):=by cases cut<;>simp<;>omega
 have pc:0<=gk s st (l.map (bh s)) (l.length-1)+(if cut then jb s.ib s.g_ st else 0):=by cases cut<;>simp<;>omega
 generalize fZ s (l.map (bh s)) l.length+(if cut then s.cG else 0)=X at a1 qU hb⊢;generalize gk s st (l.map (bh s)) (l.length-1)+(if cut then jb s.ib s.g_ st else 0)=Y at a2 pc hb⊢;have w1:IntKind.i64.wrap X=X:=aN (by omega);have w2:IntKind.i64.wrap (X+Y)=X+Y:=aN (by omega);refine bW hG func193 ntmps193 c193 ?_;refine aI (λS H=>S 2=.int .i64 st/\S 3=.box 3 0/\S 4=.box 4 0/\H 3=some (aP s)/\H 4=some [.slice .view (l.map gA),.bool cut]) (by simp[ai,ah,fl,aP,Fb,A1,ae,bt]) ?_;rintro S H ⟨s2,s3,s4,e3,e4⟩;simp[ai,ah,s2,s3,s4,e3,e4];refine bw 11 2 (λi S H=>S 2=.int .i64 st/\S 3=.box 3 0/\S 4=.box 4 0/\H 3=some (aP s)/\H 4=some [.slice .view (l.map gA),.bool cut]/\S 10=.j0 [.func (.func 212) [] [],.func (.func 213) [] []]/\S 11=.int .i64 (i:Nat)/\S 7=.int .i64 (if i=0 then 0 else if i=1 then X else X+Y)) (λi S H h=>h.2.2.2.2.2.2.1) ⟨by simp[ai,ah,s2],by simp[ai,ah,s3],by simp[ai,ah,s4],by simp[ai,ah,e3],by simp[ai,ah,e4],by simp[ai,ah],by simp[ai,ah],by simp[ai,ah]⟩ ?_;clear s2 s3 s4 e3 e4 S H;rintro i hi S H ⟨s2,s3,s4,e3,e4,bL,bG,s7⟩
 match i,hi with
 |0,_=>
  simp[ai,ah,s2,s3,s4,e3,e4,bL,bG,s7,aP,ae,bt,Cg];refine oc a1 ?_;simp[ai,ah,s2,s3,s4,e3,e4,bL,bG,s7,aP,ae,bt,w1];exact aN (by omega)
 |1,_=>
  simp[ai,ah,s2,s3,s4,e3,e4,bL,bG,s7,aP,ae,bt,Cg];refine oc a2 ?_;simp[ai,ah,s2,s3,s4,e3,e4,bL,bG,s7,aP,ae,bt,w2];exact aN (by omega)
 |2,_=>
  simp[ai,ah,s2,s3,s4,e3,e4,bL,bG,s7]
def OR(s:aq)(out:List Int)(es:List End)(i:Nat):AV:=Fb (gp s out es i) (iM s es i)
def fm(s:aq)(out:List Int)(es:List End)(n:Nat):List AV:=(List.range n).map (OR s out es)
theorem AY(s:aq)(out:List Int)(es:List End)(n:Nat):fm s out es (n+1)=fm s out es n++[OR s out es n]:=by
 unfold fm;rw[adY,adD];rfl
theorem ED(s:aq)(out:List Int)(es:List End)(n:Nat):aJ 2 (fm s out es n)=true:=gx λa=>⟨rfl,rfl⟩
theorem Qo(l:List (Nat×Nat)):aJ 2 (l.map gA)=true:=gx λa=>⟨rfl,rfl⟩
theorem uo(s:aq)(out:List Int)(es:List End)(n:Nat):(fm s out es n).length=n:=by unfold fm;simp
def HO(a:Nat)(S:av)(_:aD):Nat:=match S 6,S 7 with
 |.int _ w,.int _ f=>((a-w)*1000+(1000-f)).toNat
 |_,_=>0
def I81(s:aq)(out:List Int)(es:List End)(i a b:Nat)(S:av)(H:aD):Prop:=S 2=.box 2 0/\S 3=.box 3 0/\H 2=some (aP s)/\H 3=some [vI out,.slice .view (es.map aX)]/\S 12=.slice .view (es.map aX)/\S 13=.int .i64 es.length/\S 14=.int .i64 (i:Nat)/\S 5=grow 239 (fm s out es i)/\S 9=.box 9 0/\H 9=some [.int .i64 a,.int .i64 b]/\S 10=.box 10 0/\∃(w f:Nat)(D:List (Nat×Nat)),H 10=some [grow 261 (D.map gA),.bool (iM s es i)]/\S 6=.int .i64 w/\S 7=.int .i64 f/\D++gX s out (w,f) (a,b)=gp s out es i/\w<=a/\(w=a->f<=b)/\(w<a->f<=cg s w)
theorem U7(hG:aw GI)(s:aq)(hs:aU s=true)(out:List Int)(ho:out.length<1000000)(es:List End)(he:es.length<100000)(g:Good s out es):AC prog GI 192 [fl s,aL out es] (.ret (.slice .view (fm s out es es.length))):=by
 have hF:=eg hs;refine AC.iA (o:=if fm s out es es.length=[]then .nil else .view) ?_;refine bW hG func192 ntmps192 c192 ?_;refine aI (λS H=>S 2=.box 2 0/\S 3=.box 3 0/\H 2=some (aP s)/\H 3=some [vI out,.slice .view (es.map aX)]) (by simp[ai,ah,fl,aP,ae,bt,aL,aO]) ?_;rintro S H ⟨s2,s3,e2,e3⟩;simp[ai,ah,s2,s3,e2,e3];refine bw 14 es.length (λi S H=>S 2=.box 2 0/\S 3=.box 3 0/\H 2=some (aP s)/\H 3=some [vI out,.slice .view (es.map aX)]/\S 12=.slice .view (es.map aX)/\S 13=.int .i64 es.length/\S 14=.int .i64 (i:Nat)/\S 5=grow 239 (fm s out es i)/\S 6=.int .i64 (jd es i).1/\S 7=.int .i64 (jd es i).2) (λi S H h=>h.2.2.2.2.2.2.1) ⟨by simp[ai,ah,s2],by simp[ai,ah,s3],by simp[ai,ah,e2],by simp[ai,ah,e3],by simp[ai,ah],by simp[ai,ah],by simp[ai,ah],by simp[ai,ah,grow,fm],by simp[ai,ah,jd],by simp[ai,ah,jd]⟩ ?_;clear s2 s3 e2 e3 S H;rintro i hi S H ⟨s2,s3,e2,e3,bU,cz,di,s5,s6,s7⟩
 by_cases au:i<es.length
 case neg=>
  have cH:i=es.length:=by omega
  subst cH
  by_cases h0:fm s out es es.length=[]
  .have jO:S 5=.slice .nil []:=by rw[s5,h0];rfl
   simp[ai,ah,s2,s3,e2,e3,bU,cz,di,jO,h0]
  .have jO:S 5=.slice (.own 239) (fm s out es es.length):=by rw[s5];simp[grow,h0]
   simp[ai,ah,s2,s3,e2,e3,bU,cz,di,jO,h0]
 obtain⟨g1,g2,g3,g4,g5⟩:=g.one i au
 obtain⟨a,ha⟩:∃a:Nat,es[i].1=a:=⟨es[i].1.toNat,by omega⟩
 obtain⟨b,hb⟩:∃b:Nat,es[i].2=b:=⟨es[i].2.toNat,by omega⟩
 have hE:es[i]=((a:Int),(b:Int)):=Prod.ext ha hb
 have Ni:nE es[i]=(a,b):=by rw[hE];rfl
 have kK:a<s.words.length:=by omega
 have Ga:iM s es i=decide (b<s.words[a].aK.length):=by
  rw[ur au,hE];show decide ((b:Int)<(cg s (a:Int).toNat:Int))=_;rw[Int.toNat_natCast,fP kK,agY];omega
 rw[ha]at g3 g5;rw[hb]at g4 g5
 have g5:b<=s.words[a].aK.length:=by rw[Int.toNat_natCast,fP kK]at g5;omega
 have CH:gp s out es i=gX s out (jd es i) (a,b):=by rw[mZ au,Ni]
 have DT:=vZ hs g i;have hw:IntKind.i64.wrap ((i:Int)+1)=i+1:=aN (by omega)
 have QT:jd es (i+1)=(a,b):=by
  show(match es[i]? with|some e=>nE e|none=>(0,0))=_;rw[ac_ au];exact Ni
 have NM:=xP g au;rw[Ni]at NM;simp[ai,ah,s2,s3,e2,e3,bU,cz,di,au,hE,aX,aP,ae,bt,kK,bD,bI];refine⟨I81 s out es i a b,HO a,⟨by simp[ai,ah,s2],by simp[ai,ah,s3],by simp[ai,ah,e2,aP,ae,bt],by simp[ai,ah,e3],by simp[ai,ah,bU],by simp[ai,ah,cz],by simp[ai,ah,di],by simp[ai,ah,s5,grow],by simp[ai,ah],by simp[ai,ah],by simp[ai,ah],(jd es i).1,(jd es i).2,[],by simp[ai,ah,grow,Ga],by simp[ai,ah,s6],by simp[ai,ah,s7],by rw[CH];rfl,by omega,by omega,?_⟩,?_⟩
 .intro _
  cases i with
  |zero=>exact adZ _
  |succ j=>
   have hj:=g.one j (by omega)
   have:jd es (j+1)=nE es[j]:=by show(match es[j]? with|some e=>nE e|none=>(0,0))=_;rw[ac_ (by omega)]
   rw[this];show es[j].2.toNat<=cg s es[j].1.toNat;omega
 clear s2 s3 e2 e3 bU cz di s5 s6 s7 S H;rintro S H ⟨s2,s3,e2,e3,bU,cz,di,s5,s9,e9,bL,w,f,D,jt,s6,s7,hD,hwa,YX,rm⟩
 have hDl:D.length<=24:=by
  have:=congrArg List.length hD;rw[adq]at this;omega
 have Jt:=(pM hs (out:=out) w).2;have Zz:=(pM hs (out:=out) a).2;rw[fP kK]at Zz
 have hf6:f<=6:=by
  by_cases h:w<a
  .have:=rm h;omega
  .have:=YX (by omega);omega
 by_cases py:w<a\/w=a/\f<b
 case neg=>
  obtain rfl:w=a:=by omega
  obtain rfl:f=b:=by have:=YX rfl;omega
  rw[Fi (adh _),adT]at hD
  have Yk:D≠[]:=by rw[hD];exact zo g au
  have hg:grow 261 (D.map gA)=.slice (.own 261) (D.map gA):=by simp[grow,Yk]
  rw[hg]at jt
  have vP:OR s out es i=.agg [.slice .view (D.map gA),.bool (iM s es i)]:=by rw[hD];rfl
  have dT:aJ 2 [AV.agg [AV.slice .view (D.map gA),AV.bool (iM s es i)]]=true:=rfl;simp[s2,s3,e2,e3,bU,cz,di,s5,s9,e9,bL,jt,s6,s7,dT];refine fx (fm s out es i) (OR s out es i) (.own 239) (by simp[s5,grow]) (by rw[vP];simp) (by rw[vP];rfl) (ED _ _ _ _) (by rw[uo];omega) ?_;intro S' sd dP;simp[sd,dP,s2,s3,e2,e3,bU,cz,di,s6,s7,hw,au,QT,AY,grow,aP,ae,bt]
 have pv:w<s.words.length:=by omega
 have Ju:=fP pv;refine aI (λS H=>S 2=.box 2 0/\S 3=.box 3 0/\H 2=some (aP s)/\H 3=some [vI out,.slice .view (es.map aX)]/\S 12=.slice .view (es.map aX)/\S 13=.int .i64 es.length/\S 14=.int .i64 (i:Nat)/\S 5=grow 239 (fm s out es i)/\S 9=.box 9 0/\H 9=some [.int .i64 a,.int .i64 b]/\S 10=.box 10 0/\H 10=some [grow 261 (D.map gA),.bool (iM s es i)]/\S 6=.int .i64 w/\S 7=.int .i64 f) ?_ ?_
 .rcases py with CF|⟨rfl,aab⟩
  .have yS:(w:Int)<a:=by omega
   simp[ai,ah,s2,s3,e2,e3,bU,cz,di,s5,s9,e9,bL,jt,s6,s7,yS,CF]
  .have Tc:(f:Int)<b:=by omega
   simp[ai,ah,s2,s3,e2,e3,bU,cz,di,s5,s9,e9,bL,jt,s6,s7,Tc,aab]
 have D0:HO a S H=(a-w)*1000+(1000-f):=by unfold HO;rw[s6,s7];simp only;omega
 rw[D0];clear s2 s3 e2 e3 bU cz di s5 s9 e9 bL jt s6 s7 D0 S H;rintro S H ⟨s2,s3,e2,e3,bU,cz,di,s5,s9,e9,bL,jt,s6,s7⟩;simp[s2,s3,e2,e3,bU,cz,di,s5,s9,e9,bL,jt,s6,s7];refine⟨_,by kernel_rfl,EX hG out ho w,λ_=>rfl,?_⟩;have jA:=hF.words.2;have kR:IntKind.i64.wrap ((w:Int)+1)=w+1:=aN (by omega);have Ym:IntKind.i64.wrap ((f:Int)+1)=f+1:=aN (by omega);have WZ:IntKind.i64.wrap 0=0:=aN (by omega);cases vH:out.contains (w:Int)
 case true=>
  have CF:w<a:=by
   rcases py with h|⟨rfl,_⟩
   .exact h
   .rw[vH]at g3;cases g3
  simp[s2,s3,e2,e3,bU,cz,di,s5,s9,e9,bL,jt,s6,s7,kR,WZ];refine⟨⟨by simp[ai,ah,s2],by simp[ai,ah,s3],e2,e3,by simp[ai,ah,bU],by simp[ai,ah,cz],by simp[ai,ah,di],by simp[ai,ah,s5,grow],by simp[ai,ah,s9],e9,by simp[ai,ah,bL],w+1,0,D,jt,by simp[ai,ah],by simp[ai,ah],by rw[<-hD,DF CF vH],by omega,λ_=>adZ _,λ_=>adZ _⟩,?_⟩;simp[HO,ar];omega
 have hlen:(((w:Nat):Int))<s.words.length:=by omega
 cases vp:((f:Int)==s.words[w].aK.length)
 case true=>
  have Q2:cg s w<=f:=by rw[Ju];simp at vp;omega
  have CF:w<a:=by
   rcases py with h|⟨rfl,h⟩
   .exact h
   .rw[Ju]at Q2;omega
  simp[s2,s3,e2,e3,bU,cz,di,s5,s9,e9,bL,jt,s6,s7,kR,WZ,aP,ae,bt,bD,pv,vp];refine⟨⟨by simp[ai,ah,s2],by simp[ai,ah,s3],e2,e3,by simp[ai,ah,bU],by simp[ai,ah,cz],by simp[ai,ah,di],by simp[ai,ah,s5,grow],by simp[ai,ah,s9],e9,by simp[ai,ah,bL],w+1,0,D,jt,by simp[ai,ah],by simp[ai,ah],by rw[<-hD,EM CF Q2],by omega,λ_=>adZ _,λ_=>adZ _⟩,?_⟩;simp[HO,ar];omega
 have cI:f≠s.words[w].aK.length:=by simp at vp;omega
 have hfw:f<cg s w:=by
  rcases py with h|⟨rfl,h⟩
  .have:=rm h;omega
  .omega
 have dT:aJ 2 [AV.agg [AV.int .i64 (w:Nat),AV.int .i64 (f:Nat)]]=true:=rfl;simp[s2,s3,e2,e3,bU,cz,di,s5,s9,e9,bL,jt,s6,s7,aP,ae,bt,bD,pv,vp,bI,dT];refine fx (D.map gA) (gA (w,f)) (.own 261) (by simp[grow]) (by simp[gA]) rfl (Qo _) (by rw[adi];omega) ?_;intro S' sd dP;simp[sd,dP,s2,s3,e2,e3,bU,cz,di,s5,s9,e9,bL,s6,s7,Ym,grow];refine⟨⟨by simp[ai,ah,dP,s2],by simp[ai,ah,dP,s3],?_,?_,by simp[ai,ah,dP,bU],by simp[ai,ah,dP,cz],by simp[ai,ah,dP,di],by simp[ai,ah,dP,s5,grow],by simp[ai,ah,dP,s9],?_,by simp[ai,ah,dP,bL],w,f+1,D++[(w,f)],?_,by simp[ai,ah,dP,s6],by simp[ai,ah],?_,hwa,?_,?_⟩,?_⟩
 .simp[ai,ah,e2,aP,ae,bt]
 .simp[ai,ah,e3]
 .simp[ai,ah,e9]
 .simp[ai,ah,grow]
 .have kL:gX s out (w,f) (a,b)=(w,f)::gX s out (w,f+1) (a,b):=LK (by
   rcases py with h|h
   .exact .inl ⟨h,vH,hfw⟩
   .exact .inr h)
  rw[<-hD,kL];simp
 .intro h;rcases py with h'|h'<;>omega
 .intro _;omega
 .simp[HO,ar,dP,s6];omega
theorem fX(out:List Int)(es:List End):aL out es=.agg [vI out,.slice .view (es.map aX)]:=rfl
theorem L5(l:List (List UInt8)):aJ 1 (l.map AV.str)=true:=gx λa=>⟨rfl,rfl⟩
end Go.Proofs.Tryz
namespace Go.Proofs.Tryz
open Go Go.AL Go.RowKit Go.Proofs Go.Proofs.Tram
theorem PJ {Pr:Nat→Nat→Prop} {w:World} {b:Nat} {ty:TypeId} {cells:Array Value} {es:List AV} {size:Nat} (hb:w.heap[b]? = some (.cells cells ty (0,0))) (hs:cells.size=es.length * size) (bq:∀ e∈es,e.cells.length=size∧∀ c∈e.cells,c.one=true)
  (hP:∀k,k<cells.size->Pr b k) (hr:∀i (h:i<es.length) j (hj:j<(es[i]).cells.length),RD Pr w ((es[i]).cells[j]) (cells.getD (i*size+j) undef)):RD Pr w (.slice .view es) (.slice (some ⟨b,0,none⟩) es.length es.length):=by
 refine .slice .view es b 0 es.length size (λk=>cells.getD k undef) (adh _) (λh=>by cases h) (λi h=>(bq _ (ada h)).1) (λi h j hj=>(bq _ (ada h)).2 _ (ada hj)) (λk hk=>?_) hr;rw[<-hs]at hk;refine⟨by rw[ad3];exact hP k hk,?_⟩;simp[World.cell?,hb,hk]
variable{GI:World->Prop}
end Go.Proofs.Tryz
namespace Go.Proofs.Tryz
open Go Go.AL Go.RowKit Go.Proofs Go.Proofs.Tram
theorem A8 {bE:Nat} {u:Value} {ty:TypeId} (w:World) (hE:w.heap[bE]? = some (.cells #[u] ty (0,0))) (n:Int) :
    CallsD prog 163 #[.pointer (some ⟨bE,0,none⟩)] (.panicking [{ v := .iface 192 (.agg #[.int .i64 n]),recovered:=false }]) w fun e u' w' =>
      e=.returned (.tuple #[])/\u'=.panicking [{ v:=.iface 192 (.agg #[.int .i64 n]),recovered:=true }]/\∃w1,Below w.heap.size w w1/\w'=w1.setRow bE #[.int .i64 7]:=by
  refine afa func163 rfl λwu cs hu=>?_
  apply aga;apply afE;simp[wpOpsS,go_sem,recoverD,hu,ntmps163,Exit.thenS];refine afP ?_;refine(e_ (m:=0)).1 ?_;refine fM (λa=>a.tmps.size=14/\a.defers=[]/\a.tmps.getD 0 undef=.pointer (some ⟨bE,0,none⟩)/\a.tmps.getD 5 undef=.iface 192 (.agg #[.int .i64 n])) ⟨by simp,rfl,by simp,by simp⟩ ?_;rintro a ⟨bq,dZ,h0,h5⟩;have au:=(ade.1 hE).1;refine aen (adk (adB ?_));show wpOpsIn _ _ _ _ _ [0] a w;refine aV rfl rfl (by rfl) (od (x:=.tmp 5) w rfl h5) ?_;show Code.wpIn _ _ _ _ _ (a.put (some 7) (.bool false)) w
  have h7:(a.put (some 7) (.bool false)).tmps.getD 7 undef=.bool false:=by simp[Act.put,bq]
  refine ad1 (t:=false) h7 ?_;simp only[adl,adz];refine fM (λa=>a.tmps.size=14/\a.defers=[]/\a.tmps.getD 0 undef=.pointer (some ⟨bE,0,none⟩)/\a.tmps.getD 5 undef=.iface 192 (.agg #[.int .i64 n])) ⟨by simp[Act.put,bq],dZ,by simpa[Act.put,adg]using h0,by simpa[Act.put,adg]using h5⟩ ?_;clear h7 h5 h0 dZ bq a;rintro a ⟨bq,dZ,h0,h5⟩
  have hS:∀ (a:Act) (w:World),a.tmps.getD 5 undef = .iface 192 (.agg #[.int .i64 n])→∀ t,t < 14→((fun t=>if t=5 then AV.iface 192 (.agg [.int .i64 n]) else AV.br:av) t).aG=(fun t=>if t=5 then AV.iface 192 (.agg [.int .i64 n]) else AV.br:av) t ∧
      RV (λ_ _=>True) cj w ((λt=>if t=5 then AV.iface 192 (.agg [.int .i64 n])else AV.br:av) t) (a.tmps.getD t undef):=by
    intro a w h5 t ht
    by_cases h:t=5
    . subst h
      rw[h5];refine⟨rfl,.data _ _ (.iface _ _ _ (.agg _ _ rfl (λi hi=>?_) (λi hi eb=>?_)))⟩
      . have:i=0:=by simpa using hi
        subst this;rfl
      . have:i=0:=by simpa using hi
        subst this;exact .int _ _
    . simp only[h,adz];exact⟨rfl,.br _⟩
  refine adk ?_;refine bJ (GI:=λ_=>True) (λ_ _ _ _=>trivial) cV (ac:=af.qa c163.qb.qb.qb.qb) (W:=λt=>decide (8<=t)) (by kernel_rfl) (by kernel_rfl) (by kernel_rfl) trivial (λ_ _=>True) _ bq dZ (hS a w h5) (K:=λS' _=>S' 9=.bool true/\S' 10=.agg [.int .i64 n]) ?_ ?_
  . simp[c163,af.qa,af.qb,bC,bn,aF,bg,aH,aM,aQ.S,aQ.H,ev,ar,aT,AV.aG]
  rintro g S' H' a' w' hg R1 ⟨h9,nB⟩ bb;have t9:=R1.slot 9 (by decide) (λh=>h);rw[h9]at t9;have t9:=t9.eE;have t10:=R1.slot 10 (by decide) (λh=>h);rw[nB]at t10
  have b1:Below w.heap.size w w':=by have:=R1.below;rwa [R1.base]at this
  show Code.wpIn _ _ _ _ _ a' w';refine ad1 (t:=true) t9 ?_;simp only[adJ];refine adk ?_;refine gG R1 (GI:=λ_=>True) (λ_ _ _ _=>trivial) trivial cV (ac:=af.qa c163.qb.qb.qb.qb.qb.qa) (W:=λt=>decide (1<=t)) (by kernel_rfl) (by kernel_rfl) (by kernel_rfl) (by rw[hg];exact λ_ h=>h) (K:=λ_ _=>True) ?_ ?_
  . simp[c163,af.qa,af.qb,bC,bn,aF,bg,aH,aM,aQ.S,aQ.H,ev,ar,aT,AV.aG,nB,bX,HR.okB,AV.cells,AV.storable,bo,AV.bZ,bz]
  rintro g2 S2 H2 a2 w2 me R2 _ iy
  have b2:Below w.heap.size w w2:=by have:=R2.below;rwa [R2.base]at this
  have e0:a2.tmps.getD 0 undef=.pointer (some ⟨bE,0,none⟩):=(iy 0 rfl).trans ((bb 0 rfl).trans h0);have At:w2.heap[bE]?=some (.cells #[u] ty (0,0)):=(b2.block bE au).trans hE;obtain⟨i36,nO,nS⟩:=bp (P:=prog) (t:=34) (s:=1) (by kernel_rfl);show Code.wpIn _ _ _ _ _ a2 w2;refine adB ?_;show wpOpsIn _ _ _ _ _ [0] a2 w2;refine dM rfl rfl (by rfl) (gr (x:=.tmp 0) (y:=.const (.int .i64 7)) (v:=.int .i64 7) rfl e0 nO nS At rfl rfl) ?_;refine⟨by show a2.defers=[];rw[R2.defers,me,hg];rfl,_,rfl,.tuple #[],?_,rfl,rfl,w2,b2,rfl⟩;simp[results,results163]
theorem zO {bE:Nat} {u:Value} {ty:TypeId} (w:World) (hE:w.heap[bE]? = some (.cells #[u] ty (0,0))) (n:List UInt8) :
    CallsD prog 163 #[.pointer (some ⟨bE,0,none⟩)] (.panicking [{ v := .iface 203 (.agg #[.string ⟨n.toArray⟩]),recovered:=false }]) w fun e u' w' =>
      e=.returned (.tuple #[])/\u'=.panicking [{ v:=.iface 203 (.agg #[.string ⟨n.toArray⟩]),recovered:=true }]/\∃w1,Below w.heap.size w w1/\w'=w1.setRow bE #[.int .i64 4]:=by
  refine afa func163 rfl λwu cs hu=>?_
  apply aga;apply afE;simp[wpOpsS,go_sem,recoverD,hu,ntmps163,Exit.thenS];refine afP ?_;refine(e_ (m:=0)).1 ?_;refine fM (λa=>a.tmps.size=14/\a.defers=[]/\a.tmps.getD 0 undef=.pointer (some ⟨bE,0,none⟩)/\a.tmps.getD 5 undef=.iface 203 (.agg #[.string ⟨n.toArray⟩])) ⟨by simp,rfl,by simp,by simp⟩ ?_;rintro a ⟨bq,dZ,h0,h5⟩;have au:=(ade.1 hE).1;refine aen (adk (adB ?_));show wpOpsIn _ _ _ _ _ [0] a w;refine aV rfl rfl (by rfl) (od (x:=.tmp 5) w rfl h5) ?_;show Code.wpIn _ _ _ _ _ (a.put (some 7) (.bool false)) w
  have h7:(a.put (some 7) (.bool false)).tmps.getD 7 undef=.bool false:=by simp[Act.put,bq]
  refine ad1 (t:=false) h7 ?_;simp only[adl,adz];refine fM (λa=>a.tmps.size=14/\a.defers=[]/\a.tmps.getD 0 undef=.pointer (some ⟨bE,0,none⟩)/\a.tmps.getD 5 undef=.iface 203 (.agg #[.string ⟨n.toArray⟩])) ⟨by simp[Act.put,bq],dZ,by simpa[Act.put,adg]using h0,by simpa[Act.put,adg]using h5⟩ ?_;clear h7 h5 h0 dZ bq a;rintro a ⟨bq,dZ,h0,h5⟩
  have hS:∀ (a:Act) (w:World),a.tmps.getD 5 undef = .iface 203 (.agg #[.string ⟨n.toArray⟩])→∀ t,t < 14→((fun t=>if t=5 then AV.iface 203 (.agg [.str n]) else AV.br:av) t).aG=(fun t=>if t=5 then AV.iface 203 (.agg [.str n]) else AV.br:av) t ∧
      RV (λ_ _=>True) cj w ((λt=>if t=5 then AV.iface 203 (.agg [.str n])else AV.br:av) t) (a.tmps.getD t undef):=by
    intro a w h5 t ht
    by_cases h:t=5
    . subst h
      rw[h5];refine⟨rfl,.data _ _ (.iface _ _ _ (.agg _ _ rfl (λi hi=>?_) (λi hi eb=>?_)))⟩
      . have:i=0:=by simpa using hi
        subst this;rfl
      . have:i=0:=by simpa using hi
        subst this;exact .str _
    . simp only[h,adz];exact⟨rfl,.br _⟩
  refine adk ?_;refine bJ (GI:=λ_=>True) (λ_ _ _ _=>trivial) cV (ac:=af.qa c163.qb.qb.qb.qb) (W:=λt=>decide (8<=t)) (by kernel_rfl) (by kernel_rfl) (by kernel_rfl) trivial (λ_ _=>True) _ bq dZ (hS a w h5) (K:=λS' _=>S' 9=.bool false/\S' 5=.iface 203 (.agg [.str n])) ?_ ?_
  . simp[c163,af.qa,af.qb,bC,bn,aF,bg,aH,aM,aQ.S,aQ.H,ev,ar,aT,AV.aG]
  rintro g0 S0 H0 a0 SJ xZ R0 ⟨CT,T_⟩ Br;have t90:=R0.slot 9 (by decide) (λh=>h);rw[CT]at t90;have t90:=t90.eE;show Code.wpIn _ _ _ _ _ a0 SJ;refine ad1 (t:=false) t90 ?_;simp only[adl,adz];refine adk ?_;refine gG R0 (GI:=λ_=>True) (λ_ _ _ _=>trivial) trivial cV (ac:=af.qa c163.qb.qb.qb.qb.qb.qb) (W:=λt=>decide (8<=t)) (by kernel_rfl) (by kernel_rfl) (by kernel_rfl) (by rw[xZ];exact λ_ h=>h) (K:=λS' _=>S' 12=.bool true/\S' 13=.agg [.str n]) ?_ ?_
  . simp[c163,af.qa,af.qb,bC,bn,aF,bg,aH,aM,aQ.S,aQ.H,ev,ar,aT,AV.aG,T_]
  rintro g S' H' a' w' hg R1 ⟨h9,nB⟩ AM;have bb:=Br.trans AM;rw[xZ]at hg;have t9:=R1.slot 12 (by decide) (λh=>h);rw[h9]at t9;have t9:=t9.eE;have t10:=R1.slot 13 (by decide) (λh=>h);rw[nB]at t10
  have b1:Below w.heap.size w w':=by have:=R1.below;rwa [R1.base]at this
  show Code.wpIn _ _ _ _ _ a' w';refine ad1 (t:=true) t9 ?_;simp only[adJ];refine adk ?_;refine gG R1 (GI:=λ_=>True) (λ_ _ _ _=>trivial) trivial cV (ac:=af.qa c163.qb.qb.qb.qb.qb.qb.qb.qa) (W:=λt=>decide (1<=t)) (by kernel_rfl) (by kernel_rfl) (by kernel_rfl) (by rw[hg];exact λ_ h=>h) (K:=λ_ _=>True) ?_ ?_
  . simp[c163,af.qa,af.qb,bC,bn,aF,bg,aH,aM,aQ.S,aQ.H,ev,ar,aT,AV.aG,nB,bX,HR.okB,AV.cells,AV.storable,bo,AV.bZ,bz]
  rintro g2 S2 H2 a2 w2 me R2 _ iy
  have b2:Below w.heap.size w w2:=by have:=R2.below;rwa [R2.base]at this
  have e0:a2.tmps.getD 0 undef=.pointer (some ⟨bE,0,none⟩):=(iy 0 rfl).trans ((bb 0 rfl).trans h0);have At:w2.heap[bE]?=some (.cells #[u] ty (0,0)):=(b2.block bE au).trans hE;obtain⟨i36,nO,nS⟩:=bp (P:=prog) (t:=34) (s:=1) (by kernel_rfl);show Code.wpIn _ _ _ _ _ a2 w2;refine adB ?_;show wpOpsIn _ _ _ _ _ [0] a2 w2;refine dM rfl rfl (by rfl) (gr (x:=.tmp 0) (y:=.const (.int .i64 4)) (v:=.int .i64 4) rfl e0 nO nS At rfl rfl) ?_;refine⟨by show a2.defers=[];rw[R2.defers,me,hg];rfl,_,rfl,.tuple #[],?_,rfl,rfl,w2,b2,rfl⟩;simp[results,results163]
theorem An (p:Addr) (w:World) :
    CallsD prog 163 #[.pointer (some p)] .returning w λe u' w'=>e=.returned (.tuple #[])/\u'=.returning/\w'=w:=by
  refine afa func163 rfl λwu cs hu=>?_
  apply aga;apply afE;simp[wpOpsS,go_sem,recoverD,hu,ntmps163,Exit.thenS];refine afP ?_
  go_wp2
  cases wu
  simp_all[bodyPostS,results,results163]
theorem GG {a:Act} {w:World} {b:Nat} {v:Value} {ty:TypeId} (h2:a.tmps.getD 2 undef = .pointer (some ⟨b,0,none⟩)) (h:w.heap[b]? = some (.cells #[v] ty (0,0))):(results f119 a.tmps).run prog w = .ok v w:=by
  obtain⟨d,Ap,zi⟩:=js (P:=prog) (t:=34) (by kernel_rfl)
  have oU:(isAgg 34).run prog w = .ok false w:=by
    unfold isAgg;rw[ads,adH Ap w]
    cases d<;>simp_all[eS]
  have hl:(loadVar 34 ⟨b,0,none⟩).run prog w = .ok v w:=by
    simp[loadVar,ads,oU,World.cell?,h]
  have hr:f119.results=#[.cell 2 34]:=rfl
  have sT:a.tmps[2]?.getD undef=.pointer (some ⟨b,0,none⟩):=by rw[<-h2];simp
  simp[results,hr,sT,asAddr,hl]
theorem jH {k:Nat} {us:Array Value} {w:World} {R1 R:Ending→World→Prop} (nv:dX prog k=true) (hc:Calls prog k us (w.alloc (.cells #[.int .i64 0] 34)) R1)
    (h:∀ e w2,R1 e w2→w.heap.size < w2.heap.size∧(∃ u ty,w2.heap[w.heap.size]? = some (.cells #[u] ty (0,0))) ∧
      ((∃c,e=.returned c/\R (.returned (.int .i64 0)) (w2.setRow w.heap.size #[.int .i64 0]))\/
       (∃n,e=.panicked [{ v:=.iface 192 (.agg #[.int .i64 n]),recovered:=false }]/\∀w3,Below w2.heap.size w2 w3->R (.returned (.int .i64 7)) (w3.setRow w.heap.size #[.int .i64 7]))\/
       (∃s:List UInt8,e=.panicked [{ v:=.iface 203 (.agg #[.string ⟨s.toArray⟩]),recovered:=false }]/\∀w3,Below w2.heap.size w2 w3->R (.returned (.int .i64 4)) (w3.setRow w.heap.size #[.int .i64 4])))):
    Calls prog 119 #[.func (.func k) #[] us] w R:=by
  refine agw func119 rfl ?_;refine(e_ (m:=0)).1 ?_;refine fM (λa=>a.tmps.size=6/\a.defers=[]/\a.tmps.getD 0 undef=.func (.func k) #[] us) ⟨by simp[ntmps119],rfl,bV _ _ 0 (by simp)⟩ ?_;rintro a ⟨bq,dZ,h0⟩
  obtain⟨bE,Ex⟩:∃bE,w.heap.size=bE:=⟨_,rfl⟩
  have eB:∀ (a:Act) (d t:Nat) (c:Value),t≠d→(a.put (some d) c).tmps.getD t undef=a.tmps.getD t undef:=fun a d t c h=>by
    simp[Act.put,adg (ad2 h)]
  have ir:∀ (a:Act) (d:Nat) (c:Value),a.tmps.size=6→d < 6→(a.put (some d) c).tmps.getD d undef=c:=fun a d c h hd=>by
    simp[Act.put,h,hd]
  have jm:∀(a:Act)(d:Option Nat)(c:Value),(a.put d c).tmps.size=a.tmps.size:=λa d c=>by cases d<;>simp[Act.put]
  refine adk (adB ?_);show wpOpsIn _ _ _ _ _ [0] a w;refine aV rfl rfl (by rfl) (jy (t:=34) (z:=.int .i64 0) rfl (by kernel_rfl)) ?_;show Code.wpIn _ _ _ _ _ (a.put (some 2) (.pointer (some ⟨w.heap.size,0,none⟩))) (w.alloc (.cells #[.int .i64 0] 34));rw[Ex]at h;simp only[Ex]
  obtain⟨w1,kR⟩:∃w1,w.alloc (.cells #[.int .i64 0] 34)=w1:=⟨_,rfl⟩
  rw[kR]at hc⊢;refine fM (λa=>a.tmps.size=6/\a.defers=[]/\a.tmps.getD 0 undef=.func (.func k) #[] us/\a.tmps.getD 2 undef=.pointer (some ⟨bE,0,none⟩)) ⟨by rw[jm];exact bq,dZ,by rw[eB _ _ _ _ (by decide)];exact h0,ir _ _ _ bq (by decide)⟩ ?_;clear h0 dZ bq a;rintro a ⟨bq,dZ,h0,h2⟩;refine adk (adB ?_);show wpOpsIn _ _ _ _ _ [0,1] a w1;refine aV rfl rfl (by rfl) (lP (fn:=.func 163) (c:=#[.tmp 2]) rfl) ?_
  have fF:(#[Operand.tmp 2].map a.eval) = #[.pointer (some ⟨bE,0,none⟩)]:=by
    simp only[adK,adC,adO,Act.eval];rw[h2]
  rw[fF];show wpOpsIn _ _ _ _ _ [1] (a.put (some 3) (.func (.func 163) #[] #[.pointer (some ⟨bE,0,none⟩)])) w1
  obtain⟨a2,im⟩:∃a2,a.put (some 3) (.func (.func 163) #[] #[.pointer (some ⟨bE,0,none⟩)])=a2:=⟨_,rfl⟩
  rw[im]
  have z2:a2.tmps.size=6:=by rw[<-im,jm];exact bq
  have u3:a2.tmps.getD 3 undef=.func (.func 163) #[] #[.pointer (some ⟨bE,0,none⟩)]:=by rw[<-im];exact ir _ _ _ bq (by decide)
  have u0:a2.tmps.getD 0 undef=.func (.func k) #[] us:=by rw[<-im,eB _ _ _ _ (by decide)];exact h0
  have u2:a2.tmps.getD 2 undef=.pointer (some ⟨bE,0,none⟩):=by rw[<-im,eB _ _ _ _ (by decide)];exact h2
  have ud:a2.defers=[]:=by rw[<-im];exact dZ
  refine xJ rfl rfl (d:={ target:=.fn (.func 163) #[.pointer (some ⟨bE,0,none⟩)],args:=#[] }) (w':=w1) ?_ ?_
  . unfold execOp
    simp[eU,Deferred.ofValue,Act.eval,u3]
  have JQ:∀ (w:World),(invoke (.fn (.func 163) #[.pointer (some ⟨bE,0,none⟩)]) #[]).run prog w = .ok (.enter 163 #[.pointer (some ⟨bE,0,none⟩)]) w:=fun w=>by
    simp[invoke,gy (P:=prog) (f:=163) (by kernel_rfl)]
  show Code.wpIn _ _ _ _ _ { a2 with defers:={ target:=.fn (.func 163) #[.pointer (some ⟨bE,0,none⟩)],args:=#[] }::a2.defers } w1;refine fM (λa=>a.tmps.size=6/\a.defers=[{ target:=.fn (.func 163) #[.pointer (some ⟨bE,0,none⟩)],args:=#[] }]/\a.tmps.getD 0 undef=.func (.func k) #[] us/\a.tmps.getD 2 undef=.pointer (some ⟨bE,0,none⟩)) ⟨z2,by show _::a2.defers=_;rw[ud],u0,u2⟩ ?_;clear u0 u2 u3 ud z2 im a2 h0 h2 dZ bq fF a;rintro a ⟨bq,dZ,h0,h2⟩;refine adk (adB ?_);show wpOpsIn _ _ _ _ _ [0,1] a w1;refine aV rfl rfl (by rfl) (run_move (x:=.tmp 0) w1 rfl) ?_;have e0:a.eval (.tmp 0)=.func (.func k) #[] us:=h0;rw[e0];show wpOpsIn _ _ _ _ _ [1] (a.put (some 4) (.func (.func k) #[] us)) w1
  obtain⟨a2,im⟩:∃a2,a.put (some 4) (.func (.func k) #[] us)=a2:=⟨_,rfl⟩
  rw[im]
  have z2:a2.tmps.size=6:=by rw[<-im,jm];exact bq
  have u4:a2.eval (.tmp 4)=.func (.func k) #[] us:=by show a2.tmps.getD 4 undef=_;rw[<-im];exact ir _ _ _ bq (by decide)
  have u2:a2.tmps.getD 2 undef=.pointer (some ⟨bE,0,none⟩):=by rw[<-im,eB _ _ _ _ (by decide)];exact h2
  have ud:a2.defers=[{ target:=.fn (.func 163) #[.pointer (some ⟨bE,0,none⟩)],args:=#[] }]:=by rw[<-im];exact dZ
  refine sc rfl rfl (by rfl) (uU (f:=.tmp 4) w1 rfl rfl rfl u4 nv) hc ?_;intro e w2 he;obtain⟨au,⟨uE,UE,hE⟩,rA⟩:=h e w2 he
  have wx:∀ {args:Array Value} {u:FrameMode} {w:World} {R R':Ending→FrameMode→World→Prop},CallsD prog 163 args u w R→(∀ e u w,R e u w→R' e u w)→CallsD prog 163 args u w R':=fun h hr c cs hu =>
    let⟨e,u',w',fr,r,rest⟩:=h c cs hu;⟨e,u',w',fr,hr _ _ _ r,rest⟩
  have sE:∀ (p:PanicEntry) (v:Value) (hv:CallsD prog 163 #[.pointer (some ⟨bE,0,none⟩)] (.panicking [p]) w2 fun e u' w'=>e = .returned (.tuple #[])∧u' = .panicking [{ p with recovered:=true }]∧∃ w1,Below w2.heap.size w2 w1∧w'=w1.setRow bE #[v]),
      p.goexit=false->(∀w3,Below w2.heap.size w2 w3->R (.returned v) (w3.setRow bE #[v]))->Leaves prog f119 a2.tmps R a2.defers (.panicking [p]) w2:=by
    intro p v hv py hR;rw[ud];refine af8 (by simp) (JQ w2) (wx hv ?_);rintro e u' w' ⟨rfl,rfl,w3,oB,rfl⟩;have US:w3.heap[bE]?=some (.cells #[uE] UE (0,0)):=(oB.block bE au).trans hE;show Leaves prog f119 a2.tmps R [] .returning (w3.setRow bE #[v]);exact⟨v,GG u2 (vF US),hR w3 oB⟩
  rcases rA with⟨c,rfl,hR⟩|⟨n,rfl,hR⟩|⟨s,rfl,hR⟩
  . show Code.wpIn _ _ _ _ _ (a2.put (some 5) c) w2
    have MY:(a2.put (some 5) c).tmps.getD 2 undef=.pointer (some ⟨bE,0,none⟩):=by rw[eB _ _ _ _ (by decide)];exact u2
    refine adk (adB ?_);show wpOpsIn _ _ _ _ _ [0] (a2.put (some 5) c) w2;obtain⟨i36,nO,nS⟩:=bp (P:=prog) (t:=34) (s:=1) (by kernel_rfl);refine dM rfl rfl (by rfl) (gr (x:=.tmp 2) (y:=.const (.int .i64 0)) (v:=.int .i64 0) rfl MY nO nS hE rfl rfl) ?_;show Code.wpIn _ _ _ _ _ (a2.put (some 5) c) (w2.setRow bE #[.int .i64 0]);refine aeZ ?_;show Leaves prog f119 (a2.put (some 5) c).tmps R a2.defers .returning (w2.setRow bE #[.int .i64 0]);rw[ud];refine af8 (by simp) (JQ _) (wx (An _ _) ?_);rintro e u' w' ⟨rfl,rfl,rfl⟩;exact⟨_,GG MY (vF hE),hR⟩
  . exact sE _ _ (A8 w2 hE n) rfl hR
  . exact sE _ _ (zO w2 hE s) rfl hR
theorem E5{s:aq}{l:List Int}{x:Int}(h:cq s (l++[x])=true):cq s l=true/\0<=x/\x<s.words.length/\dR l<=x.toNat:=by
 unfold cq at h;simp only[adb,adf,adP,ad5]at h;obtain⟨⟨h1,h2⟩,h3⟩:=h;unfold eo at h1;rw[eu]at h1;obtain⟨h1,h4⟩:=h1;have hx:=h1 x (by simp);simp only[bO,adb,adf]at hx;rw[adq,List.length_singleton]at h2;refine⟨?_,by omega,by omega,?_⟩
 .unfold cq;simp only[adb,adf,adP,ad5];refine⟨⟨?_,by omega⟩,λy hy=>h3 y (aeu _ hy)⟩;unfold eo;rw[eu];refine⟨λy hy=>h1 y (aeu _ hy),λj hj=>?_⟩;have:=h4 j (by rw[adq];omega);rwa [adA (by omega),adA hj]at this
 .unfold dR
  cases hg:l.getLast? with
  |none=>exact adZ _
  |some y=>
   have cI:l≠[]:=by rintro rfl;cases hg
   have gf:=adV.2 cI
   have hy:l[l.length-1]'(by omega)=y:=by
    rw[List.getLast?_eq_getElem?,ac_ (by omega)]at hg;exact adw hg
   have:=h4 (l.length-1) (by rw[adq,List.length_singleton];omega);rw[adA (by omega),ad_ (by omega)]at this;simp only[adf]at this;have h0:=h1 y (by rw[<-hy];exact aeu _ (ada _));simp only[bO,adb,adf]at h0
   have e:([x][l.length-1+1-l.length]'(by simp;omega))=x:=by
    rw[List.getElem_singleton]
   rw[e,hy]at this;show y.toNat+1<=x.toNat;omega
def vL(s:aq):List (List Int):=(List.range s.words.length).flatMap λd=>nR s d []
theorem DD{s:aq}(h:0<s.words.length):cq s []=true:=by simp[cq,eo,iz,h]
def fL(out:List Int):Nat->List Word->List Word
 |_,[]=>[]
 |i,w::l=>if out.contains (i:Int)then fL out (i+1) l else w::fL out (i+1) l
theorem yY(out:List Int):∀(a b:List Word)(k:Nat),fL out k (a++b)=fL out k a++fL out (k+a.length) b
 |[],b,k=>by simp[fL]
 |x::a,b,k=>by
  have ih:=yY out a b (k+1)
  have e:k+1+a.length=k+(x::a).length:=by simp;omega
  rw[e]at ih;show(if out.contains (k:Int)then fL out (k+1) (a++b)else x::fL out (k+1) (a++b))=(if out.contains (k:Int)then fL out (k+1) a else x::fL out (k+1) a)++_;rw[ih]
  split<;>rfl
theorem tw(out:List Int){l:List Word}{i:Nat}(h:i<l.length):fL out 0 (l.take (i+1))=fL out 0 (l.take i)++if out.contains (i:Int)then[]else[l[i]]:=by
 rw[adj h,yY,adM,ad3,Nat.min_eq_left (by omega)]
 rfl
theorem nD{out:List Int}:∀{l:List Word}{k:Nat}{w:Word},w∈fL out k l->w∈l
 |[],_,_,h=>by cases h
 |x::l,k,w,h=>by
  unfold fL at h;split at h
  .exact ado _ (nD h)
  .rcases ad6.1 h with h|h
   .rw[h];simp
   .exact ado _ (nD h)
theorem nM(out:List Int):∀(l:List Word)(k:Nat),(fL out k l).length<=l.length
 |[],_=>adh _
 |x::l,k=>by
  have:=nM out l (k+1);unfold fL
  split<;>simp<;>omega
theorem y_{out:List Int}:∀{l:List Word}{k:Nat},fL out k l=[]->∀i,i<l.length->((k+i:Nat):Int)∈out
 |[],_,_,i,hi=>by simp at hi
 |x::l,k,h,i,hi=>by
  unfold fL at h;split at h
  case isFalse=>cases h
  rename_i hc
  match i with
  |0=>simpa using hc
  |i+1=>
   have:=y_ h i (by simpa using hi);rw[show k+(i+1)=k+1+i by omega];exact this
theorem count_le:∀(n:Nat)(out:List Int),(∀i,i<n->(i:Int)∈out)->n<=out.length
 |0,_,_=>adZ _
 |n+1,out,h=>by
  have hn:=h n (by omega)
  have:=count_le n (out.erase (n:Int)) λi hi=>(agh (by omega)).2 (h i (by omega))
  rw[afY hn]at this;have:0<out.length:=afO hn;omega
def tg(s:aq)(out:List Int):aq:={ s with words:=fL out 0 s.words }
theorem Lw{s:aq}{l:List Int}(ho:cq s l=true):1<=(tg s l).words.length:=by
 have h1:=uv ho;rcases afs (tg s l).words.length with h|h
 .have h0:fL l 0 s.words=[]:=adQ h
  have:=count_le s.words.length l λi hi=>by
   have:=y_ h0 i hi;simpa using this
  omega
 .exact h
theorem CR{s:aq}(hs:aU s=true){l:List Int}(ho:cq s l=true):aU (tg s l)=true:=by
 have hn:=Lw ho;have hl:=nM l s.words 0;unfold aU nW at hs⊢;simp only[adb,adP]at hs⊢;obtain⟨⟨⟨⟨h1,h2⟩,h3⟩,h4⟩,⟨⟨⟨⟨⟨⟨e1,e2⟩,e3⟩,e4⟩,e5⟩,e6⟩,e7⟩⟩:=hs;refine⟨⟨⟨⟨h1,h2⟩,?_⟩,h4⟩,⟨⟨⟨⟨⟨⟨e1,e2⟩,e3⟩,e4⟩,?_⟩,e6⟩,e7⟩⟩
 .unfold bO at h3⊢;simp only[adb,adf]at h3⊢;have:(tg s l).words.length<=s.words.length:=hl;omega
 .rw[ad5]at e5⊢;intro w hw;exact e5 w (nD hw)
end Go.Proofs.Tryz
namespace Go.Proofs.Tryz
open Go Go.AL Go.RowKit Go.Proofs Go.Proofs.Tram
variable{GI:World->Prop}
theorem l0{Pr:Nat->Nat->Prop}{al:Nat->Option Nat}{w:World}{l:List UInt8}{c:Value}(h:RV Pr al w (.str l) c):c=.string ⟨l.toArray⟩:=by
 cases h with
 |data _ _ h=>cases h;rfl
def strs(ls:List (List UInt8)):AV:=.slice .view (ls.map .str)
theorem UH(nk:∀w,GI w->∃m,w.cell? ⟨1,0,none⟩=some (.int .i64 m))(s:List UInt8)(c:UInt8)(hs:s.length<4294967281):AC prog GI 164 [.str s,.str [c]] (.ret (strs (iO c s))):=by
 intro w old ck hG hl hr
 obtain⟨v1,v2,rfl⟩:∃v1 v2,ck=#[v1,v2]:=by
  have h2:ck.size=2:=hl.symm;refine⟨ck[0],ck[1],?_⟩;apply aeI
  .simp[h2]
  .intro i h h'
   match i,h' with
   |0,_=>rfl
   |1,_=>rfl
 have e1:=l0 (hr 0 (by simp) (by simp));have e2:=l0 (hr 1 (by simp) (by simp));simp only[List.getElem_toArray,List.getElem_cons_zero,List.getElem_cons_succ]at e1 e2;subst e1 e2;obtain⟨m,hm⟩:=nk w hG;refine(Tryz.strings_Split ⟨s.toArray⟩ ⟨[c].toArray⟩ m w hs hm (adh _)).mono ?_;rintro e w' ⟨rfl,rfl⟩;have xR:Lib.countB ⟨s.toArray⟩ ⟨[c].toArray⟩=s.count c:=Lib.count_one c s;have zh:=Lib.splitB_data ⟨[c].toArray⟩ 0 (s.count c) ⟨s.toArray⟩;have zh:(Lib.splitB ⟨[c].toArray⟩ 0 (s.count c) ⟨s.toArray⟩).map (·.data.toList)=iO c s:=zh.trans (tj c s);have fQ:=Lib.splitB_all ⟨[c].toArray⟩ (adh _) 0 (s.count c) ⟨s.toArray⟩ xR;rw[xR];generalize Lib.splitB ⟨[c].toArray⟩ 0 (s.count c) ⟨s.toArray⟩=ps at zh fQ;rw[<-fQ]
 have Nd:ps.length=((iO c s).map AV.str).length:=by rw[<-zh];simp
 refine⟨(aeb _ w).alloc (adh _) _,λb=>if b=w.heap.size then ps.length else 0,λb hb=>?_,_,rfl,.data _ _ ?_,trivial⟩
 .show(if b=w.heap.size then ps.length else 0)=0;rw[World.size_alloc]at hb;rw[if_neg (by omega)]
 .unfold strs;rw[Nd];refine PJ (es:=(iO c s).map AV.str) (size:=1) (ad4 w _) (by simp;rw[<-zh];simp) (λe he=>?_) (λk hk=>.inr ⟨adh _,?_⟩) (λi h j hj=>?_)
  .obtain⟨x,_,rfl⟩:=adx.1 he;exact⟨rfl,λc hc=>by simp only[AV.cells,ady]at hc;subst hc;rfl⟩
  .show k<(if w.heap.size=w.heap.size then((iO c s).map AV.str).length else 0);rw[if_pos rfl,<-Nd];simpa using hk
  .have hi:i<ps.length:=by rw[Nd];exact h
   have hx:((iO c s).map AV.str)[i]=.str ps[i].data.toList:=by simp[<-zh]
   have ve:j=0:=by
    have:(((iO c s).map AV.str)[i]).cells.length=1:=by rw[hx];rfl
    omega
   subst ve
   have hc:(((iO c s).map AV.str)[i]).cells[0]=.str ps[i].data.toList:=by simp only[hx];rfl
   rw[hc]
   have:((ps.map Value.string).toArray.getD (i*1+0) undef)=.string ps[i]:=by simp[hi]
   rw[this];exact .str _
theorem U5{n:Nat}{ck:Array Value}(hl:n=ck.size)(h:n=1):∃v,ck=#[v]:=by
 refine⟨ck[0]'(by omega),?_⟩;apply aeI
 .simp;omega
 .intro i hi h'
  match i,h' with
  |0,_=>rfl
theorem Tg{n:Nat}{ck:Array Value}(hl:n=ck.size)(h:n=2):∃v1 v2,ck=#[v1,v2]:=by
 refine⟨ck[0]'(by omega),ck[1]'(by omega),?_⟩;apply aeI
 .simp;omega
 .intro i hi h'
  match i,h' with
  |0,_=>rfl
  |1,_=>rfl
def B6:Nat->Nat->List UInt8
 |0,_=>[]
 |f+1,u=>if u<10 then[UInt8.ofNat (48+u)]else B6 f (u/10)++[UInt8.ofNat (48+u % 10)]
theorem B0:∀(f u:Nat),0<f->u<10^f->Lib.decDigits u=B6 f u
 |0,_,h,_=>by omega
 |f+1,u,_,h=>by
  rw[Lib.decDigits,B6];split
  .rfl
  .rename_i nB
   cases f with
   |zero=>simp at h;omega
   |succ f=>rw[B0 (f+1) (u/10) (by omega) (by rw[Nat.pow_succ]at h;exact agi (by rw[ae7];exact h))]
theorem VK(ls:List (List UInt8))(sep:List UInt8)(hn:ls.length<=100000)(hlen:(Lib.join ls sep).length<=140737488355328):AC prog GI 199 [strs ls,.str sep] (.ret (.str (Lib.join ls sep))):=by
 intro w old ck hG hl hr;obtain⟨v1,v2,rfl⟩:=Tg hl rfl;have e1:=(hr 0 (by simp) (by simp)).fj rfl;have e2:=l0 (hr 1 (by simp) (by simp));simp only[List.getElem_toArray,List.getElem_cons_zero,List.getElem_cons_succ]at e1 e2;subst e2;unfold strs at e1;generalize nU:ls.map AV.str=es at e1
 have hle:es.length=ls.length:=by rw[<-nU];simp
 have fin:∀{w':World}{l:List UInt8},Below w.heap.size w w'->l=Lib.join ls sep->AL.Ends prog old w (.ret (.str (Lib.join ls sep))) (.returned (.string ⟨l.toArray⟩)) w':=by
  rintro w' l hb rfl;exact⟨hb,λ_=>0,λ_ _=>rfl,_,rfl,.data _ _ (.str _),trivial⟩
 have emp:∀(a:Option Addr)(c:Nat),ls=[]->Calls prog 199 #[.slice a 0 c,.string ⟨sep.toArray⟩] w (AL.Ends prog old w (.ret (.str (Lib.join ls sep)))):=by
  rintro a c rfl;refine(Tryz.strings_Join_none a c ⟨sep.toArray⟩ w).mono ?_;rintro e w' ⟨rfl,rfl⟩;exact fin (l:=[]) (aeb _ _) rfl
 cases e1 with
 |jU=>exact emp none 0 (adQ (by rw[<-hle];rfl))
 |kV _ a0=>exact emp (some a0) 0 (adQ (by rw[<-hle];rfl))
 |slice _ _ b off cap size cs fF tC bq h1 hc jE=>
  by_cases h0:ls=[]
  .have rI:es.length=0:=by rw[hle,h0];rfl
   rw[rI];exact emp _ _ h0
  .have gf:0<ls.length:=adV.2 h0
   have iJ:∀j (h:j<es.length),es[j]=.str (ls[j]'(by omega)):=λj h=>by simp[<-nU]
   have vR:size=1:=by rw[<-bq 0 (by omega),iJ];rfl
   subst vR
   have fo:∀j (h:j<ls.length),w.cell? ⟨b,off+j,none⟩=some (.string ⟨ls[j].toArray⟩):=λj h=>by
    rw[(hc j (by omega)).2]
    have hz:0<(es[j]'(by omega)).cells.length:=by rw[bq j (by omega)];omega
    have h2:=jE j (by omega) 0 hz
    have h3:((es[j]'(by omega)).cells[0]'hz)=.str ls[j]:=by simp only[iJ j (by omega)];rfl
    rw[h3]at h2;have e:=l0 (RV.data (al:=cj) _ _ h2);simp only[aeD,Nat.add_zero]at e;rw[e]
   have hb:b<w.heap.size:=afM _ _ (fo 0 gf)
   have Kf:(ls.map λl=>(⟨l.toArray⟩:ByteArray)).map (·.data.toList)=ls:=by rw[aeh];simp[Function.comp_def]
   have QJ:=Tryz.strings_Join b off cap (ls.map λl=>(⟨l.toArray⟩:ByteArray)) ⟨sep.toArray⟩ w (λj x hx=>by
    simp only[adI,adr]at hx;obtain⟨l,O5,rfl⟩:=hx;obtain⟨hj,rfl⟩:=adE.1 O5
    exact fo j hj) hb (by simp;omega) (by simp;omega) (by rw[Kf];exact hlen)
   rw[Kf,adi]at QJ;rw[hle];refine QJ.mono ?_;rintro e w' ⟨rfl,hb⟩;exact fin hb rfl
theorem Mn(hG:aw GI)(s:List UInt8):AC prog GI 205 [.bool true,.str s] (.ret (.dN [])):=by
 refine bW hG func205 ntmps205 c205 ?_;simp[c205,bC,bn,aF,bg,aH,ev,aQ.S,aQ.H,bz,cU,ar,aT,AL.start,AV.aG,dS,post,cy,cJ,cK,AV.out,AV.bT]
theorem wrap32{n:Int}(h: -2147483648<=n/\n<2147483648):IntKind.i32.wrap n=n:=by
 have key:∀m:Int,m=n % 4294967296->(if decide (m>=2147483648)=true then m-4294967296 else m)=n:=by
  intro m hm;split
  .rename_i hd;have:=aeQ hd;omega
  .rename_i hd
   have hd':¬m>=2147483648:=λhh=>hd (aeN hh)
   omega
 exact key _ rfl
def de(w:List UInt8):Int:=w.foldl (λn c=>10*n+((c.toNat:Int)-48)) 0
def digit(c:UInt8):Prop:=48<=c.toNat/\c.toNat<=57
theorem wz(w:List UInt8)(c:UInt8):de (w++[c])=10*de w+((c.toNat:Int)-48):=by simp[de,adL]
theorem qe:∀(w:List UInt8),(∀c∈w,digit c)->w.length<=3->0<=de w/\de w<1000
 |[],_,_=>by simp[de]
 |[a],h,_=>by have:=h a (by simp);unfold digit at this;simp[de];omega
 |[a,b],h,_=>by have h1:=h a (by simp);have h2:=h b (by simp);unfold digit at h1 h2;simp[de];omega
 |[a,b,c],h,_=>by have h1:=h a (by simp);have h2:=h b (by simp);have h3:=h c (by simp);unfold digit at h1 h2 h3;simp[de];omega
 |_::_::_::_::_,_,h=>by simp at h
def oK(cc:Nat->Nat->Prop)(w:World)(k:Nat->Option Obj):Old:={ Old.plain cc w with bf:=k }
def rz(l:List Int):AV:=.slice (if l.isEmpty then .nil else .own 3) (ints l)
def gQ(ws:List (List UInt8))(j:Nat)(S:av)(_:aD):Prop:=
 S 3=rz ((ws.take j).map de)/\S 9=strs ws/\S 10=.int .i64 ws.length/\S 11=.int .i64 (j:Nat)
noncomputable def fu:af:=af.qb c208.qb.qb.qa.qb.qb
noncomputable def iq:af:=af.qb fu.qb.qb.qa
noncomputable def mb:af:=af.qb iq.qb.qb.qa.qb.qb
theorem SP (hG:aw GI) {ws:List (List UInt8)} (hlen:ws.length≤100000) (hd:∀ w∈ws,w≠[]∧w.length≤3∧∀ c∈w,digit c) (hI:∀ w∈ws,AC prog GI 162 [.int .i64 (de w)] (.ret (.str w))) :
  AC prog GI 208 [strs ws] (.ret (.slice (if ws.isEmpty then .nil else .view) (ints (ws.map de)))):=by
 refine AC.iF func208 rfl ntmps208 (by simp) λcc w=>?_
 refine dU hG c208.qa (λS' H'=>S' 0=strs ws) ?_ ?_
 .simp[c208,af.qa,bC,bn,aF,bg,aH,ev,aQ.S,aQ.H,ar,aT,AL.start,AV.aG,strs,bz,aM]
 rintro S1 H1 s0;refine dU hG c208.qb.qa (λS' H'=>S' 0=strs ws/\S' 3=rz []) ?_ ?_
 .simp[c208,af.qa,af.qb,bC,bn,aF,bg,aH,ev,aQ.S,aQ.H,ar,aT,s0,bz,aM,rz,ints]
 rintro S2 H2 ⟨s0,s3⟩;show SW prog GI 55 none (.seq (.seq _ (.block 0 (.loop _))) (.seq _ .ret)) _ _ _ _;refine SW.seq (dU hG c208.qb.qb.qa.qa (gQ ws 0) ?_ ?_)
 .simp[c208,af.qa,af.qb,bC,bn,aF,bg,aH,ev,aQ.S,aQ.H,ar,aT,s0,s3,gQ,strs,AV.aG,aM]
 intro S3 H3 hF;refine SW.block (SW.loop (λo S' H'=>∃k j,o=oK cc w k/\j<=ws.length/\gQ ws j S' H') (λS' _=>match S' 11 with|.int _ j=>ws.length-j.toNat|_=>0) ⟨_,0,rfl,adZ _,hF⟩ ?_);rintro o S4 H4 ⟨kk,j,rfl,hj,hF⟩;have m11:S4 11=.int .i64 (j:Nat):=hF.2.2.2
 have dH:∀k d,¬(oK cc w k).bx d:=λ_ _ h=>h
 show SW prog GI 55 none (.seq _ (.seq (.cond _ _ _) (.seq (.block 1 (.seq _ (.seq _ (.seq (.seq _ (.block 2 (.loop _))) (.seq _ _))))) _))) _ _ _ _;refine dU hG fu.qa (λS' H'=>S' 12=.bool (decide (j<ws.length))/\gQ ws j S' H') ?_ ?_
 .obtain⟨s3,s9,bL,bG⟩:=hF;simp[c208,fu,af.qa,af.qb,bC,bn,aF,bg,aH,aM,ev,aQ.S,aQ.H,ar,aT,gQ,s3,s9,bL,bG,dS]
 rintro S5 H5 ⟨bU,hF⟩
 by_cases au:j<ws.length
 case neg=>
  refine SW.seq (SW.cond rfl false (by show S5 12=_;rw[bU];simp[au]) (SW.exit ?_))
  have nc:j=ws.length:=by omega
  subst nc;obtain⟨s3,s9,bL,bG⟩:=hF;rw[aea]at s3;show SW prog GI 55 none (.seq _ .ret) _ _ _ _;refine dU hG c208.qb.qb.qb.qa (λS' H'=>S' 2=.slice (if ws.isEmpty then .nil else .view) (ints (ws.map de))) ?_ ?_
  .cases ws<;>simp[c208,af.qa,af.qb,bC,bn,aF,bg,aH,ev,aQ.S,aQ.H,ar,aT,s3,rz,AV.aG,bz,aM]
  intro S7 H7 s2;refine SW.ret ⟨eD.plain rfl,rfl,_,?_,rfl⟩;show cy prog 55 [.tmp 2] S7 H7=_;simp[cy,cJ,cK,s2,AV.bT,AV.out]
 case pos=>
  refine SW.seq (SW.cond rfl true (by show S5 12=_;rw[bU];simp[au]) (SW.skip ?_));show SW prog GI 55 none (.seq (.block 1 (.seq _ (.seq _ (.seq (.seq _ (.block 2 (.loop _))) (.seq _ _))))) _) _ _ _ _;have sx:ws[j]∈ws:=ada au
  obtain⟨wd,lE⟩:∃wd,ws[j]=wd:=⟨_,rfl⟩
  have Xu:=hd _ sx;have J3:=hI _ sx;rw[lE]at Xu J3;obtain⟨cI,Lz,zF⟩:=Xu;refine SW.seq (SW.block (dU hG iq.qa (λS' H'=>S' 5=.str wd/\gQ ws j S' H') ?_ ?_))
  .obtain⟨s3,s9,bL,bG⟩:=hF;simp[c208,fu,iq,af.qa,af.qb,bC,bn,aF,bg,aH,aM,ev,aQ.S,aQ.H,ar,aT,gQ,s3,s9,bL,bG,strs,au,lE,b0,AV.cells,AV.aG,bz]
  rintro S6 H6 ⟨s5,hF⟩;refine dU hG iq.qb.qa (λS' H'=>S' 6=.int .i64 0/\S' 5=.str wd/\gQ ws j S' H') ?_ ?_
  .obtain⟨s3,s9,bL,bG⟩:=hF;simp[c208,fu,iq,af.qa,af.qb,bC,bn,aF,bg,aH,aM,ev,aQ.S,aQ.H,ar,aT,gQ,s3,s5,s9,bL,bG,AV.aG,bz]
  rintro S7 H7 ⟨s6,s5,hF⟩
  obtain⟨sb,lX⟩:∃sb:ByteArray,sb=⟨wd.toArray⟩:=⟨_,rfl⟩
  refine SW.seq (SW.seq (SW.mid hG (p:=1) (oh:={ dst:=some 16,op := .range 9 (.tmp 15),type:=0,pos := "text.go:133",after:=_,guard:=none }) (kd:=[_]) (lI:=[]) (l2:=[]) rfl rfl rfl rfl (by kernel_rfl) rfl (dH _) (lU:=(iq.qb.qb.qa.qa.dl).take 1) (kZ:=[]) (by kernel_rfl) rfl (by kernel_rfl) rfl
   (K1:=λS' H'=>S' 15=.str wd/\S' 6=.int .i64 0/\S' 5=.str wd/\gQ ws j S' H')
   (K2:=λo S' H'=>∃k b,o=oK cc w k/\k b=some (.stringIter sb 0)/\S' 16=.val (.pointer (some ⟨b,0,none⟩))/\S' 6=.int .i64 0/\S' 5=.str wd/\gQ ws j S' H')
   (K3:=λo S' H'=>∃k b,o=oK cc w k/\k b=some (.stringIter sb 0)/\S' 16=.val (.pointer (some ⟨b,0,none⟩))/\S' 6=.int .i64 0/\S' 5=.str wd/\gQ ws j S' H') ?_ ?_ ?_ ?_))
  .obtain⟨s3,s9,bL,bG⟩:=hF;simp[c208,fu,iq,af.qa,af.qb,af.dl,bn,aF,bg,aH,ev,aQ.S,aQ.H,ar,aT,gQ,s3,s5,s6,s9,bL,bG,AV.aG]
  .rintro w0 g S8 H8 a w8 ho R ⟨gm,s6,s5,s3,s9,bL,bG⟩;have t15:=R.slot 15 (by decide) (λh=>h);rw[gm]at t15
   have t15:a.eval (.tmp 15)=.string sb:=by rw[lX];exact l0 t15
   have gE:prog.underlying 9=some .string:=by kernel_rfl
   have R2:=R.lO (.stringIter sb 0);refine⟨_,_,_,ar S8 16 (.val (.pointer (some ⟨w8.heap.size,0,none⟩))),H8,.inl (xG rfl gE t15),R2.put 16 _ _ (by decide) (.data _ _ (.val _ rfl)) trivial,ar g.old.bf w8.heap.size (some (.stringIter sb 0)),w8.heap.size,?_,aS _ _ _,by simp[ar],by simp[ar,s6],by simp[ar,s5],by simp[ar,s3],by simp[ar,s9],by simp[ar,bL],by simp[ar,bG]⟩;show({ g.old with bf:=ar g.old.bf w8.heap.size _ }:Old)=_;rw[ho];rfl
  .rintro o S8 H8 ⟨k,b,rfl,h⟩;exact⟨dH _,k,b,rfl,h⟩
  .rintro o S8 H8 ⟨k,b,rfl,vm,eV,s6,s5,hF⟩
   refine SW.block (SW.Qe (λo S' H'=>∃k b pos,o=oK cc w k/\k b=some (.stringIter sb pos)/\pos<=wd.length/\S' 16=.val (.pointer (some ⟨b,0,none⟩))/\S' 6=.int .i64 (de (wd.take pos))/\S' 5=.str wd/\gQ ws j S' H')
    (λo S' _=>match S' 16 with|.val (.pointer (some a))=>(match o.bf a.block with|some (.stringIter _ p)=>wd.length-p|_=>0)|_=>0) ⟨k,b,0,rfl,vm,adZ _,eV,s6,s5,hF⟩ ?_)
   rintro o S9 H9 ⟨k,b,pos,rfl,vm,gf,eV,s6,s5,hF⟩;have m16:=eV
   have Lq:∀(S:av)(k:Nat->Option Obj) p,S 16=.val (.pointer (some ⟨b,0,none⟩))->k b=some (.stringIter sb p)->(match S 16 with|.val (.pointer (some a))=>(match(oK cc w k).bf a.block with|some (.stringIter _ p)=>wd.length-p|_=>0)|_=>0)=wd.length-p:=by
    intro S k p h1 h2;rw[h1];show(match k b with|some (.stringIter _ p)=>wd.length-p|_=>0)=_;rw[h2]
   have bq:sb.size=wd.length:=by rw[lX];rfl
   show SW prog GI 55 none (.seq _ (.seq (.cond _ _ _) (.block 3 (.seq _ (.seq _ _))))) _ _ _ _
   by_cases hp:pos<wd.length
   case neg=>
    refine SW.seq (SW.mid hG (p:=0) (oh:={ dst:=some 17,op := .next (.tmp 16) true,type:=0,pos := "text.go:133",after := #[],guard:=none }) (kd:=[]) (lI:=[_]) (l2:=[1]) rfl rfl rfl rfl (by kernel_rfl) rfl (dH _) (lU:=[]) (kZ:=(mb.qa.dl).drop 1) rfl (by kernel_rfl) rfl (by kernel_rfl)
     (K1:=λS' H'=>S' 16=.val (.pointer (some ⟨b,0,none⟩))/\S' 6=.int .i64 (de wd)/\S' 5=.str wd/\gQ ws j S' H')
     (K2:=λo S' H'=>o=oK cc w k/\S' 17=.dN [.bool false]/\S' 6=.int .i64 (de wd)/\S' 5=.str wd/\gQ ws j S' H')
     (K3:=λo S' H'=>o=oK cc w k/\S' 18=.bool false/\S' 6=.int .i64 (de wd)/\S' 5=.str wd/\gQ ws j S' H') ?_ ?_ ?_ ?_)
    .have:pos=wd.length:=by omega
     subst this;rw[aea]at s6;exact⟨eV,s6,s5,hF⟩
    .rintro w0 g oH rB a Iv ho R ⟨eV,s6,s5,s3,s9,bL,bG⟩;have t16:=R.slot 16 (by decide) (λh=>h);rw[eV]at t16;have t16:a.eval (.tmp 16)=.pointer (some ⟨b,0,none⟩):=t16.fG
     have hk:g.old.bf b=some (.stringIter sb pos):=by rw[ho];exact vm
     have hb:=(R.kept b _ hk).2.1;refine⟨_,_,_,ar oH 17 (.dN [.bool false]),rB,.inl (so rfl t16 hb (by omega)),R.put 17 _ _ (by decide) (.data _ _ (.dN _ _ rfl λi h h'=>?_)) trivial,ho,aS _ _ _,by simp[ar,s6],by simp[ar,s5],by simp[ar,s3],by simp[ar,s9],by simp[ar,bL],by simp[ar,bG]⟩
     match i,h with
     |0,_=>exact .bool _
    .rintro o oH rB ⟨rfl,jS,s6,s5,s3,s9,bL,bG⟩;refine⟨dH _,?_⟩;simp[c208,fu,iq,mb,af.qa,af.qb,af.dl,bn,aF,bg,aH,ev,aQ.S,aQ.H,ar,aT,gQ,s3,s5,s6,s9,bL,bG,jS,AV.aG]
    .rintro o oH rB ⟨rfl,ka,s6,s5,hF⟩;refine SW.seq (SW.cond rfl false (by show oH 18=_;rw[ka]) (SW.exit ?_));show SW prog GI 55 none (.seq _ _) _ _ _ _;have hs:=qe wd zF Lz;refine zJ hG iq.qb.qb.qb.qa (λd _=>dH _ d) (λS' H'=>S' 6=.int .i64 (de wd)/\gQ ws j S' H') ?_ ?_
     .obtain⟨s3,s9,bL,bG⟩:=hF;have wa:=Mn (GI:=GI) hG wd
      have e8:∀H,fz H (.int .i64 (de wd))=.int .i64 (de wd):=λH=>rfl
      have L0:(wd !=[])=true:=by simpa using cI
      have e9:∀H,fz H (.str wd)=.str wd:=λH=>rfl
      have jt:∀H,fz H (.bool true)=.bool true:=λH=>rfl
      simp[c208,fu,iq,af.qa,af.qb,af.dl,bC,bn,aF,bg,aH,aM,ev,aQ.S,aQ.H,ar,aT,gQ,s3,s5,s6,s9,bL,bG,AV.aG,dS,L0,e8];refine oc J3 ?_;simp[iD,ar,AV.aG,s3,s5,s6,s9,bL,bG,dS,e9,jt];refine oc wa ?_;simp[iD,ar,AV.aG,s3,s5,s6,s9,bL,bG]
     rintro S11 H11 ⟨s6,hF⟩
     have Pc:(ws.take (j+1)).map de=(ws.take j).map de++[de wd]:=by rw[adj au,adD,lE];rfl
     have Z8:((ws.take j).map de).length<=100000:=by simp;omega
     refine SW.mono (Q:=λe o S' H'=>e=.normal/\o=oK cc w k/\S' 3=rz ((ws.take (j+1)).map de)/\S' 9=strs ws/\S' 10=.int .i64 ws.length/\S' 11=.int .i64 (j:Nat)) ?_ (SW.og hG cV (by kernel_rfl) (λd _=>dH _ d) (ac:=af.qb iq.qb.qb.qb) (by kernel_rfl) ?_)
     .rintro e o S' H' ⟨rfl,rfl,s3,s9,bL,bG⟩;show SW prog GI 55 none _ _ _ _ _;refine SW.og hG cV (by kernel_rfl) (λd _=>dH _ d) (ac:=af.qb fu.qb.qb) (by kernel_rfl) ?_;have oW:IntKind.i64.wrap ((j:Int)+1)=j+1:=aN (by omega);simp[c208,fu,af.qa,af.qb,bC,bn,aF,bg,aH,ev,aQ.S,aQ.H,ar,aT,s3,s9,bL,bG,dS,AV.aG,oW,jM.bC,thenS,gQ];refine⟨⟨⟨_,rfl⟩,j+1,by omega,rfl,by omega⟩,?_⟩;rw[m11];show ws.length-(j+1)<ws.length-(j:Int).toNat;rw[Int.toNat_natCast];omega
     .unfold jM.bC;obtain⟨s3,s9,bL,bG⟩:=hF;rw[Pc];generalize(ws.take j).map de=L at s3 Z8⊢
      cases L with
      |nil=>simp[c208,fu,iq,af.qa,af.qb,af.dl,bC,bn,aF,bg,aH,ev,aQ.S,aQ.H,ar,aT,s3,s6,s9,bL,bG,rz,ints,AV.aG,aJ,AV.storable,AV.cells,AV.vw,AV.bH,bz]
      |cons x L=>
       have pS:L.length+1+1<1048576:=by simp at Z8;omega
       simp[c208,fu,iq,af.qa,af.qb,af.dl,bC,bn,aF,bg,aH,ev,aQ.S,aQ.H,ar,aT,s3,s6,s9,bL,bG,rz,ints,AV.aG,aJ,AV.storable,AV.cells,AV.vw,AV.bH,bz,pS]
   case pos=>
    obtain⟨c,hc⟩:∃c,wd[pos]=c:=⟨_,rfl⟩
    have PB:digit c:=zF c (hc▸ada hp);have Ls:=PB;unfold digit at Ls
    have CO:sb[pos]'(by omega)=c:=by subst lX;rw[<-hc];rfl
    refine SW.seq (SW.mid hG (p:=0) (oh:={ dst:=some 17,op := .next (.tmp 16) true,type:=0,pos := "text.go:133",after := #[],guard:=none }) (kd:=[]) (lI:=[_]) (l2:=[1]) rfl rfl rfl rfl (by kernel_rfl) rfl (dH _) (lU:=[]) (kZ:=(mb.qa.dl).drop 1) rfl (by kernel_rfl) rfl (by kernel_rfl)
     (K1:=λS' H'=>S' 16=.val (.pointer (some ⟨b,0,none⟩))/\S' 6=.int .i64 (de (wd.take pos))/\S' 5=.str wd/\gQ ws j S' H')
     (K2:=λo S' H'=>o=oK cc w (ar k b (some (.stringIter sb (pos+1))))/\S' 16=.val (.pointer (some ⟨b,0,none⟩))/\S' 17=.dN [.bool true,.int .i64 pos,.int .i32 c.toNat]/\S' 6=.int .i64 (de (wd.take pos))/\S' 5=.str wd/\gQ ws j S' H')
     (K3:=λo S' H'=>o=oK cc w (ar k b (some (.stringIter sb (pos+1))))/\S' 16=.val (.pointer (some ⟨b,0,none⟩))/\S' 18=.bool true/\S' 17=.dN [.bool true,.int .i64 pos,.int .i32 c.toNat]/\S' 6=.int .i64 (de (wd.take pos))/\S' 5=.str wd/\gQ ws j S' H') ⟨eV,s6,s5,hF⟩ ?_ ?_ ?_)
    .rintro w0 g oH rB a Iv ho R ⟨eV,s6,s5,s3,s9,bL,bG⟩;have t16:=R.slot 16 (by decide) (λh=>h);rw[eV]at t16;have t16:a.eval (.tmp 16)=.pointer (some ⟨b,0,none⟩):=t16.fG
     have hk:g.old.bf b=some (.stringIter sb pos):=by rw[ho];exact vm
     have hb:=(R.kept b _ hk).2.1;refine⟨_,_,_,ar oH 17 (.dN [.bool true,.int .i64 pos,.int .i32 c.toNat]),rB,.inl (Lp rfl t16 hb (by omega) (by rw[CO];omega)),(R.mF hk _).put 17 _ _ (by decide) (.data _ _ (.dN _ _ rfl λi h h'=>?_)) trivial,?_,by simp[ar,eV],aS _ _ _,by simp[ar,s6],by simp[ar,s5],by simp[ar,s3],by simp[ar,s9],by simp[ar,bL],by simp[ar,bG]⟩
     .match i,h with
      |0,_=>exact .bool _
      |1,_=>exact .int _ _
      |2,_=>
       show RD _ _ _ (Value.int .i32 (sb[pos]'(by omega)).toNat);rw[CO];exact .int _ _
     .show({ g.old with bf:=ar g.old.bf b _ }:Old)=_;rw[ho];rfl
    .rintro o oH rB ⟨rfl,eV,jS,s6,s5,s3,s9,bL,bG⟩;refine⟨dH _,?_⟩;simp[c208,fu,iq,mb,af.qa,af.qb,af.dl,bn,aF,bg,aH,ev,aQ.S,aQ.H,ar,aT,gQ,s3,s5,s6,s9,bL,bG,eV,jS,AV.aG]
    .rintro o oH rB ⟨rfl,eV,ka,jS,s6,s5,hF⟩;refine SW.seq (SW.cond rfl true (by show oH 18=_;rw[ka]) (SW.skip ?_));show SW prog GI 55 none (.block 3 (.seq _ (.seq _ _))) _ _ _ _
     have lT:wd.take (pos+1)=wd.take pos++[c]:=by rw[adj hp,hc]
     have ZL:=qe (wd.take pos) (λx hx=>zF x (aeg hx)) (by simp;omega);refine SW.block (SW.mono (Q:=λe o S' H'=>e=.normal/\o=oK cc w (ar k b (some (.stringIter sb (pos+1))))/\S' 16=.val (.pointer (some ⟨b,0,none⟩))/\S' 6=.int .i64 (de (wd.take (pos+1)))/\S' 5=.str wd/\gQ ws j S' H') ?_ (SW.og hG cV (by kernel_rfl) (λd _=>dH _ d) (ac:=af.qb mb.qb.qb) (by kernel_rfl) ?_))
     .rintro e o S' H' ⟨rfl,rfl,eV,s6,s5,hF⟩;refine⟨⟨ar k b (some (.stringIter sb (pos+1))),b,pos+1,rfl,aS _ _ _,hp,eV,s6,s5,hF⟩,?_⟩;show(match S' 16 with|.val (.pointer (some a))=>(match(oK cc w (ar k b (some (.stringIter sb (pos+1))))).bf a.block with|some (.stringIter _ p)=>wd.length-p|_=>0)|_=>0)<_;rw[Lq S' _ (pos+1) eV (aS _ _ _),Lq S9 k pos m16 vm];omega
     .unfold jM.bC;obtain⟨s3,s9,bL,bG⟩:=hF;have wa:=Mn (GI:=GI) hG wd
      have g1:(48:Int)<=c.toNat:=by omega
      have g2:(c.toNat:Int)<=57:=by omega
      have g3:(wd.length:Int)<=3:=by omega
      have w1:IntKind.i64.wrap (10*de (wd.take pos))=10*de (wd.take pos):=aN (by omega);have w2:IntKind.i32.wrap ((c.toNat:Int)-48)=(c.toNat:Int)-48:=wrap32 (by omega);have w3:IntKind.i64.wrap ((c.toNat:Int)-48)=(c.toNat:Int)-48:=aN (by omega)
      have w4:IntKind.i64.wrap (10*de (wd.take pos)+((c.toNat:Int)-48))=de (wd.take (pos+1)):=by rw[lT,wz,aN (by omega)]
      have e9:∀H,fz H (.str wd)=.str wd:=λH=>rfl
      have jt:∀H,fz H (.bool true)=.bool true:=λH=>rfl
      simp[c208,fu,iq,mb,af.qa,af.qb,af.dl,bC,bn,aF,bg,aH,cU,ev,aQ.S,aQ.H,ar,aT,gQ,s3,s5,s6,s9,bL,bG,eV,jS,AV.aG,dS,g1,g2,g3,e9,jt,bz];refine oc wa ?_;simp[iD,ar,AV.aG,s3,s5,s6,s9,bL,bG,eV,dS,w1,w2,w3,w4,bz]
theorem xi(a:Act)(d:Nat)(c c':Value):(a.put (some d) c).put (some d) c'=a.put (some d) c':=by
 simp[Act.put]
theorem Hy (hG:aw GI) {w0:World} {n:Nat} {g:Gh} {S:av} {H:aD} {a:Act} {w:World} {d i1 i4:Nat} {s:List UInt8} {z x:List AV} (cT:GI w0) (R:Rel prog w0 n cm g S H a w) (hd:d < n) (LJ:i1 < n) (Ek:i4 < n) (FT:d≠i4)
  (Lu:S i1=.box i1 0) (MR:H i1=some [.str s]) (AX:S i4=.box i4 0) (Fh:H i4=some z) (hz:z.length=10) (hx:x.length=10) (CA:AC prog GI 172 [.str s] (.ret (.agg x))):
  Calls prog 171 #[a.tmps.getD i1 undef,a.tmps.getD i4 undef] w λe w2=>e=.returned (.tuple #[])/\∃(c:Value)(g':Gh)(S':av)(H':aD),g'.old=g.old/\Rel prog w0 n cm g' S' H' (a.put (some d) c) w2/\(∀t,t≠d->S' t=S t)/\H'=ar H i4 (some (x.map AV.aG)):=by
 have bq:=R.size;have v1:=R.slot i1 LJ id;rw[Lu]at v1;have v4:=R.slot i4 Ek id;rw[AX]at v4
 obtain⟨b1,e1,GH⟩:∃b,a.tmps.getD i1 undef=.pointer (some ⟨b,0,none⟩)/\g.al i1=some b:=by
  generalize a.tmps.getD i1 undef=c at v1
  cases v1 with
  |data _ _ h=>cases h
  |box _ _ b h=>exact⟨b,rfl,h⟩
 obtain⟨b4,e4,acg⟩:∃b,a.tmps.getD i4 undef=.pointer (some ⟨b,0,none⟩)/\g.al i4=some b:=by
  generalize a.tmps.getD i4 undef=c at v4
  cases v4 with
  |data _ _ h=>cases h
  |box _ _ b h=>exact⟨b,rfl,h⟩
 obtain⟨cs,vs,ty,k0,k1,k2,k3,k4,k5,k6,k7,k8⟩:=R.box i1 b1 GH;rw[MR]at k0;cases k0
 have h0:0<vs.size:=by rw[<-k5];exact Nat.zero_lt_one
 have hv:=l0 (RV.data (al:=cj) _ _ (k6 0 (by simp) h0))
 have fo:w.cell? ⟨b1,0,none⟩=some (.string ⟨s.toArray⟩):=by simp[World.cell?,k2,h0,hv]
 have wh:=R.below
 have hle:g.base<=w.heap.size:=by rw[R.base];exact R.below.size
 rw[R.base]at wh;have fU:GI w:=hG w0 w cT wh;rw[e1,e4];refine afy func171 rfl ?_;refine(e_ (m:=0)).1 ?_;refine fM (λa=>a.tmps.size=4/\a.defers=[]/\a.tmps.getD 0 undef=.pointer (some ⟨b1,0,none⟩)/\a.tmps.getD 1 undef=.pointer (some ⟨b4,0,none⟩)) ⟨by simp[ntmps171],rfl,bV _ _ 0 (by simp),bV _ _ 1 (by simp)⟩ ?_;rintro aC ⟨zC,dC,t0,t1⟩
 have eB:∀(a:Act)(d t:Nat)(c:Value),t≠d->(a.put (some d) c).tmps.getD t undef=a.tmps.getD t undef:=λa d t c h=>by
  simp[Act.put,adg (ad2 h)]
 have ir:∀(a:Act)(d:Nat)(c:Value),a.tmps.size=4->d<4->(a.put (some d) c).tmps.getD d undef=c:=λa d c h hd=>by
  simp[Act.put,h,hd]
 refine adB ?_;show wpOpsIn _ _ _ _ _ [0,1,2] aC w;refine aV rfl rfl (by rfl) (kN (t:=9) (d:=.string) (b:=b1) (off:=0) rfl t0 (by kernel_rfl) rfl fo) ?_;show wpOpsIn _ _ _ _ _ [1,2] (aC.put (some 2) (.string ⟨s.toArray⟩)) w
 refine fH rfl rfl (by rfl) (gK (k:=172) (args:=#[.string ⟨s.toArray⟩]) w rfl rfl ?_ (by kernel_rfl)) (CA w (fy g false) #[.string ⟨s.toArray⟩] fU rfl (λi h h'=>by
  match i,h with
  |0,_=>exact .data _ _ (.str s))) ?_
 .simp only[adK,adC,adO];show #[(aC.put (some 2) _).tmps.getD 2 undef]=_;rw[ir _ _ _ zC (by decide)]
 rintro e w2 ⟨iU,hi,qR,c,rfl,EB,dO⟩;refine⟨c,rfl,?_⟩;obtain⟨g',xu,py,R2⟩:=R.call (some d) (λt ht=>by cases ht;exact⟨hd,id⟩) false iU qR EB dO (λh=>by cases h);obtain⟨i28,Ln,Kq⟩:=bp (P:=prog) (t:=29) (s:=10) (by kernel_rfl)
 let oS:Oper:={ dst:=none,op := .store 29 (.tmp i4) (.tmp d),type:=0,pos := "",after := #[],guard:=none }
 have jB:bo z 0 (x.map AV.aG)=x.map AV.aG:=by simp[bo,hz,hx]
 have ke:aH (AL.aT S (some d) (.agg x)) H (.store .any i28.size (.t i4) (.t d))=some { v:=b_,dm:=some d,hw:=some (i4,x.map AV.aG) }:=by
  simp[aH,AL.aT,ev,ar,ad2 FT,AX,Fh,HR.okB,AV.cells,AV.storable,AV.bZ,Kq,hx,hz,bz,jB]
 obtain⟨c2,w3,g3,dv,Mo,wG,R3⟩:=kX R2 (o:=oS) (x1:=.tmp i4) (x2:=.tmp d) (y1:=.t i4) (y2:=.t d) (hr:=.any) rfl rfl Ln (by simp[eO,Ek]) (by simp[eO,hd]) (λ_ _=>id) (λ_ _=>id) ke;show wpOpsIn _ _ _ _ _ [2] ((aC.put (some 2) (.string ⟨s.toArray⟩)).put (some 3) c) w2
 obtain⟨a3,Kb⟩:∃a3,(aC.put (some 2) (.string ⟨s.toArray⟩)).put (some 3) c=a3:=⟨_,rfl⟩
 rw[Kb]
 have z3:a3.tmps.size=4:=by rw[<-Kb,jD,jD];exact zC
 have d3:a3.defers=[]:=by rw[<-Kb];exact dC
 have e31:a3.eval (.tmp 1)=.pointer (some ⟨b4,0,none⟩):=by
  rw[<-Kb,bB _ _ _ _ (by rw[jD];omega),if_neg (by decide),bB _ _ _ _ (by omega),if_neg (by decide)];exact t1
 have e33:a3.eval (.tmp 3)=c:=by rw[<-Kb,bB _ _ _ _ (by rw[jD];omega),if_pos rfl]
 have f4:(a.put (some d) c).eval (.tmp i4)=.pointer (some ⟨b4,0,none⟩):=by rw[bB _ _ _ _ (by omega),if_neg (ad2 FT)];exact e4
 have fd:(a.put (some d) c).eval (.tmp d)=c:=by rw[bB _ _ _ _ (by omega),if_pos rfl]
 have bb:∀o:Oper,o.op=.store 29 (.tmp 1) (.tmp 3)->(execOp a3.eval o).run prog w2=(execOp (a.put (some d) c).eval oS).run prog w2:=by
  intro o ho;unfold execOp;simp only[ho,e31,e33,oS,f4,fd]
 have fin:∀ops,wpOpsIn (FR none) 0 prog ops (bodyPost prog f171 λe w2=>e=.returned (.tuple #[])/\∃(c:Value)(g':Gh)(S':av)(H':aD),g'.old=g.old/\Rel prog w0 n cm g' S' H' (a.put (some d) c) w2/\(∀t,t≠d->S' t=S t)/\H'=ar H i4 (some (x.map AV.aG))) [] a3 w3:=by
  intro ops;refine⟨d3,.tuple #[],?_,rfl,c,g3,_,_,by rw[wG,py],R3,λt ht=>?_,rfl⟩
  .simp[results,results171]
  .simp[aQ.S,AL.aT,ar,ht,oS]
 rcases dv with dv|⟨dv,rfl⟩
 .refine aV rfl rfl (by rfl) ((bb _ rfl).trans dv) (fin _)
 .refine dM rfl rfl (by rfl) ((bb _ rfl).trans dv) (fin _)
theorem qn{P:Program}{w0:World}{n:Nat}{g:Gh}{S:av}{H:aD}{a:Act}{w:World}(R:Rel P w0 n cm g S H a w)(b:Nat):Rel P w0 n cm { g with old:={ g.old with bf:=ar g.old.bf b none } } S H a w:={
 size:=R.size
 defers:=R.defers
 facts:=R.facts
 slot:=R.slot
 own t ht hu:=(R.own t ht hu).bf rfl λb hb=>⟨rfl,rfl,hb⟩
 box i c hi:=by
  obtain⟨cs,vs,ty,h1,h2,h3,h4,h5,h6,h7,h8,h9⟩:=R.box i c hi;exact⟨cs,vs,ty,h1,h2,h3,h4,h5,h6,h7,λj hj dY=>(h8 j hj dY).bf rfl λb hb=>⟨rfl,rfl,hb⟩,h9⟩
 mB:=R.mB
 mr:=R.mr
 inj:=R.inj
 base:=R.base
 below:=R.below
 fresh:=R.fresh
 still:=R.still
 grown:=R.grown
 kept c o h:=by
  have hc:c≠b:=by rintro rfl;simp[ar]at h
  exact R.kept c o (by simpa[ar,hc]using h) }
theorem Ik (hG:aw GI) {w0:World} {n:Nat} {g:Gh} {S:av} {H:aD} {a:Act} {w:World} {d i1 i4:Nat} {s:List UInt8} {z x:List AV} (cT:GI w0) (R:Rel prog w0 n cm g S H a w) (hd:d < n) (LJ:i1 < n) (Ek:i4 < n) (FT:d≠i4)
  (Lu:S i1=.box i1 0) (MR:H i1=some [.str s]) (AX:S i4=.box i4 0) (Fh:H i4=some z) (hz:z.length=10) (hx:x.length=10) (CA:AC prog GI 172 [.str s] (.ret (.agg x))):
  Calls prog 170 #[.func (.func 171) #[] #[a.tmps.getD i1 undef,a.tmps.getD i4 undef]] w λe w2=>e=.returned (.int .i64 0)/\∃(c:Value)(g':Gh)(S':av)(H':aD),g'.old=g.old/\Rel prog w0 n cm g' S' H' (a.put (some d) c) w2/\(∀t,t≠d->S' t=S t)/\H'=ar H i4 (some (x.map AV.aG)):=by
 have R1:=R.lO (.cells #[.int .i64 0] 34)
 have vf:g.old.bf w.heap.size=none:=by
  cases h:g.old.bf w.heap.size with
  |none=>rfl
  |some o=>
   have:=(ade.1 (R.kept _ o h).2.1).1;omega
 refine pL (by kernel_rfl) (Hy hG cT R1 hd LJ Ek FT Lu MR AX Fh hz hx CA) ?_;rintro e w2 ⟨rfl,c,g',S',H',ho,R2,rO,rJ⟩
 have hk:g'.old.bf w.heap.size=some (.cells #[.int .i64 0] 34):=by rw[ho];exact aS _ _ _
 have ju:=(R2.kept _ _ hk).2.1;have au:=(ade.1 ju).1;refine⟨au,⟨_,_,ju⟩,.inl ⟨_,rfl,rfl,c,_,S',H',?_,(qn R2 w.heap.size).kS ?_,rO,rJ⟩⟩
 .show({ g'.old with bf:=ar g'.old.bf w.heap.size none }:Old)=_;rw[ho]
  have:ar (ar g.old.bf w.heap.size (some (.cells #[.int .i64 0] 34))) w.heap.size none=g.old.bf:=by
   funext b
   by_cases hb:b=w.heap.size
   .subst hb;simp[ar,vf]
   .simp[ar,hb]
  show({ g.old with bf:=ar (ar g.old.bf w.heap.size (some (.cells #[.int .i64 0] 34))) w.heap.size none }:Old)=_;rw[this]
 .refine⟨rfl,rfl,rfl,by simp,λk dP=>?_⟩
  by_cases hb:k=w.heap.size
  .subst hb;rw[aeJ w2 _ _ _ _ _ ju,ju]
  .exact aec w2 _ k _ hb
theorem Uz (hG:aw GI) {s:List UInt8} {x:List AV} (hs:s.length≤320) (hx:x.length=10) (CA:AC prog GI 172 [.str s] (.ret (.agg x))) (Px:AC prog GI 78 [.agg (x.map AV.bH)] (.ret (.bool true))) :
  AC prog GI 122 [.str s] (.ret (.dN [.agg (x.map AV.bH),.int .i64 0])):=by
 refine AC.iF func122 rfl ntmps122 (by simp) λcc w=>?_
 refine dU hG c122.qa (λS' H'=>S' 1=.box 1 0/\S' 2=.box 2 0/\H' 1=some [.str s]/\∃z,H' 2=some z/\z.length=10) ?_ ?_
 .simp[c122,af.qa,bC,bn,aF,bg,aH,ev,aQ.S,aQ.H,ar,aT,AL.start,AV.aG,AV.cells,AV.storable,bX,bz,aM]
 rintro S1 H1 ⟨s1,s2,h1,z2,h2,hz2⟩;refine SW.seq (dU hG c122.qb.qa.qa (λS' H'=>S' 1=.box 1 0/\S' 2=.box 2 0/\H' 1=some [.str s]/\H' 2=some z2/\S' 8=.bool false) ?_ ?_)
 .have hs':¬(320:Int)<s.length:=by omega
  simp[c122,af.qa,af.qb,bC,bn,aF,bg,aH,ev,aQ.S,aQ.H,ar,aT,s1,s2,h1,h2,b0,HR.okB,AV.aG,dS,hs',aM]
 rintro S2 H2 ⟨s1,s2,h1,h2,s8⟩;refine SW.cond rfl false (by show S2 8=_;rw[s8]) (SW.skip ?_);show SW prog GI 21 none (.seq _ (.seq (.seq _ (.seq _ (.cond _ _ _))) (.seq (.seq _ (.cond _ _ _)) (.seq _ .ret)))) _ _ _ _;refine dU hG c122.qb.qb.qa (λS' H'=>S' 1=.box 1 0/\S' 2=.box 2 0/\S' 4=.box 4 0/\H' 1=some [.str s]/\H' 2=some z2/\∃z,H' 4=some z/\z.length=10) ?_ ?_
 .simp[c122,af.qa,af.qb,bC,bn,aF,bg,ar,bX,s1,s2,h1,h2,aM]
 rintro S3 H3 ⟨s1,s2,s4,h1,h2,z4,h4,Tw⟩
 refine SW.seq (SW.seq (SW.hand hG (p:=0) (lm:=[0,1]) (l2:=[2]) (kd:=[]) (oh:=[_,_]) (lI:=[_]) rfl rfl rfl rfl (by kernel_rfl) (λ_ h=>h) (lU:=[]) (kZ:=(c122.qb.qb.qb.qa.qa.dl).drop 2) rfl (by kernel_rfl) rfl (by kernel_rfl)
  (K1:=λS' H'=>S' 1=.box 1 0/\S' 2=.box 2 0/\S' 4=.box 4 0/\H' 1=some [.str s]/\H' 2=some z2/\H' 4=some z4)
  (K2:=λo S' H'=>o=Old.plain cc w/\S' 2=.box 2 0/\S' 4=.box 4 0/\S' 11=.int .i64 0/\H' 2=some z2/\H' 4=some (x.map AV.aG))
  (K3:=λo S' H'=>o=Old.plain cc w/\S' 2=.box 2 0/\S' 4=.box 4 0/\S' 5=.int .i64 0/\H' 2=some z2/\H' 4=some (x.map AV.aG)) ⟨s1,s2,s4,h1,h2,h4⟩ ?_ ?_ ?_))
 .rintro w0 g S5 H5 a w5 m cT ho R ⟨s1,s2,s4,h1,h2,h4⟩;have bq:=R.size;refine aV rfl rfl (by rfl) (lP (fn:=.func 171) (c:=#[.tmp 1,.tmp 4]) rfl) ?_
  obtain⟨fv,kM⟩:∃fv:Value,fv=.func (.func 171) #[] (#[Operand.tmp 1,.tmp 4].map a.eval):=⟨_,rfl⟩
  show wpOpsIn _ _ _ _ _ [1] (a.put (some 10) (.func (.func 171) #[] (#[Operand.tmp 1,.tmp 4].map a.eval))) w5;rw[<-kM];have R1:=R.put 10 .br fv (by decide) (.br _) trivial
  obtain⟨a1,oX⟩:∃a1,a.put (some 10) fv=a1:=⟨_,rfl⟩
  rw[oX]at R1⊢
  have wP:fv=.func (.func 171) #[] #[a1.tmps.getD 1 undef,a1.tmps.getD 4 undef]:=by
   have e1:=bB a 10 1 fv (by omega);have e4:=bB a 10 4 fv (by omega);rw[if_neg (by decide),oX]at e1 e4;have BG:a1.tmps.getD 1 undef=a.eval (.tmp 1):=e1;have EN:a1.tmps.getD 4 undef=a.eval (.tmp 4):=e4;rw[BG,EN,kM];simp only[adK,adC,adO]
  have jt:a1.eval (.tmp 10)=fv:=by rw[<-oX,bB _ _ _ _ (by omega),if_pos rfl]
  refine fH rfl rfl (by rfl) (gK (k:=170) (args:=#[.func (.func 171) #[] #[a1.tmps.getD 1 undef,a1.tmps.getD 4 undef]]) w5 rfl rfl ?_ (by kernel_rfl)) (Ik hG cT R1 (d:=11) (i1:=1) (i4:=4) (by decide) (by decide) (by decide) (by decide) (by simp[ar,s1]) h1 (by simp[ar,s4]) h4 Tw hx CA) ?_
  .simp only[adK,adC,adO,jt,<-wP]
  .rintro e w6 ⟨rfl,c,g',S',H',ru,R2,rO,rJ⟩;refine⟨_,rfl,?_⟩;have R3:=R2.put 11 (.int .i64 0) (.int .i64 0) (by decide) (.data _ _ (.int _ _)) trivial;rw[xi]at R3;refine⟨g',_,H',R3,ru.trans ho,?_,?_,aS _ _ _,?_,?_⟩
   .show ar S' 11 _ 2=_;rw[bj _ _ (by decide),rO 2 (by decide)];simp[ar,s2]
   .show ar S' 11 _ 4=_;rw[bj _ _ (by decide),rO 4 (by decide)];simp[ar,s4]
   .rw[rJ,bj _ _ (by decide)];exact h2
   .rw[rJ];exact aS _ _ _
 .rintro o S5 H5 ⟨rfl,s2,s4,bG,h2,h4⟩;refine⟨λ_ h=>h,?_⟩;simp[c122,af.qa,af.qb,af.dl,bn,aF,bg,aH,ev,aQ.S,aQ.H,ar,aT,s2,s4,bG,h2,h4,AV.aG,bz]
 .rintro o S5 H5 ⟨rfl,s2,s4,s5,h2,h4⟩;refine dU hG c122.qb.qb.qb.qa.qb.qa (λS' H'=>S' 2=.box 2 0/\S' 4=.box 4 0/\S' 13=.bool false/\H' 2=some z2/\H' 4=some (x.map AV.aG)) ?_ ?_
  .simp[c122,af.qa,af.qb,bC,bn,aF,bg,aH,ev,aQ.S,aQ.H,ar,aT,s2,s4,s5,h2,h4,AV.aG,dS,aM]
  rintro S6 H6 ⟨s2,s4,cz,h2,h4⟩;refine SW.cond rfl false (by show S6 13=_;rw[cz]) (SW.skip ?_);have yI:List.take 10 (x.map AV.aG)=x.map AV.aG:=adn (by simp;omega)
  have e7:∀(l:List AV) H,fz H (.agg (l.map AV.aG))=.agg (l.map AV.bH):=λl H=>by simp only[fz,gI,AV.vw,aeh,lk]
  refine SW.seq (dU hG c122.qb.qb.qb.qb.qa.qa (λS' H'=>S' 2=.box 2 0/\S' 4=.box 4 0/\S' 18=.bool false/\H' 2=some z2/\H' 4=some (x.map AV.aG)) ?_ ?_)
  .simp[c122,af.qa,af.qb,bC,bn,aF,bg,aH,ev,aQ.S,aQ.H,ar,aT,s2,s4,h2,h4,b0,HR.okB,hx,fS,yI,e7,aM];refine oc Px ?_;simp[iD,ar,s2,s4,h2,h4]
  rintro S7 H7 ⟨s2,s4,ka,h2,h4⟩;refine SW.cond rfl false (by show S7 18=_;rw[ka]) (SW.skip ?_);refine dU hG c122.qb.qb.qb.qb.qb.qa (λS' H'=>S' 2=.box 2 0/\S' 3=.int .i64 0/\H' 2=some (x.map AV.aG)) ?_ ?_
  .have U1:List.drop 10 z2=[]:=aes (by omega);simp[c122,af.qa,af.qb,bC,bn,aF,bg,aH,ev,aQ.S,aQ.H,ar,aT,s2,s4,h2,h4,b0,HR.okB,hx,fS,yI,AV.cells,AV.storable,AV.bZ,bo,bz,hz2,U1,aM,AV.aG]
  rintro S8 H8 ⟨s2,s3,h2⟩;obtain⟨i28,Ln,Kq⟩:=bp (P:=prog) (t:=29) (s:=10) (by kernel_rfl);obtain⟨fs,fE⟩:=cd (P:=prog) (t:=29) (by kernel_rfl);refine SW.ret ⟨eD.plain rfl,rfl,_,?_,rfl⟩;show cy prog 21 [.cell 2 29,.tmp 3] S8 H8=_;simp[cy,cJ,cK,s2,s3,h2,Ln,fE,Kq,b0,eS,hx,AV.out,fS,lk,yI,AV.bT,AV.vw,AV.bH,aeh]
theorem CB{l:List Int}(h:0<l.length)(h0:∀x∈l,0<=x):l[l.length-1]'(by omega)+1=(dR l:Nat):=by
 unfold dR;rw[List.getLast?_eq_getElem?,ac_ (show l.length-1<l.length by omega)];have:=h0 _ (ada (show l.length-1<l.length by omega));simp only;omega
theorem PD(a k:Nat)(h:a<=k):List.range' a (k+1-a)=List.range' a (k-a)++[k]:=by
 rw[show k+1-a=(k-a)+1 by omega,ae2];simp;omega
theorem Gq(l:List (List Int)):aJ 1 (l.map vI)=true:=gx λa=>⟨rfl,rfl⟩
end Go.Proofs.Tryz
namespace Go.Proofs.Tryz
open Go Go.AL Go.RowKit Go.Proofs Go.Proofs.Tram
attribute [local simp] dF fc eT dW ef dI dJ cZ c_ ee cW cE gh gj aF aH ev aQ.S aQ.H bz ar aT AL.start AV.cells AV.storable AV.bZ bo bX dS b0 HR.okB post cy cJ cK AV.out AV.bT cb dk fz gI AV.vw df vI int b_ aM cU db gB iN eY dQ bQ AV.aG AV.bH
variable{GI:World->Prop}
def jF(s:aq)(out:List Int)(es:List End)(st:Int):Int:=firstT (λn=>decide (s.wide<n)) (da s out es st)
theorem Im{s:aq}{out:List Int}{es:List End}{st:Int}:((da s out es st).all λn=>decide (n<=s.wide))=decide (jF s out es st<0):=by
 have h:=jW (p:=λn=>decide (s.wide<n)) (l:=da s out es st)
 have e:((da s out es st).all λn=>decide (n<=s.wide))=!((da s out es st).any λn=>decide (s.wide<n)):=by
  rw[ad7];simp
 rw[e,<-h];unfold jF
 by_cases hz:0<=firstT (λn=>decide (s.wide<n)) (da s out es st)
 .have:¬firstT (λn=>decide (s.wide<n)) (da s out es st)<0:=by omega
  simp[hz,this]
 .have:firstT (λn=>decide (s.wide<n)) (da s out es st)<0:=by omega
  simp[hz,this]
def vB(s:aq)(out:List Int)(es:List End)(st:Int):eP:=if jF s out es st<0 then .ret (.dN [])else .panic (.iface 242 (.agg [.int .i64 (jF s out es st)]))
theorem T3(hG:aw GI)(s:aq)(cM:aU s=true)(out:List Int)(ho:out.length<1000000)(es:List End)(he:es.length<100000)(g:Good s out es){st:Int}(h0:0<=st)(h1:st<=10):AC prog GI 191 [.ref (aP s),.ref [vI out,.slice .view (es.map aX)],.ref [.int .i64 st]] (vB s out es st):=by
 have Ju:=qE s out es st;refine bW hG func191 ntmps191 c191 ?_;refine aI (λS H=>S 0=.ref (aP s)/\S 2=.ref [.int .i64 st]/\S 7=.slice .view (fm s out es es.length)/\S 8=.int .i64 es.length/\S 9=.int .i64 0) ?_ ?_
 .simp[aP,ae,bt];refine oc (U7 hG s cM out ho es he g) ?_;simp[uo]
 rintro S H ⟨s0,s2,s7,s8,s9⟩;simp[s0,s2,s7,s8,s9];refine bw 9 es.length (λi S H=>S 0=.ref (aP s)/\S 2=.ref [.int .i64 st]/\S 7=.slice .view (fm s out es es.length)/\S 8=.int .i64 es.length/\S 9=.int .i64 (i:Nat)/\∀j (hj:j<(da s out es st).length),j<i->decide (s.wide<(da s out es st)[j])=false) (λi S H h=>h.2.2.2.2.1) ⟨by simp[s0],by simp[s2],by simp[s7],by simp[s8],by simp[s9],λj _ hj=>absurd hj (afm _)⟩ ?_;clear s0 s2 s7 s8 s9 S H;rintro i hi S H ⟨s0,s2,s7,s8,s9,hb⟩
 by_cases au:i<es.length
 case neg=>
  have hn:jF s out es st<0:=by
   unfold jF;rw[jj λj hj=>hb j hj (by omega)];decide
  unfold vB;rw[if_pos hn];simp[s0,s2,s7,s8,s9,au]
 have hw:IntKind.i64.wrap ((i:Int)+1)=i+1:=aN (by omega)
 have vP:(fm s out es es.length)[i]?=some (.agg [.slice .view ((gp s out es i).map gA),.bool (iM s es i)]):=by
  unfold fm;rw[adI,List.getElem?_range au];rfl
 have yS:(da s out es st)[i]'(by omega)=jQ s out es st i:=by unfold da;simp
 refine aI (λS H=>S 0=.ref (aP s)/\S 2=.ref [.int .i64 st]/\S 7=.slice .view (fm s out es es.length)/\S 8=.int .i64 es.length/\S 9=.int .i64 (i:Nat)/\S 10=.bool true) (by simp[s0,s2,s7,s8,s9,au]) ?_;clear s0 s2 s7 s8 s9 S H;rintro S H ⟨s0,s2,s7,s8,s9,bL⟩;refine Bv (by simp[bL]) ?_;refine xL ?_;refine aI (λS H=>S 0=.ref (aP s)/\S 2=.ref [.int .i64 st]/\S 7=.slice .view (fm s out es es.length)/\S 8=.int .i64 es.length/\S 9=.int .i64 (i:Nat)/\S 3=.int .i64 (i:Nat)/\S 4=.box 4 0/\H 4=some [.slice .view ((gp s out es i).map gA),.bool (iM s es i)]) (by simp[s0,s2,s7,s8,s9,au,vP]) ?_;clear s0 s2 s7 s8 s9 bL S H;rintro S H ⟨s0,s2,s7,s8,s9,s3,s4,e4⟩;have a84:=Vv hG s cM (zo g au) (vZ cM g i) (λx hx=>yL g hx) (iM s es i) h0 h1
 have Od:s.wide<jQ s out es st i->jF s out es st=i:=λh=>by
  unfold jF;exact mo (i:=i) (by omega) (by rw[yS];simpa using h) hb
 simp[s0,s2,s7,s8,s9,s3,s4,e4,aP,ae,bt];refine oc a84 ?_
 by_cases xB:s.wide<jQ s out es st i
 .have Bd:s.wide<gY s st ((gp s out es i).map (bh s)) (iM s es i):=xB;have hf:=Od xB;unfold vB;rw[if_neg (by omega),hf];simp[s0,s2,s7,s8,s9,s3,s4,e4,aP,ae,bt,Bd,Fm,bI]
 .have Bd:¬s.wide<gY s st ((gp s out es i).map (bh s)) (iM s es i):=xB;simp[s0,s2,s7,s8,s9,s3,s4,e4,aP,ae,bt,Bd,hw,au];intro j hj gw
  by_cases e:j=i
  .subst e;rw[yS];omega
  .have:=hb j hj (by omega);simpa using this
theorem Kd(hG:aw GI)(s:aq)(cM:aU s=true)(out:List Int)(ho:out.length<1000000)(es:List End)(he:es.length<100000)(g:Good s out es){st:Int}(h0:0<=st)(h1:st<=10):AC prog GI 149 [fl s,aL out es,.int .i64 st] (.ret (.bool (eX s out es st))):=by
 have a:=T3 hG s cM out ho es he g h0 h1
 have e:eX s out es st=(decide ((es.length:Int)<=s.rows)&&decide (jF s out es st<0)):=by unfold eX;rw[Im]
 rw[e];refine bW hG func149 ntmps149 c149 ?_;refine aI (λS H=>S 3=.box 3 0/\S 4=.box 4 0/\S 5=.box 5 0/\H 3=some (aP s)/\H 4=some [vI out,.slice .view (es.map aX)]/\H 5=some [.int .i64 st]) (by simp[fl,aP,ae,bt,aL,aO]) ?_;rintro S H ⟨s3,s4,s5,e3,e4,e5⟩
 by_cases hr:(es.length:Int)<=s.rows
 case neg=>simp[s3,s4,s5,e3,e4,e5,aP,ae,bt,hr]
 unfold vB at a
 by_cases hw:jF s out es st<0
 .rw[if_pos hw]at a;have b:=JW hG (k:=191) (by kernel_rfl) a (.inl ⟨_,rfl,rfl⟩);simp[s3,s4,s5,e3,e4,e5,aP,ae,bt,hr];refine⟨_,by kernel_rfl,b,λ_=>rfl,?_⟩;simp[hw]
 .rw[if_neg hw]at a;have b:=JW hG (k:=191) (by kernel_rfl) a (.inr (.inl ⟨_,rfl,rfl⟩));simp[s3,s4,s5,e3,e4,e5,aP,ae,bt,hr];refine⟨_,by kernel_rfl,b,λ_=>rfl,?_⟩;simp[hw]
theorem uO{p:Int->Bool}:∀{n i:Nat},i<=n->(∀k:Nat,i<=k->k<n->p k=false)->kF p n=kF p i
 |0,i,h,_=>by rw[show i=0 by omega]
 |n+1,i,h,hp=>by
  by_cases e:i=n+1
  .rw[e]
  .rw[kF,hp n (by omega) (by omega)]
   exact uO (by omega) λk h1 h2=>hp k h1 (by omega)
theorem KE(hG:aw GI)(s:aq)(cM:aU s=true)(out:List Int)(ho:out.length<1000000)(es:List End)(he:es.length<100000)(g:Good s out es):AC prog GI 83 [fl s,aL out es] (.ret (.int .i64 (jn s out es))):=by
 refine bW hG func83 ntmps83 c83 ?_;refine aI (λS H=>S 2=.box 2 0/\S 3=.box 3 0/\H 2=some (aP s)/\H 3=some [vI out,.slice .view (es.map aX)]) (by simp[fl,aP,ae,bt,aL,aO]) ?_;rintro S H ⟨s2,s3,e2,e3⟩;simp[s2,s3,e2,e3];refine Bl 5 11 (λi S H=>i<=11/\S 2=.box 2 0/\S 3=.box 3 0/\H 2=some (aP s)/\H 3=some [vI out,.slice .view (es.map aX)]/\S 5=.int .i64 ((i:Nat)-1)/\∀k:Nat,i<=k->k<11->eX s out es k=false) (λi S H h=>h.2.2.2.2.2.1) ⟨by omega,by simp[s2],by simp[s3],by simp[e2],by simp[e3],by simp,λk h1 h2=>by omega⟩ ?_;clear s2 s3 e2 e3 S H;rintro i hi S H ⟨_,s2,s3,e2,e3,s5,hb⟩;have hm:=uO (p:=eX s out es) hi hb
 cases i with
 |zero=>
  have hm:jn s out es= -1:=hm;simp[s2,s3,e2,e3,s5,hm]
 |succ m=>
  have hm:jn s out es=if eX s out es m then(m:Int)else kF (eX s out es) m:=hm
  have jO:S 5=.int .i64 (m:Nat):=by rw[s5];congr 1;omega
  have uh:IntKind.i64.wrap ((m:Int)-1)=m-1:=aN (by omega);simp[s2,s3,e2,e3,jO,aP,ae,bt];refine oc (Kd hG s cM out ho es he g (by omega) (by omega)) ?_;cases hf:eX s out es m
  .simp[s2,s3,e2,e3,jO,aP,ae,bt,uh];refine⟨by omega,λk h1 h2=>?_⟩
   by_cases e:k=m
   .subst e;exact hf
   .exact hb k (by omega) h2
  .rw[hf]at hm;simp at hm;simp[s2,s3,e2,e3,jO,aP,ae,bt,hm]
end Go.Proofs.Tryz
namespace Go.AL
theorem qg{P:Program}{GI:World->Prop}{i k:Nat}{x y:af}{Q:dp->av->aD->Prop}{S:av}{H:aD}(K:av->aD->Prop)(hx:bC P GI x (aM K) S H)(hy:∀S' H',K S' H'->D4 P GI i k y Q S' H'):D4 P GI i (k+1) (.seq x y) Q S H:=by
 refine NF K (eJ x (λe S H h=>?_) hx) (λh=>eJ x h) hy
 cases e<;>first|exact⟨rfl,h⟩|exact h.elim
theorem Rel.qn{P:Program}{w0:World}{n:Nat}{g:Gh}{S:av}{H:aD}{a:Act}{w:World}(R:Rel P w0 n cm g S H a w)(b:Nat):Rel P w0 n cm { g with old:={ g.old with bf:=ar g.old.bf b none } } S H a w:={
 size:=R.size
 defers:=R.defers
 facts:=R.facts
 slot:=R.slot
 own t ht hu:=(R.own t ht hu).bf rfl λb hb=>⟨rfl,rfl,hb⟩
 box i c hi:=by
  obtain⟨cs,vs,ty,h1,h2,h3,h4,h5,h6,h7,h8,h9⟩:=R.box i c hi;exact⟨cs,vs,ty,h1,h2,h3,h4,h5,h6,h7,λj hj dY=>(h8 j hj dY).bf rfl λb hb=>⟨rfl,rfl,hb⟩,h9⟩
 mB:=R.mB
 mr:=R.mr
 inj:=R.inj
 base:=R.base
 below:=R.below
 fresh:=R.fresh
 still:=R.still
 grown:=R.grown
 kept c o h:=by
  have hc:c≠b:=by rintro rfl;simp[ar]at h
  exact R.kept c o (by simpa[ar,hc]using h) }
section
variable{P:Program}{a:Act}{w:World}{m:Nat}{Q:Exit->Act->World->Prop}
theorem AJ {ops:Array Oper} {i:Nat} {rest:List Nat} {o:Oper} (ho:ops[i]? = some o) (hw:Region.wanted o (yielded ops a.tmps)=true) (fk:il o.op=true) {l f:Nat} {tmps:Array Value} {On bd:Code} {w':World}
  (hr:(execOp a.eval o).run P w=.ok (.round l f tmps On bd) w') {R:Ending->World->Prop} (hc:∀m,RoundIn (FR none) m P l f tmps On bd w' R) (hk:∀e lu,R e lu->∃v,e=.returned v/\wpOpsIn (FR none) m P ops Q rest (a.put o.dst v) lu):wpOpsIn (FR none) m P ops Q (i::rest) a w:=by
 simp only[wpOpsIn,ho];rw[if_pos hw];refine⟨λ_ _=>trivial,?_⟩;rw[ae6 _ _ _ (λc hc=>by rw[hc]at fk;cases fk),hr];refine⟨λh=>by simp[FR,Fence.wide]at h,(hc (m-1)).mono λe lu hh=>?_⟩;obtain⟨v,rfl,h⟩:=hk e lu hh;exact h
theorem Hc{o:Oper}{t:TypeId}{x:Operand}{b:Bool}(ho:o.op=.unOp .not t x)(hx:a.eval x=.bool b):(execOp a.eval o).run P w=.ok (.value (.bool !b)) w:=by
 unfold execOp;simp[ho,hx,Op.unary]
end
end Go.AL
namespace Go.Proofs.Tryz
open Go.AL
def kJ(n:Int):List UInt8:=B6 20 n.toNat
def Bb(w:List UInt8):Bool:=!w.isEmpty&&decide (w.length<=3)&&(w.all λc=>decide (48<=c.toNat)&&decide (c.toNat<=57))&&kJ (de w)==w
theorem CD{w:List UInt8}:Bb w=true↔w≠[]/\w.length<=3/\(∀c∈w,digit c)/\kJ (de w)=w:=by
 unfold Bb digit;simp[and_assoc]
theorem GK:∀l:List Int,pD l l=false
 |[]=>rfl
 |a::l=>by
  unfold pD;rw[if_pos rfl];exact GK l
theorem IU:∀{x y:List Int},pD x y=true->pD y x=false
 |[],[],h=>by cases h
 |[],_::_,_=>rfl
 |_::_,[],h=>by cases h
 |a::x,b::y,h=>by
  unfold pD at h⊢
  by_cases e:a=b
  .subst e;rw[if_pos rfl]at h⊢;exact IU h
  .rw[if_neg e]at h;rw[if_neg (λh=>e h.symm)];simp only[adf]at h;simp only[aew];omega
theorem Rz{s:aq}:∀(m:Nat)(l:List Int),l.length=m->cq s l=true->l∈se s m
 |0,l,hl,_=>by rw[aeP.1 hl];exact ady.2 rfl
 |m+1,l,hl,ho=>by
  rcases List.eq_nil_or_concat l with rfl|⟨l',x,rfl⟩
  .simp at hl
  rw[List.concat_eq_append]at hl ho⊢;obtain⟨h1,h2,h3,h4⟩:=E5 ho;unfold se;refine adR.2 ⟨l',Rz m l' (by simpa using hl) h1,vX.2 ⟨h1,x.toNat,h4,by omega,?_⟩⟩;rw[show((x.toNat:Nat):Int)=x by omega]
theorem AA{s:aq}{l:List Int}(ho:cq s l=true):l∈ep s:=by
 unfold ep;exact adR.2 ⟨l.length,adF.2 (by have:=uv ho;omega),Rz _ l rfl ho⟩
end Go.Proofs.Tryz
namespace Go.AL
open Go.RowKit
section
variable{P:Program}{a:Act}{w:World}
theorem Fk {o:Oper} {x:Operand} {b:Nat} {s:ByteArray} {pos r p':Nat} (ho:o.op = .next x true) (hx:a.eval x = .pointer (some ⟨b,0,none⟩)) (hb:w.heap[b]? = some (.stringIter s pos)) (h:pos < s.size) (hr:(Utf8.decode s pos).1=r) (hp:pos+(Utf8.decode s pos).2=p') :
  (execOp a.eval o).run P w=.ok (.value (.tuple #[.bool true,.int .i64 pos,.int .i32 r])) (w.putObj b (.stringIter s p')):=by
 unfold execOp;simp only[ho,hx,Instr.next,getObj,setObj,ads,Sem.run,hb,Result.andThen,h,adJ]
 generalize hd:Utf8.decode s pos=d at*
 obtain⟨d1,d2⟩:=d;simp only at hr hp;subst hr;subst hp;simp[goInt,Sem.run,World.putObj]
end
end Go.AL
namespace Go.Proofs.Tryz
open Go.AL
variable{s:aq}{x y:List End}
variable{s:aq}{x y:List End}
theorem B5{α:Type}{p:α->Bool}{R:α->α->Prop}:∀{l:List α},l.Pairwise R->∀{a b:α},l.find? p=some a->b∈l->p b=true->a=b\/R a b
 |[],_,_,_,h,_,_=>by cases h
 |c::l,hp,a,b,h,hb,hpb=>by
  rw[List.find?_cons]at h;obtain⟨h1,h2⟩:=aeT.1 hp
  cases hc:p c with
  |true=>
   rw[hc]at h;cases h;rcases ad6.1 hb with rfl|hb
   .exact .inl rfl
   .exact .inr (h1 b hb)
  |false=>
   rw[hc]at h;rcases ad6.1 hb with rfl|hb
   .rw[hc]at hpb;cases hpb
   .exact B5 h2 h hb hpb
end Go.Proofs.Tryz
namespace Go.Proofs.Tryz
open Go.AL
variable{s:aq}{x y:List End}
def ec(s:aq):List End->List End->Bool:=km List.length (jn s [])
end Go.Proofs.Tryz
namespace Go.Proofs.Tryz
open Go Go.AL Go.RowKit Go.Proofs Go.Proofs.Tram
attribute [local simp] dF fc eT dW ef dI dJ cZ c_ ee cW cE gh gj aF aH ev aQ.S aQ.H bz ar aT AL.start AV.cells AV.storable AV.bZ bo bX dS b0 HR.okB post cy cJ cK AV.out AV.bT cb dk fz gI AV.vw df vI int b_ aM cU db gB iN eY dQ bQ AV.aG AV.bH
variable{GI:World->Prop}
theorem tU(s:aq):(aP s).map AV.bH=aP s:=by
 simp[aP,ae,bt,vI,ints,AV.bH]
theorem rW(s:aq):(aP s).length=11:=rfl
theorem A'(s:aq):AV.agg ((aP s).take 10|>.map AV.bH)=bP s:=by
 simp[aP,ae,bP,vI,ints,AV.bH]
theorem pY{s:aq}(h:aU s=true):mG s:=by
 have hF:=eg h;refine⟨by have:=hF.RU;omega,by have:=hF.Rl;omega,by have:=hF.words;omega,λw hw=>?_,λw hw=>?_⟩
 .have:=(lg h hw).uw;omega
 .have f:=lg h hw;have:=td f.bK (by have:=f.C0;omega);have:=f.uw;omega
theorem JH(hG:aw GI)(s:aq)(cM:aU s=true)(out:List Int)(ho:out.length<=1000):sP prog GI 187 [.ref (aP s),.ref [vI out]] ((qF s out s.rows.toNat).map (aL out)):=by
 have hr:=(eg cM).rows;have he:=rN cM out;refine SF hG (oE:=.view) (all:=gV s out) (rows:=s.rows.toNat) (by omega) (by omega) ho (rW s) ?_ ?_ ?_
 .intro x hx;simp[aP,ae]at hx
  rcases hx with rfl|rfl|rfl|rfl|rfl|rfl|rfl|rfl|rfl|rfl<;>exact⟨rfl,rfl,rfl⟩
 .show some (AV.int .i64 s.rows)=some (.int .i64 (s.rows.toNat:Nat));rw[afN (by omega)]
 .rw[A'];exact U0 hG s (pY cM) out (by omega)
theorem tI{s:aq}(cM:aU s=true){out:List Int}(fV:cq s out=true){es:List End}(h:es∈qF s out s.rows.toNat):iE s out es=true/\es.length<=3:=by
 have hr:=(eg cM).rows;obtain⟨h1,h2⟩:=(zf cM fV).1 h;exact⟨h1,by omega⟩
theorem JB(hG:aw GI)(s:aq)(cM:aU s=true)(out:List Int)(ho:out.length<=1000)(fV:cq s out=true){es:List End}(h:es∈qF s out s.rows.toNat):AC prog GI 149 [.agg ((aP s).map AV.bH),aL out es,.int .i64 0] (.ret (.bool (eX s out es 0))):=by
 obtain⟨h1,h2⟩:=tI cM fV h;rw[tU];exact Kd hG s cM out (by omega) es (by omega) (mX cM h1) (by omega) (by omega)
theorem K4(hG:aw GI)(s:aq)(cM:aU s=true)(out:List Int)(ho:out.length<=1000)(fV:cq s out=true):AC prog GI 80 [fl s,vI out] (.ret (.slice .view ((dw s out).map (aL out)))):=by
 have hr:=(eg cM).rows;have hl:=ub cM out (m:=s.rows.toNat) (by omega);refine AC.iA (o:=if(dw s out).isEmpty then .nil else .view) ?_
 exact Z_ hG (rW s) (by
  intro x hx;simp[aP,ae]at hx
  rcases hx with rfl|rfl|rfl|rfl|rfl|rfl|rfl|rfl|rfl|rfl|rfl<;>rfl) (by omega) (λes h=>by have:=(tI cM fV h).2;omega) (by rw[tU];exact JH hG s cM out ho) (λes h=>JB hG s cM out ho fV h)
theorem aaY(hG:aw GI)(s:aq)(cM:aU s=true)(out:List Int)(ho:out.length<=1000)(fV:cq s out=true):AC prog GI 132 [fl s,vI out] (.ret (.bool (!(dw s out).isEmpty))):=by
 have e:(!(dw s out).isEmpty)=(qF s out s.rows.toNat).any λes=>eX s out es 0:=by
  unfold dw;rw[ad7];simp[List.filter_eq_nil_iff]
 rw[e];exact abu hG (rW s) (by rw[tU];exact JH hG s cM out ho) (λes h=>JB hG s cM out ho fV h)
theorem XT(hG:aw GI)(s:aq)(cM:aU s=true){a b:List End}(ha:iE s [] a=true)(hb:iE s [] b=true)(kK:a.length<=10)(kW:b.length<=10):AC prog GI 82 [aL [] a,aL [] b,.ref (aP s)] (.ret (.bool (ec s a b))):=by
 have ga:=KE hG s cM [] (by simp) a (by omega) (mX cM ha);have gb:=KE hG s cM [] (by simp) b (by omega) (mX cM hb);refine bW hG func82 ntmps82 c82 ?_;refine aI (λS H=>S 2=.ref (aP s)/\S 3=.box 3 0/\S 4=.box 4 0/\H 3=some [vI [],.slice .view (a.map aX)]/\H 4=some [vI [],.slice .view (b.map aX)]) (by simp[aL,aO]) ?_;rintro S H ⟨s2,s3,s4,e3,e4⟩;refine aI (λS H=>S 2=.ref (aP s)/\S 3=.box 3 0/\S 4=.box 4 0/\H 3=some [vI [],.slice .view (a.map aX)]/\H 4=some [vI [],.slice .view (b.map aX)]/\S 6=.int .i64 a.length/\S 7=.int .i64 b.length) (by simp[s2,s3,s4,e3,e4]) ?_;clear s2 s3 s4 e3 e4 S H;rintro S H ⟨s2,s3,s4,e3,e4,s6,s7⟩;unfold ec km
 by_cases au:a.length<b.length
 .have jN:(a.length:Int)<b.length:=by omega
  simp[s2,s3,s4,e3,e4,s6,s7,au,jN]
 by_cases he:a.length=b.length
 case neg=>
  have jN:¬(a.length:Int)<b.length:=by omega
  have ky:((a.length:Int)==b.length)=false:=by simp;omega
  have xC:(a.length==b.length)=false:=by simpa using he
  simp[s2,s3,s4,e3,e4,s6,s7,au,jN,ky,xC]
 simp[s2,s3,s4,e3,e4,s6,s7,he,aP,ae,bt];refine oc ga ?_;simp[s2,s3,s4,e3,e4,s6,s7,he,aP,ae,bt];refine oc gb ?_;simp[s2,s3,s4,e3,e4,s6,s7,he,aP,ae,bt]
theorem Mq(l:List (List End)):aJ 2 (l.map (aL []))=true:=gx λa=>⟨rfl,rfl⟩
theorem BV{α:Type}(better:α->α->Bool)(x:α){l:List α}{i:Nat}(h:i<l.length):fC better x (l.take (i+1))=if better l[i] (fC better x (l.take i))then l[i]else fC better x (l.take i):=by
 unfold fC;rw[adj h,adL];rfl
theorem mg{α:Type}(better:α->α->Bool):∀(l:List α)(x:α),fC better x l∈x::l
 |[],x=>adt
 |a::l,x=>by
  show fC better (if better a x then a else x) l∈_;have:=mg better l (if better a x then a else x);rcases ad6.1 this with e|h
  .rw[e];split<;>simp
  .exact ado _ (ado _ h)
theorem YO(hG:aw GI)(s:aq)(cM:aU s=true)(x:List End)(l:List (List End))(hl:l.length<100000)(h:∀a∈x::l,iE s [] a=true/\a.length<=10):AC prog GI 81 [.slice .view ((x::l).map (aL [])),.func (.func 82) [] [.ref (aP s)]] (.ret (aL [] (fC (ec s) x l))):=by
 have cP:=Mq (x::l);obtain⟨it,hit,bq⟩:=bp (P:=prog) (t:=39) (s:=2) (by kernel_rfl);have hT:List.take l.length (l.map (aL []))=l.map (aL []):=adn (by simp);have hm:(x::l).map (aL [])=aL [] x::l.map (aL []):=rfl
 have Cm:∀d,l6 d (.ref (aP s))=false:=λd=>rfl
 have wZ:∀a,aL [] a=.agg [vI [],.slice .view (a.map aX)]:=λ_=>rfl
 refine bW hG func81 ntmps81 c81 ?_;refine aI (λS H=>S 4=.box 4 0/\S 0=.slice .view (aL [] x::l.map (aL []))/\S 1=.func (.func 82) [] [.ref (aP s)]/\H 4=some [.slice .nil [],.slice .nil []]) (by simp[Cm]) ?_;rintro S H ⟨s4,s0,s1,e4⟩;refine aI (λS H=>S 4=.box 4 0/\S 0=.slice .view (aL [] x::l.map (aL []))/\S 1=.func (.func 82) [] [.ref (aP s)]/\H 4=some [.slice .nil [],.slice .nil []]/\S 5=.box 5 0/\H 5=some [vI [],.slice .view (x.map aX)]) (by simp[s4,s0,s1,e4,wZ,Cm]) ?_;clear s4 s0 s1 e4 S H;rintro S H ⟨s4,s0,s1,e4,s5,e5⟩;rw[hm]at cP;refine aI (λS H=>S 4=.box 4 0/\H 4=some [.slice .nil [],.slice .nil []]/\S 5=.box 5 0/\H 5=some [vI [],.slice .view ((fC (ec s) x l).map aX)]) ?_ ?_
 .have h1:(1:Int)<=l.length+1:=by omega
  simp[s4,s0,s1,e4,s5,e5,bound,cP,h1];refine bw 14 l.length (λi S H=>S 1=.func (.func 82) [] [.ref (aP s)]/\S 4=.box 4 0/\H 4=some [.slice .nil [],.slice .nil []]/\S 5=.box 5 0/\H 5=some [vI [],.slice .view ((fC (ec s) x (l.take i)).map aX)]/\S 12=.slice .view (l.map (aL []))/\S 13=.int .i64 l.length/\S 14=.int .i64 (i:Nat)) (λi S H h=>h.2.2.2.2.2.2.2) ⟨by simp[s1],by simp[s4],by simp[e4],by simp[s5],by simp[e5,fC],by simp[hT],by simp,by simp⟩ ?_;clear s4 s0 s1 e4 s5 e5 S H;rintro i hi S H ⟨s1,s4,e4,s5,e5,bU,cz,di⟩
  by_cases au:i<l.length
  case neg=>
   have cH:i=l.length:=by omega
   subst cH;rw[adn (adh _)]at e5;simp[s1,s4,e4,s5,e5,bU,cz,di]
  have hw:IntKind.i64.wrap ((i:Int)+1)=i+1:=aN (by omega);have sx:=mg (ec s) (l.take i) x
  have hb:=h (fC (ec s) x (l.take i)) (by
   rcases ad6.1 sx with e|e
   .rw[e];exact adt
   .exact ado _ (aeg e))
  have eb:=h l[i] (ado _ (ada au));have Zv:=XT hG s cM eb.1 hb.1 eb.2 hb.2;rw[BV _ _ au];generalize fC (ec s) x (l.take i)=o at e5 Zv⊢;simp[s1,s4,e4,s5,e5,bU,cz,di,au,wZ,Cm];refine oc Zv ?_;cases ec s l[i] o
  .simp[s1,s4,e4,s5,e5,bU,cz,di,au,wZ,Cm,hw]
  .simp[s1,s4,e4,s5,e5,bU,cz,di,au,wZ,Cm,hw]
 clear s4 s0 s1 e4 s5 e5 S H;rintro S H ⟨s4,e4,s5,e5⟩;simp[s4,e4,s5,e5,wZ,hit,bq,eS]
def rZ(s:aq):List AV:=if aU s then match dw s []with
 |[]=>[aL [] [],.int .i64 0,.int .i64 5]
 |x::l=>[aL [] (fC (ec s) x l),.int .i64 (jn s [] (fC (ec s) x l)),.int .i64 0]
 else[aL [] [],.int .i64 0,.int .i64 2]
theorem sK{s:aq}(cM:aU s=true){a:List End}(h:a∈dw s []):iE s [] a=true/\a.length<=3/\eX s [] a 0=true:=by
 have hr:=(eg cM).rows;obtain⟨h1,h2⟩:=(lB cM (lq cM)).1 h;refine⟨h1,?_,h2⟩;unfold eX at h2;simp only[adb,adf]at h2;omega
theorem Cn(hG:aw GI)(s:aq)(hs:mG s)(ji:aU s=false\/dw s []=[]):AC prog GI 24 [bP s] (.ret (.dN (rZ s))):=by
 obtain⟨it,hit,bq⟩:=bp (P:=prog) (t:=39) (s:=2) (by kernel_rfl)
 have wZ:∀a,aL [] a=.agg [vI [],.slice .view (a.map aX)]:=λ_=>rfl
 refine bW hG func24 ntmps24 c24 ?_;refine aI (λS H=>S 1=.box 1 0/\S 2=.box 2 0/\H 1=some (ae s)/\H 2=some [.slice .nil [],.slice .nil []]) (by simp[bP,ae]) ?_;rintro S H ⟨s1,s2,e1,e2⟩;unfold rZ;cases cM:aU s
 .simp[s1,s2,e1,e2,ae];refine⟨_,by kernel_rfl,zq hG s hs,λ_=>rfl,?_⟩;rw[cM];simp[s1,s2,e1,e2,ae,hit,bq,eS,wZ,bI,ints]
 have hg:dw s []=[]:=by
  rcases ji with h|h
  .rw[h]at cM;cases cM
  .exact h
 simp[s1,s2,e1,e2,ae];refine⟨_,by kernel_rfl,zq hG s hs,λ_=>rfl,?_⟩;rw[cM];simp[s1,s2,e1,e2,ae];refine oc (HA hG s cM) ?_;simp[s1,s2,e1,e2,fl,aP,ae,bt];refine oc (K4 hG s cM [] (by simp) (lq cM)) ?_;rw[hg];simp[s1,s2,e1,e2,hit,bq,eS,wZ,bI,ints]
theorem NU(hG:aw GI)(s:aq)(hs:mG s):AC prog GI 24 [bP s] (.ret (.dN (rZ s))):=by
 cases cM:aU s with
 |false=>exact Cn hG s hs (.inl cM)
 |true=>
 cases hg:dw s []with
 |nil=>exact Cn hG s hs (.inr hg)
 |cons x l=>
 obtain⟨it,hit,bq⟩:=bp (P:=prog) (t:=39) (s:=2) (by kernel_rfl)
 have wZ:∀a,aL [] a=.agg [vI [],.slice .view (a.map aX)]:=λ_=>rfl
 have hl:=wk cM [];rw[hg]at hl;simp at hl
 have fQ:∀a∈x::l,iE s [] a=true/\a.length<=10:=λa ha=>by
  have:=sK cM (a:=a) (by rw[hg];exact ha);exact⟨this.1,by omega⟩
 have a98:=YO hG s cM x l (by omega) fQ;have hb:=fQ _ (mg (ec s) l x);have a87:=KE hG s cM [] (by simp) (fC (ec s) x l) (by omega) (mX cM hb.1)
 have tC:((l.length:Int)+1==0)=false:=by simp;omega
 have ho:rZ s=[aL [] (fC (ec s) x l),.int .i64 (jn s [] (fC (ec s) x l)),.int .i64 0]:=by
  unfold rZ;rw[cM,if_pos rfl,hg]
 rw[ho];refine AC.N3 hG cV 5 5 func24 rfl ntmps24 (by simp) (ac:=c24) (by kernel_rfl) ?_;refine qg (λS H=>S 1=.box 1 0/\S 2=.box 2 0/\H 1=some (ae s)/\H 2=some [.slice .nil [],.slice .nil []]) (by simp[bP,ae]) ?_;rintro S H ⟨s1,s2,e1,e2⟩;refine qg (λS H=>S 1=.box 1 0/\S 2=.box 2 0/\H 1=some (ae s)/\H 2=some [.slice .nil [],.slice .nil []]) ?_ ?_
 .simp[s1,s2,e1,e2,ae];refine⟨_,by kernel_rfl,zq hG s hs,λ_=>rfl,?_⟩;rw[cM];simp[s1,s2,e1,e2,ae]
 clear s1 s2 e1 e2 S H;rintro S H ⟨s1,s2,e1,e2⟩;refine qg (λS H=>S 2=.box 2 0/\H 2=some [.slice .nil [],.slice .nil []]/\S 5=.box 5 0/\H 5=some (aP s)) ?_ ?_
 .simp[s1,s2,e1,e2,ae];refine oc (HA hG s cM) ?_;simp[s1,s2,e1,e2,fl,aP,ae,bt]
 clear s1 s2 e1 e2 S H;rintro S H ⟨s2,e2,s5,e5⟩;refine qg (λS H=>S 2=.box 2 0/\H 2=some [.slice .nil [],.slice .nil []]/\S 5=.box 5 0/\H 5=some (aP s)/\S 6=.slice .view ((x::l).map (aL []))) ?_ ?_
 .have Yx:=K4 hG s cM [] (by simp) (lq cM);rw[hg]at Yx;simp[s2,e2,s5,e5,aP,ae,bt];refine oc Yx ?_;simp[s2,e2,s5,e5,aP,ae,bt]
 clear s2 e2 s5 e5 S H;rintro S H ⟨s2,e2,s5,e5,s6⟩;refine qg (λS H=>S 2=.box 2 0/\H 2=some [.slice .nil [],.slice .nil []]/\S 5=.box 5 0/\H 5=some (aP s)/\S 6=.slice .view ((x::l).map (aL []))) (by simp[s2,e2,s5,e5,s6,tC]) ?_;clear s2 e2 s5 e5 s6 S H;rintro S H ⟨s2,e2,s5,e5,s6⟩;refine Mx (aP s) (λS H=>S 2=.box 2 0/\H 2=some [.slice .nil [],.slice .nil []]/\S 5=.ref (aP s)/\S 6=.slice .view ((x::l).map (aL []))) e5 ⟨by simp[s2,Cw],by simp[ar,e2],by simp[s5,Cw,aP,ae,bt,AV.aG,vI],by simp[s6,Cw,bX]⟩ ?_;clear s2 e2 s5 e5 s6 S H;rintro S H ⟨s2,e2,s5,s6⟩;refine aI (λS H=>S 2=.box 2 0/\H 2=some [.slice .nil [],.slice .nil []]/\S 5=.ref (aP s)/\S 7=.box 7 0/\H 7=some [vI [],.slice .view ((fC (ec s) x l).map aX)]) ?_ ?_
 .simp[s2,e2,s5,s6];refine⟨_,by kernel_rfl,a98,by simp[df,qS],?_⟩;simp[s2,e2,s5,s6,wZ]
 clear s2 e2 s5 s6 S H;rintro S H ⟨s2,e2,s5,s7,e7⟩;simp[s2,e2,s5,s7,e7,aP,ae,bt];refine oc a87 ?_;simp[s2,e2,s5,s7,e7,hit,bq,eS,wZ]
def fq(s:aq):Option (List End):=match dw s []with
 |[]=>none
 |x::l=>some (fC (ec s) x l)
def iV(es:List End)(i n:Nat):Nat:=es.countP λe=>decide (e.1=((i:Nat):Int))&&decide (e.2<((n:Nat):Int))
def ss(s:az)(es:List End)(i:Nat):Int:=s.eH*cg s.name i+s.dE*iV es i (cg s.name i)
def aW(s:az)(es:List End):List Int:=(List.range s.name.words.length).map (ss s es)
def aZ(s:az)(an:List Int):List AV:=ao s++[vI an]
def cD(s:az)(an:List Int):AV:=.agg (aZ s an)
def mY(n:Int):AV:=.iface 192 (.agg [.int .i64 n])
structure eQ(s:az):Prop where
 cells:1<=s.cells.length/\s.cells.length<=12
 tH:∀c∈s.cells,1<=c.lo/\c.lo<=c.hi/\c.hi<=20
 pos:1<=s.pos/\s.pos<=s.cells.length
 reach:1<=s.reach/\s.reach<=12
 eH:1<=s.eH/\s.eH<=9
 dE:0<=s.dE/\s.dE<=9
 name:aU s.name=true
theorem er{s:az}(h:cL s=true):eQ s:=by
 simp only[cL,adb,bO,adf,adP,ad5]at h;obtain⟨⟨⟨⟨⟨⟨⟨h1,h2⟩,h3⟩,h4,h5⟩,h6,h7⟩,h8,h9⟩,nB,L'⟩,h12⟩:=h;refine⟨⟨by omega,by omega⟩,λc hc=>?_,⟨h4,h5⟩,⟨h6,h7⟩,⟨h8,h9⟩,⟨nB,L'⟩,h12⟩;have:=h3 c hc;simp[iu,bO]at this;omega
theorem gz{s:aq}(cM:aU s=true){es:List End}(h:fq s=some es):es.length<=3:=by
 unfold fq at h
 cases hg:dw s []with
 |nil=>rw[hg]at h;cases h
 |cons x l=>
  rw[hg]at h;cases h;exact(sK cM (by rw[hg];exact mg (ec s) l x)).2.1
theorem zV(es:List End)(i n:Nat):iV es i n<=es.length:=List.countP_le_length
theorem uN{s:az}(h:eQ s){es:List End}(he:es.length<=3){i:Nat}(hi:cg s.name i<=6):0<=ss s es i/\ss s es i<=81:=by
 have h1:=zV es i (cg s.name i);have hp:=h.eH;have ht:=h.dE;unfold ss;have a1:0<=s.eH*(cg s.name i:Int):=aeF (by omega) (by omega);have a2:s.eH*(cg s.name i:Int)<=9*6:=aeO (by omega) (by omega) (by omega) (by omega);have a3:0<=s.dE*(iV es i (cg s.name i):Int):=aeF (by omega) (by omega);have a4:s.dE*(iV es i (cg s.name i):Int)<=9*3:=aeO (by omega) (by omega) (by omega) (by omega);omega
def FU(s:az)(es:List End)(i:Nat)(S:av)(H:aD):Prop:=
 S 1=.box 1 0/\H 1=some (ao s)/\S 2=.box 2 0/\(∃z,H 2=some z/\z.length=16)/\S 3=.box 3 0/\H 3=some [vI [],.slice .view (es.map aX)]/\S 6=.box 6 0/\H 6=some (ao s++[grow 3 (ints ((aW s es).take i))])/\
 S 31=.slice .view (s.name.words.map bD)/\S 32=.int .i64 s.name.words.length/\S 33=.int .i64 (i:Nat)
theorem zc(hG:aw GI)(s:az)(hs:eZ s)(h:eQ s)(ji:fq s.name=none):AC prog GI 108 [a_ s] (.panic (mY s.name.words.length)):=by
 have Kg:=NU hG s.name hs.name
 have eG:rZ s.name=[aL [] [],.int .i64 0,.int .i64 5]:=by
  unfold fq at ji;unfold rZ;rw[if_pos h.name];split at ji
  .rename_i hg;first|rw[hg]|rfl
  .cases ji
 rw[eG]at Kg;refine bW hG func108 ntmps108 c108 ?_;simp[c108,a_,ao,ae];refine oc Kg ?_;simp[aL,aO,mY,bI,bn,bg]
theorem FP(hG:aw GI)(s:az)(hs:eZ s)(h:eQ s){es:List End}(nU:fq s.name=some es):AC prog GI 108 [a_ s] (.ret (cD s (aW s es))):=by
 have Kg:=NU hG s.name hs.name
 have eG:∃m:Int,rZ s.name=[aL [] es,.int .i64 m,.int .i64 0]:=by
  unfold fq at nU;unfold rZ;rw[if_pos h.name];split at nU
  .cases nU
  .rename_i x l hg;cases nU;(try rw[hg]);exact⟨_,rfl⟩
 obtain⟨m,eG⟩:=eG;rw[eG]at Kg;have hle:=gz h.name nU;have hF:=eg h.name
 have hlen:∀i,cg s.name i<=6:=λi=>by
  unfold cg;split
  .rename_i x hx;obtain⟨au,rfl⟩:=adE.1 hx;exact(lg h.name (ada au)).uw
  .omega
 obtain⟨i100,rT,ry⟩:=bp (P:=prog) (t:=102) (s:=16) (by kernel_rfl);obtain⟨fs,fE⟩:=cd (P:=prog) (t:=102) (by kernel_rfl);refine bW hG func108 ntmps108 c108 ?_;refine aI (λS H=>S 1=.box 1 0/\H 1=some (ao s)/\S 2=.box 2 0/\∃z,H 2=some z/\z.length=16) (by simp[a_,ao,ae]) ?_;rintro S H ⟨s1,h1,s2,z,h2,hz⟩;refine aI (λS H=>S 1=.box 1 0/\H 1=some (ao s)/\S 2=.box 2 0/\(∃z,H 2=some z/\z.length=16)/\S 3=.box 3 0/\H 3=some [vI [],.slice .view (es.map aX)]/\S 5=.int .i64 0) ?_ ?_
 .simp[ao,ae,s1,h1,s2,h2,hz];refine oc Kg ?_;simp[aL,aO,bI,s1,h1,s2,h2,hz]
  try rfl
 clear s1 h1 s2 h2 hz z S H;rintro S H ⟨s1,h1,s2,⟨z,h2,hz⟩,s3,h3,s5⟩;refine aI (λS H=>S 1=.box 1 0/\H 1=some (ao s)/\S 2=.box 2 0/\(∃z,H 2=some z/\z.length=16)/\S 3=.box 3 0/\H 3=some [vI [],.slice .view (es.map aX)]) ?_ ?_
 .simp[ao,ae,s1,h1,s2,h2,hz,s3,h3,s5]
  try rfl
 clear s1 h1 s2 h2 hz z s3 h3 s5 S H;rintro S H ⟨s1,h1,s2,⟨z,h2,hz⟩,s3,h3⟩;refine aI (λS H=>S 1=.box 1 0/\H 1=some (ao s)/\S 2=.box 2 0/\(∃z,H 2=some z/\z.length=16)/\S 3=.box 3 0/\H 3=some [vI [],.slice .view (es.map aX)]/\S 6=.box 6 0/\H 6=some (ao s++[.slice .nil []])) ?_ ?_
 .simp[ao,ae,s1,h1,s2,h2,hz,s3,h3,bI]
  try rfl
 clear s1 h1 s2 h2 hz z s3 h3 S H;rintro S H ⟨s1,h1,s2,⟨z,h2,hz⟩,s3,h3,s6,h6⟩
 have EW:(aW s es).length=s.name.words.length:=by simp[aW]
 have pv:=hF.words;refine aI (FU s es s.name.words.length) ?_ ?_
 .refine aI (FU s es 0) ?_ ?_
  .have hg:grow 3 (ints ([]:List Int))=.slice .nil []:=rfl;simp[ao,ae,s1,h1,s2,h2,hz,s3,h3,s6,h6,FU,hg]
   try rfl
  clear s1 h1 s2 h2 hz z s3 h3 s6 h6 S H;intro S H Z4;refine bw 33 s.name.words.length (FU s es) (λi S H h=>h.2.2.2.2.2.2.2.2.2.2) Z4 ?_;clear Z4 S H;rintro i hi S H ⟨s1,h1,s2,⟨z,h2,hz⟩,s3,h3,s6,h6,tL,tT,vo⟩
  by_cases au:i<s.name.words.length
  case neg=>
   have cH:i=s.name.words.length:=by omega
   subst cH;simp[s1,h1,s2,h2,hz,s3,h3,s6,h6,tL,tT,vo,FU]
  have hw:IntKind.i64.wrap ((i:Int)+1)=i+1:=aN (by omega);simp[s1,h1,s2,h2,hz,s3,h3,s6,h6,tL,tT,vo,au,ao,ae,bD,bI];have vP:=hlen i
  have acv:s.name.words[i].aK.length<=6:=by rw[<-fP au];exact vP
  have hp:=h.eH;have ht:=h.dE;have EU:0<=s.eH*(s.name.words[i].aK.length:Int):=aeF (by omega) (by omega);have FN:s.eH*(s.name.words[i].aK.length:Int)<=9*6:=aeO (by omega) (by omega) (by omega) (by omega);have uh:IntKind.i64.wrap (s.eH*(s.name.words[i].aK.length:Int))=s.eH*(s.name.words[i].aK.length:Int):=aN (by omega)
  refine bw 47 es.length (λj S H=>S 1=.box 1 0/\H 1=some (ao s)/\S 2=.box 2 0/\(∃z,H 2=some z/\z.length=16)/\S 3=.box 3 0/\H 3=some [vI [],.slice .view (es.map aX)]/\S 6=.box 6 0/\H 6=some (ao s++[grow 3 (ints ((aW s es).take i))])/\
   S 31=.slice .view (s.name.words.map bD)/\S 32=.int .i64 s.name.words.length/\S 33=.int .i64 (i:Nat)/\S 7=.int .i64 (i:Nat)/\S 8=.box 8 0/\H 8=some [vI s.name.words[i].aK,vI s.name.words[i].bK,.bool s.name.words[i].free]/\
   S 9=.int .i64 (s.eH*(s.name.words[i].aK.length:Int)+s.dE*(iV (es.take j) i s.name.words[i].aK.length:Int))/\S 45=.slice .view (es.map aX)/\S 46=.int .i64 es.length/\S 47=.int .i64 (j:Nat)) (λj S H h=>h.2.2.2.2.2.2.2.2.2.2.2.2.2.2.2.2.2) ?_ ?_
  .simp[s1,h1,s2,h2,hz,s3,h3,s6,h6,tL,tT,vo,ao,ae,uh,iV]
  clear s1 h1 s2 h2 hz z s3 h3 s6 h6 tL tT vo S H;rintro j hj S H ⟨s1,h1,s2,⟨z,h2,hz⟩,s3,h3,s6,h6,tL,tT,vo,s7,s8,h8,s9,M0,LQ,yr⟩;have hc3:=zV (es.take j) i s.name.words[i].aK.length
  have hc4:(es.take j).length<=3:=by simp;omega
  have U_:0<=s.dE*(iV (es.take j) i s.name.words[i].aK.length:Int):=aeF (by omega) (by omega);have WC:s.dE*(iV (es.take j) i s.name.words[i].aK.length:Int)<=9*3:=aeO (by omega) (by omega) (by omega) (by omega)
  by_cases nc:j<es.length
  case pos=>
   have gD:IntKind.i64.wrap ((j:Int)+1)=j+1:=aN (by omega);have om:IntKind.i64.wrap (s.eH*(s.name.words[i].aK.length:Int)+s.dE*(iV (es.take j) i s.name.words[i].aK.length:Int)+s.dE)=s.eH*(s.name.words[i].aK.length:Int)+s.dE*(iV (es.take j) i s.name.words[i].aK.length:Int)+s.dE:=aN (by omega)
   have jP:iV (es.take (j+1)) i s.name.words[i].aK.length=iV (es.take j) i s.name.words[i].aK.length+if es[j].1=((i:Nat):Int)/\es[j].2<((s.name.words[i].aK.length:Nat):Int)then 1 else 0:=by
    rw[afj,ac_ nc];unfold iV;rw[Option.toList_some,List.countP_append,List.countP_singleton]
    by_cases q1:es[j].1=((i:Nat):Int)<;>by_cases q2:es[j].2<((s.name.words[i].aK.length:Nat):Int)<;>simp[q1,q2]
   by_cases c1:es[j].1=((i:Nat):Int)
   .by_cases c2:es[j].2<((s.name.words[i].aK.length:Nat):Int)
    .rw[if_pos ⟨c1,c2⟩]at jP;simp[s1,h1,s2,h2,hz,s3,h3,s6,h6,tL,tT,vo,s7,s8,h8,s9,M0,LQ,yr,nc,ao,ae,aX,bI,gD,om,c1,c2,jP];rw[Int.mul_add,Int.mul_one,Int.add_assoc]
    .rw[if_neg (λh=>c2 h.2)]at jP;simp[s1,h1,s2,h2,hz,s3,h3,s6,h6,tL,tT,vo,s7,s8,h8,s9,M0,LQ,yr,nc,ao,ae,aX,bI,gD,om,c1,c2,jP]
   .rw[if_neg (λh=>c1 h.1)]at jP
    have c1':(es[j].1==((i:Nat):Int))=false:=by simpa using c1
    simp[s1,h1,s2,h2,hz,s3,h3,s6,h6,tL,tT,vo,s7,s8,h8,s9,M0,LQ,yr,nc,ao,ae,aX,bI,gD,om,c1,c1',jP]
  case neg=>
   have I_:j=es.length:=by omega
   subst I_;have hT:es.take es.length=es:=adn (adh _);rw[hT]at s9
   have Pc:(aW s es).take (i+1)=(aW s es).take i++[s.eH*(s.name.words[i].aK.length:Int)+s.dE*(iV es i s.name.words[i].aK.length:Int)]:=by
    rw[afj,ac_ (by rw[EW];exact au)];simp[aW,ss,fP au]
   have cP:aJ 1 (ints ((aW s es).take i))=true:=lj _
   have ke:ints ((aW s es).take i)++[.int .i64 (s.eH*(s.name.words[i].aK.length:Int)+s.dE*(iV es i s.name.words[i].aK.length:Int))]=ints ((aW s es).take (i+1)):=by rw[Pc];simp[ints]
   have cI:ints ((aW s es).take (i+1))≠[]:=by rw[<-ke];simp
   have nL:grow 3 (ints ((aW s es).take (i+1)))=.slice (.own 3) (ints ((aW s es).take (i+1))):=by unfold grow;rw[if_neg cI]
   have dT:aJ 1 [.int .i64 (s.eH*(s.name.words[i].aK.length:Int)+s.dE*(iV es i s.name.words[i].aK.length:Int))]=true:=rfl
   have XI:min i (aW s es).length+1<1048576:=by omega
   by_cases h0:ints ((aW s es).take i)=[]
   .have xZ:grow 3 (ints ((aW s es).take i))=.slice .nil []:=by unfold grow;rw[if_pos h0,h0]
    rw[xZ]at h6;rw[h0,List.nil_append]at ke;simp[s1,h1,s2,h2,hz,s3,h3,s6,h6,tL,tT,vo,s7,s8,h8,s9,M0,LQ,yr,ao,ae,hw,dT,FU,nL,<-ke];rw[ke];exact nL.symm
   .have xZ:grow 3 (ints ((aW s es).take i))=.slice (.own 3) (ints ((aW s es).take i)):=by unfold grow;rw[if_neg h0]
    rw[xZ]at h6;simp[s1,h1,s2,h2,hz,s3,h3,s6,h6,tL,tT,vo,s7,s8,h8,s9,M0,LQ,yr,ao,ae,hw,dT,cP,XI,FU,nL,<-ke];rw[ke];exact nL.symm
 clear s1 h1 s2 h2 hz z s3 h3 s6 h6 S H;rintro S H ⟨s1,h1,s2,⟨z,h2,hz⟩,s3,h3,s6,h6,tL,tT,vo⟩;have hT:(aW s es).take s.name.words.length=aW s es:=adn (by omega);rw[hT]at h6
 have kL:∃o,grow 3 (ints (aW s es))=.slice o (ints (aW s es)):=⟨_,rfl⟩
 obtain⟨o,kL⟩:=kL;rw[kL]at h6
 have jB:bo z 0 (ao s++[.slice .view (ints (aW s es))])=ao s++[.slice .view (ints (aW s es))]:=by simp[bo,hz,ao,ae]
 simp[s1,h1,s2,h2,hz,s3,h3,s6,h6,tL,tT,vo,rT,ry,fE,ao,ae,cD,aZ,eS]
 cases o<;>rfl
def nX(s:az)(i:Nat):Bool:=match s.cells[i]? with|some c=>c.hid|none=>false
def iR(s:az):Nat:=(s.pos-s.reach).toNat
def dz(s:az)(i:Nat):Bool:=decide (iR s<=i)&&(decide (i<s.pos.toNat)&&!nX s i)
def kI(s:az)(i:Nat):List (Int×Value):=(List.range' (iR s) (i-iR s)).map λj:Nat=>((j:Int),Value.bool (!nX s j))
def dn(s:az):List End:=(eh (dz s) s.cells.length).map λv=>((v.1:Int),(v.2:Int))
theorem Hu(s:az){i:Nat}:pt (i:Int) (kI s i) 0=none:=C4 λx hx=>by
 obtain⟨j,hj,rfl⟩:=adx.1 hx;have:=aeY.1 hj;simp only;omega
theorem Fc(s:az){i:Nat}(h:iR s<=i):kI s (i+1)=kI s i++[((i:Int),Value.bool (!nX s i))]:=by
 unfold kI
 have e:iR s+1*(i-iR s)=i:=by omega
 rw[show i+1-iR s=(i-iR s)+1 by omega,ae2,adD,e]
 rfl
theorem sB(f:Nat->Bool)(i:Nat):∀(n a k:Nat),((pt (i:Int) ((List.range' a n).map λj:Nat=>((j:Int),Value.bool (f j))) k).map (·.2)).getD (.bool false)=.bool (decide (a<=i)&&(decide (i<a+n)&&f i))
 |0,a,k=>by
  have:¬(a<=i/\i<a+0):=by omega
  simp[pt];intro h1 h2;omega
 |n+1,a,k=>by
  rw[aeB,adC];unfold pt
  by_cases h:i=a
  .subst h;simp
  .have hb:((i:Int)==(a:Int))=false:=by simp;omega
   rw[hb];simp only[adl,adz];rw[sB f i n (a+1) (k+1)]
   congr 1
   rw[ad7];simp
   constructor
   .rintro⟨h1,h2,h3⟩;exact⟨by omega,by omega,h3⟩
   .rintro⟨h1,h2,h3⟩;exact⟨by omega,by omega,h3⟩
theorem FA(s:az)(hp:iR s<=s.pos.toNat)(i:Nat):((pt (i:Int) (kI s s.pos.toNat) 0).map (·.2)).getD (.bool false)=.bool (dz s i):=by
 unfold kI;rw[sB (λj=>!nX s j)]
 congr 1
 unfold dz;rw[show iR s+(s.pos.toNat-iR s)=s.pos.toNat by omega]
def zR(b:Nat):Value:=.map (some b)
theorem yT{α β:Type}[BEq α][LawfulBEq α]{t:α}{v:β}:∀{l:List (α×β)},l.lookup t=some v->(t,v)∈l
 |[],h=>by cases h
 |(a,b)::l,h=>by
  rw[List.lookup_cons]at h
  by_cases ht:(t==a)=true
  .rw[ht]at h;have:=eq_of_beq ht;cases h;subst this;exact adt
  .have tf:(t==a)=false:=by simpa using ht
   rw[tf]at h;exact ado _ (yT h)
def ct(s:az)(i:Nat):Nat×List (Nat×Nat):=(List.range i).foldl (du (dz s)) (0,[])
theorem lh(s:az)(i:Nat):ct s (i+1)=du (dz s) (ct s i) i:=by
 unfold ct;rw[adY,adL]
 rfl
theorem w_(s:az):∀(d i:Nat),∃t,(ct s (i+d)).2=(ct s i).2++t
 |0,i=>⟨[],by simp⟩
 |d+1,i=>by
  obtain⟨t,ht⟩:=w_ s d i;rw[show i+(d+1)=i+d+1 by omega,lh];unfold du;split
  .exact⟨t,ht⟩
  .simp only;split
   .exact⟨t++[((ct s (i+d)).1,i+d-1)],by rw[ht,aef]⟩
   .exact⟨t,ht⟩
theorem zy(s:az):∀i,(ct s i).1<=i
 |0=>adh _
 |i+1=>by
  rw[lh];unfold du;have:=zy s i;split
  .omega
  .simp
variable{l:Nat}{xs:List AV}
def mM(l:Nat)(s:az)(bM:Nat)(ex:List (Nat×AV)):av:=λt=>if t=0 then .val (.func (.yield l) #[] #[])else if t=1 then .ref (ao s)else if t=3 then .val (zR bM)else match ex.lookup t with|some v=>v|none=>.br
structure VS(C:Cons prog GI l xs)(s:az)(cX:Value)(bM:Nat)(ex:List (Nat×AV))(l':List (Int×Value))(k:Nat)(a:Act)(w:World):Prop where
 size:a.tmps.size=54
 defers:a.defers=[]
 t0:a.tmps.getD 0 undef=.func (.yield l) #[] #[]
 t1:a.tmps.getD 1 undef=cX
 t3:a.tmps.getD 3 undef=zR bM
 ex:∀p∈ex,4<=p.1/\iC p.2=true/\RD (λ_ _=>False) w p.2 (a.tmps.getD p.1 undef)
 st:∃M Pr,C.J k M Pr w/\(∀b,M b->b<w.heap.size)/\M bM/\(∃es clock,w.heap[bM]?=some (.map es clock)/\F7 (.int .i64) es l')/\RD Pr w (.ref (ao s)) cX
variable{C:Cons prog GI l xs}{s:az}{cX:Value}{bM:Nat}{ex wW:List (Nat×AV)}{l':List (Int×Value)}{k:Nat}{a:Act}{w:World}
theorem VS.fR(h:VS C s cX bM ex l' k a w):∀t,t<54->(mM l s bM ex t).aG=mM l s bM ex t/\RV (λb _=>b≠bM) cj w (mM l s bM ex t) (a.tmps.getD t undef):=by
 intro t ht;obtain⟨M,Pr,hj,au,hM,_,hx⟩:=h.st;unfold mM
 by_cases t0:t=0
 .subst t0;simp only[adJ];rw[h.t0];exact⟨rfl,.data _ _ (.val _ rfl)⟩
 rw[if_neg t0]
 by_cases t1:t=1
 .subst t1;simp only[adJ];rw[h.t1];exact⟨rfl,.data _ _ (hx.mono (bl.same λb k _ hp=>by rintro rfl;exact C.apart hj _ k hM hp))⟩
 rw[if_neg t1]
 by_cases t3:t=3
 .subst t3;simp only[adJ];rw[h.t3];exact⟨rfl,.data _ _ (.val _ rfl)⟩
 rw[if_neg t3]
 cases hl:ex.lookup t with
 |none=>exact⟨rfl,.br _⟩
 |some v=>
  have hm:(t,v)∈ex:=yT hl;obtain⟨_,h2,h3⟩:=h.ex _ hm;refine⟨?_,.data _ _ (h3.iC h2)⟩
  cases v<;>first|rfl|cases h2
theorem VS.grow (h:VS C s cX bM ex l' k a w) {a':Act} {w':World} (hb:Below w.heap.size w w') (bq:a'.tmps.size=54) (dZ:a'.defers=[]) (h0:∀ t,t < 4→a'.tmps.getD t undef=a.tmps.getD t undef)
  (hex:∀p∈wW,4<=p.1/\iC p.2=true/\RD (λ_ _=>False) w' p.2 (a'.tmps.getD p.1 undef)):VS C s cX bM wW l' k a' w':=by
 obtain⟨M,Pr,hj,au,hM,⟨es,clock,hm,he⟩,hx⟩:=h.st
 refine⟨bq,dZ,(h0 0 (by decide)).trans h.t0,(h0 1 (by decide)).trans h.t1,(h0 3 (by decide)).trans h.t3,hex,M,Pr,C.dE hj (mV.sf hb) λb kg=>⟨adU (au b kg) hb.size,.inl kg⟩,λb kg=>adU (au b kg) hb.size,hM,
  ⟨es,clock,(hb.block bM (au bM hM)).trans hm,he⟩,hx.mono (bl.iY (λb h=>hb.block b h) λ_ _ _ h=>h)⟩
def W4:Nat->Bool:=λt=>decide (4<=t)
theorem VS.region (hG:aw GI) {C:Cons prog GI l xs} (h:VS C s cX bM ex l' k a w) {id:Nat} {ops:Array Oper} {ac:af} {Q:Exit→Act→World→Prop} {m:Nat} (hc:kY (.region id ops false)=true) (pU:d_ prog 54 (.region id ops false)=ac) (hW:lY ops W4=true)
  (wW:List (Nat×AV)) (hs:wW.all (λp=>decide (4<=p.1)&&(decide (p.1<54)&&iC p.2))=true) (Qb:bC prog GI ac (aM λS' _=>∀p∈wW,S' p.1=p.2) (mM l s bM ex) (λ_=>none)) (hk:∀a' w',VS C s cX bM wW l' k a' w'->Q .normal a' w'):(Code.region id ops false).wpIn (FR none) m prog Q a w:=by
 obtain⟨M,Pr,hj,au,hM,D0,hx⟩:=h.st;refine bJ hG cV hc pU hW (C.gi hj) (λb _=>b≠bM) (mM l s bM ex) h.size h.defers h.fR Qb ?_;intro g S' H' a' w' hg R1 hK bb;refine hk a' w' (h.grow (by have:=R1.below;rwa [R1.base]at this) R1.size (by rw[R1.defers,hg];rfl) (λt ht=>bb t (by simp[W4];omega)) λp hp=>?_);have xW:=adu.1 hs p hp;simp only[adb,adf]at xW;refine⟨xW.1,xW.2.2,?_⟩;have r:=R1.slot p.1 xW.2.1 (λh=>h);rw[hK p hp]at r;exact(r.fj (by have:=xW.2.2;revert this;cases p.2<;>simp[Go.AL.iC,AV.bT])).iC xW.2.2
theorem VS.bool(h:VS C s cX bM ex l' k a w){t:Nat}{b:Bool}(hm:(t,AV.bool b)∈ex):a.tmps.getD t undef=.bool b:=(RV.data (al:=cj) _ _ (h.ex _ hm).2.2).eE
theorem VS.int(h:VS C s cX bM ex l' k a w){t:Nat}{b:Int}(hm:(t,AV.int .i64 b)∈ex):a.tmps.getD t undef=.int .i64 b:=(RV.data (al:=cj) _ _ (h.ex _ hm).2.2).int_eq
theorem VS.bf (h:VS C s cX bM ex l' k a w) {a':Act} {w':World} (N:Nat) (hN:4≤N) (hb:Below w.heap.size w w') (bq:a'.tmps.size=54) (dZ:a'.defers=[]) (h0:∀ t,t < N→a'.tmps.getD t undef=a.tmps.getD t undef)
  (hex:ex.all (λp=>decide (p.1<N))=true):VS C s cX bM ex l' k a' w':=
 h.grow hb bq dZ (λt ht=>h0 t (by omega)) λp hp=>by
  obtain⟨q1,q2,q3⟩:=h.ex p hp;have:=adu.1 hex p hp;rw[h0 p.1 (by simpa using this)];exact⟨q1,q2,q3.iC q2⟩
theorem VS.sub(h:VS C s cX bM ex l' k a w)(aaN:∀p∈wW,p∈ex):VS C s cX bM wW l' k a w:=
 ⟨h.size,h.defers,h.t0,h.t1,h.t3,λp hp=>h.ex p (aaN p hp),h.st⟩
theorem VS.put(h:VS C s cX bM ex l' k a w)(t:Nat)(v:Value)(ht:4<=t)(hex:ex.all (λp=>p.1 !=t)=true):VS C s cX bM ex l' k (a.put (some t) v) w:=by
 have eB:∀k,k≠t->(a.put (some t) v).tmps.getD k undef=a.tmps.getD k undef:=λk hk=>by
  simp[Act.put,adg (ad2 hk)]
 refine⟨by simp[Act.put,h.size],h.defers,(eB 0 (by omega)).trans h.t0,(eB 1 (by omega)).trans h.t1,(eB 3 (by omega)).trans h.t3,λp hp=>?_,h.st⟩;have:=adu.1 hex p hp;rw[eB p.1 (by simpa using this)];exact h.ex p hp
noncomputable def Ih:af:=af.qb c151.qb.qa.qb.qb
noncomputable def sy:af:=af.qb c151.qb.qb.qb.qb.qb
theorem ES(hG:aw GI)(s:az)(h:eQ s):sP prog GI 151 [.ref (ao s)] ((dn s).map aX):=by
 intro l C w Pr ck hJ hlen hr;obtain⟨cX,rfl⟩:∃cX,ck=#[cX]:=nN (by simpa using hlen.symm);have Vy:=hr 0 (by simp) (by simp);simp only[List.getElem_cons_zero,List.getElem_toArray]at Vy;refine(jw (ro:=none) (m:=0)).1 (afS func151 rfl trivial ?_);refine fM (λa=>a.tmps.size=54/\a.defers=[]/\a.tmps.getD 0 undef=.func (.yield l) #[] #[]/\a.tmps.getD 1 undef=cX) ⟨by simp[ntmps151],rfl,bV _ _ 0 (by simp),bV _ _ 1 (by simp)⟩ ?_;rintro a ⟨bq,dZ,e0,e1⟩
 have eB:∀(a:Act)(d t:Nat)(c:Value),t≠d->(a.put (some d) c).tmps.getD t undef=a.tmps.getD t undef:=λa d t c h=>by
  simp[Act.put,adg (ad2 h)]
 have ir:∀(a:Act)(d:Nat)(c:Value),a.tmps.size=54->d<54->(a.put (some d) c).tmps.getD d undef=c:=λa d c h hd=>by
  simp[Act.put,h,hd]
 have jm:∀(a:Act)(d:Option Nat)(c:Value),(a.put d c).tmps.size=a.tmps.size:=λa d c=>by cases d<;>simp[Act.put]
 refine adk (adB ?_);show wpOpsIn _ _ _ _ _ [0,1] a w;refine aV rfl rfl (by rfl) (run_makeMap (t:=182) rfl) ?_
 obtain⟨bM,Pn⟩:∃b,w.heap.size=b:=⟨_,rfl⟩
 obtain⟨w1,kR⟩:∃w1,w.alloc (.map #[] 0)=w1:=⟨_,rfl⟩
 have s1:w1.heap.size=bM+1:=by rw[<-kR];simp[Pn]
 have n1:w1.heap[bM]?=some (.map #[] 0):=by rw[<-kR,<-Pn];exact ad4 w _
 have b1:Below w.heap.size w w1:=by rw[<-kR];exact(aeb _ _).alloc (adh _) _
 show wpOpsIn _ _ _ _ _ [1] (a.put (some 7) (.map (some w.heap.size))) (w.alloc (.map #[] 0));rw[kR,Pn];have h7:(a.put (some 7) (.map (some bM))).eval (.tmp 7)=.map (some bM):=ir _ _ _ bq (by decide);refine aV rfl rfl (by rfl) (run_assign (x:=.tmp 7) w1 rfl) ?_;rw[h7];show Code.wpIn _ _ _ _ _ ((a.put (some 7) (.map (some bM))).put (some 3) (.map (some bM))) w1
 have vs:VS C s cX bM [] [] 0 ((a.put (some 7) (.map (some bM))).put (some 3) (.map (some bM))) w1:=by
  refine⟨by rw[jm,jm];exact bq,dZ,by rw[eB _ _ _ _ (by decide),eB _ _ _ _ (by decide)];exact e0,by rw[eB _ _ _ _ (by decide),eB _ _ _ _ (by decide)];exact e1,ir _ _ _ (by rw[jm];exact bq) (by decide),λp hp=>(by cases hp),λb=>b=bM,Pr,C.dE hJ (mV.sf b1) λb hb=>?_,λb hb=>?_,rfl,⟨#[],0,n1,rfl,λi hi=>(by simp at hi)⟩,?_⟩
  .exact⟨by omega,.inr (by omega)⟩
  .omega
  .exact(Vy.fj rfl).mono (bl.iY (λb h=>b1.block b h) λ_ _ _ h=>h)
 generalize(a.put (some 7) (.map (some bM))).put (some 3) (.map (some bM))=a1 at vs⊢;clear h7 e0 e1 dZ bq n1 s1 b1 kR Pn hJ hr Vy hlen a
 obtain⟨p,hp⟩:∃p:Nat,s.pos=p:=⟨s.pos.toNat,by have:=h.pos;omega⟩
 have hpt:s.pos.toNat=p:=by omega
 have gf:=h.pos;have VN:=h.reach;have vO:=h.cells
 have Nu:iR s<=p:=by unfold iR;omega
 have oW:IntKind.i64.wrap (s.pos-s.reach)=s.pos-s.reach:=aN (by omega)
 have ZQ:max 0 (s.pos-s.reach)=(iR s:Int):=by unfold iR;omega
 have abr:(if s.pos-s.reach<=0 then(0:Int)else s.pos-s.reach)=(iR s:Int):=by unfold iR;split<;>omega
 refine adk (adk ?_);refine vs.region hG (ac:=af.qa c151.qb.qa) (by kernel_rfl) (by kernel_rfl) (by kernel_rfl) [(4,.int .i64 (iR s))] rfl ?_ ?_
 .simp[c151,af.qa,af.qb,mM,List.lookup,ao,oW];exact ZQ
 clear vs;intro a w vs
 have OL:VS C s cX bM [(4,.int .i64 ((iR s:Nat):Int))] (kI s (iR s)) 0 a w:=by
  have:kI s (iR s)=[]:=by simp[kI]
  rw[this];exact vs
 clear vs;show Code.wpIn _ _ _ _ _ a w;refine aen (af4 (λa w=>∃i,iR s<=i/\i<=p/\VS C s cX bM [(4,.int .i64 (i:Nat))] (kI s i) 0 a w) (λa _=>match a.tmps.getD 4 undef with|.int _ i=>p-i.toNat|_=>0) ⟨iR s,adh _,Nu,OL⟩ ?_);clear OL a w;rintro a w ⟨i,Zm,hip,vs⟩;have h4:a.tmps.getD 4 undef=.int .i64 (i:Nat):=vs.int (by simp);refine adk (adk ?_);refine vs.region hG (ac:=af.qa Ih.qa) (by kernel_rfl) (by kernel_rfl) (by kernel_rfl) [(4,.int .i64 (i:Nat)),(17,.bool (decide (i<p)))] rfl ?_ ?_
 .simp[c151,Ih,af.qa,af.qb,mM,List.lookup,ao,hp]
 clear vs;intro a2 w2 vs;show Code.wpIn _ _ _ _ _ a2 w2;refine ad1 (t:=decide (i<p)) (vs.bool (by simp)) ?_
 by_cases au:i<p
 case neg=>
  simp only[au,afG,adl,adz];refine afc ?_
  have ZF:i=p:=by omega
  subst ZF;show Code.wpIn _ _ _ _ _ a2 w2;clear Zm hip h4 au a w
  have Tp:kI s i=kI s s.pos.toNat:=by rw[hpt]
  refine adk ?_;refine vs.region hG (ac:=af.qa c151.qb.qb) (by kernel_rfl) (by kernel_rfl) (by kernel_rfl) [(5,.int .i64 0)] rfl ?_ ?_
  .simp[c151,af.qa,af.qb,mM,List.lookup]
  clear vs;intro a w vs;show Code.wpIn _ _ _ _ _ a w;have hwn:IntKind.i64.wrap ((s.cells.length:Int)+1)=s.cells.length+1:=aN (by omega);refine adk ?_;refine vs.region hG (ac:=af.qa c151.qb.qb.qb) (by kernel_rfl) (by kernel_rfl) (by kernel_rfl) [(5,.int .i64 ((0:Nat):Int)),(32,.int .i64 (s.cells.length+1)),(33,.int .i64 ((0:Nat):Int))] rfl ?_ ?_
  .simp[c151,af.qa,af.qb,mM,List.lookup,ao,hwn]
  clear vs;intro a w vs;show Code.wpIn _ _ _ _ _ a w;refine aen (af4 (λa w=>∃j,j<=s.cells.length+1/\VS C s cX bM [(5,.int .i64 ((ct s j).1:Nat)),(32,.int .i64 (s.cells.length+1)),(33,.int .i64 (j:Nat))] (kI s i) (ct s j).2.length a w) (λa _=>match a.tmps.getD 33 undef with|.int _ j=>s.cells.length+1-j.toNat|_=>0) ⟨0,adZ _,vs⟩ ?_);clear vs a w;rintro a w ⟨j,hj,vs⟩;have h33:a.tmps.getD 33 undef=.int .i64 (j:Nat):=vs.int (by simp);refine adk ?_;refine vs.region hG (ac:=af.qa sy) (by kernel_rfl) (by kernel_rfl) (by kernel_rfl) [(5,.int .i64 ((ct s j).1:Nat)),(32,.int .i64 (s.cells.length+1)),(33,.int .i64 (j:Nat)),(34,.bool (decide (j<s.cells.length+1)))] rfl ?_ ?_
  .simp[c151,sy,af.qa,af.qb,mM,List.lookup];omega
  clear vs;intro a3 w3 vs;show Code.wpIn _ _ _ _ _ a3 w3;refine adk (ad1 (t:=decide (j<s.cells.length+1)) (vs.bool (by simp)) ?_)
  by_cases nc:j<s.cells.length+1
  case neg=>
   simp only[nc,afG,adl,adz];refine afc ?_
   have Bu:j=s.cells.length+1:=by omega
   subst Bu
   change bodyPost prog f151 (λe w'=>∃v M eR,e=Ending.returned v/\(C.J (List.map aX (dn s)).length M eR w'\/C.X M eR w')) .normal a3 w3
   obtain⟨M,eR,dY,_⟩:=vs.st
   have hl:((dn s).map aX).length=(ct s (s.cells.length+1)).2.length:=by simp[dn,eh,ct]
   refine⟨vs.defers,.tuple #[],?_,.tuple #[],M,eR,rfl,.inl (by rw[hl];exact dY)⟩;simp[results,results151]
  simp only[nc,afz,adJ];refine aer ?_;show Code.wpIn _ _ _ _ _ a3 w3;refine adk (afl (Q:=λe a w=>(e=.normal/\VS C s cX bM [(5,.int .i64 ((ct s (j+1)).1:Nat)),(32,.int .i64 (s.cells.length+1)),(33,.int .i64 (j:Nat))] (kI s i) (ct s (j+1)).2.length a w)\/(e=.ret/\a.defers=[]/\∃M Pr,C.X M Pr w)) ?_ ?_)
  .refine aen ?_;refine adk ?_;refine vs.region hG (ac:=af.qa sy.qb.qb.qa.qb) (by kernel_rfl) (by kernel_rfl) (by kernel_rfl) [(5,.int .i64 ((ct s j).1:Nat)),(32,.int .i64 (s.cells.length+1)),(33,.int .i64 (j:Nat)),(6,.int .i64 (j:Nat))] rfl ?_ ?_
   .simp[c151,sy,af.qa,af.qb,mM,List.lookup]
   clear vs;intro a4 w4 vs;show Code.wpIn _ _ _ _ _ a4 w4;refine adk (adk ?_);obtain⟨M,eR,dY,pd,hM,⟨es,clock,hm,he⟩,hx⟩:=vs.st
   refine jz hG (GI:=GI) (p:=2) (l2:=[2]) rfl (by kernel_rfl) (by kernel_rfl) (l:=(sy.qb.qb.qa.qb.qb.qa.qa.dl).take 2) (by kernel_rfl) (by decide) (W:=λt=>decide (36<=t)) (by kernel_rfl) (C.gi dY) (λb _=>b≠bM) (mM l s bM [(5,.int .i64 ((ct s j).1:Nat)),(32,.int .i64 (s.cells.length+1)),(33,.int .i64 (j:Nat)),(6,.int .i64 (j:Nat))]) vs.size vs.defers vs.fR
    (K:=λS _=>S 36=.val (zR bM)/\S 37=.int .i64 (j:Nat)) ?_ ?_
   .simp[c151,sy,af.qa,af.qb,af.dl,mM,List.lookup]
   intro g S' H' a5 w5 hg R1 ⟨X_,Zl⟩ bb
   have E_:Below w4.heap.size w4 w5:=by have:=R1.below;rwa [R1.base]at this
   have e36:a5.eval (.tmp 36)=.map (some bM):=by
    have:=R1.slot 36 (by decide) (λh=>h);rw[X_]at this;exact this.fG
   have Ze:a5.eval (.tmp 37)=.int .i64 (j:Nat):=qv R1 (by decide) Zl;have AP:=vs.bf 36 (by decide) E_ R1.size (by rw[R1.defers,hg];rfl) (λt ht=>bb t (by simp;omega)) rfl;have Zb:w5.heap[bM]?=some (.map es clock):=(E_.block bM (pd bM hM)).trans hm
   have PM:prog.underlying 182=some (.map 3 4):=by kernel_rfl
   have S_:prog.underlying 3=some (.int .i64):=by kernel_rfl
   obtain⟨i4,O',Tw⟩:=aep.1 (show(prog.info? 4).bind (·.zero)=some (.bool false) by kernel_rfl);refine aV rfl rfl (by rfl) (v:=.bool (dz s j)) (w':=w5) ((GV (t:=182) (x1:=.tmp 36) (x2:=.tmp 37) rfl PM S_ O' Tw e36 Ze Zb he).trans (congrArg (λv=>Result.ok (Next.value v) w5) (by rw[Tp];exact FA s (by omega) j))) ?_;show Code.wpIn _ _ _ _ _ (a5.put (some 38) (.bool (dz s j))) w5;have A0:=AP.put 38 (.bool (dz s j)) (by decide) rfl;have Bt:(a5.put (some 38) (.bool (dz s j))).tmps.getD 38 undef=.bool (dz s j):=ir _ _ _ AP.size (by decide);generalize a5.put (some 38) (.bool (dz s j))=a6 at A0 Bt⊢;clear vs AP dY pd hM hm he hx M eR es clock E_ R1 bb hg X_ Zl e36 Ze Zb;refine ad1 (t:=dz s j) Bt ?_
   cases ZD:dz s j with
   |true=>
    simp only[adJ]
    have hf:ct s (j+1)=ct s j:=by rw[lh];unfold du;rw[if_pos ZD]
    refine afc (.inl ⟨rfl,?_⟩);rw[hf]
    exact A0.sub λq hq=>by simp at hq⊢;rcases hq with rfl|rfl|rfl<;>simp
   |false=>
    simp only[adl,adz];refine aer ?_;show Code.wpIn _ _ _ _ _ a6 w5;have rm:=zy s j
    have hf:ct s (j+1)=(j+1,if(ct s j).1<j then(ct s j).2++[((ct s j).1,j-1)]else(ct s j).2):=by
     rw[lh];unfold du;rw[if_neg (by rw[ZD];simp)]
    refine adk (afl (Q:=λe a w=>(e=.normal/\VS C s cX bM [(5,.int .i64 ((ct s j).1:Nat)),(32,.int .i64 (s.cells.length+1)),(33,.int .i64 (j:Nat)),(6,.int .i64 (j:Nat))] (kI s i) (ct s (j+1)).2.length a w)\/(e=.ret/\a.defers=[]/\∃M Pr,C.X M Pr w)) ?_ ?_)
    .refine adk ?_
     by_cases Qi:(ct s j).1<j
     case neg=>
      have Hs:(ct s (j+1)).2=(ct s j).2:=by rw[hf];simp[Qi]
      refine A0.region hG (ac:=af.qa sy.qb.qb.qa.qb.qb.qb.qa) (by kernel_rfl) (by kernel_rfl) (by kernel_rfl) [(5,.int .i64 ((ct s j).1:Nat)),(32,.int .i64 (s.cells.length+1)),(33,.int .i64 (j:Nat)),(6,.int .i64 (j:Nat)),(50,.bool false)] rfl ?_ ?_
      .have:¬((ct s j).1:Int)<j:=by omega
       simp[c151,sy,af.qa,af.qb,mM,List.lookup,Qi]
      intro a7 w7 vg;show Code.wpIn _ _ _ _ _ a7 w7;refine ad1 (t:=false) (vg.bool (by simp)) ?_;simp only[adl,adz];refine aer (.inl ⟨rfl,?_⟩);rw[Hs]
      exact vg.sub λq hq=>by simp at hq⊢;rcases hq with rfl|rfl|rfl|rfl<;>simp
     case pos=>
      have Hs:(ct s (j+1)).2=(ct s j).2++[((ct s j).1,j-1)]:=by rw[hf];simp[Qi]
      obtain⟨M,eR,dY,pd,hM,⟨es,clock,hm,he⟩,hx⟩:=A0.st
      have U3:IntKind.i64.wrap ((j:Int)-1)=((j-1:Nat):Int):=by rw[aN (by omega)];omega
      have jN:((ct s j).1:Int)<j:=by omega
      refine jz hG (GI:=GI) (p:=9) (l2:=[9,10,11]) rfl (by kernel_rfl) (by kernel_rfl) (l:=(sy.qb.qb.qa.qb.qb.qb.qa.qa.dl).take 9) (by kernel_rfl) (by decide) (W:=λt=>decide (39<=t)) (by kernel_rfl) (C.gi dY) (λb _=>b≠bM) (mM l s bM [(5,.int .i64 ((ct s j).1:Nat)),(32,.int .i64 (s.cells.length+1)),(33,.int .i64 (j:Nat)),(6,.int .i64 (j:Nat))]) A0.size A0.defers A0.fR
       (K:=λS _=>S 42=.bool true/\S 43=.val (.func (.yield l) #[] #[])/\S 47=.agg [.int .i64 ((ct s j).1:Nat),.int .i64 ((j-1:Nat):Int)]) ?_ ?_
      .simp[c151,sy,af.qa,af.qb,af.dl,mM,List.lookup,Qi,U3,bI]
      intro g S' H' a7 w7 hg R1 ⟨Np,MN,q47⟩ bb
      have Y9:Below w5.heap.size w5 w7:=by have:=R1.below;rwa [R1.base]at this
      have Uj:a7.tmps.getD 42 undef=.bool true:=by
       have:=R1.slot 42 (by decide) (λh=>h);rw[Np]at this;exact this.eE
      have wX:a7.eval (.tmp 43)=.func (.yield l) #[] #[]:=by
       have:=R1.slot 43 (by decide) (λh=>h);rw[MN]at this;exact this.fG
      have e47:a7.eval (.tmp 47)=.agg #[.int .i64 ((ct s j).1:Nat),.int .i64 ((j-1:Nat):Int)]:=by
       have:=R1.slot 47 (by decide) (λh=>h);rw[q47]at this;exact VL this
      have vg:=A0.bf 39 (by decide) Y9 R1.size (by rw[R1.defers,hg];rfl) (λt ht=>bb t (by simp;omega)) rfl;clear A0 dY pd hM hm he hx M eR es clock Y9 R1 bb hg Np MN q47 Bt;obtain⟨M,eR,dY,pd,hM,⟨es,clock,hm,he⟩,hx⟩:=vg.st;have UB:=vg.size
      have Xo:a7.tmps[42]?=some (.bool true):=by
       have h2:a7.tmps[42]?=some (a7.tmps.getD 42 undef):=by simp[UB]
       rw[h2,Uj]
      obtain⟨tl,xn⟩:=w_ s (s.cells.length+1-(j+1)) (j+1);rw[show j+1+(s.cells.length+1-(j+1))=s.cells.length+1 by omega,Hs]at xn
      have o_:(dn s).map aX=((ct s (s.cells.length+1)).2.map λv=>aX ((v.1:Int),(v.2:Int))):=by simp[dn,eh,ct]
      have F4:(ct s j).2.length<((dn s).map aX).length:=by
       rw[o_,xn];simp
      have yf:((dn s).map aX)[(ct s j).2.length]=aX (((ct s j).1:Int),((j-1:Nat):Int)):=by
       have:((dn s).map aX)[(ct s j).2.length]?=some (aX (((ct s j).1:Int),((j-1:Nat):Int))):=by
        rw[o_,xn];simp
       rw[ac_ F4]at this;exact adw this
      have ez:RD (λb j=>eR b j\/((λ_=>False) b/\j<(λ_=>0) b)) w7 ((dn s).map aX)[(ct s j).2.length] (a7.eval (.tmp 47)):=by
       rw[yf,e47];refine .agg _ _ rfl (λi hi=>?_) (λi hi eb=>?_)
       .match i,hi with
        |0,_|1,_=>rfl
       .match i,hi with
        |0,_|1,_=>exact .int _ _
      obtain⟨ff,tmps,On,bd,Dl,vM⟩:=C.round F4 (λ_=>False) (λ_=>0) _ dY (λb hb=>hb.elim) ez;refine AJ rfl (by simp[Region.wanted,yielded,EL,Xo]) (by rfl) ((nA (f:=.tmp 43) (x:=.tmp 47) w7 rfl rfl rfl wX).trans Dl) vM ?_;rintro e w8 ⟨Pe,Pr8,Hv,pB⟩
      have T':(ct s (j+1)).2.length=(ct s j).2.length+1:=by rw[Hs];simp
      obtain⟨b,rfl,hT,hF⟩:∃b:Bool,e=.returned (.bool b)/\(b=true->VS C s cX bM [(5,.int .i64 ((ct s j).1:Nat)),(32,.int .i64 (s.cells.length+1)),(33,.int .i64 (j:Nat)),(6,.int .i64 (j:Nat))] (kI s i) (ct s (j+1)).2.length a7 w8)/\(b=false->∃M Pr,C.X M Pr w8):=by
       rcases pB with⟨rfl,hj8⟩|⟨rfl,hX8⟩
       .refine⟨true,rfl,λ_=>?_,λh=>(by cases h)⟩
        have Gi:∀b,M b->w8.heap[b]?=w7.heap[b]?:=λb hb=>Pe b hb (λh=>h)
        refine⟨vg.size,vg.defers,vg.t0,vg.t1,vg.t3,λq hq=>?_,λb=>M b/\¬(λ_=>False) b,Pr8,by rw[T'];exact hj8,λb hb=>?_,⟨hM,λh=>h⟩,⟨es,clock,(Gi bM hM).trans hm,he⟩,hx.mono Hv⟩
        .obtain⟨q1,q2,q3⟩:=vg.ex q hq;exact⟨q1,q2,q3.iC q2⟩
        .have h1:=Gi b hb.1;rw[aej (pd b hb.1)]at h1;exact(ade.1 h1).1
       .exact⟨false,rfl,λh=>(by cases h),λ_=>⟨_,_,hX8⟩⟩
      refine⟨_,rfl,?_⟩;show wpOpsIn _ _ _ _ _ [10,11] (a7.put (some 48) (.bool b)) w8
      have z8:(a7.put (some 48) (.bool b)).tmps.size=54:=by rw[jm];exact UB
      have h48:(a7.put (some 48) (.bool b)).eval (.tmp 48)=.bool b:=ir _ _ _ UB (by decide)
      have h42:(a7.put (some 48) (.bool b)).tmps[42]?=some (.bool true):=by
       have h2:(a7.put (some 48) (.bool b)).tmps[42]?=some ((a7.put (some 48) (.bool b)).tmps.getD 42 undef):=by simp[z8]
       rw[h2,eB _ _ _ _ (by decide),Uj]
      refine L9 rfl (by simp[Region.wanted,yielded,EL,h42]) (by rfl) (Hc (x:=.tmp 48) rfl h48) ?_;show wpOpsIn _ _ _ _ _ [11] ((a7.put (some 48) (.bool b)).put (some 49) (.bool !b)) w8;have h49:((a7.put (some 48) (.bool b)).put (some 49) (.bool !b)).eval (.tmp 49)=.bool !b:=ir _ _ _ z8 (by decide)
      have ZR:((a7.put (some 48) (.bool b)).put (some 49) (.bool !b)).eval (.tmp 42)=.bool true:=by
       show Array.getD _ _ _=_;rw[eB _ _ _ _ (by decide),eB _ _ _ _ (by decide),Uj]
      have z9:((a7.put (some 48) (.bool b)).put (some 49) (.bool !b)).tmps.size=54:=by rw[jm];exact z8
      have hpk:∀o:Oper,o.op=.pick (.tmp 42) (.tmp 49) (.const (.bool false))->(execOp ((a7.put (some 48) (.bool b)).put (some 49) (.bool !b)).eval o).run prog w8=.ok (.value (.bool !b)) w8:=by
       intro o ho;unfold execOp;simp[ho,ZR,h49,asBool]
      refine aV rfl rfl (by rfl) (hpk _ rfl) ?_;show Code.wpIn _ _ _ _ _ (((a7.put (some 48) (.bool b)).put (some 49) (.bool !b)).put (some 50) (.bool !b)) w8;refine ad1 (t:=!b) (ir _ _ _ z9 (by decide)) ?_
      cases b with
      |true=>
       simp only[Bool.not_true,adl,adz];exact aer (.inl ⟨rfl,(((hT rfl).put 48 _ (by decide) rfl).put 49 _ (by decide) rfl).put 50 _ (by decide) rfl⟩)
      |false=>
       simp only[agz,adJ];exact aeZ (.inr ⟨rfl,vg.defers,hF rfl⟩)
    .rintro e a w (⟨rfl,vs⟩|⟨rfl,hd,M,eR,hX⟩)
     .show Code.wpIn _ _ _ _ _ a w
      refine vs.region hG (ac:=af.qb sy.qb.qb.qa.qb.qb.qb) (by kernel_rfl) (by kernel_rfl) (by kernel_rfl) [(5,.int .i64 ((ct s (j+1)).1:Nat)),(32,.int .i64 (s.cells.length+1)),(33,.int .i64 (j:Nat))] rfl ?_ λa w vs=>.inl ⟨rfl,vs⟩
      have hw:IntKind.i64.wrap ((j:Int)+1)=j+1:=aN (by omega);simp[c151,sy,af.qa,af.qb,mM,List.lookup,hw,hf]
     .exact .inr ⟨rfl,hd,M,eR,hX⟩
  .rintro e a w (⟨rfl,vs⟩|⟨rfl,hd,M,eR,hX⟩)
   .show Code.wpIn _ _ _ _ _ a w;refine vs.region hG (ac:=af.qb sy.qb.qb) (by kernel_rfl) (by kernel_rfl) (by kernel_rfl) [(5,.int .i64 ((ct s (j+1)).1:Nat)),(32,.int .i64 (s.cells.length+1)),(33,.int .i64 ((j+1:Nat):Int))] rfl ?_ ?_
    .have hw:IntKind.i64.wrap ((j:Int)+1)=j+1:=aN (by omega);simp[c151,sy,af.qa,af.qb,mM,List.lookup,hw]
    intro a5 w5 AP;have YF:a5.tmps.getD 33 undef=.int .i64 ((j+1:Nat):Int):=AP.int (by simp);refine⟨⟨j+1,by omega,AP⟩,?_⟩;simp only[YF,h33];simp;omega
   .change bodyPost prog f151 (λe w'=>∃v M eR,e=Ending.returned v/\(C.J (List.map aX (dn s)).length M eR w'\/C.X M eR w')) .ret a w
    refine⟨hd,.tuple #[],?_,.tuple #[],M,eR,rfl,.inr hX⟩;simp[results,results151]
 case pos=>
  simp only[au,afz,adJ];refine aer ?_;show Code.wpIn _ _ _ _ _ a2 w2
  have Zu:i<s.cells.length:=by omega
  have ZK:nX s i=s.cells[i].hid:=by unfold nX;rw[ac_ Zu]
  refine adk (aen ?_);obtain⟨M,Pr,hj,pd,hM,⟨es,clock,hm,he⟩,hx⟩:=vs.st
  refine jz hG (GI:=GI) (p:=9) (l2:=[9]) rfl (by kernel_rfl) (by kernel_rfl) (l:=(Ih.qb.qa.qb.dl).take 9) (by kernel_rfl) (by decide) (W:=W4) (by kernel_rfl) (C.gi hj) (λb _=>b≠bM) (mM l s bM [(4,.int .i64 (i:Nat)),(17,.bool (decide (i<p)))]) vs.size vs.defers vs.fR
   (K:=λS _=>S 20=.val (zR bM)/\S 21=.int .i64 (i:Nat)/\S 28=.bool (!nX s i)/\S 4=.int .i64 (i:Nat)) ?_ ?_
  .simp[c151,Ih,af.qa,af.qb,af.dl,mM,List.lookup,ao,Zu,ZK,iK]
  intro g S' H' a3 w3 hg R1 ⟨J7,Jp,BI,q4⟩ bb
  have oB:Below w2.heap.size w2 w3:=by have:=R1.below;rwa [R1.base]at this
  have Pk:a3.eval (.tmp 20)=.map (some bM):=by
   have:=R1.slot 20 (by decide) (λh=>h);rw[J7]at this;exact this.fG
  have WV:a3.eval (.tmp 21)=.int .i64 (i:Nat):=qv R1 (by decide) Jp
  have rK:a3.eval (.tmp 28)=.bool (!nX s i):=by
   have:=R1.slot 28 (by decide) (λh=>h);rw[BI]at this;exact this.eE
  have e4:a3.tmps.getD 4 undef=.int .i64 (i:Nat):=qv R1 (by decide) q4
  have F1:VS C s cX bM [(4,.int .i64 (i:Nat))] (kI s i) 0 a3 w3:=vs.grow oB R1.size (by rw[R1.defers,hg];rfl) (λt ht=>bb t (by simp[W4];omega)) λq hq=>by
   rw[ady]at hq;subst hq;exact⟨adh _,rfl,by rw[e4];exact .int _ _⟩
  clear vs hj pd hM hm he hx M Pr es clock oB R1 bb hg J7 Jp BI q4;obtain⟨M,Pr,hj,pd,hM,⟨es,clock,hm,he⟩,hx⟩:=F1.st
  have PM:prog.underlying 182=some (.map 3 4):=by kernel_rfl
  have S_:prog.underlying 3=some (.int .i64):=by kernel_rfl
  refine dM rfl rfl (by rfl) (GM (t:=182) (x1:=.tmp 20) (x2:=.tmp 21) (x3:=.tmp 28) rfl PM S_ Pk WV hm he (Hu s)) ?_;rw[rK]
  obtain⟨w4,jA⟩:∃w4,w3.putObj bM (.map (es.push { key:=.int .i64 (i:Nat),val:=.bool (!nX s i),born:=clock }) (clock+1))=w4:=⟨_,rfl⟩
  show Code.wpIn _ _ _ _ _ a3 (w3.putObj bM (.map (es.push { key:=.int .i64 (i:Nat),val:=.bool (!nX s i),born:=clock }) (clock+1)));rw[jA];have aaq:=pd bM hM
  have nB:w4.heap[bM]?=some (.map (es.push { key:=.int .i64 (i:Nat),val:=.bool (!nX s i),born:=clock }) (clock+1)):=by rw[<-jA];exact agG aaq
  have yI:mV M w3 w4:=by
   rw[<-jA];exact⟨rfl,rfl,rfl,by simp[World.putObj],λb _ hb=>agC (by rintro rfl;exact hb hM)⟩
  have y0:w4.heap.size=w3.heap.size:=by rw[<-jA];simp[World.putObj]
  have vs4:VS C s cX bM [(4,.int .i64 (i:Nat))] (kI s (i+1)) 0 a3 w4:=by
   refine⟨F1.size,F1.defers,F1.t0,F1.t1,F1.t3,λq hq=>?_,M,Pr,C.dE hj yI λb hb=>⟨by rw[y0];exact pd b hb,.inl hb⟩,λb hb=>by rw[y0];exact pd b hb,hM,⟨_,_,nB,?_⟩,hx.mono (bl.pk λb k _ hp=>yI.block b ?_ ?_)⟩
   .obtain⟨q1,q2,q3⟩:=F1.ex q hq;exact⟨q1,q2,q3.iC q2⟩
   .rw[Fc s Zm];exact he.push (i:Int) (.bool (!nX s i)) clock
   .assumption
   .intro hmb;exact C.apart hj _ k hmb hp
  refine vs4.region hG (ac:=af.qb Ih.qb) (by kernel_rfl) (by kernel_rfl) (by kernel_rfl) [(4,.int .i64 ((i+1:Nat):Int))] rfl ?_ ?_
  .have hw:IntKind.i64.wrap ((i:Int)+1)=i+1:=aN (by omega);simp[c151,Ih,af.qa,af.qb,mM,List.lookup,hw]
  intro a5 w5 AP;have Mh:a5.tmps.getD 4 undef=.int .i64 ((i+1:Nat):Int):=AP.int (by simp);refine⟨⟨i+1,by omega,by omega,AP⟩,?_⟩;simp only[Mh,h4];simp;omega
end Go.Proofs.Tryz
namespace Go.Proofs.Tryz
open Go Go.AL Go.RowKit Go.Proofs Go.Proofs.Tram
attribute [local simp] dF fc eT dW ef dI dJ cZ c_ ee cW cE gh gj aF aH ev aQ.S aQ.H bz ar aT AL.start AV.cells AV.storable AV.bZ bo bX dS b0 HR.okB post cy cJ cK AV.out AV.bT cb dk fz gI AV.vw df vI int b_ aM cU db gB iN eY dQ bQ AV.aG AV.bH
variable{GI:World->Prop}
theorem Lr(hG:aw GI)(l:List Int)(hl:l.length<100000)(h:∀x∈l,0<=x/\x<=1000):AC prog GI 102 [vI l] (.ret (.int .i64 l.sum)):=by
 refine bW hG func102 ntmps102 c102 ?_;simp[c102];refine bw 8 l.length (λi S H=>S 6=vI l/\S 7=.int .i64 l.length/\S 8=.int .i64 (i:Nat)/\S 3=.int .i64 (l.take i).sum) (λi S H h=>h.2.2.1) ⟨by simp,by simp,by simp,by simp⟩ ?_;rintro i hi S H ⟨s6,s7,s8,s3⟩
 by_cases au:i<l.length
 .have hb:=nY (l:=l.take i) λx hx=>h x (aeg hx)
  have hx:=h l[i] (ada au);rw[adM]at hb;have hw:IntKind.i64.wrap ((i:Int)+1)=i+1:=aN (by omega);have gD:IntKind.i64.wrap ((l.take i).sum+l[i])=(l.take i).sum+l[i]:=aN (by omega);rw[yM au];generalize(l.take i).sum=y at s3 gD⊢;simp[s6,s7,s8,s3,au,hw,gD]
 .have cH:i=l.length:=by omega
  subst cH;rw[aea]at s3;simp[s6,s7,s8,s3]
def eC(l:List Int)(i:Nat):Int:=l.getD i 0
theorem xE(l:List Int){a b:Nat}(pq:a<=b)(hb:b<=l.length):((l.take b).drop a).sum=ia (eC l) a b:=by
 unfold ia
 congr 1
 apply aeX;intro i;rw[adI]
 by_cases hi:i<b-a
 .rw[afr,afh (by omega),ac_ (by omega),ac_ (by simpa using hi)];simp[eC,adN,show a+i<l.length by omega]
 .rw[adv (by simp;omega),adv (by simp;omega)]
  rfl
theorem MX(hG:aw GI)(s:az):AC prog GI 90 [a_ s] (.ret (.func (.func 151) [] [.ref (ao s)])):=by
 refine AC.DR hG cV func90 rfl ntmps90 (by simp) (ac:=c90) (by kernel_rfl) ?_;simp[c90,a_,ao,ae,bC,bn,aF,bg,aH,cU,ev,aQ.S,aQ.H,ar,aT,AL.start,AV.aG,AV.cells,AV.storable,bX,l6,bz,vI];refine⟨2,.func 151,[],[.box 1 0],rfl,by decide,by simp[ar],?_⟩;simp[ar,fz,gI,AV.bH]
def MP:af:=.ops [⟨(some 6),none,.alloc 26 [(.int .i64 0),(.int .i64 0)]⟩,⟨none,none,.store .any 2 (.t 6) (.t 11)⟩]
def LG : af := .block 1 <| .seq (.ops [⟨(some 12), none, .load .any false 1 (.t 3)⟩,
    ⟨(some 13),none,.fieldAddr 0 (.t 6)⟩,
    ⟨(some 14),none,.load .any false 1 (.t 13)⟩,
    ⟨(some 15),none,.fieldAddr 1 (.t 6)⟩,
    ⟨(some 16),none,.load .any false 1 (.t 15)⟩,
    ⟨(some 17),none,.bin .add (.t 16) (.c (.int .i64 1))⟩,
    ⟨(some 18),none,.mS 1 (.t 12) (some (.t 14)) (some (.t 17))⟩,
    ⟨(some 19),none,.call 102 [(.t 18)]⟩,
    ⟨(some 7),none,.mv true (.t 19)⟩])<|
  .block 2<|.loop<|
   .seq (.seq (.ops [⟨(some 20),none,.load .any false 1 (.t 5)⟩,
     ⟨(some 21),none,.fieldAddr 15 (.t 2)⟩,
     ⟨(some 22),none,.load .any false 1 (.t 21)⟩,
     ⟨(some 23),none,.j6 (.t 22)⟩,
     ⟨(some 24),none,.bin .lss (.t 20) (.t 23)⟩,
     ⟨(some 25),none,.mv false (.t 24)⟩,
     ⟨(some 26),(some (25,true)),.fieldAddr 15 (.t 2)⟩,
     ⟨(some 27),(some (25,true)),.load .any false 1 (.t 26)⟩,
     ⟨(some 28),(some (25,true)),.load .any false 1 (.t 5)⟩,
     ⟨(some 29),(some (25,true)),.indexAddr 1 (.t 27) (.t 28)⟩,
     ⟨(some 30),(some (25,true)),.load .any false 1 (.t 29)⟩,
     ⟨(some 31),(some (25,true)),.mv false (.t 7)⟩,
     ⟨(some 32),(some (25,true)),.bin .leq (.t 30) (.t 31)⟩,
     ⟨(some 33),none,.pick (.t 25) (.t 32) (.c (.bool false))⟩])<|
   .cond (.t 33)
    (.skip)
    (.exit 2))<|
   .block 3 <| .seq (.ops [⟨(some 34),none,.mv false (.t 7)⟩,
      ⟨(some 35),none,.fieldAddr 15 (.t 2)⟩,
      ⟨(some 36),none,.load .any false 1 (.t 35)⟩,
      ⟨(some 37),none,.load .any false 1 (.t 5)⟩,
      ⟨(some 38),none,.indexAddr 1 (.t 36) (.t 37)⟩,
      ⟨(some 39),none,.load .any false 1 (.t 38)⟩,
      ⟨(some 40),none,.bin .sub (.t 34) (.t 39)⟩,
      ⟨(some 7),none,.mv true (.t 40)⟩])<|
    .ops [⟨(some 41),none,.load .any false 1 (.t 5)⟩,
      ⟨(some 42),none,.bin .add (.t 41) (.c (.int .i64 1))⟩,
      ⟨none,none,.store .any 1 (.t 5) (.t 42)⟩]
def GJ:af :=
   .seq (.seq (.ops [⟨(some 20),none,.load .any false 1 (.t 5)⟩,
     ⟨(some 21),none,.fieldAddr 15 (.t 2)⟩,
     ⟨(some 22),none,.load .any false 1 (.t 21)⟩,
     ⟨(some 23),none,.j6 (.t 22)⟩,
     ⟨(some 24),none,.bin .lss (.t 20) (.t 23)⟩,
     ⟨(some 25),none,.mv false (.t 24)⟩,
     ⟨(some 26),(some (25,true)),.fieldAddr 15 (.t 2)⟩,
     ⟨(some 27),(some (25,true)),.load .any false 1 (.t 26)⟩,
     ⟨(some 28),(some (25,true)),.load .any false 1 (.t 5)⟩,
     ⟨(some 29),(some (25,true)),.indexAddr 1 (.t 27) (.t 28)⟩,
     ⟨(some 30),(some (25,true)),.load .any false 1 (.t 29)⟩,
     ⟨(some 31),(some (25,true)),.mv false (.t 7)⟩,
     ⟨(some 32),(some (25,true)),.bin .leq (.t 30) (.t 31)⟩,
     ⟨(some 33),none,.pick (.t 25) (.t 32) (.c (.bool false))⟩])<|
   .cond (.t 33)
    (.skip)
    (.exit 2))<|
   .block 3 <| .seq (.ops [⟨(some 34),none,.mv false (.t 7)⟩,
      ⟨(some 35),none,.fieldAddr 15 (.t 2)⟩,
      ⟨(some 36),none,.load .any false 1 (.t 35)⟩,
      ⟨(some 37),none,.load .any false 1 (.t 5)⟩,
      ⟨(some 38),none,.indexAddr 1 (.t 36) (.t 37)⟩,
      ⟨(some 39),none,.load .any false 1 (.t 38)⟩,
      ⟨(some 40),none,.bin .sub (.t 34) (.t 39)⟩,
      ⟨(some 7),none,.mv true (.t 40)⟩])<|
    .ops [⟨(some 41),none,.load .any false 1 (.t 5)⟩,
      ⟨(some 42),none,.bin .add (.t 41) (.c (.int .i64 1))⟩,
      ⟨none,none,.store .any 1 (.t 5) (.t 42)⟩]
theorem Qf {s:az} {an:List Int} {n mc:Nat} {T:Int} (hn:∀ x∈an,0≤x∧x≤1000) (EW:an.length≤1000) (G0:n≤an.length) (hT:0≤T∧T≤100000) (vt:(cQ (an.drop n) T).1=mc) {S:av} {H:aD} {x3:AV} {Q:dp→av→aD→Prop}
  (s2:S 2=.box 2 0) (h2:H 2=some (aZ s an)) (h3:H 3=some [x3]) (s5:S 5=.box 5 0) (h5:H 5=some [.int .i64 (n:Nat)]) (s7:S 7=.int .i64 T)
  (hQ:∀S H,H 2=some (aZ s an)->H 3=some [x3]->H 5=some [.int .i64 ((n+mc:Nat):Int)]->Q (.exit 2) S H):bC prog GI (.loop GJ) Q S H:=by
 have xn:mc<=an.length-n:=by rw[<-vt];have:=oA (an.drop n) T;simpa using this
 refine⟨λS H=>∃m:Nat,m<=mc/\S 2=.box 2 0/\H 2=some (aZ s an)/\H 3=some [x3]/\S 5=.box 5 0/\H 5=some [.int .i64 ((n+m:Nat):Int)]/\S 7=.int .i64 (T-((an.drop n).take m).sum)/\T-((an.drop n).take m).sum<=T/\0<=T-((an.drop n).take m).sum,
  λS H=>match H 5 with|some [.int _ j]=>(an.length-j).toNat|_=>0,⟨0,adZ _,s2,h2,h3,s5,h5,by simpa using s7,by simp,by simpa using hT.1⟩,?_⟩
 clear h5 h3 h2 s2 s5 s7 S H;rintro S H ⟨m,hm,s2,h2,h3,s5,h5,s7,uX,iU⟩;have jB:=pR (an.drop n) T m (by omega);rw[afb]at jB
 have BD:mc=m+(cQ (an.drop (n+m)) (T-((an.drop n).take m).sum)).1:=by
  rw[<-vt,jB]
 obtain⟨left,MM⟩:∃left,T-((an.drop n).take m).sum=left:=⟨_,rfl⟩
 rw[MM]at BD s7 uX iU
 have VE:H 5=some [.int .i64 ((n:Int)+m)]:=by rw[h5];simp
 by_cases xU:n+m<an.length
 case neg=>
  have EU:(cQ (an.drop (n+m)) left).1=0:=by
   have:=oA (an.drop (n+m)) left;simp at this;omega
  have D1:¬((n:Int)+m<an.length):=by omega
  have J2:mc=m:=by omega
  subst J2;have hq:=hQ;simp[GJ,aZ,ao,ae,s2,h2,h3,s5,h5,s7,xU,D1];refine hq _ _ ?_ ?_ ?_
  .rw[h2]
  .rw[h3]
  .rw[h5]
 have hd:an.drop (n+m)=an[n+m]::an.drop (n+m+1):=aek xU;have hx:=hn an[n+m] (ada xU)
 have D1:(n:Int)+m<an.length:=by omega
 have tC:(0:Int)<=(n:Int)+m:=by omega
 have Jy:((n:Int)+m).toNat=n+m:=by omega
 by_cases hle:an[n+m]<=left
 case neg=>
  have EU:(cQ (an.drop (n+m)) left).1=0:=by rw[hd,cQ,if_neg hle]
  have J2:mc=m:=by omega
  subst J2;simp[GJ,aZ,ao,ae,s2,h2,h3,s5,h5,s7,xU,D1,tC,Jy,hle];refine hQ _ _ ?_ ?_ ?_
  .rw[h2]
  .rw[h3]
  .rw[h5]
 case pos=>
  have FN:m+1<=mc:=by rw[hd,cQ,if_pos hle]at BD;omega
  have kR:IntKind.i64.wrap (left-an[n+m])=left-an[n+m]:=aN (by omega);have gD:IntKind.i64.wrap ((n:Int)+m+1)=n+m+1:=aN (by omega)
  have Km:T-((an.drop n).take (m+1)).sum=left-an[n+m]:=by
   rw[adj (by simp;omega),aeC];simp;omega
  simp[GJ,aZ,ao,ae,s2,h2,h3,s5,h5,s7,xU,D1,tC,Jy,hle,kR,gD];refine⟨⟨m+1,FN,by omega,by rw[Km],by omega,by omega⟩,by omega⟩
def nT(s:az)(an bc:List Int)(k:Nat):Nat:=dV an (eC bc) ((eh (dz s) s.cells.length).take k)
theorem M1 (hG:aw GI) (s:az) (h:eQ s) (an:List Int) (hn:∀ x∈an,0≤x∧x≤1000) (EW:an.length≤1000) (bc:List Int) (hr:bc.length=s.cells.length) (px:∀ x∈bc,0≤x∧x≤1000) :
  AC prog GI 92 [cD s an,vI bc] (.ret (.int .i64 (dV an (eC bc) (eh (dz s) s.cells.length)))):=by
 have vO:=h.cells
 refine AC.iF func92 rfl ntmps92 (by simp) λcc w=>?_
 refine dU hG c92.qa (λS' H'=>S' 2=.box 2 0/\H' 2=some (aZ s an)/\S' 3=.box 3 0/\H' 3=some [vI bc]) ?_ ?_
 .simp[c92,af.qa,cD,aZ,ao,ae]
 rintro S1 H1 ⟨s2,h2,s3,h3⟩;refine dU hG c92.qb.qa (λS' H'=>S' 2=.box 2 0/\H' 2=some (aZ s an)/\S' 3=.box 3 0/\H' 3=some [vI bc]/\S' 5=.box 5 0/\H' 5=some [.int .i64 0]) ?_ ?_
 .simp[c92,af.qa,af.qb,aZ,ao,ae,s2,h2,s3,h3]
  try rfl
 clear s2 h2 s3 h3;rintro S2 H2 ⟨s2,h2,s3,h3,s5,h5⟩;refine SW.seq (dU hG c92.qb.qb.qa.qa (λS' H'=>S' 2=.box 2 0/\H' 2=some (aZ s an)/\S' 3=.box 3 0/\H' 3=some [vI bc]/\S' 5=.box 5 0/\H' 5=some [.int .i64 0]/\S' 10=.func (.func 151) [] [.ref (ao s)]) ?_ ?_)
 .simp[c92,af.qa,af.qb,aZ,ao,ae,s2,h2,s3,h3,s5,h5];refine oc (MX hG s) ?_;simp[s2,h2,s3,h3,s5,h5,aZ,ao,ae]
  try rfl
 clear s2 h2 s3 h3 s5 h5;rintro S3 H3 ⟨s2,h2,s3,h3,s5,h5,bL⟩
 have wR:pH (λd=>d==6) (S3 2)=.box 2 0:=by rw[s2];rfl
 have s3':pH (λd=>d==6) (S3 3)=.box 3 0:=by rw[s3];rfl
 have jO:pH (λd=>d==6) (S3 5)=.box 5 0:=by rw[s5];rfl
 refine SW.block (SW.range hG cV (KW:=.tmp 10) (y:=.t 10) (p:=11) (f:=151) (caps:=[.ref (ao s)]) (xs:=(dn s).map aX) rfl bL (by kernel_rfl) rfl (ES hG s h) (by decide) (λx hx=>by obtain⟨e,_,rfl⟩:=adx.1 hx;rfl)
  (λd=>d==6) (aa:=MP) (ab:=LG) (by kernel_rfl) (by kernel_rfl) (by simp[MP,af.names,cC.je,fw.je]) (by simp[LG,af.names,cC.je,fw.je]) (λ_ _ h=>h) (by kernel_rfl) (by kernel_rfl)
  (λk H'=>H' 2=some (aZ s an)/\H' 3=some [vI bc]/\H' 5=some [.int .i64 (nT s an bc k:Nat)]) (λ_ _=>False) ⟨h2,h3,by rw[h5];rfl⟩ ?_ ?_ ?_)
 .rintro k hk H' ⟨h2,h3,h5⟩
  have dP:k<(eh (dz s) s.cells.length).length:=by simpa[dn]using hk
  obtain⟨f,t,FO⟩:∃f t,(eh (dz s) s.cells.length)[k]=(f,t):=⟨_,_,rfl⟩
  have yf:((dn s).map aX)[k]=.agg [.int .i64 (f:Nat),.int .i64 (t:Nat)]:=by simp[dn,FO,aX]
  have ji:dz s s.cells.length=false:=by
   have:=h.pos;unfold dz
   have:¬s.cells.length<s.pos.toNat:=by omega
   simp[this]
  have cP:=(vV ji).1 (f,t) (by rw[<-FO];exact ada dP);simp only at cP;obtain⟨acE,acq⟩:=cP;have hw:IntKind.i64.wrap ((t:Int)+1)=t+1:=aN (by omega);have uR:=xE bc (a:=f) (b:=t+1) (by omega) (by omega);have fg:=Lr hG ((bc.take (t+1)).drop f) (by simp;omega) (λx hx=>px x (aeg (ae3 hx)));have hT0:=nY (l:=(bc.take (t+1)).drop f) (λx hx=>px x (aeg (ae3 hx)))
  have hTl:((bc.take (t+1)).drop f).length<=12:=by simp;omega
  have jP:nT s an bc (k+1)=nT s an bc k+(cQ (an.drop (nT s an bc k)) (ia (eC bc) f (t+1))).1:=by
   unfold nT;rw[adj dP,FO,l8]
  rw[<-uR]at jP;have G0:nT s an bc k<=an.length:=qp _ _ _;rw[yf];generalize hTT:((bc.take (t+1)).drop f).sum=T at fg hT0 jP;generalize nT s an bc k=n at jP G0 h5
  have i1:((t:Int)+1).toNat=t+1:=by omega
  have i2:t+1<=bc.length:=by omega
  have i3:f<=t+1:=by omega
  have j1:(f:Int)<=(t:Int)+1:=by omega
  have j2:(t:Int)+1<=bc.length:=by omega
  have Bm:List.drop f (List.take (t+1) (ints bc))=ints (List.drop f (List.take (t+1) bc)):=by simp[ints,af1,afK]
  have dT:aJ 1 (ints bc)=true:=lj _;simp[MP,LG,aZ,ao,ae,wR,h2,s3',h3,jO,h5,hw,i1,i2,i3,j1,j2,bound,Bm,dT];refine oc fg ?_;simp[aZ,ao,ae,wR,h2,s3',h3,jO,h5]
  obtain⟨mc,vt⟩:∃mc,(cQ (an.drop n) T).1=mc:=⟨_,rfl⟩
  rw[vt]at jP
  have xn:mc<=an.length-n:=by rw[<-vt];have:=oA (an.drop n) T;simpa using this
  refine Qf (s:=s) (x3:=vI bc) hn EW G0 ⟨hT0.1,by omega⟩ vt (by simp[wR]) (by simp[ar,h2]) (by simp[ar,h3]) (by simp[jO]) (by simp[ar,h5]) (by simp[ar]) ?_;intro S H q2 q3 q5;simp only[db,adJ,oG];refine⟨?_,?_,?_⟩
  .rw[q2];rfl
  .rw[q3];rfl
  .rw[q5,jP]
 .rintro D H' hD ⟨h2,h3,h5⟩;show SW prog GI 44 none (.seq _ .ret) _ _ _ _
  have lT:nT s an bc ((dn s).map aX).length=dV an (eC bc) (eh (dz s) s.cells.length):=by
   unfold nT;rw[adn (by simp[dn])]
  rw[lT]at h5;refine dU hG c92.qb.qb.qb.qa (λS' _=>S' 4=.int .i64 (dV an (eC bc) (eh (dz s) s.cells.length))) ?_ ?_
  .simp[c92,af.qa,af.qb,jO,h5]
  intro S4 H4 s4;refine SW.ret ⟨(eD.plain rfl).mark hD,rfl,_,?_,rfl⟩;show cy prog 44 [.tmp 4] S4 H4=_;simp[cy,cJ,cK,s4,AV.bT,AV.out]
  try rfl
 .exact λ_ _ _ _ _ h=>h.elim
def Aw(l:List End):AV:=.slice (if l.isEmpty then .nil else .own 26) (l.map aX)
def lZ(l:List End):AV:=.slice (if l.isEmpty then .nil else .view) (l.map aX)
def Bh(s:az):AV:=.func (.func 151) [] [.ref (ao s)]
noncomputable def A_:af:=.ops [⟨some 5,none,.alloc 26 [(.int .i64 0),(.int .i64 0)]⟩,⟨none,none,.store .any 2 (.t 5) (.t 7)⟩]
noncomputable def zW:af:=.block 1<|.ops [⟨some 8,none,.loadT .any (.t 2)⟩,⟨some 9,none,.load .any true 2 (.t 5)⟩,⟨some 10,none,.buildSlice 48 26 2 [.t 9]⟩,⟨some 11,none,.append 48 26 2 16 (.t 8) (.t 10)⟩,⟨none,none,.store .any 1 (.t 2) (.t 11)⟩]
theorem TZ (hG:aw GI) (s:az) {ps:List End} (hlen:ps.length≤1000000) (hit:sP prog GI 151 [.ref (ao s)] (ps.map aX)) :
  AC prog GI 150 [.slice .nil [],Bh s] (.ret (lZ ps)):=by
 refine AC.iF func150 rfl ntmps150 (by simp) λcc w=>?_
 refine dU hG c150.qa (λS' H'=>S' 1=Bh s/\S' 2=.box 2 0/\H' 2=some [.slice .nil []]) ?_ ?_
 .simp[c150,Bh,af.qa,bC,bn,aF,bg,aH,ev,aQ.S,aQ.H,ar,aT,AL.start,AV.aG,AV.cells,AV.storable,bX,l6,bz,vI,aX,aM]
 rintro S1 H1 ⟨s1,s2,h2⟩;refine SW.seq (dU hG c150.qb.qa.qa (λS' H'=>S' 2=.box 2 0/\S' 6=Bh s/\H' 2=some [.slice .nil []]) ?_ ?_)
 .simp[c150,Bh,af.qa,af.qb,bC,bn,aF,bg,aH,ev,aQ.S,aQ.H,ar,aT,s2,h2,aM,AV.aG]
  rw[s1]<;>rfl
 rintro S3 H3 ⟨s2,s6,h2⟩
 refine SW.block (SW.range hG cV (KW:=.tmp 6) (y:=.t 6) (p:=7) (f:=151) (caps:=[.ref (ao s)]) (xs:=ps.map aX) rfl s6 (by kernel_rfl) rfl hit (by decide) (λx hx=>by obtain⟨e,_,rfl⟩:=adx.1 hx;rfl)
  (λd=>d==5) (aa:=A_) (ab:=zW)
  (by kernel_rfl) (by kernel_rfl) (by simp[A_,af.names,cC.je,fw.je]) (by simp[zW,af.names,cC.je,fw.je]) (λ_ _ h=>h) (by kernel_rfl) (by kernel_rfl)
  (λk H'=>H' 2=some [Aw (ps.take k)]) (λ_ _=>False) h2 ?_ ?_ ?_)
 .rintro k hk H' h2
  have dP:k<ps.length:=by simpa using hk
  have yf:(ps.map aX)[k]=aX ps[k]:=by simp
  have lT:ps.take (k+1)=ps.take k++[ps[k]]:=by rw[adj dP]
  have wR:pH (λd=>d==5) (S3 2)=.box 2 0:=by rw[s2]<;>rfl
  rw[yf,lT]
  have hL:(List.take k ps).length<=1000000:=by simp;omega
  generalize List.take k ps=L at hL h2⊢
  cases L with
  |nil=>simp[A_,zW,wR,h2,aX,oG,Aw,aJ,HR.okB,bo]
  |cons x L=>
   have pS:L.length+1+1<1048576:=by simp at hL;omega
   have cP:aJ 2 (aX x::L.map aX)=true:=by simp[aJ,vI,aX,AV.storable,AV.cells]
   simp[A_,zW,wR,h2,aX,oG,Aw,aJ,HR.okB,bo,pS]
 .rintro D H' hD h2;show SW prog GI 13 none (.seq _ .ret) _ _ _ _
  have wR:pH (λd=>d==5) (S3 2)=.box 2 0:=by rw[s2]<;>rfl
  have lT:List.take (ps.map aX).length ps=ps:=adn (by simp);rw[lT]at h2;refine dU hG c150.qb.qb.qa (λS' _=>S' 4=lZ ps) ?_ ?_
  .cases ps<;>simp[c150,af.qa,af.qb,bC,bn,aF,bg,aH,ev,aQ.S,aQ.H,ar,aT,b0,wR,h2,HR.okB,aM,Aw,lZ,AV.aG,bz]
  intro S4 H4 s4;refine SW.ret ⟨(eD.plain rfl).mark hD,rfl,_,?_,rfl⟩;show cy prog 13 [.tmp 4] S4 H4=_;simp[cy,cJ,cK,s4,lZ,AV.bT,AV.out]
 .exact λ_ _ _ _ _ h=>h.elim
theorem Sv(hG:aw GI)(s:az){ps:List End}(hlen:ps.length<=1000000)(hit:sP prog GI 151 [.ref (ao s)] (ps.map aX)):AC prog GI 89 [Bh s] (.ret (lZ ps)):=by
 refine AC.iF func89 rfl ntmps89 (by simp) λcc w=>?_
 refine dU hG c89.qa (λS' H'=>S' 0=Bh s) ?_ ?_
 .simp[c89,Bh,af.qa,bC,bn,aF,bg,aH,ev,aQ.S,aQ.H,ar,aT,AL.start,AV.aG,aM,bz]
 intro S1 H1 s0
 refine SW.seq (SW.hand hG (p:=1) (lm:=[1]) (l2:=[2]) (kd:=[_]) (oh:=[_]) (lI:=[_]) rfl rfl rfl rfl (by kernel_rfl) (λ_ h=>h)
  (lU:=(c89.qb.qa.dl).take 1) (kZ:=(c89.qb.qa.dl).drop 2) (by kernel_rfl) (by kernel_rfl) (by kernel_rfl) (by kernel_rfl)
  (K1:=λS _=>S 3=Bh s) (K2:=λo S _=>o=Old.plain cc w/\S 4=lZ ps) (K3:=λo S _=>o=Old.plain cc w/\S 2=lZ ps) ?_ ?_ ?_ ?_)
 .simp[c89,af.qa,af.qb,af.dl,bn,aF,bg,aH,aQ.S,aQ.H,ev,ar,aT]
  rw[s0]<;>rfl
 .rintro w0 g S2 H2 a w' m cT ho R s3;have r3:=R.slot 3 (by decide) id;rw[s3]at r3
  refine fH rfl rfl (by rfl) (gK (k:=150) (args:=#[.slice none 0 0,a.tmps.getD 3 undef]) w' rfl rfl ?_ (by kernel_rfl)) (TZ hG s hlen hit w' (fy g false) #[.slice none 0 0,a.tmps.getD 3 undef] (hG w0 w' cT (by have:=R.below;rwa [R.base]at this)) rfl (λi h h'=>by
   match i,h with
   |0,_=>exact .data _ _ (.jU _)
   |1,_=>exact(r3.cj rfl).mono (bl.same λb k _ hp=>.inl hp) λ_ _ h=>h)) ?_
  .simp only[adK,adC,adO,Act.eval]
  rintro e w2 ⟨iU,hi,qR,c,rfl,EB,dO⟩;refine⟨_,rfl,?_⟩;obtain⟨g',q1,q2,R'⟩:=R.call (some 4) (λt ht=>by cases ht;exact⟨by decide,id⟩) false iU qR EB dO (λh=>by cases h);exact⟨g',_,_,R',q2.trans ho,aS _ _ _⟩
 .rintro o S2 H2 ⟨rfl,s4⟩;refine⟨λ_ h=>h,?_⟩
  cases ps<;>simp[c89,af.qa,af.qb,af.dl,bn,aF,bg,aH,aQ.S,aQ.H,ev,ar,aT,s4,lZ,bz]
 .rintro o S2 H2 ⟨rfl,s2⟩;refine SW.ret ⟨eD.plain rfl,rfl,_,?_,rfl⟩;show cy prog 5 [.tmp 2] S2 H2=_;simp[cy,cJ,cK,s2,lZ,AV.bT,AV.out]
theorem xp(s:az):∀i,(ct s i).2.length<=i
 |0=>adh _
 |i+1=>by
  have ih:=xp s i;rw[lh];unfold du;split
  .omega
  .simp only;split
   .simp;omega
   .omega
theorem uJ(s:az):(dn s).length<=s.cells.length+1:=by
 have:=xp s (s.cells.length+1);simpa[dn,eh,ct]using this
def Ak(s:az):List AV:=if cL s then[.slice .view (aO (dn s)),.int .i64 0]else[.slice .view [],.int .i64 2]
theorem Yz(hG:aw GI)(s:az)(hs:eZ s):AC prog GI 27 [a_ s] (.ret (.dN (Ak s))):=by
 have lv:=oT hG s hs;unfold Ak
 cases hI:cL s with
 |false=>
  rw[hI]at lv;refine bW hG func27 ntmps27 c27 ?_;simp[c27,a_,ao,ae];refine oc lv ?_;simp
 |true=>
  rw[hI]at lv;have hg:=er hI;have CT:=MX hG s;have ou:=Sv hG s (ps:=dn s) (by have:=uJ s;have:=hg.cells;omega) (ES hG s hg);have ou:=AC.iA (o:=if(dn s).isEmpty then .nil else .view) ou;refine bW hG func27 ntmps27 c27 ?_;simp[c27,a_,ao,ae];refine oc lv ?_;simp;refine oc CT ?_;simp;refine⟨_,by kernel_rfl,ou,by simp[df,qS],?_⟩;simp[aO]
theorem TX(hG:aw GI)(a b:End):AC prog GI 106 [aX a,aX b] (.ret (.bool (decide (a.2<b.2)))):=by
 refine bW hG func106 ntmps106 c106 ?_;simp[c106,aX]
def jl(x:End)(l:List End):End:=l.foldl (λo y=>if y.2<o.2 then y else o) x
theorem AE(x:End)(l:List End){i:Nat}(h:i<l.length):jl x (l.take (i+1))=if l[i].2<(jl x (l.take i)).2 then l[i]else jl x (l.take i):=by
 unfold jl;rw[afj,ac_ h,adL]
 rfl
theorem Un(hG:aw GI)(x:End)(l:List End)(hl:l.length<1000000):AC prog GI 105 [.slice .view (aO (x::l)),.func (.func 106) [] []] (.ret (aX (jl x l))):=by
 obtain⟨iT,P5,PS⟩:=bp (P:=prog) (t:=132) (s:=2) (by kernel_rfl);obtain⟨fs,fE⟩:=cd (P:=prog) (t:=132) (by kernel_rfl);have cP:aJ 2 (aO (x::l))=true:=qj (x::l);refine bW hG func105 ntmps105 c105 ?_;refine aI (λS H=>S 0=.slice .view (aO (x::l))/\S 1=.func (.func 106) [] []/\S 4=.box 4 0/\H 4=some [.int .i64 0,.int .i64 0]) (by simp) ?_;rintro S H ⟨s0,s1,s4,h4⟩;refine aI (λS H=>S 0=.slice .view (aO (x::l))/\S 1=.func (.func 106) [] []/\S 4=.box 4 0/\H 4=some [.int .i64 0,.int .i64 0]/\S 5=.box 5 0/\H 5=some [.int .i64 x.1,.int .i64 x.2]) (by simp[s0,s1,s4,h4,aO,aX,bI]) ?_;clear s0 s1 s4 h4 S H;rintro S H ⟨s0,s1,s4,h4,s5,h5⟩
 have hd:(aO (x::l)).drop 1=aO l:=by simp[aO]
 have hlen:(aO (x::l)).length=l.length+1:=by simp[aO]
 have D2:(1:Int)<=(l.length:Int)+1:=by omega
 have lT:List.take (l.length+1) (aO (x::l))=aO (x::l):=adn (by omega);generalize aO (x::l)=L at s0 hd hlen lT cP
 have TW:((l.length:Int)+1).toNat=l.length+1:=by omega
 simp[bound,s0,s1,s4,h4,s5,h5,hd,hlen,D2,lT,cP,TW];refine bw 14 l.length (λi S H=>S 1=.func (.func 106) [] []/\S 4=.box 4 0/\H 4=some [.int .i64 0,.int .i64 0]/\S 5=.box 5 0/\H 5=some [.int .i64 (jl x (l.take i)).1,.int .i64 (jl x (l.take i)).2]/\S 12=.slice .view (aO l)/\S 13=.int .i64 l.length/\S 14=.int .i64 (i:Nat)) (λi S H h=>h.2.2.2.2.2.2.2) ⟨by simp[s1],by simp[s4],by simp[h4],by simp[s5],by simp[h5,jl],by simp,by simp[aO],by simp⟩ ?_;clear s0 s1 s4 h4 s5 h5 S H;rintro i hi S H ⟨s1,s4,h4,s5,h5,bU,cz,di⟩
 by_cases au:i<l.length
 .have hw:IntKind.i64.wrap ((i:Int)+1)=i+1:=aN (by omega)
  have hn:¬(i:Int)<0:=by omega
  have hs:=AE x l au;have RM:=TX hG l[i] (jl x (l.take i))
  generalize jl x (l.take i)=o at*
  by_cases hc:l[i].2<o.2
  .rw[if_pos hc]at hs;rw[hs];simp[s1,s4,h4,s5,h5,bU,cz,di,au,hn,aO,aX,bI];refine oc RM ?_;simp[s1,s4,h4,s5,h5,bU,cz,di,hc,hw,aO,aX]
  .rw[if_neg hc]at hs;rw[hs]
   have qi:o.2<=l[i].2:=by omega
   simp[s1,s4,h4,s5,h5,bU,cz,di,au,hn,aO,aX,bI];refine oc RM ?_;simp[s1,s4,h4,s5,h5,bU,cz,di,hc,qi,hw,aO,aX]
 .have cH:i=l.length:=by omega
  subst cH;rw[aea]at h5;simp[s1,s4,h4,s5,h5,bU,cz,di,P5,PS,fE,eS,aX]
theorem HX{a:Act}{w:World}{o:Oper}{x:Operand}{t ty:TypeId}{n:Nat}(ho:o.op=.binOp .shr t x (.const (.int .u64 1)) ty)(hx:a.eval x=.int .u64 (n:Nat)):(execOp a.eval o).run prog w=.ok (.value (.int .u64 ((n/2:Nat):Int))) w:=by
 unfold execOp;have hc:a.eval (.const (.int .u64 1))=.int .u64 1:=rfl
 have hf:((n:Int)).fdiv 2=((n/2:Nat):Int):=by
  rw[Int.fdiv_eq_ediv_of_nonneg _ (by decide)];omega
 simp[ho,hx,hc,Go.binOp,Op.shift,eqGuard,IntKind.bits,hf]
theorem LZ{x:Int}(h:0<=x/\x<1000000000):IntKind.u64.wrap x=x:=by
 unfold IntKind.wrap;simp[IntKind.bits,IntKind.signed];omega
noncomputable def ly:af:=af.qb c103.qb.qb.qa.qb
theorem U' (hG:aw GI) {n:Nat} (hn:n < 100000) (k:Nat) (u v x:List AV) (hk:dX prog k=true) {p:Nat→Bool} (hm:∀ x y,x≤y→p x=true→p y=true) (h:∀ y:Nat,y < n→AC prog GI k [.int .i64 (y:Nat),.ref u,.ref v,.ref x] (.ret (.bool (p y)))) {m:Nat} (hl:mw p n m) :
  AC prog GI 103 [.int .i64 (n:Nat),.func (.func k) [] [.ref u,.ref v,.ref x]] (.ret (.int .i64 (m:Nat))):=by
 refine AC.iF func103 rfl ntmps103 (by simp) λcc w=>?_
 refine dU hG c103.qa (λS H=>S 0=.int .i64 (n:Nat)/\S 1=.func (.func k) [] [.ref u,.ref v,.ref x]) ?_ ?_
 .simp[c103,af.qa]
 rintro S1 H1 ⟨s0,s1⟩;refine dU hG c103.qb.qa (λS H=>S 1=.func (.func k) [] [.ref u,.ref v,.ref x]/\S 5=.int .i64 ((0:Nat):Int)/\S 6=.int .i64 (n:Nat)) ?_ ?_
 .simp[c103,af.qa,af.qb,s0,s1]
 clear s0 s1;rintro S2 H2 ⟨s1,s5,s6⟩;show SW prog GI 26 none (.seq (.block 0 (.loop _)) (.seq _ .ret)) _ _ _ _;refine SW.seq (SW.block (SW.loop (λo S H=>∃i j:Nat,o=Old.plain cc w/\i<=j/\j<=n/\(∀y,y<i->p y=false)/\(∀y,j<=y->y<n->p y=true)/\S 1=.func (.func k) [] [.ref u,.ref v,.ref x]/\S 5=.int .i64 (i:Nat)/\S 6=.int .i64 (j:Nat)) (λS _=>match S 5,S 6 with|.int _ i,.int _ j=>(j-i).toNat|_,_=>0) ⟨0,n,rfl,adZ _,adh _,λy hy=>absurd hy (by omega),λy h1 h2=>absurd h1 (by omega),s1,s5,s6⟩ ?_));clear s1 s5 s6;rintro o S3 H3 ⟨i,j,rfl,pK,zw,sj,DU,s1,s5,s6⟩;have m5:=s5;have m6:=s6;show SW prog GI 26 none (.seq (.seq _ (.cond _ _ _)) (.block 1 (.seq _ (.seq _ (.cond _ _ _))))) _ _ _ _;refine SW.seq (dU hG ly.qa.qa (λS H=>S 1=.func (.func k) [] [.ref u,.ref v,.ref x]/\S 5=.int .i64 (i:Nat)/\S 6=.int .i64 (j:Nat)/\S 11=.bool (decide (i<j))) ?_ ?_)
 .simp[c103,ly,af.qa,af.qb,s1,s5,s6]
 clear s1 s5 s6;rintro S4 H4 ⟨s1,s5,s6,bG⟩
 by_cases au:i<j
 case neg=>
  refine SW.cond rfl false (by show S4 11=_;rw[bG];simp[au]) (SW.exit ?_)
  have gw:i=j:=by omega
  subst gw;have him:i=m:=mw.unique (k:=n) (p:=p) ⟨zw,sj,λh=>DU i (adh _) h⟩ hl;subst him;show SW prog GI 26 none (.seq _ .ret) _ _ _ _;refine dU hG c103.qb.qb.qb.qa (λS H=>S 4=.int .i64 (i:Nat)) ?_ ?_
  .simp[c103,af.qa,af.qb,s5]
  intro S5 H5 s4;refine SW.ret ⟨eD.plain rfl,rfl,_,?_,rfl⟩;show cy prog 26 [.tmp 4] S5 H5=_;simp[cy,cJ,cK,s4,AV.bT,AV.out]
 refine SW.cond rfl true (by show S4 11=_;rw[bG];simp[au]) (SW.skip ?_);show SW prog GI 26 none (.block 1 (.seq _ (.seq _ (.cond _ _ _)))) _ _ _ _;obtain⟨g1,g2,g3⟩:=Pq hm au sj
 obtain⟨q,hq⟩:∃q,(i+j)/2=q:=⟨_,rfl⟩
 rw[hq]at g1 g2 g3
 have kR:IntKind.i64.wrap ((i:Int)+j)=((i+j:Nat):Int):=by rw[aN (by omega)];omega
 have gD:IntKind.u64.wrap ((i+j:Nat):Int)=((i+j:Nat):Int):=LZ (by omega)
 have Yw:IntKind.u64.wrap ((i:Int)+j)=((i+j:Nat):Int):=by rw[LZ (by omega)];omega
 have om:IntKind.i64.wrap (q:Nat)=(q:Nat):=aN (by omega)
 refine SW.block (SW.seq (SW.hand hG (p:=4) (lm:=[4]) (l2:=[5,6]) (kd:=[_,_,_,_]) (oh:=[_]) (lI:=[_,_]) rfl rfl rfl rfl (by kernel_rfl) (λ_ h=>h)
  (lU:=(ly.qb.qb.qa.dl).take 4) (kZ:=(ly.qb.qb.qa.dl).drop 5) (by kernel_rfl) (by kernel_rfl) (by kernel_rfl) (by kernel_rfl)
  (K1:=λS H=>S 1=.func (.func k) [] [.ref u,.ref v,.ref x]/\S 5=.int .i64 (i:Nat)/\S 6=.int .i64 (j:Nat)/\S 15=.int .u64 ((i+j:Nat):Int))
  (K2:=λo S H=>o=Old.plain cc w/\S 1=.func (.func k) [] [.ref u,.ref v,.ref x]/\S 5=.int .i64 (i:Nat)/\S 6=.int .i64 (j:Nat)/\S 16=.int .u64 (q:Nat))
  (K3:=λo S H=>o=Old.plain cc w/\S 1=.func (.func k) [] [.ref u,.ref v,.ref x]/\S 5=.int .i64 (i:Nat)/\S 6=.int .i64 (j:Nat)/\S 7=.int .i64 (q:Nat)) ?_ ?_ ?_ ?_))
 .simp[c103,ly,af.qa,af.qb,af.dl,s1,s5,s6,kR,gD,Yw]
 .rintro w0 g S5 H5 a w' m cT ho R ⟨s1,s5,s6,gm⟩
  have Ba:a.eval (.tmp 15)=.int .u64 ((i+j:Nat):Int):=by
   have t15:=R.slot 15 (by decide) (λh=>h);rw[gm]at t15;exact t15.int_eq
  refine aV rfl rfl (by rfl) (HX rfl Ba) ?_;rw[hq];exact⟨_,_,_,R.put 16 (.int .u64 (q:Nat)) _ (by decide) (.data _ _ (.int _ _)) trivial,ho,by simp[ar,s1],by simp[ar,s5],by simp[ar,s6],by simp[ar]⟩
 .rintro o S5 H5 ⟨rfl,s1,s5,s6,eV⟩;refine⟨λ_ h=>h,?_⟩;simp[c103,ly,af.qa,af.qb,af.dl,s1,s5,s6,eV,om]
 clear s1 s5 s6 bG;rintro o S5 H5 ⟨rfl,s1,s5,s6,s7⟩;show SW prog GI 26 none (.seq _ (.cond _ _ _)) _ _ _ _;have hc:=h q (by omega);refine dU hG ly.qb.qb.qb.qa (λS H=>S 1=.func (.func k) [] [.ref u,.ref v,.ref x]/\S 5=.int .i64 (i:Nat)/\S 6=.int .i64 (j:Nat)/\S 7=.int .i64 (q:Nat)/\S 21=.bool (!p q)) ?_ ?_
 .simp[c103,ly,af.qa,af.qb,s1,s5,s6,s7];refine⟨_,hk,hc,by simp[df,qS],?_⟩;simp[s1,s5,s6,s7]
 clear s1 s5 s6 s7;rintro S6 H6 ⟨s1,s5,s6,s7,lV⟩
 cases hp:p q with
 |true=>
  refine SW.cond rfl false (by show S6 21=_;rw[lV,hp]<;>rfl) ?_;refine SW.last hG cV (by kernel_rfl) (ac:=af.qb ly.qb.qb.qb.qb) (by kernel_rfl) (λ_ _ h=>h) (λS H=>S 1=.func (.func k) [] [.ref u,.ref v,.ref x]/\S 5=.int .i64 (i:Nat)/\S 6=.int .i64 (q:Nat)) ?_ ?_
  .simp[c103,ly,af.qa,af.qb,s1,s5,s6,s7]
  rintro S7 H7 ⟨s1,s5,s6⟩;refine⟨⟨i,q,rfl,g1,by omega,sj,λy Dl hy2=>hm q y Dl hp,s1,s5,s6⟩,?_⟩;show(match S7 5,S7 6 with|.int _ i,.int _ j=>(j-i).toNat|_,_=>0)<(match S3 5,S3 6 with|.int _ i,.int _ j=>(j-i).toNat|_,_=>0);rw[s5,s6,m5,m6];simp only;omega
 |false=>
  refine SW.cond rfl true (by show S6 21=_;rw[lV,hp]<;>rfl) ?_
  have jA:IntKind.i64.wrap ((q:Int)+1)=((q+1:Nat):Int):=by rw[aN (by omega)];omega
  refine SW.last hG cV (by kernel_rfl) (ac:=af.qa ly.qb.qb.qb.qb) (by kernel_rfl) (λ_ _ h=>h) (λS H=>S 1=.func (.func k) [] [.ref u,.ref v,.ref x]/\S 5=.int .i64 ((q+1:Nat):Int)/\S 6=.int .i64 (j:Nat)) ?_ ?_
  .simp[c103,ly,af.qa,af.qb,s1,s5,s6,s7,jA]
  rintro S7 H7 ⟨s1,s5,s6⟩;refine⟨⟨q+1,j,rfl,by omega,zw,g3 hp,DU,s1,s5,s6⟩,?_⟩;show(match S7 5,S7 6 with|.int _ i,.int _ j=>(j-i).toNat|_,_=>0)<(match S3 5,S3 6 with|.int _ i,.int _ j=>(j-i).toNat|_,_=>0);rw[s5,s6,m5,m6];simp only;omega
def Qa(s:aq):List AV:=if aU s then match dw s []with
 |[]=>[.int .i64 0,.int .i64 5]
 |x::l=>[.int .i64 (fC (ec s) x l).length,.int .i64 0]
 else[.int .i64 0,.int .i64 2]
theorem ab6(hG:aw GI)(s:aq)(hs:mG s):AC prog GI 71 [bP s] (.ret (.dN (Qa s))):=by
 have a40:=NU hG s hs;unfold rZ at a40;unfold Qa;refine bW hG func71 ntmps71 c71 ?_;refine aI (λS H=>S 1=.box 1 0/\H 1=some (ae s)) (by simp[bP,ae]) ?_;rintro S H ⟨s1,e1⟩;cases cM:aU s
 .rw[cM]at a40;simp[s1,e1,ae];refine oc a40 ?_;simp[s1,e1,ae,fX]
 rw[cM,if_pos rfl]at a40
 cases hg:dw s []with
 |nil=>
  rw[hg]at a40;simp[s1,e1,ae];refine oc a40 ?_;simp[s1,e1,ae,fX]
 |cons x l=>
  rw[hg]at a40;simp only at a40⊢
  generalize fC (ec s) x l=b at*
  simp[s1,e1,ae];refine oc a40 ?_;simp[s1,e1,ae,fX]
theorem IE{P:Program}{x y:af}{Q:dp->av->aD->Prop}{S:av}{H:aD}(K:av->aD->Prop)(hx:bC P GI x (cU K Q) S H)(hy:∀S' H',K S' H'->bC P GI y Q S' H'):bC P GI (.seq x y) Q S H:=
 eJ x (jZ (λS H h=>hy S H h) (λ_ _ _ h=>h)) hx
theorem tm{P:Program}{K:av->aD->Prop}{Qp:AV->Prop}{l2:List cC}:∀(l1:List cC)(S:av)(H:aD),bn P GI l1 (bn P GI l2 K Qp) Qp S H->bn P GI (l1++l2) K Qp S H
 |[],S,H,h=>h
 |o::rest,S,H,h=>by
  simp only[List.cons_append,bn]at h⊢;split at h
  .exact k_ (λS H=>tm rest S H) (λ_ h=>h) h
  .exact tm rest _ _ h
  .exact h
theorem mf{P:Program}{l:List cC}{K:av->aD->Prop}{Qp:AV->Prop}{S:av}{H:aD}(n:Nat)(I:av->aD->Prop)(h1:bn P GI (l.take n) I Qp S H)(h2:∀S H,I S H->bn P GI (l.drop n) K Qp S H):bn P GI l K Qp S H:=by
 rw[<-aeq n l];exact tm _ _ _ (oJ h2 (λ_ h=>h) _ _ _ h1)
theorem uT(hG:aw GI)(n lo hi:Int):AC prog GI 88 [.int .i64 n,.int .i64 lo,.int .i64 hi] (.ret (.bool (bO n lo hi))):=by
 refine bW hG func88 ntmps88 c88 ?_
 by_cases h1:lo<=n<;>by_cases h2:n<=hi<;>simp[c88,bO,h1,h2]
theorem Y2(hG:aw GI)(n:Int):AC prog GI 48 [.int .i64 n] (.ret (.bool (bO n 1 12))):=by
 refine bW hG func48 ntmps48 c48 ?_;simp[c48];refine oc (uT hG n 1 12) ?_;simp
theorem aaH(hG:aw GI)(n:Int):AC prog GI 49 [.int .i64 n] (.ret (.bool (bO n 1 9))):=by
 refine bW hG func49 ntmps49 c49 ?_;simp[c49];refine oc (uT hG n 1 9) ?_;simp
theorem Zp(hG:aw GI)(n:Int):AC prog GI 93 [.int .i64 n] (.ret (.bool (bO n 0 9))):=by
 refine bW hG func93 ntmps93 c93 ?_;simp[c93];refine oc (uT hG n 0 9) ?_;simp
theorem Xj(hG:aw GI)(s:az)(n:Int):AC prog GI 54 [a_ s,.int .i64 n] (.ret (.bool (bO n 1 s.cells.length))):=by
 refine bW hG func54 ntmps54 c54 ?_;simp[c54,a_,ao,ae];refine oc (uT hG n 1 s.cells.length) ?_;simp
theorem aaJ(hG:aw GI)(s:az)(hs:eZ s):AC prog GI 30 [a_ s] (.ret (.bool (cL s))):=by
 refine bW hG func30 ntmps30 c30 ?_;refine aI (λS H=>S 1=.box 1 0/\H 1=some (ao s)) (by simp[a_,ao,ae]) ?_;rintro S H ⟨s1,h1⟩;refine IE (λS H=>S 1=.box 1 0/\H 1=some (ao s)/\s.cells.any iu=false) ?_ ?_
 .simp[s1,h1,ao,ae];refine bw 3 s.cells.length (λi S H=>S 1=.box 1 0/\H 1=some (ao s)/\S 3=.int .i64 (i:Nat)/\∀j (h:j<s.cells.length),j<i->iu s.cells[j]=false) (λi S H h=>h.2.2.1) ⟨by simp[s1],by simp[h1,ao,ae],by simp,by simp⟩ ?_;clear s1 h1 S H;rintro i hi S H ⟨s1,h1,s3,hb⟩
  by_cases au:i<s.cells.length
  .have hw:IntKind.i64.wrap ((i:Int)+1)=i+1:=aN (by have:=hs.cells;omega)
   have hn:¬(i:Int)<0:=by omega
   have qi:¬(s.cells.length:Int)<=i:=by omega
   have K8:iu s.cells[i]=true->cL s=false:=λh=>by
    have:s.cells.any iu=true:=aeU.2 ⟨_,ada au,h⟩;simp[cL,this]
   simp[s1,h1,s3,au,hn,qi,iK,ao,ae];refine oc (uT hG _ _ _) ?_;cases e1:bO s.cells[i].lo 1 20
   .have hr:=K8 (by simp[iu,e1]);simp[s1,h1,s3,hr]
   simp[s1,h1,s3,au,hn,qi,iK,ao,ae];refine oc (uT hG _ _ _) ?_;cases e2:bO s.cells[i].hi s.cells[i].lo 20
   .have hr:=K8 (by simp[iu,e2]);simp[s1,h1,s3,hr]
   simp[s1,h1,s3,hw,au,ao,ae];intro j hj gw
   by_cases e:j=i
   .subst e;simp[iu,e1,e2]
   .exact hb j hj (by omega)
  .have cH:i=s.cells.length:=by omega
   subst cH
   have ha:s.cells.any iu=false:=by
    rw[<-jW,jj λj hj=>hb j hj hj];simp
   simp[s1,h1,s3,ha,ao,ae]
   all_goals (intro x hx;obtain⟨j,hj,rfl⟩:=adG hx;exact hb j hj hj)
 clear s1 h1 S H;rintro S H ⟨s1,h1,ha⟩;simp only[dF];refine mf 4 (λS H=>S 1=.box 1 0/\H 1=some (ao s)/\S 41=.bool (bO s.cells.length 1 12)) ?_ ?_
 .simp[s1,h1,ao,ae];refine oc (uT hG s.cells.length 1 12) ?_;simp[s1,h1,ao,ae]
 have hT:cL s=(((((bO s.cells.length 1 12&&bO s.pos 1 s.cells.length)&&bO s.reach 1 12)&&bO s.eH 1 9)&&bO s.dE 0 9)&&aU s.name):=by
  simp[cL,ha]
 rw[hT];clear hT;generalize bO s.cells.length 1 12=b1;rintro S1 H1 ⟨s1,h1,Pz⟩;refine mf 6 (λS H=>S 1=.box 1 0/\H 1=some (ao s)/\S 47=.bool (b1&&bO s.pos 1 s.cells.length)) ?_ ?_
 .cases b1
  .simp[s1,h1,Pz]
  .simp[s1,h1,Pz,ao,ae];refine oc (Xj hG s s.pos) ?_;simp[s1,h1,Pz,ao,ae]
 generalize(b1&&bO s.pos 1 s.cells.length)=b2;clear s1 h1 Pz;rintro S2 H2 ⟨s1,h1,yr⟩;refine mf 5 (λS H=>S 1=.box 1 0/\H 1=some (ao s)/\S 52=.bool (b2&&bO s.reach 1 12)) ?_ ?_
 .cases b2
  .simp[s1,h1,yr]
  .simp[s1,h1,yr,ao,ae];refine oc (Y2 hG s.reach) ?_;simp[s1,h1,yr,ao,ae]
 generalize(b2&&bO s.reach 1 12)=b3;clear s1 h1 yr;rintro S3 H3 ⟨s1,h1,P7⟩;refine mf 5 (λS H=>S 1=.box 1 0/\H 1=some (ao s)/\S 57=.bool (b3&&bO s.eH 1 9)) ?_ ?_
 .cases b3
  .simp[s1,h1,P7]
  .simp[s1,h1,P7,ao,ae];refine oc (aaH hG s.eH) ?_;simp[s1,h1,P7,ao,ae]
 generalize(b3&&bO s.eH 1 9)=b4;clear s1 h1 P7;rintro S4 H4 ⟨s1,h1,Qd⟩;refine mf 5 (λS H=>S 1=.box 1 0/\H 1=some (ao s)/\S 62=.bool (b4&&bO s.dE 0 9)) ?_ ?_
 .cases b4
  .simp[s1,h1,Qd]
  .simp[s1,h1,Qd,ao,ae];refine oc (Zp hG s.dE) ?_;simp[s1,h1,Qd,ao,ae]
 generalize(b4&&bO s.dE 0 9)=b5;clear s1 h1 Qd;rintro S5 H5 ⟨s1,h1,UL⟩;cases b5
 .simp[s1,h1,UL]
 .simp[s1,h1,UL,ao,ae];refine oc (aaS hG s.name hs.name) ?_;simp[s1,h1,UL]
theorem Iy(a b:End):(a.1=b.1/\a.2=b.2)↔a=b:=by
 obtain⟨a1,a2⟩:=a;obtain⟨b1,b2⟩:=b;simp
theorem aaz(hG:aw GI)(a b:List End)(ha:a.length<1000000):AC prog GI 60 [.slice .view (a.map aX),.slice .view (b.map aX)] (.ret (.bool (a==b))):=by
 refine bW hG func60 ntmps60 c60 ?_
 by_cases hl:a.length=b.length
 case neg=>
  have pz:((a.length:Int)!=b.length)=true:=by simp;omega
  have cI:(a==b)=false:=by
   rw[adW];intro e;exact hl (by rw[e])
  simp[c60,pz,cI]
 have pz:((a.length:Int)!=b.length)=false:=by simp;omega
 simp[c60,pz];refine bw 5 a.length (λi S H=>S 0=.slice .view (a.map aX)/\S 1=.slice .view (b.map aX)/\S 5=.int .i64 (i:Nat)/\∀j (hj:j<a.length),j<i->a[j]=b[j]'(by omega)) (λi S H h=>h.2.2.1) ⟨by simp,by simp,by simp,λj _ h=>absurd h (afm _)⟩ ?_;rintro i hi S H ⟨s0,s1,s5,hb⟩
 by_cases au:i<a.length
 case neg=>
  have he:(a==b)=true:=by
   rw[adX]
   exact afg hl λj h1 h2=>hb j h1 (by omega)
  have hn:¬(i:Int)<a.length:=by omega
  simp[s0,s1,s5,hn,he]
 have hw:IntKind.i64.wrap ((i:Int)+1)=i+1:=aN (by omega)
 have Ui:i<b.length:=by omega
 by_cases he:a[i]=b[i]
 .simp[s0,s1,s5,au,Ui,hw,he,aX,wc];intro j hj gw
  by_cases e:j=i
  .subst e;exact he
  .exact hb j hj (by omega)
 .have cI:(a==b)=false:=by
   rw[adW];intro e;subst e;exact he rfl
  have ky:¬(a[i].1=b[i].1/\a[i].2=b[i].2):=λh=>he ((Iy _ _).1 h)
  have iU:([a[i].1,a[i].2]!=[b[i].1,b[i].2])=true:=by
   rw[af2];intro e;simp at e;exact ky e
  simp[s0,s1,s5,au,Ui,aX,wc,cI,iU]
end Go.Proofs.Tryz
namespace Go.Proofs.Tryz
open Go Go.AL Go.RowKit Go.Proofs Go.Proofs.Tram
variable{GI:World->Prop}
theorem n_(a:Act)(d:Nat)(c c':Value):(a.put (some d) c).put (some d) c'=a.put (some d) c':=by
 simp[Act.put]
theorem Og(s:az):(AV.agg (ao s)).vw=.agg (ao s):=by simp[AV.vw,ao,ae,AV.bH,vI]
theorem CW{Pr:Nat->Nat->Prop}{w:World}{n:Int}{c:Value}(h:RD Pr w (mY n) c):c=.iface 192 (.agg #[.int .i64 n]):=by
 unfold mY at h
 cases h with
 |iface _ _ c h=>
  cases h with
  |agg _ vs hl h1 hr=>
   obtain⟨u,rfl⟩:=nN (vs:=vs) (by rw[<-hl];rfl);have:=hr 0 (by simp) (by simp);have:=(RV.data (al:=cj) _ _ this).int_eq;simp only[List.getElem_toArray,List.getElem_cons_zero]at this;rw[this]
section
variable{w0:World}{n:Nat}{g:Gh}{S:av}{H:aD}{a:Act}{w:World}{d i2 i6:Nat}{s:az}{z:List AV}
theorem ph (hG:aw GI) (cT:GI w0) (R:Rel prog w0 n cm g S H a w) (hd:d < n) (sX:i2 < n) (yG:i6 < n) (yE:d≠i6)
  (qO:S i2=.box i2 0) (rM:H i2=some (ao s)) (yq:S i6=.box i6 0) (Ac:H i6=some z) {R':Ending->World->Prop}
  (h:∀(c1:Value)(g1:Gh),g1.old=g.old->Rel prog w0 n cm g1 (ar S d (.agg (ao s))) H (a.put (some d) c1) w->GI w->RV (fy g1 false) (λ_=>none) w (a_ s) c1->∀(b6:Nat),a.tmps.getD i6 undef=.pointer (some ⟨b6,0,none⟩)->
   ∃RR:Ending->World->Prop,Calls prog 108 #[c1] w RR/\∀en w2,RR en w2->match en with
    |.returned v=>∀ (aC:Act) (o:Oper),aC.eval (.tmp 1) = .pointer (some ⟨b6,0,none⟩)→aC.eval (.tmp 3)=v→o.op = .store 102 (.tmp 1) (.tmp 3) →
      ∃w3,((execOp aC.eval o).run prog w2=.ok .skip w3\/∃u,(execOp aC.eval o).run prog w2=.ok (.value u) w3)/\R' (.returned (.tuple #[])) w3
    |.panicked ch=>R' (.panicked ch) w2
    |.outgrown=>False):
  Calls prog 135 #[a.tmps.getD i2 undef,a.tmps.getD i6 undef] w R':=by
 obtain⟨b2,kZ,e2⟩:=jV R sX qO;obtain⟨b6,al6,e6⟩:=jV R yG yq;have bq:=R.size;have wh:=R.below;rw[R.base]at wh;have fU:GI w:=hG w0 w cT wh;obtain⟨i40,YY,Xl⟩:=bp (P:=prog) (t:=31) (s:=15) (by kernel_rfl);obtain⟨fs,fE⟩:=cd (P:=prog) (t:=31) (by kernel_rfl)
 have ke:aH S H (.load .any (eS (.struct fs)) i40.size (.t i2))=some { v:=.agg (ao s) }:=by
  simp[aH,ev,qO,rM,HR.okB,Xl,eS,b0,ao,ae,AV.aG,vI]
 obtain ⟨c1,w1,g1,dv,xu,py,R1⟩:=FB R (o:={ dst:=some d,op := .load 31 (.tmp i2),type:=0,pos := "",after := #[],guard:=none }) (x := .tmp i2) (y := .t i2) rfl (λt ht=>by cases ht;exact ⟨hd,id⟩) YY fE (by simp [eO,sX]) (λ_ _=>id) ke
 have kR:w1=w:=by
  rcases dv with dv|⟨dv,_⟩
  .exact(nz (P:=prog) (by rfl) dv).1
  .obtain⟨_,v,hv⟩:=nz (P:=prog) (by rfl) dv;cases hv
 subst kR
 have Vr:(execOp a.eval { dst:=some d,op := .load 31 (.tmp i2),type:=0,pos := "",after := #[],guard:=none }).run prog w1 = .ok (.value c1) w1:=by
  rcases dv with dv|⟨dv,_⟩
  .exact dv
  .obtain⟨_,v,hv⟩:=nz (P:=prog) (by rfl) dv;cases hv
 have Nn:Rel prog w0 n cm g1 (ar S d (.agg (ao s))) H (a.put (some d) c1) w1:=R1
 have Z3:∀(a:Act)(d:Nat)(c:Value),d<a.tmps.size->(a.put (some d) c).tmps.getD d undef=c:=λa d c h=>by
  simp[Act.put,h]
 have mO:RV (fy g1 false) (λ_=>none) w1 (a_ s) c1:=by
  have h1:=Nn.slot d hd id;rw[aS,Z3 a d c1 (by omega)]at h1;have:=Nn.gI h1 false (by simp[qS]);have e:Go.AL.gI H (.agg (ao s))=.agg (ao s):=Og s;rw[e]at this;exact this
 obtain⟨RR,fg,hRR⟩:=h c1 g1 py Nn fU mO b6 e6;rw[e2,e6];refine afy func135 rfl ?_;refine(e_ (m:=0)).1 ?_;refine fM (λa=>a.tmps.size=4/\a.defers=[]/\a.tmps.getD 0 undef=.pointer (some ⟨b2,0,none⟩)/\a.tmps.getD 1 undef=.pointer (some ⟨b6,0,none⟩)) ⟨by simp[ntmps135],rfl,bV _ _ 0 (by simp),bV _ _ 1 (by simp)⟩ ?_;rintro aC ⟨zC,dC,t0,t1⟩
 have ir:∀(a:Act)(d:Nat)(c:Value),a.tmps.size=4->d<4->(a.put (some d) c).tmps.getD d undef=c:=λa d c h hd=>by
  simp[Act.put,h,hd]
 have eB:∀(a:Act)(d t:Nat)(c:Value),t≠d->(a.put (some d) c).tmps.getD t undef=a.tmps.getD t undef:=λa d t c h=>by
  simp[Act.put,adg (ad2 h)]
 refine adB ?_;show wpOpsIn _ _ _ _ _ [0,1,2] aC w1
 have MA:∀o:Oper,o.op=.load 31 (.tmp 0)->(execOp aC.eval o).run prog w1=.ok (.value c1) w1:=by
  intro o ho;have h1:aC.eval (.tmp 0)=a.eval (.tmp i2):=t0.trans e2.symm;rw[<-Vr];unfold execOp;simp only[ho,h1]
 refine aV rfl rfl (by rfl) (MA _ rfl) ?_;show wpOpsIn _ _ _ _ _ [1,2] (aC.put (some 2) c1) w1;refine sc rfl rfl (by rfl) (gK (k:=108) (args:=#[c1]) w1 rfl rfl ?_ (by kernel_rfl)) fg ?_
 .simp only[adK,adC,adO];show #[(aC.put (some 2) c1).tmps.getD 2 undef]=_;rw[ir _ _ _ zC (by decide)]
 rintro en w2 O_;have:=hRR en w2 O_
 cases en with
 |returned v=>
  show wpOpsIn _ _ _ _ _ [2] ((aC.put (some 2) c1).put (some 3) v) w2
  obtain ⟨w3,hr3,Cb⟩:=this ((aC.put (some 2) c1).put (some 3) v) { dst:=none,op := .store 102 (.tmp 1) (.tmp 3),type:=0,pos := "",after := #[],guard:=none }
   (by show((aC.put (some 2) c1).put (some 3) v).tmps.getD 1 undef=_;rw[eB _ _ _ _ (by decide),eB _ _ _ _ (by decide)];exact t1)
   (by show((aC.put (some 2) c1).put (some 3) v).tmps.getD 3 undef=_;exact ir _ _ _ (by simpa[Act.put]using zC) (by decide)) rfl
  have fin:∀u:Value,((aC.put (some 2) c1).put (some 3) v).defers=[]/\∃v',(results f135 ((aC.put (some 2) c1).put (some 3) v).tmps).run prog w3=.ok v' w3/\R' (.returned v') w3:=λu=>⟨dC,.tuple #[],by simp[results,results135],Cb⟩
  have jC:∀ o:Oper,o.op = .store 102 (.tmp 1) (.tmp 3)->(execOp ((aC.put (some 2) c1).put (some 3) v).eval o).run prog w2=(execOp ((aC.put (some 2) c1).put (some 3) v).eval { dst:=none,op := .store 102 (.tmp 1) (.tmp 3),type:=0,pos := "",after := #[],guard:=none }).run prog w2:=by
   intro o ho;unfold execOp;simp only[ho]
  rcases hr3 with hr|⟨u,hr⟩
  .exact dM rfl rfl (by rfl) ((jC _ rfl).trans hr) (fin undef)
  .exact aV rfl rfl (by rfl) ((jC _ rfl).trans hr) (fin u)
 |panicked ch=>exact⟨dC,this⟩
 |outgrown=>exact this.elim
theorem IC (hG:aw GI) (cT:GI w0) (R:Rel prog w0 n cm g S H a w) (hd:d < n) (sX:i2 < n) (yG:i6 < n) (yE:d≠i6)
  (qO:S i2=.box i2 0) (rM:H i2=some (ao s)) (yq:S i6=.box i6 0) (Ac:H i6=some z) (hz:z.length=16) {ns:List Int} (ou:AC prog GI 108 [a_ s] (.ret (cD s ns))):
  Calls prog 135 #[a.tmps.getD i2 undef,a.tmps.getD i6 undef] w λe w2=>e=.returned (.tuple #[])/\∃(c:Value)(g':Gh)(S':av)(H':aD),g'.old=g.old/\Rel prog w0 n cm g' S' H' (a.put (some d) c) w2/\(∀t,t≠d->S' t=S t)/\H'=ar H i6 (some (aZ s ns)):=by
 refine ph hG cT R hd sX yG yE qO rM yq Ac λc1 g1 kB R1 fU mO b6 e6=>?_
 refine⟨_,ou w (fy g1 false) #[c1] fU rfl (λi h h'=>by
  match i,h with
  |0,_=>exact mO),?_⟩
 rintro en w2 ⟨iU,hi,qR,c,rfl,EB,dO⟩;intro aC o q1 q3 ho;obtain⟨g',xu,py,R2⟩:=R1.call (some d) (λt ht=>by cases ht;exact⟨hd,id⟩) false iU qR EB dO (λh=>by cases h);rw[n_]at R2
 have Oy:∀t,t≠d->aT (ar S d (.agg (ao s))) (some d) (cD s ns) t=S t:=λt ht=>by simp[AL.aT,ar,ht]
 obtain⟨i100,rT,ry⟩:=bp (P:=prog) (t:=102) (s:=16) (by kernel_rfl)
 have jB:bo z 0 ((aZ s ns).map AV.aG)=aZ s ns:=by
  have:(aZ s ns).map AV.aG=aZ s ns:=by simp[aZ,ao,ae,vI,AV.aG]
  rw[this];simp[bo,hz,aZ,ao,ae]
 have ke:aH (aT (ar S d (.agg (ao s))) (some d) (cD s ns)) H (.store .any i100.size (.t i6) (.t d))=some { v:=b_,dm:=some d,hw:=some (i6,aZ s ns) }:=by
  show aH (aT (ar S d (.agg (ao s))) (some d) (.agg (aZ s ns))) H (.store .any i100.size (.t i6) (.t d))=_;have e1:ev (aT (ar S d (.agg (ao s))) (some d) (.agg (aZ s ns))) (.t i6)=.box i6 0:=(Oy i6 (ad2 yE)).trans yq
  have e2:ev (aT (ar S d (.agg (ao s))) (some d) (.agg (aZ s ns))) (.t d)=.agg (aZ s ns):=by simp[ev,AL.aT,ar]
  have hl:(aZ s ns).length=16:=by simp[aZ,ao,ae]
  simp only[aH,e1,e2,Ac,HR.okB];simp[AV.cells,AV.storable,ry,hl,hz,bz,jB,AV.bZ]
 obtain ⟨c2,w3,g3,dv,Mo,wG,R3⟩:=kX R2 (o:={ dst:=none,op := .store 102 (.tmp i6) (.tmp d),type:=0,pos := "",after := #[],guard:=none }) (x1 := .tmp i6) (x2 := .tmp d) (y1 := .t i6) (y2 := .t d) (hr := .any) rfl rfl rT (by simp [eO,yG]) (by simp [eO,hd]) (λ_ _=>id) (λ_ _=>id) ke;have bq:=R.size
 have f6:(a.put (some d) c).eval (.tmp i6)=.pointer (some ⟨b6,0,none⟩):=by
  show(a.put (some d) c).tmps.getD i6 undef=_;rw[<-e6];simp[Act.put,adg yE]
 have fd:(a.put (some d) c).eval (.tmp d)=c:=by
  show(a.put (some d) c).tmps.getD d undef=_;simp[Act.put,bq,hd]
 have bb:(execOp aC.eval o).run prog w2=(execOp (a.put (some d) c).eval { dst:=none,op := .store 102 (.tmp i6) (.tmp d),type:=0,pos := "",after := #[],guard:=none }).run prog w2:=by
  unfold execOp;simp only[ho,q1,q3,f6,fd]
 refine⟨w3,?_,rfl,c,g3,_,_,by rw[wG,py,kB],R3,λt ht=>?_,rfl⟩
 .rcases dv with dv|⟨dv,_⟩
  .exact .inr ⟨_,bb.trans dv⟩
  .exact .inl (bb.trans dv)
 .rw[<-Oy t ht];simp[aQ.S,AL.aT,ar,ht]
theorem E' (hG:aw GI) (cT:GI w0) (R:Rel prog w0 n cm g S H a w) (hd:d < n) (sX:i2 < n) (yG:i6 < n) (yE:d≠i6)
  (qO:S i2=.box i2 0) (rM:H i2=some (ao s)) (yq:S i6=.box i6 0) (Ac:H i6=some z) {k:Int} (ou:AC prog GI 108 [a_ s] (.panic (mY k))):
  Calls prog 135 #[a.tmps.getD i2 undef,a.tmps.getD i6 undef] w λe w2=>e=.panicked [{ v:=.iface 192 (.agg #[.int .i64 k]),recovered:=false }]/\Below w.heap.size w w2:=by
 refine ph hG cT R hd sX yG yE qO rM yq Ac λc1 g1 kB R1 fU mO b6 e6=>?_
 refine⟨_,ou w (fy g1 false) #[c1] fU rfl (λi h h'=>by
  match i,h with
  |0,_=>exact mO),?_⟩
 rintro en w2 ⟨iU,hi,qR,c,rfl,ez⟩;have hc:=CW ez;subst hc;exact⟨rfl,iU⟩
theorem oN(R:Rel prog w0 n cm g S H a w):g.old.bf w.heap.size=none:=by
 cases h:g.old.bf w.heap.size with
 |none=>rfl
 |some o=>
  have:=(ade.1 (R.kept _ o h).2.1).1;omega
theorem HH (hG:aw GI) (cT:GI w0) (R:Rel prog w0 n cm g S H a w) (hd:d < n) (sX:i2 < n) (yG:i6 < n) (yE:d≠i6)
  (qO:S i2=.box i2 0) (rM:H i2=some (ao s)) (yq:S i6=.box i6 0) (Ac:H i6=some z) (hz:z.length=16) {ns:List Int} (ou:AC prog GI 108 [a_ s] (.ret (cD s ns))):
  Calls prog 119 #[.func (.func 135) #[] #[a.tmps.getD i2 undef,a.tmps.getD i6 undef]] w λe w2=>e=.returned (.int .i64 0)/\∃(c:Value)(g':Gh)(S':av)(H':aD),g'.old=g.old/\Rel prog w0 n cm g' S' H' (a.put (some d) c) w2/\(∀t,t≠d->S' t=S t)/\H'=ar H i6 (some (aZ s ns)):=by
 have R1:=R.lO (.cells #[.int .i64 0] 34);have vf:=oN R;refine jH (by kernel_rfl) (IC hG cT R1 hd sX yG yE qO rM yq Ac hz ou) ?_;rintro e w2 ⟨rfl,c,g',S',H',ho,R2,rO,rJ⟩
 have hk:g'.old.bf w.heap.size=some (.cells #[.int .i64 0] 34):=by rw[ho];exact aS _ _ _
 have ju:=(R2.kept _ _ hk).2.1;have au:=(ade.1 ju).1;refine⟨au,⟨_,_,ju⟩,.inl ⟨_,rfl,rfl,c,_,S',H',?_,(R2.qn w.heap.size).kS ?_,rO,rJ⟩⟩
 .show({ g'.old with bf:=ar g'.old.bf w.heap.size none }:Old)=_;rw[ho]
  have:ar (ar g.old.bf w.heap.size (some (.cells #[.int .i64 0] 34))) w.heap.size none=g.old.bf:=by
   funext b
   by_cases hb:b=w.heap.size
   .subst hb;simp[ar,vf]
   .simp[ar,hb]
  show({ g.old with bf:=ar (ar g.old.bf w.heap.size (some (.cells #[.int .i64 0] 34))) w.heap.size none }:Old)=_;rw[this]
 .refine⟨rfl,rfl,rfl,by simp,λk dP=>?_⟩
  by_cases hb:k=w.heap.size
  .subst hb;rw[aeJ w2 _ _ _ _ _ ju,ju]
  .exact aec w2 _ k _ hb
theorem E7 (hG:aw GI) (cT:GI w0) (R:Rel prog w0 n cm g S H a w) (hd:d < n) (sX:i2 < n) (yG:i6 < n) (yE:d≠i6)
  (qO:S i2=.box i2 0) (rM:H i2=some (ao s)) (yq:S i6=.box i6 0) (Ac:H i6=some z) {k:Int} (ou:AC prog GI 108 [a_ s] (.panic (mY k))):
  Calls prog 119 #[.func (.func 135) #[] #[a.tmps.getD i2 undef,a.tmps.getD i6 undef]] w λe w2=>e=.returned (.int .i64 7)/\∃g',g'.old=g.old/\Rel prog w0 n cm g' S H a w2:=by
 have R1:=R.lO (.cells #[.int .i64 0] 34);have vf:=oN R;refine jH (by kernel_rfl) (E' hG cT R1 hd sX yG yE qO rM yq Ac ou) ?_;rintro en w2 ⟨rfl,iU⟩;have R2:=R1.kS iU;have hk:ar g.old.bf w.heap.size (some (.cells #[.int .i64 0] 34)) w.heap.size=some (.cells #[.int .i64 0] 34):=aS _ _ _;have ju:=(R2.kept _ _ hk).2.1;have au:=(ade.1 ju).1;refine⟨au,⟨_,_,ju⟩,.inr (.inl ⟨k,rfl,λw3 oB=>⟨rfl,?_⟩⟩)⟩;have R3:=R2.kS oB;have Hz:=(R3.kept _ _ hk).2.1;have R4:=R3.mF hk (.cells #[.int .i64 7] 34);rw[pT w3 Hz];refine⟨_,?_,R4.qn w.heap.size⟩
 have:ar (ar (ar g.old.bf w.heap.size (some (.cells #[.int .i64 0] 34))) w.heap.size (some (.cells #[.int .i64 7] 34))) w.heap.size none=g.old.bf:=by
  funext b
  by_cases hb:b=w.heap.size
  .subst hb;simp[ar,vf]
  .simp[ar,hb]
 show({ g.old with bf:=ar (ar (ar g.old.bf w.heap.size (some (.cells #[.int .i64 0] 34))) w.heap.size (some (.cells #[.int .i64 7] 34))) w.heap.size none }:Old)=_;rw[this]
end
end Go.Proofs.Tryz
namespace Go.Proofs.Tryz
open Go Go.AL Go.RowKit Go.Proofs Go.Proofs.Tram
attribute [local simp] dF fc eT dW ef dI dJ cZ c_ ee cW cE gh gj aF aH ev aQ.S aQ.H bz ar aT AL.start AV.cells AV.storable AV.bZ bo bX dS b0 HR.okB post cy cJ cK AV.out AV.bT cb dk fz gI AV.vw df vI int b_ aM cU db gB iN eY dQ bQ AV.aG AV.bH
variable{GI:World->Prop}
def zT:az:=⟨[],0,0,0,0,⟨[],[],0,0,0,0,0,[],0,0⟩⟩
def dK(s:az)(b:Bool):List AV:=
 if b then(match fq s.name with|some es=>[cD s (aW s es),.int .i64 0]|none=>[cD zT [],.int .i64 7])else[cD zT [],.int .i64 2]
def iP:List AV:=[.slice .nil [],.int .i64 0,.int .i64 0,.int .i64 0,.int .i64 0,.slice .nil [],.slice .nil [],.int .i64 0,.int .i64 0,.int .i64 0,.int .i64 0,.int .i64 0,.slice .nil [],.int .i64 0,.int .i64 0,.slice .nil []]
theorem C8(hG:aw GI)(s:az):AC prog GI 76 [a_ s,.bool false] (.ret (.dN [cD zT [],.int .i64 2])):=by
 obtain⟨i100,rT,ry⟩:=bp (P:=prog) (t:=102) (s:=16) (by kernel_rfl);obtain⟨fs,fE⟩:=cd (P:=prog) (t:=102) (by kernel_rfl);refine bW hG func76 ntmps76 c76 ?_;simp[c76,a_,ao,ae,bI,rT,ry,fE,eS,cD,aZ,zT]
 try rfl
theorem wg(hG:aw GI)(s:az)(hs:eZ s):AC prog GI 76 [a_ s,.bool (cL s)] (.ret (.dN (dK s (cL s)))):=by
 cases hI:cL s with
 |false=>exact C8 hG s
 |true=>
 have LR:=er hI
 refine AC.iF func76 rfl ntmps76 (by simp) λcc w=>?_
 refine dU hG c76.qa (λS' H'=>S' 1=.bool true/\S' 2=.box 2 0/\H' 2=some (ao s)/\S' 4=.box 4 0/\H' 4=some iP) ?_ ?_
 .simp[c76,af.qa,a_,ao,ae,iP]
 rintro S1 H1 ⟨s1,s2,h2,s4,h4⟩;refine SW.seq (dU hG c76.qb.qa.qa (λS' H'=>S' 9=.bool false/\S' 2=.box 2 0/\H' 2=some (ao s)/\S' 4=.box 4 0/\H' 4=some iP) ?_ ?_)
 .simp[c76,af.qa,af.qb,s1,s2,h2,s4,h4]
 clear s1 s2 h2 s4 h4;rintro S2 H2 ⟨s9,s2,h2,s4,h4⟩;refine SW.cond rfl false (by show S2 9=_;rw[s9]) (SW.skip ?_);show SW prog GI 15 none (.seq _ (.seq _ (.seq _ .ret))) _ _ _ _;refine dU hG c76.qb.qb.qa (λS' H'=>S' 2=.box 2 0/\H' 2=some (ao s)/\S' 4=.box 4 0/\H' 4=some iP/\S' 6=.box 6 0/\H' 6=some iP) ?_ ?_
 .simp[c76,af.qa,af.qb,s2,h2,s4,h4,iP]
 clear s9 s2 h2 s4 h4;rintro S3 H3 ⟨s2,h2,s4,h4,s6,h6⟩
 obtain ⟨l,e,hle,hO,mQ⟩:∃ (l:List AV) (e:Int),l.length=16∧dK s true=[(AV.agg (l.map AV.aG)).vw,.int .i64 e] ∧
   ∀(w0:World)(g:Gh)(S:av)(H:aD)(a:Act)(w:World),GI w0->Rel prog w0 15 cm g S H a w->S 2=.box 2 0->H 2=some (ao s)->S 6=.box 6 0->H 6=some iP->
    Calls prog 119 #[.func (.func 135) #[] #[a.tmps.getD 2 undef,a.tmps.getD 6 undef]] w λen w2=>en=.returned (.int .i64 e)/\∃(c:Value)(g':Gh)(S':av)(H':aD),g'.old=g.old/\Rel prog w0 15 cm g' S' H' (a.put (some 12) c) w2/\(∀t,t≠12->S' t=S t)/\H'=ar H 6 (some l):=by
  cases eG:fq s.name with
  |some es=>
   refine⟨aZ s (aW s es),0,by simp[aZ,ao,ae],?_,λw0 g S H a w cT R q2 Fs q6 OC=>HH hG cT R (by decide) (by decide) (by decide) (by decide) q2 Fs q6 OC rfl (FP hG s hs LR eG)⟩;simp[dK,eG,cD,aZ,ao,ae,vI,AV.aG,AV.vw,AV.bH]
  |none=>
   refine⟨iP,7,rfl,?_,λw0 g S H a w cT R q2 Fs q6 OC=>(E7 hG cT R (d:=12) (by decide) (by decide) (by decide) (by decide) q2 Fs q6 OC (zc hG s hs LR eG)).mono ?_⟩
   .simp[dK,eG,cD,aZ,ao,ae,zT,iP,vI,ints,AV.aG,AV.vw,AV.bH]
   .rintro en w2 ⟨rfl,g',z7,R'⟩;refine⟨rfl,undef,g',ar S 12 .br,H,z7,R'.put 12 .br undef (by decide) (.br _) trivial,λt ht=>bj _ _ ht,?_⟩
    funext k
    by_cases hk:k=6
    .subst hk;rw[aS];exact OC
    .rw[bj _ _ hk]
 rw[hO]
 refine SW.seq (SW.hand hG (p:=0) (lm:=[0,1]) (l2:=[2]) (kd:=[]) (oh:=[_,_]) (lI:=[_]) rfl rfl rfl rfl (by kernel_rfl) (λ_ h=>h) (lU:=[]) (kZ:=(c76.qb.qb.qb.qa.dl).drop 2) rfl (by kernel_rfl) rfl (by kernel_rfl)
  (K1:=λS' H'=>S' 2=.box 2 0/\H' 2=some (ao s)/\S' 4=.box 4 0/\H' 4=some iP/\S' 6=.box 6 0/\H' 6=some iP)
  (K2:=λo S' H'=>o=Old.plain cc w/\S' 4=.box 4 0/\H' 4=some iP/\S' 6=.box 6 0/\H' 6=some l/\S' 12=.int .i64 e)
  (K3:=λo S' H'=>o=Old.plain cc w/\S' 4=.box 4 0/\H' 4=some iP/\S' 6=.box 6 0/\H' 6=some l/\S' 7=.int .i64 e) ⟨s2,h2,s4,h4,s6,h6⟩ ?_ ?_ ?_)
 .rintro w0 g S5 H5 a w5 m cT ho R ⟨s2,h2,s4,h4,s6,h6⟩;have bq:=R.size;refine aV rfl rfl (by rfl) (lP (fn:=.func 135) (c:=#[.tmp 2,.tmp 6]) rfl) ?_
  obtain⟨fv,kM⟩:∃fv:Value,fv=.func (.func 135) #[] (#[Operand.tmp 2,.tmp 6].map a.eval):=⟨_,rfl⟩
  show wpOpsIn _ _ _ _ _ [1] (a.put (some 11) (.func (.func 135) #[] (#[Operand.tmp 2,.tmp 6].map a.eval))) w5;rw[<-kM];have R1:=R.put 11 .br fv (by decide) (.br _) trivial
  obtain⟨a1,oX⟩:∃a1,a.put (some 11) fv=a1:=⟨_,rfl⟩
  rw[oX]at R1⊢
  have wP:fv=.func (.func 135) #[] #[a1.tmps.getD 2 undef,a1.tmps.getD 6 undef]:=by
   have e1:=bB a 11 2 fv (by omega);have e4:=bB a 11 6 fv (by omega);rw[if_neg (by decide),oX]at e1 e4;have BG:a1.tmps.getD 2 undef=a.eval (.tmp 2):=e1;have EN:a1.tmps.getD 6 undef=a.eval (.tmp 6):=e4;rw[BG,EN,kM];simp only[adK,adC,adO]
  have jt:a1.eval (.tmp 11)=fv:=by rw[<-oX,bB _ _ _ _ (by omega),if_pos rfl]
  refine fH rfl rfl (by rfl) (gK (k:=119) (args:=#[.func (.func 135) #[] #[a1.tmps.getD 2 undef,a1.tmps.getD 6 undef]]) w5 rfl rfl ?_ (by kernel_rfl)) (mQ w0 g _ _ a1 w5 cT R1 (by simp[ar,s2]) h2 (by simp[ar,s6]) h6) ?_
  .simp only[adK,adC,adO,jt,<-wP]
  .rintro en w6 ⟨rfl,c,g',S',H',ru,R2,rO,rJ⟩;refine⟨_,rfl,?_⟩;have R3:=R2.put 12 (.int .i64 e) (.int .i64 e) (by decide) (.data _ _ (.int _ _)) trivial;rw[n_]at R3;refine⟨g',_,H',R3,ru.trans ho,?_,?_,?_,?_,aS _ _ _⟩
   .show ar S' 12 _ 4=_;rw[bj _ _ (by decide),rO 4 (by decide)];simp[ar,s4]
   .rw[rJ,bj _ _ (by decide)];exact h4
   .show ar S' 12 _ 6=_;rw[bj _ _ (by decide),rO 6 (by decide)];simp[ar,s6]
   .rw[rJ];exact aS _ _ _
 .rintro o S5 H5 ⟨rfl,s4,h4,s6,h6,bU⟩;refine⟨λ_ h=>h,?_⟩;simp[c76,af.qa,af.qb,af.dl,bn,aF,bg,aH,ev,aQ.S,aQ.H,ar,aT,s4,h4,s6,h6,bU,AV.aG,bz]
 .rintro o S5 H5 ⟨rfl,s4,h4,s6,h6,s7⟩;show SW prog GI 15 none (.seq _ .ret) _ _ _ _;have hT:List.take 16 (l.map AV.aG)=l.map AV.aG:=adn (by simp;omega);refine dU hG c76.qb.qb.qb.qb.qa (λS' H'=>S' 4=.box 4 0/\H' 4=some (l.map AV.aG)/\S' 5=.int .i64 e) ?_ ?_
  .simp[c76,af.qa,af.qb,s4,h4,s6,h6,s7,hle,hT,iP,fS]
  rintro S6 H6 ⟨s4,h4,s5⟩;obtain⟨i100,rT,ry⟩:=bp (P:=prog) (t:=102) (s:=16) (by kernel_rfl);obtain⟨fs,fE⟩:=cd (P:=prog) (t:=102) (by kernel_rfl);refine SW.ret ⟨eD.plain rfl,rfl,_,?_,rfl⟩;show cy prog 15 [.cell 4 102,.tmp 5] S6 H6=_;simp[cy,cJ,cK,s4,h4,s5,rT,fE,ry,b0,eS,hle,hT,fS,AV.out,AV.bT]
  try rfl
def gC(e:Nat)(s:az)(an:List Int):Nat:=dV an (eC (bm e s)) (eh (dz s) s.cells.length)
theorem iW{s:az}(h:eQ s){es:List End}(he:es.length<=3):(∀x∈aW s es,0<=x/\x<=1000)/\(aW s es).length<=1000:=by
 refine⟨λx hx=>?_,?_⟩
 .obtain⟨i,hi,rfl⟩:=adx.1 hx
  have:=uN h he (i:=i) (by
   unfold cg;split
   .rename_i x hx;obtain⟨au,rfl⟩:=adE.1 hx;exact(lg h.name (ada au)).uw
   .omega)
  omega
 .have:=(eg h.name).words;simp[aW];omega
theorem pg{s:az}(h:eQ s)(e:Nat):(bm e s).length=s.cells.length/\∀x∈bm e s,0<=x/\x<=1000:=by
 refine⟨by simp[bm],λx hx=>?_⟩;obtain⟨c,hc,rfl⟩:=adx.1 hx;have:=h.tH c hc;unfold qK
 split<;>omega
theorem tx(hG:aw GI)(s:az)(h:eQ s)(an:List Int)(hn:(∀x∈an,0<=x/\x<=1000)/\an.length<=1000)(e:Nat):AC prog GI 92 [cD s an,vI (bm e s)] (.ret (.int .i64 (gC e s an))):=
 M1 hG s h an hn.1 hn.2 (bm e s) (pg h e).1 (pg h e).2
theorem FC(hG:aw GI)(s:az)(h:eQ s)(an:List Int)(hn:(∀x∈an,0<=x/\x<=1000)/\an.length<=1000):AC prog GI 107 [cD s an] (.ret (.bool (decide (gC 0 s an=an.length)))):=by
 have LU:=B7 hG s (by have:=h.cells;omega) 0 (.inl rfl);have Bt:=tx hG s h an hn 0;refine bW hG func107 ntmps107 c107 ?_;simp[c107,cD,aZ,ao,ae];refine oc LU ?_;simp;refine oc Bt ?_;simp;rw[ad7];simp;omega
def j_(e:Nat)(s:az):List AV:=
 if cL s then(match fq s.name with|some es=>[.int .i64 (gC e s (aW s es)),.int .i64 0]|none=>[.int .i64 0,.int .i64 7])else[.int .i64 0,.int .i64 2]
theorem iI (s:az):(cL s=true∧∃ es,fq s.name=some es∧dK s (cL s)=[cD s (aW s es),.int .i64 0]) ∨
  (∃e:Int,e≠0/\dK s (cL s)=[cD zT [],.int .i64 e]/\∀k,j_ k s=[.int .i64 0,.int .i64 e]):=by
 cases hI:cL s with
 |false=>exact .inr ⟨2,by decide,by simp[dK],λk=>by simp[j_,hI]⟩
 |true=>
  cases hs:fq s.name with
  |some es=>exact .inl ⟨rfl,es,rfl,by simp[dK,hs]⟩
  |none=>exact .inr ⟨7,by decide,by simp[dK,hs],λk=>by simp[j_,hI,hs]⟩
theorem VZ(hG:aw GI)(s:az)(hs:eZ s):AC prog GI 34 [a_ s] (.ret (.dN (j_ 0 s))):=by
 have Ct:=oT hG s hs;have rp:=wg hG s hs
 rcases iI s with⟨hI,es,eG,ho⟩|⟨e,he,ho,vk⟩
 .rw[ho]at rp;have hg:=er hI;have LU:=B7 hG s (by have:=hg.cells;omega) 0 (.inl rfl);have Bt:=tx hG s hg _ (iW hg (gz hg.name eG)) 0
  have vk:j_ 0 s=[.int .i64 (gC 0 s (aW s es)),.int .i64 0]:=by simp[j_,hI,eG]
  rw[vk];refine bW hG func34 ntmps34 c34 ?_;simp[c34,a_,ao,ae];refine oc Ct ?_;simp;refine oc rp ?_;simp[cD,aZ,ao,ae,bI];refine oc LU ?_;simp;refine oc Bt ?_;simp
 .rw[ho]at rp;rw[vk]
  have ky:(e !=0)=true:=by simpa using he
  refine bW hG func34 ntmps34 c34 ?_;simp[c34,a_,ao,ae];refine oc Ct ?_;simp;refine oc rp ?_;simp[cD,aZ,ao,ae,zT,bI,he,ky]
theorem aaB(hG:aw GI)(s:az)(hs:eZ s):AC prog GI 35 [a_ s] (.ret (.dN (j_ 1 s))):=by
 have Ct:=oT hG s hs;have rp:=wg hG s hs
 rcases iI s with⟨hI,es,eG,ho⟩|⟨e,he,ho,vk⟩
 .rw[ho]at rp;have hg:=er hI;have LU:=B7 hG s (by have:=hg.cells;omega) 1 (.inr rfl);have Bt:=tx hG s hg _ (iW hg (gz hg.name eG)) 1
  have vk:j_ 1 s=[.int .i64 (gC 1 s (aW s es)),.int .i64 0]:=by simp[j_,hI,eG]
  rw[vk];refine bW hG func35 ntmps35 c35 ?_;simp[c35,a_,ao,ae];refine oc Ct ?_;simp;refine oc rp ?_;simp[cD,aZ,ao,ae,bI];refine oc LU ?_;simp;refine oc Bt ?_;simp
 .rw[ho]at rp;rw[vk]
  have ky:(e !=0)=true:=by simpa using he
  refine bW hG func35 ntmps35 c35 ?_;simp[c35,a_,ao,ae];refine oc Ct ?_;simp;refine oc rp ?_;simp[cD,aZ,ao,ae,zT,bI,he,ky]
def atR(s:az)(r:Nat):az:={ s with reach:=r }
theorem Ho{s:az}(h:eQ s){r:Nat}(h1:1<=r)(h2:r<=12):eQ (atR s r):=⟨h.cells,h.tH,h.pos,⟨by show(1:Int)<=(r:Int);omega,by show(r:Int)<=12;omega⟩,h.eH,h.dE,h.name⟩
def xq(s:az)(an:List Int)(r:Nat):Bool:=decide (gC 0 (atR s r) an=an.length)
def yU(s:az):List AV:=
 if cL s then(match fq s.name with|some es=>(match(List.range' 1 12).find? (xq s (aW s es))with|some r=>[.int .i64 (r:Nat),.int .i64 0]|none=>[.int .i64 0,.int .i64 5])|none=>[.int .i64 0,.int .i64 7])else[.int .i64 0,.int .i64 2]
theorem EF{p:Nat->Bool}{r n:Nat}(h1:1<=r)(h2:r<=n)(hp:p r=true)(hb:∀k,1<=k->k<r->p k=false):(List.range' 1 n).find? p=some r:=by
 rw[show n=(r-1)+(n-(r-1)) by omega,<-afH,List.find?_append]
 have h0:(List.range' 1 (r-1)).find? p=none:=by
  rw[aey];intro x hx;have:=aeY.1 hx;rw[hb x this.1 (by omega)];simp
 rw[h0,Option.none_or,show n-(r-1)=(n-r)+1 by omega,aeB,List.find?_cons];rw[show 1+(r-1)=r by omega,hp]
theorem yC{p:Nat->Bool}{n:Nat}(hb:∀k,1<=k->k<=n->p k=false):(List.range' 1 n).find? p=none:=by
 rw[aey];intro x hx;have:=aeY.1 hx;rw[hb x this.1 (by omega)];simp
theorem Zq(hG:aw GI)(s:az)(hs:eZ s):AC prog GI 44 [a_ s] (.ret (.dN (yU s))):=by
 have Ct:=oT hG s hs;have rp:=wg hG s hs
 rcases iI s with⟨hI,es,eG,ho⟩|⟨e,he,ho,vk⟩
 .rw[ho]at rp;have hg:=er hI;have hn:=iW hg (gz hg.name eG)
  have EE:yU s=(match(List.range' 1 12).find? (xq s (aW s es))with|some r=>[.int .i64 (r:Nat),.int .i64 0]|none=>[.int .i64 0,.int .i64 5]):=by simp[yU,hI,eG]
  rw[EE];generalize aW s es=an at rp hn⊢;refine bW hG func44 ntmps44 c44 ?_;simp[c44,a_,ao,ae];refine oc Ct ?_;simp;refine oc rp ?_;simp[cD,aZ,ao,ae,bI];refine⟨λS H=>∃r:Nat,1<=r/\r<=13/\S 4=.box 4 0/\H 4=some (aZ (atR s r) an)/\∀k,1<=k->k<r->xq s an k=false,λ_ H=>match H 4 with|some (_::_::.int _ r::_)=>(13-r).toNat|_=>0,⟨1,adh _,by decide,?_⟩,?_⟩
  .simp[aZ,ao,ae,atR];intro k h1 h2;omega
  rintro S H ⟨r,DZ,hr2,s4,h4,hb⟩
  by_cases hle:r<=12
  case neg=>
   have hr:r=13:=by omega
   subst hr;rw[yC λk h1 h2=>hb k h1 (by omega)];simp[aZ,ao,ae,atR,s4,h4]
  have uB:(r:Int)<=12:=by omega
  have OS:=FC hG (atR s r) (Ho hg DZ hle) an hn
  cases hf:xq s an r with
  |true=>
   unfold xq at hf;rw[hf]at OS;rw[EF DZ hle (show xq s an r=true from hf) hb];simp[aZ,ao,ae,atR,s4,h4,uB];refine oc OS ?_;simp[aZ,ao,ae,atR,s4,h4]
  |false=>
   have yH:=hf;unfold xq at yH;rw[yH]at OS;have hw:IntKind.i64.wrap ((r:Int)+1)=r+1:=aN (by omega);simp[aZ,ao,ae,atR,s4,h4,uB];refine oc OS ?_;simp[aZ,ao,ae,atR,s4,h4,hw];refine⟨⟨r+1,by omega,by omega,by omega,λk h1 h2=>?_⟩,by omega⟩
   by_cases hk:k=r
   .rw[hk];exact hf
   .exact hb k h1 (by omega)
 .rw[ho]at rp
  have vp:yU s=[.int .i64 0,.int .i64 e]:=by
   have:=vk 0;unfold j_ at this;unfold yU
   cases hI:cL s with
   |false=>simpa[hI]using this
   |true=>
    cases eG:fq s.name with
    |none=>simpa[hI,eG]using this
    |some es=>simp[hI,eG,dK]at ho;exact absurd ho.2.symm he
  rw[vp]
  have ky:(e !=0)=true:=by simpa using he
  refine bW hG func44 ntmps44 c44 ?_;simp[c44,a_,ao,ae];refine oc Ct ?_;simp;refine oc rp ?_;simp[cD,aZ,ao,ae,zT,bI,he,ky]
theorem En(hG:aw GI)(s:az)(hs:eZ s)(b:Bool):AC prog GI 76 [a_ s,.bool (cL s&&b)] (.ret (.dN (dK s (cL s&&b)))):=by
 cases b with
 |true=>rw[agm];exact wg hG s hs
 |false=>
  rw[Bool.and_false];have:=C8 hG s;simpa[dK]using this
theorem mA (s:az) (b:Bool):(cL s=true∧b=true∧∃ es,fq s.name=some es∧dK s (cL s && b)=[cD s (aW s es),.int .i64 0]) ∨
  (cL s&&b)=false/\dK s (cL s&&b)=[cD zT [],.int .i64 2]\/cL s=true/\b=true/\fq s.name=none/\dK s (cL s&&b)=[cD zT [],.int .i64 7]:=by
 cases hI:(cL s&&b)with
 |false=>exact .inr (.inl ⟨rfl,by simp[dK]⟩)
 |true=>
  rw[adb]at hI
  cases hs:fq s.name with
  |some es=>exact .inl ⟨hI.1,hI.2,es,rfl,by simp[dK,hs]⟩
  |none=>exact .inr (.inr ⟨hI.1,hI.2,rfl,by simp[dK,hs]⟩)
def qx(s:az):List AV:=if cL s then(match fq s.name with|some es=>[vI (aW s es),.int .i64 0]|none=>[vI [],.int .i64 7])else[vI [],.int .i64 2]
theorem ZW(hG:aw GI)(s:az)(hs:eZ s):AC prog GI 23 [a_ s] (.ret (.dN (qx s))):=by
 have lv:=oT hG s hs;have iL:=En hG s hs true
 have key:∃t:az,∃l:List Int,∃e:Int,dK s (cL s&&true)=[cD t l,.int .i64 e]/\qx s=[vI l,.int .i64 e]:=by
  rcases mA s true with⟨h1,_,es,h2,h3⟩|⟨h1,h3⟩|⟨h1,_,h2,h3⟩
  .exact⟨_,_,_,h3,by simp[qx,h1,h2]⟩
  .rw[agm]at h1;exact⟨_,_,_,h3,by simp[qx,h1]⟩
  .exact⟨_,_,_,h3,by simp[qx,h1,h2]⟩
 obtain⟨t,l,e,h3,h4⟩:=key;rw[h3,agm]at iL;rw[h4];refine bW hG func23 ntmps23 c23 ?_;simp[c23,a_,ao,ae];refine oc lv ?_;simp;refine oc iL ?_;simp[cD,aZ,ao,ae,bI]
def kU(s:az)(l:List Int):Bool:=decide (l.length=s.cells.length)&&(l.zip s.cells).all λx=>bO x.1 x.2.lo x.2.hi
theorem sq{α β:Type}(p:α×β->Bool):∀(l:List α)(m:List β),l.length=m.length->((l.zip m).all p=true↔∀i (h:i<l.length)(h':i<m.length),p (l[i],m[i])=true)
 |[],[],_=>by simp
 |a::l,b::m,h=>by
  rw[List.zip_cons_cons,List.all_cons,adb,sq p l m (by simpa using h)]
  constructor
  .rintro⟨h1,h2⟩ i hi eb
   cases i with
   |zero=>exact h1
   |succ i=>exact h2 i (by simpa using hi) (by simpa using eb)
  .intro hh;exact⟨hh 0 (by simp) (by simp),λi hi eb=>hh (i+1) (by simpa using hi) (by simpa using eb)⟩
 |[],_::_,h=>by simp at h
 |_::_,[],h=>by simp at h
theorem Ys(hG:aw GI)(s:az)(hs:s.cells.length<1000000)(l:List Int)(hl:l.length<1000000):AC prog GI 91 [a_ s,vI l] (.ret (.bool (kU s l))):=by
 refine bW hG func91 ntmps91 c91 ?_;refine aI (λS H=>S 1=vI l/\S 2=.box 2 0/\H 2=some (ao s)) (by simp[a_,ao,ae]) ?_;rintro S H ⟨s1,s2,h2⟩;simp[s1,s2,h2];refine bw 9 l.length (λi S H=>S 1=vI l/\S 2=.box 2 0/\H 2=some (ao s)/\S 7=vI l/\S 8=.int .i64 l.length/\S 9=.int .i64 (i:Nat)/\∀j (h:j<l.length),j<i->∃h':j<s.cells.length,bO l[j] s.cells[j].lo s.cells[j].hi=true) (λi S H h=>h.2.2.2.2.2.1) ⟨by simp[s1],by simp[s2],by simp[h2],by simp[s1],by simp,by simp,by simp⟩ ?_;clear s1 s2 h2 S H;rintro i hi S H ⟨s1,s2,h2,s7,s8,s9,hb⟩
 by_cases au:i<l.length
 .have hw:IntKind.i64.wrap ((i:Int)+1)=i+1:=aN (by omega)
  have hn:¬(i:Int)<0:=by omega
  by_cases hc:i<s.cells.length
  case neg=>
   have qi:(s.cells.length:Int)<=i:=by omega
   have hr:kU s l=false:=by
    unfold kU
    rw[ae_ (by omega)]<;>rfl
   simp[s1,s2,h2,s7,s8,s9,au,hn,qi,hr,ao,ae]
  have qi:¬(s.cells.length:Int)<=i:=by omega
  simp[s1,s2,h2,s7,s8,s9,au,hn,hc,qi,iK,ao,ae];refine oc (qY hG _ _ _) ?_;cases jJ:bO l[i] s.cells[i].lo s.cells[i].hi
  .have hr:kU s l=false:=by
    unfold kU
    by_cases xD:l.length=s.cells.length
    .have:¬ ((l.zip s.cells).all fun x=>bO x.1 x.2.lo x.2.hi)=true:=fun h=>by
      have:=(sq _ l s.cells xD).1 h i au hc;rw[jJ]at this;cases this
     simp only[afp]at this;rw[this,Bool.and_false]
    .rw[ae_ xD]<;>rfl
   simp[s1,s2,h2,s7,s8,s9,hr]
  .simp[s1,s2,h2,s7,s8,s9,hw,ao,ae];intro j hj gw
   by_cases e:j=i
   .subst e;exact⟨hc,jJ⟩
   .exact hb j hj (by omega)
 .have cH:i=l.length:=by omega
  subst cH
  have hr:kU s l=decide (l.length=s.cells.length):=by
   unfold kU
   by_cases xD:l.length=s.cells.length
   .rw[aeN xD,afo]
    exact(sq _ l s.cells xD).2 λi h h'=>let⟨_,q⟩:=hb i h h;q
   .rw[ae_ xD,Bool.false_and]
  simp[s1,s2,h2,s7,s8,s9,hr,ao,ae];rw[ad7];simp;omega
theorem Cd{s:az}(h:eQ s){l:List Int}(hr:kU s l=true):l.length=s.cells.length/\(∀x∈l,1<=x/\x<=20)/\∀i (h:i<l.length)(h':i<s.cells.length),s.cells[i].lo<=l[i]/\l[i]<=s.cells[i].hi:=by
 unfold kU at hr;rw[adb,adf]at hr;have h2:=(sq _ l s.cells hr.1).1 hr.2
 have h3:∀i (h:i<l.length)(h':i<s.cells.length),s.cells[i].lo<=l[i]/\l[i]<=s.cells[i].hi:=λi hi eb=>by
  have:=h2 i hi eb;simpa[bO]using this
 refine⟨hr.1,λx hx=>?_,h3⟩;obtain⟨i,hi,rfl⟩:=adG hx;have:=h3 i hi (by omega);have:=h.tH _ (ada (show i<s.cells.length by omega));omega
def tN(s:az)(an bc:List Int):Nat:=dV an (eC bc) (eh (dz s) s.cells.length)
def rn(s:az)(l:List Int):List AV:=
 if cL s&&kU s l then(match fq s.name with|some es=>[.int .i64 (tN s (aW s es) l),.int .i64 0]|none=>[.int .i64 0,.int .i64 7])else[.int .i64 0,.int .i64 2]
theorem ZI(hG:aw GI)(s:az)(hs:eZ s)(l:List Int)(hl:l.length<1000000):AC prog GI 29 [a_ s,vI l] (.ret (.dN (rn s l))):=by
 have lv:=oT hG s hs;have Ve:=Ys hG s hs.cells l hl;have iL:=En hG s hs (kU s l);rcases mA s (kU s l)with⟨h1,h0,es,h2,h3⟩|h3
 .have hg:=er h1;obtain⟨r1,r2,_⟩:=Cd hg h0;have hn:=iW hg (gz hg.name h2);have A6:=M1 hG s hg _ hn.1 hn.2 l r1 (λx hx=>by have:=r2 x hx;omega)
  have ho:rn s l=[.int .i64 (tN s (aW s es) l),.int .i64 0]:=by simp[rn,h1,h0,h2]
  rw[h3,h1,h0]at iL;rw[ho];rw[h1]at lv;rw[h0]at Ve;refine bW hG func29 ntmps29 c29 ?_;simp[c29,a_,ao,ae];refine oc lv ?_;simp;refine oc Ve ?_;simp;refine oc iL ?_;simp[cD,aZ,ao,ae,bI];refine oc A6 ?_;simp[tN]
 .have key:∃ e:Int,e≠0∧dK s (cL s && kU s l)=[cD zT [],.int .i64 e]∧rn s l=[.int .i64 0,.int .i64 e]:=by
   rcases h3 with⟨h1,h3⟩|⟨h1,h0,h2,h3⟩
   .exact⟨2,by decide,h3,by simp[rn,h1]⟩
   .exact⟨7,by decide,h3,by simp[rn,h1,h0,h2]⟩
  obtain⟨e,he,h3,h4⟩:=key
  have ky:(e !=0)=true:=by simpa using he
  rw[h3]at iL;rw[h4];refine bW hG func29 ntmps29 c29 ?_;simp[c29,a_,ao,ae];refine oc lv ?_;cases hI:cL s
  .rw[hI]at iL;simp;refine oc iL ?_;simp[cD,aZ,ao,ae,zT,bI,he,ky]
  .rw[hI]at iL;simp;refine oc Ve ?_;simp;refine oc iL ?_;simp[cD,aZ,ao,ae,zT,bI,he,ky]
def FX(s:az)(an:List Int)(w:Int):Int:=if w<(gC 0 s an:Nat)then 3 else if w<(gC 1 s an:Nat)then 2 else 1
def tu(s:az)(w:Int):Bool:=bO w 0 (s.name.words.length-1)
def ov(s:az)(w:Int):List AV:=
 if cL s&&tu s w then(match fq s.name with|some es=>[.int .i64 (FX s (aW s es) w),.int .i64 0]|none=>[.int .i64 0,.int .i64 7])else[.int .i64 0,.int .i64 2]
theorem Yn(hG:aw GI)(s:az)(hs:eZ s)(w:Int):AC prog GI 36 [a_ s,.int .i64 w] (.ret (.dN (ov s w))):=by
 have lv:=oT hG s hs;have iL:=En hG s hs (tu s w)
 have pv:IntKind.i64.wrap ((s.name.words.length:Int)-1)=(s.name.words.length:Int)-1:=by
  have:=hs.name.words;exact aN (by omega)
 rcases mA s (tu s w)with⟨h1,h0,es,h2,h3⟩|h3
 .have hg:=er h1;have hn:=iW hg (gz hg.name h2)
  have HK:∀e,e=0\/e=1->_:=λe he=>B7 hG s (by have:=hg.cells;omega) e he
  have aaw:=HK 0 (.inl rfl);have ZN:=HK 1 (.inr rfl);have Xd:=tx hG s hg _ hn 0;have aaP:=tx hG s hg _ hn 1
  have ho:ov s w=[.int .i64 (FX s (aW s es) w),.int .i64 0]:=by simp[ov,h1,h0,h2]
  rw[h3,h1,h0]at iL;rw[ho];rw[h1]at lv;have BL:=h0;unfold tu at BL;refine bW hG func36 ntmps36 c36 ?_;simp[c36,a_,ao,ae];refine oc lv ?_;simp[pv];refine oc (qY hG _ _ _) ?_;simp[BL];refine oc iL ?_;simp[cD,aZ,ao,ae,bI];refine oc aaw ?_;simp;refine oc Xd ?_;unfold FX
  by_cases c1:w<(gC 0 s (aW s es):Nat)
  .simp[c1]
  simp[c1];refine oc ZN ?_;simp;refine oc aaP ?_
  by_cases c2:w<(gC 1 s (aW s es):Nat)
  .simp[c2]
  .simp[c2]
 .have key:∃ e:Int,e≠0∧dK s (cL s && tu s w)=[cD zT [],.int .i64 e]∧ov s w=[.int .i64 0,.int .i64 e]:=by
   rcases h3 with⟨h1,h3⟩|⟨h1,h0,h2,h3⟩
   .exact⟨2,by decide,h3,by simp[ov,h1]⟩
   .exact⟨7,by decide,h3,by simp[ov,h1,h0,h2]⟩
  obtain⟨e,he,h3,h4⟩:=key
  have ky:(e !=0)=true:=by simpa using he
  rw[h3]at iL;rw[h4];refine bW hG func36 ntmps36 c36 ?_;simp[c36,a_,ao,ae];refine oc lv ?_;cases hI:cL s
  .rw[hI]at iL;simp;refine oc iL ?_;simp[cD,aZ,ao,ae,zT,bI,he,ky]
  .rw[hI]at iL;simp[pv];refine oc (qY hG _ _ _) ?_;unfold tu at iL;simp;refine oc iL ?_;simp[cD,aZ,ao,ae,zT,bI,he,ky]
theorem p7(s:az)(e:Int)(he:e≠0)(ho:dK s (cL s)=[cD zT [],.int .i64 e]):(cL s=false/\e=2)\/(cL s=true/\fq s.name=none/\e=7):=by
 cases hI:cL s with
 |false=>left;simp[dK,hI]at ho;exact⟨rfl,ho.symm⟩
 |true=>
  cases hs:fq s.name with
  |none=>right;simp[dK,hI,hs]at ho;exact⟨rfl,rfl,ho.symm⟩
  |some es=>simp[dK,hI,hs]at ho;exact absurd ho.2.symm he
def sL(s:az)(p:Nat):az:={ s with eH:=p }
theorem Hq{s:az}(h:eQ s){p:Nat}(h1:1<=p)(h2:p<=9):eQ (sL s p):=⟨h.cells,h.tH,h.pos,h.reach,⟨by show(1:Int)<=(p:Int);omega,by show(p:Int)<=9;omega⟩,h.dE,h.name⟩
def tr(s:az)(es:List End)(p:Nat):Bool:=decide (gC 0 (sL s p) (aW (sL s p) es)=(aW (sL s p) es).length)
def tM:List Nat:=[9,8,7,6,5,4,3,2,1]
def rF(s:az):List AV:=
 if cL s then(match fq s.name with|some es=>(match tM.find? (tr s es)with|some r=>[.int .i64 (r:Nat),.int .i64 0]|none=>[.int .i64 0,.int .i64 5])|none=>[.int .i64 0,.int .i64 7])else[.int .i64 0,.int .i64 2]
theorem Bk{p:Nat->Bool}{r:Nat}(h1:1<=r)(h2:r<=9)(hp:p r=true)(hb:∀k,r<k->k<=9->p k=false):tM.find? p=some r:=by
 have:r=1\/r=2\/r=3\/r=4\/r=5\/r=6\/r=7\/r=8\/r=9:=by omega
 unfold tM;rcases this with rfl|rfl|rfl|rfl|rfl|rfl|rfl|rfl|rfl
 all_goals (repeat rw[List.find?_cons]);simp[hp,hb]
theorem CG{p:Nat->Bool}(hb:∀k,0<k->k<=9->p k=false):tM.find? p=none:=by
 rw[aey];intro x hx
 have:0<x/\x<=9:=by simp[tM]at hx;omega
 rw[hb x this.1 this.2];simp
theorem Y3(hG:aw GI)(s:az)(hs:eZ s):AC prog GI 45 [a_ s] (.ret (.dN (rF s))):=by
 have lv:=oT hG s hs;have iL:=wg hG s hs
 rcases iI s with⟨hI,es,eG,ho⟩|⟨e,he,ho,vk⟩
 .rw[ho]at iL;have hg:=er hI
  have EE:rF s=(match tM.find? (tr s es)with|some r=>[.int .i64 (r:Nat),.int .i64 0]|none=>[.int .i64 0,.int .i64 5]):=by simp[rF,hI,eG]
  rw[EE];generalize aW s es=an at iL;refine bW hG func45 ntmps45 c45 ?_;simp[c45,a_,ao,ae];refine oc lv ?_;simp;refine oc iL ?_;simp[cD,aZ,ao,ae,bI];refine⟨λS H=>∃r:Nat,r<=9/\S 1=.box 1 0/\H 1=some (ao (sL s r))/\∀k,r<k->k<=9->tr s es k=false,λ_ H=>match H 1 with|some (_::_::_::.int _ r::_)=>r.toNat|_=>0,⟨9,?_⟩,?_⟩
  .simp[ao,ae,sL];intro k h1 h2;omega
  rintro S H ⟨r,hr,s1,h1,hb⟩
  by_cases h0:r=0
  .subst h0;rw[CG hb];simp[ao,ae,sL,s1,h1]
  have DZ:1<=r:=by omega
  have gf:0<r:=by omega
  have z7:=Hq hg DZ hr;have BF:=iW z7 (gz z7.name eG);have yP:=FP hG (sL s r) ⟨hs.cells,hs.name⟩ z7 (es:=es) eG;have zv:=FC hG (sL s r) z7 (aW (sL s r) es) BF
  cases hf:tr s es r with
  |true=>
   have yH:=hf;unfold tr at yH;rw[yH]at zv;rw[Bk DZ hr hf hb];simp[ao,ae,sL,s1,h1,gf];refine oc yP ?_;simp[cD,aZ,ao,ae];refine oc zv ?_;simp[ao,ae,sL,s1,h1]
  |false=>
   have yH:=hf;unfold tr at yH;rw[yH]at zv
   have hw:IntKind.i64.wrap ((r:Int)-1)=((r-1:Nat):Int):=by rw[aN (by omega)];omega
   simp[ao,ae,sL,s1,h1,gf];refine oc yP ?_;simp[cD,aZ,ao,ae];refine oc zv ?_;simp[ao,ae,sL,s1,h1,hw];refine⟨⟨r-1,by omega,rfl,λk q1 q2=>?_⟩,by omega⟩
   by_cases hk:k=r
   .rw[hk];exact hf
   .exact hb k (by omega) q2
 .rw[ho]at iL
  have vp:rF s=[.int .i64 0,.int .i64 e]:=by
   rcases p7 s e he ho with⟨h1,rfl⟩|⟨h1,h2,rfl⟩
   .simp[rF,h1]
   .simp[rF,h1,h2]
  rw[vp]
  have ky:(e !=0)=true:=by simpa using he
  refine bW hG func45 ntmps45 c45 ?_;simp[c45,a_,ao,ae];refine oc lv ?_;simp;refine oc iL ?_;simp[cD,aZ,ao,ae,zT,bI,he,ky]
theorem UW(hG:aw GI)(a b:End):AC prog GI 111 [aX a,aX b] (.ret (.bool (decide (b.2<a.2)))):=by
 refine bW hG func111 ntmps111 c111 ?_;simp[c111,aX]
def jo(x:End)(l:List End):End:=l.foldl (λo y=>if o.2<y.2 then y else o) x
theorem AG(x:End)(l:List End){i:Nat}(h:i<l.length):jo x (l.take (i+1))=if(jo x (l.take i)).2<l[i].2 then l[i]else jo x (l.take i):=by
 unfold jo;rw[afj,ac_ h,adL]
 rfl
theorem Ub(hG:aw GI)(x:End)(l:List End)(hl:l.length<1000000):AC prog GI 110 [.slice .view (aO (x::l)),.func (.func 111) [] []] (.ret (aX (jo x l))):=by
 obtain⟨iT,P5,PS⟩:=bp (P:=prog) (t:=138) (s:=2) (by kernel_rfl);obtain⟨fs,fE⟩:=cd (P:=prog) (t:=138) (by kernel_rfl);have cP:aJ 2 (aO (x::l))=true:=qj (x::l);refine bW hG func110 ntmps110 c110 ?_;refine aI (λS H=>S 0=.slice .view (aO (x::l))/\S 1=.func (.func 111) [] []/\S 4=.box 4 0/\H 4=some [.int .i64 0,.int .i64 0]) (by simp) ?_;rintro S H ⟨s0,s1,s4,h4⟩;refine aI (λS H=>S 0=.slice .view (aO (x::l))/\S 1=.func (.func 111) [] []/\S 4=.box 4 0/\H 4=some [.int .i64 0,.int .i64 0]/\S 5=.box 5 0/\H 5=some [.int .i64 x.1,.int .i64 x.2]) (by simp[s0,s1,s4,h4,aO,aX,bI]) ?_;clear s0 s1 s4 h4 S H;rintro S H ⟨s0,s1,s4,h4,s5,h5⟩
 have hd:(aO (x::l)).drop 1=aO l:=by simp[aO]
 have hlen:(aO (x::l)).length=l.length+1:=by simp[aO]
 have D2:(1:Int)<=(l.length:Int)+1:=by omega
 have lT:List.take (l.length+1) (aO (x::l))=aO (x::l):=adn (by omega);generalize aO (x::l)=L at s0 hd hlen lT cP
 have TW:((l.length:Int)+1).toNat=l.length+1:=by omega
 simp[bound,s0,s1,s4,h4,s5,h5,hd,hlen,D2,lT,cP,TW];refine bw 14 l.length (λi S H=>S 1=.func (.func 111) [] []/\S 4=.box 4 0/\H 4=some [.int .i64 0,.int .i64 0]/\S 5=.box 5 0/\H 5=some [.int .i64 (jo x (l.take i)).1,.int .i64 (jo x (l.take i)).2]/\S 12=.slice .view (aO l)/\S 13=.int .i64 l.length/\S 14=.int .i64 (i:Nat)) (λi S H h=>h.2.2.2.2.2.2.2) ⟨by simp[s1],by simp[s4],by simp[h4],by simp[s5],by simp[h5,jo],by simp,by simp[aO],by simp⟩ ?_;clear s0 s1 s4 h4 s5 h5 S H;rintro i hi S H ⟨s1,s4,h4,s5,h5,bU,cz,di⟩
 by_cases au:i<l.length
 .have hw:IntKind.i64.wrap ((i:Int)+1)=i+1:=aN (by omega)
  have hn:¬(i:Int)<0:=by omega
  have hs:=AG x l au;have Qy:=UW hG l[i] (jo x (l.take i))
  generalize jo x (l.take i)=o at*
  by_cases hc:o.2<l[i].2
  .rw[if_pos hc]at hs;rw[hs];simp[s1,s4,h4,s5,h5,bU,cz,di,au,hn,aO,aX,bI];refine oc Qy ?_;simp[s1,s4,h4,s5,h5,bU,cz,di,hc,hw,aO,aX]
  .rw[if_neg hc]at hs;rw[hs]
   have qi:l[i].2<=o.2:=by omega
   simp[s1,s4,h4,s5,h5,bU,cz,di,au,hn,aO,aX,bI];refine oc Qy ?_;simp[s1,s4,h4,s5,h5,bU,cz,di,hc,qi,hw,aO,aX]
 .have cH:i=l.length:=by omega
  subst cH;rw[aea]at h5;simp[s1,s4,h4,s5,h5,bU,cz,di,P5,PS,fE,eS,aX]
def cw(x:Nat×Nat):End:=((x.1:Int),(x.2:Int))
theorem tc:∀(l:List (Nat×Nat))(x:Nat×Nat),jo (cw x) (l.map cw)=cw (nH x l)
 |[],_=>rfl
 |y::l,x=>by
  have e1:jo (cw x) ((y::l).map cw)=jo (if(cw x).2<(cw y).2 then cw y else cw x) (l.map cw):=rfl;have e2:nH x (y::l)=nH (if x.2<y.2 then y else x) l:=rfl;rw[e1,e2,<-tc l]
  congr 1
  by_cases h:x.2<y.2
  .rw[if_pos h,if_pos (by show(x.2:Int)<(y.2:Int);omega)]
  .rw[if_neg h,if_neg (by show¬(x.2:Int)<(y.2:Int);omega)]
def oO(s:az)(a:Int):az:={ s with pos:=a }
theorem Ci{s:az}(h:eQ s){a:Nat}(h1:1<=a)(h2:a<=s.cells.length):eQ (oO s a):=⟨h.cells,h.tH,⟨by show(1:Int)<=(a:Int);omega,by show(a:Int)<=s.cells.length;omega⟩,h.reach,h.eH,h.dE,h.name⟩
def fO(s:az)(an:List Int)(a:Nat):Nat:=gC 0 (oO s (a:Int)) an
def tX(s:az)(an:List Int):Nat×Nat:=nH (1,fO s an 1) (fT (fO s an) 2 (s.cells.length-1))
def rl(s:az):List AV:=
 if cL s then(match fq s.name with|some es=>[.int .i64 ((tX s (aW s es)).1:Nat),.int .i64 ((tX s (aW s es)).2:Nat),.int .i64 0]|none=>[.int .i64 0,.int .i64 0,.int .i64 7])else[.int .i64 0,.int .i64 0,.int .i64 2]
theorem sC(f:Nat->Nat){m:Nat}(hm:1<=m):fT f 1 m=(1,f 1)::fT f 2 (m-1):=by
 obtain⟨k,rfl⟩:∃k,m=k+1:=⟨m-1,by omega⟩
 unfold fT
 rw[aeB]<;>rfl
theorem B'(f:Nat->Nat)(m:Nat):fT f 1 (m+1)=fT f 1 m++[(m+1,f (m+1))]:=by
 unfold fT;rw[ae2,adD];simp[Nat.add_comm]
theorem Z0(hG:aw GI)(s:az)(hs:eZ s):AC prog GI 52 [a_ s] (.ret (.dN (rl s))):=by
 have lv:=oT hG s hs;have iL:=wg hG s hs
 rcases iI s with⟨hI,es,eG,ho⟩|⟨e,he,ho,vk⟩
 .rw[ho]at iL;have hg:=er hI;have hc:=hg.cells
  have EE:rl s=[.int .i64 ((tX s (aW s es)).1:Nat),.int .i64 ((tX s (aW s es)).2:Nat),.int .i64 0]:=by simp[rl,hI,eG]
  rw[EE];have hn:=iW hg (gz hg.name eG);generalize aW s es=an at iL hn⊢;have HK:=B7 hG s (by omega) 0 (.inl rfl);have lD:=Ub hG (cw (1,fO s an 1)) ((fT (fO s an) 2 (s.cells.length-1)).map cw) (by simp[fT];omega);rw[tc]at lD
  have fQ:cw (1,fO s an 1)::(fT (fO s an) 2 (s.cells.length-1)).map cw=(fT (fO s an) 1 s.cells.length).map cw:=by
   rw[sC _ hc.1]<;>rfl
  rw[fQ]at lD;refine bW hG func52 ntmps52 c52 ?_;refine aI (λS H=>S 1=.box 1 0/\H 1=some (ao s)) (by simp[a_,ao,ae]) ?_;rintro S H ⟨s1,h1⟩;refine aI (λS H=>S 1=.box 1 0/\H 1=some (ao s)/\S 5=.box 5 0/\H 5=some (aZ s an)/\S 6=.int .i64 0) ?_ ?_
  .simp[s1,h1,ao,ae];refine oc lv ?_;simp;refine oc iL ?_;simp[s1,h1,cD,aZ,ao,ae,bI]
  clear s1 h1 S H;rintro S H ⟨s1,h1,s5,h5,s6⟩;refine aI (λS H=>S 1=.box 1 0/\H 1=some (ao s)/\S 5=.box 5 0/\H 5=some (aZ s an)) (by simp[s1,h1,s5,h5,s6]) ?_;clear s1 h1 s5 h5 s6 S H;rintro S H ⟨s1,h1,s5,h5⟩;refine aI (λS H=>S 1=.box 1 0/\H 1=some (ao s)/\S 5=.box 5 0/\H 5=some (aZ s an)/\S 7=.slice .nil []) (by simp[s1,h1,s5,h5]) ?_;clear s1 h1 s5 h5 S H;rintro S H ⟨s1,h1,s5,h5,s7⟩;refine aI (λS H=>S 7=grow 138 (aO ((fT (fO s an) 1 s.cells.length).map cw))) ?_ ?_
  .refine aI (λS H=>S 1=.box 1 0/\H 1=some (ao s)/\S 5=.box 5 0/\H 5=some (aZ s an)/\S 7=.slice .nil []/\S 8=.int .i64 1) (by simp[s1,h1,s5,h5,s7]) ?_;clear s1 h1 s5 h5 s7 S H;rintro S H ⟨s1,h1,s5,h5,s7,s8⟩;simp only[dF];refine⟨λS H=>∃i:Nat,i<=s.cells.length/\S 1=.box 1 0/\H 1=some (ao s)/\S 5=.box 5 0/\(∃p,H 5=some (aZ (oO s p) an))/\S 7=grow 138 (aO ((fT (fO s an) 1 i).map cw))/\S 8=.int .i64 ((i:Int)+1),λS _=>match S 8 with|.int _ r=>(13-r).toNat|_=>0,⟨0,adZ _,s1,h1,s5,⟨s.pos,h5⟩,by rw[s7]<;>rfl,s8⟩,?_⟩;clear s1 h1 s5 h5 s7 s8 S H;rintro S H ⟨i,hi,s1,h1,s5,⟨p,h5⟩,s7,s8⟩
   by_cases au:i<s.cells.length
   case neg=>
    have cH:i=s.cells.length:=by omega
    subst cH
    have hq:¬((s.cells.length:Int)+1<=s.cells.length):=by omega
    simp[s1,h1,s5,h5,s7,s8,hq,ao,ae]
   have hq:(i:Int)+1<=s.cells.length:=by omega
   have hw:IntKind.i64.wrap ((i:Int)+1+1)=(i:Int)+1+1:=aN (by omega);have A6:=tx hG (oO s ((i+1:Nat):Int)) (Ci hg (by omega) (by omega)) an hn 0
   have mL:aO ((fT (fO s an) 1 (i+1)).map cw)=aO ((fT (fO s an) 1 i).map cw)++[.agg [.int .i64 ((i:Int)+1),.int .i64 (fO s an (i+1):Nat)]]:=by
    rw[B',adD];unfold aO;rw[adD];simp[cw,aX]
   have hlen:(aO ((fT (fO s an) 1 i).map cw)).length=i:=by simp[aO,fT]
   have cP:=qj ((fT (fO s an) 1 i).map cw);have hfd:gC 0 (oO s ((i+1:Nat):Int)) an=fO s an (i+1):=rfl;rw[hfd]at A6;have k3:aJ 2 [AV.agg [.int .i64 ((i:Int)+1),.int .i64 (fO s an (i+1):Nat)]]=true:=rfl
   have pS:i+1<1048576:=by omega
   generalize aO ((fT (fO s an) 1 i).map cw)=L at s7 mL hlen cP;simp[s1,h1,s5,h5,s7,s8,hq,aZ,oO,ao,ae];refine oc HK ?_;simp[s1,h1,s5,h5,s7,s8,aZ,oO,ao,ae];refine oc A6 ?_;have fo:(AV.agg [.int .i64 ((i:Int)+1),.int .i64 (fO s an (i+1):Nat)]).storable=true:=rfl
   cases L with
   |nil=>
    have nL:grow 138 []=.slice .nil []:=rfl
    have Jr:i=0:=by simpa using hlen.symm
    subst Jr;simp[s1,h1,s5,h5,s8,nL,bI,aZ,oO,ao,ae,aJ];have gD:IntKind.i64.wrap 2=2:=aN (by omega);rw[gD];exact⟨⟨1,hc.1,rfl,by omega⟩,by omega⟩
   |cons y L=>
    have nL:grow 138 (y::L)=.slice (.own 138) (y::L):=rfl;simp[s1,h1,s5,h5,s8,nL,hw,hlen,pS,k3,cP,bI,aZ,oO,ao,ae];exact⟨⟨i+1,by omega,by rw[mL]<;>rfl,by omega⟩,by omega⟩
  .clear s1 h1 s5 h5 s7 S H;intro S H s7
   have kL:grow 138 (aO ((fT (fO s an) 1 s.cells.length).map cw))=.slice (.own 138) (aO ((fT (fO s an) 1 s.cells.length).map cw)):=by
    rw[sC _ hc.1]<;>rfl
   rw[kL]at s7;have hb:nH (1,fO s an 1) (fT (fO s an) 2 (s.cells.length-1))=tX s an:=rfl;rw[hb]at lD;generalize aO ((fT (fO s an) 1 s.cells.length).map cw)=L at s7 lD;generalize tX s an=q at lD⊢;simp[s7];refine oc lD ?_;simp[aX,cw,bI]
 .rw[ho]at iL
  have vp:rl s=[.int .i64 0,.int .i64 0,.int .i64 e]:=by
   rcases p7 s e he ho with⟨h1,rfl⟩|⟨h1,h2,rfl⟩
   .simp[rl,h1]
   .simp[rl,h1,h2]
  rw[vp]
  have ky:(e !=0)=true:=by simpa using he
  refine bW hG func52 ntmps52 c52 ?_;simp[c52,a_,ao,ae];refine oc lv ?_;simp;refine oc iL ?_;simp[cD,aZ,ao,ae,zT,bI,he,ky]
end Go.Proofs.Tryz
