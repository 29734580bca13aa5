/- A part of the proof. -/
import Derived.Test.YtdiflocclemeaaaGreatDoorSp1
set_option maxRecDepth 100000
set_option maxHeartbeats 8000000
set_option linter.all false
namespace Go.Proofs.Tryz
open Go Go.AL Go.RowKit Go.Proofs Go.Proofs.Tram
attribute [local simp] dP fu fb eu eL dV dW du dp eJ dq cU gG gD aG aD ev aQ.S aQ.H bG au aY AL.start AV.cells AV.storable AV.bZ bu bQ eF b0 HR.okB post cL dc db AV.out AV.bW cy dK fz gM AV.vw da vI int bO aO dE dj iJ jF eo dG bt AV.aH AV.cT
variable{GI:World->Prop}
def l_(k:Nat):Value:=.func (.func k) #[] #[]
def mA(e:Nat)(c:kf):Int:=if e=0 then c.lo else c.hi
def bo(e:Nat)(s:az):List Int:=s.cells.map (mA e)
def tF(e:Nat):Nat->Op->Op
 |2,_=>.fieldAddr 26 (.tmp 5) e
 |3,_=>.move (.func (157+e))
 |_,op=>op
def HI(s:az)(e i:Nat)(S:an)(H:aq):Prop:=
 S 1=.int .i64 (e:Nat)/\S 2=.box 2 0/\H 2=some (ar s)/\S 5=.box 5 0/\H 5=some [.val (l_ 157),.val (l_ 158)]/\S 6=grow 3 (ints ((bo e s).take i))/\S 11=.int .i64 s.cells.length/\S 12=.int .i64 (i:Nat)
noncomputable def Ec:af:=af.qb c98.qb.qb.qb.qa.qb.qb
def Vn(e:Nat):List bB:=[⟨some 15,none,.mv true (.t 6)⟩,⟨some 16,none,.mv false (.t 1)⟩,⟨some 17,none,.fieldAddr e (.t 5)⟩,⟨some 18,none,.mv false (.f (157+e))⟩,⟨some 19,none,.fieldAddr 0 (.t 2)⟩,
 ⟨some 20,none,.load (.box 2) false 1 (.t 19)⟩,⟨some 21,none,.mv false (.t 7)⟩,⟨some 22,none,.indexAddr 3 (.t 20) (.t 21)⟩,⟨some 23,none,.load .ref true 3 (.t 22)⟩,⟨some 24,none,.fc (.t 18) [.t 23]⟩,
 ⟨some 25,none,.buildSlice 23 3 1 [.t 24]⟩,⟨some 26,none,.append 23 3 1 8 (.t 15) (.t 25)⟩,⟨some 6,none,.mv true (.t 26)⟩]
def FK{Pr:Nat->Nat->Prop}{al:Nat->Option Nat}{w:World}{f1 f2:Nat}{c:Value}(h:RV Pr al w (.f_ [.func (.func f1) [] [],.func (.func f2) [] []]) c):c=.agg #[l_ f1,l_ f2]:=by
 have one:∀{f:Nat}{c:Value},RV Pr al w (.func (.func f) [] []) c->c=l_ f:=by
  intro f c h
  cases h with
  |data _ _ h=>cases h
  |func _ _ _ vs us h1 h2 r1 r2=>
   have:vs=#[]:=ad6 (by simpa using h1.symm);subst this;have:us=#[]:=ad6 (by simpa using h2.symm);subst this
   rfl
 cases h with
 |data _ _ h=>cases h
 |f_ _ vs hl hr=>
  have hs:vs.size=2:=by rw[<-hl];rfl
  have e1:=one (hr 0 (by simp) (by omega));have e2:=one (hr 1 (by simp) (by omega))
  congr 1
  apply aea
  .simpa using hs
  .intro i h1 h2
   match i,h2 with
   |0,_=>exact e1
   |1,_=>exact e2
def Fw {rest:List bB} {K:an→aq→Prop} {S:an} {H:aq} {d j k:Nat} {args:List cz} {v:AV} (hj:S j = .func (.func k) [] []) (hk:ef prog k=true) (hb:(args.map (ev S)).any da=false)
  (YX:AC prog GI k ((args.map (ev S)).map (fz H)) (.ret v)) (h:cq prog GI rest K (au S d v) H):cq prog GI (⟨some d,none,.fc (.t j) args⟩::rest) K S H:=by
 have e:ev S (.t j)=.func (.func k) [] []:=hj;show jf prog GI (.fc (.t j) args) (some d) (cq prog GI rest K) S H;simp only[jf,bh,e];refine⟨by simpa using hb,.ret v,hk,by simpa using YX,λhh=>?_,h⟩;simp only[List.nil_append,adn]at hh;rw[hb]at hh;cases hh
def Jr {K:an→aq→Prop} {S:an} {H:aq} {l:List Int} {x:Int} (vO:S 15=grow 3 (ints l)) (N2:S 24 = .int .i64 x) (hn:l.length+1 < 1048576)
  (h:∀S',S' 6=grow 3 (ints (l++[x]))->(∀k,k∉[6,15,25,26]->S' k=S k)->K S' H):cq prog GI [⟨some 25,none,.buildSlice 23 3 1 [.t 24]⟩,⟨some 26,none,.append 23 3 1 8 (.t 15) (.t 25)⟩,⟨some 6,none,.mv true (.t 26)⟩] K S H:=by
 have hb:aD S H (.buildSlice 23 3 1 [.t 24])=some { v:=.slice (.own 3) [.int .i64 x] }:=by simp[aD,ev,N2,aJ,AV.storable,AV.cells,AV.vw,AV.cT]
 show jf prog GI (.buildSlice 23 3 1 [.t 24]) (some 25) (cq prog GI _ K) S H;simp only[jf,bh,hb];refine oB (e:=3) (ints l) (.int .i64 x) (.own 3) (by simp[aQ.S,aY,au,vO]) (by simp[aQ.S,aY,au]) rfl (mw _) (by simpa[ints]using hn) ?_;intro S' d1 d2
 have ky:ints l++[.int .i64 x]=ints (l++[x]):=by simp[ints]
 rw[ky]at d1
 have hm:∃dm,(dm=none\/dm=some 26)/\aD S' H (.mv true (.t 26))=some { v:=grow 3 (ints (l++[x])),dm:=dm }:=by
  refine⟨some 26,.inr rfl,?_⟩;simp only[aD,ev,d1]
  rfl
 obtain⟨dm,FZ,hm⟩:=hm;obtain⟨k1,k2⟩:=tI (S:=S') (d:=6) FZ (grow 3 (ints (l++[x])));show jf prog GI (.mv true (.t 26)) (some 6) (cq prog GI [] K) S' H;simp only[jf,bh,hm]
 refine h _ k1 λk hk=>?_
 simp only[adl,List.not_mem_nil,or_false,not_or]at hk;rw[k2 k hk.1 hk.2.2.2,d2 k hk.2.2.2 hk.2.1];simp[aQ.S,aY,au,hk.2.2.1]
structure TG(e b2 b5:Nat)(l:Array Bool)(a:Act)(w:World):Prop where
 size:a.tmps.size=29
 t1:a.tmps.getD 1 undef=.int .i64 (e:Nat)
 t2:a.tmps.getD 2 undef=.pointer (some ⟨b2,0,none⟩)
 t5:a.tmps.getD 5 undef=.pointer (some ⟨b5,0,none⟩)
 t16:l.getD 1 false=true->a.tmps.getD 16 undef=.int .i64 (e:Nat)
 t17:l.getD 2 false=true->a.tmps.getD 17 undef=.pointer (some ⟨b5,e,none⟩)
 heap:∃ty,w.heap[b5]?=some (.cells #[l_ 157,l_ 158] ty (0,0))
 c9:l.getD 9 false=true->l.getD 3 false=true
 c10:l.getD 10 false=true->l.getD 9 false=true
 c11:l.getD 11 false=true->l.getD 10 false=true
 c3:l.getD 3 false=true->l.getD 2 false=true
def J39(e b2 b5:Nat)(l:Array Bool)(a:Act)(w:World):Prop:=(l.getD 2 false=true/\l.getD 3 false=true)\/TG e b2 b5 l a w
def pd{l:Array Bool}{i:Nat}(h:i<l.size):(l.setIfInBounds i true).getD i false=true:=by
 simp[acG,h]
def eH{l:Array Bool}{i j:Nat}(h:i≠j):(l.setIfInBounds i true).getD j false=l.getD j false:=by
 simp[acG,acB h]
def TG.put {e b2 b5:Nat} {l:Array Bool} {a:Act} {w:World} (h:TG e b2 b5 l a w) (i t:Nat) (v:Value) (ht:t≠1∧t≠2∧t≠5) (hl:l.size=13) (hi:i < 9) (h3:i≠3) (h1:i=1→t=16∧v = .int .i64 (e:Nat)) (h2:i=2→t=17∧v = .pointer (some ⟨b5,e,none⟩)) (ho:i≠1→t≠16) (NS:i≠2→t≠17) (GU:t < 29) :
  TG e b2 b5 (l.setIfInBounds i true) (a.put (some t) v) w:=by
 have eY:∀k,k≠t->(a.put (some t) v).tmps.getD k undef=a.tmps.getD k undef:=λk hk=>by
  simp[Act.put,acB (adi hk)]
 have jy:(a.put (some t) v).tmps.getD t undef=v:=by simp[Act.put,h.size,GU]
 refine⟨by simp[Act.put,h.size],by rw[eY 1 (adi ht.1)];exact h.t1,by rw[eY 2 (adi ht.2.1)];exact h.t2,by rw[eY 5 (adi ht.2.2)];exact h.t5,?_,?_,h.heap,?_,?_,?_,?_⟩
 .by_cases Hw:i=1
  .obtain⟨rfl,rfl⟩:=h1 Hw
   exact λ_=>jy
  .rw[eH Hw,eY 16 (adi (ho Hw))];exact h.t16
 .by_cases oA:i=2
  .obtain⟨rfl,rfl⟩:=h2 oA
   exact λ_=>jy
  .rw[eH oA,eY 17 (adi (NS oA))];exact h.t17
 .rw[eH (by omega),eH h3];exact h.c9
 .rw[eH (by omega),eH (by omega)];exact h.c10
 .rw[eH (by omega),eH (by omega)];exact h.c11
 .rw[eH h3]
  by_cases oA:i=2
  .subst oA;exact λ_=>pd (by omega)
  .rw[eH oA];exact h.c3
def aaa(hG:aw GI)(e:Nat)(he:e=0\/e=1)(x:kf):AC prog GI (157+e) [fo x] (.ret (.int .i64 (mA e x))):=by
 rcases he with rfl|rfl
 .exact Y6 hG x
 .exact XG hG x
noncomputable def M8:Code:=f98.body.getD .skip
def T1:Code->Code
 |.seq _ y=>y
 |c=>c
def VK (hG:aw GI) (s:az) (hs:s.cells.length < 1000) (e:Nat) (he:e=0∨e=1) (cc:Nat→Nat→Prop) (w:World) {Q:ij}
  (BN:∀S H,S 6=grow 3 (ints (bo e s))->SW prog GI 29 none (T1 (T1 (T1 (T1 M8)))) Q (Old.plain cc w) S H):SW prog GI 29 none M8 Q (Old.plain cc w) (AL.start [bn s,.int .i64 (e:Nat)]) (λ_=>none):=by
 show SW prog GI 29 none (.seq _ (.seq _ (.seq _ (.seq _ _)))) _ _ _ _;refine eV hG c98.qa (λS' H'=>S' 1=.int .i64 (e:Nat)/\S' 2=.box 2 0/\H' 2=some (ar s)) ?_ ?_
 .simp[c98,af.qa,bn,ar,ae]
 rintro S1 H1 ⟨s1,s2,h2⟩
 refine SW.seq (SW.hand hG (p:=1) (lm:=[1,2]) (l2:=[]) (js:=[_]) (oh:=[_,_]) (lv:=[]) rfl rfl rfl rfl (by kernel_rfl) (λ_ h=>h)
  (lO:=(c98.qb.qa.dl).take 1) (lu:=[]) (by kernel_rfl) rfl (by kernel_rfl) rfl
  (K1:=λS H=>S 1=.int .i64 (e:Nat)/\S 2=.box 2 0/\H 2=some (ar s)/\S 8=.f_ [.func (.func 157) [] [],.func (.func 158) [] []])
  (K2:=λo S H=>o=Old.plain cc w/\S 1=.int .i64 (e:Nat)/\S 2=.box 2 0/\H 2=some (ar s)/\S 5=.box 5 0/\H 5=some [.val (l_ 157),.val (l_ 158)])
  (K3:=λo S H=>o=Old.plain cc w/\S 1=.int .i64 (e:Nat)/\S 2=.box 2 0/\H 2=some (ar s)/\S 5=.box 5 0/\H 5=some [.val (l_ 157),.val (l_ 158)]) ?_ ?_ ?_ ?_)
 .simp[c98,af.qa,af.qb,af.dl,s1,s2,h2,zy]
 .rintro w0 g S2 H2 a w' m cj ho R ⟨s1,s2,h2,s8⟩;have bg:=R.size
  have e8:a.tmps.getD 8 undef=.agg #[l_ 157,l_ 158]:=by
   have:=R.slot 8 (by decide) id;rw[s8]at this;exact FK this
  have eY:∀(a:Act)(d t:Nat)(c:Value),t≠d->(a.put (some d) c).tmps.getD t undef=a.tmps.getD t undef:=λa d t c h=>by
   simp[Act.put,acB (adi h)]
  have jy:∀(a:Act)(d:Nat)(c:Value),a.tmps.size=29->d<29->(a.put (some d) c).tmps.getD d undef=c:=λa d c h hd=>by
   simp[Act.put,h,hd]
  obtain⟨it,hi,hz⟩:=adZ.1 (show(prog.info? 189).bind (·.zero)=some (.agg #[.nilFunc,.nilFunc]) by kernel_rfl)
  have his:it.size=2:=by
   have:(prog.info? 189).map (·.size)=some 2:=by kernel_rfl
   rw[hi]at this;exact acX this
  refine aV rfl rfl (by rfl) (It (t:=189) rfl hi hz) ?_
  obtain⟨g4,q1,q2,q3,q4,q5,R4⟩:=R.Up 5 (by decide) (by rw[ho];exact λh=>h) [.val .nilFunc,.val .nilFunc] #[.nilFunc,.nilFunc] 189 ⟨rfl,λj h h'=>by
   match j,h with
   |0,_|1,_=>exact .val _ rfl,λj h=>by
   match j,h with
   |0,_|1,_=>rfl⟩ (λg' j h h'=>by
   match j,h with
   |0,_|1,_=>exact⟨trivial,trivial⟩)
  obtain⟨b,hb⟩:∃b,w'.heap.size=b:=⟨_,rfl⟩
  obtain⟨w4,lS⟩:∃w4,w'.alloc (.cells #[.nilFunc,.nilFunc] 189)=w4:=⟨_,rfl⟩
  have VH:w4.heap[b]?=some (.cells #[.nilFunc,.nilFunc] 189 (0,0)):=by rw[<-lS,<-hb];exact adv w' _
  rw[hb]at R4 q5
  obtain⟨a4,lx⟩:∃a4,a.put (some 5) (.pointer (some ⟨b,0,none⟩))=a4:=⟨_,rfl⟩
  show wpOpsIn _ _ _ _ _ [2] (a.put (some 5) (.pointer (some ⟨w'.heap.size,0,none⟩))) (w'.alloc (.cells #[.nilFunc,.nilFunc] 189));rw[hb,lS,lx];rw[lS,lx]at R4
  have g8:a4.tmps.getD 8 undef=.agg #[l_ 157,l_ 158]:=by rw[<-lx,eY _ _ _ _ (by decide)];exact e8
  have g5:a4.tmps.getD 5 undef=.pointer (some ⟨b,0,none⟩):=by rw[<-lx];exact jy _ _ _ bg (by decide)
  refine dU rfl rfl (by rfl) (CY (t:=189) (x:=.tmp 5) (y:=.tmp 8) rfl g5 hi VH g8 (by rw[his];rfl) (by rw[his];rfl) (by intro u hu;simp[Value.cells]at hu;rcases hu with rfl|rfl<;>rfl)) ?_;show HQ prog w0 29 _ .normal a4 (w4.setRow b #[l_ 157,l_ 158])
  have R5:=R4.FU 5 b q5 _ #[l_ 157,l_ 158] 189 VH [.val (l_ 157),.val (l_ 158)] rfl (λj h h'=>by
   match j,h with
   |0,_|1,_=>exact .val _ rfl) (λj h h'=>by
   match j,h with
   |0,_|1,_=>trivial) (λj h=>by
   match j,h with
   |0,_|1,_=>rfl)
  exact⟨g4,_,_,R5,by rw[q2,ho],by simp[au,s1,bQ],by simp[au,s2,bQ],by simp[au,h2],by simp[au],by simp[au]⟩
 .rintro o S2 H2 h;exact⟨λd hd=>by rw[h.1]at hd;exact hd,h⟩
 rintro o S2 H2 ⟨rfl,s1,s2,h2,s5,h5⟩;show SW prog GI 29 none (.seq _ (.seq (.seq _ (.block 0 (.loop _))) (.seq _ .ret))) _ _ _ _;refine eV hG c98.qb.qb.qa (λS H=>S 1=.int .i64 (e:Nat)/\S 2=.box 2 0/\H 2=some (ar s)/\S 5=.box 5 0/\H 5=some [.val (l_ 157),.val (l_ 158)]/\S 6=.slice .nil []) ?_ ?_
 .simp[c98,af.qa,af.qb,s1,s2,h2,s5,h5,grow]
 clear s1 s2 h2 s5 h5 S2 H2;rintro S2 H2 ⟨s1,s2,h2,s5,h5,s6⟩;refine SW.seq (eV hG c98.qb.qb.qb.qa.qa (HI s e 0) ?_ ?_)
 .simp[c98,af.qa,af.qb,ar,ae,s1,s2,h2,s5,h5,s6,HI,grow];exact⟨rfl,rfl⟩
 clear s1 s2 h2 s5 h5 s6 S2 H2;intro S3 H3 hF;refine SW.block (SW.loop (λo S' H'=>∃i,o=Old.plain cc w/\i<=s.cells.length/\HI s e i S' H') (λS' _=>match S' 12 with|.int _ j=>s.cells.length-j.toNat|_=>0) ⟨0,rfl,adr _,hF⟩ ?_);rintro o S4 H4 ⟨i,rfl,hi,hF⟩;have m12:S4 12=.int .i64 (i:Nat):=hF.2.2.2.2.2.2.2;show SW prog GI 29 none (.seq _ (.seq (.cond _ _ _) (.seq (.block 1 (.seq _ _)) _))) _ _ _ _;refine eV hG Ec.qa (λS' H'=>S' 13=.bool (decide (i<s.cells.length))/\HI s e i S' H') ?_ ?_
 .obtain⟨s1,s2,h2,s5,h5,s6,ck,cJ⟩:=hF;simp[c98,Ec,af.qa,af.qb,HI,s1,s2,h2,s5,h5,s6,ck,cJ]
 rintro S5 H5 ⟨dw,hF⟩
 by_cases av:i<s.cells.length
 case neg=>
  have cN:i=s.cells.length:=by omega
  refine SW.seq (SW.cond rfl false (by show S5 13=_;rw[dw];simp[av]) (SW.exit ?_));subst cN;obtain⟨s1,s2,h2,s5,h5,s6,ck,cJ⟩:=hF;have el:(bo e s).take s.cells.length=bo e s:=acQ (by simp[bo]);rw[el]at s6;exact BN S5 H5 s6
 case pos=>
  refine SW.seq (SW.cond rfl true (by show S5 13=_;rw[dw];simp[av]) (SW.skip ?_));show SW prog GI 29 none (.seq (.block 1 (.seq _ _)) _) _ _ _ _;refine SW.seq (SW.block (eV hG Ec.qb.qb.qa.qb.qa (λS' H'=>S' 7=.int .i64 (i:Nat)/\HI s e i S' H') ?_ ?_))
  .obtain⟨s1,s2,h2,s5,h5,s6,ck,cJ⟩:=hF;simp[c98,Ec,af.qa,af.qb,HI,s1,s2,h2,s5,h5,s6,ck,cJ]
  clear dw hF;rintro S6 H6 ⟨s7,hF⟩;have hx:=aaa hG e he s.cells[i]
  have Ok:(bo e s).take (i+1)=(bo e s).take i++[mA e s.cells[i]]:=by
   rw[afq,acx (by simpa[bo]using av)];simp[bo]
  refine SW.mono (Q:=λx o S H=>x=.normal/\o=Old.plain cc w/\S 1=.int .i64 (e:Nat)/\S 2=.box 2 0/\H 2=some (ar s)/\S 5=.box 5 0/\H 5=some [.val (l_ 157),.val (l_ 158)]/\S 6=grow 3 (ints ((bo e s).take (i+1)))/\S 11=.int .i64 s.cells.length/\S 12=.int .i64 (i:Nat)) ?_ (SW.Wm hG dO (ops':=vK (tF e) _) (Gq _ (by kernel_rfl)) ?_ ?_ (l:=Vn e) ?_ ?_ ?_)
  .rintro x o S7 H7 ⟨rfl,rfl,s1,s2,h2,s5,h5,s6,ck,cJ⟩;show SW prog GI 29 none _ _ _ _ _;have hw:IntKind.i64.wrap ((i:Int)+1)=i+1:=aP (by omega);refine SW.pF hG dO (by kernel_rfl) (λ_ _ h=>h) (ac:=af.qb Ec.qb.qb) (by kernel_rfl) ?_
   have m12:S4 12=.int .i64 (i:Nat):=by assumption
   simp[c98,Ec,af.qa,af.qb,HI,thenS,ij.bL,s1,s2,h2,s5,h5,s6,ck,cJ,hw];refine⟨⟨i+1,by omega,rfl,by simp⟩,?_⟩;rw[m12];simp;omega
  .rcases he with rfl|rfl<;>kernel_rfl
  .rcases he with rfl|rfl<;>kernel_rfl
  .rcases he with rfl|rfl<;>kernel_rfl
  .intro w0 g a w' nx R;obtain⟨s1,s2,h2,s5,h5,s6,ck,cJ⟩:=hF;obtain⟨b2,lu,e2⟩:=lY R (by decide) s2;obtain⟨b5,Y_,e5⟩:=lY R (by decide) s5;obtain⟨cs,vs,ty5,k0,k1,k2,k3,k4,k5,k6,k7,k8⟩:=R.box 5 b5 Y_;rw[h5]at k0;cases k0
   have eD:vs.size=2:=by rw[<-k5];rfl
   have n_:vs=#[l_ 157,l_ 158]:=by
    have c0:=k6 0 (by simp) (by omega);have c1:=k6 1 (by simp) (by omega);simp only[List.getElem_cons_zero,List.getElem_cons_succ]at c0 c1;apply aea
    .simpa using eD
    .intro j h1 h2
     match j,h2 with
     |0,_=>exact(RV.data (al:=cD) _ _ c0).fY
     |1,_=>exact(RV.data (al:=cD) _ _ c1).fY
   subst n_;refine⟨J39 e b2 b5,.inr ⟨R.size,tG R (by decide) s1,e2,e5,by simp,by simp,⟨ty5,k2⟩,by simp,by simp,by simp,by simp⟩,?_⟩;intro i o o' l a w jL nX hl ep hJ e_;have hl:l.size=13:=hl;rw[zp,jL]at nX;simp only[Option.map_some,ac0]at nX
   have flip:∀j,j<13->l.getD j true=l.getD j false:=λj hj=>by simp[acG,hl,hj]
   have mono:∀j,l.getD j false=true->(l.setIfInBounds i true).getD j false=true:=λj hj=>by
    by_cases py:i=j
    .subst py;exact pd (by
      rw[hl]
      exact(acz.1 jL).1)
    .rw[eH py];exact hj
   rcases hJ with⟨h2,h3⟩|hI
   .have n2:i≠2:=by rintro rfl;rw[flip 2 (by omega),h2]at ep;cases ep
    have n3:i≠3:=by rintro rfl;rw[flip 3 (by omega),h3]at ep;cases ep
    refine⟨?_,.inl λa' w'=>.inl ⟨mono 2 h2,mono 3 h3⟩⟩;subst nX
    have:tF e i o.op=o.op:=by unfold tF;split<;>first|omega|rfl
    rw[this]
   .have j3:∀ j,(o.after.any fun ed=>Region.binds .any ed && ed.on==j)=true→l.getD j false=true:=fun j hj=>by
     obtain⟨ed,Xq,xq⟩:=afi.1 hj;simp only[acA,ac7]at xq;have:=e_ ed Xq xq.1;rwa [xq.2]at this
    have done:l.getD 3 false=true->J39 e b2 b5 (l.setIfInBounds i true)=λ_ _=>True:=λh3=>by
     funext a' w'
     exact eq_true (.inl ⟨mono 2 (hI.c3 h3),mono 3 h3⟩)
    match i,jL with
    |0,jL=>
     have e0:=acX (jL.symm.trans (rfl:_=some _));subst nX
     have de:o.op=.move (.tmp 6):=by rw[e0];rfl
     have hd:o.dst=some 15:=by rw[e0];rfl
     refine⟨rfl,.inr λx w' hr=>?_⟩;have jd:(execOp a.eval o).run prog w=.ok x w':=hr;obtain⟨rfl,v,rfl⟩:=pN (by rw[de]) jd;rw[hd];exact⟨v,rfl,.inr (hI.put 0 15 v (by decide) hl (by decide) (by decide) (λh=>absurd h (by decide)) (λh=>absurd h (by decide)) (by decide) (by decide) (by decide))⟩
    |1,jL=>
     have e0:=acX (jL.symm.trans (rfl:_=some _));subst nX
     have de:o.op=.move (.tmp 1):=by rw[e0];rfl
     have hd:o.dst=some 16:=by rw[e0];rfl
     refine⟨rfl,.inr λx w' hr=>?_⟩;have jd:(execOp a.eval o).run prog w=.ok x w':=hr;have Gv:a.eval (.tmp 1)=.int .i64 (e:Nat):=hI.t1;rw[run_move (x:=.tmp 1) w de,Gv]at jd;cases jd;rw[hd];exact⟨_,rfl,.inr (hI.put 1 16 _ (by decide) hl (by decide) (by decide) (λ_=>⟨rfl,rfl⟩) (λh=>absurd h (by decide)) (by decide) (by decide) (by decide))⟩
    |2,jL=>
     have e0:=acX (jL.symm.trans (rfl:_=some _));subst nX
     have de:o.op=.indexAddr 189 (.tmp 5) (.tmp 16):=by rw[e0];rfl
     have hd:o.dst=some 17:=by rw[e0];rfl
     have tY:a.eval (.tmp 16)=.int .i64 (e:Nat):=hI.t16 (j3 1 (by rw[e0];kernel_rfl));have WL:a.eval (.tmp 5)=.pointer (some ⟨b5,0,none⟩):=hI.t5
     have xq:e<2:=by omega
     have abc:prog.underlying 189=some (.array 2 186):=by kernel_rfl
     obtain⟨i176,X5,Wo⟩:=iZ 186 1
     have r1:(execOp a.eval o).run prog w=.ok (.value (.pointer (some ⟨b5,e,none⟩))) w:=by
      have:=Ae (P:=prog) (w:=w) (o:=o) de abc X5 WL tY xq;rw[Wo,adY,ac_]at this;exact this
     have r2:(execOp a.eval { o with op:=tF e 2 o.op }).run prog w=.ok (.value (.pointer (some ⟨b5,e,none⟩))) w:=by
      have hc:AB prog 26 e=some (e,1):=by rcases he with rfl|rfl<;>kernel_rfl
      have:=nI (P:=prog) (w:=w) (a:=a) (o:={ o with op:=tF e 2 o.op }) hc (by decide) rfl WL;rw[ac_]at this;exact this
     refine⟨r1.trans r2.symm,.inr λx w' hr=>?_⟩;have jd:(execOp a.eval o).run prog w=.ok x w':=hr;rw[r1]at jd;cases jd;rw[hd];exact⟨_,rfl,.inr (hI.put 2 17 _ (by decide) hl (by decide) (by decide) (λh=>absurd h (by decide)) (λ_=>⟨rfl,rfl⟩) (by decide) (by decide) (by decide))⟩
    |3,jL=>
     have e0:=acX (jL.symm.trans (rfl:_=some _));subst nX
     have de:o.op=.load 186 (.tmp 17):=by rw[e0];rfl
     have hd:o.dst=some 18:=by rw[e0];rfl
     have pz:l.getD 2 false=true:=j3 2 (by rw[e0];kernel_rfl);have h17:a.eval (.tmp 17)=.pointer (some ⟨b5,e,none⟩):=hI.t17 pz;obtain⟨ty,mH⟩:=hI.heap;obtain⟨d,B_,dF⟩:=vZ 186
     have r1:(execOp a.eval o).run prog w=.ok (.value (l_ (157+e))) w:=
      jn (P:=prog) (o:=o) de h17 B_ dF mH (by rcases he with rfl|rfl<;>rfl)
     have r2:(execOp a.eval { o with op:=tF e 3 o.op }).run prog w=.ok (.value (l_ (157+e))) w:=
      run_move (x:=.func (157+e)) w rfl
     refine⟨r1.trans r2.symm,.inl λa' w'=>.inl ⟨mono 2 pz,?_⟩⟩;exact pd (by omega)
    |4,jL=>
     have e0:=acX (jL.symm.trans (rfl:_=some _));subst nX
     have de:o.op=.fieldAddr 31 (.tmp 2) 0:=by rw[e0];rfl
     have hd:o.dst=some 19:=by rw[e0];rfl
     have B3:a.eval (.tmp 2)=.pointer (some ⟨b2,0,none⟩):=hI.t2;have r1:(execOp a.eval o).run prog w=.ok (.value (.pointer (some ⟨b2,0+0,none⟩))) w:=nI (P:=prog) (w:=w) (a:=a) (o:=o) (show AB prog 31 0=some (0,1) by kernel_rfl) (by decide) de B3;refine⟨rfl,.inr λx w' hr=>?_⟩;have jd:(execOp a.eval o).run prog w=.ok x w':=hr;rw[r1]at jd;cases jd;rw[hd];exact⟨_,rfl,.inr (hI.put 4 19 _ (by decide) hl (by decide) (by decide) (λh=>absurd h (by decide)) (λh=>absurd h (by decide)) (by decide) (by decide) (by decide))⟩
    |5,jL=>
     have e0:=acX (jL.symm.trans (rfl:_=some _));subst nX
     have de:o.op=.load 22 (.tmp 19):=by rw[e0];rfl
     have hd:o.dst=some 20:=by rw[e0];rfl
     refine⟨rfl,.inr λx w' hr=>?_⟩;have jd:(execOp a.eval o).run prog w=.ok x w':=hr;obtain⟨rfl,v,rfl⟩:=pN (by rw[de]) jd;rw[hd];exact⟨v,rfl,.inr (hI.put 5 20 v (by decide) hl (by decide) (by decide) (λh=>absurd h (by decide)) (λh=>absurd h (by decide)) (by decide) (by decide) (by decide))⟩
    |6,jL=>
     have e0:=acX (jL.symm.trans (rfl:_=some _));subst nX
     have de:o.op=.move (.tmp 7):=by rw[e0];rfl
     have hd:o.dst=some 21:=by rw[e0];rfl
     refine⟨rfl,.inr λx w' hr=>?_⟩;have jd:(execOp a.eval o).run prog w=.ok x w':=hr;obtain⟨rfl,v,rfl⟩:=pN (by rw[de]) jd;rw[hd];exact⟨v,rfl,.inr (hI.put 6 21 v (by decide) hl (by decide) (by decide) (λh=>absurd h (by decide)) (λh=>absurd h (by decide)) (by decide) (by decide) (by decide))⟩
    |7,jL=>
     have e0:=acX (jL.symm.trans (rfl:_=some _));subst nX
     have de:o.op=.indexAddr 22 (.tmp 20) (.tmp 21):=by rw[e0];rfl
     have hd:o.dst=some 22:=by rw[e0];rfl
     refine⟨rfl,.inr λx w' hr=>?_⟩;have jd:(execOp a.eval o).run prog w=.ok x w':=hr;obtain⟨rfl,v,rfl⟩:=pN (by rw[de]) jd;rw[hd];exact⟨v,rfl,.inr (hI.put 7 22 v (by decide) hl (by decide) (by decide) (λh=>absurd h (by decide)) (λh=>absurd h (by decide)) (by decide) (by decide) (by decide))⟩
    |8,jL=>
     have e0:=acX (jL.symm.trans (rfl:_=some _));subst nX
     have de:o.op=.load 52 (.tmp 22):=by rw[e0];rfl
     have hd:o.dst=some 23:=by rw[e0];rfl
     refine⟨rfl,.inr λx w' hr=>?_⟩;have jd:(execOp a.eval o).run prog w=.ok x w':=hr;obtain⟨rfl,v,rfl⟩:=pN (by rw[de]) jd;rw[hd];exact⟨v,rfl,.inr (hI.put 8 23 v (by decide) hl (by decide) (by decide) (λh=>absurd h (by decide)) (λh=>absurd h (by decide)) (by decide) (by decide) (by decide))⟩
    |9,jL=>
     have e0:=acX (jL.symm.trans (rfl:_=some _));subst nX;exact⟨rfl,.inl λa' w'=>by rw[done (j3 3 (by rw[e0];kernel_rfl))];trivial⟩
    |10,jL=>
     have e0:=acX (jL.symm.trans (rfl:_=some _));subst nX;exact⟨rfl,.inl λa' w'=>by rw[done (hI.c9 (j3 9 (by rw[e0];kernel_rfl)))];trivial⟩
    |11,jL=>
     have e0:=acX (jL.symm.trans (rfl:_=some _));subst nX;exact⟨rfl,.inl λa' w'=>by rw[done (hI.c9 (hI.c10 (j3 10 (by rw[e0];kernel_rfl))))];trivial⟩
    |12,jL=>
     have e0:=acX (jL.symm.trans (rfl:_=some _));subst nX;exact⟨rfl,.inl λa' w'=>by rw[done (hI.c9 (hI.c10 (hI.c11 (j3 11 (by rw[e0];kernel_rfl)))))];trivial⟩
    |k+13,jL=>exact absurd jL (by simp)
  .obtain⟨s1,s2,h2,s5,h5,s6,ck,cJ⟩:=hF;simp only[Vn];simp[s1,s2,h2,s5,h5,s7,ck,cJ,ar,ae,av,fo];refine Fw (k:=157+e) (v:=.int .i64 (mA e s.cells[i])) (by simp[au]) (by rcases he with rfl|rfl<;>kernel_rfl) (by simp[ev,au,da]) (by simpa[ev,au,fz,gM,fo,AV.vw,AV.cT]using hx) ?_;refine Jr (l:=(bo e s).take i) (x:=mA e s.cells[i]) (by simp only[aN _ _ (show(15:Nat)≠24 by decide),aN _ _ (show(15:Nat)≠23 by decide),aN _ _ (show(15:Nat)≠22 by decide),aN _ _ (show(15:Nat)≠21 by decide),aN _ _ (show(15:Nat)≠20 by decide),aN _ _ (show(15:Nat)≠19 by decide),aN _ _ (show(15:Nat)≠18 by decide),aN _ _ (show(15:Nat)≠17 by decide),aN _ _ (show(15:Nat)≠16 by decide),aK];exact s6) (aK _ _ _) (by simp;omega) ?_;intro S' d1 d2;rw[Ok];refine⟨?_,?_,?_,?_,h5,d1,?_,?_⟩
   .rw[d2 1 (by decide)];simp[au,s1]
   .rw[d2 2 (by decide)];simp[au,s2]
   .rw[h2];rfl
   .rw[d2 5 (by decide)];simp[au,s5]
   .rw[d2 11 (by decide)];simp[au,ck]
   .rw[d2 12 (by decide)];simp[au,cJ]
def IS(hG:aw GI)(s:az)(hs:s.cells.length<1000)(e:Nat)(he:e=0\/e=1):AC prog GI 98 [bn s,.int .i64 (e:Nat)] (.ret (vI (bo e s))):=by
 refine AC.gW (o:=if bo e s=[]then .nil else .view) ?_
 refine AC.jw func98 rfl ntmps98 (by simp) λcc w=>VK hG s hs e he cc w λS5 H5 s6=>?_
 show SW prog GI 29 none (.seq _ .ret) _ _ _ _;refine SW.pF hG dO (by kernel_rfl) (λ_ _ h=>h) (ac:=af.qb c98.qb.qb.qb) (by kernel_rfl) ?_
 by_cases h0:bo e s=[]
 .have Fl:S5 6=.slice .nil []:=by rw[s6,h0];rfl
  simp[c98,af.qb,ij.bL,MW,Fl,h0];exact⟨eA.plain rfl,rfl,rfl⟩
 .have BF:ints (bo e s)≠[]:=by simpa[ints]using h0
  have Fl:S5 6=.slice (.own 3) (ints (bo e s)):=by rw[s6];simp[grow,BF]
  simp[c98,af.qb,ij.bL,MW,Fl,h0]
  try exact⟨eA.plain rfl,rfl⟩
def mz(a:Lt):AV:=.agg [.int .i64 a.1,.int .i64 a.2]
def Q8(p:Int×Int):AV:=.agg [.int .i64 p.1,.int .i64 p.2]
def Iy{α:Type}{p:α->Bool}:∀{l:List α}{i:Nat}(h:i<l.length),p l[i]=true->(∀j (hj:j<l.length),j<i->p l[j]=false)->l.find? p=some l[i]
 |[],_,h,_,_=>by simp at h
 |a::l,0,_,h,_=>by rw[List.find?_cons];simp only[List.getElem_cons_zero]at h;rw[h];rfl
 |a::l,i+1,hi,h,hb=>by
  have h0:=hb 0 (by simp) (by omega);simp only[List.getElem_cons_zero]at h0;rw[List.find?_cons,h0]
  exact Iy (l:=l) (i:=i) (by simpa using hi) (by simpa using h) λj hj fh=>hb (j+1) (by simpa using hj) (by omega)
def Tc{α:Type}{p:α->Bool}{l:List α}(h:∀j (hj:j<l.length),p l[j]=false):l.find? p=none:=by
 rw[aeE];intro x hx;obtain⟨j,hj,rfl⟩:=adm hx;simp[h j hj]
def Xo(hG:aw GI)(s:aF)(hs:oP s)(a b:Lt):AC prog GI 257 [bU s,mz a,mz b] (.ret (Q8 (fU s a b))):=by
 have NV:=hs.aW;obtain⟨it,hit,bg⟩:=iZ 26 2;refine cE hG func257 ntmps257 c257 ?_;refine aI (λS H=>S 3=.box 3 0/\S 4=.box 4 0/\S 5=.box 5 0/\S 6=.box 6 0/\H 3=some (ae s)/\H 4=some [.int .i64 a.1,.int .i64 a.2]/\H 5=some [.int .i64 b.1,.int .i64 b.2]/\H 6=some [.int .i64 0,.int .i64 0]) (by simp[bU,ae,mz]) ?_;rintro S H ⟨s3,s4,s5,s6,e3,e4,e5,e6⟩
 by_cases hw:a.1=b.1
 case neg=>
  have Af:(a.1 !=b.1)=true:=by simpa using hw
  have iS:fU s a b=(s.nK,s.nL):=by unfold fU;rw[if_neg hw]
  rw[iS];simp[s3,s4,s5,s6,e3,e4,e5,e6,ae,Af,Q8,hit,bg,eh]
 have Af:(a.1 !=b.1)=false:=by simpa using hw
 simp[s3,s4,s5,s6,e3,e4,e5,e6,ae,Af];refine bC 7 s.aW.length (λi S H=>S 3=.box 3 0/\S 4=.box 4 0/\S 5=.box 5 0/\S 6=.box 6 0/\H 3=some (ae s)/\H 4=some [.int .i64 a.1,.int .i64 a.2]/\H 5=some [.int .i64 b.1,.int .i64 b.2]/\H 6=some [.int .i64 0,.int .i64 0]/\S 7=.int .i64 (i:Nat)/\∀j (hj:j<s.aW.length),j<i->(s.aW[j].l==a.2&&s.aW[j].r==b.2)=false) (λi S H h=>h.2.2.2.2.2.2.2.2.1) ⟨by simp[s3],by simp[s4],by simp[s5],by simp[s6],by simp[e3,ae],by simp[e4],by simp[e5],by simp[e6],by simp,by simp⟩ ?_;clear s3 s4 s5 s6 e3 e4 e5 e6 S H;rintro i hi S H ⟨s3,s4,s5,s6,e3,e4,e5,e6,s7,hb⟩
 by_cases av:i<s.aW.length
 case neg=>
  have cN:i=s.aW.length:=by omega
  subst cN
  have iS:fU s a b=(s.jM,s.jN):=by
   unfold fU;rw[if_pos hw,Tc λj hj=>hb j hj hj]
  rw[iS];simp[s3,s4,s5,s6,e3,e4,e5,e6,s7,ae,Q8,hit,bg,eh]
 have kv:IntKind.i64.wrap ((i:Int)+1)=i+1:=aP (by omega);cases h1:s.aW[i].l==a.2
 .simp[s3,s4,s5,s6,e3,e4,e5,e6,s7,ae,av,eb,h1,kv];intro j hj fh hl hr
  by_cases Bw:j=i
  .subst Bw;rw[hl]at h1;simp at h1
  .have:=hb j hj (by omega);rw[hl,hr]at this;simp at this
 cases h2:s.aW[i].r==b.2
 .simp[s3,s4,s5,s6,e3,e4,e5,e6,s7,ae,av,eb,h1,h2,kv];intro j hj fh hl hr
  by_cases Bw:j=i
  .subst Bw;rw[hr]at h2;simp at h2
  .have:=hb j hj (by omega);rw[hl,hr]at this;simp at this
 .have iS:fU s a b=(s.aW[i].lo,s.aW[i].hi):=by
   unfold fU;rw[if_pos hw,Iy av (by rw[h1,h2];rfl) hb]
  rw[iS];simp[s3,s4,s5,s6,e3,e4,e5,e6,s7,ae,av,eb,h1,h2,Q8,hit,bg,eh]
def PX(s:aF)(a:Lt):Prop:=a.2<0\/Gx s a
def sG{s:aF}(hF:kl s){a:Lt}(h:PX s a):1<=gf s a/\gf s a<=20:=by
 rcases h with h|h
 .unfold gf;rw[if_pos h];exact hF.dn
 .exact tx hF h
def SZ(hG:aw GI)(s:aF){a:Lt}(h:PX s a):AC prog GI 258 [bU s,mz a] (.ret (.int .i64 (gf s a))):=by
 refine cE hG func258 ntmps258 c258 ?_;refine aI (λS H=>S 2=.box 2 0/\S 3=.box 3 0/\H 2=some (ae s)/\H 3=some [.int .i64 a.1,.int .i64 a.2]) (by simp[bU,ae,mz]) ?_;rintro S H ⟨s2,s3,e2,e3⟩
 by_cases h0:a.2<0
 .have hr:gf s a=s.dn:=by unfold gf;rw[if_pos h0]
  rw[hr];simp[s2,s3,e2,e3,ae,h0]
 .have hk:=h.resolve_left h0
  obtain⟨k,jD⟩:∃k:Nat,a.2=k:=⟨a.2.toNat,by have:=hk.1;omega⟩
  have jB:k<s.bp.length:=by have:=hk.2;omega
  have hr:gf s a=s.bp[k]:=by unfold gf;rw[if_neg h0,jD,Int.toNat_natCast,acx jB];rfl
  have Bz:¬(k:Int)<0:=by omega
  rw[hr];simp[s2,s3,e2,e3,ae,jD,jB,Bz]
def rN{s:aF}(hF:kl s){st:Int}(h0:0<=st)(h1:st<=10){l:List Lt}(ho:∀a∈l,PX s a):∀{i:Nat},i<l.length->0<=ic s st l i/\ic s st l i<=40*i
 |0,_=>⟨aed _,aed _⟩
 |i+1,h=>by
  have h2:=rN hF h0 h1 ho (i:=i) (by omega);have h3:=sG hF (ho _ (acy (by omega:i<l.length)));have h4:=tv hF h0 h1 (l[i]'(by omega)) l[i+1];rw[mI h];omega
def zK(s:aF)(st:Int)(l:List Lt):List Int:=(List.range l.length).map (ic s st l)++[EC s st l]
def MH(s:aF)(st:Int)(l:List Lt):Nat->Int
 |0=>0
 |i+1=>ic s st l i+match l[i]? with|some a=>gf s a|none=>0
def SV:(∀k n,(AV.int k n).aH=.int k n)/\(∀b,(AV.bool b).aH=.bool b)/\(∀l,(AV.str l).aH=.str l)/\(∀l,(AV.slice .view l).aH=.slice .view l)/\(∀l,(AV.slice .nil l).aH=.slice .nil l)/\(∀e l,(AV.slice (.own e) l).aH=.slice .view l)/\(∀cs,(AV.agg cs).aH=.agg cs)/\(∀cs,(AV.dR cs).aH=.dR cs)/\(∀cs,(AV.ref cs).aH=.ref cs)/\(∀i o,(AV.box i o).aH=.box i o)/\(∀t v,(AV.iface t v).aH=.iface t v)/\∀v:AV,v.aH.aH=v.aH:=
 ⟨λ_ _=>rfl,λ_=>rfl,λ_=>rfl,λ_=>rfl,λ_=>rfl,λ_ _=>rfl,λ_=>rfl,λ_=>rfl,λ_=>rfl,λ_ _=>rfl,λ_ _=>rfl,AV.idem⟩
def SC:(∀k n,(AV.int k n).cT=.int k n)/\(∀b,(AV.bool b).cT=.bool b)/\(∀l,(AV.str l).cT=.str l)/\(∀o l,(AV.slice o l).cT=.slice .view l)/\(∀cs,(AV.agg cs).cT=.agg cs)/\(∀cs,(AV.dR cs).cT=.dR cs)/\(∀cs,(AV.ref cs).cT=.ref cs)/\∀t v,(AV.iface t v).cT=.iface t v:=
 ⟨λ_ _=>rfl,λ_=>rfl,λ_=>rfl,λ_ _=>rfl,λ_=>rfl,λ_=>rfl,λ_=>rfl,λ_ _=>rfl⟩
def Oh(e:Nat)(l:List AV):(grow e l).aH=.slice (if l=[]then .nil else .view) l:=by
 unfold grow
 by_cases h:l=[]<;>simp[h,AV.aH]
def Bc(e:Nat)(l:List AV):(grow e l).aH.cT=.slice .view l:=by
 rw[Oh];rfl
end Go.Proofs.Tryz
namespace Go.Proofs.Tryz
open Go Go.AL Go.RowKit Go.Proofs Go.Proofs.Tram
attribute [local simp] dP fu qw pn eL dV dW du dp eJ dq cU gG gD aG aD ev aQ.S aQ.H bG au aY AL.start AV.cells AV.storable AV.bZ bu bQ eF b0 HR.okB post cL dc db AV.out AV.bW cy dK fz gM AV.vw da vI int bO aO dE dj iJ jF eo dG bt AV.aH AV.cT
variable{GI:World->Prop}
def qe(l:List End):AV:=grow 46 (l.map a_)
def El{s:aF}{out:List Int}{n:Nat}(h:n<s.words.length)(hc:out.contains (n:Int)=false):gq s out n=(s.words[n].cd.map λk=>((n:Int),k))++[((n:Int),(s.words[n].aM.length:Int))]:=by
 unfold gq;rw[hc,acx h]
 rfl
def AZ{s:aF}{out:List Int}{n:Nat}(hc:out.contains (n:Int)=true):gq s out n=[]:=by
 unfold gq;rw[hc]
 rfl
def jJ(s:aF)(out:List Int)(i:Nat):List End:=(List.range i).flatMap (gq s out)
def sR(s:aF)(out:List Int)(i:Nat):jJ s out (i+1)=jJ s out i++gq s out i:=by unfold jJ;rw[ady,aeB,ae2]
def Yc(hG:aw GI)(s:aF)(hs:oP s)(out:List Int)(ho:out.length<1000000):AC prog GI 188 [bU s,vI out] (.ret (.slice .view (aS (g_ s out)))):=by
 have q3:=hs.words;refine AC.gW (o:=if g_ s out=[]then .nil else .view) ?_;refine cE hG func188 ntmps188 c188 ?_;simp[c188,ai,ah,bU,ae];refine bC 12 s.words.length (λi S H=>S 1=vI out/\S 2=.box 2 0/\H 2=some (ae s)/\S 11=.int .i64 s.words.length/\S 12=.int .i64 (i:Nat)/\S 5=qe (jJ s out i)/\(jJ s out i).length<=1001*i) (λi S H h=>h.2.2.2.2.1) ⟨by simp[ai,ah],by simp[ai,ah],by simp[ai,ah,ae],by simp[ai,ah],by simp[ai,ah],by simp[ai,ah,qe,jJ,grow],by simp[jJ]⟩ ?_;rintro i hi S H ⟨s1,s2,e2,ck,cJ,s5,hl⟩
 by_cases av:i<s.words.length
 case neg=>
  have cN:i=s.words.length:=by omega
  subst cN;have s5:S 5=qe (g_ s out):=s5
  by_cases h0:g_ s out=[]
  .rw[h0]at s5
   have lE:S 5=.slice .nil []:=by rw[s5];simp[qe,grow]
   simp[ai,ah,s1,s2,e2,ck,cJ,lE,h0,aS]
  .have lE:S 5=.slice (.own 46) ((g_ s out).map a_):=by rw[s5];simp[qe,grow,h0]
   simp[ai,ah,s1,s2,e2,ck,cJ,lE,h0,aS]
 have hw:IntKind.i64.wrap ((i:Int)+1)=i+1:=aP (by omega);have zI:=hs.cd _ (acy av);have hr:=sR s out i;generalize hL:jJ s out i=L at s5 hl hr;simp[ai,ah,s1,s2,e2,ck,cJ,av];refine⟨_,by kernel_rfl,Ky hG out ho i,λ_=>rfl,?_⟩;cases hc:out.contains (i:Int)
 case true=>
  have jd:jJ s out (i+1)=L:=by rw[hr,AZ hc,adn]
  rw[jd];simp[ai,ah,s1,s2,e2,ck,cJ,s5,hw,av];omega
 have hew:=El av hc;simp[ai,ah,s1,s2,e2,ck,cJ,av,ae,cZ];refine bC 25 s.words[i].cd.length (λj S H=>S 1=vI out/\S 2=.box 2 0/\H 2=some (ae s)/\S 11=.int .i64 s.words.length/\S 12=.int .i64 (i:Nat)/\S 6=.int .i64 (i:Nat)/\S 23=vI s.words[i].cd/\S 24=.int .i64 s.words[i].cd.length/\S 25=.int .i64 (j:Nat)/\S 5=qe (L++(s.words[i].cd.take j).map λk=>((i:Int),k))) (λi S H h=>h.2.2.2.2.2.2.2.2.1) ⟨by simp[ai,ah,s1],by simp[ai,ah,s2],by simp[ai,ah,e2,ae],by simp[ai,ah,ck],by simp[ai,ah,cJ],by simp[ai,ah],by simp[ai,ah],by simp[ai,ah],by simp[ai,ah],by simp[ai,ah,s5]⟩ ?_;clear s1 s2 e2 ck cJ s5 S H;rintro j hj S H ⟨s1,s2,e2,ck,cJ,s6,sj,zQ,n9,s5⟩
 by_cases WM:j<s.words[i].cd.length
 .have Xf:IntKind.i64.wrap ((j:Int)+1)=j+1:=aP (by omega);have oy:s.words[i].cd.take (j+1)=s.words[i].cd.take j++[s.words[i].cd[j]]:=acL WM
  have hlen:(L++(s.words[i].cd.take j).map λk=>((i:Int),k)).length<1040000:=by
   simp only[acV,acC,adf];omega
  rw[oy,ada,<-adI];generalize(L++(s.words[i].cd.take j).map λk=>((i:Int),k))=M at s5 hlen⊢;have dI:aJ 2 [AV.agg [AV.int .i64 (i:Nat),AV.int .i64 s.words[i].cd[j]]]=true:=rfl;simp[s1,s2,e2,ck,cJ,s6,sj,zQ,n9,WM,dI];refine fk (M.map a_) (a_ ((i:Int),s.words[i].cd[j])) (.own 46) (by simp[s5,qe]) (by simp[a_]) rfl (oH _) (by rw[acC];omega) ?_;intro S' sd hk;simp[sd,hk,s1,s2,e2,ck,cJ,s6,sj,zQ,n9,Xf,WM,qe]
 .have o_:j=s.words[i].cd.length:=by omega
  subst o_;rw[adG]at s5
  have hlen:(L++s.words[i].cd.map λk=>((i:Int),k)).length<=1001*i+1000:=by
   simp only[acV,acC];omega
  rw[hr,hew,<-adI];generalize(L++s.words[i].cd.map λk=>((i:Int),k))=M at s5 hlen⊢;have dI:aJ 2 [AV.agg [AV.int .i64 (i:Nat),AV.int .i64 s.words[i].aM.length]]=true:=rfl;simp[s1,s2,e2,ck,cJ,s6,sj,zQ,n9,av,dI,ae,cZ];refine fk (M.map a_) (a_ ((i:Int),(s.words[i].aM.length:Int))) (.own 46) (by simp[s5,qe]) (by simp[a_]) rfl (oH _) (by rw[acC];omega) ?_;intro S' sd hk;simp[sd,hk,s1,s2,e2,ck,cJ,hw,av,qe,ae];omega
def tD{s:aF}(hs:bf s=true){g:Nat×Nat}(h:Kd s g):Gx s (bl s g):=J0 hs h
def W2(hG:aw GI)(s:aF)(hs:bf s=true){l:List (Nat×Nat)}(hl:l.length<10000)(lz:∀g∈l,Kd s g)(cut:Bool)(x:Int):AC prog GI 212 [gy s,K0 l cut,.int .i64 x] (.ret (.int .i64 (gI s (l.map (bl s)) l.length+(if cut then s.dn else 0)))):=by
 have hF:=eM hs;have rI:=hF.Vj
 have hb:∀x∈(l.map λg=>gf s (bl s g)),0<=x/\x<=1000:=by
  intro x hx;obtain⟨g,hg,rfl⟩:=acZ.1 hx;have:=tx hF (tD hs (lz g hg));omega
 have y9:gI s (l.map (bl s)) l.length=(l.map λg=>gf s (bl s g)).sum:=by
  have:=zL s (l.map (bl s)) l.length (by simp);rw[this,acQ (by simp),ad2];rfl
 have G2:(l.map λg=>gf s (bl s g)).length<10000:=by rw[acC];exact hl
 rw[y9];refine cE hG func212 ntmps212 c212 ?_;refine aI (λS H=>S 3=.box 3 0/\S 4=.box 4 0/\H 3=some (aZ s)/\H 4=some [.slice .view (l.map gA),.bool cut]) (by simp[ai,ah,gy,aZ,K0,EX,ae,bT]) ?_;rintro S H ⟨s3,s4,e3,e4⟩;refine aI (λS H=>S 3=.box 3 0/\S 4=.box 4 0/\H 3=some (aZ s)/\H 4=some [.slice .view (l.map gA),.bool cut]/\S 7=fe []) (by simp[ai,ah,s3,s4,e3,e4,fe,grow]) ?_;clear s3 s4 e3 e4 S H;rintro S H ⟨s3,s4,e3,e4,s7⟩;refine aI (λS H=>S 3=.box 3 0/\S 4=.box 4 0/\H 3=some (aZ s)/\H 4=some [.slice .view (l.map gA),.bool cut]/\S 7=fe (l.map λg=>gf s (bl s g))) ?_ ?_
 .simp[ai,ah,s3,s4,e3,e4];refine bC 13 l.length (λi S H=>S 3=.box 3 0/\S 4=.box 4 0/\H 3=some (aZ s)/\H 4=some [.slice .view (l.map gA),.bool cut]/\S 11=.slice .view (l.map gA)/\S 12=.int .i64 l.length/\S 13=.int .i64 (i:Nat)/\S 7=fe ((l.take i).map λg=>gf s (bl s g))) (λi S H h=>h.2.2.2.2.2.2.1) ⟨by simp[ai,ah,s3],by simp[ai,ah,s4],by simp[ai,ah,e3],by simp[ai,ah,e4],by simp[ai,ah],by simp[ai,ah],by simp[ai,ah],by simp[ai,ah,s7]⟩ ?_;clear s3 s4 e3 e4 s7 S H;rintro i hi S H ⟨s3,s4,e3,e4,ck,cJ,dw,s7⟩
  by_cases av:i<l.length
  case neg=>
   have cN:i=l.length:=by omega
   subst cN;rw[adG]at s7;simp[ai,ah,s3,s4,e3,e4,ck,cJ,dw,s7]
  have hw:IntKind.i64.wrap ((i:Int)+1)=i+1:=aP (by omega)
  obtain⟨k,hk⟩:∃k:Nat,(bl s l[i]).2=k:=⟨(bl s l[i]).2.toNat,by have:=(tD hs (lz _ (acy av))).1;omega⟩
  have jB:k<s.bp.length:=by have:=(tD hs (lz _ (acy av))).2;omega
  have rA:gf s (bl s l[i])=s.bp[k]:=by
   unfold gf;rw[hk,if_neg (by omega),Int.toNat_natCast,acx jB];rfl
  rw[acL av,ada,List.map_singleton,rA]
  have hlen:((l.take i).map λg=>gf s (bl s g)).length<1000000:=by
   rw[acC,adf];omega
  generalize((l.take i).map λg=>gf s (bl s g))=L at s7 hlen⊢;simp[s3,s4,e3,e4,ck,cJ,dw,s7,av,gA,aZ,ae,bT];refine oc (MB hG s (lz _ (acy av))) ?_;have dI:aJ 1 [AV.int .i64 s.bp[k]]=true:=rfl;simp[s3,s4,e3,e4,ck,cJ,dw,s7,av,aZ,ae,bT,hk,jB,dI];refine oB (L.map (AV.int .i64)) (AV.int .i64 s.bp[k]) (.own 3) (by simp[s7,fe,grow]) (by simp) rfl (l5 _) (by rw[acC];omega) ?_;intro S' sd dN;simp[sd,dN,s3,s4,e3,e4,ck,cJ,dw,av,hw,fe,aZ,ae,bT]
 clear s3 s4 e3 e4 s7 S H;rintro S H ⟨s3,s4,e3,e4,s7⟩;refine aI (λS H=>S 7=fe ((l.map λg=>gf s (bl s g))++if cut then[s.dn]else[])) ?_ ?_
 .cases cut with
  |false=>simp[ai,ah,s3,s4,e3,e4,s7]
  |true=>
   have dI:aJ 1 [AV.int .i64 s.dn]=true:=rfl;generalize(l.map λg=>gf s (bl s g))=L at s7 G2⊢;simp[s3,s4,e3,e4,s7,aZ,ae,bT,dI];refine fk (L.map (AV.int .i64)) (AV.int .i64 s.dn) (.own 3) (by simp[fe]) (by simp) rfl (l5 _) (by rw[acC];omega) ?_;intro S' sd dN;simp[sd,dN,fe]
 clear s3 s4 e3 e4 s7 S H;rintro S H s7;have hh:=hF.dn
 have jK:∀x∈((l.map λg=>gf s (bl s g))++if cut then[s.dn]else[]),0<=x/\x<=1000:=by
  intro x hx;rcases acF.1 hx with hx|hx
  .exact hb x hx
  .cases cut with
   |false=>simp at hx
   |true=>simp at hx;omega
 have KL:((l.map λg=>gf s (bl s g))++if cut then[s.dn]else[]).sum=(l.map λg=>gf s (bl s g)).sum+if cut then s.dn else 0:=by
  rw[aeg]
  cases cut<;>simp
 have pz:((l.map λg=>gf s (bl s g))++if cut then[s.dn]else[]).length<100000:=by
  rw[acV]
  cases cut<;>simp<;>omega
 rw[<-KL];generalize((l.map λg=>gf s (bl s g))++if cut then[s.dn]else[])=L at s7 jK pz⊢;rcases tw L with⟨hg,rfl⟩|hg
 .rw[hg]at s7;simp[ai,ah,s7];refine oc (GJ hG [] pz jK) ?_;simp[ai,ah]
 .rw[hg]at s7;simp[ai,ah,s7];refine oc (GJ hG L pz jK) ?_;simp[ai,ah]
def WR(hG:aw GI)(s:aF)(hs:bf s=true){l:List (Nat×Nat)}(bP:l≠[])(hl:l.length<10000)(lz:∀g∈l,Kd s g)(cut:Bool){st:Int}(h0:0<=st)(h1:st<=10):AC prog GI 213 [gy s,K0 l cut,.int .i64 st] (.ret (.int .i64 (hZ s st (l.map (bl s)) (l.length-1)+(if cut then jP s.jM s.jN st else 0)))):=by
 have hF:=eM hs;have fI:=ade.2 bP
 have y9:hZ s st (l.map (bl s)) (l.length-1)=(jI s st (l.map (bl s)) l.length).sum:=by
  have:=D9 (s:=s) (st:=st) (l:=l.map (bl s)) (l.length-1) (by rw[acC];omega);rw[show l.length-1+1=l.length by omega]at this;exact this.symm
 rw[y9];refine cE hG func213 ntmps213 c213 ?_;refine aI (λS H=>S 2=.int .i64 st/\S 3=.box 3 0/\S 4=.box 4 0/\H 3=some (aZ s)/\H 4=some [.slice .view (l.map gA),.bool cut]) (by simp[ai,ah,gy,aZ,K0,EX,ae,bT]) ?_;rintro S H ⟨s2,s3,s4,e3,e4⟩;refine aI (λS H=>S 2=.int .i64 st/\S 3=.box 3 0/\S 4=.box 4 0/\H 3=some (aZ s)/\H 4=some [.slice .view (l.map gA),.bool cut]/\S 7=fe []) (by simp[ai,ah,s2,s3,s4,e3,e4,fe,grow]) ?_;clear s2 s3 s4 e3 e4 S H;rintro S H ⟨s2,s3,s4,e3,e4,s7⟩;refine aI (λS H=>S 2=.int .i64 st/\S 3=.box 3 0/\S 4=.box 4 0/\H 3=some (aZ s)/\H 4=some [.slice .view (l.map gA),.bool cut]/\S 7=fe (jI s st (l.map (bl s)) l.length)) ?_ ?_
 .simp[ai,ah,s2,s3,s4,e3,e4];refine bC 13 l.length (λi S H=>S 2=.int .i64 st/\S 3=.box 3 0/\S 4=.box 4 0/\H 3=some (aZ s)/\H 4=some [.slice .view (l.map gA),.bool cut]/\S 11=.slice .view (l.map gA)/\S 12=.int .i64 l.length/\S 13=.int .i64 (i:Nat)/\S 7=fe (jI s st (l.map (bl s)) i)) (λi S H h=>h.2.2.2.2.2.2.2.1) ⟨by simp[ai,ah,s2],by simp[ai,ah,s3],by simp[ai,ah,s4],by simp[ai,ah,e3],by simp[ai,ah,e4],by simp[ai,ah],by simp[ai,ah],by simp[ai,ah],by simp[ai,ah,s7,jI]⟩ ?_;clear s2 s3 s4 e3 e4 s7 S H;rintro i hi S H ⟨s2,s3,s4,e3,e4,ck,cJ,dw,s7⟩
  by_cases av:i<l.length
  case neg=>
   have cN:i=l.length:=by omega
   subst cN;simp[ai,ah,s2,s3,s4,e3,e4,ck,cJ,dw,s7]
  have hw:IntKind.i64.wrap ((i:Int)+1)=i+1:=aP (by omega)
  cases i with
  |zero=>
   have Fq:S 7=.slice .nil []:=by rw[s7];rfl
   simp[ai,ah,s2,s3,s4,e3,e4,ck,cJ,dw,Fq,av,gA];exact⟨aP (by omega),by simp[jI,fe,grow]⟩
  |succ m=>
   have zY:m<l.length:=by omega
   have QB:jI s st (l.map (bl s)) (m+1+1)=jI s st (l.map (bl s)) (m+1)++[kX s st (bl s l[m]) (bl s l[m+1])]:=by
    rw[A5 (by simpa using av)];simp
   have hlen:(jI s st (l.map (bl s)) (m+1)).length<1000000:=by have:=yt (s:=s) (st:=st) (l:=l.map (bl s)) (m+1);omega
   rw[QB];have CX:IntKind.i64.wrap (m:Int)=m:=aP (by omega);have iy:IntKind.i64.wrap ((m:Int)+1+1)=m+1+1:=aP (by omega)
   have Mt:(0:Int)<(m:Int)+1:=by omega
   have aaU:(0:Int)<=(m:Int)+1:=by omega
   have jG:(m:Int)+1<l.length:=by omega
   generalize jI s st (l.map (bl s)) (m+1)=L at s7 hlen⊢;have dI:aJ 1 [AV.int .i64 (kX s st (bl s l[m]) (bl s l[m+1]))]=true:=rfl;simp[s2,s3,s4,e3,e4,ck,cJ,dw,s7,av,gA,aZ,ae,bT,CX,Mt,aaU,zY,jG];refine oc (Wl hG s hF (lz _ (acy zY)) (lz _ (acy av)) h0 h1) ?_;simp[s2,s3,s4,e3,e4,ck,cJ,dw,s7,dI];refine oB (L.map (AV.int .i64)) (AV.int .i64 (kX s st (bl s l[m]) (bl s l[m+1]))) (.own 3) (by simp[s7,fe,grow]) (by simp) rfl (l5 _) (by rw[acC];omega) ?_;intro S' sd dN;simp[sd,dN,s2,s3,s4,e3,e4,ck,cJ,dw,av,jG,iy,fe,aZ,ae,bT]
 clear s2 s3 s4 e3 e4 s7 S H;rintro S H ⟨s2,s3,s4,e3,e4,s7⟩;have I':=kV hF.o.2.1 h0 h1
 have G2:(jI s st (l.map (bl s)) l.length).length<10000:=by have:=yt (s:=s) (st:=st) (l:=l.map (bl s)) l.length;omega
 have hb:∀x∈jI s st (l.map (bl s)) l.length,0<=x/\x<=1000:=λx hx=>by have:=Em hF h0 h1 _ x hx;omega
 refine aI (λS H=>S 7=fe (jI s st (l.map (bl s)) l.length++if cut then[jP s.jM s.jN st]else[])) ?_ ?_
 .cases cut with
  |false=>simp[ai,ah,s2,s3,s4,e3,e4,s7]
  |true=>
   have dI:aJ 1 [AV.int .i64 (jP s.jM s.jN st)]=true:=rfl;generalize jI s st (l.map (bl s)) l.length=L at s7 G2⊢;simp[s2,s3,s4,e3,e4,s7,aZ,ae,bT];refine oc (E3 hG hF.o.1 hF.o.2.1 (by have:=hF.o.2.2;omega) h0 h1) ?_;simp[dI];refine fk (L.map (AV.int .i64)) (AV.int .i64 (jP s.jM s.jN st)) (.own 3) (by simp[fe]) (by simp) rfl (l5 _) (by rw[acC];omega) ?_;intro S' sd dN;simp[sd,dN,fe]
 clear s2 s3 s4 e3 e4 s7 S H;rintro S H s7;have ho:=hF.o
 have jK:∀x∈(jI s st (l.map (bl s)) l.length++if cut then[jP s.jM s.jN st]else[]),0<=x/\x<=1000:=by
  intro x hx;rcases acF.1 hx with hx|hx
  .exact hb x hx
  .cases cut with
   |false=>simp at hx
   |true=>simp at hx;omega
 have KL:(jI s st (l.map (bl s)) l.length++if cut then[jP s.jM s.jN st]else[]).sum=(jI s st (l.map (bl s)) l.length).sum+if cut then jP s.jM s.jN st else 0:=by
  rw[aeg]
  cases cut<;>simp
 have pz:(jI s st (l.map (bl s)) l.length++if cut then[jP s.jM s.jN st]else[]).length<100000:=by
  rw[acV]
  cases cut<;>simp<;>omega
 rw[<-KL];generalize(jI s st (l.map (bl s)) l.length++if cut then[jP s.jM s.jN st]else[])=L at s7 jK pz⊢;rcases tw L with⟨hg,rfl⟩|hg
 .rw[hg]at s7;simp[ai,ah,s7];refine oc (GJ hG [] pz jK) ?_;simp[ai,ah]
 .rw[hg]at s7;simp[ai,ah,s7];refine oc (GJ hG L pz jK) ?_;simp[ai,ah]
def YC(hG:aw GI)(s:aF)(hs:bf s=true){l:List (Nat×Nat)}(bP:l≠[])(hl:l.length<=24)(lz:∀g∈l,Kd s g)(cut:Bool){st:Int}(h0:0<=st)(h1:st<=10):AC prog GI 193 [gy s,K0 l cut,.int .i64 st] (.ret (.int .i64 (jg s st (l.map (bl s)) cut))):=by
 have hF:=eM hs
 have b_:∀a∈l.map (bl s),Gx s a:=λa ha=>by
  obtain⟨g,hg,rfl⟩:=acZ.1 ha;exact tD hs (lz g hg)
 have abO:l.map (bl s)≠[]:=by simpa using bP
 have hb:=C2 hF h0 h1 abO b_ (by simpa using hl) cut;have fI:=ade.2 bP;have hg:=p7 hF h0 h1 (l:=l.map (bl s)) (i:=l.length-1) (by rw[acC];omega);have G4:=pT hF b_ (i:=l.length) (by simp);have I':=kV hF.o.2.1 h0 h1;have ho:=hF.o;have hh:=hF.dn;have a1:=W2 hG s hs (by omega:l.length<10000) lz cut st;have a2:=WR hG s hs bP (by omega) lz cut h0 h1
 have hwp:jg s st (l.map (bl s)) cut=(gI s (l.map (bl s)) l.length+(if cut then s.dn else 0))+(hZ s st (l.map (bl s)) (l.length-1)+(if cut then jP s.jM s.jN st else 0)):=by
  unfold jg;rw[acC]
 rw[hwp]at hb⊢
 have mC:0<=gI s (l.map (bl s)) l.length+(if cut then s.dn else 0):=by cases cut<;>simp<;>omega
 have k_:0<=hZ s st (l.map (bl s)) (l.length-1)+(if cut then jP s.jM s.jN st else 0):=by cases cut<;>simp<;>omega
 generalize gI s (l.map (bl s)) l.length+(if cut then s.dn else 0)=X at a1 mC hb⊢;generalize hZ s st (l.map (bl s)) (l.length-1)+(if cut then jP s.jM s.jN st else 0)=Y at a2 k_ hb⊢;have w1:IntKind.i64.wrap X=X:=aP (by omega);have w2:IntKind.i64.wrap (X+Y)=X+Y:=aP (by omega);refine cE hG func193 ntmps193 c193 ?_;refine aI (λS H=>S 2=.int .i64 st/\S 3=.box 3 0/\S 4=.box 4 0/\H 3=some (aZ s)/\H 4=some [.slice .view (l.map gA),.bool cut]) (by simp[ai,ah,gy,aZ,K0,EX,ae,bT]) ?_;rintro S H ⟨s2,s3,s4,e3,e4⟩;simp[ai,ah,s2,s3,s4,e3,e4];refine bC 11 2 (λi S H=>S 2=.int .i64 st/\S 3=.box 3 0/\S 4=.box 4 0/\H 3=some (aZ s)/\H 4=some [.slice .view (l.map gA),.bool cut]/\S 10=.f_ [.func (.func 212) [] [],.func (.func 213) [] []]/\S 11=.int .i64 (i:Nat)/\S 7=.int .i64 (if i=0 then 0 else if i=1 then X else X+Y)) (λi S H h=>h.2.2.2.2.2.2.1) ⟨by simp[ai,ah,s2],by simp[ai,ah,s3],by simp[ai,ah,s4],by simp[ai,ah,e3],by simp[ai,ah,e4],by simp[ai,ah],by simp[ai,ah],by simp[ai,ah]⟩ ?_;clear s2 s3 s4 e3 e4 S H;rintro i hi S H ⟨s2,s3,s4,e3,e4,cb,ck,s7⟩
 match i,hi with
 |0,_=>
  simp[ai,ah,s2,s3,s4,e3,e4,cb,ck,s7,aZ,ae,bT,zy];refine oc a1 ?_;simp[ai,ah,s2,s3,s4,e3,e4,cb,ck,s7,aZ,ae,bT,w1];exact aP (by omega)
 |1,_=>
  simp[ai,ah,s2,s3,s4,e3,e4,cb,ck,s7,aZ,ae,bT,zy];refine oc a2 ?_;simp[ai,ah,s2,s3,s4,e3,e4,cb,ck,s7,aZ,ae,bT,w2];exact aP (by omega)
 |2,_=>
  simp[ai,ah,s2,s3,s4,e3,e4,cb,ck,s7]
def TU(s:aF)(out:List Int)(es:List End)(i:Nat):AV:=K0 (gY s out es i) (j9 s es i)
def gp(s:aF)(out:List Int)(es:List End)(n:Nat):List AV:=(List.range n).map (TU s out es)
def Fm(s:aF)(out:List Int)(es:List End)(n:Nat):gp s out es (n+1)=gp s out es n++[TU s out es n]:=by
 unfold gp;rw[ady,ada];rfl
def KB(s:aF)(out:List Int)(es:List End)(n:Nat):aJ 2 (gp s out es n)=true:=iK λa=>⟨rfl,rfl⟩
def Ue(l:List (Nat×Nat)):aJ 2 (l.map gA)=true:=iK λa=>⟨rfl,rfl⟩
def y_(s:aF)(out:List Int)(es:List End)(n:Nat):(gp s out es n).length=n:=by unfold gp;simp
def NO(a:Nat)(S:an)(_:aq):Nat:=match S 6,S 7 with
 |.int _ w,.int _ f=>((a-w)*1000+(1000-f)).toNat
 |_,_=>0
def I81(s:aF)(out:List Int)(es:List End)(i a b:Nat)(S:an)(H:aq):Prop:=S 2=.box 2 0/\S 3=.box 3 0/\H 2=some (aZ s)/\H 3=some [vI out,.slice .view (es.map a_)]/\S 12=.slice .view (es.map a_)/\S 13=.int .i64 es.length/\S 14=.int .i64 (i:Nat)/\S 5=grow 239 (gp s out es i)/\S 9=.box 9 0/\H 9=some [.int .i64 a,.int .i64 b]/\S 10=.box 10 0/\∃(w f:Nat)(D:List (Nat×Nat)),H 10=some [grow 261 (D.map gA),.bool (j9 s es i)]/\S 6=.int .i64 w/\S 7=.int .i64 f/\D++iH s out (w,f) (a,b)=gY s out es i/\w<=a/\(w=a->f<=b)/\(w<a->f<=ct s w)
def V9(hG:aw GI)(s:aF)(hs:bf s=true)(out:List Int)(ho:out.length<1000000)(es:List End)(he:es.length<100000)(g:Good s out es):AC prog GI 192 [gy s,aL out es] (.ret (.slice .view (gp s out es es.length))):=by
 have hF:=eM hs;refine AC.gW (o:=if gp s out es es.length=[]then .nil else .view) ?_;refine cE hG func192 ntmps192 c192 ?_;refine aI (λS H=>S 2=.box 2 0/\S 3=.box 3 0/\H 2=some (aZ s)/\H 3=some [vI out,.slice .view (es.map a_)]) (by simp[ai,ah,gy,aZ,ae,bT,aL,aS]) ?_;rintro S H ⟨s2,s3,e2,e3⟩;simp[ai,ah,s2,s3,e2,e3];refine bC 14 es.length (λi S H=>S 2=.box 2 0/\S 3=.box 3 0/\H 2=some (aZ s)/\H 3=some [vI out,.slice .view (es.map a_)]/\S 12=.slice .view (es.map a_)/\S 13=.int .i64 es.length/\S 14=.int .i64 (i:Nat)/\S 5=grow 239 (gp s out es i)/\S 6=.int .i64 (j3 es i).1/\S 7=.int .i64 (j3 es i).2) (λi S H h=>h.2.2.2.2.2.2.1) ⟨by simp[ai,ah,s2],by simp[ai,ah,s3],by simp[ai,ah,e2],by simp[ai,ah,e3],by simp[ai,ah],by simp[ai,ah],by simp[ai,ah],by simp[ai,ah,grow,gp],by simp[ai,ah,j3],by simp[ai,ah,j3]⟩ ?_;clear s2 s3 e2 e3 S H;rintro i hi S H ⟨s2,s3,e2,e3,cJ,dw,er,s5,s6,s7⟩
 by_cases av:i<es.length
 case neg=>
  have cN:i=es.length:=by omega
  subst cN
  by_cases h0:gp s out es es.length=[]
  .have lE:S 5=.slice .nil []:=by rw[s5,h0];rfl
   simp[ai,ah,s2,s3,e2,e3,cJ,dw,er,lE,h0]
  .have lE:S 5=.slice (.own 239) (gp s out es es.length):=by rw[s5];simp[grow,h0]
   simp[ai,ah,s2,s3,e2,e3,cJ,dw,er,lE,h0]
 obtain⟨g1,g2,g3,g4,g5⟩:=g.one i av
 obtain⟨a,ha⟩:∃a:Nat,es[i].1=a:=⟨es[i].1.toNat,by omega⟩
 obtain⟨b,hb⟩:∃b:Nat,es[i].2=b:=⟨es[i].2.toNat,by omega⟩
 have hE:es[i]=((a:Int),(b:Int)):=Prod.ext ha hb
 have Pf:nE es[i]=(a,b):=by rw[hE];rfl
 have gw:a<s.words.length:=by omega
 have zI:j9 s es i=decide (b<s.words[a].aM.length):=by
  rw[vP av,hE];show decide ((b:Int)<(ct s (a:Int).toNat:Int))=_;rw[Int.toNat_natCast,fM gw,decide_eq_decide];omega
 rw[ha]at g3 g5;rw[hb]at g4 g5
 have g5:b<=s.words[a].aM.length:=by rw[Int.toNat_natCast,fM gw]at g5;omega
 have Bg:gY s out es i=iH s out (j3 es i) (a,b):=by rw[oJ av,Pf]
 have Jq:=xZ hs g i;have hw:IntKind.i64.wrap ((i:Int)+1)=i+1:=aP (by omega)
 have QG:j3 es (i+1)=(a,b):=by
  show(match es[i]? with|some e=>nE e|none=>(0,0))=_;rw[acx av];exact Pf
 have NB:=At g av;rw[Pf]at NB;simp[ai,ah,s2,s3,e2,e3,cJ,dw,er,av,hE,a_,aZ,ae,bT,gw,cZ,bV];refine⟨I81 s out es i a b,NO a,⟨by simp[ai,ah,s2],by simp[ai,ah,s3],by simp[ai,ah,e2,aZ,ae,bT],by simp[ai,ah,e3],by simp[ai,ah,cJ],by simp[ai,ah,dw],by simp[ai,ah,er],by simp[ai,ah,s5,grow],by simp[ai,ah],by simp[ai,ah],by simp[ai,ah],(j3 es i).1,(j3 es i).2,[],by simp[ai,ah,grow,zI],by simp[ai,ah,s6],by simp[ai,ah,s7],by rw[Bg];rfl,by omega,by omega,?_⟩,?_⟩
 .intro _
  cases i with
  |zero=>exact adr _
  |succ j=>
   have hj:=g.one j (by omega)
   have:j3 es (j+1)=nE es[j]:=by show(match es[j]? with|some e=>nE e|none=>(0,0))=_;rw[acx (by omega)]
   rw[this];show es[j].2.toNat<=ct s es[j].1.toNat;omega
 clear s2 s3 e2 e3 cJ dw er s5 s6 s7 S H;rintro S H ⟨s2,s3,e2,e3,cJ,dw,er,s5,s9,e9,cb,w,f,D,kR,s6,s7,hD,hwa,hfb,xj⟩
 have hDl:D.length<=24:=by
  have:=congrArg List.length hD;rw[acV]at this;omega
 have EN:=(rM hs (out:=out) w).2;have aag:=(rM hs (out:=out) a).2;rw[fM gw]at aag
 have hf6:f<=6:=by
  by_cases h:w<a
  .have:=xj h;omega
  .have:=hfb (by omega);omega
 by_cases nx:w<a\/w=a/\f<b
 case neg=>
  obtain rfl:w=a:=by omega
  obtain rfl:f=b:=by have:=hfb rfl;omega
  rw[MC (acD _),adn]at hD
  have abY:D≠[]:=by rw[hD];exact Cl g av
  have hg:grow 261 (D.map gA)=.slice (.own 261) (D.map gA):=by simp[grow,abY]
  rw[hg]at kR
  have vx:TU s out es i=.agg [.slice .view (D.map gA),.bool (j9 s es i)]:=by rw[hD];rfl
  have dI:aJ 2 [AV.agg [AV.slice .view (D.map gA),AV.bool (j9 s es i)]]=true:=rfl;simp[s2,s3,e2,e3,cJ,dw,er,s5,s9,e9,cb,kR,s6,s7,dI];refine fk (gp s out es i) (TU s out es i) (.own 239) (by simp[s5,grow]) (by rw[vx];simp) (by rw[vx];rfl) (KB _ _ _ _) (by rw[y_];omega) ?_;intro S' sd dN;simp[sd,dN,s2,s3,e2,e3,cJ,dw,er,s6,s7,hw,av,QG,Fm,grow,aZ,ae,bT]
 have rI:w<s.words.length:=by omega
 have Jo:=fM rI;refine aI (λS H=>S 2=.box 2 0/\S 3=.box 3 0/\H 2=some (aZ s)/\H 3=some [vI out,.slice .view (es.map a_)]/\S 12=.slice .view (es.map a_)/\S 13=.int .i64 es.length/\S 14=.int .i64 (i:Nat)/\S 5=grow 239 (gp s out es i)/\S 9=.box 9 0/\H 9=some [.int .i64 a,.int .i64 b]/\S 10=.box 10 0/\H 10=some [grow 261 (D.map gA),.bool (j9 s es i)]/\S 6=.int .i64 w/\S 7=.int .i64 f) ?_ ?_
 .rcases nx with Ia|⟨rfl,abG⟩
  .have ss:(w:Int)<a:=by omega
   simp[ai,ah,s2,s3,e2,e3,cJ,dw,er,s5,s9,e9,cb,kR,s6,s7,ss,Ia]
  .have XC:(f:Int)<b:=by omega
   simp[ai,ah,s2,s3,e2,e3,cJ,dw,er,s5,s9,e9,cb,kR,s6,s7,XC,abG]
 have Ab:NO a S H=(a-w)*1000+(1000-f):=by unfold NO;rw[s6,s7];simp only;omega
 rw[Ab];clear s2 s3 e2 e3 cJ dw er s5 s9 e9 cb kR s6 s7 Ab S H;rintro S H ⟨s2,s3,e2,e3,cJ,dw,er,s5,s9,e9,cb,kR,s6,s7⟩;simp[s2,s3,e2,e3,cJ,dw,er,s5,s9,e9,cb,kR,s6,s7];refine⟨_,by kernel_rfl,Ky hG out ho w,λ_=>rfl,?_⟩;have lS:=hF.words.2;have kv:IntKind.i64.wrap ((w:Int)+1)=w+1:=aP (by omega);have hf1:IntKind.i64.wrap ((f:Int)+1)=f+1:=aP (by omega);have V5:IntKind.i64.wrap 0=0:=aP (by omega);cases pw:out.contains (w:Int)
 case true=>
  have Ia:w<a:=by
   rcases nx with h|⟨rfl,_⟩
   .exact h
   .rw[pw]at g3;cases g3
  simp[s2,s3,e2,e3,cJ,dw,er,s5,s9,e9,cb,kR,s6,s7,kv,V5];refine⟨⟨by simp[ai,ah,s2],by simp[ai,ah,s3],e2,e3,by simp[ai,ah,cJ],by simp[ai,ah,dw],by simp[ai,ah,er],by simp[ai,ah,s5,grow],by simp[ai,ah,s9],e9,by simp[ai,ah,cb],w+1,0,D,kR,by simp[ai,ah],by simp[ai,ah],by rw[<-hD,DF Ia pw],by omega,λ_=>adr _,λ_=>adr _⟩,?_⟩;simp[NO,au];omega
 have hlen:(((w:Nat):Int))<s.words.length:=by omega
 cases zU:((f:Int)==s.words[w].aM.length)
 case true=>
  have VE:ct s w<=f:=by rw[Jo];simp at zU;omega
  have Ia:w<a:=by
   rcases nx with h|⟨rfl,h⟩
   .exact h
   .rw[Jo]at VE;omega
  simp[s2,s3,e2,e3,cJ,dw,er,s5,s9,e9,cb,kR,s6,s7,kv,V5,aZ,ae,bT,cZ,rI,zU];refine⟨⟨by simp[ai,ah,s2],by simp[ai,ah,s3],e2,e3,by simp[ai,ah,cJ],by simp[ai,ah,dw],by simp[ai,ah,er],by simp[ai,ah,s5,grow],by simp[ai,ah,s9],e9,by simp[ai,ah,cb],w+1,0,D,kR,by simp[ai,ah],by simp[ai,ah],by rw[<-hD,Lm Ia VE],by omega,λ_=>adr _,λ_=>adr _⟩,?_⟩;simp[NO,au];omega
 have bP:f≠s.words[w].aM.length:=by simp at zU;omega
 have hfw:f<ct s w:=by
  rcases nx with h|⟨rfl,h⟩
  .have:=xj h;omega
  .omega
 have dI:aJ 2 [AV.agg [AV.int .i64 (w:Nat),AV.int .i64 (f:Nat)]]=true:=rfl;simp[s2,s3,e2,e3,cJ,dw,er,s5,s9,e9,cb,kR,s6,s7,aZ,ae,bT,cZ,rI,zU,bV,dI];refine fk (D.map gA) (gA (w,f)) (.own 261) (by simp[grow]) (by simp[gA]) rfl (Ue _) (by rw[acC];omega) ?_;intro S' sd dN;simp[sd,dN,s2,s3,e2,e3,cJ,dw,er,s5,s9,e9,cb,s6,s7,hf1,grow];refine⟨⟨by simp[ai,ah,dN,s2],by simp[ai,ah,dN,s3],?_,?_,by simp[ai,ah,dN,cJ],by simp[ai,ah,dN,dw],by simp[ai,ah,dN,er],by simp[ai,ah,dN,s5,grow],by simp[ai,ah,dN,s9],?_,by simp[ai,ah,dN,cb],w,f+1,D++[(w,f)],?_,by simp[ai,ah,dN,s6],by simp[ai,ah],?_,hwa,?_,?_⟩,?_⟩
 .simp[ai,ah,e2,aZ,ae,bT]
 .simp[ai,ah,e3]
 .simp[ai,ah,e9]
 .simp[ai,ah,grow]
 .have iU:iH s out (w,f) (a,b)=(w,f)::iH s out (w,f+1) (a,b):=SM (by
   rcases nx with h|h
   .exact .inl ⟨h,pw,hfw⟩
   .exact .inr h)
  rw[<-hD,iU];simp
 .intro h;rcases nx with h'|h'<;>omega
 .intro _;omega
 .simp[NO,au,dN,s6];omega
def yx{s:aF}{st:Int}{l:List Lt}{i:Nat}(h:i<l.length):MH s st l (i+1)=ic s st l i+gf s l[i]:=by
 show ic s st l i+(match l[i]? with|some a=>gf s a|none=>0)=_;rw[acx h]
def Mb(s:aF)(st:Int)(l:List Lt)(i:Nat):(List.range (i+1)).map (ic s st l)=(List.range i).map (ic s st l)++[ic s st l i]:=by
 rw[ady,ada];rfl
def Yu(hG:aw GI)(s:aF)(hs:oP s)(hF:kl s){l:List Lt}(bP:l≠[])(hl:l.length<10000)(ho:∀a∈l,PX s a){st:Int}(h0:0<=st)(h1:st<=10):AC prog GI 243 [bU s,.slice .view (l.map mz),.int .i64 st] (.ret (vI (zK s st l))):=by
 have fI:=ade.2 bP
 have pO:EC s st l=MH s st l l.length:=by
  rw[Bu bP]
  obtain⟨n,hn⟩:∃n,l.length=n+1:=⟨l.length-1,by omega⟩
  have:=yx (s:=s) (st:=st) (l:=l) (i:=n) (by omega);simp only[hn,aeb];exact this.symm
 refine AC.gW (o:=.own 3) ?_;refine cE hG func243 ntmps243 c243 ?_;refine aI (λS H=>S 3=.box 3 0/\S 1=.slice .view (l.map mz)/\S 2=.int .i64 st/\H 3=some (ae s)) (by simp[ai,ah,bU,ae]) ?_;rintro S H ⟨s3,s1,s2,e3⟩;simp[ai,ah,s3,s1,s2,e3];refine bC 9 l.length (λi S H=>S 3=.box 3 0/\S 1=.slice .view (l.map mz)/\S 2=.int .i64 st/\H 3=some (ae s)/\S 9=.int .i64 (i:Nat)/\S 7=fe ((List.range i).map (ic s st l))/\S 8=.int .i64 (MH s st l i)) (λi S H h=>h.2.2.2.2.1) ⟨by simp[ai,ah,s3],by simp[ai,ah,s1],by simp[ai,ah,s2],by simp[ai,ah,e3],by simp[ai,ah],by simp[ai,ah,fe,grow],by simp[ai,ah,MH]⟩ ?_;clear s3 s1 s2 e3 S H;rintro i hi S H ⟨s3,s1,s2,e3,s9,s7,s8⟩
 by_cases av:i<l.length
 case neg=>
  have cN:i=l.length:=by omega
  subst cN
  have hlen:((List.range l.length).map (ic s st l)).length<1000000:=by simp;omega
  have dI:aJ 1 [AV.int .i64 (MH s st l l.length)]=true:=rfl;unfold zK;rw[pO];generalize(List.range l.length).map (ic s st l)=L at s7 hlen⊢;generalize MH s st l l.length=X at s8 dI⊢;simp[s3,s1,s2,e3,s9,s7,s8,dI];refine fk (L.map (AV.int .i64)) (AV.int .i64 X) (.own 3) (by simp[s7,fe,grow]) (by simp) rfl (l5 _) (by rw[acC];omega) ?_;intro S' sd dN;simp[sd,dN,s3,s1,s2,e3,s9,s7,s8,grow,ints]
 have hw:IntKind.i64.wrap ((i:Int)+1)=i+1:=aP (by omega);have rA:=sG hF (ho _ (acy av));have jo:=rN hF h0 h1 ho av;rw[yx av,Mb]
 have hlen:((List.range i).map (ic s st l)).length<1000000:=by simp;omega
 generalize(List.range i).map (ic s st l)=L at s7 hlen⊢;have MD:IntKind.i64.wrap (ic s st l i+gf s l[i])=ic s st l i+gf s l[i]:=aP (by omega);have dI:aJ 1 [AV.int .i64 (ic s st l i)]=true:=rfl
 cases i with
 |zero=>
  have Mt:ic s st l 0=0:=rfl;have ha0:MH s st l 0=0:=rfl;rw[ha0]at s8;rw[Mt]at MD dI⊢;simp[s3,s1,s2,e3,s9,s7,s8,av,dI];refine fk (L.map (AV.int .i64)) (AV.int .i64 0) (.own 3) (by simp[s7,fe,grow]) (by simp) rfl (l5 _) (by rw[acC];omega) ?_;intro S' sd dN;simp[sd,dN,s3,s1,s2,e3,s9,s8,av,mz,ae];refine oc (SZ hG s (ho _ (acy av))) ?_;simp[sd,dN,s3,s1,s2,e3,s9,s8,av,fe,ae];exact⟨aP (by omega),aP (by omega)⟩
 |succ m=>
  have zY:m<l.length:=by omega
  have hpm:=rN hF h0 h1 ho zY;have CX:=sG hF (ho _ (acy zY));have nr:=mX hF l[m] l[m+1];have I':=kV nr.2.1 h0 h1;have aaO:=mI (s:=s) (st:=st) av;rw[yx zY]at s8
  have hX0:0<=ic s st l m+gf s l[m]/\ic s st l m+gf s l[m]<=1000000:=by omega
  have iS:kX s st l[m] l[m+1]=jP (fU s l[m] l[m+1]).1 (fU s l[m] l[m+1]).2 st:=rfl;rw[aaO,iS]at dI MD jo⊢;unfold jP at I' dI MD jo⊢
  obtain⟨p,hp⟩:∃p,fU s l[m] l[m+1]=p:=⟨_,rfl⟩
  obtain⟨lo,A1⟩:=p;have a28:=Xo (GI:=GI) hG s hs l[m] l[m+1];rw[hp]at a28 nr I' dI MD jo⊢;simp only at nr I' dI MD jo⊢;generalize ic s st l m+gf s l[m]=X at s8 hX0 dI MD jo⊢;have CB:0<=(A1-lo)*st:=ad3 (by omega) h0;have E0:(A1-lo)*st<=20*10:=aep (by omega) h1 h0 (by omega);have w1:IntKind.i64.wrap (X+lo)=X+lo:=aP (by omega);have w2:IntKind.i64.wrap (A1-lo)=A1-lo:=aP (by omega);have w3:IntKind.i64.wrap ((A1-lo)*st)=(A1-lo)*st:=aP (by omega);have w4:IntKind.i64.wrap (((A1-lo)*st).tdiv 10)=((A1-lo)*st).tdiv 10:=aP (by omega)
  have w5:IntKind.i64.wrap (X+lo+((A1-lo)*st).tdiv 10)=X+(lo+((A1-lo)*st).tdiv 10):=by rw[aP (by omega)];omega
  have aam:IntKind.i64.wrap (m:Int)=m:=aP (by omega);have iy:IntKind.i64.wrap ((m:Int)+1+1)=m+1+1:=aP (by omega)
  have BI:(0:Int)<(m:Int)+1:=by omega
  have VO:(0:Int)<=(m:Int)+1:=by omega
  have jG:(m:Int)+1<l.length:=by omega
  simp[s3,s1,s2,e3,s9,s7,s8,av,jG,BI,VO,aam,zY,mz,ae];refine oc a28 ?_;simp[s3,s1,s2,e3,s9,s7,s8,av,jG,Q8,w1,w2,w3,w4,w5,dI];refine fk (L.map (AV.int .i64)) (AV.int .i64 (X+(lo+((A1-lo)*st).tdiv 10))) (.own 3) (by simp[s7,fe,grow]) (by simp) rfl (l5 _) (by rw[acC];omega) ?_;intro S' sd dN;simp[sd,dN,s3,s1,s2,e3,s9,s8,av,jG,VO,mz,ae];refine oc (SZ hG s (ho _ (acy av))) ?_;simp[sd,dN,s3,s1,s2,e3,s9,s8,av,fe,ae];exact⟨iy,MD⟩
def lG(s:aF)(D:List (Nat×Nat)):AV:=grow 311 (D.map λg=>mz (bl s g))
def MT(s:aF)(D:List (Nat×Nat)):aJ 2 (D.map λg=>mz (bl s g))=true:=iK λa=>⟨rfl,rfl⟩
def fW(a:Nat×Nat)(w:Nat):Nat:=if w=a.1 then a.2 else 0
def uQ(s:aF)(out:List Int)(a e:Nat×Nat)(w:Nat):List (Nat×Nat):=if w<=e.1 then iH s out (w,fW a w) e else[]
def I85(s:aF)(out:List Int)(a e:Nat×Nat)(w:Nat)(S:an)(H:aq):Prop:=S 4=.box 4 0/\S 6=.box 6 0/\S 7=.box 7 0/\S 1=vI out/\H 4=some (ae s)/\H 6=some [.int .i64 a.1,.int .i64 a.2]/\H 7=some [.int .i64 e.1,.int .i64 e.2]/\S 10=.int .i64 (w:Nat)/\∃D,S 9=lG s D/\D++uQ s out a e w=iH s out a e
def Wu (hG:aw GI) (s:aF) (hs:bf s=true) (out:List Int) (ho:out.length < 1000000) (a e:Nat×Nat) (h1:e.1 < s.words.length) (h2:e.2≤ct s e.1) (h3:a.1 < e.1∨a.1=e.1∧a.2 < e.2) (h4:a.2≤ct s a.1) (h5:out.contains (e.1:Int)=false) :
  AC prog GI 256 [bU s,vI out,a_ ((a.1:Int),(a.2:Int)),a_ ((e.1:Int),(e.2:Int))] (.ret (.slice .view ((oZ ((iH s out a e).map (bl s)) (decide (e.2<ct s e.1)) e.1).map mz))):=by
 have hF:=eM hs;have acr:=hF.words
 have EN:=λw=>(rM hs (out:=out) w).2
 have Jq:(iH s out a e).length<=(e.1-a.1+1)*6:=yp (b:=6) EN (e.1-a.1) a.1 a.2 e.2 (by have:=EN e.1;omega)
 have aaV:(iH s out a e).length<=24:=by
  have:(e.1-a.1+1)*6<=4*6:=adJ _ (by omega);omega
 refine AC.gW (o:=if(oZ ((iH s out a e).map (bl s)) (decide (e.2<ct s e.1)) e.1)=[]then .nil else .view) ?_;refine cE hG func256 ntmps256 c256 ?_;refine aI (λS H=>S 4=.box 4 0/\S 6=.box 6 0/\S 7=.box 7 0/\S 1=vI out/\H 4=some (ae s)/\H 6=some [.int .i64 a.1,.int .i64 a.2]/\H 7=some [.int .i64 e.1,.int .i64 e.2]) (by simp[ai,ah,bU,ae,a_]) ?_;rintro S H ⟨s4,s6,s7,s1,e4,e6,e7⟩;refine aI (λS H=>S 4=.box 4 0/\S 6=.box 6 0/\S 7=.box 7 0/\S 1=vI out/\H 4=some (ae s)/\H 6=some [.int .i64 a.1,.int .i64 a.2]/\H 7=some [.int .i64 e.1,.int .i64 e.2]/\S 9=lG s []) (by simp[ai,ah,s4,s6,s7,s1,e4,e6,e7,lG,grow]) ?_;clear s4 s6 s7 s1 e4 e6 e7 S H;rintro S H ⟨s4,s6,s7,s1,e4,e6,e7,s9⟩;refine aI (λS H=>I85 s out a e (e.1+1) S H) ?_ ?_
 .simp[ai,ah,s4,s6,s7,s1,e4,e6,e7];refine qR 10 a.1 (e.1+1) (I85 s out a e) (by omega) (λi S H h=>h.2.2.2.2.2.2.2.1) ⟨by simp[ai,ah,s4],by simp[ai,ah,s6],by simp[ai,ah,s7],by simp[ai,ah,s1],by simp[ai,ah,e4],by simp[ai,ah,e6],by simp[ai,ah,e7],by simp[ai,ah],[],by simp[ai,ah,s9],?_⟩ ?_
  .unfold uQ fW;rw[if_pos (by omega),if_pos rfl];rfl
  clear s4 s6 s7 s1 e4 e6 e7 s9 S H;rintro w kv iy S H ⟨s4,s6,s7,s1,e4,e6,e7,cb,D,s9,hD⟩
  by_cases hle:w<=e.1
  case neg=>
   have X_:w=e.1+1:=by omega
   subst X_
   have zd:¬((e.1:Int)+1<=e.1):=by omega
   simp[ai,ah,s4,s6,s7,s1,e4,e6,e7,cb,s9,zd];exact⟨by simp[ai,ah,s4],by simp[ai,ah,s6],by simp[ai,ah,s7],by simp[ai,ah,s1],e4,e6,e7,by simp[ai,ah,cb],D,by simp[ai,ah,s9],hD⟩
  have zd:(w:Int)<=e.1:=by omega
  have rI:w<s.words.length:=by omega
  have Jo:=fM rI;have hws:IntKind.i64.wrap ((w:Int)+1)=w+1:=aP (by omega)
  have hDl:D.length<=24:=by
   have:=congrArg List.length hD;rw[acV]at this;omega
  unfold uQ at hD;rw[if_pos hle]at hD;simp[ai,ah,s4,s6,s7,s1,e4,e6,e7,cb,s9,zd];refine⟨_,by kernel_rfl,NJ hG out w (by omega),λ_=>rfl,?_⟩;cases pw:out.contains (w:Int)
  case true=>
   have X_:w<e.1:=by
    by_cases h:w=e.1
    .subst h;rw[pw]at h5;cases h5
    .omega
   simp[ai,ah,s4,s6,s7,s1,e4,e6,e7,cb,s9,hws];refine⟨by omega,by simp[ai,ah,s4],by simp[ai,ah,s6],by simp[ai,ah,s7],by simp[ai,ah,s1],e4,e6,e7,by simp[ai,ah],D,by simp[ai,ah,s9],?_⟩;unfold uQ fW;rw[if_pos (by omega),if_neg (by omega),<-hD,DF X_ pw]
  obtain⟨f,hf⟩:∃f,f=fW a w:=⟨_,rfl⟩
  obtain⟨t,ht⟩:∃t,t=if w=e.1 then e.2 else ct s w:=⟨_,rfl⟩
  have BT:f<=t:=by
   rw[hf,ht];unfold fW
   by_cases c1:w=a.1
   .rw[if_pos c1]
    by_cases c2:w=e.1
    .rw[if_pos c2];omega
    .rw[if_neg c2,c1];exact h4
   .rw[if_neg c1];exact adr _
  have wV:t<=s.words[w].aM.length:=by
   rw[ht,<-Jo]
   by_cases c2:w=e.1
   .rw[if_pos c2,c2];exact h2
   .rw[if_neg c2];exact acD _
  have Uc:iH s out (w,f) e=mE w f t++uQ s out a e (w+1):=by
   unfold uQ fW;rw[ht]
   by_cases c2:w=e.1
   .subst c2;rw[if_pos rfl,if_neg (by omega),adn];exact uO
   .rw[if_neg c2,if_pos (by omega),if_neg (by omega),po (by omega),pw];rfl
  rw[<-hf]at hD
  obtain⟨ba,hba⟩:∃b:Bool,((w:Int)==(a.1:Int))=b:=⟨_,rfl⟩
  obtain⟨be,vR⟩:∃b:Bool,((w:Int)==(e.1:Int))=b:=⟨_,rfl⟩
  have lT:f=if ba then a.2 else 0:=by
   rw[hf,<-hba];unfold fW
   by_cases c:w=a.1
   .rw[if_pos c,if_pos (by simp;omega)]
   .rw[if_neg c,if_neg (by simp;omega)]
  have htv:t=if be then e.2 else s.words[w].aM.length:=by
   rw[ht,<-vR]
   by_cases c:w=e.1
   .rw[if_pos c,if_pos (by simp;omega)]
   .rw[if_neg c,if_neg (by simp;omega),Jo]
  clear hf ht
  cases ba<;>cases be
  all_goals
   simp at lT htv;simp[ai,ah,s4,s6,s7,s1,e4,e6,e7,cb,s9,hba,vR,ae,cZ,rI];refine qR 13 f t (λi S H=>S 4=.box 4 0/\S 6=.box 6 0/\S 7=.box 7 0/\S 1=vI out/\H 4=some (ae s)/\H 6=some [.int .i64 a.1,.int .i64 a.2]/\H 7=some [.int .i64 e.1,.int .i64 e.2]/\S 10=.int .i64 (w:Nat)/\S 12=.int .i64 t/\S 13=.int .i64 (i:Nat)/\S 9=lG s (D++mE w f i)) BT (λi S H h=>h.2.2.2.2.2.2.2.2.2.1) ⟨by simp[ai,ah,s4],by simp[ai,ah,s6],by simp[ai,ah,s7],by simp[ai,ah,s1],by simp[ai,ah,e4,ae],by simp[ai,ah,e6],by simp[ai,ah,e7],by simp[ai,ah,cb],by simp[ai,ah,htv],by simp[ai,ah,lT],by simp[ai,ah,s9,Ce]⟩ ?_;clear s4 s6 s7 s1 e4 e6 e7 s9 cb S H;rintro i Hw oA S H ⟨s4,s6,s7,s1,e4,e6,e7,cb,cJ,dw,s9⟩
   by_cases hit:i<t
   case neg=>
    obtain rfl:i=t:=by omega
    simp[ai,ah,s4,s6,s7,s1,e4,e6,e7,cb,cJ,dw,s9,hws];refine⟨by omega,by simp[ai,ah,s4],by simp[ai,ah,s6],by simp[ai,ah,s7],by simp[ai,ah,s1],e4,e6,e7,by simp[ai,ah],D++mE w f i,by simp[ai,ah,s9],?_⟩;rw[<-hD,Uc,adI]
   have cN:i<s.words[w].aM.length:=by omega
   have G4:bl s (w,i)=((w:Int),s.words[w].aM[i]):=by unfold bl;simp[acx rI,cN]
   have ss:IntKind.i64.wrap ((i:Int)+1)=i+1:=aP (by have:=EN w;omega);have dI:aJ 2 [AV.agg [AV.int .i64 (w:Nat),AV.int .i64 s.words[w].aM[i]]]=true:=rfl
   have EP:(D++mE w f i).length<100:=by
    rw[acV,B6];have:=EN w;omega
   rw[DS Hw,<-adI];generalize D++mE w f i=M at s9 EP⊢;simp[s4,s6,s7,s1,e4,e6,e7,cb,cJ,dw,s9,hit,ae,cZ,rI,cN,bV,dI];refine fk (M.map λg=>mz (bl s g)) (mz (bl s (w,i))) (.own 311) (by simp[lG]) (by rw[G4];simp[mz]) (by rw[G4];rfl) (MT _ _) (by rw[acC];omega) ?_;intro S' sd dN;simp[sd,dN,s4,s6,s7,s1,e4,e6,e7,cb,cJ,dw,hit,ss,lG,ae]
 clear s4 s6 s7 s1 e4 e6 e7 s9 S H;rintro S H ⟨s4,s6,s7,s1,e4,e6,e7,cb,D,s9,hD⟩;unfold uQ at hD;rw[if_neg (by omega),adn]at hD;rw[<-hD]at aaV⊢
 have Ab:(D.map (bl s)).map mz=D.map λg=>mz (bl s g):=by rw[ad2];rfl
 by_cases hc:e.2<ct s e.1
 .have Ym:oZ (D.map (bl s)) (decide (e.2<ct s e.1)) e.1=D.map (bl s)++[((e.1:Int),-1)]:=by rw[adX hc];rfl
  have bP:D.map (bl s)++[((e.1:Int),(-1:Int))]≠[]:=by simp
  rw[Ym,ada,Ab,if_neg bP];rw[fM h1]at hc
  have mU:(e.2:Int)<s.words[e.1].aM.length:=by omega
  have dI:aJ 2 [AV.agg [AV.int .i64 (e.1:Nat),AV.int .i64 (-1)]]=true:=rfl;simp[s4,s6,s7,s1,e4,e6,e7,cb,s9,ae,cZ,h1,hc,mU,bV,dI];refine fk (D.map λg=>mz (bl s g)) (mz ((e.1:Int),-1)) (.own 311) (by simp[lG]) (by simp[mz]) rfl (MT _ _) (by rw[acC];omega) ?_;intro S' sd dN;simp[sd,dN,grow]
 .have Ym:oZ (D.map (bl s)) (decide (e.2<ct s e.1)) e.1=D.map (bl s):=by rw[aeh hc];rfl
  rw[Ym,Ab];rw[fM h1]at hc
  have mU:¬(e.2:Int)<s.words[e.1].aM.length:=by omega
  by_cases TR:D=[]
  .have RN:S 9=.slice .nil []:=by rw[s9,TR];rfl
   simp[ai,ah,s4,s6,s7,s1,e4,e6,e7,cb,RN,ae,cZ,h1,hc,mU,TR]
  .have RN:S 9=.slice (.own 311) (D.map λg=>mz (bl s g)):=by rw[s9];simp[lG,grow,TR]
   simp[ai,ah,s4,s6,s7,s1,e4,e6,e7,cb,RN,ae,cZ,h1,hc,mU,TR]
def fg(s:aF)(out:List Int)(es:List End)(i:Nat):List Lt:=oZ ((gY s out es i).map (bl s)) (j9 s es i) (match es[i]? with|some e=>e.1|none=>0)
def iP(s:aF)(out:List Int)(es:List End)(n:Nat):List AV:=(List.range n).map λi=>.slice .view ((fg s out es i).map mz)
def F'(s:aF)(out:List Int)(es:List End)(n:Nat):iP s out es (n+1)=iP s out es n++[.slice .view ((fg s out es n).map mz)]:=by
 unfold iP;rw[ady,ada];rfl
def K4(s:aF)(out:List Int)(es:List End)(n:Nat):aJ 1 (iP s out es n)=true:=iK λa=>⟨rfl,rfl⟩
def nk(s:aF)(out:List Int)(es:List End)(n:Nat):(iP s out es n).length=n:=by unfold iP;simp
def zi(s:aF)(out:List Int)(es:List End){n i:Nat}(h:i<n):(iP s out es n)[i]?=some (.slice .view ((fg s out es i).map mz)):=by
 unfold iP;rw[ac1,List.getElem?_range h];rfl
def E1(s:aF)(out:List Int)(es:List End){n i:Nat}(h:i<(iP s out es n).length):(iP s out es n)[i]=.slice .view ((fg s out es i).map mz):=by
 have:=zi s out es (n:=n) (i:=i) (by rw[nk]at h;exact h);rw[acx h]at this;exact acX this
def JB{es:List End}{i:Nat}(h:i<es.length):j3 es (i+1)=nE es[i]:=by
 show(match es[i]? with|some e=>nE e|none=>(0,0))=_;rw[acx h]
def Wq(hG:aw GI)(s:aF)(hs:bf s=true)(out:List Int)(ho:out.length<1000000)(es:List End)(he:es.length<100000)(g:Good s out es):AC prog GI 242 [bU s,aL out es] (.ret (.slice .view (iP s out es es.length))):=by
 refine AC.gW (o:=if iP s out es es.length=[]then .nil else .view) ?_;refine cE hG func242 ntmps242 c242 ?_;refine aI (λS H=>S 2=.box 2 0/\S 3=.box 3 0/\H 2=some (ae s)/\H 3=some [vI out,.slice .view (es.map a_)]) (by simp[ai,ah,bU,ae,aL,aS]) ?_;rintro S H ⟨s2,s3,e2,e3⟩;simp[ai,ah,s2,s3,e2,e3];refine bC 7 es.length (λi S H=>S 2=.box 2 0/\S 3=.box 3 0/\S 6=.box 6 0/\H 2=some (ae s)/\H 3=some [vI out,.slice .view (es.map a_)]/\H 6=some [.int .i64 (j3 es i).1,.int .i64 (j3 es i).2]/\S 7=.int .i64 (i:Nat)/\S 5=grow 298 (iP s out es i)) (λi S H h=>h.2.2.2.2.2.2.1) ⟨by simp[ai,ah,s2],by simp[ai,ah,s3],by simp[ai,ah],by simp[ai,ah,e2],by simp[ai,ah,e3],by simp[ai,ah,j3],by simp[ai,ah],by simp[ai,ah,grow,iP]⟩ ?_;clear s2 s3 e2 e3 S H;rintro i hi S H ⟨s2,s3,s6,e2,e3,e6,s7,s5⟩
 by_cases av:i<es.length
 case neg=>
  have cN:i=es.length:=by omega
  subst cN
  by_cases h0:iP s out es es.length=[]
  .have lE:S 5=.slice .nil []:=by rw[s5,h0];rfl
   simp[ai,ah,s2,s3,s6,e2,e3,e6,s7,lE,h0]
  .have lE:S 5=.slice (.own 298) (iP s out es es.length):=by rw[s5];simp[grow,h0]
   simp[ai,ah,s2,s3,s6,e2,e3,e6,s7,lE,h0]
 obtain⟨g1,g2,g3,g4,g5⟩:=g.one i av
 obtain⟨a,ha⟩:∃a:Nat,es[i].1=a:=⟨es[i].1.toNat,by omega⟩
 obtain⟨b,hb⟩:∃b:Nat,es[i].2=b:=⟨es[i].2.toNat,by omega⟩
 have hE:es[i]=((a:Int),(b:Int)):=Prod.ext ha hb
 have Pf:nE es[i]=(a,b):=by rw[hE];rfl
 have abU:nE ((a:Int),(b:Int))=(a,b):=rfl
 have gw:a<s.words.length:=by omega
 rw[ha]at g3 g5;rw[hb]at g4 g5;rw[Int.toNat_natCast]at g5;have hw:IntKind.i64.wrap ((i:Int)+1)=i+1:=aP (by omega);have NB:=At g av;rw[Pf]at NB
 have QG:(j3 es i).2<=ct s (j3 es i).1:=by
  cases i with
  |zero=>exact adr _
  |succ j=>
   rw[JB (by omega)];have:=g.one j (by omega);show es[j].2.toNat<=ct s es[j].1.toNat;omega
 have a85:=Wu hG s hs out ho (j3 es i) (a,b) gw (by show b<=ct s a;omega) NB QG g3
 have Bg:gY s out es i=iH s out (j3 es i) (a,b):=by rw[oJ av,Pf]
 have zI:j9 s es i=decide (b<ct s a):=by
  rw[vP av,hE];show decide ((b:Int)<(ct s (a:Int).toNat:Int))=_;rw[Int.toNat_natCast,decide_eq_decide];omega
 have G8:fg s out es i=oZ ((iH s out (j3 es i) (a,b)).map (bl s)) (decide (b<ct s a)) a:=by
  unfold fg;rw[Bg,zI,acx av,hE]
 simp only at a85;rw[<-G8]at a85;simp[s2,s3,s6,e2,e3,e6,s7,s5,av,hE,a_,ae];refine oc a85 ?_;have dI:aJ 1 [AV.slice .view ((fg s out es i).map mz)]=true:=rfl;simp[s2,s3,s6,e2,e3,e6,s7,s5,dI];refine oB (iP s out es i) (.slice .view ((fg s out es i).map mz)) (.own 298) (by simp[grow]) (by simp) rfl (K4 _ _ _ _) (by rw[nk];omega) ?_;intro S' sd dN;simp[sd,dN,s2,s3,s6,e2,e3,e6,s7,av,hw,hE,a_,JB av,abU,F',ae,grow]
def Ha{s:aF}{out:List Int}{es:List End}{st:Int}(hs:bf s=true)(g:Good s out es){i:Nat}(h:i<es.length):EC s st (fg s out es i)=jE s out es st i:=by
 have bP:=Ct g h;have hl:=BK g h;unfold fg jE;rw[acx h]
 refine Ph bP ?_ λp hp=>((eM hs).aW p hp).2.1
 have h1:=g.one i h
 have hlen:(gY s out es i).length≠0:=by simpa using bP
 rw[List.getLast?_eq_getElem?,acx (by omega)]at hl;have hl:=acX hl
 have e:((gY s out es i).map (bl s))[((gY s out es i).map (bl s)).length-1]'(by rw[acC];omega)=bl s ((nE es[i]).1,(nE es[i]).2-1):=by
  rw[acM,<-hl];simp
 rw[e];show((es[i].1.toNat:Nat):Int)=es[i].1;omega
def KQ{s:aF}{out:List Int}{es:List End}(g:Good s out es){i:Nat}(h:i<es.length):fg s out es i≠[]:=by
 have bP:=Ct g h;unfold fg oZ;split
 .simp
 .exact bP
def JI{s:aF}{out:List Int}{es:List End}(hs:bf s=true)(g:Good s out es)(i:Nat):(fg s out es i).length<=25:=by
 have:=xZ hs g i;unfold fg oZ
 split<;>simp<;>omega
def Lu{s:aF}{out:List Int}{es:List End}(hs:bf s=true)(g:Good s out es)(i:Nat):∀a∈fg s out es i,PX s a:=by
 intro a ha;unfold fg oZ at ha;split at ha
 .rcases acF.1 ha with ha|ha
  .exact .inr (Jx hs g a ha)
  .rw[ac4]at ha;subst ha;exact .inl (by show(-1:Int)<0;omega)
 .exact .inr (Jx hs g a ha)
def YI(hG:aw GI)(s:aF)(hs:oP s)(cV:bf s=true)(out:List Int)(ho:out.length<1000000)(es:List End)(he:es.length<100000)(bP:es≠[])(g:Good s out es){st:Int}(h0:0<=st)(h1:st<=10):AC prog GI 231 [bU s,aL out es,.int .i64 st] (.ret (vI (dh s out es st))):=by
 have hF:=eM cV;refine cE hG func231 ntmps231 c231 ?_;refine aI (λS H=>S 3=.box 3 0/\S 4=.box 4 0/\S 2=.int .i64 st/\H 3=some (ae s)/\H 4=some [vI out,.slice .view (es.map a_)]) (by simp[ai,ah,bU,ae,aL,aS]) ?_;rintro S H ⟨s3,s4,s2,e3,e4⟩;simp[ai,ah,s2,s3,s4,e3,e4,ae];refine oc (Wq hG s cV out ho es he g) ?_;simp[ai,ah,s2,s3,s4,e3,e4,nk];refine bC 9 es.length (λi S H=>S 2=.int .i64 st/\S 3=.box 3 0/\H 3=some (ae s)/\S 7=.slice .view (iP s out es es.length)/\S 9=.int .i64 (i:Nat)/\S 8=fe ((dh s out es st).take i)) (λi S H h=>h.2.2.2.2.1) ⟨by simp[ai,ah,s2],by simp[ai,ah,s3],by simp[ai,ah,e3,ae],by simp[ai,ah],by simp[ai,ah],by simp[ai,ah,fe,grow]⟩ ?_;clear s2 s3 s4 e3 e4 S H;rintro i hi S H ⟨s2,s3,e3,s7,s9,s8⟩
 by_cases av:i<es.length
 case neg=>
  have cN:i=es.length:=by omega
  subst cN;rw[acQ (by rw[od];exact acD _)]at s8
  have Zm:dh s out es st≠[]:=by
   intro e;have:=od s out es st;rw[e]at this;have:=ade.2 bP;simp at*;omega
  rcases tw (dh s out es st)with⟨_,hg⟩|hg
  .exact absurd hg Zm
  .rw[hg]at s8;simp[ai,ah,s2,s3,e3,s7,s9,s8,nk]
 have hw:IntKind.i64.wrap ((i:Int)+1)=i+1:=aP (by omega);have vx:=zi s out es av;have pO:=Ha (st:=st) cV g av;have hrn:=KQ g av;have Jq:=JI cV g i;have a95:=Yu hG s hs hF hrn (by omega) (Lu cV g i) h0 h1;have dI:aJ 1 [AV.int .i64 (jE s out es st i)]=true:=rfl;rw[C4 av]
 have hlen:((dh s out es st).take i).length<1000000:=by rw[adf];omega
 generalize(dh s out es st).take i=L at s8 hlen⊢
 have kd:(zK s st (fg s out es i)).length=(fg s out es i).length+1:=by unfold zK;simp
 have nC:(zK s st (fg s out es i))[(fg s out es i).length]'(by omega)=jE s out es st i:=by
  unfold zK;rw[adF (by simp)];simp[pO]
 have Af:IntKind.i64.wrap ((fg s out es i).length:Int)=(fg s out es i).length:=aP (by omega);simp[s2,s3,e3,s7,s9,s8,av,E1,nk,ae];refine oc a95 ?_
 have UX:(zK s st (fg s out es i))[(fg s out es i).length]?=some (jE s out es st i):=by rw[acx (by omega),nC]
 clear nC pO a95;generalize zK s st (fg s out es i)=B at kd UX⊢;generalize(fg s out es i).length=n at kd UX Jq Af
 have C0:n<B.length:=by omega
 have nC:B[n]=jE s out es st i:=by rw[acx C0]at UX;exact acX UX
 simp[s2,s3,e3,s7,s9,s8,kd,Af,C0,nC,dI];refine fk (L.map (AV.int .i64)) (AV.int .i64 (jE s out es st i)) (.own 3) (by simp[s8,fe,grow]) (by simp) rfl (l5 _) (by rw[acC];omega) ?_;intro S' sd dN;simp[sd,dN,s2,s3,e3,s7,s9,av,hw,fe,ae]
def Pt(l:List (List UInt8)):aJ 1 (l.map AV.str)=true:=iK λa=>⟨rfl,rfl⟩
end Go.Proofs.Tryz
namespace Go.Proofs.Tryz
open Go Go.AL Go.RowKit Go.Proofs Go.Proofs.Tram
def Tx {Pr:Nat→Nat→Prop} {w:World} {b:Nat} {ty:TypeId} {cells:Array Value} {es:List AV} {size:Nat} (hb:w.heap[b]? = some (.cells cells ty (0,0))) (hs:cells.size=es.length * size) (bg:∀ e∈es,e.cells.length=size∧∀ c∈e.cells,c.one=true)
  (hP:∀k,k<cells.size->Pr b k) (hr:∀i (h:i<es.length) j (hj:j<(es[i]).cells.length),RD Pr w ((es[i]).cells[j]) (cells.getD (i*size+j) undef)):RD Pr w (.slice .view es) (.slice (some ⟨b,0,none⟩) es.length es.length):=by
 refine .slice .view es b 0 es.length size (λk=>cells.getD k undef) (acD _) (λh=>by cases h) (λi h=>(bg _ (acy h)).1) (λi h j hj=>(bg _ (acy h)).2 _ (acy hj)) (λk hk=>?_) hr;rw[<-hs]at hk;refine⟨by rw[ac_];exact hP k hk,?_⟩;simp[World.cell?,hb,hk]
variable{GI:World->Prop}
end Go.Proofs.Tryz
namespace Go.Proofs.Tryz
open Go Go.AL Go.RowKit Go.Proofs Go.Proofs.Tram
def GQ {bE:Nat} {u:Value} {ty:TypeId} (w:World) (hE:w.heap[bE]? = some (.cells #[u] ty (0,0))) (n:Int) :
    CallsD prog 163 #[.pointer (some ⟨bE,0,none⟩)] (.panicking [{ v := .iface 192 (.agg #[.int .i64 n]),recovered:=false }]) w fun e u' w' =>
      e=.returned (.tuple #[])/\u'=.panicking [{ v:=.iface 192 (.agg #[.int .i64 n]),recovered:=true }]/\∃w1,Below w.heap.size w w1/\w'=w1.setRow bE #[.int .i64 7]:=by
  refine ae_ func163 rfl λBP cs hu=>?_
  apply agb;apply afD;simp[wpOpsS,go_sem,recoverD,hu,ntmps163,Exit.thenS];refine afM ?_;refine(fE (m:=0)).1 ?_;refine ia (λa=>a.tmps.size=14/\a.defers=[]/\a.tmps.getD 0 undef=.pointer (some ⟨bE,0,none⟩)/\a.tmps.getD 5 undef=.iface 192 (.agg #[.int .i64 n])) ⟨by simp,rfl,by simp,by simp⟩ ?_;rintro a ⟨bg,ee,h0,h5⟩;have av:=(acz.1 hE).1;refine ad1 (acO (ac6 ?_));show wpOpsIn _ _ _ _ _ [0] a w;refine aV rfl rfl (by rfl) (qZ (x:=.tmp 5) w rfl h5) ?_;show Code.wpIn _ _ _ _ _ (a.put (some 7) (.bool false)) w
  have h7:(a.put (some 7) (.bool false)).tmps.getD 7 undef=.bool false:=by simp[Act.put,bg]
  refine adu (t:=false) h7 ?_;simp only[acI,acW];refine ia (λa=>a.tmps.size=14/\a.defers=[]/\a.tmps.getD 0 undef=.pointer (some ⟨bE,0,none⟩)/\a.tmps.getD 5 undef=.iface 192 (.agg #[.int .i64 n])) ⟨by simp[Act.put,bg],ee,by simpa[Act.put,acB]using h0,by simpa[Act.put,acB]using h5⟩ ?_;clear h7 h5 h0 ee bg a;rintro a ⟨bg,ee,h0,h5⟩
  have hS:∀ (a:Act) (w:World),a.tmps.getD 5 undef = .iface 192 (.agg #[.int .i64 n])→∀ t,t < 14→((fun t=>if t=5 then AV.iface 192 (.agg [.int .i64 n]) else AV.bm:an) t).aH=(fun t=>if t=5 then AV.iface 192 (.agg [.int .i64 n]) else AV.bm:an) t ∧
      RV (λ_ _=>True) cD w ((λt=>if t=5 then AV.iface 192 (.agg [.int .i64 n])else AV.bm:an) t) (a.tmps.getD t undef):=by
    intro a w h5 t ht
    by_cases h:t=5
    . subst h
      rw[h5];refine⟨rfl,.data _ _ (.iface _ _ _ (.agg _ _ rfl (λi hi=>?_) (λi hi cQ=>?_)))⟩
      . have:i=0:=by simpa using hi
        subst this;rfl
      . have:i=0:=by simpa using hi
        subst this;exact .int _ _
    . simp only[h,acW];exact⟨rfl,.bm _⟩
  refine acO ?_;refine cm (GI:=λ_=>True) (λ_ _ _ _=>trivial) dO (ac:=af.qa c163.qb.qb.qb.qb) (W:=λt=>decide (8<=t)) (by kernel_rfl) (by kernel_rfl) (by kernel_rfl) trivial (λ_ _=>True) _ bg ee (hS a w h5) (K:=λS' _=>S' 9=.bool true/\S' 10=.agg [.int .i64 n]) ?_ ?_
  . simp[c163,af.qa,af.qb,bL,bw,aG,bh,aD,aO,aQ.S,aQ.H,ev,au,aY,AV.aH]
  rintro g S' H' a' w' hg R1 ⟨h9,qI⟩ bj;have t9:=R1.slot 9 (by decide) (λh=>h);rw[h9]at t9;have t9:=t9.fq;have t10:=R1.slot 10 (by decide) (λh=>h);rw[qI]at t10
  have b1:Below w.heap.size w w':=by have:=R1.below;rwa [R1.base]at this
  show Code.wpIn _ _ _ _ _ a' w';refine adu (t:=true) t9 ?_;simp only[ac3];refine acO ?_;refine jl R1 (GI:=λ_=>True) (λ_ _ _ _=>trivial) trivial dO (ac:=af.qa c163.qb.qb.qb.qb.qb.qa) (W:=λt=>decide (1<=t)) (by kernel_rfl) (by kernel_rfl) (by kernel_rfl) (by rw[hg];exact λ_ h=>h) (K:=λ_ _=>True) ?_ ?_
  . simp[c163,af.qa,af.qb,bL,bw,aG,bh,aD,aO,aQ.S,aQ.H,ev,au,aY,AV.aH,qI,bQ,HR.okB,AV.cells,AV.storable,bu,AV.bZ,bG]
  rintro g2 S2 H2 a2 w2 nR R2 _ jX
  have b2:Below w.heap.size w w2:=by have:=R2.below;rwa [R2.base]at this
  have e0:a2.tmps.getD 0 undef=.pointer (some ⟨bE,0,none⟩):=(jX 0 rfl).trans ((bj 0 rfl).trans h0);have G5:w2.heap[bE]?=some (.cells #[u] ty (0,0)):=(b2.block bE av).trans hE;obtain⟨i36,qu,qD⟩:=iZ 34 1;show Code.wpIn _ _ _ _ _ a2 w2;refine ac6 ?_;show wpOpsIn _ _ _ _ _ [0] a2 w2;refine dU rfl rfl (by rfl) (il (x:=.tmp 0) (y:=.const (.int .i64 7)) (v:=.int .i64 7) rfl e0 qu qD G5 rfl rfl) ?_;refine⟨by show a2.defers=[];rw[R2.defers,nR,hg];rfl,_,rfl,.tuple #[],?_,rfl,rfl,w2,b2,rfl⟩;simp[results,results163]
def Gs {bE:Nat} {u:Value} {ty:TypeId} (w:World) (hE:w.heap[bE]? = some (.cells #[u] ty (0,0))) (n:List UInt8) :
    CallsD prog 163 #[.pointer (some ⟨bE,0,none⟩)] (.panicking [{ v := .iface 203 (.agg #[.string ⟨n.toArray⟩]),recovered:=false }]) w fun e u' w' =>
      e=.returned (.tuple #[])/\u'=.panicking [{ v:=.iface 203 (.agg #[.string ⟨n.toArray⟩]),recovered:=true }]/\∃w1,Below w.heap.size w w1/\w'=w1.setRow bE #[.int .i64 4]:=by
  refine ae_ func163 rfl λBP cs hu=>?_
  apply agb;apply afD;simp[wpOpsS,go_sem,recoverD,hu,ntmps163,Exit.thenS];refine afM ?_;refine(fE (m:=0)).1 ?_;refine ia (λa=>a.tmps.size=14/\a.defers=[]/\a.tmps.getD 0 undef=.pointer (some ⟨bE,0,none⟩)/\a.tmps.getD 5 undef=.iface 203 (.agg #[.string ⟨n.toArray⟩])) ⟨by simp,rfl,by simp,by simp⟩ ?_;rintro a ⟨bg,ee,h0,h5⟩;have av:=(acz.1 hE).1;refine ad1 (acO (ac6 ?_));show wpOpsIn _ _ _ _ _ [0] a w;refine aV rfl rfl (by rfl) (qZ (x:=.tmp 5) w rfl h5) ?_;show Code.wpIn _ _ _ _ _ (a.put (some 7) (.bool false)) w
  have h7:(a.put (some 7) (.bool false)).tmps.getD 7 undef=.bool false:=by simp[Act.put,bg]
  refine adu (t:=false) h7 ?_;simp only[acI,acW];refine ia (λa=>a.tmps.size=14/\a.defers=[]/\a.tmps.getD 0 undef=.pointer (some ⟨bE,0,none⟩)/\a.tmps.getD 5 undef=.iface 203 (.agg #[.string ⟨n.toArray⟩])) ⟨by simp[Act.put,bg],ee,by simpa[Act.put,acB]using h0,by simpa[Act.put,acB]using h5⟩ ?_;clear h7 h5 h0 ee bg a;rintro a ⟨bg,ee,h0,h5⟩
  have hS:∀ (a:Act) (w:World),a.tmps.getD 5 undef = .iface 203 (.agg #[.string ⟨n.toArray⟩])→∀ t,t < 14→((fun t=>if t=5 then AV.iface 203 (.agg [.str n]) else AV.bm:an) t).aH=(fun t=>if t=5 then AV.iface 203 (.agg [.str n]) else AV.bm:an) t ∧
      RV (λ_ _=>True) cD w ((λt=>if t=5 then AV.iface 203 (.agg [.str n])else AV.bm:an) t) (a.tmps.getD t undef):=by
    intro a w h5 t ht
    by_cases h:t=5
    . subst h
      rw[h5];refine⟨rfl,.data _ _ (.iface _ _ _ (.agg _ _ rfl (λi hi=>?_) (λi hi cQ=>?_)))⟩
      . have:i=0:=by simpa using hi
        subst this;rfl
      . have:i=0:=by simpa using hi
        subst this;exact .str _
    . simp only[h,acW];exact⟨rfl,.bm _⟩
  refine acO ?_;refine cm (GI:=λ_=>True) (λ_ _ _ _=>trivial) dO (ac:=af.qa c163.qb.qb.qb.qb) (W:=λt=>decide (8<=t)) (by kernel_rfl) (by kernel_rfl) (by kernel_rfl) trivial (λ_ _=>True) _ bg ee (hS a w h5) (K:=λS' _=>S' 9=.bool false/\S' 5=.iface 203 (.agg [.str n])) ?_ ?_
  . simp[c163,af.qa,af.qb,bL,bw,aG,bh,aD,aO,aQ.S,aQ.H,ev,au,aY,AV.aH]
  rintro g0 S0 H0 a0 Wg BI R0 ⟨HC,Wj⟩ E7;have t90:=R0.slot 9 (by decide) (λh=>h);rw[HC]at t90;have t90:=t90.fq;show Code.wpIn _ _ _ _ _ a0 Wg;refine adu (t:=false) t90 ?_;simp only[acI,acW];refine acO ?_;refine jl R0 (GI:=λ_=>True) (λ_ _ _ _=>trivial) trivial dO (ac:=af.qa c163.qb.qb.qb.qb.qb.qb) (W:=λt=>decide (8<=t)) (by kernel_rfl) (by kernel_rfl) (by kernel_rfl) (by rw[BI];exact λ_ h=>h) (K:=λS' _=>S' 12=.bool true/\S' 13=.agg [.str n]) ?_ ?_
  . simp[c163,af.qa,af.qb,bL,bw,aG,bh,aD,aO,aQ.S,aQ.H,ev,au,aY,AV.aH,Wj]
  rintro g S' H' a' w' hg R1 ⟨h9,qI⟩ GY;have bj:=E7.trans GY;rw[BI]at hg;have t9:=R1.slot 12 (by decide) (λh=>h);rw[h9]at t9;have t9:=t9.fq;have t10:=R1.slot 13 (by decide) (λh=>h);rw[qI]at t10
  have b1:Below w.heap.size w w':=by have:=R1.below;rwa [R1.base]at this
  show Code.wpIn _ _ _ _ _ a' w';refine adu (t:=true) t9 ?_;simp only[ac3];refine acO ?_;refine jl R1 (GI:=λ_=>True) (λ_ _ _ _=>trivial) trivial dO (ac:=af.qa c163.qb.qb.qb.qb.qb.qb.qb.qa) (W:=λt=>decide (1<=t)) (by kernel_rfl) (by kernel_rfl) (by kernel_rfl) (by rw[hg];exact λ_ h=>h) (K:=λ_ _=>True) ?_ ?_
  . simp[c163,af.qa,af.qb,bL,bw,aG,bh,aD,aO,aQ.S,aQ.H,ev,au,aY,AV.aH,qI,bQ,HR.okB,AV.cells,AV.storable,bu,AV.bZ,bG]
  rintro g2 S2 H2 a2 w2 nR R2 _ jX
  have b2:Below w.heap.size w w2:=by have:=R2.below;rwa [R2.base]at this
  have e0:a2.tmps.getD 0 undef=.pointer (some ⟨bE,0,none⟩):=(jX 0 rfl).trans ((bj 0 rfl).trans h0);have G5:w2.heap[bE]?=some (.cells #[u] ty (0,0)):=(b2.block bE av).trans hE;obtain⟨i36,qu,qD⟩:=iZ 34 1;show Code.wpIn _ _ _ _ _ a2 w2;refine ac6 ?_;show wpOpsIn _ _ _ _ _ [0] a2 w2;refine dU rfl rfl (by rfl) (il (x:=.tmp 0) (y:=.const (.int .i64 4)) (v:=.int .i64 4) rfl e0 qu qD G5 rfl rfl) ?_;refine⟨by show a2.defers=[];rw[R2.defers,nR,hg];rfl,_,rfl,.tuple #[],?_,rfl,rfl,w2,b2,rfl⟩;simp[results,results163]
def FH (p:Addr) (w:World) :
    CallsD prog 163 #[.pointer (some p)] .returning w λe u' w'=>e=.returned (.tuple #[])/\u'=.returning/\w'=w:=by
  refine ae_ func163 rfl λBP cs hu=>?_
  apply agb;apply afD;simp[wpOpsS,go_sem,recoverD,hu,ntmps163,Exit.thenS];refine afM ?_
  go_wp2
  cases BP
  simp_all[bodyPostS,results,results163]
def NF {a:Act} {w:World} {b:Nat} {v:Value} {ty:TypeId} (h2:a.tmps.getD 2 undef = .pointer (some ⟨b,0,none⟩)) (h:w.heap[b]? = some (.cells #[v] ty (0,0))):(results f119 a.tmps).run prog w = .ok v w:=by
  obtain⟨d,CO,sZ⟩:=vZ 34
  have lA:(isAgg 34).run prog w = .ok false w:=by
    unfold isAgg;rw[acK,acR CO w]
    cases d<;>simp_all[eh]
  have hl:(loadVar 34 ⟨b,0,none⟩).run prog w = .ok v w:=by
    simp[loadVar,acK,lA,World.cell?,h]
  have hr:f119.results=#[.cell 2 34]:=rfl
  have B3:a.tmps[2]?.getD undef=.pointer (some ⟨b,0,none⟩):=by rw[<-h2];simp
  simp[results,hr,B3,asAddr,hl]
def lI {k:Nat} {us:Array Value} {w:World} {R1 R:Ending→World→Prop} (kh:ef prog k=true) (hc:Calls prog k us (w.alloc (.cells #[.int .i64 0] 34)) R1)
    (h:∀ e w2,R1 e w2→w.heap.size < w2.heap.size∧(∃ u ty,w2.heap[w.heap.size]? = some (.cells #[u] ty (0,0))) ∧
      ((∃c,e=.returned c/\R (.returned (.int .i64 0)) (w2.setRow w.heap.size #[.int .i64 0]))\/
       (∃n,e=.panicked [{ v:=.iface 192 (.agg #[.int .i64 n]),recovered:=false }]/\∀w3,Below w2.heap.size w2 w3->R (.returned (.int .i64 7)) (w3.setRow w.heap.size #[.int .i64 7]))\/
       (∃s:List UInt8,e=.panicked [{ v:=.iface 203 (.agg #[.string ⟨s.toArray⟩]),recovered:=false }]/\∀w3,Below w2.heap.size w2 w3->R (.returned (.int .i64 4)) (w3.setRow w.heap.size #[.int .i64 4])))):
    Calls prog 119 #[.func (.func k) #[] us] w R:=by
  refine calls_of_wp_defers func119 rfl ?_;refine(fE (m:=0)).1 ?_;refine ia (λa=>a.tmps.size=6/\a.defers=[]/\a.tmps.getD 0 undef=.func (.func k) #[] us) ⟨by simp[ntmps119],rfl,cH _ _ 0 (by simp)⟩ ?_;rintro a ⟨bg,ee,h0⟩
  obtain⟨bE,Ll⟩:∃bE,w.heap.size=bE:=⟨_,rfl⟩
  have eY:∀ (a:Act) (d t:Nat) (c:Value),t≠d→(a.put (some d) c).tmps.getD t undef=a.tmps.getD t undef:=fun a d t c h=>by
    simp[Act.put,acB (adi h)]
  have jy:∀ (a:Act) (d:Nat) (c:Value),a.tmps.size=6→d < 6→(a.put (some d) c).tmps.getD d undef=c:=fun a d c h hd=>by
    simp[Act.put,h,hd]
  have jo:∀(a:Act)(d:Option Nat)(c:Value),(a.put d c).tmps.size=a.tmps.size:=λa d c=>by cases d<;>simp[Act.put]
  refine acO (ac6 ?_);show wpOpsIn _ _ _ _ _ [0] a w;refine aV rfl rfl (by rfl) (kK (t:=34) (z:=.int .i64 0) rfl (by kernel_rfl)) ?_;show Code.wpIn _ _ _ _ _ (a.put (some 2) (.pointer (some ⟨w.heap.size,0,none⟩))) (w.alloc (.cells #[.int .i64 0] 34));rw[Ll]at h;simp only[Ll]
  obtain⟨w1,kv⟩:∃w1,w.alloc (.cells #[.int .i64 0] 34)=w1:=⟨_,rfl⟩
  rw[kv]at hc⊢;refine ia (λa=>a.tmps.size=6/\a.defers=[]/\a.tmps.getD 0 undef=.func (.func k) #[] us/\a.tmps.getD 2 undef=.pointer (some ⟨bE,0,none⟩)) ⟨by rw[jo];exact bg,ee,by rw[eY _ _ _ _ (by decide)];exact h0,jy _ _ _ bg (by decide)⟩ ?_;clear h0 ee bg a;rintro a ⟨bg,ee,h0,h2⟩;refine acO (ac6 ?_);show wpOpsIn _ _ _ _ _ [0,1] a w1;refine aV rfl rfl (by rfl) (nA (fn:=.func 163) (c:=#[.tmp 2]) rfl) ?_
  have eT:(#[Operand.tmp 2].map a.eval) = #[.pointer (some ⟨bE,0,none⟩)]:=by
    simp only[ado,ac5,adp,Act.eval];rw[h2]
  rw[eT];show wpOpsIn _ _ _ _ _ [1] (a.put (some 3) (.func (.func 163) #[] #[.pointer (some ⟨bE,0,none⟩)])) w1
  obtain⟨a2,je⟩:∃a2,a.put (some 3) (.func (.func 163) #[] #[.pointer (some ⟨bE,0,none⟩)])=a2:=⟨_,rfl⟩
  rw[je]
  have z2:a2.tmps.size=6:=by rw[<-je,jo];exact bg
  have u3:a2.tmps.getD 3 undef=.func (.func 163) #[] #[.pointer (some ⟨bE,0,none⟩)]:=by rw[<-je];exact jy _ _ _ bg (by decide)
  have u0:a2.tmps.getD 0 undef=.func (.func k) #[] us:=by rw[<-je,eY _ _ _ _ (by decide)];exact h0
  have u2:a2.tmps.getD 2 undef=.pointer (some ⟨bE,0,none⟩):=by rw[<-je,eY _ _ _ _ (by decide)];exact h2
  have ud:a2.defers=[]:=by rw[<-je];exact ee
  refine zr rfl rfl (d:={ target:=.fn (.func 163) #[.pointer (some ⟨bE,0,none⟩)],args:=#[] }) (w':=w1) ?_ ?_
  . unfold execOp
    simp[eP,Deferred.ofValue,Act.eval,u3]
  have RU:∀ (w:World),(invoke (.fn (.func 163) #[.pointer (some ⟨bE,0,none⟩)]) #[]).run prog w = .ok (.enter 163 #[.pointer (some ⟨bE,0,none⟩)]) w:=fun w=>by
    simp[invoke,fG (P:=prog) (f:=163) (by kernel_rfl)]
  show Code.wpIn _ _ _ _ _ { a2 with defers:={ target:=.fn (.func 163) #[.pointer (some ⟨bE,0,none⟩)],args:=#[] }::a2.defers } w1;refine ia (λa=>a.tmps.size=6/\a.defers=[{ target:=.fn (.func 163) #[.pointer (some ⟨bE,0,none⟩)],args:=#[] }]/\a.tmps.getD 0 undef=.func (.func k) #[] us/\a.tmps.getD 2 undef=.pointer (some ⟨bE,0,none⟩)) ⟨z2,by show _::a2.defers=_;rw[ud],u0,u2⟩ ?_;clear u0 u2 u3 ud z2 je a2 h0 h2 ee bg eT a;rintro a ⟨bg,ee,h0,h2⟩;refine acO (ac6 ?_);show wpOpsIn _ _ _ _ _ [0,1] a w1;refine aV rfl rfl (by rfl) (run_move (x:=.tmp 0) w1 rfl) ?_;have e0:a.eval (.tmp 0)=.func (.func k) #[] us:=h0;rw[e0];show wpOpsIn _ _ _ _ _ [1] (a.put (some 4) (.func (.func k) #[] us)) w1
  obtain⟨a2,je⟩:∃a2,a.put (some 4) (.func (.func k) #[] us)=a2:=⟨_,rfl⟩
  rw[je]
  have z2:a2.tmps.size=6:=by rw[<-je,jo];exact bg
  have u4:a2.eval (.tmp 4)=.func (.func k) #[] us:=by show a2.tmps.getD 4 undef=_;rw[<-je];exact jy _ _ _ bg (by decide)
  have u2:a2.tmps.getD 2 undef=.pointer (some ⟨bE,0,none⟩):=by rw[<-je,eY _ _ _ _ (by decide)];exact h2
  have ud:a2.defers=[{ target:=.fn (.func 163) #[.pointer (some ⟨bE,0,none⟩)],args:=#[] }]:=by rw[<-je];exact ee
  refine sX rfl rfl (by rfl) (zM (f:=.tmp 4) w1 rfl rfl rfl u4 kh) hc ?_;intro e w2 he;obtain⟨av,⟨uE,Yy,hE⟩,vh⟩:=h e w2 he
  have B':∀ {args:Array Value} {u:FrameMode} {w:World} {R R':Ending→FrameMode→World→Prop},CallsD prog 163 args u w R→(∀ e u w,R e u w→R' e u w)→CallsD prog 163 args u w R':=fun h hr c cs hu =>
    let⟨e,u',w',fr,r,rest⟩:=h c cs hu;⟨e,u',w',fr,hr _ _ _ r,rest⟩
  have wo:∀ (p:PanicEntry) (v:Value) (hv:CallsD prog 163 #[.pointer (some ⟨bE,0,none⟩)] (.panicking [p]) w2 fun e u' w'=>e = .returned (.tuple #[])∧u' = .panicking [{ p with recovered:=true }]∧∃ w1,Below w2.heap.size w2 w1∧w'=w1.setRow bE #[v]),
      p.goexit=false->(∀w3,Below w2.heap.size w2 w3->R (.returned v) (w3.setRow bE #[v]))->Leaves prog f119 a2.tmps R a2.defers (.panicking [p]) w2:=by
    intro p v hv nx hR;rw[ud];refine af9 (by simp) (RU w2) (B' hv ?_);rintro e u' w' ⟨rfl,rfl,w3,qn,rfl⟩;have XJ:w3.heap[bE]?=some (.cells #[uE] Yy (0,0)):=(qn.block bE av).trans hE;show Leaves prog f119 a2.tmps R [] .returning (w3.setRow bE #[v]);exact⟨v,NF u2 (Av XJ),hR w3 qn⟩
  rcases vh with⟨c,rfl,hR⟩|⟨n,rfl,hR⟩|⟨s,rfl,hR⟩
  . show Code.wpIn _ _ _ _ _ (a2.put (some 5) c) w2
    have Re:(a2.put (some 5) c).tmps.getD 2 undef=.pointer (some ⟨bE,0,none⟩):=by rw[eY _ _ _ _ (by decide)];exact u2
    refine acO (ac6 ?_);show wpOpsIn _ _ _ _ _ [0] (a2.put (some 5) c) w2;obtain⟨i36,qu,qD⟩:=iZ 34 1;refine dU rfl rfl (by rfl) (il (x:=.tmp 2) (y:=.const (.int .i64 0)) (v:=.int .i64 0) rfl Re qu qD hE rfl rfl) ?_;show Code.wpIn _ _ _ _ _ (a2.put (some 5) c) (w2.setRow bE #[.int .i64 0]);refine aeJ ?_;show Leaves prog f119 (a2.put (some 5) c).tmps R a2.defers .returning (w2.setRow bE #[.int .i64 0]);rw[ud];refine af9 (by simp) (RU _) (B' (FH _ _) ?_);rintro e u' w' ⟨rfl,rfl,rfl⟩;exact⟨_,NF Re (Av hE),hR⟩
  . exact wo _ _ (GQ w2 hE n) rfl hR
  . exact wo _ _ (Gs w2 hE s) rfl hR
def MN(s:aF):List (List Int):=(List.range s.words.length).flatMap λd=>uu s d []
def O3{s:aF}(h:0<s.words.length):fQ s []=true:=by simp[fQ,fK,mB,h]
def j7(out:List Int):Nat->List Word->List Word
 |_,[]=>[]
 |i,w::l=>if out.contains (i:Int)then j7 out (i+1) l else w::j7 out (i+1) l
def EB(out:List Int):∀(a b:List Word)(k:Nat),j7 out k (a++b)=j7 out k a++j7 out (k+a.length) b
 |[],b,k=>by simp[j7]
 |x::a,b,k=>by
  have ih:=EB out a b (k+1)
  have e:k+1+a.length=k+(x::a).length:=by simp;omega
  rw[e]at ih;show(if out.contains (k:Int)then j7 out (k+1) (a++b)else x::j7 out (k+1) (a++b))=(if out.contains (k:Int)then j7 out (k+1) a else x::j7 out (k+1) a)++_;rw[ih]
  split<;>rfl
def Kq(out:List Int){l:List Word}{i:Nat}(h:i<l.length):j7 out 0 (l.take (i+1))=j7 out 0 (l.take i)++if out.contains (i:Int)then[]else[l[i]]:=by
 rw[acL h,EB,adf,ac_,Nat.min_eq_left (by omega)]
 rfl
def qC{out:List Int}:∀{l:List Word}{k:Nat}{w:Word},w∈j7 out k l->w∈l
 |[],_,_,h=>by cases h
 |x::l,k,w,h=>by
  unfold j7 at h;split at h
  .exact acH _ (qC h)
  .rcases adl.1 h with h|h
   .rw[h];simp
   .exact acH _ (qC h)
def tJ(out:List Int):∀(l:List Word)(k:Nat),(j7 out k l).length<=l.length
 |[],_=>acD _
 |x::l,k=>by
  have:=tJ out l (k+1);unfold j7
  split<;>simp<;>omega
def DI{out:List Int}:∀{l:List Word}{k:Nat},j7 out k l=[]->∀i,i<l.length->((k+i:Nat):Int)∈out
 |[],_,_,i,hi=>by simp at hi
 |x::l,k,h,i,hi=>by
  unfold j7 at h;split at h
  case isFalse=>cases h
  rename_i hc
  match i with
  |0=>simpa using hc
  |i+1=>
   have:=DI h i (by simpa using hi);rw[show k+(i+1)=k+1+i by omega];exact this
def count_le:∀(n:Nat)(out:List Int),(∀i,i<n->(i:Int)∈out)->n<=out.length
 |0,_,_=>adr _
 |n+1,out,h=>by
  have hn:=h n (by omega)
  have:=count_le n (out.erase (n:Int)) λi hi=>(agj (by omega)).2 (h i (by omega))
  rw[af1 hn]at this;have:0<out.length:=afu hn;omega
def D2(s:aF)(out:List Int):aF:={ s with words:=j7 out 0 s.words }
def P8{s:aF}{l:List Int}(ho:fQ s l=true):1<=(D2 s l).words.length:=by
 have h1:=IV ho;rcases ael (D2 s l).words.length with h|h
 .have h0:j7 l 0 s.words=[]:=adb h
  have:=count_le s.words.length l λi hi=>by
   have:=DI h0 i hi;simpa using this
  omega
 .exact h
def Hy{s:aF}(hs:bf s=true){l:List Int}(ho:fQ s l=true):bf (D2 s l)=true:=by
 have hn:=P8 ho;have hl:=tJ l s.words 0;unfold bf rR at hs⊢;simp only[acA,adx]at hs⊢;obtain⟨⟨⟨⟨h1,h2⟩,h3⟩,h4⟩,⟨⟨⟨⟨⟨⟨e1,e2⟩,e3⟩,e4⟩,e5⟩,e6⟩,e7⟩⟩:=hs;refine⟨⟨⟨⟨h1,h2⟩,?_⟩,h4⟩,⟨⟨⟨⟨⟨⟨e1,e2⟩,e3⟩,e4⟩,?_⟩,e6⟩,e7⟩⟩
 .unfold cG at h3⊢;simp only[acA,acJ]at h3⊢;have:(D2 s l).words.length<=s.words.length:=hl;omega
 .rw[adH]at e5⊢;intro w hw;exact e5 w (qC hw)
end Go.Proofs.Tryz
namespace Go.Proofs.Tryz
open Go Go.AL Go.RowKit Go.Proofs Go.Proofs.Tram
variable{GI:World->Prop}
def oz{Pr:Nat->Nat->Prop}{al:Nat->Option Nat}{w:World}{l:List UInt8}{c:Value}(h:RV Pr al w (.str l) c):c=.string ⟨l.toArray⟩:=by
 cases h with
 |data _ _ h=>cases h;rfl
def strs(ls:List (List UInt8)):AV:=.slice .view (ls.map .str)
def Ws(qf:∀w,GI w->∃m,w.cell? ⟨1,0,none⟩=some (.int .i64 m))(s:List UInt8)(c:UInt8)(hs:s.length<4294967281):AC prog GI 164 [.str s,.str [c]] (.ret (strs (kq c s))):=by
 intro w old bH hG hl hr
 obtain⟨v1,v2,rfl⟩:∃v1 v2,bH=#[v1,v2]:=by
  have h2:bH.size=2:=hl.symm;refine⟨bH[0],bH[1],?_⟩;apply aea
  .simp[h2]
  .intro i h h'
   match i,h' with
   |0,_=>rfl
   |1,_=>rfl
 have e1:=oz (hr 0 (by simp) (by simp));have e2:=oz (hr 1 (by simp) (by simp));simp only[List.getElem_toArray,List.getElem_cons_zero,List.getElem_cons_succ]at e1 e2;subst e1 e2;obtain⟨m,hm⟩:=qf w hG;refine(Tryz.strings_Split ⟨s.toArray⟩ ⟨[c].toArray⟩ m w hs hm (acD _)).mono ?_;rintro e w' ⟨rfl,rfl⟩;have uh:Lib.countB ⟨s.toArray⟩ ⟨[c].toArray⟩=s.count c:=Lib.count_one c s;have DP:=Lib.splitB_data ⟨[c].toArray⟩ 0 (s.count c) ⟨s.toArray⟩;have DP:(Lib.splitB ⟨[c].toArray⟩ 0 (s.count c) ⟨s.toArray⟩).map (·.data.toList)=kq c s:=DP.trans (xX c s);have e_:=Lib.splitB_all ⟨[c].toArray⟩ (acD _) 0 (s.count c) ⟨s.toArray⟩ uh;rw[uh];generalize Lib.splitB ⟨[c].toArray⟩ 0 (s.count c) ⟨s.toArray⟩=ps at DP e_;rw[<-e_]
 have NV:ps.length=((kq c s).map AV.str).length:=by rw[<-DP];simp
 refine⟨(adA _ w).alloc (acD _) _,λb=>if b=w.heap.size then ps.length else 0,λb hb=>?_,_,rfl,.data _ _ ?_,trivial⟩
 .show(if b=w.heap.size then ps.length else 0)=0;rw[World.size_alloc]at hb;rw[if_neg (by omega)]
 .unfold strs;rw[NV];refine Tx (es:=(kq c s).map AV.str) (size:=1) (adv w _) (by simp;rw[<-DP];simp) (λe he=>?_) (λk hk=>.inr ⟨acD _,?_⟩) (λi h j hj=>?_)
  .obtain⟨x,_,rfl⟩:=acZ.1 he;exact⟨rfl,λc hc=>by simp only[AV.cells,ac4]at hc;subst hc;rfl⟩
  .show k<(if w.heap.size=w.heap.size then((kq c s).map AV.str).length else 0);rw[if_pos rfl,<-NV];simpa using hk
  .have hi:i<ps.length:=by rw[NV];exact h
   have hx:((kq c s).map AV.str)[i]=.str ps[i].data.toList:=by simp[<-DP]
   have Bl:j=0:=by
    have:(((kq c s).map AV.str)[i]).cells.length=1:=by rw[hx];rfl
    omega
   subst Bl
   have hc:(((kq c s).map AV.str)[i]).cells[0]=.str ps[i].data.toList:=by simp only[hx];rfl
   rw[hc]
   have:((ps.map Value.string).toArray.getD (i*1+0) undef)=.string ps[i]:=by simp[hi]
   rw[this];exact .str _
def Xd{n:Nat}{bH:Array Value}(hl:n=bH.size)(h:n=1):∃v,bH=#[v]:=by
 refine⟨bH[0]'(by omega),?_⟩;apply aea
 .simp;omega
 .intro i hi h'
  match i,h' with
  |0,_=>rfl
def W5{n:Nat}{bH:Array Value}(hl:n=bH.size)(h:n=2):∃v1 v2,bH=#[v1,v2]:=by
 refine⟨bH[0]'(by omega),bH[1]'(by omega),?_⟩;apply aea
 .simp;omega
 .intro i hi h'
  match i,h' with
  |0,_=>rfl
  |1,_=>rfl
def HS:Nat->Nat->List UInt8
 |0,_=>[]
 |f+1,u=>if u<10 then[UInt8.ofNat (48+u)]else HS f (u/10)++[UInt8.ofNat (48+u % 10)]
def HX:∀(f u:Nat),0<f->u<10^f->Lib.decDigits u=HS f u
 |0,_,h,_=>by omega
 |f+1,u,_,h=>by
  rw[Lib.decDigits,HS];split
  .rfl
  .rename_i qI
   cases f with
   |zero=>simp at h;omega
   |succ f=>rw[HX (f+1) (u/10) (by omega) (by rw[Nat.pow_succ]at h;exact agk (by rw[aei];exact h))]
def WO(ls:List (List UInt8))(sep:List UInt8)(hn:ls.length<=100000)(hlen:(Lib.join ls sep).length<=140737488355328):AC prog GI 199 [strs ls,.str sep] (.ret (.str (Lib.join ls sep))):=by
 intro w old bH hG hl hr;obtain⟨v1,v2,rfl⟩:=W5 hl rfl;have e1:=(hr 0 (by simp) (by simp)).dL rfl;have e2:=oz (hr 1 (by simp) (by simp));simp only[List.getElem_toArray,List.getElem_cons_zero,List.getElem_cons_succ]at e1 e2;subst e2;unfold strs at e1;generalize mb:ls.map AV.str=es at e1
 have hle:es.length=ls.length:=by rw[<-mb];simp
 have fin:∀{w':World}{l:List UInt8},Below w.heap.size w w'->l=Lib.join ls sep->AL.Ends prog old w (.ret (.str (Lib.join ls sep))) (.returned (.string ⟨l.toArray⟩)) w':=by
  rintro w' l hb rfl;exact⟨hb,λ_=>0,λ_ _=>rfl,_,rfl,.data _ _ (.str _),trivial⟩
 have emp:∀(a:Option Addr)(c:Nat),ls=[]->Calls prog 199 #[.slice a 0 c,.string ⟨sep.toArray⟩] w (AL.Ends prog old w (.ret (.str (Lib.join ls sep)))):=by
  rintro a c rfl;refine(Tryz.strings_Join_none a c ⟨sep.toArray⟩ w).mono ?_;rintro e w' ⟨rfl,rfl⟩;exact fin (l:=[]) (adA _ _) rfl
 cases e1 with
 |gx=>exact emp none 0 (adb (by rw[<-hle];rfl))
 |ja _ a0=>exact emp (some a0) 0 (adb (by rw[<-hle];rfl))
 |slice _ _ b off cap size cs eT p_ bg h1 hc jd=>
  by_cases h0:ls=[]
  .have rq:es.length=0:=by rw[hle,h0];rfl
   rw[rq];exact emp _ _ h0
  .have fI:0<ls.length:=ade.2 h0
   have ib:∀j (h:j<es.length),es[j]=.str (ls[j]'(by omega)):=λj h=>by simp[<-mb]
   have xO:size=1:=by rw[<-bg 0 (by omega),ib];rfl
   subst xO
   have dX:∀j (h:j<ls.length),w.cell? ⟨b,off+j,none⟩=some (.string ⟨ls[j].toArray⟩):=λj h=>by
    rw[(hc j (by omega)).2]
    have hz:0<(es[j]'(by omega)).cells.length:=by rw[bg j (by omega)];omega
    have h2:=jd j (by omega) 0 hz
    have h3:((es[j]'(by omega)).cells[0]'hz)=.str ls[j]:=by simp only[ib j (by omega)];rfl
    rw[h3]at h2;have e:=oz (RV.data (al:=cD) _ _ h2);simp only[adY,Nat.add_zero]at e;rw[e]
   have hb:b<w.heap.size:=aeS _ _ (dX 0 fI)
   have Ni:(ls.map λl=>(⟨l.toArray⟩:ByteArray)).map (·.data.toList)=ls:=by rw[ad2];simp[Function.comp_def]
   have VZ:=Tryz.strings_Join b off cap (ls.map λl=>(⟨l.toArray⟩:ByteArray)) ⟨sep.toArray⟩ w (λj x hx=>by
    simp only[ac1,acE]at hx;obtain⟨l,MF,rfl⟩:=hx;obtain⟨hj,rfl⟩:=acT.1 MF
    exact dX j hj) hb (by simp;omega) (by simp;omega) (by rw[Ni];exact hlen)
   rw[Ni,acC]at VZ;rw[hle];refine VZ.mono ?_;rintro e w' ⟨rfl,hb⟩;exact fin hb rfl
def QP(hG:aw GI)(s:List UInt8):AC prog GI 205 [.bool true,.str s] (.ret (.dR [])):=by
 refine cE hG func205 ntmps205 c205 ?_;simp[c205,bL,bw,aG,bh,aD,ev,aQ.S,aQ.H,bG,dE,au,aY,AL.start,AV.aH,eF,post,cL,dc,db,AV.out,AV.bW]
def wrap32{n:Int}(h: -2147483648<=n/\n<2147483648):IntKind.i32.wrap n=n:=by
 have key:∀m:Int,m=n % 4294967296->(if decide (m>=2147483648)=true then m-4294967296 else m)=n:=by
  intro m hm;split
  .rename_i hd;have:=aez hd;omega
  .rename_i hd
   have Al:¬m>=2147483648:=λhh=>hd (adX hh)
   omega
 exact key _ rfl
def dY(w:List UInt8):Int:=w.foldl (λn c=>10*n+((c.toNat:Int)-48)) 0
def digit(c:UInt8):Prop:=48<=c.toNat/\c.toNat<=57
def Bh(w:List UInt8)(c:UInt8):dY (w++[c])=10*dY w+((c.toNat:Int)-48):=by simp[dY,adk]
def sL:∀(w:List UInt8),(∀c∈w,digit c)->w.length<=3->0<=dY w/\dY w<1000
 |[],_,_=>by simp[dY]
 |[a],h,_=>by have:=h a (by simp);unfold digit at this;simp[dY];omega
 |[a,b],h,_=>by have h1:=h a (by simp);have h2:=h b (by simp);unfold digit at h1 h2;simp[dY];omega
 |[a,b,c],h,_=>by have h1:=h a (by simp);have h2:=h b (by simp);have h3:=h c (by simp);unfold digit at h1 h2 h3;simp[dY];omega
 |_::_::_::_::_,_,h=>by simp at h
def oK(cc:Nat->Nat->Prop)(w:World)(k:Nat->Option Obj):Old:={ Old.plain cc w with aR:=k }
def u9(l:List Int):AV:=.slice (if l.isEmpty then .nil else .own 3) (ints l)
def jH(ws:List (List UInt8))(j:Nat)(S:an)(_:aq):Prop:=
 S 3=u9 ((ws.take j).map dY)/\S 9=strs ws/\S 10=.int .i64 ws.length/\S 11=.int .i64 (j:Nat)
noncomputable def gC:af:=af.qb c208.qb.qb.qa.qb.qb
noncomputable def jQ:af:=af.qb gC.qb.qb.qa
noncomputable def oG:af:=af.qb jQ.qb.qb.qa.qb.qb
def YJ (hG:aw GI) {ws:List (List UInt8)} (hlen:ws.length≤100000) (hd:∀ w∈ws,w≠[]∧w.length≤3∧∀ c∈w,digit c) (hI:∀ w∈ws,AC prog GI 162 [.int .i64 (dY w)] (.ret (.str w))) :
  AC prog GI 208 [strs ws] (.ret (.slice (if ws.isEmpty then .nil else .view) (ints (ws.map dY)))):=by
 refine AC.jw func208 rfl ntmps208 (by simp) λcc w=>?_
 refine eV hG c208.qa (λS' H'=>S' 0=strs ws) ?_ ?_
 .simp[c208,af.qa,bL,bw,aG,bh,aD,ev,aQ.S,aQ.H,au,aY,AL.start,AV.aH,strs,bG,aO]
 rintro S1 H1 s0;refine eV hG c208.qb.qa (λS' H'=>S' 0=strs ws/\S' 3=u9 []) ?_ ?_
 .simp[c208,af.qa,af.qb,bL,bw,aG,bh,aD,ev,aQ.S,aQ.H,au,aY,s0,bG,aO,u9,ints]
 rintro S2 H2 ⟨s0,s3⟩;show SW prog GI 55 none (.seq (.seq _ (.block 0 (.loop _))) (.seq _ .ret)) _ _ _ _;refine SW.seq (eV hG c208.qb.qb.qa.qa (jH ws 0) ?_ ?_)
 .simp[c208,af.qa,af.qb,bL,bw,aG,bh,aD,ev,aQ.S,aQ.H,au,aY,s0,s3,jH,strs,AV.aH,aO]
 intro S3 H3 hF;refine SW.block (SW.loop (λo S' H'=>∃k j,o=oK cc w k/\j<=ws.length/\jH ws j S' H') (λS' _=>match S' 11 with|.int _ j=>ws.length-j.toNat|_=>0) ⟨_,0,rfl,adr _,hF⟩ ?_);rintro o S4 H4 ⟨kk,j,rfl,hj,hF⟩;have m11:S4 11=.int .i64 (j:Nat):=hF.2.2.2
 have cg:∀k d,¬(oK cc w k).bx d:=λ_ _ h=>h
 show SW prog GI 55 none (.seq _ (.seq (.cond _ _ _) (.seq (.block 1 (.seq _ (.seq _ (.seq (.seq _ (.block 2 (.loop _))) (.seq _ _))))) _))) _ _ _ _;refine eV hG gC.qa (λS' H'=>S' 12=.bool (decide (j<ws.length))/\jH ws j S' H') ?_ ?_
 .obtain⟨s3,s9,cb,ck⟩:=hF;simp[c208,gC,af.qa,af.qb,bL,bw,aG,bh,aD,aO,ev,aQ.S,aQ.H,au,aY,jH,s3,s9,cb,ck,eF]
 rintro S5 H5 ⟨cJ,hF⟩
 by_cases av:j<ws.length
 case neg=>
  refine SW.seq (SW.cond rfl false (by show S5 12=_;rw[cJ];simp[av]) (SW.exit ?_))
  have o_:j=ws.length:=by omega
  subst o_;obtain⟨s3,s9,cb,ck⟩:=hF;rw[adG]at s3;show SW prog GI 55 none (.seq _ .ret) _ _ _ _;refine eV hG c208.qb.qb.qb.qa (λS' H'=>S' 2=.slice (if ws.isEmpty then .nil else .view) (ints (ws.map dY))) ?_ ?_
  .cases ws<;>simp[c208,af.qa,af.qb,bL,bw,aG,bh,aD,ev,aQ.S,aQ.H,au,aY,s3,u9,AV.aH,bG,aO]
  intro S7 H7 s2;refine SW.ret ⟨eA.plain rfl,rfl,_,?_,rfl⟩;show cL prog 55 [.tmp 2] S7 H7=_;simp[cL,dc,db,s2,AV.bW,AV.out]
 case pos=>
  refine SW.seq (SW.cond rfl true (by show S5 12=_;rw[cJ];simp[av]) (SW.skip ?_));show SW prog GI 55 none (.seq (.block 1 (.seq _ (.seq _ (.seq (.seq _ (.block 2 (.loop _))) (.seq _ _))))) _) _ _ _ _;have MS:ws[j]∈ws:=acy av
  obtain⟨wd,rA⟩:∃wd,ws[j]=wd:=⟨_,rfl⟩
  have hdw:=hd _ MS;have P_:=hI _ MS;rw[rA]at hdw P_;obtain⟨bP,zR,DO⟩:=hdw;refine SW.seq (SW.block (eV hG jQ.qa (λS' H'=>S' 5=.str wd/\jH ws j S' H') ?_ ?_))
  .obtain⟨s3,s9,cb,ck⟩:=hF;simp[c208,gC,jQ,af.qa,af.qb,bL,bw,aG,bh,aD,aO,ev,aQ.S,aQ.H,au,aY,jH,s3,s9,cb,ck,strs,av,rA,b0,AV.cells,AV.aH,bG]
  rintro S6 H6 ⟨s5,hF⟩;refine eV hG jQ.qb.qa (λS' H'=>S' 6=.int .i64 0/\S' 5=.str wd/\jH ws j S' H') ?_ ?_
  .obtain⟨s3,s9,cb,ck⟩:=hF;simp[c208,gC,jQ,af.qa,af.qb,bL,bw,aG,bh,aD,aO,ev,aQ.S,aQ.H,au,aY,jH,s3,s5,s9,cb,ck,AV.aH,bG]
  rintro S7 H7 ⟨s6,s5,hF⟩
  obtain⟨sb,nr⟩:∃sb:ByteArray,sb=⟨wd.toArray⟩:=⟨_,rfl⟩
  refine SW.seq (SW.seq (SW.mid hG (p:=1) (oh:={ dst:=some 16,op := .range 9 (.tmp 15),type:=0,pos := "text.go:133",after:=_,guard:=none }) (js:=[_]) (lv:=[]) (l2:=[]) rfl rfl rfl rfl (by kernel_rfl) rfl (cg _) (lO:=(jQ.qb.qb.qa.qa.dl).take 1) (lu:=[]) (by kernel_rfl) rfl (by kernel_rfl) rfl
   (K1:=λS' H'=>S' 15=.str wd/\S' 6=.int .i64 0/\S' 5=.str wd/\jH ws j S' H')
   (K2:=λo S' H'=>∃k b,o=oK cc w k/\k b=some (.stringIter sb 0)/\S' 16=.val (.pointer (some ⟨b,0,none⟩))/\S' 6=.int .i64 0/\S' 5=.str wd/\jH ws j S' H')
   (K3:=λo S' H'=>∃k b,o=oK cc w k/\k b=some (.stringIter sb 0)/\S' 16=.val (.pointer (some ⟨b,0,none⟩))/\S' 6=.int .i64 0/\S' 5=.str wd/\jH ws j S' H') ?_ ?_ ?_ ?_))
  .obtain⟨s3,s9,cb,ck⟩:=hF;simp[c208,gC,jQ,af.qa,af.qb,af.dl,bw,aG,bh,aD,ev,aQ.S,aQ.H,au,aY,jH,s3,s5,s6,s9,cb,ck,AV.aH]
  .rintro w0 g S8 H8 a w8 ho R ⟨jA,s6,s5,s3,s9,cb,ck⟩;have t15:=R.slot 15 (by decide) (λh=>h);rw[jA]at t15
   have t15:a.eval (.tmp 15)=.string sb:=by rw[nr];exact oz t15
   have ep:prog.underlying 9=some .string:=by kernel_rfl
   have R2:=R.nn (.stringIter sb 0);refine⟨_,_,_,au S8 16 (.val (.pointer (some ⟨w8.heap.size,0,none⟩))),H8,.inl (zg rfl ep t15),R2.put 16 _ _ (by decide) (.data _ _ (.val _ rfl)) trivial,au g.old.aR w8.heap.size (some (.stringIter sb 0)),w8.heap.size,?_,aK _ _ _,by simp[au],by simp[au,s6],by simp[au,s5],by simp[au,s3],by simp[au,s9],by simp[au,cb],by simp[au,ck]⟩;show({ g.old with aR:=au g.old.aR w8.heap.size _ }:Old)=_;rw[ho];rfl
  .rintro o S8 H8 ⟨k,b,rfl,h⟩;exact⟨cg _,k,b,rfl,h⟩
  .rintro o S8 H8 ⟨k,b,rfl,xS,fL,s6,s5,hF⟩
   refine SW.block (SW.QF (λo S' H'=>∃k b pos,o=oK cc w k/\k b=some (.stringIter sb pos)/\pos<=wd.length/\S' 16=.val (.pointer (some ⟨b,0,none⟩))/\S' 6=.int .i64 (dY (wd.take pos))/\S' 5=.str wd/\jH ws j S' H')
    (λo S' _=>match S' 16 with|.val (.pointer (some a))=>(match o.aR a.block with|some (.stringIter _ p)=>wd.length-p|_=>0)|_=>0) ⟨k,b,0,rfl,xS,adr _,fL,s6,s5,hF⟩ ?_)
   rintro o S9 H9 ⟨k,b,pos,rfl,xS,fI,fL,s6,s5,hF⟩;have m16:=fL
   have SG:∀(S:an)(k:Nat->Option Obj) p,S 16=.val (.pointer (some ⟨b,0,none⟩))->k b=some (.stringIter sb p)->(match S 16 with|.val (.pointer (some a))=>(match(oK cc w k).aR a.block with|some (.stringIter _ p)=>wd.length-p|_=>0)|_=>0)=wd.length-p:=by
    intro S k p h1 h2;rw[h1];show(match k b with|some (.stringIter _ p)=>wd.length-p|_=>0)=_;rw[h2]
   have bg:sb.size=wd.length:=by rw[nr];rfl
   show SW prog GI 55 none (.seq _ (.seq (.cond _ _ _) (.block 3 (.seq _ (.seq _ _))))) _ _ _ _
   by_cases hp:pos<wd.length
   case neg=>
    refine SW.seq (SW.mid hG (p:=0) (oh:={ dst:=some 17,op := .next (.tmp 16) true,type:=0,pos := "text.go:133",after := #[],guard:=none }) (js:=[]) (lv:=[_]) (l2:=[1]) rfl rfl rfl rfl (by kernel_rfl) rfl (cg _) (lO:=[]) (lu:=(oG.qa.dl).drop 1) rfl (by kernel_rfl) rfl (by kernel_rfl)
     (K1:=λS' H'=>S' 16=.val (.pointer (some ⟨b,0,none⟩))/\S' 6=.int .i64 (dY wd)/\S' 5=.str wd/\jH ws j S' H')
     (K2:=λo S' H'=>o=oK cc w k/\S' 17=.dR [.bool false]/\S' 6=.int .i64 (dY wd)/\S' 5=.str wd/\jH ws j S' H')
     (K3:=λo S' H'=>o=oK cc w k/\S' 18=.bool false/\S' 6=.int .i64 (dY wd)/\S' 5=.str wd/\jH ws j S' H') ?_ ?_ ?_ ?_)
    .have:pos=wd.length:=by omega
     subst this;rw[adG]at s6;exact⟨fL,s6,s5,hF⟩
    .rintro w0 g rp uD a Oz ho R ⟨fL,s6,s5,s3,s9,cb,ck⟩;have t16:=R.slot 16 (by decide) (λh=>h);rw[fL]at t16;have t16:a.eval (.tmp 16)=.pointer (some ⟨b,0,none⟩):=t16.fY
     have hk:g.old.aR b=some (.stringIter sb pos):=by rw[ho];exact xS
     have hb:=(R.kept b _ hk).2.1;refine⟨_,_,_,au rp 17 (.dR [.bool false]),uD,.inl (sC rfl t16 hb (by omega)),R.put 17 _ _ (by decide) (.data _ _ (.dR _ _ rfl λi h h'=>?_)) trivial,ho,aK _ _ _,by simp[au,s6],by simp[au,s5],by simp[au,s3],by simp[au,s9],by simp[au,cb],by simp[au,ck]⟩
     match i,h with
     |0,_=>exact .bool _
    .rintro o rp uD ⟨rfl,mo,s6,s5,s3,s9,cb,ck⟩;refine⟨cg _,?_⟩;simp[c208,gC,jQ,oG,af.qa,af.qb,af.dl,bw,aG,bh,aD,ev,aQ.S,aQ.H,au,aY,jH,s3,s5,s6,s9,cb,ck,mo,AV.aH]
    .rintro o rp uD ⟨rfl,l8,s6,s5,hF⟩;refine SW.seq (SW.cond rfl false (by show rp 18=_;rw[l8]) (SW.exit ?_));show SW prog GI 55 none (.seq _ _) _ _ _ _;have hs:=sL wd DO zR;refine wm hG jQ.qb.qb.qb.qa (λd _=>cg _ d) (λS' H'=>S' 6=.int .i64 (dY wd)/\jH ws j S' H') ?_ ?_
     .obtain⟨s3,s9,cb,ck⟩:=hF;have CI:=QP (GI:=GI) hG wd
      have e8:∀H,fz H (.int .i64 (dY wd))=.int .i64 (dY wd):=λH=>rfl
      have SX:(wd !=[])=true:=by simpa using bP
      have e9:∀H,fz H (.str wd)=.str wd:=λH=>rfl
      have kR:∀H,fz H (.bool true)=.bool true:=λH=>rfl
      simp[c208,gC,jQ,af.qa,af.qb,af.dl,bL,bw,aG,bh,aD,aO,ev,aQ.S,aQ.H,au,aY,jH,s3,s5,s6,s9,cb,ck,AV.aH,eF,SX,e8];refine oc P_ ?_;simp[j0,au,AV.aH,s3,s5,s6,s9,cb,ck,eF,e9,kR];refine oc CI ?_;simp[j0,au,AV.aH,s3,s5,s6,s9,cb,ck]
     rintro S11 H11 ⟨s6,hF⟩
     have TC:(ws.take (j+1)).map dY=(ws.take j).map dY++[dY wd]:=by rw[acL av,ada,rA];rfl
     have hLl:((ws.take j).map dY).length<=100000:=by simp;omega
     refine SW.mono (Q:=λe o S' H'=>e=.normal/\o=oK cc w k/\S' 3=u9 ((ws.take (j+1)).map dY)/\S' 9=strs ws/\S' 10=.int .i64 ws.length/\S' 11=.int .i64 (j:Nat)) ?_ (SW.pF hG dO (by kernel_rfl) (λd _=>cg _ d) (ac:=af.qb jQ.qb.qb.qb) (by kernel_rfl) ?_)
     .rintro e o S' H' ⟨rfl,rfl,s3,s9,cb,ck⟩;show SW prog GI 55 none _ _ _ _ _;refine SW.pF hG dO (by kernel_rfl) (λd _=>cg _ d) (ac:=af.qb gC.qb.qb) (by kernel_rfl) ?_;have qM:IntKind.i64.wrap ((j:Int)+1)=j+1:=aP (by omega);simp[c208,gC,af.qa,af.qb,bL,bw,aG,bh,aD,ev,aQ.S,aQ.H,au,aY,s3,s9,cb,ck,eF,AV.aH,qM,ij.bL,thenS,jH];refine⟨⟨⟨_,rfl⟩,j+1,by omega,rfl,by omega⟩,?_⟩;rw[m11];show ws.length-(j+1)<ws.length-(j:Int).toNat;rw[Int.toNat_natCast];omega
     .unfold ij.bL;obtain⟨s3,s9,cb,ck⟩:=hF;rw[TC];generalize(ws.take j).map dY=L at s3 hLl⊢
      cases L with
      |nil=>simp[c208,gC,jQ,af.qa,af.qb,af.dl,bL,bw,aG,bh,aD,ev,aQ.S,aQ.H,au,aY,s3,s6,s9,cb,ck,u9,ints,AV.aH,aJ,AV.storable,AV.cells,AV.vw,AV.cT,bG]
      |cons x L=>
       have uW:L.length+1+1<1048576:=by simp at hLl;omega
       simp[c208,gC,jQ,af.qa,af.qb,af.dl,bL,bw,aG,bh,aD,ev,aQ.S,aQ.H,au,aY,s3,s6,s9,cb,ck,u9,ints,AV.aH,aJ,AV.storable,AV.cells,AV.vw,AV.cT,bG,uW]
   case pos=>
    obtain⟨c,hc⟩:∃c,wd[pos]=c:=⟨_,rfl⟩
    have Ux:digit c:=DO c (hc▸acy hp);have Rp:=Ux;unfold digit at Rp
    have Hq:sb[pos]'(by omega)=c:=by subst nr;rw[<-hc];rfl
    refine SW.seq (SW.mid hG (p:=0) (oh:={ dst:=some 17,op := .next (.tmp 16) true,type:=0,pos := "text.go:133",after := #[],guard:=none }) (js:=[]) (lv:=[_]) (l2:=[1]) rfl rfl rfl rfl (by kernel_rfl) rfl (cg _) (lO:=[]) (lu:=(oG.qa.dl).drop 1) rfl (by kernel_rfl) rfl (by kernel_rfl)
     (K1:=λS' H'=>S' 16=.val (.pointer (some ⟨b,0,none⟩))/\S' 6=.int .i64 (dY (wd.take pos))/\S' 5=.str wd/\jH ws j S' H')
     (K2:=λo S' H'=>o=oK cc w (au k b (some (.stringIter sb (pos+1))))/\S' 16=.val (.pointer (some ⟨b,0,none⟩))/\S' 17=.dR [.bool true,.int .i64 pos,.int .i32 c.toNat]/\S' 6=.int .i64 (dY (wd.take pos))/\S' 5=.str wd/\jH ws j S' H')
     (K3:=λo S' H'=>o=oK cc w (au k b (some (.stringIter sb (pos+1))))/\S' 16=.val (.pointer (some ⟨b,0,none⟩))/\S' 18=.bool true/\S' 17=.dR [.bool true,.int .i64 pos,.int .i32 c.toNat]/\S' 6=.int .i64 (dY (wd.take pos))/\S' 5=.str wd/\jH ws j S' H') ⟨fL,s6,s5,hF⟩ ?_ ?_ ?_)
    .rintro w0 g rp uD a Oz ho R ⟨fL,s6,s5,s3,s9,cb,ck⟩;have t16:=R.slot 16 (by decide) (λh=>h);rw[fL]at t16;have t16:a.eval (.tmp 16)=.pointer (some ⟨b,0,none⟩):=t16.fY
     have hk:g.old.aR b=some (.stringIter sb pos):=by rw[ho];exact xS
     have hb:=(R.kept b _ hk).2.1;refine⟨_,_,_,au rp 17 (.dR [.bool true,.int .i64 pos,.int .i32 c.toNat]),uD,.inl (Kh rfl t16 hb (by omega) (by rw[Hq];omega)),(R.kn hk _).put 17 _ _ (by decide) (.data _ _ (.dR _ _ rfl λi h h'=>?_)) trivial,?_,by simp[au,fL],aK _ _ _,by simp[au,s6],by simp[au,s5],by simp[au,s3],by simp[au,s9],by simp[au,cb],by simp[au,ck]⟩
     .match i,h with
      |0,_=>exact .bool _
      |1,_=>exact .int _ _
      |2,_=>
       show RD _ _ _ (Value.int .i32 (sb[pos]'(by omega)).toNat);rw[Hq];exact .int _ _
     .show({ g.old with aR:=au g.old.aR b _ }:Old)=_;rw[ho];rfl
    .rintro o rp uD ⟨rfl,fL,mo,s6,s5,s3,s9,cb,ck⟩;refine⟨cg _,?_⟩;simp[c208,gC,jQ,oG,af.qa,af.qb,af.dl,bw,aG,bh,aD,ev,aQ.S,aQ.H,au,aY,jH,s3,s5,s6,s9,cb,ck,fL,mo,AV.aH]
    .rintro o rp uD ⟨rfl,fL,l8,mo,s6,s5,hF⟩;refine SW.seq (SW.cond rfl true (by show rp 18=_;rw[l8]) (SW.skip ?_));show SW prog GI 55 none (.block 3 (.seq _ (.seq _ _))) _ _ _ _
     have oy:wd.take (pos+1)=wd.take pos++[c]:=by rw[acL hp,hc]
     have abk:=sL (wd.take pos) (λx hx=>DO x (adS hx)) (by simp;omega);refine SW.block (SW.mono (Q:=λe o S' H'=>e=.normal/\o=oK cc w (au k b (some (.stringIter sb (pos+1))))/\S' 16=.val (.pointer (some ⟨b,0,none⟩))/\S' 6=.int .i64 (dY (wd.take (pos+1)))/\S' 5=.str wd/\jH ws j S' H') ?_ (SW.pF hG dO (by kernel_rfl) (λd _=>cg _ d) (ac:=af.qb oG.qb.qb) (by kernel_rfl) ?_))
     .rintro e o S' H' ⟨rfl,rfl,fL,s6,s5,hF⟩;refine⟨⟨au k b (some (.stringIter sb (pos+1))),b,pos+1,rfl,aK _ _ _,hp,fL,s6,s5,hF⟩,?_⟩;show(match S' 16 with|.val (.pointer (some a))=>(match(oK cc w (au k b (some (.stringIter sb (pos+1))))).aR a.block with|some (.stringIter _ p)=>wd.length-p|_=>0)|_=>0)<_;rw[SG S' _ (pos+1) fL (aK _ _ _),SG S9 k pos m16 xS];omega
     .unfold ij.bL;obtain⟨s3,s9,cb,ck⟩:=hF;have CI:=QP (GI:=GI) hG wd
      have g1:(48:Int)<=c.toNat:=by omega
      have g2:(c.toNat:Int)<=57:=by omega
      have g3:(wd.length:Int)<=3:=by omega
      have w1:IntKind.i64.wrap (10*dY (wd.take pos))=10*dY (wd.take pos):=aP (by omega);have w2:IntKind.i32.wrap ((c.toNat:Int)-48)=(c.toNat:Int)-48:=wrap32 (by omega);have w3:IntKind.i64.wrap ((c.toNat:Int)-48)=(c.toNat:Int)-48:=aP (by omega)
      have w4:IntKind.i64.wrap (10*dY (wd.take pos)+((c.toNat:Int)-48))=dY (wd.take (pos+1)):=by rw[oy,Bh,aP (by omega)]
      have e9:∀H,fz H (.str wd)=.str wd:=λH=>rfl
      have kR:∀H,fz H (.bool true)=.bool true:=λH=>rfl
      simp[c208,gC,jQ,oG,af.qa,af.qb,af.dl,bL,bw,aG,bh,aD,dE,ev,aQ.S,aQ.H,au,aY,jH,s3,s5,s6,s9,cb,ck,fL,mo,AV.aH,eF,g1,g2,g3,e9,kR,bG];refine oc CI ?_;simp[j0,au,AV.aH,s3,s5,s6,s9,cb,ck,fL,eF,w1,w2,w3,w4,bG]
def CC(a:Act)(d:Nat)(c c':Value):(a.put (some d) c).put (some d) c'=a.put (some d) c':=by
 simp[Act.put]
def OX (hG:aw GI) {w0:World} {n:Nat} {g:Gh} {S:an} {H:aq} {a:Act} {w:World} {d i1 i4:Nat} {s:List UInt8} {z x:List AV} (cj:GI w0) (R:Rel prog w0 n bz g S H a w) (hd:d < n) (QH:i1 < n) (Kx:i4 < n) (LV:d≠i4)
  (Te:S i1=.box i1 0) (Qx:H i1=some [.str s]) (GS:S i4=.box i4 0) (Lq:H i4=some z) (hz:z.length=10) (hx:x.length=10) (HK:AC prog GI 172 [.str s] (.ret (.agg x))):
  Calls prog 171 #[a.tmps.getD i1 undef,a.tmps.getD i4 undef] w λe w2=>e=.returned (.tuple #[])/\∃(c:Value)(g':Gh)(S':an)(H':aq),g'.old=g.old/\Rel prog w0 n bz g' S' H' (a.put (some d) c) w2/\(∀t,t≠d->S' t=S t)/\H'=au H i4 (some (x.map AV.aH)):=by
 have bg:=R.size;have v1:=R.slot i1 QH id;rw[Te]at v1;have v4:=R.slot i4 Kx id;rw[GS]at v4
 obtain⟨b1,e1,CD⟩:∃b,a.tmps.getD i1 undef=.pointer (some ⟨b,0,none⟩)/\g.al i1=some b:=by
  generalize a.tmps.getD i1 undef=c at v1
  cases v1 with
  |data _ _ h=>cases h
  |box _ _ b h=>exact⟨b,rfl,h⟩
 obtain⟨b4,e4,ach⟩:∃b,a.tmps.getD i4 undef=.pointer (some ⟨b,0,none⟩)/\g.al i4=some b:=by
  generalize a.tmps.getD i4 undef=c at v4
  cases v4 with
  |data _ _ h=>cases h
  |box _ _ b h=>exact⟨b,rfl,h⟩
 obtain⟨cs,vs,ty,k0,k1,k2,k3,k4,k5,k6,k7,k8⟩:=R.box i1 b1 CD;rw[Qx]at k0;cases k0
 have h0:0<vs.size:=by rw[<-k5];exact Nat.zero_lt_one
 have hv:=oz (RV.data (al:=cD) _ _ (k6 0 (by simp) h0))
 have dX:w.cell? ⟨b1,0,none⟩=some (.string ⟨s.toArray⟩):=by simp[World.cell?,k2,h0,hv]
 have sq:=R.below
 have hle:g.base<=w.heap.size:=by rw[R.base];exact R.below.size
 rw[R.base]at sq;have gm:GI w:=hG w0 w cj sq;rw[e1,e4];refine afc func171 rfl ?_;refine(fE (m:=0)).1 ?_;refine ia (λa=>a.tmps.size=4/\a.defers=[]/\a.tmps.getD 0 undef=.pointer (some ⟨b1,0,none⟩)/\a.tmps.getD 1 undef=.pointer (some ⟨b4,0,none⟩)) ⟨by simp[ntmps171],rfl,cH _ _ 0 (by simp),cH _ _ 1 (by simp)⟩ ?_;rintro aC ⟨zC,dC,t0,t1⟩
 have eY:∀(a:Act)(d t:Nat)(c:Value),t≠d->(a.put (some d) c).tmps.getD t undef=a.tmps.getD t undef:=λa d t c h=>by
  simp[Act.put,acB (adi h)]
 have jy:∀(a:Act)(d:Nat)(c:Value),a.tmps.size=4->d<4->(a.put (some d) c).tmps.getD d undef=c:=λa d c h hd=>by
  simp[Act.put,h,hd]
 refine ac6 ?_;show wpOpsIn _ _ _ _ _ [0,1,2] aC w;refine aV rfl rfl (by rfl) (kS (t:=9) (d:=.string) (b:=b1) (off:=0) rfl t0 (by kernel_rfl) rfl dX) ?_;show wpOpsIn _ _ _ _ _ [1,2] (aC.put (some 2) (.string ⟨s.toArray⟩)) w
 refine gE rfl rfl (by rfl) (jr (k:=172) (args:=#[.string ⟨s.toArray⟩]) w rfl rfl ?_ (by kernel_rfl)) (HK w (fB g false) #[.string ⟨s.toArray⟩] gm rfl (λi h h'=>by
  match i,h with
  |0,_=>exact .data _ _ (.str s))) ?_
 .simp only[ado,ac5,adp];show #[(aC.put (some 2) _).tmps.getD 2 undef]=_;rw[jy _ _ _ zC (by decide)]
 rintro e w2 ⟨jK,hi,si,c,rfl,Mw,cI⟩;refine⟨c,rfl,?_⟩;obtain⟨g',qQ,nx,R2⟩:=R.call (some d) (λt ht=>by cases ht;exact⟨hd,id⟩) false jK si Mw cI (λh=>by cases h);obtain⟨i28,Ss,S_⟩:=iZ 29 10
 let oS:Oper:={ dst:=none,op := .store 29 (.tmp i4) (.tmp d),type:=0,pos := "",after := #[],guard:=none }
 have iS:bu z 0 (x.map AV.aH)=x.map AV.aH:=by simp[bu,hz,hx]
 have ky:aD (AL.aY S (some d) (.agg x)) H (.store .any i28.size (.t i4) (.t d))=some { v:=bO,dm:=some d,hw:=some (i4,x.map AV.aH) }:=by
  simp[aD,AL.aY,ev,au,adi LV,GS,Lq,HR.okB,AV.cells,AV.storable,AV.bZ,S_,hx,hz,bG,iS]
 obtain⟨c2,w3,g3,cM,QN,A2,R3⟩:=l0 R2 (o:=oS) (x1:=.tmp i4) (x2:=.tmp d) (y1:=.t i4) (y2:=.t d) (hr:=.any) rfl rfl Ss (by simp[c_,Kx]) (by simp[c_,hd]) (λ_ _=>id) (λ_ _=>id) ky;show wpOpsIn _ _ _ _ _ [2] ((aC.put (some 2) (.string ⟨s.toArray⟩)).put (some 3) c) w2
 obtain⟨a3,PC⟩:∃a3,(aC.put (some 2) (.string ⟨s.toArray⟩)).put (some 3) c=a3:=⟨_,rfl⟩
 rw[PC]
 have z3:a3.tmps.size=4:=by rw[<-PC,lg,lg];exact zC
 have d3:a3.defers=[]:=by rw[<-PC];exact dC
 have e31:a3.eval (.tmp 1)=.pointer (some ⟨b4,0,none⟩):=by
  rw[<-PC,bJ _ _ _ _ (by rw[lg];omega),if_neg (by decide),bJ _ _ _ _ (by omega),if_neg (by decide)];exact t1
 have e33:a3.eval (.tmp 3)=c:=by rw[<-PC,bJ _ _ _ _ (by rw[lg];omega),if_pos rfl]
 have f4:(a.put (some d) c).eval (.tmp i4)=.pointer (some ⟨b4,0,none⟩):=by rw[bJ _ _ _ _ (by omega),if_neg (adi LV)];exact e4
 have fd:(a.put (some d) c).eval (.tmp d)=c:=by rw[bJ _ _ _ _ (by omega),if_pos rfl]
 have bj:∀o:Oper,o.op=.store 29 (.tmp 1) (.tmp 3)->(execOp a3.eval o).run prog w2=(execOp (a.put (some d) c).eval oS).run prog w2:=by
  intro o ho;unfold execOp;simp only[ho,e31,e33,oS,f4,fd]
 have fin:∀ops,wpOpsIn (FR none) 0 prog ops (bodyPost prog f171 λe w2=>e=.returned (.tuple #[])/\∃(c:Value)(g':Gh)(S':an)(H':aq),g'.old=g.old/\Rel prog w0 n bz g' S' H' (a.put (some d) c) w2/\(∀t,t≠d->S' t=S t)/\H'=au H i4 (some (x.map AV.aH))) [] a3 w3:=by
  intro ops;refine⟨d3,.tuple #[],?_,rfl,c,g3,_,_,by rw[A2,nx],R3,λt ht=>?_,rfl⟩
  .simp[results,results171]
  .simp[aQ.S,AL.aY,au,ht,oS]
 rcases cM with cM|⟨cM,rfl⟩
 .refine aV rfl rfl (by rfl) ((bj _ rfl).trans cM) (fin _)
 .refine dU rfl rfl (by rfl) ((bj _ rfl).trans cM) (fin _)
def tN{P:Program}{w0:World}{n:Nat}{g:Gh}{S:an}{H:aq}{a:Act}{w:World}(R:Rel P w0 n bz g S H a w)(b:Nat):Rel P w0 n bz { g with old:={ g.old with aR:=au g.old.aR b none } } S H a w:={
 size:=R.size
 defers:=R.defers
 facts:=R.facts
 slot:=R.slot
 own t ht hu:=(R.own t ht hu).aR rfl λb hb=>⟨rfl,rfl,hb⟩
 box i c hi:=by
  obtain⟨cs,vs,ty,h1,h2,h3,h4,h5,h6,h7,h8,h9⟩:=R.box i c hi;exact⟨cs,vs,ty,h1,h2,h3,h4,h5,h6,h7,λj hj dH=>(h8 j hj dH).aR rfl λb hb=>⟨rfl,rfl,hb⟩,h9⟩
 iw:=R.iw
 iE:=R.iE
 inj:=R.inj
 base:=R.base
 below:=R.below
 fresh:=R.fresh
 still:=R.still
 grown:=R.grown
 kept c o h:=by
  have hc:c≠b:=by rintro rfl;simp[au]at h
  exact R.kept c o (by simpa[au,hc]using h) }
def O' (hG:aw GI) {w0:World} {n:Nat} {g:Gh} {S:an} {H:aq} {a:Act} {w:World} {d i1 i4:Nat} {s:List UInt8} {z x:List AV} (cj:GI w0) (R:Rel prog w0 n bz g S H a w) (hd:d < n) (QH:i1 < n) (Kx:i4 < n) (LV:d≠i4)
  (Te:S i1=.box i1 0) (Qx:H i1=some [.str s]) (GS:S i4=.box i4 0) (Lq:H i4=some z) (hz:z.length=10) (hx:x.length=10) (HK:AC prog GI 172 [.str s] (.ret (.agg x))):
  Calls prog 170 #[.func (.func 171) #[] #[a.tmps.getD i1 undef,a.tmps.getD i4 undef]] w λe w2=>e=.returned (.int .i64 0)/\∃(c:Value)(g':Gh)(S':an)(H':aq),g'.old=g.old/\Rel prog w0 n bz g' S' H' (a.put (some d) c) w2/\(∀t,t≠d->S' t=S t)/\H'=au H i4 (some (x.map AV.aH)):=by
 have R1:=R.nn (.cells #[.int .i64 0] 34)
 have uz:g.old.aR w.heap.size=none:=by
  cases h:g.old.aR w.heap.size with
  |none=>rfl
  |some o=>
   have:=(acz.1 (R.kept _ o h).2.1).1;omega
 refine tr (by kernel_rfl) (OX hG cj R1 hd QH Kx LV Te Qx GS Lq hz hx HK) ?_;rintro e w2 ⟨rfl,c,g',S',H',ho,R2,uB,uL⟩
 have hk:g'.old.aR w.heap.size=some (.cells #[.int .i64 0] 34):=by rw[ho];exact aK _ _ _
 have jD:=(R2.kept _ _ hk).2.1;have av:=(acz.1 jD).1;refine⟨av,⟨_,_,jD⟩,.inl ⟨_,rfl,rfl,c,_,S',H',?_,(tN R2 w.heap.size).jR ?_,uB,uL⟩⟩
 .show({ g'.old with aR:=au g'.old.aR w.heap.size none }:Old)=_;rw[ho]
  have:au (au g.old.aR w.heap.size (some (.cells #[.int .i64 0] 34))) w.heap.size none=g.old.aR:=by
   funext b
   by_cases hb:b=w.heap.size
   .subst hb;simp[au,uz]
   .simp[au,hb]
  show({ g.old with aR:=au (au g.old.aR w.heap.size (some (.cells #[.int .i64 0] 34))) w.heap.size none }:Old)=_;rw[this]
 .refine⟨rfl,rfl,rfl,by simp,λk dN=>?_⟩
  by_cases hb:k=w.heap.size
  .subst hb;rw[aer w2 _ _ _ _ _ jD,jD]
  .exact adL w2 _ k _ hb
def Zl (hG:aw GI) {s:List UInt8} {x:List AV} (hs:s.length≤320) (hx:x.length=10) (HK:AC prog GI 172 [.str s] (.ret (.agg x))) (QO:AC prog GI 78 [.agg (x.map AV.cT)] (.ret (.bool true))) :
  AC prog GI 122 [.str s] (.ret (.dR [.agg (x.map AV.cT),.int .i64 0])):=by
 refine AC.jw func122 rfl ntmps122 (by simp) λcc w=>?_
 refine eV hG c122.qa (λS' H'=>S' 1=.box 1 0/\S' 2=.box 2 0/\H' 1=some [.str s]/\∃z,H' 2=some z/\z.length=10) ?_ ?_
 .simp[c122,af.qa,bL,bw,aG,bh,aD,ev,aQ.S,aQ.H,au,aY,AL.start,AV.aH,AV.cells,AV.storable,bQ,bG,aO]
 rintro S1 H1 ⟨s1,s2,h1,z2,h2,hz2⟩;refine SW.seq (eV hG c122.qb.qa.qa (λS' H'=>S' 1=.box 1 0/\S' 2=.box 2 0/\H' 1=some [.str s]/\H' 2=some z2/\S' 8=.bool false) ?_ ?_)
 .have hs':¬(320:Int)<s.length:=by omega
  simp[c122,af.qa,af.qb,bL,bw,aG,bh,aD,ev,aQ.S,aQ.H,au,aY,s1,s2,h1,h2,b0,HR.okB,AV.aH,eF,hs',aO]
 rintro S2 H2 ⟨s1,s2,h1,h2,s8⟩;refine SW.cond rfl false (by show S2 8=_;rw[s8]) (SW.skip ?_);show SW prog GI 21 none (.seq _ (.seq (.seq _ (.seq _ (.cond _ _ _))) (.seq (.seq _ (.cond _ _ _)) (.seq _ .ret)))) _ _ _ _;refine eV hG c122.qb.qb.qa (λS' H'=>S' 1=.box 1 0/\S' 2=.box 2 0/\S' 4=.box 4 0/\H' 1=some [.str s]/\H' 2=some z2/\∃z,H' 4=some z/\z.length=10) ?_ ?_
 .simp[c122,af.qa,af.qb,bL,bw,aG,bh,au,bQ,s1,s2,h1,h2,aO]
 rintro S3 H3 ⟨s1,s2,s4,h1,h2,z4,h4,Xr⟩
 refine SW.seq (SW.seq (SW.hand hG (p:=0) (lm:=[0,1]) (l2:=[2]) (js:=[]) (oh:=[_,_]) (lv:=[_]) rfl rfl rfl rfl (by kernel_rfl) (λ_ h=>h) (lO:=[]) (lu:=(c122.qb.qb.qb.qa.qa.dl).drop 2) rfl (by kernel_rfl) rfl (by kernel_rfl)
  (K1:=λS' H'=>S' 1=.box 1 0/\S' 2=.box 2 0/\S' 4=.box 4 0/\H' 1=some [.str s]/\H' 2=some z2/\H' 4=some z4)
  (K2:=λo S' H'=>o=Old.plain cc w/\S' 2=.box 2 0/\S' 4=.box 4 0/\S' 11=.int .i64 0/\H' 2=some z2/\H' 4=some (x.map AV.aH))
  (K3:=λo S' H'=>o=Old.plain cc w/\S' 2=.box 2 0/\S' 4=.box 4 0/\S' 5=.int .i64 0/\H' 2=some z2/\H' 4=some (x.map AV.aH)) ⟨s1,s2,s4,h1,h2,h4⟩ ?_ ?_ ?_))
 .rintro w0 g S5 H5 a w5 m cj ho R ⟨s1,s2,s4,h1,h2,h4⟩;have bg:=R.size;refine aV rfl rfl (by rfl) (nA (fn:=.func 171) (c:=#[.tmp 1,.tmp 4]) rfl) ?_
  obtain⟨fv,lT⟩:∃fv:Value,fv=.func (.func 171) #[] (#[Operand.tmp 1,.tmp 4].map a.eval):=⟨_,rfl⟩
  show wpOpsIn _ _ _ _ _ [1] (a.put (some 10) (.func (.func 171) #[] (#[Operand.tmp 1,.tmp 4].map a.eval))) w5;rw[<-lT];have R1:=R.put 10 .bm fv (by decide) (.bm _) trivial
  obtain⟨a1,pA⟩:∃a1,a.put (some 10) fv=a1:=⟨_,rfl⟩
  rw[pA]at R1⊢
  have Cf:fv=.func (.func 171) #[] #[a1.tmps.getD 1 undef,a1.tmps.getD 4 undef]:=by
   have e1:=bJ a 10 1 fv (by omega);have e4:=bJ a 10 4 fv (by omega);rw[if_neg (by decide),pA]at e1 e4;have CS:a1.tmps.getD 1 undef=a.eval (.tmp 1):=e1;have Lg:a1.tmps.getD 4 undef=a.eval (.tmp 4):=e4;rw[CS,Lg,lT];simp only[ado,ac5,adp]
  have kR:a1.eval (.tmp 10)=fv:=by rw[<-pA,bJ _ _ _ _ (by omega),if_pos rfl]
  refine gE rfl rfl (by rfl) (jr (k:=170) (args:=#[.func (.func 171) #[] #[a1.tmps.getD 1 undef,a1.tmps.getD 4 undef]]) w5 rfl rfl ?_ (by kernel_rfl)) (O' hG cj R1 (d:=11) (i1:=1) (i4:=4) (by decide) (by decide) (by decide) (by decide) (by simp[au,s1]) h1 (by simp[au,s4]) h4 Xr hx HK) ?_
  .simp only[ado,ac5,adp,kR,<-Cf]
  .rintro e w6 ⟨rfl,c,g',S',H',lQ,R2,uB,uL⟩;refine⟨_,rfl,?_⟩;have R3:=R2.put 11 (.int .i64 0) (.int .i64 0) (by decide) (.data _ _ (.int _ _)) trivial;rw[CC]at R3;refine⟨g',_,H',R3,lQ.trans ho,?_,?_,aK _ _ _,?_,?_⟩
   .show au S' 11 _ 2=_;rw[aN _ _ (by decide),uB 2 (by decide)];simp[au,s2]
   .show au S' 11 _ 4=_;rw[aN _ _ (by decide),uB 4 (by decide)];simp[au,s4]
   .rw[uL,aN _ _ (by decide)];exact h2
   .rw[uL];exact aK _ _ _
 .rintro o S5 H5 ⟨rfl,s2,s4,ck,h2,h4⟩;refine⟨λ_ h=>h,?_⟩;simp[c122,af.qa,af.qb,af.dl,bw,aG,bh,aD,ev,aQ.S,aQ.H,au,aY,s2,s4,ck,h2,h4,AV.aH,bG]
 .rintro o S5 H5 ⟨rfl,s2,s4,s5,h2,h4⟩;refine eV hG c122.qb.qb.qb.qa.qb.qa (λS' H'=>S' 2=.box 2 0/\S' 4=.box 4 0/\S' 13=.bool false/\H' 2=some z2/\H' 4=some (x.map AV.aH)) ?_ ?_
  .simp[c122,af.qa,af.qb,bL,bw,aG,bh,aD,ev,aQ.S,aQ.H,au,aY,s2,s4,s5,h2,h4,AV.aH,eF,aO]
  rintro S6 H6 ⟨s2,s4,dw,h2,h4⟩;refine SW.cond rfl false (by show S6 13=_;rw[dw]) (SW.skip ?_);have Eh:List.take 10 (x.map AV.aH)=x.map AV.aH:=acQ (by simp;omega)
  have e7:∀(l:List AV) H,fz H (.agg (l.map AV.aH))=.agg (l.map AV.cT):=λl H=>by simp only[fz,gM,AV.vw,ad2,oT]
  refine SW.seq (eV hG c122.qb.qb.qb.qb.qa.qa (λS' H'=>S' 2=.box 2 0/\S' 4=.box 4 0/\S' 18=.bool false/\H' 2=some z2/\H' 4=some (x.map AV.aH)) ?_ ?_)
  .simp[c122,af.qa,af.qb,bL,bw,aG,bh,aD,ev,aQ.S,aQ.H,au,aY,s2,s4,h2,h4,b0,HR.okB,hx,iD,Eh,e7,aO];refine oc QO ?_;simp[j0,au,s2,s4,h2,h4]
  rintro S7 H7 ⟨s2,s4,l8,h2,h4⟩;refine SW.cond rfl false (by show S7 18=_;rw[l8]) (SW.skip ?_);refine eV hG c122.qb.qb.qb.qb.qb.qa (λS' H'=>S' 2=.box 2 0/\S' 3=.int .i64 0/\H' 2=some (x.map AV.aH)) ?_ ?_
  .have WY:List.drop 10 z2=[]:=adU (by omega);simp[c122,af.qa,af.qb,bL,bw,aG,bh,aD,ev,aQ.S,aQ.H,au,aY,s2,s4,h2,h4,b0,HR.okB,hx,iD,Eh,AV.cells,AV.storable,AV.bZ,bu,bG,hz2,WY,aO,AV.aH]
  rintro S8 H8 ⟨s2,s3,h2⟩;obtain⟨i28,Ss,S_⟩:=iZ 29 10;obtain⟨fs,gv⟩:=uZ 29;refine SW.ret ⟨eA.plain rfl,rfl,_,?_,rfl⟩;show cL prog 21 [.cell 2 29,.tmp 3] S8 H8=_;simp[cL,dc,db,s2,s3,h2,Ss,gv,S_,b0,eh,hx,AV.out,iD,oT,Eh,AV.bW,AV.vw,AV.cT,ad2]
def B0{s:aF}(hs:oP s)(out:List Int):∀i,(jJ s out i).length<=1000*i
 |0=>by simp[jJ]
 |i+1=>by
  have ih:=B0 hs out i;rw[sR,acV]
  have:(gq s out i).length<=1000:=by
   unfold gq;split
   .simp
   .split
    .rename_i w hw;obtain⟨av,rfl⟩:=acT.1 hw;have:=hs.cd _ (acy av);simp;omega
    .simp
  omega
end Go.Proofs.Tryz
namespace Go.Proofs.Tryz
open Go Go.AL Go.RowKit Go.Proofs Go.Proofs.Tram
attribute [local simp] dP fu fb eu eL dV dW du dp eJ dq cU gG gD aG aD ev aQ.S aQ.H bG au aY AL.start AV.cells AV.storable AV.bZ bu bQ eF b0 HR.okB post cL dc db AV.out AV.bW cy dK fz gM AV.vw da vI int bO aO dE dj iJ jF eo dG bt AV.aH AV.cT
variable{GI:World->Prop}
def lB(s:aF)(out:List Int)(es:List End)(st:Int):Int:=firstT (λn=>decide (s.wide<n)) (dh s out es st)
def OB{s:aF}{out:List Int}{es:List End}{st:Int}:((dh s out es st).all λn=>decide (n<=s.wide))=decide (lB s out es st<0):=by
 have h:=l3 (p:=λn=>decide (s.wide<n)) (l:=dh s out es st)
 have e:((dh s out es st).all λn=>decide (n<=s.wide))=!((dh s out es st).any λn=>decide (s.wide<n)):=by
  rw[adE];simp
 rw[e,<-h];unfold lB
 by_cases hz:0<=firstT (λn=>decide (s.wide<n)) (dh s out es st)
 .have:¬firstT (λn=>decide (s.wide<n)) (dh s out es st)<0:=by omega
  simp[hz,this]
 .have:firstT (λn=>decide (s.wide<n)) (dh s out es st)<0:=by omega
  simp[hz,this]
def Ar(s:aF)(out:List Int)(es:List End)(st:Int):eE:=if lB s out es st<0 then .ret (.dR [])else .panic (.iface 242 (.agg [.int .i64 (lB s out es st)]))
def Y9(hG:aw GI)(s:aF)(cV:bf s=true)(out:List Int)(ho:out.length<1000000)(es:List End)(he:es.length<100000)(g:Good s out es){st:Int}(h0:0<=st)(h1:st<=10):AC prog GI 191 [.ref (aZ s),.ref [vI out,.slice .view (es.map a_)],.ref [.int .i64 st]] (Ar s out es st):=by
 have Jo:=od s out es st;refine cE hG func191 ntmps191 c191 ?_;refine aI (λS H=>S 0=.ref (aZ s)/\S 2=.ref [.int .i64 st]/\S 7=.slice .view (gp s out es es.length)/\S 8=.int .i64 es.length/\S 9=.int .i64 0) ?_ ?_
 .simp[aZ,ae,bT];refine oc (V9 hG s cV out ho es he g) ?_;simp[y_]
 rintro S H ⟨s0,s2,s7,s8,s9⟩;simp[s0,s2,s7,s8,s9];refine bC 9 es.length (λi S H=>S 0=.ref (aZ s)/\S 2=.ref [.int .i64 st]/\S 7=.slice .view (gp s out es es.length)/\S 8=.int .i64 es.length/\S 9=.int .i64 (i:Nat)/\∀j (hj:j<(dh s out es st).length),j<i->decide (s.wide<(dh s out es st)[j])=false) (λi S H h=>h.2.2.2.2.1) ⟨by simp[s0],by simp[s2],by simp[s7],by simp[s8],by simp[s9],λj _ hj=>absurd hj (af4 _)⟩ ?_;clear s0 s2 s7 s8 s9 S H;rintro i hi S H ⟨s0,s2,s7,s8,s9,hb⟩
 by_cases av:i<es.length
 case neg=>
  have hn:lB s out es st<0:=by
   unfold lB;rw[kZ λj hj=>hb j hj (by omega)];decide
  unfold Ar;rw[if_pos hn];simp[s0,s2,s7,s8,s9,av]
 have hw:IntKind.i64.wrap ((i:Int)+1)=i+1:=aP (by omega)
 have vx:(gp s out es es.length)[i]?=some (.agg [.slice .view ((gY s out es i).map gA),.bool (j9 s es i)]):=by
  unfold gp;rw[ac1,List.getElem?_range av];rfl
 have ss:(dh s out es st)[i]'(by omega)=jE s out es st i:=by unfold dh;simp
 refine aI (λS H=>S 0=.ref (aZ s)/\S 2=.ref [.int .i64 st]/\S 7=.slice .view (gp s out es es.length)/\S 8=.int .i64 es.length/\S 9=.int .i64 (i:Nat)/\S 10=.bool true) (by simp[s0,s2,s7,s8,s9,av]) ?_;clear s0 s2 s7 s8 s9 S H;rintro S H ⟨s0,s2,s7,s8,s9,cb⟩;refine G7 (by simp[cb]) ?_;refine E6 ?_;refine aI (λS H=>S 0=.ref (aZ s)/\S 2=.ref [.int .i64 st]/\S 7=.slice .view (gp s out es es.length)/\S 8=.int .i64 es.length/\S 9=.int .i64 (i:Nat)/\S 3=.int .i64 (i:Nat)/\S 4=.box 4 0/\H 4=some [.slice .view ((gY s out es i).map gA),.bool (j9 s es i)]) (by simp[s0,s2,s7,s8,s9,av,vx]) ?_;clear s0 s2 s7 s8 s9 cb S H;rintro S H ⟨s0,s2,s7,s8,s9,s3,s4,e4⟩;have a84:=YC hG s cV (Cl g av) (xZ cV g i) (λx hx=>EE g hx) (j9 s es i) h0 h1
 have TF:s.wide<jE s out es st i->lB s out es st=i:=λh=>by
  unfold lB;exact oV (i:=i) (by omega) (by rw[ss];simpa using h) hb
 simp[s0,s2,s7,s8,s9,s3,s4,e4,aZ,ae,bT];refine oc a84 ?_
 by_cases uP:s.wide<jE s out es st i
 .have Fy:s.wide<jg s st ((gY s out es i).map (bl s)) (j9 s es i):=uP;have hf:=TF uP;unfold Ar;rw[if_neg (by omega),hf];simp[s0,s2,s7,s8,s9,s3,s4,e4,aZ,ae,bT,Fy,L1,bV]
 .have Fy:¬s.wide<jg s st ((gY s out es i).map (bl s)) (j9 s es i):=uP;simp[s0,s2,s7,s8,s9,s3,s4,e4,aZ,ae,bT,Fy,hw,av];intro j hj fh
  by_cases e:j=i
  .subst e;rw[ss];omega
  .have:=hb j hj (by omega);simpa using this
def PN(hG:aw GI)(s:aF)(cV:bf s=true)(out:List Int)(ho:out.length<1000000)(es:List End)(he:es.length<100000)(g:Good s out es){st:Int}(h0:0<=st)(h1:st<=10):AC prog GI 149 [gy s,aL out es,.int .i64 st] (.ret (.bool (eU s out es st))):=by
 have a:=Y9 hG s cV out ho es he g h0 h1
 have e:eU s out es st=(decide ((es.length:Int)<=s.rows)&&decide (lB s out es st<0)):=by unfold eU;rw[OB]
 rw[e];refine cE hG func149 ntmps149 c149 ?_;refine aI (λS H=>S 3=.box 3 0/\S 4=.box 4 0/\S 5=.box 5 0/\H 3=some (aZ s)/\H 4=some [vI out,.slice .view (es.map a_)]/\H 5=some [.int .i64 st]) (by simp[gy,aZ,ae,bT,aL,aS]) ?_;rintro S H ⟨s3,s4,s5,e3,e4,e5⟩
 by_cases hr:(es.length:Int)<=s.rows
 case neg=>simp[s3,s4,s5,e3,e4,e5,aZ,ae,bT,hr]
 unfold Ar at a
 by_cases hw:lB s out es st<0
 .rw[if_pos hw]at a;have b:=Ta hG (k:=191) (by kernel_rfl) a (.inl ⟨_,rfl,rfl⟩);simp[s3,s4,s5,e3,e4,e5,aZ,ae,bT,hr];refine⟨_,by kernel_rfl,b,λ_=>rfl,?_⟩;simp[hw]
 .rw[if_neg hw]at a;have b:=Ta hG (k:=191) (by kernel_rfl) a (.inr (.inl ⟨_,rfl,rfl⟩));simp[s3,s4,s5,e3,e4,e5,aZ,ae,bT,hr];refine⟨_,by kernel_rfl,b,λ_=>rfl,?_⟩;simp[hw]
def zG{p:Int->Bool}:∀{n i:Nat},i<=n->(∀k:Nat,i<=k->k<n->p k=false)->jx p n=jx p i
 |0,i,h,_=>by rw[show i=0 by omega]
 |n+1,i,h,hp=>by
  by_cases e:i=n+1
  .rw[e]
  .rw[jx,hp n (by omega) (by omega)]
   exact zG (by omega) λk h1 h2=>hp k h1 (by omega)
def PZ(hG:aw GI)(s:aF)(cV:bf s=true)(out:List Int)(ho:out.length<1000000)(es:List End)(he:es.length<100000)(g:Good s out es):AC prog GI 83 [gy s,aL out es] (.ret (.int .i64 (gl s out es))):=by
 refine cE hG func83 ntmps83 c83 ?_;refine aI (λS H=>S 2=.box 2 0/\S 3=.box 3 0/\H 2=some (aZ s)/\H 3=some [vI out,.slice .view (es.map a_)]) (by simp[gy,aZ,ae,bT,aL,aS]) ?_;rintro S H ⟨s2,s3,e2,e3⟩;simp[s2,s3,e2,e3];refine B4 5 11 (λi S H=>i<=11/\S 2=.box 2 0/\S 3=.box 3 0/\H 2=some (aZ s)/\H 3=some [vI out,.slice .view (es.map a_)]/\S 5=.int .i64 ((i:Nat)-1)/\∀k:Nat,i<=k->k<11->eU s out es k=false) (λi S H h=>h.2.2.2.2.2.1) ⟨by omega,by simp[s2],by simp[s3],by simp[e2],by simp[e3],by simp,λk h1 h2=>by omega⟩ ?_;clear s2 s3 e2 e3 S H;rintro i hi S H ⟨_,s2,s3,e2,e3,s5,hb⟩;have hm:=zG (p:=eU s out es) hi hb
 cases i with
 |zero=>
  have hm:gl s out es= -1:=hm;simp[s2,s3,e2,e3,s5,hm]
 |succ m=>
  have hm:gl s out es=if eU s out es m then(m:Int)else jx (eU s out es) m:=hm
  have lE:S 5=.int .i64 (m:Nat):=by rw[s5];congr 1;omega
  have CX:IntKind.i64.wrap ((m:Int)-1)=m-1:=aP (by omega);simp[s2,s3,e2,e3,lE,aZ,ae,bT];refine oc (PN hG s cV out ho es he g (by omega) (by omega)) ?_;cases hf:eU s out es m
  .simp[s2,s3,e2,e3,lE,aZ,ae,bT,CX];refine⟨by omega,λk h1 h2=>?_⟩
   by_cases e:k=m
   .subst e;exact hf
   .exact hb k (by omega) h2
  .rw[hf]at hm;simp at hm;simp[s2,s3,e2,e3,lE,aZ,ae,bT,hm]
def JX{l:List Int}{i:Nat}(h:i<l.length):vX (l.take (i+1))=max (vX (l.take i)) l[i]:=by
 unfold vX;rw[acL h,adk];rfl
def XD(hG:aw GI)(l:List Int)(hl:l.length<1000000):AC prog GI 230 [vI l] (.ret (.int .i64 (vX l))):=by
 refine cE hG func230 ntmps230 c230 ?_;simp[c230];refine bC 4 l.length (λi S H=>S 0=vI l/\S 4=.int .i64 (i:Nat)/\S 3=.int .i64 (vX (l.take i))) (λi S H h=>h.2.1) ⟨by simp,by simp,by simp[vX]⟩ ?_;rintro i hi S H ⟨s0,s4,s3⟩
 by_cases av:i<l.length
 .have hw:IntKind.i64.wrap ((i:Int)+1)=i+1:=aP (by omega);rw[JX av];simp[s0,s4,s3,av,hw]
 .have cN:i=l.length:=by omega
  subst cN;simp[s0,s4,s3]
def OV{s:aF}(hw:0<=s.wide){out:List Int}{es:List End}{st:Int}:eU s out es st=(decide ((es.length:Int)<=s.rows)&&decide (vX (dh s out es st)<=s.wide)):=by
 unfold eU
 congr 1
 rw[adE];simp[Ru hw]
def PQ(hG:aw GI)(s:aF)(hs:oP s)(cV:bf s=true)(out:List Int)(ho:out.length<1000000)(es:List End)(he:es.length<100000)(fw:j5 s out es=true){st:Int}(h0:0<=st)(h1:st<=10):AC prog GI 215 [bU s,aL out es,.int .i64 st] (.ret (.bool (eU s out es st))):=by
 rw[OV (by have:=(eM cV).wide;omega)];refine cE hG func215 ntmps215 c215 ?_;refine aI (λS H=>S 3=.box 3 0/\S 4=.box 4 0/\S 2=.int .i64 st/\H 3=some (ae s)/\H 4=some [vI out,.slice .view (es.map a_)]) (by simp[bU,ae,aL,aS]) ?_;rintro S H ⟨s3,s4,s2,e3,e4⟩
 by_cases hr:(es.length:Int)<=s.rows
 case neg=>simp[s2,s3,s4,e3,e4,ae,hr]
 simp[s2,s3,s4,e3,e4,ae,hr];refine oc (YI hG s hs cV out ho es he (sV fw).2.1 (qm cV fw) h0 h1) ?_;simp[s2,s3,s4,e3,e4,ae,hr];refine oc (XD hG _ (by rw[od];omega)) ?_;simp[s2,s3,s4,e3,e4,ae,hr]
def wv{p:Int->Bool}:∀{n i:Nat},i<=n->(∀k:Nat,i<=k->k<n->p k=false)->jx p n=jx p i
 |0,i,h,_=>by rw[show i=0 by omega]
 |n+1,i,h,hp=>by
  by_cases e:i=n+1
  .rw[e]
  .rw[jx,hp n (by omega) (by omega)]
   exact wv (by omega) λk h1 h2=>hp k h1 (by omega)
def Xk(hG:aw GI)(s:aF)(hs:oP s)(cV:bf s=true)(out:List Int)(ho:out.length<1000000)(es:List End)(he:es.length<100000)(fw:j5 s out es=true):AC prog GI 197 [bU s,aL out es] (.ret (.int .i64 (gl s out es))):=by
 refine cE hG func197 ntmps197 c197 ?_;refine aI (λS H=>S 2=.box 2 0/\S 3=.box 3 0/\H 2=some (ae s)/\H 3=some [vI out,.slice .view (es.map a_)]) (by simp[bU,ae,aL,aS]) ?_;rintro S H ⟨s2,s3,e2,e3⟩;simp[s2,s3,e2,e3];refine B4 5 11 (λi S H=>i<=11/\S 2=.box 2 0/\S 3=.box 3 0/\H 2=some (ae s)/\H 3=some [vI out,.slice .view (es.map a_)]/\S 5=.int .i64 ((i:Nat)-1)/\∀k:Nat,i<=k->k<11->eU s out es k=false) (λi S H h=>h.2.2.2.2.2.1) ⟨by omega,by simp[s2],by simp[s3],by simp[e2],by simp[e3],by simp,λk h1 h2=>by omega⟩ ?_;clear s2 s3 e2 e3 S H;rintro i hi S H ⟨_,s2,s3,e2,e3,s5,hb⟩;have hm:=wv (p:=eU s out es) hi hb
 cases i with
 |zero=>
  have hm:gl s out es= -1:=hm;simp[s2,s3,e2,e3,s5,hm]
 |succ m=>
  have hm:gl s out es=if eU s out es m then(m:Int)else jx (eU s out es) m:=hm
  have lE:S 5=.int .i64 (m:Nat):=by rw[s5];congr 1;omega
  have CX:IntKind.i64.wrap ((m:Int)-1)=m-1:=aP (by omega);simp[s2,s3,e2,e3,lE,ae];refine oc (PQ hG s hs cV out ho es he fw (by omega) (by omega)) ?_;cases hf:eU s out es m
  .simp[s2,s3,e2,e3,lE,ae,CX];refine⟨by omega,λk h1 h2=>?_⟩
   by_cases e:k=m
   .subst e;exact hf
   .exact hb k (by omega) h2
  .rw[hf]at hm;simp at hm;simp[s2,s3,e2,e3,lE,ae,hm]
end Go.Proofs.Tryz
namespace Go.AL
def sP{P:Program}{GI:World->Prop}{i k:Nat}{x y:af}{Q:cw->an->aq->Prop}{S:an}{H:aq}(K:an->aq->Prop)(hx:bL P GI x (aO K) S H)(hy:∀S' H',K S' H'->yT P GI i k y Q S' H'):yT P GI i (k+1) (.seq x y) Q S H:=by
 refine Pa K (fC x (λe S H h=>?_) hx) (λh=>fC x h) hy
 cases e<;>first|exact⟨rfl,h⟩|exact h.elim
def Rel.tN{P:Program}{w0:World}{n:Nat}{g:Gh}{S:an}{H:aq}{a:Act}{w:World}(R:Rel P w0 n bz g S H a w)(b:Nat):Rel P w0 n bz { g with old:={ g.old with aR:=au g.old.aR b none } } S H a w:={
 size:=R.size
 defers:=R.defers
 facts:=R.facts
 slot:=R.slot
 own t ht hu:=(R.own t ht hu).aR rfl λb hb=>⟨rfl,rfl,hb⟩
 box i c hi:=by
  obtain⟨cs,vs,ty,h1,h2,h3,h4,h5,h6,h7,h8,h9⟩:=R.box i c hi;exact⟨cs,vs,ty,h1,h2,h3,h4,h5,h6,h7,λj hj dH=>(h8 j hj dH).aR rfl λb hb=>⟨rfl,rfl,hb⟩,h9⟩
 iw:=R.iw
 iE:=R.iE
 inj:=R.inj
 base:=R.base
 below:=R.below
 fresh:=R.fresh
 still:=R.still
 grown:=R.grown
 kept c o h:=by
  have hc:c≠b:=by rintro rfl;simp[au]at h
  exact R.kept c o (by simpa[au,hc]using h) }
section
variable{P:Program}{a:Act}{w:World}{m:Nat}{Q:Exit->Act->World->Prop}
def GH {ops:Array Oper} {i:Nat} {rest:List Nat} {o:Oper} (ho:ops[i]? = some o) (hw:Region.wanted o (yielded ops a.tmps)=true) (dF:eB o.op=true) {l f:Nat} {tmps:Array Value} {UB bd:Code} {w':World}
  (hr:(execOp a.eval o).run P w=.ok (.round l f tmps UB bd) w') {R:Ending->World->Prop} (hc:∀m,RoundIn (FR none) m P l f tmps UB bd w' R) (hk:∀e iV,R e iV->∃v,e=.returned v/\wpOpsIn (FR none) m P ops Q rest (a.put o.dst v) iV):wpOpsIn (FR none) m P ops Q (i::rest) a w:=by
 simp only[wpOpsIn,ho];rw[if_pos hw];refine⟨λ_ _=>trivial,?_⟩;rw[adW _ _ _ (λc hc=>by rw[hc]at dF;cases dF),hr];refine⟨λh=>by simp[FR,Fence.wide]at h,(hc (m-1)).mono λe iV hh=>?_⟩;obtain⟨v,rfl,h⟩:=hk e iV hh;exact h
def On{o:Oper}{t:TypeId}{x:Operand}{b:Bool}(ho:o.op=.unOp .not t x)(hx:a.eval x=.bool b):(execOp a.eval o).run P w=.ok (.value (.bool !b)) w:=by
 unfold execOp;simp[ho,hx,Op.unary]
end
section
variable{P:Program}{GI:World->Prop}
def YD {S:an} {H:aq} {t e size cap i j:Nat} {l vs:List AV} {o:Ow} (hi:S i=grow e l) (hj:S j = .slice o vs) (hv:aJ size vs=true) (hl:aJ size l=true) (hn:l.length+vs.length < 1048576) :
  ∃dm,(dm=none\/dm=some i)/\aD S H (.append t e size cap (.t i) (.t j))=some { v:=grow e (l++vs),dm:=dm }:=by
 have ei:ev S (.t i)=grow e l:=hi;have ej:ev S (.t j)=.slice o vs:=hj
 cases l with
 |nil=>
  refine⟨none,.inl rfl,?_⟩;simp only[aD];rw[ei,ej,D_]
  have xr:vs.length<1048576:=by simpa using hn
  simp[hv,grow,xr]
 |cons x l=>
  refine⟨some i,.inr rfl,?_⟩
  have xr:l.length+1+vs.length<1048576:=by simpa using hn
  simp only[aD];rw[ei,ej];simp[grow,hv,hl,bG,xr]
def KV {K:an→aq→Prop} {S:an} {H:aq} {t e size cap d i j:Nat} {rest:List bB} (l vs:List AV) (o:Ow) (hi:S i=grow e l) (hj:S j = .slice o vs) (hv:aJ size vs=true) (hl:aJ size l=true) (hn:l.length+vs.length < 1048576)
  (h:∀S',S' d=grow e (l++vs)->(∀k,k≠d->k≠i->S' k=S k)->cq P GI rest K S' H):cq P GI (⟨some d,none,.append t e size cap (.t i) (.t j)⟩::rest) K S H:=by
 obtain⟨dm,FZ,ky⟩:=YD (t:=t) (cap:=cap) (H:=H) hi hj hv hl hn;obtain⟨k1,k2⟩:=tI (S:=S) (d:=d) FZ (grow e (l++vs));rw[ah];simp only[aG,ky];exact h _ k1 k2
def KN {K:an→aq→Prop} {S:an} {H:aq} {t e size cap d j:Nat} {rest:List bB} (vs:List AV) (o:Ow) (hj:S j = .slice o vs) (hv:aJ size vs=true) (hn:vs.length < 1048576)
  (h:cq P GI rest K (au S d (grow e vs)) H):cq P GI (⟨some d,none,.append t e size cap (.c (.slice .nil [])) (.t j)⟩::rest) K S H:=by
 have ej:ev S (.t j)=.slice o vs:=hj;rw[ah];simp only[aG,aD,ej];have e1:ev S (.c (.slice .nil []))=.slice .nil []:=rfl;rw[e1];simp only[hv,hn,afv,Bool.and_self,ac3]
 have e2:(if vs.isEmpty=true then Ow.nil else Ow.own e)=(if vs=[]then Ow.nil else Ow.own e):=by simp
 rw[e2];exact h
end
end Go.AL
namespace Go.Proofs.Tryz
open Go Go.AL Go.RowKit Go.Proofs Go.Proofs.Tram
attribute [local simp] dP fu qw pn eL dV dW du dp eJ dq cU gG gD aG aD ev aQ.S aQ.H bG au aY AL.start AV.cells AV.storable AV.bZ bu bQ eF b0 HR.okB post cL dc db AV.out AV.bW cy dK fz gM AV.vw da vI int bO aO dE dj iJ jF eo dG bt AV.aH AV.cT
variable{GI:World->Prop}
def vE(l:List End):AV:=.slice .view (l.map a_)
def MR(l:List (List End)):aJ 1 (l.map vE)=true:=iK λa=>⟨rfl,rfl⟩
def Qi{now all:List End}{m i:Nat}(h:i<all.length):lp now (all.drop i) m=ch (now++[all[i]]) (all.drop (i+1)) m++lp now (all.drop (i+1)) m:=by
 rw[ad7 h,JA]
def Xc(hG:aw GI):∀(m:Nat)(now all:List End),m<=3->now.length+m<=1000->all.length<=24->AC prog GI 228 [.slice .view (now.map a_),.slice .view (all.map a_),.int .i64 m] (.ret (.slice .view ((ch now all m).map vE))):=by
 intro m
 induction m with
 |zero=>
  intro now all hm hn hl
  by_cases ha:all=[]
  .subst ha;have b_:aJ 1 [AV.slice .view (now.map a_)]=true:=rfl
   have e:(ch now [] 0).map vE=[.slice .view (now.map a_)]:=by simp[ch,vE]
   rw[e];refine AC.gW (o:=.own 37) ?_;refine cE hG func228 ntmps228 c228 ?_;simp[c228,ai,ah,b_]
  .have p_:((all.length:Int)==0)=false:=by have:=ade.2 ha;simp;omega
   refine AC.gW (o:=.nil) ?_;refine cE hG func228 ntmps228 c228 ?_;simp[c228,ai,ah,ch,ha,p_]
 |succ m ih=>
  intro now all hm hn hl
  by_cases ha:all=[]
  .subst ha;have b_:aJ 1 [AV.slice .view (now.map a_)]=true:=rfl
   have e:(ch now [] (m+1)).map vE=[.slice .view (now.map a_)]:=by simp[ch,vE]
   rw[e];refine AC.gW (o:=.own 37) ?_;refine cE hG func228 ntmps228 c228 ?_;simp[c228,ai,ah,b_]
  have p_:((all.length:Int)==0)=false:=by have:=ade.2 ha;simp;omega
  have PI:ch now all (m+1)=lp now all m:=by unfold ch;rw[if_neg ha]
  have gr:(ch now all (m+1)).length<=277:=MP hl (by omega);rw[PI]at gr⊢
  have CB:((m:Int)+1==0)=false:=by simp;omega
  have CX:IntKind.i64.wrap (m:Int)=m:=aP (by omega);refine AC.gW (o:=if lp now all m=[]then .nil else .view) ?_;refine cE hG func228 ntmps228 c228 ?_;refine aI (λS H=>S 0=vE now/\S 1=vE all/\S 2=.int .i64 ((m:Int)+1)) (by simp[ai,ah,vE]) ?_;rintro S H ⟨s0,s1,s2⟩;simp[ai,ah,s0,s1,s2,vE,p_,ha,CB];refine bC 8 all.length (λi S H=>S 0=vE now/\S 1=vE all/\S 2=.int .i64 ((m:Int)+1)/\S 8=.int .i64 (i:Nat)/\∃D,S 7=grow 37 (D.map vE)/\D++lp now (all.drop i) m=lp now all m) (λi S H h=>h.2.2.2.1) ⟨by simp[ai,ah,s0,vE],by simp[ai,ah,s1,vE],by simp[ai,ah,s2],by simp[ai,ah],[],by simp[ai,ah,grow],rfl⟩ ?_;clear s0 s1 s2 S H;rintro i hi S H ⟨s0,s1,s2,s8,D,s7,hD⟩
  by_cases av:i<all.length
  case neg=>
   have cN:i=all.length:=by omega
   subst cN;rw[afy,Ud,adn]at hD;subst hD
   by_cases h0:lp now all m=[]
   .rw[h0]at s7⊢;simp[ai,ah,s0,s1,s2,s8,s7,vE,grow]
   .have Fq:S 7=.slice (.own 37) ((lp now all m).map vE):=by rw[s7];simp[grow,h0]
    simp[ai,ah,s0,s1,s2,s8,Fq,vE,h0]
  have hw:IntKind.i64.wrap ((i:Int)+1)=i+1:=aP (by omega);have hlE:lp now (all.drop i) m=ch (now++[all[i]]) (all.drop (i+1)) m++lp now (all.drop (i+1)) m:=Qi av;have a148:=ih (now++[all[i]]) (all.drop (i+1)) (by omega) (by simp;omega) (by simp;omega)
  have hDl:D.length+(ch (now++[all[i]]) (all.drop (i+1)) m).length<=277:=by
   have:=congrArg List.length hD;rw[hlE]at this;simp at this;omega
  rw[hlE,<-adI]at hD;have VN:aJ 2 (now.map a_)=true:=oH now;have aaW:aJ 2 (all.map a_)=true:=oH all;have dI:aJ 2 [a_ all[i]]=true:=rfl;have Cn:aJ 1 ((ch (now++[all[i]]) (all.drop (i+1)) m).map vE)=true:=MR _
  have hT:List.drop (i+1) (List.take all.length (all.map a_))=(all.drop (i+1)).map a_:=by rw[acQ (by simp),ae8]
  have hN:(now++[all[i]]).map a_=now.map a_++[a_ all[i]]:=by simp
  rw[hN,ae8]at a148
  have Hw:(0:Int)<=(i:Int)+1:=by omega
  have oA:(i:Int)+1<=all.length:=by omega
  simp[s0,s1,s2,s8,s7,vE,av];refine KN (now.map a_) .view (by simp) VN (by simp;omega) ?_;simp[s0,s1,s2,s8,s7,vE,av,a_];refine oB (now.map a_) (a_ all[i]) (.own 46) (by simp[grow]) (by simp[a_]) dI VN (by simp;omega) ?_;intro S' sd dN;simp[sd,dN,s0,s1,s2,s8,s7,vE,av,hw,bound,aaW,Hw,oA,CX,grow,hT];refine oc a148 ?_;simp[sd,dN,s0,s1,s2,s8,s7,vE,av,hw];refine KV (D.map vE) ((ch (now++[all[i]]) (all.drop (i+1)) m).map vE) .view (by simp[dN,s7,vE,grow]) (by simp[vE]) Cn (MR D) (by simp;omega) ?_;intro S'' sd' Zw;simp[sd',Zw,sd,dN,s0,s1,s2,s8,vE,av,hw];exact⟨D++ch (now++[all[i]]) (all.drop (i+1)) m,by simp[grow,vE],hD⟩
end Go.Proofs.Tryz
namespace Go.AL
open Go.RowKit
section
variable{P:Program}{a:Act}{w:World}
def KP {o:Oper} {x:Operand} {b:Nat} {s:ByteArray} {pos r p':Nat} (ho:o.op = .next x true) (hx:a.eval x = .pointer (some ⟨b,0,none⟩)) (hb:w.heap[b]? = some (.stringIter s pos)) (h:pos < s.size) (hr:(Utf8.decode s pos).1=r) (hp:pos+(Utf8.decode s pos).2=p') :
  (execOp a.eval o).run P w=.ok (.value (.tuple #[.bool true,.int .i64 pos,.int .i32 r])) (w.putObj b (.stringIter s p')):=by
 unfold execOp;simp only[ho,hx,Instr.next,getObj,setObj,acK,Sem.run,hb,Result.andThen,h,ac3]
 generalize hd:Utf8.decode s pos=d at*
 obtain⟨d1,d2⟩:=d;simp only at hr hp;subst hr;subst hp;simp[goInt,Sem.run,World.putObj]
end
end Go.AL
namespace Go.Proofs.Tryz
open Go.AL
def mG(n:Int):List UInt8:=HS 20 n.toNat
def EY(w:List UInt8):Bool:=!w.isEmpty&&decide (w.length<=3)&&(w.all λc=>decide (48<=c.toNat)&&decide (c.toNat<=57))&&mG (dY w)==w
def Iv{w:List UInt8}:EY w=true↔w≠[]/\w.length<=3/\(∀c∈w,digit c)/\mG (dY w)=w:=by
 unfold EY digit;simp[and_assoc]
def at'(l:List Int)(i:Nat):Int:=l[i]?.getD 0
end Go.Proofs.Tryz
namespace Go.Proofs.Tryz
open Go.AL
variable{s:aF}{x y:List End}
def eQ(s:aF):List End->List End->Bool:=gV List.length (gl s [])
end Go.Proofs.Tryz
namespace Go.Proofs.Tryz
open Go Go.AL Go.RowKit Go.Proofs Go.Proofs.Tram
attribute [local simp] dP fu fb eu eL dV dW du dp eJ dq cU gG gD aG aD ev aQ.S aQ.H bG au aY AL.start AV.cells AV.storable AV.bZ bu bQ eF b0 HR.okB post cL dc db AV.out AV.bW cy dK fz gM AV.vw da vI int bO aO dE dj iJ jF eo dG bt AV.aH AV.cT
variable{GI:World->Prop}
def AN(s:aF):(aZ s).map AV.cT=aZ s:=by
 simp[aZ,ae,bT,vI,ints,AV.cT]
def zc(s:aF):(aZ s).length=11:=rfl
def Gf(s:aF):AV.agg ((aZ s).take 10|>.map AV.cT)=bU s:=by
 simp[aZ,ae,bU,vI,ints,AV.cT]
def ny{s:aF}(h:bf s=true):oP s:=by
 have hF:=eM h;refine⟨by have:=hF.Vj;omega,by have:=hF.VU;omega,by have:=hF.words;omega,λw hw=>?_,λw hw=>?_⟩
 .have:=(lV h hw).uy;omega
 .have f:=lV h hw;have:=xl f.cd (by have:=f.Ea;omega);have:=f.uy;omega
def Us(hG:aw GI)(s:aF)(cV:bf s=true)(out:List Int)(ho:out.length<=1000):vv prog GI 187 [.ref (aZ s),.ref [vI out]] ((qo s out s.rows.toNat).map (aL out)):=by
 have hr:=(eM cV).rows;have he:=qX cV out;refine Wa hG (oE:=.view) (all:=g_ s out) (rows:=s.rows.toNat) (by omega) (by omega) ho (zc s) ?_ ?_ ?_
 .intro x hx;simp[aZ,ae]at hx
  rcases hx with rfl|rfl|rfl|rfl|rfl|rfl|rfl|rfl|rfl|rfl<;>exact⟨rfl,rfl,rfl⟩
 .show some (AV.int .i64 s.rows)=some (.int .i64 (s.rows.toNat:Nat));rw[afd (by omega)]
 .rw[Gf];exact Yc hG s (ny cV) out (by omega)
def vo{s:aF}(cV:bf s=true){out:List Int}(ko:fQ s out=true){es:List End}(h:es∈qo s out s.rows.toNat):j5 s out es=true/\es.length<=3:=by
 have hr:=(eM cV).rows;obtain⟨h1,h2⟩:=(DQ cV ko).1 h;exact⟨h1,by omega⟩
def U5(hG:aw GI)(s:aF)(cV:bf s=true)(out:List Int)(ho:out.length<=1000)(ko:fQ s out=true){es:List End}(h:es∈qo s out s.rows.toNat):AC prog GI 149 [.agg ((aZ s).map AV.cT),aL out es,.int .i64 0] (.ret (.bool (eU s out es 0))):=by
 obtain⟨h1,h2⟩:=vo cV ko h;rw[AN];exact PN hG s cV out (by omega) es (by omega) (qm cV h1) (by omega) (by omega)
def Sr(hG:aw GI)(s:aF)(cV:bf s=true)(out:List Int)(ho:out.length<=1000)(ko:fQ s out=true):AC prog GI 80 [gy s,vI out] (.ret (.slice .view ((eR s out).map (aL out)))):=by
 have hr:=(eM cV).rows;have hl:=tL cV out (m:=s.rows.toNat) (by omega);refine AC.gW (o:=if(eR s out).isEmpty then .nil else .view) ?_
 exact aa0 hG (zc s) (by
  intro x hx;simp[aZ,ae]at hx
  rcases hx with rfl|rfl|rfl|rfl|rfl|rfl|rfl|rfl|rfl|rfl|rfl<;>rfl) (by omega) (λes h=>by have:=(vo cV ko h).2;omega) (by rw[AN];exact Us hG s cV out ho) (λes h=>U5 hG s cV out ho ko h)
def aa7(hG:aw GI)(s:aF)(cV:bf s=true){a b:List End}(ha:j5 s [] a=true)(hb:j5 s [] b=true)(gw:a.length<=10)(kd:b.length<=10):AC prog GI 82 [aL [] a,aL [] b,.ref (aZ s)] (.ret (.bool (eQ s a b))):=by
 have ga:=PZ hG s cV [] (by simp) a (by omega) (qm cV ha);have gb:=PZ hG s cV [] (by simp) b (by omega) (qm cV hb);refine cE hG func82 ntmps82 c82 ?_;refine aI (λS H=>S 2=.ref (aZ s)/\S 3=.box 3 0/\S 4=.box 4 0/\H 3=some [vI [],.slice .view (a.map a_)]/\H 4=some [vI [],.slice .view (b.map a_)]) (by simp[aL,aS]) ?_;rintro S H ⟨s2,s3,s4,e3,e4⟩;refine aI (λS H=>S 2=.ref (aZ s)/\S 3=.box 3 0/\S 4=.box 4 0/\H 3=some [vI [],.slice .view (a.map a_)]/\H 4=some [vI [],.slice .view (b.map a_)]/\S 6=.int .i64 a.length/\S 7=.int .i64 b.length) (by simp[s2,s3,s4,e3,e4]) ?_;clear s2 s3 s4 e3 e4 S H;rintro S H ⟨s2,s3,s4,e3,e4,s6,s7⟩;unfold eQ gV
 by_cases av:a.length<b.length
 .have jG:(a.length:Int)<b.length:=by omega
  simp[s2,s3,s4,e3,e4,s6,s7,av,jG]
 by_cases he:a.length=b.length
 case neg=>
  have jG:¬(a.length:Int)<b.length:=by omega
  have mS:((a.length:Int)==b.length)=false:=by simp;omega
  have xq:(a.length==b.length)=false:=by simpa using he
  simp[s2,s3,s4,e3,e4,s6,s7,av,jG,mS,xq]
 simp[s2,s3,s4,e3,e4,s6,s7,he,aZ,ae,bT];refine oc ga ?_;simp[s2,s3,s4,e3,e4,s6,s7,he,aZ,ae,bT];refine oc gb ?_;simp[s2,s3,s4,e3,e4,s6,s7,he,aZ,ae,bT]
def Rv(l:List (List End)):aJ 2 (l.map (aL []))=true:=iK λa=>⟨rfl,rfl⟩
def Hj{α:Type}(better:α->α->Bool)(x:α){l:List α}{i:Nat}(h:i<l.length):fV better x (l.take (i+1))=if better l[i] (fV better x (l.take i))then l[i]else fV better x (l.take i):=by
 unfold fV;rw[acL h,adk];rfl
def mR{α:Type}(better:α->α->Bool):∀(l:List α)(x:α),fV better x l∈x::l
 |[],x=>acS
 |a::l,x=>by
  show fV better (if better a x then a else x) l∈_;have:=mR better l (if better a x then a else x);rcases adl.1 this with e|h
  .rw[e];split<;>simp
  .exact acH _ (acH _ h)
def aae(hG:aw GI)(s:aF)(cV:bf s=true)(x:List End)(l:List (List End))(hl:l.length<100000)(h:∀a∈x::l,j5 s [] a=true/\a.length<=10):AC prog GI 81 [.slice .view ((x::l).map (aL [])),.func (.func 82) [] [.ref (aZ s)]] (.ret (aL [] (fV (eQ s) x l))):=by
 have b_:=Rv (x::l);obtain⟨it,hit,bg⟩:=iZ 39 2;have hT:List.take l.length (l.map (aL []))=l.map (aL []):=acQ (by simp);have hm:(x::l).map (aL [])=aL [] x::l.map (aL []):=rfl
 have Jk:∀d,jU d (.ref (aZ s))=false:=λd=>rfl
 have AO:∀a,aL [] a=.agg [vI [],.slice .view (a.map a_)]:=λ_=>rfl
 refine cE hG func81 ntmps81 c81 ?_;refine aI (λS H=>S 4=.box 4 0/\S 0=.slice .view (aL [] x::l.map (aL []))/\S 1=.func (.func 82) [] [.ref (aZ s)]/\H 4=some [.slice .nil [],.slice .nil []]) (by simp[Jk]) ?_;rintro S H ⟨s4,s0,s1,e4⟩;refine aI (λS H=>S 4=.box 4 0/\S 0=.slice .view (aL [] x::l.map (aL []))/\S 1=.func (.func 82) [] [.ref (aZ s)]/\H 4=some [.slice .nil [],.slice .nil []]/\S 5=.box 5 0/\H 5=some [vI [],.slice .view (x.map a_)]) (by simp[s4,s0,s1,e4,AO,Jk]) ?_;clear s4 s0 s1 e4 S H;rintro S H ⟨s4,s0,s1,e4,s5,e5⟩;rw[hm]at b_;refine aI (λS H=>S 4=.box 4 0/\H 4=some [.slice .nil [],.slice .nil []]/\S 5=.box 5 0/\H 5=some [vI [],.slice .view ((fV (eQ s) x l).map a_)]) ?_ ?_
 .have h1:(1:Int)<=l.length+1:=by omega
  simp[s4,s0,s1,e4,s5,e5,bound,b_,h1];refine bC 14 l.length (λi S H=>S 1=.func (.func 82) [] [.ref (aZ s)]/\S 4=.box 4 0/\H 4=some [.slice .nil [],.slice .nil []]/\S 5=.box 5 0/\H 5=some [vI [],.slice .view ((fV (eQ s) x (l.take i)).map a_)]/\S 12=.slice .view (l.map (aL []))/\S 13=.int .i64 l.length/\S 14=.int .i64 (i:Nat)) (λi S H h=>h.2.2.2.2.2.2.2) ⟨by simp[s1],by simp[s4],by simp[e4],by simp[s5],by simp[e5,fV],by simp[hT],by simp,by simp⟩ ?_;clear s4 s0 s1 e4 s5 e5 S H;rintro i hi S H ⟨s1,s4,e4,s5,e5,cJ,dw,er⟩
  by_cases av:i<l.length
  case neg=>
   have cN:i=l.length:=by omega
   subst cN;rw[acQ (acD _)]at e5;simp[s1,s4,e4,s5,e5,cJ,dw,er]
  have hw:IntKind.i64.wrap ((i:Int)+1)=i+1:=aP (by omega);have MS:=mR (eQ s) (l.take i) x
  have hb:=h (fV (eQ s) x (l.take i)) (by
   rcases adl.1 MS with e|e
   .rw[e];exact acS
   .exact acH _ (adS e))
  have cQ:=h l[i] (acH _ (acy av));have a99:=aa7 hG s cV cQ.1 hb.1 cQ.2 hb.2;rw[Hj _ _ av];generalize fV (eQ s) x (l.take i)=o at e5 a99⊢;simp[s1,s4,e4,s5,e5,cJ,dw,er,av,AO,Jk];refine oc a99 ?_;cases eQ s l[i] o
  .simp[s1,s4,e4,s5,e5,cJ,dw,er,av,AO,Jk,hw]
  .simp[s1,s4,e4,s5,e5,cJ,dw,er,av,AO,Jk,hw]
 clear s4 s0 s1 e4 s5 e5 S H;rintro S H ⟨s4,e4,s5,e5⟩;simp[s4,e4,s5,e5,AO,hit,bg,eh]
def vU(s:aF):List AV:=if bf s then match eR s []with
 |[]=>[aL [] [],.int .i64 0,.int .i64 5]
 |x::l=>[aL [] (fV (eQ s) x l),.int .i64 (gl s [] (fV (eQ s) x l)),.int .i64 0]
 else[aL [] [],.int .i64 0,.int .i64 2]
def qK{s:aF}(cV:bf s=true){a:List End}(h:a∈eR s []):j5 s [] a=true/\a.length<=3/\eU s [] a 0=true:=by
 have hr:=(eM cV).rows;obtain⟨h1,h2⟩:=(rG cV (oC cV)).1 h;refine⟨h1,?_,h2⟩;unfold eU at h2;simp only[acA,acJ]at h2;omega
def Hv(hG:aw GI)(s:aF)(hs:oP s)(gX:bf s=false\/eR s []=[]):AC prog GI 24 [bU s] (.ret (.dR (vU s))):=by
 obtain⟨it,hit,bg⟩:=iZ 39 2
 have AO:∀a,aL [] a=.agg [vI [],.slice .view (a.map a_)]:=λ_=>rfl
 refine cE hG func24 ntmps24 c24 ?_;refine aI (λS H=>S 1=.box 1 0/\S 2=.box 2 0/\H 1=some (ae s)/\H 2=some [.slice .nil [],.slice .nil []]) (by simp[bU,ae]) ?_;rintro S H ⟨s1,s2,e1,e2⟩;unfold vU;cases cV:bf s
 .simp[s1,s2,e1,e2,ae];refine⟨_,by kernel_rfl,IA hG s hs,λ_=>rfl,?_⟩;rw[cV];simp[s1,s2,e1,e2,ae,hit,bg,eh,AO,bV,ints]
 have hg:eR s []=[]:=by
  rcases gX with h|h
  .rw[h]at cV;cases cV
  .exact h
 simp[s1,s2,e1,e2,ae];refine⟨_,by kernel_rfl,IA hG s hs,λ_=>rfl,?_⟩;rw[cV];simp[s1,s2,e1,e2,ae];refine oc (QE hG s cV) ?_;simp[s1,s2,e1,e2,gy,aZ,ae,bT];refine oc (Sr hG s cV [] (by simp) (oC cV)) ?_;rw[hg];simp[s1,s2,e1,e2,hit,bg,eh,AO,bV,ints]
def VF(hG:aw GI)(s:aF)(hs:oP s):AC prog GI 24 [bU s] (.ret (.dR (vU s))):=by
 cases cV:bf s with
 |false=>exact Hv hG s hs (.inl cV)
 |true=>
 cases hg:eR s []with
 |nil=>exact Hv hG s hs (.inr hg)
 |cons x l=>
 obtain⟨it,hit,bg⟩:=iZ 39 2
 have AO:∀a,aL [] a=.agg [vI [],.slice .view (a.map a_)]:=λ_=>rfl
 have hl:=vr cV [];rw[hg]at hl;simp at hl
 have e_:∀a∈x::l,j5 s [] a=true/\a.length<=10:=λa ha=>by
  have:=qK cV (a:=a) (by rw[hg];exact ha);exact⟨this.1,by omega⟩
 have a98:=aae hG s cV x l (by omega) e_;have hb:=e_ _ (mR (eQ s) l x);have a87:=PZ hG s cV [] (by simp) (fV (eQ s) x l) (by omega) (qm cV hb.1)
 have p_:((l.length:Int)+1==0)=false:=by simp;omega
 have ho:vU s=[aL [] (fV (eQ s) x l),.int .i64 (gl s [] (fV (eQ s) x l)),.int .i64 0]:=by
  unfold vU;rw[cV,if_pos rfl,hg]
 rw[ho];refine AC.OZ hG dO 5 5 func24 rfl ntmps24 (by simp) (ac:=c24) (by kernel_rfl) ?_;refine sP (λS H=>S 1=.box 1 0/\S 2=.box 2 0/\H 1=some (ae s)/\H 2=some [.slice .nil [],.slice .nil []]) (by simp[bU,ae]) ?_;rintro S H ⟨s1,s2,e1,e2⟩;refine sP (λS H=>S 1=.box 1 0/\S 2=.box 2 0/\H 1=some (ae s)/\H 2=some [.slice .nil [],.slice .nil []]) ?_ ?_
 .simp[s1,s2,e1,e2,ae];refine⟨_,by kernel_rfl,IA hG s hs,λ_=>rfl,?_⟩;rw[cV];simp[s1,s2,e1,e2,ae]
 clear s1 s2 e1 e2 S H;rintro S H ⟨s1,s2,e1,e2⟩;refine sP (λS H=>S 2=.box 2 0/\H 2=some [.slice .nil [],.slice .nil []]/\S 5=.box 5 0/\H 5=some (aZ s)) ?_ ?_
 .simp[s1,s2,e1,e2,ae];refine oc (QE hG s cV) ?_;simp[s1,s2,e1,e2,gy,aZ,ae,bT]
 clear s1 s2 e1 e2 S H;rintro S H ⟨s2,e2,s5,e5⟩;refine sP (λS H=>S 2=.box 2 0/\H 2=some [.slice .nil [],.slice .nil []]/\S 5=.box 5 0/\H 5=some (aZ s)/\S 6=.slice .view ((x::l).map (aL []))) ?_ ?_
 .have T5:=Sr hG s cV [] (by simp) (oC cV);rw[hg]at T5;simp[s2,e2,s5,e5,aZ,ae,bT];refine oc T5 ?_;simp[s2,e2,s5,e5,aZ,ae,bT]
 clear s2 e2 s5 e5 S H;rintro S H ⟨s2,e2,s5,e5,s6⟩;refine sP (λS H=>S 2=.box 2 0/\H 2=some [.slice .nil [],.slice .nil []]/\S 5=.box 5 0/\H 5=some (aZ s)/\S 6=.slice .view ((x::l).map (aL []))) (by simp[s2,e2,s5,e5,s6,p_]) ?_;clear s2 e2 s5 e5 s6 S H;rintro S H ⟨s2,e2,s5,e5,s6⟩;refine Mk (aZ s) (λS H=>S 2=.box 2 0/\H 2=some [.slice .nil [],.slice .nil []]/\S 5=.ref (aZ s)/\S 6=.slice .view ((x::l).map (aL []))) e5 ⟨by simp[s2,wa],by simp[au,e2],by simp[s5,wa,aZ,ae,bT,AV.aH,vI],by simp[s6,wa,bQ]⟩ ?_;clear s2 e2 s5 e5 s6 S H;rintro S H ⟨s2,e2,s5,s6⟩;refine aI (λS H=>S 2=.box 2 0/\H 2=some [.slice .nil [],.slice .nil []]/\S 5=.ref (aZ s)/\S 7=.box 7 0/\H 7=some [vI [],.slice .view ((fV (eQ s) x l).map a_)]) ?_ ?_
 .simp[s2,e2,s5,s6];refine⟨_,by kernel_rfl,a98,by simp[da,p9],?_⟩;simp[s2,e2,s5,s6,AO]
 clear s2 e2 s5 s6 S H;rintro S H ⟨s2,e2,s5,s7,e7⟩;simp[s2,e2,s5,s7,e7,aZ,ae,bT];refine oc a87 ?_;simp[s2,e2,s5,s7,e7,hit,bg,eh,AO]
def eX(s:aF):Option (List End):=match eR s []with
 |[]=>none
 |x::l=>some (fV (eQ s) x l)
def iY(es:List End)(i n:Nat):Nat:=es.countP λe=>decide (e.1=((i:Nat):Int))&&decide (e.2<((n:Nat):Int))
def uK(s:az)(es:List End)(i:Nat):Int:=s.eW*ct s.name i+s.dS*iY es i (ct s.name i)
def aU(s:az)(es:List End):List Int:=(List.range s.name.words.length).map (uK s es)
def bq(s:az)(ao:List Int):List AV:=ar s++[vI ao]
def dv(s:az)(ao:List Int):AV:=.agg (bq s ao)
def pL(n:Int):AV:=.iface 192 (.agg [.int .i64 n])
structure eG(s:az):Prop where
 cells:1<=s.cells.length/\s.cells.length<=12
 th:∀c∈s.cells,1<=c.lo/\c.lo<=c.hi/\c.hi<=20
 pos:1<=s.pos/\s.pos<=s.cells.length
 reach:1<=s.reach/\s.reach<=12
 eW:1<=s.eW/\s.eW<=9
 dS:0<=s.dS/\s.dS<=9
 name:bf s.name=true
def fl{s:az}(h:dQ s=true):eG s:=by
 simp only[dQ,acA,cG,acJ,adx,adH]at h;obtain⟨⟨⟨⟨⟨⟨⟨h1,h2⟩,h3⟩,h4,h5⟩,h6,h7⟩,h8,h9⟩,qI,RS⟩,h12⟩:=h;refine⟨⟨by omega,by omega⟩,λc hc=>?_,⟨h4,h5⟩,⟨h6,h7⟩,⟨h8,h9⟩,⟨qI,RS⟩,h12⟩;have:=h3 c hc;simp[jT,cG]at this;omega
def iq{s:aF}(cV:bf s=true){es:List End}(h:eX s=some es):es.length<=3:=by
 unfold eX at h
 cases hg:eR s []with
 |nil=>rw[hg]at h;cases h
 |cons x l=>
  rw[hg]at h;cases h;exact(qK cV (by rw[hg];exact mR (eQ s) l x)).2.1
def Ap(es:List End)(i n:Nat):iY es i n<=es.length:=List.countP_le_length
def tf{s:az}(h:eG s){es:List End}(he:es.length<=3){i:Nat}(hi:ct s.name i<=6):0<=uK s es i/\uK s es i<=81:=by
 have h1:=Ap es i (ct s.name i);have hp:=h.eW;have ht:=h.dS;unfold uK;have a1:0<=s.eW*(ct s.name i:Int):=ad3 (by omega) (by omega);have a2:s.eW*(ct s.name i:Int)<=9*6:=aep (by omega) (by omega) (by omega) (by omega);have a3:0<=s.dS*(iY es i (ct s.name i):Int):=ad3 (by omega) (by omega);have a4:s.dS*(iY es i (ct s.name i):Int)<=9*3:=aep (by omega) (by omega) (by omega) (by omega);omega
def KF(s:az)(es:List End)(i:Nat)(S:an)(H:aq):Prop:=
 S 1=.box 1 0/\H 1=some (ar s)/\S 2=.box 2 0/\(∃z,H 2=some z/\z.length=16)/\S 3=.box 3 0/\H 3=some [vI [],.slice .view (es.map a_)]/\S 6=.box 6 0/\H 6=some (ar s++[grow 3 (ints ((aU s es).take i))])/\
 S 31=.slice .view (s.name.words.map cZ)/\S 32=.int .i64 s.name.words.length/\S 33=.int .i64 (i:Nat)
def D5(hG:aw GI)(s:az)(hs:gh s)(h:eG s)(gX:eX s.name=none):AC prog GI 108 [bn s] (.panic (pL s.name.words.length)):=by
 have L0:=VF hG s.name hs.name
 have fw:vU s.name=[aL [] [],.int .i64 0,.int .i64 5]:=by
  unfold eX at gX;unfold vU;rw[if_pos h.name];split at gX
  .rename_i hg;first|rw[hg]|rfl
  .cases gX
 rw[fw]at L0;refine cE hG func108 ntmps108 c108 ?_;simp[c108,bn,ar,ae];refine oc L0 ?_;simp[aL,aS,pL,bV,bw,bh]
def MM(hG:aw GI)(s:az)(hs:gh s)(h:eG s){es:List End}(mb:eX s.name=some es):AC prog GI 108 [bn s] (.ret (dv s (aU s es))):=by
 have L0:=VF hG s.name hs.name
 have fw:∃m:Int,vU s.name=[aL [] es,.int .i64 m,.int .i64 0]:=by
  unfold eX at mb;unfold vU;rw[if_pos h.name];split at mb
  .cases mb
  .rename_i x l hg;cases mb;(try rw[hg]);exact⟨_,rfl⟩
 obtain⟨m,fw⟩:=fw;rw[fw]at L0;have hle:=iq h.name mb;have hF:=eM h.name
 have hlen:∀i,ct s.name i<=6:=λi=>by
  unfold ct;split
  .rename_i x hx;obtain⟨av,rfl⟩:=acT.1 hx;exact(lV h.name (acy av)).uy
  .omega
 obtain⟨i100,uM,vl⟩:=iZ 102 16;obtain⟨fs,gv⟩:=uZ 102;refine cE hG func108 ntmps108 c108 ?_;refine aI (λS H=>S 1=.box 1 0/\H 1=some (ar s)/\S 2=.box 2 0/\∃z,H 2=some z/\z.length=16) (by simp[bn,ar,ae]) ?_;rintro S H ⟨s1,h1,s2,z,h2,hz⟩;refine aI (λS H=>S 1=.box 1 0/\H 1=some (ar s)/\S 2=.box 2 0/\(∃z,H 2=some z/\z.length=16)/\S 3=.box 3 0/\H 3=some [vI [],.slice .view (es.map a_)]/\S 5=.int .i64 0) ?_ ?_
 .simp[ar,ae,s1,h1,s2,h2,hz];refine oc L0 ?_;simp[aL,aS,bV,s1,h1,s2,h2,hz]
  try rfl
 clear s1 h1 s2 h2 hz z S H;rintro S H ⟨s1,h1,s2,⟨z,h2,hz⟩,s3,h3,s5⟩;refine aI (λS H=>S 1=.box 1 0/\H 1=some (ar s)/\S 2=.box 2 0/\(∃z,H 2=some z/\z.length=16)/\S 3=.box 3 0/\H 3=some [vI [],.slice .view (es.map a_)]) ?_ ?_
 .simp[ar,ae,s1,h1,s2,h2,hz,s3,h3,s5]
  try rfl
 clear s1 h1 s2 h2 hz z s3 h3 s5 S H;rintro S H ⟨s1,h1,s2,⟨z,h2,hz⟩,s3,h3⟩;refine aI (λS H=>S 1=.box 1 0/\H 1=some (ar s)/\S 2=.box 2 0/\(∃z,H 2=some z/\z.length=16)/\S 3=.box 3 0/\H 3=some [vI [],.slice .view (es.map a_)]/\S 6=.box 6 0/\H 6=some (ar s++[.slice .nil []])) ?_ ?_
 .simp[ar,ae,s1,h1,s2,h2,hz,s3,h3,bV]
  try rfl
 clear s1 h1 s2 h2 hz z s3 h3 S H;rintro S H ⟨s1,h1,s2,⟨z,h2,hz⟩,s3,h3,s6,h6⟩
 have C0:(aU s es).length=s.name.words.length:=by simp[aU]
 have rI:=hF.words;refine aI (KF s es s.name.words.length) ?_ ?_
 .refine aI (KF s es 0) ?_ ?_
  .have hg:grow 3 (ints ([]:List Int))=.slice .nil []:=rfl;simp[ar,ae,s1,h1,s2,h2,hz,s3,h3,s6,h6,KF,hg]
   try rfl
  clear s1 h1 s2 h2 hz z s3 h3 s6 h6 S H;intro S H hF0;refine bC 33 s.name.words.length (KF s es) (λi S H h=>h.2.2.2.2.2.2.2.2.2.2) hF0 ?_;clear hF0 S H;rintro i hi S H ⟨s1,h1,s2,⟨z,h2,hz⟩,s3,h3,s6,h6,wq,wz,z_⟩
  by_cases av:i<s.name.words.length
  case neg=>
   have cN:i=s.name.words.length:=by omega
   subst cN;simp[s1,h1,s2,h2,hz,s3,h3,s6,h6,wq,wz,z_,KF]
  have hw:IntKind.i64.wrap ((i:Int)+1)=i+1:=aP (by omega);simp[s1,h1,s2,h2,hz,s3,h3,s6,h6,wq,wz,z_,av,ar,ae,cZ,bV];have vx:=hlen i
  have acg:s.name.words[i].aM.length<=6:=by rw[<-fM av];exact vx
  have hp:=h.eW;have ht:=h.dS;have CB:0<=s.eW*(s.name.words[i].aM.length:Int):=ad3 (by omega) (by omega);have E0:s.eW*(s.name.words[i].aM.length:Int)<=9*6:=aep (by omega) (by omega) (by omega) (by omega);have CX:IntKind.i64.wrap (s.eW*(s.name.words[i].aM.length:Int))=s.eW*(s.name.words[i].aM.length:Int):=aP (by omega)
  refine bC 47 es.length (λj S H=>S 1=.box 1 0/\H 1=some (ar s)/\S 2=.box 2 0/\(∃z,H 2=some z/\z.length=16)/\S 3=.box 3 0/\H 3=some [vI [],.slice .view (es.map a_)]/\S 6=.box 6 0/\H 6=some (ar s++[grow 3 (ints ((aU s es).take i))])/\
   S 31=.slice .view (s.name.words.map cZ)/\S 32=.int .i64 s.name.words.length/\S 33=.int .i64 (i:Nat)/\S 7=.int .i64 (i:Nat)/\S 8=.box 8 0/\H 8=some [vI s.name.words[i].aM,vI s.name.words[i].cd,.bool s.name.words[i].free]/\
   S 9=.int .i64 (s.eW*(s.name.words[i].aM.length:Int)+s.dS*(iY (es.take j) i s.name.words[i].aM.length:Int))/\S 45=.slice .view (es.map a_)/\S 46=.int .i64 es.length/\S 47=.int .i64 (j:Nat)) (λj S H h=>h.2.2.2.2.2.2.2.2.2.2.2.2.2.2.2.2.2) ?_ ?_
  .simp[s1,h1,s2,h2,hz,s3,h3,s6,h6,wq,wz,z_,ar,ae,CX,iY]
  clear s1 h1 s2 h2 hz z s3 h3 s6 h6 wq wz z_ S H;rintro j hj S H ⟨s1,h1,s2,⟨z,h2,hz⟩,s3,h3,s6,h6,wq,wz,z_,s7,s8,h8,s9,SH,Pv,Dl⟩;have TL:=Ap (es.take j) i s.name.words[i].aM.length
  have hc4:(es.take j).length<=3:=by simp;omega
  have N':0<=s.dS*(iY (es.take j) i s.name.words[i].aM.length:Int):=ad3 (by omega) (by omega);have SF:s.dS*(iY (es.take j) i s.name.words[i].aM.length:Int)<=9*3:=aep (by omega) (by omega) (by omega) (by omega)
  by_cases o_:j<es.length
  case pos=>
   have iy:IntKind.i64.wrap ((j:Int)+1)=j+1:=aP (by omega);have qv:IntKind.i64.wrap (s.eW*(s.name.words[i].aM.length:Int)+s.dS*(iY (es.take j) i s.name.words[i].aM.length:Int)+s.dS)=s.eW*(s.name.words[i].aM.length:Int)+s.dS*(iY (es.take j) i s.name.words[i].aM.length:Int)+s.dS:=aP (by omega)
   have jh:iY (es.take (j+1)) i s.name.words[i].aM.length=iY (es.take j) i s.name.words[i].aM.length+if es[j].1=((i:Nat):Int)/\es[j].2<((s.name.words[i].aM.length:Nat):Int)then 1 else 0:=by
    rw[afq,acx o_];unfold iY;rw[Option.toList_some,List.countP_append,List.countP_singleton]
    by_cases q1:es[j].1=((i:Nat):Int)<;>by_cases q2:es[j].2<((s.name.words[i].aM.length:Nat):Int)<;>simp[q1,q2]
   by_cases c1:es[j].1=((i:Nat):Int)
   .by_cases c2:es[j].2<((s.name.words[i].aM.length:Nat):Int)
    .rw[if_pos ⟨c1,c2⟩]at jh;simp[s1,h1,s2,h2,hz,s3,h3,s6,h6,wq,wz,z_,s7,s8,h8,s9,SH,Pv,Dl,o_,ar,ae,a_,bV,iy,qv,c1,c2,jh];rw[Int.mul_add,Int.mul_one,Int.add_assoc]
    .rw[if_neg (λh=>c2 h.2)]at jh;simp[s1,h1,s2,h2,hz,s3,h3,s6,h6,wq,wz,z_,s7,s8,h8,s9,SH,Pv,Dl,o_,ar,ae,a_,bV,iy,qv,c1,c2,jh]
   .rw[if_neg (λh=>c1 h.1)]at jh
    have c1':(es[j].1==((i:Nat):Int))=false:=by simpa using c1
    simp[s1,h1,s2,h2,hz,s3,h3,s6,h6,wq,wz,z_,s7,s8,h8,s9,SH,Pv,Dl,o_,ar,ae,a_,bV,iy,qv,c1,c1',jh]
  case neg=>
   have EH:j=es.length:=by omega
   subst EH;have hT:es.take es.length=es:=acQ (acD _);rw[hT]at s9
   have TC:(aU s es).take (i+1)=(aU s es).take i++[s.eW*(s.name.words[i].aM.length:Int)+s.dS*(iY es i s.name.words[i].aM.length:Int)]:=by
    rw[afq,acx (by rw[C0];exact av)];simp[aU,uK,fM av]
   have b_:aJ 1 (ints ((aU s es).take i))=true:=mw _
   have ky:ints ((aU s es).take i)++[.int .i64 (s.eW*(s.name.words[i].aM.length:Int)+s.dS*(iY es i s.name.words[i].aM.length:Int))]=ints ((aU s es).take (i+1)):=by rw[TC];simp[ints]
   have bP:ints ((aU s es).take (i+1))≠[]:=by rw[<-ky];simp
   have tZ:grow 3 (ints ((aU s es).take (i+1)))=.slice (.own 3) (ints ((aU s es).take (i+1))):=by unfold grow;rw[if_neg bP]
   have dI:aJ 1 [.int .i64 (s.eW*(s.name.words[i].aM.length:Int)+s.dS*(iY es i s.name.words[i].aM.length:Int))]=true:=rfl
   have Sw:min i (aU s es).length+1<1048576:=by omega
   by_cases h0:ints ((aU s es).take i)=[]
   .have BI:grow 3 (ints ((aU s es).take i))=.slice .nil []:=by unfold grow;rw[if_pos h0,h0]
    rw[BI]at h6;rw[h0,List.nil_append]at ky;simp[s1,h1,s2,h2,hz,s3,h3,s6,h6,wq,wz,z_,s7,s8,h8,s9,SH,Pv,Dl,ar,ae,hw,dI,KF,tZ,<-ky];rw[ky];exact tZ.symm
   .have BI:grow 3 (ints ((aU s es).take i))=.slice (.own 3) (ints ((aU s es).take i)):=by unfold grow;rw[if_neg h0]
    rw[BI]at h6;simp[s1,h1,s2,h2,hz,s3,h3,s6,h6,wq,wz,z_,s7,s8,h8,s9,SH,Pv,Dl,ar,ae,hw,dI,b_,Sw,KF,tZ,<-ky];rw[ky];exact tZ.symm
 clear s1 h1 s2 h2 hz z s3 h3 s6 h6 S H;rintro S H ⟨s1,h1,s2,⟨z,h2,hz⟩,s3,h3,s6,h6,wq,wz,z_⟩;have hT:(aU s es).take s.name.words.length=aU s es:=acQ (by omega);rw[hT]at h6
 have iU:∃o,grow 3 (ints (aU s es))=.slice o (ints (aU s es)):=⟨_,rfl⟩
 obtain⟨o,iU⟩:=iU;rw[iU]at h6
 have iS:bu z 0 (ar s++[.slice .view (ints (aU s es))])=ar s++[.slice .view (ints (aU s es))]:=by simp[bu,hz,ar,ae]
 simp[s1,h1,s2,h2,hz,s3,h3,s6,h6,wq,wz,z_,uM,vl,gv,ar,ae,dv,bq,eh]
 cases o<;>rfl
def qk(s:az)(i:Nat):Bool:=match s.cells[i]? with|some c=>c.hid|none=>false
def j8(s:az):Nat:=(s.pos-s.reach).toNat
def dk(s:az)(i:Nat):Bool:=decide (j8 s<=i)&&(decide (i<s.pos.toNat)&&!qk s i)
def mF(s:az)(i:Nat):List (Int×Value):=(List.range' (j8 s) (i-j8 s)).map λj:Nat=>((j:Int),Value.bool (!qk s j))
def dz(s:az):List End:=(ez (dk s) s.cells.length).map λv=>((v.1:Int),(v.2:Int))
def O7(s:az){i:Nat}:mK (i:Int) (mF s i) 0=none:=zf λx hx=>by
 obtain⟨j,hj,rfl⟩:=acZ.1 hx;have:=aeK.1 hj;simp only;omega
def K9(s:az){i:Nat}(h:j8 s<=i):mF s (i+1)=mF s i++[((i:Int),Value.bool (!qk s i))]:=by
 unfold mF
 have e:j8 s+1*(i-j8 s)=i:=by omega
 rw[show i+1-j8 s=(i-j8 s)+1 by omega,aeZ,ada,e]
 rfl
def wk(f:Nat->Bool)(i:Nat):∀(n a k:Nat),((mK (i:Int) ((List.range' a n).map λj:Nat=>((j:Int),Value.bool (f j))) k).map (·.2)).getD (.bool false)=.bool (decide (a<=i)&&(decide (i<a+n)&&f i))
 |0,a,k=>by
  have:¬(a<=i/\i<a+0):=by omega
  simp[mK];intro h1 h2;omega
 |n+1,a,k=>by
  rw[ad_,ac5];unfold mK
  by_cases h:i=a
  .subst h;simp
  .have hb:((i:Int)==(a:Int))=false:=by simp;omega
   rw[hb];simp only[acI,acW];rw[wk f i n (a+1) (k+1)]
   congr 1
   rw[adE];simp
   constructor
   .rintro⟨h1,h2,h3⟩;exact⟨by omega,by omega,h3⟩
   .rintro⟨h1,h2,h3⟩;exact⟨by omega,by omega,h3⟩
def Ki(s:az)(hp:j8 s<=s.pos.toNat)(i:Nat):((mK (i:Int) (mF s s.pos.toNat) 0).map (·.2)).getD (.bool false)=.bool (dk s i):=by
 unfold mF;rw[wk (λj=>!qk s j)]
 congr 1
 unfold dk;rw[show j8 s+(s.pos.toNat-j8 s)=s.pos.toNat by omega]
def ES(b:Nat):Value:=.map (some b)
def DD{α β:Type}[BEq α][LawfulBEq α]{t:α}{v:β}:∀{l:List (α×β)},l.lookup t=some v->(t,v)∈l
 |[],h=>by cases h
 |(a,b)::l,h=>by
  rw[List.lookup_cons]at h
  by_cases ht:(t==a)=true
  .rw[ht]at h;have:=eq_of_beq ht;cases h;subst this;exact acS
  .have tc:(t==a)=false:=by simpa using ht
   rw[tc]at h;exact acH _ (DD h)
def df(s:az)(i:Nat):Nat×List (Nat×Nat):=(List.range i).foldl (eg (dk s)) (0,[])
def nt(s:az)(i:Nat):df s (i+1)=eg (dk s) (df s i) i:=by
 unfold df;rw[ady,adk]
 rfl
def Ca(s:az):∀(d i:Nat),∃t,(df s (i+d)).2=(df s i).2++t
 |0,i=>⟨[],by simp⟩
 |d+1,i=>by
  obtain⟨t,ht⟩:=Ca s d i;rw[show i+(d+1)=i+d+1 by omega,nt];unfold eg;split
  .exact⟨t,ht⟩
  .simp only;split
   .exact⟨t++[((df s (i+d)).1,i+d-1)],by rw[ht,adI]⟩
   .exact⟨t,ht⟩
def DG(s:az):∀i,(df s i).1<=i
 |0=>acD _
 |i+1=>by
  rw[nt];unfold eg;have:=DG s i;split
  .omega
  .simp
variable{l:Nat}{xs:List AV}
def px(l:Nat)(s:az)(bM:Nat)(ex:List (Nat×AV)):an:=λt=>if t=0 then .val (.func (.yield l) #[] #[])else if t=1 then .ref (ar s)else if t=3 then .val (ES bM)else match ex.lookup t with|some v=>v|none=>.bm
structure VS(C:Cons prog GI l xs)(s:az)(cX:Value)(bM:Nat)(ex:List (Nat×AV))(l':List (Int×Value))(k:Nat)(a:Act)(w:World):Prop where
 size:a.tmps.size=54
 defers:a.defers=[]
 t0:a.tmps.getD 0 undef=.func (.yield l) #[] #[]
 t1:a.tmps.getD 1 undef=cX
 t3:a.tmps.getD 3 undef=ES bM
 ex:∀p∈ex,4<=p.1/\gQ p.2=true/\RD (λ_ _=>False) w p.2 (a.tmps.getD p.1 undef)
 st:∃M Pr,C.J k M Pr w/\(∀b,M b->b<w.heap.size)/\M bM/\(∃es clock,w.heap[bM]?=some (.map es clock)/\yW (.int .i64) es l')/\RD Pr w (.ref (ar s)) cX
variable{C:Cons prog GI l xs}{s:az}{cX:Value}{bM:Nat}{ex wW:List (Nat×AV)}{l':List (Int×Value)}{k:Nat}{a:Act}{w:World}
def VS.iz(h:VS C s cX bM ex l' k a w):∀t,t<54->(px l s bM ex t).aH=px l s bM ex t/\RV (λb _=>b≠bM) cD w (px l s bM ex t) (a.tmps.getD t undef):=by
 intro t ht;obtain⟨M,Pr,hj,av,hM,_,hx⟩:=h.st;unfold px
 by_cases t0:t=0
 .subst t0;simp only[ac3];rw[h.t0];exact⟨rfl,.data _ _ (.val _ rfl)⟩
 rw[if_neg t0]
 by_cases t1:t=1
 .subst t1;simp only[ac3];rw[h.t1];exact⟨rfl,.data _ _ (hx.mono (bc.same λb k _ hp=>by rintro rfl;exact C.apart hj _ k hM hp))⟩
 rw[if_neg t1]
 by_cases t3:t=3
 .subst t3;simp only[ac3];rw[h.t3];exact⟨rfl,.data _ _ (.val _ rfl)⟩
 rw[if_neg t3]
 cases hl:ex.lookup t with
 |none=>exact⟨rfl,.bm _⟩
 |some v=>
  have hm:(t,v)∈ex:=DD hl;obtain⟨_,h2,h3⟩:=h.ex _ hm;refine⟨?_,.data _ _ (h3.gQ h2)⟩
  cases v<;>first|rfl|cases h2
def VS.grow (h:VS C s cX bM ex l' k a w) {a':Act} {w':World} (hb:Below w.heap.size w w') (bg:a'.tmps.size=54) (ee:a'.defers=[]) (h0:∀ t,t < 4→a'.tmps.getD t undef=a.tmps.getD t undef)
  (hex:∀p∈wW,4<=p.1/\gQ p.2=true/\RD (λ_ _=>False) w' p.2 (a'.tmps.getD p.1 undef)):VS C s cX bM wW l' k a' w':=by
 obtain⟨M,Pr,hj,av,hM,⟨es,clock,hm,he⟩,hx⟩:=h.st
 refine⟨bg,ee,(h0 0 (by decide)).trans h.t0,(h0 1 (by decide)).trans h.t1,(h0 3 (by decide)).trans h.t3,hex,M,Pr,C.dS hj (lh.tE hb) λb fS=>⟨adq (av b fS) hb.size,.inl fS⟩,λb fS=>adq (av b fS) hb.size,hM,
  ⟨es,clock,(hb.block bM (av bM hM)).trans hm,he⟩,hx.mono (bc.iN (λb h=>hb.block b h) λ_ _ _ h=>h)⟩
def W4:Nat->Bool:=λt=>decide (4<=t)
def VS.region (hG:aw GI) {C:Cons prog GI l xs} (h:VS C s cX bM ex l' k a w) {id:Nat} {ops:Array Oper} {ac:af} {Q:Exit→Act→World→Prop} {m:Nat} (hc:iB (.region id ops false)=true) (lD:cC prog 54 (.region id ops false)=ac) (hW:jq ops W4=true)
  (wW:List (Nat×AV)) (hs:wW.all (λp=>decide (4<=p.1)&&(decide (p.1<54)&&gQ p.2))=true) (Mz:bL prog GI ac (aO λS' _=>∀p∈wW,S' p.1=p.2) (px l s bM ex) (λ_=>none)) (hk:∀a' w',VS C s cX bM wW l' k a' w'->Q .normal a' w'):(Code.region id ops false).wpIn (FR none) m prog Q a w:=by
 obtain⟨M,Pr,hj,av,hM,Ab,hx⟩:=h.st;refine cm hG dO hc lD hW (C.gi hj) (λb _=>b≠bM) (px l s bM ex) h.size h.defers h.iz Mz ?_;intro g S' H' a' w' hg R1 hK bj;refine hk a' w' (h.grow (by have:=R1.below;rwa [R1.base]at this) R1.size (by rw[R1.defers,hg];rfl) (λt ht=>bj t (by simp[W4];omega)) λp hp=>?_);have Cw:=acN.1 hs p hp;simp only[acA,acJ]at Cw;refine⟨Cw.1,Cw.2.2,?_⟩;have r:=R1.slot p.1 Cw.2.1 (λh=>h);rw[hK p hp]at r;exact(r.dL (by have:=Cw.2.2;revert this;cases p.2<;>simp[Go.AL.gQ,AV.bW])).gQ Cw.2.2
def VS.bool(h:VS C s cX bM ex l' k a w){t:Nat}{b:Bool}(hm:(t,AV.bool b)∈ex):a.tmps.getD t undef=.bool b:=(RV.data (al:=cD) _ _ (h.ex _ hm).2.2).fq
def VS.int(h:VS C s cX bM ex l' k a w){t:Nat}{b:Int}(hm:(t,AV.int .i64 b)∈ex):a.tmps.getD t undef=.int .i64 b:=(RV.data (al:=cD) _ _ (h.ex _ hm).2.2).int_eq
def VS.aR (h:VS C s cX bM ex l' k a w) {a':Act} {w':World} (N:Nat) (hN:4≤N) (hb:Below w.heap.size w w') (bg:a'.tmps.size=54) (ee:a'.defers=[]) (h0:∀ t,t < N→a'.tmps.getD t undef=a.tmps.getD t undef)
  (hex:ex.all (λp=>decide (p.1<N))=true):VS C s cX bM ex l' k a' w':=
 h.grow hb bg ee (λt ht=>h0 t (by omega)) λp hp=>by
  obtain⟨q1,q2,q3⟩:=h.ex p hp;have:=acN.1 hex p hp;rw[h0 p.1 (by simpa using this)];exact⟨q1,q2,q3.gQ q2⟩
def VS.sub(h:VS C s cX bM ex l' k a w)(Z6:∀p∈wW,p∈ex):VS C s cX bM wW l' k a w:=
 ⟨h.size,h.defers,h.t0,h.t1,h.t3,λp hp=>h.ex p (Z6 p hp),h.st⟩
def VS.put(h:VS C s cX bM ex l' k a w)(t:Nat)(v:Value)(ht:4<=t)(hex:ex.all (λp=>p.1 !=t)=true):VS C s cX bM ex l' k (a.put (some t) v) w:=by
 have eY:∀k,k≠t->(a.put (some t) v).tmps.getD k undef=a.tmps.getD k undef:=λk hk=>by
  simp[Act.put,acB (adi hk)]
 refine⟨by simp[Act.put,h.size],h.defers,(eY 0 (by omega)).trans h.t0,(eY 1 (by omega)).trans h.t1,(eY 3 (by omega)).trans h.t3,λp hp=>?_,h.st⟩;have:=acN.1 hex p hp;rw[eY p.1 (by simpa using this)];exact h.ex p hp
noncomputable def Pg:af:=af.qb c151.qb.qa.qb.qb
noncomputable def xw:af:=af.qb c151.qb.qb.qb.qb.qb
def LG(hG:aw GI)(s:az)(h:eG s):vv prog GI 151 [.ref (ar s)] ((dz s).map a_):=by
 intro l C w Pr bH hJ hlen hr;obtain⟨cX,rfl⟩:∃cX,bH=#[cX]:=qE (by simpa using hlen.symm);have WA:=hr 0 (by simp) (by simp);simp only[List.getElem_cons_zero,List.getElem_toArray]at WA;refine(ig (ro:=none) (m:=0)).1 (afO func151 rfl trivial ?_);refine ia (λa=>a.tmps.size=54/\a.defers=[]/\a.tmps.getD 0 undef=.func (.yield l) #[] #[]/\a.tmps.getD 1 undef=cX) ⟨by simp[ntmps151],rfl,cH _ _ 0 (by simp),cH _ _ 1 (by simp)⟩ ?_;rintro a ⟨bg,ee,e0,e1⟩
 have eY:∀(a:Act)(d t:Nat)(c:Value),t≠d->(a.put (some d) c).tmps.getD t undef=a.tmps.getD t undef:=λa d t c h=>by
  simp[Act.put,acB (adi h)]
 have jy:∀(a:Act)(d:Nat)(c:Value),a.tmps.size=54->d<54->(a.put (some d) c).tmps.getD d undef=c:=λa d c h hd=>by
  simp[Act.put,h,hd]
 have jo:∀(a:Act)(d:Option Nat)(c:Value),(a.put d c).tmps.size=a.tmps.size:=λa d c=>by cases d<;>simp[Act.put]
 refine acO (ac6 ?_);show wpOpsIn _ _ _ _ _ [0,1] a w;refine aV rfl rfl (by rfl) (run_makeMap (t:=182) rfl) ?_
 obtain⟨bM,Uv⟩:∃b,w.heap.size=b:=⟨_,rfl⟩
 obtain⟨w1,kv⟩:∃w1,w.alloc (.map #[] 0)=w1:=⟨_,rfl⟩
 have s1:w1.heap.size=bM+1:=by rw[<-kv];simp[Uv]
 have n1:w1.heap[bM]?=some (.map #[] 0):=by rw[<-kv,<-Uv];exact adv w _
 have b1:Below w.heap.size w w1:=by rw[<-kv];exact(adA _ _).alloc (acD _) _
 show wpOpsIn _ _ _ _ _ [1] (a.put (some 7) (.map (some w.heap.size))) (w.alloc (.map #[] 0));rw[kv,Uv];have h7:(a.put (some 7) (.map (some bM))).eval (.tmp 7)=.map (some bM):=jy _ _ _ bg (by decide);refine aV rfl rfl (by rfl) (run_assign (x:=.tmp 7) w1 rfl) ?_;rw[h7];show Code.wpIn _ _ _ _ _ ((a.put (some 7) (.map (some bM))).put (some 3) (.map (some bM))) w1
 have vs:VS C s cX bM [] [] 0 ((a.put (some 7) (.map (some bM))).put (some 3) (.map (some bM))) w1:=by
  refine⟨by rw[jo,jo];exact bg,ee,by rw[eY _ _ _ _ (by decide),eY _ _ _ _ (by decide)];exact e0,by rw[eY _ _ _ _ (by decide),eY _ _ _ _ (by decide)];exact e1,jy _ _ _ (by rw[jo];exact bg) (by decide),λp hp=>(by cases hp),λb=>b=bM,Pr,C.dS hJ (lh.tE b1) λb hb=>?_,λb hb=>?_,rfl,⟨#[],0,n1,rfl,λi hi=>(by simp at hi)⟩,?_⟩
  .exact⟨by omega,.inr (by omega)⟩
  .omega
  .exact(WA.dL rfl).mono (bc.iN (λb h=>b1.block b h) λ_ _ _ h=>h)
 generalize(a.put (some 7) (.map (some bM))).put (some 3) (.map (some bM))=a1 at vs⊢;clear h7 e0 e1 ee bg n1 s1 b1 kv Uv hJ hr WA hlen a
 obtain⟨p,hp⟩:∃p:Nat,s.pos=p:=⟨s.pos.toNat,by have:=h.pos;omega⟩
 have hpt:s.pos.toNat=p:=by omega
 have fI:=h.pos;have Ty:=h.reach;have wF:=h.cells
 have Po:j8 s<=p:=by unfold j8;omega
 have qM:IntKind.i64.wrap (s.pos-s.reach)=s.pos-s.reach:=aP (by omega)
 have abb:max 0 (s.pos-s.reach)=(j8 s:Int):=by unfold j8;omega
 have aca:(if s.pos-s.reach<=0 then(0:Int)else s.pos-s.reach)=(j8 s:Int):=by unfold j8;split<;>omega
 refine acO (acO ?_);refine vs.region hG (ac:=af.qa c151.qb.qa) (by kernel_rfl) (by kernel_rfl) (by kernel_rfl) [(4,.int .i64 (j8 s))] rfl ?_ ?_
 .simp[c151,af.qa,af.qb,px,List.lookup,ar,qM];exact abb
 clear vs;intro a w vs
 have Rd:VS C s cX bM [(4,.int .i64 ((j8 s:Nat):Int))] (mF s (j8 s)) 0 a w:=by
  have:mF s (j8 s)=[]:=by simp[mF]
  rw[this];exact vs
 clear vs;show Code.wpIn _ _ _ _ _ a w;refine ad1 (af5 (λa w=>∃i,j8 s<=i/\i<=p/\VS C s cX bM [(4,.int .i64 (i:Nat))] (mF s i) 0 a w) (λa _=>match a.tmps.getD 4 undef with|.int _ i=>p-i.toNat|_=>0) ⟨j8 s,acD _,Po,Rd⟩ ?_);clear Rd a w;rintro a w ⟨i,QC,Ag,vs⟩;have h4:a.tmps.getD 4 undef=.int .i64 (i:Nat):=vs.int (by simp);refine acO (acO ?_);refine vs.region hG (ac:=af.qa Pg.qa) (by kernel_rfl) (by kernel_rfl) (by kernel_rfl) [(4,.int .i64 (i:Nat)),(17,.bool (decide (i<p)))] rfl ?_ ?_
 .simp[c151,Pg,af.qa,af.qb,px,List.lookup,ar,hp]
 clear vs;intro a2 w2 vs;show Code.wpIn _ _ _ _ _ a2 w2;refine adu (t:=decide (i<p)) (vs.bool (by simp)) ?_
 by_cases av:i<p
 case neg=>
  simp only[av,afE,acI,acW];refine aeY ?_
  have ab0:i=p:=by omega
  subst ab0;show Code.wpIn _ _ _ _ _ a2 w2;clear QC Ag h4 av a w
  have YR:mF s i=mF s s.pos.toNat:=by rw[hpt]
  refine acO ?_;refine vs.region hG (ac:=af.qa c151.qb.qb) (by kernel_rfl) (by kernel_rfl) (by kernel_rfl) [(5,.int .i64 0)] rfl ?_ ?_
  .simp[c151,af.qa,af.qb,px,List.lookup]
  clear vs;intro a w vs;show Code.wpIn _ _ _ _ _ a w;have Zm:IntKind.i64.wrap ((s.cells.length:Int)+1)=s.cells.length+1:=aP (by omega);refine acO ?_;refine vs.region hG (ac:=af.qa c151.qb.qb.qb) (by kernel_rfl) (by kernel_rfl) (by kernel_rfl) [(5,.int .i64 ((0:Nat):Int)),(32,.int .i64 (s.cells.length+1)),(33,.int .i64 ((0:Nat):Int))] rfl ?_ ?_
  .simp[c151,af.qa,af.qb,px,List.lookup,ar,Zm]
  clear vs;intro a w vs;show Code.wpIn _ _ _ _ _ a w;refine ad1 (af5 (λa w=>∃j,j<=s.cells.length+1/\VS C s cX bM [(5,.int .i64 ((df s j).1:Nat)),(32,.int .i64 (s.cells.length+1)),(33,.int .i64 (j:Nat))] (mF s i) (df s j).2.length a w) (λa _=>match a.tmps.getD 33 undef with|.int _ j=>s.cells.length+1-j.toNat|_=>0) ⟨0,adr _,vs⟩ ?_);clear vs a w;rintro a w ⟨j,hj,vs⟩;have h33:a.tmps.getD 33 undef=.int .i64 (j:Nat):=vs.int (by simp);refine acO ?_;refine vs.region hG (ac:=af.qa xw) (by kernel_rfl) (by kernel_rfl) (by kernel_rfl) [(5,.int .i64 ((df s j).1:Nat)),(32,.int .i64 (s.cells.length+1)),(33,.int .i64 (j:Nat)),(34,.bool (decide (j<s.cells.length+1)))] rfl ?_ ?_
  .simp[c151,xw,af.qa,af.qb,px,List.lookup];omega
  clear vs;intro a3 w3 vs;show Code.wpIn _ _ _ _ _ a3 w3;refine acO (adu (t:=decide (j<s.cells.length+1)) (vs.bool (by simp)) ?_)
  by_cases o_:j<s.cells.length+1
  case neg=>
   simp only[o_,afE,acI,acW];refine aeY ?_
   have Bw:j=s.cells.length+1:=by omega
   subst Bw
   change bodyPost prog f151 (λe w'=>∃v M eC,e=Ending.returned v/\(C.J (List.map a_ (dz s)).length M eC w'\/C.X M eC w')) .normal a3 w3
   obtain⟨M,eC,dH,_⟩:=vs.st
   have hl:((dz s).map a_).length=(df s (s.cells.length+1)).2.length:=by simp[dz,ez,df]
   refine⟨vs.defers,.tuple #[],?_,.tuple #[],M,eC,rfl,.inl (by rw[hl];exact dH)⟩;simp[results,results151]
  simp only[o_,afv,ac3];refine ad5 ?_;show Code.wpIn _ _ _ _ _ a3 w3;refine acO (aeA (Q:=λe a w=>(e=.normal/\VS C s cX bM [(5,.int .i64 ((df s (j+1)).1:Nat)),(32,.int .i64 (s.cells.length+1)),(33,.int .i64 (j:Nat))] (mF s i) (df s (j+1)).2.length a w)\/(e=.ret/\a.defers=[]/\∃M Pr,C.X M Pr w)) ?_ ?_)
  .refine ad1 ?_;refine acO ?_;refine vs.region hG (ac:=af.qa xw.qb.qb.qa.qb) (by kernel_rfl) (by kernel_rfl) (by kernel_rfl) [(5,.int .i64 ((df s j).1:Nat)),(32,.int .i64 (s.cells.length+1)),(33,.int .i64 (j:Nat)),(6,.int .i64 (j:Nat))] rfl ?_ ?_
   .simp[c151,xw,af.qa,af.qb,px,List.lookup]
   clear vs;intro a4 w4 vs;show Code.wpIn _ _ _ _ _ a4 w4;refine acO (acO ?_);obtain⟨M,eC,dH,rY,hM,⟨es,clock,hm,he⟩,hx⟩:=vs.st
   refine kN hG (GI:=GI) (p:=2) (l2:=[2]) rfl (by kernel_rfl) (by kernel_rfl) (l:=(xw.qb.qb.qa.qb.qb.qa.qa.dl).take 2) (by kernel_rfl) (by decide) (W:=λt=>decide (36<=t)) (by kernel_rfl) (C.gi dH) (λb _=>b≠bM) (px l s bM [(5,.int .i64 ((df s j).1:Nat)),(32,.int .i64 (s.cells.length+1)),(33,.int .i64 (j:Nat)),(6,.int .i64 (j:Nat))]) vs.size vs.defers vs.iz
    (K:=λS _=>S 36=.val (ES bM)/\S 37=.int .i64 (j:Nat)) ?_ ?_
   .simp[c151,xw,af.qa,af.qb,af.dl,px,List.lookup]
   intro g S' H' a5 w5 hg R1 ⟨q36,q37⟩ bj
   have KT:Below w4.heap.size w4 w5:=by have:=R1.below;rwa [R1.base]at this
   have e36:a5.eval (.tmp 36)=.map (some bM):=by
    have:=R1.slot 36 (by decide) (λh=>h);rw[q36]at this;exact this.fY
   have Z3:a5.eval (.tmp 37)=.int .i64 (j:Nat):=tG R1 (by decide) q37;have FG:=vs.aR 36 (by decide) KT R1.size (by rw[R1.defers,hg];rfl) (λt ht=>bj t (by simp;omega)) rfl;have ZJ:w5.heap[bM]?=some (.map es clock):=(KT.block bM (rY bM hM)).trans hm
   have PK:prog.underlying 182=some (.map 3 4):=by kernel_rfl
   have Wx:prog.underlying 3=some (.int .i64):=by kernel_rfl
   obtain⟨i4,P6,Xr⟩:=adZ.1 (show(prog.info? 4).bind (·.zero)=some (.bool false) by kernel_rfl);refine aV rfl rfl (by rfl) (v:=.bool (dk s j)) (w':=w5) ((FE (t:=182) (x1:=.tmp 36) (x2:=.tmp 37) rfl PK Wx P6 Xr e36 Z3 ZJ he).trans (congrArg (λv=>Result.ok (Next.value v) w5) (by rw[YR];exact Ki s (by omega) j))) ?_;show Code.wpIn _ _ _ _ _ (a5.put (some 38) (.bool (dk s j))) w5;have FW:=FG.put 38 (.bool (dk s j)) (by decide) rfl;have FJ:(a5.put (some 38) (.bool (dk s j))).tmps.getD 38 undef=.bool (dk s j):=jy _ _ _ FG.size (by decide);generalize a5.put (some 38) (.bool (dk s j))=a6 at FW FJ⊢;clear vs FG dH rY hM hm he hx M eC es clock KT R1 bj hg q36 q37 e36 Z3 ZJ;refine adu (t:=dk s j) FJ ?_
   cases hsj:dk s j with
   |true=>
    simp only[ac3]
    have hf:df s (j+1)=df s j:=by rw[nt];unfold eg;rw[if_pos hsj]
    refine aeY (.inl ⟨rfl,?_⟩);rw[hf]
    exact FW.sub λq hq=>by simp at hq⊢;rcases hq with rfl|rfl|rfl<;>simp
   |false=>
    simp only[acI,acW];refine ad5 ?_;show Code.wpIn _ _ _ _ _ a6 w5;have xj:=DG s j
    have hf:df s (j+1)=(j+1,if(df s j).1<j then(df s j).2++[((df s j).1,j-1)]else(df s j).2):=by
     rw[nt];unfold eg;rw[if_neg (by rw[hsj];simp)]
    refine acO (aeA (Q:=λe a w=>(e=.normal/\VS C s cX bM [(5,.int .i64 ((df s j).1:Nat)),(32,.int .i64 (s.cells.length+1)),(33,.int .i64 (j:Nat)),(6,.int .i64 (j:Nat))] (mF s i) (df s (j+1)).2.length a w)\/(e=.ret/\a.defers=[]/\∃M Pr,C.X M Pr w)) ?_ ?_)
    .refine acO ?_
     by_cases Uz:(df s j).1<j
     case neg=>
      have Oe:(df s (j+1)).2=(df s j).2:=by rw[hf];simp[Uz]
      refine FW.region hG (ac:=af.qa xw.qb.qb.qa.qb.qb.qb.qa) (by kernel_rfl) (by kernel_rfl) (by kernel_rfl) [(5,.int .i64 ((df s j).1:Nat)),(32,.int .i64 (s.cells.length+1)),(33,.int .i64 (j:Nat)),(6,.int .i64 (j:Nat)),(50,.bool false)] rfl ?_ ?_
      .have:¬((df s j).1:Int)<j:=by omega
       simp[c151,xw,af.qa,af.qb,px,List.lookup,Uz]
      intro a7 w7 Am;show Code.wpIn _ _ _ _ _ a7 w7;refine adu (t:=false) (Am.bool (by simp)) ?_;simp only[acI,acW];refine ad5 (.inl ⟨rfl,?_⟩);rw[Oe]
      exact Am.sub λq hq=>by simp at hq⊢;rcases hq with rfl|rfl|rfl|rfl<;>simp
     case pos=>
      have Oe:(df s (j+1)).2=(df s j).2++[((df s j).1,j-1)]:=by rw[hf];simp[Uz]
      obtain⟨M,eC,dH,rY,hM,⟨es,clock,hm,he⟩,hx⟩:=FW.st
      have Xf:IntKind.i64.wrap ((j:Int)-1)=((j-1:Nat):Int):=by rw[aP (by omega)];omega
      have jG:((df s j).1:Int)<j:=by omega
      refine kN hG (GI:=GI) (p:=9) (l2:=[9,10,11]) rfl (by kernel_rfl) (by kernel_rfl) (l:=(xw.qb.qb.qa.qb.qb.qb.qa.qa.dl).take 9) (by kernel_rfl) (by decide) (W:=λt=>decide (39<=t)) (by kernel_rfl) (C.gi dH) (λb _=>b≠bM) (px l s bM [(5,.int .i64 ((df s j).1:Nat)),(32,.int .i64 (s.cells.length+1)),(33,.int .i64 (j:Nat)),(6,.int .i64 (j:Nat))]) FW.size FW.defers FW.iz
       (K:=λS _=>S 42=.bool true/\S 43=.val (.func (.yield l) #[] #[])/\S 47=.agg [.int .i64 ((df s j).1:Nat),.int .i64 ((j-1:Nat):Int)]) ?_ ?_
      .simp[c151,xw,af.qa,af.qb,af.dl,px,List.lookup,Uz,Xf,bV]
      intro g S' H' a7 w7 hg R1 ⟨q42,QI,q47⟩ bj
      have ZB:Below w5.heap.size w5 w7:=by have:=R1.below;rwa [R1.base]at this
      have V4:a7.tmps.getD 42 undef=.bool true:=by
       have:=R1.slot 42 (by decide) (λh=>h);rw[q42]at this;exact this.fq
      have A7:a7.eval (.tmp 43)=.func (.yield l) #[] #[]:=by
       have:=R1.slot 43 (by decide) (λh=>h);rw[QI]at this;exact this.fY
      have e47:a7.eval (.tmp 47)=.agg #[.int .i64 ((df s j).1:Nat),.int .i64 ((j-1:Nat):Int)]:=by
       have:=R1.slot 47 (by decide) (λh=>h);rw[q47]at this;exact XX this
      have Am:=FW.aR 39 (by decide) ZB R1.size (by rw[R1.defers,hg];rfl) (λt ht=>bj t (by simp;omega)) rfl;clear FW dH rY hM hm he hx M eC es clock ZB R1 bj hg q42 QI q47 FJ;obtain⟨M,eC,dH,rY,hM,⟨es,clock,hm,he⟩,hx⟩:=Am.st;have Xm:=Am.size
      have abC:a7.tmps[42]?=some (.bool true):=by
       have h2:a7.tmps[42]?=some (a7.tmps.getD 42 undef):=by simp[Xm]
       rw[h2,V4]
      obtain⟨tl,wV⟩:=Ca s (s.cells.length+1-(j+1)) (j+1);rw[show j+1+(s.cells.length+1-(j+1))=s.cells.length+1 by omega,Oe]at wV
      have pq:(dz s).map a_=((df s (s.cells.length+1)).2.map λv=>a_ ((v.1:Int),(v.2:Int))):=by simp[dz,ez,df]
      have Jm:(df s j).2.length<((dz s).map a_).length:=by
       rw[pq,wV];simp
      have Fp:((dz s).map a_)[(df s j).2.length]=a_ (((df s j).1:Int),((j-1:Nat):Int)):=by
       have:((dz s).map a_)[(df s j).2.length]?=some (a_ (((df s j).1:Int),((j-1:Nat):Int))):=by
        rw[pq,wV];simp
       rw[acx Jm]at this;exact acX this
      have cP:RD (λb j=>eC b j\/((λ_=>False) b/\j<(λ_=>0) b)) w7 ((dz s).map a_)[(df s j).2.length] (a7.eval (.tmp 47)):=by
       rw[Fp,e47];refine .agg _ _ rfl (λi hi=>?_) (λi hi cQ=>?_)
       .match i,hi with
        |0,_|1,_=>rfl
       .match i,hi with
        |0,_|1,_=>exact .int _ _
      obtain⟨ff,tmps,UB,bd,F3,vJ⟩:=C.round Jm (λ_=>False) (λ_=>0) _ dH (λb hb=>hb.elim) cP;refine GH rfl (by simp[Region.wanted,yielded,AH,abC]) (by rfl) ((qh (f:=.tmp 43) (x:=.tmp 47) w7 rfl rfl rfl A7).trans F3) vJ ?_;rintro e w8 ⟨Ur,Pr8,FN,pO⟩
      have Zj:(df s (j+1)).2.length=(df s j).2.length+1:=by rw[Oe];simp
      obtain⟨b,rfl,hT,hF⟩:∃b:Bool,e=.returned (.bool b)/\(b=true->VS C s cX bM [(5,.int .i64 ((df s j).1:Nat)),(32,.int .i64 (s.cells.length+1)),(33,.int .i64 (j:Nat)),(6,.int .i64 (j:Nat))] (mF s i) (df s (j+1)).2.length a7 w8)/\(b=false->∃M Pr,C.X M Pr w8):=by
       rcases pO with⟨rfl,hj8⟩|⟨rfl,hX8⟩
       .refine⟨true,rfl,λ_=>?_,λh=>(by cases h)⟩
        have M6:∀b,M b->w8.heap[b]?=w7.heap[b]?:=λb hb=>Ur b hb (λh=>h)
        refine⟨Am.size,Am.defers,Am.t0,Am.t1,Am.t3,λq hq=>?_,λb=>M b/\¬(λ_=>False) b,Pr8,by rw[Zj];exact hj8,λb hb=>?_,⟨hM,λh=>h⟩,⟨es,clock,(M6 bM hM).trans hm,he⟩,hx.mono FN⟩
        .obtain⟨q1,q2,q3⟩:=Am.ex q hq;exact⟨q1,q2,q3.gQ q2⟩
        .have h1:=M6 b hb.1;rw[acP (rY b hb.1)]at h1;exact(acz.1 h1).1
       .exact⟨false,rfl,λh=>(by cases h),λ_=>⟨_,_,hX8⟩⟩
      refine⟨_,rfl,?_⟩;show wpOpsIn _ _ _ _ _ [10,11] (a7.put (some 48) (.bool b)) w8
      have z8:(a7.put (some 48) (.bool b)).tmps.size=54:=by rw[jo];exact Xm
      have h48:(a7.put (some 48) (.bool b)).eval (.tmp 48)=.bool b:=jy _ _ _ Xm (by decide)
      have h42:(a7.put (some 48) (.bool b)).tmps[42]?=some (.bool true):=by
       have h2:(a7.put (some 48) (.bool b)).tmps[42]?=some ((a7.put (some 48) (.bool b)).tmps.getD 42 undef):=by simp[z8]
       rw[h2,eY _ _ _ _ (by decide),V4]
      refine KM rfl (by simp[Region.wanted,yielded,AH,h42]) (by rfl) (On (x:=.tmp 48) rfl h48) ?_;show wpOpsIn _ _ _ _ _ [11] ((a7.put (some 48) (.bool b)).put (some 49) (.bool !b)) w8;have h49:((a7.put (some 48) (.bool b)).put (some 49) (.bool !b)).eval (.tmp 49)=.bool !b:=jy _ _ _ z8 (by decide)
      have abu:((a7.put (some 48) (.bool b)).put (some 49) (.bool !b)).eval (.tmp 42)=.bool true:=by
       show Array.getD _ _ _=_;rw[eY _ _ _ _ (by decide),eY _ _ _ _ (by decide),V4]
      have z9:((a7.put (some 48) (.bool b)).put (some 49) (.bool !b)).tmps.size=54:=by rw[jo];exact z8
      have hpk:∀o:Oper,o.op=.pick (.tmp 42) (.tmp 49) (.const (.bool false))->(execOp ((a7.put (some 48) (.bool b)).put (some 49) (.bool !b)).eval o).run prog w8=.ok (.value (.bool !b)) w8:=by
       intro o ho;unfold execOp;simp[ho,abu,h49,asBool]
      refine aV rfl rfl (by rfl) (hpk _ rfl) ?_;show Code.wpIn _ _ _ _ _ (((a7.put (some 48) (.bool b)).put (some 49) (.bool !b)).put (some 50) (.bool !b)) w8;refine adu (t:=!b) (jy _ _ _ z9 (by decide)) ?_
      cases b with
      |true=>
       simp only[Bool.not_true,acI,acW];exact ad5 (.inl ⟨rfl,(((hT rfl).put 48 _ (by decide) rfl).put 49 _ (by decide) rfl).put 50 _ (by decide) rfl⟩)
      |false=>
       simp only[afK,ac3];exact aeJ (.inr ⟨rfl,Am.defers,hF rfl⟩)
    .rintro e a w (⟨rfl,vs⟩|⟨rfl,hd,M,eC,hX⟩)
     .show Code.wpIn _ _ _ _ _ a w
      refine vs.region hG (ac:=af.qb xw.qb.qb.qa.qb.qb.qb) (by kernel_rfl) (by kernel_rfl) (by kernel_rfl) [(5,.int .i64 ((df s (j+1)).1:Nat)),(32,.int .i64 (s.cells.length+1)),(33,.int .i64 (j:Nat))] rfl ?_ λa w vs=>.inl ⟨rfl,vs⟩
      have hw:IntKind.i64.wrap ((j:Int)+1)=j+1:=aP (by omega);simp[c151,xw,af.qa,af.qb,px,List.lookup,hw,hf]
     .exact .inr ⟨rfl,hd,M,eC,hX⟩
  .rintro e a w (⟨rfl,vs⟩|⟨rfl,hd,M,eC,hX⟩)
   .show Code.wpIn _ _ _ _ _ a w;refine vs.region hG (ac:=af.qb xw.qb.qb) (by kernel_rfl) (by kernel_rfl) (by kernel_rfl) [(5,.int .i64 ((df s (j+1)).1:Nat)),(32,.int .i64 (s.cells.length+1)),(33,.int .i64 ((j+1:Nat):Int))] rfl ?_ ?_
    .have hw:IntKind.i64.wrap ((j:Int)+1)=j+1:=aP (by omega);simp[c151,xw,af.qa,af.qb,px,List.lookup,hw]
    intro a5 w5 FG;have aaq:a5.tmps.getD 33 undef=.int .i64 ((j+1:Nat):Int):=FG.int (by simp);refine⟨⟨j+1,by omega,FG⟩,?_⟩;simp only[aaq,h33];simp;omega
   .change bodyPost prog f151 (λe w'=>∃v M eC,e=Ending.returned v/\(C.J (List.map a_ (dz s)).length M eC w'\/C.X M eC w')) .ret a w
    refine⟨hd,.tuple #[],?_,.tuple #[],M,eC,rfl,.inr hX⟩;simp[results,results151]
 case pos=>
  simp only[av,afv,ac3];refine ad5 ?_;show Code.wpIn _ _ _ _ _ a2 w2
  have ZM:i<s.cells.length:=by omega
  have abt:qk s i=s.cells[i].hid:=by unfold qk;rw[acx ZM]
  refine acO (ad1 ?_);obtain⟨M,Pr,hj,rY,hM,⟨es,clock,hm,he⟩,hx⟩:=vs.st
  refine kN hG (GI:=GI) (p:=9) (l2:=[9]) rfl (by kernel_rfl) (by kernel_rfl) (l:=(Pg.qb.qa.qb.dl).take 9) (by kernel_rfl) (by decide) (W:=W4) (by kernel_rfl) (C.gi hj) (λb _=>b≠bM) (px l s bM [(4,.int .i64 (i:Nat)),(17,.bool (decide (i<p)))]) vs.size vs.defers vs.iz
   (K:=λS _=>S 20=.val (ES bM)/\S 21=.int .i64 (i:Nat)/\S 28=.bool (!qk s i)/\S 4=.int .i64 (i:Nat)) ?_ ?_
  .simp[c151,Pg,af.qa,af.qb,af.dl,px,List.lookup,ar,ZM,abt,fo]
  intro g S' H' a3 w3 hg R1 ⟨Sf,Z7,Cu,q4⟩ bj
  have qn:Below w2.heap.size w2 w3:=by have:=R1.below;rwa [R1.base]at this
  have Ly:a3.eval (.tmp 20)=.map (some bM):=by
   have:=R1.slot 20 (by decide) (λh=>h);rw[Sf]at this;exact this.fY
  have Ut:a3.eval (.tmp 21)=.int .i64 (i:Nat):=tG R1 (by decide) Z7
  have vi:a3.eval (.tmp 28)=.bool (!qk s i):=by
   have:=R1.slot 28 (by decide) (λh=>h);rw[Cu]at this;exact this.fq
  have e4:a3.tmps.getD 4 undef=.int .i64 (i:Nat):=tG R1 (by decide) q4
  have LK:VS C s cX bM [(4,.int .i64 (i:Nat))] (mF s i) 0 a3 w3:=vs.grow qn R1.size (by rw[R1.defers,hg];rfl) (λt ht=>bj t (by simp[W4];omega)) λq hq=>by
   rw[ac4]at hq;subst hq;exact⟨acD _,rfl,by rw[e4];exact .int _ _⟩
  clear vs hj rY hM hm he hx M Pr es clock qn R1 bj hg Sf Z7 Cu q4;obtain⟨M,Pr,hj,rY,hM,⟨es,clock,hm,he⟩,hx⟩:=LK.st
  have PK:prog.underlying 182=some (.map 3 4):=by kernel_rfl
  have Wx:prog.underlying 3=some (.int .i64):=by kernel_rfl
  refine dU rfl rfl (by rfl) (E4 (t:=182) (x1:=.tmp 20) (x2:=.tmp 21) (x3:=.tmp 28) rfl PK Wx Ly Ut hm he (O7 s)) ?_;rw[vi]
  obtain⟨w4,lS⟩:∃w4,w3.putObj bM (.map (es.push { key:=.int .i64 (i:Nat),val:=.bool (!qk s i),born:=clock }) (clock+1))=w4:=⟨_,rfl⟩
  show Code.wpIn _ _ _ _ _ a3 (w3.putObj bM (.map (es.push { key:=.int .i64 (i:Nat),val:=.bool (!qk s i),born:=clock }) (clock+1)));rw[lS];have abg:=rY bM hM
  have qI:w4.heap[bM]?=some (.map (es.push { key:=.int .i64 (i:Nat),val:=.bool (!qk s i),born:=clock }) (clock+1)):=by rw[<-lS];exact af6 abg
  have Eh:lh M w3 w4:=by
   rw[<-lS];exact⟨rfl,rfl,rfl,by simp[World.putObj],λb _ hb=>afr (by rintro rfl;exact hb hM)⟩
  have Cr:w4.heap.size=w3.heap.size:=by rw[<-lS];simp[World.putObj]
  have vs4:VS C s cX bM [(4,.int .i64 (i:Nat))] (mF s (i+1)) 0 a3 w4:=by
   refine⟨LK.size,LK.defers,LK.t0,LK.t1,LK.t3,λq hq=>?_,M,Pr,C.dS hj Eh λb hb=>⟨by rw[Cr];exact rY b hb,.inl hb⟩,λb hb=>by rw[Cr];exact rY b hb,hM,⟨_,_,qI,?_⟩,hx.mono (bc.oF λb k _ hp=>Eh.block b ?_ ?_)⟩
   .obtain⟨q1,q2,q3⟩:=LK.ex q hq;exact⟨q1,q2,q3.gQ q2⟩
   .rw[K9 s QC];exact he.push (i:Int) (.bool (!qk s i)) clock
   .assumption
   .intro hmb;exact C.apart hj _ k hmb hp
  refine vs4.region hG (ac:=af.qb Pg.qb) (by kernel_rfl) (by kernel_rfl) (by kernel_rfl) [(4,.int .i64 ((i+1:Nat):Int))] rfl ?_ ?_
  .have hw:IntKind.i64.wrap ((i:Int)+1)=i+1:=aP (by omega);simp[c151,Pg,af.qa,af.qb,px,List.lookup,hw]
  intro a5 w5 FG;have P0:a5.tmps.getD 4 undef=.int .i64 ((i+1:Nat):Int):=FG.int (by simp);refine⟨⟨i+1,by omega,by omega,FG⟩,?_⟩;simp only[P0,h4];simp;omega
end Go.Proofs.Tryz
namespace Go.Proofs.Tryz
open Go Go.AL Go.RowKit Go.Proofs Go.Proofs.Tram
attribute [local simp] dP fu fb eu eL dV dW du dp eJ dq cU gG gD aG aD ev aQ.S aQ.H bG au aY AL.start AV.cells AV.storable AV.bZ bu bQ eF b0 HR.okB post cL dc db AV.out AV.bW cy dK fz gM AV.vw da vI int bO aO dE dj iJ jF eo dG bt AV.aH AV.cT
variable{GI:World->Prop}
def PG(hG:aw GI)(l:List Int)(hl:l.length<100000)(h:∀x∈l,0<=x/\x<=1000):AC prog GI 102 [vI l] (.ret (.int .i64 l.sum)):=by
 refine cE hG func102 ntmps102 c102 ?_;simp[c102];refine bC 8 l.length (λi S H=>S 6=vI l/\S 7=.int .i64 l.length/\S 8=.int .i64 (i:Nat)/\S 3=.int .i64 (l.take i).sum) (λi S H h=>h.2.2.1) ⟨by simp,by simp,by simp,by simp⟩ ?_;rintro i hi S H ⟨s6,s7,s8,s3⟩
 by_cases av:i<l.length
 .have hb:=pP (l:=l.take i) λx hx=>h x (adS hx)
  have hx:=h l[i] (acy av);rw[adf]at hb;have hw:IntKind.i64.wrap ((i:Int)+1)=i+1:=aP (by omega);have iy:IntKind.i64.wrap ((l.take i).sum+l[i])=(l.take i).sum+l[i]:=aP (by omega);rw[EG av];generalize(l.take i).sum=y at s3 iy⊢;simp[s6,s7,s8,s3,av,hw,iy]
 .have cN:i=l.length:=by omega
  subst cN;rw[adG]at s3;simp[s6,s7,s8,s3]
def ec(l:List Int)(i:Nat):Int:=l.getD i 0
def zn(l:List Int){a b:Nat}(qF:a<=b)(hb:b<=l.length):((l.take b).drop a).sum=iI (ec l) a b:=by
 unfold iI
 congr 1
 apply adP;intro i;rw[ac1]
 by_cases hi:i<b-a
 .rw[aeX,afk (by omega),acx (by omega),acx (by simpa using hi)];simp[ec,ac2,show a+i<l.length by omega]
 .rw[acU (by simp;omega),acU (by simp;omega)]
  rfl
def Tf(hG:aw GI)(s:az):AC prog GI 90 [bn s] (.ret (.func (.func 151) [] [.ref (ar s)])):=by
 refine AC.Et hG dO func90 rfl ntmps90 (by simp) (ac:=c90) (by kernel_rfl) ?_;simp[c90,bn,ar,ae,bL,bw,aG,bh,aD,dE,ev,aQ.S,aQ.H,au,aY,AL.start,AV.aH,AV.cells,AV.storable,bQ,jU,bG,vI];refine⟨2,.func 151,[],[.box 1 0],rfl,by decide,by simp[au],?_⟩;simp[au,fz,gM,AV.cT]
def PH:af:=.ops [⟨(some 6),none,.alloc 26 [(.int .i64 0),(.int .i64 0)]⟩,⟨none,none,.store .any 2 (.t 6) (.t 11)⟩]
def QT : af := .block 1 <| .seq (.ops [⟨(some 12), none, .load .any false 1 (.t 3)⟩,
    ⟨(some 13),none,.fieldAddr 0 (.t 6)⟩,
    ⟨(some 14),none,.load .any false 1 (.t 13)⟩,
    ⟨(some 15),none,.fieldAddr 1 (.t 6)⟩,
    ⟨(some 16),none,.load .any false 1 (.t 15)⟩,
    ⟨(some 17),none,.bin .add (.t 16) (.c (.int .i64 1))⟩,
    ⟨(some 18),none,.lH 1 (.t 12) (some (.t 14)) (some (.t 17))⟩,
    ⟨(some 19),none,.call 102 [(.t 18)]⟩,
    ⟨(some 7),none,.mv true (.t 19)⟩])<|
  .block 2<|.loop<|
   .seq (.seq (.ops [⟨(some 20),none,.load .any false 1 (.t 5)⟩,
     ⟨(some 21),none,.fieldAddr 15 (.t 2)⟩,
     ⟨(some 22),none,.load .any false 1 (.t 21)⟩,
     ⟨(some 23),none,.iW (.t 22)⟩,
     ⟨(some 24),none,.bin .lss (.t 20) (.t 23)⟩,
     ⟨(some 25),none,.mv false (.t 24)⟩,
     ⟨(some 26),(some (25,true)),.fieldAddr 15 (.t 2)⟩,
     ⟨(some 27),(some (25,true)),.load .any false 1 (.t 26)⟩,
     ⟨(some 28),(some (25,true)),.load .any false 1 (.t 5)⟩,
     ⟨(some 29),(some (25,true)),.indexAddr 1 (.t 27) (.t 28)⟩,
     ⟨(some 30),(some (25,true)),.load .any false 1 (.t 29)⟩,
     ⟨(some 31),(some (25,true)),.mv false (.t 7)⟩,
     ⟨(some 32),(some (25,true)),.bin .leq (.t 30) (.t 31)⟩,
     ⟨(some 33),none,.pick (.t 25) (.t 32) (.c (.bool false))⟩])<|
   .cond (.t 33)
    (.skip)
    (.exit 2))<|
   .block 3 <| .seq (.ops [⟨(some 34),none,.mv false (.t 7)⟩,
      ⟨(some 35),none,.fieldAddr 15 (.t 2)⟩,
      ⟨(some 36),none,.load .any false 1 (.t 35)⟩,
      ⟨(some 37),none,.load .any false 1 (.t 5)⟩,
      ⟨(some 38),none,.indexAddr 1 (.t 36) (.t 37)⟩,
      ⟨(some 39),none,.load .any false 1 (.t 38)⟩,
      ⟨(some 40),none,.bin .sub (.t 34) (.t 39)⟩,
      ⟨(some 7),none,.mv true (.t 40)⟩])<|
    .ops [⟨(some 41),none,.load .any false 1 (.t 5)⟩,
      ⟨(some 42),none,.bin .add (.t 41) (.c (.int .i64 1))⟩,
      ⟨none,none,.store .any 1 (.t 5) (.t 42)⟩]
def Ny:af :=
   .seq (.seq (.ops [⟨(some 20),none,.load .any false 1 (.t 5)⟩,
     ⟨(some 21),none,.fieldAddr 15 (.t 2)⟩,
     ⟨(some 22),none,.load .any false 1 (.t 21)⟩,
     ⟨(some 23),none,.iW (.t 22)⟩,
     ⟨(some 24),none,.bin .lss (.t 20) (.t 23)⟩,
     ⟨(some 25),none,.mv false (.t 24)⟩,
     ⟨(some 26),(some (25,true)),.fieldAddr 15 (.t 2)⟩,
     ⟨(some 27),(some (25,true)),.load .any false 1 (.t 26)⟩,
     ⟨(some 28),(some (25,true)),.load .any false 1 (.t 5)⟩,
     ⟨(some 29),(some (25,true)),.indexAddr 1 (.t 27) (.t 28)⟩,
     ⟨(some 30),(some (25,true)),.load .any false 1 (.t 29)⟩,
     ⟨(some 31),(some (25,true)),.mv false (.t 7)⟩,
     ⟨(some 32),(some (25,true)),.bin .leq (.t 30) (.t 31)⟩,
     ⟨(some 33),none,.pick (.t 25) (.t 32) (.c (.bool false))⟩])<|
   .cond (.t 33)
    (.skip)
    (.exit 2))<|
   .block 3 <| .seq (.ops [⟨(some 34),none,.mv false (.t 7)⟩,
      ⟨(some 35),none,.fieldAddr 15 (.t 2)⟩,
      ⟨(some 36),none,.load .any false 1 (.t 35)⟩,
      ⟨(some 37),none,.load .any false 1 (.t 5)⟩,
      ⟨(some 38),none,.indexAddr 1 (.t 36) (.t 37)⟩,
      ⟨(some 39),none,.load .any false 1 (.t 38)⟩,
      ⟨(some 40),none,.bin .sub (.t 34) (.t 39)⟩,
      ⟨(some 7),none,.mv true (.t 40)⟩])<|
    .ops [⟨(some 41),none,.load .any false 1 (.t 5)⟩,
      ⟨(some 42),none,.bin .add (.t 41) (.c (.int .i64 1))⟩,
      ⟨none,none,.store .any 1 (.t 5) (.t 42)⟩]
def U6 {s:az} {ao:List Int} {n kA:Nat} {T:Int} (hn:∀ x∈ao,0≤x∧x≤1000) (C0:ao.length≤1000) (Io:n≤ao.length) (hT:0≤T∧T≤100000) (wX:(dJ (ao.drop n) T).1=kA) {S:an} {H:aq} {x3:AV} {Q:cw→an→aq→Prop}
  (s2:S 2=.box 2 0) (h2:H 2=some (bq s ao)) (h3:H 3=some [x3]) (s5:S 5=.box 5 0) (h5:H 5=some [.int .i64 (n:Nat)]) (s7:S 7=.int .i64 T)
  (hQ:∀S H,H 2=some (bq s ao)->H 3=some [x3]->H 5=some [.int .i64 ((n+kA:Nat):Int)]->Q (.exit 2) S H):bL prog GI (.loop Ny) Q S H:=by
 have wV:kA<=ao.length-n:=by rw[<-wX];have:=pR (ao.drop n) T;simpa using this
 refine⟨λS H=>∃m:Nat,m<=kA/\S 2=.box 2 0/\H 2=some (bq s ao)/\H 3=some [x3]/\S 5=.box 5 0/\H 5=some [.int .i64 ((n+m:Nat):Int)]/\S 7=.int .i64 (T-((ao.drop n).take m).sum)/\T-((ao.drop n).take m).sum<=T/\0<=T-((ao.drop n).take m).sum,
  λS H=>match H 5 with|some [.int _ j]=>(ao.length-j).toNat|_=>0,⟨0,adr _,s2,h2,h3,s5,h5,by simpa using s7,by simp,by simpa using hT.1⟩,?_⟩
 clear h5 h3 h2 s2 s5 s7 S H;rintro S H ⟨m,hm,s2,h2,h3,s5,h5,s7,tq,jK⟩;have iS:=q_ (ao.drop n) T m (by omega);rw[aeP]at iS
 have AS:kA=m+(dJ (ao.drop (n+m)) (T-((ao.drop n).take m).sum)).1:=by
  rw[<-wX,iS]
 obtain⟨left,Lj⟩:∃left,T-((ao.drop n).take m).sum=left:=⟨_,rfl⟩
 rw[Lj]at AS s7 tq jK
 have WL:H 5=some [.int .i64 ((n:Int)+m)]:=by rw[h5];simp
 by_cases uC:n+m<ao.length
 case neg=>
  have CB:(dJ (ao.drop (n+m)) left).1=0:=by
   have:=pR (ao.drop (n+m)) left;simp at this;omega
  have Cj:¬((n:Int)+m<ao.length):=by omega
  have K_:kA=m:=by omega
  subst K_;have hq:=hQ;simp[Ny,bq,ar,ae,s2,h2,h3,s5,h5,s7,uC,Cj];refine hq _ _ ?_ ?_ ?_
  .rw[h2]
  .rw[h3]
  .rw[h5]
 have hd:ao.drop (n+m)=ao[n+m]::ao.drop (n+m+1):=ad7 uC;have hx:=hn ao[n+m] (acy uC)
 have Cj:(n:Int)+m<ao.length:=by omega
 have p_:(0:Int)<=(n:Int)+m:=by omega
 have GU:((n:Int)+m).toNat=n+m:=by omega
 by_cases hle:ao[n+m]<=left
 case neg=>
  have CB:(dJ (ao.drop (n+m)) left).1=0:=by rw[hd,dJ,if_neg hle]
  have K_:kA=m:=by omega
  subst K_;simp[Ny,bq,ar,ae,s2,h2,h3,s5,h5,s7,uC,Cj,p_,GU,hle];refine hQ _ _ ?_ ?_ ?_
  .rw[h2]
  .rw[h3]
  .rw[h5]
 case pos=>
  have E0:m+1<=kA:=by rw[hd,dJ,if_pos hle]at AS;omega
  have kv:IntKind.i64.wrap (left-ao[n+m])=left-ao[n+m]:=aP (by omega);have iy:IntKind.i64.wrap ((n:Int)+m+1)=n+m+1:=aP (by omega)
  have LX:T-((ao.drop n).take (m+1)).sum=left-ao[n+m]:=by
   rw[acL (by simp;omega),aeg];simp;omega
  simp[Ny,bq,ar,ae,s2,h2,h3,s5,h5,s7,uC,Cj,p_,GU,hle,kv,iy];refine⟨⟨m+1,E0,by omega,by rw[LX],by omega,by omega⟩,by omega⟩
def nT(s:az)(ao bb:List Int)(k:Nat):Nat:=eI ao (ec bb) ((ez (dk s) s.cells.length).take k)
def Tg (hG:aw GI) (s:az) (h:eG s) (ao:List Int) (hn:∀ x∈ao,0≤x∧x≤1000) (C0:ao.length≤1000) (bb:List Int) (hr:bb.length=s.cells.length) (pB:∀ x∈bb,0≤x∧x≤1000) :
  AC prog GI 92 [dv s ao,vI bb] (.ret (.int .i64 (eI ao (ec bb) (ez (dk s) s.cells.length)))):=by
 have wF:=h.cells
 refine AC.jw func92 rfl ntmps92 (by simp) λcc w=>?_
 refine eV hG c92.qa (λS' H'=>S' 2=.box 2 0/\H' 2=some (bq s ao)/\S' 3=.box 3 0/\H' 3=some [vI bb]) ?_ ?_
 .simp[c92,af.qa,dv,bq,ar,ae]
 rintro S1 H1 ⟨s2,h2,s3,h3⟩;refine eV hG c92.qb.qa (λS' H'=>S' 2=.box 2 0/\H' 2=some (bq s ao)/\S' 3=.box 3 0/\H' 3=some [vI bb]/\S' 5=.box 5 0/\H' 5=some [.int .i64 0]) ?_ ?_
 .simp[c92,af.qa,af.qb,bq,ar,ae,s2,h2,s3,h3]
  try rfl
 clear s2 h2 s3 h3;rintro S2 H2 ⟨s2,h2,s3,h3,s5,h5⟩;refine SW.seq (eV hG c92.qb.qb.qa.qa (λS' H'=>S' 2=.box 2 0/\H' 2=some (bq s ao)/\S' 3=.box 3 0/\H' 3=some [vI bb]/\S' 5=.box 5 0/\H' 5=some [.int .i64 0]/\S' 10=.func (.func 151) [] [.ref (ar s)]) ?_ ?_)
 .simp[c92,af.qa,af.qb,bq,ar,ae,s2,h2,s3,h3,s5,h5];refine oc (Tf hG s) ?_;simp[s2,h2,s3,h3,s5,h5,bq,ar,ae]
  try rfl
 clear s2 h2 s3 h3 s5 h5;rintro S3 H3 ⟨s2,h2,s3,h3,s5,h5,cb⟩
 have Di:nO (λd=>d==6) (S3 2)=.box 2 0:=by rw[s2];rfl
 have s3':nO (λd=>d==6) (S3 3)=.box 3 0:=by rw[s3];rfl
 have lE:nO (λd=>d==6) (S3 5)=.box 5 0:=by rw[s5];rfl
 refine SW.block (SW.range hG dO (MJ:=.tmp 10) (y:=.t 10) (p:=11) (f:=151) (caps:=[.ref (ar s)]) (xs:=(dz s).map a_) rfl cb (by kernel_rfl) rfl (LG hG s h) (by decide) (λx hx=>by obtain⟨e,_,rfl⟩:=acZ.1 hx;rfl)
  (λd=>d==6) (aa:=PH) (ab:=QT) (by kernel_rfl) (by kernel_rfl) (by simp[PH,af.names,bB.jb,dT.jb]) (by simp[QT,af.names,bB.jb,dT.jb]) (λ_ _ h=>h) (by kernel_rfl) (by kernel_rfl)
  (λk H'=>H' 2=some (bq s ao)/\H' 3=some [vI bb]/\H' 5=some [.int .i64 (nT s ao bb k:Nat)]) (λ_ _=>False) ⟨h2,h3,by rw[h5];rfl⟩ ?_ ?_ ?_)
 .rintro k hk H' ⟨h2,h3,h5⟩
  have dN:k<(ez (dk s) s.cells.length).length:=by simpa[dz]using hk
  obtain⟨f,t,BT⟩:∃f t,(ez (dk s) s.cells.length)[k]=(f,t):=⟨_,_,rfl⟩
  have Fp:((dz s).map a_)[k]=.agg [.int .i64 (f:Nat),.int .i64 (t:Nat)]:=by simp[dz,BT,a_]
  have gX:dk s s.cells.length=false:=by
   have:=h.pos;unfold dk
   have:¬s.cells.length<s.pos.toNat:=by omega
   simp[this]
  have b_:=(yl gX).1 (f,t) (by rw[<-BT];exact acy dN);simp only at b_;obtain⟨acf,aco⟩:=b_;have hw:IntKind.i64.wrap ((t:Int)+1)=t+1:=aP (by omega);have y9:=zn bb (a:=f) (b:=t+1) (by omega) (by omega);have d_:=PG hG ((bb.take (t+1)).drop f) (by simp;omega) (λx hx=>pB x (adS (aeN hx)));have hT0:=pP (l:=(bb.take (t+1)).drop f) (λx hx=>pB x (adS (aeN hx)))
  have hTl:((bb.take (t+1)).drop f).length<=12:=by simp;omega
  have jh:nT s ao bb (k+1)=nT s ao bb k+(dJ (ao.drop (nT s ao bb k)) (iI (ec bb) f (t+1))).1:=by
   unfold nT;rw[acL dN,BT,nf]
  rw[<-y9]at jh;have Io:nT s ao bb k<=ao.length:=tC _ _ _;rw[Fp];generalize hTT:((bb.take (t+1)).drop f).sum=T at d_ hT0 jh;generalize nT s ao bb k=n at jh Io h5
  have i1:((t:Int)+1).toNat=t+1:=by omega
  have i2:t+1<=bb.length:=by omega
  have i3:f<=t+1:=by omega
  have j1:(f:Int)<=(t:Int)+1:=by omega
  have j2:(t:Int)+1<=bb.length:=by omega
  have EP:List.drop f (List.take (t+1) (ints bb))=ints (List.drop f (List.take (t+1) bb)):=by simp[ints,ae8,aeV]
  have dI:aJ 1 (ints bb)=true:=mw _;simp[PH,QT,bq,ar,ae,Di,h2,s3',h3,lE,h5,hw,i1,i2,i3,j1,j2,bound,EP,dI];refine oc d_ ?_;simp[bq,ar,ae,Di,h2,s3',h3,lE,h5]
  obtain⟨kA,wX⟩:∃kA,(dJ (ao.drop n) T).1=kA:=⟨_,rfl⟩
  rw[wX]at jh
  have wV:kA<=ao.length-n:=by rw[<-wX];have:=pR (ao.drop n) T;simpa using this
  refine U6 (s:=s) (x3:=vI bb) hn C0 Io ⟨hT0.1,by omega⟩ wX (by simp[Di]) (by simp[au,h2]) (by simp[au,h3]) (by simp[lE]) (by simp[au,h5]) (by simp[au]) ?_;intro S H q2 q3 q5;simp only[dj,ac3,rk];refine⟨?_,?_,?_⟩
  .rw[q2];rfl
  .rw[q3];rfl
  .rw[q5,jh]
 .rintro D H' hD ⟨h2,h3,h5⟩;show SW prog GI 44 none (.seq _ .ret) _ _ _ _
  have oy:nT s ao bb ((dz s).map a_).length=eI ao (ec bb) (ez (dk s) s.cells.length):=by
   unfold nT;rw[acQ (by simp[dz])]
  rw[oy]at h5;refine eV hG c92.qb.qb.qb.qa (λS' _=>S' 4=.int .i64 (eI ao (ec bb) (ez (dk s) s.cells.length))) ?_ ?_
  .simp[c92,af.qa,af.qb,lE,h5]
  intro S4 H4 s4;refine SW.ret ⟨(eA.plain rfl).mark hD,rfl,_,?_,rfl⟩;show cL prog 44 [.tmp 4] S4 H4=_;simp[cL,dc,db,s4,AV.bW,AV.out]
  try rfl
 .exact λ_ _ _ _ _ h=>h.elim
def GR(l:List End):AV:=.slice (if l.isEmpty then .nil else .own 26) (l.map a_)
def ox(l:List End):AV:=.slice (if l.isEmpty then .nil else .view) (l.map a_)
def E2(s:az):AV:=.func (.func 151) [] [.ref (ar s)]
noncomputable def FV:af:=.ops [⟨some 5,none,.alloc 26 [(.int .i64 0),(.int .i64 0)]⟩,⟨none,none,.store .any 2 (.t 5) (.t 7)⟩]
noncomputable def EM:af:=.block 1<|.ops [⟨some 8,none,.loadT .any (.t 2)⟩,⟨some 9,none,.load .any true 2 (.t 5)⟩,⟨some 10,none,.buildSlice 48 26 2 [.t 9]⟩,⟨some 11,none,.append 48 26 2 16 (.t 8) (.t 10)⟩,⟨none,none,.store .any 1 (.t 2) (.t 11)⟩]
def Ze (hG:aw GI) (s:az) {ps:List End} (hlen:ps.length≤1000000) (hit:vv prog GI 151 [.ref (ar s)] (ps.map a_)) :
  AC prog GI 150 [.slice .nil [],E2 s] (.ret (ox ps)):=by
 refine AC.jw func150 rfl ntmps150 (by simp) λcc w=>?_
 refine eV hG c150.qa (λS' H'=>S' 1=E2 s/\S' 2=.box 2 0/\H' 2=some [.slice .nil []]) ?_ ?_
 .simp[c150,E2,af.qa,bL,bw,aG,bh,aD,ev,aQ.S,aQ.H,au,aY,AL.start,AV.aH,AV.cells,AV.storable,bQ,jU,bG,vI,a_,aO]
 rintro S1 H1 ⟨s1,s2,h2⟩;refine SW.seq (eV hG c150.qb.qa.qa (λS' H'=>S' 2=.box 2 0/\S' 6=E2 s/\H' 2=some [.slice .nil []]) ?_ ?_)
 .simp[c150,E2,af.qa,af.qb,bL,bw,aG,bh,aD,ev,aQ.S,aQ.H,au,aY,s2,h2,aO,AV.aH]
  rw[s1]<;>rfl
 rintro S3 H3 ⟨s2,s6,h2⟩
 refine SW.block (SW.range hG dO (MJ:=.tmp 6) (y:=.t 6) (p:=7) (f:=151) (caps:=[.ref (ar s)]) (xs:=ps.map a_) rfl s6 (by kernel_rfl) rfl hit (by decide) (λx hx=>by obtain⟨e,_,rfl⟩:=acZ.1 hx;rfl)
  (λd=>d==5) (aa:=FV) (ab:=EM)
  (by kernel_rfl) (by kernel_rfl) (by simp[FV,af.names,bB.jb,dT.jb]) (by simp[EM,af.names,bB.jb,dT.jb]) (λ_ _ h=>h) (by kernel_rfl) (by kernel_rfl)
  (λk H'=>H' 2=some [GR (ps.take k)]) (λ_ _=>False) h2 ?_ ?_ ?_)
 .rintro k hk H' h2
  have dN:k<ps.length:=by simpa using hk
  have Fp:(ps.map a_)[k]=a_ ps[k]:=by simp
  have oy:ps.take (k+1)=ps.take k++[ps[k]]:=by rw[acL dN]
  have Di:nO (λd=>d==5) (S3 2)=.box 2 0:=by rw[s2]<;>rfl
  rw[Fp,oy]
  have hL:(List.take k ps).length<=1000000:=by simp;omega
  generalize List.take k ps=L at hL h2⊢
  cases L with
  |nil=>simp[FV,EM,Di,h2,a_,rk,GR,aJ,HR.okB,bu]
  |cons x L=>
   have uW:L.length+1+1<1048576:=by simp at hL;omega
   have b_:aJ 2 (a_ x::L.map a_)=true:=by simp[aJ,vI,a_,AV.storable,AV.cells]
   simp[FV,EM,Di,h2,a_,rk,GR,aJ,HR.okB,bu,uW]
 .rintro D H' hD h2;show SW prog GI 13 none (.seq _ .ret) _ _ _ _
  have Di:nO (λd=>d==5) (S3 2)=.box 2 0:=by rw[s2]<;>rfl
  have oy:List.take (ps.map a_).length ps=ps:=acQ (by simp);rw[oy]at h2;refine eV hG c150.qb.qb.qa (λS' _=>S' 4=ox ps) ?_ ?_
  .cases ps<;>simp[c150,af.qa,af.qb,bL,bw,aG,bh,aD,ev,aQ.S,aQ.H,au,aY,b0,Di,h2,HR.okB,aO,GR,ox,AV.aH,bG]
  intro S4 H4 s4;refine SW.ret ⟨(eA.plain rfl).mark hD,rfl,_,?_,rfl⟩;show cL prog 13 [.tmp 4] S4 H4=_;simp[cL,dc,db,s4,ox,AV.bW,AV.out]
 .exact λ_ _ _ _ _ h=>h.elim
def Vp(hG:aw GI)(s:az){ps:List End}(hlen:ps.length<=1000000)(hit:vv prog GI 151 [.ref (ar s)] (ps.map a_)):AC prog GI 89 [E2 s] (.ret (ox ps)):=by
 refine AC.jw func89 rfl ntmps89 (by simp) λcc w=>?_
 refine eV hG c89.qa (λS' H'=>S' 0=E2 s) ?_ ?_
 .simp[c89,E2,af.qa,bL,bw,aG,bh,aD,ev,aQ.S,aQ.H,au,aY,AL.start,AV.aH,aO,bG]
 intro S1 H1 s0
 refine SW.seq (SW.hand hG (p:=1) (lm:=[1]) (l2:=[2]) (js:=[_]) (oh:=[_]) (lv:=[_]) rfl rfl rfl rfl (by kernel_rfl) (λ_ h=>h)
  (lO:=(c89.qb.qa.dl).take 1) (lu:=(c89.qb.qa.dl).drop 2) (by kernel_rfl) (by kernel_rfl) (by kernel_rfl) (by kernel_rfl)
  (K1:=λS _=>S 3=E2 s) (K2:=λo S _=>o=Old.plain cc w/\S 4=ox ps) (K3:=λo S _=>o=Old.plain cc w/\S 2=ox ps) ?_ ?_ ?_ ?_)
 .simp[c89,af.qa,af.qb,af.dl,bw,aG,bh,aD,aQ.S,aQ.H,ev,au,aY]
  rw[s0]<;>rfl
 .rintro w0 g S2 H2 a w' m cj ho R s3;have r3:=R.slot 3 (by decide) id;rw[s3]at r3
  refine gE rfl rfl (by rfl) (jr (k:=150) (args:=#[.slice none 0 0,a.tmps.getD 3 undef]) w' rfl rfl ?_ (by kernel_rfl)) (Ze hG s hlen hit w' (fB g false) #[.slice none 0 0,a.tmps.getD 3 undef] (hG w0 w' cj (by have:=R.below;rwa [R.base]at this)) rfl (λi h h'=>by
   match i,h with
   |0,_=>exact .data _ _ (.gx _)
   |1,_=>exact(r3.cD rfl).mono (bc.same λb k _ hp=>.inl hp) λ_ _ h=>h)) ?_
  .simp only[ado,ac5,adp,Act.eval]
  rintro e w2 ⟨jK,hi,si,c,rfl,Mw,cI⟩;refine⟨_,rfl,?_⟩;obtain⟨g',q1,q2,R'⟩:=R.call (some 4) (λt ht=>by cases ht;exact⟨by decide,id⟩) false jK si Mw cI (λh=>by cases h);exact⟨g',_,_,R',q2.trans ho,aK _ _ _⟩
 .rintro o S2 H2 ⟨rfl,s4⟩;refine⟨λ_ h=>h,?_⟩
  cases ps<;>simp[c89,af.qa,af.qb,af.dl,bw,aG,bh,aD,aQ.S,aQ.H,ev,au,aY,s4,ox,bG]
 .rintro o S2 H2 ⟨rfl,s2⟩;refine SW.ret ⟨eA.plain rfl,rfl,_,?_,rfl⟩;show cL prog 5 [.tmp 2] S2 H2=_;simp[cL,dc,db,s2,ox,AV.bW,AV.out]
def Cb(s:az):∀i,(df s i).2.length<=i
 |0=>acD _
 |i+1=>by
  have ih:=Cb s i;rw[nt];unfold eg;split
  .omega
  .simp only;split
   .simp;omega
   .omega
def zE(s:az):(dz s).length<=s.cells.length+1:=by
 have:=Cb s (s.cells.length+1);simpa[dz,ez,df]using this
def EU(s:az):List AV:=if dQ s then[.slice .view (aS (dz s)),.int .i64 0]else[.slice .view [],.int .i64 2]
def abx(hG:aw GI)(s:az)(hs:gh s):AC prog GI 27 [bn s] (.ret (.dR (EU s))):=by
 have nP:=rZ hG s hs;unfold EU
 cases hI:dQ s with
 |false=>
  rw[hI]at nP;refine cE hG func27 ntmps27 c27 ?_;simp[c27,bn,ar,ae];refine oc nP ?_;simp
 |true=>
  rw[hI]at nP;have hg:=fl hI;have HC:=Tf hG s;have qU:=Vp hG s (ps:=dz s) (by have:=zE s;have:=hg.cells;omega) (LG hG s hg);have qU:=AC.gW (o:=if(dz s).isEmpty then .nil else .view) qU;refine cE hG func27 ntmps27 c27 ?_;simp[c27,bn,ar,ae];refine oc nP ?_;simp;refine oc HC ?_;simp;refine⟨_,by kernel_rfl,qU,by simp[da,p9],?_⟩;simp[aS]
def YB(hG:aw GI)(a b:End):AC prog GI 106 [a_ a,a_ b] (.ret (.bool (decide (a.2<b.2)))):=by
 refine cE hG func106 ntmps106 c106 ?_;simp[c106,a_]
def kY(x:End)(l:List End):End:=l.foldl (λo y=>if y.2<o.2 then y else o) x
def F5(x:End)(l:List End){i:Nat}(h:i<l.length):kY x (l.take (i+1))=if l[i].2<(kY x (l.take i)).2 then l[i]else kY x (l.take i):=by
 unfold kY;rw[afq,acx h,adk]
 rfl
def Y7(hG:aw GI)(x:End)(l:List End)(hl:l.length<1000000):AC prog GI 105 [.slice .view (aS (x::l)),.func (.func 106) [] []] (.ret (a_ (kY x l))):=by
 obtain⟨iT,QM,Qo⟩:=iZ 132 2;obtain⟨fs,gv⟩:=uZ 132;have b_:aJ 2 (aS (x::l))=true:=sB (x::l);refine cE hG func105 ntmps105 c105 ?_;refine aI (λS H=>S 0=.slice .view (aS (x::l))/\S 1=.func (.func 106) [] []/\S 4=.box 4 0/\H 4=some [.int .i64 0,.int .i64 0]) (by simp) ?_;rintro S H ⟨s0,s1,s4,h4⟩;refine aI (λS H=>S 0=.slice .view (aS (x::l))/\S 1=.func (.func 106) [] []/\S 4=.box 4 0/\H 4=some [.int .i64 0,.int .i64 0]/\S 5=.box 5 0/\H 5=some [.int .i64 x.1,.int .i64 x.2]) (by simp[s0,s1,s4,h4,aS,a_,bV]) ?_;clear s0 s1 s4 h4 S H;rintro S H ⟨s0,s1,s4,h4,s5,h5⟩
 have hd:(aS (x::l)).drop 1=aS l:=by simp[aS]
 have hlen:(aS (x::l)).length=l.length+1:=by simp[aS]
 have AY:(1:Int)<=(l.length:Int)+1:=by omega
 have oy:List.take (l.length+1) (aS (x::l))=aS (x::l):=acQ (by omega);generalize aS (x::l)=L at s0 hd hlen oy b_
 have Wz:((l.length:Int)+1).toNat=l.length+1:=by omega
 simp[bound,s0,s1,s4,h4,s5,h5,hd,hlen,AY,oy,b_,Wz];refine bC 14 l.length (λi S H=>S 1=.func (.func 106) [] []/\S 4=.box 4 0/\H 4=some [.int .i64 0,.int .i64 0]/\S 5=.box 5 0/\H 5=some [.int .i64 (kY x (l.take i)).1,.int .i64 (kY x (l.take i)).2]/\S 12=.slice .view (aS l)/\S 13=.int .i64 l.length/\S 14=.int .i64 (i:Nat)) (λi S H h=>h.2.2.2.2.2.2.2) ⟨by simp[s1],by simp[s4],by simp[h4],by simp[s5],by simp[h5,kY],by simp,by simp[aS],by simp⟩ ?_;clear s0 s1 s4 h4 s5 h5 S H;rintro i hi S H ⟨s1,s4,h4,s5,h5,cJ,dw,er⟩
 by_cases av:i<l.length
 .have hw:IntKind.i64.wrap ((i:Int)+1)=i+1:=aP (by omega)
  have hn:¬(i:Int)<0:=by omega
  have hs:=F5 x l av;have Vm:=YB hG l[i] (kY x (l.take i))
  generalize kY x (l.take i)=o at*
  by_cases hc:l[i].2<o.2
  .rw[if_pos hc]at hs;rw[hs];simp[s1,s4,h4,s5,h5,cJ,dw,er,av,hn,aS,a_,bV];refine oc Vm ?_;simp[s1,s4,h4,s5,h5,cJ,dw,er,hc,hw,aS,a_]
  .rw[if_neg hc]at hs;rw[hs]
   have mU:o.2<=l[i].2:=by omega
   simp[s1,s4,h4,s5,h5,cJ,dw,er,av,hn,aS,a_,bV];refine oc Vm ?_;simp[s1,s4,h4,s5,h5,cJ,dw,er,hc,mU,hw,aS,a_]
 .have cN:i=l.length:=by omega
  subst cN;rw[adG]at h5;simp[s1,s4,h4,s5,h5,cJ,dw,er,QM,Qo,gv,eh,a_]
def Oy{a:Act}{w:World}{o:Oper}{x:Operand}{t ty:TypeId}{n:Nat}(ho:o.op=.binOp .shr t x (.const (.int .u64 1)) ty)(hx:a.eval x=.int .u64 (n:Nat)):(execOp a.eval o).run prog w=.ok (.value (.int .u64 ((n/2:Nat):Int))) w:=by
 unfold execOp;have hc:a.eval (.const (.int .u64 1))=.int .u64 1:=rfl
 have hf:((n:Int)).fdiv 2=((n/2:Nat):Int):=by
  rw[Int.fdiv_eq_ediv_of_nonneg _ (by decide)];omega
 simp[ho,hx,hc,Go.binOp,Op.shift,eqGuard,IntKind.bits,hf]
def Pw{x:Int}(h:0<=x/\x<1000000000):IntKind.u64.wrap x=x:=by
 unfold IntKind.wrap;simp[IntKind.bits,IntKind.signed];omega
noncomputable def nH:af:=af.qb c103.qb.qb.qa.qb
def Yn (hG:aw GI) {n:Nat} (hn:n < 100000) (k:Nat) (u v x:List AV) (hk:ef prog k=true) {p:Nat→Bool} (hm:∀ x y,x≤y→p x=true→p y=true) (h:∀ y:Nat,y < n→AC prog GI k [.int .i64 (y:Nat),.ref u,.ref v,.ref x] (.ret (.bool (p y)))) {m:Nat} (hl:mg p n m) :
  AC prog GI 103 [.int .i64 (n:Nat),.func (.func k) [] [.ref u,.ref v,.ref x]] (.ret (.int .i64 (m:Nat))):=by
 refine AC.jw func103 rfl ntmps103 (by simp) λcc w=>?_
 refine eV hG c103.qa (λS H=>S 0=.int .i64 (n:Nat)/\S 1=.func (.func k) [] [.ref u,.ref v,.ref x]) ?_ ?_
 .simp[c103,af.qa]
 rintro S1 H1 ⟨s0,s1⟩;refine eV hG c103.qb.qa (λS H=>S 1=.func (.func k) [] [.ref u,.ref v,.ref x]/\S 5=.int .i64 ((0:Nat):Int)/\S 6=.int .i64 (n:Nat)) ?_ ?_
 .simp[c103,af.qa,af.qb,s0,s1]
 clear s0 s1;rintro S2 H2 ⟨s1,s5,s6⟩;show SW prog GI 26 none (.seq (.block 0 (.loop _)) (.seq _ .ret)) _ _ _ _;refine SW.seq (SW.block (SW.loop (λo S H=>∃i j:Nat,o=Old.plain cc w/\i<=j/\j<=n/\(∀y,y<i->p y=false)/\(∀y,j<=y->y<n->p y=true)/\S 1=.func (.func k) [] [.ref u,.ref v,.ref x]/\S 5=.int .i64 (i:Nat)/\S 6=.int .i64 (j:Nat)) (λS _=>match S 5,S 6 with|.int _ i,.int _ j=>(j-i).toNat|_,_=>0) ⟨0,n,rfl,adr _,acD _,λy hy=>absurd hy (by omega),λy h1 h2=>absurd h1 (by omega),s1,s5,s6⟩ ?_));clear s1 s5 s6;rintro o S3 H3 ⟨i,j,rfl,py,sO,so,yh,s1,s5,s6⟩;have m5:=s5;have m6:=s6;show SW prog GI 26 none (.seq (.seq _ (.cond _ _ _)) (.block 1 (.seq _ (.seq _ (.cond _ _ _))))) _ _ _ _;refine SW.seq (eV hG nH.qa.qa (λS H=>S 1=.func (.func k) [] [.ref u,.ref v,.ref x]/\S 5=.int .i64 (i:Nat)/\S 6=.int .i64 (j:Nat)/\S 11=.bool (decide (i<j))) ?_ ?_)
 .simp[c103,nH,af.qa,af.qb,s1,s5,s6]
 clear s1 s5 s6;rintro S4 H4 ⟨s1,s5,s6,ck⟩
 by_cases av:i<j
 case neg=>
  refine SW.cond rfl false (by show S4 11=_;rw[ck];simp[av]) (SW.exit ?_)
  have fh:i=j:=by omega
  subst fh;have him:i=m:=mg.unique (k:=n) (p:=p) ⟨sO,so,λh=>yh i (acD _) h⟩ hl;subst him;show SW prog GI 26 none (.seq _ .ret) _ _ _ _;refine eV hG c103.qb.qb.qb.qa (λS H=>S 4=.int .i64 (i:Nat)) ?_ ?_
  .simp[c103,af.qa,af.qb,s5]
  intro S5 H5 s4;refine SW.ret ⟨eA.plain rfl,rfl,_,?_,rfl⟩;show cL prog 26 [.tmp 4] S5 H5=_;simp[cL,dc,db,s4,AV.bW,AV.out]
 refine SW.cond rfl true (by show S4 11=_;rw[ck];simp[av]) (SW.skip ?_);show SW prog GI 26 none (.block 1 (.seq _ (.seq _ (.cond _ _ _)))) _ _ _ _;obtain⟨g1,g2,g3⟩:=Tu hm av so
 obtain⟨q,hq⟩:∃q,(i+j)/2=q:=⟨_,rfl⟩
 rw[hq]at g1 g2 g3
 have kv:IntKind.i64.wrap ((i:Int)+j)=((i+j:Nat):Int):=by rw[aP (by omega)];omega
 have iy:IntKind.u64.wrap ((i+j:Nat):Int)=((i+j:Nat):Int):=Pw (by omega)
 have Z8:IntKind.u64.wrap ((i:Int)+j)=((i+j:Nat):Int):=by rw[Pw (by omega)];omega
 have qv:IntKind.i64.wrap (q:Nat)=(q:Nat):=aP (by omega)
 refine SW.block (SW.seq (SW.hand hG (p:=4) (lm:=[4]) (l2:=[5,6]) (js:=[_,_,_,_]) (oh:=[_]) (lv:=[_,_]) rfl rfl rfl rfl (by kernel_rfl) (λ_ h=>h)
  (lO:=(nH.qb.qb.qa.dl).take 4) (lu:=(nH.qb.qb.qa.dl).drop 5) (by kernel_rfl) (by kernel_rfl) (by kernel_rfl) (by kernel_rfl)
  (K1:=λS H=>S 1=.func (.func k) [] [.ref u,.ref v,.ref x]/\S 5=.int .i64 (i:Nat)/\S 6=.int .i64 (j:Nat)/\S 15=.int .u64 ((i+j:Nat):Int))
  (K2:=λo S H=>o=Old.plain cc w/\S 1=.func (.func k) [] [.ref u,.ref v,.ref x]/\S 5=.int .i64 (i:Nat)/\S 6=.int .i64 (j:Nat)/\S 16=.int .u64 (q:Nat))
  (K3:=λo S H=>o=Old.plain cc w/\S 1=.func (.func k) [] [.ref u,.ref v,.ref x]/\S 5=.int .i64 (i:Nat)/\S 6=.int .i64 (j:Nat)/\S 7=.int .i64 (q:Nat)) ?_ ?_ ?_ ?_))
 .simp[c103,nH,af.qa,af.qb,af.dl,s1,s5,s6,kv,iy,Z8]
 .rintro w0 g S5 H5 a w' m cj ho R ⟨s1,s5,s6,jA⟩
  have EW:a.eval (.tmp 15)=.int .u64 ((i+j:Nat):Int):=by
   have t15:=R.slot 15 (by decide) (λh=>h);rw[jA]at t15;exact t15.int_eq
  refine aV rfl rfl (by rfl) (Oy rfl EW) ?_;rw[hq];exact⟨_,_,_,R.put 16 (.int .u64 (q:Nat)) _ (by decide) (.data _ _ (.int _ _)) trivial,ho,by simp[au,s1],by simp[au,s5],by simp[au,s6],by simp[au]⟩
 .rintro o S5 H5 ⟨rfl,s1,s5,s6,fL⟩;refine⟨λ_ h=>h,?_⟩;simp[c103,nH,af.qa,af.qb,af.dl,s1,s5,s6,fL,qv]
 clear s1 s5 s6 ck;rintro o S5 H5 ⟨rfl,s1,s5,s6,s7⟩;show SW prog GI 26 none (.seq _ (.cond _ _ _)) _ _ _ _;have hc:=h q (by omega);refine eV hG nH.qb.qb.qb.qa (λS H=>S 1=.func (.func k) [] [.ref u,.ref v,.ref x]/\S 5=.int .i64 (i:Nat)/\S 6=.int .i64 (j:Nat)/\S 7=.int .i64 (q:Nat)/\S 21=.bool (!p q)) ?_ ?_
 .simp[c103,nH,af.qa,af.qb,s1,s5,s6,s7];refine⟨_,hk,hc,by simp[da,p9],?_⟩;simp[s1,s5,s6,s7]
 clear s1 s5 s6 s7;rintro S6 H6 ⟨s1,s5,s6,s7,np⟩
 cases hp:p q with
 |true=>
  refine SW.cond rfl false (by show S6 21=_;rw[np,hp]<;>rfl) ?_;refine SW.last hG dO (by kernel_rfl) (ac:=af.qb nH.qb.qb.qb.qb) (by kernel_rfl) (λ_ _ h=>h) (λS H=>S 1=.func (.func k) [] [.ref u,.ref v,.ref x]/\S 5=.int .i64 (i:Nat)/\S 6=.int .i64 (q:Nat)) ?_ ?_
  .simp[c103,nH,af.qa,af.qb,s1,s5,s6,s7]
  rintro S7 H7 ⟨s1,s5,s6⟩;refine⟨⟨i,q,rfl,g1,by omega,so,λy F3 hy2=>hm q y F3 hp,s1,s5,s6⟩,?_⟩;show(match S7 5,S7 6 with|.int _ i,.int _ j=>(j-i).toNat|_,_=>0)<(match S3 5,S3 6 with|.int _ i,.int _ j=>(j-i).toNat|_,_=>0);rw[s5,s6,m5,m6];simp only;omega
 |false=>
  refine SW.cond rfl true (by show S6 21=_;rw[np,hp]<;>rfl) ?_
  have lS:IntKind.i64.wrap ((q:Int)+1)=((q+1:Nat):Int):=by rw[aP (by omega)];omega
  refine SW.last hG dO (by kernel_rfl) (ac:=af.qa nH.qb.qb.qb.qb) (by kernel_rfl) (λ_ _ h=>h) (λS H=>S 1=.func (.func k) [] [.ref u,.ref v,.ref x]/\S 5=.int .i64 ((q+1:Nat):Int)/\S 6=.int .i64 (j:Nat)) ?_ ?_
  .simp[c103,nH,af.qa,af.qb,s1,s5,s6,s7,lS]
  rintro S7 H7 ⟨s1,s5,s6⟩;refine⟨⟨q+1,j,rfl,by omega,sO,g3 hp,yh,s1,s5,s6⟩,?_⟩;show(match S7 5,S7 6 with|.int _ i,.int _ j=>(j-i).toNat|_,_=>0)<(match S3 5,S3 6 with|.int _ i,.int _ j=>(j-i).toNat|_,_=>0);rw[s5,s6,m5,m6];simp only;omega
def yI{P:Program}{x y:af}{Q:cw->an->aq->Prop}{S:an}{H:aq}(K:an->aq->Prop)(hx:bL P GI x (dE K Q) S H)(hy:∀S' H',K S' H'->bL P GI y Q S' H'):bL P GI (.seq x y) Q S H:=
 fC x (lZ (λS H h=>hy S H h) (λ_ _ _ h=>h)) hx
def yE{P:Program}{K:an->aq->Prop}{Qp:AV->Prop}{l2:List bB}:∀(l1:List bB)(S:an)(H:aq),bw P GI l1 (bw P GI l2 K Qp) Qp S H->bw P GI (l1++l2) K Qp S H
 |[],S,H,h=>h
 |o::rest,S,H,h=>by
  simp only[List.cons_append,bw]at h⊢;split at h
  .exact nq (λS H=>yE rest S H) (λ_ h=>h) h
  .exact yE rest _ _ h
  .exact h
def oO{P:Program}{l:List bB}{K:an->aq->Prop}{Qp:AV->Prop}{S:an}{H:aq}(n:Nat)(I:an->aq->Prop)(h1:bw P GI (l.take n) I Qp S H)(h2:∀S H,I S H->bw P GI (l.drop n) K Qp S H):bw P GI l K Qp S H:=by
 rw[<-aem n l];exact yE _ _ _ (rE h2 (λ_ h=>h) _ _ _ h1)
def wN(hG:aw GI)(n lo hi:Int):AC prog GI 88 [.int .i64 n,.int .i64 lo,.int .i64 hi] (.ret (.bool (cG n lo hi))):=by
 refine cE hG func88 ntmps88 c88 ?_
 by_cases h1:lo<=n<;>by_cases h2:n<=hi<;>simp[c88,cG,h1,h2]
def aaf(hG:aw GI)(n:Int):AC prog GI 48 [.int .i64 n] (.ret (.bool (cG n 1 12))):=by
 refine cE hG func48 ntmps48 c48 ?_;simp[c48];refine oc (wN hG n 1 12) ?_;simp
def abP(hG:aw GI)(n:Int):AC prog GI 49 [.int .i64 n] (.ret (.bool (cG n 1 9))):=by
 refine cE hG func49 ntmps49 c49 ?_;simp[c49];refine oc (wN hG n 1 9) ?_;simp
def abK(hG:aw GI)(n:Int):AC prog GI 93 [.int .i64 n] (.ret (.bool (cG n 0 9))):=by
 refine cE hG func93 ntmps93 c93 ?_;simp[c93];refine oc (wN hG n 0 9) ?_;simp
def ab6(hG:aw GI)(s:az)(n:Int):AC prog GI 54 [bn s,.int .i64 n] (.ret (.bool (cG n 1 s.cells.length))):=by
 refine cE hG func54 ntmps54 c54 ?_;simp[c54,bn,ar,ae];refine oc (wN hG n 1 s.cells.length) ?_;simp
def VI(hG:aw GI)(s:az)(hs:s.cells.length<1000000)(n:Int):AC prog GI 26 [bn s,.int .i64 n] (.ret (.bool (cG n 0 ((s.cells.length:Int)-1)))):=by
 have hw:IntKind.i64.wrap ((s.cells.length:Int)-1)=s.cells.length-1:=aP (by omega);refine cE hG func26 ntmps26 c26 ?_;simp[c26,bn,ar,ae,hw];refine oc (wN hG n 0 ((s.cells.length:Int)-1)) ?_;simp
def aa6(hG:aw GI)(s:az)(hs:gh s):AC prog GI 30 [bn s] (.ret (.bool (dQ s))):=by
 refine cE hG func30 ntmps30 c30 ?_;refine aI (λS H=>S 1=.box 1 0/\H 1=some (ar s)) (by simp[bn,ar,ae]) ?_;rintro S H ⟨s1,h1⟩;refine yI (λS H=>S 1=.box 1 0/\H 1=some (ar s)/\s.cells.any jT=false) ?_ ?_
 .simp[s1,h1,ar,ae];refine bC 3 s.cells.length (λi S H=>S 1=.box 1 0/\H 1=some (ar s)/\S 3=.int .i64 (i:Nat)/\∀j (h:j<s.cells.length),j<i->jT s.cells[j]=false) (λi S H h=>h.2.2.1) ⟨by simp[s1],by simp[h1,ar,ae],by simp,by simp⟩ ?_;clear s1 h1 S H;rintro i hi S H ⟨s1,h1,s3,hb⟩
  by_cases av:i<s.cells.length
  .have hw:IntKind.i64.wrap ((i:Int)+1)=i+1:=aP (by have:=hs.cells;omega)
   have hn:¬(i:Int)<0:=by omega
   have mU:¬(s.cells.length:Int)<=i:=by omega
   have Vr:jT s.cells[i]=true->dQ s=false:=λh=>by
    have:s.cells.any jT=true:=ad9.2 ⟨_,acy av,h⟩;simp[dQ,this]
   simp[s1,h1,s3,av,hn,mU,fo,ar,ae];refine oc (wN hG _ _ _) ?_;cases e1:cG s.cells[i].lo 1 20
   .have hr:=Vr (by simp[jT,e1]);simp[s1,h1,s3,hr]
   simp[s1,h1,s3,av,hn,mU,fo,ar,ae];refine oc (wN hG _ _ _) ?_;cases e2:cG s.cells[i].hi s.cells[i].lo 20
   .have hr:=Vr (by simp[jT,e2]);simp[s1,h1,s3,hr]
   simp[s1,h1,s3,hw,av,ar,ae];intro j hj fh
   by_cases e:j=i
   .subst e;simp[jT,e1,e2]
   .exact hb j hj (by omega)
  .have cN:i=s.cells.length:=by omega
   subst cN
   have ha:s.cells.any jT=false:=by
    rw[<-l3,kZ λj hj=>hb j hj hj];simp
   simp[s1,h1,s3,ha,ar,ae]
   all_goals (intro x hx;obtain⟨j,hj,rfl⟩:=adm hx;exact hb j hj hj)
 clear s1 h1 S H;rintro S H ⟨s1,h1,ha⟩;simp only[dP];refine oO 4 (λS H=>S 1=.box 1 0/\H 1=some (ar s)/\S 41=.bool (cG s.cells.length 1 12)) ?_ ?_
 .simp[s1,h1,ar,ae];refine oc (wN hG s.cells.length 1 12) ?_;simp[s1,h1,ar,ae]
 have hT:dQ s=(((((cG s.cells.length 1 12&&cG s.pos 1 s.cells.length)&&cG s.reach 1 12)&&cG s.eW 1 9)&&cG s.dS 0 9)&&bf s.name):=by
  simp[dQ,ha]
 rw[hT];clear hT;generalize cG s.cells.length 1 12=b1;rintro S1 H1 ⟨s1,h1,UR⟩;refine oO 6 (λS H=>S 1=.box 1 0/\H 1=some (ar s)/\S 47=.bool (b1&&cG s.pos 1 s.cells.length)) ?_ ?_
 .cases b1
  .simp[s1,h1,UR]
  .simp[s1,h1,UR,ar,ae];refine oc (ab6 hG s s.pos) ?_;simp[s1,h1,UR,ar,ae]
 generalize(b1&&cG s.pos 1 s.cells.length)=b2;clear s1 h1 UR;rintro S2 H2 ⟨s1,h1,Dl⟩;refine oO 5 (λS H=>S 1=.box 1 0/\H 1=some (ar s)/\S 52=.bool (b2&&cG s.reach 1 12)) ?_ ?_
 .cases b2
  .simp[s1,h1,Dl]
  .simp[s1,h1,Dl,ar,ae];refine oc (aaf hG s.reach) ?_;simp[s1,h1,Dl,ar,ae]
 generalize(b2&&cG s.reach 1 12)=b3;clear s1 h1 Dl;rintro S3 H3 ⟨s1,h1,Tt⟩;refine oO 5 (λS H=>S 1=.box 1 0/\H 1=some (ar s)/\S 57=.bool (b3&&cG s.eW 1 9)) ?_ ?_
 .cases b3
  .simp[s1,h1,Tt]
  .simp[s1,h1,Tt,ar,ae];refine oc (abP hG s.eW) ?_;simp[s1,h1,Tt,ar,ae]
 generalize(b3&&cG s.eW 1 9)=b4;clear s1 h1 Tt;rintro S4 H4 ⟨s1,h1,T9⟩;refine oO 5 (λS H=>S 1=.box 1 0/\H 1=some (ar s)/\S 62=.bool (b4&&cG s.dS 0 9)) ?_ ?_
 .cases b4
  .simp[s1,h1,T9]
  .simp[s1,h1,T9,ar,ae];refine oc (abK hG s.dS) ?_;simp[s1,h1,T9,ar,ae]
 generalize(b4&&cG s.dS 0 9)=b5;clear s1 h1 T9;rintro S5 H5 ⟨s1,h1,WG⟩;cases b5
 .simp[s1,h1,WG]
 .simp[s1,h1,WG,ar,ae];refine oc (aaE hG s.name hs.name) ?_;simp[s1,h1,WG]
end Go.Proofs.Tryz
namespace Go.Proofs.Tryz
open Go Go.AL Go.RowKit Go.Proofs Go.Proofs.Tram
attribute [local simp] dP fu qw pn eL dV dW du dp eJ dq cU gG gD aG aD ev aQ.S aQ.H bG au aY AL.start AV.cells AV.storable AV.bZ bu bQ eF b0 HR.okB post cL dc db AV.out AV.bW cy dK fz gM AV.vw da vI int bO aO dE dj iJ jF eo dG bt AV.aH AV.cT
variable{GI:World->Prop}
def Hb{s:aF}(cV:bf s=true){out:List Int}{w:Nat}(hw:w<s.words.length)(hc:out.contains (w:Int)=false):(nh s.words[w] s.words[w].aM.length).map (λk=>((w:Int),k))=gq s out w:=by
 have f:=lV cV (acy hw);rw[El hw hc,L3 f.Ea f.cd,ada];rfl
def pV(s:aF)(out:List Int)(w n:Nat)(x:Word):List End:=jJ s out w++(nh x n).map λk=>((w:Int),k)
def J4(s:aF)(out:List Int)(w n:Nat)(x:Word):pV s out w (n+1) x=pV s out w n x++if pt x (n+1)then[((w:Int),((n+1:Nat):Int))]else[]:=by
 unfold pV;rw[F8,ada,adI]
 congr 2
 split<;>rfl
def Wv(hG:aw GI)(s:aF)(cV:bf s=true)(out:List Int)(ho:out.length<1000000):AC prog GI 229 [bU s,vI out] (.ret (.slice .view ((g_ s out).map a_))):=by
 have hF:=eM cV;have lS:=hF.words;have uJ:=qX cV out;refine AC.gW (o:=if g_ s out=[]then .nil else .view) ?_;refine cE hG func229 ntmps229 c229 ?_;refine aI (λS H=>S 1=vI out/\S 2=.box 2 0/\H 2=some (ae s)) (by simp[ai,ah,bU,ae]) ?_;rintro S H ⟨s1,s2,e2⟩;simp[ai,ah,s1,s2,e2];refine bC 6 s.words.length (λi S H=>S 1=vI out/\S 2=.box 2 0/\H 2=some (ae s)/\S 6=.int .i64 (i:Nat)/\S 5=grow 46 ((jJ s out i).map a_)) (λi S H h=>h.2.2.2.1) ⟨by simp[ai,ah,s1],by simp[ai,ah,s2],by simp[ai,ah,e2],by simp[ai,ah],by simp[ai,ah,grow,jJ]⟩ ?_;clear s1 s2 e2 S H;rintro i hi S H ⟨s1,s2,e2,s6,s5⟩
 by_cases av:i<s.words.length
 case neg=>
  have cN:i=s.words.length:=by omega
  subst cN;have hEL:jJ s out s.words.length=g_ s out:=rfl;rw[hEL]at s5
  by_cases h0:g_ s out=[]
  .rw[h0]at s5⊢;simp[ai,ah,s1,s2,e2,s6,s5,ae,grow]
  .have lE:S 5=.slice (.own 46) ((g_ s out).map a_):=by rw[s5];simp[grow,h0]
   simp[ai,ah,s1,s2,e2,s6,lE,ae,h0]
 have hw:IntKind.i64.wrap ((i:Int)+1)=i+1:=aP (by omega);have f:=lV cV (acy av);have EN:=f.uy
 have gr:s.words[i].cd.length<1000000:=by
  have:=(ny cV).cd _ (acy av);omega
 have UA:=sR s out i;cases pw:out.contains (i:Int)
 case true=>
  rw[AZ pw,adn]at UA;have a91:=NJ hG out i (by omega);rw[pw]at a91
  have h1l:(1:Int)<=s.words[i].aM.length:=by have:=f.Ea;omega
  simp[ai,ah,s1,s2,e2,s6,s5,ae,av];refine qR 7 1 1 (λk S H=>S 1=vI out/\S 2=.box 2 0/\H 2=some (ae s)/\S 6=.int .i64 (i:Nat)/\S 5=grow 46 ((jJ s out i).map a_)/\S 7=.int .i64 (k:Nat)) (by omega) (λk S H h=>h.2.2.2.2.2) ⟨by simp[ai,ah,s1],by simp[ai,ah,s2],by simp[ai,ah,e2,ae],by simp[ai,ah,s6],by simp[ai,ah,s5,grow],by simp[ai,ah]⟩ ?_;clear s1 s2 e2 s6 s5 S H;rintro k KD hk S H ⟨s1,s2,e2,s6,s5,s7⟩
  have dN:k=1:=by omega
  subst dN;simp[ai,ah,s1,s2,e2,s6,s5,s7,ae,av,cZ,h1l];refine⟨_,by kernel_rfl,a91,λ_=>rfl,?_⟩;simp[ai,ah,s1,s2,e2,s6,s5,s7,ae,av,hw,UA,grow]
 rw[<-Hb cV av pw]at UA
 have N':jJ s out i=pV s out i 0 s.words[i]:=by unfold pV nh;simp
 have hqn:jJ s out (i+1)=pV s out i s.words[i].aM.length s.words[i]:=UA
 have hql:∀n,n<=s.words[i].aM.length->(pV s out i n s.words[i]).length<=1000:=by
  intro n hn;unfold pV nh;have h1:=B0 (ny cV) out i;have h2:=aeo (pt s.words[i]) (List.range' 1 n);simp at h2⊢
  have h3:(jJ s out i).length<=24:=by
   have h4:g_ s out=jJ s out i++(List.range' i (s.words.length-i)).flatMap (gq s out):=by
    show(List.range s.words.length).flatMap (gq s out)=(List.range i).flatMap (gq s out)++_;rw[<-aeB]
    congr 1
    have h5:=ae7 (s:=0) (m:=i) (n:=s.words.length-i);rw[ad0,ad0];rw[show i+(s.words.length-i)=s.words.length by omega,ac_]at h5;exact h5.symm
   have:=congrArg List.length h4;rw[acV]at this;omega
  omega
 rw[N']at s5;rw[hqn]
 generalize hx:s.words[i]=x at*
 simp[ai,ah,s1,s2,e2,s6,s5,ae,av];refine qR 7 1 (x.aM.length+1) (λk S H=>S 1=vI out/\S 2=.box 2 0/\H 2=some (ae s)/\S 6=.int .i64 (i:Nat)/\S 7=.int .i64 (k:Nat)/\S 5=grow 46 ((pV s out i (k-1) x).map a_)) (by omega) (λk S H h=>h.2.2.2.2.1) ⟨by simp[ai,ah,s1],by simp[ai,ah,s2],by simp[ai,ah,e2,ae],by simp[ai,ah,s6],by simp[ai,ah],by simp[ai,ah,s5,grow]⟩ ?_;clear s1 s2 e2 s6 s5 S H;rintro k KD hk S H ⟨s1,s2,e2,s6,s7,s5⟩
 obtain⟨m,rfl⟩:∃m,k=m+1:=⟨k-1,by omega⟩
 rw[aeb]at s5
 have N0:cZ s.words[i]=.agg [vI x.aM,vI x.cd,.bool x.free]:=by rw[hx];rfl
 by_cases jB:m<x.aM.length
 case neg=>
  have aaI:m=x.aM.length:=by omega
  subst aaI
  have hn:¬((x.aM.length:Int)+1<=x.aM.length):=by omega
  simp[ai,ah,s1,s2,e2,s6,s7,s5,ae,av,N0,hn,hw,grow]
 have VT:(m:Int)+1<=x.aM.length:=by omega
 have WI:IntKind.i64.wrap ((m:Int)+1+1)=m+1+1:=aP (by omega);have a91:=NJ hG out i (by omega);rw[pw]at a91;have abR:=NJ hG x.cd ((m+1:Nat):Int) (by omega);have Dg:=J4 s out i m x;have hqm:=hql m (by omega);generalize pV s out i m x=Q at s5 Dg hqm;simp[s1,s2,e2,s6,s7,s5,ae,av,N0,VT];refine⟨_,by kernel_rfl,a91,λ_=>rfl,?_⟩
 cases he:((m:Int)+1==(x.aM.length:Int))
 .have xq:(m+1==x.aM.length)=false:=by simp at he⊢;omega
  simp[s1,s2,e2,s6,s7,s5,ae,av,N0,VT,he];refine⟨_,by kernel_rfl,abR,λ_=>rfl,?_⟩;cases jz:x.cd.contains ((m+1:Nat):Int)
  .have fx:pt x (m+1)=false:=by unfold pt;rw[xq,jz];rfl
   rw[fx]at Dg;simp at Dg;simp[s1,s2,e2,s6,s7,s5,ae,av,N0,jB,WI,Dg,grow]
  .have fx:pt x (m+1)=true:=by unfold pt;rw[xq,jz];rfl
   rw[fx]at Dg;simp at Dg;have dI:aJ 2 [a_ ((i:Int),(m:Int)+1)]=true:=rfl;simp[s1,s2,e2,s6,s7,s5,ae,av,N0,jB,bV,a_];refine fk (Q.map a_) (a_ ((i:Int),(m:Int)+1)) (.own 46) (by simp[s5,grow]) (by simp[a_]) dI (oH _) (by rw[acC];omega) ?_;intro S' sd dN;simp[sd,dN,s1,s2,e2,s6,s7,ae,av,jB,WI,Dg,grow]
 .have xq:(m+1==x.aM.length)=true:=by simp at he⊢;omega
  have fx:pt x (m+1)=true:=by unfold pt;rw[xq];rfl
  rw[fx]at Dg;simp at Dg;have dI:aJ 2 [a_ ((i:Int),(m:Int)+1)]=true:=rfl;simp[s1,s2,e2,s6,s7,s5,ae,av,N0,jB,he,bV,a_];refine fk (Q.map a_) (a_ ((i:Int),(m:Int)+1)) (.own 46) (by simp[s5,grow]) (by simp[a_]) dI (oH _) (by rw[acC];omega) ?_;intro S' sd dN;simp[sd,dN,s1,s2,e2,s6,s7,ae,av,jB,WI,Dg,grow]
def EJ(out:List Int)(l:List (List End)):aJ 2 (l.map (aL out))=true:=iK λa=>⟨rfl,rfl⟩
def eN(out:List Int)(es:List End):aL out es=.agg [vI out,.slice .view (es.map a_)]:=rfl
def Yo(hG:aw GI)(s:aF)(cV:bf s=true)(out:List Int)(ho:out.length<1000000):AC prog GI 214 [bU s,vI out] (.ret (.slice .view ((qo s out s.rows.toNat).map (aL out)))):=by
 have hF:=eM cV;have hr:=hF.rows;have uJ:=qX cV out;have gw:=tL cV out (m:=s.rows.toNat) (by omega);have ZR:=Wv hG s cV out ho;have a148:=Xc hG s.rows.toNat [] (g_ s out) (by omega) (by simp;omega) uJ;have e:ch [] (g_ s out) s.rows.toNat=qo s out s.rows.toNat:=rfl;rw[e,afd (by omega)]at a148;refine AC.gW (o:=if qo s out s.rows.toNat=[]then .nil else .view) ?_
 generalize qo s out s.rows.toNat=A at*
 refine cE hG func214 ntmps214 c214 ?_;refine aI (λS H=>S 1=vI out/\S 2=.box 2 0/\H 2=some (ae s)) (by simp[ai,ah,bU,ae]) ?_;rintro S H ⟨s1,s2,e2⟩;refine aI (λS H=>S 1=vI out/\S 5=.slice .view (A.map vE)) ?_ ?_
 .simp[ai,ah,s1,s2,e2,ae];refine oc ZR ?_;simp[ai,ah,s1,s2,e2,ae];refine oc a148 ?_;simp[ai,ah,s1]
 clear s1 s2 e2 S H;rintro S H ⟨s1,s5⟩;simp[ai,ah,s1,s5];refine bC 7 A.length (λi S H=>S 1=vI out/\S 5=.slice .view (A.map vE)/\S 7=.int .i64 (i:Nat)/\S 6=grow 39 ((A.take i).map (aL out))) (λi S H h=>h.2.2.1) ⟨by simp[ai,ah,s1],by simp[ai,ah,s5],by simp[ai,ah],by simp[ai,ah,grow]⟩ ?_;clear s1 s5 S H;rintro i hi S H ⟨s1,s5,s7,s6⟩
 by_cases av:i<A.length
 case neg=>
  have cN:i=A.length:=by omega
  subst cN;rw[acQ (acD _)]at s6
  by_cases h0:A=[]
  .subst h0;simp[ai,ah,s1,s5,s7,s6,grow]
  .have Fl:S 6=.slice (.own 39) (A.map (aL out)):=by rw[s6];simp[grow,h0]
   simp[ai,ah,s1,s5,s7,Fl,h0]
 have hw:IntKind.i64.wrap ((i:Int)+1)=i+1:=aP (by omega);have ht:A.take (i+1)=A.take i++[A[i]]:=acL av
 have wV:(A.take i).length<=277:=by rw[adf];omega
 rw[ht];generalize A.take i=B at s6 wV⊢;have dI:aJ 2 [aL out A[i]]=true:=rfl;simp[s1,s5,s7,s6,av,vE,bV];refine fk (B.map (aL out)) (aL out A[i]) (.own 39) (by simp[s6,grow]) (by simp[eN]) dI (EJ _ _) (by rw[acC];omega) ?_;intro S' sd dN;simp[sd,dN,s1,s5,s7,av,hw,vE,grow]
def Rl(hG:aw GI)(s:aF)(cV:bf s=true)(out:List Int)(ho:out.length<1000000)(ko:fQ s out=true):AC prog GI 195 [bU s,vI out] (.ret (.slice .view ((eR s out).map (aL out)))):=by
 have hr:=(eM cV).rows;have gw:=tL cV out (m:=s.rows.toNat) (by omega);have a105:=Yo hG s cV out ho
 have hA:∀es∈qo s out s.rows.toNat,AC prog GI 215 [bU s,aL out es,.int .i64 0] (.ret (.bool (eU s out es 0))):=λes h=>by
  obtain⟨h1,h2⟩:=vo cV ko h;exact PQ hG s (ny cV) cV out ho es (by omega) h1 (by omega) (by omega)
 refine AC.gW (o:=if eR s out=[]then .nil else .view) ?_;unfold eR
 generalize qo s out s.rows.toNat=A at*
 generalize hB:(A.filter λes=>eU s out es 0)=B;refine cE hG func195 ntmps195 c195 ?_;refine aI (λS H=>S 1=vI out/\S 2=.box 2 0/\H 2=some (ae s)) (by simp[ai,ah,bU,ae]) ?_;rintro S H ⟨s1,s2,e2⟩;refine aI (λS H=>S 1=vI out/\S 2=.box 2 0/\H 2=some (ae s)/\S 5=.slice .view (A.map (aL out))) ?_ ?_
 .simp[ai,ah,s1,s2,e2,ae];refine oc a105 ?_;simp[ai,ah,s1,s2,e2,ae]
 clear s1 s2 e2 S H;rintro S H ⟨s1,s2,e2,s5⟩;simp[ai,ah,s1,s2,e2,s5];refine bC 7 A.length (λi S H=>S 1=vI out/\S 2=.box 2 0/\H 2=some (ae s)/\S 5=.slice .view (A.map (aL out))/\S 7=.int .i64 (i:Nat)/\S 6=grow 39 (((A.take i).filter λes=>eU s out es 0).map (aL out))) (λi S H h=>h.2.2.2.2.1) ⟨by simp[ai,ah,s1],by simp[ai,ah,s2],by simp[ai,ah,e2],by simp[ai,ah,s5],by simp[ai,ah],by simp[ai,ah,grow]⟩ ?_;clear s1 s2 e2 s5 S H;rintro i hi S H ⟨s1,s2,e2,s5,s7,s6⟩
 by_cases av:i<A.length
 case neg=>
  have cN:i=A.length:=by omega
  subst cN;rw[acQ (acD _)]at s6;rw[hB]at s6
  by_cases h0:B=[]
  .subst h0;simp[ai,ah,s1,s2,e2,s5,s7,s6,grow]
  .have Fl:S 6=.slice (.own 39) (B.map (aL out)):=by rw[s6];simp[grow,h0]
   simp[ai,ah,s1,s2,e2,s5,s7,Fl,h0]
 have hw:IntKind.i64.wrap ((i:Int)+1)=i+1:=aP (by omega)
 have ht:(A.take (i+1)).filter (λes=>eU s out es 0)=(A.take i).filter (λes=>eU s out es 0)++if eU s out A[i] 0 then[A[i]]else[]:=by
  rw[acL av,List.filter_append,List.filter_cons]
  split<;>simp
 have wV:((A.take i).filter λes=>eU s out es 0).length<=277:=by
  have:=aeo (λes=>eU s out es 0) (A.take i);rw[adf]at this;omega
 have a36:=hA A[i] (acy av);rw[ht];clear hB;generalize(A.take i).filter (λes=>eU s out es 0)=B at s6 wV⊢;have dI:aJ 2 [aL out A[i]]=true:=rfl;simp[s1,s2,e2,s5,s7,s6,av,ae,eN];refine oc a36 ?_;cases eU s out A[i] 0
 .simp[s1,s2,e2,s5,s7,s6,av,hw,ae,eN,grow]
 simp[s1,s2,e2,s5,s7,s6,av,ae,eN];refine fk (B.map (aL out)) (aL out A[i]) (.own 39) (by simp[s6,grow,eN]) (by simp[eN]) dI (EJ _ _) (by rw[acC];omega) ?_;intro S' sd dN;simp[sd,dN,s1,s2,e2,s5,s7,av,hw,ae,eN,grow]
def F7{A:List (List End)}{i:Nat}(h:i<A.length):jV List.length (A.take (i+1))=if jV List.length (A.take i)=0\/A[i].length<jV List.length (A.take i)then A[i].length else jV List.length (A.take i):=by
 unfold jV;rw[acL h,adk];rfl
def Xs(hG:aw GI)(s:aF)(cV:bf s=true):AC prog GI 196 [bU s] (.ret (.int .i64 (jV List.length (eR s []):Nat))):=by
 have Qh:=Rl hG s cV [] (by simp) (oC cV);have QB:=vr cV []
 have hg3:∀a∈eR s [],a.length<=3:=λa h=>(qK cV h).2.1
 generalize eR s []=A at*
 refine cE hG func196 ntmps196 c196 ?_;refine aI (λS H=>S 1=.box 1 0/\H 1=some (ae s)) (by simp[ai,ah,bU,ae]) ?_;rintro S H ⟨s1,e1⟩;refine aI (λS H=>S 3=.slice .view (A.map (aL []))) ?_ ?_
 .simp[ai,ah,s1,e1,ae];refine oc Qh ?_;simp[ai,ah]
 clear s1 e1 S H;rintro S H s3;simp[ai,ah,s3];refine bC 5 A.length (λi S H=>S 3=.slice .view (A.map (aL []))/\S 5=.int .i64 (i:Nat)/\S 4=.int .i64 (jV List.length (A.take i):Nat)) (λi S H h=>h.2.1) ⟨by simp[ai,ah,s3],by simp[ai,ah],by simp[ai,ah,jV]⟩ ?_;clear s3 S H;rintro i hi S H ⟨s3,s5,s4⟩
 by_cases av:i<A.length
 case neg=>
  have cN:i=A.length:=by omega
  subst cN;rw[acQ (acD _)]at s4;simp[ai,ah,s3,s5,s4]
 have hw:IntKind.i64.wrap ((i:Int)+1)=i+1:=aP (by omega);rw[F7 av];generalize jV List.length (A.take i)=m at s4⊢;have h3:=hg3 A[i] (acy av)
 by_cases hm:m=0
 .subst hm;simp[ai,ah,s3,s5,s4,av,eN,hw]
 have CB:((m:Int)==0)=false:=by simp;omega
 by_cases hl:A[i].length<m
 .have nJ:(A[i].length:Int)<m:=by omega
  simp[ai,ah,s3,s5,s4,av,eN,hw,CB,hm,hl,nJ]
 .have nJ:¬(A[i].length:Int)<m:=by omega
  simp[ai,ah,s3,s5,s4,av,eN,hw,CB,hm,hl,nJ]
def sg(s:aF):List End×Int:=qt List.length (gl s []) (jV List.length (eR s [])) [] (eR s [])
def KY{s:aF}{r:Nat}{A:List (List End)}{i:Nat}(h:i<A.length):qt List.length (gl s []) r [] (A.take (i+1))=if A[i].length=r/\(qt List.length (gl s []) r [] (A.take i)).2<gl s [] A[i]then(A[i],gl s [] A[i])else qt List.length (gl s []) r [] (A.take i):=by
 unfold qt;rw[acL h,adk];rfl
def Xj(hG:aw GI)(s:aF)(cV:bf s=true):AC prog GI 156 [bU s] (.ret (.dR [aL [] (sg s).1,.int .i64 (max 0 (sg s).2),.bool (decide (0<=(sg s).2))])):=by
 obtain⟨it,hit,bg⟩:=iZ 39 2;have Qh:=Rl hG s cV [] (by simp) (oC cV);have Xx:=Xs hG s cV;have QB:=vr cV []
 have hA:∀es∈eR s [],AC prog GI 197 [bU s,aL [] es] (.ret (.int .i64 (gl s [] es))):=λes h=>by
  obtain⟨h1,h2,_⟩:=qK cV h;exact Xk hG s (ny cV) cV [] (by simp) es (by omega) h1
 unfold sg
 generalize jV List.length (eR s [])=r at*
 generalize eR s []=A at*
 refine cE hG func156 ntmps156 c156 ?_;refine aI (λS H=>S 1=.box 1 0/\H 1=some (ae s)/\S 2=.box 2 0/\H 2=some [.slice .nil [],.slice .nil []]) (by simp[ai,ah,bU,ae]) ?_;rintro S H ⟨s1,e1,s2,e2⟩;refine aI (λS H=>S 1=.box 1 0/\H 1=some (ae s)/\S 2=.box 2 0/\H 2=some [.slice .nil [],.slice .nil []]/\S 5=.slice .view (A.map (aL []))) ?_ ?_
 .simp[ai,ah,s1,e1,s2,e2,ae];refine oc Qh ?_;simp[ai,ah,s1,e1,s2,e2,ae]
 clear s1 e1 s2 e2 S H;rintro S H ⟨s1,e1,s2,e2,s5⟩;refine aI (λS H=>S 1=.box 1 0/\H 1=some (ae s)/\S 2=.box 2 0/\H 2=some [.slice .nil [],.slice .nil []]/\S 5=.slice .view (A.map (aL []))/\S 6=.box 6 0/\H 6=some [.slice .nil [],.slice .nil []]) (by simp[ai,ah,s1,e1,s2,e2,s5]) ?_;clear s1 e1 s2 e2 s5 S H;rintro S H ⟨s1,e1,s2,e2,s5,s6,e6⟩;refine aI (λS H=>S 1=.box 1 0/\H 1=some (ae s)/\S 2=.box 2 0/\H 2=some [.slice .nil [],.slice .nil []]/\S 5=.slice .view (A.map (aL []))/\S 6=.box 6 0/\H 6=some [.slice .nil [],.slice .nil []]/\S 7=.int .i64 (-1)/\S 8=.int .i64 r) ?_ ?_
 .simp[ai,ah,s1,e1,s2,e2,s5,s6,e6,ae];refine oc Xx ?_;simp[ai,ah,s1,e1,s2,e2,s5,s6,e6,ae]
 clear s1 e1 s2 e2 s5 s6 e6 S H;rintro S H ⟨s1,e1,s2,e2,s5,s6,e6,s7,s8⟩;simp[ai,ah,s1,e1,s2,e2,s5,s6,e6,s7,s8];refine bC 9 A.length (λi S H=>S 1=.box 1 0/\H 1=some (ae s)/\S 2=.box 2 0/\H 2=some [.slice .nil [],.slice .nil []]/\S 5=.slice .view (A.map (aL []))/\S 6=.box 6 0/\S 8=.int .i64 r/\S 9=.int .i64 (i:Nat)/\S 7=.int .i64 (qt List.length (gl s []) r [] (A.take i)).2/\∃f,H 6=some [.slice f [],.slice f ((qt List.length (gl s []) r [] (A.take i)).1.map a_)]/\(f=.view\/f=.nil)) (λi S H h=>h.2.2.2.2.2.2.2.1) ⟨by simp[ai,ah,s1],by simp[ai,ah,e1],by simp[ai,ah,s2],by simp[ai,ah,e2],by simp[ai,ah,s5],by simp[ai,ah,s6],by simp[ai,ah,s8],by simp[ai,ah],by simp[ai,ah,s7,qt],.nil,by simp[ai,ah,e6,qt],.inr rfl⟩ ?_;clear s1 e1 s2 e2 s5 s6 e6 s7 s8 S H;rintro i hi S H ⟨s1,e1,s2,e2,s5,s6,s8,s9,s7,f,e6,hf⟩
 by_cases av:i<A.length
 case neg=>
  have cN:i=A.length:=by omega
  subst cN;rw[acQ (acD _)]at s7 e6
  generalize qt List.length (gl s []) r [] A=o at*
  rcases hf with rfl|rfl
  .simp[ai,ah,s1,e1,s2,e2,s5,s6,s8,s9,s7,e6,hit,bg,eh,eN,ints]
  .simp[ai,ah,s1,e1,s2,e2,s5,s6,s8,s9,s7,e6,hit,bg,eh,eN,ints]
 have hw:IntKind.i64.wrap ((i:Int)+1)=i+1:=aP (by omega);have a35:=hA A[i] (acy av);rw[KY av]
 generalize qt List.length (gl s []) r [] (A.take i)=o at*
 simp[ai,ah,s1,e1,s2,e2,s5,s6,s8,s9,s7,e6,av,ae,eN];refine oc a35 ?_
 by_cases hl:A[i].length=r
 case neg=>
  have nJ:((A[i].length:Int)==r)=false:=by simp;omega
  simp[ai,ah,s1,e1,s2,e2,s5,s6,s8,s9,s7,e6,av,ae,eN,hl,nJ,hw];exact hf
 have nJ:((A[i].length:Int)==r)=true:=by simp;omega
 by_cases hm:o.2<gl s [] A[i]
 .simp[ai,ah,s1,e1,s2,e2,s5,s6,s8,s9,s7,e6,av,ae,eN,hl,nJ,hm,hw];exact⟨.view,⟨⟨rfl,rfl⟩,rfl⟩,.inl rfl⟩
 .simp[ai,ah,s1,e1,s2,e2,s5,s6,s8,s9,s7,e6,av,ae,eN,hl,nJ,hm,hw];exact hf
def eO(s:az)(es:List End):List Int:=(List.range s.name.words.length).map λi=>((iY es i (ct s.name i):Nat):Int)
def ZE(hG:aw GI)(s:az)(h:eG s)(es:List End)(he:es.length<=3):AC prog GI 96 [bn s,vI (eO s es)] (.ret (vI (aU s es))):=by
 have V5:1<=s.name.words.length/\s.name.words.length<=1000:=by
  have:=(eM h.name).words;omega
 have hlen:∀i,(hi:i<s.name.words.length)->s.name.words[i].aM.length<=6:=λi hi=>(lV h.name (acy hi)).uy
 have gr:(eO s es).length=s.name.words.length:=by simp[eO]
 have acb:=h.eW;have iF:=h.dS;refine cE hG func96 ntmps96 c96 ?_;refine aI (λS H=>S 1=vI (eO s es)/\S 2=.box 2 0/\H 2=some (ar s)) (by simp[bn,ar,ae,ai,ah]) ?_;rintro S H ⟨s1,s2,h2⟩;refine aI (λS H=>S 1=vI (eO s es)/\S 2=.box 2 0/\H 2=some (ar s)/\S 5=grow 3 (ints [])) (by simp[s1,s2,h2,ar,ae,ints,grow,ai,ah]) ?_;clear s1 s2 h2 S H;rintro S H ⟨s1,s2,h2,s5⟩;simp[s1,s2,h2,s5,gr,ar,ae,ai,ah];refine bC 6 s.name.words.length (λi S H=>S 1=vI (eO s es)/\S 2=.box 2 0/\H 2=some (ar s)/\S 6=.int .i64 (i:Nat)/\S 5=grow 3 (ints ((aU s es).take i))) (λi S H h=>h.2.2.2.1) ⟨by simp[s1,ai,ah],by simp[s2,ai,ah],by simp[h2,ar,ae,ai,ah],by simp[ai,ah],by simp[s5,ai,ah]⟩ ?_;clear s1 s2 h2 s5 S H;rintro i hi S H ⟨s1,s2,h2,s6,s5⟩
 have vx:(aU s es).length=s.name.words.length:=by simp[aU]
 by_cases av:i<s.name.words.length
 .have hw:IntKind.i64.wrap ((i:Int)+1)=i+1:=aP (by omega)
  have hn:¬(i:Int)<0:=by omega
  have mU:¬(s.name.words.length:Int)<=i:=by omega
  have EN:=hlen i av
  have Jo:ct s.name i=s.name.words[i].aM.length:=by simp[ct,av]
  have uh:=Ap es i (ct s.name i)
  have hci:(eO s es)[i]'(by omega)=((iY es i (ct s.name i):Nat):Int):=by simp[eO]
  have hm:ints ((aU s es).take (i+1))=ints ((aU s es).take i)++[.int .i64 (s.eW*(s.name.words[i].aM.length:Int)+s.dS*((iY es i (ct s.name i):Nat):Int))]:=by
   rw[acL (by omega)];simp[ints,aU,uK,Jo]
  have a1:0<=s.eW*(s.name.words[i].aM.length:Int):=ad3 (by omega) (by omega);have a2:s.eW*(s.name.words[i].aM.length:Int)<=9*6:=aep (by omega) (by omega) (by omega) (by omega);have b1:0<=s.dS*((iY es i (ct s.name i):Nat):Int):=ad3 (by omega) (by omega);have b2:s.dS*((iY es i (ct s.name i):Nat):Int)<=9*3:=aep (by omega) (by omega) (by omega) (by omega)
  generalize iY es i (ct s.name i)=cn at*
  have kv:IntKind.i64.wrap (s.eW*(s.name.words[i].aM.length:Int))=s.eW*(s.name.words[i].aM.length:Int):=aP (by omega);have iy:IntKind.i64.wrap (s.dS*(cn:Int))=s.dS*(cn:Int):=aP (by omega);have qv:IntKind.i64.wrap (s.eW*(s.name.words[i].aM.length:Int)+s.dS*(cn:Int))=s.eW*(s.name.words[i].aM.length:Int)+s.dS*(cn:Int):=aP (by omega)
  have G2:(ints ((aU s es).take i)).length<=s.name.words.length:=by simp[ints];omega
  have Sx:=mw ((aU s es).take i);rw[hm]
  generalize ints ((aU s es).take i)=L at*
  generalize hX:s.eW*(s.name.words[i].aM.length:Int)+s.dS*(cn:Int)=X at*
  have dI:aJ 1 [AV.int .i64 X]=true:=rfl;simp[s1,s2,h2,s6,s5,gr,av,hn,mU,hci,kv,iy,qv,hX,cZ,ar,ae,dI];refine oB L (.int .i64 X) (.own 3) (by simp[s5,grow]) (by simp) dI Sx (by omega) ?_;intro S' sd dN;simp[sd,dN,s1,s2,h2,s6,hw,av,ar,ae,grow]
 .have cN:i=s.name.words.length:=by omega
  subst cN;rw[<-vx,adG]at s5
  have BF:ints (aU s es)≠[]:=by
   intro hh
   have:(aU s es).length=0:=by simpa[ints]using congrArg List.length hh
   omega
  simp only[grow,if_neg BF]at s5
  generalize ints (aU s es)=L at*
  simp[s1,s2,h2,s6,s5,gr,ar,ae,ai,ah]
end Go.Proofs.Tryz
