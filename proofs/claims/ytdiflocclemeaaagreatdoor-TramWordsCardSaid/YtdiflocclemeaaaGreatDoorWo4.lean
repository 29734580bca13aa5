/-
  For all tram sheets and all words the call of TramWords returns true, and each argument reads behind the call as it read before. Conditions: none beyond those of the given card.
-/
import Derived.Test.YtdiflocclemeaaaGreatDoorWo3
set_option maxRecDepth 100000
set_option maxHeartbeats 8000000
set_option linter.all false
set_option linter.unusedVariables false
set_option linter.unusedSimpArgs false
set_option linter.deprecated false
namespace Go.Proofs.Tryz
open Go Go.AL Go.RowKit Go.Proofs Go.Proofs.Tram
attribute [local simp] dh eE dY dv dK dj di cQ cT dL cP ct fF fE aD aL ev aT.S aT.H bu av aY AL.start AV.cells AV.storable AV.cg bo cE dI ck HR.okB post cw cH cI AV.out AV.bU b_ df fz iA AV.vw du vI int cG aP cV db fQ iu fV eG da AV.aI AV.cm
variable{GI:World->Prop}
structure BG(bF bN bR:Nat)(cS:Value)(a:Act):Prop where
 size:a.tmps.size=32
 defers:a.defers=[]
 t1:a.tmps.getD 1 undef=cS
 t4:a.tmps.getD 4 undef=.pointer (some ⟨bF,0,none⟩)
 t5:a.tmps.getD 5 undef=.pointer (some ⟨bN,0,none⟩)
 t6:a.tmps.getD 6 undef=.pointer (some ⟨bR,0,none⟩)
def wQ:Nat->Bool:=λt=>decide (7<=t)
def ef(s:aq)(fs:List (List Int))(fv:Value)(zi Am x7:AV):aF:=λt=>match t with
 |1=>.ref (ao s)
 |4=>.ref [.slice .view (fs.map vI)]
 |6=>.ref [.val fv]
 |7=>x7
 |15=>zi
 |16=>Am
 |_=>.bB
section
variable{wB:World}{Mi:Nat->Nat->Prop}{bF bN bR:Nat}{s:aq}{cS fv:Value}{fs:List (List Int)}{es:List Int}{w:World}{a:Act}
theorem BG.step{a':Act}(fr:BG bF bN bR cS a)(bL:a'.tmps.size=32)(ea:a'.defers=[])(h:fC wQ a a'):BG bF bN bR cS a':=
 ⟨bL,ea,(h 1 rfl).trans fr.t1,(h 4 rfl).trans fr.t4,(h 5 rfl).trans fr.t5,(h 6 rfl).trans fr.t6⟩
theorem Lv.Da(st:Lv wB Mi bF bN s cS (.pointer (some ⟨bR,0,none⟩)) fv fs es w)(pr:Nat->Nat->Prop)(K5:∀b k,wB.heap.size<=b->pr b k):RV pr cd w (.ref [.slice .view (fs.map vI)]) (.pointer (some ⟨bF,0,none⟩)):=by
 obtain⟨u,qG,xF,v,tw,xN,f1,f2,f3,f4,n1,n2,n3,n4⟩:=st.st;refine .data _ _ (.ref _ _ _ (λ_=>u) (λi hi=>?_) (λk hk=>⟨K5 _ _ st.ge.1,?_⟩) (λk hk=>?_))
 .have:i=0:=by simpa using hi
  subst this;rfl
 .have:k=0:=by simpa using hk
  subst this;simp[World.cell?,f1]
 .have:k=0:=by simpa using hk
  subst this
  exact RD.ofRow (size:=1) (es:=fs.map vI) (by rw[afi];exact f2) (f3.mono (bz.same λb k _ h=>K5 b k h.2)) λb hb k _=>K5 b k (by have:=(f2.lt b hb).1;have:=st.ge.1;omega)
theorem Lv.gh (st:Lv wB Mi bF bN s cS (.pointer (some ⟨bR,0,none⟩)) fv fs es w) (fr:BG bF bN bR cS a) {zi Am x7:AV} (qc:zi.aI=zi∧RV (fun _ _=>True) cd w zi (a.tmps.getD 15 undef)) (oz:Am.aI=Am∧RV (fun _ _=>True) cd w Am (a.tmps.getD 16 undef)) (h7:x7.aI=x7∧RV (fun _ _=>True) cd w x7 (a.tmps.getD 7 undef)) :
  ∀t,t<32->(ef s fs fv zi Am x7 t).aI=ef s fs fv zi Am x7 t/\RV (λ_ _=>True) cd w (ef s fs fv zi Am x7 t) (a.tmps.getD t undef):=by
 intro t ht;unfold ef;split
 .rw[fr.t1];exact⟨rfl,st.s.mono (bz.same λ_ _ _ _=>trivial) λ_ _ h=>h⟩
 .rw[fr.t4];exact⟨rfl,st.Da _ λ_ _ _=>trivial⟩
 .rw[fr.t6];exact⟨rfl,st.r.mono (bz.same λ_ _ _ _=>trivial) λ_ _ h=>h⟩
 .exact h7
 .exact qc
 .exact oz
 .exact⟨rfl,.bB _⟩
end
theorem RD.bounded{A:Nat->Prop}{w:World}{es:List AV}{c:Value}(PT:∀x∈es,∀c∈x.cells,jA c=true)(h:RD (λb _=>A b) w (.slice .view es) c):∃hi:Nat->Nat,RD (λb k=>A b/\k<hi b) w (.slice .view es) c:=by
 cases h with
 |qw=>exact⟨λ_=>0,.qw _⟩
 |sF _ a=>exact⟨λ_=>0,.sF _ a⟩
 |slice _ _ b off cap size cs iV hn bL h1 hc hr=>
  exact⟨λ_=>off+es.length*size,.slice _ _ b off cap size cs iV hn bL h1 (λk hk=>⟨⟨(hc k hk).1,(by show off+k<off+es.length*size;omega)⟩,(hc k hk).2⟩) λi hi j hj=>(hr i hi j hj).jA (PT _ (ae_ hi) _ (ae_ hj))⟩
theorem Pm(hG:au GI)(s:aq)(hs:er s):AC prog GI 56 [a_ s] (.ret (.d_ (xu s))):=by
 have jW:=mK hG s hs
 refine AC.gY func56 rfl ntmps56 (by simp) λcc w=>?_
 refine dw hG c56.qa (λS' H'=>S' 1=.box 1 0/\H' 1=some (ao s)) ?_ ?_
 .simp[c56,af.qa,a_,ao,ae]
 rintro S1 H1 ⟨s1,h1⟩;refine SW.scope ?_;show SW prog GI 32 none (.seq (.seq _ (.cond _ _ _)) _) _ _ _ _;refine SW.seq (dw hG (.ops [⟨some 8,none,.load .any true 15 (.t 1)⟩,⟨some 9,none,.call 77 [.t 8]⟩,⟨some 10,none,.not (.t 9)⟩]) (λS' H'=>S' 10=.bool (!cq s)/\S' 1=.box 1 0/\H' 1=some (ao s)) ?_ ?_)
 .simp[s1,h1,ao,ae];refine oc jW ?_;simp[s1,h1,ao,ae]
 clear s1 h1;rintro S2 H2 ⟨bw,s1,h1⟩;unfold xu
 cases hI:cq s with
 |false=>
  refine SW.cond rfl true (by show S2 10=_;rw[bw,hI]<;>rfl) ?_;show SW prog GI 32 none (.seq _ .ret) _ _ _ _;refine dw hG (.ops [⟨some 2,none,.mv true (.c (.slice .nil []))⟩,⟨some 3,none,.mv true (.c (.int .i64 2))⟩]) (λS' H'=>S' 2=.slice .nil []/\S' 3=.int .i64 2) (by simp) ?_;rintro S3 H3 ⟨s2,s3⟩;refine SW.ret ⟨eD.plain rfl,rfl,_,?_,rfl⟩;show cw prog 32 [.tmp 2,.tmp 3] S3 H3=_;simp[cw,cH,cI,s2,s3,AV.bU,AV.out,AV.vw,AV.cm,vI,ints]
 |true=>
 have jz:=(dP (eo hI).name).words;refine SW.cond rfl false (by show S2 10=_;rw[bw,hI]<;>rfl) (SW.skip ?_);show SW prog GI 32 none (.seq _ (.seq _ (.seq _ (.seq _ (.seq (.label 0) (.seq (.seq _ (.block _ _)) _)))))) _ _ _ _;simp only[afH];intro w0 g a wB m dS ho R
 obtain⟨out,iJ⟩:∃out,eZ.ret (.d_ (sP s))=out:=⟨_,rfl⟩
 rw[iJ]
 have D6:Below w0.heap.size w0 wB:=by have:=R.below;rwa [R.base]at this
 have qF:GI wB:=hG w0 wB dS D6;have rS:=lV R (by decide) s1 h1 (tu s)
 obtain⟨cS,QH⟩:∃cS,a.tmps.getD 1 undef=cS:=⟨_,rfl⟩
 rw[QH]at rS;have bL:=R.size
 have ea:a.defers=[]:=by rw[R.defers,ho]<;>rfl
 have finish:∀ (aE:Act) (wE:World) (o2:Ow) (DD:List AV) (e:Int) (gq:Nat→Nat),aE.tmps.size=32→aE.defers=[]→Below wB.heap.size wB wE→(AV.slice o2 DD).aI = .slice o2 DD→RD (fun b k=>(wB.heap.size≤b∧b < wE.heap.size)∧k < gq b) wE (.slice o2 DD) (aE.tmps.getD 2 undef)→aE.tmps.getD 3 undef = .int .i64 e →
   eZ.ret (.d_ [.slice .view DD,.int .i64 e])=out->QS prog w0 32 (JT prog 32 f56.results.toList out cc) .ret aE wE:=by
  intro aE wE o2 DD e gq Sb SJ Bg Pk jX h3 iJ;have RG:=R.mw Bg
  have hle:g.base<=wB.heap.size:=by rw[R.base];exact D6.size
  have RC:=RG.Dd (G:=λb=>wB.heap.size<=b/\b<wE.heap.size) gq (λb hb=>by
   refine⟨⟨agu hle hb.1,(R.fresh b hb.1).1,(R.fresh b hb.1).2,λi hi=>?_⟩,hb.2,?_⟩
   .obtain⟨_,_,_,_,_,q3,_⟩:=R.box i b hi;have:=(afe.1 q3).1;omega
   .rw[ho]<;>rfl)
  have RE:=RC.RM (a2:=aE) (S2:=λt=>if t=2 then .slice o2 DD else if t=3 then .int .i64 e else .bB) g.old rfl Sb (by rw[ho];exact SJ) (by rw[ho];exact λ_ h=>by cases h) RC.still RC.grown (by rw[ho];exact λ_ _ h=>by cases h) (λt ht=>by
   by_cases h2:t=2
   .subst h2;simp only[afH];refine⟨Pk,.data _ _ (jX.mono (bz.same λb k _ hp=>.inr ⟨agu hle hp.1.1,?_⟩))⟩;unfold Gh.Dd;simp only[if_pos hp.1];exact hp.2
   .by_cases OX:t=3
    .subst OX;simp only[if_neg h2,afH];rw[h3];exact⟨rfl,.data _ _ (.int _ _)⟩
    .simp only[if_neg h2,if_neg OX]
     exact⟨rfl,.bB _⟩)
  refine⟨_,_,_,RE,?_⟩;refine⟨by rw[ho];exact eD.plain rfl,by rw[ho]<;>rfl,_,?_,iJ.symm⟩;show cw prog 32 [.tmp 2,.tmp 3] _ _=_;simp[cw,cH,cI,AV.bU,AV.out,AV.vw,AV.cm]
 have dW:∀(a:Act)(d t:Nat)(c:Value),t≠d->(a.put (some d) c).tmps.getD t undef=a.tmps.getD t undef:=λa d t c h=>by
  simp[Act.put,afb (afQ h)]
 have gP:∀(a:Act)(d:Nat)(c:Value),a.tmps.size=32->d<32->(a.put (some d) c).tmps.getD d undef=c:=λa d c h hd=>by
  simp[Act.put,h,hd]
 have ju:∀(a:Act)(d:Option Nat)(c:Value),(a.put d c).tmps.size=a.tmps.size:=λa d c=>by cases d<;>simp[Act.put]
 have pL:∀(a:Act)(d:Option Nat)(c:Value),(a.put d c).defers=a.defers:=λa d c=>by cases d<;>rfl
 obtain⟨bF,Fh⟩:∃bF,wB.heap.size=bF:=⟨_,rfl⟩
 refine afc (afq ?_);show wpOpsIn _ _ _ _ _ [0] a wB;refine aW rfl rfl (by rfl) (iQ (t:=141) (z:=.slice none 0 0) rfl (by kernel_rfl)) ?_;show Code.wpIn _ _ _ _ _ (a.put (some 4) (.pointer (some ⟨wB.heap.size,0,none⟩))) (wB.alloc (.cells #[.slice none 0 0] 141))
 obtain⟨a2,ic⟩:∃a2,a.put (some 4) (.pointer (some ⟨wB.heap.size,0,none⟩))=a2:=⟨_,rfl⟩
 obtain⟨w2,fL⟩:∃w2,wB.alloc (.cells #[.slice none 0 0] 141)=w2:=⟨_,rfl⟩
 have CT:w2.heap.size=bF+1:=by rw[<-fL,<-Fh];simp
 have J_:w2.heap[bF]?=some (.cells #[.slice none 0 0] 141 (0,0)):=by rw[<-fL,<-Fh];exact afO wB _
 have Kr:Below bF wB w2:=by rw[<-fL,<-Fh];exact(aga _ _).alloc (afg _) _
 rw[ic,fL];refine afc (afq ?_);show wpOpsIn _ _ _ _ _ [0] a2 w2;refine aW rfl rfl (by rfl) (iQ (t:=23) (z:=.slice none 0 0) rfl (by kernel_rfl)) ?_;show Code.wpIn _ _ _ _ _ (a2.put (some 5) (.pointer (some ⟨w2.heap.size,0,none⟩))) (w2.alloc (.cells #[.slice none 0 0] 23))
 obtain⟨a3,rq⟩:∃a3,a2.put (some 5) (.pointer (some ⟨w2.heap.size,0,none⟩))=a3:=⟨_,rfl⟩
 obtain⟨w3,mq⟩:∃w3,w2.alloc (.cells #[.slice none 0 0] 23)=w3:=⟨_,rfl⟩
 have rW:w3.heap.size=bF+2:=by rw[<-mq];simp[CT]
 have CY:w3.heap[bF+1]?=some (.cells #[.slice none 0 0] 23 (0,0)):=by rw[<-mq,<-CT];exact afO w2 _
 have yZ:Below (bF+1) w2 w3:=by rw[<-mq,<-CT];exact(aga _ _).alloc (afg _) _
 rw[rq,mq];refine afc (afq ?_);show wpOpsIn _ _ _ _ _ [0] a3 w3;refine aW rfl rfl (by rfl) (iQ (t:=142) (z:=.nilFunc) rfl (by kernel_rfl)) ?_;show Code.wpIn _ _ _ _ _ (a3.put (some 6) (.pointer (some ⟨w3.heap.size,0,none⟩))) (w3.alloc (.cells #[.nilFunc] 142))
 obtain⟨a4,jR⟩:∃a4,a3.put (some 6) (.pointer (some ⟨w3.heap.size,0,none⟩))=a4:=⟨_,rfl⟩
 obtain⟨w4,jz⟩:∃w4,w3.alloc (.cells #[.nilFunc] 142)=w4:=⟨_,rfl⟩
 have C9:w4.heap.size=bF+3:=by rw[<-jz];simp[rW]
 have vU:w4.heap[bF+2]?=some (.cells #[.nilFunc] 142 (0,0)):=by rw[<-jz,<-rW];exact afO w3 _
 have tE:Below (bF+2) w3 w4:=by rw[<-jz,<-rW];exact(aga _ _).alloc (afg _) _
 rw[jR,jz]
 have z2:a2.tmps.size=32:=by rw[<-ic,ju];exact bL
 have z3:a3.tmps.size=32:=by rw[<-rq,ju];exact z2
 have z4:a4.tmps.size=32:=by rw[<-jR,ju];exact z3
 have u1:a4.tmps.getD 1 undef=cS:=by rw[<-jR,dW _ _ _ _ (by decide),<-rq,dW _ _ _ _ (by decide),<-ic,dW _ _ _ _ (by decide),QH]
 have u4:a4.tmps.getD 4 undef=.pointer (some ⟨bF,0,none⟩):=by rw[<-jR,dW _ _ _ _ (by decide),<-rq,dW _ _ _ _ (by decide),<-ic,gP _ _ _ bL (by decide),Fh]
 have u5:a4.tmps.getD 5 undef=.pointer (some ⟨bF+1,0,none⟩):=by rw[<-jR,dW _ _ _ _ (by decide),<-rq,gP _ _ _ z2 (by decide),CT]
 have u6:a4.tmps.getD 6 undef=.pointer (some ⟨bF+2,0,none⟩):=by rw[<-jR,gP _ _ _ z3 (by decide),rW]
 have d4:a4.defers=[]:=by rw[<-jR,pL,<-rq,pL,<-ic,pL];exact ea
 refine afc (afq ?_);show wpOpsIn _ _ _ _ _ [0,1] a4 w4;refine aW rfl rfl (by rfl) (kB (fn:=.func 112) (c:=#[.tmp 1,.tmp 5,.tmp 4,.tmp 6]) rfl) ?_
 have iV:(#[Operand.tmp 1,.tmp 5,.tmp 4,.tmp 6].map a4.eval)=#[cS,.pointer (some ⟨bF+1,0,none⟩),.pointer (some ⟨bF,0,none⟩),.pointer (some ⟨bF+2,0,none⟩)]:=by
  simp only[afw,afv,afB,Act.eval];rw[u1,u4,u5,u6]
 rw[iV]
 obtain⟨fv,jQ⟩:∃fv:Value,fv=.func (.func 112) #[] #[cS,.pointer (some ⟨bF+1,0,none⟩),.pointer (some ⟨bF,0,none⟩),.pointer (some ⟨bF+2,0,none⟩)]:=⟨_,rfl⟩
 rw[<-jQ]
 obtain⟨a5,oH⟩:∃a5,a4.put (some 11) fv=a5:=⟨_,rfl⟩
 show wpOpsIn _ _ _ _ _ [1] (a4.put (some 11) fv) w4;rw[oH]
 have z5:a5.tmps.size=32:=by rw[<-oH,ju];exact z4
 have Ii:a5.tmps.getD 11 undef=fv:=by rw[<-oH];exact gP _ _ _ z4 (by decide)
 have v1:a5.tmps.getD 1 undef=cS:=by rw[<-oH,dW _ _ _ _ (by decide)];exact u1
 have v4:a5.tmps.getD 4 undef=.pointer (some ⟨bF,0,none⟩):=by rw[<-oH,dW _ _ _ _ (by decide)];exact u4
 have v5:a5.tmps.getD 5 undef=.pointer (some ⟨bF+1,0,none⟩):=by rw[<-oH,dW _ _ _ _ (by decide)];exact u5
 have v6:a5.tmps.getD 6 undef=.pointer (some ⟨bF+2,0,none⟩):=by rw[<-oH,dW _ _ _ _ (by decide)];exact u6
 have d5:a5.defers=[]:=by rw[<-oH,pL];exact d4
 obtain⟨i142,L9,MF⟩:=bh (P:=prog) (t:=142) (s:=1) (by kernel_rfl);refine dk rfl rfl (by rfl) (fM (x:=.tmp 6) (y:=.tmp 11) rfl v6 L9 MF vU Ii (by rw[jQ]<;>rfl)) ?_;show Code.wpIn _ _ _ _ _ (a5.put none undef) (w4.setRow (bF+2) #[fv])
 have fr:BG bF (bF+1) (bF+2) cS (a5.put none undef):=⟨z5,d5,v1,v4,v5,v6⟩
 have ke:∀b,b≠bF+2->(w4.setRow (bF+2) #[fv]).heap[b]?=w4.heap[b]?:=λb hb=>af4 w4 (bF+2) b #[fv] hb
 have we:(w4.setRow (bF+2) #[fv]).heap.size=bF+3:=by simp[C9]
 have Qz:Below bF wB w4:=Kr.trans ((yZ.mono (by omega)).trans (tE.mono (by omega)));have BE:Below bF wB (w4.setRow (bF+2) #[fv]):=Qz.trans ⟨rfl,rfl,rfl,by rw[we,C9];exact afg _,λk hk=>ke k (by omega)⟩
 have st:Lv wB (λb k=>(b<bF/\fy g true b k)\/(b=bF+2/\k=0)) bF (bF+1) s cS (.pointer (some ⟨bF+2,0,none⟩)) fv [] [] (w4.setRow (bF+2) #[fv]):=by
  refine⟨by rw[Fh];exact BE,⟨by omega,by omega,by omega⟩,?_,?_,?_,⟨.slice none 0 0,141,[],.slice none 0 0,23,[],?_,⟨rfl,.inl ⟨rfl,rfl⟩⟩,⟨λx hx=>by simp at hx,λj hj=>by simp at hj⟩,(λb hb=>by cases hb),?_,⟨rfl,.inl ⟨rfl,rfl⟩⟩,⟨λx hx=>by simp[ints]at hx,λj hj=>by simp[ints]at hj⟩,(λb hb=>by cases hb)⟩,?_,?_⟩
  .rintro b k (h|h)
   .rw[we];omega
   .rw[we];omega
  .rintro k (h|h)<;>omega
  .rintro k (h|h)<;>omega
  .rw[ke _ (by omega),tE.block _ (by omega),yZ.block _ (by omega)];exact J_
  .rw[ke _ (by omega),tE.block _ (by omega)];exact CY
  .have US:RV (λb k=>b<bF/\fy g true b k) cd wB (.ref (ao s)) cS:=rS.mono (bz.same λb k hb h=>⟨by omega,h⟩) λ_ _ h=>h
   exact US.mono (bz.of_eq λb k h=>⟨.inl h,BE.block b h.1⟩) λ_ _ h=>h
  .refine .data _ _ (.ref _ _ _ (λ_=>fv) (λi hi=>?_) (λk hk=>⟨.inr ⟨rfl,(by have h0:k<1:=hk;omega)⟩,?_⟩) (λk hk=>?_))
   .have:i=0:=by simpa using hi
    subst this;rfl
   .have:k=0:=by simpa using hk
    subst this;have:=agq w4 (bF+2) _ #[fv] 142 (0,0) vU;simp[World.cell?,this]
   .have:k=0:=by simpa using hk
    subst this;exact .val _ (by rw[jQ]<;>rfl)
 clear ke we BE Qz tE vU yZ CY Kr J_;generalize w4.setRow (bF+2) #[fv]=w5 at st⊢;generalize a5.put none undef=a6 at fr⊢;generalize(λb k=>(b<bF/\fy g true b k)\/(b=bF+2/\k=0))=Mi at st;clear v1 v4 v5 v6 d5 z5 Ii oH iV u1 u4 u5 u6 d4 z4 z3 z2
 have gi:∀{w:World},Below wB.heap.size wB w->GI w:=λh=>hG wB _ qF h
 have jk:∀(a:Act)(w:World)(t:Nat),(AV.bB).aI=AV.bB/\RV (λ_ _=>True) cd w AV.bB (a.tmps.getD t undef):=λa w t=>⟨rfl,.bB _⟩
 have iv:∀(a:Act)(w:World)(t:Nat)(k:Int),a.tmps.getD t undef=.int .i64 k->(AV.int .i64 k).aI=.int .i64 k/\RV (λ_ _=>True) cd w (.int .i64 k) (a.tmps.getD t undef):=λa w t k h=>⟨rfl,by rw[h];exact .data _ _ (.int _ _)⟩
 have vd:∀{w w':World}{g:Gh}{S:aF}{H:aK}{a':Act},Rel prog w 32 dU g S H a' w'->Below w.heap.size w w':=λR=>by have:=R.below;rwa [R.base]at this
 show Code.wpIn _ _ _ _ _ a6 w5;refine afc (wpIn_label ?_);show Code.wpIn _ _ _ _ _ a6 w5;refine afc (afc ?_);refine bG hG cC (n:=32) (ac:=.ops [⟨some 12,none,.fieldAddr 5 (.t 1)⟩,⟨some 13,none,.fieldAddr 7 (.t 12)⟩,⟨some 14,none,.load .any false 1 (.t 13)⟩,⟨some 15,none,.lO (.t 14)⟩,⟨some 16,none,.mv false (.c (.int .i64 0))⟩]) (W:=wQ) (by kernel_rfl) (by kernel_rfl) (by kernel_rfl) (gi st.below) (λ_ _=>True) (ef s [] fv .bB .bB .bB) fr.size fr.defers (st.gh fr (jk _ _ _) (jk _ _ _) (jk _ _ _)) (K:=λS' _=>S' 15=.int .i64 (s.name.words.length:Nat)/\S' 16=.int .i64 ((0:Nat):Int)) ?_ ?_
 .simp[ef,ao,ae]
 rintro g1 S1 H1 a7 w7 jq R1 ⟨ou,oA⟩ bb;have fr:=fr.step R1.size (by rw[R1.defers,jq]<;>rfl) bb;have st:=st.grow (vd R1);have xm:=R1.slot 15 (by decide) id;rw[ou]at xm;have xm:=xm.int_eq;have uR:=R1.slot 16 (by decide) id;rw[oA]at uR;have uR:=uR.int_eq;clear R1 jq bb ou oA;show Code.wpIn _ _ _ _ _ a7 w7
 refine af3 (ahq (λa w=>∃(k:Nat)(mz:Nat->Nat->Prop),BG bF (bF+1) (bF+2) cS a/\a.tmps.getD 15 undef=.int .i64 (s.name.words.length:Nat)/\a.tmps.getD 16 undef=.int .i64 (k:Nat)/\k<=s.name.words.length/\(∀j,j<k->gk s j []=[])/\Lv wB mz bF (bF+1) s cS (.pointer (some ⟨bF+2,0,none⟩)) fv [] [] w)
  (λa _=>match a.tmps.getD 16 undef with|.int _ i=>s.name.words.length-i.toNat|_=>0) ⟨0,Mi,fr,xm,uR,afK _,λj hj=>by omega,st⟩ ?_)
 clear xm uR fr st;rintro a8 w8 ⟨k,mz,fr,xm,uR,hk,nO,st⟩;refine afc ?_;refine bG hG cC (n:=32) (ac:=.ops [⟨some 17,none,.bin .lss (.t 16) (.t 15)⟩]) (W:=wQ) (by kernel_rfl) (by kernel_rfl) (by kernel_rfl) (gi st.below) (λ_ _=>True) (ef s [] fv (.int .i64 (s.name.words.length:Nat)) (.int .i64 (k:Nat)) .bB) fr.size fr.defers (st.gh fr (iv _ _ _ _ xm) (iv _ _ _ _ uR) (jk _ _ _)) (K:=λS' _=>S' 15=.int .i64 (s.name.words.length:Nat)/\S' 16=.int .i64 (k:Nat)/\S' 17=.bool (decide (k<s.name.words.length))) ?_ ?_
 .simp[ef]
 rintro g1 S1 H1 a9 w9 jq R1 ⟨ou,oA,Rh⟩ bb;have fr:=fr.step R1.size (by rw[R1.defers,jq]<;>rfl) bb;have st:=st.grow (vd R1);have zK:=R1.slot 15 (by decide) id;rw[ou]at zK;have zK:=zK.int_eq;have y8:=R1.slot 16 (by decide) id;rw[oA]at y8;have y8:=y8.int_eq;have FV:=R1.slot 17 (by decide) id;rw[Rh]at FV;have FV:=FV.dN;clear R1 jq bb ou oA Rh;show Code.wpIn _ _ _ _ _ a9 w9;refine afc (afF (t:=decide (k<s.name.words.length)) FV ?_)
 by_cases aw:k<s.name.words.length
 case neg=>
  simp only[aw,agY,afj,afx];refine agT ?_
  have LJ:k=s.name.words.length:=by omega
  subst LJ;simp only[Exit.then,Exit.inBlock,afH]
  have He:qg s=none:=by rw[rL];exact Cm _ nO
  show Code.wpIn _ _ _ _ _ a9 w9;refine afc (afc ?_);refine bG hG cC (n:=32) (ac:=.ops [⟨some 26,none,.load .any false 1 (.t 4)⟩,⟨some 27,none,.lO (.t 26)⟩,⟨some 28,none,.bin .eql (.t 27) (.c (.int .i64 0))⟩]) (W:=wQ) (by kernel_rfl) (by kernel_rfl) (by kernel_rfl) (gi st.below) (λ_ _=>True) (ef s [] fv .bB .bB .bB) fr.size fr.defers (st.gh fr (jk _ _ _) (jk _ _ _) (jk _ _ _)) (K:=λS' _=>S' 28=.bool true) ?_ ?_
  .simp[ef]
  rintro g1 S1 H1 aA wA jq R1 yC bb;have fr:=fr.step R1.size (by rw[R1.defers,jq]<;>rfl) bb;have st:=st.grow (vd R1);have pk:=R1.slot 28 (by decide) id;rw[yC]at pk;have pk:=pk.dN;show Code.wpIn _ _ _ _ _ aA wA;refine afF (t:=true) pk ?_;simp only[afH];refine afc ?_;refine bG hG cC (n:=32) (ac:=.ops [⟨some 2,none,.mv true (.c (.slice .nil []))⟩,⟨some 3,none,.mv true (.c (.int .i64 5))⟩]) (W:=λ_=>true) (by kernel_rfl) (by kernel_rfl) (by kernel_rfl) (gi st.below) (λ_ _=>True) (ef s [] fv .bB .bB .bB) fr.size fr.defers (st.gh fr (jk _ _ _) (jk _ _ _) (jk _ _ _)) (K:=λS' _=>S' 2=.slice .nil []/\S' 3=.int .i64 5) ?_ ?_
  .simp[ef]
  rintro g2 S2 H2 aB Fe lv R2 ⟨q2,q3⟩ _;have e2:=R2.slot 2 (by decide) id;rw[q2]at e2;have e3:=R2.slot 3 (by decide) id;rw[q3]at e3;refine agK (finish aB Fe .view [] 5 (λ_=>0) R2.size (by rw[R2.defers,lv]<;>rfl) (st.grow (vd R2)).below rfl (e2.j_ rfl).NR e3.int_eq ?_);rw[<-iJ];unfold sP
  rw[He]<;>rfl
 simp only[aw,agZ,afH];refine af7 ?_;show Code.wpIn _ _ _ _ _ a9 w9;refine afc (af3 ?_);refine afc ?_;refine bG hG cC (n:=32) (ac:=.ops [⟨some 18,none,.mv false (.t 16)⟩,⟨some 7,none,.mv true (.t 18)⟩]) (W:=wQ) (by kernel_rfl) (by kernel_rfl) (by kernel_rfl) (gi st.below) (λ_ _=>True) (ef s [] fv (.int .i64 (s.name.words.length:Nat)) (.int .i64 (k:Nat)) .bB) fr.size fr.defers (st.gh fr (iv _ _ _ _ zK) (iv _ _ _ _ y8) (jk _ _ _)) (K:=λS' _=>S' 15=.int .i64 (s.name.words.length:Nat)/\S' 16=.int .i64 (k:Nat)/\S' 7=.int .i64 (k:Nat)) ?_ ?_
 .simp[ef]
 rintro g1 S1 H1 Q5 DT jq R1 ⟨ou,oA,q7⟩ bb;have fr:=fr.step R1.size (by rw[R1.defers,jq]<;>rfl) bb;have st:=st.grow (vd R1);have f15:=R1.slot 15 (by decide) id;rw[ou]at f15;have f15:=f15.int_eq;have f16:=R1.slot 16 (by decide) id;rw[oA]at f16;have f16:=f16.int_eq;have f7:=R1.slot 7 (by decide) id;rw[q7]at f7;have f7:=f7.int_eq;clear R1 jq bb ou oA q7 zK y8 FV;show Code.wpIn _ _ _ _ _ Q5 DT;refine afc ?_;refine iR hG (n:=32) (p:=2) (l2:=[2]) rfl (by kernel_rfl) (by kernel_rfl) (l:=[⟨some 19,none,.load .any false 1 (.t 6)⟩,⟨some 20,none,.mv false (.t 7)⟩]) (by kernel_rfl) (by decide) (W:=wQ) (by kernel_rfl) (gi st.below) (λ_ _=>True) (ef s [] fv (.int .i64 (s.name.words.length:Nat)) (.int .i64 (k:Nat)) (.int .i64 (k:Nat))) fr.size fr.defers (st.gh fr (iv _ _ _ _ f15) (iv _ _ _ _ f16) (iv _ _ _ _ f7)) (K:=λS' _=>S' 15=.int .i64 (s.name.words.length:Nat)/\S' 16=.int .i64 (k:Nat)/\S' 19=.val fv/\S' 20=.int .i64 (k:Nat)) ?_ ?_
 .simp[ef]
 rintro g1 S1 H1 Ij LB jq R1 ⟨ou,oA,PY,E8⟩ bb;have fr:=fr.step R1.size (by rw[R1.defers,jq]<;>rfl) bb;have st:=st.grow (vd R1);have qc:=R1.slot 15 (by decide) id;rw[ou]at qc;have qc:=qc.int_eq;have oz:=R1.slot 16 (by decide) id;rw[oA]at oz;have oz:=oz.int_eq;have zI:=R1.slot 19 (by decide) id;rw[PY]at zI;have zI:=zI.eU;have B0:=R1.slot 20 (by decide) id;rw[E8]at B0;have B0:=B0.int_eq;clear R1 jq bb ou oA PY E8 f15 f16 f7;have uC:=Bi (by omega) (d:=k) (by omega) ([]:List Int) (s:=s);have iN:=GG hG qF hs hI jQ k 0 [] [] mz LB rfl (afK _) (by simpa using aw) (Dp (by omega)) (by simp;omega) st;refine eS rfl rfl (by rfl) (f:=112) (args:=#[.int .i64 ((0:Nat):Int),.int .i64 (k:Nat),cS,.pointer (some ⟨bF+1,0,none⟩),.pointer (some ⟨bF,0,none⟩),.pointer (some ⟨bF+2,0,none⟩)]) (w':=LB) ?_ iN ?_
 .have UO:Ij.eval (.tmp 19)=fv:=zI;have On:Ij.eval (.tmp 20)=.int .i64 (k:Nat):=B0;refine(rC (f:=.tmp 19) (x:=.const (.int .i64 0)) (y:=.tmp 20) LB rfl rfl rfl (UO.trans jQ) (by kernel_rfl)).trans ?_;rw[On]
  rfl
 rintro en VJ ⟨rfl,Wp,hM2,st⟩;rw[List.nil_append]at st;refine⟨_,rfl,?_⟩;show Code.wpIn _ _ _ _ _ (Ij.put (some 21) (.tuple #[])) VJ
 obtain⟨a12,tX⟩:∃a12,Ij.put (some 21) (.tuple #[])=a12:=⟨_,rfl⟩
 have fr:BG bF (bF+1) (bF+2) cS a12:=fr.step (by rw[<-tX,ju];exact fr.size) (by rw[<-tX,pL];exact fr.defers) (by rw[<-tX];exact fC.put (λt ht=>by cases ht;rfl) _)
 have i15:a12.tmps.getD 15 undef=.int .i64 (s.name.words.length:Nat):=by rw[<-tX,dW _ _ _ _ (by decide)];exact qc
 have i16:a12.tmps.getD 16 undef=.int .i64 (k:Nat):=by rw[<-tX,dW _ _ _ _ (by decide)];exact oz
 rw[tX];clear tX qc oz zI B0;refine afc ?_;refine bG hG cC (n:=32) (ac:=.ops [⟨some 22,none,.load .any false 1 (.t 4)⟩,⟨some 23,none,.lO (.t 22)⟩,⟨some 24,none,.bin .gtr (.t 23) (.c (.int .i64 0))⟩]) (W:=wQ) (by kernel_rfl) (by kernel_rfl) (by kernel_rfl) (gi st.below) (λ_ _=>True) (ef s (gk s k []) fv (.int .i64 (s.name.words.length:Nat)) (.int .i64 (k:Nat)) .bB) fr.size fr.defers (st.gh fr (iv _ _ _ _ i15) (iv _ _ _ _ i16) (jk _ _ _)) (K:=λS' _=>S' 15=.int .i64 (s.name.words.length:Nat)/\S' 16=.int .i64 (k:Nat)/\S' 24=.bool (decide (0<(gk s k []).length))) ?_ ?_
 .simp[ef]
 rintro g1 S1 H1 Mu Nx jq R1 ⟨ou,oA,Ov⟩ bb;have fr:=fr.step R1.size (by rw[R1.defers,jq]<;>rfl) bb;have st:=st.grow (vd R1);have qc:=R1.slot 15 (by decide) id;rw[ou]at qc;have qc:=qc.int_eq;have oz:=R1.slot 16 (by decide) id;rw[oA]at oz;have oz:=oz.int_eq;have DH:=R1.slot 24 (by decide) id;rw[Ov]at DH;have DH:=DH.dN;clear R1 jq bb ou oA Ov i15 i16;show Code.wpIn _ _ _ _ _ Mu Nx;refine afF (t:=decide (0<(gk s k []).length)) DH ?_
 cases hL:gk s k []with
 |nil=>
  rw[hL]at st;simp only[List.length_nil,ahI,agY,afj,afx];refine af7 ?_;simp only[Exit.then,Exit.inBlock];show Code.wpIn _ _ _ _ _ Mu Nx;refine bG hG cC (n:=32) (ac:=.ops [⟨some 25,none,.bin .add (.t 16) (.c (.int .i64 1))⟩,⟨some 16,none,.mv false (.t 25)⟩]) (W:=wQ) (by kernel_rfl) (by kernel_rfl) (by kernel_rfl) (gi st.below) (λ_ _=>True) (ef s [] fv (.int .i64 (s.name.words.length:Nat)) (.int .i64 (k:Nat)) .bB) fr.size fr.defers (st.gh fr (iv _ _ _ _ qc) (iv _ _ _ _ oz) (jk _ _ _)) (K:=λS' _=>S' 15=.int .i64 (s.name.words.length:Nat)/\S' 16=.int .i64 ((k+1:Nat):Int)) ?_ ?_
  .have nk:IntKind.i64.wrap ((k:Int)+1)=k+1:=aN (by omega);simp[ef,nk]
  rintro g1 S1 H1 a14 w14 jq R1 ⟨ou,oA⟩ bb;have fr:=fr.step R1.size (by rw[R1.defers,jq]<;>rfl) bb;have st:=st.grow (vd R1);have Ih:=R1.slot 15 (by decide) id;rw[ou]at Ih;have Ih:=Ih.int_eq;have FQ:=R1.slot 16 (by decide) id;rw[oA]at FQ;have FQ:=FQ.int_eq;refine⟨⟨k+1,Wp,fr,Ih,FQ,by omega,λj hj=>?_,st⟩,?_⟩
  .by_cases e:j=k
   .subst e;exact hL
   .exact nO j (by omega)
  .rw[FQ,uR];show s.name.words.length-((k+1:Nat):Int).toNat<s.name.words.length-(k:Int).toNat;rw[Int.toNat_natCast,Int.toNat_natCast];omega
 |cons x l=>
  have Lj:qg s=some x:=by rw[rL];exact Bh _ aw nO hL
  rw[hL]at st;simp only[List.length_cons,Nat.zero_lt_succ,agZ,afH];refine agT ?_;simp only[Exit.then,Exit.inBlock];show Code.wpIn _ _ _ _ _ Mu Nx;refine afc (afc ?_);refine bG hG cC (n:=32) (ac:=.ops [⟨some 26,none,.load .any false 1 (.t 4)⟩,⟨some 27,none,.lO (.t 26)⟩,⟨some 28,none,.bin .eql (.t 27) (.c (.int .i64 0))⟩]) (W:=wQ) (by kernel_rfl) (by kernel_rfl) (by kernel_rfl) (gi st.below) (λ_ _=>True) (ef s (x::l) fv .bB .bB .bB) fr.size fr.defers (st.gh fr (jk _ _ _) (jk _ _ _) (jk _ _ _)) (K:=λS' _=>S' 28=.bool false) ?_ ?_
  .have dO:((l.length:Int)+1==0)=false:=by rw[afN];omega
   simp[ef,dO]
   try omega
  rintro g1 S1 H1 aA wA jq R1 yC bb;have fr:=fr.step R1.size (by rw[R1.defers,jq]<;>rfl) bb;have st:=st.grow (vd R1);have pk:=R1.slot 28 (by decide) id;rw[yC]at pk;have pk:=pk.dN;show Code.wpIn _ _ _ _ _ aA wA;refine afF (t:=false) pk ?_;simp only[afj,afx];refine af7 ?_;show Code.wpIn _ _ _ _ _ aA wA;refine afc ?_
  refine bG hG cC (n:=32) (ac:=.ops [⟨some 29,none,.load .any false 1 (.t 4)⟩,⟨some 30,none,.indexAddr 1 (.t 29) (.c (.int .i64 0))⟩,⟨some 31,none,.load .any false 1 (.t 30)⟩,⟨some 2,none,.mv true (.t 31)⟩,⟨some 3,none,.mv true (.c (.int .i64 0))⟩]) (W:=λ_=>true) (by kernel_rfl) (by kernel_rfl) (by kernel_rfl) (gi st.below) (λb _=>wB.heap.size<=b)
   (λt=>match t with|4=>.ref [.slice .view ((x::l).map vI)]|_=>.bB) fr.size fr.defers ?_ (K:=λS' _=>S' 2=.slice .view (ints x)/\S' 3=.int .i64 0) ?_ ?_
  .intro t ht;split
   .rw[fr.t4];exact⟨rfl,st.Da _ λb k h=>h⟩
   .exact⟨rfl,.bB _⟩
  .simp
  rintro g2 S2 H2 aB Fe lv R2 ⟨q2,q3⟩ _;have e2:=R2.slot 2 (by decide) id;rw[q2]at e2;have e3:=R2.slot 3 (by decide) id;rw[q3]at e3;have Ju:=vd R2
  have r2:RD (λb _=>wB.heap.size<=b/\b<Fe.heap.size) Fe (.slice .view (ints x)) (aB.tmps.getD 2 undef):=(e2.j_ rfl).mono (bz.same λb k hb hp=>by
   rcases hp with⟨_,h⟩|⟨h,_⟩
   .rw[lv]at h;exact⟨h,hb⟩
   .rw[R2.base]at h;have:=st.below.size
    exact⟨by omega,hb⟩)
  obtain⟨gq,r3⟩:=RD.bounded (pj x) r2;refine agK (finish aB Fe .view (ints x) 0 gq R2.size (by rw[R2.defers,lv]<;>rfl) (st.grow Ju).below rfl r3 e3.int_eq ?_);rw[<-iJ];unfold sP
  rw[Lj]<;>rfl
end Go.Proofs.Tryz
namespace Go.AL
def IP:List (Nat×Dh)->Nat->Option Dh
 |[],_=>none
 |x::l,f=>bif Nat.beq f x.1 then some x.2 else IP l f
def Kv(P:Program)(x:Nat×Dh):Prop:=∃(F:Func)(c:Code),P.funcs[x.1]?=some F/\F.body=some c/\F.ntmps=x.2.n/\F.results.toList=x.2.res/\kT P x.2.n c=x.2.code
theorem Db{P:Program}:∀{l:List (Nat×Dh)},(∀x∈l,Kv P x)->Tt P (IP l)
 |[],_,_,_,h=>by cases h
 |x::l,hl,f,fn,h=>by
  unfold IP at h
  cases hb:Nat.beq f x.1 with
  |true=>
   rw[hb]at h;cases h;rw[ahz hb];exact hl x aft
  |false=>
   rw[hb]at h;exact Db (λy hy=>hl y (afk _ hy)) f fn h
theorem IN{α:Type}{b:Bool}{x y:Option α}{z:α}(h:(bif b then x else y)=some z):(b=true/\x=some z)\/(b=false/\y=some z):=by
 cases b
 .exact .inr ⟨rfl,h⟩
 .exact .inl ⟨rfl,h⟩
end Go.AL
namespace Go.Proofs.Tryz
open Go Go.AL Go.RowKit Go.Proofs Go.Proofs.Tram
variable{GI:World->Prop}
noncomputable def Cs:List (Nat×Dh):=[(65,⟨c65,9,[.tmp 2]⟩),(118,⟨c118,80,[.tmp 2]⟩),(121,⟨c121,94,[.cell 2 31,.tmp 3]⟩),(123,⟨c123,115,[.tmp 2]⟩),(124,⟨c124,53,[.tmp 2]⟩),(125,⟨c125,114,[.tmp 2]⟩),(161,⟨c161,16,[.tmp 2]⟩),(165,⟨c165,19,[.tmp 4]⟩),(166,⟨c166,5,[.tmp 2]⟩),(167,⟨c167,8,[.tmp 4]⟩),(168,⟨c168,9,[]⟩),(173,⟨c173,25,[.tmp 2]⟩),(174,⟨c174,21,[.tmp 4]⟩),(175,⟨c175,65,[.tmp 4]⟩),(176,⟨c176,26,[.tmp 2]⟩),(200,⟨c200,2,[.cell 0 248]⟩),(203,⟨c203,18,[.tmp 4]⟩),(205,⟨c205,9,[]⟩),(206,⟨c206,2,[.cell 0 254]⟩),(207,⟨c207,19,[.tmp 4]⟩),(209,⟨c209,8,[.tmp 2]⟩),(210,⟨c210,44,[.tmp 2]⟩),(278,⟨c278,17,[.tmp 2]⟩),(280,⟨c280,20,[.tmp 2]⟩),(281,⟨c281,11,[.tmp 2]⟩),(282,⟨c282,19,[.tmp 2]⟩),(283,⟨c283,24,[.tmp 2]⟩),(284,⟨c284,7,[.tmp 2]⟩),(285,⟨c285,19,[.tmp 2]⟩),(286,⟨c286,17,[.tmp 2]⟩),(287,⟨c287,9,[.tmp 2]⟩)]
theorem D4:∀x∈Cs,Kv prog x:=by
 unfold Cs;simp only[List.forall_mem_cons];exact⟨⟨f65,_,func65,rfl,ntmps65,rfl,by kernel_rfl⟩,⟨f118,_,func118,rfl,ntmps118,rfl,by kernel_rfl⟩,⟨f121,_,func121,rfl,ntmps121,rfl,by kernel_rfl⟩,⟨f123,_,func123,rfl,ntmps123,rfl,by kernel_rfl⟩,⟨f124,_,func124,rfl,ntmps124,rfl,by kernel_rfl⟩,⟨f125,_,func125,rfl,ntmps125,rfl,by kernel_rfl⟩,⟨f161,_,func161,rfl,ntmps161,rfl,by kernel_rfl⟩,⟨f165,_,func165,rfl,ntmps165,rfl,by kernel_rfl⟩,⟨f166,_,func166,rfl,ntmps166,rfl,by kernel_rfl⟩,⟨f167,_,func167,rfl,ntmps167,rfl,by kernel_rfl⟩,⟨f168,_,func168,rfl,ntmps168,rfl,by kernel_rfl⟩,⟨f173,_,func173,rfl,ntmps173,rfl,by kernel_rfl⟩,⟨f174,_,func174,rfl,ntmps174,rfl,by kernel_rfl⟩,⟨f175,_,func175,rfl,ntmps175,rfl,by kernel_rfl⟩,⟨f176,_,func176,rfl,ntmps176,rfl,by kernel_rfl⟩,⟨f200,_,func200,rfl,ntmps200,rfl,by kernel_rfl⟩,⟨f203,_,func203,rfl,ntmps203,rfl,by kernel_rfl⟩,⟨f205,_,func205,rfl,ntmps205,rfl,by kernel_rfl⟩,⟨f206,_,func206,rfl,ntmps206,rfl,by kernel_rfl⟩,⟨f207,_,func207,rfl,ntmps207,rfl,by kernel_rfl⟩,⟨f209,_,func209,rfl,ntmps209,rfl,by kernel_rfl⟩,⟨f210,_,func210,rfl,ntmps210,rfl,by kernel_rfl⟩,⟨f278,_,func278,rfl,ntmps278,rfl,by kernel_rfl⟩,⟨f280,_,func280,rfl,ntmps280,rfl,by kernel_rfl⟩,⟨f281,_,func281,rfl,ntmps281,rfl,by kernel_rfl⟩,⟨f282,_,func282,rfl,ntmps282,rfl,by kernel_rfl⟩,⟨f283,_,func283,rfl,ntmps283,rfl,by kernel_rfl⟩,⟨f284,_,func284,rfl,ntmps284,rfl,by kernel_rfl⟩,⟨f285,_,func285,rfl,ntmps285,rfl,by kernel_rfl⟩,⟨f286,_,func286,rfl,ntmps286,rfl,by kernel_rfl⟩,⟨f287,_,func287,rfl,ntmps287,rfl,by kernel_rfl⟩,λ_ h=>nomatch h⟩
def CU:AV->Option (List UInt8)
 |.str l=>some l
 |_=>none
def GM:List AV->Option eZ
 |[.int .i64 n]=>if 0<=n/\n<100 then some (.ret (.str (jC n)))else none
 |_=>none
def G7:List AV->Option eZ
 |[.str s,.str [c]]=>if s.length<1000 then some (.ret (strs (fu c s)))else none
 |_=>none
def GH:List AV->Option eZ
 |[.slice .view es,.str sep]=>match mS CU es with
  |some ls=>if ls.length<=1000/\(Lib.join ls sep).length<=1000 then some (.ret (.str (Lib.join ls sep)))else none
  |none=>none
 |_=>none
def E4:List AV->Option eZ
 |[.str w]=>if w.length<1000/\yY w=true then some (.ret (.int .i64 (cz w)))else none
 |_=>none
def F2:List AV->Option eZ
 |[.slice .view es]=>match mS CU es with
  |some ws=>if ws.length<=1000/\ws.all yY=true then some (.ret (.slice (if ws.isEmpty then .nil else .view) (ints (ws.map cz))))else none
  |none=>none
 |_=>none
def zV:AV->Option Int
 |.int .i64 n=>some n
 |_=>none
def EX:List AV->Option eZ
 |[.slice .view es]=>match mS zV es with
  |some (n::l)=>if l.length<900/\((n::l).all λn=>decide (0<=n/\n<100))=true then some (.ret (.slice (.own 9) (((n::l).map jC).map .str)))else none
  |_=>none
 |_=>none
def CW:uU:=λf args=>
 bif Nat.beq f 162 then GM args else bif Nat.beq f 164 then G7 args else bif Nat.beq f 199 then GH args else bif Nat.beq f 169 then E4 args else bif Nat.beq f 208 then F2 args else bif Nat.beq f 279 then EX args else none
theorem qU:∀{es:List AV}{ls:List (List UInt8)},mS CU es=some ls->es=ls.map AV.str
 |[],_,h=>by cases h;rfl
 |x::es,ls,h=>by
  unfold mS at h;split at h
  case h_2=>cases h
  rename_i a ha;split at h
  case h_2=>cases h
  rename_i r hr;cases h
  have:x=.str a:=by
   unfold CU at ha
   split at ha<;>cases ha
   rfl
  rw[afv,<-this,<-qU hr]
theorem Gc(hG:au GI){args:List AV}{out:eZ}(h:GM args=some out):AC prog GI 162 args out:=by
 unfold GM at h;split at h
 case h_2=>cases h
 split at h<;>cases h
 rename_i hc;exact sQ hc.1 hc.2
theorem Gk(lI:ML GI){args:List AV}{out:eZ}(h:G7 args=some out):AC prog GI 164 args out:=by
 unfold G7 at h;split at h
 case h_2=>cases h
 split at h<;>cases h
 exact Nj lI _ _ (by omega)
theorem Fi{args:List AV}{out:eZ}(h:GH args=some out):AC prog GI 199 args out:=by
 unfold GH at h;split at h
 case h_2=>cases h
 split at h
 case h_2=>cases h
 rename_i hd
 split at h<;>cases h
 rename_i hc;rw[qU hd];exact MZ _ _ (by omega) (by omega)
theorem GR(hG:au GI){args:List AV}{out:eZ}(h:E4 args=some out):AC prog GI 169 args out:=by
 unfold E4 at h;split at h
 case h_2=>cases h
 split at h<;>cases h
 rename_i w hc;exact HZ hG w hc.2
theorem G4(hG:au GI){args:List AV}{out:eZ}(h:F2 args=some out):AC prog GI 208 args out:=by
 unfold F2 at h;split at h
 case h_2=>cases h
 split at h
 case h_2=>cases h
 rename_i ws hd
 split at h<;>cases h
 rename_i hc;rw[qU hd]
 have hw:∀w∈ws,_:=λw hw=>vW.1 (afC.1 hc.2 w hw)
 exact Mv hG (by omega) (λw h=>⟨(hw w h).1,by have:=(hw w h).2.1;omega,(hw w h).2.2.1⟩) λw h=>by
  have r:=qe w (hw w h).2.2.1 (hw w h).2.1;have:=sQ (GI:=GI) r.1 r.2;rwa [(hw w h).2.2.2]at this
theorem wi:∀{es:List AV}{ls:List Int},mS zV es=some ls->es=ints ls
 |[],_,h=>by cases h;rfl
 |x::es,ls,h=>by
  unfold mS at h;split at h
  case h_2=>cases h
  rename_i a ha;split at h
  case h_2=>cases h
  rename_i r hr;cases h
  have:x=.int .i64 a:=by
   unfold zV at ha
   split at ha<;>cases ha
   rfl
  rw[this,wi hr]<;>rfl
theorem GA(hG:au GI){args:List AV}{out:eZ}(h:EX args=some out):AC prog GI 279 args out:=by
 unfold EX at h;split at h
 case h_2=>cases h
 split at h
 case h_2=>cases h
 rename_i n l hd
 split at h<;>cases h
 rename_i hc;rw[wi hd]
 exact NI hG (n::l) (by simp) (by simp;omega) λx hx=>by have:=afC.1 hc.2 x hx;exact agE (p:=0<=x/\x<100) this
theorem lX{f k:Nat}{args:List AV}{x y:Option eZ}{out:eZ}(h:(bif Nat.beq f k then x else y)=some out)(h1:x=some out->AC prog GI k args out)(h2:y=some out->AC prog GI f args out):AC prog GI f args out:=by
 rcases IN h with⟨hf,h⟩|⟨-,h⟩
 .rw[ahz hf];exact h1 h
 .exact h2 h
theorem BP(hG:au GI)(lI:ML GI)(f:Nat)(args:List AV)(out:eZ)(h:CW f args=some out):AC prog GI f args out:=
 lX h (Gc hG) λh=>lX h (Gk lI) λh=>lX h Fi λh=>lX h (GR hG) λh=>lX h (G4 hG) λh=>lX h (GA hG) λh=>nomatch h
noncomputable def C_:uU:=UC prog CW (IP Cs) 1000 60
theorem tv(hG:au GI)(lI:ML GI)(f:Nat)(args:List AV)(out:eZ)(h:C_ f args=some out):AC prog GI f args out:=
 JB hG cC (BP hG lI) (Db D4) 60 f args out h
def lk:List UInt8:=[116,114,97,109,32,49,32,49,32,49,32,48,10,99,101,108,108,32,49,32,50,32,110,111,10,101,110,100,32,49,55,56,10,102,114,111,110,116,32,49,32,49,10,115,112,97,99,101,115,32,48,32,48,32,48,32,48,32,49,10,115,105,103,110,32,49,10,119,111,114,100,32,110,111,32,48,32,45,10,101,110,100,32,48,57,56,10]
def gu:aq:=⟨[⟨1,2,false⟩],1,1,1,0,⟨[1],[],0,0,0,0,1,[⟨[0],[],false⟩],1,1⟩⟩
def Qb:ar:=⟨[],[],0,0,0,0,0,[],0,0⟩
def nt:aq:={ gu with name:=Qb }
noncomputable def Fk:Dh:=⟨c172,171,[.cell 2 29]⟩
theorem Vb:C_ 65 [a_ gu]=some (.ret (.str lk)):=by kernel_rfl
theorem PQ:To prog C_ 1000 5 5 Fk [.str (lk.drop 33)]=some (.ret (bQ gu.name)):=by kernel_rfl
theorem Qo:C_ 121 [.str lk]=some (.ret (.d_ [a_ nt,.str (lk.drop 33)])):=by kernel_rfl
end Go.Proofs.Tryz
namespace Go.Proofs.Tryz
open Go Go.AL Go.RowKit Go.Proofs Go.Proofs.Tram
attribute [local simp] dh eE dY dv dK dj di cQ cT dL cP ct fF fE aD aL ev aT.S aT.H bu av aY AL.start AV.cells AV.storable AV.cg bo cE dI ck HR.okB post cw cH cI AV.out AV.bU b_ df fz iA AV.vw du vI int cG aP cV db fQ iu fV eG da AV.aI AV.cm
variable{GI:World->Prop}
theorem Ia(hG:au GI)(lI:ML GI):AC prog GI 121 [.str lk] (.ret (.d_ [a_ nt,.str (lk.drop 33)])):=tv hG lI _ _ _ Qo
theorem Lk(hG:au GI)(lI:ML GI):AC prog GI 65 [a_ gu] (.ret (.str lk)):=tv hG lI _ _ _ Vb
theorem FA:er gu:=⟨by decide,by decide,by decide,by decide,λw hw=>by
 simp[gu]at hw;subst hw;decide,λw hw=>by
 simp[gu]at hw;subst hw;decide⟩
theorem IH(hG:au GI)(lI:ML GI):AC prog GI 122 [.str (lk.drop 33)] (.ret (.d_ [bQ gu.name,.int .i64 0])):=
 NA hG (s:=lk.drop 33) (x:=ae gu.name) (by decide) rfl (Hk hG cC (tv hG lI) (f:=172) (fn:=Fk) ⟨f172,_,func172,rfl,ntmps172,rfl,by kernel_rfl,by kernel_rfl⟩ PQ) (by
  have:=Az (GI:=GI) hG gu.name FA.name
  rwa [show aU gu.name=true by kernel_rfl]at this)
noncomputable def uY:af:=af.qb c63.qb.qb.qb
theorem DI(x:aq):(ao x).map AV.aI=ao x:=by simp[ao,ae,AV.aI,vI]
def eL:List AV:=[.slice .nil [],.int .i64 0,.int .i64 0,.int .i64 0,.int .i64 0,.slice .nil [],.slice .nil [],.int .i64 0,.int .i64 0,.int .i64 0,.int .i64 0,.int .i64 0,.slice .nil [],.int .i64 0,.int .i64 0]
theorem NL(hG:au GI)(lI:ML GI):AC prog GI 63 [.str lk] (.ret (.d_ [a_ gu,.int .i64 0])):=by
 obtain⟨i31,lz,lx⟩:=bh (P:=prog) (t:=31) (s:=15) (by kernel_rfl);obtain⟨fs,eQ⟩:=bV (P:=prog) (t:=31) (by kernel_rfl);have P3:=Ia hG lI;have PG:=IH hG lI;have a77:=mK (GI:=GI) hG gu FA;rw[show cq gu=true by kernel_rfl]at a77;have hK:gu={ nt with name:=gu.name }:=rfl
 have Vu:¬(530:Int)<lk.length:=by decide
 generalize lk.drop 33=u at*
 generalize lk=t at*
 have oT:∀ (w0:World) (g:Gh) (S:aF) (H:aK) (a:Act) (w:World),GI w0→Rel prog w0 42 dU g S H a w→S 1 = .box 1 0→H 1=some [.str t]→S 4 = .box 4 0→H 4=some eL→S 5 = .box 5 0→H 5=some [.str []] →
    Calls prog 119 #[.func (.func 120) #[] #[a.tmps.getD 1 undef,a.tmps.getD 4 undef,a.tmps.getD 5 undef]] w λen w2=>en=.returned (.int .i64 0)/\∃(c:Value)(g':Gh)(S':aF)(H':aK),g'.old=g.old/\Rel prog w0 42 dU g' S' H' (a.put (some 14) c) w2/\S' 2=S 2/\H' 2=H 2/\S' 4=.box 4 0/\H' 4=some (ao nt)/\S' 5=.box 5 0/\H' 5=some [.str u]:=by
  intro w0 g S H a w dS R q1 h1 q4 h4 q5 h5
  refine qj (d:=14) (by kernel_rfl) R λg1 w1 R1 jq _ _=>?_
  refine(DF hG dS R1 (d:=14) (i1:=1) (i4:=4) (i5:=5) (by decide) (by decide) (by decide) (by decide) (by decide) (by decide) (by decide) q1 h1 q4 h4 q5 h5 rfl rfl P3).mono ?_;rintro en w2 ⟨rfl,c,g',S',H',sE,R',pv,ph⟩;refine⟨rfl,c,g',S',H',sE,R',pv 2 (by decide),?_,by rw[pv 4 (by decide)];exact q4,?_,by rw[pv 5 (by decide)];exact q5,?_⟩
  .rw[ph];simp[av]
  .rw[ph];simp[av];exact DI nt
  .rw[ph];simp[av]
 refine AC.gY func63 rfl ntmps63 (by simp) λcc w=>?_
 refine dw hG c63.qa (λS' H'=>S' 1=.box 1 0/\H' 1=some [.str t]/\S' 2=.box 2 0/\H' 2=some (eL)) ?_ ?_
 .simp[c63,af.qa,eL]
 rintro S H ⟨s1,h1,s2,h2⟩;refine SW.seq (dw hG c63.qb.qa.qa (λS' H'=>S' 1=.box 1 0/\H' 1=some [.str t]/\S' 2=.box 2 0/\H' 2=some (eL)/\S' 11=.bool false) ?_ ?_)
 .simp[c63,af.qa,af.qb,s1,h1,s2,h2,Vu]
 clear s1 h1 s2 h2 S H;rintro S H ⟨s1,h1,s2,h2,bn⟩;refine SW.cond rfl false (by show S 11=_;rw[bn]) (SW.skip ?_);clear bn;show SW prog GI 42 none (.seq _ (.seq _ (.seq (.seq _ (.seq _ (.cond _ (.seq _ .ret) .skip))) _))) _ _ _ _;refine dw hG c63.qb.qb.qa (λS' H'=>S' 1=.box 1 0/\H' 1=some [.str t]/\S' 2=.box 2 0/\H' 2=some (eL)/\S' 4=.box 4 0/\H' 4=some (eL)) ?_ ?_
 .simp[c63,af.qa,af.qb,s1,h1,s2,h2,eL]
 clear s1 h1 s2 h2 S H;rintro S H ⟨s1,h1,s2,h2,s4,h4⟩;refine dw hG c63.qb.qb.qb.qa (λS' H'=>S' 1=.box 1 0/\H' 1=some [.str t]/\S' 2=.box 2 0/\H' 2=some (eL)/\S' 4=.box 4 0/\H' 4=some (eL)/\S' 5=.box 5 0/\H' 5=some [.str []]) ?_ ?_
 .simp[c63,af.qa,af.qb,s1,h1,s2,h2,s4,h4]
 clear s1 h1 s2 h2 s4 h4 S H;rintro S3 H3 ⟨s1,h1,s2,h2,s4,h4,s5,h5⟩
 refine SW.seq (SW.seq (SW.hand hG (p:=0) (lm:=[0,1]) (l2:=[2]) (kY:=[]) (oh:=[_,_]) (lJ:=[_]) rfl rfl rfl rfl (by kernel_rfl) (λ_ h=>h) (lM:=[]) (kP:=(c63.qb.qb.qb.qb.qa.qa.dl).drop 2) rfl (by kernel_rfl) rfl (by kernel_rfl)
  (K1:=λS' H'=>S' 1=.box 1 0/\H' 1=some [.str t]/\S' 2=.box 2 0/\H' 2=some (eL)/\S' 4=.box 4 0/\H' 4=some (eL)/\S' 5=.box 5 0/\H' 5=some [.str []])
  (K2:=λo S' H'=>o=Old.plain cc w/\S' 2=.box 2 0/\H' 2=some (eL)/\S' 4=.box 4 0/\H' 4=some (ao nt)/\S' 5=.box 5 0/\H' 5=some [.str u]/\S' 14=.int .i64 0)
  (K3:=λo S' H'=>o=Old.plain cc w/\S' 2=.box 2 0/\H' 2=some (eL)/\S' 4=.box 4 0/\H' 4=some (ao nt)/\S' 5=.box 5 0/\H' 5=some [.str u]/\S' 6=.int .i64 0) ⟨s1,h1,s2,h2,s4,h4,s5,h5⟩ ?_ ?_ ?_))
 .rintro w0 g S5 H5 a w5 m dS ho R ⟨s1,h1,s2,h2,s4,h4,s5,h5⟩;have bL:=R.size;refine aW rfl rfl (by rfl) (kB (fn:=.func 120) (c:=#[.tmp 1,.tmp 4,.tmp 5]) rfl) ?_
  obtain⟨fv,jQ⟩:∃fv:Value,fv=.func (.func 120) #[] (#[Operand.tmp 1,.tmp 4,.tmp 5].map a.eval):=⟨_,rfl⟩
  show wpOpsIn _ _ _ _ _ [1] (a.put (some 13) (.func (.func 120) #[] (#[Operand.tmp 1,.tmp 4,.tmp 5].map a.eval))) w5;rw[<-jQ];have R1:=R.put 13 .bB fv (by decide) (.bB _) trivial
  obtain⟨a1,oI⟩:∃a1,a.put (some 13) fv=a1:=⟨_,rfl⟩
  rw[oI]at R1⊢
  have uc:fv=.func (.func 120) #[] #[a1.tmps.getD 1 undef,a1.tmps.getD 4 undef,a1.tmps.getD 5 undef]:=by
   have e1:=bt a 13 1 fv (by omega);have e2:=bt a 13 4 fv (by omega);have e4:=bt a 13 5 fv (by omega);rw[if_neg (by decide),oI]at e1 e2 e4;have A6:a1.tmps.getD 1 undef=a.eval (.tmp 1):=e1;have K6:a1.tmps.getD 4 undef=a.eval (.tmp 4):=e2;have Ch:a1.tmps.getD 5 undef=a.eval (.tmp 5):=e4;rw[A6,K6,Ch,jQ];simp only[afw,afv,afB]
  have ij:a1.eval (.tmp 13)=fv:=by rw[<-oI,bt _ _ _ _ (by omega),if_pos rfl]
  refine eS rfl rfl (by rfl) (fU (k:=119) (args:=#[.func (.func 120) #[] #[a1.tmps.getD 1 undef,a1.tmps.getD 4 undef,a1.tmps.getD 5 undef]]) w5 rfl rfl ?_ (by kernel_rfl)) (oT w0 g _ _ a1 w5 dS R1 (by simp[av,s1]) h1 (by simp[av,s4]) h4 (by simp[av,s5]) h5) ?_
  .simp only[afw,afv,afB,ij,<-uc]
  .rintro en w6 ⟨rfl,c,g',S',H',sE,R2,oB,pq,xl,BU,tC,yv⟩;refine⟨_,rfl,?_⟩;have R3:=R2.put 14 (.int .i64 0) (.int .i64 0) (by decide) (.data _ _ (.int _ _)) trivial;rw[ml]at R3;exact⟨g',_,H',R3,sE.trans ho,by rw[cN _ _ (by decide),oB];simp[av,s2],pq.trans h2,by rw[cN _ _ (by decide)];exact xl,BU,by rw[cN _ _ (by decide)];exact tC,yv,bm _ _ _⟩
 .rintro o S5 H5 ⟨rfl,s2,h2,s4,h4,s5,h5,cU⟩;refine⟨λ_ h=>h,?_⟩;simp[c63,af.qa,af.qb,af.dl,s2,h2,s4,h4,s5,h5,cU]
 rintro o S5 H5 ⟨rfl,s2,h2,s4,h4,s5,h5,s6⟩;clear s1 h1;show SW prog GI 42 none (.seq _ (.cond _ (.seq _ .ret) .skip)) _ _ _ _;refine dw hG c63.qb.qb.qb.qb.qa.qb.qa (λS' H'=>S' 2=.box 2 0/\H' 2=some (eL)/\S' 4=.box 4 0/\H' 4=some (ao nt)/\S' 5=.box 5 0/\H' 5=some [.str u]/\S' 6=.int .i64 0/\S' 16=.bool false) ?_ ?_
 .simp[c63,af.qa,af.qb,s2,h2,s4,h4,s5,h5,s6]
 clear s2 h2 s4 h4 s5 h5 s6;rintro S6 H6 ⟨s2,h2,s4,h4,s5,h5,s6,dR⟩;refine SW.cond rfl false (by show S6 16=_;rw[dR]) (SW.skip ?_);clear s6 dR;show SW prog GI 42 none (.seq _ (.seq (.seq _ (.cond _ (.seq _ .ret) .skip)) (.seq _ (.seq (.seq _ (.cond _ (.seq _ .ret) .skip)) (.seq _ .ret))))) _ _ _ _;refine dw hG uY.qb.qa (λS' H'=>S' 2=.box 2 0/\H' 2=some (eL)/\S' 4=.box 4 0/\H' 4=some (ao nt)/\S' 7=.box 7 0/\H' 7=some (ae gu.name)/\S' 8=.int .i64 0) ?_ ?_
 .simp[c63,uY,af.qa,af.qb,s5,h5];refine oc PG ?_;simp[s2,h2,s4,h4,bQ,ae]
 clear s2 h2 s4 h4 s5 h5;rintro S7 H7 ⟨s2,h2,s4,h4,s7,h7,s8⟩;refine SW.seq (dw hG uY.qb.qb.qa.qa (λS' H'=>S' 2=.box 2 0/\H' 2=some (eL)/\S' 4=.box 4 0/\H' 4=some (ao nt)/\S' 7=.box 7 0/\H' 7=some (ae gu.name)/\S' 8=.int .i64 0/\S' 29=.bool false) ?_ ?_)
 .simp[c63,uY,af.qa,af.qb,s2,h2,s4,h4,s7,h7,s8]
 clear s2 h2 s4 h4 s7 h7 s8;rintro S7 H7 ⟨s2,h2,s4,h4,s7,h7,s8,RL⟩;refine SW.cond rfl false (by show S7 29=_;rw[RL]) (SW.skip ?_);clear RL;show SW prog GI 42 none (.seq _ (.seq (.seq _ (.cond _ (.seq _ .ret) .skip)) (.seq _ .ret))) _ _ _ _;refine dw hG uY.qb.qb.qb.qa (λS' H'=>S' 2=.box 2 0/\H' 2=some (eL)/\S' 4=.box 4 0/\H' 4=some (ao gu)/\S' 8=.int .i64 0) ?_ ?_
 .simp[c63,uY,af.qa,af.qb,s2,h2,s4,h4,s7,h7,s8,ao,ae,nt,gu,Qb]
 clear s2 h2 s4 h4 s7 h7 s8;rintro S7 H7 ⟨s2,h2,s4,h4,s8⟩;refine SW.seq (dw hG uY.qb.qb.qb.qb.qa.qa (λS' H'=>S' 2=.box 2 0/\H' 2=some (eL)/\S' 4=.box 4 0/\H' 4=some (ao gu)/\S' 39=.bool false) ?_ ?_)
 .simp[c63,uY,af.qa,af.qb,s2,h2,s4,h4,s8,ao,ae];refine oc a77 ?_;simp[s2,h2,s4,h4,s8,ao,ae]
 clear s2 h2 s4 h4 s8;rintro S7 H7 ⟨s2,h2,s4,h4,UX⟩;refine SW.cond rfl false (by show S7 39=_;rw[UX]) (SW.skip ?_);show SW prog GI 42 none (.seq _ .ret) _ _ _ _;refine dw hG uY.qb.qb.qb.qb.qb.qa (λS' H'=>S' 2=.box 2 0/\S' 3=.int .i64 0/\H' 2=some (ao gu)) ?_ ?_
 .simp[c63,uY,af.qa,af.qb,s2,h2,s4,h4,ao,ae,eL]
 clear s2 h2 s4 h4;rintro S8 H8 ⟨s2,s3,h2⟩;refine SW.ret ⟨eD.plain rfl,rfl,_,?_,rfl⟩;show cw prog 42 [.cell 2 31,.tmp 3] S8 H8=_;simp[cw,cH,cI,s2,s3,h2,lz,eQ,lx,ck,fg,AV.out,AV.aI,AV.bU,AV.vw,AV.cm,a_,ao,ae,vI]
theorem xS:xu iw=[vI [1],.int .i64 0]:=by kernel_rfl
theorem Q8(hG:au GI)(lI:ML GI):AC prog GI 22 [] (.ret (.bool true)):=by
 have d:=Rw (GI:=GI) hG;have a:=FP (GI:=GI) hG;have b:=Qy (GI:=GI) hG;have q1:=Oh (GI:=GI) hG qm E';have q2:=OC (GI:=GI) hG iw mu;have q3:=OF (GI:=GI) hG iw mu [3,2,2,4,5,1] (by decide);have q4:=Ol (GI:=GI) hG iw mu;have q5:=O3 (GI:=GI) hG qm E';have q6:=OW (GI:=GI) hG iw mu 1;have q7:=Qe (GI:=GI) hG iw mu;have q8:=OY (GI:=GI) hG tM EW;have q9:=O0 (GI:=GI) hG iw mu;have Sa:=O7 (GI:=GI) hG tM EW;have Rf:=Pm (GI:=GI) hG iw mu;have UY:=NL hG lI;have V3:=Lk hG lI;rw[xz]at q1;rw[wU]at q2;rw[zb]at q3;rw[Al]at q4;rw[AF]at q5;rw[Aw]at q6;rw[zR]at q7;rw[BH]at q8;rw[At]at q9;rw[An]at Sa;rw[xS]at Rf;have p1:=JV (GI:=GI) hG [9] [9] (by decide);have p2:=Pd (GI:=GI) hG [(1,1),(3,5)] [(1,1),(3,5)] (by decide);have p3:=JV (GI:=GI) hG [1] [1] (by decide);refine bP hG func22 ntmps22 c22 ?_;refine az (λS H=>S 0=.bool false) (by simp) ?_
 rintro S H -
 refine az (λS H=>S 1=vI [9]/\S 2=.int .i64 0) ?_ ?_
 .simp;refine oc d ?_;simp[a_,ao,ae];refine oc q1 ?_;simp
 clear S H;rintro S H ⟨s1,s2⟩;refine az (λS H=>S 1=vI [9]/\S 2=.int .i64 0/\S 3=.slice .view (aH [(1,1),(3,5)])/\S 4=.int .i64 0) ?_ ?_
 .simp[s1,s2];refine oc a ?_;simp[a_,ao,ae,s1,s2];refine oc q2 ?_;simp[s1,s2]
 clear s1 s2 S H;rintro S H ⟨s1,s2,s3,s4⟩;refine az (λS H=>S 1=vI [9]/\S 2=.int .i64 0/\S 3=.slice .view (aH [(1,1),(3,5)])/\S 4=.int .i64 0/\S 5=.int .i64 2/\S 6=.int .i64 0) ?_ ?_
 .simp[s1,s2,s3,s4];refine oc a ?_;simp[a_,ao,ae,s1,s2,s3,s4];refine oc q3 ?_;simp[s1,s2,s3,s4]
 clear s1 s2 s3 s4 S H;rintro S H ⟨s1,s2,s3,s4,s5,s6⟩;refine az (λS H=>S 1=vI [9]/\S 2=.int .i64 0/\S 3=.slice .view (aH [(1,1),(3,5)])/\S 4=.int .i64 0/\S 5=.int .i64 2/\S 6=.int .i64 0/\S 7=.int .i64 1/\S 8=.int .i64 0) ?_ ?_
 .simp[s1,s2,s3,s4,s5,s6];refine oc a ?_;simp[a_,ao,ae,s1,s2,s3,s4,s5,s6];refine oc q4 ?_;simp[s1,s2,s3,s4,s5,s6]
 clear s1 s2 s3 s4 s5 s6 S H;rintro S H ⟨s1,s2,s3,s4,s5,s6,s7,s8⟩;refine az (λS H=>S 1=vI [9]/\S 2=.int .i64 0/\S 3=.slice .view (aH [(1,1),(3,5)])/\S 4=.int .i64 0/\S 5=.int .i64 2/\S 6=.int .i64 0/\S 7=.int .i64 1/\S 8=.int .i64 0/\S 9=.int .i64 1/\S 10=.int .i64 0) ?_ ?_
 .simp[s1,s2,s3,s4,s5,s6,s7,s8];refine oc d ?_;simp[a_,ao,ae,s1,s2,s3,s4,s5,s6,s7,s8];refine oc q5 ?_;simp[s1,s2,s3,s4,s5,s6,s7,s8]
 clear s1 s2 s3 s4 s5 s6 s7 s8 S H;rintro S H ⟨s1,s2,s3,s4,s5,s6,s7,s8,s9,bw⟩;refine az (λS H=>S 1=vI [9]/\S 2=.int .i64 0/\S 3=.slice .view (aH [(1,1),(3,5)])/\S 4=.int .i64 0/\S 5=.int .i64 2/\S 6=.int .i64 0/\S 7=.int .i64 1/\S 8=.int .i64 0/\S 9=.int .i64 1/\S 10=.int .i64 0/\S 11=.int .i64 2/\S 12=.int .i64 0) ?_ ?_
 .simp[s1,s2,s3,s4,s5,s6,s7,s8,s9,bw];refine oc a ?_;simp[a_,ao,ae,s1,s2,s3,s4,s5,s6,s7,s8,s9,bw];refine oc q6 ?_;simp[s1,s2,s3,s4,s5,s6,s7,s8,s9,bw]
 clear s1 s2 s3 s4 s5 s6 s7 s8 s9 bw S H;rintro S H ⟨s1,s2,s3,s4,s5,s6,s7,s8,s9,bw,bn,bJ⟩;refine az (λS H=>S 1=vI [9]/\S 2=.int .i64 0/\S 3=.slice .view (aH [(1,1),(3,5)])/\S 4=.int .i64 0/\S 5=.int .i64 2/\S 6=.int .i64 0/\S 7=.int .i64 1/\S 8=.int .i64 0/\S 9=.int .i64 1/\S 10=.int .i64 0/\S 11=.int .i64 2/\S 12=.int .i64 0/\S 13=.int .i64 1/\S 14=.int .i64 4/\S 15=.int .i64 0) ?_ ?_
 .simp[s1,s2,s3,s4,s5,s6,s7,s8,s9,bw,bn,bJ];refine oc a ?_;simp[a_,ao,ae,s1,s2,s3,s4,s5,s6,s7,s8,s9,bw,bn,bJ];refine oc q7 ?_;simp[s1,s2,s3,s4,s5,s6,s7,s8,s9,bw,bn,bJ]
 clear s1 s2 s3 s4 s5 s6 s7 s8 s9 bw bn bJ S H;rintro S H ⟨s1,s2,s3,s4,s5,s6,s7,s8,s9,bw,bn,bJ,b0,cU,fq⟩;refine az (λS H=>S 1=vI [9]/\S 2=.int .i64 0/\S 3=.slice .view (aH [(1,1),(3,5)])/\S 4=.int .i64 0/\S 5=.int .i64 2/\S 6=.int .i64 0/\S 7=.int .i64 1/\S 8=.int .i64 0/\S 9=.int .i64 1/\S 10=.int .i64 0/\S 11=.int .i64 2/\S 12=.int .i64 0/\S 13=.int .i64 1/\S 14=.int .i64 4/\S 15=.int .i64 0/\S 16=.int .i64 3/\S 17=.int .i64 0) ?_ ?_
 .simp[s1,s2,s3,s4,s5,s6,s7,s8,s9,bw,bn,bJ,b0,cU,fq];refine oc b ?_;simp[a_,ao,ae,s1,s2,s3,s4,s5,s6,s7,s8,s9,bw,bn,bJ,b0,cU,fq];refine oc q8 ?_;simp[s1,s2,s3,s4,s5,s6,s7,s8,s9,bw,bn,bJ,b0,cU,fq]
 clear s1 s2 s3 s4 s5 s6 s7 s8 s9 bw bn bJ b0 cU fq S H;rintro S H ⟨s1,s2,s3,s4,s5,s6,s7,s8,s9,bw,bn,bJ,b0,cU,fq,dR,iI⟩;refine az (λS H=>S 1=vI [9]/\S 2=.int .i64 0/\S 3=.slice .view (aH [(1,1),(3,5)])/\S 4=.int .i64 0/\S 5=.int .i64 2/\S 6=.int .i64 0/\S 7=.int .i64 1/\S 8=.int .i64 0/\S 9=.int .i64 1/\S 10=.int .i64 0/\S 11=.int .i64 2/\S 12=.int .i64 0/\S 13=.int .i64 1/\S 14=.int .i64 4/\S 15=.int .i64 0/\S 16=.int .i64 3/\S 17=.int .i64 0/\S 18=.int .i64 1/\S 19=.int .i64 0) ?_ ?_
 .simp[s1,s2,s3,s4,s5,s6,s7,s8,s9,bw,bn,bJ,b0,cU,fq,dR,iI];refine oc a ?_;simp[a_,ao,ae,s1,s2,s3,s4,s5,s6,s7,s8,s9,bw,bn,bJ,b0,cU,fq,dR,iI];refine oc q9 ?_;simp[s1,s2,s3,s4,s5,s6,s7,s8,s9,bw,bn,bJ,b0,cU,fq,dR,iI]
 clear s1 s2 s3 s4 s5 s6 s7 s8 s9 bw bn bJ b0 cU fq dR iI S H;rintro S H ⟨s1,s2,s3,s4,s5,s6,s7,s8,s9,bw,bn,bJ,b0,cU,fq,dR,iI,iM,j3⟩;refine az (λS H=>S 1=vI [9]/\S 2=.int .i64 0/\S 3=.slice .view (aH [(1,1),(3,5)])/\S 4=.int .i64 0/\S 5=.int .i64 2/\S 6=.int .i64 0/\S 7=.int .i64 1/\S 8=.int .i64 0/\S 9=.int .i64 1/\S 10=.int .i64 0/\S 11=.int .i64 2/\S 12=.int .i64 0/\S 13=.int .i64 1/\S 14=.int .i64 4/\S 15=.int .i64 0/\S 16=.int .i64 3/\S 17=.int .i64 0/\S 18=.int .i64 1/\S 19=.int .i64 0/\S 20=.int .i64 4/\S 21=.int .i64 2/\S 22=.int .i64 0) ?_ ?_
 .simp[s1,s2,s3,s4,s5,s6,s7,s8,s9,bw,bn,bJ,b0,cU,fq,dR,iI,iM,j3];refine oc b ?_;simp[a_,ao,ae,s1,s2,s3,s4,s5,s6,s7,s8,s9,bw,bn,bJ,b0,cU,fq,dR,iI,iM,j3];refine oc Sa ?_;simp[s1,s2,s3,s4,s5,s6,s7,s8,s9,bw,bn,bJ,b0,cU,fq,dR,iI,iM,j3]
 clear s1 s2 s3 s4 s5 s6 s7 s8 s9 bw bn bJ b0 cU fq dR iI iM j3 S H;rintro S H ⟨s1,s2,s3,s4,s5,s6,s7,s8,s9,bw,bn,bJ,b0,cU,fq,dR,iI,iM,j3,ld,i_,qA⟩;refine az (λS H=>S 1=vI [9]/\S 2=.int .i64 0/\S 3=.slice .view (aH [(1,1),(3,5)])/\S 4=.int .i64 0/\S 5=.int .i64 2/\S 6=.int .i64 0/\S 7=.int .i64 1/\S 8=.int .i64 0/\S 9=.int .i64 1/\S 10=.int .i64 0/\S 11=.int .i64 2/\S 12=.int .i64 0/\S 13=.int .i64 1/\S 14=.int .i64 4/\S 15=.int .i64 0/\S 16=.int .i64 3/\S 17=.int .i64 0/\S 18=.int .i64 1/\S 19=.int .i64 0/\S 20=.int .i64 4/\S 21=.int .i64 2/\S 22=.int .i64 0/\S 23=vI [1]/\S 24=.int .i64 0) ?_ ?_
 .simp[s1,s2,s3,s4,s5,s6,s7,s8,s9,bw,bn,bJ,b0,cU,fq,dR,iI,iM,j3,ld,i_,qA];refine oc a ?_;simp[a_,ao,ae,s1,s2,s3,s4,s5,s6,s7,s8,s9,bw,bn,bJ,b0,cU,fq,dR,iI,iM,j3,ld,i_,qA];refine oc Rf ?_;simp[s1,s2,s3,s4,s5,s6,s7,s8,s9,bw,bn,bJ,b0,cU,fq,dR,iI,iM,j3,ld,i_,qA]
 clear s1 s2 s3 s4 s5 s6 s7 s8 s9 bw bn bJ b0 cU fq dR iI iM j3 ld i_ qA S H;rintro S H ⟨s1,s2,s3,s4,s5,s6,s7,s8,s9,bw,bn,bJ,b0,cU,fq,dR,iI,iM,j3,ld,i_,qA,j8,rm⟩;refine az (λS H=>S 1=vI [9]/\S 2=.int .i64 0/\S 3=.slice .view (aH [(1,1),(3,5)])/\S 4=.int .i64 0/\S 5=.int .i64 2/\S 6=.int .i64 0/\S 7=.int .i64 1/\S 8=.int .i64 0/\S 9=.int .i64 1/\S 10=.int .i64 0/\S 11=.int .i64 2/\S 12=.int .i64 0/\S 13=.int .i64 1/\S 14=.int .i64 4/\S 15=.int .i64 0/\S 16=.int .i64 3/\S 17=.int .i64 0/\S 18=.int .i64 1/\S 19=.int .i64 0/\S 20=.int .i64 4/\S 21=.int .i64 2/\S 22=.int .i64 0/\S 23=vI [1]/\S 24=.int .i64 0/\S 25=.box 25 0/\H 25=some (ao gu)/\S 26=.int .i64 0) ?_ ?_
 .simp[s1,s2,s3,s4,s5,s6,s7,s8,s9,bw,bn,bJ,b0,cU,fq,dR,iI,iM,j3,ld,i_,qA,j8,rm];refine oc UY ?_;simp[a_,ao,ae,s1,s2,s3,s4,s5,s6,s7,s8,s9,bw,bn,bJ,b0,cU,fq,dR,iI,iM,j3,ld,i_,qA,j8,rm]
 clear s1 s2 s3 s4 s5 s6 s7 s8 s9 bw bn bJ b0 cU fq dR iI iM j3 ld i_ qA j8 rm S H;rintro S H ⟨s1,s2,s3,s4,s5,s6,s7,s8,s9,bw,bn,bJ,b0,cU,fq,dR,iI,iM,j3,ld,i_,qA,j8,rm,jv,uZ,pE⟩;refine az (λS H=>S 1=vI [9]/\S 3=.slice .view (aH [(1,1),(3,5)])/\S 5=.int .i64 2/\S 7=.int .i64 1/\S 9=.int .i64 1/\S 11=.int .i64 2/\S 13=.int .i64 1/\S 14=.int .i64 4/\S 16=.int .i64 3/\S 18=.int .i64 1/\S 20=.int .i64 4/\S 21=.int .i64 2/\S 23=vI [1]/\S 25=.box 25 0/\H 25=some (ao gu)) ?_ ?_
 .simp[s1,s3,s5,s7,s9,bn,b0,cU,dR,iM,ld,i_,j8,jv,uZ,s2,s4,s6,s8,bw,bJ,fq,iI,j3,qA,rm,pE]
 clear s1 s3 s5 s7 s9 bn b0 cU dR iM ld i_ j8 jv uZ s2 s4 s6 s8 bw bJ fq iI j3 qA rm pE S H;rintro S H ⟨s1,s3,s5,s7,s9,bn,b0,cU,dR,iM,ld,i_,j8,jv,uZ⟩;refine az (λS H=>S 16=.int .i64 3/\S 18=.int .i64 1/\S 20=.int .i64 4/\S 21=.int .i64 2/\S 23=vI [1]/\S 25=.box 25 0/\H 25=some (ao gu)) ?_ ?_
 .simp[s1,s3,s5,s7,s9,bn,b0,cU,dR,iM,ld,i_,j8,jv,uZ,aM];refine oc p1 ?_;simp[s1,s3,s5,s7,s9,bn,b0,cU,dR,iM,ld,i_,j8,jv,uZ,aM,bC];refine oc p2 ?_;simp[s1,s3,s5,s7,s9,bn,b0,cU,dR,iM,ld,i_,j8,jv,uZ,aM,bC]
 clear s1 s3 s5 s7 s9 bn b0 cU dR iM ld i_ j8 jv uZ S H;rintro S H ⟨dR,iM,ld,i_,j8,jv,uZ⟩;simp[dR,iM,ld,i_,j8,jv,uZ,aM];refine oc p3 ?_;simp[dR,iM,ld,i_,j8,jv,uZ,aM,bC];refine oc V3 ?_;simp[lk]
theorem ZE{s:aq}{w:Int}(h:oN s w=true):¬w<0/\¬(s.name.words.length:Int)<=w:=by
 unfold oN bH at h;simp only[afa,aff]at h;omega
theorem aaj{s:aq}{w:Int}(h:oN s w=false):w<0\/¬w<0/\(s.name.words.length:Int)<=w:=by
 by_cases h0:w<0
 .exact .inl h0
 .refine .inr ⟨h0,?_⟩;unfold oN bH at h;simp only[agG,agD]at h;omega
theorem ac6(hG:au GI)(lI:ML GI)(s:aq)(wd:Int):AC prog GI 6 [a_ s,.int .i64 wd] (.ret (.bool true)):=by
 have k:=Q8 hG lI;have yC:=QT (GI:=GI) hG s
 cases cK:o7 s with
 |false=>
  rw[cK]at yC;refine bP hG func6 ntmps6 c6 ?_;simp[c6,a_,ao,ae];refine oc yC ?_;simp;refine oc k ?_;simp
 |true=>
 rw[cK]at yC;obtain⟨hs,yS,oe⟩:=sO cK;have HT:=Ol (GI:=GI) hG s hs;have WW:=O3 (GI:=GI) hG s hs;have Iq:=OW (GI:=GI) hG s hs wd;have Tg:=RU (GI:=GI) hG s hs
 obtain ⟨n,e,m,f,w,g,h34,oY,yK,hc⟩:∃ n e m f w g:Int,AC prog GI 34 [a_ s] (.ret (.d_ [.int .i64 n,.int .i64 e]))∧AC prog GI 35 [a_ s] (.ret (.d_ [.int .i64 m,.int .i64 f]))∧AC prog GI 36 [a_ s,.int .i64 wd] (.ret (.d_ [.int .i64 w,.int .i64 g])) ∧
   (cq s=false/\n=0/\e=2/\m=0/\f=2/\w=0/\g=2\/cq s=true/\((dV s.name=none/\n=0/\e=7/\m=0/\f=7/\w=0/\g=(if oN s wd then 7 else 2))\/
    ∃es,dV s.name=some es/\n=(gr 0 s (aR s es):Nat)/\e=0/\m=(gr 1 s (aR s es):Nat)/\f=0/\w=(if oN s wd then yU s (aR s es) wd else 0)/\g=(if oN s wd then 0 else 2))):=by
  unfold jE at HT WW;unfold mb at Iq
  cases hI:cq s with
  |false=>rw[hI]at HT WW Iq;exact⟨_,_,_,_,_,_,HT,WW,Iq,.inl ⟨rfl,rfl,rfl,rfl,rfl,rfl,rfl⟩⟩
  |true=>
   rw[hI,agU]at Iq;rw[hI]at HT WW
   cases hE:dV s.name with
   |none=>
    rw[hE]at HT WW Iq
    cases hb:oN s wd<;>rw[hb]at Iq<;>exact⟨_,_,_,_,_,_,HT,WW,Iq,.inr ⟨rfl,.inl ⟨rfl,rfl,rfl,rfl,rfl,rfl,rfl⟩⟩⟩
   |some es=>
    rw[hE]at HT WW Iq
    cases hb:oN s wd<;>rw[hb]at Iq<;>exact⟨_,_,_,_,_,_,HT,WW,Iq,.inr ⟨rfl,.inr ⟨es,rfl,rfl,rfl,rfl,rfl,rfl,rfl⟩⟩⟩
 clear HT WW Iq;refine bP hG func6 ntmps6 c6 ?_;refine az (λS H=>S 1=.int .i64 wd/\S 2=.box 2 0/\H 2=some (ao s)) (by simp[a_,ao,ae]) ?_;rintro S H ⟨s1,s2,h2⟩;refine az (λS H=>S 1=.int .i64 wd/\S 2=.box 2 0/\H 2=some (ao s)) ?_ ?_
 .simp[s1,s2,h2,ao,ae];refine oc yC ?_;simp[s1,s2,h2,ao,ae]
 clear s1 s2 h2 S H;rintro S H ⟨s1,s2,h2⟩;refine az (λS H=>S 1=.int .i64 wd/\S 2=.box 2 0/\H 2=some (ao s)/\S 5=.int .i64 n/\S 6=.int .i64 e) ?_ ?_
 .simp[s1,s2,h2,ao,ae];refine oc h34 ?_;simp[s1,s2,h2,ao,ae]
 clear s1 s2 h2 S H;rintro S H ⟨s1,s2,h2,s5,s6⟩;refine az (λS H=>S 1=.int .i64 wd/\S 2=.box 2 0/\H 2=some (ao s)/\S 5=.int .i64 n/\S 6=.int .i64 e/\S 7=.int .i64 m/\S 8=.int .i64 f) ?_ ?_
 .simp[s1,s2,h2,ao,ae];refine oc oY ?_;simp[s1,s2,h2,s5,s6,ao,ae]
 clear s1 s2 h2 s5 s6 S H;rintro S H ⟨s1,s2,h2,s5,s6,s7,s8⟩;refine az (λS H=>S 1=.int .i64 wd/\S 2=.box 2 0/\H 2=some (ao s)/\S 5=.int .i64 n/\S 6=.int .i64 e/\S 7=.int .i64 m/\S 8=.int .i64 f/\S 9=.int .i64 w/\S 10=.int .i64 g) ?_ ?_
 .simp[s1,s2,h2,ao,ae];refine oc yK ?_;simp[s1,s2,h2,s5,s6,s7,s8,ao,ae]
 clear s1 s2 h2 s5 s6 s7 s8 S H;rintro S H ⟨s1,s2,h2,s5,s6,s7,s8,s9,bw⟩;refine az (λS H=>S 1=.int .i64 wd/\S 2=.box 2 0/\H 2=some (ao s)/\S 5=.int .i64 n/\S 6=.int .i64 e/\S 7=.int .i64 m/\S 8=.int .i64 f/\S 9=.int .i64 w/\S 10=.int .i64 g/\S 11=.int .i64 0) (by simp[s1,s2,h2,s5,s6,s7,s8,s9,bw,ao,ae]) ?_;clear s1 s2 h2 s5 s6 s7 s8 s9 bw S H;rintro S H ⟨s1,s2,h2,s5,s6,s7,s8,s9,bw,bn⟩
 obtain⟨want,JM⟩:∃want:Int,want=(if cq s then(if(dV s.name).isSome then 0 else 7)else 2):=⟨_,rfl⟩
 refine az (λS H=>S 1=.int .i64 wd/\S 2=.box 2 0/\H 2=some (ao s)/\S 5=.int .i64 n/\S 6=.int .i64 e/\S 7=.int .i64 m/\S 8=.int .i64 f/\S 9=.int .i64 w/\S 10=.int .i64 g/\S 11=.int .i64 want) ?_ ?_
 .cases hI:cq s with
  |false=>
   rw[hI]at Tg JM;simp[s1,s2,h2,s5,s6,s7,s8,s9,bw,bn,ao,ae];refine oc Tg ?_;simp[s1,s2,h2,s5,s6,s7,s8,s9,bw,bn,JM,ao,ae]
  |true=>
   rw[hI]at Tg JM;have Tm:=UA (GI:=GI) hG s (eo hI);rw[MH]at Tm;generalize HV s=ns at Tm;generalize(dV s.name).isSome=ok at Tm JM;simp[s1,s2,h2,s5,s6,s7,s8,s9,bw,bn,ao,ae];refine oc Tg ?_;simp[s1,s2,h2,s5,s6,s7,s8,s9,bw,bn,ao,ae];refine oc Tm ?_
   cases ok<;>simp[s1,s2,h2,s5,s6,s7,s8,s9,bw,bn,JM,ao,ae]
 clear s1 s2 h2 s5 s6 s7 s8 s9 bw bn S H;rintro S H ⟨s1,s2,h2,s5,s6,s7,s8,s9,bw,bn⟩
 rcases hc with⟨hI,rfl,rfl,rfl,rfl,rfl,rfl⟩|⟨hI,⟨hE,rfl,rfl,rfl,rfl,rfl,hg⟩|⟨es,hE,hn,rfl,hm,rfl,hw,hg⟩⟩
 .rw[hI]at JM;subst JM;simp[s1,s2,h2,s5,s6,s7,s8,s9,bw,bn,ao,ae];refine oc k ?_;simp
 .rw[hI,hE]at JM;subst JM
  cases hb:oN s wd with
  |true=>
   rw[hb]at hg;subst hg;obtain⟨b1,b2⟩:=ZE hb;simp[s1,s2,h2,s5,s6,s7,s8,s9,bw,bn,b1,b2,ao,ae];refine oc k ?_;simp
  |false=>
   rw[hb]at hg;subst hg
   rcases aaj hb with b1|⟨b1,b2⟩
   .simp[s1,s2,h2,s5,s6,s7,s8,s9,bw,bn,b1,ao,ae];refine oc k ?_;simp
   .simp[s1,s2,h2,s5,s6,s7,s8,s9,bw,bn,b1,b2,ao,ae];refine oc k ?_;simp
 .have Hx:=eo hI
  have hns:HV s=aR s es:=by unfold HV;rw[hE]
  have OH:=aeS (GI:=GI) hG s Hx;have q38:=aeI (GI:=GI) hG s Hx;have OP:=ae0 (GI:=GI) hG s Hx wd;rw[hns]at OH q38 OP;rw[hI,hE]at JM;subst JM;rw[<-hn]at OH;rw[<-hm]at q38;clear hn hm;refine az (λS H=>S 1=.int .i64 wd/\S 2=.box 2 0/\H 2=some (ao s)/\S 9=.int .i64 w/\S 10=.int .i64 g/\S 11=.int .i64 0) ?_ ?_
  .simp[s1,s2,h2,s5,s6,s7,s8,s9,bw,bn,ao,ae];refine oc OH ?_;simp[s1,s2,h2,s5,s6,s7,s8,s9,bw,bn,ao,ae];refine oc q38 ?_;simp[s1,s2,h2,s5,s6,s7,s8,s9,bw,bn,ao,ae]
  clear s1 s2 h2 s5 s6 s7 s8 s9 bw bn S H;rintro S H ⟨s1,s2,h2,s9,bw,bn⟩
  cases hb:oN s wd with
  |true=>
   rw[hb]at hg hw;subst hg;rw[if_pos rfl]at hw;rw[<-hw]at OP;clear hw;obtain⟨b1,b2⟩:=ZE hb;simp[s1,s2,h2,s9,bw,bn,b1,b2,ao,ae];refine oc OP ?_;simp[s9,bw];refine oc k ?_;simp
  |false=>
   rw[hb]at hg hw;subst hg;rw[if_neg (by simp)]at hw;subst hw
   rcases aaj hb with b1|⟨b1,b2⟩
   .simp[s1,s2,h2,s9,bw,bn,b1,ao,ae];refine oc k ?_;simp
   .simp[s1,s2,h2,s9,bw,bn,b1,b2,ao,ae];refine oc k ?_;simp
end Go.Proofs.Tryz
namespace Go.Proofs.YtdiflocclemeaaaGreatDoor
open Go Go.AL Go.ChangeShapes Go.WideShapes Go.ChangeAt Go.RowKit Go.Proofs.Tryz
namespace Words
abbrev row:OpenClaim:=Rows.tramWordsRow
abbrev spec:ChangeSpec:=Rows.tramWordsSpec
theorem call (W:World) (base:Nat) (args:Array Value) {H:Type} {enc:TypeId×Value→H} (ds:List (DataW H)) (p:List MemPlace) (hG:GI W) (rl:∀ (j:Nat) t v,Tryz.f6.params[j]? = some t→args[j]? = some v→Value.okWide Tryz.prog W .any base t v)
  (hA:DataW.TrodAll enc Tryz.prog W 0 (λ_=>true) true Tryz.f6.params.toList args.toList ds p):Calls Tryz.prog 6 args W λe W'=>e=.returned (.bool true)/\Below W.heap.size W W':=by
 rw[Tryz.params6]at hA rl;obtain⟨v0,K8,d0,ds0,p0,q0,e0,rfl,rfl,h0,AZ⟩:=trodAll_cons hA;obtain⟨v1,vs1,d1,ds1,p1,q1,e1,rfl,rfl,h1,Tc⟩:=trodAll_cons AZ;obtain⟨rfl,rfl,rfl⟩:=trodAll_nil Tc
 obtain rfl:args=#[v0,v1]:=by
  apply Array.toList_inj.1;rw[e0,e1]
 obtain⟨x0,g0,a0⟩:=wX (rl 0 31 v0 rfl rfl) h0;obtain⟨x1,g1,a1⟩:=open_int (rl 1 3 v1 rfl rfl) h1
 refine DQ (ac6 Cg (λ_ h=>h) x0 x1) hG rfl λi h h'=>?_
 match i,h with
 |0,_=>exact .data _ _ a0
 |1,_=>exact .data _ _ a1
theorem w1(os:Os):((World.laidAll Tryz.prog os row.laid).forCall (λ_ _=>0) ⟨#[],#[.agg #[.slice none 0 0,.int .i64 0,.int .i64 0,.int .i64 0,.int .i64 0,.slice none 0 0,.slice none 0 0,.int .i64 0,.int .i64 0,.int .i64 0,.int .i64 0,.int .i64 0,.slice none 0 0,.int .i64 0,.int .i64 0],.int .i64 0],[]⟩).Shaped Tryz.checked.prog:=
 World.shaped_of_ZipB (by kernel_rfl) (by kernel_rfl)
theorem lifted (os:Os) (started:os.Started) (H:Type) (enc:TypeId×Value→H) :
  ReturnsInHanded {} Tryz.checked os 6 .any (λw args=>(spec.pre enc Tryz.prog Tryz.f6 row.domain false w args/\laidMetH Tryz.prog row.laid w)/\sizedMet enc Tryz.prog Tryz.f6 (OpenSpec.ofChange spec) false w args)
   (spec.post enc Tryz.prog Tryz.f6 false true false false):=by
 refine Bs 6 Tryz.f6 Tryz.func6 (by kernel_rfl) (by kernel_rfl) spec rfl ?_ ?_ os started _ 12 (w1 os) (by kernel_rfl) (by kernel_rfl) (by kernel_rfl) ?_ (λW base args ds p=>call W base args ds p)
 .intro ds hl;rw[show Tryz.f6.params.size=2 by kernel_rfl]at hl
  match ds,hl with
  |[d0,d1],_=>rfl
 .rw[Tryz.params6];intro t ht
  have:t=31\/t=3:=by simpa using ht
  rcases this with rfl|rfl
  all_goals exact⟨by kernel_rfl,agE (by kernel_rfl)⟩
 .rw[MakeChecks.laidMetH_plain _ _ _ (by kernel_rfl)];exact laidMet_laidAll _ (by kernel_rfl) (by kernel_rfl)
theorem zj:Tryz.prog.funcNamed "mahlstick/mahlsticklaw09.TramWords" = some 6:=by kernel_rfl
theorem B6:(row.inPlace==Tryz.prog.inPlace 6)=true:=by kernel_rfl
theorem uP:(row.unfollowed==Tryz.prog.unfollowed 6)=true:=by kernel_rfl
theorem Aj:(row.recurses==Tryz.prog.recurses 6)=true:=by kernel_rfl
theorem Jb:(row.named==Tryz.prog.varsNamed 6)=true:=by kernel_rfl
theorem I3:joinedFacts Tryz.prog 6 Tryz.f6 spec row=true:=
 Cc ⟨rfl,rfl,rfl,rfl,rfl,rfl⟩ (by kernel_rfl) (by kernel_rfl) (by kernel_rfl) B6 uP Aj Jb (by kernel_rfl) (by kernel_rfl) (by kernel_rfl) (by kernel_rfl)
theorem zz:Tryz.f6.isInstance Tryz.prog row.origin row.targs:=agE (by kernel_rfl)
theorem BR:Tryz.f6.isWrapper Tryz.prog row.wrapper row.mainSum:=by
 unfold Func.isWrapper;rw[if_neg (by decide+kernel)];exact⟨rfl,rfl⟩
theorem holds:Rows.TramWordsSaid:=
 OpenClaim.holds_of_wide 6 Tryz.f6 rfl rfl rfl rfl rfl rfl rfl ⟨rfl,rfl,rfl,rfl,rfl⟩ rfl rfl rfl rfl rfl zj Tryz.func6 I3 zz BR (λos started H enc _=>lifted os started H enc)
theorem Q3:row.wfByText (OpenSpec.ofChange spec)=true:=by kernel_rfl
theorem II:false=row.goesBy Tryz.prog:=by kernel_rfl
theorem GW:([31,3].all λu=>!Tryz.prog.wantsStandIn u)=true:=by kernel_rfl
theorem Jq:Tryz.prog.mainIs=some (true, "6409d79c938881258cf6c01a4bbb5b9da95cffe89bf69844c1f6e37b46348158".toList):=by rw [DN,MJ]
theorem card:Rows.TramWordsCardSaid:=
 Claim7.holds_tied_plain_at .later [] [.data,.data,.data,.data,.pinned] true (true, "6409d79c938881258cf6c01a4bbb5b9da95cffe89bf69844c1f6e37b46348158") true holds (λ_ h=>by cases h) Q3 (λ_ h=>by cases h) tramWords_row_tie rfl ⟨rfl,rfl⟩ Jq rfl
  (λf fn hf Lf=>by
   obtain rfl:f=6:=afo (zj.symm.trans hf)|>.symm
   obtain rfl:fn=Tryz.f6:=(afo (Tryz.func6.symm.trans Lf)).symm;refine⟨Gd,λj t ht=>?_⟩;rw[Tryz.params6]at ht
   have hm:t∈[31,3]:=by
    simpa using ahM ht
   exact(show Tryz.prog.wantsStandIn t=false by simpa using afC.1 GW t hm))
  II
end Words
#print axioms Words.card
end Go.Proofs.YtdiflocclemeaaaGreatDoor
