/-
  For all tram sheets the call of TramStops returns true, and each argument reads behind the call as it read before. Conditions: none beyond those of the given card.
-/
import Derived.Test.YtdiflocclemeaaaGreatDoorSp3
set_option maxRecDepth 100000
set_option maxHeartbeats 8000000
set_option linter.all false
namespace Go.Proofs.Tryz
open Go Go.AL Go.RowKit Go.Proofs Go.Proofs.Tram
attribute [local simp] dP fu fb eu eL dV dW du dp eJ dq cU gG gD aG aD ev aQ.S aQ.H bG au aY AL.start AV.cells AV.storable AV.bZ bu bQ eF b0 HR.okB post cL dc db AV.out AV.bW cy dK fz gM AV.vw da vI int bO aO dE dj iJ jF eo dG bt AV.aH AV.cT
variable{GI:World->Prop}
structure KK(bF bN bR:Nat)(cS:Value)(a:Act):Prop where
 size:a.tmps.size=32
 defers:a.defers=[]
 t1:a.tmps.getD 1 undef=cS
 t4:a.tmps.getD 4 undef=.pointer (some ⟨bF,0,none⟩)
 t5:a.tmps.getD 5 undef=.pointer (some ⟨bN,0,none⟩)
 t6:a.tmps.getD 6 undef=.pointer (some ⟨bR,0,none⟩)
def Ga:Nat->Bool:=λt=>decide (7<=t)
def fZ(s:az)(fs:List (List Int))(fv:Value)(C9 Dm x7:AV):an:=λt=>match t with
 |1=>.ref (ar s)
 |4=>.ref [.slice .view (fs.map vI)]
 |6=>.ref [.val fv]
 |7=>x7
 |15=>C9
 |16=>Dm
 |_=>.bm
section
variable{wB:World}{Mi:Nat->Nat->Prop}{bF bN bR:Nat}{s:az}{cS fv:Value}{fs:List (List Int)}{es:List Int}{w:World}{a:Act}
def KK.step{a':Act}(fr:KK bF bN bR cS a)(bg:a'.tmps.size=32)(ee:a'.defers=[])(h:dZ Ga a a'):KK bF bN bR cS a':=
 ⟨bg,ee,(h 1 rfl).trans fr.t1,(h 4 rfl).trans fr.t4,(h 5 rfl).trans fr.t5,(h 6 rfl).trans fr.t6⟩
def Lv.Nd(st:Lv wB Mi bF bN s cS (.pointer (some ⟨bR,0,none⟩)) fv fs es w)(pr:Nat->Nat->Prop)(R9:∀b k,wB.heap.size<=b->pr b k):RV pr cD w (.ref [.slice .view (fs.map vI)]) (.pointer (some ⟨bF,0,none⟩)):=by
 obtain⟨u,xE,xF,v,Cs,xN,f1,f2,f3,f4,n1,n2,n3,n4⟩:=st.st;refine .data _ _ (.ref _ _ _ (λ_=>u) (λi hi=>?_) (λk hk=>⟨R9 _ _ st.ge.1,?_⟩) (λk hk=>?_))
 .have:i=0:=by simpa using hi
  subst this;rfl
 .have:k=0:=by simpa using hk
  subst this;simp[World.cell?,f1]
 .have:k=0:=by simpa using hk
  subst this
  exact RD.ofRow (size:=1) (es:=fs.map vI) (by rw[acC];exact f2) (f3.mono (bc.same λb k _ h=>R9 b k h.2)) λb hb k _=>R9 b k (by have:=(f2.lt b hb).1;have:=st.ge.1;omega)
def Lv.jY (st:Lv wB Mi bF bN s cS (.pointer (some ⟨bR,0,none⟩)) fv fs es w) (fr:KK bF bN bR cS a) {C9 Dm x7:AV} (vO:C9.aH=C9∧RV (fun _ _=>True) cD w C9 (a.tmps.getD 15 undef)) (tY:Dm.aH=Dm∧RV (fun _ _=>True) cD w Dm (a.tmps.getD 16 undef)) (h7:x7.aH=x7∧RV (fun _ _=>True) cD w x7 (a.tmps.getD 7 undef)) :
  ∀t,t<32->(fZ s fs fv C9 Dm x7 t).aH=fZ s fs fv C9 Dm x7 t/\RV (λ_ _=>True) cD w (fZ s fs fv C9 Dm x7 t) (a.tmps.getD t undef):=by
 intro t ht;unfold fZ;split
 .rw[fr.t1];exact⟨rfl,st.s.mono (bc.same λ_ _ _ _=>trivial) λ_ _ h=>h⟩
 .rw[fr.t4];exact⟨rfl,st.Nd _ λ_ _ _=>trivial⟩
 .rw[fr.t6];exact⟨rfl,st.r.mono (bc.same λ_ _ _ _=>trivial) λ_ _ h=>h⟩
 .exact h7
 .exact vO
 .exact tY
 .exact⟨rfl,.bm _⟩
end
def RD.bounded{A:Nat->Prop}{w:World}{es:List AV}{c:Value}(Bx:∀x∈es,∀c∈x.cells,gQ c=true)(h:RD (λb _=>A b) w (.slice .view es) c):∃hi:Nat->Nat,RD (λb k=>A b/\k<hi b) w (.slice .view es) c:=by
 cases h with
 |gx=>exact⟨λ_=>0,.gx _⟩
 |ja _ a=>exact⟨λ_=>0,.ja _ a⟩
 |slice _ _ b off cap size cs eT hn bg h1 hc hr=>
  exact⟨λ_=>off+es.length*size,.slice _ _ b off cap size cs eT hn bg h1 (λk hk=>⟨⟨(hc k hk).1,(by show off+k<off+es.length*size;omega)⟩,(hc k hk).2⟩) λi hi j hj=>(hr i hi j hj).gQ (Bx _ (acy hi) _ (acy hj))⟩
def aaQ(hG:aw GI)(s:az)(hs:gh s):AC prog GI 56 [bn s] (.ret (.dR (E9 s))):=by
 have nP:=rZ hG s hs
 refine AC.jw func56 rfl ntmps56 (by simp) λcc w=>?_
 refine eV hG c56.qa (λS' H'=>S' 1=.box 1 0/\H' 1=some (ar s)) ?_ ?_
 .simp[c56,af.qa,bn,ar,ae]
 rintro S1 H1 ⟨s1,h1⟩;refine SW.scope ?_;show SW prog GI 32 none (.seq (.seq _ (.cond _ _ _)) _) _ _ _ _;refine SW.seq (eV hG (.ops [⟨some 8,none,.load .any true 15 (.t 1)⟩,⟨some 9,none,.call 77 [.t 8]⟩,⟨some 10,none,.not (.t 9)⟩]) (λS' H'=>S' 10=.bool (!dQ s)/\S' 1=.box 1 0/\H' 1=some (ar s)) ?_ ?_)
 .simp[s1,h1,ar,ae];refine oc nP ?_;simp[s1,h1,ar,ae]
 clear s1 h1;rintro S2 H2 ⟨cb,s1,h1⟩;unfold E9
 cases hI:dQ s with
 |false=>
  refine SW.cond rfl true (by show S2 10=_;rw[cb,hI]<;>rfl) ?_;show SW prog GI 32 none (.seq _ .ret) _ _ _ _;refine eV hG (.ops [⟨some 2,none,.mv true (.c (.slice .nil []))⟩,⟨some 3,none,.mv true (.c (.int .i64 2))⟩]) (λS' H'=>S' 2=.slice .nil []/\S' 3=.int .i64 2) (by simp) ?_;rintro S3 H3 ⟨s2,s3⟩;refine SW.ret ⟨eA.plain rfl,rfl,_,?_,rfl⟩;show cL prog 32 [.tmp 2,.tmp 3] S3 H3=_;simp[cL,dc,db,s2,s3,AV.bW,AV.out,AV.vw,AV.cT,vI,ints]
 |true=>
 have lS:=(eM (fl hI).name).words;refine SW.cond rfl false (by show S2 10=_;rw[cb,hI]<;>rfl) (SW.skip ?_);show SW prog GI 32 none (.seq _ (.seq _ (.seq _ (.seq _ (.seq (.label 0) (.seq (.seq _ (.block _ _)) _)))))) _ _ _ _;simp only[ac3];intro w0 g a wB m cj ho R
 obtain⟨out,ko⟩:∃out,eE.ret (.dR (Az s))=out:=⟨_,rfl⟩
 rw[ko]
 have I':Below w0.heap.size w0 wB:=by have:=R.below;rwa [R.base]at this
 have ye:GI wB:=hG w0 wB cj I';have rS:=qj R (by decide) s1 h1 (BU s)
 obtain⟨cS,hcS⟩:∃cS,a.tmps.getD 1 undef=cS:=⟨_,rfl⟩
 rw[hcS]at rS;have bg:=R.size
 have ee:a.defers=[]:=by rw[R.defers,ho]<;>rfl
 have finish:∀ (aE:Act) (wE:World) (o2:Ow) (Pe:List AV) (e:Int) (cQ:Nat→Nat),aE.tmps.size=32→aE.defers=[]→Below wB.heap.size wB wE→(AV.slice o2 Pe).aH = .slice o2 Pe→RD (fun b k=>(wB.heap.size≤b∧b < wE.heap.size)∧k < cQ b) wE (.slice o2 Pe) (aE.tmps.getD 2 undef)→aE.tmps.getD 3 undef = .int .i64 e →
   eE.ret (.dR [.slice .view Pe,.int .i64 e])=out->QS prog w0 32 (MW prog 32 f56.results.toList out cc) .ret aE wE:=by
  intro aE wE o2 Pe e cQ aaj abp Ll ZG cP h3 ko;have RG:=R.jR Ll
  have hle:g.base<=wB.heap.size:=by rw[R.base];exact I'.size
  have RC:=RG.kg (G:=λb=>wB.heap.size<=b/\b<wE.heap.size) cQ (λb hb=>by
   refine⟨⟨adD hle hb.1,(R.fresh b hb.1).1,(R.fresh b hb.1).2,λi hi=>?_⟩,hb.2,?_⟩
   .obtain⟨_,_,_,_,_,q3,_⟩:=R.box i b hi;have:=(acz.1 q3).1;omega
   .rw[ho]<;>rfl)
  have RE:=RC.Cd (a2:=aE) (S2:=λt=>if t=2 then .slice o2 Pe else if t=3 then .int .i64 e else .bm) g.old rfl aaj (by rw[ho];exact abp) (by rw[ho];exact λ_ h=>by cases h) RC.still RC.grown (by rw[ho];exact λ_ _ h=>by cases h) (λt ht=>by
   by_cases h2:t=2
   .subst h2;simp only[ac3];refine⟨ZG,.data _ _ (cP.mono (bc.same λb k _ hp=>.inr ⟨adD hle hp.1.1,?_⟩))⟩;unfold Gh.kg;simp only[if_pos hp.1];exact hp.2
   .by_cases Qr:t=3
    .subst Qr;simp only[if_neg h2,ac3];rw[h3];exact⟨rfl,.data _ _ (.int _ _)⟩
    .simp only[if_neg h2,if_neg Qr]
     exact⟨rfl,.bm _⟩)
  refine⟨_,_,_,RE,?_⟩;refine⟨by rw[ho];exact eA.plain rfl,by rw[ho]<;>rfl,_,?_,ko.symm⟩;show cL prog 32 [.tmp 2,.tmp 3] _ _=_;simp[cL,dc,db,AV.bW,AV.out,AV.vw,AV.cT]
 have eY:∀(a:Act)(d t:Nat)(c:Value),t≠d->(a.put (some d) c).tmps.getD t undef=a.tmps.getD t undef:=λa d t c h=>by
  simp[Act.put,acB (adi h)]
 have jy:∀(a:Act)(d:Nat)(c:Value),a.tmps.size=32->d<32->(a.put (some d) c).tmps.getD d undef=c:=λa d c h hd=>by
  simp[Act.put,h,hd]
 have jo:∀(a:Act)(d:Option Nat)(c:Value),(a.put d c).tmps.size=a.tmps.size:=λa d c=>by cases d<;>simp[Act.put]
 have qB:∀(a:Act)(d:Option Nat)(c:Value),(a.put d c).defers=a.defers:=λa d c=>by cases d<;>rfl
 obtain⟨bF,Sy⟩:∃bF,wB.heap.size=bF:=⟨_,rfl⟩
 refine acO (ac6 ?_);show wpOpsIn _ _ _ _ _ [0] a wB;refine aV rfl rfl (by rfl) (kK (t:=141) (z:=.slice none 0 0) rfl (by kernel_rfl)) ?_;show Code.wpIn _ _ _ _ _ (a.put (some 4) (.pointer (some ⟨wB.heap.size,0,none⟩))) (wB.alloc (.cells #[.slice none 0 0] 141))
 obtain⟨a2,je⟩:∃a2,a.put (some 4) (.pointer (some ⟨wB.heap.size,0,none⟩))=a2:=⟨_,rfl⟩
 obtain⟨w2,iy⟩:∃w2,wB.alloc (.cells #[.slice none 0 0] 141)=w2:=⟨_,rfl⟩
 have Nf:w2.heap.size=bF+1:=by rw[<-iy,<-Sy];simp
 have VR:w2.heap[bF]?=some (.cells #[.slice none 0 0] 141 (0,0)):=by rw[<-iy,<-Sy];exact adv wB _
 have V1:Below bF wB w2:=by rw[<-iy,<-Sy];exact(adA _ _).alloc (acD _) _
 rw[je,iy];refine acO (ac6 ?_);show wpOpsIn _ _ _ _ _ [0] a2 w2;refine aV rfl rfl (by rfl) (kK (t:=23) (z:=.slice none 0 0) rfl (by kernel_rfl)) ?_;show Code.wpIn _ _ _ _ _ (a2.put (some 5) (.pointer (some ⟨w2.heap.size,0,none⟩))) (w2.alloc (.cells #[.slice none 0 0] 23))
 obtain⟨a3,qz⟩:∃a3,a2.put (some 5) (.pointer (some ⟨w2.heap.size,0,none⟩))=a3:=⟨_,rfl⟩
 obtain⟨w3,qv⟩:∃w3,w2.alloc (.cells #[.slice none 0 0] 23)=w3:=⟨_,rfl⟩
 have y7:w3.heap.size=bF+2:=by rw[<-qv];simp[Nf]
 have NC:w3.heap[bF+1]?=some (.cells #[.slice none 0 0] 23 (0,0)):=by rw[<-qv,<-Nf];exact adv w2 _
 have HZ:Below (bF+1) w2 w3:=by rw[<-qv,<-Nf];exact(adA _ _).alloc (acD _) _
 rw[qz,qv];refine acO (ac6 ?_);show wpOpsIn _ _ _ _ _ [0] a3 w3;refine aV rfl rfl (by rfl) (kK (t:=142) (z:=.nilFunc) rfl (by kernel_rfl)) ?_;show Code.wpIn _ _ _ _ _ (a3.put (some 6) (.pointer (some ⟨w3.heap.size,0,none⟩))) (w3.alloc (.cells #[.nilFunc] 142))
 obtain⟨a4,lx⟩:∃a4,a3.put (some 6) (.pointer (some ⟨w3.heap.size,0,none⟩))=a4:=⟨_,rfl⟩
 obtain⟨w4,lS⟩:∃w4,w3.alloc (.cells #[.nilFunc] 142)=w4:=⟨_,rfl⟩
 have M3:w4.heap.size=bF+3:=by rw[<-lS];simp[y7]
 have Ep:w4.heap[bF+2]?=some (.cells #[.nilFunc] 142 (0,0)):=by rw[<-lS,<-y7];exact adv w3 _
 have B2:Below (bF+2) w3 w4:=by rw[<-lS,<-y7];exact(adA _ _).alloc (acD _) _
 rw[lx,lS]
 have z2:a2.tmps.size=32:=by rw[<-je,jo];exact bg
 have z3:a3.tmps.size=32:=by rw[<-qz,jo];exact z2
 have z4:a4.tmps.size=32:=by rw[<-lx,jo];exact z3
 have u1:a4.tmps.getD 1 undef=cS:=by rw[<-lx,eY _ _ _ _ (by decide),<-qz,eY _ _ _ _ (by decide),<-je,eY _ _ _ _ (by decide),hcS]
 have u4:a4.tmps.getD 4 undef=.pointer (some ⟨bF,0,none⟩):=by rw[<-lx,eY _ _ _ _ (by decide),<-qz,eY _ _ _ _ (by decide),<-je,jy _ _ _ bg (by decide),Sy]
 have u5:a4.tmps.getD 5 undef=.pointer (some ⟨bF+1,0,none⟩):=by rw[<-lx,eY _ _ _ _ (by decide),<-qz,jy _ _ _ z2 (by decide),Nf]
 have u6:a4.tmps.getD 6 undef=.pointer (some ⟨bF+2,0,none⟩):=by rw[<-lx,jy _ _ _ z3 (by decide),y7]
 have d4:a4.defers=[]:=by rw[<-lx,qB,<-qz,qB,<-je,qB];exact ee
 refine acO (ac6 ?_);show wpOpsIn _ _ _ _ _ [0,1] a4 w4;refine aV rfl rfl (by rfl) (nA (fn:=.func 112) (c:=#[.tmp 1,.tmp 5,.tmp 4,.tmp 6]) rfl) ?_
 have eT:(#[Operand.tmp 1,.tmp 5,.tmp 4,.tmp 6].map a4.eval)=#[cS,.pointer (some ⟨bF+1,0,none⟩),.pointer (some ⟨bF,0,none⟩),.pointer (some ⟨bF+2,0,none⟩)]:=by
  simp only[ado,ac5,adp,Act.eval];rw[u1,u4,u5,u6]
 rw[eT]
 obtain⟨fv,lT⟩:∃fv:Value,fv=.func (.func 112) #[] #[cS,.pointer (some ⟨bF+1,0,none⟩),.pointer (some ⟨bF,0,none⟩),.pointer (some ⟨bF+2,0,none⟩)]:=⟨_,rfl⟩
 rw[<-lT]
 obtain⟨a5,pv⟩:∃a5,a4.put (some 11) fv=a5:=⟨_,rfl⟩
 show wpOpsIn _ _ _ _ _ [1] (a4.put (some 11) fv) w4;rw[pv]
 have z5:a5.tmps.size=32:=by rw[<-pv,jo];exact z4
 have TX:a5.tmps.getD 11 undef=fv:=by rw[<-pv];exact jy _ _ _ z4 (by decide)
 have v1:a5.tmps.getD 1 undef=cS:=by rw[<-pv,eY _ _ _ _ (by decide)];exact u1
 have v4:a5.tmps.getD 4 undef=.pointer (some ⟨bF,0,none⟩):=by rw[<-pv,eY _ _ _ _ (by decide)];exact u4
 have v5:a5.tmps.getD 5 undef=.pointer (some ⟨bF+1,0,none⟩):=by rw[<-pv,eY _ _ _ _ (by decide)];exact u5
 have v6:a5.tmps.getD 6 undef=.pointer (some ⟨bF+2,0,none⟩):=by rw[<-pv,eY _ _ _ _ (by decide)];exact u6
 have d5:a5.defers=[]:=by rw[<-pv,qB];exact d4
 obtain⟨i142,Xg,V'⟩:=iZ 142 1;refine dU rfl rfl (by rfl) (il (x:=.tmp 6) (y:=.tmp 11) rfl v6 Xg V' Ep TX (by rw[lT]<;>rfl)) ?_;show Code.wpIn _ _ _ _ _ (a5.put none undef) (w4.setRow (bF+2) #[fv])
 have fr:KK bF (bF+1) (bF+2) cS (a5.put none undef):=⟨z5,d5,v1,v4,v5,v6⟩
 have ll:∀b,b≠bF+2->(w4.setRow (bF+2) #[fv]).heap[b]?=w4.heap[b]?:=λb hb=>adL w4 (bF+2) b #[fv] hb
 have Ey:(w4.setRow (bF+2) #[fv]).heap.size=bF+3:=by simp[M3]
 have hb4:Below bF wB w4:=V1.trans ((HZ.mono (by omega)).trans (B2.mono (by omega)));have KT:Below bF wB (w4.setRow (bF+2) #[fv]):=hb4.trans ⟨rfl,rfl,rfl,by rw[Ey,M3];exact acD _,λk hk=>ll k (by omega)⟩
 have st:Lv wB (λb k=>(b<bF/\fB g true b k)\/(b=bF+2/\k=0)) bF (bF+1) s cS (.pointer (some ⟨bF+2,0,none⟩)) fv [] [] (w4.setRow (bF+2) #[fv]):=by
  refine⟨by rw[Sy];exact KT,⟨by omega,by omega,by omega⟩,?_,?_,?_,⟨.slice none 0 0,141,[],.slice none 0 0,23,[],?_,⟨rfl,.inl ⟨rfl,rfl⟩⟩,⟨λx hx=>by simp at hx,λj hj=>by simp at hj⟩,(λb hb=>by cases hb),?_,⟨rfl,.inl ⟨rfl,rfl⟩⟩,⟨λx hx=>by simp[ints]at hx,λj hj=>by simp[ints]at hj⟩,(λb hb=>by cases hb)⟩,?_,?_⟩
  .rintro b k (h|h)
   .rw[Ey];omega
   .rw[Ey];omega
  .rintro k (h|h)<;>omega
  .rintro k (h|h)<;>omega
  .rw[ll _ (by omega),B2.block _ (by omega),HZ.block _ (by omega)];exact VR
  .rw[ll _ (by omega),B2.block _ (by omega)];exact NC
  .have rS':RV (λb k=>b<bF/\fB g true b k) cD wB (.ref (ar s)) cS:=rS.mono (bc.same λb k hb h=>⟨by omega,h⟩) λ_ _ h=>h
   exact rS'.mono (bc.of_eq λb k h=>⟨.inl h,KT.block b h.1⟩) λ_ _ h=>h
  .refine .data _ _ (.ref _ _ _ (λ_=>fv) (λi hi=>?_) (λk hk=>⟨.inr ⟨rfl,(by have h0:k<1:=hk;omega)⟩,?_⟩) (λk hk=>?_))
   .have:i=0:=by simpa using hi
    subst this;rfl
   .have:k=0:=by simpa using hk
    subst this;have:=aer w4 (bF+2) _ #[fv] 142 (0,0) Ep;simp[World.cell?,this]
   .have:k=0:=by simpa using hk
    subst this;exact .val _ (by rw[lT]<;>rfl)
 clear ll Ey KT hb4 B2 Ep HZ NC V1 VR;generalize w4.setRow (bF+2) #[fv]=w5 at st⊢;generalize a5.put none undef=a6 at fr⊢;generalize(λb k=>(b<bF/\fB g true b k)\/(b=bF+2/\k=0))=Mi at st;clear v1 v4 v5 v6 d5 z5 TX pv eT u1 u4 u5 u6 d4 z4 z3 z2
 have gi:∀{w:World},Below wB.heap.size wB w->GI w:=λh=>hG wB _ ye h
 have jk:∀(a:Act)(w:World)(t:Nat),(AV.bm).aH=AV.bm/\RV (λ_ _=>True) cD w AV.bm (a.tmps.getD t undef):=λa w t=>⟨rfl,.bm _⟩
 have iv:∀(a:Act)(w:World)(t:Nat)(k:Int),a.tmps.getD t undef=.int .i64 k->(AV.int .i64 k).aH=.int .i64 k/\RV (λ_ _=>True) cD w (.int .i64 k) (a.tmps.getD t undef):=λa w t k h=>⟨rfl,by rw[h];exact .data _ _ (.int _ _)⟩
 have CU:∀{w w':World}{g:Gh}{S:an}{H:aq}{a':Act},Rel prog w 32 bz g S H a' w'->Below w.heap.size w w':=λR=>by have:=R.below;rwa [R.base]at this
 show Code.wpIn _ _ _ _ _ a6 w5;refine acO (wpIn_label ?_);show Code.wpIn _ _ _ _ _ a6 w5;refine acO (acO ?_);refine cm hG dO (n:=32) (ac:=.ops [⟨some 12,none,.fieldAddr 5 (.t 1)⟩,⟨some 13,none,.fieldAddr 7 (.t 12)⟩,⟨some 14,none,.load .any false 1 (.t 13)⟩,⟨some 15,none,.iW (.t 14)⟩,⟨some 16,none,.mv false (.c (.int .i64 0))⟩]) (W:=Ga) (by kernel_rfl) (by kernel_rfl) (by kernel_rfl) (gi st.below) (λ_ _=>True) (fZ s [] fv .bm .bm .bm) fr.size fr.defers (st.jY fr (jk _ _ _) (jk _ _ _) (jk _ _ _)) (K:=λS' _=>S' 15=.int .i64 (s.name.words.length:Nat)/\S' 16=.int .i64 ((0:Nat):Int)) ?_ ?_
 .simp[fZ,ar,ae]
 rintro g1 S1 H1 a7 w7 lq R1 ⟨tX,ua⟩ bj;have fr:=fr.step R1.size (by rw[R1.defers,lq]<;>rfl) bj;have st:=st.grow (CU R1);have EW:=R1.slot 15 (by decide) id;rw[tX]at EW;have EW:=EW.int_eq;have Dx:=R1.slot 16 (by decide) id;rw[ua]at Dx;have Dx:=Dx.int_eq;clear R1 lq bj tX ua;show Code.wpIn _ _ _ _ _ a7 w7
 refine ad1 (af5 (λa w=>∃(k:Nat)(qO:Nat->Nat->Prop),KK bF (bF+1) (bF+2) cS a/\a.tmps.getD 15 undef=.int .i64 (s.name.words.length:Nat)/\a.tmps.getD 16 undef=.int .i64 (k:Nat)/\k<=s.name.words.length/\(∀j,j<k->jW s j []=[])/\Lv wB qO bF (bF+1) s cS (.pointer (some ⟨bF+2,0,none⟩)) fv [] [] w)
  (λa _=>match a.tmps.getD 16 undef with|.int _ i=>s.name.words.length-i.toNat|_=>0) ⟨0,Mi,fr,EW,Dx,adr _,λj hj=>by omega,st⟩ ?_)
 clear EW Dx fr st;rintro a8 w8 ⟨k,qO,fr,EW,Dx,hk,gX,st⟩;refine acO ?_;refine cm hG dO (n:=32) (ac:=.ops [⟨some 17,none,.bin .lss (.t 16) (.t 15)⟩]) (W:=Ga) (by kernel_rfl) (by kernel_rfl) (by kernel_rfl) (gi st.below) (λ_ _=>True) (fZ s [] fv (.int .i64 (s.name.words.length:Nat)) (.int .i64 (k:Nat)) .bm) fr.size fr.defers (st.jY fr (iv _ _ _ _ EW) (iv _ _ _ _ Dx) (jk _ _ _)) (K:=λS' _=>S' 15=.int .i64 (s.name.words.length:Nat)/\S' 16=.int .i64 (k:Nat)/\S' 17=.bool (decide (k<s.name.words.length))) ?_ ?_
 .simp[fZ]
 rintro g1 S1 H1 a9 w9 lq R1 ⟨tX,ua,q17⟩ bj;have fr:=fr.step R1.size (by rw[R1.defers,lq]<;>rfl) bj;have st:=st.grow (CU R1);have Jz:=R1.slot 15 (by decide) id;rw[tX]at Jz;have Jz:=Jz.int_eq;have Jt:=R1.slot 16 (by decide) id;rw[ua]at Jt;have Jt:=Jt.int_eq;have Sj:=R1.slot 17 (by decide) id;rw[q17]at Sj;have Sj:=Sj.fq;clear R1 lq bj tX ua q17;show Code.wpIn _ _ _ _ _ a9 w9;refine acO (adu (t:=decide (k<s.name.words.length)) Sj ?_)
 by_cases av:k<s.name.words.length
 case neg=>
  simp only[av,afE,acI,acW];refine aeY ?_
  have QK:k=s.name.words.length:=by omega
  subst QK;simp only[Exit.then,Exit.inBlock,ac3]
  have BQ:wi s=none:=by rw[yM];exact KU _ gX
  show Code.wpIn _ _ _ _ _ a9 w9;refine acO (acO ?_);refine cm hG dO (n:=32) (ac:=.ops [⟨some 26,none,.load .any false 1 (.t 4)⟩,⟨some 27,none,.iW (.t 26)⟩,⟨some 28,none,.bin .eql (.t 27) (.c (.int .i64 0))⟩]) (W:=Ga) (by kernel_rfl) (by kernel_rfl) (by kernel_rfl) (gi st.below) (λ_ _=>True) (fZ s [] fv .bm .bm .bm) fr.size fr.defers (st.jY fr (jk _ _ _) (jk _ _ _) (jk _ _ _)) (K:=λS' _=>S' 28=.bool true) ?_ ?_
  .simp[fZ]
  rintro g1 S1 H1 aA wA lq R1 Cu bj;have fr:=fr.step R1.size (by rw[R1.defers,lq]<;>rfl) bj;have st:=st.grow (CU R1);have vi:=R1.slot 28 (by decide) id;rw[Cu]at vi;have vi:=vi.fq;show Code.wpIn _ _ _ _ _ aA wA;refine adu (t:=true) vi ?_;simp only[ac3];refine acO ?_;refine cm hG dO (n:=32) (ac:=.ops [⟨some 2,none,.mv true (.c (.slice .nil []))⟩,⟨some 3,none,.mv true (.c (.int .i64 5))⟩]) (W:=λ_=>true) (by kernel_rfl) (by kernel_rfl) (by kernel_rfl) (gi st.below) (λ_ _=>True) (fZ s [] fv .bm .bm .bm) fr.size fr.defers (st.jY fr (jk _ _ _) (jk _ _ _) (jk _ _ _)) (K:=λS' _=>S' 2=.slice .nil []/\S' 3=.int .i64 5) ?_ ?_
  .simp[fZ]
  rintro g2 S2 H2 aB Ti nR R2 ⟨q2,q3⟩ _;have e2:=R2.slot 2 (by decide) id;rw[q2]at e2;have e3:=R2.slot 3 (by decide) id;rw[q3]at e3;refine aeJ (finish aB Ti .view [] 5 (λ_=>0) R2.size (by rw[R2.defers,nR]<;>rfl) (st.grow (CU R2)).below rfl (e2.dL rfl).Ch e3.int_eq ?_);rw[<-ko];unfold Az
  rw[BQ]<;>rfl
 simp only[av,afv,ac3];refine ad5 ?_;show Code.wpIn _ _ _ _ _ a9 w9;refine acO (ad1 ?_);refine acO ?_;refine cm hG dO (n:=32) (ac:=.ops [⟨some 18,none,.mv false (.t 16)⟩,⟨some 7,none,.mv true (.t 18)⟩]) (W:=Ga) (by kernel_rfl) (by kernel_rfl) (by kernel_rfl) (gi st.below) (λ_ _=>True) (fZ s [] fv (.int .i64 (s.name.words.length:Nat)) (.int .i64 (k:Nat)) .bm) fr.size fr.defers (st.jY fr (iv _ _ _ _ Jz) (iv _ _ _ _ Jt) (jk _ _ _)) (K:=λS' _=>S' 15=.int .i64 (s.name.words.length:Nat)/\S' 16=.int .i64 (k:Nat)/\S' 7=.int .i64 (k:Nat)) ?_ ?_
 .simp[fZ]
 rintro g1 S1 H1 a10 Oz lq R1 ⟨tX,ua,q7⟩ bj;have fr:=fr.step R1.size (by rw[R1.defers,lq]<;>rfl) bj;have st:=st.grow (CU R1);have f15:=R1.slot 15 (by decide) id;rw[tX]at f15;have f15:=f15.int_eq;have f16:=R1.slot 16 (by decide) id;rw[ua]at f16;have f16:=f16.int_eq;have f7:=R1.slot 7 (by decide) id;rw[q7]at f7;have f7:=f7.int_eq;clear R1 lq bj tX ua q7 Jz Jt Sj;show Code.wpIn _ _ _ _ _ a10 Oz;refine acO ?_;refine kN hG (n:=32) (p:=2) (l2:=[2]) rfl (by kernel_rfl) (by kernel_rfl) (l:=[⟨some 19,none,.load .any false 1 (.t 6)⟩,⟨some 20,none,.mv false (.t 7)⟩]) (by kernel_rfl) (by decide) (W:=Ga) (by kernel_rfl) (gi st.below) (λ_ _=>True) (fZ s [] fv (.int .i64 (s.name.words.length:Nat)) (.int .i64 (k:Nat)) (.int .i64 (k:Nat))) fr.size fr.defers (st.jY fr (iv _ _ _ _ f15) (iv _ _ _ _ f16) (iv _ _ _ _ f7)) (K:=λS' _=>S' 15=.int .i64 (s.name.words.length:Nat)/\S' 16=.int .i64 (k:Nat)/\S' 19=.val fv/\S' 20=.int .i64 (k:Nat)) ?_ ?_
 .simp[fZ]
 rintro g1 S1 H1 UP Zf lq R1 ⟨tX,ua,q19,Sf⟩ bj;have fr:=fr.step R1.size (by rw[R1.defers,lq]<;>rfl) bj;have st:=st.grow (CU R1);have vO:=R1.slot 15 (by decide) id;rw[tX]at vO;have vO:=vO.int_eq;have tY:=R1.slot 16 (by decide) id;rw[ua]at tY;have tY:=tY.int_eq;have I1:=R1.slot 19 (by decide) id;rw[q19]at I1;have I1:=I1.fY;have I9:=R1.slot 20 (by decide) id;rw[Sf]at I9;have I9:=I9.int_eq;clear R1 lq bj tX ua q19 Sf f15 f16 f7;have Gp:=KE (by omega) (d:=k) (by omega) ([]:List Int) (s:=s);have d_:=RQ hG ye hs hI lT k 0 [] [] qO Zf rfl (adr _) (by simpa using av) (O3 (by omega)) (by simp;omega) st;refine gE rfl rfl (by rfl) (f:=112) (args:=#[.int .i64 ((0:Nat):Int),.int .i64 (k:Nat),cS,.pointer (some ⟨bF+1,0,none⟩),.pointer (some ⟨bF,0,none⟩),.pointer (some ⟨bF+2,0,none⟩)]) (w':=Zf) ?_ d_ ?_
 .have k19:UP.eval (.tmp 19)=fv:=I1;have UF:UP.eval (.tmp 20)=.int .i64 (k:Nat):=I9;refine(y0 (f:=.tmp 19) (x:=.const (.int .i64 0)) (y:=.tmp 20) Zf rfl rfl rfl (k19.trans lT) (by kernel_rfl)).trans ?_;rw[UF]
  rfl
 rintro en w12 ⟨rfl,Mi2,hM2,st⟩;rw[List.nil_append]at st;refine⟨_,rfl,?_⟩;show Code.wpIn _ _ _ _ _ (UP.put (some 21) (.tuple #[])) w12
 obtain⟨a12,Bj⟩:∃a12,UP.put (some 21) (.tuple #[])=a12:=⟨_,rfl⟩
 have fr:KK bF (bF+1) (bF+2) cS a12:=fr.step (by rw[<-Bj,jo];exact fr.size) (by rw[<-Bj,qB];exact fr.defers) (by rw[<-Bj];exact dZ.put (λt ht=>by cases ht;rfl) _)
 have i15:a12.tmps.getD 15 undef=.int .i64 (s.name.words.length:Nat):=by rw[<-Bj,eY _ _ _ _ (by decide)];exact vO
 have i16:a12.tmps.getD 16 undef=.int .i64 (k:Nat):=by rw[<-Bj,eY _ _ _ _ (by decide)];exact tY
 rw[Bj];clear Bj vO tY I1 I9;refine acO ?_;refine cm hG dO (n:=32) (ac:=.ops [⟨some 22,none,.load .any false 1 (.t 4)⟩,⟨some 23,none,.iW (.t 22)⟩,⟨some 24,none,.bin .gtr (.t 23) (.c (.int .i64 0))⟩]) (W:=Ga) (by kernel_rfl) (by kernel_rfl) (by kernel_rfl) (gi st.below) (λ_ _=>True) (fZ s (jW s k []) fv (.int .i64 (s.name.words.length:Nat)) (.int .i64 (k:Nat)) .bm) fr.size fr.defers (st.jY fr (iv _ _ _ _ i15) (iv _ _ _ _ i16) (jk _ _ _)) (K:=λS' _=>S' 15=.int .i64 (s.name.words.length:Nat)/\S' 16=.int .i64 (k:Nat)/\S' 24=.bool (decide (0<(jW s k []).length))) ?_ ?_
 .simp[fZ]
 rintro g1 S1 H1 YE Y3 lq R1 ⟨tX,ua,q24⟩ bj;have fr:=fr.step R1.size (by rw[R1.defers,lq]<;>rfl) bj;have st:=st.grow (CU R1);have vO:=R1.slot 15 (by decide) id;rw[tX]at vO;have vO:=vO.int_eq;have tY:=R1.slot 16 (by decide) id;rw[ua]at tY;have tY:=tY.int_eq;have N2:=R1.slot 24 (by decide) id;rw[q24]at N2;have N2:=N2.fq;clear R1 lq bj tX ua q24 i15 i16;show Code.wpIn _ _ _ _ _ YE Y3;refine adu (t:=decide (0<(jW s k []).length)) N2 ?_
 cases hL:jW s k []with
 |nil=>
  rw[hL]at st;simp only[List.length_nil,agl,afE,acI,acW];refine ad5 ?_;simp only[Exit.then,Exit.inBlock];show Code.wpIn _ _ _ _ _ YE Y3;refine cm hG dO (n:=32) (ac:=.ops [⟨some 25,none,.bin .add (.t 16) (.c (.int .i64 1))⟩,⟨some 16,none,.mv false (.t 25)⟩]) (W:=Ga) (by kernel_rfl) (by kernel_rfl) (by kernel_rfl) (gi st.below) (λ_ _=>True) (fZ s [] fv (.int .i64 (s.name.words.length:Nat)) (.int .i64 (k:Nat)) .bm) fr.size fr.defers (st.jY fr (iv _ _ _ _ vO) (iv _ _ _ _ tY) (jk _ _ _)) (K:=λS' _=>S' 15=.int .i64 (s.name.words.length:Nat)/\S' 16=.int .i64 ((k+1:Nat):Int)) ?_ ?_
  .have qM:IntKind.i64.wrap ((k:Int)+1)=k+1:=aP (by omega);simp[fZ,qM]
  rintro g1 S1 H1 a14 w14 lq R1 ⟨tX,ua⟩ bj;have fr:=fr.step R1.size (by rw[R1.defers,lq]<;>rfl) bj;have st:=st.grow (CU R1);have Un:=R1.slot 15 (by decide) id;rw[tX]at Un;have Un:=Un.int_eq;have PW:=R1.slot 16 (by decide) id;rw[ua]at PW;have PW:=PW.int_eq;refine⟨⟨k+1,Mi2,fr,Un,PW,by omega,λj hj=>?_,st⟩,?_⟩
  .by_cases e:j=k
   .subst e;exact hL
   .exact gX j (by omega)
  .rw[PW,Dx];show s.name.words.length-((k+1:Nat):Int).toNat<s.name.words.length-(k:Int).toNat;rw[Int.toNat_natCast,Int.toNat_natCast];omega
 |cons x l=>
  have V2:wi s=some x:=by rw[yM];exact Mg _ av gX hL
  rw[hL]at st;simp only[List.length_cons,Nat.zero_lt_succ,afv,ac3];refine aeY ?_;simp only[Exit.then,Exit.inBlock];show Code.wpIn _ _ _ _ _ YE Y3;refine acO (acO ?_);refine cm hG dO (n:=32) (ac:=.ops [⟨some 26,none,.load .any false 1 (.t 4)⟩,⟨some 27,none,.iW (.t 26)⟩,⟨some 28,none,.bin .eql (.t 27) (.c (.int .i64 0))⟩]) (W:=Ga) (by kernel_rfl) (by kernel_rfl) (by kernel_rfl) (gi st.below) (λ_ _=>True) (fZ s (x::l) fv .bm .bm .bm) fr.size fr.defers (st.jY fr (jk _ _ _) (jk _ _ _) (jk _ _ _)) (K:=λS' _=>S' 28=.bool false) ?_ ?_
  .have bP:((l.length:Int)+1==0)=false:=by rw[adj];omega
   simp[fZ,bP]
   try omega
  rintro g1 S1 H1 aA wA lq R1 Cu bj;have fr:=fr.step R1.size (by rw[R1.defers,lq]<;>rfl) bj;have st:=st.grow (CU R1);have vi:=R1.slot 28 (by decide) id;rw[Cu]at vi;have vi:=vi.fq;show Code.wpIn _ _ _ _ _ aA wA;refine adu (t:=false) vi ?_;simp only[acI,acW];refine ad5 ?_;show Code.wpIn _ _ _ _ _ aA wA;refine acO ?_
  refine cm hG dO (n:=32) (ac:=.ops [⟨some 29,none,.load .any false 1 (.t 4)⟩,⟨some 30,none,.indexAddr 1 (.t 29) (.c (.int .i64 0))⟩,⟨some 31,none,.load .any false 1 (.t 30)⟩,⟨some 2,none,.mv true (.t 31)⟩,⟨some 3,none,.mv true (.c (.int .i64 0))⟩]) (W:=λ_=>true) (by kernel_rfl) (by kernel_rfl) (by kernel_rfl) (gi st.below) (λb _=>wB.heap.size<=b)
   (λt=>match t with|4=>.ref [.slice .view ((x::l).map vI)]|_=>.bm) fr.size fr.defers ?_ (K:=λS' _=>S' 2=.slice .view (ints x)/\S' 3=.int .i64 0) ?_ ?_
  .intro t ht;split
   .rw[fr.t4];exact⟨rfl,st.Nd _ λb k h=>h⟩
   .exact⟨rfl,.bm _⟩
  .simp
  rintro g2 S2 H2 aB Ti nR R2 ⟨q2,q3⟩ _;have e2:=R2.slot 2 (by decide) id;rw[q2]at e2;have e3:=R2.slot 3 (by decide) id;rw[q3]at e3;have lU:=CU R2
  have r2:RD (λb _=>wB.heap.size<=b/\b<Ti.heap.size) Ti (.slice .view (ints x)) (aB.tmps.getD 2 undef):=(e2.dL rfl).mono (bc.same λb k hb hp=>by
   rcases hp with⟨_,h⟩|⟨h,_⟩
   .rw[nR]at h;exact⟨h,hb⟩
   .rw[R2.base]at h;have:=st.below.size
    exact⟨by omega,hb⟩)
  obtain⟨cQ,r3⟩:=RD.bounded (uS x) r2;refine aeJ (finish aB Ti .view (ints x) 0 cQ R2.size (by rw[R2.defers,nR]<;>rfl) (st.grow lU).below rfl r3 e3.int_eq ?_);rw[<-ko];unfold Az
  rw[V2]<;>rfl
end Go.Proofs.Tryz
namespace Go.Proofs.Tryz
open Go Go.AL Go.RowKit Go.Proofs Go.Proofs.Tram
attribute [local simp] dP fu fb eu eL dV dW du dp eJ dq cU gG gD aG aD ev aQ.S aQ.H bG au aY AL.start AV.cells AV.storable AV.bZ bu bQ eF b0 HR.okB post cL dc db AV.out AV.bW cy dK fz gM AV.vw da vI int bO aO dE dj iJ jF eo dG bt
variable{GI:World->Prop}
def mP{a:Act}{w:World}{o:Oper}{x:Operand}{v:Value}(ho:o.op=.move x)(hx:a.eval x=v):(execOp a.eval o).run prog w=.ok (.value v) w:=by rw[run_move w ho,hx]
def sH{a:Act}{w:World}{o:Oper}{s el:TypeId}{i:TypeInfo}{x1 x2:Operand}{b m cap k r:Nat}(ho:o.op=.indexAddr s x1 x2)(hs:prog.underlying s=some (.slice el))(hi:prog.info? el=some i)(h1:a.eval x1=.slice (some ⟨b,0,none⟩) m cap)(h2:a.eval x2=.int .i64 k)(hk:k<m)(hr:k*i.size=r):(execOp a.eval o).run prog w=.ok (.value (.pointer (some ⟨b,r,none⟩))) w:=hr▸gP ho hs hi h1 h2 hk
def DK{a:Act}{w:World}{o:Oper}{x y:Operand}{t ty:TypeId}{m n r:Int}(ho:o.op=.binOp .add t x y ty)(hx:a.eval x=.int .i64 m)(hy:a.eval y=.int .i64 n)(hr:IntKind.i64.wrap (m+n)=r):(execOp a.eval o).run prog w=.ok (.value (.int .i64 r)) w:=hr▸yB ho hx hy
def sI{α:Type}{x:Option α}{o o':α}(ho:x=some o)(h:x=some o':=by rfl):o=o':=acX (ho.symm.trans h)
def xW(l:List kf):iO 3 (l.map fo):=λx hx=>by
 obtain⟨c,_,rfl⟩:=acZ.1 hx;exact⟨rfl,rfl,λy hy=>by simp[fo,AV.cells]at hy;rcases hy with rfl|rfl|rfl<;>rfl⟩
def pX(b k:Nat):Value:=.pointer (some ⟨b,k,none⟩)
def WQ(bX b:Nat)(v:Value)(i n:Nat)(lo hi:Int):Nat->Value
 |11|14|17|26=>pX bX 0
 |12|15|18|27=>v
 |13|16|19|28=>.int .i64 (i:Nat)
 |24|33=>.int .i64 (n:Nat)
 |20|21|22|29|30|35|36|37=>pX b (i*3)
 |31=>pX b (i*3+1)
 |23=>.int .i64 lo
 |25=>.int .i64 (lo+n)
 |32=>.int .i64 hi
 |34=>.int .i64 (hi+n)
 |_=>undef
def Hk(w2 w3:World)(l:Array Bool)(wx:World):Prop:=(l.getD 27 false=false/\wx=w2)\/(l.getD 27 false=true/\l.getD 12 false=true/\l.getD 21 false=true/\wx=w3)
def getD_set_true{l:Array Bool}{i k:Nat}(h:l.getD k false=true):(l.setIfInBounds i true).getD k false=true:=by
 rw[acG]at h⊢;rw[adO];split
 .rename_i e;subst e;split
  .rfl
  .rename_i hk;rw[aej (by omega)]at h;exact h
 .exact h
def Hk.set{w2 w3 wx:World}{l:Array Bool}{i:Nat}(h:Hk w2 w3 l wx)(hi:i≠27:=by decide):Hk w2 w3 (l.setIfInBounds i true) wx:=by
 rcases h with⟨h1,h2⟩|⟨h1,h2,h3,h4⟩
 .refine .inl ⟨?_,h2⟩;rw[acG,acB hi,<-acG];exact h1
 .exact .inr ⟨getD_set_true h1,getD_set_true h2,getD_set_true h3,h4⟩
def Hk.first{w2 w3 wx:World}{l:Array Bool}(h:Hk w2 w3 l wx)(hl:l.getD 12 false=false\/l.getD 21 false=false):wx=w2:=by
 rcases h with⟨_,h2⟩|⟨_,h2,h3,_⟩
 .exact h2
 .rcases hl with hl|hl
  .rw[h2]at hl;cases hl
  .rw[h3]at hl;cases hl
def Hk.before{w2 w3 wx:World}{l:Array Bool}(h:Hk w2 w3 l wx)(hl:l.getD 27 false=false):wx=w2:=by
 rcases h with⟨_,h2⟩|⟨h2,_⟩
 .exact h2
 .rw[h2]at hl;cases hl
def wj(s:az)(v:AV):List AV:=[v,.int .i64 s.pos,.int .i64 s.reach,.int .i64 s.eW,.int .i64 s.dS]++ae s.name
def UE (hG:aw GI) {cc:Nat→Nat→Prop} {s:az} (bP:s.cells.map fo≠[]) {z:List AV} (hz:z.length=15) {Q:ij} (aaX:∀ (o:Old) (S:an) (H:aq),PO cc o→S 6 = .box 6 0→H 6=some (ar s)→Q .ret o S H) {x:Code}
  (hx:cC prog 42 x=af.qa c43.qb.qb.qb) (hc:iB x=true) {o:Old} {S:an} {H:aq} {v:Value} (hK:KO cc 52 3 (s.cells.map fo) o v) (s3:S 3=.box 3 0) (h3:H 3=some (wj s (.val v))) (s6:S 6=.box 6 0) (h6:H 6=some z):SW prog GI 42 none (.seq x .ret) Q o S H:=by
 refine SW.ghost (K:=λo S H=>PO cc o/\S 3=.box 3 0/\H 3=some (ar s)/\S 6=.box 6 0/\H 6=some z) ?_ ?_
 .rintro w0 g a w ho R;rw[<-ho]at hK;obtain⟨g',R2,q1,q2,q3⟩:=KO.Oc hK bP R h3 (j:=0) (by simp[wj]) rfl;exact⟨g',_,_,R2,⟨q1,q2,q3⟩,s3,by simp[au,wj,ar],s6,by simp[au,h6]⟩
 clear hK s3 h3 s6 h6;rintro o S3 H3 ⟨hp,s3,h3,s6,h6⟩;have P9:List.drop 15 z=[]:=adU (by omega);refine SW.cut hG dO hc hx (λd _=>hp.bx d) (λS H=>S 6=.box 6 0/\H 6=some (ar s)) ?_ ?_
 .simp[c43,af.qa,af.qb,s3,h3,s6,h6,hz,P9,ar,ae,AV.aH,AV.cT]
 rintro S H ⟨s6,h6⟩;exact SW.ret (aaX _ _ _ hp s6 h6)
noncomputable def UZ:List bB:=c43.qb.qa.dl
def aa5(hG:aw GI)(s:az)(h:eG s){i:Nat}(hi:i<s.cells.length){n:Nat}(Cj:n<=900):AC prog GI 43 [bn s,.int .i64 (i:Nat),.int .i64 (n:Nat)] (.ret (bn (pY s i n))):=by
 have gr:=h.cells
 have bP:s.cells.map fo≠[]:=λh0=>by rw[List.map_eq_nil_iff]at h0;rw[h0]at gr;simp at gr
 have U9:(s.cells.map fo).length=s.cells.length:=by simp
 have oy:=h.th _ (acy hi);obtain⟨i52,B5,Ad⟩:=acE.1 (show(prog.info? 52).map (λi=>(i.zero.map λz=>z.cells.size,i.size,i.bytes))=some (some 3,3,24) by kernel_rfl);simp only[aeW]at Ad;obtain⟨Rm,vC,aay⟩:=Ad;obtain⟨z52,Rm,YT⟩:=acE.1 Rm;obtain⟨i3,pZ,mD⟩:=iZ 3 1
 have ep:prog.underlying 22=some (.slice 52):=by kernel_rfl
 obtain⟨d22,Nk,M5⟩:=vZ 22;obtain⟨d3,CT,hn3⟩:=vZ 3;obtain⟨it,oU,o8⟩:=tA;obtain⟨fs,gv⟩:=uZ 31
 refine AC.jw func43 rfl ntmps43 (by simp) λcc w=>?_
 refine eV hG c43.qa (λS H=>S 1=.int .i64 (i:Nat)/\S 2=.int .i64 (n:Nat)/\S 3=.box 3 0/\H 3=some (ar s)/\S 6=.box 6 0/\∃z,H 6=some z/\z.length=15) ?_ ?_
 .simp[c43,af.qa,bn,ar,ae,AV.aH,AV.cT]
 rintro S1 H1 ⟨s1,s2,s3,h3,s6,z,h6,hz⟩
 refine SW.seq (SW.hand hG (p:=2) (lm:=[2]) (l2:=[3,4]) (js:=[_,_]) (oh:=[_]) (lv:=[_,_]) rfl rfl rfl rfl (by kernel_rfl) (λ_ h=>h)
  (lO:=UZ.take 2) (lu:=UZ.drop 3) (by kernel_rfl) (by kernel_rfl) (by kernel_rfl) (by kernel_rfl)
  (K1:=λS H=>S 1=.int .i64 (i:Nat)/\S 2=.int .i64 (n:Nat)/\S 3=.box 3 0/\H 3=some (ar s)/\S 6=.box 6 0/\H 6=some z/\S 8=.slice .view (s.cells.map fo))
  (K2:=λo S H=>∃v,KO cc 52 3 (s.cells.map fo) o v/\S 1=.int .i64 (i:Nat)/\S 2=.int .i64 (n:Nat)/\S 3=.box 3 0/\H 3=some (ar s)/\S 6=.box 6 0/\H 6=some z/\S 9=.val v)
  (K3:=λo S H=>∃v,KO cc 52 3 (s.cells.map fo) o v/\S 1=.int .i64 (i:Nat)/\S 2=.int .i64 (n:Nat)/\S 3=.box 3 0/\H 3=some (wj s (.val v))/\S 6=.box 6 0/\H 6=some z) ?_ ?_ ?_ ?_)
 .simp[UZ,c43,af.qa,af.qb,af.dl,s1,s2,s3,h3,s6,h6,ar,ae,AV.aH,AV.cT]
 .rintro w0 g S H a w' m cj ho R ⟨s1,s2,s3,h3,s6,h6,s8⟩;obtain ⟨v,w2,g',cM,R2,hK⟩:=KO.copy R (cc:=cc) (by rw [ho];exact ⟨rfl,rfl,λ_ h=>h⟩) (o:={ dst:=some 9,op := .call { callee := .builtin .append,args := #[.const (.slice none 0 0),.tmp 8],argTypes := #[22,22] },type:=22,pos := "",after := #[],guard:=none }) (t:=22) (i:=i52) rfl rfl rfl rfl ep B5 Rm (by rw [YT,vC]) (by rw [aay];decide) rfl (y2 := .t 8) (by kernel_rfl) s8 (by rw [vC];exact xW _) bP (by rw [U9];omega);refine aV rfl rfl (by rfl) cM ?_
  have lj:v.oneCell'=true:=by
   rcases hK.row with⟨⟨_,rfl⟩,_⟩|⟨_,_,_,rfl,_⟩<;>rfl
  rw[vC]at hK;exact⟨g',_,_,R2.put 9 (.val v) v (by decide) (.data _ _ (.val _ lj)) trivial,v,hK,by simp[au,s1],by simp[au,s2],by simp[au,s3],h3,by simp[au,s6],h6,by simp[au]⟩
 .rintro o S H ⟨v,hK,s1,s2,s3,h3,s6,h6,s9⟩;refine⟨hK.bx,?_⟩;simp[UZ,c43,af.qa,af.qb,af.dl,s1,s2,s3,h3,s6,h6,s9,ar,wj,ae,AV.aH,AV.cT];exact hK
 clear s1 s2 s3 h3 s6 h6 S1 H1;rintro o S1 H1 ⟨v,hK,s1,s2,s3,h3,s6,h6⟩;refine SW.seq ?_;intro w0 g a w m cj ho R;rw[<-ho]at hK
 have cN:i<(s.cells.map fo).length:=by rw[U9];exact hi
 obtain⟨b,cap,cur,hv,kI,mH,dX⟩:=hK.cell R cN
 have sk:(s.cells.map fo)[i]=fo s.cells[i]:=by rw[acM]
 have zR:((s.cells.map fo)[i]).cells.length=3:=by rw[sk]<;>rfl
 have ry:=(dX 0 (by rw[zR];decide)).2;have jm:=(dX 1 (by rw[zR];decide)).2;have sq:=(dX 0 (by rw[zR];decide)).1;have tq:=(dX 1 (by rw[zR];decide)).1;simp only[sk]at ry jm
 replace ry:cur[i*3+0]?=some (.int .i64 s.cells[i].lo):=ry
 replace jm:cur[i*3+1]?=some (.int .i64 s.cells[i].hi):=jm
 have t3:=R.slot 3 (by decide) (λh=>h);rw[s3]at t3
 obtain⟨bX,gw,e3⟩:∃bX,g.al 3=some bX/\a.tmps.getD 3 undef=pX bX 0:=by
  generalize a.tmps.getD 3 undef=c at t3
  cases t3 with
  |box _ _ b h=>exact⟨b,h,rfl⟩
  |data _ _ h=>cases h
 obtain⟨cs,vs,ty,k1,k2,k3,k4,k5,k6,k7,k8,k9⟩:=R.box 3 bX gw;rw[h3]at k1;cases k1
 have n_:0<vs.size:=by rw[<-k6];simp[wj]
 have Uh:vs[0]?=some v:=by
  have:=k7 0 (by simp[wj]) n_;rw[acP n_];have h0:(wj s (.val v))[0]'(by simp[wj])=.val v:=rfl;rw[h0]at this;generalize vs[0]=u at this;cases this
  rfl
 have t1:=R.slot 1 (by decide) (λh=>h);rw[s1]at t1;have e1:a.tmps.getD 1 undef=.int .i64 (i:Nat):=t1.int_eq;have t2:=R.slot 2 (by decide) (λh=>h);rw[s2]at t2;have e2:a.tmps.getD 2 undef=.int .i64 (n:Nat):=t2.int_eq;have kv:IntKind.i64.wrap (s.cells[i].lo+n)=s.cells[i].lo+n:=aP (by omega);have iy:IntKind.i64.wrap (s.cells[i].hi+n)=s.cells[i].hi+n:=aP (by omega)
 have hbX:bX≠b:=λe=>(R.kept b _ kI).2.2.2.2 3 (by rw[gw,e])
 refine BL dO (p:=28) (n:=42) (val:=WQ bX b v i n s.cells[i].lo s.cells[i].hi) (by kernel_rfl) (by kernel_rfl) (by kernel_rfl) R.size (Hk { w with drawn:=w.drawn+1 } ({ w with drawn:=w.drawn+1 }.putObj b (.cells (cur.setIfInBounds (i*3+0) (.int .i64 (s.cells[i].lo+n))) 52 (0,0)))) (.inl ⟨rfl,rfl⟩) ?_ ?_
 .intro k o l aX wx ho G4 XU hI hW hw
  have hX:wx.heap[bX]?=some (.cells vs ty (0,0)):=by
   rcases hW with⟨_,e⟩|⟨_,_,_,e⟩<;>rw[e]
   .exact k3
   .rw[afr hbX];exact k3
  have x1:aX.tmps.getD 1 undef=.int .i64 (i:Nat):=(hI.aR (by kernel_rfl)).trans e1;have x2:aX.tmps.getD 2 undef=.int .i64 (n:Nat):=(hI.aR (by kernel_rfl)).trans e2;have x3:aX.tmps.getD 3 undef=pX bX 0:=(hI.aR (by kernel_rfl)).trans e3;have WC:i<(s.cells.map fo).length:=cN
  match k,ho with
  |0,ho=>
   cases sI ho;exact .inl ⟨11,rfl,wx,fR 0 rfl x3,hW.set⟩
  |1,ho=>
   cases sI ho;exact .inl ⟨12,rfl,wx,jn (b:=bX) (off:=0) rfl (hI.at 0 11 ⟨_,rfl,rfl⟩ (hw ⟨0,.data⟩ (by simp) rfl)) Nk M5 hX Uh,hW.set⟩
  |2,ho=>
   cases sI ho;exact .inl ⟨13,rfl,wx,mP rfl x1,hW.set⟩
  |3,ho=>
   cases sI ho;exact .inl ⟨14,rfl,wx,fR 0 rfl x3,hW.set⟩
  |4,ho=>
   cases sI ho;exact .inl ⟨15,rfl,wx,jn (b:=bX) (off:=0) rfl (hI.at 3 14 ⟨_,rfl,rfl⟩ (hw ⟨3,.data⟩ (by simp) rfl)) Nk M5 hX Uh,hW.set⟩
  |5,ho=>
   cases sI ho;exact .inl ⟨16,rfl,wx,mP rfl x1,hW.set⟩
  |6,ho=>
   cases sI ho;exact .inl ⟨17,rfl,wx,fR 0 rfl x3,hW.set⟩
  |7,ho=>
   cases sI ho;exact .inl ⟨18,rfl,wx,jn (b:=bX) (off:=0) rfl (hI.at 6 17 ⟨_,rfl,rfl⟩ (hw ⟨6,.data⟩ (by simp) rfl)) Nk M5 hX Uh,hW.set⟩
  |8,ho=>
   cases sI ho;exact .inl ⟨19,rfl,wx,mP rfl x1,hW.set⟩
  |9,ho=>
   cases sI ho;exact .inl ⟨20,rfl,wx,sH rfl ep B5 ((hI.at 7 18 ⟨_,rfl,rfl⟩ (hw ⟨7,.data⟩ (by simp) rfl)).trans hv) (hI.at 8 19 ⟨_,rfl,rfl⟩ (hw ⟨8,.data⟩ (by simp) rfl)) WC (by rw[vC]),hW.set⟩
  |10,ho=>
   cases sI ho;exact .inl ⟨21,rfl,wx,fR 0 rfl (hI.at 9 20 ⟨_,rfl,rfl⟩ (hw ⟨9,.data⟩ (by simp) rfl)),hW.set⟩
  |11,ho=>
   cases sI ho;exact .inl ⟨22,rfl,wx,fR 0 rfl (hI.at 10 21 ⟨_,rfl,rfl⟩ (hw ⟨10,.data⟩ (by simp) rfl)),hW.set⟩
  |12,ho=>
   cases sI ho
   have hB:wx.heap[b]?=some (.cells cur 52 (0,0)):=by rw[hW.first (.inl XU)];exact mH
   exact .inl ⟨23,rfl,wx,jn (b:=b) (off:=i*3+0) rfl (hI.at 11 22 ⟨_,rfl,rfl⟩ (hw ⟨11,.data⟩ (by simp) rfl)) CT hn3 hB ry,hW.set⟩
  |13,ho=>
   cases sI ho;exact .inl ⟨24,rfl,wx,mP rfl x2,hW.set⟩
  |14,ho=>
   cases sI ho;exact .inl ⟨25,rfl,wx,DK rfl (hI.at 12 23 ⟨_,rfl,rfl⟩ (hw ⟨12,.data⟩ (by simp) rfl)) (hI.at 13 24 ⟨_,rfl,rfl⟩ (hw ⟨13,.data⟩ (by simp) rfl)) kv,hW.set⟩
  |15,ho=>
   cases sI ho;exact .inl ⟨26,rfl,wx,fR 0 rfl x3,hW.set⟩
  |16,ho=>
   cases sI ho;exact .inl ⟨27,rfl,wx,jn (b:=bX) (off:=0) rfl (hI.at 15 26 ⟨_,rfl,rfl⟩ (hw ⟨15,.data⟩ (by simp) rfl)) Nk M5 hX Uh,hW.set⟩
  |17,ho=>
   cases sI ho;exact .inl ⟨28,rfl,wx,mP rfl x1,hW.set⟩
  |18,ho=>
   cases sI ho;exact .inl ⟨29,rfl,wx,sH rfl ep B5 ((hI.at 16 27 ⟨_,rfl,rfl⟩ (hw ⟨16,.data⟩ (by simp) rfl)).trans hv) (hI.at 17 28 ⟨_,rfl,rfl⟩ (hw ⟨17,.data⟩ (by simp) rfl)) WC (by rw[vC]),hW.set⟩
  |19,ho=>
   cases sI ho;exact .inl ⟨30,rfl,wx,fR 0 rfl (hI.at 18 29 ⟨_,rfl,rfl⟩ (hw ⟨18,.data⟩ (by simp) rfl)),hW.set⟩
  |20,ho=>
   cases sI ho;exact .inl ⟨31,rfl,wx,fR 1 rfl (hI.at 19 30 ⟨_,rfl,rfl⟩ (hw ⟨19,.data⟩ (by simp) rfl)),hW.set⟩
  |21,ho=>
   cases sI ho
   have hB:wx.heap[b]?=some (.cells cur 52 (0,0)):=by rw[hW.first (.inr XU)];exact mH
   exact .inl ⟨32,rfl,wx,jn (b:=b) (off:=i*3+1) rfl (hI.at 20 31 ⟨_,rfl,rfl⟩ (hw ⟨20,.data⟩ (by simp) rfl)) CT hn3 hB jm,hW.set⟩
  |22,ho=>
   cases sI ho;exact .inl ⟨33,rfl,wx,mP rfl x2,hW.set⟩
  |23,ho=>
   cases sI ho;exact .inl ⟨34,rfl,wx,DK rfl (hI.at 21 32 ⟨_,rfl,rfl⟩ (hw ⟨21,.data⟩ (by simp) rfl)) (hI.at 22 33 ⟨_,rfl,rfl⟩ (hw ⟨22,.data⟩ (by simp) rfl)) iy,hW.set⟩
  |24,ho=>
   cases sI ho;exact .inl ⟨35,rfl,wx,sH rfl ep B5 ((hI.at 1 12 ⟨_,rfl,rfl⟩ (hw ⟨1,.data⟩ (by simp) rfl)).trans hv) (hI.at 2 13 ⟨_,rfl,rfl⟩ (hw ⟨2,.data⟩ (by simp) rfl)) WC (by rw[vC]),hW.set⟩
  |25,ho=>
   cases sI ho;exact .inl ⟨36,rfl,wx,fR 0 rfl (hI.at 24 35 ⟨_,rfl,rfl⟩ (hw ⟨24,.data⟩ (by simp) rfl)),hW.set⟩
  |26,ho=>
   cases sI ho;exact .inl ⟨37,rfl,wx,fR 0 rfl (hI.at 25 36 ⟨_,rfl,rfl⟩ (hw ⟨25,.data⟩ (by simp) rfl)),hW.set⟩
  |27,ho=>
   cases sI ho;have h0:=hW.before XU;have l12:=hw ⟨12,.phase⟩ (by simp) rfl;have l21:=hw ⟨21,.phase⟩ (by simp) rfl
   have hB:wx.heap[b]?=some (.cells cur 52 (0,0)):=by rw[h0];exact mH
   refine .inr ⟨rfl,_,HO (t:=3) (x:=.tmp 37) (y:=.tmp 25) rfl (hI.at 26 37 ⟨_,rfl,rfl⟩ (hw ⟨26,.data⟩ (by simp) rfl)) pZ mD hB sq (hI.at 14 25 ⟨_,rfl,rfl⟩ (hw ⟨14,.data⟩ (by simp) rfl)) rfl,.inr ⟨?_,?_,?_,by rw[h0]<;>rfl⟩⟩
   .simp[acG,G4]
   .rw[acG,acB (by decide),<-acG];exact l12
   .rw[acG,acB (by decide),<-acG];exact l21
  |k+28,ho=>exact absurd ho (by simp)
 .intro aX wx hI hW;show wpOpsIn _ _ _ _ _ [28,29,30,31] aX wx
  have Xy:wx=({ w with drawn:=w.drawn+1 }:World).putObj b (.cells (cur.setIfInBounds (i*3+0) (.int .i64 (s.cells[i].lo+n))) 52 (0,0)):=by
   rcases hW with⟨e,_⟩|⟨_,_,_,e⟩
   .cases e
   .exact e
  obtain⟨wJ,XB⟩:∃wJ:World,({ w with drawn:=w.drawn+1 }:World)=wJ:=⟨_,rfl⟩
  have Z9:=((R.jump (hI.low (k:=11) (by kernel_rfl)) hI.size hI.defers).jR (w':=wJ) (by rw[<-XB];exact(adA _ w).drew)).kn kI (.cells (cur.setIfInBounds (i*3+0) (.int .i64 (s.cells[i].lo+n))) 52 (0,0));rw[XB]at Xy;have RJ:=Z9;rw[<-Xy]at RJ;clear Z9;have C9:aX.eval (.tmp 15)=v:=hI.at 4 15 ⟨_,rfl,rfl⟩ rfl;have Dm:aX.eval (.tmp 16)=.int .i64 (i:Nat):=hI.at 5 16 ⟨_,rfl,rfl⟩ rfl;have DC:aX.eval (.tmp 34)=.int .i64 (s.cells[i].hi+n):=hI.at 23 34 ⟨_,rfl,rfl⟩ rfl;have hB1:wx.heap[b]?=some (.cells (cur.setIfInBounds (i*3+0) (.int .i64 (s.cells[i].lo+n))) 52 (0,0)):=(RJ.kept b _ (aK _ _ _)).2.1;have Sm:=hK.set (j:=i) (k:=0) cN (by rw[zR];decide) (x:=fo ⟨s.cells[i].lo+n,s.cells[i].hi,s.cells[i].hid⟩) (u:=.int .i64 (s.cells[i].lo+n)) (xW [_]) (by rw[sk]<;>rfl) hv kI (cur':=cur.setIfInBounds (i*3+0) (.int .i64 (s.cells[i].lo+n))) (by simp) (λm=>by rw[O1 _ _ sq]<;>rfl)
  obtain⟨gJ,RJ,Sm,hkJ⟩:∃gJ,Rel prog w0 42 bz gJ (λt=>cond (decide (11<=t)) AV.bm (S1 t)) H1 aX wx/\KO cc 52 3 ((s.cells.map fo).set i (fo ⟨s.cells[i].lo+n,s.cells[i].hi,s.cells[i].hid⟩)) gJ.old v/\gJ.old.aR b=some (.cells (cur.setIfInBounds (i*3+0) (.int .i64 (s.cells[i].lo+n))) 52 (0,0)):=⟨_,RJ,Sm,aK _ _ _⟩
  have Tj:∀(t:Nat),t<11->(λt=>cond (decide (11<=t)) AV.bm (S1 t)) t=S1 t:=λt ht=>by
   show cond (decide (11<=t)) AV.bm (S1 t)=S1 t
   rw[aeh (by omega)]<;>rfl
  clear hI hW Xy XB;generalize(λt=>cond (decide (11<=t)) AV.bm (S1 t))=SJ at RJ Tj;have bg:=RJ.size;refine aV rfl rfl (by rfl) (gP (k:=i) rfl ep B5 (C9.trans hv) Dm cN) ?_;rw[vC];have R1:=RJ.put 38 (.val (.pointer (some ⟨b,i*3,none⟩))) (.pointer (some ⟨b,i*3,none⟩)) (by decide) (.data _ _ (.val _ rfl)) trivial
  have p:=λt c=>bJ aX 38 t c (by omega)
  have y38:=(p 38 (.pointer (some ⟨b,i*3,none⟩))).trans (if_pos rfl);have zo:=((p 34 (.pointer (some ⟨b,i*3,none⟩))).trans (if_neg (by decide))).trans DC;have IJ:=R1.size;show wpOpsIn _ _ _ _ _ [29,30,31] (aX.put (some 38) (.pointer (some ⟨b,i*3,none⟩))) wx
  generalize aX.put (some 38) (.pointer (some ⟨b,i*3,none⟩))=a4 at*
  clear p DC;have DC:=zo;clear zo;refine aV rfl rfl (by rfl) (fR 0 rfl y38) ?_;have R2:=R1.put 39 (.val (.pointer (some ⟨b,i*3+0,none⟩))) (.pointer (some ⟨b,i*3+0,none⟩)) (by decide) (.data _ _ (.val _ rfl)) trivial
  have p:=λt c=>bJ a4 39 t c (by omega)
  have y39:=(p 39 (.pointer (some ⟨b,i*3+0,none⟩))).trans (if_pos rfl);have zo:=((p 34 (.pointer (some ⟨b,i*3+0,none⟩))).trans (if_neg (by decide))).trans DC;have zq:=R2.size;show wpOpsIn _ _ _ _ _ [30,31] (a4.put (some 39) (.pointer (some ⟨b,i*3+0,none⟩))) wx
  generalize a4.put (some 39) (.pointer (some ⟨b,i*3+0,none⟩))=a5 at*
  clear p DC;have DC:=zo;clear zo;refine aV rfl rfl (by rfl) (fR 1 rfl y39) ?_;have R3:=R2.put 40 (.val (.pointer (some ⟨b,i*3+0+1,none⟩))) (.pointer (some ⟨b,i*3+0+1,none⟩)) (by decide) (.data _ _ (.val _ rfl)) trivial
  have p:=λt c=>bJ a5 40 t c (by omega)
  have y40:=(p 40 (.pointer (some ⟨b,i*3+0+1,none⟩))).trans (if_pos rfl);have zo:=((p 34 (.pointer (some ⟨b,i*3+0+1,none⟩))).trans (if_neg (by decide))).trans DC;have Ve:=R3.size;show wpOpsIn _ _ _ _ _ [31] (a5.put (some 40) (.pointer (some ⟨b,i*3+0+1,none⟩))) wx
  generalize a5.put (some 40) (.pointer (some ⟨b,i*3+0+1,none⟩))=a6 at*
  clear p DC;have DC:=zo;clear zo;obtain ⟨VD,GN,XQ,aa8⟩:=nB (o:={ dst:=none,op := .store 3 (.tmp 40) (.tmp 34),type:=0,pos := "",after := #[],guard:=none }) (v := .int .i64 (s.cells[i].hi+n)) rfl y40 pZ mD hB1 (by simpa using tq) DC rfl;refine dU rfl rfl (by rfl) GN ?_;have R8:=R3.kn hkJ (.cells VD 52 (0,0))
  have abV:i<((s.cells.map fo).set i (fo ⟨s.cells[i].lo+n,s.cells[i].hi,s.cells[i].hid⟩)).length:=by simpa using hi
  have lq:((s.cells.map fo).set i (fo ⟨s.cells[i].lo+n,s.cells[i].hi,s.cells[i].hid⟩))[i]=fo ⟨s.cells[i].lo+n,s.cells[i].hi,s.cells[i].hid⟩:=by simp
  have su:=Sm.set (j:=i) (k:=1) abV (by rw[lq];exact(by decide:1<3)) (x:=fo (yc s.cells[i] n)) (u:=.int .i64 (s.cells[i].hi+n)) (xW [_]) (by rw[lq]<;>rfl) (b:=b) (cap:=cap) (by rw[aet];exact hv) hkJ XQ (λm=>by rw[aa8 m]<;>rfl);rw[List.set_set]at su
  have UN:(s.cells.map fo).set i (fo (yc s.cells[i] n))=(pY s i n).cells.map fo:=by
   show _=(s.cells.set i (yc (s.cells.getD i ⟨0,0,false⟩) n)).map fo;rw[List.map_set,ac2,acx hi]
   rfl
  rw[UN]at su;refine⟨_,_,H1,R8,?_⟩
  exact UE hG (s:=pY s i n) (by rw[<-UN];simpa using bP) hz (λo S H hp s6 h6=>⟨eA.plain hp.ds,hp.c,_,by
   show cL prog 42 [.cell 6 31] S H=_
   simp[s6,h6,oU,o8,gv,eh,ar,ae,bn,SV,SC,Bc],rfl⟩) (by kernel_rfl) (by kernel_rfl) su (by simp[au,Tj,s3]) h3 (by simp[au,Tj,s6]) h6
end Go.Proofs.Tryz
namespace Go.Proofs.Tryz
open Go Go.AL Go.RowKit Go.Proofs Go.Proofs.Tram
attribute [local simp] dP fu fb eu eL dV dW du dp eJ dq cU gG gD aG aD ev aQ.S aQ.H bG au aY AL.start AV.cells AV.storable AV.bZ bu bQ eF b0 HR.okB post cL dc db AV.out AV.bW cy dK fz gM AV.vw da vI int bO aO dE dj iJ jF eo dG bt AV.aH AV.cT
variable{GI:World->Prop}
def uT(s:az)(ao:List Int):List AV:=if(dz s).isEmpty then[.int .i64 0,.int .i64 0,.bool false]else(match u_ s ao with|some q=>[.int .i64 (q.1:Nat),.int .i64 (q.2:Nat),.bool true]|none=>[])
def I6{s:az}(h:eG s)(es:List End)(he:es.length<=3){q:Nat×Nat}(hv:(dz s).isEmpty=false)(hq:pM (iL s (aU s es)) s.cells.length q.1 q.2):q.2<=400:=by
 obtain⟨c,hc,hd⟩:=vj h (vg h es) hv;have h1:=(hq.less c _ hc hd).1
 have hb:∀x∈aU s es,x<=81:=λx hx=>by
  obtain⟨i,hi,rfl⟩:=acZ.1 hx
  exact(tf h he (by
   rw[fM (acY.1 hi)]
   exact(lV h.name (acy _)).uy)).2
 have h2:=vd hb (by decide)
 have h3:(aU s es).length<=4:=by
  have:=(eM h.name).words;simp[aU];omega
 omega
def ab1(hG:aw GI)(s:az)(h:eG s){es:List End}(hE:eX s.name=some es):AC prog GI 41 [bn s] (.ret (.dR (uT s (aU s es)))):=by
 have gr:=h.cells;have he:=iq h.name hE
 have bP:s.cells≠[]:=λh0=>by rw[h0]at gr;simp at gr
 have hns:T_ s=aU s es:=by unfold T_;rw[hE]
 have h32:=Rx hG s h;rw[LC,hns,hE]at h32;have h61:=aaY hG s h;have hn:=ka h he;have n_:=(yl (oI h)).1;have OD:=Qg h
 have YG:=λ(c:Nat)(hc:c<s.cells.length)(t:Nat)(ht:t<=900)=>aa5 hG s h hc ht
 have ab2:∀(c:Nat)(hc:c<s.cells.length)(t:Nat),AC prog GI 100 [bn (pY s c t)] (.ret (vI (fN s c t))):=λc hc t=>by
  have:=YL hG (pY s c t) (by rw[DM];omega) (λh0=>bP (by
   have:=DM s c t;rw[h0]at this
   exact adb this.symm))
  rwa [Iu hc]at this
 have h97:∀(c:Nat)(hc:c<s.cells.length)(t:Nat)(ht:t<=900),AC prog GI 97 [vI (aU s es),.slice .view ((ez (dk s) s.cells.length).map dM),vI (fN s c t)] (.ret (.int .i64 (ru s (aU s es) (fN s c t):Nat))):=λc hc t ht=>by
  have hl:(fN s c t).length=s.cells.length:=by simp[fN,bo]
  refine aao hG _ hn.1 hn.2 _ OD (fN s c t) (by omega) (λx hx=>?_) (λv hv=>by have:=n_ v hv;omega);rcases aff hx with h1|h1
  .exact(o9 h 0).2 x h1
  .have OW:c<(bo 0 s).length:=by simpa[bo]using hc
   rw[h1,ac2,acx OW,Option.getD_some];have:=(o9 h 0).2 _ (acy OW)
   have I9:(bo 0 s)[c]<=20:=by
    have:=h.th _ (acy hc);simp[bo,mA];omega
   omega
 have hB:∀c t,(((ru s (aU s es) (fN s c t):Nat):Int)==((aU s es).length:Int))=iL s (aU s es) c t:=λc t=>by
  unfold iL;rw[adE,acJ,ac7];omega
 have hve:(dz s).isEmpty=(ez (dk s) s.cells.length).isEmpty:=by
  unfold dz
  cases ez (dk s) s.cells.length<;>rfl
 have fx:(dz s).isEmpty=false->∃q,u_ s (aU s es)=some q/\pM (iL s (aU s es)) s.cells.length q.1 q.2/\q.2<=400:=λhv=>by
  obtain⟨q,h1,h2⟩:=IC h es hv;exact⟨q,h1,h2,I6 h es he hv h2⟩
 unfold uT;rw[hve]at fx⊢
 generalize aU s es=ns at*
 generalize ez (dk s) s.cells.length=vs at*
 refine cE hG func41 ntmps41 c41 ?_;refine aI (λS H=>S 1=.box 1 0/\H 1=some (ar s)) (by simp[bn,ar,ae]) ?_;rintro S H ⟨s1,h1⟩;refine aI (λS H=>S 1=.box 1 0/\H 1=some (ar s)/\S 5=vI ns) ?_ ?_
 .simp[s1,h1,ar,ae];refine oc h32 ?_;simp[s1,h1,ar,ae]
 clear s1 h1 S H;rintro S H ⟨s1,h1,s5⟩;refine aI (λS H=>S 1=.box 1 0/\H 1=some (ar s)/\S 5=vI ns/\S 7=.slice .view (vs.map dM)) ?_ ?_
 .simp[s1,h1,s5,ar,ae];refine oc h61 ?_;simp[s1,h1,s5,ar,ae]
 clear s1 h1 s5 S H;rintro S H ⟨s1,h1,s5,s7⟩
 cases mr:vs.isEmpty with
 |true=>
  have:vs=[]:=by simpa using mr
  subst this;simp[s1,h1,s5,s7]
 |false=>
 obtain⟨q,hq,hS,hq4⟩:=fx mr;rw[hq]
 have Ou:((vs.length:Int)==0)=false:=by
  cases vs with
  |nil=>cases mr
  |cons x l=>rw[adj];simp;omega
 refine aI (λS H=>S 1=.box 1 0/\H 1=some (ar s)/\S 5=vI ns/\S 7=.slice .view (vs.map dM)) ?_ ?_
 .simp[s1,h1,s5,s7,Ou,ar,ae]
 clear s1 h1 s5 s7 S H;rintro S H ⟨s1,h1,s5,s7⟩;refine aI (λS H=>S 1=.box 1 0/\H 1=some (ar s)/\S 5=vI ns/\S 7=.slice .view (vs.map dM)/\S 8=.int .i64 0) (by simp[s1,h1,s5,s7,ar,ae]) ?_;clear s1 h1 s5 s7 S H;rintro S H ⟨s1,h1,s5,s7,s8⟩;show bL prog GI (.block 0 (.loop (.seq (.block 1 (.seq _ (.block 2 (.loop _)))) _))) _ _ _;refine bC (Q:=dj 0 _) 8 q.2 (λt S H=>S 1=.box 1 0/\H 1=some (ar s)/\S 5=vI ns/\S 7=.slice .view (vs.map dM)/\S 8=.int .i64 (t:Nat)/\∀c n,n<t->c<s.cells.length->iL s ns c n=false) (λi S H h=>h.2.2.2.2.1) ⟨s1,h1,s5,s7,s8,λc n hn=>by omega⟩ ?_;clear s1 h1 s5 s7 s8 S H;rintro t ht S H ⟨s1,h1,s5,s7,s8,hb⟩;refine yI (λS H=>S 1=.box 1 0/\H 1=some (ar s)/\S 5=vI ns/\S 7=.slice .view (vs.map dM)/\S 8=.int .i64 (t:Nat)/\t<q.2/\∀c,c<s.cells.length->iL s ns c t=false) ?_ ?_
 case refine_2=>
  clear s1 h1 s5 s7 s8 S H;rintro S H ⟨s1,h1,s5,s7,s8,Yx,hc⟩;have hw:IntKind.i64.wrap ((t:Int)+1)=t+1:=aP (by omega);simp[s1,h1,s5,s7,s8,hw,ar,ae];refine⟨Yx,λc n hn gr=>?_⟩
  by_cases e:n=t
  .subst e;exact hc c gr
  .exact hb c n (by omega) gr
 refine aI (λS H=>S 1=.box 1 0/\H 1=some (ar s)/\S 5=vI ns/\S 7=.slice .view (vs.map dM)/\S 8=.int .i64 (t:Nat)/\S 9=.int .i64 0) (by simp[s1,h1,s5,s7,s8,ar,ae]) ?_;clear s1 h1 s5 s7 s8 S H;rintro S H ⟨s1,h1,s5,s7,s8,s9⟩;refine bC (Q:=dj 2 _) 9 s.cells.length (λc S H=>S 1=.box 1 0/\H 1=some (ar s)/\S 5=vI ns/\S 7=.slice .view (vs.map dM)/\S 8=.int .i64 (t:Nat)/\S 9=.int .i64 (c:Nat)/\∀c',c'<c->iL s ns c' t=false) (λi S H h=>h.2.2.2.2.2.1) ⟨s1,h1,s5,s7,s8,s9,λc hc=>by omega⟩ ?_;clear s1 h1 s5 s7 s8 s9 S H;rintro c hc S H ⟨s1,h1,s5,s7,s8,s9,kh⟩
 by_cases av:c<s.cells.length
 case neg=>
  have hce:c=s.cells.length:=by omega
  subst hce
  have Yx:t<q.2:=by
   rcases adK t q.2 with h|h
   .exact h
   .have e:t=q.2:=by omega
    have:=kh q.1 hS.cell;rw[e,hS.Pn]at this;cases this
  simp[s1,h1,s5,s7,s8,s9,ar,ae];exact⟨Yx,kh⟩
 have Xx:=YG c av t (by omega);have aax:=ab2 c av t;have T5:=h97 c av t (by omega);have aB:=hB c t;have hw:IntKind.i64.wrap ((c:Int)+1)=c+1:=aP (by omega)
 generalize fN s c t=wr at*
 generalize ru s ns wr=rd at*
 refine aI (λS H=>S 1=.box 1 0/\H 1=some (ar s)/\S 5=vI ns/\S 7=.slice .view (vs.map dM)/\S 8=.int .i64 (t:Nat)/\S 9=.int .i64 (c:Nat)) (by simp[s1,h1,s5,s7,s8,s9,av,ar,ae]) ?_;clear s1 h1 s5 s7 s8 s9 S H;rintro S H ⟨s1,h1,s5,s7,s8,s9⟩;refine yI (λS H=>S 1=.box 1 0/\H 1=some (ar s)/\S 5=vI ns/\S 7=.slice .view (vs.map dM)/\S 8=.int .i64 (t:Nat)/\S 9=.int .i64 (c:Nat)/\iL s ns c t=false) ?_ ?_
 .simp[s1,h1,s5,s7,s8,s9,ar,ae];refine oc Xx ?_;simp[s1,h1,s5,s7,s8,s9,bn,ar,ae];refine oc aax ?_;simp[s1,h1,s5,s7,s8,s9,bn,ar,ae];refine oc T5 ?_
  cases fx:iL s ns c t with
  |true=>
   rw[fx]at aB
   have hX:pM (iL s ns) s.cells.length c t:=⟨av,fx,λc' n mU hn=>⟨by
    rcases adK n t with h|h
    .rw[hb c' n h mU]at hn;cases hn
    .exact h,λe=>by
    rcases adK c' c with h|h
    .rw[e,kh c' h]at hn;cases hn
    .exact h⟩⟩
   obtain⟨e1,e2⟩:=hX.unique hS;subst e1;subst e2;simp[s1,h1,s5,s7,s8,s9,aB,ar,ae]
  |false=>
   rw[fx]at aB;simp[s1,h1,s5,s7,s8,s9,aB,ar,ae]
 clear s1 h1 s5 s7 s8 s9 S H;rintro S H ⟨s1,h1,s5,s7,s8,s9,fx⟩;simp[s1,h1,s5,s7,s8,s9,hw,av,ar,ae];intro c' mU
 by_cases e:c'=c
 .subst e;exact fx
 .exact kh c' (by omega)
end Go.Proofs.Tryz
namespace Go.AL
def TA:List (Nat×td)->Nat->Option td
 |[],_=>none
 |x::l,f=>bif Nat.beq f x.1 then some x.2 else TA l f
def Vd(P:Program)(x:Nat×td):Prop:=∃(F:Func)(c:Code),P.funcs[x.1]?=some F/\F.body=some c/\F.ntmps=x.2.n/\F.results.toList=x.2.res/\cC P x.2.n c=x.2.code
def MO{P:Program}:∀{l:List (Nat×td)},(∀x∈l,Vd P x)->Kg P (TA l)
 |[],_,_,_,h=>by cases h
 |x::l,hl,f,fn,h=>by
  unfold TA at h
  cases hb:Nat.beq f x.1 with
  |true=>
   rw[hb]at h;cases h;rw[agc hb];exact hl x acS
  |false=>
   rw[hb]at h;exact MO (λy hy=>hl y (acH _ hy)) f fn h
def T'{α:Type}{b:Bool}{x y:Option α}{z:α}(h:(bif b then x else y)=some z):(b=true/\x=some z)\/(b=false/\y=some z):=by
 cases b
 .exact .inr ⟨rfl,h⟩
 .exact .inl ⟨rfl,h⟩
end Go.AL
namespace Go.Proofs.Tryz
open Go Go.AL Go.RowKit Go.Proofs Go.Proofs.Tram
variable{GI:World->Prop}
noncomputable def LI:List (Nat×td):=[(65,⟨c65,9,[.tmp 2]⟩),(118,⟨c118,80,[.tmp 2]⟩),(121,⟨c121,94,[.cell 2 31,.tmp 3]⟩),(123,⟨c123,115,[.tmp 2]⟩),(124,⟨c124,53,[.tmp 2]⟩),(125,⟨c125,114,[.tmp 2]⟩),(161,⟨c161,16,[.tmp 2]⟩),(165,⟨c165,19,[.tmp 4]⟩),(166,⟨c166,5,[.tmp 2]⟩),(167,⟨c167,8,[.tmp 4]⟩),(168,⟨c168,9,[]⟩),(173,⟨c173,25,[.tmp 2]⟩),(174,⟨c174,21,[.tmp 4]⟩),(175,⟨c175,65,[.tmp 4]⟩),(176,⟨c176,26,[.tmp 2]⟩),(200,⟨c200,2,[.cell 0 248]⟩),(203,⟨c203,18,[.tmp 4]⟩),(205,⟨c205,9,[]⟩),(206,⟨c206,2,[.cell 0 254]⟩),(207,⟨c207,19,[.tmp 4]⟩),(209,⟨c209,8,[.tmp 2]⟩),(210,⟨c210,44,[.tmp 2]⟩),(278,⟨c278,17,[.tmp 2]⟩),(280,⟨c280,20,[.tmp 2]⟩),(281,⟨c281,11,[.tmp 2]⟩),(282,⟨c282,19,[.tmp 2]⟩),(283,⟨c283,24,[.tmp 2]⟩),(284,⟨c284,7,[.tmp 2]⟩),(285,⟨c285,19,[.tmp 2]⟩),(286,⟨c286,17,[.tmp 2]⟩),(287,⟨c287,9,[.tmp 2]⟩)]
def OI:∀x∈LI,Vd prog x:=by
 unfold LI;simp only[List.forall_mem_cons];exact⟨⟨f65,_,func65,rfl,ntmps65,rfl,by kernel_rfl⟩,⟨f118,_,func118,rfl,ntmps118,rfl,by kernel_rfl⟩,⟨f121,_,func121,rfl,ntmps121,rfl,by kernel_rfl⟩,⟨f123,_,func123,rfl,ntmps123,rfl,by kernel_rfl⟩,⟨f124,_,func124,rfl,ntmps124,rfl,by kernel_rfl⟩,⟨f125,_,func125,rfl,ntmps125,rfl,by kernel_rfl⟩,⟨f161,_,func161,rfl,ntmps161,rfl,by kernel_rfl⟩,⟨f165,_,func165,rfl,ntmps165,rfl,by kernel_rfl⟩,⟨f166,_,func166,rfl,ntmps166,rfl,by kernel_rfl⟩,⟨f167,_,func167,rfl,ntmps167,rfl,by kernel_rfl⟩,⟨f168,_,func168,rfl,ntmps168,rfl,by kernel_rfl⟩,⟨f173,_,func173,rfl,ntmps173,rfl,by kernel_rfl⟩,⟨f174,_,func174,rfl,ntmps174,rfl,by kernel_rfl⟩,⟨f175,_,func175,rfl,ntmps175,rfl,by kernel_rfl⟩,⟨f176,_,func176,rfl,ntmps176,rfl,by kernel_rfl⟩,⟨f200,_,func200,rfl,ntmps200,rfl,by kernel_rfl⟩,⟨f203,_,func203,rfl,ntmps203,rfl,by kernel_rfl⟩,⟨f205,_,func205,rfl,ntmps205,rfl,by kernel_rfl⟩,⟨f206,_,func206,rfl,ntmps206,rfl,by kernel_rfl⟩,⟨f207,_,func207,rfl,ntmps207,rfl,by kernel_rfl⟩,⟨f209,_,func209,rfl,ntmps209,rfl,by kernel_rfl⟩,⟨f210,_,func210,rfl,ntmps210,rfl,by kernel_rfl⟩,⟨f278,_,func278,rfl,ntmps278,rfl,by kernel_rfl⟩,⟨f280,_,func280,rfl,ntmps280,rfl,by kernel_rfl⟩,⟨f281,_,func281,rfl,ntmps281,rfl,by kernel_rfl⟩,⟨f282,_,func282,rfl,ntmps282,rfl,by kernel_rfl⟩,⟨f283,_,func283,rfl,ntmps283,rfl,by kernel_rfl⟩,⟨f284,_,func284,rfl,ntmps284,rfl,by kernel_rfl⟩,⟨f285,_,func285,rfl,ntmps285,rfl,by kernel_rfl⟩,⟨f286,_,func286,rfl,ntmps286,rfl,by kernel_rfl⟩,⟨f287,_,func287,rfl,ntmps287,rfl,by kernel_rfl⟩,λ_ h=>nomatch h⟩
def M0:AV->Option (List UInt8)
 |.str l=>some l
 |_=>none
def Q6:List AV->Option eE
 |[.int .i64 n]=>if 0<=n/\n<100 then some (.ret (.str (mG n)))else none
 |_=>none
def Qu:List AV->Option eE
 |[.str s,.str [c]]=>if s.length<1000 then some (.ret (strs (kq c s)))else none
 |_=>none
def Rg:List AV->Option eE
 |[.slice .view es,.str sep]=>match rT M0 es with
  |some ls=>if ls.length<=1000/\(Lib.join ls sep).length<=1000 then some (.ret (.str (Lib.join ls sep)))else none
  |none=>none
 |_=>none
def Q_:List AV->Option eE
 |[.str w]=>if w.length<1000/\JR w=true then some (.ret (.int .i64 (dY w)))else none
 |_=>none
def Sd:List AV->Option eE
 |[.slice .view es]=>match rT M0 es with
  |some ws=>if ws.length<=1000/\ws.all JR=true then some (.ret (.slice (if ws.isEmpty then .nil else .view) (ints (ws.map dY))))else none
  |none=>none
 |_=>none
def J7:AV->Option Int
 |.int .i64 n=>some n
 |_=>none
def QX:List AV->Option eE
 |[.slice .view es]=>match rT J7 es with
  |some (n::l)=>if l.length<900/\((n::l).all λn=>decide (0<=n/\n<100))=true then some (.ret (.slice (.own 9) (((n::l).map mG).map .str)))else none
  |_=>none
 |_=>none
def Ng:eS:=λf args=>
 bif Nat.beq f 162 then Q6 args else bif Nat.beq f 164 then Qu args else bif Nat.beq f 199 then Rg args else bif Nat.beq f 169 then Q_ args else bif Nat.beq f 208 then Sd args else bif Nat.beq f 279 then QX args else none
def yr:∀{es:List AV}{ls:List (List UInt8)},rT M0 es=some ls->es=ls.map AV.str
 |[],_,h=>by cases h;rfl
 |x::es,ls,h=>by
  unfold rT at h;split at h
  case h_2=>cases h
  rename_i a ha;split at h
  case h_2=>cases h
  rename_i r hr;cases h
  have:x=.str a:=by
   unfold M0 at ha
   split at ha<;>cases ha
   rfl
  rw[ac5,<-this,<-yr hr]
def Ps(hG:aw GI){args:List AV}{out:eE}(h:Q6 args=some out):AC prog GI 162 args out:=by
 unfold Q6 at h;split at h
 case h_2=>cases h
 split at h<;>cases h
 rename_i hc;exact Aq hc.1 hc.2
def SO(qf:ML GI){args:List AV}{out:eE}(h:Qu args=some out):AC prog GI 164 args out:=by
 unfold Qu at h;split at h
 case h_2=>cases h
 split at h<;>cases h
 exact Ws qf _ _ (by omega)
def P1{args:List AV}{out:eE}(h:Rg args=some out):AC prog GI 199 args out:=by
 unfold Rg at h;split at h
 case h_2=>cases h
 split at h
 case h_2=>cases h
 rename_i hd
 split at h<;>cases h
 rename_i hc;rw[yr hd];exact WO _ _ (by omega) (by omega)
def Qb(hG:aw GI){args:List AV}{out:eE}(h:Q_ args=some out):AC prog GI 169 args out:=by
 unfold Q_ at h;split at h
 case h_2=>cases h
 split at h<;>cases h
 rename_i w hc;exact U7 hG w hc.2
def Ql(hG:aw GI){args:List AV}{out:eE}(h:Sd args=some out):AC prog GI 208 args out:=by
 unfold Sd at h;split at h
 case h_2=>cases h
 split at h
 case h_2=>cases h
 rename_i ws hd
 split at h<;>cases h
 rename_i hc;rw[yr hd]
 have hw:∀w∈ws,_:=λw hw=>D7.1 (acN.1 hc.2 w hw)
 exact YJ hG (by omega) (λw h=>⟨(hw w h).1,by have:=(hw w h).2.1;omega,(hw w h).2.2.1⟩) λw h=>by
  have r:=vV w (hw w h).2.2.1 (hw w h).2.1;have:=Aq (GI:=GI) r.1 r.2;rwa [(hw w h).2.2.2]at this
def D3:∀{es:List AV}{ls:List Int},rT J7 es=some ls->es=ints ls
 |[],_,h=>by cases h;rfl
 |x::es,ls,h=>by
  unfold rT at h;split at h
  case h_2=>cases h
  rename_i a ha;split at h
  case h_2=>cases h
  rename_i r hr;cases h
  have:x=.int .i64 a:=by
   unfold J7 at ha
   split at ha<;>cases ha
   rfl
  rw[this,D3 hr]<;>rfl
def RT(hG:aw GI){args:List AV}{out:eE}(h:QX args=some out):AC prog GI 279 args out:=by
 unfold QX at h;split at h
 case h_2=>cases h
 split at h
 case h_2=>cases h
 rename_i n l hd
 split at h<;>cases h
 rename_i hc;rw[D3 hd]
 exact Wt hG (n::l) (by simp) (by simp;omega) λx hx=>by have:=acN.1 hc.2 x hx;exact aez (p:=0<=x/\x<100) this
def qA{f k:Nat}{args:List AV}{x y:Option eE}{out:eE}(h:(bif Nat.beq f k then x else y)=some out)(h1:x=some out->AC prog GI k args out)(h2:y=some out->AC prog GI f args out):AC prog GI f args out:=by
 rcases T' h with⟨hf,h⟩|⟨-,h⟩
 .rw[agc hf];exact h1 h
 .exact h2 h
def KS(hG:aw GI)(qf:ML GI)(f:Nat)(args:List AV)(out:eE)(h:Ng f args=some out):AC prog GI f args out:=
 qA h (Ps hG) λh=>qA h (SO qf) λh=>qA h P1 λh=>qA h (Qb hG) λh=>qA h (Ql hG) λh=>qA h (RT hG) λh=>nomatch h
noncomputable def Nz:eS:=Nq prog Ng (TA LI) 1000 60
def AW(hG:aw GI)(qf:ML GI)(f:Nat)(args:List AV)(out:eE)(h:Nz f args=some out):AC prog GI f args out:=
 Jb hG dO (KS hG qf) (MO OI) 60 f args out h
def pI:List UInt8:=[116,114,97,109,32,49,32,49,32,49,32,48,10,99,101,108,108,32,49,32,50,32,110,111,10,101,110,100,32,49,55,56,10,102,114,111,110,116,32,49,32,49,10,115,112,97,99,101,115,32,48,32,48,32,48,32,48,32,49,10,115,105,103,110,32,49,10,119,111,114,100,32,110,111,32,48,32,45,10,101,110,100,32,48,57,56,10]
def j4:az:=⟨[⟨1,2,false⟩],1,1,1,0,⟨[1],[],0,0,0,0,1,[⟨[0],[],false⟩],1,1⟩⟩
def noS:aF:=⟨[],[],0,0,0,0,0,[],0,0⟩
def sY:az:={ j4 with name:=noS }
noncomputable def Pp:td:=⟨c172,171,[.cell 2 29]⟩
def r65:Nz 65 [bn j4]=some (.ret (.str pI)):=by kernel_rfl
def aba:MK prog Nz 1000 5 5 Pp [.str (pI.drop 33)]=some (.ret (bU j4.name)):=by kernel_rfl
def abr:Nz 121 [.str pI]=some (.ret (.dR [bn sY,.str (pI.drop 33)])):=by kernel_rfl
end Go.Proofs.Tryz
namespace Go.Proofs.Tryz
open Go Go.AL Go.RowKit Go.Proofs Go.Proofs.Tram
attribute [local simp] dP fu fb eu eL dV dW du dp eJ dq cU gG gD aG aD ev aQ.S aQ.H bG au aY AL.start AV.cells AV.storable AV.bZ bu bQ eF b0 HR.okB post cL dc db AV.out AV.bW cy dK fz gM AV.vw da vI int bO aO dE dj iJ jF eo dG bt AV.aH AV.cT
variable{GI:World->Prop}
def UW(hG:aw GI)(qf:ML GI):AC prog GI 121 [.str pI] (.ret (.dR [bn sY,.str (pI.drop 33)])):=AW hG qf _ _ _ abr
def YM(hG:aw GI)(qf:ML GI):AC prog GI 65 [bn j4] (.ret (.str pI)):=AW hG qf _ _ _ r65
def Tl:gh j4:=⟨by decide,by decide,by decide,by decide,λw hw=>by
 simp[j4]at hw;subst hw;decide,λw hw=>by
 simp[j4]at hw;subst hw;decide⟩
def Tv(hG:aw GI)(qf:ML GI):AC prog GI 122 [.str (pI.drop 33)] (.ret (.dR [bU j4.name,.int .i64 0])):=
 Zl hG (s:=pI.drop 33) (x:=ae j4.name) (by decide) rfl (GX hG dO (AW hG qf) (f:=172) (fn:=Pp) ⟨f172,_,func172,rfl,ntmps172,rfl,by kernel_rfl,by kernel_rfl⟩ aba) (by
  have:=IA (GI:=GI) hG j4.name Tl.name
  rwa [show bf j4.name=true by kernel_rfl]at this)
noncomputable def Dd:af:=af.qb c63.qb.qb.qb
def NM(x:az):(ar x).map AV.aH=ar x:=by simp[ar,ae,AV.aH,vI]
def h_:List AV:=[.slice .nil [],.int .i64 0,.int .i64 0,.int .i64 0,.int .i64 0,.slice .nil [],.slice .nil [],.int .i64 0,.int .i64 0,.int .i64 0,.int .i64 0,.int .i64 0,.slice .nil [],.int .i64 0,.int .i64 0]
def V6(hG:aw GI)(qf:ML GI):AC prog GI 63 [.str pI] (.ret (.dR [bn j4,.int .i64 0])):=by
 obtain⟨i31,oU,o8⟩:=iZ 31 15;obtain⟨fs,gv⟩:=uZ 31;have aaH:=UW hG qf;have abL:=Tv hG qf;have a77:=rZ (GI:=GI) hG j4 Tl;rw[show dQ j4=true by kernel_rfl]at a77;have hK:j4={ sY with name:=j4.name }:=rfl
 have hlI:¬(530:Int)<pI.length:=by decide
 generalize pI.drop 33=u at*
 generalize pI=t at*
 have mh:∀ (w0:World) (g:Gh) (S:an) (H:aq) (a:Act) (w:World),GI w0→Rel prog w0 42 bz g S H a w→S 1 = .box 1 0→H 1=some [.str t]→S 4 = .box 4 0→H 4=some h_→S 5 = .box 5 0→H 5=some [.str []] →
    Calls prog 119 #[.func (.func 120) #[] #[a.tmps.getD 1 undef,a.tmps.getD 4 undef,a.tmps.getD 5 undef]] w λen w2=>en=.returned (.int .i64 0)/\∃(c:Value)(g':Gh)(S':an)(H':aq),g'.old=g.old/\Rel prog w0 42 bz g' S' H' (a.put (some 14) c) w2/\S' 2=S 2/\H' 2=H 2/\S' 4=.box 4 0/\H' 4=some (ar sY)/\S' 5=.box 5 0/\H' 5=some [.str u]:=by
  intro w0 g S H a w cj R q1 h1 q4 h4 q5 h5
  refine vQ (d:=14) (by kernel_rfl) R λg1 w1 R1 lq _ _=>?_
  refine(Ot hG cj R1 (d:=14) (i1:=1) (i4:=4) (i5:=5) (by decide) (by decide) (by decide) (by decide) (by decide) (by decide) (by decide) q1 h1 q4 h4 q5 h5 rfl rfl aaH).mono ?_;rintro en w2 ⟨rfl,c,g',S',H',lQ,R',uB,uL⟩;refine⟨rfl,c,g',S',H',lQ,R',uB 2 (by decide),?_,by rw[uB 4 (by decide)];exact q4,?_,by rw[uB 5 (by decide)];exact q5,?_⟩
  .rw[uL];simp[au]
  .rw[uL];simp[au];exact NM sY
  .rw[uL];simp[au]
 refine AC.jw func63 rfl ntmps63 (by simp) λcc w=>?_
 refine eV hG c63.qa (λS' H'=>S' 1=.box 1 0/\H' 1=some [.str t]/\S' 2=.box 2 0/\H' 2=some (h_)) ?_ ?_
 .simp[c63,af.qa,h_]
 rintro S H ⟨s1,h1,s2,h2⟩;refine SW.seq (eV hG c63.qb.qa.qa (λS' H'=>S' 1=.box 1 0/\H' 1=some [.str t]/\S' 2=.box 2 0/\H' 2=some (h_)/\S' 11=.bool false) ?_ ?_)
 .simp[c63,af.qa,af.qb,s1,h1,s2,h2,hlI]
 clear s1 h1 s2 h2 S H;rintro S H ⟨s1,h1,s2,h2,ck⟩;refine SW.cond rfl false (by show S 11=_;rw[ck]) (SW.skip ?_);clear ck;show SW prog GI 42 none (.seq _ (.seq _ (.seq (.seq _ (.seq _ (.cond _ (.seq _ .ret) .skip))) _))) _ _ _ _;refine eV hG c63.qb.qb.qa (λS' H'=>S' 1=.box 1 0/\H' 1=some [.str t]/\S' 2=.box 2 0/\H' 2=some (h_)/\S' 4=.box 4 0/\H' 4=some (h_)) ?_ ?_
 .simp[c63,af.qa,af.qb,s1,h1,s2,h2,h_]
 clear s1 h1 s2 h2 S H;rintro S H ⟨s1,h1,s2,h2,s4,h4⟩;refine eV hG c63.qb.qb.qb.qa (λS' H'=>S' 1=.box 1 0/\H' 1=some [.str t]/\S' 2=.box 2 0/\H' 2=some (h_)/\S' 4=.box 4 0/\H' 4=some (h_)/\S' 5=.box 5 0/\H' 5=some [.str []]) ?_ ?_
 .simp[c63,af.qa,af.qb,s1,h1,s2,h2,s4,h4]
 clear s1 h1 s2 h2 s4 h4 S H;rintro S3 H3 ⟨s1,h1,s2,h2,s4,h4,s5,h5⟩
 refine SW.seq (SW.seq (SW.hand hG (p:=0) (lm:=[0,1]) (l2:=[2]) (js:=[]) (oh:=[_,_]) (lv:=[_]) rfl rfl rfl rfl (by kernel_rfl) (λ_ h=>h) (lO:=[]) (lu:=(c63.qb.qb.qb.qb.qa.qa.dl).drop 2) rfl (by kernel_rfl) rfl (by kernel_rfl)
  (K1:=λS' H'=>S' 1=.box 1 0/\H' 1=some [.str t]/\S' 2=.box 2 0/\H' 2=some (h_)/\S' 4=.box 4 0/\H' 4=some (h_)/\S' 5=.box 5 0/\H' 5=some [.str []])
  (K2:=λo S' H'=>o=Old.plain cc w/\S' 2=.box 2 0/\H' 2=some (h_)/\S' 4=.box 4 0/\H' 4=some (ar sY)/\S' 5=.box 5 0/\H' 5=some [.str u]/\S' 14=.int .i64 0)
  (K3:=λo S' H'=>o=Old.plain cc w/\S' 2=.box 2 0/\H' 2=some (h_)/\S' 4=.box 4 0/\H' 4=some (ar sY)/\S' 5=.box 5 0/\H' 5=some [.str u]/\S' 6=.int .i64 0) ⟨s1,h1,s2,h2,s4,h4,s5,h5⟩ ?_ ?_ ?_))
 .rintro w0 g S5 H5 a w5 m cj ho R ⟨s1,h1,s2,h2,s4,h4,s5,h5⟩;have bg:=R.size;refine aV rfl rfl (by rfl) (nA (fn:=.func 120) (c:=#[.tmp 1,.tmp 4,.tmp 5]) rfl) ?_
  obtain⟨fv,lT⟩:∃fv:Value,fv=.func (.func 120) #[] (#[Operand.tmp 1,.tmp 4,.tmp 5].map a.eval):=⟨_,rfl⟩
  show wpOpsIn _ _ _ _ _ [1] (a.put (some 13) (.func (.func 120) #[] (#[Operand.tmp 1,.tmp 4,.tmp 5].map a.eval))) w5;rw[<-lT];have R1:=R.put 13 .bm fv (by decide) (.bm _) trivial
  obtain⟨a1,pA⟩:∃a1,a.put (some 13) fv=a1:=⟨_,rfl⟩
  rw[pA]at R1⊢
  have Cf:fv=.func (.func 120) #[] #[a1.tmps.getD 1 undef,a1.tmps.getD 4 undef,a1.tmps.getD 5 undef]:=by
   have e1:=bJ a 13 1 fv (by omega);have e2:=bJ a 13 4 fv (by omega);have e4:=bJ a 13 5 fv (by omega);rw[if_neg (by decide),pA]at e1 e2 e4;have CS:a1.tmps.getD 1 undef=a.eval (.tmp 1):=e1;have Rj:a1.tmps.getD 4 undef=a.eval (.tmp 4):=e2;have Lg:a1.tmps.getD 5 undef=a.eval (.tmp 5):=e4;rw[CS,Rj,Lg,lT];simp only[ado,ac5,adp]
  have kR:a1.eval (.tmp 13)=fv:=by rw[<-pA,bJ _ _ _ _ (by omega),if_pos rfl]
  refine gE rfl rfl (by rfl) (jr (k:=119) (args:=#[.func (.func 120) #[] #[a1.tmps.getD 1 undef,a1.tmps.getD 4 undef,a1.tmps.getD 5 undef]]) w5 rfl rfl ?_ (by kernel_rfl)) (mh w0 g _ _ a1 w5 cj R1 (by simp[au,s1]) h1 (by simp[au,s4]) h4 (by simp[au,s5]) h5) ?_
  .simp only[ado,ac5,adp,kR,<-Cf]
  .rintro en w6 ⟨rfl,c,g',S',H',lQ,R2,ub,vf,GS,Lq,z7,Gc⟩;refine⟨_,rfl,?_⟩;have R3:=R2.put 14 (.int .i64 0) (.int .i64 0) (by decide) (.data _ _ (.int _ _)) trivial;rw[qS]at R3;exact⟨g',_,H',R3,lQ.trans ho,by rw[aN _ _ (by decide),ub];simp[au,s2],vf.trans h2,by rw[aN _ _ (by decide)];exact GS,Lq,by rw[aN _ _ (by decide)];exact z7,Gc,aK _ _ _⟩
 .rintro o S5 H5 ⟨rfl,s2,h2,s4,h4,s5,h5,er⟩;refine⟨λ_ h=>h,?_⟩;simp[c63,af.qa,af.qb,af.dl,s2,h2,s4,h4,s5,h5,er]
 rintro o S5 H5 ⟨rfl,s2,h2,s4,h4,s5,h5,s6⟩;clear s1 h1;show SW prog GI 42 none (.seq _ (.cond _ (.seq _ .ret) .skip)) _ _ _ _;refine eV hG c63.qb.qb.qb.qb.qa.qb.qa (λS' H'=>S' 2=.box 2 0/\H' 2=some (h_)/\S' 4=.box 4 0/\H' 4=some (ar sY)/\S' 5=.box 5 0/\H' 5=some [.str u]/\S' 6=.int .i64 0/\S' 16=.bool false) ?_ ?_
 .simp[c63,af.qa,af.qb,s2,h2,s4,h4,s5,h5,s6]
 clear s2 h2 s4 h4 s5 h5 s6;rintro S6 H6 ⟨s2,h2,s4,h4,s5,h5,s6,fL⟩;refine SW.cond rfl false (by show S6 16=_;rw[fL]) (SW.skip ?_);clear s6 fL;show SW prog GI 42 none (.seq _ (.seq (.seq _ (.cond _ (.seq _ .ret) .skip)) (.seq _ (.seq (.seq _ (.cond _ (.seq _ .ret) .skip)) (.seq _ .ret))))) _ _ _ _;refine eV hG Dd.qb.qa (λS' H'=>S' 2=.box 2 0/\H' 2=some (h_)/\S' 4=.box 4 0/\H' 4=some (ar sY)/\S' 7=.box 7 0/\H' 7=some (ae j4.name)/\S' 8=.int .i64 0) ?_ ?_
 .simp[c63,Dd,af.qa,af.qb,s5,h5];refine oc abL ?_;simp[s2,h2,s4,h4,bU,ae]
 clear s2 h2 s4 h4 s5 h5;rintro S7 H7 ⟨s2,h2,s4,h4,s7,h7,s8⟩;refine SW.seq (eV hG Dd.qb.qb.qa.qa (λS' H'=>S' 2=.box 2 0/\H' 2=some (h_)/\S' 4=.box 4 0/\H' 4=some (ar sY)/\S' 7=.box 7 0/\H' 7=some (ae j4.name)/\S' 8=.int .i64 0/\S' 29=.bool false) ?_ ?_)
 .simp[c63,Dd,af.qa,af.qb,s2,h2,s4,h4,s7,h7,s8]
 clear s2 h2 s4 h4 s7 h7 s8;rintro S7 H7 ⟨s2,h2,s4,h4,s7,h7,s8,s29⟩;refine SW.cond rfl false (by show S7 29=_;rw[s29]) (SW.skip ?_);clear s29;show SW prog GI 42 none (.seq _ (.seq (.seq _ (.cond _ (.seq _ .ret) .skip)) (.seq _ .ret))) _ _ _ _;refine eV hG Dd.qb.qb.qb.qa (λS' H'=>S' 2=.box 2 0/\H' 2=some (h_)/\S' 4=.box 4 0/\H' 4=some (ar j4)/\S' 8=.int .i64 0) ?_ ?_
 .simp[c63,Dd,af.qa,af.qb,s2,h2,s4,h4,s7,h7,s8,ar,ae,sY,j4,noS]
 clear s2 h2 s4 h4 s7 h7 s8;rintro S7 H7 ⟨s2,h2,s4,h4,s8⟩;refine SW.seq (eV hG Dd.qb.qb.qb.qb.qa.qa (λS' H'=>S' 2=.box 2 0/\H' 2=some (h_)/\S' 4=.box 4 0/\H' 4=some (ar j4)/\S' 39=.bool false) ?_ ?_)
 .simp[c63,Dd,af.qa,af.qb,s2,h2,s4,h4,s8,ar,ae];refine oc a77 ?_;simp[s2,h2,s4,h4,s8,ar,ae]
 clear s2 h2 s4 h4 s8;rintro S7 H7 ⟨s2,h2,s4,h4,s39⟩;refine SW.cond rfl false (by show S7 39=_;rw[s39]) (SW.skip ?_);show SW prog GI 42 none (.seq _ .ret) _ _ _ _;refine eV hG Dd.qb.qb.qb.qb.qb.qa (λS' H'=>S' 2=.box 2 0/\S' 3=.int .i64 0/\H' 2=some (ar j4)) ?_ ?_
 .simp[c63,Dd,af.qa,af.qb,s2,h2,s4,h4,ar,ae,h_]
 clear s2 h2 s4 h4;rintro S8 H8 ⟨s2,s3,h2⟩;refine SW.ret ⟨eA.plain rfl,rfl,_,?_,rfl⟩;show cL prog 42 [.cell 2 31,.tmp 3] S8 H8=_;simp[cL,dc,db,s2,s3,h2,oU,gv,o8,b0,eh,AV.out,AV.aH,AV.bW,AV.vw,AV.cT,bn,ar,ae,vI]
def FD:E9 ln=[vI [1],.int .i64 0]:=by kernel_rfl
def abn(hG:aw GI)(qf:ML GI):AC prog GI 22 [] (.ret (.bool true)):=by
 have d:=abE (GI:=GI) hG;have a:=Su (GI:=GI) hG;have b:=abN (GI:=GI) hG;have q1:=Zz (GI:=GI) hG vA Rs;have q2:=abx (GI:=GI) hG ln rm;have q3:=aau (GI:=GI) hG ln rm [3,2,2,4,5,1] (by decide);have q4:=aaS (GI:=GI) hG ln rm;have q5:=aai (GI:=GI) hG vA Rs;have q6:=abI (GI:=GI) hG ln rm 1;have q7:=VC (GI:=GI) hG ln rm;have q8:=aa4 (GI:=GI) hG AE QZ;have q9:=Zx (GI:=GI) hG ln rm;have q10:=aby (GI:=GI) hG AE QZ;have ZT:=aaQ (GI:=GI) hG ln rm;have q12:=V6 hG qf;have q13:=YM hG qf;rw[E_]at q1;rw[Fh]at q2;rw[IH]at q3;rw[Hr]at q4;rw[IG]at q5;rw[Hf]at q6;rw[JE]at q7;rw[L4]at q8;rw[Hn]at q9;rw[IU]at q10;rw[FD]at ZT;have p1:=Vy (GI:=GI) hG [9] [9] (by decide);have p2:=aa3 (GI:=GI) hG [(1,1),(3,5)] [(1,1),(3,5)] (by decide);have p3:=Vy (GI:=GI) hG [1] [1] (by decide);refine cE hG func22 ntmps22 c22 ?_;refine aI (λS H=>S 0=.bool false) (by simp) ?_
 rintro S H -
 refine aI (λS H=>S 1=vI [9]/\S 2=.int .i64 0) ?_ ?_
 .simp;refine oc d ?_;simp[bn,ar,ae];refine oc q1 ?_;simp
 clear S H;rintro S H ⟨s1,s2⟩;refine aI (λS H=>S 1=vI [9]/\S 2=.int .i64 0/\S 3=.slice .view (aS [(1,1),(3,5)])/\S 4=.int .i64 0) ?_ ?_
 .simp[s1,s2];refine oc a ?_;simp[bn,ar,ae,s1,s2];refine oc q2 ?_;simp[s1,s2]
 clear s1 s2 S H;rintro S H ⟨s1,s2,s3,s4⟩;refine aI (λS H=>S 1=vI [9]/\S 2=.int .i64 0/\S 3=.slice .view (aS [(1,1),(3,5)])/\S 4=.int .i64 0/\S 5=.int .i64 2/\S 6=.int .i64 0) ?_ ?_
 .simp[s1,s2,s3,s4];refine oc a ?_;simp[bn,ar,ae,s1,s2,s3,s4];refine oc q3 ?_;simp[s1,s2,s3,s4]
 clear s1 s2 s3 s4 S H;rintro S H ⟨s1,s2,s3,s4,s5,s6⟩;refine aI (λS H=>S 1=vI [9]/\S 2=.int .i64 0/\S 3=.slice .view (aS [(1,1),(3,5)])/\S 4=.int .i64 0/\S 5=.int .i64 2/\S 6=.int .i64 0/\S 7=.int .i64 1/\S 8=.int .i64 0) ?_ ?_
 .simp[s1,s2,s3,s4,s5,s6];refine oc a ?_;simp[bn,ar,ae,s1,s2,s3,s4,s5,s6];refine oc q4 ?_;simp[s1,s2,s3,s4,s5,s6]
 clear s1 s2 s3 s4 s5 s6 S H;rintro S H ⟨s1,s2,s3,s4,s5,s6,s7,s8⟩;refine aI (λS H=>S 1=vI [9]/\S 2=.int .i64 0/\S 3=.slice .view (aS [(1,1),(3,5)])/\S 4=.int .i64 0/\S 5=.int .i64 2/\S 6=.int .i64 0/\S 7=.int .i64 1/\S 8=.int .i64 0/\S 9=.int .i64 1/\S 10=.int .i64 0) ?_ ?_
 .simp[s1,s2,s3,s4,s5,s6,s7,s8];refine oc d ?_;simp[bn,ar,ae,s1,s2,s3,s4,s5,s6,s7,s8];refine oc q5 ?_;simp[s1,s2,s3,s4,s5,s6,s7,s8]
 clear s1 s2 s3 s4 s5 s6 s7 s8 S H;rintro S H ⟨s1,s2,s3,s4,s5,s6,s7,s8,s9,cb⟩;refine aI (λS H=>S 1=vI [9]/\S 2=.int .i64 0/\S 3=.slice .view (aS [(1,1),(3,5)])/\S 4=.int .i64 0/\S 5=.int .i64 2/\S 6=.int .i64 0/\S 7=.int .i64 1/\S 8=.int .i64 0/\S 9=.int .i64 1/\S 10=.int .i64 0/\S 11=.int .i64 2/\S 12=.int .i64 0) ?_ ?_
 .simp[s1,s2,s3,s4,s5,s6,s7,s8,s9,cb];refine oc a ?_;simp[bn,ar,ae,s1,s2,s3,s4,s5,s6,s7,s8,s9,cb];refine oc q6 ?_;simp[s1,s2,s3,s4,s5,s6,s7,s8,s9,cb]
 clear s1 s2 s3 s4 s5 s6 s7 s8 s9 cb S H;rintro S H ⟨s1,s2,s3,s4,s5,s6,s7,s8,s9,cb,ck,cJ⟩;refine aI (λS H=>S 1=vI [9]/\S 2=.int .i64 0/\S 3=.slice .view (aS [(1,1),(3,5)])/\S 4=.int .i64 0/\S 5=.int .i64 2/\S 6=.int .i64 0/\S 7=.int .i64 1/\S 8=.int .i64 0/\S 9=.int .i64 1/\S 10=.int .i64 0/\S 11=.int .i64 2/\S 12=.int .i64 0/\S 13=.int .i64 1/\S 14=.int .i64 4/\S 15=.int .i64 0) ?_ ?_
 .simp[s1,s2,s3,s4,s5,s6,s7,s8,s9,cb,ck,cJ];refine oc a ?_;simp[bn,ar,ae,s1,s2,s3,s4,s5,s6,s7,s8,s9,cb,ck,cJ];refine oc q7 ?_;simp[s1,s2,s3,s4,s5,s6,s7,s8,s9,cb,ck,cJ]
 clear s1 s2 s3 s4 s5 s6 s7 s8 s9 cb ck cJ S H;rintro S H ⟨s1,s2,s3,s4,s5,s6,s7,s8,s9,cb,ck,cJ,dw,er,jA⟩;refine aI (λS H=>S 1=vI [9]/\S 2=.int .i64 0/\S 3=.slice .view (aS [(1,1),(3,5)])/\S 4=.int .i64 0/\S 5=.int .i64 2/\S 6=.int .i64 0/\S 7=.int .i64 1/\S 8=.int .i64 0/\S 9=.int .i64 1/\S 10=.int .i64 0/\S 11=.int .i64 2/\S 12=.int .i64 0/\S 13=.int .i64 1/\S 14=.int .i64 4/\S 15=.int .i64 0/\S 16=.int .i64 3/\S 17=.int .i64 0) ?_ ?_
 .simp[s1,s2,s3,s4,s5,s6,s7,s8,s9,cb,ck,cJ,dw,er,jA];refine oc b ?_;simp[bn,ar,ae,s1,s2,s3,s4,s5,s6,s7,s8,s9,cb,ck,cJ,dw,er,jA];refine oc q8 ?_;simp[s1,s2,s3,s4,s5,s6,s7,s8,s9,cb,ck,cJ,dw,er,jA]
 clear s1 s2 s3 s4 s5 s6 s7 s8 s9 cb ck cJ dw er jA S H;rintro S H ⟨s1,s2,s3,s4,s5,s6,s7,s8,s9,cb,ck,cJ,dw,er,jA,fL,mo⟩;refine aI (λS H=>S 1=vI [9]/\S 2=.int .i64 0/\S 3=.slice .view (aS [(1,1),(3,5)])/\S 4=.int .i64 0/\S 5=.int .i64 2/\S 6=.int .i64 0/\S 7=.int .i64 1/\S 8=.int .i64 0/\S 9=.int .i64 1/\S 10=.int .i64 0/\S 11=.int .i64 2/\S 12=.int .i64 0/\S 13=.int .i64 1/\S 14=.int .i64 4/\S 15=.int .i64 0/\S 16=.int .i64 3/\S 17=.int .i64 0/\S 18=.int .i64 1/\S 19=.int .i64 0) ?_ ?_
 .simp[s1,s2,s3,s4,s5,s6,s7,s8,s9,cb,ck,cJ,dw,er,jA,fL,mo];refine oc a ?_;simp[bn,ar,ae,s1,s2,s3,s4,s5,s6,s7,s8,s9,cb,ck,cJ,dw,er,jA,fL,mo];refine oc q9 ?_;simp[s1,s2,s3,s4,s5,s6,s7,s8,s9,cb,ck,cJ,dw,er,jA,fL,mo]
 clear s1 s2 s3 s4 s5 s6 s7 s8 s9 cb ck cJ dw er jA fL mo S H;rintro S H ⟨s1,s2,s3,s4,s5,s6,s7,s8,s9,cb,ck,cJ,dw,er,jA,fL,mo,l8,sr⟩;refine aI (λS H=>S 1=vI [9]/\S 2=.int .i64 0/\S 3=.slice .view (aS [(1,1),(3,5)])/\S 4=.int .i64 0/\S 5=.int .i64 2/\S 6=.int .i64 0/\S 7=.int .i64 1/\S 8=.int .i64 0/\S 9=.int .i64 1/\S 10=.int .i64 0/\S 11=.int .i64 2/\S 12=.int .i64 0/\S 13=.int .i64 1/\S 14=.int .i64 4/\S 15=.int .i64 0/\S 16=.int .i64 3/\S 17=.int .i64 0/\S 18=.int .i64 1/\S 19=.int .i64 0/\S 20=.int .i64 4/\S 21=.int .i64 2/\S 22=.int .i64 0) ?_ ?_
 .simp[s1,s2,s3,s4,s5,s6,s7,s8,s9,cb,ck,cJ,dw,er,jA,fL,mo,l8,sr];refine oc b ?_;simp[bn,ar,ae,s1,s2,s3,s4,s5,s6,s7,s8,s9,cb,ck,cJ,dw,er,jA,fL,mo,l8,sr];refine oc q10 ?_;simp[s1,s2,s3,s4,s5,s6,s7,s8,s9,cb,ck,cJ,dw,er,jA,fL,mo,l8,sr]
 clear s1 s2 s3 s4 s5 s6 s7 s8 s9 cb ck cJ dw er jA fL mo l8 sr S H;rintro S H ⟨s1,s2,s3,s4,s5,s6,s7,s8,s9,cb,ck,cJ,dw,er,jA,fL,mo,l8,sr,pg,np,yv⟩;refine aI (λS H=>S 1=vI [9]/\S 2=.int .i64 0/\S 3=.slice .view (aS [(1,1),(3,5)])/\S 4=.int .i64 0/\S 5=.int .i64 2/\S 6=.int .i64 0/\S 7=.int .i64 1/\S 8=.int .i64 0/\S 9=.int .i64 1/\S 10=.int .i64 0/\S 11=.int .i64 2/\S 12=.int .i64 0/\S 13=.int .i64 1/\S 14=.int .i64 4/\S 15=.int .i64 0/\S 16=.int .i64 3/\S 17=.int .i64 0/\S 18=.int .i64 1/\S 19=.int .i64 0/\S 20=.int .i64 4/\S 21=.int .i64 2/\S 22=.int .i64 0/\S 23=vI [1]/\S 24=.int .i64 0) ?_ ?_
 .simp[s1,s2,s3,s4,s5,s6,s7,s8,s9,cb,ck,cJ,dw,er,jA,fL,mo,l8,sr,pg,np,yv];refine oc a ?_;simp[bn,ar,ae,s1,s2,s3,s4,s5,s6,s7,s8,s9,cb,ck,cJ,dw,er,jA,fL,mo,l8,sr,pg,np,yv];refine oc ZT ?_;simp[s1,s2,s3,s4,s5,s6,s7,s8,s9,cb,ck,cJ,dw,er,jA,fL,mo,l8,sr,pg,np,yv]
 clear s1 s2 s3 s4 s5 s6 s7 s8 s9 cb ck cJ dw er jA fL mo l8 sr pg np yv S H;rintro S H ⟨s1,s2,s3,s4,s5,s6,s7,s8,s9,cb,ck,cJ,dw,er,jA,fL,mo,l8,sr,pg,np,yv,sj,zQ⟩;refine aI (λS H=>S 1=vI [9]/\S 2=.int .i64 0/\S 3=.slice .view (aS [(1,1),(3,5)])/\S 4=.int .i64 0/\S 5=.int .i64 2/\S 6=.int .i64 0/\S 7=.int .i64 1/\S 8=.int .i64 0/\S 9=.int .i64 1/\S 10=.int .i64 0/\S 11=.int .i64 2/\S 12=.int .i64 0/\S 13=.int .i64 1/\S 14=.int .i64 4/\S 15=.int .i64 0/\S 16=.int .i64 3/\S 17=.int .i64 0/\S 18=.int .i64 1/\S 19=.int .i64 0/\S 20=.int .i64 4/\S 21=.int .i64 2/\S 22=.int .i64 0/\S 23=vI [1]/\S 24=.int .i64 0/\S 25=.box 25 0/\H 25=some (ar j4)/\S 26=.int .i64 0) ?_ ?_
 .simp[s1,s2,s3,s4,s5,s6,s7,s8,s9,cb,ck,cJ,dw,er,jA,fL,mo,l8,sr,pg,np,yv,sj,zQ];refine oc q12 ?_;simp[bn,ar,ae,s1,s2,s3,s4,s5,s6,s7,s8,s9,cb,ck,cJ,dw,er,jA,fL,mo,l8,sr,pg,np,yv,sj,zQ]
 clear s1 s2 s3 s4 s5 s6 s7 s8 s9 cb ck cJ dw er jA fL mo l8 sr pg np yv sj zQ S H;rintro S H ⟨s1,s2,s3,s4,s5,s6,s7,s8,s9,cb,ck,cJ,dw,er,jA,fL,mo,l8,sr,pg,np,yv,sj,zQ,n9,Dy,wH⟩;refine aI (λS H=>S 1=vI [9]/\S 3=.slice .view (aS [(1,1),(3,5)])/\S 5=.int .i64 2/\S 7=.int .i64 1/\S 9=.int .i64 1/\S 11=.int .i64 2/\S 13=.int .i64 1/\S 14=.int .i64 4/\S 16=.int .i64 3/\S 18=.int .i64 1/\S 20=.int .i64 4/\S 21=.int .i64 2/\S 23=vI [1]/\S 25=.box 25 0/\H 25=some (ar j4)) ?_ ?_
 .simp[s1,s3,s5,s7,s9,ck,dw,er,fL,l8,pg,np,sj,n9,Dy,s2,s4,s6,s8,cb,cJ,jA,mo,sr,yv,zQ,wH]
 clear s1 s3 s5 s7 s9 ck dw er fL l8 pg np sj n9 Dy s2 s4 s6 s8 cb cJ jA mo sr yv zQ wH S H;rintro S H ⟨s1,s3,s5,s7,s9,ck,dw,er,fL,l8,pg,np,sj,n9,Dy⟩;refine aI (λS H=>S 16=.int .i64 3/\S 18=.int .i64 1/\S 20=.int .i64 4/\S 21=.int .i64 2/\S 23=vI [1]/\S 25=.box 25 0/\H 25=some (ar j4)) ?_ ?_
 .simp[s1,s3,s5,s7,s9,ck,dw,er,fL,l8,pg,np,sj,n9,Dy,aJ];refine oc p1 ?_;simp[s1,s3,s5,s7,s9,ck,dw,er,fL,l8,pg,np,sj,n9,Dy,aJ,bV];refine oc p2 ?_;simp[s1,s3,s5,s7,s9,ck,dw,er,fL,l8,pg,np,sj,n9,Dy,aJ,bV]
 clear s1 s3 s5 s7 s9 ck dw er fL l8 pg np sj n9 Dy S H;rintro S H ⟨fL,l8,pg,np,sj,n9,Dy⟩;simp[fL,l8,pg,np,sj,n9,Dy,aJ];refine oc p3 ?_;simp[fL,l8,pg,np,sj,n9,Dy,aJ,bV];refine oc q13 ?_;simp[pI]
def ac8(hG:aw GI)(qf:ML GI)(s:az):AC prog GI 8 [bn s] (.ret (.bool true)):=by
 have k:=abn hG qf;have Cu:=ab7 (GI:=GI) hG s
 cases cV:vM s with
 |false=>
  rw[cV]at Cu;refine cE hG func8 ntmps8 c8 ?_;simp[c8,bn,ar,ae];refine oc Cu ?_;simp;refine oc k ?_;simp
 |true=>
 rw[cV]at Cu;obtain⟨hs,gr,rI⟩:=GP cV;have yi:=VC (GI:=GI) hG s hs;have O0:=aa6 (GI:=GI) hG s hs
 obtain ⟨c,n,e,L0,hc⟩:∃ c n e:Int,AC prog GI 40 [bn s] (.ret (.dR [.int .i64 c,.int .i64 n,.int .i64 e])) ∧
   (dQ s=false/\c=0/\n=0/\e=2\/dQ s=true/\((eX s.name=none/\c=0/\n=0/\e=7)\/
    ∃es,eX s.name=some es/\∃(x y:Int)(a:Bool),uT s (aU s es)=[.int .i64 x,.int .i64 y,.bool a]/\(a=true/\e=0/\c=x/\n=y\/a=false/\e=5/\c=0/\n=0))):=by
  unfold sF at yi
  cases hI:dQ s with
  |false=>rw[hI]at yi;exact⟨_,_,_,yi,.inl ⟨rfl,rfl,rfl,rfl⟩⟩
  |true=>
   rw[hI]at yi
   cases hE:eX s.name with
   |none=>rw[hE]at yi;exact⟨_,_,_,yi,.inr ⟨rfl,.inl ⟨rfl,rfl,rfl,rfl⟩⟩⟩
   |some es=>
    rw[hE]at yi;simp only at yi
    cases hv:(dz s).isEmpty with
    |true=>
     rw[hv]at yi
     have hR:uT s (aU s es)=[.int .i64 0,.int .i64 0,.bool false]:=by unfold uT;rw[hv]<;>rfl
     exact⟨_,_,_,yi,.inr ⟨rfl,.inr ⟨es,rfl,_,_,_,hR,.inr ⟨rfl,rfl,rfl,rfl⟩⟩⟩⟩
    |false=>
     obtain⟨q,hq,_⟩:=IC (fl hI) es hv;rw[hv,hq]at yi
     have hR:uT s (aU s es)=[.int .i64 (q.1:Nat),.int .i64 (q.2:Nat),.bool true]:=by unfold uT;rw[hv,hq]<;>rfl
     exact⟨_,_,_,yi,.inr ⟨rfl,.inr ⟨es,rfl,_,_,_,hR,.inl ⟨rfl,rfl,rfl,rfl⟩⟩⟩⟩
 clear yi;refine cE hG func8 ntmps8 c8 ?_;refine aI (λS H=>S 1=.box 1 0/\H 1=some (ar s)) (by simp[bn,ar,ae]) ?_;rintro S H ⟨s1,h1⟩;refine aI (λS H=>S 1=.box 1 0/\H 1=some (ar s)) ?_ ?_
 .simp[s1,h1,ar,ae];refine oc Cu ?_;simp[s1,h1,ar,ae]
 clear s1 h1 S H;rintro S H ⟨s1,h1⟩;refine aI (λS H=>S 1=.box 1 0/\H 1=some (ar s)/\S 3=.int .i64 c/\S 4=.int .i64 n/\S 5=.int .i64 e) ?_ ?_
 .simp[s1,h1,ar,ae];refine oc L0 ?_;simp[s1,h1,ar,ae]
 clear s1 h1 S H;rintro S H ⟨s1,h1,s3,s4,s5⟩;refine aI (λS H=>S 1=.box 1 0/\H 1=some (ar s)/\S 3=.int .i64 c/\S 4=.int .i64 n/\S 5=.int .i64 e/\S 6=.int .i64 0) (by simp[s1,h1,s3,s4,s5,ar,ae]) ?_;clear s1 h1 s3 s4 s5 S H;rintro S H ⟨s1,h1,s3,s4,s5,s6⟩;refine aI (λS H=>S 1=.box 1 0/\H 1=some (ar s)/\S 3=.int .i64 c/\S 4=.int .i64 n/\S 5=.int .i64 e/\S 6=.int .i64 0/\S 7=.int .i64 0/\S 8=.int .i64 0) (by simp[s1,h1,s3,s4,s5,s6,ar,ae]) ?_;clear s1 h1 s3 s4 s5 s6 S H;rintro S H ⟨s1,h1,s3,s4,s5,s6,s7,s8⟩;refine aI (λS H=>S 3=.int .i64 c/\S 4=.int .i64 n/\S 5=.int .i64 e/\S 6=.int .i64 e/\(e=0->S 7=.int .i64 c/\S 8=.int .i64 n)/\(e≠0->c=0/\n=0)) ?_ ?_
 .rcases hc with⟨hI,rfl,rfl,rfl⟩|⟨hI,⟨hE,rfl,rfl,rfl⟩|⟨es,hE,x,y,a,hx,ha⟩⟩
  .rw[hI]at O0;simp[s1,h1,s3,s4,s5,s6,s7,s8,ar,ae];refine oc O0 ?_;simp[s1,h1,s3,s4,s5,s6,s7,s8,ar,ae]
  .rw[hI]at O0;have IL:=Rx (GI:=GI) hG s (fl hI);unfold rn at IL;rw[hE]at IL;simp[s1,h1,s3,s4,s5,s6,s7,s8,ar,ae];refine oc O0 ?_;simp[s1,h1,s3,s4,s5,s6,s7,s8,ar,ae];refine oc IL ?_;simp[s1,h1,s3,s4,s5,s6,s7,s8,ar,ae]
  .rw[hI]at O0;have IL:=Rx (GI:=GI) hG s (fl hI);have Rh:=ab1 (GI:=GI) hG s (fl hI) hE;unfold rn at IL;rw[hE]at IL;rw[hx]at Rh;generalize aU s es=ns at IL;simp[s1,h1,s3,s4,s5,s6,s7,s8,ar,ae];refine oc O0 ?_;simp[s1,h1,s3,s4,s5,s6,s7,s8,ar,ae];refine oc IL ?_;simp[s1,h1,s3,s4,s5,s6,s7,s8,ar,ae];refine oc Rh ?_
   rcases ha with⟨rfl,rfl,rfl,rfl⟩|⟨rfl,rfl,rfl,rfl⟩<;>simp[s1,h1,s3,s4,s5,s6,s7,s8,ar,ae]
 clear s1 h1 s3 s4 s5 s6 s7 s8 S H;rintro S H ⟨s3,s4,s5,s6,s7,s8⟩
 by_cases h0:e=0
 .obtain⟨s7,OC⟩:=s7 h0;subst h0;simp[s3,s4,s5,s6,s7,OC];refine oc k ?_;simp
 .obtain⟨rfl,rfl⟩:=s8 h0
  have vR:(e !=0)=true:=by simpa using h0
  simp[s3,s4,s5,s6,vR];refine oc k ?_;simp
end Go.Proofs.Tryz
namespace Go.Proofs.YtdiflocclemeaaaGreatDoor
open Go Go.AL Go.ChangeShapes Go.WideShapes Go.ChangeAt Go.RowKit Go.Proofs.Tryz
namespace Stops
abbrev row:OpenClaim:=Rows.tramStopsRow
abbrev spec:ChangeSpec:=Rows.tramStopsSpec
def call (W:World) (base:Nat) (args:Array Value) {H:Type} {enc:TypeId×Value→H} (ds:List (DataW H)) (p:List MemPlace) (hG:GI W) (ED:∀ (j:Nat) t v,Tryz.f8.params[j]? = some t→args[j]? = some v→Value.okWide Tryz.prog W .any base t v)
  (hA:DataW.TrodAll enc Tryz.prog W 0 (λ_=>true) true Tryz.f8.params.toList args.toList ds p):Calls Tryz.prog 8 args W λe W'=>e=.returned (.bool true)/\Below W.heap.size W W':=by
 rw[Tryz.params8]at hA ED;obtain⟨v0,Rd,d0,ds0,p0,q0,e0,rfl,rfl,h0,Is⟩:=trodAll_cons hA;obtain⟨rfl,rfl,rfl⟩:=trodAll_nil Is
 obtain rfl:args=#[v0]:=by
  apply Array.toList_inj.1;rw[e0]
 obtain⟨x0,g0,a0⟩:=Fb (ED 0 31 v0 rfl rfl) h0
 refine Ob (ac8 Lw (λ_ h=>h) x0) hG rfl λi h h'=>?_
 match i,h with
 |0,_=>exact .data _ _ a0
def w1(os:Os):((World.laidAll Tryz.prog os row.laid).forCall (λ_ _=>0) ⟨#[],#[.agg #[.slice none 0 0,.int .i64 0,.int .i64 0,.int .i64 0,.int .i64 0,.slice none 0 0,.slice none 0 0,.int .i64 0,.int .i64 0,.int .i64 0,.int .i64 0,.int .i64 0,.slice none 0 0,.int .i64 0,.int .i64 0]],[]⟩).Shaped Tryz.checked.prog:=
 World.shaped_of_ZipB (by kernel_rfl) (by kernel_rfl)
def lifted (os:Os) (started:os.Started) (H:Type) (enc:TypeId×Value→H) :
  ReturnsInHanded {} Tryz.checked os 8 .any (λw args=>(spec.pre enc Tryz.prog Tryz.f8 row.domain false w args/\laidMetH Tryz.prog row.laid w)/\sizedMet enc Tryz.prog Tryz.f8 (OpenSpec.ofChange spec) false w args)
   (spec.post enc Tryz.prog Tryz.f8 false true false false):=by
 refine Kp 8 Tryz.f8 Tryz.func8 (by kernel_rfl) (by kernel_rfl) spec rfl ?_ ?_ os started _ 12 (w1 os) (by kernel_rfl) (by kernel_rfl) (by kernel_rfl) ?_ (λW base args ds p=>call W base args ds p)
 .intro ds hl;rw[show Tryz.f8.params.size=1 by kernel_rfl]at hl
  match ds,hl with
  |[d0],_=>rfl
 .rw[Tryz.params8];intro t ht
  have:t=31:=by simpa using ht
  rcases this with rfl
  all_goals exact⟨by kernel_rfl,aez (by kernel_rfl)⟩
 .rw[MakeChecks.laidMetH_plain _ _ _ (by kernel_rfl)];exact laidMet_laidAll _ (by kernel_rfl) (by kernel_rfl)
def JU:Tryz.prog.funcNamed "mahlstick/mahlsticklaw09.TramStops" = some 8:=by kernel_rfl
def Mv:(row.inPlace==Tryz.prog.inPlace 8)=true:=by kernel_rfl
def CR:(row.unfollowed==Tryz.prog.unfollowed 8)=true:=by kernel_rfl
def JH:(row.recurses==Tryz.prog.recurses 8)=true:=by kernel_rfl
def Uf:(row.named==Tryz.prog.varsNamed 8)=true:=by kernel_rfl
def Um:joinedFacts Tryz.prog 8 Tryz.f8 spec row=true:=
 Ka ⟨rfl,rfl,rfl,rfl,rfl,rfl⟩ (by kernel_rfl) (by kernel_rfl) (by kernel_rfl) Mv CR JH Uf (by kernel_rfl) (by kernel_rfl) (by kernel_rfl) (by kernel_rfl)
def Ho:Tryz.f8.isInstance Tryz.prog row.origin row.targs:=aez (by kernel_rfl)
def LL:Tryz.f8.isWrapper Tryz.prog row.wrapper row.mainSum:=by
 unfold Func.isWrapper;rw[if_neg (by decide+kernel)];exact⟨rfl,rfl⟩
def holds:Rows.TramStopsSaid:=
 OpenClaim.holds_of_wide 8 Tryz.f8 rfl rfl rfl rfl rfl rfl rfl ⟨rfl,rfl,rfl,rfl,rfl⟩ rfl rfl rfl rfl rfl JU Tryz.func8 Um Ho LL (λos started H enc _=>lifted os started H enc)
def ZH:row.wfByText (OpenSpec.ofChange spec)=true:=by kernel_rfl
def Uq:false=row.goesBy Tryz.prog:=by kernel_rfl
def SY:([31].all λu=>!Tryz.prog.wantsStandIn u)=true:=by kernel_rfl
def U1:Tryz.prog.mainIs=some (true, "6409d79c938881258cf6c01a4bbb5b9da95cffe89bf69844c1f6e37b46348158".toList):=by rw [Ox,XH]
def card:Rows.TramStopsCardSaid:=
 Claim7.holds_tied_plain_at .later [] [.data,.data,.data,.data,.pinned] true (true, "6409d79c938881258cf6c01a4bbb5b9da95cffe89bf69844c1f6e37b46348158") true holds (λ_ h=>by cases h) ZH (λ_ h=>by cases h) tramStops_row_tie rfl ⟨rfl,rfl⟩ U1 rfl
  (λf fn hf UM=>by
   obtain rfl:f=8:=acX (JU.symm.trans hf)|>.symm
   obtain rfl:fn=Tryz.f8:=(acX (Tryz.func8.symm.trans UM)).symm;refine⟨RB,λj t ht=>?_⟩;rw[Tryz.params8]at ht
   have hm:t∈[31]:=by
    simpa using adz ht
   exact(show Tryz.prog.wantsStandIn t=false by simpa using acN.1 SY t hm))
  Uq
end Stops
#print axioms Stops.card
end Go.Proofs.YtdiflocclemeaaaGreatDoor
