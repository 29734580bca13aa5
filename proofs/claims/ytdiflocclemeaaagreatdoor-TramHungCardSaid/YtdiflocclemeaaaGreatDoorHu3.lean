/-
  For all tram sheets and a place the call of TramHung returns true, and each argument reads behind the call as it read before. Conditions: none beyond those of the given card.
-/
import Derived.Test.YtdiflocclemeaaaGreatDoorHu2
import Derived.Test.YtdiflocclemeaaaGreatDoorTie
import Derived.Test.YtdiflocclemeaaaGreatDoorCards
set_option maxRecDepth 100000
set_option maxHeartbeats 8000000
set_option linter.all false
set_option linter.unusedVariables false
set_option linter.unusedSimpArgs false
set_option linter.deprecated false
namespace Go.Proofs.Tryz
open Go Go.AL Go.RowKit Go.Proofs Go.Proofs.Tram
variable{GI:World->Prop}
section
variable{w0:World}{n:Nat}{g:Gh}{S:aF}{H:aK}{a:Act}{w:World}{d i1 i4 i5:Nat}{t u e:List UInt8}{z x:List AV}{y:AV}
theorem F4(R:Rel prog w0 n dU g S H a w){i:Nat}(hi:i<n)(hS:S i=.box i 0)(hH:H i=some [.str t]):∃b,a.tmps.getD i undef=.pointer (some ⟨b,0,none⟩)/\w.cell? ⟨b,0,none⟩=some (.string ⟨t.toArray⟩):=by
 obtain⟨b,al,e⟩:=iW R hi hS;obtain⟨cs,vs,ty,k0,k1,k2,k3,k4,k5,k6,k7,k8⟩:=R.box i b al;rw[hH]at k0;cases k0
 have h0:0<vs.size:=by rw[<-k5];exact Nat.zero_lt_one
 have hv:=kg (RV.data (al:=cd) _ _ (k6 0 (by simp) h0));exact⟨b,e,by simp[World.cell?,k2,h0,hv]⟩
theorem DF (hG:au GI) (dS:GI w0) (R:Rel prog w0 n dU g S H a w) (hd:d < n) (F_:i1 < n) (Ca:i4 < n) (Br:i5 < n) (Cq:d≠i4) (Gt:d≠i5) (EF:i4≠i5)
  (FD:S i1=.box i1 0) (Gl:H i1=some [.str t]) (xl:S i4=.box i4 0) (BU:H i4=some z) (tC:S i5=.box i5 0) (yv:H i5=some [y]) (hz:z.length=15) (hx:x.length=15) (Sc:AC prog GI 121 [.str t] (.ret (.d_ [.agg x,.str u]))):
  Calls prog 120 #[a.tmps.getD i1 undef,a.tmps.getD i4 undef,a.tmps.getD i5 undef] w λe w2=>e=.returned (.tuple #[])/\∃(c:Value)(g':Gh)(S':aF)(H':aK),g'.old=g.old/\Rel prog w0 n dU g' S' H' (a.put (some d) c) w2/\(∀t,t≠d->S' t=S t)/\H'=av (av H i4 (some (x.map AV.aI))) i5 (some [.str u]):=by
 have bL:=R.size;have fR:GI w:=hG w0 w dS (by have:=R.below;rwa [R.base]at this);obtain⟨b1,e1,gG⟩:=F4 R F_ FD Gl;obtain⟨b4,al4,e4⟩:=iW R Ca xl;obtain⟨b5,Nt,e5⟩:=iW R Br tC;refine ahm func120 rfl ?_;refine(ez (m:=0)).1 ?_;refine eY (λa=>a.tmps.size=8/\a.defers=[]/\a.tmps.getD 0 undef=.pointer (some ⟨b1,0,none⟩)/\a.tmps.getD 1 undef=.pointer (some ⟨b4,0,none⟩)/\a.tmps.getD 2 undef=.pointer (some ⟨b5,0,none⟩)) ⟨by simp[ntmps120],rfl,(bK _ _ 0 (by simp)).trans e1,(bK _ _ 1 (by simp)).trans e4,(bK _ _ 2 (by simp)).trans e5⟩ ?_;rintro aC ⟨zC,dC,t0,t1,t2⟩;refine afq ?_;show wpOpsIn _ _ _ _ _ [0,1,2,3,4,5,6] aC w;refine aW rfl rfl (by rfl) (lP (t:=9) (d:=.string) (b:=b1) (off:=0) rfl t0 (by kernel_rfl) rfl gG) ?_;show wpOpsIn _ _ _ _ _ [1,2,3,4,5,6] (aC.put (some 4) (.string ⟨t.toArray⟩)) w
 refine eS rfl rfl (by rfl) (fU (k:=121) (args:=#[.string ⟨t.toArray⟩]) w rfl rfl ?_ (by kernel_rfl)) (Sc w (fy g false) #[.string ⟨t.toArray⟩] fR rfl (λi h h'=>by
  match i,h with
  |0,_=>exact .data _ _ (.str t))) ?_
 .simp only[afw,afv,afB];show #[(aC.put (some 4) _).eval (.tmp 4)]=_;rw[bt _ _ _ _ (by omega),if_pos rfl]
 rintro e w2 ⟨ig,hi,pS,c,rfl,Ci,h_⟩;refine⟨c,rfl,?_⟩;obtain⟨g',Hg,nq,R2⟩:=R.call (some d) (λt ht=>by cases ht;exact⟨hd,id⟩) false ig pS Ci h_ (λh=>by cases h);have Dk:=R2.slot d hd id
 have Sy:(a.put (some d) c).tmps.getD d undef=c:=by rw[ji _ _ _ _ (by omega),if_pos rfl]
 rw[Sy]at Dk;have Ip:aY S (some d) (.d_ [.agg x,.str u]) d=.d_ [.agg x,.str u]:=bm _ _ _;rw[Ip]at Dk
 obtain⟨c0,rfl,r0⟩:∃c0,c=.tuple #[c0,.string ⟨u.toArray⟩]/\RD g'.Pr w2 (.agg x) c0:=by
  cases Dk with
  |data _ _ h=>
   cases h with
   |d_ cs vs hl hr=>
    have h2:vs.size=2:=by rw[<-hl]<;>rfl
    have q0:=hr 0 (by simp) (by omega);have q1:=hr 1 (by simp) (by omega);simp only[List.getElem_cons_zero,List.getElem_cons_succ]at q0 q1;have q1:=kg (RV.data (al:=cd) _ _ q1);refine⟨vs[0],?_,q0⟩
    congr 1
    apply agp
    .simpa using h2
    .intro i h1 h2
     match i,h2 with
     |0,_=>rfl
     |1,_=>exact q1
 have R3:=R2.put d (.agg x) c0 hd (.data _ _ r0) trivial;rw[um]at R3;obtain⟨i31,lz,lx⟩:=bh (P:=prog) (t:=31) (s:=15) (by kernel_rfl);obtain⟨i9,WI,Dx⟩:=bh (P:=prog) (t:=9) (s:=1) (by kernel_rfl)
 have jo:bo z 0 (x.map AV.aI)=x.map AV.aI:=by simp[bo,hz,hx]
 obtain⟨S3,Be⟩:∃S3,av (aY S (some d) (.d_ [.agg x,.str u])) d (.agg x)=S3:=⟨_,rfl⟩
 rw[Be]at R3
 have Vz:S3 d=.agg x:=by rw[<-Be];exact bm _ _ _
 have k3:∀t,t≠d->S3 t=S t:=λt ht=>by rw[<-Be];simp[av,aY,ht]
 have kc:aL S3 H (.store .any i31.size (.t i4) (.t d))=some { v:=cG,dm:=some d,hw:=some (i4,x.map AV.aI) }:=by
  simp[aL,ev,Vz,k3 i4 (afQ Cq),xl,BU,HR.okB,AV.cells,AV.storable,AV.cg,lx,hx,hz,bu,jo]
 obtain ⟨c2,w3,g3,eh,G0,uh,R4⟩:=kS R3 (o:={ dst:=none,op := .store 31 (.tmp i4) (.tmp d),type:=0,pos := "",after := #[],guard:=none }) (x1 := .tmp i4) (x2 := .tmp d) (y1 := .t i4) (y2 := .t d) (hr := .any) rfl rfl lz (by simp [lQ,Ca]) (by simp [lQ,hd]) (λ_ _=>id) (λ_ _=>id) kc;have R5:=R4.put d (.str u) (.string ⟨u.toArray⟩) hd (.data _ _ (.str u)) trivial;have R5:Rel prog w0 n dU g3 (av _ d (.str u)) (av H i4 (some (x.map AV.aI))) ((a.put (some d) c0).put (some d) (.string ⟨u.toArray⟩)) w3:=R5;rw [um] at R5
 obtain⟨S5,Ag⟩:∃S5,av (aT.S { v:=cG,dm:=some d,hw:=some (i4,x.map AV.aI) } S3 none) d (.str u)=S5:=⟨_,rfl⟩
 rw[Ag]at R5
 have Wy:S5 d=.str u:=by rw[<-Ag];exact bm _ _ _
 have k5:∀t,t≠d->S5 t=S t:=λt ht=>by rw[<-Ag,cN _ _ ht,<-k3 t ht];simp[aT.S,aY,av,ht]
 have RS:aL S5 (av H i4 (some (x.map AV.aI))) (.store .any i9.size (.t i5) (.t d))=some { v:=cG,dm:=some d,hw:=some (i5,[.str u]) }:=by
  simp[aL,ev,Wy,k5 i5 (afQ Gt),tC,yv,av,afQ EF,HR.okB,AV.cells,AV.storable,AV.cg,Dx,bo,bu,AV.aI]
 obtain ⟨c3,w4,g4,FF,Yx,Sj,R6⟩:=kS R5 (o:={ dst:=none,op := .store 9 (.tmp i5) (.tmp d),type:=0,pos := "",after := #[],guard:=none }) (x1 := .tmp i5) (x2 := .tmp d) (y1 := .t i5) (y2 := .t d) (hr := .any) rfl rfl WI (by simp [lQ,Br]) (by simp [lQ,hd]) (λ_ _=>id) (λ_ _=>id) RS;show wpOpsIn _ _ _ _ _ [2,3,4,5,6] ((aC.put (some 4) (.string ⟨t.toArray⟩)).put (some 5) (.tuple #[c0,.string ⟨u.toArray⟩])) w2
 obtain⟨A,hA,zA,dA,q1,q2,q5⟩:∃A,(aC.put (some 4) (.string ⟨t.toArray⟩)).put (some 5) (.tuple #[c0,.string ⟨u.toArray⟩])=A/\A.tmps.size=8/\A.defers=[]/\A.eval (.tmp 1)=.pointer (some ⟨b4,0,none⟩)/\A.eval (.tmp 2)=.pointer (some ⟨b5,0,none⟩)/\A.eval (.tmp 5)=.tuple #[c0,.string ⟨u.toArray⟩]:=by
  have TV:(aC.put (some 4) (.string ⟨t.toArray⟩)).tmps.size=8:=by rw[iU];exact zC
  refine⟨_,rfl,by rw[iU];exact TV,dC,?_,?_,?_⟩
  .rw[bt _ _ _ _ (by omega),if_neg (by decide),bt _ _ _ _ (by omega),if_neg (by decide)];exact t1
  .rw[bt _ _ _ _ (by omega),if_neg (by decide),bt _ _ _ _ (by omega),if_neg (by decide)];exact t2
  .rw[bt _ _ _ _ (by omega),if_pos rfl]
 rw[hA]
 have v5:(execOp A.eval { dst:=some 3,op := .move (.tmp 5),type:=146,pos := "",after := #[],guard:=none }).run prog w2 = .ok (.value (.tuple #[c0,.string ⟨u.toArray⟩])) w2:=by unfold execOp;simp [q5]
 refine aW rfl rfl (by rfl) v5 ?_;show wpOpsIn _ _ _ _ _ [3,4,5,6] (A.put (some 3) (.tuple #[c0,.string ⟨u.toArray⟩])) w2
 obtain⟨B,hB⟩:∃B,A.put (some 3) (.tuple #[c0,.string ⟨u.toArray⟩])=B:=⟨_,rfl⟩
 have zB:B.tmps.size=8:=by rw[<-hB,iU];exact zA
 have dB:B.defers=[]:=by rw[<-hB];exact dA
 have p1:B.eval (.tmp 1)=.pointer (some ⟨b4,0,none⟩):=by rw[<-hB,bt _ _ _ _ (by omega),if_neg (by decide)];exact q1
 have p2:B.eval (.tmp 2)=.pointer (some ⟨b5,0,none⟩):=by rw[<-hB,bt _ _ _ _ (by omega),if_neg (by decide)];exact q2
 have p3:B.eval (.tmp 3)=.tuple #[c0,.string ⟨u.toArray⟩]:=by rw[<-hB,bt _ _ _ _ (by omega),if_pos rfl]
 rw[hB]
 have v6:(execOp B.eval { dst:=some 6,op := .extract (.tmp 3) 0,type:=31,pos := "",after := #[],guard:=none }).run prog w2 = .ok (.value c0) w2:=by unfold execOp;simp [p3,Instr.extract]
 refine aW rfl rfl (by rfl) v6 ?_;show wpOpsIn _ _ _ _ _ [4,5,6] (B.put (some 6) c0) w2
 obtain⟨C,hC⟩:∃C,B.put (some 6) c0=C:=⟨_,rfl⟩
 have zC:C.tmps.size=8:=by rw[<-hC,iU];exact zB
 have o1:C.eval (.tmp 1)=.pointer (some ⟨b4,0,none⟩):=by rw[<-hC,bt _ _ _ _ (by omega),if_neg (by decide)];exact p1
 have o2:C.eval (.tmp 2)=.pointer (some ⟨b5,0,none⟩):=by rw[<-hC,bt _ _ _ _ (by omega),if_neg (by decide)];exact p2
 have o3:C.eval (.tmp 3)=.tuple #[c0,.string ⟨u.toArray⟩]:=by rw[<-hC,bt _ _ _ _ (by omega),if_neg (by decide)];exact p3
 have o6:C.eval (.tmp 6)=c0:=by rw[<-hC,bt _ _ _ _ (by omega),if_pos rfl]
 rw[hC]
 have v7:(execOp C.eval { dst:=some 7,op := .extract (.tmp 3) 1,type:=9,pos := "",after := #[],guard:=none }).run prog w2 = .ok (.value (.string ⟨u.toArray⟩)) w2:=by unfold execOp;simp [o3,Instr.extract]
 refine aW rfl rfl (by rfl) v7 ?_;show wpOpsIn _ _ _ _ _ [5,6] (C.put (some 7) (.string ⟨u.toArray⟩)) w2
 obtain⟨D,hD⟩:∃D,C.put (some 7) (.string ⟨u.toArray⟩)=D:=⟨_,rfl⟩
 have zD:D.tmps.size=8:=by rw[<-hD,iU];exact zC
 have dD:D.defers=[]:=by rw[<-hD,<-hC];exact dB
 have m1:D.eval (.tmp 1)=.pointer (some ⟨b4,0,none⟩):=by rw[<-hD,bt _ _ _ _ (by omega),if_neg (by decide)];exact o1
 have m2:D.eval (.tmp 2)=.pointer (some ⟨b5,0,none⟩):=by rw[<-hD,bt _ _ _ _ (by omega),if_neg (by decide)];exact o2
 have m6:D.eval (.tmp 6)=c0:=by rw[<-hD,bt _ _ _ _ (by omega),if_neg (by decide)];exact o6
 have m7:D.eval (.tmp 7)=.string ⟨u.toArray⟩:=by rw[<-hD,bt _ _ _ _ (by omega),if_pos rfl]
 rw[hD]
 have f4:∀c,(a.put (some d) c).eval (.tmp i4)=.pointer (some ⟨b4,0,none⟩):=λc=>by rw[bt _ _ _ _ (by omega),if_neg (afQ Cq)];exact e4
 have f5:∀c,(a.put (some d) c).eval (.tmp i5)=.pointer (some ⟨b5,0,none⟩):=λc=>by rw[bt _ _ _ _ (by omega),if_neg (afQ Gt)];exact e5
 have fd:∀c,(a.put (some d) c).eval (.tmp d)=c:=λc=>by rw[bt _ _ _ _ (by omega),if_pos rfl]
 have bb:∀ o:Oper,o.op = .store 31 (.tmp 1) (.tmp 6)->(execOp D.eval o).run prog w2=(execOp (a.put (some d) c0).eval { dst:=none,op := .store 31 (.tmp i4) (.tmp d),type:=0,pos := "",after := #[],guard:=none }).run prog w2:=by
  intro o ho;unfold execOp;simp only[ho,m1,m6,f4,fd]
 have gm:∀ (D':Act) (o:Oper),o.op = .store 9 (.tmp 2) (.tmp 7)->D'.tmps=D.tmps->(execOp D'.eval o).run prog w3=(execOp (a.put (some d) (.string ⟨u.toArray⟩)).eval { dst:=none,op := .store 9 (.tmp i5) (.tmp d),type:=0,pos := "",after := #[],guard:=none }).run prog w3:=by
  intro D' o ho ht
  have n2:D'.eval (.tmp 2)=.pointer (some ⟨b5,0,none⟩):=by show D'.tmps.getD 2 undef=_;rw[ht];exact m2
  have n7:D'.eval (.tmp 7)=.string ⟨u.toArray⟩:=by show D'.tmps.getD 7 undef=_;rw[ht];exact m7
  unfold execOp;simp only[ho,n2,n7,f5,fd]
 have fin:∀v1 v2:Value,((D.put none v1).put none v2).defers=[]/\∃v',(results f120 ((D.put none v1).put none v2).tmps).run prog w4=.ok v' w4/\(Ending.returned v'=.returned (.tuple #[])/\∃(c:Value)(g':Gh)(S':aF)(H':aK),g'.old=g.old/\Rel prog w0 n dU g' S' H' (a.put (some d) c) w4/\(∀t,t≠d->S' t=S t)/\H'=av (av H i4 (some (x.map AV.aI))) i5 (some [.str u])):=λv1 v2=>
  ⟨dD,.tuple #[],by simp[results,results120],rfl,_,g4,_,_,by rw[Sj];exact uh.trans nq,R6,λt ht=>by rw[<-k5 t ht];simp[aT.S,aY,av,ht],rfl⟩
 rcases eh with hr|⟨hr,_⟩
 .refine aW rfl rfl (by rfl) ((bb _ rfl).trans hr) ?_
  rcases FF with hr|⟨hr,_⟩
  .exact aW rfl rfl (by rfl) ((gm (D.put none c2) _ rfl rfl).trans hr) (fin c2 _)
  .exact dk rfl rfl (by rfl) ((gm (D.put none c2) _ rfl rfl).trans hr) (fin c2 undef)
 .refine dk rfl rfl (by rfl) ((bb _ rfl).trans hr) ?_
  rcases FF with hr|⟨hr,_⟩
  .exact aW rfl rfl (by rfl) ((gm (D.put none undef) _ rfl rfl).trans hr) (fin undef _)
  .exact dk rfl rfl (by rfl) ((gm (D.put none undef) _ rfl rfl).trans hr) (fin undef undef)
end
theorem nV(l:List Int):∀x∈ints l,x.cells.length=1/\x.storable=true/\∀c∈x.cells,c.one=true:=by
 intro x hx;obtain⟨e,_,rfl⟩:=afp.1 hx;exact⟨rfl,rfl,λc hc=>by simp[AV.cells]at hc;subst hc;rfl⟩
theorem pj(l:List Int):∀x∈ints l,∀c∈x.cells,jA c=true:=by
 intro x hx c hc;obtain⟨e,_,rfl⟩:=afp.1 hx;simp[AV.cells]at hc;subst hc;rfl
theorem zc(l:List (List Int)):∀x∈l.map vI,x.cells.length=1/\x.storable=true/\∀c∈x.cells,c.one=true:=by
 intro x hx;obtain⟨e,_,rfl⟩:=afp.1 hx;exact⟨rfl,rfl,λc hc=>by simp[AV.cells,vI]at hc;subst hc;rfl⟩
structure Lv(wB:World)(Mi:Nat->Nat->Prop)(bF bN:Nat)(s:aq)(cS cR fv:Value)(fs:List (List Int))(es:List Int)(w:World):Prop where
 below:Below wB.heap.size wB w
 ge:wB.heap.size<=bF/\wB.heap.size<=bN/\bF≠bN
 lt:∀b k,Mi b k->b<w.heap.size
 gF:∀k,¬Mi bF k
 gN:∀k,¬Mi bN k
 st:∃u qG xF v tw xN,w.heap[bF]?=some (.cells #[u] qG (0,0))/\w.ownsRow (bF+1) 23 1 u fs.length xF/\rr (λb k=>Mi b k/\wB.heap.size<=b) w 1 (fs.map vI) xF/\(∀b,u.ownBlock=some b->b≠bN/\∀k,¬Mi b k)/\
  w.heap[bN]?=some (.cells #[v] tw (0,0))/\w.ownsRow (bN+1) 3 1 v es.length xN/\rr (λ_ _=>False) w 1 (ints es) xN/\∀b,v.ownBlock=some b->b≠bF/\u.ownBlock≠some b/\∀k,¬Mi b k
 s:RV Mi cd w (.ref (ao s)) cS
 r:RV Mi cd w (.ref [.val fv]) cR
variable{wB:World}{Mi:Nat->Nat->Prop}{bF bN:Nat}{s:aq}{cS cR fv:Value}{fs:List (List Int)}{es:List Int}{w w':World}
theorem eO{base:Nat}{e:TypeId}{size:Nat}{v:Value}{n:Nat}{xs:List Value}(h:w.ownsRow base e size v n xs)(hk:∀b,v.ownBlock=some b->w'.heap[b]?=w.heap[b]?):w'.ownsRow base e size v n xs:=by
 refine⟨h.1,?_⟩
 rcases h.2 with h|⟨gg,cap,cur,rfl,uq,yM,rest⟩
 .exact .inl h
 .exact .inr ⟨gg,cap,cur,rfl,uq,(hk gg rfl).trans yM,rest⟩
theorem Lv.grow(st:Lv wB Mi bF bN s cS cR fv fs es w)(hb:Below w.heap.size w w'):Lv wB Mi bF bN s cS cR fv fs es w':=by
 have hk:bz Mi Mi w w':=bz.jV (λb h=>hb.block b h) λ_ _ _ h=>h
 obtain⟨u,qG,xF,v,tw,xN,f1,f2,f3,f4,n1,n2,n3,n4⟩:=st.st;have lF:=(afe.1 f1).1;have lN:=(afe.1 n1).1
 exact⟨st.below.trans (hb.mono st.below.size),st.ge,λb k h=>afI (st.lt b k h) hb.size,st.gF,st.gN,
  ⟨u,qG,xF,v,tw,xN,(hb.block _ lF).trans f1,eO f2 λb h=>hb.block _ (f2.lt b h).2,f3.mono (bz.jV (λb h=>hb.block b h) λ_ _ _ h=>h),f4,(hb.block _ lN).trans n1,eO n2 λb h=>hb.block _ (n2.lt b h).2,n3.mono (bz.of_eq λ_ _ h=>h.elim),n4⟩,
  st.s.mono hk λ_ _ h=>h,st.r.mono hk λ_ _ h=>h⟩
end Go.Proofs.Tryz
namespace Go.Proofs.Tryz
open Go Go.AL Go.RowKit Go.Proofs Go.Proofs.Tram
variable{GI:World->Prop}
def FC:Nat->Bool:=λt=>decide (14<=t)
structure L2(a0:Act)(w:World)(u v:Value)(es:List Int)(c:Bool)(k:Nat)(a:Act)(w':World):Prop where
 size:a.tmps.size=50
 defers:a.defers=[]
 same:fC FC a0 a
 below:Below w.heap.size w w'
 t14:c=true->a.tmps.getD 14 undef=u
 t15:1<=k->a.tmps.getD 15 undef=v
 t16:2<=k->Jc w w' (ints es) (a.tmps.getD 16 undef)
 t17:3<=k->∃DJ,a.tmps.getD 17 undef=.slice (some ⟨DJ,0,none⟩) 1 1/\w'.heap[DJ]?=some (.cells #[a.tmps.getD 16 undef] 23 (0,0))/\w.heap.size<=DJ
theorem tD{a0 a:Act}(h:fC FC a0 a){d:Nat}(hd:14<=d)(c:Value):fC FC a0 (a.put (some d) c):=h.trans (fC.put (λt ht=>by cases ht;simp[FC,hd]) c)
section
variable{a0 a:Act}{w w':World}{u v:Value}{es:List Int}{c:Bool}{k:Nat}
theorem L2.load(h:L2 a0 w u v es c k a w'):L2 a0 w u v es true k (a.put (some 14) u) w':=by
 have hp:=λt (c:Value)=>ji a 14 t c (by rw[h.size];omega)
 refine⟨by simp[Act.put,h.size],h.defers,tD h.same (by omega) _,h.below,λ_=>by rw[hp,if_pos rfl],λhk=>by rw[hp,if_neg (by decide)];exact h.t15 hk,λhk=>by rw[hp,if_neg (by decide)];exact h.t16 hk,λhk=>?_⟩;rw[hp,if_neg (by decide),hp,if_neg (by decide)];exact h.t17 hk
theorem L2.now(h:L2 a0 w u v es c 0 a w'):L2 a0 w u v es c 1 (a.put (some 15) v) w':=by
 have hp:=λt (c:Value)=>ji a 15 t c (by rw[h.size];omega)
 exact⟨by simp[Act.put,h.size],h.defers,tD h.same (by omega) _,h.below,λhc=>by rw[hp,if_neg (by decide)];exact h.t14 hc,λ_=>by rw[hp,if_pos rfl],λhk=>by omega,λhk=>by omega⟩
theorem L2.copy(h:L2 a0 w u v es c 1 a w'){w2:World}{cl:Value}(hb:Below w'.heap.size w' w2)(hf:Jc w' w2 (ints es) cl):L2 a0 w u v es c 2 (a.put (some 16) cl) w2:=by
 have hp:=λt (c:Value)=>ji a 16 t c (by rw[h.size];omega)
 refine⟨by simp[Act.put,h.size],h.defers,tD h.same (by omega) _,h.below.trans (hb.mono h.below.size),λhc=>by rw[hp,if_neg (by decide)];exact h.t14 hc,λhk=>by rw[hp,if_neg (by decide)];exact h.t15 (by omega),λ_=>?_,λhk=>by omega⟩;rw[hp,if_pos rfl];obtain⟨hi,hr⟩:=hf;exact⟨hi,hr.mono (bz.same λb k _ hp=>⟨⟨agu h.below.size hp.1.1,hp.1.2⟩,hp.2⟩)⟩
theorem xE(w:World)(o:Obj):Below w.heap.size w (w.alloc o):=(aga _ _).alloc (afg _) _
theorem L2.row(h:L2 a0 w u v es c 2 a w'):L2 a0 w u v es c 3 (a.put (some 17) (.slice (some ⟨w'.heap.size,0,none⟩) 1 1)) (w'.alloc (.cells #[a.tmps.getD 16 undef] 23)):=by
 have hp:=λt (c:Value)=>ji a 17 t c (by rw[h.size];omega)
 have hb:=xE w' (.cells #[a.tmps.getD 16 undef] 23);refine⟨by simp[Act.put,h.size],h.defers,tD h.same (by omega) _,h.below.trans (hb.mono h.below.size),λhc=>by rw[hp,if_neg (by decide)];exact h.t14 hc,λhk=>by rw[hp,if_neg (by decide)];exact h.t15 (by omega),λ_=>?_,λ_=>?_⟩
 .rw[hp,if_neg (by decide)];exact(h.t16 (by omega)).grow hb
 .rw[hp,if_pos rfl,hp,if_neg (by decide)];exact⟨_,rfl,afO _ _,h.below.size⟩
end
def Kx(ops:Array Oper):Bool:=decide (ops.size=6)&&
 (Region.ready .any ops #[false,false,false,false,false,false]==[0,1])&&(Region.ready .any ops #[true,false,false,false,false,false]==[1])&&(Region.ready .any ops #[false,true,false,false,false,false]==[0,2])&&
 (Region.ready .any ops #[true,true,false,false,false,false]==[2])&&(Region.ready .any ops #[false,true,true,false,false,false]==[0,3])&&(Region.ready .any ops #[true,true,true,false,false,false]==[3])&&
 (Region.ready .any ops #[false,true,true,true,false,false]==[0])&&(Region.ready .any ops #[true,true,true,true,false,false]==[4])&&(Region.ready .any ops #[true,true,true,true,true,false]==[5])&&(Region.ready .any ops #[true,true,true,true,true,true]==[])
section
variable{wB:World}{Mi:Nat->Nat->Prop}{bF bN:Nat}{s:aq}{cS cR fv:Value}{fs:List (List Int)}{es:List Int}{w:World}{a:Act}{Q:Exit->Act->World->Prop}{m:Nat}
theorem yt (hG:au GI) (st:Lv wB Mi bF bN s cS cR fv fs es w) (fR:GI w) (bL:a.tmps.size=50) (ea:a.defers=[]) (t3:a.tmps.getD 3 undef = .pointer (some ⟨bN,0,none⟩)) (t4:a.tmps.getD 4 undef = .pointer (some ⟨bF,0,none⟩)) (sk:es.length < 1000) (eQ:fs.length < 100000)
  {id:Nat} {ops:Array Oper} {o0 o1 o2 o3 o4 o5:Oper} {L5 Jm:Call} (h0:ops[0]?=some o0) (h1:ops[1]?=some o1) (h2:ops[2]?=some o2) (h3:ops[3]?=some o3) (h4:ops[4]?=some o4) (h5:ops[5]?=some o5)
  (q0:o0.op=.load 141 (.tmp 4)/\o0.dst=some 14/\o0.guard=none) (q1:o1.op=.load 23 (.tmp 3)/\o1.dst=some 15/\o1.guard=none) (q2:o2.op=.call L5/\o2.dst=some 16/\o2.guard=none) (q3:o3.op=.buildSlice 141 1 #[(0,.tmp 16)]/\o3.dst=some 17/\o3.guard=none)
  (q4:o4.op=.call Jm/\o4.dst=some 18/\o4.guard=none) (q5:o5.op=.store 141 (.tmp 4) (.tmp 18)/\o5.dst=none/\o5.guard=none)
  (c2:L5.callee=.value (.func 114)/\L5.args=#[.tmp 15]) (c4:Jm.callee=.builtin .append/\Jm.args=#[.tmp 14,.tmp 17]/\Jm.argTypes=#[141,141]) (hr:Kx ops=true)
  (hk:∀a' w' mz,a'.tmps.size=50->a'.defers=[]->fC FC a a'->(∀b k,Mi b k->mz b k)->Lv wB mz bF bN s cS cR fv (fs++[es]) es w'->Q .normal a' w'):(Code.region id ops true).wpIn (FR none) m prog Q a w:=by
 unfold Kx at hr;simp only[afa,afY,aff]at hr;obtain⟨⟨⟨⟨⟨⟨⟨⟨⟨⟨r0,ra⟩,rb⟩,rc⟩,rd⟩,re⟩,rf⟩,rg⟩,rh⟩,ri⟩,rj⟩:=hr;obtain⟨u,qG,xF,v,tw,xN,f1,f2,f3,f4,n1,n2,n3,n4⟩:=st.st;have lF:=(afe.1 f1).1;have lN:=(afe.1 n1).1;obtain⟨d141,PU,Pu⟩:=iy (P:=prog) (t:=141) (by kernel_rfl);obtain⟨d23,Sh,g23⟩:=iy (P:=prog) (t:=23) (by kernel_rfl)
 have FK:prog.underlying 141=some (.slice 23):=by kernel_rfl
 obtain⟨i3,pQ,lr⟩:=bh (P:=prog) (t:=3) (s:=1) (by kernel_rfl);obtain⟨i141,Nb,Lu⟩:=bh (P:=prog) (t:=141) (s:=1) (by kernel_rfl);obtain⟨i23,CO,vT⟩:=af5.1 (show(prog.info? 23).bind (λi=>if i.size=1/\i.bytes<=65536 then i.zero else none)=some (.slice none 0 0) by kernel_rfl)
 have LL:(i23.size=1/\i23.bytes<=65536)/\i23.zero=some (.slice none 0 0):=by
  split at vT
  .exact⟨by assumption,vT⟩
  .cases vT
 obtain⟨⟨y4,MW⟩,vT⟩:=LL;have Sz:=Gi hG (GI:=GI) (ints es) (jS es) (by rw[b_];omega)
 have load:∀{c k a' w' K},L2 a w u v es c k a' w'->(∀a' w',L2 a w u v es true k a' w'->K a' w')->wpOpIn (FR none) m prog ops Q 0 K a' w':=λ{c k a' w' K} h hK=>
  sU h0 q0.2.2 (by rw[q0.1]<;>rfl) (lP (b:=bF) (off:=0) (v:=u) q0.1 ((h.same 4 rfl).trans t4) PU Pu (by simp[World.cell?,(h.below.block bF lF).trans f1])) (by rw[q0.2.1];exact hK _ _ h.load)
 have now:∀{c a' w' K},L2 a w u v es c 0 a' w'->(∀a' w',L2 a w u v es c 1 a' w'->K a' w')->wpOpIn (FR none) m prog ops Q 1 K a' w':=λ{c a' w' K} h hK=>
  sU h1 q1.2.2 (by rw[q1.1]<;>rfl) (lP (b:=bN) (off:=0) (v:=v) q1.1 ((h.same 3 rfl).trans t3) Sh g23 (by simp[World.cell?,(h.below.block bN lN).trans n1])) (by rw[q1.2.1];exact hK _ _ h.now)
 have copy:∀{c a' w' K},L2 a w u v es c 1 a' w'->(∀a' w',L2 a w u v es c 2 a' w'->K a' w')->wpOpIn (FR none) m prog ops Q 2 K a' w':=λ{c a' w' K} h hK=>by
  have hv:a'.tmps.getD 15 undef=v:=h.t15 (afg _)
  have Le:w'.ownsRow (bN+1) 3 1 v es.length xN:=eO n2 λb hb=>h.below.block _ (n2.lt b hb).2
  have CD:RD (λ_ _=>True) w' (.slice .view (ints es)) v:=RD.ofRow (size:=1) (es:=ints es) (by rw[b_];exact Le) (n3.mono (bz.of_eq λ_ _ h=>h.elim)) λ_ _ _ _=>trivial
  refine NY h2 q2.2.2 (by rw[q2.1]<;>rfl) (fU (k:=114) (args:=#[v]) w' q2.1 c2.1 ?_ (by kernel_rfl)) (Sz w' (λ_ _=>True) #[v] (hG w w' fR h.below) rfl (λi hi gq=>by
   match i,hi with
   |0,_=>exact .data _ _ CD)) ?_
  .rw[c2.2];simp only[afw,afv,afB];show #[a'.tmps.getD 15 undef]=_;rw[hv]
  intro en w2 hE;obtain⟨hb,cc,rfl,hf⟩:=Jy pQ (by rw[lr];exact nV es) (pj es) hE;refine⟨_,rfl,?_⟩;rw[q2.2.1];exact hK _ _ (h.copy hb hf)
 have row:∀{c a' w' K},L2 a w u v es c 2 a' w'->(∀a' w',L2 a w u v es c 3 a' w'->K a' w')->wpOpIn (FR none) m prog ops Q 3 K a' w':=λ{c a' w' K} h hK=>by
  obtain⟨hi,jX⟩:=h.t16 (afg _);exact sU h3 q3.2.2 (by rw[q3.1]<;>rfl) (Jw q3.1 FK CO vT y4 rfl (jX.one rfl)) (by rw[q3.2.1];exact hK _ _ h.row)
 have tail:∀{a' w'},L2 a w u v es true 3 a' w'->wpAnyIn (FR none) m prog .any ops Q 2 #[true,true,true,true,false,false] a' w':=λ{a' w'} h=>by
  obtain⟨DJ,Sn,N6,EE⟩:=h.t17 (afg _);have ON:=h.t14 rfl;have J':=h.t16 (by omega)
  have pV:(a'.tmps.getD 16 undef).oneCell'=true:=by
   obtain⟨hi,jX⟩:=J';exact jX.one rfl
  have D0:w'.ownsRow (bF+1) 23 1 u fs.length xF:=eO f2 λb hb=>h.below.block _ (f2.lt b hb).2
  have hle:bF+1<=w'.heap.size:=afI lF h.below.size;refine ni rh ?_;obtain⟨u',w2,b',eh,h_,Ht,fa,PJ⟩:=Jx (P:=prog) (t:=141) (ty:=o4.type) FK CO vT (by rw[y4]<;>rfl) y4 MW D0 (by omega) hle (ad:=⟨DJ,0,none⟩) (cap:=1) (c:=a'.tmps.getD 16 undef) (by simp[World.cell?,N6]) pV;refine sU (v:=u') (w':=w2) h4 q4.2.2 (by rw[q4.1]<;>rfl) ?_ ?_
  .have e1:a'.eval (.tmp 14)=u:=ON;have e2:a'.eval (.tmp 17)=.slice (some ⟨DJ,0,none⟩) 1 1:=Sn;unfold execOp;simp[q4.1,c4.1,c4.2.1,c4.2.2,resolve,invoke,builtin,e1,e2,eh]
  rw[q4.2.1];show wpAnyIn (FR none) m prog .any ops Q 1 #[true,true,true,true,true,false] (a'.put (some 18) u') w2;refine ni ri ?_
  have hp:=λt (c:Value)=>ji a' 18 t c (by rw[h.size];omega)
  have uF:u.ownBlock≠some bF:=λe=>by have:=(f2.lt bF e).1;omega
  have SQ:∀b,u.ownBlock=some b->b<w.heap.size:=λb hb=>(f2.lt b hb).2
  have Q_:w2.heap[bF]?=some (.cells #[u] qG (0,0)):=(fa.block bF (afI lF h.below.size) uF).trans ((h.below.block bF lF).trans f1)
  have L8:u'.oneCell'=true:=by
   rcases h_.2 with⟨rfl,_⟩|⟨_,_,_,rfl,_⟩<;>rfl
  refine NX h5 q5.2.2 (by rw[q5.1]<;>rfl) (fM q5.1 (by show(a'.put (some 18) u').tmps.getD 4 undef=_;rw[hp,if_neg (by decide)];exact(h.same 4 rfl).trans t4) Nb Lu Q_ (by show(a'.put (some 18) u').tmps.getD 18 undef=u';rw[hp,if_pos rfl]) L8) ?_;rw[q5.2.1];refine⟨rj,?_⟩;obtain⟨hi,jX⟩:=J'
  have GN:∀b,b<w.heap.size->b<w'.heap.size:=λb hb=>afI hb h.below.size
  have Sg:w'.heap.size<=w2.heap.size:=fa.size
  have LP:(w2.setRow bF #[u']).heap.size=w2.heap.size:=by simp
  have old:∀b,b<w'.heap.size->b≠bF->u.ownBlock≠some b->(w2.setRow bF #[u']).heap[b]?=w'.heap[b]?:=λb hb h1 h2=>(af4 w2 bF b #[u'] h1).trans (fa.block b hb h2)
  have Dc:∀b,b<w.heap.size->b≠bF->u.ownBlock≠some b->(w2.setRow bF #[u']).heap[b]?=w.heap[b]?:=λb hb h1 h2=>(old b (GN b hb) h1 h2).trans (h.below.block b hb)
  have V6:b'≠bF:=λe=>by have:=(h_.lt b' Ht).1;omega
  refine hk (a'.put (some 18) u') (w2.setRow bF #[u']) (λb k=>Mi b k\/((w.heap.size<=b/\b<w'.heap.size)/\k<hi b)) (by simp[Act.put,h.size]) h.defers (tD h.same (by omega) _) (λb k hm=>.inl hm) ?_
  have FX:bz Mi (λb k=>Mi b k\/((w.heap.size<=b/\b<w'.heap.size)/\k<hi b)) w (w2.setRow bF #[u']):=bz.of_eq λb k hm=>⟨.inl hm,Dc b (st.lt b k hm) (λe=>st.gF k (e▸hm)) λe=>(f4 b e).2 k hm⟩
  refine⟨?_,st.ge,?_,?_,?_,⟨u',qG,xF++[a'.tmps.getD 16 undef],v,tw,xN,agq w2 bF _ #[u'] qG (0,0) Q_,?_,⟨zc _,?_⟩,?_,?_,?_,?_,?_⟩,st.s.mono FX λ_ _ h=>h,st.r.mono FX λ_ _ h=>h⟩
  .have b1:=st.below.trans (h.below.mono st.below.size);have b2:=b1.trans (fa.below b1.size λb hb=>agu st.ge.1 (ahP (f2.lt b hb).1));refine b2.trans ⟨rfl,rfl,rfl,by rw[LP];exact afg _,λk hk=>af4 w2 bF k #[u'] λe=>?_⟩;have:=st.ge.1;omega
  .rintro b k (hm|hm)
   .rw[LP];exact afI (GN b (st.lt b k hm)) Sg
   .rw[LP];exact afI hm.1.2 Sg
  .rintro k (hm|hm)
   .exact st.gF k hm
   .have:=hm.1.1;omega
  .rintro k (hm|hm)
   .exact st.gN k hm
   .have:=hm.1.1;omega
  .have e:(fs++[es]).length=fs.length+1:=by simp
   rw[e]
   exact eO h_ λb hb=>af4 w2 bF b #[u'] λe=>V6 (by rw[Ht]at hb;cases hb;exact e)
  .intro j hj k JQ
   have A5:xF.length=fs.length:=by have:=f2.1;simpa using this
   have Hd:k=0:=by
    have h1:=(zc (fs++[es]) _ (ae_ hj)).1;omega
   subst Hd;rw[agf,Nat.add_zero]
   by_cases lj:j<fs.length
   .have fj:j<(fs.map vI).length:=by simpa using lj
    have jy:((fs++[es]).map vI)[j]=(fs.map vI)[j]:=by
     rw[afl,afl,afz lj]
    obtain⟨x,x1,x2⟩:=f3.2 j fj 0 (by rw[<-jy];exact JQ);rw[agf,Nat.add_zero]at x1;refine⟨x,by rw[ahl (by omega)];exact x1,?_⟩;simp only[jy];exact x2.mono (bz.of_eq λb k hm=>⟨⟨.inl hm.1,hm.2⟩,Dc b (st.lt b k hm.1) (λe=>st.gF k (e▸hm.1)) λe=>(f4 b e).2 k hm.1⟩)
   .have wy:j=fs.length:=by simp at hj;omega
    subst wy;refine⟨a'.tmps.getD 16 undef,by rw[<-A5];simp,?_⟩
    have jy:((fs++[es]).map vI)[fs.length]=vI es:=by simp
    simp only[jy];exact jX.mono (bz.of_eq λb k hm=>⟨⟨.inr hm,agu st.below.size hm.1.1⟩,old b hm.1.2 (λe=>by have:=hm.1.1;omega) λe=>by have:=SQ b e;have:=hm.1.1;omega⟩)
  .intro b hb;rw[Ht]at hb;cases hb;rcases PJ with ho|ho
   .refine⟨(f4 b' ho).1,?_⟩;rintro k (hm|hm)
    .exact(f4 b' ho).2 k hm
    .have:=SQ b' ho;have:=hm.1.1;omega
   .refine⟨λe=>by have:=GN bN lN;omega,?_⟩;rintro k (hm|hm)
    .have:=GN b' (st.lt b' k hm);omega
    .have:=hm.1.2;omega
  .exact(Dc bN lN (λe=>st.ge.2.2 e.symm) λe=>(f4 bN e).1 rfl).trans n1
  .exact eO n2 λb hb=>Dc b (n2.lt b hb).2 (n4 b hb).1 (n4 b hb).2.1
  .exact n3.mono (bz.of_eq λ_ _ h=>h.elim)
  .intro b hb;refine⟨(n4 b hb).1,λe=>?_,?_⟩
   .rw[Ht]at e;cases e;rcases PJ with ho|ho
    .exact(n4 b' hb).2.1 ho
    .have:=GN b' (n2.lt b' hb).2;omega
   .rintro k (hm|hm)
    .exact(n4 b hb).2.2 k hm
    .have:=(n2.lt b hb).2;have:=hm.1.1;omega
 have s3:∀{a' w'},L2 a w u v es true 3 a' w'->wpAnyIn (FR none) m prog .any ops Q 2 #[true,true,true,true,false,false] a' w':=tail
 have s2:∀{a' w'},L2 a w u v es true 2 a' w'->wpAnyIn (FR none) m prog .any ops Q 3 #[true,true,true,false,false,false] a' w':=λh=>ni rf (row h λ_ _ h=>s3 h)
 have s1:∀{a' w'},L2 a w u v es true 1 a' w'->wpAnyIn (FR none) m prog .any ops Q 4 #[true,true,false,false,false,false] a' w':=λh=>ni rd (copy h λ_ _ h=>s2 h)
 have p3:∀{a' w'},L2 a w u v es false 3 a' w'->wpAnyIn (FR none) m prog .any ops Q 3 #[false,true,true,true,false,false] a' w':=λh=>ni rg (load h λ_ _ h=>s3 h)
 have p2:∀{a' w'},L2 a w u v es false 2 a' w'->wpAnyIn (FR none) m prog .any ops Q 4 #[false,true,true,false,false,false] a' w':=λh=>yO re (load h λ_ _ h=>s2 h) (row h λ_ _ h=>p3 h)
 have p1:∀{a' w'},L2 a w u v es false 1 a' w'->wpAnyIn (FR none) m prog .any ops Q 5 #[false,true,false,false,false,false] a' w':=λh=>yO rc (load h λ_ _ h=>s1 h) (copy h λ_ _ h=>p2 h)
 have s0:∀{a' w'},L2 a w u v es true 0 a' w'->wpAnyIn (FR none) m prog .any ops Q 5 #[true,false,false,false,false,false] a' w':=λh=>ni rb (now h λ_ _ h=>s1 h)
 refine aid cC ?_;rw[r0];show wpAnyIn (FR none) m prog .any ops Q 6 #[false,false,false,false,false,false] a { w with drawn:=w.drawn+1 }
 have P5:L2 a w u v es false 0 a { w with drawn:=w.drawn+1 }:=⟨bL,ea,fC.refl _ _,⟨rfl,rfl,rfl,afg _,λ_ _=>rfl⟩,(λh=>by cases h),λh=>by omega,λh=>by omega,λh=>by omega⟩
 exact yO ra (load P5 λ_ _ h=>s0 h) (now P5 λ_ _ h=>p1 h)
end
end Go.Proofs.Tryz
namespace Go.Proofs.Tryz
open Go Go.AL Go.RowKit Go.Proofs Go.Proofs.Tram
section
variable{H:Type}{enc:TypeId×Value->H}{w:World}{held:Bool}
def T0:Nat->Nat->Prop:=λ_ _=>True
def kM(w:World)(l:List AV)(cs:List Value):Prop:=l.length=cs.length/\∀i (h:i<l.length)(h':i<cs.length),(l[i]).one=true/\RD T0 w l[i] cs[i]
def iP(enc:TypeId×Value->H)(w:World)(held:Bool)(t:TypeId){α:Type}(f:α->List AV)(tG:α->Prop):Prop:=
 ∀(fuel:Nat)(cs:List Value)(x:DataW H×List MemPlace),DataW.trod enc prog w 0 (λ_=>true) held fuel t cs=some x->∃a,tG a/\kM w (f a) cs
def jg(n:Int):Prop:= -9223372036854775808<=n/\n<9223372036854775808
theorem Bp{t:TypeId}(ht:prog.underlying t=some (.int .i64)):iP enc w held t (λn:Int=>[.int .i64 n]) jg:=by
 intro fuel cs x h;obtain⟨n,rfl,_,hw⟩:=DataW.trod_int ht h;refine⟨n,?_,rfl,λi hi gq=>?_⟩
 .simp only[Lit.wf,afa,aff]at hw
  have h1:IntKind.i64.min= -9223372036854775808:=by kernel_rfl
  have h2:IntKind.i64.max=9223372036854775807:=by kernel_rfl
  rw[h1,h2]at hw;exact⟨hw.1,by omega⟩
 .match i,hi with
  |0,_=>exact⟨rfl,.int _ _⟩
theorem rG{t:TypeId}(ht:prog.underlying t=some .bool):iP enc w held t (λb:Bool=>[.bool b]) (λ_=>True):=by
 intro fuel cs x h;obtain⟨b,rfl,_⟩:=DataW.trod_bool ht h;refine⟨b,trivial,rfl,λi hi gq=>?_⟩
 match i,hi with
 |0,_=>exact⟨rfl,.bool _⟩
theorem p7{α:Type}{p:Nat->α->Prop}:∀(n:Nat),(∀i,i<n->∃a,p i a)->∃l:List α,l.length=n/\∀i (h:i<l.length),p i l[i]
 |0,_=>⟨[],rfl,λi h=>by simp at h⟩
 |n+1,h=>by
  obtain⟨l,hl,hp⟩:=p7 n λi hi=>h i (by omega)
  obtain⟨a,ha⟩:=h n (by omega);refine⟨l++[a],by simp[hl],λi hi=>?_⟩
  by_cases kW:i<l.length
  .rw[afz kW];exact hp i kW
  .have:i=n:=by simp at hi;omega
   subst this;rw[af2 (by omega)];simpa[hl]using ha
theorem BZ{w:World}{a:Addr}{v:Value}(h:w.cell? a=some v):a=⟨a.block,a.off,none⟩:=by
 obtain⟨b,o,s⟩:=a;unfold World.cell? at h
 cases s with
 |none=>rfl
 |some s=>
  simp at h
  split at h<;>simp at h
theorem kf {t e:TypeId} {α:Type} {f:α→List AV} {tG:α→Prop} (mk:α→AV) (WE:∀ a,(mk a).cells=f a) (ht:prog.underlying t=some (.slice e)) (jb:0 < prog.cellsOf e) (he:iP enc w held e f tG) :
  iP enc w held t (λl:List α=>[.slice .view (l.map mk)]) (λl=>∀a∈l,tG a):=by
 intro fuel cs x h
 rcases DataW.trod_slice ht h with⟨rfl,_⟩|⟨a,len,cap,elems,rest,n,_,rfl,_,_,Uw,CA,hlen,Ej,jo,_⟩
 .refine⟨[],by simp,rfl,λi hi gq=>?_⟩
  match i,hi with
  |0,_=>exact⟨rfl,.qw _⟩
 .obtain⟨size,Dj⟩:∃size,prog.cellsOf e=size:=⟨_,rfl⟩
  rw[Dj]at jb Ej jo;obtain⟨CN,G5⟩:=jo rfl
  by_cases iV:cap=0
  .subst iV
   have pU:len=0:=by omega
   subst pU;refine⟨[],by simp,rfl,λi hi gq=>?_⟩
   match i,hi with
   |0,_=>exact⟨rfl,.sF _ _⟩
  have sM:∃i kd,w.cells? 0 (a.add (i*size)) size=some kd/\i=0:=by
   by_cases pU:len=0
   .subst pU;have h0:=G5 0 (by omega);rw[ae9 (by omega),af5]at h0;obtain⟨kd,h1,_⟩:=h0;exact⟨0,kd,by simpa using h1,rfl⟩
   .have h0:=Ej 0 (by omega);rw[ae9 (by omega),af5]at h0;obtain⟨kd,h1,_⟩:=h0;exact⟨0,kd,h1,rfl⟩
  obtain⟨_,Uy,C6,rfl⟩:=sM;rw[ain,show a.add 0=a by simp[Addr.add]]at C6;have tO:=(ahf C6).2.2 0 (by omega);rw[show a.add 0=a by simp[Addr.add]]at tO;have pU:=(ahf C6).2.1;rw[ae9 (by omega)]at tO
  obtain⟨b,off,rfl⟩:∃b off,a=⟨b,off,none⟩:=⟨_,_,BZ tO⟩
  clear tO C6 pU Uy G5 jo
  obtain⟨l,hl,hp⟩:=p7 (p:=λi (v:α)=>tG v/\∃kd,w.cells? 0 ((⟨b,off,none⟩:Addr).add (i*size)) size=some kd/\kM w (f v) kd) len λi hi=>by
   have h0:=Ej i hi;rw[ae9 (by omega),af5]at h0;obtain⟨kd,h1,h2⟩:=h0;obtain⟨v,hv,hc⟩:=he _ _ _ h2;exact⟨v,hv,kd,h1,hc⟩
  refine⟨l,λv hv=>?_,rfl,λi hi gq=>?_⟩
  .obtain⟨i,hi,rfl⟩:=afD hv;exact(hp i hi).1
  .have JH:i=0:=by simpa using hi
   subst JH;refine⟨rfl,?_⟩;show RD T0 w (.slice .view (l.map mk)) (.slice (some ⟨b,off,none⟩) len cap)
   have DG:len=(l.map mk).length:=by simp[hl]
   have zh:∀i (h:i<(l.map mk).length),((l.map mk)[i]).cells=f (l[i]'(by simpa using h)):=λi h=>by rw[afl];exact WE _
   have key:∀m,m=(l.map mk).length->RD T0 w (.slice .view (l.map mk)) (.slice (some ⟨b,off,none⟩) m cap):=?_
   .exact key _ DG
   rintro m rfl
   have gG:∀i (h:i<l.length) j,j<size->∃kd,kM w (f l[i]) kd/\kd.length=size/\w.cell? ⟨b,off+(i*size+j),none⟩=kd[j]?:=by
    intro i h j hj;obtain⟨_,kd,h1,h2⟩:=hp i h;obtain⟨_,h3,h4⟩:=ahf h1;have h5:=h4 j hj;rw[ahn,ahn,ahU]at h5;exact⟨kd,h2,h3,h5⟩
   have FZ:∀i (h:i<l.length),(f l[i]).length=size:=by
    intro i h;obtain⟨kd,h1,h2,_⟩:=gG i h 0 jb;rw[h1.1,h2]
   refine .slice .view (l.map mk) b off cap size (λk=>(w.cell? ⟨b,off+k,none⟩).getD undef) (by rw[<-DG];exact Uw) (λh=>by cases h) (λi h=>by rw[zh];exact FZ _ _) (λi h j hj=>?_) (λk hk=>⟨trivial,?_⟩) (λi h j hj=>?_)
   .have cD:i<l.length:=by simpa using h
    have fj:j<(f l[i]).length:=by rw[zh]at hj;exact hj
    have Mw:j<size:=by rw[FZ]at fj;exact fj
    obtain⟨kd,h1,h2,_⟩:=gG i cD j Mw
    have e:((l.map mk)[i]).cells[j]=(f l[i])[j]:=by simp only[zh]
    rw[e];exact(h1.2 j fj (by omega)).1
   .have ee:k<l.length*size:=by simpa using hk
    have hi:k/size<l.length:=ahF (by rw[ag6];exact ee);have hj:k % size<size:=aio _ jb;obtain⟨kd,h1,h2,h3⟩:=gG (k/size) hi (k % size) hj
    have e:k/size*size+k % size=k:=by rw[ag6];exact aih k size
    rw[e,ae9 (by omega)]at h3;rw[h3];rfl
   .have cD:i<l.length:=by simpa using h
    have fj:j<(f l[i]).length:=by rw[zh]at hj;exact hj
    have Mw:j<size:=by rw[FZ]at fj;exact fj
    obtain⟨kd,h1,h2,h3⟩:=gG i cD j Mw;rw[ae9 (by omega)]at h3
    have e:((l.map mk)[i]).cells[j]=(f l[i])[j]:=by simp only[zh]
    rw[e,h3];exact(h1.2 j fj (by omega)).2
def fieldsOf:TypeDesc->Option (List (TypeId×Nat))
 |.struct fs=>some (fs.toList.map λf=>(f.type,f.offset))
 |_=>none
theorem im {t:TypeId} {rR:List (TypeId×Nat)} (hf:(prog.underlying t).bind fieldsOf=some rR) {fuel:Nat} {cs:List Value} {x:DataW H×List MemPlace} (h:DataW.trod enc prog w 0 (fun _=>true) held fuel t cs=some x) :
  cs.length=prog.cellsOf t/\∀(i t' o:Nat),rR[i]?=some (t',o)->∃n x',DataW.trod enc prog w 0 (λ_=>true) held n t' ((cs.drop o).take (prog.cellsOf t'))=some x':=by
 cases hu:prog.underlying t with
 |none=>rw[hu]at hf;cases hf
 |some d=>
  rw[hu]at hf
  cases d<;>first|(cases hf;done)|skip
  rename_i fs;simp only[Option.bind_some,fieldsOf,agk]at hf;obtain⟨xs,n,_,_,hl,A5,fX⟩:=DataW.trod_struct hu h;refine⟨hl,λi t' o hi=>?_⟩;rw[<-hf,afG,afX]at hi;obtain⟨f,Me,e⟩:=hi;cases e
  have J3:fs[i]?=some f:=by rw[<-ahG];exact Me
  have:=fX i f J3;have aw:i<fs.size:=(afe.1 J3).1;rw[ae9 (by omega)]at this;exact⟨n,_,this⟩
theorem kM.append{l1 l2:List AV}{c1 c2:List Value}(h1:kM w l1 c1)(h2:kM w l2 c2):kM w (l1++l2) (c1++c2):=by
 refine⟨by simp[h1.1,h2.1],λi h h'=>?_⟩
 by_cases hi:i<l1.length
 .rw[afz hi,afz (by rw[<-h1.1];exact hi)];exact h1.2 i hi _
 .rw[af2 (by omega),af2 (by rw[<-h1.1];omega)];have:=h1.1;simp only[this];exact h2.2 _ _ _
def qN(p:iZ):Prop:=jg p.l/\jg p.r/\jg p.lo/\jg p.hi
def qJ(w:Word):Prop:=(∀n∈w.aG,jg n)/\∀n∈w.bD,jg n
structure tS(s:ar):Prop where
 aV:∀n∈s.aV,jg n
 aQ:∀p∈s.aQ,qN p
 gf:jg s.gf
 fY:jg s.fY
 j6:jg s.j6
 j5:jg s.j5
 cj:jg s.cj
 words:∀w∈s.words,qJ w
 wide:jg s.wide
 rows:jg s.rows
theorem FI:prog.cellsOf 3=1:=by kernel_rfl
theorem QZ:prog.cellsOf 4=1:=by kernel_rfl
theorem Ks:prog.cellsOf 23=1:=by kernel_rfl
theorem P_:prog.cellsOf 24=1:=by kernel_rfl
theorem CX:prog.cellsOf 26=2:=by kernel_rfl
theorem PI:prog.cellsOf 27=1:=by kernel_rfl
theorem Ky:prog.cellsOf 29=10:=by kernel_rfl
theorem KQ:prog.cellsOf 44=3:=by kernel_rfl
theorem GZ:prog.cellsOf 166=4:=by kernel_rfl
theorem u3:prog.underlying 3=some (.int .i64):=by kernel_rfl
theorem iC:iP enc w held 3 (λn:Int=>[.int .i64 n]) jg:=Bp u3
theorem sH:iP enc w held 23 (λl:List Int=>[vI l]) (λl=>∀n∈l,jg n):=
 kf (e:=3) (λn:Int=>.int .i64 n) (λ_=>rfl) (by kernel_rfl) (by rw[FI];omega) iC
theorem p9:iP enc w held 26 (λp:Int×Int=>[.int .i64 p.1,.int .i64 p.2]) (λp=>jg p.1/\jg p.2):=by
 intro fuel cs x h;obtain⟨hl,hf⟩:=im (rR:=[(3,0),(3,1)]) (by kernel_rfl) h;rw[CX]at hl
 match cs,hl with
 |[x0,x1],_=>
  obtain⟨_,_,h0⟩:=hf 0 3 0 rfl;obtain⟨_,_,h1⟩:=hf 1 3 1 rfl;rw[FI]at h0 h1;obtain⟨a,ga,ra⟩:=iC _ _ _ h0;obtain⟨b,gb,rb⟩:=iC _ _ _ h1;exact⟨(a,b),⟨ga,gb⟩,ra.append rb⟩
theorem DM:iP enc w held 166 (λp:iZ=>(cZ p).cells) qN:=by
 intro fuel cs x h;obtain⟨hl,hf⟩:=im (rR:=[(3,0),(3,1),(26,2)]) (by kernel_rfl) h;rw[GZ]at hl
 match cs,hl with
 |[x0,x1,x2,x3],_=>
  obtain⟨_,_,h0⟩:=hf 0 3 0 rfl;obtain⟨_,_,h1⟩:=hf 1 3 1 rfl;obtain⟨_,_,h2⟩:=hf 2 26 2 rfl;rw[FI]at h0 h1;rw[CX]at h2;obtain⟨a,ga,ra⟩:=iC _ _ _ h0;obtain⟨b,gb,rb⟩:=iC _ _ _ h1;obtain⟨c,gc,rc⟩:=p9 _ _ _ h2;exact⟨⟨a,b,c.1,c.2⟩,⟨ga,gb,gc.1,gc.2⟩,ra.append (rb.append rc)⟩
theorem FJ:iP enc w held 24 (λl:List iZ=>[.slice .view (l.map cZ)]) (λl=>∀p∈l,qN p):=
 kf (e:=166) cZ (λ_=>rfl) (by kernel_rfl) (by rw[GZ];omega) DM
theorem FB:iP enc w held 44 (λx:Word=>(bW x).cells) qJ:=by
 intro fuel cs x h;obtain⟨hl,hf⟩:=im (rR:=[(23,0),(23,1),(4,2)]) (by kernel_rfl) h;rw[KQ]at hl
 match cs,hl with
 |[x0,x1,x2],_=>
  obtain⟨_,_,h0⟩:=hf 0 23 0 rfl;obtain⟨_,_,h1⟩:=hf 1 23 1 rfl;obtain⟨_,_,h2⟩:=hf 2 4 2 rfl;rw[Ks]at h0 h1;rw[QZ]at h2;obtain⟨a,ga,ra⟩:=sH _ _ _ h0;obtain⟨b,gb,rb⟩:=sH _ _ _ h1;obtain⟨c,_,rc⟩:=rG (t:=4) (by kernel_rfl) _ _ _ h2;exact⟨⟨a,b,c⟩,⟨ga,gb⟩,ra.append (rb.append rc)⟩
theorem FG:iP enc w held 27 (λl:List Word=>[.slice .view (l.map bW)]) (λl=>∀x∈l,qJ x):=
 kf (e:=44) bW (λ_=>rfl) (by kernel_rfl) (by rw[KQ];omega) FB
theorem F7:iP enc w held 29 ae tS:=by
 intro fuel cs x h;obtain⟨hl,hf⟩:=im (rR:=[(23,0),(24,1),(26,2),(26,4),(3,6),(27,7),(3,8),(3,9)]) (by kernel_rfl) h;rw[Ky]at hl
 match cs,hl with
 |[x0,x1,x2,x3,x4,x5,x6,x7,x8,x9],_=>
  obtain⟨_,_,h0⟩:=hf 0 23 0 rfl;obtain⟨_,_,h1⟩:=hf 1 24 1 rfl;obtain⟨_,_,h2⟩:=hf 2 26 2 rfl;obtain⟨_,_,h3⟩:=hf 3 26 4 rfl;obtain⟨_,_,h4⟩:=hf 4 3 6 rfl;obtain⟨_,_,h5⟩:=hf 5 27 7 rfl;obtain⟨_,_,h6⟩:=hf 6 3 8 rfl;obtain⟨_,_,h7⟩:=hf 7 3 9 rfl;rw[Ks]at h0;rw[P_]at h1;rw[CX]at h2 h3;rw[FI]at h4 h6 h7;rw[PI]at h5;obtain⟨a0,g0,r0⟩:=sH _ _ _ h0;obtain⟨a1,g1,r1⟩:=FJ _ _ _ h1;obtain⟨a2,g2,r2⟩:=p9 _ _ _ h2;obtain⟨a3,g3,r3⟩:=p9 _ _ _ h3;obtain⟨a4,g4,r4⟩:=iC _ _ _ h4;obtain⟨a5,g5,r5⟩:=FG _ _ _ h5;obtain⟨a6,g6,r6⟩:=iC _ _ _ h6;obtain⟨a7,g7,r7⟩:=iC _ _ _ h7;exact⟨⟨a0,a1,a2.1,a2.2,a3.1,a3.2,a4,a5,a6,a7⟩,⟨g0,g1,g2.1,g2.2,g3.1,g3.2,g4,g5,g6,g7⟩,r0.append (r1.append (r2.append (r3.append (r4.append (r5.append (r6.append r7))))))⟩
def G9(s:aq):Prop:=jg s.pos/\jg s.reach/\jg s.dE/\jg s.c_/\tS s.name/\∀c∈s.cells,jg c.lo/\jg c.hi
theorem Kw:prog.cellsOf 52=3:=by kernel_rfl
theorem PL:prog.cellsOf 22=1:=by kernel_rfl
theorem Qs:prog.cellsOf 31=15:=by kernel_rfl
theorem E_:iP enc w held 52 (λc:jj=>(gy c).cells) (λc=>jg c.lo/\jg c.hi):=by
 intro fuel cs x h;obtain⟨hl,hf⟩:=im (rR:=[(26,0),(4,2)]) (by kernel_rfl) h;rw[Kw]at hl
 match cs,hl with
 |[x0,x1,x2],_=>
  obtain⟨_,_,h0⟩:=hf 0 26 0 rfl;obtain⟨_,_,h2⟩:=hf 1 4 2 rfl;rw[CX]at h0;rw[show prog.cellsOf 4=1 from QZ]at h2;obtain⟨a,ga,ra⟩:=p9 _ _ _ h0;obtain⟨c,_,rc⟩:=rG (t:=4) (by kernel_rfl) _ _ _ h2;exact⟨⟨a.1,a.2,c⟩,ga,ra.append rc⟩
theorem Gs:iP enc w held 22 (λl:List jj=>[.slice .view (l.map gy)]) (λl=>∀c∈l,jg c.lo/\jg c.hi):=
 kf (e:=52) gy (λ_=>rfl) (by kernel_rfl) (by rw[Kw];omega) E_
theorem GB:iP enc w held 31 ao G9:=by
 intro fuel cs x h;obtain⟨hl,hf⟩:=im (rR:=[(22,0),(3,1),(3,2),(3,3),(3,4),(29,5)]) (by kernel_rfl) h;rw[Qs]at hl
 match cs,hl with
 |[x0,x1,x2,x3,x4,x5,x6,x7,x8,x9,xa,xb,xc,xd,xe],_=>
  obtain⟨_,_,h0⟩:=hf 0 22 0 rfl;obtain⟨_,_,h1⟩:=hf 1 3 1 rfl;obtain⟨_,_,h2⟩:=hf 2 3 2 rfl;obtain⟨_,_,h3⟩:=hf 3 3 3 rfl;obtain⟨_,_,h4⟩:=hf 4 3 4 rfl;obtain⟨_,_,h5⟩:=hf 5 29 5 rfl;rw[PL]at h0;rw[FI]at h1 h2 h3 h4;rw[Ky]at h5;obtain⟨a0,g0,r0⟩:=Gs _ _ _ h0;obtain⟨a1,g1,r1⟩:=iC _ _ _ h1;obtain⟨a2,g2,r2⟩:=iC _ _ _ h2;obtain⟨a3,g3,r3⟩:=iC _ _ _ h3;obtain⟨a4,g4,r4⟩:=iC _ _ _ h4;obtain⟨a5,g5,r5⟩:=F7 _ _ _ h5;exact⟨⟨a0,a1,a2,a3,a4,a5⟩,⟨g1,g2,g3,g4,g5,g0⟩,r0.append (r1.append (r2.append (r3.append (r4.append r5))))⟩
theorem wX{d:DataW H}{ps:List MemPlace}{v:Value}{r:Reach}{base:Nat}(rl:Value.okWide prog w r base 31 v)(h:DataW.Trod enc prog w 0 (λ_=>true) held 31 v d ps):∃s:aq,G9 s/\RD T0 w (a_ s) v:=by
 obtain⟨fuel,hf⟩:=h;obtain⟨s,gs,hc⟩:=GB _ _ _ hf;refine⟨s,gs,?_⟩;obtain⟨fs,eQ⟩:=bV (P:=prog) (t:=31) (by kernel_rfl);obtain⟨cs,rfl,_⟩:=WideShapes.okWide_struct eQ rl;refine .agg _ _ (by simpa[Value.cells]using hc.1) (λi hi=>(hc.2 i hi (by rw[<-hc.1];exact hi)).1) (λi hi gq=>?_);have:=(hc.2 i hi (by rw[<-hc.1];exact hi)).2;simpa[Value.cells]using this
end
section
variable{H:Type}{enc:TypeId×Value->H}{w:World}{held:Bool}
theorem open_int{d:DataW H}{ps:List MemPlace}{v:Value}{r:Reach}{base:Nat}(rl:Value.okWide prog w r base 3 v)(h:DataW.Trod enc prog w 0 (λ_=>true) held 3 v d ps):∃n:Int,jg n/\RD T0 w (.int .i64 n) v:=by
 obtain⟨fuel,hf⟩:=h;obtain⟨n,gn,hc⟩:=iC _ _ _ hf;obtain⟨m,rfl⟩:=WideShapes.okWide_int u3 rl;refine⟨n,gn,?_⟩;have:=(hc.2 0 (by simp) (by simp[Value.cells])).2;simpa[Value.cells]using this
theorem Sh:prog.underlying 23=some (.slice 3):=by kernel_rfl
end
end Go.Proofs.Tryz
namespace Go.Proofs.YtdiflocclemeaaaGreatDoor
open Go Go.AL Go.ChangeShapes Go.WideShapes Go.ChangeAt Go.RowKit
theorem own:ownKnob Tryz.prog.godebug=none:=by kernel_rfl
theorem vy:laidOutB Tryz.prog=true:=by kernel_rfl
def GI(w:World):Prop:=∃m,w.cell? ⟨1,0,none⟩=some (.int .i64 m)
theorem Cg:au GI:=by
 rintro w w' ⟨m,hm⟩ hb;refine⟨m,?_⟩
 have h1:1<w.heap.size:=by
  unfold World.cell? at hm
  by_cases h:1<w.heap.size
  .exact h
  .have:w.heap[1]?=none:=by simp;omega
   simp[this]at hm
 unfold World.cell? at hm⊢;rw[hb.block 1 h1];exact hm
theorem MY{w:World}(h:w.ShapedOpen Tryz.prog):GI w:=
 cell_of_shapedOpen_int (g:=1) (t:=3) (zero:=#[.int .i64 0]) (k:=.i64) h (agE (by kernel_rfl)) (by kernel_rfl) rfl (by kernel_rfl) (by kernel_rfl) (by kernel_rfl)
abbrev mE:List (String×DataW Unit):=Rows.tramSetRow.laid
variable{H:Type}{enc:TypeId×Value->H}
theorem mM{w:World}{base:Nat}{spare:Nat->Bool}{held:Bool}:∀{ts:List TypeId}{vs:List Value}{ds:List (DataW H)}{ps:List MemPlace},DataW.TrodAll enc Tryz.prog w base spare held ts vs ds ps->ds.length=ts.length
 |[],[],[],_,_=>rfl
 |_::_,_::_,_::_,_,⟨_,_,_,h,_⟩=>congrArg (·+1) (mM h)
theorem nN {W W':World} (hb:Below W.heap.size W W'):∀ {ts:List TypeId} {vs:List Value} {ds:List (DataW H)} {ps:List MemPlace},(∀ t∈ts,Tryz.prog.readableRec t=true∧t < Tryz.prog.types.size) →
  DataW.TrodAll enc Tryz.prog W 0 (λ_=>true) true ts vs ds ps->(∀x∈ps,x.block<W.heap.size)->DataW.TrodAll enc Tryz.prog W' 0 (λb=>decide (b<W.heap.size)) true ts vs ds ps
 |[],[],[],_,_,h,_=>h
 |t::_,_::_,_::_,_,hr,⟨p,q,h1,h2,e⟩,aw=>by
  subst e;exact⟨p,q,Below.trod vy (hr t aft).1 (hr t aft).2 h1 hb (λx hx=>aw x (agX _ hx)),nN hb (λu hu=>hr u (afk _ hu)) h2 (λx hx=>aw x (aib _ hx)),rfl⟩
theorem Bs (f:FuncId) (fn:Func) (Lf:Tryz.checked.prog.funcs[f]? = some fn) (Je:Tryz.checked.prog.inits.idxOf? f=none) (OS:fn.resultTypes = #[4]) (spec:ChangeSpec) (G8:spec.vars=[])
  (BF:∀(ds:List (DataW H)),ds.length=fn.params.size->spec.fn H ds={ results:=[.lit (.bool true)],args:=ds })
  (jX:∀t∈fn.params.toList,Tryz.prog.readableRec t=true/\t<Tryz.prog.types.size)
  (os:Os) (started:os.Started) (mC:Array Value) (fuel:Nat)
  (cK:((World.laidAll Tryz.prog os mE).forCall (λ_ _=>0) ⟨#[],mC,[]⟩).Shaped Tryz.checked.prog)
  (eK:Input.okWideB Tryz.checked.prog ((World.laidAll Tryz.prog os mE).forCall (λ_ _=>0) ⟨#[],mC,[]⟩) f ⟨#[],mC,[]⟩=true)
  (J7:spec.preB enc Tryz.checked.prog fn [] false ((World.laidAll Tryz.prog os mE).forCall (λ_ _=>0) ⟨#[],mC,[]⟩).memory mC fuel=true)
  (bL:spec.sizedB enc Tryz.checked.prog fn false ((World.laidAll Tryz.prog os mE).forCall (λ_ _=>0) ⟨#[],mC,[]⟩).memory mC fuel=true)
  (hx:laidMetH Tryz.prog mE ((World.laidAll Tryz.prog os mE).forCall (λ_ _=>0) ⟨#[],mC,[]⟩).memory)
  (iN:∀(W:World)(base:Nat)(args:Array Value)(ds:List (DataW H))(p:List MemPlace),GI W->
   (∀(j:Nat) t v,fn.params[j]?=some t->args[j]?=some v->Value.okWide Tryz.prog W .any base t v)->
   DataW.TrodAll enc Tryz.prog W 0 (λ_=>true) true fn.params.toList args.toList ds p->
   Calls Tryz.prog f args W λe W'=>e=.returned (.bool true)/\Below W.heap.size W W'):
  ReturnsInHanded {} Tryz.checked os f .any (λw args=>(spec.pre enc Tryz.checked.prog fn [] false w args/\laidMetH Tryz.checked.prog mE w)/\sizedMet enc Tryz.checked.prog fn (OpenSpec.ofChange spec) false w args)
   (spec.post enc Tryz.checked.prog fn false true false false):=by
 refine returnsInHanded_of_calls (C:=Tryz.checked) own started Je
  (ChangeSpec.witness_shaped (enc:=enc) (C:=Tryz.checked) (os:=os) (X:=λw _=>laidMetH Tryz.prog mE w) false (World.laidAll Tryz.prog os mE) mC fuel (World.laidAll_os _ _ _) cK eK J7 bL hx) ?_
 intro w tape i _ LQ _ NQ hp _;obtain⟨_,_,_,Gr,QJ,_,_,_,_,rl⟩:=NQ;have e:Gr=fn:=afo (QJ.symm.trans Lf);subst e;obtain⟨⟨⟨ds,gs,before,hw,hc⟩,_⟩,hz⟩:=hp;have OQ:=DataW.Whole.of_heap (w':=w.forCall tape i) (by rfl) hw;have hW:=OQ;obtain⟨p,q,hA,hV,rfl,_,_⟩:=OQ
 have gP:gs=[]/\q=[]:=by
  rw[G8]at hV;obtain⟨rfl,rfl⟩:=trodVars_none hV;exact⟨rfl,rfl⟩
 obtain⟨rfl,rfl⟩:=gP;have MA:DataW.TrodAll enc Tryz.prog (w.forCall tape i) 0 (λ_=>true) true Gr.params.toList i.args.toList ds p:=hA
 have aw:∀x∈p,x.block<(w.forCall tape i).heap.size:=λx hx=>by simpa using hW.lt x (agX _ hx)
 refine(iN (w.forCall tape i) w.heap.size i.args ds p (MY LQ) rl MA).mono λe W' ⟨he,hb⟩=>?_
 subst he;show spec.post enc Tryz.checked.prog Gr false true false false (w.forCall tape i).blind i.args (.bool true) W'.blind;refine ChangeSpec.post_blind (?_:spec.post enc Tryz.checked.prog Gr false true false false (w.forCall tape i) i.args (.bool true) W')
 have Gp:ds.length=Gr.params.size:=by
  rw[mM MA];simp
 refine⟨ds,[],p++[],[],p,[],hW,?_,?_,?_,hb.frame _,λh=>by cases h⟩
 .rw[afL,BF ds Gp,OS];exact trodAll_mk1 (shut_bool (by kernel_rfl) _)
 .rw[afL,BF ds Gp];exact nN hb jX MA aw
 .rw[afL,BF ds Gp,G8]
  rfl
end Go.Proofs.YtdiflocclemeaaaGreatDoor
namespace Go.Proofs.YtdiflocclemeaaaGreatDoor
open Go Go.AL Go.ChangeShapes Go.WideShapes Go.ChangeAt Go.RowKit
def ch(l:List Nat):List Char:=l.map Char.ofNat
def w1:List Nat:=[104,97,114,110,101,115,115]
def w2:List Nat:=[54,52,48,57,100,55,57,99,57,51,56,56,56,49,50,53,56,99,102,54,99,48,49,97,52,98,98,98,53,98,57,100,97,57,53,99,102,102,101,56,57,98,102,54,57,56,52,52,99,49,102,54,101,51,55,98,52,54,51,52,56,49,53,56]
def w3:List Nat:=[99,117,116]
def w4:List Nat:=[97,116,32,109,97,104,108,115,116,105,99,107,47,109,97,104,108,115,116,105,99,107,108,97,119,48,57,46,84,114,97,109,83,101,116,32,109,97,104,108,115,116,105,99,107,47,109,97,104,108,115,116,105,99,107,108,97,119,48,57,46,84,114,97,109,86,105,101,119,101,100,32,109,97,104,108,115,116,105,99,107,47,109,97,104,108,115,116,105,99,107,108,97,119,48,57,46,84,114,97,109,83,101,101,115,32,109,97,104,108,115,116,105,99,107,47,109,97,104,108,115,116,105,99,107,108,97,119,48,57,46,84,114,97,109,87,111,114,100,115,32,109,97,104,108,115,116,105,99,107,47,109,97,104,108,115,116,105,99,107,108,97,119,48,57,46,84,114,97,109,84,114,117,101,32,109,97,104,108,115,116,105,99,107,47,109,97,104,108,115,116,105,99,107,108,97,119,48,57,46,84,114,97,109,83,116,111,112,115,32,109,97,104,108,115,116,105,99,107,47,109,97,104,108,115,116,105,99,107,108,97,119,48,57,46,84,114,97,109,87,97,105,116,101,100,32,109,97,104,108,115,116,105,99,107,47,109,97,104,108,115,116,105,99,107,108,97,119,48,57,46,84,114,97,109,70,97,114,115,32,109,97,104,108,115,116,105,99,107,47,109,97,104,108,115,116,105,99,107,108,97,119,48,57,46,84,114,97,109,80,97,99,101,100,32,109,97,104,108,115,116,105,99,107,47,109,97,104,108,115,116,105,99,107,108,97,119,48,57,46,84,114,97,109,72,97,110,103,115,32,109,97,104,108,115,116,105,99,107,47,109,97,104,108,115,116,105,99,107,108,97,119,48,57,46,84,114,97,109,72,117,110,103,32,109,97,104,108,115,116,105,99,107,47,109,97,104,108,115,116,105,99,107,108,97,119,48,57,46,84,114,97,109,76,101,97,118,101,115,32,109,97,104,108,115,116,105,99,107,47,109,97,104,108,115,116,105,99,107,108,97,119,48,57,46,84,114,97,109,77,111,114,101,32,109,97,104,108,115,116,105,99,107,47,109,97,104,108,115,116,105,99,107,108,97,119,48,57,46,84,114,97,109,78,101,101,100,115,32,109,97,104,108,115,116,105,99,107,47,109,97,104,108,115,116,105,99,107,108,97,119,48,57,46,84,114,97,109,80,114,105,110,116,115,32,109,97,104,108,115,116,105,99,107,47,109,97,104,108,115,116,105,99,107,108,97,119,48,57,46,84,114,97,109,82,101,97,100,115,32,109,97,104,108,115,116,105,99,107,47,109,97,104,108,115,116,105,99,107,108,97,119,48,57,46,84,114,97,109,83,112,111,105,108,116,32,109,97,104,108,115,116,105,99,107,47,109,97,104,108,115,116,105,99,107,108,97,119,48,57,46,84,114,97,109,76,101,102,116]
theorem lu:∀{a b:List Char},(a.all λc=>c !=Char.ofNat 32)=true->wordsSigns (a++Char.ofNat 32::b)=a::wordsSigns b
 |[],b,_=>rfl
 |c::a,b,h=>by
  simp only[List.all_cons,afa,ah9]at h;have ih:=lu (b:=b) h.2;show wordsSigns (c::(a++Char.ofNat 32::b))=_
  conv=>lhs;unfold wordsSigns
  split
  .rename_i e;cases e
  .rename_i e;cases e;exact absurd rfl h.1
  .rename_i e;cases e;rw[ih]
theorem head_eq:Tryz.prog.initOrder=String.ofList (ch w1++Char.ofNat 32::(ch w2++Char.ofNat 32::(ch w3++Char.ofNat 32::ch w4))):=by kernel_rfl
theorem sc:wordsSigns Tryz.prog.initOrder.toList=ch w1::ch w2::ch w3::wordsSigns (ch w4):=by
 rw[head_eq,ag1,lu (by kernel_rfl),lu (by kernel_rfl),lu (by kernel_rfl)]
theorem MJ:ch w2 = "6409d79c938881258cf6c01a4bbb5b9da95cffe89bf69844c1f6e37b46348158".toList:=by
 have : "6409d79c938881258cf6c01a4bbb5b9da95cffe89bf69844c1f6e37b46348158" = String.ofList (ch w2):=by kernel_rfl
 rw[this,ag1]
theorem tl(s:String)(l:List Nat)(h:s=String.ofList (ch l)):s.toList=ch l:=by rw[h,ag1]
theorem rB : "harness".toList=ch [104,97,114,110,101,115,115]:=tl _ _ (by kernel_rfl)
theorem Ad : "ownmain".toList=ch [111,119,110,109,97,105,110]:=tl _ _ (by kernel_rfl)
theorem By : "gc".toList=ch [103,99]:=tl _ _ (by kernel_rfl)
theorem zo : "spec".toList=ch [115,112,101,99]:=tl _ _ (by kernel_rfl)
theorem F5 : "stop".toList=ch [115,116,111,112]:=tl _ _ (by kernel_rfl)
theorem nr : "carried".toList=ch [99,97,114,114,105,101,100]:=tl _ _ (by kernel_rfl)
theorem sR : "cut".toList=ch [99,117,116]:=tl _ _ (by kernel_rfl)
theorem uk : "finals".toList=ch [102,105,110,97,108,115]:=tl _ _ (by kernel_rfl)
theorem sn : "reflectrows".toList=ch [114,101,102,108,101,99,116,114,111,119,115]:=tl _ _ (by kernel_rfl)
theorem wP : "leanrows".toList=ch [108,101,97,110,114,111,119,115]:=tl _ _ (by kernel_rfl)
theorem xI : "onebuild".toList=ch [111,110,101,98,117,105,108,100]:=tl _ _ (by kernel_rfl)
theorem ug : "publicsums".toList=ch [112,117,98,108,105,99,115,117,109,115]:=tl _ _ (by kernel_rfl)
theorem zZ : "eqguard".toList=ch [101,113,103,117,97,114,100]:=tl _ _ (by kernel_rfl)
theorem uT : "ownunsafe".toList=ch [111,119,110,117,110,115,97,102,101]:=tl _ _ (by kernel_rfl)
theorem uQ : "libbeside".toList=ch [108,105,98,98,101,115,105,100,101]:=tl _ _ (by kernel_rfl)
theorem uM : "ownbeside".toList=ch [111,119,110,98,101,115,105,100,101]:=tl _ _ (by kernel_rfl)
theorem t_ : "reflbeside".toList=ch [114,101,102,108,98,101,115,105,100,101]:=tl _ _ (by kernel_rfl)
theorem zf : "aliases".toList=ch [97,108,105,97,115,101,115]:=tl _ _ (by kernel_rfl)
theorem uS : "afterinit".toList=ch [97,102,116,101,114,105,110,105,116]:=tl _ _ (by kernel_rfl)
theorem xk : "crcplain".toList=ch [99,114,99,112,108,97,105,110]:=tl _ _ (by kernel_rfl)
theorem tZ : "roadunsafe".toList=ch [114,111,97,100,117,110,115,97,102,101]:=tl _ _ (by kernel_rfl)
theorem u9 : "fmthandon".toList=ch [102,109,116,104,97,110,100,111,110]:=tl _ _ (by kernel_rfl)
theorem Av:isSumSigns (ch w2)=true:=by kernel_rfl
def sI(ws:List (List Char)):Option (Bool×List Char):=match ws with
 |h::s::_=>if !isSumSigns s then none else if h == "harness".toList then some (true,s) else if h == "ownmain".toList then some (false,s) else none
 |_=>none
theorem Ce(P:Program):P.mainIs=sI (wordsSigns P.initOrder.toList):=rfl
theorem Bn(R:List (List Char)):sI (ch w1::ch w2::ch w3::R)=some (true,ch w2):=by
 simp only[sI,Av,rB]
 rfl
theorem DN:Tryz.prog.mainIs=some (true,ch w2):=(Ce _).trans ((congrArg sI sc).trans (Bn _))
theorem Bw(R:List (List Char)):behindMainWord (ch w1::ch w2::R)=R:=by
 simp only[behindMainWord,Av,rB,Ad]
 rfl
theorem n9:behindMainWord (wordsSigns Tryz.prog.initOrder.toList)=ch w3::wordsSigns (ch w4):=(congrArg behindMainWord sc).trans (Bw _)
theorem zQ(R:List (List Char)):stripLifts liftWords (ch w3::R)=([],ch w3::R):=by
 unfold liftWords;simp only[stripLifts,uk,sn,wP,xI,ug,zZ,uT,uQ,uM,t_,zf,uS,xk,tZ,u9]
 rfl
def sJ (ws:List (List Char)):List String:=if (stripLifts liftWords ws).2.head? == some "cut".toList then (stripLifts liftWords ws).1 else []
theorem vc(P:Program):P.headLifts=sJ (behindMainWord (wordsSigns P.initOrder.toList)):=rfl
theorem Bm(R:List (List Char)):sJ (ch w3::R)=[]:=by
 simp only[sJ,zQ,sR]
 rfl
theorem qq:Tryz.prog.headLifts=[]:=(vc _).trans ((congrArg sJ n9).trans (Bm _))
theorem Cd{P:Program}{R:List (List Char)}(h:behindMainWord (wordsSigns P.initOrder.toList)=ch w3::R)(hl:P.headLifts=[]):P.make=some .cut:=by
 unfold Program.make;rw[h];simp only[sR,By,zo,uk,nr,hl]
 rfl
theorem Ik:Tryz.prog.make=some .cut:=Cd n9 qq
theorem tJ{P:Program}{R:List (List Char)}(h:behindMainWord (wordsSigns P.initOrder.toList)=ch w3::R)(hl:P.headLifts=[]):P.liftsFinal=false:=by
 unfold Program.liftsFinal;simp only[h,sR,By,nr,hl]
 rfl
theorem va:Tryz.prog.liftsFinal=false:=tJ n9 qq
theorem w_:Tryz.prog.laysLater=false:=by kernel_rfl
theorem so:Tryz.prog.bearsReflect=false:=by kernel_rfl
theorem Ao:Tryz.prog.doorFits []=true:=by kernel_rfl
theorem xj{P:Program}{R:List (List Char)}(h:behindMainWord (wordsSigns P.initOrder.toList)=ch w3::R)(h1:P.laysLater=false)(h2:P.bearsReflect=false)(h3:P.doorFits []=true):P.mayEnter=true:=by
 unfold Program.mayEnter;rw[h];simp only[zQ,sR,By,nr,zo,F5,h1,h2,h3]
 rfl
theorem Ar:Tryz.prog.mayEnter=true:=xj n9 w_ so Ao
end Go.Proofs.YtdiflocclemeaaaGreatDoor
namespace Go.Proofs.Tryz
open Go Go.AL Go.RowKit Go.Proofs Go.Proofs.Tram
attribute [local simp] dh eE dY dv dK dj di cQ cT dL cP ct fF fE aD aL ev aT.S aT.H bu av aY AL.start AV.cells AV.storable AV.cg bo cE dI ck HR.okB post cw cH cI AV.out AV.bU b_ df fz iA AV.vw du vI int cG aP cV db fQ iu fV eG da AV.aI AV.cm
variable{GI:World->Prop}
theorem Qe(hG:au GI)(s:aq)(hs:er s):AC prog GI 40 [a_ s] (.ret (.d_ (pt s))):=by
 have jW:=mK hG s hs;have gJ:=tV hG s hs
 rcases gx s with⟨hI,es,dQ,ho⟩|⟨e,he,ho,sr⟩
 .rw[ho]at gJ;have hg:=eo hI;have hc:=hg.cells
  have Bk:pt s=if(cL s).isEmpty then[.int .i64 0,.int .i64 0,.int .i64 5]else(match B' s (aR s es)with|some q=>[.int .i64 (q.1:Nat),.int .i64 (q.2:Nat),.int .i64 0]|none=>[]):=by unfold pt;rw[if_pos hI,dQ]<;>rfl
  rw[Bk];have hn:=gX hg (fp hg.name dQ);have hp:=yV hg es
  have hle:(aR s es).sum<=400:=by
   have hb:∀x∈aR s es,x<=81:=λx hx=>by
    obtain⟨i,hi,rfl⟩:=afp.1 hx
    exact(se hg (fp hg.name dQ) (by
     rw[eT (afE.1 hi)]
     exact(jK hg.name (ae_ _)).rz)).2
   have h1:=uf hb (by decide)
   have h2:(aR s es).length<=4:=by
    have:=(dP hg.name).words;simp[aR];omega
   omega
  generalize aR s es=an at gJ hn hp hle⊢;have h0:=iX hp;have Af:=Gb hG an (by omega) hn.1
  obtain⟨most,wK⟩:∃most,an.sum.toNat=most:=⟨_,rfl⟩
  have rT:an.sum=(most:Nat):=by omega
  rw[rT]at Af
  have A3:most<=400:=by omega
  have V0:(ao s).map AV.cm=ao s:=by simp[ao,ae,AV.cm,vI]
  have P9:(aX s an).map AV.cm=aX s an:=by simp[aX,ao,ae,AV.cm,vI]
  have Ru:∀i:Nat,i<s.cells.length->AC prog GI 103 [.int .i64 ((most+1:Nat):Int),.func (.func 104) [] [.ref (ao s),.ref [.int .i64 (i:Nat)],.ref (aX s an)]] (.ret (.int .i64 (eM s an i:Nat))):=λi hi=>by
   have:=NM hG (n:=most+1) (by omega) 104 (ao s) [.int .i64 (i:Nat)] (aX s an) (by kernel_rfl) (Bc hg hp i) (λy hy=>LH hG s hg an hn hi (n:=y) (by omega)) (tq (kH s an i) (most+1));unfold eM;rw[wK];exact this
  have Ax:=E6 hG s;have mF:=KC hG s (ps:=cL s) (by have:=q' s;omega) (Bf hG s hg);have mF:=AC.g_ (o:=if(cL s).isEmpty then .nil else .view) mF;unfold B';rw[wK];refine bP hG func40 ntmps40 c40 ?_;refine az (λS H=>S 1=.box 1 0/\H 1=some (ao s)) (by simp[a_,ao,ae]) ?_;rintro S H ⟨s1,h1⟩;refine az (λS H=>S 1=.box 1 0/\H 1=some (ao s)/\S 5=.box 5 0/\H 5=some (aX s an)/\S 6=.int .i64 0) ?_ ?_
  .simp[s1,h1,ao,ae];refine oc jW ?_;simp;refine oc gJ ?_;simp[s1,h1,cb,aX,ao,ae,bC]
  clear s1 h1 S H;rintro S H ⟨s1,h1,s5,h5,s6⟩;refine az (λS H=>S 1=.box 1 0/\H 1=some (ao s)/\S 5=.box 5 0/\H 5=some (aX s an)) (by simp[s1,h1,s5,h5,s6]) ?_;clear s1 h1 s5 h5 s6 S H;rintro S H ⟨s1,h1,s5,h5⟩;refine az (λS H=>S 1=.box 1 0/\H 1=some (ao s)/\S 5=.box 5 0/\H 5=some (aX s an)/\S 7=.int .i64 (most:Nat)) ?_ ?_
  .simp[s1,h1,s5,h5,aX,ao,ae];refine oc Af ?_;simp[s1,h1,s5,h5,aX,ao,ae]
  clear s1 h1 s5 h5 S H;rintro S H ⟨s1,h1,s5,h5,s7⟩;refine az (λS H=>S 1=.box 1 0/\H 1=some (ao s)/\S 5=.box 5 0/\H 5=some (aX s an)/\S 7=.int .i64 (most:Nat)/\S 8=.slice .nil []) (by simp[s1,h1,s5,h5,s7]) ?_;clear s1 h1 s5 h5 s7 S H;rintro S H ⟨s1,h1,s5,h5,s7,s8⟩;refine az (λS H=>S 1=.box 1 0/\H 1=some (ao s)/\S 8=grow 132 (aH ((eg (eM s an) most s.cells.length).map bX))) ?_ ?_
  .refine az (λS H=>S 1=.box 1 0/\H 1=some (ao s)/\S 5=.box 5 0/\H 5=some (aX s an)/\S 7=.int .i64 (most:Nat)/\S 8=.slice .nil []/\S 27=.int .i64 s.cells.length/\S 28=.int .i64 ((0:Nat):Int)) (by simp[s1,h1,s5,h5,s7,s8,ao,ae]) ?_;clear s1 h1 s5 h5 s7 s8 S H;rintro S H ⟨s1,h1,s5,h5,s7,s8,lY,sg⟩;refine bq 28 s.cells.length (λi S H=>S 1=.box 1 0/\H 1=some (ao s)/\S 5=.box 5 0/\H 5=some (aX s an)/\S 7=.int .i64 (most:Nat)/\S 8=grow 132 (aH ((eg (eM s an) most i).map bX))/\S 27=.int .i64 s.cells.length/\S 28=.int .i64 (i:Nat)) (λi S H h=>h.2.2.2.2.2.2.2) ⟨s1,h1,s5,h5,s7,by rw[s8]<;>rfl,lY,sg⟩ ?_;clear s1 h1 s5 h5 s7 s8 lY sg S H;rintro i hi S H ⟨s1,h1,s5,h5,s7,s8,lY,sg⟩
   by_cases aw:i<s.cells.length
   case neg=>
    have cD:i=s.cells.length:=by omega
    subst cD;simp[s1,h1,s5,h5,s7,s8,lY,sg]
   have hw:IntKind.i64.wrap ((i:Int)+1)=i+1:=aN (by omega)
   have fL:IntKind.i64.wrap ((most:Int)+1)=((most+1:Nat):Int):=by rw[aN (by omega)];omega
   have kZ:=yc (eM s an) most i
   have hlen:(aH ((eg (eM s an) most i).map bX)).length<=i:=by
    simp only[aH,afi];have:=ahk (λk=>if eM s an k<=most then some (k,eM s an k)else none) (List.range i);simpa[eg]using this
   have eK:=nA ((eg (eM s an) most i).map bX);have hh:=Ru i aw
   have Nl:((most+1:Nat):Int)=(most:Int)+1:=by omega
   rw[Nl]at hh fL;simp[s1,h1,s5,h5,s7,s8,lY,sg,aw,fL,V0,P9];refine⟨_,by kernel_rfl,hh,λ_=>rfl,?_⟩
   by_cases CA:eM s an i<=most
   .rw[if_pos CA]at kZ
    have hE:aH ((eg (eM s an) most (i+1)).map bX)=aH ((eg (eM s an) most i).map bX)++[.agg [.int .i64 (i:Nat),.int .i64 (eM s an i:Nat)]]:=by
     rw[kZ,afu];unfold aH
     rw[afu]<;>rfl
    rw[hE];have k3:aM 2 [AV.agg [.int .i64 (i:Nat),.int .i64 (eM s an i:Nat)]]=true:=rfl;generalize aH ((eg (eM s an) most i).map bX)=L at s8 hlen eK⊢
    cases L with
    |nil=>
     have ox:grow 132 []=.slice .nil []:=rfl;simp[s1,h1,s5,h5,s7,s8,lY,sg,CA,ox,hw,bC,k3]
     try rfl
    |cons y L=>
     have ox:grow 132 (y::L)=.slice (.own 132) (y::L):=rfl
     have F0:∀z,grow 132 (y::(L++[z]))=.slice (.own 132) (y::(L++[z])):=λ_=>rfl
     have pB:L.length+1+1<1048576:=by simp at hlen;omega
     simp[s1,h1,s5,h5,s7,s8,lY,sg,CA,ox,F0,hw,bC,k3,eK,pB]
   .rw[if_neg CA,afL]at kZ;rw[kZ]
    have Jf:∀L,grow 132 L=.slice (if L=[]then .nil else .own 132) L:=λ_=>rfl
    simp[s1,h1,s5,h5,s7,s8,lY,sg,CA,hw,Jf]
  .clear s1 h1 s5 h5 s7 s8 S H;rintro S H ⟨s1,h1,s8⟩
   cases hv:(cL s).isEmpty with
   |true=>
    have Dn:cL s=[]:=by simpa using hv
    rw[Dn]at mF;simp[s1,h1,ao,ae];refine oc Ax ?_;simp;refine⟨_,by kernel_rfl,mF,by simp[du,sx],?_⟩;simp
   |false=>
    have Dn:cL s≠[]:=by intro h;rw[h]at hv;cases hv
    have AN:(((cL s).length:Int)==0)=false:=by
     have:(cL s).length≠0:=λh=>Dn (afR h)
     rw[afN];omega
    obtain⟨c,q1,q2⟩:=BA hg hp hv;rw[wK]at q2;obtain⟨x,l,A5⟩:=B4 (p:=kH s an) (f:=eM s an) (most:=most) (m:=s.cells.length) (λj _=>by unfold eM;rw[wK];exact tq _ _) q1 (afg _) q2
    have j4:=Mo hG (bX x) (l.map bX) (by
     have h1:=congrArg List.length A5;have:=ahk (λk=>if eM s an k<=most then some (k,eM s an k)else none) (List.range s.cells.length);simp[eg]at h1 this
     simp;omega)
    rw[qk]at j4
    have fX:bX x::l.map bX=(eg (eM s an) most s.cells.length).map bX:=by rw[A5]<;>rfl
    have ry:grow 132 (aH ((eg (eM s an) most s.cells.length).map bX))=.slice (.own 132) (aH ((eg (eM s an) most s.cells.length).map bX)):=by rw[A5]<;>rfl
    rw[ry]at s8;rw[fX]at j4;rw[A5];generalize aH ((eg (eM s an) most s.cells.length).map bX)=L at s8 j4
    obtain⟨q,hq⟩:∃q,lT x l=q:=⟨_,rfl⟩
    rw[hq]at j4;simp[s1,h1,s8,ao,ae];refine oc Ax ?_;simp[s8];refine⟨_,by kernel_rfl,mF,by simp[du,sx],?_⟩;simp[s8,Dn,AN,aH];refine oc j4 ?_;simp[aS,bX,bC,hq]
 .rw[ho]at gJ
  have sj:pt s=[.int .i64 0,.int .i64 0,.int .i64 e]:=by
   rcases nH s e he ho with⟨h1,rfl⟩|⟨h1,h2,rfl⟩
   .simp[pt,h1]
   .simp[pt,h1,h2]
  rw[sj]
  have jI:(e !=0)=true:=by simpa using he
  refine bP hG func40 ntmps40 c40 ?_;simp[c40,a_,ao,ae];refine oc jW ?_;simp;refine oc gJ ?_;simp[cb,aX,ao,ae,zT,bC,he,jI]
end Go.Proofs.Tryz
namespace Go.Proofs.Tryz
open Go Go.AL Go.RowKit Go.Proofs Go.Proofs.Tram
attribute [local simp] dh eE pG nJ dK dj di cQ cT dL cP ct fF fE aD aL ev aT.S aT.H bu av aY AL.start AV.cells AV.storable AV.cg bo cE dI ck HR.okB post cw cH cI AV.out AV.bU b_ df fz iA AV.vw du vI int cG aP cV db fQ iu fV eG da AV.aI AV.cm
variable{GI:World->Prop}
def Qq(n:Int):Prop:=0<=n/\n<100
def Nu(l:List Int):Prop:=∀n∈l,Qq n
theorem NI(hG:au GI)(l:List Int)(h0:l≠[])(hl:l.length<1000)(h:Nu l):AC prog GI 279 [vI l] (.ret (.slice (.own 9) ((l.map jC).map .str))):=by
 refine AC.gY func279 rfl ntmps279 (by simp) λcc w=>?_
 refine dw hG c279.qa (λS' H'=>S' 0=vI l) (by simp[c279,af.qa,ai,ah]) ?_;rintro S1 H1 s0;refine dw hG c279.qb.qa (λS' H'=>S' 0=vI l/\S' 3=.slice .nil []) (by simp[c279,af.qa,af.qb,s0,ai,ah]) ?_;rintro S2 H2 ⟨s0,s3⟩;refine dw hG c279.qb.qb.qa (λS' H'=>S' 3=grow 9 ((l.map jC).map AV.str)) ?_ ?_
 .simp[c279,af.qa,af.qb,s0,s3,ai,ah];refine bq 8 l.length (λi S H=>S 6=vI l/\S 7=.int .i64 (l.length:Nat)/\S 8=.int .i64 (i:Nat)/\S 3=grow 9 (((l.take i).map jC).map AV.str)) (λi S H h=>h.2.2.1) ⟨by simp[s0,ai,ah],by simp[s0,ai,ah],by simp[ai,ah],by simp[s3,grow,ai,ah]⟩ ?_;clear s0 s3;rintro i hi S H ⟨s6,s7,s8,s3⟩
  by_cases aw:i<l.length
  case neg=>
   have cD:i=l.length:=by omega
   subst cD;rw[afh (afg _)]at s3;simp[s6,s7,s8,s3,grow,h0,ai,ah]
  have hw:IntKind.i64.wrap ((i:Int)+1)=i+1:=aN (by omega);have hn:=h _ (ae_ aw);have a157:=sQ (GI:=GI) hn.1 hn.2
  have ht:(l.take (i+1)).map jC=(l.take i).map jC++[jC l[i]]:=by
   rw[afd aw,afu]<;>rfl
  have hlen:((l.take i).map jC).length<=1000:=by simp;omega
  rw[ht]
  generalize(l.take i).map jC=B at*
  generalize jC l[i]=t at*
  have dM:aM 1 [AV.str t]=true:=rfl;simp[s6,s7,s8,s3,aw];refine oc a157 ?_;simp[s6,s7,s8,s3,dM];refine fe (B.map AV.str) (AV.str t) (.own 9) (by simp[s3,grow]) (by simp) dM (Gm B) (by rw[afi];omega) ?_;intro S' sd ee;simp[sd,ee,s6,s7,s8,aw,hw,grow]
 clear s0 s3;rintro S3 H3 s3
 have hg:grow 9 ((l.map jC).map AV.str)=.slice (.own 9) ((l.map jC).map AV.str):=by unfold grow;rw[if_neg (by simpa using h0)]
 rw[hg]at s3;generalize(l.map jC).map AV.str=L at s3⊢;show SW prog GI 19 none (.seq (.region _ _ false) .ret) _ _ _ _
 refine SW.seq (SW.hand hG (p:=0) (lm:=[0,1]) (l2:=[]) (kY:=[]) (oh:=[_,_]) (lJ:=[]) rfl rfl rfl rfl (by kernel_rfl) (λ_ h=>h) (lM:=[]) (kP:=[]) rfl rfl rfl rfl
  (K1:=λS H=>S 3=.slice (.own 9) L) (K2:=λo S H=>o=Old.plain cc w/\S 2=.slice (.own 9) L) (K3:=λo S H=>o=Old.plain cc w/\S 2=.slice (.own 9) L) ?_ ?_ ?_ ?_)
 .exact s3
 .rintro w0 g S H a w' m dS ho R s6;have r6:=R.slot 3 (by decide) (λh=>h);rw[s6]at r6;have bL:=R.size
  obtain⟨c,hc⟩:∃c,a.tmps.getD 3 undef=c:=⟨_,rfl⟩
  rw[hc]at r6;have rv:RD g.Pr w' (.slice .view L) c:=(r6.j_ rfl).aI;refine aW rfl rfl (by rfl) ((run_move (x:=.tmp 3) w' rfl).trans (congrArg (λv=>Result.ok (Next.value v) w') hc)) ?_;have R1:=R.put 18 (.slice .view L) c (by decide) (.data _ _ rv) trivial
  have pk:(a.put (some 18) c).tmps.getD 18 undef=c:=by simp[Act.put,bL]
  refine aW rfl rfl (by rfl) ((run_assign (x:=.tmp 18) w' rfl).trans (congrArg (λv=>Result.ok (Next.value v) w') pk)) ?_;have R2:=R1.put 2 (.slice .view L) c (by decide) (.data _ _ rv) trivial
  have e4:((a.put (some 18) c).put (some 2) c).tmps.getD 2 undef=c:=by simp[Act.put,bL]
  have e6:((a.put (some 18) c).put (some 2) c).tmps.getD 3 undef=a.tmps.getD 3 undef:=by simp[Act.put,afb]
  obtain⟨g',q1,R3⟩:=R2.HE (t:=3) (u:=2) (e:=9) (es:=L) (by decide) (by decide) (by decide) (by simp[av,s6]) (by rw[e4,e6,hc]);exact⟨g',_,_,R3,by rw[q1];exact ho,bm _ _ _⟩
 .rintro o S H ⟨rfl,s4⟩;exact⟨λ_ h=>h,rfl,s4⟩
 .rintro o S H ⟨rfl,s4⟩;refine SW.ret ⟨eD.plain rfl,rfl,_,?_,rfl⟩;show cw prog 19 [.tmp 2] S H=_;simp[cw,cH,cI,s4,AV.bU,AV.out]
end Go.Proofs.Tryz
namespace Go.Proofs.YtdiflocclemeaaaGreatDoor
open Go Go.AL Go.ChangeShapes Go.WideShapes Go.ChangeAt Go.RowKit Go.Proofs.Tryz
theorem wL:mapsRowed Tryz.prog=true:=by kernel_rfl
theorem Gx:(Tryz.prog.stops==[])=true:=by kernel_rfl
theorem yh:(Tryz.prog.stopKnobs==[])=true:=by kernel_rfl
theorem xR:Tryz.prog.plainKeys=false:=by kernel_rfl
theorem ve:Tryz.prog.stopsHeard=true:=by kernel_rfl
theorem Gd:true=Tryz.prog.looks []:=by kernel_rfl
theorem Cc {f:FuncId} {fn:Func} {s:ChangeSpec} {c:OpenClaim}
  (h0:c.stops=[]/\c.knobs=[]/\c.plainKeys=false/\c.shortTexts=none/\c.lifted=false/\c.make=.cut)
  (h1:c.wf (OpenSpec.ofChange s)=true) (h2:fn.params.all (Tryz.prog.readableRec ·)=true) (h3:namedTie Tryz.prog c.named s.vars=true)
  (h4:(c.inPlace==Tryz.prog.inPlace f)=true) (h5:(c.unfollowed==Tryz.prog.unfollowed f)=true) (h6:(c.recurses==Tryz.prog.recurses f)=true) (h7:(c.named==Tryz.prog.varsNamed f)=true)
  (h8:((c.maps==(fn.params.toList++s.plain.varTypes Tryz.prog).any (Tryz.prog.mapsRec ·))&&(c.ifaces==(fn.params.toList++s.plain.varTypes Tryz.prog).any (Tryz.prog.ifacesRec ·))&&(c.mapsOut==Tryz.prog.mapsAmong fn.resultTypes.toList)&&
   (c.loops==(fn.params.toList++s.plain.varTypes Tryz.prog).any (Tryz.prog.loopsFrom ·))&&(c.wideKeys==(fn.params.toList++s.plain.varTypes Tryz.prog++fn.resultTypes.toList).any (Tryz.prog.wideKeysFrom ·))&&
   s.vars.all (Tryz.prog.varReadable ·)&&fn.resultTypes.all (λt=>Tryz.prog.readableRec t&&decide (t<Tryz.prog.types.size))&&(c.ifacesOut==fn.resultTypes.toList.any (Tryz.prog.ifacesRec ·))&&(c.loopsOut==fn.resultTypes.toList.any (Tryz.prog.loopsFrom ·)))=true)
  (h9:(c.kinds==(if c.domain.isEmpty then[]else fn.params.toList.map λt=>match Tryz.prog.underlying t with|some (.int k)=>some k|_=>none))=true) (l3:(c.pinned==c.pinnedBy)=true)
  (Gw:((c.veiled==(fn.params.toList++s.plain.varTypes Tryz.prog++fn.resultTypes.toList).any (Tryz.prog.veiledRec ·))&&c.veiledFits Tryz.prog fn.params.toList (fn.params.toList++s.plain.varTypes Tryz.prog++fn.resultTypes.toList))=true):
  joinedFacts Tryz.prog f fn s c=true:=by
 obtain⟨a1,a2,a3,a4,a5,a6⟩:=h0;unfold joinedFacts;simp only[afa]at h8 Gw⊢;obtain⟨⟨⟨⟨⟨⟨⟨⟨b1,b2⟩,b3⟩,b4⟩,b5⟩,b6⟩,b7⟩,b8⟩,b9⟩:=h8;refine⟨⟨⟨⟨⟨⟨⟨⟨⟨⟨⟨⟨⟨⟨⟨⟨⟨⟨⟨⟨⟨⟨⟨⟨⟨⟨⟨⟨⟨⟨⟨h1,vy⟩,wL⟩,h2⟩,h3⟩,?_⟩,Gx⟩,?_⟩,yh⟩,h4⟩,h5⟩,h6⟩,h7⟩,b1⟩,b2⟩,b3⟩,b4⟩,b5⟩,b6⟩,b7⟩,b8⟩,b9⟩,?_⟩,?_⟩,ve⟩,Ar⟩,?_⟩,?_⟩,h9⟩,l3⟩,Gw.1⟩,Gw.2⟩
 .rw[a1];rfl
 .rw[a2];rfl
 .rw[a3,xR];rfl
 .rw[a4];rfl
 .rw[a5,va];rfl
 .rw[Ik,a6];rfl
theorem DQ {G:World→Prop} {f:Nat} {Jg:List AV} {W:World} {args:Array Value} (h:AC Tryz.prog G f Jg (.ret (.bool true))) (hG:G W) (hl:Jg.length=args.size) (hr:∀ i (h:i < Jg.length) (h':i < args.size),RV T0 (fun _=>none) W Jg[i] args[i]) :
  Calls Tryz.prog f args W λe W'=>e=.returned (.bool true)/\Below W.heap.size W W':=by
 refine(h W T0 args hG hl hr).mono ?_;rintro e W' ⟨hb,hi,_,c,rfl,hv,_⟩
 cases hv with
 |data _ _ h=>cases h with
  |bool b=>exact⟨rfl,hb⟩
end Go.Proofs.YtdiflocclemeaaaGreatDoor
namespace Go.Proofs.Tryz
open Go Go.AL Go.RowKit Go.Proofs Go.Proofs.Tram
attribute [local simp] dh eE dY dv dK dj di cQ cT dL cP ct fF fE aD aL ev aT.S aT.H bu av aY AL.start AV.cells AV.storable AV.cg bo cE dI ck HR.okB post cw cH cI AV.out AV.bU b_ df fz iA AV.vw du vI int cG aP cV db fQ iu fV eG da AV.aI AV.cm
def bS:ar:=⟨[6,4,8],[⟨0,1,1,3⟩,⟨2,0,0,2⟩],2,4,5,8,3,[⟨[2,0,1],[],false⟩,⟨[0,2],[1],true⟩],18,2⟩
variable{GI:World->Prop}
theorem xX(hG:au GI)(a b:Int):AC prog GI 182 [.int .i64 a,.int .i64 b] (.ret (aS (a,b))):=by
 obtain⟨i33,G6,GQ⟩:=bh (P:=prog) (t:=26) (s:=2) (by kernel_rfl);obtain⟨fs,eQ⟩:=bV (P:=prog) (t:=26) (by kernel_rfl);refine bP hG func182 ntmps182 c182 ?_;simp[c182,G6,GQ,eQ,fg,aS,bC]
theorem LY(hG:au GI):AC prog GI 134 [] (.ret (bQ { bS with wide:=21 })):=by
 obtain⟨i36,l0,lZ⟩:=bh (P:=prog) (t:=29) (s:=10) (by kernel_rfl);obtain⟨fs,eQ⟩:=bV (P:=prog) (t:=29) (by kernel_rfl);refine bP hG func134 ntmps134 c134 ?_;simp[c134,aM];refine oc (xX hG 1 3) ?_;simp[aS,bC,aM];refine oc (xX hG 0 2) ?_;simp[aS,bC,aM];refine oc (xX hG 2 4) ?_;simp[aS,bC,aM];refine oc (xX hG 5 8) ?_;simp[aS,bC,aM,l0,lZ,eQ,fg,bQ,ae,bS,bW,cZ,ints]
end Go.Proofs.Tryz
namespace Go.Proofs.Tryz
open Go Go.AL Go.RowKit Go.Proofs Go.Proofs.Tram
attribute [local simp] dh eE dY dv dK dj di cQ cT dL cP ct fF fE aD aL ev aT.S aT.H bu av aY AL.start AV.cells AV.storable AV.cg bo cE dI ck HR.okB post cw cH cI AV.out AV.bU b_ df fz iA AV.vw du vI int cG aP cV db fQ iu fV eG da AV.aI AV.cm
variable{GI:World->Prop}
def iw:aq:=⟨[⟨2,3,false⟩,⟨2,2,false⟩,⟨1,2,true⟩,⟨3,4,false⟩,⟨2,5,false⟩,⟨1,1,false⟩],6,5,2,1,{ bS with wide:=21 }⟩
def tM:aq:={ iw with dE:=1 }
def qm:aq:={ iw with name:=⟨[5],[],0,0,0,0,1,[⟨[0,0,0,0],[1,3],false⟩],16,2⟩ }
theorem xz:nf qm=[vI [9],.int .i64 0]:=by kernel_rfl
theorem wU:vr iw=[.slice .view (aH [(1,1),(3,5)]),.int .i64 0]:=by kernel_rfl
theorem zb:oZ iw [3,2,2,4,5,1]=[.int .i64 2,.int .i64 0]:=by kernel_rfl
theorem Al:jE 0 iw=[.int .i64 1,.int .i64 0]:=by kernel_rfl
theorem AF:jE 1 qm=[.int .i64 1,.int .i64 0]:=by kernel_rfl
theorem Aw:mb iw 1=[.int .i64 2,.int .i64 0]:=by kernel_rfl
theorem zR:pt iw=[.int .i64 1,.int .i64 4,.int .i64 0]:=by kernel_rfl
theorem BH:vp tM=[.int .i64 3,.int .i64 0]:=by kernel_rfl
theorem At:oW iw=[.int .i64 1,.int .i64 0]:=by kernel_rfl
theorem An:oX tM=[.int .i64 4,.int .i64 2,.int .i64 0]:=by kernel_rfl
theorem mu:er iw:=⟨by decide,by decide,by decide,by decide,λw hw=>by
 simp[iw,bS]at hw;rcases hw with rfl|rfl<;>decide,λw hw=>by
 simp[iw,bS]at hw;rcases hw with rfl|rfl<;>decide⟩
theorem EW:er tM:=⟨mu.cells,mu.name⟩
theorem E':er qm:=⟨by decide,by decide,by decide,by decide,λw hw=>by
 simp[qm]at hw;subst hw;decide,λw hw=>by
 simp[qm]at hw;subst hw;decide⟩
theorem qW(hG:au GI)(lo hi:Int)(hid:Bool):AC prog GI 133 [.int .i64 lo,.int .i64 hi,.bool hid] (.ret (gy ⟨lo,hi,hid⟩)):=by
 obtain⟨i52,Qj,Rk⟩:=bh (P:=prog) (t:=52) (s:=3) (by kernel_rfl);obtain⟨fs,eQ⟩:=bV (P:=prog) (t:=52) (by kernel_rfl);refine bP hG func133 ntmps133 c133 ?_;simp[c133,Qj,Rk,eQ,fg,gy,bC]
theorem pc:∃it,prog.info? 31=some it/\it.size=15:=bh (by kernel_rfl)
theorem FP(hG:au GI):AC prog GI 74 [] (.ret (a_ iw)):=by
 obtain⟨i31,lz,lx⟩:=pc;obtain⟨fs,eQ⟩:=bV (P:=prog) (t:=31) (by kernel_rfl);refine bP hG func74 ntmps74 c74 ?_;simp[c74];refine oc (qW hG 2 3 false) ?_;simp[gy];refine oc (qW hG 2 2 false) ?_;simp[gy];refine oc (qW hG 1 2 true) ?_;simp[gy];refine oc (qW hG 3 4 false) ?_;simp[gy];refine oc (qW hG 2 5 false) ?_;simp[gy];refine oc (qW hG 1 1 false) ?_;simp[gy,aM];refine oc (LY hG) ?_;simp[gy,aM,bC,lz,lx,eQ,fg,a_,ao,bQ,ae,iw]
theorem O5(hG:au GI)(s:aq)(p:Int):AC prog GI 51 [a_ s,.int .i64 p] (.ret (a_ { s with dE:=p })):=by
 obtain⟨i31,lz,lx⟩:=pc;obtain⟨fs,eQ⟩:=bV (P:=prog) (t:=31) (by kernel_rfl);refine bP hG func51 ntmps51 c51 ?_;simp[c51,a_,ao,ae,lz,lx,eQ,fg,bC]
theorem adt(hG:au GI)(s:aq)(p:Int):AC prog GI 55 [a_ s,.int .i64 p] (.ret (a_ (kX s p))):=by
 obtain⟨i31,lz,lx⟩:=pc;obtain⟨fs,eQ⟩:=bV (P:=prog) (t:=31) (by kernel_rfl);refine bP hG func55 ntmps55 c55 ?_;simp[c55,kX,a_,ao,ae,lz,lx,eQ,fg,bC]
theorem Qy(hG:au GI):AC prog GI 75 [] (.ret (a_ tM)):=by
 obtain⟨i31,lz,lx⟩:=pc;obtain⟨fs,eQ⟩:=bV (P:=prog) (t:=31) (by kernel_rfl);have h:=O5 hG iw 1;refine bP hG func75 ntmps75 c75 ?_;simp[c75];refine oc (FP hG) ?_;simp[a_,ao,ae];refine oc h ?_;simp[lz,lx,eQ,fg,bC,a_,ao,ae,tM]
theorem Rw(hG:au GI):AC prog GI 73 [] (.ret (a_ qm)):=by
 obtain⟨i31,lz,lx⟩:=pc;obtain⟨fs,eQ⟩:=bV (P:=prog) (t:=31) (by kernel_rfl);refine bP hG func73 ntmps73 c73 ?_;simp[c73];refine oc (FP hG) ?_;simp[lz,lx,eQ,fg,bC,aM,a_,ao,ae,qm,bW,ints]
end Go.Proofs.Tryz
namespace Go.Proofs.Tryz
open Go Go.AL Go.RowKit Go.Proofs Go.Proofs.Tram
attribute [local simp] dh eE dY dv dK dj di cQ cT dL cP ct fF fE aD aL ev aT.S aT.H bu av aY AL.start AV.cells AV.storable AV.cg bo cE dI ck HR.okB post cw cH cI AV.out AV.bU b_ df fz iA AV.vw du vI int cG aP cV db fQ iu fV eG da
variable{GI:World->Prop}
def jt(s:aq)(out:List Int):aq:={ s with name:=vD s.name out }
theorem DU{s:aq}(hs:cq s=true){l:List Int}(ho:ec s.name l=true):cq (jt s l)=true:=by
 unfold cq at hs⊢;rw[afa]at hs⊢;exact⟨hs.1,zv hs.2 ho⟩
def rF(s:aq)(l:List Word):List AV:=[.slice .view (s.cells.map gy),.int .i64 s.pos,.int .i64 s.reach,.int .i64 s.dE,.int .i64 s.c_,vI s.name.aV,.slice .view (s.name.aQ.map cZ),.int .i64 s.name.gf,.int .i64 s.name.fY,.int .i64 s.name.j6,.int .i64 s.name.j5,.int .i64 s.name.cj,grow 44 (l.map bW),.int .i64 s.name.wide,.int .i64 s.name.rows]
theorem BL(l:List Word):aM 3 (l.map bW)=true:=fZ λa=>⟨rfl,rfl⟩
theorem Mc(hG:au GI)(s:aq)(hl:s.name.words.length<1000)(out:List Int)(ho:out.length<1000000):AC prog GI 160 [a_ s,vI out] (.ret (a_ (jt s out))):=by
 obtain⟨it,lz,lx⟩:=pc;obtain⟨fs,eQ⟩:=bV (P:=prog) (t:=31) (by kernel_rfl)
 have QM:=λi:Nat=>Cp (GI:=GI) hG out ho (i:Int)
 refine bP hG func160 ntmps160 c160 ?_;refine az (λS H=>S 1=vI out/\S 2=.box 2 0/\H 2=some (ao s)/\S 4=.box 4 0/\∃z,H 4=some z/\z.length=15) (by simp[a_,ao,ae,AV.aI,AV.cm]) ?_;rintro S H ⟨s1,s2,h2,s4,z,h4,hz⟩;refine az (λS H=>S 1=vI out/\S 2=.box 2 0/\H 2=some (ao s)/\S 4=.box 4 0/\H 4=some z/\S 5=.box 5 0/\H 5=some (ao s)) (by simp[s1,s2,h2,s4,h4,ao,ae,AV.aI,AV.cm]) ?_;clear s1 s2 h2 s4 h4 S H;rintro S H ⟨s1,s2,h2,s4,h4,s5,h5⟩;refine az (λS H=>S 1=vI out/\S 2=.box 2 0/\H 2=some (ao s)/\S 4=.box 4 0/\H 4=some z/\S 5=.box 5 0/\H 5=some (rF s [])) (by simp[s1,s2,h2,s4,h4,s5,h5,ao,ae,rF,grow,AV.aI,AV.cm]) ?_;clear s1 s2 h2 s4 h4 s5 h5 S H;rintro S H ⟨s1,s2,h2,s4,h4,s5,h5⟩;refine az (λS H=>S 4=.box 4 0/\H 4=some z/\S 5=.box 5 0/\H 5=some (rF s (gv out 0 s.name.words))) ?_ ?_
 .simp[s1,s2,h2,s4,h4,s5,h5,ao,ae,AV.aI,AV.cm];refine bq 15 s.name.words.length (λi S H=>S 1=vI out/\S 13=.slice .view (s.name.words.map bW)/\S 14=.int .i64 s.name.words.length/\S 4=.box 4 0/\H 4=some z/\S 5=.box 5 0/\H 5=some (rF s (gv out 0 (s.name.words.take i)))/\S 15=.int .i64 (i:Nat)) (λi S H h=>h.2.2.2.2.2.2.2) ⟨by simp[s1,AV.aI,AV.cm],by simp[s1,h2,ao,ae,AV.aI,AV.cm],by simp[s1,h2,ao,ae,AV.aI,AV.cm],by simp[s4,AV.aI,AV.cm],by simp[h4,AV.aI,AV.cm],by simp[s5,AV.aI,AV.cm],by simp[h5,gv,AV.aI,AV.cm],by simp[AV.aI,AV.cm]⟩ ?_;clear s1 s2 h2 s4 h4 s5 h5 S H;rintro i hi S H ⟨s1,b0,cU,s4,h4,s5,h5,fq⟩
  by_cases aw:i<s.name.words.length
  case neg=>
   have cD:i=s.name.words.length:=by omega
   subst cD;rw[afh (afg _)]at h5;simp[s1,b0,cU,s4,h4,s5,h5,fq,AV.aI,AV.cm]
  have hw:IntKind.i64.wrap ((i:Int)+1)=i+1:=aN (by omega);have kR:=B8 out aw;have hle:=nZ out (s.name.words.take i) 0
  have vX:(gv out 0 (s.name.words.take i)).length<1000:=by rw[afJ]at hle;omega
  obtain⟨wd,np⟩:∃wd,s.name.words[i]=wd:=⟨_,rfl⟩
  have a198:=QM i;rw[kR]
  generalize gv out 0 (s.name.words.take i)=L at*
  refine az (λS H=>S 1=vI out/\S 13=.slice .view (s.name.words.map bW)/\S 14=.int .i64 s.name.words.length/\S 4=.box 4 0/\H 4=some z/\S 5=.box 5 0/\H 5=some (rF s L)/\S 15=.int .i64 (i:Nat)/\S 16=.bool true) (by simp[s1,b0,cU,s4,h4,s5,h5,fq,aw,AV.aI,AV.cm]) ?_;clear s1 b0 cU s4 h4 s5 h5 fq S H;rintro S H ⟨s1,b0,cU,s4,h4,s5,h5,fq,dR⟩
  cases hc:out.contains (i:Int)with
  |true=>
   rw[hc]at a198;simp[s1,b0,cU,s4,h4,s5,h5,fq,dR,aw,np,bW,AV.aI,AV.cm];refine oc a198 ?_;simp[s1,b0,cU,s4,h4,s5,h5,fq,dR,aw,np,bW,hw,AV.aI,AV.cm]
  |false=>
   rw[hc]at a198;simp[s1,b0,cU,s4,h4,s5,h5,fq,dR,aw,np,bW,AV.aI,AV.cm];refine oc a198 ?_;have eK:=BL L
   have hL:(L.map bW).length<1000:=by simpa using vX
   have e1:(L++[s.name.words[i]]).map bW=L.map bW++[bW wd]:=by rw[afu,np]<;>rfl
   have k3:aM 3 [AV.agg [.slice .view (ints wd.aG),.slice .view (ints wd.bD),.bool wd.free]]=true:=rfl;simp only[np]at e1;simp[rF,e1];unfold rF at h5
   generalize L.map bW=M at*
   cases M with
   |nil=>
    have ox:grow 44 []=.slice .nil []:=rfl;simp[s1,b0,cU,s4,h4,s5,h5,fq,dR,aw,np,ox,hw,k3,bW,AV.aI,AV.cm]
    try rfl
   |cons y M=>
    have ox:grow 44 (y::M)=.slice (.own 44) (y::M):=rfl
    have F0:∀z,grow 44 (y::(M++[z]))=.slice (.own 44) (y::(M++[z])):=λ_=>rfl
    have pB:M.length+1+1<1048576:=by simp at hL;omega
    simp[s1,b0,cU,s4,h4,s5,h5,fq,dR,aw,np,ox,F0,hw,k3,eK,pB,bW,AV.aI,AV.cm]
 .clear s1 s2 h2 s4 h4 s5 h5 S H;rintro S H ⟨s4,h4,s5,h5⟩;have QC:List.drop 15 z=[]:=agx (by omega);unfold rF at h5;simp[s4,h4,s5,h5,hz,QC,lz,lx,eQ,fg,ME,L4,Bt];simp[a_,ao,ae,jt,vD,vI,ints]
end Go.Proofs.Tryz
namespace Go.Proofs.Tryz
open Go Go.AL Go.RowKit Go.Proofs Go.Proofs.Tram
attribute [local simp] dh eE dY dv dK dj di cQ cT dL cP ct fF fE aD aL ev aT.S aT.H bu av aY AL.start AV.cells AV.storable AV.cg bo cE dI ck HR.okB post cw cH cI AV.out AV.bU b_ df fz iA AV.vw du vI int cG aP cV db fQ iu fV eG da AV.aI AV.cm
variable{GI:World->Prop}
section
variable{w0:World}{n:Nat}{g:Gh}{S:aF}{H:aK}{a:Act}{w:World}{d:Nat}
theorem Dt{k:Nat->Option Obj}{b:Nat}(o:Option Obj)(h:k b=none):av (av k b o) b none=k:=by
 funext c
 by_cases hc:c=b
 .subst hc;simp[av,h]
 .simp[av,hc]
theorem qj {k:Nat} {us:Array Value} (sX:dZ prog k=true) (R:Rel prog w0 n dU g S H a w) {X:aF→aK→Prop}
  (hc:∀g1 w1,Rel prog w0 n dU g1 S H a w1->g1.old={ g.old with bI:=av g.old.bI w.heap.size (some (.cells #[.int .i64 0] 34)) }->Below w.heap.size w w1->w1=w.alloc (.cells #[.int .i64 0] 34)->
   Calls prog k us w1 λe w2=>e=.returned (.tuple #[])/\∃(c:Value)(g':Gh)(S':aF)(H':aK),g'.old=g1.old/\Rel prog w0 n dU g' S' H' (a.put (some d) c) w2/\X S' H'):
  Calls prog 119 #[.func (.func k) #[] us] w λe w2=>e=.returned (.int .i64 0)/\∃(c:Value)(g':Gh)(S':aF)(H':aK),g'.old=g.old/\Rel prog w0 n dU g' S' H' (a.put (some d) c) w2/\X S' H':=by
 have R1:=R.kA (.cells #[.int .i64 0] 34);have uv:=mh R;refine iK sX (hc _ _ R1 rfl ((aga _ _).alloc (afg _) _) rfl) ?_;rintro e w2 ⟨rfl,c,g',S',H',ho,R2,hX⟩
 have hk:g'.old.bI w.heap.size=some (.cells #[.int .i64 0] 34):=by rw[ho];exact bm _ _ _
 have jf:=(R2.kept _ _ hk).2.1;have aw:=(afe.1 jf).1;refine⟨aw,⟨_,_,jf⟩,.inl ⟨_,rfl,rfl,c,_,S',H',?_,(R2.nS w.heap.size).mw ?_,hX⟩⟩
 .show({ g'.old with bI:=av g'.old.bI w.heap.size none }:Old)=_;rw[ho];show({ g.old with bI:=av (av g.old.bI w.heap.size (some (.cells #[.int .i64 0] 34))) w.heap.size none }:Old)=_;rw[Dt _ uv]
 .refine⟨rfl,rfl,rfl,by simp,λk ee=>?_⟩
  by_cases hb:k=w.heap.size
  .subst hb;rw[agq w2 _ _ _ _ _ jf,jf]
  .exact af4 w2 _ k _ hb
theorem zg {k:Nat} {us:Array Value} (sX:dZ prog k=true) (R:Rel prog w0 n dU g S H a w) {r:Int}
  (hc:∀g1 w1,Rel prog w0 n dU g1 S H a w1->Below w.heap.size w w1->w1=w.alloc (.cells #[.int .i64 0] 34)->
   Calls prog k us w1 λe w2=>Below w1.heap.size w1 w2/\((r=7/\∃n,e=.panicked [{ v:=.iface 192 (.agg #[.int .i64 n]),recovered:=false }])\/(r=4/\∃s:List UInt8,e=.panicked [{ v:=.iface 203 (.agg #[.string ⟨s.toArray⟩]),recovered:=false }]))):
  Calls prog 119 #[.func (.func k) #[] us] w λe w2=>e=.returned (.int .i64 r)/\∃g',g'.old=g.old/\Rel prog w0 n dU g' S H a w2:=by
 have R1:=R.kA (.cells #[.int .i64 0] 34);have uv:=mh R;refine iK sX (hc _ _ R1 ((aga _ _).alloc (afg _) _) rfl) ?_;rintro en w2 ⟨ig,IF⟩;have R2:=R1.mw ig;have hk:av g.old.bI w.heap.size (some (.cells #[.int .i64 0] 34)) w.heap.size=some (.cells #[.int .i64 0] 34):=bm _ _ _;have jf:=(R2.kept _ _ hk).2.1;have aw:=(afe.1 jf).1
 have fin:∀w3,Below w2.heap.size w2 w3->∃g',g'.old=g.old/\Rel prog w0 n dU g' S H a (w3.setRow w.heap.size #[.int .i64 r]):=λw3 mm=>by
  have R3:=R2.mw mm;have J0:=(R3.kept _ _ hk).2.1;have R4:=R3.m_ hk (.cells #[.int .i64 r] 34);rw[sh w3 J0];refine⟨_,?_,R4.nS w.heap.size⟩;show({ g.old with bI:=av (av (av g.old.bI w.heap.size (some (.cells #[.int .i64 0] 34))) w.heap.size (some (.cells #[.int .i64 r] 34))) w.heap.size none }:Old)=_
  have:av (av (av g.old.bI w.heap.size (some (.cells #[.int .i64 0] 34))) w.heap.size (some (.cells #[.int .i64 r] 34))) w.heap.size none=g.old.bI:=by
   funext c
   by_cases hc:c=w.heap.size
   .subst hc;simp[av,uv]
   .simp[av,hc]
  rw[this]
 rcases IF with⟨rfl,k,rfl⟩|⟨rfl,k,rfl⟩
 .exact⟨aw,⟨_,_,jf⟩,.inr (.inl ⟨k,rfl,λw3 mm=>⟨rfl,fin w3 mm⟩⟩)⟩
 .exact⟨aw,⟨_,_,jf⟩,.inr (.inr ⟨k,rfl,λw3 mm=>⟨rfl,fin w3 mm⟩⟩)⟩
variable{i2 i3 i5:Nat}{s x:aq}{out ns:List Int}{b:Bool}{z:AV}
theorem tu(s:aq):(ao s).map AV.cm=ao s:=by simp[ao,ae,AV.cm,vI]
theorem lV(R:Rel prog w0 n dU g S H a w){i:Nat}{cs:List AV}(hi:i<n)(hS:S i=.box i 0)(hH:H i=some cs)(hv:cs.map AV.cm=cs):RV (fy g true) cd w (.ref cs) (a.tmps.getD i undef):=by
 have h:=R.slot i hi id;rw[hS]at h;have:=R.iA h true (λ_=>rfl);simp only[Go.AL.iA,hH,List.drop_zero,hv]at this;exact this
theorem Bj (hG:au GI) (dS:GI w0) (R:Rel prog w0 n dU g S H a w) (p8:i2 < n) (Mz:i3 < n) (Br:i5 < n)
  (oB:S i2=.box i2 0) (pq:H i2=some (ao s)) (Be:S i3=.box i3 0) (Ml:H i3=some [vI out]) (tC:S i5=.box i5 0) (yv:H i5=some [.bool false])
  (tN:AC prog GI 160 [a_ s,vI out] (.ret (a_ x))) {k:Int} (vz:AC prog GI 108 [a_ x] (.panic (ll k))):
  Calls prog 159 #[a.tmps.getD i2 undef,a.tmps.getD i3 undef,a.tmps.getD i5 undef] w λe w2=>Below w.heap.size w w2/\e=.panicked [{ v:=.iface 192 (.agg #[.int .i64 k]),recovered:=false }]:=by
 have fR:GI w:=hG w0 w dS (by have:=R.below;rwa [R.base]at this)
 have hA:AC prog GI 159 [.ref (ao s),.ref [vI out],.ref [.bool false]] (.panic (ll k)):=by
  refine bP hG func159 ntmps159 c159 ?_;simp[c159,ao,ae];refine oc tN ?_;simp[a_,ao,ae];refine oc vz ?_;simp[iH]
 refine(hA w (fy g true) #[a.tmps.getD i2 undef,a.tmps.getD i3 undef,a.tmps.getD i5 undef] fR rfl (λi h h'=>?_)).mono ?_
 .match i,h with
  |0,_=>exact lV R p8 oB pq (tu s)
  |1,_=>exact lV R Mz Be Ml rfl
  |2,_=>exact lV R Br tC yv rfl
 .rintro en w2 ⟨ig,hi,pS,c,rfl,jX⟩;have hc:=Ab jX;subst hc;exact⟨ig,rfl⟩
theorem DY (hG:au GI) (dS:GI w0) (R:Rel prog w0 n dU g S H a w) (hd:d < n) (p8:i2 < n) (Mz:i3 < n) (Br:i5 < n) (Gt:d≠i5)
  (oB:S i2=.box i2 0) (pq:H i2=some (ao s)) (Be:S i3=.box i3 0) (Ml:H i3=some [vI out]) (tC:S i5=.box i5 0) (yv:H i5=some [z])
  (tN:AC prog GI 160 [a_ s,vI out] (.ret (a_ x))) (vz:AC prog GI 108 [a_ x] (.ret (cb x ns))) (vJ:AC prog GI 107 [cb x ns] (.ret (.bool b))):
  Calls prog 159 #[a.tmps.getD i2 undef,a.tmps.getD i3 undef,a.tmps.getD i5 undef] w λe w2=>e=.returned (.tuple #[])/\∃(c:Value)(g':Gh)(S':aF)(H':aK),g'.old=g.old/\Rel prog w0 n dU g' S' H' (a.put (some d) c) w2/\(∀t,t≠d->S' t=S t)/\H'=av H i5 (some [.bool b]):=by
 have fR:GI w:=hG w0 w dS (by have:=R.below;rwa [R.base]at this);have r2:=lV R p8 oB pq (tu s);have r3:=lV R Mz Be Ml rfl;obtain⟨b5,Nt,e5⟩:=iW R Br tC;have bL:=R.size;refine ahm func159 rfl ?_;refine(ez (m:=0)).1 ?_;refine eY (λc=>c.tmps.size=8/\c.defers=[]/\c.tmps.getD 0 undef=a.tmps.getD i2 undef/\c.tmps.getD 1 undef=a.tmps.getD i3 undef/\c.tmps.getD 2 undef=a.tmps.getD i5 undef) ⟨by simp[ntmps159],rfl,bK _ _ 0 (by simp),bK _ _ 1 (by simp),bK _ _ 2 (by simp)⟩ ?_;rintro aC ⟨zC,dC,t0,t1,t2⟩
 refine iR hG (n:=8) (p:=5) (l2:=[5]) rfl (by kernel_rfl) (by kernel_rfl) (l:=(af.dl c159).take 5) (by kernel_rfl) (by decide) (W:=λt=>decide (3<=t)) (by kernel_rfl) fR (fy g true)
  (λt=>match t with|0=>.ref (ao s)|1=>.ref [vI out]|2=>.val (.pointer (some ⟨b5,0,none⟩))|_=>.bB) zC dC ?_ (K:=λS' _=>S' 7=.bool b/\S' 2=.val (.pointer (some ⟨b5,0,none⟩))) ?_ ?_
 .intro t ht;split
  .exact⟨rfl,by rw[t0];exact r2⟩
  .exact⟨rfl,by rw[t1];exact r3⟩
  .exact⟨rfl,by rw[t2,e5];exact .data _ _ (.val _ rfl)⟩
  .exact⟨rfl,.bB _⟩
 .simp[c159,af.dl,ao,ae];refine oc tN ?_;simp[a_,ao,ae];refine oc vz ?_;simp[cb,aX,ao,ae];refine oc vJ ?_;simp
 .rintro g1 S1 H1 a1 w1 jq R1 ⟨q7,q2⟩ _
  have tj:Below w.heap.size w w1:=by have:=R1.below;rwa [R1.base]at this
  have u7:=R1.slot 7 (by decide) id;rw[q7]at u7;have u7:=u7.dN;have u2:=R1.slot 2 (by decide) id;rw[q2]at u2;have u2:=u2.eU;have R2:=(R.mw tj).put d (.bool b) (.bool b) hd (.data _ _ (.bool _)) trivial;obtain⟨i4,La,D3⟩:=bh (P:=prog) (t:=4) (s:=1) (by kernel_rfl);have Ag:av S d (.bool b) i5=.box i5 0:=(cN _ _ (afQ Gt)).trans tC
  have kc:aL (av S d (.bool b)) H (.store .any i4.size (.t i5) (.t d))=some { v:=cG,dm:=some d,hw:=some (i5,[.bool b]) }:=by
   simp[aL,ev,Ag,tC,afQ Gt,yv,HR.okB,D3,AV.cells,AV.storable,AV.cg,bo,bu,bm]
  obtain ⟨c2,w3,g3,eh,G0,uh,R3⟩:=kS R2 (o:={ dst:=none,op := .store 4 (.tmp i5) (.tmp d),type:=0,pos := "",after := #[],guard:=none }) (x1 := .tmp i5) (x2 := .tmp d) (y1 := .t i5) (y2 := .t d) (hr := .any) rfl rfl La (by simp [lQ,Br]) (by simp [lQ,hd]) (λ_ _=>id) (λ_ _=>id) kc
  have f5:(a.put (some d) (.bool b)).eval (.tmp i5)=.pointer (some ⟨b5,0,none⟩):=by
   show(a.put (some d) (.bool b)).tmps.getD i5 undef=_;rw[ji _ _ _ _ (by omega),if_neg (afQ Gt),e5]
  have fd:(a.put (some d) (.bool b)).eval (.tmp d)=.bool b:=by
   show(a.put (some d) (.bool b)).tmps.getD d undef=_;rw[ji _ _ _ _ (by omega),if_pos rfl]
  have bb:∀ o:Oper,o.op = .store 4 (.tmp 2) (.tmp 7)->(execOp a1.eval o).run prog w1=(execOp (a.put (some d) (.bool b)).eval { dst:=none,op := .store 4 (.tmp i5) (.tmp d),type:=0,pos := "",after := #[],guard:=none }).run prog w1:=by
   intro o ho;have k2:a1.eval (.tmp 2)=.pointer (some ⟨b5,0,none⟩):=u2;have k7:a1.eval (.tmp 7)=.bool b:=u7;unfold execOp;simp only[ho,k2,k7,f5,fd]
  have fin:∀u:Value,(a1.put none u).defers=[]/\∃v',(results f159 (a1.put none u).tmps).run prog w3=.ok v' w3/\(v'=.tuple #[]/\∃(c:Value)(g':Gh)(S':aF)(H':aK),g'.old=g.old/\Rel prog w0 n dU g' S' H' (a.put (some d) c) w3/\(∀t,t≠d->S' t=S t)/\H'=av H i5 (some [.bool b])):=λu=>
   ⟨R1.defers.trans (by rw[jq]<;>rfl),.tuple #[],by simp[results,results159],rfl,.bool b,g3,_,_,uh,R3,λt ht=>by simp[aT.S,AL.aY,av,ht],rfl⟩
  have Jz:∀u:Value,(a1.put none u).defers=[]/\∃v',(results f159 (a1.put none u).tmps).run prog w3=.ok v' w3/\(Ending.returned v'=.returned (.tuple #[])/\∃(c:Value)(g':Gh)(S':aF)(H':aK),g'.old=g.old/\Rel prog w0 n dU g' S' H' (a.put (some d) c) w3/\(∀t,t≠d->S' t=S t)/\H'=av H i5 (some [.bool b])):=λu=>by
   obtain⟨q1,v',q2,rfl,q3⟩:=fin u;exact⟨q1,_,q2,rfl,q3⟩
  rcases eh with hr|⟨hr,_⟩
  .exact aW rfl rfl (by rfl) ((bb _ rfl).trans hr) (Jz _)
  .exact dk rfl rfl (by rfl) ((bb _ rfl).trans hr) (Jz undef)
end
def iF(s:aq)(out:List Int):Bool:=match dV (jt s out).name with
 |some es=>decide (gr 0 (jt s out) (aR (jt s out) es)=(aR (jt s out) es).length)
 |none=>false
theorem D_{s:aq}(h:er s)(out:List Int):er (jt s out):=by
 have hl:=nZ out s.name.words 0;exact⟨h.cells,⟨h.name.aV,h.name.aQ,Nat.lt_of_le_of_lt hl h.name.words,λw hw=>h.name.aG w (lS hw),λw hw=>h.name.bD w (lS hw)⟩⟩
theorem NN(hG:au GI)(s:aq)(hs:er s)(hI:cq s=true)(out:List Int)(ho:ec s.name out=true):AC prog GI 113 [a_ s,vI out] (.ret (.bool (iF s out))):=by
 have Up:=DU hI ho;have hg:=eo hI;have lv:=eo Up;have jz:=(dP hg.name).words;have hol:=zM ho;have a160:=Mc hG s (by omega) out (by omega);have s_:er (jt s out):=D_ hs out;unfold iF
 obtain ⟨b,e,hO,oT⟩:∃ (b:Bool) (e:Int),(match dV (jt s out).name with
   |some es=>decide (gr 0 (jt s out) (aR (jt s out) es)=(aR (jt s out) es).length)
   |none=>false)=(e==0&&b)/\
   ∀(w0:World)(g:Gh)(S:aF)(H:aK)(a:Act)(w:World),GI w0->Rel prog w0 14 dU g S H a w->S 2=.box 2 0->H 2=some (ao s)->S 3=.box 3 0->H 3=some [vI out]->S 5=.box 5 0->H 5=some [.bool false]->
    Calls prog 119 #[.func (.func 159) #[] #[a.tmps.getD 2 undef,a.tmps.getD 3 undef,a.tmps.getD 5 undef]] w λen w2=>en=.returned (.int .i64 e)/\∃(c:Value)(g':Gh)(S':aF)(H':aK),g'.old=g.old/\Rel prog w0 14 dU g' S' H' (a.put (some 8) c) w2/\S' 5=.box 5 0/\H' 5=some [.bool b]:=by
  cases dQ:dV (jt s out).name with
  |some es=>
   have hn:=gX lv (fp lv.name dQ);refine⟨_,0,(agU _).symm,λw0 g S H a w dS R q2 Bl q3 LK q5 I6=>?_⟩
   refine qj (d:=8) (by kernel_rfl) R λg1 w1 R1 jq _ _=>?_
   refine(DY hG dS R1 (d:=8) (by decide) (by decide) (by decide) (by decide) (by decide) q2 Bl q3 LK q5 I6 a160 (BJ hG (jt s out) s_ lv dQ) (BX hG (jt s out) lv (aR (jt s out) es) hn)).mono ?_;rintro en w2 ⟨rfl,c,g',S',H',sE,R',pv,ph⟩;exact⟨rfl,c,g',S',H',sE,R',by rw[pv 5 (by decide)];exact q5,by rw[ph];exact bm _ _ _⟩
  |none=>
   refine⟨false,7,rfl,λw0 g S H a w dS R q2 Bl q3 LK q5 I6=>?_⟩;refine(zg (by kernel_rfl) R (r:=7) λg1 w1 R1 _ _=>?_).mono ?_
   .refine(Bj hG dS R1 (by decide) (by decide) (by decide) q2 Bl q3 LK q5 I6 a160 (vO hG (jt s out) s_ lv dQ)).mono ?_;rintro en w2 ⟨hb,rfl⟩;exact⟨hb,.inl ⟨rfl,_,rfl⟩⟩
   .rintro en w2 ⟨rfl,g',yP,R'⟩;exact⟨rfl,undef,g',av S 8 .bB,H,yP,R'.put 8 .bB undef (by decide) (.bB _) trivial,(cN _ _ (by decide)).trans q5,I6⟩
 rw[hO]
 refine AC.gY func113 rfl ntmps113 (by simp) λcc w=>?_
 refine dw hG c113.qa (λS' H'=>S' 2=.box 2 0/\H' 2=some (ao s)/\S' 3=.box 3 0/\H' 3=some [vI out]) ?_ ?_
 .simp[c113,af.qa,a_,ao,ae]
 rintro S1 H1 ⟨s2,h2,s3,h3⟩;show SW prog GI 14 none (.seq _ (.seq _ (.seq _ .ret))) _ _ _ _;refine dw hG c113.qb.qa (λS' H'=>S' 2=.box 2 0/\H' 2=some (ao s)/\S' 3=.box 3 0/\H' 3=some [vI out]/\S' 5=.box 5 0/\H' 5=some [.bool false]) ?_ ?_
 .simp[c113,af.qa,af.qb,s2,h2,s3,h3]
 clear s2 h2 s3 h3;rintro S3 H3 ⟨s2,h2,s3,h3,s5,h5⟩
 refine SW.seq (SW.hand hG (p:=0) (lm:=[0,1]) (l2:=[2]) (kY:=[]) (oh:=[_,_]) (lJ:=[_]) rfl rfl rfl rfl (by kernel_rfl) (λ_ h=>h) (lM:=[]) (kP:=(c113.qb.qb.qa.dl).drop 2) rfl (by kernel_rfl) rfl (by kernel_rfl)
  (K1:=λS' H'=>S' 2=.box 2 0/\H' 2=some (ao s)/\S' 3=.box 3 0/\H' 3=some [vI out]/\S' 5=.box 5 0/\H' 5=some [.bool false])
  (K2:=λo S' H'=>o=Old.plain cc w/\S' 5=.box 5 0/\H' 5=some [.bool b]/\S' 8=.int .i64 e)
  (K3:=λo S' H'=>o=Old.plain cc w/\S' 5=.box 5 0/\H' 5=some [.bool b]/\S' 6=.int .i64 e) ⟨s2,h2,s3,h3,s5,h5⟩ ?_ ?_ ?_)
 .rintro w0 g S5 H5 a w5 m dS ho R ⟨s2,h2,s3,h3,s5,h5⟩;have bL:=R.size;refine aW rfl rfl (by rfl) (kB (fn:=.func 159) (c:=#[.tmp 2,.tmp 3,.tmp 5]) rfl) ?_
  obtain⟨fv,jQ⟩:∃fv:Value,fv=.func (.func 159) #[] (#[Operand.tmp 2,.tmp 3,.tmp 5].map a.eval):=⟨_,rfl⟩
  show wpOpsIn _ _ _ _ _ [1] (a.put (some 7) (.func (.func 159) #[] (#[Operand.tmp 2,.tmp 3,.tmp 5].map a.eval))) w5;rw[<-jQ];have R1:=R.put 7 .bB fv (by decide) (.bB _) trivial
  obtain⟨a1,oI⟩:∃a1,a.put (some 7) fv=a1:=⟨_,rfl⟩
  rw[oI]at R1⊢
  have uc:fv=.func (.func 159) #[] #[a1.tmps.getD 2 undef,a1.tmps.getD 3 undef,a1.tmps.getD 5 undef]:=by
   have e1:=bt a 7 2 fv (by omega);have e2:=bt a 7 3 fv (by omega);have e4:=bt a 7 5 fv (by omega);rw[if_neg (by decide),oI]at e1 e2 e4;have A6:a1.tmps.getD 2 undef=a.eval (.tmp 2):=e1;have K6:a1.tmps.getD 3 undef=a.eval (.tmp 3):=e2;have Ch:a1.tmps.getD 5 undef=a.eval (.tmp 5):=e4;rw[A6,K6,Ch,jQ];simp only[afw,afv,afB]
  have ij:a1.eval (.tmp 7)=fv:=by rw[<-oI,bt _ _ _ _ (by omega),if_pos rfl]
  refine eS rfl rfl (by rfl) (fU (k:=119) (args:=#[.func (.func 159) #[] #[a1.tmps.getD 2 undef,a1.tmps.getD 3 undef,a1.tmps.getD 5 undef]]) w5 rfl rfl ?_ (by kernel_rfl)) (oT w0 g _ _ a1 w5 dS R1 (by simp[av,s2]) h2 (by simp[av,s3]) h3 (by simp[av,s5]) h5) ?_
  .simp only[afw,afv,afB,ij,<-uc]
  .rintro en w6 ⟨rfl,c,g',S',H',sE,R2,tC,yv⟩;refine⟨_,rfl,?_⟩;have R3:=R2.put 8 (.int .i64 e) (.int .i64 e) (by decide) (.data _ _ (.int _ _)) trivial;rw[ml]at R3;exact⟨g',_,H',R3,sE.trans ho,by rw[cN _ _ (by decide)];exact tC,yv,bm _ _ _⟩
 .rintro o S5 H5 ⟨rfl,s5,h5,s8⟩;refine⟨λ_ h=>h,?_⟩;simp[c113,af.qa,af.qb,af.dl,s5,h5,s8]
 .rintro o S5 H5 ⟨rfl,s5,h5,s6⟩;show SW prog GI 14 none (.seq _ .ret) _ _ _ _;refine dw hG c113.qb.qb.qb.qa (λS' H'=>S' 4=.bool (e==0&&b)) ?_ ?_
  .by_cases he:e=0
   .subst he;simp[c113,af.qa,af.qb,s5,h5,s6]
   .have jI:(e==0)=false:=by simpa using he
    simp[c113,af.qa,af.qb,s5,h5,s6,jI]
  rintro S6 H6 s4;refine SW.ret ⟨eD.plain rfl,rfl,_,?_,rfl⟩;show cw prog 14 [.tmp 4] S6 H6=_;simp[cw,cH,cI,s4,AV.bU,AV.out]
end Go.Proofs.Tryz
namespace Go.Proofs.Tryz
open Go Go.AL Go.RowKit Go.Proofs Go.Proofs.Tram
def gk(s:aq)(d:Nat)(es:List Int):List (List Int):=(oV s.name d es).filter (iF s)
def mo(s:aq)(d:Nat)(es:List Int)(i:Nat):List (List Int):=(List.range' i (s.name.words.length-i)).flatMap λk=>if jY s.name k then gk s d (es++[(k:Int)])else[]
theorem zY(s:aq)(es:List Int):gk s 0 es=if iF s es then[es]else[]:=by
 unfold gk oV
 cases h:iF s es<;>simp[h]
theorem y_(s:aq)(d:Nat)(es:List Int):gk s (d+1) es=mo s d es (kI es):=by
 unfold gk mo oV;rw[ahL]
 refine uW λi _=>?_
 cases jY s.name i<;>rfl
theorem zL(s:aq)(d:Nat)(es:List Int){i:Nat}(h:i<s.name.words.length):mo s d es i=(if jY s.name i then gk s d (es++[(i:Int)])else[])++mo s d es (i+1):=by
 unfold mo;rw[show s.name.words.length-i=s.name.words.length-(i+1)+1 by omega,agr,agP]
theorem B2(s:aq)(d:Nat)(es:List Int):mo s d es s.name.words.length=[]:=by
 unfold mo
 rw[ahi]<;>rfl
theorem tx{α β:Type}{f:α->List β}{b:Nat}(hf:∀x,(f x).length<=b):∀l:List α,(l.flatMap f).length<=b*l.length
 |[]=>by simp
 |a::l=>by
  rw[agP,afm,List.length_cons,Nat.mul_succ];have:=tx hf l;have:=hf a;omega
theorem tP{s:ar}(h:s.words.length<=4):∀(d:Nat)(now:List Int),(oV s d now).length<=4^d
 |0,now=>by simp[oV]
 |d+1,now=>by
  unfold oV
  have h1:∀i:Nat,(if jY s i then oV s d (now++[(i:Int)])else[]).length<=4^d:=by
   intro i;split
   .exact tP h d _
   .simp
  have h2:=tx h1 (List.range' (kI now) (s.words.length-kI now));rw[List.length_range']at h2;rw[Nat.pow_succ];have h3:4^d*(s.words.length-kI now)<=4^d*4:=Nat.mul_le_mul_left _ (by omega);omega
theorem Bi{s:aq}(h:s.name.words.length<=4){d:Nat}(hd:d<4)(es:List Int):(gk s d es).length<=64:=by
 have h1:=agJ (iF s) (oV s.name d es);have h2:=tP h d es;have h3:4^d<=4^3:=Nat.pow_le_pow_right (by decide) (by omega);unfold gk;omega
def qg(s:aq):Option (List Int):=(C8 s.name).find? (iF s)
theorem rL(s:aq):qg s=((List.range s.name.words.length).flatMap λd=>gk s d []).head?:=by
 unfold qg C8 gk;rw[<-List.head?_filter,ahL]
theorem Bh{α:Type}(f:Nat->List α){n m:Nat}(h:m<n)(hb:∀j,j<m->f j=[]){x:α}{l:List α}(hm:f m=x::l):((List.range n).flatMap f).head?=some x:=by
 have e:List.range n=List.range m++m::List.range' (m+1) (n-(m+1)):=by
  have h1:List.range' 0 m++List.range' (0+m) (n-(m+1)+1)=List.range' 0 (m+(n-(m+1)+1)):=ahg;rw[af6,show m+(n-(m+1)+1)=n by omega]at h1;rw[agW,agW,<-h1,agr]
 rw[e,agm,ahp.2 λj hj=>hb j (afE.1 hj),List.nil_append,agP,hm]
 rfl
theorem Cm{α:Type}(f:Nat->List α){n:Nat}(hb:∀j,j<n->f j=[]):((List.range n).flatMap f).head?=none:=by
 rw[ahp.2 λj hj=>hb j (afE.1 hj)]
 rfl
def sP(s:aq):List AV:=match qg s with
 |some l=>[vI l,.int .i64 0]
 |none=>[vI [],.int .i64 5]
def xu(s:aq):List AV:=if cq s then sP s else[vI [],.int .i64 2]
end Go.Proofs.Tryz
namespace Go.Proofs.Tryz
open Go Go.AL Go.RowKit Go.Proofs Go.Proofs.Tram
attribute [local simp] dh eE dY dv dK dj di cQ cT dL cP ct fF fE aD aL ev aT.S aT.H bu av aY AL.start AV.cells AV.storable AV.cg bo cE dI ck HR.okB post cw cH cI AV.out AV.bU b_ df fz iA AV.vw du vI int cG aP cV db fQ iu fV eG da AV.aI AV.cm
variable{GI:World->Prop}
def W6:Nat->Bool:=λt=>decide (6<=t)
def x_:Nat->Bool:=λt=>decide (35<=t)
structure xW(bF bN:Nat)(cS cR:Value)(n many:Int)(a:Act):Prop where
 size:a.tmps.size=50
 defers:a.defers=[]
 t0:a.tmps.getD 0 undef=.int .i64 n
 t1:a.tmps.getD 1 undef=.int .i64 many
 t2:a.tmps.getD 2 undef=cS
 t3:a.tmps.getD 3 undef=.pointer (some ⟨bN,0,none⟩)
 t4:a.tmps.getD 4 undef=.pointer (some ⟨bF,0,none⟩)
 t5:a.tmps.getD 5 undef=cR
def eJ(s:aq)(es:List Int)(fv:Value)(n many:Int)(v8:AV):aF:=λt=>match t with
 |0=>.int .i64 n
 |1=>.int .i64 many
 |2=>.ref (ao s)
 |3=>.ref [.slice .view (ints es)]
 |5=>.ref [.val fv]
 |8=>v8
 |_=>.bB
section
variable{wB:World}{Mi:Nat->Nat->Prop}{bF bN:Nat}{s:aq}{cS cR fv:Value}{fs:List (List Int)}{es:List Int}{w:World}{a:Act}{n many:Int}
theorem xW.step{a':Act}(fr:xW bF bN cS cR n many a)(bL:a'.tmps.size=50)(ea:a'.defers=[])(h:fC W6 a a'):xW bF bN cS cR n many a':=
 ⟨bL,ea,(h 0 rfl).trans fr.t0,(h 1 rfl).trans fr.t1,(h 2 rfl).trans fr.t2,(h 3 rfl).trans fr.t3,(h 4 rfl).trans fr.t4,(h 5 rfl).trans fr.t5⟩
theorem Lv.dX (st:Lv wB Mi bF bN s cS cR fv fs es w) (fr:xW bF bN cS cR n many a) {v8:AV} (h8:v8.aI=v8∧RV (fun _ _=>True) cd w v8 (a.tmps.getD 8 undef)) :
  ∀t,t<50->(eJ s es fv n many v8 t).aI=eJ s es fv n many v8 t/\RV (λ_ _=>True) cd w (eJ s es fv n many v8 t) (a.tmps.getD t undef):=by
 intro t ht;unfold eJ;split
 .rw[fr.t0];exact⟨rfl,.data _ _ (.int _ _)⟩
 .rw[fr.t1];exact⟨rfl,.data _ _ (.int _ _)⟩
 .rw[fr.t2];exact⟨rfl,st.s.mono (bz.same λ_ _ _ _=>trivial) λ_ _ h=>h⟩
 .rw[fr.t3];obtain⟨u,qG,xF,v,tw,xN,f1,f2,f3,f4,n1,n2,n3,n4⟩:=st.st;refine⟨rfl,.data _ _ (.ref _ _ _ (λ_=>v) (λi hi=>?_) (λk hk=>⟨trivial,?_⟩) (λk hk=>?_))⟩
  .have:i=0:=by simpa using hi
   subst this;rfl
  .have:k=0:=by simpa using hk
   subst this;simp[World.cell?,n1]
  .have:k=0:=by simpa using hk
   subst this
   exact RD.ofRow (size:=1) (es:=ints es) (by rw[b_];exact n2) (n3.mono (bz.same λ_ _ _ h=>h.elim)) λ_ _ _ _=>trivial
 .rw[fr.t5];exact⟨rfl,st.r.mono (bz.same λ_ _ _ _=>trivial) λ_ _ h=>h⟩
 .exact h8
 .exact⟨rfl,.bB _⟩
theorem Lv.c_ (st:Lv wB Mi bF bN s cS cR fv fs es w) {w':World} {es':List Int} {v v':Value} {tw:TypeId} {IL:List Value} (hv:∃ ty,w.heap[bN]? = some (.cells #[v] ty (0,0))) (fa:sB (fun b=>b=bN∨v.ownBlock=some b) w w')
  (hN:w'.heap[bN]?=some (.cells #[v'] tw (0,0))) (h_:w'.ownsRow (bN+1) 3 1 v' es'.length IL) (si:rr (λ_ _=>False) w' 1 (ints es') IL) (CV:∀b,v'.ownBlock=some b->v.ownBlock=some b\/w.heap.size<=b):Lv wB Mi bF bN s cS cR fv fs es' w':=by
 obtain⟨u,qG,xF,v0,Ys,xN,f1,f2,f3,f4,n1,n2,n3,n4⟩:=st.st;obtain⟨ty,hv⟩:=hv
 have SV:v0=v:=by
  rw[n1]at hv;simp only[agk,Obj.cells.injEq,Array.mk.injEq,ahc]at hv;exact hv.1.1
 subst SV;have lF:=(afe.1 f1).1
 have old:∀b,b<w.heap.size->b≠bN->v0.ownBlock≠some b->w'.heap[b]?=w.heap[b]?:=λb hb h1 h2=>fa.block b hb (by rintro(h|h);exact h1 h;exact h2 h)
 have Ka:∀b k,Mi b k->w'.heap[b]?=w.heap[b]?:=λb k hm=>old b (st.lt b k hm) (λe=>st.gN k (e▸hm)) λe=>(n4 b e).2.2 k hm
 have FX:bz Mi Mi w w':=bz.of_eq λb k hm=>⟨hm,Ka b k hm⟩
 refine⟨st.below.trans (fa.below st.below.size λb hb=>?_),st.ge,λb k hm=>afI (st.lt b k hm) fa.size,st.gF,st.gN,⟨u,qG,xF,v',tw,IL,(old bF lF st.ge.2.2 λe=>(n4 bF e).1 rfl).trans f1,eO f2 λb hb=>old b (f2.lt b hb).2 (f4 b hb).1 λe=>(n4 b e).2.1 hb,f3.mono (bz.of_eq λb k hm=>⟨hm,(Ka b k hm.1)⟩),f4,hN,h_,si,λb hb=>?_⟩,st.s.mono FX λ_ _ h=>h,st.r.mono FX λ_ _ h=>h⟩
 .rcases hb with rfl|hb
  .exact st.ge.2.1
  .have:=(n2.lt b hb).1;have:=st.ge.2.1;omega
 .rcases CV b hb with h|h
  .exact n4 b h
  .exact⟨λe=>by omega,λe=>by have:=(f2.lt b e).2;omega,λk hm=>by have:=st.lt b k hm;omega⟩
end
theorem rC {P:Program} {a:Act} {o:Oper} {cl:Call} {f x y:Operand} {k:Nat} {cap:Array Value} (w:World) (ho:o.op = .call cl) (hc:cl.callee = .value f) (ha:cl.args = #[x,y]) (hf:a.eval f = .func (.func k) #[] cap) (hk:dZ P k=true) :
  (execOp a.eval o).run P w=.ok (.enter k (#[a.eval x,a.eval y]++cap)) w:=by
 unfold execOp;simp[ho,eV hc,hf,Deferred.ofValue,invoke,ha,je hk]
noncomputable def mr:af:=af.qb c112.qb.qb.qb
noncomputable def qP:af:=af.qb mr.qb.qa
noncomputable def tz:af:=af.qa qP.qb
theorem GG (hG:au GI) {wB:World} (qF:GI wB) {bF bN:Nat} {s:aq} (hs:er s) (hI:cq s=true) {cS cR fv:Value} (jQ:fv = .func (.func 112) #[] #[cS,.pointer (some ⟨bN,0,none⟩),.pointer (some ⟨bF,0,none⟩),cR]) :
  ∀(d n:Nat)(es:List Int)(fs:List (List Int))(Mi:Nat->Nat->Prop)(w:World),kI es=n->n<=s.name.words.length->es.length+d<s.name.words.length->ec s.name es=true->(fs++gk s d es).length<=1000->Lv wB Mi bF bN s cS cR fv fs es w->
   Calls prog 112 #[.int .i64 n,.int .i64 d,cS,.pointer (some ⟨bN,0,none⟩),.pointer (some ⟨bF,0,none⟩),cR] w λe w'=>e=.returned (.tuple #[])/\∃mz,(∀b k,Mi b k->mz b k)/\Lv wB mz bF bN s cS cR fv (fs++gk s d es) es w':=by
 have jz:=(dP (eo hI).name).words.2;intro d
 induction d with
 |zero=>?_
 |succ d ih=>?_
 all_goals intro n es fs Mi w si hn hd ho hB st
 all_goals refine(lR (ro:=none) (m:=0)).1 (aha func112 rfl trivial ?_)
 .have fR:GI w:=hG wB w qF st.below
  have fr:xW bF bN cS cR n ((0:Nat):Int) { tmps:=#[.int .i64 n,.int .i64 ((0:Nat):Int),cS,.pointer (some ⟨bN,0,none⟩),.pointer (some ⟨bF,0,none⟩),cR]++Array.replicate (f112.ntmps-6) undef,defers:=[] }:=
   ⟨by simp[ntmps112],rfl,bK _ _ 0 (by simp),bK _ _ 1 (by simp),bK _ _ 2 (by simp),bK _ _ 3 (by simp),bK _ _ 4 (by simp),bK _ _ 5 (by simp)⟩
  rw[zY]at hB⊢;refine afc (afc ?_);refine bG hG cC (n:=50) (ac:=af.qa c112.qa) (W:=W6) (by kernel_rfl) (by kernel_rfl) (by kernel_rfl) fR (λ_ _=>True) (eJ s es fv n ((0:Nat):Int) .bB) fr.size fr.defers (st.dX fr ⟨rfl,.bB _⟩) (K:=λS' _=>S' 10=.bool true) ?_ ?_
  .simp[c112,af.qa,eJ]
  rintro g S' H' a w1 hg R1 hb bb;have fr:=fr.step R1.size (by rw[R1.defers,hg]<;>rfl) bb;have st:=st.grow (by have:=R1.below;rwa [R1.base]at this);have ht:=R1.slot 10 (by decide) (λh=>h);rw[hb]at ht;have uB:=ht.dN;clear ht bb hb hg R1 g S' H' fR;have fR:GI w1:=hG wB w1 qF st.below;show Code.wpIn _ _ _ _ _ a w1;refine afF (t:=true) uB ?_;simp only[afH];refine afc (afc ?_);have RH:=NN hG s hs hI es ho;refine bG hG cC (n:=50) (ac:=af.qa c112.qa.qb.qa.qa) (W:=W6) (by kernel_rfl) (by kernel_rfl) (by kernel_rfl) fR (λ_ _=>True) (eJ s es fv n ((0:Nat):Int) .bB) fr.size fr.defers (st.dX fr ⟨rfl,.bB _⟩) (K:=λS' _=>S' 13=.bool (iF s es)) ?_ ?_
  .simp[c112,af.qa,af.qb,eJ,ao,ae];refine oc RH ?_;simp
  rintro g S' H' a w1 hg R1 hb bb;have fr:=fr.step R1.size (by rw[R1.defers,hg]<;>rfl) bb;have st:=st.grow (by have:=R1.below;rwa [R1.base]at this);have ht:=R1.slot 13 (by decide) (λh=>h);rw[hb]at ht;have uB:=ht.dN;clear ht bb hb hg R1 g S' H' fR;have fR:GI w1:=hG wB w1 qF st.below;show Code.wpIn _ _ _ _ _ a w1;refine afF (t:=iF s es) uB ?_
  have NB:es.length<1000:=by omega
  have Va:fs.length<100000:=by rw[afm]at hB;omega
  cases IF:iF s es with
  |true=>
   simp only[afH];refine yt hG st fR fr.size fr.defers fr.t3 fr.t4 NB Va rfl rfl rfl rfl rfl rfl ⟨rfl,rfl,rfl⟩ ⟨rfl,rfl,rfl⟩ ⟨rfl,rfl,rfl⟩ ⟨rfl,rfl,rfl⟩ ⟨rfl,rfl,rfl⟩ ⟨rfl,rfl,rfl⟩ ⟨rfl,rfl⟩ ⟨rfl,rfl,rfl⟩ (by kernel_rfl) ?_;intro a' w' mz bL ea _ hM lU;show Code.wpIn _ _ _ _ _ a' w';exact agK ⟨ea,.tuple #[],by simp[results,results112],rfl,mz,hM,lU⟩
  |false=>
   simp only[afj,afx,afL];refine af7 ?_;show Code.wpIn _ _ _ _ _ a w1;exact agK ⟨fr.defers,.tuple #[],by simp[results,results112],rfl,Mi,λ_ _ h=>h,st⟩
 .have fR:GI w:=hG wB w qF st.below
  have fr:xW bF bN cS cR n ((d+1:Nat):Int) { tmps:=#[.int .i64 n,.int .i64 ((d+1:Nat):Int),cS,.pointer (some ⟨bN,0,none⟩),.pointer (some ⟨bF,0,none⟩),cR]++Array.replicate (f112.ntmps-6) undef,defers:=[] }:=
   ⟨by simp[ntmps112],rfl,bK _ _ 0 (by simp),bK _ _ 1 (by simp),bK _ _ 2 (by simp),bK _ _ 3 (by simp),bK _ _ 4 (by simp),bK _ _ 5 (by simp)⟩
  rw[y_,si]at hB⊢
  have Vs:(((d+1:Nat):Int)==0)=false:=by rw[afN];omega
  generalize U7:((d+1:Nat):Int)=mn at*
  refine afc (afc ?_);refine bG hG cC (n:=50) (ac:=af.qa c112.qa) (W:=W6) (by kernel_rfl) (by kernel_rfl) (by kernel_rfl) fR (λ_ _=>True) (eJ s es fv n mn .bB) fr.size fr.defers (st.dX fr ⟨rfl,.bB _⟩) (K:=λS' _=>S' 10=.bool false) ?_ ?_
  .simp[c112,af.qa,eJ,Vs]
  rintro g S' H' a w1 hg R1 hb bb;have fr:=fr.step R1.size (by rw[R1.defers,hg]<;>rfl) bb;have st:=st.grow (by have:=R1.below;rwa [R1.base]at this);have ht:=R1.slot 10 (by decide) (λh=>h);rw[hb]at ht;have uB:=ht.dN;clear ht bb hb hg R1 g S' H' fR;have fR:GI w1:=hG wB w1 qF st.below;show Code.wpIn _ _ _ _ _ a w1;refine afF (t:=false) uB ?_;simp only[afj,afx];refine af7 ?_;show Code.wpIn _ _ _ _ _ a w1;refine afc ?_;refine bG hG cC (n:=50) (ac:=af.qa c112.qb) (W:=W6) (by kernel_rfl) (by kernel_rfl) (by kernel_rfl) fR (λ_ _=>True) (eJ s es fv n mn .bB) fr.size fr.defers (st.dX fr ⟨rfl,.bB _⟩) (K:=λS' _=>S' 8=.int .i64 n) ?_ ?_
  .simp[c112,af.qa,af.qb,eJ]
  rintro g S' H' a w2 hg R1 hb bb;have fr:=fr.step R1.size (by rw[R1.defers,hg]<;>rfl) bb;have st:=st.grow (by have:=R1.below;rwa [R1.base]at this);have ht:=R1.slot 8 (by decide) (λh=>h);rw[hb]at ht;have Pt:=ht.int_eq;clear ht bb hb hg R1 g S' H' fR uB;show Code.wpIn _ _ _ _ _ a w2
  refine af3 (ahq (λa w=>∃(i:Nat)(zy:List (List Int))(mz:Nat->Nat->Prop),xW bF bN cS cR n mn a/\a.tmps.getD 8 undef=.int .i64 (i:Nat)/\n<=i/\i<=s.name.words.length/\(∀b k,Mi b k->mz b k)/\Lv wB mz bF bN s cS cR fv zy es w/\zy++mo s d es i=fs++mo s d es n)
   (λa _=>match a.tmps.getD 8 undef with|.int _ i=>s.name.words.length-i.toNat|_=>0) ⟨n,fs,Mi,fr,Pt,afg _,hn,λ_ _ h=>h,st,rfl⟩ ?_)
  clear Pt;rintro a w3 ⟨i,zy,mz,fr,h8,NP,cD,LX,st,eQ⟩;have fR:GI w3:=hG wB w3 qF st.below
  have FU:(AV.int .i64 (i:Int)).aI=.int .i64 (i:Int)/\RV (λ_ _=>True) cd w3 (.int .i64 (i:Int)) (a.tmps.getD 8 undef):=⟨rfl,by rw[h8];exact .data _ _ (.int _ _)⟩
  refine afc (afc ?_);refine bG hG cC (n:=50) (ac:=af.qa mr.qa) (W:=W6) (by kernel_rfl) (by kernel_rfl) (by kernel_rfl) fR (λ_ _=>True) (eJ s es fv n mn (.int .i64 (i:Int))) fr.size fr.defers (st.dX fr FU) (K:=λS' _=>S' 8=.int .i64 i/\S' 25=.bool (decide (i<s.name.words.length))) ?_ ?_
  .simp[c112,mr,af.qa,af.qb,eJ,ao,ae]
  rintro g S' H' a4 w4 hg R1 ⟨q8,O4⟩ bb;have fr:=fr.step R1.size (by rw[R1.defers,hg]<;>rfl) bb;have st:=st.grow (by have:=R1.below;rwa [R1.base]at this);have ht:=R1.slot 25 (by decide) (λh=>h);rw[O4]at ht;have KG:=ht.dN;have hu:=R1.slot 8 (by decide) (λh=>h);rw[q8]at hu;have Gu:=hu.int_eq;clear ht hu bb q8 O4 hg R1 g S' H' fR FU;have fR:GI w4:=hG wB w4 qF st.below;show Code.wpIn _ _ _ _ _ a4 w4;refine afF (t:=decide (i<s.name.words.length)) KG ?_
  by_cases aw:i<s.name.words.length
  case neg=>
   simp only[aw,agY,afj,afx];refine agT ?_
   have JO:i=s.name.words.length:=by omega
   rw[JO,B2,afL]at eQ;simp only[Exit.then,Exit.inBlock,afH];rw[<-eQ];exact⟨fr.defers,.tuple #[],by simp[results,results112],rfl,mz,LX,st⟩
  simp only[aw,agZ,afH];refine af7 ?_;show Code.wpIn _ _ _ _ _ a4 w4;rw[zL s d es aw]at eQ
  have FU:(AV.int .i64 (i:Int)).aI=.int .i64 (i:Int)/\RV (λ_ _=>True) cd w4 (.int .i64 (i:Int)) (a4.tmps.getD 8 undef):=⟨rfl,by rw[Gu];exact .data _ _ (.int _ _)⟩
  have G':jY s.name i=s.name.words[i].free:=by simp[jY,ko,aw]
  have fin:∀ {Q:Exit→Act→World→Prop} {a5:Act} {w5:World} {Ny:List (List Int)} {MM:Nat→Nat→Prop},xW bF bN cS cR n mn a5→a5.tmps.getD 8 undef = .int .i64 (i:Nat)→Lv wB MM bF bN s cS cR fv Ny es w5 →
    (∀a6 w6,xW bF bN cS cR n mn a6->a6.tmps.getD 8 undef=.int .i64 ((i+1:Nat):Int)->Lv wB MM bF bN s cS cR fv Ny es w6->Q .normal a6 w6)->∀(id:Nat)(ops:Array Oper),ur (.region id ops false)=true->kT prog 50 (.region id ops false)=af.qb mr.qb->Ai ops W6=true->(Code.region id ops false).wpIn (FR none) 0 prog Q a5 w5:=λ{Q a5 w5 Ny MM} xG U9 y3 hQ id ops hc wR hW=>by
   have SA:(AV.int .i64 (i:Int)).aI=.int .i64 (i:Int)/\RV (λ_ _=>True) cd w5 (.int .i64 (i:Int)) (a5.tmps.getD 8 undef):=⟨rfl,by rw[U9];exact .data _ _ (.int _ _)⟩
   refine bG hG cC (n:=50) hc wR hW (hG wB w5 qF y3.below) (λ_ _=>True) (eJ s es fv n mn (.int .i64 (i:Int))) xG.size xG.defers (y3.dX xG SA) (K:=λS' _=>S' 8=.int .i64 ((i+1:Nat):Int)) ?_ ?_
   .have nk:IntKind.i64.wrap ((i:Int)+1)=i+1:=aN (by omega);simp[c112,mr,af.qa,af.qb,eJ,nk]
   intro g S' H' a6 w6 hg R1 BN nR;have QU:=R1.slot 8 (by decide) (λh=>h);rw[BN]at QU;exact hQ a6 w6 (xG.step R1.size (by rw[R1.defers,hg]<;>rfl) nR) QU.int_eq (y3.grow (by have:=R1.below;rwa [R1.base]at this))
  refine afc (af3 (afc ?_));refine bG hG cC (n:=50) (ac:=af.qa qP) (W:=W6) (by kernel_rfl) (by kernel_rfl) (by kernel_rfl) fR (λ_ _=>True) (eJ s es fv n mn (.int .i64 (i:Int))) fr.size fr.defers (st.dX fr FU) (K:=λS' _=>S' 8=.int .i64 i/\S' 34=.bool (jY s.name i)) ?_ ?_
  .rw[G'];simp[c112,mr,qP,af.qa,af.qb,eJ,ao,ae,aw,bW]
  rintro g S' H' a5 w5 hg R1 ⟨q8,HT⟩ bb;have fr:=fr.step R1.size (by rw[R1.defers,hg]<;>rfl) bb;have st:=st.grow (by have:=R1.below;rwa [R1.base]at this);have ht:=R1.slot 34 (by decide) (λh=>h);rw[HT]at ht;have Q4:=ht.dN;have hu:=R1.slot 8 (by decide) (λh=>h);rw[q8]at hu;have Gu:=hu.int_eq;clear ht hu bb q8 HT hg R1 g S' H' fR FU KG;have fR:GI w5:=hG wB w5 qF st.below;show Code.wpIn _ _ _ _ _ a5 w5;refine afF (t:=jY s.name i) Q4 ?_
  cases pS:jY s.name i with
  |false=>
   simp only[afj,afx];refine af7 ?_;simp only[Exit.then,Exit.inBlock];rw[pS]at eQ;refine fin fr Gu st (λa6 w6 Aq BN Bd=>?_) _ _ (by kernel_rfl) (by kernel_rfl) (by kernel_rfl);refine⟨⟨i+1,zy,mz,Aq,BN,by omega,by omega,LX,Bd,by simpa using eQ⟩,?_⟩;rw[BN,h8];show s.name.words.length-((i+1:Nat):Int).toNat<s.name.words.length-(i:Int).toNat;rw[Int.toNat_natCast,Int.toNat_natCast];omega
  |true=>
   simp only[afH];rw[pS]at eQ
   have Gp:es.length+1<s.name.words.length:=by omega
   obtain⟨u,qG,xF,v,tw,xN,f1,f2,f3,f4,n1,n2,n3,n4⟩:=st.st;obtain⟨i3,pQ,lr⟩:=bh (P:=prog) (t:=3) (s:=1) (by kernel_rfl);obtain⟨i23,CO,y4⟩:=bh (P:=prog) (t:=23) (s:=1) (by kernel_rfl);have Nn:(ints es).length=es.length:=b_ es;refine afc ?_
   refine uD cC (n:=50) (ac:=af.qa tz) (by kernel_rfl) (by kernel_rfl) (by kernel_rfl) (W:=x_) (by kernel_rfl) (λ_ _=>False)
    (λt=>match t with|3=>.box 3 0|8=>.int .i64 (i:Int)|_=>.bB) (nm:=3) (tp:=3) (es:=ints es) (es':=ints (es++[(i:Int)])) (by decide) rfl fr.t3 fr.size fr.defers n1 pQ (by rw[lr,Nn];exact n2) (by rw[lr];exact n3.mono (bz.same λ_ _ _ h=>h.elim)) ?_ ?_ (by rw[lr];exact nV _) (pj _) ?_
   .intro t ht;split
    .exact⟨rfl,.inl ⟨rfl,fr.t3⟩⟩
    .exact⟨rfl,.inr (by rw[Gu];exact .data _ _ (.int _ _))⟩
    .exact⟨rfl,.inr (.bB _)⟩
   .have pB:es.length+1<1048576:=by omega
    have Qr:ints (es++[(i:Int)])=ints es++[.int .i64 (i:Int)]:=by simp[ints]
    have eK:=jS es;have k1:aM 1 [AV.int .i64 (i:Int)]=true:=rfl;rw[Qr]
    cases A4:v.ownBlock with
    |none=>
     have he:es=[]:=by
      rcases n2.2 with⟨_,h⟩|⟨gg,cap,cur,rfl,_⟩
      .exact afR h
      .cases A4
     subst he;simp[c112,mr,qP,tz,af.qa,af.qb,tT,A4,k1,ints]
    |some bv=>
     simp[c112,mr,qP,tz,af.qa,af.qb,tT,A4,k1,eK,pB]
   intro a6 w6 v' MC xs6 Rt GX nR QO Cv GC C0 Gg;have Aq:=fr.step Rt GX (fC.weaken nR λt ht=>by simp[W6]at ht;simp[x_];omega);have BN:a6.tmps.getD 8 undef=.int .i64 (i:Int):=(nR 8 rfl).trans Gu;have Bd:Lv wB mz bF bN s cS cR fv zy (es++[(i:Int)]) w6:=st.c_ ⟨_,n1⟩ C0 QO (by rw[lr,b_]at Cv;exact Cv) (by rw[lr]at GC;exact GC) Gg;clear Gg C0 GC Cv QO n1 n2 n3 n4 f1 f2 f3 f4;show Code.wpIn _ _ _ _ _ a6 w6
   have Sq:(AV.int .i64 (i:Int)).aI=.int .i64 (i:Int)/\RV (λ_ _=>True) cd w6 (.int .i64 (i:Int)) (a6.tmps.getD 8 undef):=⟨rfl,by rw[BN];exact .data _ _ (.int _ _)⟩
   refine afc ?_;refine iR hG (n:=50) (p:=5) (l2:=[5]) rfl (by kernel_rfl) (by kernel_rfl) (l:=(tz.qb.qa.dl).take 5) (by kernel_rfl) (by decide) (W:=x_) (by kernel_rfl) (hG wB w6 qF Bd.below) (λ_ _=>True) (eJ s (es++[(i:Int)]) fv n mn (.int .i64 (i:Int))) Aq.size Aq.defers (Bd.dX Aq Sq) (K:=λS' _=>S' 39=.val fv/\S' 41=.int .i64 ((i+1:Nat):Int)/\S' 43=.int .i64 (d:Nat)) ?_ ?_
   .have nk:IntKind.i64.wrap ((i:Int)+1)=i+1:=aN (by omega)
    have np:IntKind.i64.wrap (mn-1)=d:=by rw[aN (by omega)];omega
    simp[c112,mr,qP,tz,af.qa,af.qb,af.dl,eJ,nk,np]
   rintro g S' H' a7 w7 hg R1 ⟨OP,RI,GO⟩ xT;have Nz:=Aq.step R1.size (by rw[R1.defers,hg]<;>rfl) (fC.weaken xT λt ht=>by simp[W6]at ht;simp[x_];omega);have Vr:=Bd.grow (by have:=R1.below;rwa [R1.base]at this);have Ws:a7.tmps.getD 8 undef=.int .i64 (i:Int):=(xT 8 rfl).trans BN;have IV:=R1.slot 39 (by decide) (λh=>h);rw[OP]at IV;have IV:=IV.eU;have Il:=R1.slot 41 (by decide) (λh=>h);rw[RI]at Il;have Il:=Il.int_eq;have tY:=R1.slot 43 (by decide) (λh=>h);rw[GO]at tY;have tY:=tY.int_eq;clear R1 hg xT OP RI GO
   have iJ:ec s.name (es++[(i:Int)])=true:=by rw[DP ho (by rw[si];exact NP) aw Gp];exact pS
   have TW:(zy++gk s d (es++[(i:Int)])).length<=1000:=by
    rw[<-eQ]at hB;simp only[afH,afm]at hB⊢;omega
   have iN:=ih (i+1) (es++[(i:Int)]) zy mz w7 (by unfold kI;simp) (by omega) (by simp;omega) iJ TW Vr;refine eS rfl rfl (by rfl) (f:=112) (args:=#[.int .i64 ((i+1:Nat):Int),.int .i64 (d:Nat),cS,.pointer (some ⟨bN,0,none⟩),.pointer (some ⟨bF,0,none⟩),cR]) (w':=w7) ?_ iN ?_
   .have WJ:a7.eval (.tmp 39)=fv:=IV;have UI:a7.eval (.tmp 41)=.int .i64 ((i+1:Nat):Int):=Il;have VV:a7.eval (.tmp 43)=.int .i64 (d:Nat):=tY;refine(rC (f:=.tmp 39) (x:=.tmp 41) (y:=.tmp 43) w7 rfl rfl rfl (WJ.trans jQ) (by kernel_rfl)).trans ?_;rw[UI,VV]
    rfl
   rintro en w8 ⟨rfl,Rp,UQ,Qx⟩;refine⟨_,rfl,?_⟩;show wpOpsIn _ _ _ _ _ [] (a7.put (some 44) (.tuple #[])) w8
   obtain⟨a8,I_⟩:∃a8,a7.put (some 44) (.tuple #[])=a8:=⟨_,rfl⟩
   have I7:fC x_ a7 a8:=by rw[<-I_];exact fC.put (λt ht=>by cases ht;rfl) _
   have Qa:a8.tmps.size=50:=by rw[<-I_];simp[Act.put,Nz.size]
   have Pv:a8.defers=[]:=by rw[<-I_];exact Nz.defers
   rw[I_];have I5:=Nz.step Qa Pv (fC.weaken I7 λt ht=>by simp[W6]at ht;simp[x_];omega);have Vt:a8.tmps.getD 8 undef=.int .i64 (i:Int):=(I7 8 rfl).trans Ws;show Code.wpIn _ _ _ _ _ a8 w8;obtain⟨u,qG,xF,v8,QD,Jk,f1,f2,f3,f4,n1,n2,n3,n4⟩:=Qx.st
   have LI:Jk.length=(es.length+1)*1:=by have:=n2.1;simpa using this
   refine afq ?_;show wpOpsIn _ _ _ _ _ [0,1,2,3,4,5] a8 w8
   refine EL (P:=prog) (n:=50) (T:=23) (el:=3) (p:=3) (t1:=45) (t2:=46) (t3:=47) (t4:=48) (t5:=49) (bN:=bN) (i:=i3) (iT:=i23) (v:=v8) (ty:=QD) (k:=es.length) (xs:=Jk.take (es.length*1)) (last:=Jk.drop (es.length*1))
    rfl rfl rfl rfl rfl rfl ⟨rfl,rfl,rfl⟩ ⟨rfl,rfl,rfl⟩ ⟨rfl,rfl,rfl⟩ ⟨rfl,rfl,rfl⟩ ⟨rfl,rfl,rfl⟩ ⟨rfl,rfl,rfl⟩ rfl rfl rfl (by kernel_rfl) CO y4 pQ (by decide) I5.size (by decide) I5.t3 n1 (by rw[agA,lr];simpa using n2) (by rw[lr,afJ,LI];omega) (by omega) ?_
   intro a9 v9 Sx Sp Dx Jt Qn BD
   have ke:∀b,b≠bN->(w8.setRow bN #[v9]).heap[b]?=w8.heap[b]?:=λb hb=>af4 w8 bN b #[v9] hb
   have SG:Lv wB Rp bF bN s cS cR fv (zy++gk s d (es++[(i:Int)])) es (w8.setRow bN #[v9]):=by
    refine Qx.c_ ⟨_,n1⟩ ⟨rfl,rfl,rfl,by simp,λb _ hm=>ke b λe=>hm (.inl e)⟩ (agq w8 bN _ #[v9] QD (0,0) n1) (IL:=Jk.take (es.length*1)) (eO (by rw[lr]at BD;exact BD) λb hb=>ke b λe=>by rw[Jt]at hb;have:=(n2.lt b hb).1;omega) ⟨nV es,λj hj k JQ=>?_⟩ λb hb=>.inl (by rw[<-Jt];exact hb)
    have Hd:k=0:=by
     have:=(nV es _ (ae_ hj)).1;omega
    subst Hd
    have wy:j<es.length:=by rw[b_]at hj;exact hj
    have fj:j<(ints (es++[(i:Int)])).length:=by rw[b_];simp;omega
    have jy:(ints (es++[(i:Int)]))[j]=(ints es)[j]:=by
     simp only[ints,afu,afv,afB];exact afz (by simpa using wy)
    obtain⟨x,x1,x2⟩:=n3.2 j fj 0 (by rw[jy];exact JQ);refine⟨x,by rw[agR (by omega)];exact x1,?_⟩;simp only[jy]at x2;exact x2.mono (bz.of_eq λ_ _ h=>h.elim)
   have Kh:fC x_ a8 a9:=λt ht=>by
    have:t<35:=by simp[x_]at ht;omega
    exact Dx t (by omega) (by omega) (by omega) (by omega) (by omega)
   have VZ:=I5.step Sx (Sp.trans I5.defers) (fC.weaken Kh λt ht=>by simp[W6]at ht;simp[x_];omega);have mF:a9.tmps.getD 8 undef=.int .i64 (i:Int):=(Kh 8 rfl).trans Vt;clear BD ke;generalize w8.setRow bN #[v9]=w9 at SG⊢;simp only[Exit.then,Exit.inBlock];refine fin VZ mF SG (λQ5 DT Pp KL QP=>?_) _ _ (by kernel_rfl) (by kernel_rfl) (by kernel_rfl);refine⟨⟨i+1,_,Rp,Pp,KL,by omega,by omega,λb k h=>UQ b k (LX b k h),QP,by rw[<-eQ];simp⟩,?_⟩;rw[KL,h8];show s.name.words.length-((i+1:Nat):Int).toNat<s.name.words.length-(i:Int).toNat;rw[Int.toNat_natCast,Int.toNat_natCast];omega
structure BG(bF bN bR:Nat)(cS:Value)(a:Act):Prop where
 size:a.tmps.size=32
 defers:a.defers=[]
 t1:a.tmps.getD 1 undef=cS
 t4:a.tmps.getD 4 undef=.pointer (some ⟨bF,0,none⟩)
 t5:a.tmps.getD 5 undef=.pointer (some ⟨bN,0,none⟩)
 t6:a.tmps.getD 6 undef=.pointer (some ⟨bR,0,none⟩)
def wQ:Nat->Bool:=λt=>decide (7<=t)
def ef(s:aq)(fs:List (List Int))(fv:Value)(zi Am x7:AV):aF:=λt=>match t with
 |1=>.ref (ao s)
 |4=>.ref [.slice .view (fs.map vI)]
 |6=>.ref [.val fv]
 |7=>x7
 |15=>zi
 |16=>Am
 |_=>.bB
section
variable{wB:World}{Mi:Nat->Nat->Prop}{bF bN bR:Nat}{s:aq}{cS fv:Value}{fs:List (List Int)}{es:List Int}{w:World}{a:Act}
theorem BG.step{a':Act}(fr:BG bF bN bR cS a)(bL:a'.tmps.size=32)(ea:a'.defers=[])(h:fC wQ a a'):BG bF bN bR cS a':=
 ⟨bL,ea,(h 1 rfl).trans fr.t1,(h 4 rfl).trans fr.t4,(h 5 rfl).trans fr.t5,(h 6 rfl).trans fr.t6⟩
theorem Lv.Da(st:Lv wB Mi bF bN s cS (.pointer (some ⟨bR,0,none⟩)) fv fs es w)(pr:Nat->Nat->Prop)(K5:∀b k,wB.heap.size<=b->pr b k):RV pr cd w (.ref [.slice .view (fs.map vI)]) (.pointer (some ⟨bF,0,none⟩)):=by
 obtain⟨u,qG,xF,v,tw,xN,f1,f2,f3,f4,n1,n2,n3,n4⟩:=st.st;refine .data _ _ (.ref _ _ _ (λ_=>u) (λi hi=>?_) (λk hk=>⟨K5 _ _ st.ge.1,?_⟩) (λk hk=>?_))
 .have:i=0:=by simpa using hi
  subst this;rfl
 .have:k=0:=by simpa using hk
  subst this;simp[World.cell?,f1]
 .have:k=0:=by simpa using hk
  subst this
  exact RD.ofRow (size:=1) (es:=fs.map vI) (by rw[afi];exact f2) (f3.mono (bz.same λb k _ h=>K5 b k h.2)) λb hb k _=>K5 b k (by have:=(f2.lt b hb).1;have:=st.ge.1;omega)
theorem Lv.gh (st:Lv wB Mi bF bN s cS (.pointer (some ⟨bR,0,none⟩)) fv fs es w) (fr:BG bF bN bR cS a) {zi Am x7:AV} (qc:zi.aI=zi∧RV (fun _ _=>True) cd w zi (a.tmps.getD 15 undef)) (oz:Am.aI=Am∧RV (fun _ _=>True) cd w Am (a.tmps.getD 16 undef)) (h7:x7.aI=x7∧RV (fun _ _=>True) cd w x7 (a.tmps.getD 7 undef)) :
  ∀t,t<32->(ef s fs fv zi Am x7 t).aI=ef s fs fv zi Am x7 t/\RV (λ_ _=>True) cd w (ef s fs fv zi Am x7 t) (a.tmps.getD t undef):=by
 intro t ht;unfold ef;split
 .rw[fr.t1];exact⟨rfl,st.s.mono (bz.same λ_ _ _ _=>trivial) λ_ _ h=>h⟩
 .rw[fr.t4];exact⟨rfl,st.Da _ λ_ _ _=>trivial⟩
 .rw[fr.t6];exact⟨rfl,st.r.mono (bz.same λ_ _ _ _=>trivial) λ_ _ h=>h⟩
 .exact h7
 .exact qc
 .exact oz
 .exact⟨rfl,.bB _⟩
end
theorem RD.bounded{A:Nat->Prop}{w:World}{es:List AV}{c:Value}(PT:∀x∈es,∀c∈x.cells,jA c=true)(h:RD (λb _=>A b) w (.slice .view es) c):∃hi:Nat->Nat,RD (λb k=>A b/\k<hi b) w (.slice .view es) c:=by
 cases h with
 |qw=>exact⟨λ_=>0,.qw _⟩
 |sF _ a=>exact⟨λ_=>0,.sF _ a⟩
 |slice _ _ b off cap size cs iV hn bL h1 hc hr=>
  exact⟨λ_=>off+es.length*size,.slice _ _ b off cap size cs iV hn bL h1 (λk hk=>⟨⟨(hc k hk).1,(by show off+k<off+es.length*size;omega)⟩,(hc k hk).2⟩) λi hi j hj=>(hr i hi j hj).jA (PT _ (ae_ hi) _ (ae_ hj))⟩
theorem Pm(hG:au GI)(s:aq)(hs:er s):AC prog GI 56 [a_ s] (.ret (.d_ (xu s))):=by
 have jW:=mK hG s hs
 refine AC.gY func56 rfl ntmps56 (by simp) λcc w=>?_
 refine dw hG c56.qa (λS' H'=>S' 1=.box 1 0/\H' 1=some (ao s)) ?_ ?_
 .simp[c56,af.qa,a_,ao,ae]
 rintro S1 H1 ⟨s1,h1⟩;refine SW.scope ?_;show SW prog GI 32 none (.seq (.seq _ (.cond _ _ _)) _) _ _ _ _;refine SW.seq (dw hG (.ops [⟨some 8,none,.load .any true 15 (.t 1)⟩,⟨some 9,none,.call 77 [.t 8]⟩,⟨some 10,none,.not (.t 9)⟩]) (λS' H'=>S' 10=.bool (!cq s)/\S' 1=.box 1 0/\H' 1=some (ao s)) ?_ ?_)
 .simp[s1,h1,ao,ae];refine oc jW ?_;simp[s1,h1,ao,ae]
 clear s1 h1;rintro S2 H2 ⟨bw,s1,h1⟩;unfold xu
 cases hI:cq s with
 |false=>
  refine SW.cond rfl true (by show S2 10=_;rw[bw,hI]<;>rfl) ?_;show SW prog GI 32 none (.seq _ .ret) _ _ _ _;refine dw hG (.ops [⟨some 2,none,.mv true (.c (.slice .nil []))⟩,⟨some 3,none,.mv true (.c (.int .i64 2))⟩]) (λS' H'=>S' 2=.slice .nil []/\S' 3=.int .i64 2) (by simp) ?_;rintro S3 H3 ⟨s2,s3⟩;refine SW.ret ⟨eD.plain rfl,rfl,_,?_,rfl⟩;show cw prog 32 [.tmp 2,.tmp 3] S3 H3=_;simp[cw,cH,cI,s2,s3,AV.bU,AV.out,AV.vw,AV.cm,vI,ints]
 |true=>
 have jz:=(dP (eo hI).name).words;refine SW.cond rfl false (by show S2 10=_;rw[bw,hI]<;>rfl) (SW.skip ?_);show SW prog GI 32 none (.seq _ (.seq _ (.seq _ (.seq _ (.seq (.label 0) (.seq (.seq _ (.block _ _)) _)))))) _ _ _ _;simp only[afH];intro w0 g a wB m dS ho R
 obtain⟨out,iJ⟩:∃out,eZ.ret (.d_ (sP s))=out:=⟨_,rfl⟩
 rw[iJ]
 have D6:Below w0.heap.size w0 wB:=by have:=R.below;rwa [R.base]at this
 have qF:GI wB:=hG w0 wB dS D6;have rS:=lV R (by decide) s1 h1 (tu s)
 obtain⟨cS,QH⟩:∃cS,a.tmps.getD 1 undef=cS:=⟨_,rfl⟩
 rw[QH]at rS;have bL:=R.size
 have ea:a.defers=[]:=by rw[R.defers,ho]<;>rfl
 have finish:∀ (aE:Act) (wE:World) (o2:Ow) (DD:List AV) (e:Int) (gq:Nat→Nat),aE.tmps.size=32→aE.defers=[]→Below wB.heap.size wB wE→(AV.slice o2 DD).aI = .slice o2 DD→RD (fun b k=>(wB.heap.size≤b∧b < wE.heap.size)∧k < gq b) wE (.slice o2 DD) (aE.tmps.getD 2 undef)→aE.tmps.getD 3 undef = .int .i64 e →
   eZ.ret (.d_ [.slice .view DD,.int .i64 e])=out->QS prog w0 32 (JT prog 32 f56.results.toList out cc) .ret aE wE:=by
  intro aE wE o2 DD e gq Sb SJ Bg Pk jX h3 iJ;have RG:=R.mw Bg
  have hle:g.base<=wB.heap.size:=by rw[R.base];exact D6.size
  have RC:=RG.Dd (G:=λb=>wB.heap.size<=b/\b<wE.heap.size) gq (λb hb=>by
   refine⟨⟨agu hle hb.1,(R.fresh b hb.1).1,(R.fresh b hb.1).2,λi hi=>?_⟩,hb.2,?_⟩
   .obtain⟨_,_,_,_,_,q3,_⟩:=R.box i b hi;have:=(afe.1 q3).1;omega
   .rw[ho]<;>rfl)
  have RE:=RC.RM (a2:=aE) (S2:=λt=>if t=2 then .slice o2 DD else if t=3 then .int .i64 e else .bB) g.old rfl Sb (by rw[ho];exact SJ) (by rw[ho];exact λ_ h=>by cases h) RC.still RC.grown (by rw[ho];exact λ_ _ h=>by cases h) (λt ht=>by
   by_cases h2:t=2
   .subst h2;simp only[afH];refine⟨Pk,.data _ _ (jX.mono (bz.same λb k _ hp=>.inr ⟨agu hle hp.1.1,?_⟩))⟩;unfold Gh.Dd;simp only[if_pos hp.1];exact hp.2
   .by_cases OX:t=3
    .subst OX;simp only[if_neg h2,afH];rw[h3];exact⟨rfl,.data _ _ (.int _ _)⟩
    .simp only[if_neg h2,if_neg OX]
     exact⟨rfl,.bB _⟩)
  refine⟨_,_,_,RE,?_⟩;refine⟨by rw[ho];exact eD.plain rfl,by rw[ho]<;>rfl,_,?_,iJ.symm⟩;show cw prog 32 [.tmp 2,.tmp 3] _ _=_;simp[cw,cH,cI,AV.bU,AV.out,AV.vw,AV.cm]
 have dW:∀(a:Act)(d t:Nat)(c:Value),t≠d->(a.put (some d) c).tmps.getD t undef=a.tmps.getD t undef:=λa d t c h=>by
  simp[Act.put,afb (afQ h)]
 have gP:∀(a:Act)(d:Nat)(c:Value),a.tmps.size=32->d<32->(a.put (some d) c).tmps.getD d undef=c:=λa d c h hd=>by
  simp[Act.put,h,hd]
 have ju:∀(a:Act)(d:Option Nat)(c:Value),(a.put d c).tmps.size=a.tmps.size:=λa d c=>by cases d<;>simp[Act.put]
 have pL:∀(a:Act)(d:Option Nat)(c:Value),(a.put d c).defers=a.defers:=λa d c=>by cases d<;>rfl
 obtain⟨bF,Fh⟩:∃bF,wB.heap.size=bF:=⟨_,rfl⟩
 refine afc (afq ?_);show wpOpsIn _ _ _ _ _ [0] a wB;refine aW rfl rfl (by rfl) (iQ (t:=141) (z:=.slice none 0 0) rfl (by kernel_rfl)) ?_;show Code.wpIn _ _ _ _ _ (a.put (some 4) (.pointer (some ⟨wB.heap.size,0,none⟩))) (wB.alloc (.cells #[.slice none 0 0] 141))
 obtain⟨a2,ic⟩:∃a2,a.put (some 4) (.pointer (some ⟨wB.heap.size,0,none⟩))=a2:=⟨_,rfl⟩
 obtain⟨w2,fL⟩:∃w2,wB.alloc (.cells #[.slice none 0 0] 141)=w2:=⟨_,rfl⟩
 have CT:w2.heap.size=bF+1:=by rw[<-fL,<-Fh];simp
 have J_:w2.heap[bF]?=some (.cells #[.slice none 0 0] 141 (0,0)):=by rw[<-fL,<-Fh];exact afO wB _
 have Kr:Below bF wB w2:=by rw[<-fL,<-Fh];exact(aga _ _).alloc (afg _) _
 rw[ic,fL];refine afc (afq ?_);show wpOpsIn _ _ _ _ _ [0] a2 w2;refine aW rfl rfl (by rfl) (iQ (t:=23) (z:=.slice none 0 0) rfl (by kernel_rfl)) ?_;show Code.wpIn _ _ _ _ _ (a2.put (some 5) (.pointer (some ⟨w2.heap.size,0,none⟩))) (w2.alloc (.cells #[.slice none 0 0] 23))
 obtain⟨a3,rq⟩:∃a3,a2.put (some 5) (.pointer (some ⟨w2.heap.size,0,none⟩))=a3:=⟨_,rfl⟩
 obtain⟨w3,mq⟩:∃w3,w2.alloc (.cells #[.slice none 0 0] 23)=w3:=⟨_,rfl⟩
 have rW:w3.heap.size=bF+2:=by rw[<-mq];simp[CT]
 have CY:w3.heap[bF+1]?=some (.cells #[.slice none 0 0] 23 (0,0)):=by rw[<-mq,<-CT];exact afO w2 _
 have yZ:Below (bF+1) w2 w3:=by rw[<-mq,<-CT];exact(aga _ _).alloc (afg _) _
 rw[rq,mq];refine afc (afq ?_);show wpOpsIn _ _ _ _ _ [0] a3 w3;refine aW rfl rfl (by rfl) (iQ (t:=142) (z:=.nilFunc) rfl (by kernel_rfl)) ?_;show Code.wpIn _ _ _ _ _ (a3.put (some 6) (.pointer (some ⟨w3.heap.size,0,none⟩))) (w3.alloc (.cells #[.nilFunc] 142))
 obtain⟨a4,jR⟩:∃a4,a3.put (some 6) (.pointer (some ⟨w3.heap.size,0,none⟩))=a4:=⟨_,rfl⟩
 obtain⟨w4,jz⟩:∃w4,w3.alloc (.cells #[.nilFunc] 142)=w4:=⟨_,rfl⟩
 have C9:w4.heap.size=bF+3:=by rw[<-jz];simp[rW]
 have vU:w4.heap[bF+2]?=some (.cells #[.nilFunc] 142 (0,0)):=by rw[<-jz,<-rW];exact afO w3 _
 have tE:Below (bF+2) w3 w4:=by rw[<-jz,<-rW];exact(aga _ _).alloc (afg _) _
 rw[jR,jz]
 have z2:a2.tmps.size=32:=by rw[<-ic,ju];exact bL
 have z3:a3.tmps.size=32:=by rw[<-rq,ju];exact z2
 have z4:a4.tmps.size=32:=by rw[<-jR,ju];exact z3
 have u1:a4.tmps.getD 1 undef=cS:=by rw[<-jR,dW _ _ _ _ (by decide),<-rq,dW _ _ _ _ (by decide),<-ic,dW _ _ _ _ (by decide),QH]
 have u4:a4.tmps.getD 4 undef=.pointer (some ⟨bF,0,none⟩):=by rw[<-jR,dW _ _ _ _ (by decide),<-rq,dW _ _ _ _ (by decide),<-ic,gP _ _ _ bL (by decide),Fh]
 have u5:a4.tmps.getD 5 undef=.pointer (some ⟨bF+1,0,none⟩):=by rw[<-jR,dW _ _ _ _ (by decide),<-rq,gP _ _ _ z2 (by decide),CT]
 have u6:a4.tmps.getD 6 undef=.pointer (some ⟨bF+2,0,none⟩):=by rw[<-jR,gP _ _ _ z3 (by decide),rW]
 have d4:a4.defers=[]:=by rw[<-jR,pL,<-rq,pL,<-ic,pL];exact ea
 refine afc (afq ?_);show wpOpsIn _ _ _ _ _ [0,1] a4 w4;refine aW rfl rfl (by rfl) (kB (fn:=.func 112) (c:=#[.tmp 1,.tmp 5,.tmp 4,.tmp 6]) rfl) ?_
 have iV:(#[Operand.tmp 1,.tmp 5,.tmp 4,.tmp 6].map a4.eval)=#[cS,.pointer (some ⟨bF+1,0,none⟩),.pointer (some ⟨bF,0,none⟩),.pointer (some ⟨bF+2,0,none⟩)]:=by
  simp only[afw,afv,afB,Act.eval];rw[u1,u4,u5,u6]
 rw[iV]
 obtain⟨fv,jQ⟩:∃fv:Value,fv=.func (.func 112) #[] #[cS,.pointer (some ⟨bF+1,0,none⟩),.pointer (some ⟨bF,0,none⟩),.pointer (some ⟨bF+2,0,none⟩)]:=⟨_,rfl⟩
 rw[<-jQ]
 obtain⟨a5,oH⟩:∃a5,a4.put (some 11) fv=a5:=⟨_,rfl⟩
 show wpOpsIn _ _ _ _ _ [1] (a4.put (some 11) fv) w4;rw[oH]
 have z5:a5.tmps.size=32:=by rw[<-oH,ju];exact z4
 have Ii:a5.tmps.getD 11 undef=fv:=by rw[<-oH];exact gP _ _ _ z4 (by decide)
 have v1:a5.tmps.getD 1 undef=cS:=by rw[<-oH,dW _ _ _ _ (by decide)];exact u1
 have v4:a5.tmps.getD 4 undef=.pointer (some ⟨bF,0,none⟩):=by rw[<-oH,dW _ _ _ _ (by decide)];exact u4
 have v5:a5.tmps.getD 5 undef=.pointer (some ⟨bF+1,0,none⟩):=by rw[<-oH,dW _ _ _ _ (by decide)];exact u5
 have v6:a5.tmps.getD 6 undef=.pointer (some ⟨bF+2,0,none⟩):=by rw[<-oH,dW _ _ _ _ (by decide)];exact u6
 have d5:a5.defers=[]:=by rw[<-oH,pL];exact d4
 obtain⟨i142,L9,MF⟩:=bh (P:=prog) (t:=142) (s:=1) (by kernel_rfl);refine dk rfl rfl (by rfl) (fM (x:=.tmp 6) (y:=.tmp 11) rfl v6 L9 MF vU Ii (by rw[jQ]<;>rfl)) ?_;show Code.wpIn _ _ _ _ _ (a5.put none undef) (w4.setRow (bF+2) #[fv])
 have fr:BG bF (bF+1) (bF+2) cS (a5.put none undef):=⟨z5,d5,v1,v4,v5,v6⟩
 have ke:∀b,b≠bF+2->(w4.setRow (bF+2) #[fv]).heap[b]?=w4.heap[b]?:=λb hb=>af4 w4 (bF+2) b #[fv] hb
 have we:(w4.setRow (bF+2) #[fv]).heap.size=bF+3:=by simp[C9]
 have Qz:Below bF wB w4:=Kr.trans ((yZ.mono (by omega)).trans (tE.mono (by omega)));have BE:Below bF wB (w4.setRow (bF+2) #[fv]):=Qz.trans ⟨rfl,rfl,rfl,by rw[we,C9];exact afg _,λk hk=>ke k (by omega)⟩
 have st:Lv wB (λb k=>(b<bF/\fy g true b k)\/(b=bF+2/\k=0)) bF (bF+1) s cS (.pointer (some ⟨bF+2,0,none⟩)) fv [] [] (w4.setRow (bF+2) #[fv]):=by
  refine⟨by rw[Fh];exact BE,⟨by omega,by omega,by omega⟩,?_,?_,?_,⟨.slice none 0 0,141,[],.slice none 0 0,23,[],?_,⟨rfl,.inl ⟨rfl,rfl⟩⟩,⟨λx hx=>by simp at hx,λj hj=>by simp at hj⟩,(λb hb=>by cases hb),?_,⟨rfl,.inl ⟨rfl,rfl⟩⟩,⟨λx hx=>by simp[ints]at hx,λj hj=>by simp[ints]at hj⟩,(λb hb=>by cases hb)⟩,?_,?_⟩
  .rintro b k (h|h)
   .rw[we];omega
   .rw[we];omega
  .rintro k (h|h)<;>omega
  .rintro k (h|h)<;>omega
  .rw[ke _ (by omega),tE.block _ (by omega),yZ.block _ (by omega)];exact J_
  .rw[ke _ (by omega),tE.block _ (by omega)];exact CY
  .have US:RV (λb k=>b<bF/\fy g true b k) cd wB (.ref (ao s)) cS:=rS.mono (bz.same λb k hb h=>⟨by omega,h⟩) λ_ _ h=>h
   exact US.mono (bz.of_eq λb k h=>⟨.inl h,BE.block b h.1⟩) λ_ _ h=>h
  .refine .data _ _ (.ref _ _ _ (λ_=>fv) (λi hi=>?_) (λk hk=>⟨.inr ⟨rfl,(by have h0:k<1:=hk;omega)⟩,?_⟩) (λk hk=>?_))
   .have:i=0:=by simpa using hi
    subst this;rfl
   .have:k=0:=by simpa using hk
    subst this;have:=agq w4 (bF+2) _ #[fv] 142 (0,0) vU;simp[World.cell?,this]
   .have:k=0:=by simpa using hk
    subst this;exact .val _ (by rw[jQ]<;>rfl)
 clear ke we BE Qz tE vU yZ CY Kr J_;generalize w4.setRow (bF+2) #[fv]=w5 at st⊢;generalize a5.put none undef=a6 at fr⊢;generalize(λb k=>(b<bF/\fy g true b k)\/(b=bF+2/\k=0))=Mi at st;clear v1 v4 v5 v6 d5 z5 Ii oH iV u1 u4 u5 u6 d4 z4 z3 z2
 have gi:∀{w:World},Below wB.heap.size wB w->GI w:=λh=>hG wB _ qF h
 have jk:∀(a:Act)(w:World)(t:Nat),(AV.bB).aI=AV.bB/\RV (λ_ _=>True) cd w AV.bB (a.tmps.getD t undef):=λa w t=>⟨rfl,.bB _⟩
 have iv:∀(a:Act)(w:World)(t:Nat)(k:Int),a.tmps.getD t undef=.int .i64 k->(AV.int .i64 k).aI=.int .i64 k/\RV (λ_ _=>True) cd w (.int .i64 k) (a.tmps.getD t undef):=λa w t k h=>⟨rfl,by rw[h];exact .data _ _ (.int _ _)⟩
 have vd:∀{w w':World}{g:Gh}{S:aF}{H:aK}{a':Act},Rel prog w 32 dU g S H a' w'->Below w.heap.size w w':=λR=>by have:=R.below;rwa [R.base]at this
 show Code.wpIn _ _ _ _ _ a6 w5;refine afc (wpIn_label ?_);show Code.wpIn _ _ _ _ _ a6 w5;refine afc (afc ?_);refine bG hG cC (n:=32) (ac:=.ops [⟨some 12,none,.fieldAddr 5 (.t 1)⟩,⟨some 13,none,.fieldAddr 7 (.t 12)⟩,⟨some 14,none,.load .any false 1 (.t 13)⟩,⟨some 15,none,.lO (.t 14)⟩,⟨some 16,none,.mv false (.c (.int .i64 0))⟩]) (W:=wQ) (by kernel_rfl) (by kernel_rfl) (by kernel_rfl) (gi st.below) (λ_ _=>True) (ef s [] fv .bB .bB .bB) fr.size fr.defers (st.gh fr (jk _ _ _) (jk _ _ _) (jk _ _ _)) (K:=λS' _=>S' 15=.int .i64 (s.name.words.length:Nat)/\S' 16=.int .i64 ((0:Nat):Int)) ?_ ?_
 .simp[ef,ao,ae]
 rintro g1 S1 H1 a7 w7 jq R1 ⟨ou,oA⟩ bb;have fr:=fr.step R1.size (by rw[R1.defers,jq]<;>rfl) bb;have st:=st.grow (vd R1);have xm:=R1.slot 15 (by decide) id;rw[ou]at xm;have xm:=xm.int_eq;have uR:=R1.slot 16 (by decide) id;rw[oA]at uR;have uR:=uR.int_eq;clear R1 jq bb ou oA;show Code.wpIn _ _ _ _ _ a7 w7
 refine af3 (ahq (λa w=>∃(k:Nat)(mz:Nat->Nat->Prop),BG bF (bF+1) (bF+2) cS a/\a.tmps.getD 15 undef=.int .i64 (s.name.words.length:Nat)/\a.tmps.getD 16 undef=.int .i64 (k:Nat)/\k<=s.name.words.length/\(∀j,j<k->gk s j []=[])/\Lv wB mz bF (bF+1) s cS (.pointer (some ⟨bF+2,0,none⟩)) fv [] [] w)
  (λa _=>match a.tmps.getD 16 undef with|.int _ i=>s.name.words.length-i.toNat|_=>0) ⟨0,Mi,fr,xm,uR,afK _,λj hj=>by omega,st⟩ ?_)
 clear xm uR fr st;rintro a8 w8 ⟨k,mz,fr,xm,uR,hk,nO,st⟩;refine afc ?_;refine bG hG cC (n:=32) (ac:=.ops [⟨some 17,none,.bin .lss (.t 16) (.t 15)⟩]) (W:=wQ) (by kernel_rfl) (by kernel_rfl) (by kernel_rfl) (gi st.below) (λ_ _=>True) (ef s [] fv (.int .i64 (s.name.words.length:Nat)) (.int .i64 (k:Nat)) .bB) fr.size fr.defers (st.gh fr (iv _ _ _ _ xm) (iv _ _ _ _ uR) (jk _ _ _)) (K:=λS' _=>S' 15=.int .i64 (s.name.words.length:Nat)/\S' 16=.int .i64 (k:Nat)/\S' 17=.bool (decide (k<s.name.words.length))) ?_ ?_
 .simp[ef]
 rintro g1 S1 H1 a9 w9 jq R1 ⟨ou,oA,Rh⟩ bb;have fr:=fr.step R1.size (by rw[R1.defers,jq]<;>rfl) bb;have st:=st.grow (vd R1);have zK:=R1.slot 15 (by decide) id;rw[ou]at zK;have zK:=zK.int_eq;have y8:=R1.slot 16 (by decide) id;rw[oA]at y8;have y8:=y8.int_eq;have FV:=R1.slot 17 (by decide) id;rw[Rh]at FV;have FV:=FV.dN;clear R1 jq bb ou oA Rh;show Code.wpIn _ _ _ _ _ a9 w9;refine afc (afF (t:=decide (k<s.name.words.length)) FV ?_)
 by_cases aw:k<s.name.words.length
 case neg=>
  simp only[aw,agY,afj,afx];refine agT ?_
  have LJ:k=s.name.words.length:=by omega
  subst LJ;simp only[Exit.then,Exit.inBlock,afH]
  have He:qg s=none:=by rw[rL];exact Cm _ nO
  show Code.wpIn _ _ _ _ _ a9 w9;refine afc (afc ?_);refine bG hG cC (n:=32) (ac:=.ops [⟨some 26,none,.load .any false 1 (.t 4)⟩,⟨some 27,none,.lO (.t 26)⟩,⟨some 28,none,.bin .eql (.t 27) (.c (.int .i64 0))⟩]) (W:=wQ) (by kernel_rfl) (by kernel_rfl) (by kernel_rfl) (gi st.below) (λ_ _=>True) (ef s [] fv .bB .bB .bB) fr.size fr.defers (st.gh fr (jk _ _ _) (jk _ _ _) (jk _ _ _)) (K:=λS' _=>S' 28=.bool true) ?_ ?_
  .simp[ef]
  rintro g1 S1 H1 aA wA jq R1 yC bb;have fr:=fr.step R1.size (by rw[R1.defers,jq]<;>rfl) bb;have st:=st.grow (vd R1);have pk:=R1.slot 28 (by decide) id;rw[yC]at pk;have pk:=pk.dN;show Code.wpIn _ _ _ _ _ aA wA;refine afF (t:=true) pk ?_;simp only[afH];refine afc ?_;refine bG hG cC (n:=32) (ac:=.ops [⟨some 2,none,.mv true (.c (.slice .nil []))⟩,⟨some 3,none,.mv true (.c (.int .i64 5))⟩]) (W:=λ_=>true) (by kernel_rfl) (by kernel_rfl) (by kernel_rfl) (gi st.below) (λ_ _=>True) (ef s [] fv .bB .bB .bB) fr.size fr.defers (st.gh fr (jk _ _ _) (jk _ _ _) (jk _ _ _)) (K:=λS' _=>S' 2=.slice .nil []/\S' 3=.int .i64 5) ?_ ?_
  .simp[ef]
  rintro g2 S2 H2 aB Fe lv R2 ⟨q2,q3⟩ _;have e2:=R2.slot 2 (by decide) id;rw[q2]at e2;have e3:=R2.slot 3 (by decide) id;rw[q3]at e3;refine agK (finish aB Fe .view [] 5 (λ_=>0) R2.size (by rw[R2.defers,lv]<;>rfl) (st.grow (vd R2)).below rfl (e2.j_ rfl).NR e3.int_eq ?_);rw[<-iJ];unfold sP
  rw[He]<;>rfl
 simp only[aw,agZ,afH];refine af7 ?_;show Code.wpIn _ _ _ _ _ a9 w9;refine afc (af3 ?_);refine afc ?_;refine bG hG cC (n:=32) (ac:=.ops [⟨some 18,none,.mv false (.t 16)⟩,⟨some 7,none,.mv true (.t 18)⟩]) (W:=wQ) (by kernel_rfl) (by kernel_rfl) (by kernel_rfl) (gi st.below) (λ_ _=>True) (ef s [] fv (.int .i64 (s.name.words.length:Nat)) (.int .i64 (k:Nat)) .bB) fr.size fr.defers (st.gh fr (iv _ _ _ _ zK) (iv _ _ _ _ y8) (jk _ _ _)) (K:=λS' _=>S' 15=.int .i64 (s.name.words.length:Nat)/\S' 16=.int .i64 (k:Nat)/\S' 7=.int .i64 (k:Nat)) ?_ ?_
 .simp[ef]
 rintro g1 S1 H1 Q5 DT jq R1 ⟨ou,oA,q7⟩ bb;have fr:=fr.step R1.size (by rw[R1.defers,jq]<;>rfl) bb;have st:=st.grow (vd R1);have f15:=R1.slot 15 (by decide) id;rw[ou]at f15;have f15:=f15.int_eq;have f16:=R1.slot 16 (by decide) id;rw[oA]at f16;have f16:=f16.int_eq;have f7:=R1.slot 7 (by decide) id;rw[q7]at f7;have f7:=f7.int_eq;clear R1 jq bb ou oA q7 zK y8 FV;show Code.wpIn _ _ _ _ _ Q5 DT;refine afc ?_;refine iR hG (n:=32) (p:=2) (l2:=[2]) rfl (by kernel_rfl) (by kernel_rfl) (l:=[⟨some 19,none,.load .any false 1 (.t 6)⟩,⟨some 20,none,.mv false (.t 7)⟩]) (by kernel_rfl) (by decide) (W:=wQ) (by kernel_rfl) (gi st.below) (λ_ _=>True) (ef s [] fv (.int .i64 (s.name.words.length:Nat)) (.int .i64 (k:Nat)) (.int .i64 (k:Nat))) fr.size fr.defers (st.gh fr (iv _ _ _ _ f15) (iv _ _ _ _ f16) (iv _ _ _ _ f7)) (K:=λS' _=>S' 15=.int .i64 (s.name.words.length:Nat)/\S' 16=.int .i64 (k:Nat)/\S' 19=.val fv/\S' 20=.int .i64 (k:Nat)) ?_ ?_
 .simp[ef]
 rintro g1 S1 H1 Ij LB jq R1 ⟨ou,oA,PY,E8⟩ bb;have fr:=fr.step R1.size (by rw[R1.defers,jq]<;>rfl) bb;have st:=st.grow (vd R1);have qc:=R1.slot 15 (by decide) id;rw[ou]at qc;have qc:=qc.int_eq;have oz:=R1.slot 16 (by decide) id;rw[oA]at oz;have oz:=oz.int_eq;have zI:=R1.slot 19 (by decide) id;rw[PY]at zI;have zI:=zI.eU;have B0:=R1.slot 20 (by decide) id;rw[E8]at B0;have B0:=B0.int_eq;clear R1 jq bb ou oA PY E8 f15 f16 f7;have uC:=Bi (by omega) (d:=k) (by omega) ([]:List Int) (s:=s);have iN:=GG hG qF hs hI jQ k 0 [] [] mz LB rfl (afK _) (by simpa using aw) (Dp (by omega)) (by simp;omega) st;refine eS rfl rfl (by rfl) (f:=112) (args:=#[.int .i64 ((0:Nat):Int),.int .i64 (k:Nat),cS,.pointer (some ⟨bF+1,0,none⟩),.pointer (some ⟨bF,0,none⟩),.pointer (some ⟨bF+2,0,none⟩)]) (w':=LB) ?_ iN ?_
 .have UO:Ij.eval (.tmp 19)=fv:=zI;have On:Ij.eval (.tmp 20)=.int .i64 (k:Nat):=B0;refine(rC (f:=.tmp 19) (x:=.const (.int .i64 0)) (y:=.tmp 20) LB rfl rfl rfl (UO.trans jQ) (by kernel_rfl)).trans ?_;rw[On]
  rfl
 rintro en VJ ⟨rfl,Wp,hM2,st⟩;rw[List.nil_append]at st;refine⟨_,rfl,?_⟩;show Code.wpIn _ _ _ _ _ (Ij.put (some 21) (.tuple #[])) VJ
 obtain⟨a12,tX⟩:∃a12,Ij.put (some 21) (.tuple #[])=a12:=⟨_,rfl⟩
 have fr:BG bF (bF+1) (bF+2) cS a12:=fr.step (by rw[<-tX,ju];exact fr.size) (by rw[<-tX,pL];exact fr.defers) (by rw[<-tX];exact fC.put (λt ht=>by cases ht;rfl) _)
 have i15:a12.tmps.getD 15 undef=.int .i64 (s.name.words.length:Nat):=by rw[<-tX,dW _ _ _ _ (by decide)];exact qc
 have i16:a12.tmps.getD 16 undef=.int .i64 (k:Nat):=by rw[<-tX,dW _ _ _ _ (by decide)];exact oz
 rw[tX];clear tX qc oz zI B0;refine afc ?_;refine bG hG cC (n:=32) (ac:=.ops [⟨some 22,none,.load .any false 1 (.t 4)⟩,⟨some 23,none,.lO (.t 22)⟩,⟨some 24,none,.bin .gtr (.t 23) (.c (.int .i64 0))⟩]) (W:=wQ) (by kernel_rfl) (by kernel_rfl) (by kernel_rfl) (gi st.below) (λ_ _=>True) (ef s (gk s k []) fv (.int .i64 (s.name.words.length:Nat)) (.int .i64 (k:Nat)) .bB) fr.size fr.defers (st.gh fr (iv _ _ _ _ i15) (iv _ _ _ _ i16) (jk _ _ _)) (K:=λS' _=>S' 15=.int .i64 (s.name.words.length:Nat)/\S' 16=.int .i64 (k:Nat)/\S' 24=.bool (decide (0<(gk s k []).length))) ?_ ?_
 .simp[ef]
 rintro g1 S1 H1 Mu Nx jq R1 ⟨ou,oA,Ov⟩ bb;have fr:=fr.step R1.size (by rw[R1.defers,jq]<;>rfl) bb;have st:=st.grow (vd R1);have qc:=R1.slot 15 (by decide) id;rw[ou]at qc;have qc:=qc.int_eq;have oz:=R1.slot 16 (by decide) id;rw[oA]at oz;have oz:=oz.int_eq;have DH:=R1.slot 24 (by decide) id;rw[Ov]at DH;have DH:=DH.dN;clear R1 jq bb ou oA Ov i15 i16;show Code.wpIn _ _ _ _ _ Mu Nx;refine afF (t:=decide (0<(gk s k []).length)) DH ?_
 cases hL:gk s k []with
 |nil=>
  rw[hL]at st;simp only[List.length_nil,ahI,agY,afj,afx];refine af7 ?_;simp only[Exit.then,Exit.inBlock];show Code.wpIn _ _ _ _ _ Mu Nx;refine bG hG cC (n:=32) (ac:=.ops [⟨some 25,none,.bin .add (.t 16) (.c (.int .i64 1))⟩,⟨some 16,none,.mv false (.t 25)⟩]) (W:=wQ) (by kernel_rfl) (by kernel_rfl) (by kernel_rfl) (gi st.below) (λ_ _=>True) (ef s [] fv (.int .i64 (s.name.words.length:Nat)) (.int .i64 (k:Nat)) .bB) fr.size fr.defers (st.gh fr (iv _ _ _ _ qc) (iv _ _ _ _ oz) (jk _ _ _)) (K:=λS' _=>S' 15=.int .i64 (s.name.words.length:Nat)/\S' 16=.int .i64 ((k+1:Nat):Int)) ?_ ?_
  .have nk:IntKind.i64.wrap ((k:Int)+1)=k+1:=aN (by omega);simp[ef,nk]
  rintro g1 S1 H1 a14 w14 jq R1 ⟨ou,oA⟩ bb;have fr:=fr.step R1.size (by rw[R1.defers,jq]<;>rfl) bb;have st:=st.grow (vd R1);have Ih:=R1.slot 15 (by decide) id;rw[ou]at Ih;have Ih:=Ih.int_eq;have FQ:=R1.slot 16 (by decide) id;rw[oA]at FQ;have FQ:=FQ.int_eq;refine⟨⟨k+1,Wp,fr,Ih,FQ,by omega,λj hj=>?_,st⟩,?_⟩
  .by_cases e:j=k
   .subst e;exact hL
   .exact nO j (by omega)
  .rw[FQ,uR];show s.name.words.length-((k+1:Nat):Int).toNat<s.name.words.length-(k:Int).toNat;rw[Int.toNat_natCast,Int.toNat_natCast];omega
 |cons x l=>
  have Lj:qg s=some x:=by rw[rL];exact Bh _ aw nO hL
  rw[hL]at st;simp only[List.length_cons,Nat.zero_lt_succ,agZ,afH];refine agT ?_;simp only[Exit.then,Exit.inBlock];show Code.wpIn _ _ _ _ _ Mu Nx;refine afc (afc ?_);refine bG hG cC (n:=32) (ac:=.ops [⟨some 26,none,.load .any false 1 (.t 4)⟩,⟨some 27,none,.lO (.t 26)⟩,⟨some 28,none,.bin .eql (.t 27) (.c (.int .i64 0))⟩]) (W:=wQ) (by kernel_rfl) (by kernel_rfl) (by kernel_rfl) (gi st.below) (λ_ _=>True) (ef s (x::l) fv .bB .bB .bB) fr.size fr.defers (st.gh fr (jk _ _ _) (jk _ _ _) (jk _ _ _)) (K:=λS' _=>S' 28=.bool false) ?_ ?_
  .have dO:((l.length:Int)+1==0)=false:=by rw[afN];omega
   simp[ef,dO]
   try omega
  rintro g1 S1 H1 aA wA jq R1 yC bb;have fr:=fr.step R1.size (by rw[R1.defers,jq]<;>rfl) bb;have st:=st.grow (vd R1);have pk:=R1.slot 28 (by decide) id;rw[yC]at pk;have pk:=pk.dN;show Code.wpIn _ _ _ _ _ aA wA;refine afF (t:=false) pk ?_;simp only[afj,afx];refine af7 ?_;show Code.wpIn _ _ _ _ _ aA wA;refine afc ?_
  refine bG hG cC (n:=32) (ac:=.ops [⟨some 29,none,.load .any false 1 (.t 4)⟩,⟨some 30,none,.indexAddr 1 (.t 29) (.c (.int .i64 0))⟩,⟨some 31,none,.load .any false 1 (.t 30)⟩,⟨some 2,none,.mv true (.t 31)⟩,⟨some 3,none,.mv true (.c (.int .i64 0))⟩]) (W:=λ_=>true) (by kernel_rfl) (by kernel_rfl) (by kernel_rfl) (gi st.below) (λb _=>wB.heap.size<=b)
   (λt=>match t with|4=>.ref [.slice .view ((x::l).map vI)]|_=>.bB) fr.size fr.defers ?_ (K:=λS' _=>S' 2=.slice .view (ints x)/\S' 3=.int .i64 0) ?_ ?_
  .intro t ht;split
   .rw[fr.t4];exact⟨rfl,st.Da _ λb k h=>h⟩
   .exact⟨rfl,.bB _⟩
  .simp
  rintro g2 S2 H2 aB Fe lv R2 ⟨q2,q3⟩ _;have e2:=R2.slot 2 (by decide) id;rw[q2]at e2;have e3:=R2.slot 3 (by decide) id;rw[q3]at e3;have Ju:=vd R2
  have r2:RD (λb _=>wB.heap.size<=b/\b<Fe.heap.size) Fe (.slice .view (ints x)) (aB.tmps.getD 2 undef):=(e2.j_ rfl).mono (bz.same λb k hb hp=>by
   rcases hp with⟨_,h⟩|⟨h,_⟩
   .rw[lv]at h;exact⟨h,hb⟩
   .rw[R2.base]at h;have:=st.below.size
    exact⟨by omega,hb⟩)
  obtain⟨gq,r3⟩:=RD.bounded (pj x) r2;refine agK (finish aB Fe .view (ints x) 0 gq R2.size (by rw[R2.defers,lv]<;>rfl) (st.grow Ju).below rfl r3 e3.int_eq ?_);rw[<-iJ];unfold sP
  rw[Lj]<;>rfl
end Go.Proofs.Tryz
namespace Go.AL
def IP:List (Nat×Dh)->Nat->Option Dh
 |[],_=>none
 |x::l,f=>bif Nat.beq f x.1 then some x.2 else IP l f
def Kv(P:Program)(x:Nat×Dh):Prop:=∃(F:Func)(c:Code),P.funcs[x.1]?=some F/\F.body=some c/\F.ntmps=x.2.n/\F.results.toList=x.2.res/\kT P x.2.n c=x.2.code
theorem Db{P:Program}:∀{l:List (Nat×Dh)},(∀x∈l,Kv P x)->Tt P (IP l)
 |[],_,_,_,h=>by cases h
 |x::l,hl,f,fn,h=>by
  unfold IP at h
  cases hb:Nat.beq f x.1 with
  |true=>
   rw[hb]at h;cases h;rw[ahz hb];exact hl x aft
  |false=>
   rw[hb]at h;exact Db (λy hy=>hl y (afk _ hy)) f fn h
theorem IN{α:Type}{b:Bool}{x y:Option α}{z:α}(h:(bif b then x else y)=some z):(b=true/\x=some z)\/(b=false/\y=some z):=by
 cases b
 .exact .inr ⟨rfl,h⟩
 .exact .inl ⟨rfl,h⟩
end Go.AL
namespace Go.Proofs.Tryz
open Go Go.AL Go.RowKit Go.Proofs Go.Proofs.Tram
variable{GI:World->Prop}
noncomputable def Cs:List (Nat×Dh):=[(65,⟨c65,9,[.tmp 2]⟩),(118,⟨c118,80,[.tmp 2]⟩),(121,⟨c121,94,[.cell 2 31,.tmp 3]⟩),(123,⟨c123,115,[.tmp 2]⟩),(124,⟨c124,53,[.tmp 2]⟩),(125,⟨c125,114,[.tmp 2]⟩),(161,⟨c161,16,[.tmp 2]⟩),(165,⟨c165,19,[.tmp 4]⟩),(166,⟨c166,5,[.tmp 2]⟩),(167,⟨c167,8,[.tmp 4]⟩),(168,⟨c168,9,[]⟩),(173,⟨c173,25,[.tmp 2]⟩),(174,⟨c174,21,[.tmp 4]⟩),(175,⟨c175,65,[.tmp 4]⟩),(176,⟨c176,26,[.tmp 2]⟩),(200,⟨c200,2,[.cell 0 248]⟩),(203,⟨c203,18,[.tmp 4]⟩),(205,⟨c205,9,[]⟩),(206,⟨c206,2,[.cell 0 254]⟩),(207,⟨c207,19,[.tmp 4]⟩),(209,⟨c209,8,[.tmp 2]⟩),(210,⟨c210,44,[.tmp 2]⟩),(278,⟨c278,17,[.tmp 2]⟩),(280,⟨c280,20,[.tmp 2]⟩),(281,⟨c281,11,[.tmp 2]⟩),(282,⟨c282,19,[.tmp 2]⟩),(283,⟨c283,24,[.tmp 2]⟩),(284,⟨c284,7,[.tmp 2]⟩),(285,⟨c285,19,[.tmp 2]⟩),(286,⟨c286,17,[.tmp 2]⟩),(287,⟨c287,9,[.tmp 2]⟩)]
theorem D4:∀x∈Cs,Kv prog x:=by
 unfold Cs;simp only[List.forall_mem_cons];exact⟨⟨f65,_,func65,rfl,ntmps65,rfl,by kernel_rfl⟩,⟨f118,_,func118,rfl,ntmps118,rfl,by kernel_rfl⟩,⟨f121,_,func121,rfl,ntmps121,rfl,by kernel_rfl⟩,⟨f123,_,func123,rfl,ntmps123,rfl,by kernel_rfl⟩,⟨f124,_,func124,rfl,ntmps124,rfl,by kernel_rfl⟩,⟨f125,_,func125,rfl,ntmps125,rfl,by kernel_rfl⟩,⟨f161,_,func161,rfl,ntmps161,rfl,by kernel_rfl⟩,⟨f165,_,func165,rfl,ntmps165,rfl,by kernel_rfl⟩,⟨f166,_,func166,rfl,ntmps166,rfl,by kernel_rfl⟩,⟨f167,_,func167,rfl,ntmps167,rfl,by kernel_rfl⟩,⟨f168,_,func168,rfl,ntmps168,rfl,by kernel_rfl⟩,⟨f173,_,func173,rfl,ntmps173,rfl,by kernel_rfl⟩,⟨f174,_,func174,rfl,ntmps174,rfl,by kernel_rfl⟩,⟨f175,_,func175,rfl,ntmps175,rfl,by kernel_rfl⟩,⟨f176,_,func176,rfl,ntmps176,rfl,by kernel_rfl⟩,⟨f200,_,func200,rfl,ntmps200,rfl,by kernel_rfl⟩,⟨f203,_,func203,rfl,ntmps203,rfl,by kernel_rfl⟩,⟨f205,_,func205,rfl,ntmps205,rfl,by kernel_rfl⟩,⟨f206,_,func206,rfl,ntmps206,rfl,by kernel_rfl⟩,⟨f207,_,func207,rfl,ntmps207,rfl,by kernel_rfl⟩,⟨f209,_,func209,rfl,ntmps209,rfl,by kernel_rfl⟩,⟨f210,_,func210,rfl,ntmps210,rfl,by kernel_rfl⟩,⟨f278,_,func278,rfl,ntmps278,rfl,by kernel_rfl⟩,⟨f280,_,func280,rfl,ntmps280,rfl,by kernel_rfl⟩,⟨f281,_,func281,rfl,ntmps281,rfl,by kernel_rfl⟩,⟨f282,_,func282,rfl,ntmps282,rfl,by kernel_rfl⟩,⟨f283,_,func283,rfl,ntmps283,rfl,by kernel_rfl⟩,⟨f284,_,func284,rfl,ntmps284,rfl,by kernel_rfl⟩,⟨f285,_,func285,rfl,ntmps285,rfl,by kernel_rfl⟩,⟨f286,_,func286,rfl,ntmps286,rfl,by kernel_rfl⟩,⟨f287,_,func287,rfl,ntmps287,rfl,by kernel_rfl⟩,λ_ h=>nomatch h⟩
def CU:AV->Option (List UInt8)
 |.str l=>some l
 |_=>none
def GM:List AV->Option eZ
 |[.int .i64 n]=>if 0<=n/\n<100 then some (.ret (.str (jC n)))else none
 |_=>none
def G7:List AV->Option eZ
 |[.str s,.str [c]]=>if s.length<1000 then some (.ret (strs (fu c s)))else none
 |_=>none
def GH:List AV->Option eZ
 |[.slice .view es,.str sep]=>match mS CU es with
  |some ls=>if ls.length<=1000/\(Lib.join ls sep).length<=1000 then some (.ret (.str (Lib.join ls sep)))else none
  |none=>none
 |_=>none
def E4:List AV->Option eZ
 |[.str w]=>if w.length<1000/\yY w=true then some (.ret (.int .i64 (cz w)))else none
 |_=>none
def F2:List AV->Option eZ
 |[.slice .view es]=>match mS CU es with
  |some ws=>if ws.length<=1000/\ws.all yY=true then some (.ret (.slice (if ws.isEmpty then .nil else .view) (ints (ws.map cz))))else none
  |none=>none
 |_=>none
def zV:AV->Option Int
 |.int .i64 n=>some n
 |_=>none
def EX:List AV->Option eZ
 |[.slice .view es]=>match mS zV es with
  |some (n::l)=>if l.length<900/\((n::l).all λn=>decide (0<=n/\n<100))=true then some (.ret (.slice (.own 9) (((n::l).map jC).map .str)))else none
  |_=>none
 |_=>none
def CW:uU:=λf args=>
 bif Nat.beq f 162 then GM args else bif Nat.beq f 164 then G7 args else bif Nat.beq f 199 then GH args else bif Nat.beq f 169 then E4 args else bif Nat.beq f 208 then F2 args else bif Nat.beq f 279 then EX args else none
theorem qU:∀{es:List AV}{ls:List (List UInt8)},mS CU es=some ls->es=ls.map AV.str
 |[],_,h=>by cases h;rfl
 |x::es,ls,h=>by
  unfold mS at h;split at h
  case h_2=>cases h
  rename_i a ha;split at h
  case h_2=>cases h
  rename_i r hr;cases h
  have:x=.str a:=by
   unfold CU at ha
   split at ha<;>cases ha
   rfl
  rw[afv,<-this,<-qU hr]
theorem Gc(hG:au GI){args:List AV}{out:eZ}(h:GM args=some out):AC prog GI 162 args out:=by
 unfold GM at h;split at h
 case h_2=>cases h
 split at h<;>cases h
 rename_i hc;exact sQ hc.1 hc.2
theorem Gk(lI:ML GI){args:List AV}{out:eZ}(h:G7 args=some out):AC prog GI 164 args out:=by
 unfold G7 at h;split at h
 case h_2=>cases h
 split at h<;>cases h
 exact Nj lI _ _ (by omega)
theorem Fi{args:List AV}{out:eZ}(h:GH args=some out):AC prog GI 199 args out:=by
 unfold GH at h;split at h
 case h_2=>cases h
 split at h
 case h_2=>cases h
 rename_i hd
 split at h<;>cases h
 rename_i hc;rw[qU hd];exact MZ _ _ (by omega) (by omega)
theorem GR(hG:au GI){args:List AV}{out:eZ}(h:E4 args=some out):AC prog GI 169 args out:=by
 unfold E4 at h;split at h
 case h_2=>cases h
 split at h<;>cases h
 rename_i w hc;exact HZ hG w hc.2
theorem G4(hG:au GI){args:List AV}{out:eZ}(h:F2 args=some out):AC prog GI 208 args out:=by
 unfold F2 at h;split at h
 case h_2=>cases h
 split at h
 case h_2=>cases h
 rename_i ws hd
 split at h<;>cases h
 rename_i hc;rw[qU hd]
 have hw:∀w∈ws,_:=λw hw=>vW.1 (afC.1 hc.2 w hw)
 exact Mv hG (by omega) (λw h=>⟨(hw w h).1,by have:=(hw w h).2.1;omega,(hw w h).2.2.1⟩) λw h=>by
  have r:=qe w (hw w h).2.2.1 (hw w h).2.1;have:=sQ (GI:=GI) r.1 r.2;rwa [(hw w h).2.2.2]at this
theorem wi:∀{es:List AV}{ls:List Int},mS zV es=some ls->es=ints ls
 |[],_,h=>by cases h;rfl
 |x::es,ls,h=>by
  unfold mS at h;split at h
  case h_2=>cases h
  rename_i a ha;split at h
  case h_2=>cases h
  rename_i r hr;cases h
  have:x=.int .i64 a:=by
   unfold zV at ha
   split at ha<;>cases ha
   rfl
  rw[this,wi hr]<;>rfl
theorem GA(hG:au GI){args:List AV}{out:eZ}(h:EX args=some out):AC prog GI 279 args out:=by
 unfold EX at h;split at h
 case h_2=>cases h
 split at h
 case h_2=>cases h
 rename_i n l hd
 split at h<;>cases h
 rename_i hc;rw[wi hd]
 exact NI hG (n::l) (by simp) (by simp;omega) λx hx=>by have:=afC.1 hc.2 x hx;exact agE (p:=0<=x/\x<100) this
theorem lX{f k:Nat}{args:List AV}{x y:Option eZ}{out:eZ}(h:(bif Nat.beq f k then x else y)=some out)(h1:x=some out->AC prog GI k args out)(h2:y=some out->AC prog GI f args out):AC prog GI f args out:=by
 rcases IN h with⟨hf,h⟩|⟨-,h⟩
 .rw[ahz hf];exact h1 h
 .exact h2 h
theorem BP(hG:au GI)(lI:ML GI)(f:Nat)(args:List AV)(out:eZ)(h:CW f args=some out):AC prog GI f args out:=
 lX h (Gc hG) λh=>lX h (Gk lI) λh=>lX h Fi λh=>lX h (GR hG) λh=>lX h (G4 hG) λh=>lX h (GA hG) λh=>nomatch h
noncomputable def C_:uU:=UC prog CW (IP Cs) 1000 60
theorem tv(hG:au GI)(lI:ML GI)(f:Nat)(args:List AV)(out:eZ)(h:C_ f args=some out):AC prog GI f args out:=
 JB hG cC (BP hG lI) (Db D4) 60 f args out h
def lk:List UInt8:=[116,114,97,109,32,49,32,49,32,49,32,48,10,99,101,108,108,32,49,32,50,32,110,111,10,101,110,100,32,49,55,56,10,102,114,111,110,116,32,49,32,49,10,115,112,97,99,101,115,32,48,32,48,32,48,32,48,32,49,10,115,105,103,110,32,49,10,119,111,114,100,32,110,111,32,48,32,45,10,101,110,100,32,48,57,56,10]
def gu:aq:=⟨[⟨1,2,false⟩],1,1,1,0,⟨[1],[],0,0,0,0,1,[⟨[0],[],false⟩],1,1⟩⟩
def Qb:ar:=⟨[],[],0,0,0,0,0,[],0,0⟩
def nt:aq:={ gu with name:=Qb }
noncomputable def Fk:Dh:=⟨c172,171,[.cell 2 29]⟩
theorem Vb:C_ 65 [a_ gu]=some (.ret (.str lk)):=by kernel_rfl
theorem PQ:To prog C_ 1000 5 5 Fk [.str (lk.drop 33)]=some (.ret (bQ gu.name)):=by kernel_rfl
theorem Qo:C_ 121 [.str lk]=some (.ret (.d_ [a_ nt,.str (lk.drop 33)])):=by kernel_rfl
end Go.Proofs.Tryz
namespace Go.Proofs.Tryz
open Go Go.AL Go.RowKit Go.Proofs Go.Proofs.Tram
attribute [local simp] dh eE dY dv dK dj di cQ cT dL cP ct fF fE aD aL ev aT.S aT.H bu av aY AL.start AV.cells AV.storable AV.cg bo cE dI ck HR.okB post cw cH cI AV.out AV.bU b_ df fz iA AV.vw du vI int cG aP cV db fQ iu fV eG da AV.aI AV.cm
variable{GI:World->Prop}
theorem Ia(hG:au GI)(lI:ML GI):AC prog GI 121 [.str lk] (.ret (.d_ [a_ nt,.str (lk.drop 33)])):=tv hG lI _ _ _ Qo
theorem Lk(hG:au GI)(lI:ML GI):AC prog GI 65 [a_ gu] (.ret (.str lk)):=tv hG lI _ _ _ Vb
theorem FA:er gu:=⟨by decide,by decide,by decide,by decide,λw hw=>by
 simp[gu]at hw;subst hw;decide,λw hw=>by
 simp[gu]at hw;subst hw;decide⟩
theorem IH(hG:au GI)(lI:ML GI):AC prog GI 122 [.str (lk.drop 33)] (.ret (.d_ [bQ gu.name,.int .i64 0])):=
 NA hG (s:=lk.drop 33) (x:=ae gu.name) (by decide) rfl (Hk hG cC (tv hG lI) (f:=172) (fn:=Fk) ⟨f172,_,func172,rfl,ntmps172,rfl,by kernel_rfl,by kernel_rfl⟩ PQ) (by
  have:=Az (GI:=GI) hG gu.name FA.name
  rwa [show aU gu.name=true by kernel_rfl]at this)
noncomputable def uY:af:=af.qb c63.qb.qb.qb
theorem DI(x:aq):(ao x).map AV.aI=ao x:=by simp[ao,ae,AV.aI,vI]
def eL:List AV:=[.slice .nil [],.int .i64 0,.int .i64 0,.int .i64 0,.int .i64 0,.slice .nil [],.slice .nil [],.int .i64 0,.int .i64 0,.int .i64 0,.int .i64 0,.int .i64 0,.slice .nil [],.int .i64 0,.int .i64 0]
theorem NL(hG:au GI)(lI:ML GI):AC prog GI 63 [.str lk] (.ret (.d_ [a_ gu,.int .i64 0])):=by
 obtain⟨i31,lz,lx⟩:=bh (P:=prog) (t:=31) (s:=15) (by kernel_rfl);obtain⟨fs,eQ⟩:=bV (P:=prog) (t:=31) (by kernel_rfl);have P3:=Ia hG lI;have PG:=IH hG lI;have a77:=mK (GI:=GI) hG gu FA;rw[show cq gu=true by kernel_rfl]at a77;have hK:gu={ nt with name:=gu.name }:=rfl
 have Vu:¬(530:Int)<lk.length:=by decide
 generalize lk.drop 33=u at*
 generalize lk=t at*
 have oT:∀ (w0:World) (g:Gh) (S:aF) (H:aK) (a:Act) (w:World),GI w0→Rel prog w0 42 dU g S H a w→S 1 = .box 1 0→H 1=some [.str t]→S 4 = .box 4 0→H 4=some eL→S 5 = .box 5 0→H 5=some [.str []] →
    Calls prog 119 #[.func (.func 120) #[] #[a.tmps.getD 1 undef,a.tmps.getD 4 undef,a.tmps.getD 5 undef]] w λen w2=>en=.returned (.int .i64 0)/\∃(c:Value)(g':Gh)(S':aF)(H':aK),g'.old=g.old/\Rel prog w0 42 dU g' S' H' (a.put (some 14) c) w2/\S' 2=S 2/\H' 2=H 2/\S' 4=.box 4 0/\H' 4=some (ao nt)/\S' 5=.box 5 0/\H' 5=some [.str u]:=by
  intro w0 g S H a w dS R q1 h1 q4 h4 q5 h5
  refine qj (d:=14) (by kernel_rfl) R λg1 w1 R1 jq _ _=>?_
  refine(DF hG dS R1 (d:=14) (i1:=1) (i4:=4) (i5:=5) (by decide) (by decide) (by decide) (by decide) (by decide) (by decide) (by decide) q1 h1 q4 h4 q5 h5 rfl rfl P3).mono ?_;rintro en w2 ⟨rfl,c,g',S',H',sE,R',pv,ph⟩;refine⟨rfl,c,g',S',H',sE,R',pv 2 (by decide),?_,by rw[pv 4 (by decide)];exact q4,?_,by rw[pv 5 (by decide)];exact q5,?_⟩
  .rw[ph];simp[av]
  .rw[ph];simp[av];exact DI nt
  .rw[ph];simp[av]
 refine AC.gY func63 rfl ntmps63 (by simp) λcc w=>?_
 refine dw hG c63.qa (λS' H'=>S' 1=.box 1 0/\H' 1=some [.str t]/\S' 2=.box 2 0/\H' 2=some (eL)) ?_ ?_
 .simp[c63,af.qa,eL]
 rintro S H ⟨s1,h1,s2,h2⟩;refine SW.seq (dw hG c63.qb.qa.qa (λS' H'=>S' 1=.box 1 0/\H' 1=some [.str t]/\S' 2=.box 2 0/\H' 2=some (eL)/\S' 11=.bool false) ?_ ?_)
 .simp[c63,af.qa,af.qb,s1,h1,s2,h2,Vu]
 clear s1 h1 s2 h2 S H;rintro S H ⟨s1,h1,s2,h2,bn⟩;refine SW.cond rfl false (by show S 11=_;rw[bn]) (SW.skip ?_);clear bn;show SW prog GI 42 none (.seq _ (.seq _ (.seq (.seq _ (.seq _ (.cond _ (.seq _ .ret) .skip))) _))) _ _ _ _;refine dw hG c63.qb.qb.qa (λS' H'=>S' 1=.box 1 0/\H' 1=some [.str t]/\S' 2=.box 2 0/\H' 2=some (eL)/\S' 4=.box 4 0/\H' 4=some (eL)) ?_ ?_
 .simp[c63,af.qa,af.qb,s1,h1,s2,h2,eL]
 clear s1 h1 s2 h2 S H;rintro S H ⟨s1,h1,s2,h2,s4,h4⟩;refine dw hG c63.qb.qb.qb.qa (λS' H'=>S' 1=.box 1 0/\H' 1=some [.str t]/\S' 2=.box 2 0/\H' 2=some (eL)/\S' 4=.box 4 0/\H' 4=some (eL)/\S' 5=.box 5 0/\H' 5=some [.str []]) ?_ ?_
 .simp[c63,af.qa,af.qb,s1,h1,s2,h2,s4,h4]
 clear s1 h1 s2 h2 s4 h4 S H;rintro S3 H3 ⟨s1,h1,s2,h2,s4,h4,s5,h5⟩
 refine SW.seq (SW.seq (SW.hand hG (p:=0) (lm:=[0,1]) (l2:=[2]) (kY:=[]) (oh:=[_,_]) (lJ:=[_]) rfl rfl rfl rfl (by kernel_rfl) (λ_ h=>h) (lM:=[]) (kP:=(c63.qb.qb.qb.qb.qa.qa.dl).drop 2) rfl (by kernel_rfl) rfl (by kernel_rfl)
  (K1:=λS' H'=>S' 1=.box 1 0/\H' 1=some [.str t]/\S' 2=.box 2 0/\H' 2=some (eL)/\S' 4=.box 4 0/\H' 4=some (eL)/\S' 5=.box 5 0/\H' 5=some [.str []])
  (K2:=λo S' H'=>o=Old.plain cc w/\S' 2=.box 2 0/\H' 2=some (eL)/\S' 4=.box 4 0/\H' 4=some (ao nt)/\S' 5=.box 5 0/\H' 5=some [.str u]/\S' 14=.int .i64 0)
  (K3:=λo S' H'=>o=Old.plain cc w/\S' 2=.box 2 0/\H' 2=some (eL)/\S' 4=.box 4 0/\H' 4=some (ao nt)/\S' 5=.box 5 0/\H' 5=some [.str u]/\S' 6=.int .i64 0) ⟨s1,h1,s2,h2,s4,h4,s5,h5⟩ ?_ ?_ ?_))
 .rintro w0 g S5 H5 a w5 m dS ho R ⟨s1,h1,s2,h2,s4,h4,s5,h5⟩;have bL:=R.size;refine aW rfl rfl (by rfl) (kB (fn:=.func 120) (c:=#[.tmp 1,.tmp 4,.tmp 5]) rfl) ?_
  obtain⟨fv,jQ⟩:∃fv:Value,fv=.func (.func 120) #[] (#[Operand.tmp 1,.tmp 4,.tmp 5].map a.eval):=⟨_,rfl⟩
  show wpOpsIn _ _ _ _ _ [1] (a.put (some 13) (.func (.func 120) #[] (#[Operand.tmp 1,.tmp 4,.tmp 5].map a.eval))) w5;rw[<-jQ];have R1:=R.put 13 .bB fv (by decide) (.bB _) trivial
  obtain⟨a1,oI⟩:∃a1,a.put (some 13) fv=a1:=⟨_,rfl⟩
  rw[oI]at R1⊢
  have uc:fv=.func (.func 120) #[] #[a1.tmps.getD 1 undef,a1.tmps.getD 4 undef,a1.tmps.getD 5 undef]:=by
   have e1:=bt a 13 1 fv (by omega);have e2:=bt a 13 4 fv (by omega);have e4:=bt a 13 5 fv (by omega);rw[if_neg (by decide),oI]at e1 e2 e4;have A6:a1.tmps.getD 1 undef=a.eval (.tmp 1):=e1;have K6:a1.tmps.getD 4 undef=a.eval (.tmp 4):=e2;have Ch:a1.tmps.getD 5 undef=a.eval (.tmp 5):=e4;rw[A6,K6,Ch,jQ];simp only[afw,afv,afB]
  have ij:a1.eval (.tmp 13)=fv:=by rw[<-oI,bt _ _ _ _ (by omega),if_pos rfl]
  refine eS rfl rfl (by rfl) (fU (k:=119) (args:=#[.func (.func 120) #[] #[a1.tmps.getD 1 undef,a1.tmps.getD 4 undef,a1.tmps.getD 5 undef]]) w5 rfl rfl ?_ (by kernel_rfl)) (oT w0 g _ _ a1 w5 dS R1 (by simp[av,s1]) h1 (by simp[av,s4]) h4 (by simp[av,s5]) h5) ?_
  .simp only[afw,afv,afB,ij,<-uc]
  .rintro en w6 ⟨rfl,c,g',S',H',sE,R2,oB,pq,xl,BU,tC,yv⟩;refine⟨_,rfl,?_⟩;have R3:=R2.put 14 (.int .i64 0) (.int .i64 0) (by decide) (.data _ _ (.int _ _)) trivial;rw[ml]at R3;exact⟨g',_,H',R3,sE.trans ho,by rw[cN _ _ (by decide),oB];simp[av,s2],pq.trans h2,by rw[cN _ _ (by decide)];exact xl,BU,by rw[cN _ _ (by decide)];exact tC,yv,bm _ _ _⟩
 .rintro o S5 H5 ⟨rfl,s2,h2,s4,h4,s5,h5,cU⟩;refine⟨λ_ h=>h,?_⟩;simp[c63,af.qa,af.qb,af.dl,s2,h2,s4,h4,s5,h5,cU]
 rintro o S5 H5 ⟨rfl,s2,h2,s4,h4,s5,h5,s6⟩;clear s1 h1;show SW prog GI 42 none (.seq _ (.cond _ (.seq _ .ret) .skip)) _ _ _ _;refine dw hG c63.qb.qb.qb.qb.qa.qb.qa (λS' H'=>S' 2=.box 2 0/\H' 2=some (eL)/\S' 4=.box 4 0/\H' 4=some (ao nt)/\S' 5=.box 5 0/\H' 5=some [.str u]/\S' 6=.int .i64 0/\S' 16=.bool false) ?_ ?_
 .simp[c63,af.qa,af.qb,s2,h2,s4,h4,s5,h5,s6]
 clear s2 h2 s4 h4 s5 h5 s6;rintro S6 H6 ⟨s2,h2,s4,h4,s5,h5,s6,dR⟩;refine SW.cond rfl false (by show S6 16=_;rw[dR]) (SW.skip ?_);clear s6 dR;show SW prog GI 42 none (.seq _ (.seq (.seq _ (.cond _ (.seq _ .ret) .skip)) (.seq _ (.seq (.seq _ (.cond _ (.seq _ .ret) .skip)) (.seq _ .ret))))) _ _ _ _;refine dw hG uY.qb.qa (λS' H'=>S' 2=.box 2 0/\H' 2=some (eL)/\S' 4=.box 4 0/\H' 4=some (ao nt)/\S' 7=.box 7 0/\H' 7=some (ae gu.name)/\S' 8=.int .i64 0) ?_ ?_
 .simp[c63,uY,af.qa,af.qb,s5,h5];refine oc PG ?_;simp[s2,h2,s4,h4,bQ,ae]
 clear s2 h2 s4 h4 s5 h5;rintro S7 H7 ⟨s2,h2,s4,h4,s7,h7,s8⟩;refine SW.seq (dw hG uY.qb.qb.qa.qa (λS' H'=>S' 2=.box 2 0/\H' 2=some (eL)/\S' 4=.box 4 0/\H' 4=some (ao nt)/\S' 7=.box 7 0/\H' 7=some (ae gu.name)/\S' 8=.int .i64 0/\S' 29=.bool false) ?_ ?_)
 .simp[c63,uY,af.qa,af.qb,s2,h2,s4,h4,s7,h7,s8]
 clear s2 h2 s4 h4 s7 h7 s8;rintro S7 H7 ⟨s2,h2,s4,h4,s7,h7,s8,RL⟩;refine SW.cond rfl false (by show S7 29=_;rw[RL]) (SW.skip ?_);clear RL;show SW prog GI 42 none (.seq _ (.seq (.seq _ (.cond _ (.seq _ .ret) .skip)) (.seq _ .ret))) _ _ _ _;refine dw hG uY.qb.qb.qb.qa (λS' H'=>S' 2=.box 2 0/\H' 2=some (eL)/\S' 4=.box 4 0/\H' 4=some (ao gu)/\S' 8=.int .i64 0) ?_ ?_
 .simp[c63,uY,af.qa,af.qb,s2,h2,s4,h4,s7,h7,s8,ao,ae,nt,gu,Qb]
 clear s2 h2 s4 h4 s7 h7 s8;rintro S7 H7 ⟨s2,h2,s4,h4,s8⟩;refine SW.seq (dw hG uY.qb.qb.qb.qb.qa.qa (λS' H'=>S' 2=.box 2 0/\H' 2=some (eL)/\S' 4=.box 4 0/\H' 4=some (ao gu)/\S' 39=.bool false) ?_ ?_)
 .simp[c63,uY,af.qa,af.qb,s2,h2,s4,h4,s8,ao,ae];refine oc a77 ?_;simp[s2,h2,s4,h4,s8,ao,ae]
 clear s2 h2 s4 h4 s8;rintro S7 H7 ⟨s2,h2,s4,h4,UX⟩;refine SW.cond rfl false (by show S7 39=_;rw[UX]) (SW.skip ?_);show SW prog GI 42 none (.seq _ .ret) _ _ _ _;refine dw hG uY.qb.qb.qb.qb.qb.qa (λS' H'=>S' 2=.box 2 0/\S' 3=.int .i64 0/\H' 2=some (ao gu)) ?_ ?_
 .simp[c63,uY,af.qa,af.qb,s2,h2,s4,h4,ao,ae,eL]
 clear s2 h2 s4 h4;rintro S8 H8 ⟨s2,s3,h2⟩;refine SW.ret ⟨eD.plain rfl,rfl,_,?_,rfl⟩;show cw prog 42 [.cell 2 31,.tmp 3] S8 H8=_;simp[cw,cH,cI,s2,s3,h2,lz,eQ,lx,ck,fg,AV.out,AV.aI,AV.bU,AV.vw,AV.cm,a_,ao,ae,vI]
theorem xS:xu iw=[vI [1],.int .i64 0]:=by kernel_rfl
theorem Q8(hG:au GI)(lI:ML GI):AC prog GI 22 [] (.ret (.bool true)):=by
 have d:=Rw (GI:=GI) hG;have a:=FP (GI:=GI) hG;have b:=Qy (GI:=GI) hG;have q1:=Oh (GI:=GI) hG qm E';have q2:=OC (GI:=GI) hG iw mu;have q3:=OF (GI:=GI) hG iw mu [3,2,2,4,5,1] (by decide);have q4:=Ol (GI:=GI) hG iw mu;have q5:=O3 (GI:=GI) hG qm E';have q6:=OW (GI:=GI) hG iw mu 1;have q7:=Qe (GI:=GI) hG iw mu;have q8:=OY (GI:=GI) hG tM EW;have q9:=O0 (GI:=GI) hG iw mu;have Sa:=O7 (GI:=GI) hG tM EW;have Rf:=Pm (GI:=GI) hG iw mu;have UY:=NL hG lI;have V3:=Lk hG lI;rw[xz]at q1;rw[wU]at q2;rw[zb]at q3;rw[Al]at q4;rw[AF]at q5;rw[Aw]at q6;rw[zR]at q7;rw[BH]at q8;rw[At]at q9;rw[An]at Sa;rw[xS]at Rf;have p1:=JV (GI:=GI) hG [9] [9] (by decide);have p2:=Pd (GI:=GI) hG [(1,1),(3,5)] [(1,1),(3,5)] (by decide);have p3:=JV (GI:=GI) hG [1] [1] (by decide);refine bP hG func22 ntmps22 c22 ?_;refine az (λS H=>S 0=.bool false) (by simp) ?_
 rintro S H -
 refine az (λS H=>S 1=vI [9]/\S 2=.int .i64 0) ?_ ?_
 .simp;refine oc d ?_;simp[a_,ao,ae];refine oc q1 ?_;simp
 clear S H;rintro S H ⟨s1,s2⟩;refine az (λS H=>S 1=vI [9]/\S 2=.int .i64 0/\S 3=.slice .view (aH [(1,1),(3,5)])/\S 4=.int .i64 0) ?_ ?_
 .simp[s1,s2];refine oc a ?_;simp[a_,ao,ae,s1,s2];refine oc q2 ?_;simp[s1,s2]
 clear s1 s2 S H;rintro S H ⟨s1,s2,s3,s4⟩;refine az (λS H=>S 1=vI [9]/\S 2=.int .i64 0/\S 3=.slice .view (aH [(1,1),(3,5)])/\S 4=.int .i64 0/\S 5=.int .i64 2/\S 6=.int .i64 0) ?_ ?_
 .simp[s1,s2,s3,s4];refine oc a ?_;simp[a_,ao,ae,s1,s2,s3,s4];refine oc q3 ?_;simp[s1,s2,s3,s4]
 clear s1 s2 s3 s4 S H;rintro S H ⟨s1,s2,s3,s4,s5,s6⟩;refine az (λS H=>S 1=vI [9]/\S 2=.int .i64 0/\S 3=.slice .view (aH [(1,1),(3,5)])/\S 4=.int .i64 0/\S 5=.int .i64 2/\S 6=.int .i64 0/\S 7=.int .i64 1/\S 8=.int .i64 0) ?_ ?_
 .simp[s1,s2,s3,s4,s5,s6];refine oc a ?_;simp[a_,ao,ae,s1,s2,s3,s4,s5,s6];refine oc q4 ?_;simp[s1,s2,s3,s4,s5,s6]
 clear s1 s2 s3 s4 s5 s6 S H;rintro S H ⟨s1,s2,s3,s4,s5,s6,s7,s8⟩;refine az (λS H=>S 1=vI [9]/\S 2=.int .i64 0/\S 3=.slice .view (aH [(1,1),(3,5)])/\S 4=.int .i64 0/\S 5=.int .i64 2/\S 6=.int .i64 0/\S 7=.int .i64 1/\S 8=.int .i64 0/\S 9=.int .i64 1/\S 10=.int .i64 0) ?_ ?_
 .simp[s1,s2,s3,s4,s5,s6,s7,s8];refine oc d ?_;simp[a_,ao,ae,s1,s2,s3,s4,s5,s6,s7,s8];refine oc q5 ?_;simp[s1,s2,s3,s4,s5,s6,s7,s8]
 clear s1 s2 s3 s4 s5 s6 s7 s8 S H;rintro S H ⟨s1,s2,s3,s4,s5,s6,s7,s8,s9,bw⟩;refine az (λS H=>S 1=vI [9]/\S 2=.int .i64 0/\S 3=.slice .view (aH [(1,1),(3,5)])/\S 4=.int .i64 0/\S 5=.int .i64 2/\S 6=.int .i64 0/\S 7=.int .i64 1/\S 8=.int .i64 0/\S 9=.int .i64 1/\S 10=.int .i64 0/\S 11=.int .i64 2/\S 12=.int .i64 0) ?_ ?_
 .simp[s1,s2,s3,s4,s5,s6,s7,s8,s9,bw];refine oc a ?_;simp[a_,ao,ae,s1,s2,s3,s4,s5,s6,s7,s8,s9,bw];refine oc q6 ?_;simp[s1,s2,s3,s4,s5,s6,s7,s8,s9,bw]
 clear s1 s2 s3 s4 s5 s6 s7 s8 s9 bw S H;rintro S H ⟨s1,s2,s3,s4,s5,s6,s7,s8,s9,bw,bn,bJ⟩;refine az (λS H=>S 1=vI [9]/\S 2=.int .i64 0/\S 3=.slice .view (aH [(1,1),(3,5)])/\S 4=.int .i64 0/\S 5=.int .i64 2/\S 6=.int .i64 0/\S 7=.int .i64 1/\S 8=.int .i64 0/\S 9=.int .i64 1/\S 10=.int .i64 0/\S 11=.int .i64 2/\S 12=.int .i64 0/\S 13=.int .i64 1/\S 14=.int .i64 4/\S 15=.int .i64 0) ?_ ?_
 .simp[s1,s2,s3,s4,s5,s6,s7,s8,s9,bw,bn,bJ];refine oc a ?_;simp[a_,ao,ae,s1,s2,s3,s4,s5,s6,s7,s8,s9,bw,bn,bJ];refine oc q7 ?_;simp[s1,s2,s3,s4,s5,s6,s7,s8,s9,bw,bn,bJ]
 clear s1 s2 s3 s4 s5 s6 s7 s8 s9 bw bn bJ S H;rintro S H ⟨s1,s2,s3,s4,s5,s6,s7,s8,s9,bw,bn,bJ,b0,cU,fq⟩;refine az (λS H=>S 1=vI [9]/\S 2=.int .i64 0/\S 3=.slice .view (aH [(1,1),(3,5)])/\S 4=.int .i64 0/\S 5=.int .i64 2/\S 6=.int .i64 0/\S 7=.int .i64 1/\S 8=.int .i64 0/\S 9=.int .i64 1/\S 10=.int .i64 0/\S 11=.int .i64 2/\S 12=.int .i64 0/\S 13=.int .i64 1/\S 14=.int .i64 4/\S 15=.int .i64 0/\S 16=.int .i64 3/\S 17=.int .i64 0) ?_ ?_
 .simp[s1,s2,s3,s4,s5,s6,s7,s8,s9,bw,bn,bJ,b0,cU,fq];refine oc b ?_;simp[a_,ao,ae,s1,s2,s3,s4,s5,s6,s7,s8,s9,bw,bn,bJ,b0,cU,fq];refine oc q8 ?_;simp[s1,s2,s3,s4,s5,s6,s7,s8,s9,bw,bn,bJ,b0,cU,fq]
 clear s1 s2 s3 s4 s5 s6 s7 s8 s9 bw bn bJ b0 cU fq S H;rintro S H ⟨s1,s2,s3,s4,s5,s6,s7,s8,s9,bw,bn,bJ,b0,cU,fq,dR,iI⟩;refine az (λS H=>S 1=vI [9]/\S 2=.int .i64 0/\S 3=.slice .view (aH [(1,1),(3,5)])/\S 4=.int .i64 0/\S 5=.int .i64 2/\S 6=.int .i64 0/\S 7=.int .i64 1/\S 8=.int .i64 0/\S 9=.int .i64 1/\S 10=.int .i64 0/\S 11=.int .i64 2/\S 12=.int .i64 0/\S 13=.int .i64 1/\S 14=.int .i64 4/\S 15=.int .i64 0/\S 16=.int .i64 3/\S 17=.int .i64 0/\S 18=.int .i64 1/\S 19=.int .i64 0) ?_ ?_
 .simp[s1,s2,s3,s4,s5,s6,s7,s8,s9,bw,bn,bJ,b0,cU,fq,dR,iI];refine oc a ?_;simp[a_,ao,ae,s1,s2,s3,s4,s5,s6,s7,s8,s9,bw,bn,bJ,b0,cU,fq,dR,iI];refine oc q9 ?_;simp[s1,s2,s3,s4,s5,s6,s7,s8,s9,bw,bn,bJ,b0,cU,fq,dR,iI]
 clear s1 s2 s3 s4 s5 s6 s7 s8 s9 bw bn bJ b0 cU fq dR iI S H;rintro S H ⟨s1,s2,s3,s4,s5,s6,s7,s8,s9,bw,bn,bJ,b0,cU,fq,dR,iI,iM,j3⟩;refine az (λS H=>S 1=vI [9]/\S 2=.int .i64 0/\S 3=.slice .view (aH [(1,1),(3,5)])/\S 4=.int .i64 0/\S 5=.int .i64 2/\S 6=.int .i64 0/\S 7=.int .i64 1/\S 8=.int .i64 0/\S 9=.int .i64 1/\S 10=.int .i64 0/\S 11=.int .i64 2/\S 12=.int .i64 0/\S 13=.int .i64 1/\S 14=.int .i64 4/\S 15=.int .i64 0/\S 16=.int .i64 3/\S 17=.int .i64 0/\S 18=.int .i64 1/\S 19=.int .i64 0/\S 20=.int .i64 4/\S 21=.int .i64 2/\S 22=.int .i64 0) ?_ ?_
 .simp[s1,s2,s3,s4,s5,s6,s7,s8,s9,bw,bn,bJ,b0,cU,fq,dR,iI,iM,j3];refine oc b ?_;simp[a_,ao,ae,s1,s2,s3,s4,s5,s6,s7,s8,s9,bw,bn,bJ,b0,cU,fq,dR,iI,iM,j3];refine oc Sa ?_;simp[s1,s2,s3,s4,s5,s6,s7,s8,s9,bw,bn,bJ,b0,cU,fq,dR,iI,iM,j3]
 clear s1 s2 s3 s4 s5 s6 s7 s8 s9 bw bn bJ b0 cU fq dR iI iM j3 S H;rintro S H ⟨s1,s2,s3,s4,s5,s6,s7,s8,s9,bw,bn,bJ,b0,cU,fq,dR,iI,iM,j3,ld,i_,qA⟩;refine az (λS H=>S 1=vI [9]/\S 2=.int .i64 0/\S 3=.slice .view (aH [(1,1),(3,5)])/\S 4=.int .i64 0/\S 5=.int .i64 2/\S 6=.int .i64 0/\S 7=.int .i64 1/\S 8=.int .i64 0/\S 9=.int .i64 1/\S 10=.int .i64 0/\S 11=.int .i64 2/\S 12=.int .i64 0/\S 13=.int .i64 1/\S 14=.int .i64 4/\S 15=.int .i64 0/\S 16=.int .i64 3/\S 17=.int .i64 0/\S 18=.int .i64 1/\S 19=.int .i64 0/\S 20=.int .i64 4/\S 21=.int .i64 2/\S 22=.int .i64 0/\S 23=vI [1]/\S 24=.int .i64 0) ?_ ?_
 .simp[s1,s2,s3,s4,s5,s6,s7,s8,s9,bw,bn,bJ,b0,cU,fq,dR,iI,iM,j3,ld,i_,qA];refine oc a ?_;simp[a_,ao,ae,s1,s2,s3,s4,s5,s6,s7,s8,s9,bw,bn,bJ,b0,cU,fq,dR,iI,iM,j3,ld,i_,qA];refine oc Rf ?_;simp[s1,s2,s3,s4,s5,s6,s7,s8,s9,bw,bn,bJ,b0,cU,fq,dR,iI,iM,j3,ld,i_,qA]
 clear s1 s2 s3 s4 s5 s6 s7 s8 s9 bw bn bJ b0 cU fq dR iI iM j3 ld i_ qA S H;rintro S H ⟨s1,s2,s3,s4,s5,s6,s7,s8,s9,bw,bn,bJ,b0,cU,fq,dR,iI,iM,j3,ld,i_,qA,j8,rm⟩;refine az (λS H=>S 1=vI [9]/\S 2=.int .i64 0/\S 3=.slice .view (aH [(1,1),(3,5)])/\S 4=.int .i64 0/\S 5=.int .i64 2/\S 6=.int .i64 0/\S 7=.int .i64 1/\S 8=.int .i64 0/\S 9=.int .i64 1/\S 10=.int .i64 0/\S 11=.int .i64 2/\S 12=.int .i64 0/\S 13=.int .i64 1/\S 14=.int .i64 4/\S 15=.int .i64 0/\S 16=.int .i64 3/\S 17=.int .i64 0/\S 18=.int .i64 1/\S 19=.int .i64 0/\S 20=.int .i64 4/\S 21=.int .i64 2/\S 22=.int .i64 0/\S 23=vI [1]/\S 24=.int .i64 0/\S 25=.box 25 0/\H 25=some (ao gu)/\S 26=.int .i64 0) ?_ ?_
 .simp[s1,s2,s3,s4,s5,s6,s7,s8,s9,bw,bn,bJ,b0,cU,fq,dR,iI,iM,j3,ld,i_,qA,j8,rm];refine oc UY ?_;simp[a_,ao,ae,s1,s2,s3,s4,s5,s6,s7,s8,s9,bw,bn,bJ,b0,cU,fq,dR,iI,iM,j3,ld,i_,qA,j8,rm]
 clear s1 s2 s3 s4 s5 s6 s7 s8 s9 bw bn bJ b0 cU fq dR iI iM j3 ld i_ qA j8 rm S H;rintro S H ⟨s1,s2,s3,s4,s5,s6,s7,s8,s9,bw,bn,bJ,b0,cU,fq,dR,iI,iM,j3,ld,i_,qA,j8,rm,jv,uZ,pE⟩;refine az (λS H=>S 1=vI [9]/\S 3=.slice .view (aH [(1,1),(3,5)])/\S 5=.int .i64 2/\S 7=.int .i64 1/\S 9=.int .i64 1/\S 11=.int .i64 2/\S 13=.int .i64 1/\S 14=.int .i64 4/\S 16=.int .i64 3/\S 18=.int .i64 1/\S 20=.int .i64 4/\S 21=.int .i64 2/\S 23=vI [1]/\S 25=.box 25 0/\H 25=some (ao gu)) ?_ ?_
 .simp[s1,s3,s5,s7,s9,bn,b0,cU,dR,iM,ld,i_,j8,jv,uZ,s2,s4,s6,s8,bw,bJ,fq,iI,j3,qA,rm,pE]
 clear s1 s3 s5 s7 s9 bn b0 cU dR iM ld i_ j8 jv uZ s2 s4 s6 s8 bw bJ fq iI j3 qA rm pE S H;rintro S H ⟨s1,s3,s5,s7,s9,bn,b0,cU,dR,iM,ld,i_,j8,jv,uZ⟩;refine az (λS H=>S 16=.int .i64 3/\S 18=.int .i64 1/\S 20=.int .i64 4/\S 21=.int .i64 2/\S 23=vI [1]/\S 25=.box 25 0/\H 25=some (ao gu)) ?_ ?_
 .simp[s1,s3,s5,s7,s9,bn,b0,cU,dR,iM,ld,i_,j8,jv,uZ,aM];refine oc p1 ?_;simp[s1,s3,s5,s7,s9,bn,b0,cU,dR,iM,ld,i_,j8,jv,uZ,aM,bC];refine oc p2 ?_;simp[s1,s3,s5,s7,s9,bn,b0,cU,dR,iM,ld,i_,j8,jv,uZ,aM,bC]
 clear s1 s3 s5 s7 s9 bn b0 cU dR iM ld i_ j8 jv uZ S H;rintro S H ⟨dR,iM,ld,i_,j8,jv,uZ⟩;simp[dR,iM,ld,i_,j8,jv,uZ,aM];refine oc p3 ?_;simp[dR,iM,ld,i_,j8,jv,uZ,aM,bC];refine oc V3 ?_;simp[lk]
theorem Zp{s:aq}(h:cq s=true){a:Int}(ha:bH a 1 s.cells.length=true):cq (kX s a)=true:=by
 unfold cq at h;rw[afa,afa,afa,afa,afa,afa]at h;have h1:=h.1.1.1.1.1.1;have h2:=h.1.1.1.1.1.2;have h4:=h.1.1.1.2;have h5:=h.1.1.2;have h6:=h.1.2;have h7:=h.2;show(bH s.cells.length 1 12&&!s.cells.any fO&&bH a 1 s.cells.length&&bH s.reach 1 12&&bH s.dE 1 9&&bH s.c_ 0 9&&aU s.name)=true;rw[h1,h2,ha,h4,h5,h6,h7]
 rfl
theorem ac9{a:Int}{n:Nat}(h:bH a 1 n=true):∃k:Nat,a=k/\1<=k/\k<=n:=by
 unfold bH at h;simp only[afa,aff]at h;exact⟨a.toNat,by omega,by omega,by omega⟩
theorem Zz{s:aq}(hI:cq s=true){a:Nat}(h1:1<=a)(h2:a<=s.cells.length){es:List End}(hE:dV s.name=some es):jE 0 (kX s (a:Int))=[.int .i64 (eR s (aR s es) a),.int .i64 0]:=by
 have Up:=Zp hI (a:=(a:Int)) (by unfold bH;simp only[afa,aff];omega);unfold jE;rw[if_pos Up];show(match dV s.name with|some es=>_|none=>_)=_;rw[hE]
 rfl
theorem ab9{s:aq}(hI:cq s=true){a:Int}(ha:bH a 1 s.cells.length=true)(hE:dV s.name=none):jE 0 (kX s a)=[.int .i64 0,.int .i64 7]:=by
 unfold jE;rw[if_pos (Zp hI ha)];show(match dV s.name with|some es=>_|none=>_)=_;rw[hE]
theorem aeq(hG:au GI)(lI:ML GI)(s:aq)(a:Int):AC prog GI 13 [a_ s,.int .i64 a] (.ret (.bool true)):=by
 have k:=Q8 hG lI;have Ez:=Yf (GI:=GI) hG s
 cases hr:EN s with
 |false=>
  rw[hr]at Ez;refine bP hG func13 ntmps13 c13 ?_;simp[c13,a_,ao,ae];refine oc Ez ?_;simp;refine oc k ?_;simp
 |true=>
  rw[hr]at Ez;unfold EN at hr;rw[afa]at hr;obtain⟨cK,hI⟩:=hr;obtain⟨hs,yS,oe⟩:=sO cK;have hg:=eo hI
  have q54:=λn=>OT (GI:=GI) hG s n
  have WQ:=O7 (GI:=GI) hG s hs
  have q55:=λn=>adt (GI:=GI) hG s n
  have aeE:∀n,er (kX s n):=λn=>⟨hs.cells,hs.name⟩
  have HT:=λn=>Ol (GI:=GI) hG (kX s n) (aeE n)
  unfold oX at WQ;rw[if_pos hI]at WQ;refine bP hG func13 ntmps13 c13 ?_;refine az (λS H=>S 1=.int .i64 a/\S 2=.box 2 0/\H 2=some (ao s)) (by simp[a_,ao,ae]) ?_;rintro S H ⟨s1,s2,h2⟩
  by_cases ha:bH a 1 s.cells.length=true
  case neg=>
   have ha:bH a 1 s.cells.length=false:=by simpa using ha
   have aba:=q54 a;rw[ha]at aba;simp[s1,s2,h2,ao,ae];refine oc Ez ?_;simp[s1,s2,h2,ao,ae];refine oc aba ?_;simp;refine oc k ?_;simp
  have aba:=q54 a;rw[ha]at aba;refine az (λS H=>S 1=.int .i64 a/\S 2=.box 2 0/\H 2=some (ao s)) ?_ ?_
  .simp[s1,s2,h2,ao,ae];refine oc Ez ?_;simp[s1,s2,h2,ao,ae];refine oc aba ?_;simp[s1,s2,h2,ao,ae]
  clear s1 s2 h2 S H;rintro S H ⟨s1,s2,h2⟩;have acw:=HT a
  cases hE:dV s.name with
  |none=>
   rw[hE]at WQ;rw[ab9 hI ha hE]at acw;simp[s1,s2,h2,ao,ae];refine oc WQ ?_;simp[s1,s2,h2,ao,ae];refine⟨_,by kernel_rfl,q55 a,by simp,?_⟩;simp[s1,s2,h2];refine⟨_,by kernel_rfl,acw,by simp[du,av,a_],?_⟩;simp[s1,s2,h2];refine oc k ?_;simp
  |some es=>
   rw[hE]at WQ;obtain⟨n,rfl,WZ,Le⟩:=ac9 ha;rw[Zz hI WZ Le hE]at acw;have eK:=adw (eR s (aR s es)) hg.cells.1;have WQ:AC prog GI 52 [a_ s] (.ret (.d_ [.int .i64 ((oJ s (aR s es)).1:Nat),.int .i64 ((oJ s (aR s es)).2:Nat),.int .i64 0])):=WQ;have eK:wb (eR s (aR s es)) s.cells.length (oJ s (aR s es)).1 (oJ s (aR s es)).2:=eK
   generalize(oJ s (aR s es)).1=p at*
   generalize(oJ s (aR s es)).2=w at*
   have adZ:=HT (p:Int);rw[Zz hI eK.place.1 eK.place.2 hE,<-eK.words]at adZ;have adV:=q54 (p:Int);rw[show bH (p:Int) 1 s.cells.length=true by unfold bH;simp only[afa,aff];have:=eK.place;omega]at adV;have hm:=eK.most n WZ Le
   generalize eR s (aR s es) n=fn at*
   refine az (λS H=>S 1=.int .i64 (n:Nat)/\S 2=.box 2 0/\H 2=some (ao s)/\S 5=.int .i64 (p:Nat)/\S 6=.int .i64 (w:Nat)/\S 7=.int .i64 0) ?_ ?_
   .simp[s1,s2,h2,ao,ae];refine oc WQ ?_;simp[s1,s2,h2,ao,ae]
   clear s1 s2 h2 S H;rintro S H ⟨s1,s2,h2,s5,s6,s7⟩;refine az (λS H=>S 1=.int .i64 (n:Nat)/\S 2=.box 2 0/\H 2=some (ao s)/\S 5=.int .i64 (p:Nat)/\S 6=.int .i64 (w:Nat)/\S 7=.int .i64 0/\S 8=.int .i64 (fn:Nat)/\S 9=.int .i64 0) ?_ ?_
   .simp[s1,s2,h2,ao,ae];refine⟨_,by kernel_rfl,q55 _,by simp,?_⟩;simp;refine⟨_,by kernel_rfl,acw,by simp[du,av,a_],?_⟩;simp[s1,s2,h2,s5,s6,s7,ao,ae]
   clear s1 s2 h2 s5 s6 s7 S H;rintro S H ⟨s1,s2,h2,s5,s6,s7,s8,s9⟩;refine az (λS H=>S 1=.int .i64 (n:Nat)/\S 2=.box 2 0/\H 2=some (ao s)/\S 5=.int .i64 (p:Nat)/\S 6=.int .i64 (w:Nat)/\S 7=.int .i64 0/\S 8=.int .i64 (fn:Nat)) ?_ ?_
   .simp[s1,s2,h2,s5,s6,s7,s8,s9,ao,ae]
   clear s1 s2 h2 s5 s6 s7 s8 s9 S H;rintro S H ⟨s1,s2,h2,s5,s6,s7,s8⟩;refine az (λS H=>S 1=.int .i64 (n:Nat)/\S 2=.box 2 0/\H 2=some (ao s)/\S 5=.int .i64 (p:Nat)/\S 6=.int .i64 (w:Nat)/\S 8=.int .i64 (fn:Nat)) ?_ ?_
   .simp[s1,s2,h2,s5,s6,s7,s8,ao,ae]
   clear s1 s2 h2 s5 s6 s7 s8 S H;rintro S H ⟨s1,s2,h2,s5,s6,s8⟩;refine az (λS H=>S 2=.box 2 0/\H 2=some (ao s)/\S 5=.int .i64 (p:Nat)/\S 6=.int .i64 (w:Nat)) ?_ ?_
   .have hgt:¬w<fn:=by omega
    simp[s1,s2,h2,s5,s6,s8,ao,ae];refine oc adV ?_
    by_cases he:fn=w
    .have aw:¬n<p:=by have:=hm.2 he;omega
     simp[s1,s2,h2,s5,s6,s8,he,aw,ao,ae]
    .have heb:((fn:Int)==w)=false:=by simp;omega
     simp[s1,s2,h2,s5,s6,s8,hgt,heb,ao,ae]
   clear s1 s2 h2 s5 s6 s8 S H;rintro S H ⟨s2,h2,s5,s6⟩;simp[s2,h2,s5,s6,ao,ae];refine⟨_,by kernel_rfl,q55 _,by simp,?_⟩;simp;refine⟨_,by kernel_rfl,adZ,by simp[du,av,a_],?_⟩;simp[s2,h2,s5,s6];refine oc k ?_;simp
end Go.Proofs.Tryz
namespace Go.Proofs.YtdiflocclemeaaaGreatDoor
open Go Go.AL Go.ChangeShapes Go.WideShapes Go.ChangeAt Go.RowKit Go.Proofs.Tryz
namespace Hung
abbrev row:OpenClaim:=Rows.tramHungRow
abbrev spec:ChangeSpec:=Rows.tramHungSpec
theorem call (W:World) (base:Nat) (args:Array Value) {H:Type} {enc:TypeId×Value→H} (ds:List (DataW H)) (p:List MemPlace) (hG:GI W) (rl:∀ (j:Nat) t v,Tryz.f13.params[j]? = some t→args[j]? = some v→Value.okWide Tryz.prog W .any base t v)
  (hA:DataW.TrodAll enc Tryz.prog W 0 (λ_=>true) true Tryz.f13.params.toList args.toList ds p):Calls Tryz.prog 13 args W λe W'=>e=.returned (.bool true)/\Below W.heap.size W W':=by
 rw[Tryz.params13]at hA rl;obtain⟨v0,K8,d0,ds0,p0,q0,e0,rfl,rfl,h0,AZ⟩:=trodAll_cons hA;obtain⟨v1,vs1,d1,ds1,p1,q1,e1,rfl,rfl,h1,Tc⟩:=trodAll_cons AZ;obtain⟨rfl,rfl,rfl⟩:=trodAll_nil Tc
 obtain rfl:args=#[v0,v1]:=by
  apply Array.toList_inj.1;rw[e0,e1]
 obtain⟨x0,g0,a0⟩:=wX (rl 0 31 v0 rfl rfl) h0;obtain⟨x1,g1,a1⟩:=open_int (rl 1 3 v1 rfl rfl) h1
 refine DQ (aeq Cg (λ_ h=>h) x0 x1) hG rfl λi h h'=>?_
 match i,h with
 |0,_=>exact .data _ _ a0
 |1,_=>exact .data _ _ a1
theorem w1(os:Os):((World.laidAll Tryz.prog os row.laid).forCall (λ_ _=>0) ⟨#[],#[.agg #[.slice none 0 0,.int .i64 0,.int .i64 0,.int .i64 0,.int .i64 0,.slice none 0 0,.slice none 0 0,.int .i64 0,.int .i64 0,.int .i64 0,.int .i64 0,.int .i64 0,.slice none 0 0,.int .i64 0,.int .i64 0],.int .i64 0],[]⟩).Shaped Tryz.checked.prog:=
 World.shaped_of_ZipB (by kernel_rfl) (by kernel_rfl)
theorem lifted (os:Os) (started:os.Started) (H:Type) (enc:TypeId×Value→H) :
  ReturnsInHanded {} Tryz.checked os 13 .any (λw args=>(spec.pre enc Tryz.prog Tryz.f13 row.domain false w args/\laidMetH Tryz.prog row.laid w)/\sizedMet enc Tryz.prog Tryz.f13 (OpenSpec.ofChange spec) false w args)
   (spec.post enc Tryz.prog Tryz.f13 false true false false):=by
 refine Bs 13 Tryz.f13 Tryz.func13 (by kernel_rfl) (by kernel_rfl) spec rfl ?_ ?_ os started _ 12 (w1 os) (by kernel_rfl) (by kernel_rfl) (by kernel_rfl) ?_ (λW base args ds p=>call W base args ds p)
 .intro ds hl;rw[show Tryz.f13.params.size=2 by kernel_rfl]at hl
  match ds,hl with
  |[d0,d1],_=>rfl
 .rw[Tryz.params13];intro t ht
  have:t=31\/t=3:=by simpa using ht
  rcases this with rfl|rfl
  all_goals exact⟨by kernel_rfl,agE (by kernel_rfl)⟩
 .rw[MakeChecks.laidMetH_plain _ _ _ (by kernel_rfl)];exact laidMet_laidAll _ (by kernel_rfl) (by kernel_rfl)
theorem zj:Tryz.prog.funcNamed "mahlstick/mahlsticklaw09.TramHung" = some 13:=by kernel_rfl
theorem B6:(row.inPlace==Tryz.prog.inPlace 13)=true:=by kernel_rfl
theorem uP:(row.unfollowed==Tryz.prog.unfollowed 13)=true:=by kernel_rfl
theorem Aj:(row.recurses==Tryz.prog.recurses 13)=true:=by kernel_rfl
theorem Jb:(row.named==Tryz.prog.varsNamed 13)=true:=by kernel_rfl
theorem I3:joinedFacts Tryz.prog 13 Tryz.f13 spec row=true:=
 Cc ⟨rfl,rfl,rfl,rfl,rfl,rfl⟩ (by kernel_rfl) (by kernel_rfl) (by kernel_rfl) B6 uP Aj Jb (by kernel_rfl) (by kernel_rfl) (by kernel_rfl) (by kernel_rfl)
theorem zz:Tryz.f13.isInstance Tryz.prog row.origin row.targs:=agE (by kernel_rfl)
theorem BR:Tryz.f13.isWrapper Tryz.prog row.wrapper row.mainSum:=by
 unfold Func.isWrapper;rw[if_neg (by decide+kernel)];exact⟨rfl,rfl⟩
theorem holds:Rows.TramHungSaid:=
 OpenClaim.holds_of_wide 13 Tryz.f13 rfl rfl rfl rfl rfl rfl rfl ⟨rfl,rfl,rfl,rfl,rfl⟩ rfl rfl rfl rfl rfl zj Tryz.func13 I3 zz BR (λos started H enc _=>lifted os started H enc)
theorem Q3:row.wfByText (OpenSpec.ofChange spec)=true:=by kernel_rfl
theorem II:false=row.goesBy Tryz.prog:=by kernel_rfl
theorem GW:([31,3].all λu=>!Tryz.prog.wantsStandIn u)=true:=by kernel_rfl
theorem Jq:Tryz.prog.mainIs=some (true, "6409d79c938881258cf6c01a4bbb5b9da95cffe89bf69844c1f6e37b46348158".toList):=by rw [DN,MJ]
theorem card:Rows.TramHungCardSaid:=
 Claim7.holds_tied_plain_at .later [] [.data,.data,.data,.data,.pinned] true (true, "6409d79c938881258cf6c01a4bbb5b9da95cffe89bf69844c1f6e37b46348158") true holds (λ_ h=>by cases h) Q3 (λ_ h=>by cases h) tramHung_row_tie rfl ⟨rfl,rfl⟩ Jq rfl
  (λf fn hf Lf=>by
   obtain rfl:f=13:=afo (zj.symm.trans hf)|>.symm
   obtain rfl:fn=Tryz.f13:=(afo (Tryz.func13.symm.trans Lf)).symm;refine⟨Gd,λj t ht=>?_⟩;rw[Tryz.params13]at ht
   have hm:t∈[31,3]:=by
    simpa using ahM ht
   exact(show Tryz.prog.wantsStandIn t=false by simpa using afC.1 GW t hm))
  II
end Hung
#print axioms Hung.card
end Go.Proofs.YtdiflocclemeaaaGreatDoor
