/-
  For all lists of widths and all widths the call of TopLeaf returns true, and each argument reads behind the call as it read before. Conditions: none beyond those of the given row.
-/
import Derived.Test.YtifmgeicigngbaaGreatLf2
import Derived.Test.YtifmgeicigngbaaGreatRows
set_option maxRecDepth 100000
set_option maxHeartbeats 8000000
set_option linter.all false
namespace Go.Proofs.Tryz
open Go Go.AL Go.RowKit Go.Proofs Go.Proofs.Tram
section
variable{H:Type}{enc:TypeId×Value->H}{w:World}{held:Bool}
def T0:Nat->Nat->Prop:=λ_ _=>True
def ou(w:World)(l:List AV)(cs:List Value):Prop:=l.length=cs.length/\∀i (h:i<l.length)(h':i<cs.length),(l[i]).one=true/\RD T0 w l[i] cs[i]
def Aa(enc:TypeId×Value->H)(w:World)(held:Bool)(t:TypeId){α:Type}(f:α->List AV)(Gq:α->Prop):Prop:=
 ∀(fuel:Nat)(cs:List Value)(x:DataW H×List MemPlace),DataW.trod enc prog w 0 (λ_=>true) held fuel t cs=some x->∃a,Gq a/\ou w (f a) cs
def Pp(n:Int):Prop:= -9223372036854775808<=n/\n<9223372036854775808
def IN{t:TypeId}(ht:prog.underlying t=some (.int .i64)):Aa enc w held t (λn:Int=>[.int .i64 n]) Pp:=by
 intro fuel cs x h;obtain⟨n,rfl,_,hw⟩:=DataW.trod_int ht h;refine⟨n,?_,rfl,λi hi cy=>?_⟩
 .simp only[Lit.wf,Bool.and_eq_true,decide_eq_true_eq]at hw
  have h1:IntKind.i64.min= -9223372036854775808:=by kernel_rfl
  have h2:IntKind.i64.max=9223372036854775807:=by kernel_rfl
  rw[h1,h2]at hw;exact⟨hw.1,by omega⟩
 .match i,hi with
  |0,_=>exact⟨rfl,.int _ _⟩
def uG{α:Type}{p:Nat->α->Prop}:∀(n:Nat),(∀i,i<n->∃a,p i a)->∃l:List α,l.length=n/\∀i (h:i<l.length),p i l[i]
 |0,_=>⟨[],rfl,λi h=>by simp at h⟩
 |n+1,h=>by
  obtain⟨l,hl,hp⟩:=uG n λi hi=>h i (by omega)
  obtain⟨a,ha⟩:=h n (by omega);refine⟨l++[a],by simp[hl],λi hi=>?_⟩
  by_cases kJ:i<l.length
  .rw[List.getElem_append_left kJ];exact hp i kJ
  .have:i=n:=by simp at hi;omega
   subst this;rw[List.getElem_append_right (by omega)];simpa[hl]using ha
def Hy{w:World}{a:Addr}{v:Value}(h:w.cell? a=some v):a=⟨a.block,a.off,none⟩:=by
 obtain⟨b,o,s⟩:=a;unfold World.cell? at h
 cases s with
 |none=>rfl
 |some s=>
  simp at h
  split at h<;>simp at h
def D9 {t e:TypeId} {α:Type} {f:α→List AV} {Gq:α→Prop} (mk:α→AV) (LU:∀ a,(mk a).cells=f a) (ht:prog.underlying t=some (.slice e)) (iE:0 < prog.cellsOf e) (he:Aa enc w held e f Gq) :
  Aa enc w held t (λl:List α=>[.slice .view (l.map mk)]) (λl=>∀a∈l,Gq a):=by
 intro fuel cs x h
 rcases DataW.trod_slice ht h with⟨rfl,_⟩|⟨a,len,cap,elems,rest,n,_,rfl,_,_,hlc,Eo,hlen,Ag,kR,_⟩
 .refine⟨[],by simp,rfl,λi hi cy=>?_⟩
  match i,hi with
  |0,_=>exact⟨rfl,.fH _⟩
 .obtain⟨size,j_⟩:∃size,prog.cellsOf e=size:=⟨_,rfl⟩
  rw[j_]at iE Ag kR;obtain⟨Er,v_⟩:=kR rfl
  by_cases eu:cap=0
  .subst eu
   have va:len=0:=by omega
   subst va;refine⟨[],by simp,rfl,λi hi cy=>?_⟩
   match i,hi with
   |0,_=>exact⟨rfl,.iG _ _⟩
  have CL:∃i cs',w.cells? 0 (a.add (i*size)) size=some cs'/\i=0:=by
   by_cases va:len=0
   .subst va;have h0:=v_ 0 (by omega);rw[List.getElem?_eq_getElem (by omega),Option.bind_eq_some_iff]at h0;obtain⟨cs',h1,_⟩:=h0;exact⟨0,cs',by simpa using h1,rfl⟩
   .have h0:=Ag 0 (by omega);rw[List.getElem?_eq_getElem (by omega),Option.bind_eq_some_iff]at h0;obtain⟨cs',h1,_⟩:=h0;exact⟨0,cs',h1,rfl⟩
  obtain⟨_,ZZ,Ki,rfl⟩:=CL;rw[Nat.zero_mul,show a.add 0=a by simp[Addr.add]]at Ki;have Bg:=(World.cells?_some Ki).2.2 0 (by omega);rw[show a.add 0=a by simp[Addr.add]]at Bg;have va:=(World.cells?_some Ki).2.1;rw[List.getElem?_eq_getElem (by omega)]at Bg
  obtain⟨b,off,rfl⟩:∃b off,a=⟨b,off,none⟩:=⟨_,_,Hy Bg⟩
  clear Bg Ki va ZZ v_ kR
  obtain⟨l,hl,hp⟩:=uG (p:=λi (v:α)=>Gq v/\∃cs',w.cells? 0 ((⟨b,off,none⟩:Addr).add (i*size)) size=some cs'/\ou w (f v) cs') len λi hi=>by
   have h0:=Ag i hi;rw[List.getElem?_eq_getElem (by omega),Option.bind_eq_some_iff]at h0;obtain⟨cs',h1,h2⟩:=h0;obtain⟨v,hv,hc⟩:=he _ _ _ h2;exact⟨v,hv,cs',h1,hc⟩
  refine⟨l,λv hv=>?_,rfl,λi hi cy=>?_⟩
  .obtain⟨i,hi,rfl⟩:=List.getElem_of_mem hv;exact(hp i hi).1
  .have wc:i=0:=by simpa using hi
   subst wc;refine⟨rfl,?_⟩;show RD T0 w (.slice .view (l.map mk)) (.slice (some ⟨b,off,none⟩) len cap)
   have tF:len=(l.map mk).length:=by simp[hl]
   have Ep:∀i (h:i<(l.map mk).length),((l.map mk)[i]).cells=f (l[i]'(by simpa using h)):=λi h=>by rw[List.getElem_map];exact LU _
   have key:∀m,m=(l.map mk).length->RD T0 w (.slice .view (l.map mk)) (.slice (some ⟨b,off,none⟩) m cap):=?_
   .exact key _ tF
   rintro m rfl
   have gk:∀i (h:i<l.length) j,j<size->∃cs',ou w (f l[i]) cs'/\cs'.length=size/\w.cell? ⟨b,off+(i*size+j),none⟩=cs'[j]?:=by
    intro i h j hj;obtain⟨_,cs',h1,h2⟩:=hp i h;obtain⟨_,h3,h4⟩:=World.cells?_some h1;have h5:=h4 j hj;rw[Addr.add_lit,Addr.add_lit,Nat.add_assoc]at h5;exact⟨cs',h2,h3,h5⟩
   have PW:∀i (h:i<l.length),(f l[i]).length=size:=by
    intro i h;obtain⟨cs',h1,h2,_⟩:=gk i h 0 iE;rw[h1.1,h2]
   refine .slice .view (l.map mk) b off cap size (λk=>(w.cell? ⟨b,off+k,none⟩).getD undef) (by rw[<-tF];exact hlc) (λh=>by cases h) (λi h=>by rw[Ep];exact PW _ _) (λi h j hj=>?_) (λk hk=>⟨trivial,?_⟩) (λi h j hj=>?_)
   .have ec:i<l.length:=by simpa using h
    have dJ:j<(f l[i]).length:=by rw[Ep]at hj;exact hj
    have Xu:j<size:=by rw[PW]at dJ;exact dJ
    obtain⟨cs',h1,h2,_⟩:=gk i ec j Xu
    have e:((l.map mk)[i]).cells[j]=(f l[i])[j]:=by simp only[Ep]
    rw[e];exact(h1.2 j dJ (by omega)).1
   .have eG:k<l.length*size:=by simpa using hk
    have hi:k/size<l.length:=Nat.div_lt_of_lt_mul (by rw[Nat.mul_comm];exact eG);have hj:k % size<size:=Nat.mod_lt _ iE;obtain⟨cs',h1,h2,h3⟩:=gk (k/size) hi (k % size) hj
    have e:k/size*size+k % size=k:=by rw[Nat.mul_comm];exact Nat.div_add_mod k size
    rw[e,List.getElem?_eq_getElem (by omega)]at h3;rw[h3];rfl
   .have ec:i<l.length:=by simpa using h
    have dJ:j<(f l[i]).length:=by rw[Ep]at hj;exact hj
    have Xu:j<size:=by rw[PW]at dJ;exact dJ
    obtain⟨cs',h1,h2,h3⟩:=gk i ec j Xu;rw[List.getElem?_eq_getElem (by omega)]at h3
    have e:((l.map mk)[i]).cells[j]=(f l[i])[j]:=by simp only[Ep]
    rw[e,h3];exact(h1.2 j dJ (by omega)).2
def ou.append{l1 l2:List AV}{c1 c2:List Value}(h1:ou w l1 c1)(h2:ou w l2 c2):ou w (l1++l2) (c1++c2):=by
 refine⟨by simp[h1.1,h2.1],λi h h'=>?_⟩
 by_cases hi:i<l1.length
 .rw[List.getElem_append_left hi,List.getElem_append_left (by rw[<-h1.1];exact hi)];exact h1.2 i hi _
 .rw[List.getElem_append_right (by omega),List.getElem_append_right (by rw[<-h1.1];omega)];have:=h1.1;simp only[this];exact h2.2 _ _ _
def co3:prog.cellsOf 3=1:=by kernel_rfl
def u3:prog.underlying 3=some (.int .i64):=by kernel_rfl
def Zt:prog.underlying 28=some (.slice 3):=by kernel_rfl
def JW:Aa enc w held 3 (λn:Int=>[.int .i64 n]) Pp:=IN u3
def L9:Aa enc w held 28 (λl:List Int=>[vI l]) (λl=>∀n∈l,Pp n):=
 D9 (e:=3) (λn:Int=>.int .i64 n) (λ_=>rfl) Zt (by rw[co3];omega) JW
def open_int{d:DataW H}{ps:List MemPlace}{v:Value}{r:Reach}{base:Nat}(uH:Value.okWide prog w r base 3 v)(h:DataW.Trod enc prog w 0 (λ_=>true) held 3 v d ps):∃n:Int,Pp n/\RD T0 w (.int .i64 n) v:=by
 obtain⟨fuel,hf⟩:=h;obtain⟨n,gn,hc⟩:=JW _ _ _ hf;obtain⟨m,rfl⟩:=WideShapes.okWide_int u3 uH;refine⟨n,gn,?_⟩;have:=(hc.2 0 (by simp) (by simp[Value.cells])).2;simpa[Value.cells]using this
def open_ints{d:DataW H}{ps:List MemPlace}{v:Value}{r:Reach}{base:Nat}(uH:Value.okWide prog w r base 28 v)(h:DataW.Trod enc prog w 0 (λ_=>true) held 28 v d ps):∃l:List Int,(∀n∈l,Pp n)/\RD T0 w (vI l) v:=by
 obtain⟨fuel,hf⟩:=h;obtain⟨l,gl,hc⟩:=L9 _ _ _ hf;obtain⟨a,n,m,rfl⟩:=WideShapes.okWide_slice Zt uH;refine⟨l,gl,?_⟩;have:=(hc.2 0 (by simp) (by simp[Value.cells])).2;simpa[Value.cells]using this
end
end Go.Proofs.Tryz
namespace Go.Proofs.Tryz
open Go Go.AL Go.RowKit Go.Proofs Go.Proofs.Tram
attribute [local simp] dS eF dR cW dT cV cZ ck cg dQ cd bP fB fC an aq ev aB.S aB.H aY au aH AL.start AV.cells AV.storable AV.bb aQ aZ aP HR.okB post cU cL cI AV.out AV.bu br bU fz fG AV.vw bR vI int bI az ct cb gB il dM cD aR AV.aw AV.bV nz
variable{GI:World->Prop}{l:Nat}{xs:List AV}
noncomputable def c155s:ae:=.seq (.ops [⟨(some 8),none,.mv true (.c (.bool false))⟩])<|
 .seq (.seq (.ops [⟨(some 11),none,.mv false (.t 0)⟩,
   ⟨(some 12),none,.lI (.t 11)⟩,
   ⟨(some 13),none,.fieldAddr 5 (.t 2)⟩,
   ⟨(some 14),none,.load .any false 1 (.t 13)⟩,
   ⟨(some 15),none,.lI (.t 14)⟩,
   ⟨(some 16),none,.bin .eql (.t 12) (.t 15)⟩])<|
 .cond (.t 16)
  (.seq (.ops [⟨(some 17),none,.load .any false 1 (.t 3)⟩,
    ⟨(some 18),none,.mv false (.t 0)⟩,
    ⟨(some 19),none,.mv false (.t 1)⟩,
    ⟨(some 20),none,.lI (.t 19)⟩,
    ⟨(some 21),none,.build [(.slice .nil []),(.int .i64 0)] [(0,1,(.t 18)),(1,1,(.t 20))]⟩,
    ⟨(some 22),none,.gI (.t 17) [(.t 21)]⟩,
    ⟨(some 8),none,.mv true (.t 22)⟩])<|
  .ret)
  (.skip))<|
 .seq (.skip)<|
 .seq (.seq (.ops [⟨(some 23),none,.mv false (.t 1)⟩,
   ⟨(some 24),none,.lI (.t 23)⟩,
   ⟨(some 25),none,.bin .add (.t 24) (.c (.int .i64 1))⟩,
   ⟨(some 26),none,.mv false (.c (.int .i64 0))⟩])<|
 .block 0<|.loop<|
  .seq (.ops [⟨(some 27),none,.bin .lss (.t 26) (.t 25)⟩])<|
  .seq (.cond (.t 27)
   (.skip)
   (.exit 0))<|
  .seq (.block 1 <| .seq (.ops [⟨(some 28),none,.mv false (.t 26)⟩,
     ⟨(some 9),none,.mv true (.t 28)⟩])<|
   .seq (.ops [⟨(some 29),none,.mv false (.t 1)⟩,
     ⟨(some 30),none,.call 124 [(.t 29)]⟩,
     ⟨(some 10),none,.mv true (.t 30)⟩])<|
   .seq (.seq (.ops [⟨(some 31),none,.mv false (.t 9)⟩,
     ⟨(some 32),none,.mv false (.t 1)⟩,
     ⟨(some 33),none,.lI (.t 32)⟩,
     ⟨(some 34),none,.bin .eql (.t 31) (.t 33)⟩])<|
   .cond (.t 34)
    (.ops [⟨(some 35),none,.mv true (.t 10)⟩,
      ⟨(some 36),none,.buildSlice 28 3 1 [(.c (.int .i64 0))]⟩,
      ⟨(some 37),none,.append 28 3 1 8 (.t 35) (.t 36)⟩,
      ⟨(some 10),none,.mv true (.t 37)⟩])
    (.skip))<|
   .seq (.cM [⟨(some 38),none,.mv false (.t 10)⟩,
     ⟨(some 39),none,.mv false (.t 9)⟩,
     ⟨(some 40),none,.indexAddr 1 (.t 38) (.t 39)⟩,
     ⟨(some 41),none,.load .ref false 1 (.t 40)⟩,
     ⟨(some 42),none,.mv false (.t 0)⟩,
     ⟨(some 43),none,.lI (.t 42)⟩,
     ⟨(some 44),none,.bin .shl (.c (.int .i64 1)) (.t 43)⟩,
     ⟨(some 45),none,.bin .or (.t 41) (.t 44)⟩,
     ⟨(some 46),none,.indexAddr 1 (.t 38) (.t 39)⟩,
     ⟨none,none,.store .ref 1 (.t 46) (.t 45)⟩])<|
   .seq (.seq (.cM [⟨(some 47),none,.load (.box 4) true 7 (.t 4)⟩,
     ⟨(some 48),none,.mv false (.t 10)⟩,
     ⟨(some 49),none,.mv false (.t 9)⟩,
     ⟨(some 50),none,.indexAddr 1 (.t 48) (.t 49)⟩,
     ⟨(some 51),none,.load .ref false 1 (.t 50)⟩,
     ⟨(some 52),none,.call 45 [(.t 47),(.t 51)]⟩,
     ⟨(some 53),none,.not (.t 52)⟩])<|
   .cond (.t 53)
    (.exit 1)
    (.skip))<|
   .seq (.cM [⟨(some 54),none,.load (.box 5) false 1 (.t 5)⟩,
     ⟨(some 55),none,.mv false (.t 0)⟩,
     ⟨(some 56),none,.call 124 [(.t 55)]⟩,
     ⟨(some 57),none,.mv false (.t 9)⟩,
     ⟨(some 58),none,.buildSlice 28 3 1 [(.t 57)]⟩,
     ⟨(some 59),none,.append 28 3 1 8 (.t 56) (.t 58)⟩,
     ⟨(some 60),none,.mv false (.t 10)⟩,
     ⟨(some 61),none,.gI (.t 54) [(.t 59),(.t 60)]⟩,
     ⟨(some 62),none,.not (.t 61)⟩])<|
   .cond (.t 62)
    (.seq (.ops [⟨(some 8),none,.mv true (.c (.bool false))⟩])<|
    .ret)
    (.skip))<|
  .ops [⟨(some 63),none,.bin .add (.t 26) (.c (.int .i64 1))⟩,
    ⟨(some 26),none,.mv false (.t 63)⟩])<|
 .seq (.ops [⟨(some 8),none,.mv true (.c (.bool true))⟩])<|
 .ret
noncomputable def jE:ae:=ae.qb c155s.qb.qb
noncomputable def mP:ae:=ae.qb jE.qa.qb.qb
noncomputable def oG:ae:=ae.qb mP.qb.qb.qa
noncomputable def od:ae:=ae.qb oG.qb
noncomputable def yn:ae:=ae.qb od.qb
noncomputable def JV:ae:=ae.qb yn
def PS.v7 {C:Cons prog GI l xs} {X:Env} {ws:List Int} {w:Int} {k:Nat} {MI MF:Nat→Prop} {W W' W0:World} {now T:List Nat} {ex:List (Nat×AV)} {a a':Act} (h:PS C X ws w MI W0 now T MF ex k a W) (ht:dG (fun b=>b=X.bM) W W') (hI:∃ y,IL ws X.bM y W') {Wm:Nat→Bool} (hs:dV Wm a a') (aL:a'.tmps.size=64) (c_:a'.defers=[])
  (h0:(List.range 6).all (λt=>!Wm t)=true) (hex:ex.all (λp=>!Wm p.1)=true):PS C X ws w MI W0 now T MF ex k a' W':=by
 obtain⟨M,Pr,s,hM⟩:=h.st;have hf:=s.lO ht;have xc:=ht.size;have h1:=h.sm.1
 have vu:∀t,t<6->a'.tmps.getD t undef=a.tmps.getD t undef:=λt ht=>hs t (by
  have:=List.all_eq_true.1 h0 t (List.mem_range.2 ht)
  simpa using this)
 refine⟨⟨_,Pr,s.fQ ht hI,λb hb eN=>?_⟩,h.sub,⟨by omega,λb hb=>(hf b (h.sub b hb)).trans (h.sm.2 b hb)⟩,aL,c_,(vu 2 (by omega)).trans h.t2,(vu 3 (by omega)).trans h.t3,(vu 4 (by omega)).trans h.t4,(vu 5 (by omega)).trans h.t5,?_,?_,λp hp=>?_⟩
 .by_cases Ew:b<W.heap.size
  .exact .inl (hM b hb Ew)
  .exact .inr ⟨by omega,eN⟩
 .rw[vu 0 (by omega)];exact h.r0.mono (aE.of_eq λb j hp=>⟨hp,hf b (h.sub b hp)⟩)
 .rw[vu 1 (by omega)];exact h.r1.mono (aE.of_eq λb j hp=>⟨hp,hf b (h.sub b hp)⟩)
 .obtain⟨q1,q2,q3⟩:=h.ex p hp;have:=List.all_eq_true.1 hex p hp;rw[hs p.1 (by simpa using this)];exact⟨q1,q2,q3.mono (aE.of_eq λb j hp=>⟨hp,hf b hp⟩)⟩
def Sa{Pr:Nat->Nat->Prop}{w:World}{L:List AV}{c:Value}(h:RD Pr w (.slice .view L) c):∃ad cp,c=.slice ad L.length cp:=by
 cases h<;>exact⟨_,_,rfl⟩
def MV {w0:World} {n:Nat} {g:Gh} {S:af} {H:ah} {a:Act} {w:World} (R:Rel prog w0 n bp g S H a w) {t:Nat} (ht:t < n) {L:List Nat} (bt:L≠[]) (hS:S t = .slice (.own 3) (dL L)) :
  ∃b cap cur,a.tmps.getD t undef=.slice (some ⟨b,0,none⟩) L.length cap/\g.base<=b/\w.heap[b]?=some (.cells cur 3 (0,0))/\L.length<=cap/\cap<=maxLen/\cur.size=cap/\cur.toList.take L.length=L.map λx:Nat=>Value.int .i64 (x:Int):=by
 obtain⟨i3,tC,nV⟩:=iZ 3 1;have h1:=R.slot t ht id;have h2:=R.own t ht id;rw[hS]at h1 h2;obtain⟨i',xs,b,k1,k2,k3,k4,k5⟩:=h2;rw[tC]at k1;cases k1;have hl:=fk L
 have hf:=iN.OB (h1.bQ rfl) k2 (λx hx=>by
  obtain⟨k,_,rfl⟩:=List.mem_map.1 hx
  exact⟨nV.symm,rfl,λc hc=>by simp[AV.cells]at hc;subst hc;rfl⟩) (λx hx c hc=>by
  obtain⟨k,_,rfl⟩:=List.mem_map.1 hx
  simp[AV.cells]at hc;subst hc;rfl)
 have Ok:=k2.1;rw[nV,Nat.mul_one,hl]at Ok
 have iY:xs=L.map λx:Nat=>Value.int .i64 (x:Int):=by
  apply List.ext_getElem
  .rw[Ok,List.length_map]
  .intro j hj dJ
   have XS:j<L.length:=by omega
   have eL:j<(dL L).length:=by omega
   have m_:(dL L)[j]=.int .i64 (L[j]:Nat):=by simp[dL]
   obtain⟨u,u1,u2⟩:=hf.2 j eL 0 (by simp[m_,AV.cells]);rw[nV,Nat.mul_one,Nat.add_zero,List.getElem?_eq_getElem hj]at u1;have u1:=Option.some.inj u1;simp only[m_,AV.cells,List.getElem_cons_zero]at u2;have:=(RV.data (al:=bO) _ _ u2).int_eq;rw[u1,this,List.getElem_map]
 subst iY
 rcases k2.2 with⟨_,h0⟩|⟨gg,cap,cur,hv,l5,hg,q1,q2,q3,q4⟩
 .rw[hl]at h0;exact absurd (List.eq_nil_of_length_eq_zero h0) bt
 .rw[nV,Nat.mul_one]at q3 q4;rw[hl]at hv q1 q4;exact⟨gg,cap,cur,hv,l5,hg,q1,q2,q3,q4⟩
def I3(C:Cons prog GI l xs)(X:Env)(ws:List Int)(w:Int)(r:Nat):Prop:=
 ∀(now T:List Nat),now.length+r=ws.length->T.length<=now.length->(∀x∈T,x<2^now.length)->∀(k:Nat)(M:Nat->Prop)(Pr:Nat->Nat->Prop)(MI GN:Nat->Prop)(W:World)(c0 c1:Value)(tl:List AV),nc C X ws w k M Pr MI W->(∀b,GN b->M b/\b≠X.bM/\¬MI b)->
  RD (λb _=>GN b) W (.slice .view (dL now)) c0->RD (λb _=>GN b) W (.slice .view (dL T)) c1->xs.drop k=(eU ws w r now T).map gM++tl->
  Calls prog 155 #[c0,c1,X.cJ,X.cY,X.cK,X.cP] W λe W'=>∃M' cS,(e=.returned (.bool true)/\nc C X ws w (k+(eU ws w r now T).length) M' cS MI W'/\∀b,MI b->W'.heap[b]?=W.heap[b]?)\/(e=.returned (.bool false)/\C.X M' cS W')
def mz(T:List Nat)(i:Nat):List Nat:=if i<T.length then T else T++[0]
def wa{T:List Nat}{i:Nat}(h:i<=T.length):i<(mz T i).length/\mz T i≠[]:=by
 unfold mz;split
 .exact⟨by omega,by rintro rfl;simp at*⟩
 .exact⟨by simp;omega,by simp⟩
def BV{T:List Nat}{i:Nat}(h:i<=T.length):(mz T i)[i]'(wa h).1=T.getD i 0:=by
 have h1:=List.getElem?_eq_getElem (wa h).1
 have h2:(mz T i)[i]?=some (T.getD i 0):=by
  unfold mz;split
  .rename_i h;rw[List.getD_eq_getElem?_getD,List.getElem?_eq_getElem h]<;>rfl
  .have:i=T.length:=by omega
   subst this;simp
 rw[h1]at h2;exact Option.some.inj h2
def Bx{T:List Nat}{i k:Nat}(h:i<=T.length):(mz T i).set i (T.getD i 0|||2^k)=iF T i k:=by
 unfold mz iF;split
 .rfl
 .have:i=T.length:=by omega
  subst this;simp
def Bu{T:List Nat}{i k:Nat}(h:i<=T.length):(iF T i k).length<=T.length+1/\i<(iF T i k).length:=by
 unfold iF;split
 .simp;omega
 .simp;omega
def Uu{a b k:Nat}(ha:a<2^k)(hb:b<2^k):a|||b<2^k:=Nat.or_lt_two_pow ha hb
def OR{T:List Nat}{i k:Nat}(hT:∀x∈T,x<2^k):∀x∈iF T i k,x<2^(k+1):=by
 have hp:2^k<2^(k+1):=Nat.pow_lt_pow_right (by decide) (Nat.lt_succ_self k)
 have UJ:∀x∈T,x<2^(k+1):=λx hx=>Nat.lt_trans (hT x hx) hp
 unfold iF;split
 .intro x hx;rcases List.mem_or_eq_of_mem_set hx with h|h
  .exact UJ x h
  .subst h;refine Uu ?_ hp;rename_i hi;rw[List.getD_eq_getElem?_getD,List.getElem?_eq_getElem hi];exact UJ _ (List.getElem_mem hi)
 .intro x hx;rcases List.mem_append.1 hx with h|h
  .exact UJ x h
  .rw[List.mem_singleton]at h;subst h;exact hp
variable{C:Cons prog GI l xs}{X:Env}{ws:List Int}{w:Int}{k:Nat}{MI:Nat->Prop}{W:World}{now T:List Nat}{a:Act}
noncomputable def ux:Code:=jI (jI (jI (jI Cx)))
def tJ(T:List Nat)(i:Nat):List (Nat×AV):=[(25,.int .i64 ((T.length+1:Nat):Int)),(26,.int .i64 (i:Nat))]
def k_(T:List Nat)(i:Nat):List (Nat×AV):=[(9,.int .i64 (i:Nat)),(25,.int .i64 ((T.length+1:Nat):Int)),(26,.int .i64 (i:Nat))]
def Ip:Nat->Bool:=λt=>t==10||decide (27<=t)
def QV (hG:av GI) (hlen:now.length≤3) (hT:T.length≤now.length) (F3:∀ x∈T,x < 2 ^ now.length) {i:Nat} (hi:i≤T.length) {ex:List (Nat×AV)} (hex:ex.lookup 26=some (.int .i64 (i:Nat))∧ex.lookup 25=some (.int .i64 ((T.length+1:Nat):Int))) (h:PS C X ws w MI W now T MI ex k a W) {Q:Exit→Act→World→Prop} {m:Nat}
  (hk:∀a' W',PS C X ws w MI W now T MI (k_ T i) k a' W'->RD (λb _=>W.heap.size<=b/\b<W'.heap.size) W' (.slice .view (dL (iF T i now.length))) (a'.tmps.getD 10 undef)->ux.wpIn (FR none) m prog Q a' W'):Cx.wpIn (FR none) m prog Q a W:=by
 have ec:=wa hi
 have OO:T.getD i 0<16:=by
  by_cases ao:i<T.length
  .rw[List.getD_eq_getElem?_getD,List.getElem?_eq_getElem ao]
   exact Nat.lt_of_lt_of_le (F3 _ (List.getElem_mem ao)) (by
    have:(2:Nat)^now.length<=2^3:=Nat.pow_le_pow_right (by decide) hlen
    omega)
  .rw[List.getD_eq_getElem?_getD,List.getElem?_eq_none (by omega)];decide
 show(Code.seq _ (.seq _ (.seq (.seq _ (.cond _ _ .skip)) (.seq _ _)))).wpIn (FR none) m prog Q a W;refine wpIn_seq ?_;refine h.region hG (ac:=ae.qa oG) (by kernel_rfl) (by kernel_rfl) (by kernel_rfl) (k_ T i) rfl ?_ ?_
 .simp[c155s,jE,mP,oG,ae.qa,ae.qb,pS,hex.1,hex.2,k_]
 intro a4 W4 h4;show Code.wpIn _ _ _ _ _ a4 W4;obtain⟨M,Pr,s,hM⟩:=h4.st;refine wpIn_seq ?_;have Jt:=Ab hG (dL T) (uA T) (by rw[fk];omega);refine cQ hG bL (ac:=ae.qa oG.qb) (W:=Ip) (by kernel_rfl) (by kernel_rfl) (by kernel_rfl) (C.gi s.j) (λb j=>MI b\/Pr b j) (pS l X ws w now T (k_ T i)) h4.size h4.defers (h4.gu s) (K:=λS _=>S 9=.int .i64 (i:Nat)/\S 1=.slice .view (dL T)/\S 10=.slice (if(dL T).isEmpty then .nil else .own 3) (dL T)) ?_ ?_
 .simp[c155s,jE,mP,oG,ae.qa,ae.qb,pS,k_,List.lookup];refine oc Jt ?_
  cases hI:dL T<;>simp[pS,k_,List.lookup,hI]
 rintro g5 S5 H5 a5 W5 Kx R5 ⟨s9,s1,bW⟩ Kv;show Code.wpIn _ _ _ _ _ a5 W5;have hG4:GI W4:=C.gi s.j;refine wpIn_seq (wpIn_seq ?_);refine eI R5 hG hG4 bL (ac:=ae.qa od.qa) (W:=Ip) (by kernel_rfl) (by kernel_rfl) (by kernel_rfl) (by rw[Kx];exact λ_ h=>h) (K:=λS _=>S 34=.bool (decide (i=T.length))/\S 10=.slice (if(dL T).isEmpty then .nil else .own 3) (dL T)) ?_ ?_
 .have:((i:Int)==(T.length:Int))=decide (i=T.length):=by rw[Bool.eq_iff_iff,beq_iff_eq,decide_eq_true_iff];omega
  have hl:=fk T
  cases hI:dL T with
  |nil=>
   rw[hI]at s1 bW hl
   have hl:T.length=0:=by simpa using hl.symm
   rw[hl]at this⊢;simp[c155s,jE,mP,oG,od,ae.qa,ae.qb,s9,s1,bW,this]
   try omega
  |cons z zs=>
   rw[hI]at s1 bW hl;rw[<-hl]at this⊢;simp at this;simp[c155s,jE,mP,oG,od,ae.qa,ae.qb,s9,s1,bW,this]
   try omega
 clear s9 s1 bW;rintro g6 S6 H6 a6 W6 Yp R6 ⟨Dk,bW⟩ Lz;show Code.wpIn _ _ _ _ _ a6 W6
 have e34:a6.tmps.getD 34 undef=.bool (decide (i=T.length)):=by
  have:=R6.slot 34 (by decide) id;rw[Dk]at this;exact this.fc
 refine wpIn_cond (t:=decide (i=T.length)) e34 ?_
 have fin:∀(g7:Gh)(S7:af)(H7:ah)(a7:Act)(W7:World),g7.old=g6.old->Rel prog W4 64 bp g7 S7 H7 a7 W7->S7 10=.slice (.own 3) (dL (mz T i))->dV Ip a6 a7->(Code.seq GR ux).wpIn (FR none) m prog Q a7 W7:=by
  intro g7 S7 H7 a7 W7 Xw R7 bW Ov;obtain⟨b,cap,cur,rh,gQ,hb,q1,q2,q3,q4⟩:=MV R7 (by decide) ec.2 bW;have Tg:dV Ip a4 a7:=(Kv.trans Lz).trans Ov
  have Du:Below W4.heap.size W4 W7:=by have:=R7.below;rwa [R7.base]at this
  have J4:a7.defers=[]:=by rw[R7.defers,Xw,Yp,Kx]<;>rfl
  rw[R7.base]at gQ;have h7:PS C X ws w MI W now T MI (k_ T i) k a7 W7:=h4.v7 (dG.gP Du) (by obtain⟨y,hy⟩:=s.map;exact⟨y,hy.below Du⟩) Tg R7.size J4 (by decide) rfl;have e9:a7.tmps.getD 9 undef=.int .i64 (i:Nat):=h7.int (by simp[k_])
  obtain⟨ad,cp,e0⟩:∃ad cp,a7.tmps.getD 0 undef=.slice ad now.length cp:=by
   have h0:=Sa h7.r0;rw[fk]at h0;exact h0
  refine wpIn_seq ?_;refine K_ R7.size rh e9 e0 hb q4 ec.1 (by omega) (by rw[BV hi];exact OO) ?_;intro a8 hz8 hd8 ZW
  obtain⟨qI,xr⟩:∃qI,cur.setIfInBounds i (.int .i64 (((mz T i)[i]'ec.1|||2^now.length:Nat):Int))=qI:=⟨_,rfl⟩
  rw[xr]
  obtain⟨W8,I9⟩:∃W8:World,({ W7 with drawn:=W7.drawn+1 }:World).putObj b (.cells qI 3 (0,0))=W8:=⟨_,rfl⟩
  rw[I9];have fV:b<W7.heap.size:=(Array.getElem?_eq_some_iff.1 hb).1
  have hz:W8.heap.size=W7.heap.size:=by rw[<-I9];simp[World.putObj]
  have hb8:W8.heap[b]?=some (.cells qI 3 (0,0)):=by rw[<-I9];exact World.putObj_heap_same fV
  have Qq:Below W4.heap.size W4 W8:=by
   refine⟨by rw[<-I9];exact Du.os,by rw[<-I9];exact Du.tape,by rw[<-I9];exact Du.output,by rw[hz];exact Du.size,λx hx=>?_⟩;rw[<-Du.block x hx,<-I9];exact World.putObj_heap_other (w:={ W7 with drawn:=W7.drawn+1 }) (by omega)
  have X7:dV Ip a7 a8:=λt ht=>ZW t (by simp[Ip]at ht;omega)
  have h8:PS C X ws w MI W now T MI (k_ T i) k a8 W8:=h4.v7 (dG.gP Qq) (by obtain⟨y,hy⟩:=s.map;exact⟨y,hy.below Qq⟩) (Tg.trans X7) hz8 (by rw[hd8];exact J4) (by decide) rfl;refine hk a8 W8 h8 ?_;have TG:a8.tmps.getD 10 undef=.slice (some ⟨b,0,none⟩) (mz T i).length cap:=(ZW 10 (by decide)).trans rh
  have uO:qI.toList.take (mz T i).length=(iF T i now.length).map λx:Nat=>Value.int .i64 (x:Int):=by
   rw[<-xr,Array.toList_setIfInBounds,List.take_set,q4,BV hi,<-Bx hi,List.map_set]
  have fu:(iF T i now.length).length=(mz T i).length:=by rw[<-Bx hi,List.length_set]
  obtain⟨i3,tC,nV⟩:=iZ 3 1;have Yc:=h4.sm.1;refine RD.ofRow (base:=W4.heap.size) (e:=3) (size:=1) (xs:=(iF T i now.length).map λx:Nat=>Value.int .i64 (x:Int)) ⟨?_,.inr ⟨b,cap,qI,?_,gQ,hb8,?_,q2,?_,?_⟩⟩ ⟨?_,?_⟩ ?_
  .rw[fk,List.length_map,Nat.mul_one]
  .rw[TG,fk,fu]
  .rw[fk,fu];exact q1
  .rw[<-xr];simpa using q3
  .rw[fk,Nat.mul_one,fu];exact uO
  .intro x hx;obtain⟨k,_,rfl⟩:=List.mem_map.1 hx;exact⟨rfl,rfl,λc hc=>by simp[AV.cells]at hc;subst hc;rfl⟩
  .intro j hj k' eG
   have XS:j<(iF T i now.length).length:=by rw[fk]at hj;exact hj
   have m_:(dL (iF T i now.length))[j]=.int .i64 ((iF T i now.length)[j]:Nat):=by simp[dL]
   have HK:k'=0:=by simp only[m_,AV.cells]at eG;simpa using eG
   subst HK;refine⟨.int .i64 ((iF T i now.length)[j]:Nat),?_,?_⟩
   .rw[Nat.mul_one,Nat.add_zero,List.getElem?_map,List.getElem?_eq_getElem XS]<;>rfl
   .simp only[m_,AV.cells,List.getElem_cons_zero];exact .int _ _
  .intro b' eN j hj;rw[TG]at eN
   have:b'=b:=by simpa[Value.ownBlock]using eN.symm
   subst this;exact⟨by omega,by omega⟩
 by_cases Qa:i=T.length
 case neg=>
  rw[decide_eq_false Qa];simp only[Bool.false_eq_true,if_false];refine wpIn_skip ?_
  have ao:i<T.length:=by omega
  have MC:mz T i=T:=by unfold mz;rw[if_pos ao]
  have bt:(dL T).isEmpty=false:=by
   cases hI:dL T with
   |nil=>have:=fk T;rw[hI]at this;simp at this;omega
   |cons=>rfl
  exact fin g6 S6 H6 a6 W6 rfl R6 (by rw[MC,bW,bt]<;>rfl) (dV.refl _ _)
 rw[decide_eq_true Qa];simp only[if_true]
 have MC:mz T i=T++[0]:=by unfold mz;rw[if_neg (by omega)]
 have nv:dL (T++[0])=dL T++[.int .i64 0]:=by simp[dL]
 refine eI R6 hG hG4 bL (ac:=ae.qa od.qa.qb) (W:=Ip) (by kernel_rfl) (by kernel_rfl) (by kernel_rfl) (by rw[Yp,Kx];exact λ_ h=>h) (K:=λS _=>S 10=.slice (.own 3) (dL (mz T i))) ?_ ?_
 .rw[MC,nv];have bo:=uA T;have hl:=fk T;have fh:aC 1 [AV.int .i64 0]=true:=rfl;generalize dL T=L at bW bo hl⊢
  have uc:L.length+1<1048576:=by omega
  cases L with
  |nil=>
   have bW:S6 10=.slice .nil []:=by simpa using bW
   simp[c155s,jE,mP,oG,od,ae.qa,ae.qb,bW,fh,aC]
  |cons z zs=>
   have bW:S6 10=.slice (.own 3) (z::zs):=by simpa using bW
   have oL:zs.length+1+1<1048576:=by simpa using uc
   simp[c155s,jE,mP,oG,od,ae.qa,ae.qb,bW,bo,fh,oL]
 rintro g7 S7 H7 a7 W7 Xw R7 bW Ov;exact fin g7 S7 H7 a7 W7 Xw R7 bW Ov
end Go.Proofs.Tryz
namespace Go.Proofs.Tryz
open Go Go.AL Go.RowKit Go.Proofs Go.Proofs.Tram
attribute [local simp] dS eF dR cW dT cV cZ ck cg dQ cd bP fB fC an aq ev aB.S aB.H aY au aH AL.start AV.cells AV.storable AV.bb aQ aZ aP HR.okB post cU cL cI AV.out AV.bu br bU fz fG AV.vw bR vI int bI az ct cb gB il dM cD aR AV.aw AV.bV dO
def qL(s:bG):List (List Int):=kl s s.eE.length []
structure Hd(s:bG):Prop where
 ef:s.ef.length<1000000
 work:s.work.length<1000000
 eE:s.eE.length<1000000
 few:oz s=true->(qL s).length<=1000000
def Rn{s:bG}(h:Oa s):mN prog GT 141 [.ref (cm s)] ((qL s).map vI):=
 WA s (by have:=h.Mx;omega) h.ok h.work (by have:=h.len;omega) (by have:=h.RA;omega)
def MQ(s:bG)(none:Int):List AV:=
 if oz s=true then(if(qL s).isEmpty then[.slice .view [],.int .i64 none]else[.slice .view ((qL s).map vI),.int .i64 0])else[.slice .view [],.int .i64 2]
def aaj(s:bG)(hs:Hd s)(e:Int):AC prog GT 26 [mB s,.int .i64 e] (.ret (.fZ (MQ s e))):=by
 have hG:av GT:=eK;have P1:=aaM eK s hs.ef hs.work hs.eE;unfold MQ
 cases hc:oz s with
 |false=>
  rw[hc]at P1;simp only[Bool.false_eq_true,if_false];refine dZ hG func26 ntmps26 c26 ?_;simp[c26,mB,cq,bz];refine oc P1 ?_;simp
 |true=>
  rw[hc]at P1;have hg:=LN hc;have h31:=Z4 eK s (by have:=hg.Mx;omega) hg.ok;have h69:=aas s (hs.few hc) (Rn hg);simp only[if_true]
  refine AC.kP func26 rfl ntmps26 (by simp) λcc w=>?_
  refine eD eK c26.qa (λS H=>S 1=.int .i64 e/\S 2=.box 2 0/\H 2=some (cq s)) ?_ ?_
  .simp[c26,ae.qa,mB,cq,bz]
  rintro S1 H1 ⟨s1,s2,h2⟩;refine eD eK c26.qb.qa (λS H=>S 1=.int .i64 e/\S 2=.box 2 0/\H 2=some (cq s)) ?_ ?_
  .simp[c26,ae.qa,ae.qb,cq,bz,s1,s2,h2];refine oc P1 ?_;simp[s1,s2,h2]
   try rfl
  rintro S2 H2 ⟨s1,s2,h2⟩;refine eD eK c26.qb.qb.qa (λS H=>S 1=.int .i64 e/\S 6=ko (qL s)) ?_ ?_
  .simp[c26,ae.qa,ae.qb,cq,bz,s1,s2,h2];refine oc h31 ?_;simp[fb,cm,cq,bz,s1,s2,h2];refine oc (Ym s) ?_;simp[cm,cq,bz,s1,s2,h2];refine⟨_,by kernel_rfl,h69,by simp[bR,qh],?_⟩
   cases qL s<;>simp[ko,s1,s2,h2]
  rintro S3 H3 ⟨s1,s6⟩;refine SW.sH eK bL (by kernel_rfl) (λ_ _ h=>h) (ac:=ae.qb c26.qb.qb) (by kernel_rfl) ?_
  cases hp:qL s with
  |nil=>
   rw[hp]at s6;simp[c26,ae.qb,gy.bq,sj,s1,s6,ko];exact⟨fq.plain rfl,rfl⟩
  |cons p l=>
   rw[hp]at s6;simp[c26,ae.qb,gy.bq,sj,s1,s6,ko];exact⟨fq.plain rfl,rfl⟩
def yr(s:bG):List AV:=
 if oz s=true then(match qL s with|[]=>[.slice .view [],.int .i64 5]|p::_=>[vI p,.int .i64 0])else[.slice .view [],.int .i64 2]
def aat(s:bG)(hs:Hd s):AC prog GT 22 [mB s] (.ret (.fZ (yr s))):=by
 have hG:av GT:=eK;have xZ:=aaj s hs 5;unfold MQ at xZ;unfold yr
 cases hc:oz s with
 |false=>
  rw[hc]at xZ;simp only[Bool.false_eq_true,if_false]at xZ⊢;refine dZ hG func22 ntmps22 c22 ?_;simp[c22,mB,cq,bz];refine oc xZ ?_;simp
 |true=>
  rw[hc]at xZ;simp only[if_true]at xZ⊢
  cases hp:qL s with
  |nil=>
   rw[hp]at xZ;simp only[List.isEmpty_nil,if_true]at xZ;refine dZ hG func22 ntmps22 c22 ?_;simp[c22,mB,cq,bz];refine oc xZ ?_;simp
  |cons p l=>
   rw[hp]at xZ;simp only[List.isEmpty_cons,Bool.false_eq_true,if_false]at xZ;refine dZ hG func22 ntmps22 c22 ?_;simp[c22,mB,cq,bz];refine oc xZ ?_;simp
def om(i e:Nat):Ow:=if i=0 then .nil else .own e
def sF(i e:Nat):om (i+1) e=.own e:=rfl
def ox{i:Nat}(h:i≠0)(e:Nat):om i e=.own e:=by unfold om;rw[if_neg h]
def yC(j:Nat):AV:=ez ⟨[(j:Int)],[],false⟩
def jg(n:Nat):List AV:=(List.range n).map yC
def gD(ws:List Int)(w rows:Int)(a b:Nat):List AV:=
 [.slice (om a 3) (ints (ws.take a)),.slice .nil [],.int .i64 0,.int .i64 0,.int .i64 0,.int .i64 0,.int .i64 1,.slice (om b 58) (jg b),.int .i64 w,.int .i64 rows]
def F4(ws:List Int)(w:Int)(a b c d e i:Nat)(S:af)(H:ah):Prop:=
 S 0=vI ws/\S 1=.int .i64 w/\S 5=.int .i64 ws.length/\S 6=.box 6 0/\H 6=some (gD ws w 3 a b)/\S 7=.box 7 0/\
  (∃o,H 7=some [.int .i64 w,.int .i64 1,.int .i64 25,.int .i64 0,.slice o [fg],.slice (om c 60) ((ws.take c).map cw)])/\
  S 8=.int .i64 (ws.take e).sum/\S 9=.int .i64 ((ws.take e).foldl max 0)/\S 10=.slice (om d 3) (ints (iR d))/\S 11=.int .i64 (i:Nat)
noncomputable def eH:ae:=ae.qb c4.qb.qb
noncomputable def sR:ae:=ae.qa eH.qb.qb.qb.qb
noncomputable def sU:ae:=ae.qb sR.qb.qb
noncomputable def tY:ae:=ae.qb sU.qb.qa
noncomputable def QE:ae:=ae.qa tY.qb
noncomputable def z_:ae:=ae.qb tY.qb
noncomputable def Rh:ae:=ae.qa z_
noncomputable def Rt:ae:=ae.qa z_.qb
noncomputable def QR:ae:=ae.qa z_.qb.qb
noncomputable def Ug:ae:=ae.qb z_.qb.qb
noncomputable def iI:ae:=ae.qb eH.qb.qb.qb.qb
section
variable{ws:List Int}{w:Int}{i:Nat}{S:af}{H:ah}
def take_one(h:i<ws.length):ws.take (i+1)=ws.take i++[ws[i]]:=by rw[List.take_succ,List.getElem?_eq_getElem h]<;>rfl
def Zy(l:List Int):aC 4 (l.map cw)=true:=yY l
def aaG(n:Nat):aC 3 (jg n)=true:=by simp[aC,jg,yC,ez,AV.storable,AV.cells]
def DZ(n:Nat):jg (n+1)=jg n++[yC n]:=by simp[jg,List.range_succ]
def Hl(n:Nat):ints (iR (n+1))=ints (iR n)++[.int .i64 (n:Nat)]:=by simp[iR,ints,List.range_succ]
def Jc(h:i<ws.length):ints (ws.take (i+1))=ints (ws.take i)++[.int .i64 ws[i]]:=by
 unfold ints
 rw[take_one h,List.map_append]<;>rfl
def DP(h:i<ws.length):(ws.take (i+1)).map cw=(ws.take i).map cw++[cw ws[i]]:=by
 rw[take_one h,List.map_append]<;>rfl
def IX(h:i<ws.length):(ws.take (i+1)).sum=(ws.take i).sum+ws[i]:=by
 rw[take_one h,List.sum_append];simp
def IE(h:i<ws.length):(ws.take (i+1)).foldl max 0=max ((ws.take i).foldl max 0) ws[i]:=by
 rw[take_one h,List.foldl_append]<;>rfl
def aba(ao:i<ws.length)(hl:ws.length<=4)(hF:F4 ws w i i i i i i S H):bq prog GT QE (az (F4 ws w (i+1) i i i i i)) S H:=by
 obtain⟨s0,s1,s5,s6,h6,s7,h7,s8,s9,bW,de⟩:=hF
 have bt:¬(i:Int)<0:=by omega
 unfold F4 gD;unfold gD at h6
 have hlen:(ints (ws.take i)).length=i:=by simp[ints];omega
 have bo:aC 1 (ints (ws.take i))=true:=re _;have fh:aC 1 [AV.int .i64 ws[i]]=true:=rfl;rw[Jc ao,sF];generalize jg i=WJ at h6⊢;generalize(ws.take i).map cw=RP at h7⊢;generalize(ws.take i).sum=y8 at s8⊢;generalize(ws.take i).foldl max 0=y9 at s9⊢;generalize ints (iR i)=RS at bW⊢
 by_cases h0:i=0
 .have z1:om i 3=.nil:=by rw[h0]<;>rfl
  have z2:ints (ws.take i)=[]:=by rw[h0]<;>rfl
  rw[z1,z2]at h6;rw[z2];simp[c4,eH,sR,sU,tY,QE,ae.qa,ae.qb,s0,s1,s5,s6,h6,s7,s8,s9,bW,de,ao,bt,fh,aC];exact h7
 .have z1:om i 3=.own 3:=ox h0 3;rw[z1]at h6;generalize ints (ws.take i)=R1 at h6 hlen bo⊢
  have j1:i+1<1048576:=by omega
  simp[c4,eH,sR,sU,tY,QE,ae.qa,ae.qb,s0,s1,s5,s6,h6,s7,s8,s9,bW,de,ao,bt,bo,fh,hlen,j1];exact h7
def ZQ(ao:i<ws.length)(hl:ws.length<=4)(hF:F4 ws w (i+1) i i i i i S H):bq prog GT Rh (az (F4 ws w (i+1) (i+1) i i i i)) S H:=by
 obtain⟨s0,s1,s5,s6,h6,s7,h7,s8,s9,bW,de⟩:=hF
 have bt:¬(i:Int)<0:=by omega
 unfold F4 gD;unfold gD at h6
 have hlen:(jg i).length=i:=by simp[jg]
 have bo:=aaG i;have fh:aC 3 [yC i]=true:=rfl;rw[DZ,sF i 58];generalize ints (ws.take (i+1))=R0 at h6⊢;generalize om (i+1) 3=o3 at h6⊢;generalize(ws.take i).map cw=RP at h7⊢;generalize(ws.take i).sum=y8 at s8⊢;generalize(ws.take i).foldl max 0=y9 at s9⊢;generalize ints (iR i)=RS at bW⊢;have WV:yC i=.agg [.slice .view [.int .i64 (i:Nat)],.slice .view [],.bool false]:=rfl;rw[WV]at fh⊢
 by_cases h0:i=0
 .have z1:om i 58=.nil:=by rw[h0]<;>rfl
  have z2:jg i=[]:=by rw[h0]<;>rfl
  rw[z1,z2]at h6;rw[z2];simp[c4,eH,sR,sU,tY,z_,Rh,ae.qa,ae.qb,s0,s1,s5,s6,h6,s7,s8,s9,bW,de,ao,bt,fh,aC,dH];exact h7
 .have z1:om i 58=.own 58:=ox h0 58;rw[z1]at h6;generalize jg i=R1 at h6 hlen bo⊢
  have j1:i+1<1048576:=by omega
  have Z7:aC 1 [AV.int .i64 (i:Nat)]=true:=rfl;have zU:aC 3 [AV.agg [.slice .view [.int .i64 (i:Nat)],.slice .nil [],.bool false]]=true:=rfl;simp[c4,eH,sR,sU,tY,z_,Rh,ae.qa,ae.qb,s0,s1,s5,s6,h6,s7,s8,s9,bW,de,ao,bt,Z7,zU,bo,fh,hlen,j1,dH];exact h7
def aa'(ao:i<ws.length)(hl:ws.length<=4)(hF:F4 ws w (i+1) (i+1) i i i i S H):bq prog GT Rt (az (F4 ws w (i+1) (i+1) (i+1) i i i)) S H:=by
 obtain⟨s0,s1,s5,s6,h6,s7,⟨o,h7⟩,s8,s9,bW,de⟩:=hF
 have bt:¬(i:Int)<0:=by omega
 unfold F4;generalize gD ws w 3 (i+1) (i+1)=SB at h6⊢
 have hlen:((ws.take i).map cw).length=i:=by simp;omega
 have bo:=Zy (ws.take i);have fh:aC 4 [cw ws[i]]=true:=rfl;rw[DP ao,sF];generalize(ws.take i).sum=y8 at s8⊢;generalize(ws.take i).foldl max 0=y9 at s9⊢;generalize ints (iR i)=RS at bW⊢;unfold cw at fh
 by_cases h0:i=0
 .have z1:om i 60=.nil:=by rw[h0]<;>rfl
  have z2:(ws.take i).map cw=[]:=by rw[h0]<;>rfl
  rw[z1,z2]at h7;rw[z2];unfold cw;simp[c4,eH,sR,sU,tY,z_,Rt,ae.qa,ae.qb,s0,s1,s5,s6,h6,s7,h7,s8,s9,bW,de,ao,bt,fh,aC,dH]
  try exact⟨_,rfl⟩
 .have z1:om i 60=.own 60:=ox h0 60;rw[z1]at h7;generalize(ws.take i).map cw=R1 at h7 hlen bo⊢
  have j1:i+1<1048576:=by omega
  unfold cw;simp[c4,eH,sR,sU,tY,z_,Rt,ae.qa,ae.qb,s0,s1,s5,s6,h6,s7,h7,s8,s9,bW,de,ao,bt,bo,fh,hlen,j1,dH]
  try exact⟨_,rfl⟩
def X0(ao:i<ws.length)(hl:ws.length<=4)(hF:F4 ws w (i+1) (i+1) (i+1) i i i S H):bq prog GT QR (az (F4 ws w (i+1) (i+1) (i+1) (i+1) i i)) S H:=by
 obtain⟨s0,s1,s5,s6,h6,s7,⟨o,h7⟩,s8,s9,bW,de⟩:=hF;unfold F4;generalize gD ws w 3 (i+1) (i+1)=SB at h6⊢;have hlen:=zO i;have bo:aC 1 (ints (iR i))=true:=re _;have fh:aC 1 [AV.int .i64 (i:Nat)]=true:=rfl;rw[Hl];generalize(ws.take (i+1)).map cw=RP at h7⊢;generalize om (i+1) 60=o6 at h7⊢;rw[sF i 3];generalize(ws.take i).sum=y8 at s8⊢;generalize(ws.take i).foldl max 0=y9 at s9⊢
 by_cases h0:i=0
 .have z1:om i 3=.nil:=by rw[h0]<;>rfl
  have z2:ints (iR i)=[]:=by rw[h0]<;>rfl
  rw[z1,z2]at bW;rw[z2];simp[c4,eH,sR,sU,tY,z_,QR,ae.qa,ae.qb,s0,s1,s5,s6,h6,s7,h7,s8,s9,bW,de,fh,aC]
  try exact⟨_,rfl⟩
 .have z1:om i 3=.own 3:=ox h0 3;rw[z1]at bW;generalize ints (iR i)=R1 at bW hlen bo⊢
  have j1:i+1<1048576:=by omega
  simp[c4,eH,sR,sU,tY,z_,QR,ae.qa,ae.qb,s0,s1,s5,s6,h6,s7,h7,s8,s9,bW,de,bo,fh,hlen,j1]
  try exact⟨_,rfl⟩
def aao(ao:i<ws.length)(hl:ws.length<=4)(hb:0<=(ws.take i).sum/\(ws.take i).sum<=24)(hx:1<=ws[i]/\ws[i]<=6)(hF:F4 ws w (i+1) (i+1) (i+1) (i+1) i i S H):bq prog GT Ug (az (F4 ws w (i+1) (i+1) (i+1) (i+1) (i+1) i)) S H:=by
 obtain⟨s0,s1,s5,s6,h6,s7,⟨o,h7⟩,s8,s9,bW,de⟩:=hF
 have bt:¬(i:Int)<0:=by omega
 unfold F4;generalize gD ws w 3 (i+1) (i+1)=SB at h6⊢;rw[IX ao,IE ao];generalize(ws.take (i+1)).map cw=RP at h7⊢;generalize om (i+1) 60=o6 at h7⊢;generalize ints (iR (i+1))=RS at bW⊢;have n_:IntKind.i64.wrap ((ws.take i).sum+ws[i])=(ws.take i).sum+ws[i]:=bl (by omega);generalize(ws.take i).sum=y8 at s8 n_⊢;generalize(ws.take i).foldl max 0=y9 at s9⊢;simp[c4,eH,sR,sU,tY,z_,Ug,ae.qa,ae.qb,s0,s1,s5,s6,h6,s7,h7,s8,s9,bW,de,ao,bt,n_]
 try exact⟨_,rfl⟩
end
end Go.Proofs.Tryz
namespace Go.Proofs.YtifmgeicigngbaaGreat
open Go Go.AL Go.ChangeShapes Go.WideShapes Go.ChangeAt Go.RowKit
def own:ownKnob Tryz.prog.godebug=none:=by kernel_rfl
def Cg:laidOutB Tryz.prog=true:=by kernel_rfl
abbrev GI:World->Prop:=λ_=>True
abbrev qw:List (String×DataW Unit):=Rows.topWaitsRow.laid
variable{H:Type}{enc:TypeId×Value->H}
def qG{w:World}{base:Nat}{spare:Nat->Bool}{held:Bool}:∀{ts:List TypeId}{vs:List Value}{ds:List (DataW H)}{ps:List MemPlace},DataW.TrodAll enc Tryz.prog w base spare held ts vs ds ps->ds.length=ts.length
 |[],[],[],_,_=>rfl
 |_::_,_::_,_::_,_,⟨_,_,_,h,_⟩=>congrArg (·+1) (qG h)
def rr {W W':World} (hb:Below W.heap.size W W'):∀ {ts:List TypeId} {vs:List Value} {ds:List (DataW H)} {ps:List MemPlace},(∀ t∈ts,Tryz.prog.readableRec t=true∧t < Tryz.prog.types.size) →
  DataW.TrodAll enc Tryz.prog W 0 (λ_=>true) true ts vs ds ps->(∀x∈ps,x.block<W.heap.size)->DataW.TrodAll enc Tryz.prog W' 0 (λb=>decide (b<W.heap.size)) true ts vs ds ps
 |[],[],[],_,_,h,_=>h
 |t::_,_::_,_::_,_,hr,⟨p,q,h1,h2,e⟩,ao=>by
  subst e;exact⟨p,q,Below.trod Cg (hr t List.mem_cons_self).1 (hr t List.mem_cons_self).2 h1 hb (λx hx=>ao x (List.mem_append_left _ hx)),rr hb (λu hu=>hr u (List.mem_cons_of_mem _ hu)) h2 (λx hx=>ao x (List.mem_append_right _ hx)),rfl⟩
def Hv (f:FuncId) (fn:Func) (hfn:Tryz.checked.prog.funcs[f]? = some fn) (QB:Tryz.checked.prog.inits.idxOf? f=none) (Fg:fn.resultTypes = #[4]) (spec:ChangeSpec) (Mn:spec.vars=[])
  (Jl:∀(ds:List (DataW H)),ds.length=fn.params.size->spec.fn H ds={ results:=[.lit (.bool true)],args:=ds })
  (dc:∀t∈fn.params.toList,Tryz.prog.readableRec t=true/\t<Tryz.prog.types.size)
  (os:Os) (started:os.Started) (p_:Array Value) (fuel:Nat)
  (dF:((World.laidAll Tryz.prog os qw).forCall (λ_ _=>0) ⟨#[],p_,[]⟩).Shaped Tryz.checked.prog)
  (bo:Input.okWideB Tryz.checked.prog ((World.laidAll Tryz.prog os qw).forCall (λ_ _=>0) ⟨#[],p_,[]⟩) f ⟨#[],p_,[]⟩=true)
  (Ke:spec.preB enc Tryz.checked.prog fn [] false ((World.laidAll Tryz.prog os qw).forCall (λ_ _=>0) ⟨#[],p_,[]⟩).memory p_ fuel=true)
  (aL:spec.sizedB enc Tryz.checked.prog fn false ((World.laidAll Tryz.prog os qw).forCall (λ_ _=>0) ⟨#[],p_,[]⟩).memory p_ fuel=true)
  (hx:laidMetH Tryz.prog qw ((World.laidAll Tryz.prog os qw).forCall (λ_ _=>0) ⟨#[],p_,[]⟩).memory)
  (ky:∀(W:World)(base:Nat)(args:Array Value)(ds:List (DataW H))(p:List MemPlace),GI W->
   (∀(j:Nat) t v,fn.params[j]?=some t->args[j]?=some v->Value.okWide Tryz.prog W .any base t v)->
   DataW.TrodAll enc Tryz.prog W 0 (λ_=>true) true fn.params.toList args.toList ds p->
   Calls Tryz.prog f args W λe W'=>e=.returned (.bool true)/\Below W.heap.size W W'):
  ReturnsInHanded {} Tryz.checked os f .any (λw args=>(spec.pre enc Tryz.checked.prog fn [] false w args/\laidMetH Tryz.checked.prog qw w)/\sizedMet enc Tryz.checked.prog fn (OpenSpec.ofChange spec) false w args)
   (spec.post enc Tryz.checked.prog fn false true false false):=by
 refine returnsInHanded_of_calls (C:=Tryz.checked) own started QB
  (ChangeSpec.witness_shaped (enc:=enc) (C:=Tryz.checked) (os:=os) (X:=λw _=>laidMetH Tryz.prog qw w) false (World.laidAll Tryz.prog os qw) p_ fuel (World.laidAll_os _ _ _) dF bo Ke aL hx) ?_
 intro w tape i _ abo _ zR hp _;obtain⟨_,_,_,Pt,aaC,_,_,_,_,uH⟩:=zR;have e:Pt=fn:=Option.some.inj (aaC.symm.trans hfn);subst e;obtain⟨⟨⟨ds,gs,before,hw,hc⟩,_⟩,hz⟩:=hp;have L0:=DataW.Whole.of_heap (w':=w.forCall tape i) (by rfl) hw;have hW:=L0;obtain⟨p,q,hA,hV,rfl,_,_⟩:=L0
 have gq:gs=[]/\q=[]:=by
  rw[Mn]at hV;obtain⟨rfl,rfl⟩:=trodVars_none hV;exact⟨rfl,rfl⟩
 obtain⟨rfl,rfl⟩:=gq;have Xb:DataW.TrodAll enc Tryz.prog (w.forCall tape i) 0 (λ_=>true) true Pt.params.toList i.args.toList ds p:=hA
 have ao:∀x∈p,x.block<(w.forCall tape i).heap.size:=λx hx=>by simpa using hW.lt x (List.mem_append_left _ hx)
 refine(ky (w.forCall tape i) w.heap.size i.args ds p trivial uH Xb).mono λe W' ⟨he,hb⟩=>?_
 subst he;show spec.post enc Tryz.checked.prog Pt false true false false (w.forCall tape i).blind i.args (.bool true) W'.blind;refine ChangeSpec.post_blind (?_:spec.post enc Tryz.checked.prog Pt false true false false (w.forCall tape i) i.args (.bool true) W')
 have OX:ds.length=Pt.params.size:=by
  rw[qG Xb];simp
 refine⟨ds,[],p++[],[],p,[],hW,?_,?_,?_,hb.frame _,λh=>by cases h⟩
 .rw[List.append_nil,Jl ds OX,Fg];exact trodAll_mk1 (shut_bool (by kernel_rfl) _)
 .rw[List.append_nil,Jl ds OX];exact rr hb dc Xb ao
 .rw[List.append_nil,Jl ds OX,Mn]
  rfl
end Go.Proofs.YtifmgeicigngbaaGreat
namespace Go.Proofs.YtifmgeicigngbaaGreat
open Go Go.AL Go.ChangeShapes Go.WideShapes Go.ChangeAt Go.RowKit
def ch(l:List Nat):List Char:=l.map Char.ofNat
def w1:List Nat:=[104,97,114,110,101,115,115]
def w2:List Nat:=[101,55,49,99,48,53,51,99,101,51,57,99,99,49,52,57,97,49,51,102,55,57,50,98,57,100,56,100,52,97,97,54,57,55,51,54,54,102,55,51,102,50,97,55,98,55,57,52,53,55,57,102,56,98,48,48,48,56,55,57,48,50,50,51]
def w3:List Nat:=[99,117,116]
def w4:List Nat:=[97,116,32,109,97,104,108,115,116,105,99,107,47,109,97,104,108,115,116,105,99,107,116,111,112,46,84,111,112,87,97,105,116,115,32,109,97,104,108,115,116,105,99,107,47,109,97,104,108,115,116,105,99,107,116,111,112,46,84,111,112,76,101,97,102,32,109,97,104,108,115,116,105,99,107,47,109,97,104,108,115,116,105,99,107,116,111,112,46,84,111,112,82,101,97,100,115]
def oY:∀{a b:List Char},(a.all λc=>c !=Char.ofNat 32)=true->wordsSigns (a++Char.ofNat 32::b)=a::wordsSigns b
 |[],b,_=>rfl
 |c::a,b,h=>by
  simp only[List.all_cons,Bool.and_eq_true,bne_iff_ne]at h;have ih:=oY (b:=b) h.2;show wordsSigns (c::(a++Char.ofNat 32::b))=_
  conv=>lhs;unfold wordsSigns
  split
  .rename_i e;cases e
  .rename_i e;cases e;exact absurd rfl h.1
  .rename_i e;cases e;rw[ih]
def head_eq:Tryz.prog.initOrder=String.ofList (ch w1++Char.ofNat 32::(ch w2++Char.ofNat 32::(ch w3++Char.ofNat 32::ch w4))):=by kernel_rfl
def Gp:wordsSigns Tryz.prog.initOrder.toList=ch w1::ch w2::ch w3::wordsSigns (ch w4):=by
 rw[head_eq,String.toList_ofList,oY (by kernel_rfl),oY (by kernel_rfl),oY (by kernel_rfl)]
def tl(s:String)(l:List Nat)(h:s=String.ofList (ch l)):s.toList=ch l:=by rw[h,String.toList_ofList]
def EF : "harness".toList=ch [104,97,114,110,101,115,115]:=tl _ _ (by kernel_rfl)
def Em : "ownmain".toList=ch [111,119,110,109,97,105,110]:=tl _ _ (by kernel_rfl)
def HB : "gc".toList=ch [103,99]:=tl _ _ (by kernel_rfl)
def Gl : "spec".toList=ch [115,112,101,99]:=tl _ _ (by kernel_rfl)
def MS : "stop".toList=ch [115,116,111,112]:=tl _ _ (by kernel_rfl)
def rB : "carried".toList=ch [99,97,114,114,105,101,100]:=tl _ _ (by kernel_rfl)
def yu : "cut".toList=ch [99,117,116]:=tl _ _ (by kernel_rfl)
def zM : "finals".toList=ch [102,105,110,97,108,115]:=tl _ _ (by kernel_rfl)
def x8 : "reflectrows".toList=ch [114,101,102,108,101,99,116,114,111,119,115]:=tl _ _ (by kernel_rfl)
def C4 : "leanrows".toList=ch [108,101,97,110,114,111,119,115]:=tl _ _ (by kernel_rfl)
def Ct : "onebuild".toList=ch [111,110,101,98,117,105,108,100]:=tl _ _ (by kernel_rfl)
def zQ : "publicsums".toList=ch [112,117,98,108,105,99,115,117,109,115]:=tl _ _ (by kernel_rfl)
def EN : "eqguard".toList=ch [101,113,103,117,97,114,100]:=tl _ _ (by kernel_rfl)
def Bi : "ownunsafe".toList=ch [111,119,110,117,110,115,97,102,101]:=tl _ _ (by kernel_rfl)
def AH : "libbeside".toList=ch [108,105,98,98,101,115,105,100,101]:=tl _ _ (by kernel_rfl)
def A5 : "ownbeside".toList=ch [111,119,110,98,101,115,105,100,101]:=tl _ _ (by kernel_rfl)
def Ai : "reflbeside".toList=ch [114,101,102,108,98,101,115,105,100,101]:=tl _ _ (by kernel_rfl)
def EC : "aliases".toList=ch [97,108,105,97,115,101,115]:=tl _ _ (by kernel_rfl)
def A1 : "afterinit".toList=ch [97,102,116,101,114,105,110,105,116]:=tl _ _ (by kernel_rfl)
def Cr : "crcplain".toList=ch [99,114,99,112,108,97,105,110]:=tl _ _ (by kernel_rfl)
def zp : "roadunsafe".toList=ch [114,111,97,100,117,110,115,97,102,101]:=tl _ _ (by kernel_rfl)
def AK : "fmthandon".toList=ch [102,109,116,104,97,110,100,111,110]:=tl _ _ (by kernel_rfl)
def Mc:isSumSigns (ch w2)=true:=by kernel_rfl
def HX(R:List (List Char)):behindMainWord (ch w1::ch w2::R)=R:=by
 simp only[behindMainWord,Mc,EF,Em]
 rfl
def sy:behindMainWord (wordsSigns Tryz.prog.initOrder.toList)=ch w3::wordsSigns (ch w4):=(congrArg behindMainWord Gp).trans (HX _)
def Gu(R:List (List Char)):stripLifts liftWords (ch w3::R)=([],ch w3::R):=by
 unfold liftWords;simp only[stripLifts,zM,x8,C4,Ct,zQ,EN,Bi,AH,A5,Ai,EC,A1,Cr,zp,AK]
 rfl
def yt (ws:List (List Char)):List String:=if (stripLifts liftWords ws).2.head? == some "cut".toList then (stripLifts liftWords ws).1 else []
def AU(P:Program):P.headLifts=yt (behindMainWord (wordsSigns P.initOrder.toList)):=rfl
def Ie(R:List (List Char)):yt (ch w3::R)=[]:=by
 simp only[yt,Gu,yu]
 rfl
def uN:Tryz.prog.headLifts=[]:=(AU _).trans ((congrArg yt sy).trans (Ie _))
def HC{P:Program}{R:List (List Char)}(h:behindMainWord (wordsSigns P.initOrder.toList)=ch w3::R)(hl:P.headLifts=[]):P.make=some .cut:=by
 unfold Program.make;rw[h];simp only[yu,HB,Gl,zM,rB,hl]
 rfl
def RQ:Tryz.prog.make=some .cut:=HC sy uN
def An{P:Program}{R:List (List Char)}(h:behindMainWord (wordsSigns P.initOrder.toList)=ch w3::R)(hl:P.headLifts=[]):P.liftsFinal=false:=by
 unfold Program.liftsFinal;simp only[h,yu,HB,rB,hl]
 rfl
def Bh:Tryz.prog.liftsFinal=false:=An sy uN
def CC:Tryz.prog.laysLater=false:=by kernel_rfl
def yk:Tryz.prog.bearsReflect=false:=by kernel_rfl
def Fw:Tryz.prog.doorFits []=true:=by kernel_rfl
def CS{P:Program}{R:List (List Char)}(h:behindMainWord (wordsSigns P.initOrder.toList)=ch w3::R)(h1:P.laysLater=false)(h2:P.bearsReflect=false)(h3:P.doorFits []=true):P.mayEnter=true:=by
 unfold Program.mayEnter;rw[h];simp only[Gu,yu,HB,rB,Gl,MS,h1,h2,h3]
 rfl
def Gy:Tryz.prog.mayEnter=true:=CS sy CC yk Fw
end Go.Proofs.YtifmgeicigngbaaGreat
namespace Go.Proofs.Tryz
open Go Go.AL Go.RowKit Go.Proofs Go.Proofs.Tram
attribute [local simp] dS eF dR cW dT cV cZ ck cg dQ cd bP fB fC an aq ev aB.S aB.H aY au aH AL.start AV.cells AV.storable AV.bb aQ aZ aP HR.okB post cU cL cI AV.out AV.bu br bU fz fG AV.vw bR vI int bI az ct cb gB il dM cD aR AV.aw AV.bV nz
variable{GI:World->Prop}
def Wq(hG:av GI)(es:List AV)(bo:aC 4 es=true)(hl:es.length<1048576)(bt:es≠[]):AC prog GI 111 [.slice .view es] (.ret (.slice (.own 60) es)):=by
 refine dZ hG func111 ntmps111 c111 ?_
 cases es with
 |nil=>exact absurd rfl bt
 |cons x es=>
  have uc:es.length+1<1048576:=hl;simp[c111,bq,aV,an,aI,aq,ev,aB.S,aB.H,aY,ct,au,aH,AL.start,AV.aw,bo,uc,post,cU,cL,cI,AV.out,AV.bu]
def Hc(o:Ow)(ws:List Int)(w:Int):List AV:=[.int .i64 w,.int .i64 1,.int .i64 25,.int .i64 0,.slice .view [fg],.slice o (ws.map cw)]
def GA (hG:av GI) {ws:List Int} {w:Int} (hL:ft ws w):∀ (W:World) (old:Nat→Nat→Prop) (a_:Array Value),GI W→[jl ws w,.slice .view []].length=a_.size→(∀ i (h:i < [jl ws w,.slice .view []].length) (h':i < a_.size),RV old (fun _=>none) W [jl ws w,.slice .view []][i] a_[i]) →
  Calls prog 44 a_ W (Dd old W λm=>.agg (bJ ws w++[m])):=by
 have hlen:=hL.1;have xP:=po ws;have bo:=yY ws
 have bt:ws.map cw≠[]:=λh=>by rw[h]at xP;simp at xP;omega
 have abi:=Wq hG (ws.map cw) bo (by omega) bt
 refine AP (mk:=λm=>.agg (bJ ws w++[m])) func44 rfl ntmps44 (by simp) λcc W=>?_
 refine eD hG c44.qa (λS H=>S 1=.slice .view []/\S 2=.box 2 0/\H 2=some (bJ ws w)/\S 4=.box 4 0/\∃z,H 4=some z/\z.length=7) ?_ ?_
 .simp[c44,ae.qa,jl,bJ]
 rintro S1 H1 ⟨s1,s2,h2,s4,z,h4,hz⟩;refine eD hG c44.qb.qa (λS H=>S 2=.box 2 0/\H 2=some (Hc (.own 60) ws w)/\S 4=.box 4 0/\H 4=some z) ?_ ?_
 .unfold bJ at h2;simp[c44,ae.qa,ae.qb,s1,s2,h2,s4,h4];refine oc (by simpa[AV.aw,AV.vw,AV.bV]using abi) ?_;have he:aC 4 []=true:=rfl
  have E_:ws.length<1048576:=by omega
  simp[s1,s2,h2,s4,h4,bo,he,E_,Hc,bt]
 clear s1 s2 h2 s4 h4 S1 H1;rintro S1 H1 ⟨s2,h2,s4,h4⟩
 refine SW.seq (SW.hand hG (p:=1) (lm:=[1]) (l2:=[2,3]) (mH:=[_]) (oh:=[_]) (lS:=[_,_]) rfl rfl rfl rfl (by kernel_rfl) (λ_ h=>h)
  (ua:=(c44.qb.qb.qa.dl).take 1) (tH:=(c44.qb.qb.qa.dl).drop 2) (by kernel_rfl) (by kernel_rfl) (by kernel_rfl) (by kernel_rfl)
  (K1:=λS H=>S 4=.box 4 0/\H 4=some z/\S 11=.agg (bJ ws w))
  (K2:=λo S H=>∃b gJ,KM cc o b #[] gJ/\S 4=.box 4 0/\H 4=some z/\S 11=.agg (bJ ws w)/\S 12=.val (.map (some b)))
  (K3:=λo S H=>∃b gJ,KM cc o b #[] gJ/\S 4=.box 4 0/\H 4=some (dY ws w (.map (some b)))) ?_ ?_ ?_ ?_)
 .simp[c44,ae.qa,ae.qb,ae.dl,s2,h2,s4,h4,bJ,Hc]
 .rintro w0 g S H a w1 m db ho R ⟨s4,h4,de⟩;refine aT rfl rfl (by rfl) (run_makeMap (t:=117) rfl) ?_;have R2:=R.D6 ((Below.refl w1.heap.size w1).alloc (Nat.le_refl _) (.map #[] 0)) (b:=w1.heap.size) (Nat.le_refl _) (World.alloc_heap_new w1 _);have R3:=R2.put 12 (.val (.map (some w1.heap.size))) _ (by decide) (.data _ _ (.val _ rfl)) trivial;exact⟨_,_,_,R3,w1.heap.size,0,⟨by rw[ho]<;>rfl,by rw[ho]<;>rfl,by rw[ho];exact λ_ h=>h,aN _ _ _⟩,by simp[au,s4],h4,by simp[au,de],by simp[au]⟩
 .rintro o S H ⟨b,gJ,hK,s4,h4,de,bn⟩;refine⟨hK.bx,?_⟩;simp[c44,ae.qa,ae.qb,ae.dl,s4,h4,de,bn,hz,dH,dY,bJ]
  first|exact⟨b,gJ,hK,rfl⟩|exact⟨gJ,hK⟩|exact⟨b,⟨gJ,hK⟩,rfl⟩
 rintro o S H ⟨b,gJ,hK,s4,h4⟩;obtain⟨i119,UY,UA⟩:=iZ 119 7;obtain⟨f119,U8⟩:=uZ 119;refine SW.ret ⟨rfl,hK.c,b,gJ,hK,?_⟩;show cU prog 14 [.cell 4 119] S H=_;simp[cU,cL,cI,s4,h4,UY,UA,U8,aP,fE,AV.bu,AV.out,AV.vw,AV.bV,AV.aw,dY,bJ]
def GY {ws:List Int} {w:Int} (hL:ft ws w) {bM m:Nat} (hm:m < 2 ^ ws.length) {W:World} {Pr:Nat→Nat→Prop} {c0:Value} {l:YL} (hI:IL ws bM l W) (dp:∀ k,¬ Pr bM k) (r0:RD Pr W (dA ws w (dN bM)) c0) :
  Calls prog 45 #[c0,.int .i64 (m:Nat)] W λe w'=>∃b l',e=.returned (.bool b)/\dG (λx=>x=bM) W w'/\IL ws bM l' w'/\(b=aG ws w m/\True):=by
 have gp:=qq ws bM;have ao:=hI.lt
 obtain⟨a,ha⟩:∃a:Nat,w=(a:Int):=⟨w.toNat,by have:=hL.2.2;omega⟩
 have UI:1<=a/\a<=6:=by have:=hL.2.2;omega
 subst ha;refine lu (I:=IL ws bM) (y:=l) func45 rfl ntmps45 results45 (t:=4) (by decide) (args:=[dA ws (a:Int) (dN bM),.int .i64 (m:Nat)]) (by simp) rfl (λi h h'=>?_) dp hI (B:=λb l'=>b=aG ws a m/\True) ?_
 .match i,h with
  |0,_=>exact .data _ _ r0
  |1,_=>exact .data _ _ (.int _ _)
 refine bF.cut gp ao bL (by kernel_rfl) (ac:=ae.qa c45) (by kernel_rfl) (λ_ _ h=>h) (λS H=>S 1=.int .i64 (m:Nat)/\S 2=.box 2 0/\H 2=some (dY ws a (dN bM))) ?_ ?_
 .simp[c45,ae.qa,dA,dY,bJ]
 rintro S H ⟨s1,s2,h2⟩;show bF prog 15 bM W _ (.seq (.region _ _ false) .ret) _ _ _ _ _;refine bF.seq ?_;intro wB g a1 w1 m1 hv ho nI R hy;refine wpIn_region ?_;show wpOpsIn (FR none) _ _ _ _ ([0,1,2,3,4,5,6,7,8]++[9,10]) a1 w1;refine q' gp ao (by kernel_rfl) (os:=[_,_,_,_,_,_,_,_,_]) rfl (al:=(c45.qb.qa.dl).take 9) (by kernel_rfl) (by kernel_rfl) hv R hy (by rw[ho];exact λ_ h=>h) (λS H=>S 5=dA ws a (dN bM)/\S 13=eB a m) ?_ ?_
 .simp[c45,ae.qa,ae.qb,ae.dl,aV,an,aI,aq,aB.S,aB.H,au,aH,ev,s1,s2,h2,dA,dY,bJ,eB,dq,aP,AV.aw,AV.bV,HR.okB,dH,AV.cells,AV.storable,AV.bb,aQ]
 clear s1 s2 h2;rintro g2 S2 H2 a2 w2 im R2 tQ ⟨s5,dz⟩;rw[ho]at im
 have rD:∀k,¬g2.old.c bM k:=by rw[im];exact nI
 have lx:∀k,¬g2.Pr bM k:=λk hp=>by
  rcases hp with hp|hp
  .rw[im]at hp;exact nI k hp.2
  .have:=R2.base;have:=hv.size;omega
 have d5:RD g2.Pr w2 (dA ws a (dN bM)) (a2.eval (.tmp 5)):=by
  have:=R2.slot 5 (by decide) id;rw[s5]at this;exact this.bQ rfl
 have d13:RD g2.Pr w2 (eB a m) (a2.eval (.tmp 13)):=by
  have:=R2.slot 13 (by decide) id;rw[dz]at this;exact this.bQ rfl
 refine NI gp ao rD (i:=9) rfl rfl (by rfl) (t:=14) rfl (by decide) hv R2 (fJ (k:=112) (args:=#[a2.eval (.tmp 5),a2.eval (.tmp 13)]) w2 rfl rfl (by simp only[List.map_toArray,List.map_cons,List.map_nil]) (by kernel_rfl)) (QC hL m hm a w2 g2.Pr _ _ l UI tQ lx d5 d13) ?_;rintro b y3 V9 a3 w3 xW R3 A8 ⟨rfl,-⟩;show wpOpsIn (FR none) _ _ _ _ ([10]++[]) a3 w3;refine q' gp ao (by kernel_rfl) (os:=[_]) rfl (al:=(c45.qb.qa.dl).drop 10) (by kernel_rfl) (by kernel_rfl) xW R3 A8 (by rw[im];exact λ_ h=>h) (λS H=>S 4=.bool (aG ws a m)) ?_ ?_
 .simp[c45,ae.qa,ae.qb,ae.dl,aV,an,aI,aq,aB.S,aB.H,au,aH,ev,AV.aw]
 rintro g4 S4 H4 a4 w4 vK R4 MJ s4;refine mO xW R4 (by rw[vK];exact rD) MJ ?_;rw[vK,im];exact bF.ret ⟨rfl,rfl,_,s4,rfl,trivial⟩
end Go.Proofs.Tryz
namespace Go.Proofs.Tryz
open Go Go.AL Go.RowKit Go.Proofs Go.Proofs.Tram
attribute [local simp] dS eF dR cW dT cV cZ ck cg dQ cd bP fB fC an aq ev aB.S aB.H aY au aH AL.start AV.cells AV.storable AV.bb aQ aZ aP HR.okB post cU cL cI AV.out AV.bu br bU fz fG AV.vw bR vI int bI az ct cb gB il dM cD aR AV.aw AV.bV nz
variable{GI:World->Prop}{l:Nat}{xs:List AV}
variable{C:Cons prog GI l xs}{X:Env}{ws:List Int}{w:Int}{k:Nat}{MI MF:Nat->Prop}{W W0 W':World}{now T:List Nat}{a a':Act}{ex mj:List (Nat×AV)}
def wU {P:Program} {a:Act} {o:Oper} {cl:Call} {f x y:Operand} {k:Nat} {cap:Array Value} (w:World) (ho:o.op = .call cl) (hc:cl.callee = .value f) (ha:cl.args = #[x,y]) (hf:a.eval f = .func (.func k) #[] cap) (hk:dW P k=true) :
  (execOp a.eval o).run P w=.ok (.enter k (#[a.eval x,a.eval y]++cap)) w:=by
 unfold execOp;simp[ho,dX hc,hf,Deferred.ofValue,invoke,ha,eV hk]
def PS.callee (h:PS C X ws w MI W0 now T MF ex k a W) {k':Nat} {M':Nat→Prop} {cS:Nat→Nat→Prop} (p:nc C X ws w k' M' cS MI W') (bh:∀ b,MI b→W'.heap[b]? = W.heap[b]?) {Wm:Nat→Bool} (hs:dV Wm a a') (aL:a'.tmps.size=64) (c_:a'.defers=[])
  (h0:(List.range 6).all (λt=>!Wm t)=true) (p7:∀p∈mj,p∈ex) (hex:mj.all (λp=>!Wm p.1&&gf p.2)=true):PS C X ws w MI W' now T MI mj k' a' W':=by
 have vu:∀t,t<6->a'.tmps.getD t undef=a.tmps.getD t undef:=λt ht=>hs t (by
  have:=List.all_eq_true.1 h0 t (List.mem_range.2 ht)
  simpa using this)
 refine⟨⟨M',cS,p,λb h1 h2=>absurd h1 (by omega)⟩,λ_ h=>h,⟨Nat.le_refl _,λ_ _=>rfl⟩,aL,c_,(vu 2 (by omega)).trans h.t2,(vu 3 (by omega)).trans h.t3,(vu 4 (by omega)).trans h.t4,(vu 5 (by omega)).trans h.t5,?_,?_,λp hp=>?_⟩
 .rw[vu 0 (by omega)];exact h.r0.mono (aE.of_eq λb j hp=>⟨hp,bh b hp⟩)
 .rw[vu 1 (by omega)];exact h.r1.mono (aE.of_eq λb j hp=>⟨hp,bh b hp⟩)
 .obtain⟨q1,q2,q3⟩:=h.ex p (p7 p hp);have:=List.all_eq_true.1 hex p hp;simp only[Bool.and_eq_true,Bool.not_eq_true']at this;rw[hs p.1 this.1];exact⟨q1,q2,q3.gf this.2⟩
def Hz:Nat->Bool:=λt=>decide (27<=t)
def jO(a:Act)(d t:Nat)(c:Value)(h:t≠d):(a.put (some d) c).tmps.getD t undef=a.tmps.getD t undef:=by
 simp[Act.put,Array.getElem?_setIfInBounds_ne (Ne.symm h)]
def eT(a:Act)(d:Nat)(c:Value)(h:d<a.tmps.size):(a.put (some d) c).tmps.getD d undef=c:=by
 simp[Act.put,h]
def jN(a:Act)(d:Option Nat)(c:Value):(a.put d c).tmps.size=a.tmps.size:=by cases d<;>simp[Act.put]
def DC{a a':Act}(h:dV Hz a a')(d:Nat)(c:Value)(hd:27<=d):dV Hz a (a'.put (some d) c):=λt ht=>by
 rw[jO _ _ _ _ (by simp[Hz]at ht;omega)];exact h t ht
def Qi (hG:av GI) (hL:ft ws w) {r:Nat} (ih:I3 C X ws w r) (hlen:now.length+(r+1)=ws.length) (hT:T.length≤now.length) (F3:∀ x∈T,x < 2 ^ now.length) {i:Nat} (hi:i≤T.length) (h0:∀ b,X.oV b→MI b) (gp:∀ b,MI b→b < W0.heap.size) (hbM:X.bM < W0.heap.size)
  (h:PS C X ws w MI W0 now T MI (k_ T i) k a W) (uO:RD (λb _=>W0.heap.size<=b/\b<W.heap.size) W (.slice .view (dL (iF T i now.length))) (a.tmps.getD 10 undef)) {tl:List AV} (hx:xs.drop k=(qB ws w r now T i).map gM++tl) {Q:Exit->Act->World->Prop} {m:Nat}
  (hn:∀e a' W',(e=.normal\/e=.exit 1)->PS C X ws w MI W' now T MI (tJ T i) (k+(qB ws w r now T i).length) a' W'->(∀b,MI b->W'.heap[b]?=W0.heap[b]?)->Q e a' W')
  (hr:∀a' W',a'.defers=[]->a'.tmps.getD 8 undef=.bool false->(∃M Pr,C.X M Pr W')->Q .ret a' W'):ux.wpIn (FR none) m prog Q a W:=by
 have E_:=hL.1.2
 obtain⟨MF,Mf⟩:∃MF:Nat->Prop,MF=λb=>MI b\/(W0.heap.size<=b/\b<W.heap.size):=⟨_,rfl⟩
 have tw:∀b,(W0.heap.size<=b/\b<W.heap.size)->MF b:=λb hb=>by rw[Mf];exact .inr hb
 obtain⟨nx,Zf⟩:∃nx,iF T i now.length=nx:=⟨_,rfl⟩
 have CQ:=Bu (T:=T) (i:=i) (k:=now.length) hi;have yh:=OR (i:=i) F3;rw[Zf]at CQ yh uO
 have Qj:qB ws w r now T i=if aG ws w (nx.getD i 0)then eU ws w r (now++[i]) nx else[]:=by unfold qB;rw[Zf]
 rw[Qj]at hx hn
 have h1:PS C X ws w MI W0 now T MF ((10,.slice .view (dL nx))::k_ T i) k a W:=by
  obtain⟨M,Pr,s,hM⟩:=h.st;refine⟨⟨M,Pr,s.more (λb hb=>?_) (λb hb=>by rw[Mf];exact .inl (h0 b hb)),hM⟩,λb hb=>by rw[Mf];exact .inl hb,h.sm,h.size,h.defers,h.t2,h.t3,h.t4,h.t5,h.r0,h.r1,λp hp=>?_⟩
  .rw[Mf]at hb;rcases hb with hb|hb
   .exact s.mi b hb
   .exact⟨hM b hb.1 hb.2,by omega⟩
  .rcases List.mem_cons.1 hp with rfl|hp
   .exact⟨by show 6<=10;decide,⟨rfl,rfl⟩,uO.mono (aE.same λb _ _ hb=>tw b hb)⟩
   .obtain⟨q1,q2,q3⟩:=h.ex p hp;exact⟨q1,q2,q3.mono (aE.same λb _ _ hb=>by rw[Mf];exact .inl hb)⟩
 obtain⟨M,Pr,s,hM⟩:=h1.st;have Sn:i<nx.length:=CQ.2
 obtain⟨mk,LU⟩:∃mk,nx.getD i 0=mk:=⟨_,rfl⟩
 have hmg:nx[i]=mk:=by rw[<-LU,List.getD_eq_getElem?_getD,List.getElem?_eq_getElem Sn]<;>rfl
 rw[LU]at Qj hx hn
 have OW:mk<2^ws.length:=by
  rw[<-hmg];exact Nat.lt_of_lt_of_le (yh _ (List.getElem_mem Sn)) (Nat.pow_le_pow_right (by decide) (by omega))
 show(Code.seq (.seq (.region 10 _ true) (.cond _ (.exit 1) .skip)) (.seq (.region 11 _ true) (.cond _ (.seq _ .ret) .skip))).wpIn (FR none) m prog Q a W;refine wpIn_seq (wpIn_seq ?_)
 refine BB hG bL (p:=5) (by kernel_rfl) (by kernel_rfl) (by kernel_rfl) (l:=(yn.qa.qa.dl).take 5) (by kernel_rfl) rfl (W:=Hz) (by kernel_rfl) (C.gi s.j) (λb j=>MF b\/Pr b j) (pS l X ws w now T ((10,.slice .view (dL nx))::k_ T i)) h1.size h1.defers (h1.gu s)
  (K:=λS _=>S 47=dA ws w (dN X.bM)/\S 51=.int .i64 (mk:Nat)) ?_ ?_
 .have me:i<(dL nx).length:=by rw[fk];exact Sn
  have hg:(dL nx)[i]?=some (.int .i64 (mk:Nat)):=by simp[dL,Sn,hmg]
  have m_:(dL nx)[i]=.int .i64 (mk:Nat):=by rw[List.getElem?_eq_getElem me]at hg;exact Option.some.inj hg
  generalize dL nx=L at me hg m_⊢;simp[c155s,jE,mP,oG,od,yn,ae.qa,ae.qb,ae.dl,pS,k_,List.lookup,me,hg,m_,dA,dY,bJ,aR]
 rintro g2 S2 H2 a2 W2 lE R2 ⟨pA,O4⟩ pR
 have iw:Below W.heap.size W W2:=by have:=R2.below;rwa [R2.base]at this
 have tm:a2.defers=[]:=by rw[R2.defers,lE]<;>rfl
 show wpOpsIn _ _ _ _ _ [5,6] a2 W2
 have Ti:∀j,¬g2.Pr X.bM j:=λj hp=>by
  rcases hp with hp|hp
  .rw[lE]at hp;rcases hp.2 with hp|hp
   .exact(s.mi _ hp).2 rfl
   .exact s.not j hp
  .have:=R2.base;have:=h.sm.1;omega
 obtain⟨y2,tQ⟩:∃y,IL ws X.bM y W2:=by obtain⟨y,hy⟩:=s.map;exact⟨y,hy.below iw⟩
 have d47:RD g2.Pr W2 (dA ws w (dN X.bM)) (a2.eval (.tmp 47)):=by
  have:=R2.slot 47 (by decide) id;rw[pA]at this;exact this.bQ rfl
 have P4:a2.eval (.tmp 51)=.int .i64 (mk:Nat):=iK R2 (by decide) O4;refine gm rfl rfl (by rfl) (fJ (k:=45) (args:=#[a2.eval (.tmp 47),.int .i64 (mk:Nat)]) W2 rfl rfl (by simp only[List.map_toArray,List.map_cons,List.map_nil];rw[P4]) (by kernel_rfl)) (GY hL OW tQ Ti d47) ?_;rintro e W3 ⟨b,y3,rfl,ZP,A8,rfl,-⟩;refine⟨_,rfl,?_⟩;have z2:=R2.size;have e52:(a2.put (some 52) (.bool (aG ws w mk))).eval (.tmp 52)=.bool (aG ws w mk):=eT _ _ _ (by omega);refine aT rfl rfl (by rfl) (pL (x:=.tmp 52) W3 rfl e52) ?_
 obtain⟨a3,j0⟩:∃a3,(a2.put (some 52) (.bool (aG ws w mk))).put (some 53) (.bool !aG ws w mk)=a3:=⟨_,rfl⟩
 show Code.wpIn _ _ _ _ _ ((a2.put (some 52) (.bool (aG ws w mk))).put (some 53) (.bool !aG ws w mk)) W3;rw[j0]
 have z3:a3.tmps.size=64:=by rw[<-j0,jN,jN];exact z2
 have nV:dV Hz a a3:=by rw[<-j0];exact DC (DC pR 52 _ (by decide)) 53 _ (by decide)
 have e53:a3.tmps.getD 53 undef=.bool !aG ws w mk:=by rw[<-j0];exact eT _ _ _ (by rw[jN];omega)
 have Zs:a3.defers=[]:=by rw[<-j0];exact tm
 have ht:dG (λb=>b=X.bM) W W3:=(dG.gP (M:=λb=>b=X.bM) iw).trans ZP (λ_ h=>h) λ_ h _=>h
 have h3:PS C X ws w MI W0 now T MF ((10,.slice .view (dL nx))::k_ T i) k a3 W3:=h1.v7 ht ⟨_,A8⟩ nV z3 Zs (by decide) rfl
 have U5:RD (λb _=>W0.heap.size<=b/\b<W.heap.size) W3 (.slice .view (dL nx)) (a3.tmps.getD 10 undef):=by
  rw[nV 10 rfl];exact uO.mono (aE.of_eq λb j hp=>⟨hp,s.lO ht b (tw b hp)⟩)
 clear e52 j0 P4 d47 Ti tQ R2 pR pA O4 lE iw tm z2 ZP;refine wpIn_cond (t:=!aG ws w mk) e53 ?_
 cases hc:aG ws w mk with
 |false=>
  simp only[Bool.not_false,if_true];refine wpIn_exit ?_;rw[hc]at hn;have h4:PS C X ws w MI W0 now T MI (tJ T i) k a3 W3:=(h3.PA (mj:=tJ T i) (λp hp=>by simp[tJ,k_]at hp⊢;rcases hp with rfl|rfl<;>simp)).down h0 rfl;exact hn _ _ _ (.inr rfl) (by simpa using h4.again) h4.sm.2
 |true=>
  rw[hc]at hn hx;simp only[if_true]at hn hx;simp only[Bool.not_true,Bool.false_eq_true,if_false];refine wpIn_skip ?_;show Code.wpIn _ _ _ _ _ a3 W3;obtain⟨M3,Pr3,s3,YA⟩:=h3.st;refine wpIn_seq ?_;have Jt:=Ab hG (dL now) (uA now) (by rw[fk];omega)
  refine BD hG bL (n:=64) (p:=7) (j:=6) (d:=60) (T:=[10]) (W:=Hz) (l:=(JV.qa.dl).take 7) (by kernel_rfl) (by kernel_rfl) (by kernel_rfl) (by kernel_rfl) rfl (by kernel_rfl) (C.gi s3.j) (λb j=>MF b\/Pr3 b j) (pS l X ws w now T ((10,.slice .view (dL nx))::k_ T i)) (oj:=_) (by rfl) rfl rfl
   (λa=>a.tmps.getD 60 undef=a.tmps.getD 10 undef) ?_ ?_ (by kernel_rfl) (by kernel_rfl) h3.size h3.defers (h3.gu s3) (K:=λS _=>S 54=.val X.fv/\S 59=.slice (.own 3) (dL (now++[i]))) ?_ ?_
  .intro a a' q1 q2 q3;rw[q1,q2 10 (by simp)];exact q3
  .intro a w aL;rw[run_move w rfl];show(a.put (some 60) (a.eval (.tmp 10))).tmps.getD 60 undef=(a.put (some 60) (a.eval (.tmp 10))).tmps.getD 10 undef;rw[eT _ _ _ (by omega),jO _ _ _ _ (by decide)]
   rfl
  .have nv:dL (now++[i])=dL now++[.int .i64 (i:Nat)]:=by simp[dL]
   have fh:aC 1 [AV.int .i64 (i:Nat)]=true:=rfl;have bo:=uA now;have hl:=fk now;rw[nv]
   obtain⟨L,sk⟩:∃L,dL now=L:=⟨_,rfl⟩
   rw[sk]at Jt bo hl⊢
   have uc:L.length+1<1048576:=by omega
   simp[c155s,jE,mP,oG,od,yn,JV,ae.qa,ae.qb,ae.dl,pS,sk,k_,List.lookup,aR];refine oc Jt ?_
   cases L with
   |nil=>simp[fh,aC,pS,sk,k_,List.lookup]
   |cons z zs=>
    have oL:zs.length+1+1<1048576:=by simpa using uc
    simp[bo,fh,oL,pS,sk,k_,List.lookup]
  rintro g4 S4 H4 a4 W4 KJ R4 ⟨s54,s59⟩ wg V'
  have uj:Below W3.heap.size W3 W4:=by have:=R4.below;rwa [R4.base]at this
  have B7:a4.defers=[]:=by rw[R4.defers,KJ]<;>rfl
  show wpOpsIn _ _ _ _ _ [7,8] a4 W4
  have e54:a4.eval (.tmp 54)=X.fv:=by
   have:=R4.slot 54 (by decide) id;rw[s54]at this;exact this.jf
  obtain⟨i3,tC,aa8⟩:=iZ 3 1
  have uq:(now++[i]).length=now.length+1:=by simp
  have f59:=R4.o_ (t:=59) (by decide) (e:=3) tC (es:=dL (now++[i])) (by
   rw[s59]
   have:(dL (now++[i])).isEmpty=false:=by
    have:=fk (now++[i])
    cases hI:dL (now++[i])with
    |nil=>rw[hI]at this;simp at this
    |cons=>rfl
   rw[this]<;>rfl) (λx hx=>by obtain⟨k,_,rfl⟩:=List.mem_map.1 hx;exact⟨aa8.symm,rfl,λc hc=>by simp[AV.cells]at hc;subst hc;rfl⟩) (λx hx c hc=>by obtain⟨k,_,rfl⟩:=List.mem_map.1 hx;simp[AV.cells]at hc;subst hc;rfl)
  rw[R4.base]at f59;have e60:a4.tmps.getD 60 undef=a3.tmps.getD 10 undef:=V'.trans (wg 10 rfl);have h4:PS C X ws w MI W0 now T MF ((10,.slice .view (dL nx))::k_ T i) k a4 W4:=h3.v7 (dG.gP uj) (by obtain⟨y,hy⟩:=s3.map;exact⟨y,hy.below uj⟩) wg R4.size B7 (by decide) rfl;obtain⟨M4,sT,s4,hM4⟩:=h4.st;have Tv:=h.sm.1;have abA:=ht.size;have TV:=uj.size;have p7:∀b,MI b->MF b:=h4.sub
  have ky:=ih (now++[i]) nx (by rw[uq];omega) (by rw[uq];omega) (by rw[uq];exact yh) k M4 sT MI (λb=>W0.heap.size<=b/\b<W4.heap.size) W4 (a4.tmps.getD 59 undef) (a4.tmps.getD 60 undef) tl (s4.less p7 h0) (λb hb=>⟨hM4 b hb.1 hb.2,by omega,λhm=>by have:=gp b hm;omega⟩)
   (f59.mono (aE.same λb j _ hp=>⟨by omega,hp.1.2⟩)) (by
    rw[e60]
    exact U5.mono (aE.of_eq λb j hp=>⟨⟨hp.1,by omega⟩,uj.block b (by omega)⟩)) hx
  refine gm rfl rfl (by rfl) (wU (f:=.tmp 54) (x:=.tmp 59) (y:=.tmp 60) W4 rfl rfl rfl e54 (by kernel_rfl)) ky ?_;rintro e W5 ⟨M5,Pf,kS⟩
  obtain⟨b,rfl,hb⟩:∃b:Bool,e=.returned (.bool b)/\((b=true/\nc C X ws w (k+(eU ws w r (now++[i]) nx).length) M5 Pf MI W5/\∀b,MI b->W5.heap[b]?=W4.heap[b]?)\/(b=false/\C.X M5 Pf W5)):=by
   rcases kS with⟨rfl,h⟩|⟨rfl,h⟩
   .exact⟨true,rfl,.inl ⟨rfl,h⟩⟩
   .exact⟨false,rfl,.inr ⟨rfl,h⟩⟩
  refine⟨_,rfl,?_⟩;have z4:=R4.size;have e61:(a4.put (some 61) (.bool b)).eval (.tmp 61)=.bool b:=eT _ _ _ (by omega);refine aT rfl rfl (by rfl) (pL (x:=.tmp 61) W5 rfl e61) ?_
  obtain⟨a5,nM⟩:∃a5,(a4.put (some 61) (.bool b)).put (some 62) (.bool !b)=a5:=⟨_,rfl⟩
  show Code.wpIn _ _ _ _ _ ((a4.put (some 61) (.bool b)).put (some 62) (.bool !b)) W5;rw[nM]
  have z5:a5.tmps.size=64:=by rw[<-nM,jN,jN];exact z4
  have Kv:dV Hz a4 a5:=by rw[<-nM];exact DC (DC (dV.refl _ _) 61 _ (by decide)) 62 _ (by decide)
  have Vc:a5.tmps.getD 62 undef=.bool !b:=by rw[<-nM];exact eT _ _ _ (by rw[jN];omega)
  have BC:a5.defers=[]:=by rw[<-nM];exact B7
  refine wpIn_cond (t:=!b) Vc ?_
  rcases hb with⟨rfl,hp,j1⟩|⟨rfl,hX⟩
  .simp only[Bool.not_true,Bool.false_eq_true,if_false];refine wpIn_skip (hn _ _ _ (.inl rfl) (h4.callee hp j1 Kv z5 BC (by decide) (λp hp=>by simp[tJ,k_]at hp⊢;rcases hp with rfl|rfl<;>simp) rfl) λb hb=>(j1 b hb).trans (h4.sm.2 b hb))
  .simp only[Bool.not_false,if_true];refine wpIn_seq (wpIn_region ?_);show wpOpsIn _ _ _ _ _ [0] a5 W5;refine aT rfl rfl (by rfl) (run_assign (x:=.const (.bool false)) W5 rfl) ?_;show Code.wpIn _ _ _ _ _ (a5.put (some 8) (.bool false)) W5;exact wpIn_ret (hr _ _ BC (eT _ _ _ (by omega)) ⟨M5,Pf,hX⟩)
end Go.Proofs.Tryz
namespace Go.Proofs.YtifmgeicigngbaaGreat
open Go Go.AL Go.ChangeShapes Go.WideShapes Go.ChangeAt Go.RowKit Go.Proofs.Tryz
def CA:mapsRowed Tryz.prog=true:=by kernel_rfl
def ON:(Tryz.prog.stops==[])=true:=by kernel_rfl
def Df:(Tryz.prog.stopKnobs==[])=true:=by kernel_rfl
def CF:Tryz.prog.plainKeys=false:=by kernel_rfl
def Bo:Tryz.prog.stopsHeard=true:=by kernel_rfl
def IT {f:FuncId} {fn:Func} {s:ChangeSpec} {c:OpenClaim}
  (h0:c.stops=[]/\c.knobs=[]/\c.plainKeys=false/\c.shortTexts=none/\c.lifted=false/\c.make=.cut)
  (h1:c.wf (OpenSpec.ofChange s)=true) (h2:fn.params.all (Tryz.prog.readableRec ·)=true) (h3:namedTie Tryz.prog c.named s.vars=true)
  (h4:(c.inPlace==Tryz.prog.inPlace f)=true) (h5:(c.unfollowed==Tryz.prog.unfollowed f)=true) (h6:(c.recurses==Tryz.prog.recurses f)=true) (h7:(c.named==Tryz.prog.varsNamed f)=true)
  (h8:((c.maps==(fn.params.toList++s.plain.varTypes Tryz.prog).any (Tryz.prog.mapsRec ·))&&(c.ifaces==(fn.params.toList++s.plain.varTypes Tryz.prog).any (Tryz.prog.ifacesRec ·))&&(c.mapsOut==Tryz.prog.mapsAmong fn.resultTypes.toList)&&
   (c.loops==(fn.params.toList++s.plain.varTypes Tryz.prog).any (Tryz.prog.loopsFrom ·))&&(c.wideKeys==(fn.params.toList++s.plain.varTypes Tryz.prog++fn.resultTypes.toList).any (Tryz.prog.wideKeysFrom ·))&&
   s.vars.all (Tryz.prog.varReadable ·)&&fn.resultTypes.all (λt=>Tryz.prog.readableRec t&&decide (t<Tryz.prog.types.size))&&(c.ifacesOut==fn.resultTypes.toList.any (Tryz.prog.ifacesRec ·))&&(c.loopsOut==fn.resultTypes.toList.any (Tryz.prog.loopsFrom ·)))=true)
  (h9:(c.kinds==(if c.domain.isEmpty then[]else fn.params.toList.map λt=>match Tryz.prog.underlying t with|some (.int k)=>some k|_=>none))=true) (mZ:(c.pinned==c.pinnedBy)=true)
  (A':((c.veiled==(fn.params.toList++s.plain.varTypes Tryz.prog++fn.resultTypes.toList).any (Tryz.prog.veiledRec ·))&&c.veiledFits Tryz.prog fn.params.toList (fn.params.toList++s.plain.varTypes Tryz.prog++fn.resultTypes.toList))=true):
  joinedFacts Tryz.prog f fn s c=true:=by
 obtain⟨a1,a2,a3,a4,a5,a6⟩:=h0;unfold joinedFacts;simp only[Bool.and_eq_true]at h8 A'⊢;obtain⟨⟨⟨⟨⟨⟨⟨⟨b1,b2⟩,b3⟩,b4⟩,b5⟩,b6⟩,b7⟩,b8⟩,b9⟩:=h8;refine⟨⟨⟨⟨⟨⟨⟨⟨⟨⟨⟨⟨⟨⟨⟨⟨⟨⟨⟨⟨⟨⟨⟨⟨⟨⟨⟨⟨⟨⟨⟨h1,Cg⟩,CA⟩,h2⟩,h3⟩,?_⟩,ON⟩,?_⟩,Df⟩,h4⟩,h5⟩,h6⟩,h7⟩,b1⟩,b2⟩,b3⟩,b4⟩,b5⟩,b6⟩,b7⟩,b8⟩,b9⟩,?_⟩,?_⟩,Bo⟩,Gy⟩,?_⟩,?_⟩,h9⟩,mZ⟩,A'.1⟩,A'.2⟩
 .rw[a1];rfl
 .rw[a2];rfl
 .rw[a3,CF];rfl
 .rw[a4];rfl
 .rw[a5,Bh];rfl
 .rw[RQ,a6];rfl
def K6 {G:World→Prop} {f:Nat} {Rk:List AV} {W:World} {args:Array Value} (h:AC Tryz.prog G f Rk (.ret (.bool true))) (hG:G W) (hl:Rk.length=args.size) (hr:∀ i (h:i < Rk.length) (h':i < args.size),RV T0 (fun _=>none) W Rk[i] args[i]) :
  Calls Tryz.prog f args W λe W'=>e=.returned (.bool true)/\Below W.heap.size W W':=by
 refine(h W T0 args hG hl hr).mono ?_;rintro e W' ⟨hb,hi,_,c,rfl,hv,_⟩
 cases hv with
 |data _ _ h=>cases h with
  |bool b=>exact⟨rfl,hb⟩
end Go.Proofs.YtifmgeicigngbaaGreat
namespace Go.AL
def rO{P:Program}{GI:World->Prop}{i k:Nat}{x y:ae}{Q:dU->af->ah->Prop}{S:af}{H:ah}(K:af->ah->Prop)(hx:bq P GI x (az K) S H)(hy:∀S' H',K S' H'->xx P GI i k y Q S' H'):xx P GI i (k+1) (.seq x y) Q S H:=by
 refine LZ K (ir x (λe S H h=>?_) hx) (λh=>ir x h) hy
 cases e<;>first|exact⟨rfl,h⟩|exact h.elim
section
variable{P:Program}{GI:World->Prop}{n m:Nat}{a:Act}{w w0:World}{g:Gh}{S:af}{H:ah}{QX:Exit->Act->World->Prop}{ops:Array Oper}
def JK (hG:av GI) (db:GI w0) (cT:ops.all (fun o=>cG o.op)=true) {l l':List Nat} {os:List Oper} (hl:l.map (ops[·]?)=os.map some) {al:List bc} (fu:os.map (aW P n false ops)=al) (bo:al.all (·.ok n)=true)
  (R:Rel P w0 n bp g S H a w) (bC:∀d,¬g.old.bx d) (K:af->ah->Prop) (h:aV P GI al K (λ_=>False) S H)
  (hk:∀g' S' H' a' w',g'.old=g.old->Rel P w0 n bp g' S' H' a' w'->K S' H'->wpOpsIn (FR none) m P ops QX l' a' w'):wpOpsIn (FR none) m P ops QX (l++l') a w:=by
 subst fu
 refine eX (Q1:=QQ P w0 n g.old (az K)) (λe a w bt hq=>?_) (λa1 w1 hq=>?_) _ _ _ (mD hG db cT rfl R l os hl (λo ic=>by
  simp only[List.all_map,List.all_eq_true,Function.comp]at bo
  exact bo o ic) bC h)
 .cases e with
  |normal=>exact absurd rfl bt
  |exit id=>obtain⟨_,_,_,_,_,h⟩:=hq;exact h.elim
  |ret=>obtain⟨_,_,_,_,_,h⟩:=hq;exact h.elim
  |panic ch=>obtain⟨_,_,_,_,_,_,_,_,_,_,h⟩:=hq;exact h.elim
  |goto l=>exact hq.elim
  |outgrown=>exact hq.elim
 .obtain⟨g1,S1,H1,lN,R1,z8⟩:=hq;exact hk g1 S1 H1 a1 w1 lN R1 z8
end
section
variable{P:Program}{GI:World->Prop}
def lF (f args d g rest K S H):cM P GI (⟨d,g,.gI f args⟩::rest) K S H=(match an S g with
  |some true=>(match ev S f with|.func _ first cap=>(first++args.map (ev S)++cap).any bR|_=>true)=false/\(match ev S f with
   |.func (.func k) first cap=>jk P GI k ((first++args.map (ev S)++cap).map (fz H)) ((first++args.map (ev S)++cap).any bR) (kD P GI rest K S d H) (λ_=>False)
   |_=>False)
  |some false=>cM P GI rest K (aH S d bI) H
  |none=>False):=(Eq.refl _).trans (Eq.refl _)
end
end Go.AL
namespace Go.Proofs.Tryz
open Go Go.AL Go.RowKit Go.Proofs Go.Proofs.Tram
attribute [local simp] dS eF dR cW dT cV cZ ck cg dQ cd bP fB fC an aq ev aB.S aB.H aY au aH AL.start AV.cells AV.storable AV.bb aQ aZ aP HR.okB post cU cL cI AV.out AV.bu br bU fz fG AV.vw bR vI int bI az ct cb gB il dM cD aR AV.aw AV.bV nz
variable{GI:World->Prop}
def QH{n:Nat}:2^n-1<2^n:=by have:=Nat.two_pow_pos n;omega
def X9(hG:av GI){ws:List Int}{w:Int}(hL:ft ws w):AC prog GI 16 [jl ws w,vI (iR ws.length)] (.ret (.fZ [.bool (aG ws w (2^ws.length-1)),.int .i64 0])):=by
 have Mq:=T2 (GI:=GI) hG hL;have P2:=Yb (GI:=GI) hG hL;have PD:=aa6 (GI:=GI) hG hL.1.2
 refine AC.kP func16 rfl ntmps16 (by simp) λcc W=>?_
 refine eD hG c16.qa (λS H=>S 1=vI (iR ws.length)/\S 2=.box 2 0/\H 2=some (bJ ws w)) ?_ ?_
 .simp[c16,ae.qa,jl,bJ]
 rintro S H ⟨s1,s2,h2⟩;refine eD hG c16.qb.qa (λS H=>S 1=vI (iR ws.length)/\S 2=.box 2 0/\H 2=some (bJ ws w)) ?_ ?_
 .unfold jl bJ at Mq P2;unfold bJ at h2;simp[c16,ae.qa,ae.qb,s1,s2,h2];refine oc (by simpa[AV.aw,AV.vw,AV.bV]using Mq) ?_;simp[s1,s2,h2];refine oc (by simpa[vI,AV.aw,AV.vw,AV.bV]using P2) ?_;simp[s1,s2,h2,bJ]
 clear s1 s2 h2 S H;rintro S H ⟨s1,s2,h2⟩
 obtain⟨mm,AO⟩:∃mm:Nat,2^ws.length-1=mm:=⟨_,rfl⟩
 have OW:mm<2^ws.length:=by rw[<-AO];exact QH
 rw[AO]at PD⊢
 obtain⟨L,sk⟩:∃L,vI (iR ws.length)=L:=⟨_,rfl⟩
 have hLd:L.aw=L/\L.vw=L/\L.bu=true/\L.bV=L:=by rw[<-sk];exact⟨rfl,rfl,rfl,rfl⟩
 rw[sk]at PD s1
 refine SW.seq (SW.hand hG (p:=1) (lm:=[1,2,3,4]) (l2:=[5,6]) (mH:=[_]) (oh:=[_,_,_,_]) (lS:=[_,_]) rfl rfl rfl rfl (by kernel_rfl) (λ_ h=>h)
  (ua:=(c16.qb.qb.qa.dl).take 1) (tH:=(c16.qb.qb.qa.dl).drop 5) (by kernel_rfl) (by kernel_rfl) (by kernel_rfl) (by kernel_rfl)
  (K1:=λS H=>S 1=L/\S 15=jl ws w)
  (K2:=λo S H=>∃b es gJ,KM cc o b es gJ/\S 19=.bool (aG ws w mm))
  (K3:=λo S H=>∃b es gJ,KM cc o b es gJ/\S 4=.bool (aG ws w mm)/\S 5=.int .i64 0) ?_ ?_ ?_ ?_)
 .simp[c16,ae.qa,ae.qb,ae.dl,s1,s2,h2,hLd,jl,bJ]
 .rintro w0 g S H a w' m db ho R ⟨s1,kj⟩;have r15:=R.slot 15 (by decide) id;rw[kj]at r15
  refine gm rfl rfl (by rfl) (fJ (k:=44) (args:=#[a.tmps.getD 15 undef,.slice none 0 0]) w' rfl rfl ?_ (by kernel_rfl)) (GA hG hL w' (kh g false) #[a.tmps.getD 15 undef,.slice none 0 0] (hG w0 w' db (by have:=R.below;rwa [R.base]at this)) rfl (λi h h'=>by
   match i,h with
   |0,_=>exact(r15.bO rfl).mono (aE.same λb k _ hp=>.inl hp) λ_ _ h=>h
   |1,_=>exact .data _ _ (.fH _))) ?_
  .simp only[List.map_toArray,List.map_cons,List.map_nil,Act.eval]
  rintro e w2 he;obtain⟨b,gJ,c,g2,rfl,R2,hK⟩:=Pk (cc:=cc) R (by rw[ho];exact⟨rfl,rfl,λ_ h=>h⟩) (t:=16) (by decide) (λ_ _ _ h=>by cases h) he;refine⟨_,rfl,?_⟩
  obtain⟨S2,Sq⟩:∃S2:af,au S 16 (.agg (bJ ws w++[.val (.map (some b))]))=S2:=⟨_,rfl⟩
  rw[Sq]at R2
  have t1:S2 1=L:=by rw[<-Sq];simp[au,s1]
  have t16:S2 16=dA ws w (dN b):=by rw[<-Sq];simp[au];rfl
  clear Sq;show wpOpsIn (FR none) _ _ _ _ ([2,3]++[4]) (a.put (some 16) c) w2;refine JK hG db (by kernel_rfl) (os:=[_,_]) rfl (al:=((c16.qb.qb.qa.dl).drop 2).take 2) (by kernel_rfl) (by kernel_rfl) R2 hK.bx (λS H=>S 16=dA ws w (dN b)/\S 18=.int .i64 (mm:Nat)) ?_ ?_
  .simp[c16,ae.qa,ae.qb,ae.dl,t1,t16,hLd];refine⟨_,by kernel_rfl,by simpa[<-sk,vI,AV.aw,AV.vw,AV.bV]using PD,by simp[bR,au,<-sk,vI],?_⟩;simp[t16,g_]
  rintro g3 S3 H3 a3 w3 pD R3 ⟨iM,nb⟩;rw[<-pD]at hK
  have d16:RD g3.Pr w3 (dA ws w (dN b)) (a3.eval (.tmp 16)):=by
   have:=R3.slot 16 (by decide) id;rw[iM]at this;exact this.bQ rfl
  have Fi:a3.eval (.tmp 18)=.int .i64 (mm:Nat):=iK R3 (by decide) nb;obtain⟨k1,k2,k3,k4,k5⟩:=R3.kept b _ hK.keep
  have dp:∀k,¬g3.Pr b k:=λk hp=>by
   rcases hp with hp|hp
   .omega
   .rw[k3]at hp;omega
  have hI:IL ws b [] w3:=⟨#[],gJ,k2,⟨rfl,λi h=>absurd h (by simp)⟩,λx hx=>by cases hx⟩
  refine pd rfl rfl (by rfl) (fJ (k:=45) (args:=#[a3.eval (.tmp 16),.int .i64 (mm:Nat)]) w3 rfl rfl (by simp only[List.map_toArray,List.map_cons,List.map_nil];rw[Fi]) (by kernel_rfl)) (GY hL OW hI dp d16) ?_;rintro e w4 ⟨b4,l4,rfl,ht,⟨es4,YY,hh4,_⟩,rfl,-⟩;refine⟨_,rfl,?_⟩;obtain⟨g4,R4,Wo⟩:=hK.fQ R3 ht hh4;have R5:=R4.put 19 (.bool (aG ws w mm)) (.bool (aG ws w mm)) (by decide) (.data _ _ (.bool _)) trivial;exact⟨g4,_,_,R5,b,es4,YY,Wo,aN _ _ _⟩
 .rintro o S H ⟨b,es,gJ,hK,AN⟩;refine⟨hK.bx,?_⟩;simp[c16,ae.qa,ae.qb,ae.dl,AN];exact⟨b,es,gJ,hK⟩
 rintro o S H ⟨b,es,gJ,hK,s4,s5⟩;refine SW.ret ⟨fq.plain hK.ds,hK.c,_,?_,rfl⟩;show cU prog 20 [.tmp 4,.tmp 5] S H=_;simp[cU,cL,cI,s4,s5,AV.bu,AV.out,AV.vw,AV.bV]
def Vd(hG:av GI)(ws:List Int)(w:Int):AC prog GI 108 [jl ws w] (.ret (.func (.func 154) [] [.ref (bJ ws w)])):=by
 refine AC.vQ hG bL func108 rfl ntmps108 (by simp) (ac:=c108) (by kernel_rfl) ?_;simp[c108,jl,bJ,bq,aV,an,aI,aq,ct,ev,aB.S,aB.H,au,aH,AL.start,AV.aw,AV.cells,AV.storable,aZ,h_,aY];refine⟨2,.func 154,[],[.box 1 0],rfl,by decide,by simp[au],?_⟩;simp[au,fz,fG,AV.bV]
def Mp(hG:av GI)(a b:List Nat×Nat):AC prog GI 109 [gM a,gM b] (.ret (.bool (decide (a.2<b.2)))):=by
 refine dZ hG func109 ntmps109 c109 ?_
 have:decide ((a.2:Int)<(b.2:Int))=decide (a.2<b.2):=by congr 1;apply propext;omega
 simp[c109,gM,this]
abbrev lZ:=List Nat×Nat
def ka:List lZ->lZ->List lZ
 |[],x=>[x]
 |y::o,x=>if x.2<y.2 then[x]else if y.2<x.2 then y::o else y::o++[x]
def lH(cs:List lZ):List lZ:=cs.foldl ka []
def Hk(cs:List lZ){k:Nat}(h:k<cs.length):lH (cs.take (k+1))=ka (lH (cs.take k)) cs[k]:=by
 unfold lH
 rw[List.take_succ_eq_append_getElem h,List.foldl_append]<;>rfl
def L8(o:List lZ)(x:lZ):(ka o x).length<=o.length+1:=by
 cases o with
 |nil=>simp[ka]
 |cons y o=>
  simp only[ka];split
  .simp
  .split<;>simp
def BP:∀(cs:List lZ)(o:List lZ),(cs.foldl ka o).length<=o.length+cs.length
 |[],o=>by simp
 |x::cs,o=>by
  have:=BP cs (ka o x);have:=L8 o x;simp only[List.foldl_cons,List.length_cons];omega
def rq(l:List lZ):AV:=.slice (if l.isEmpty then .nil else .own 115) (l.map gM)
def nu(l:List lZ):AV:=.slice (if l.isEmpty then .nil else .view) (l.map gM)
def Ft:Value:=.func (.func 109) #[] #[]
def sY(ws:List Int)(w:Int):AV:=.func (.func 154) [] [.ref (bJ ws w)]
def C1 : ae := .block 1 <| .seq (.seq (.cM [⟨(some 9), none, .load (.box 5) false 1 (.t 5)⟩,
    ⟨(some 10),none,.lI (.t 9)⟩,
    ⟨(some 11),none,.bin .gtr (.t 10) (.c (.int .i64 0))⟩,
    ⟨(some 12),none,.mv false (.t 11)⟩,
    ⟨(some 13),(some (12,true)),.load (.box 3) false 1 (.t 3)⟩,
    ⟨(some 14),(some (12,true)),.load (.box 6) true 2 (.t 6)⟩,
    ⟨(some 15),(some (12,true)),.load (.box 5) false 1 (.t 5)⟩,
    ⟨(some 16),(some (12,true)),.indexAddr 2 (.t 15) (.c (.int .i64 0))⟩,
    ⟨(some 17),(some (12,true)),.load .ref true 2 (.t 16)⟩,
    ⟨(some 18),(some (12,true)),.gI (.t 13) [(.t 14),(.t 17)]⟩,
    ⟨(some 19),none,.pick (.t 12) (.t 18) (.c (.bool false))⟩])<|
  .cond (.t 19)
   (.ops [⟨none,none,.store .any 1 (.t 5) (.c (.slice .nil []))⟩])
   (.skip))<|
  .seq (.cM [⟨(some 20),none,.load (.box 5) false 1 (.t 5)⟩,
    ⟨(some 21),none,.lI (.t 20)⟩,
    ⟨(some 22),none,.bin .eql (.t 21) (.c (.int .i64 0))⟩,
    ⟨(some 23),none,.mv false (.t 22)⟩,
    ⟨(some 24),(some (23,false)),.load (.box 3) false 1 (.t 3)⟩,
    ⟨(some 25),(some (23,false)),.load (.box 5) false 1 (.t 5)⟩,
    ⟨(some 26),(some (23,false)),.indexAddr 2 (.t 25) (.c (.int .i64 0))⟩,
    ⟨(some 27),(some (23,false)),.load .ref true 2 (.t 26)⟩,
    ⟨(some 28),(some (23,false)),.load (.box 6) true 2 (.t 6)⟩,
    ⟨(some 29),(some (23,false)),.gI (.t 24) [(.t 27),(.t 28)]⟩,
    ⟨(some 30),(some (23,false)),.not (.t 29)⟩,
    ⟨(some 31),none,.pick (.t 23) (.c (.bool true)) (.t 30)⟩])<|
  .cond (.t 31)
   (.ops [⟨(some 32),none,.loadT .any (.t 5)⟩,
     ⟨(some 33),none,.load .any true 2 (.t 6)⟩,
     ⟨(some 34),none,.buildSlice 112 115 2 [(.t 33)]⟩,
     ⟨(some 35),none,.append 112 115 2 32 (.t 32) (.t 34)⟩,
     ⟨none,none,.store .any 1 (.t 5) (.t 35)⟩])
   (.skip)
def Qt (hG:av GI) {ws:List Int} {w:Int} {cs:List lZ} (hlen:cs.length≤100000) (mh:mN prog GI 154 [.ref (bJ ws w)] (cs.map gM)) :
  AC prog GI 107 [sY ws w,.val (Ft)] (.ret (nu (lH cs))):=by
 refine AC.kP func107 rfl ntmps107 (by simp) λcc W=>?_
 refine eD hG c107.qa (λS H=>S 0=sY ws w/\S 3=.box 3 0/\H 3=some [.val (Ft)]) ?_ ?_
 .simp[c107,ae.qa,sY,Ft,h_]
 rintro S1 H1 ⟨s0,s3,h3⟩;refine eD hG c107.qb.qa (λS H=>S 0=sY ws w/\S 3=.box 3 0/\H 3=some [.val (Ft)]/\S 5=.box 5 0/\H 5=some [.slice .nil []]) ?_ ?_
 .simp[c107,ae.qa,ae.qb,sY,s0,s3,h3,Ft,h_]
 clear s0 s3 h3;rintro S2 H2 ⟨s0,s3,h3,s5,h5⟩;refine SW.seq (eD hG (.ops [⟨some 7,none,.mv false (.t 0)⟩]) (λS H=>S 3=.box 3 0/\H 3=some [.val (Ft)]/\S 5=.box 5 0/\H 5=some [.slice .nil []]/\S 7=sY ws w) ?_ ?_)
 .simp[sY,s0,s3,h3,s5,h5,h_]
 clear s0 s3 h3 s5 h5;rintro S3 H3 ⟨s3,h3,s5,h5,s7⟩
 have LG:lW (λd=>d==6) (S3 3)=.box 3 0:=by rw[s3]<;>rfl
 have kH:lW (λd=>d==6) (S3 5)=.box 5 0:=by rw[s5]<;>rfl
 refine SW.block (SW.range hG bL (Eg:=.tmp 7) (y:=.t 7) (p:=8) (f:=154) (caps:=[.ref (bJ ws w)]) (xs:=cs.map gM) rfl s7 (by kernel_rfl) rfl mh (by decide) (λx hx=>by obtain⟨e,_,rfl⟩:=List.mem_map.1 hx;rfl)
  (λd=>d==6) (aa:=.ops [⟨(some 6),none,.alloc 115 [(.slice .nil []),(.int .i64 0)]⟩,⟨none,none,.store .any 2 (.t 6) (.t 8)⟩]) (ab:=C1)
  (by kernel_rfl) (by kernel_rfl) (by simp[ae.names,bc.fP,eb.fP]) (by simp[C1,ae.names,bc.fP,eb.fP]) (λ_ _ h=>h) (by kernel_rfl) (by kernel_rfl)
  (λk H'=>H' 3=some [.val (Ft)]/\H' 5=some [rq (lH (cs.take k))]) (λ_ _=>False) ⟨h3,h5⟩ ?_ ?_ ?_)
 .rintro k hk H' ⟨h3,h5⟩
  have eG:k<cs.length:=by simpa using hk
  have sQ:(cs.map gM)[k]=gM cs[k]:=by simp
  have kW:=Hk cs eG;rw[sQ,kW]
  have hL:(lH (cs.take k)).length<=100000:=by
   have:=BP (cs.take k) [];unfold lH;simp at this⊢;omega
  generalize lH (cs.take k)=L at hL h5⊢;generalize cs[k]=x
  have bo:aC 2 (L.map gM)=true:=by simp[aC,gM,AV.storable,AV.cells]
  unfold Ft at h3⊢
  cases L with
  |nil=>
   simp[C1,LG,kH,h3,h5,rq,ka,gM,dH,jb,aC,lF]
  |cons y L=>
   have j1:L.length+1+1<1048576:=by simp at hL;omega
   have xV:¬((L.length:Int)+1=0):=by omega
   have Iy:((L.length:Int)+1==0)=false:=by rw[beq_eq_false_iff_ne];omega
   have c1:=Mp (GI:=GI) hG x y;have c2:=Mp (GI:=GI) hG y x;unfold gM at c1 c2;simp[C1,LG,kH,h3,h5,rq,gM,dH,jb,aC,lF];refine oc c1 ?_
   by_cases h1:x.2<y.2
   .simp[h1,ka,LG,kH,h3,h5,rq,gM,dH,jb,aC,lF]
   .simp[h1,xV,Iy,LG,kH,h3,h5,rq,gM,dH,jb,aC,lF];refine oc c2 ?_
    by_cases h2:y.2<x.2
    .simp[h1,h2,xV,Iy,ka,LG,kH,h3,h5,rq,gM,dH,jb,aC,lF]
    .simp[h1,h2,xV,Iy,ka,LG,kH,h3,h5,j1,bo,rq,gM,dH,jb,aC,lF]
 .rintro D H' hD ⟨h3,h5⟩;show SW prog GI 37 none (.seq _ .ret) _ _ _ _;have kW:List.take (cs.map gM).length cs=cs:=List.take_of_length_le (by simp);rw[kW]at h5;refine eD hG c107.qb.qb.qb.qa (λS' _=>S' 4=nu (lH cs)) ?_ ?_
  .generalize lH cs=L at h5⊢
   cases L<;>simp[c107,ae.qa,ae.qb,kH,h5,rq,nu]
  intro S4 H4 s4;refine SW.ret ⟨(fq.plain rfl).mark hD,rfl,_,?_,rfl⟩;show cU prog 37 [.tmp 4] S4 H4=_;simp[cU,cL,cI,s4,nu,AV.bu,AV.out]
 .exact λ_ _ _ _ _ h=>h.elim
end Go.Proofs.Tryz
namespace Go.Proofs.Tryz
open Go Go.AL Go.RowKit Go.Proofs Go.Proofs.Tram
def bm{ws:List Int}{w:Int}{r:Nat}{now T:List Nat}{c:List Nat×Nat}(n:Nat)(hn:n<=T.length)(hc:aG ws w ((iF T n now.length).getD n 0)=true)(h:c∈eU ws w r (now++[n]) (iF T n now.length)):c∈eU ws w (r+1) now T:=by
 rw[lB,List.mem_flatMap];refine⟨n,List.mem_range'_1.2 ⟨by omega,by omega⟩,?_⟩;unfold qB;rw[if_pos hc];exact h
def iA(ws:List Int)(w:Int)(now T:List Nat):(now,T.length)∈eU ws w 0 now T:=by simp[eU]
def JU{x w:Int}(hx:1<=x)(g0:x<=w):([0],1)∈eU [x] w 1 [] []:=by
 refine bm 0 (by decide) (by show aG [x] w 1=true;unfold aG;rw[Hh];exact decide_eq_true (by omega)) ?_;exact iA _ _ [0] [1]
def FZ{x y w:Int}(hx:1<=x)(hy:1<=y)(g0:x<=w)(g1:y<=w):([0,1],2)∈eU [x,y] w 2 [] []:=by
 refine bm 0 (by decide) (by show aG [x,y] w 1=true;unfold aG;rw[C2];exact decide_eq_true (by omega)) ?_;refine bm 1 (by decide) (by show aG [x,y] w 2=true;unfold aG;rw[HI];exact decide_eq_true (by omega)) ?_;exact iA _ _ [0,1] [1,2]
def Q8{x y w:Int}(hx:1<=x)(hy:1<=y)(g0:x+y<=w):([0,0],1)∈eU [x,y] w 2 [] []:=by
 refine bm 0 (by decide) (by show aG [x,y] w 1=true;unfold aG;rw[C2];exact decide_eq_true (by omega)) ?_;refine bm 0 (by decide) (by show aG [x,y] w 3=true;unfold aG;rw[G7];exact decide_eq_true (by omega)) ?_;exact iA _ _ [0,0] [3]
def BG{x y z w:Int}(hx:1<=x)(hy:1<=y)(hz:1<=z)(g0:x<=w)(g1:y<=w)(g2:z<=w):([0,1,2],3)∈eU [x,y,z] w 3 [] []:=by
 refine bm 0 (by decide) (by show aG [x,y,z] w 1=true;unfold aG;rw[rb];exact decide_eq_true (by omega)) ?_;refine bm 1 (by decide) (by show aG [x,y,z] w 2=true;unfold aG;rw[y_];exact decide_eq_true (by omega)) ?_;refine bm 2 (by decide) (by show aG [x,y,z] w 4=true;unfold aG;rw[yW];exact decide_eq_true (by omega)) ?_;exact iA _ _ [0,1,2] [1,2,4]
def Mg{x y z w:Int}(hx:1<=x)(hy:1<=y)(hz:1<=z)(g0:x<=w)(g1:y+z<=w):([0,1,1],2)∈eU [x,y,z] w 3 [] []:=by
 refine bm 0 (by decide) (by show aG [x,y,z] w 1=true;unfold aG;rw[rb];exact decide_eq_true (by omega)) ?_;refine bm 1 (by decide) (by show aG [x,y,z] w 2=true;unfold aG;rw[y_];exact decide_eq_true (by omega)) ?_;refine bm 1 (by decide) (by show aG [x,y,z] w 6=true;unfold aG;rw[HV];exact decide_eq_true (by omega)) ?_;exact iA _ _ [0,1,1] [1,6]
def NN{x y z w:Int}(hx:1<=x)(hy:1<=y)(hz:1<=z)(g0:x+y<=w)(g1:z<=w):([0,0,1],2)∈eU [x,y,z] w 3 [] []:=by
 refine bm 0 (by decide) (by show aG [x,y,z] w 1=true;unfold aG;rw[rb];exact decide_eq_true (by omega)) ?_;refine bm 0 (by decide) (by show aG [x,y,z] w 3=true;unfold aG;rw[G1];exact decide_eq_true (by omega)) ?_;refine bm 1 (by decide) (by show aG [x,y,z] w 4=true;unfold aG;rw[yW];exact decide_eq_true (by omega)) ?_;exact iA _ _ [0,0,1] [3,4]
def Qo{x y z w:Int}(hx:1<=x)(hy:1<=y)(hz:1<=z)(g0:x+y+z<=w):([0,0,0],1)∈eU [x,y,z] w 3 [] []:=by
 refine bm 0 (by decide) (by show aG [x,y,z] w 1=true;unfold aG;rw[rb];exact decide_eq_true (by omega)) ?_;refine bm 0 (by decide) (by show aG [x,y,z] w 3=true;unfold aG;rw[G1];exact decide_eq_true (by omega)) ?_;refine bm 0 (by decide) (by show aG [x,y,z] w 7=true;unfold aG;rw[Hs];exact decide_eq_true (by omega)) ?_;exact iA _ _ [0,0,0] [7]
def IA{x y z u w:Int}(hx:1<=x)(hy:1<=y)(hz:1<=z)(hu:1<=u)(g0:x<=w)(g1:y<=w)(g2:z<=w)(g3:u<=w):([0,1,2,3],4)∈eU [x,y,z,u] w 4 [] []:=by
 refine bm 0 (by decide) (by show aG [x,y,z,u] w 1=true;unfold aG;rw[kC];exact decide_eq_true (by omega)) ?_;refine bm 1 (by decide) (by show aG [x,y,z,u] w 2=true;unfold aG;rw[qk];exact decide_eq_true (by omega)) ?_;refine bm 2 (by decide) (by show aG [x,y,z,u] w 4=true;unfold aG;rw[ry];exact decide_eq_true (by omega)) ?_;refine bm 3 (by decide) (by show aG [x,y,z,u] w 8=true;unfold aG;rw[rk];exact decide_eq_true (by omega)) ?_;exact iA _ _ [0,1,2,3] [1,2,4,8]
def Kw{x y z u w:Int}(hx:1<=x)(hy:1<=y)(hz:1<=z)(hu:1<=u)(g0:x<=w)(g1:y<=w)(g2:z+u<=w):([0,1,2,2],3)∈eU [x,y,z,u] w 4 [] []:=by
 refine bm 0 (by decide) (by show aG [x,y,z,u] w 1=true;unfold aG;rw[kC];exact decide_eq_true (by omega)) ?_;refine bm 1 (by decide) (by show aG [x,y,z,u] w 2=true;unfold aG;rw[qk];exact decide_eq_true (by omega)) ?_;refine bm 2 (by decide) (by show aG [x,y,z,u] w 4=true;unfold aG;rw[ry];exact decide_eq_true (by omega)) ?_;refine bm 2 (by decide) (by show aG [x,y,z,u] w 12=true;unfold aG;rw[uX];exact decide_eq_true (by omega)) ?_;exact iA _ _ [0,1,2,2] [1,2,12]
def Lu{x y z u w:Int}(hx:1<=x)(hy:1<=y)(hz:1<=z)(hu:1<=u)(g0:x<=w)(g1:y+z<=w)(g2:u<=w):([0,1,1,2],3)∈eU [x,y,z,u] w 4 [] []:=by
 refine bm 0 (by decide) (by show aG [x,y,z,u] w 1=true;unfold aG;rw[kC];exact decide_eq_true (by omega)) ?_;refine bm 1 (by decide) (by show aG [x,y,z,u] w 2=true;unfold aG;rw[qk];exact decide_eq_true (by omega)) ?_;refine bm 1 (by decide) (by show aG [x,y,z,u] w 6=true;unfold aG;rw[DO];exact decide_eq_true (by omega)) ?_;refine bm 2 (by decide) (by show aG [x,y,z,u] w 8=true;unfold aG;rw[rk];exact decide_eq_true (by omega)) ?_;exact iA _ _ [0,1,1,2] [1,6,8]
def OK{x y z u w:Int}(hx:1<=x)(hy:1<=y)(hz:1<=z)(hu:1<=u)(g0:x<=w)(g1:y+z+u<=w):([0,1,1,1],2)∈eU [x,y,z,u] w 4 [] []:=by
 refine bm 0 (by decide) (by show aG [x,y,z,u] w 1=true;unfold aG;rw[kC];exact decide_eq_true (by omega)) ?_;refine bm 1 (by decide) (by show aG [x,y,z,u] w 2=true;unfold aG;rw[qk];exact decide_eq_true (by omega)) ?_;refine bm 1 (by decide) (by show aG [x,y,z,u] w 6=true;unfold aG;rw[DO];exact decide_eq_true (by omega)) ?_;refine bm 1 (by decide) (by show aG [x,y,z,u] w 14=true;unfold aG;rw[C6];exact decide_eq_true (by omega)) ?_;exact iA _ _ [0,1,1,1] [1,14]
def LO{x y z u w:Int}(hx:1<=x)(hy:1<=y)(hz:1<=z)(hu:1<=u)(g0:x+y<=w)(g1:z<=w)(g2:u<=w):([0,0,1,2],3)∈eU [x,y,z,u] w 4 [] []:=by
 refine bm 0 (by decide) (by show aG [x,y,z,u] w 1=true;unfold aG;rw[kC];exact decide_eq_true (by omega)) ?_;refine bm 0 (by decide) (by show aG [x,y,z,u] w 3=true;unfold aG;rw[zq];exact decide_eq_true (by omega)) ?_;refine bm 1 (by decide) (by show aG [x,y,z,u] w 4=true;unfold aG;rw[ry];exact decide_eq_true (by omega)) ?_;refine bm 2 (by decide) (by show aG [x,y,z,u] w 8=true;unfold aG;rw[rk];exact decide_eq_true (by omega)) ?_;exact iA _ _ [0,0,1,2] [3,4,8]
def OC{x y z u w:Int}(hx:1<=x)(hy:1<=y)(hz:1<=z)(hu:1<=u)(g0:x+y<=w)(g1:z+u<=w):([0,0,1,1],2)∈eU [x,y,z,u] w 4 [] []:=by
 refine bm 0 (by decide) (by show aG [x,y,z,u] w 1=true;unfold aG;rw[kC];exact decide_eq_true (by omega)) ?_;refine bm 0 (by decide) (by show aG [x,y,z,u] w 3=true;unfold aG;rw[zq];exact decide_eq_true (by omega)) ?_;refine bm 1 (by decide) (by show aG [x,y,z,u] w 4=true;unfold aG;rw[ry];exact decide_eq_true (by omega)) ?_;refine bm 1 (by decide) (by show aG [x,y,z,u] w 12=true;unfold aG;rw[uX];exact decide_eq_true (by omega)) ?_;exact iA _ _ [0,0,1,1] [3,12]
def Mk{x y z u w:Int}(hx:1<=x)(hy:1<=y)(hz:1<=z)(hu:1<=u)(g0:x+y+z<=w)(g1:u<=w):([0,0,0,1],2)∈eU [x,y,z,u] w 4 [] []:=by
 refine bm 0 (by decide) (by show aG [x,y,z,u] w 1=true;unfold aG;rw[kC];exact decide_eq_true (by omega)) ?_;refine bm 0 (by decide) (by show aG [x,y,z,u] w 3=true;unfold aG;rw[zq];exact decide_eq_true (by omega)) ?_;refine bm 0 (by decide) (by show aG [x,y,z,u] w 7=true;unfold aG;rw[HS];exact decide_eq_true (by omega)) ?_;refine bm 1 (by decide) (by show aG [x,y,z,u] w 8=true;unfold aG;rw[rk];exact decide_eq_true (by omega)) ?_;exact iA _ _ [0,0,0,1] [7,8]
def P_{x y z u w:Int}(hx:1<=x)(hy:1<=y)(hz:1<=z)(hu:1<=u)(g0:x+y+z+u<=w):([0,0,0,0],1)∈eU [x,y,z,u] w 4 [] []:=by
 refine bm 0 (by decide) (by show aG [x,y,z,u] w 1=true;unfold aG;rw[kC];exact decide_eq_true (by omega)) ?_;refine bm 0 (by decide) (by show aG [x,y,z,u] w 3=true;unfold aG;rw[zq];exact decide_eq_true (by omega)) ?_;refine bm 0 (by decide) (by show aG [x,y,z,u] w 7=true;unfold aG;rw[HS];exact decide_eq_true (by omega)) ?_;refine bm 0 (by decide) (by show aG [x,y,z,u] w 15=true;unfold aG;rw[DB];exact decide_eq_true (by omega)) ?_;exact iA _ _ [0,0,0,0] [15]
def SC(a k:Nat):fY (a|||2^k) k=true:=by
 unfold fY;refine decide_eq_true ?_;intro h
 have h1:(a|||2^k).testBit k=true:=by rw[Nat.testBit_or,Nat.testBit_two_pow_self,Bool.or_true]
 have h2:((a|||2^k)&&&2^k).testBit k=true:=by rw[Nat.testBit_and,h1,Nat.testBit_two_pow_self]<;>rfl
 rw[h,Nat.zero_testBit]at h2;cases h2
def ML{l:List Int}(h:∀x∈l,0<=x){y:Int}(hy:y∈l):y<=l.sum:=by
 have key:∀l:List Int,(∀x∈l,0<=x)->0<=l.sum:=by
  intro l
  induction l with
  |nil=>simp
  |cons a l ih=>
   intro h
   have:=ih λx hx=>h x (List.mem_cons_of_mem _ hx)
   have:=h a List.mem_cons_self;simp only[List.sum_cons];omega
 induction l with
 |nil=>cases hy
 |cons a l ih=>
  have h1:=h a List.mem_cons_self
  have h2:=key l λx hx=>h x (List.mem_cons_of_mem _ hx)
  simp only[List.sum_cons];rcases List.mem_cons.1 hy with rfl|hy
  .omega
  .have:=ih (λx hx=>h x (List.mem_cons_of_mem _ hx)) hy;omega
def IG{ws:List Int}(hx:∀x∈ws,1<=x/\x<=6){a:Int}{m k:Nat}(hk:k<ws.length)(hb:fY m k=true)(hc:aG ws a m=true):ws[k]<=a:=by
 have h1:ws[k]∈ea ws m ws.length:=by
  unfold ea;refine List.mem_map.2 ⟨k,List.mem_filter.2 ⟨List.mem_range.2 hk,hb⟩,?_⟩
  rw[List.getD_eq_getElem?_getD,List.getElem?_eq_getElem hk]<;>rfl
 have h2:=ML (λx Af=>(yV hx m (Nat.le_refl _) x Af).1) h1;unfold aG cn at hc;have:=of_decide_eq_true hc;omega
def add_get{T:List Nat}{n k:Nat}(h:n<=T.length):∃a,(iF T n k).getD n 0=a|||2^k:=by
 unfold iF;split
 .rename_i hn;exact⟨T.getD n 0,by rw[List.getD_eq_getElem?_getD,List.getElem?_set_self hn]<;>rfl⟩
 .have:n=T.length:=by omega
  subst this;exact⟨0,by simp[List.getD_eq_getElem?_getD]⟩
def Gj{ws:List Int}(hx:∀x∈ws,1<=x/\x<=6){w:Int}:∀(r:Nat)(now T:List Nat)(c:List Nat×Nat),now.length+r=ws.length->c∈eU ws w r now T->∀k (h:k<ws.length),now.length<=k->ws[k]<=w
 |0,now,T,c,hl,_,k,h,hk=>by omega
 |r+1,now,T,c,hl,hc,k,h,hk=>by
  rw[lB,List.mem_flatMap]at hc;obtain⟨n,hn,hb⟩:=hc;have hn:=List.mem_range'_1.1 hn;unfold qB at hb;split at hb
  case isFalse=>cases hb
  rename_i jV
  by_cases nP:k=now.length
  .subst nP;obtain⟨a,ha⟩:=add_get (T:=T) (n:=n) (k:=now.length) (by omega);rw[ha]at jV;exact IG hx h (SC a _) jV
  .exact Gj hx r (now++[n]) _ c (by simp;omega) hb k h (by simp;omega)
def wz{ws:List Int}{w:Int}:∀(r:Nat)(now T:List Nat)(c:List Nat×Nat),c∈eU ws w r now T->T.length<=c.2
 |0,now,T,c,hc=>by
  simp[eU]at hc;subst hc;exact Nat.le_refl _
 |r+1,now,T,c,hc=>by
  rw[lB,List.mem_flatMap]at hc;obtain⟨n,hn,hb⟩:=hc;unfold qB at hb;split at hb
  case isFalse=>cases hb
  refine Nat.le_trans ?_ (wz r _ _ c hb);unfold iF
  split<;>simp
def Ek{ws:List Int}{w:Int}:∀(r:Nat)(now:List Nat)(c:List Nat×Nat),now.length+r<=4->1<=now.length->c∈eU ws w r now [2^now.length-1]->c.2=1->aG ws w (2^now.length-1)=true->aG ws w (2^(now.length+r)-1)=true
 |0,now,c,_,_,_,_,h=>h
 |r+1,now,c,hl,h1,hc,ig,h=>by
  rw[lB,List.mem_flatMap]at hc;obtain⟨n,hn,hb⟩:=hc;have hn:=List.mem_range'_1.1 hn;unfold qB at hb;split at hb
  case isFalse=>cases hb
  rename_i jV;have hm:=wz r _ _ c hb;rw[ig]at hm
  have pU:n=0:=by
   rcases Nat.eq_zero_or_pos n with h0|h0
   .exact h0
   .have:n=1:=by simp at hn;omega
    subst this;simp[iF]at hm
  subst pU
  have ha:iF [2^now.length-1] 0 now.length=[2^(now.length+1)-1]:=by
   have:=J1 (i:=now.length) (by omega);simp[iF,this]
  rw[ha]at hb jV
  have uq:(now++[0]).length=now.length+1:=by simp
  have:=Ek r (now++[0]) c (by rw[uq];omega) (by rw[uq];omega) (by rw[uq];exact hb) ig (by rw[uq];simpa using jV);rw[uq]at this;rw[show now.length+(r+1)=now.length+1+r by omega];exact this
def KD{ws:List Int}(hl:1<=ws.length/\ws.length<=4){w:Int}{c:List Nat×Nat}(hc:c∈eU ws w ws.length [] [])(ig:c.2=1):aG ws w (2^ws.length-1)=true:=by
 obtain⟨r,hr⟩:∃r,ws.length=r+1:=⟨ws.length-1,by omega⟩
 rw[hr]at hc⊢;rw[lB,List.mem_flatMap]at hc;obtain⟨n,hn,hb⟩:=hc;have hn:=List.mem_range'_1.1 hn
 have pU:n=0:=by simp at hn;omega
 subst pU;unfold qB at hb;split at hb
 case isFalse=>cases hb
 rename_i jV;have:=Ek r [0] c (by simp;omega) (by simp) hb ig jV;rw[show r+1=[0].length+r by simp;omega];exact this
def Mz{ws:List Int}(hl:1<=ws.length){w:Int}{c:List Nat×Nat}(hc:c∈eU ws w ws.length [] []):1<=c.2:=by
 obtain⟨r,hr⟩:∃r,ws.length=r+1:=⟨ws.length-1,by omega⟩
 rw[hr,lB,List.mem_flatMap]at hc;obtain⟨n,hn,hb⟩:=hc;have hn:=List.mem_range'_1.1 hn
 have pU:n=0:=by simp at hn;omega
 subst pU;unfold qB at hb;split at hb
 case isFalse=>cases hb
 have:=wz r _ _ c hb;simpa[iF]using this
def Pn{ws:List Int}(hl:1<=ws.length/\ws.length<=4):cn ws (2^ws.length-1)=ws.sum:=by
 rcases sI hl with⟨x,rfl⟩|⟨x,y,rfl⟩|⟨x,y,z,rfl⟩|⟨x,y,z,u,rfl⟩
 .rw[show 2^[x].length-1=1 from rfl,Hh];simp
 .rw[show 2^[x,y].length-1=3 from rfl,G7];simp
 .rw[show 2^[x,y,z].length-1=7 from rfl,Hs];simp
 .rw[show 2^[x,y,z,u].length-1=15 from rfl,DB];simp
def zm:∀(cs o:List lZ)(all:List lZ),(∀c∈o,c∈all)->(∀c∈cs,c∈all)->(∀a∈o,∀b∈o,a.2=b.2)->(∀c∈cs.foldl ka o,c∈all)/\(∀a∈cs.foldl ka o,(∀b∈o,a.2<=b.2)/\∀b∈cs,a.2<=b.2)/\(o≠[]\/cs≠[]->cs.foldl ka o≠[])
 |[],o,all,h1,h2,h3=>⟨h1,λa ha=>⟨λb hb=>Nat.le_of_eq (h3 a ha b hb),λb hb=>by cases hb⟩,λh=>h.resolve_right λh=>h rfl⟩
 |x::cs,o,all,h1,h2,h3=>by
  have hx:=h2 x List.mem_cons_self
  have lz:∀c∈cs,c∈all:=λc hc=>h2 c (List.mem_cons_of_mem _ hc)
  have key:(∀c∈ka o x,c∈all)/\(∀a∈ka o x,∀b∈ka o x,a.2=b.2)/\(∀a∈ka o x,(∀b∈o,a.2<=b.2)/\a.2<=x.2)/\ka o x≠[]:=by
   cases o with
   |nil=>
    simp only[ka];refine⟨λc hc=>?_,λa ha b hb=>?_,λa ha=>⟨λb hb=>(by cases hb),?_⟩,by simp⟩
    .rw[List.mem_singleton]at hc;subst hc;exact hx
    .rw[List.mem_singleton]at ha hb;subst ha hb;rfl
    .rw[List.mem_singleton]at ha;subst ha;exact Nat.le_refl _
   |cons y o=>
    have hy:∀b∈y::o,b.2=y.2:=λb hb=>h3 b hb y List.mem_cons_self
    simp only[ka];split
    .rename_i ao;refine⟨λc hc=>?_,λa ha b hb=>?_,λa ha=>⟨λb hb=>?_,?_⟩,by simp⟩
     .rw[List.mem_singleton]at hc;subst hc;exact hx
     .rw[List.mem_singleton]at ha hb;subst ha hb;rfl
     .rw[List.mem_singleton]at ha;subst ha;rw[hy b hb];omega
     .rw[List.mem_singleton]at ha;subst ha;exact Nat.le_refl _
    .rename_i ao;split
     .rename_i VY;refine⟨h1,h3,λa ha=>⟨λb hb=>Nat.le_of_eq (h3 a ha b hb),?_⟩,by simp⟩;rw[hy a ha];omega
     .rename_i VY
      have Yv:x.2=y.2:=by omega
      have eP:∀b∈y::o++[x],b.2=y.2:=λb hb=>by
       rcases List.mem_append.1 hb with hb|hb
       .exact hy b hb
       .rw[List.mem_singleton]at hb;subst hb;exact Yv
      refine⟨λc hc=>?_,λa ha b hb=>(eP a ha).trans (eP b hb).symm,λa ha=>⟨λb hb=>?_,?_⟩,by simp⟩
      .rcases List.mem_append.1 hc with hc|hc
       .exact h1 c hc
       .rw[List.mem_singleton]at hc;subst hc;exact hx
      .rw[eP a ha,hy b hb];exact Nat.le_refl _
      .rw[eP a ha,Yv];exact Nat.le_refl _
  obtain⟨k1,k2,k3,k4⟩:=key;obtain⟨r1,r2,r3⟩:=zm cs (ka o x) all k1 lz k2;refine⟨r1,λa ha=>?_,λ_=>r3 (.inl k4)⟩;obtain⟨q1,q2⟩:=r2 a ha;obtain⟨z,hz⟩:∃z,z∈ka o x:=List.exists_mem_of_ne_nil _ k4;have xV:=q1 z hz;have hz3:=k3 z hz;refine⟨λb hb=>Nat.le_trans xV (hz3.1 b hb),λb hb=>?_⟩;rcases List.mem_cons.1 hb with rfl|hb
  .exact Nat.le_trans xV hz3.2
  .exact q2 b hb
def G6(cs:List lZ):(∀c∈lH cs,c∈cs)/\(∀a∈lH cs,∀b∈cs,a.2<=b.2)/\(cs≠[]->lH cs≠[]):=by
 obtain⟨h1,h2,h3⟩:=zm cs [] cs (λc hc=>by cases hc) (λc hc=>hc) (λa ha=>by cases ha);exact⟨h1,λa ha=>(h2 a ha).2,λh=>h3 (.inr h)⟩
end Go.Proofs.Tryz
namespace Go.Proofs.Tryz
open Go Go.AL Go.RowKit Go.Proofs Go.Proofs.Tram
attribute [local simp] dS eF dR cW dT cV cZ ck cg dQ cd bP fB fC an aq ev aB.S aB.H aY au aH AL.start AV.cells AV.storable AV.bb aQ aZ aP HR.okB post cU cL cI AV.out AV.bu br bU fz fG AV.vw bR vI int bI az ct cb gB il dM cD aR AV.aw AV.bV nz
variable{GI:World->Prop}{l:Nat}{xs:List AV}
variable{C:Cons prog GI l xs}{X:Env}{ws:List Int}{w:Int}{k:Nat}{MI MF:Nat->Prop}{W W0 W':World}{now T:List Nat}{a a':Act}{ex mj:List (Nat×AV)}
def RZ{M:Nat->Prop}{Pr cS:Nat->Nat->Prop}{w w':World}(hm:∀b,M b->w'.heap[b]?=w.heap[b]?)(hk:aE Pr cS w w'):aE (λb j=>M b\/Pr b j) (λb j=>M b\/cS b j) w w':={
 cell b k hp u hu:=by
  rcases hp with h|h
  .exact⟨.inl h,by rw[World.cell?_of_block (w:=w) (hm b h)];exact hu⟩
  .obtain⟨h1,h2⟩:=hk.cell b k h u hu;exact⟨.inr h1,h2⟩
 map b hp es c OQ:=by
  rcases hp with h|h
  .exact⟨.inl h,by rw[hm b h];exact OQ⟩
  .obtain⟨h1,h2⟩:=hk.map b h es c OQ
   exact⟨.inr h1,h2⟩ }
def uK(w:World)(b:Nat):Nat:=match w.heap[b]? with|some (.cells arr _ _)=>arr.size|_=>1
def Kn{G:Nat->Prop}{w:World}{v:AV}{c:Value}(h:RD (λb _=>G b) w v c):RD (λb j=>G b/\j<uK w b) w v c:=by
 refine h.mono ⟨λb k hp u hu=>⟨⟨hp,?_⟩,hu⟩,λb hp es c hm=>⟨⟨hp,?_⟩,hm⟩⟩
 .unfold World.cell? at hu;unfold uK
  cases ho:w.heap[b]? with
  |none=>rw[ho]at hu;simp at hu
  |some o=>
   rw[ho]at hu
   cases o<;>simp at hu<;>first
    |exact(Array.getElem?_eq_some_iff.1 hu).1
    |(obtain⟨h1,_⟩:=hu;exact h1)
    |skip
 .unfold uK;rw[hm];exact Nat.one_pos
def LA (hG:av GI) (hlen:now.length=ws.length) {M:Nat→Prop} {Pr:Nat→Nat→Prop} {GN:Nat→Prop} {c0 c1:Value} (st:nc C X ws w k M Pr MI W) (Ey:∀ b,GN b→M b∧b≠X.bM∧¬ MI b) (hT4:T.length < 1000)
  (h:PS C X ws w (λb=>MI b\/GN b) W now T (λb=>MI b\/GN b) [] k a W') (e0:RD (λb _=>GN b) W (.slice .view (dL now)) c0) (e1:RD (λb _=>GN b) W (.slice .view (dL T)) c1) (t0:a.tmps.getD 0 undef=c0) (t1:a.tmps.getD 1 undef=c1) {tl:List AV} (hx:xs.drop k=gM (now,T.length)::tl) {Q:Exit->Act->World->Prop} {m:Nat}
  (hk:∀(b:Bool) a' W' M' cS,a'.defers=[]->a'.tmps.getD 8 undef=.bool b->((b=true/\nc C X ws w (k+1) M' cS MI W'/\∀b,MI b->W'.heap[b]?=W.heap[b]?)\/(b=false/\C.X M' cS W'))->Q .normal a' W'):
  (mr (V_ true (jI (mr Pg)))).wpIn (FR none) m prog Q a W':=by
 obtain⟨M1,L_,s1,hM1⟩:=h.st;show(Code.region 2 _ false).wpIn (FR none) m prog Q a W'
 refine rp hG (p:=1) (l2:=[1,2,3,4,5,6]) rfl (by kernel_rfl) (by kernel_rfl) (l:=(c155s.qb.qa.qb.qa.qa.dl).take 1) (by kernel_rfl) (by decide) (W:=W6) (by kernel_rfl) (C.gi s1.j) (λb j=>(MI b\/GN b)\/L_ b j) (pS l X ws w now T []) h.size h.defers (h.gu s1)
  (K:=λS _=>S 17=.val (.func (.yield l) #[] #[])) ?_ ?_
 .simp[c155s,ae.qa,ae.qb,ae.dl,pS,List.lookup]
 intro g2 S2 H2 a2 W2 lE R2 lY pR
 have iw:Below W'.heap.size W' W2:=by have:=R2.below;rwa [R2.base]at this
 have Hf:a2.eval (.tmp 17)=.func (.yield l) #[] #[]:=by
  have:=R2.slot 17 (by decide) id;rw[lY]at this;exact this.jf
 have tm:a2.defers=[]:=by rw[R2.defers,lE]<;>rfl
 have aap:∀b,GN b->b<W.heap.size:=λb hb=>st.lt b (Ey b hb).1
 have TU:∀b,GN b->W2.heap[b]?=W.heap[b]?:=λb hb=>by
  rw[iw.block b (by have:=h.sm.1;have:=aap b hb;omega)];exact h.sm.2 b (.inr hb)
 have d0:RD (λb _=>GN b) W2 (.slice .view (dL now)) (a2.tmps.getD 0 undef):=by
  rw[pR 0 (by decide),t0];exact e0.mono (aE.of_eq λb j hp=>⟨hp,TU b hp⟩)
 have d1:RD (λb _=>GN b) W2 (.slice .view (dL T)) (a2.tmps.getD 1 undef):=by
  rw[pR 1 (by decide),t1];exact e1.mono (aE.of_eq λb j hp=>⟨hp,TU b hp⟩)
 have Iy:=R2.size
 obtain⟨SY,hSY⟩:∃SY:af,SY=λt=>if t=0 then .slice .view (dL now)else if t=1 then .slice .view (dL T)else if t=17 then .val (.func (.yield l) #[] #[])else .bj:=⟨_,rfl⟩
 have RY:Rel prog W2 64 bp _ SY (λ_=>none) a2 W2:=Rel.Ce (λb _=>GN b) Iy tm λt ht=>by
  rw[hSY];simp only
  by_cases q0:t=0
  .subst q0;rw[if_pos rfl];exact⟨rfl,.data _ _ d0⟩
  rw[if_neg q0]
  by_cases q1:t=1
  .subst q1;rw[if_pos rfl];exact⟨rfl,.data _ _ d1⟩
  rw[if_neg q1]
  by_cases YJ:t=17
  .subst YJ;rw[if_pos rfl];refine⟨rfl,.data _ _ ?_⟩;rw[show a2.tmps.getD 17 undef=_ from Hf];exact .val _ rfl
  rw[if_neg YJ];exact⟨rfl,.bj _⟩
 show wpOpsIn (FR none) _ _ _ _ ([1,2,3,4]++[5,6]) a2 W2;refine JK eK trivial (by kernel_rfl) (os:=[_,_,_,_]) rfl (al:=((c155s.qb.qa.qb.qa.qa.dl).drop 1).take 4) (by kernel_rfl) (by kernel_rfl) RY (λ_ h=>h) (λS _=>S 17=.val (.func (.yield l) #[] #[])/\S 21=gM (now,T.length)) ?_ ?_
 .have hl:=fk T;rw[hSY];simp[c155s,ae.qa,ae.qb,ae.dl,hl,gM,dH]
 rintro g5 S5 H5 a5 W5 Kx R5 ⟨lY,Ld⟩
 have hb5:Below W2.heap.size W2 W5:=by have:=R5.below;rwa [R5.base]at this
 have Hf:a5.eval (.tmp 17)=.func (.yield l) #[] #[]:=by
  have:=R5.slot 17 (by decide) id;rw[lY]at this;exact this.jf
 have d21:RD g5.Pr W5 (gM (now,T.length)) (a5.eval (.tmp 21)):=by
  have:=R5.slot 21 (by decide) id;rw[Ld]at this;exact this.bQ rfl
 have Ew:Below W'.heap.size W' W5:=iw.trans (hb5.mono iw.size);have s5:=s1.grow Ew
 obtain⟨M5,Sy⟩:∃M5:Nat->Prop,(λb=>M1 b\/(W'.heap.size<=b/\b<W5.heap.size))=M5:=⟨_,rfl⟩
 rw[Sy]at s5
 let G:Nat->Prop:=λb=>GN b\/(W2.heap.size<=b/\b<W5.heap.size)
 have FW:∀b,G b->M5 b:=λb hb=>by
  rcases hb with hb|hb
  .exact(s5.mi b (.inr hb)).1
  .rw[<-Sy];exact .inr ⟨by have:=iw.size;omega,hb.2⟩
 have Ak:k<xs.length:=by
  have:=congrArg List.length hx;simp at this;omega
 have sQ:xs[k]=gM (now,T.length):=by
  have:=congrArg (·[0]?) hx;simp at this;rw[List.getElem?_eq_getElem Ak]at this;exact Option.some.inj this
 have dc:RD (λb j=>L_ b j\/(G b/\j<uK W5 b)) W5 xs[k] (a5.eval (.tmp 21)):=by
  rw[sQ];refine(Kn (G:=G) (d21.mono (aE.same λb j ao hp=>?_))).mono (aE.same λb j _ hp=>.inr hp);rcases hp with hp|hp
  .rw[Kx]at hp;exact .inl hp.2
  .rw[R5.base]at hp;exact .inr ⟨hp.1,ao⟩
 obtain⟨ff,tmps,Zq,bd,Ea,qE⟩:=C.round Ak G (uK W5) _ s5.j FW dc;refine rV rfl rfl (by rfl) ((mL (f:=.tmp 17) (x:=.tmp 21) W5 rfl rfl rfl Hf).trans Ea) qE ?_;rintro e W6 ⟨Lz,QD,zP,kS⟩;have hz5:=R5.size
 have BC:a5.defers=[]:=by rw[R5.defers,Kx]<;>rfl
 have Tj:=h.sm.1
 have MY:∀b,MI b->b<W.heap.size:=λb hb=>st.lt b (st.mi b hb).1
 have VP:∀b,b<W.heap.size->¬GN b->¬G b:=λb hb hn hg=>by
  rcases hg with hg|hg
  .exact hn hg
  .have:=iw.size;omega
 obtain⟨b,rfl,hb⟩:∃b:Bool,e=.returned (.bool b)/\((b=true/\C.J (k+1) (λb=>M5 b/\¬G b) QD W6)\/(b=false/\C.X (λb=>M5 b/\¬G b) QD W6)):=by
  rcases kS with⟨rfl,hj⟩|⟨rfl,hX⟩
  .exact⟨true,rfl,.inl ⟨rfl,hj⟩⟩
  .exact⟨false,rfl,.inr ⟨rfl,hX⟩⟩
 refine⟨_,rfl,?_⟩
 .show wpOpsIn _ _ _ _ _ [6] (a5.put (some 22) (.bool b)) W6;have MT:(a5.put (some 22) (.bool b)).eval (.tmp 22)=.bool b:=eT _ _ _ (by omega);refine aT rfl rfl (by rfl) (v:=.bool b) (w':=W6) ((run_assign (x:=.tmp 22) W6 rfl).trans (by rw[MT])) ?_;show Q .normal ((a5.put (some 22) (.bool b)).put (some 8) (.bool b)) W6;refine hk b _ W6 (λb=>M5 b/\¬G b) QD BC (eT _ _ _ (by rw[jN];omega)) ?_
  rcases hb with⟨rfl,hj⟩|⟨rfl,hX⟩
  .refine .inl ⟨rfl,?_,?_⟩
   .have NL:∀b,MI b->M5 b/\¬G b:=λb hb=>⟨(s5.mi b (.inl hb)).1,VP b (MY b hb) λhg=>(Ey b hg).2.2 hb⟩
    have HN:M5 X.bM/\¬G X.bM:=⟨s5.mp,VP _ (st.lt _ st.mp) λhg=>(Ey _ hg).2.1 rfl⟩
    have nP:aE (λb j=>X.oV b\/L_ b j) (λb j=>X.oV b\/QD b j) W5 W6:=RZ (λb hb=>by
     obtain⟨q1,q2⟩:=NL b (st.F6 b hb)
     exact Lz b q1 q2) zP
    obtain⟨y,es,gJ,q1,q2⟩:=s5.map;refine⟨hj,λb hb=>?_,λb hb=>⟨NL b hb,(st.mi b hb).2⟩,st.F6,HN,⟨y,es,gJ,(Lz _ HN.1 HN.2).trans q1,q2⟩,s5.rJ.mono nP,s5.rY.mono nP,s5.rK.mono nP,s5.rP.mono nP⟩;have h1:=Lz b hb.1 hb.2;rw[Array.getElem?_eq_getElem (s5.lt b hb.1)]at h1;exact(Array.getElem?_eq_some_iff.1 h1).1
   .intro b hb
    have NL:M5 b/\¬G b:=⟨(s5.mi b (.inl hb)).1,VP b (MY b hb) λhg=>(Ey b hg).2.2 hb⟩
    rw[Lz b NL.1 NL.2,Ew.block b (by have:=MY b hb;omega)];exact h.sm.2 b (.inl hb)
  .exact .inr ⟨rfl,hX⟩
end Go.Proofs.Tryz
namespace Go.Proofs.Tryz
open Go Go.AL Go.RowKit Go.Proofs Go.Proofs.Tram
variable{GI:World->Prop}
def Dg{s:aD}(hs:ba s=true):∀i j (hi:i<s.dh.length)(hj:j<s.dh.length),i<j->¬(s.dh[i].l=s.dh[j].l/\s.dh[i].r=s.dh[j].r):=by
 unfold ba at hs;simp only[Bool.and_eq_true]at hs;have h:=hs.1.2;rw[jM]at h
 have hp:mT (s.dh.map λp=>(p.l,p.r)):=ss λj hj=>by
  rw[List.getElem_map,List.getElem_map];exact h.2 j (by simpa using hj)
 intro i j hi hj pt he;have:=List.pairwise_iff_getElem.1 hp i j (by simpa using hi) (by simpa using hj) pt;rw[List.getElem_map,List.getElem_map,he.1,he.2,jH]at this;cases this
def Ei(hG:av GI)(s:aD)(hs:ba s=true):AC prog GI 48 [ee s] (.ret (fX s)):=by
 have hF:=hO hs;exact ZX hG (sA:=aA s) (ps:=s.dh) rfl rfl (by simp[aA,vI,int,AV.storable,isVal]) (by have:=hF.Tn;omega) (Dg hs)
def Eh(s:aD)(out:List Int)(es:List End)(st:Int):(bK s out es st).length=es.length:=by unfold bK;simp
section
variable{w0:World}{n:Nat}{g:Gh}{S:af}{H:ah}{a:Act}{w:World}{d i2 i6:Nat}{s:vA}{z:List AV}
end
end Go.Proofs.Tryz
namespace Go.Proofs.Tryz
open Go Go.AL Go.RowKit Go.Proofs Go.Proofs.Tram
attribute [local simp] dS eF dR cW dT cV cZ ck cg dQ cd bP fB fC an aq ev aB.S aB.H aY au aH AL.start AV.cells AV.storable AV.bb aQ aZ aP HR.okB post cU cL cI AV.out AV.bu br bU fz fG AV.vw bR vI int bI az ct cb gB il dM cD aR AV.aw AV.bV dO
variable{GI:World->Prop}
def lb(s:aD)(out:List Int)(es:List End)(st:Int):Int:=jC (λn=>decide (s.wide<n)) (bK s out es st)
def Lc{s:aD}{out:List Int}{es:List End}{st:Int}:((bK s out es st).all λn=>decide (n<=s.wide))=decide (lb s out es st<0):=by
 have h:=lJ (p:=λn=>decide (s.wide<n)) (l:=bK s out es st)
 have e:((bK s out es st).all λn=>decide (n<=s.wide))=!((bK s out es st).any λn=>decide (s.wide<n)):=by
  rw[Bool.eq_iff_iff];simp
 rw[e,<-h];unfold lb
 by_cases hz:0<=jC (λn=>decide (s.wide<n)) (bK s out es st)
 .have:¬jC (λn=>decide (s.wide<n)) (bK s out es st)<0:=by omega
  simp[hz,this]
 .have:jC (λn=>decide (s.wide<n)) (bK s out es st)<0:=by omega
  simp[hz,this]
def yz(s:aD)(out:List Int)(es:List End)(st:Int):jn:=if lb s out es st<0 then .ret (.fZ [])else .panic (.iface 257 (.agg [.int .i64 (lb s out es st)]))
def Ub(hG:av GI)(s:aD)(dF:ba s=true)(out:List Int)(ho:out.length<1000000)(es:List End)(he:es.length<100000)(g:Good s out es){st:Int}(h0:0<=st)(h1:st<=10):AC prog GI 170 [.ref (aK s),.ref [vI out,.slice .view (es.map cz)],.ref [.int .i64 st]] (yz s out es st):=by
 have Ua:=Eh s out es st;refine dZ hG func170 ntmps170 c170 ?_;refine bw (λS H=>S 0=.ref (aK s)/\S 2=.ref [.int .i64 st]/\S 7=.slice .view (fL s out es es.length)/\S 8=.int .i64 es.length/\S 9=.int .i64 0) ?_ ?_
 .simp[aK,aA,bB];refine oc (TA hG s dF out ho es he g) ?_;simp[xL]
 rintro S H ⟨s0,s2,s7,s8,s9⟩;simp[s0,s2,s7,s8,s9];refine dE 9 es.length (λi S H=>S 0=.ref (aK s)/\S 2=.ref [.int .i64 st]/\S 7=.slice .view (fL s out es es.length)/\S 8=.int .i64 es.length/\S 9=.int .i64 (i:Nat)/\∀j (hj:j<(bK s out es st).length),j<i->decide (s.wide<(bK s out es st)[j])=false) (λi S H h=>h.2.2.2.2.1) ⟨by simp[s0],by simp[s2],by simp[s7],by simp[s8],by simp[s9],λj _ hj=>absurd hj (Nat.not_lt_zero _)⟩ ?_;clear s0 s2 s7 s8 s9 S H;rintro i hi S H ⟨s0,s2,s7,s8,s9,hb⟩
 by_cases ao:i<es.length
 case neg=>
  have hn:lb s out es st<0:=by
   unfold lb;rw[ku λj hj=>hb j hj (by omega)];decide
  unfold yz;rw[if_pos hn];simp[s0,s2,s7,s8,s9,ao]
 have hw:IntKind.i64.wrap ((i:Int)+1)=i+1:=bl (by omega)
 have Sk:(fL s out es es.length)[i]?=some (.agg [.slice .view ((iB s out es i).map gA),.bool (iH s es i)]):=by
  unfold fL;rw[List.getElem?_map,List.getElem?_range ao];rfl
 have nF:(bK s out es st)[i]'(by omega)=jD s out es st i:=by unfold bK;simp
 refine bw (λS H=>S 0=.ref (aK s)/\S 2=.ref [.int .i64 st]/\S 7=.slice .view (fL s out es es.length)/\S 8=.int .i64 es.length/\S 9=.int .i64 (i:Nat)/\S 10=.bool true) (by simp[s0,s2,s7,s8,s9,ao]) ?_;clear s0 s2 s7 s8 s9 S H;rintro S H ⟨s0,s2,s7,s8,s9,bW⟩;refine Jw (by simp[bW]) ?_;refine JT ?_;refine bw (λS H=>S 0=.ref (aK s)/\S 2=.ref [.int .i64 st]/\S 7=.slice .view (fL s out es es.length)/\S 8=.int .i64 es.length/\S 9=.int .i64 (i:Nat)/\S 3=.int .i64 (i:Nat)/\S 4=.box 4 0/\H 4=some [.slice .view ((iB s out es i).map gA),.bool (iH s es i)]) (by simp[s0,s2,s7,s8,s9,ao,Sk]) ?_;clear s0 s2 s7 s8 s9 bW S H;rintro S H ⟨s0,s2,s7,s8,s9,s3,s4,e4⟩;have a84:=TO hG s dF (yG g ao) (vN dF g i) (λx hx=>BS g hx) (iH s es i) h0 h1
 have Sv:s.wide<jD s out es st i->lb s out es st=i:=λh=>by
  unfold lb;exact mE (i:=i) (by omega) (by rw[nF];simpa using h) hb
 simp[s0,s2,s7,s8,s9,s3,s4,e4,aK,aA,bB];refine oc a84 ?_
 by_cases oN:s.wide<jD s out es st i
 .have CE:s.wide<gR s st ((iB s out es i).map (bH s)) (iH s es i):=oN;have hf:=Sv oN;unfold yz;rw[if_neg (by omega),hf];simp[s0,s2,s7,s8,s9,s3,s4,e4,aK,aA,bB,CE,HU,dH]
 .have CE:¬s.wide<gR s st ((iB s out es i).map (bH s)) (iH s es i):=oN;simp[s0,s2,s7,s8,s9,s3,s4,e4,aK,aA,bB,CE,hw,ao];intro j hj eL
  by_cases e:j=i
  .subst e;rw[nF];omega
  .have:=hb j hj (by omega);simpa using this
def OT(hG:av GI)(s:aD)(dF:ba s=true)(out:List Int)(ho:out.length<1000000)(es:List End)(he:es.length<100000)(g:Good s out es){st:Int}(h0:0<=st)(h1:st<=10):AC prog GI 138 [fX s,aM out es,.int .i64 st] (.ret (.bool (fj s out es st))):=by
 have a:=Ub hG s dF out ho es he g h0 h1
 have e:fj s out es st=(decide ((es.length:Int)<=s.rows)&&decide (lb s out es st<0)):=by unfold fj;rw[Lc]
 rw[e];refine dZ hG func138 ntmps138 c138 ?_;refine bw (λS H=>S 3=.box 3 0/\S 4=.box 4 0/\S 5=.box 5 0/\H 3=some (aK s)/\H 4=some [vI out,.slice .view (es.map cz)]/\H 5=some [.int .i64 st]) (by simp[fX,aK,aA,bB,aM,bz]) ?_;rintro S H ⟨s3,s4,s5,e3,e4,e5⟩
 by_cases hr:(es.length:Int)<=s.rows
 case neg=>simp[s3,s4,s5,e3,e4,e5,aK,aA,bB,hr]
 unfold yz at a
 by_cases hw:lb s out es st<0
 .rw[if_pos hw]at a;have b:=Pa hG (k:=170) (by kernel_rfl) a (.inl ⟨_,rfl,rfl⟩);simp[s3,s4,s5,e3,e4,e5,aK,aA,bB,hr];refine⟨_,by kernel_rfl,b,λ_=>rfl,?_⟩;simp[hw]
 .rw[if_neg hw]at a;have b:=Pa hG (k:=170) (by kernel_rfl) a (.inr (.inl ⟨_,rfl,rfl⟩));simp[s3,s4,s5,e3,e4,e5,aK,aA,bB,hr];refine⟨_,by kernel_rfl,b,λ_=>rfl,?_⟩;simp[hw]
def xi{p:Int->Bool}:∀{n i:Nat},i<=n->(∀k:Nat,i<=k->k<n->p k=false)->wE p n=wE p i
 |0,i,h,_=>by rw[show i=0 by omega]
 |n+1,i,h,hp=>by
  by_cases e:i=n+1
  .rw[e]
  .rw[wE,hp n (by omega) (by omega)]
   exact xi (by omega) λk h1 h2=>hp k h1 (by omega)
def MR(hG:av GI)(s:aD)(dF:ba s=true)(out:List Int)(ho:out.length<1000000)(es:List End)(he:es.length<100000)(g:Good s out es):AC prog GI 99 [fX s,aM out es] (.ret (.int .i64 (vH s out es))):=by
 refine dZ hG func99 ntmps99 c99 ?_;refine bw (λS H=>S 2=.box 2 0/\S 3=.box 3 0/\H 2=some (aK s)/\H 3=some [vI out,.slice .view (es.map cz)]) (by simp[fX,aK,aA,bB,aM,bz]) ?_;rintro S H ⟨s2,s3,e2,e3⟩;simp[s2,s3,e2,e3];refine I8 5 11 (λi S H=>i<=11/\S 2=.box 2 0/\S 3=.box 3 0/\H 2=some (aK s)/\H 3=some [vI out,.slice .view (es.map cz)]/\S 5=.int .i64 ((i:Nat)-1)/\∀k:Nat,i<=k->k<11->fj s out es k=false) (λi S H h=>h.2.2.2.2.2.1) ⟨by omega,by simp[s2],by simp[s3],by simp[e2],by simp[e3],by simp,λk h1 h2=>by omega⟩ ?_;clear s2 s3 e2 e3 S H;rintro i hi S H ⟨_,s2,s3,e2,e3,s5,hb⟩;have hm:=xi (p:=fj s out es) hi hb
 cases i with
 |zero=>
  have hm:vH s out es= -1:=hm;simp[s2,s3,e2,e3,s5,hm]
 |succ m=>
  have hm:vH s out es=if fj s out es m then(m:Int)else wE (fj s out es) m:=hm
  have kH:S 5=.int .i64 (m:Nat):=by rw[s5];congr 1;omega
  have PT:IntKind.i64.wrap ((m:Int)-1)=m-1:=bl (by omega);simp[s2,s3,e2,e3,kH,aK,aA,bB];refine oc (OT hG s dF out ho es he g (by omega) (by omega)) ?_;cases hf:fj s out es m
  .simp[s2,s3,e2,e3,kH,aK,aA,bB,PT];refine⟨by omega,λk h1 h2=>?_⟩
   by_cases e:k=m
   .subst e;exact hf
   .exact hb k (by omega) h2
  .rw[hf]at hm;simp at hm;simp[s2,s3,e2,e3,kH,aK,aA,bB,hm]
end Go.Proofs.Tryz
namespace Go.AL
open Go.RowKit
section
variable{P:Program}{ro:Option Nat}{m:Nat}{a:Act}{w:World}{Q:Exit->Act->World->Prop}{b:Frame}{k:List Item}{cs:List Frame}
def Bc{c:Code}:step P (lone (b.atR a (.code (.scope c)::k)) cs w)=.next (lone (b.atR a (.code c::.inScope c::k)) cs w):=
 step_lone_go (by simp[stepG,stepG.exec,Frame.atR])
def Jj{c:Code}{K:Act->World->Prop}(h:c.wpIn (FR ro) m P (λe a w=>e=.ret/\K a w) a w)(hk:∀a w,K a w->Q .ret a w):(Code.scope c).wpIn (FR ro) m P Q a w:=by
 intro b k cs ov hF hr;obtain⟨e,iu,jT,⟨rfl,hK⟩,gC⟩:=h b (.inScope c::k) cs ov hF hr
 have s1:StepsIn (Machine.fenced P (FR ro)) P (lone (b.atR a (.code (.scope c)::k)) cs w) (lone (b.atR a (.code c::.inScope c::k)) cs w):=
  .one (fenced_calm (F:=FR ro) (fr:=b.atR a (.code (.scope c)::k)) trivial hr rfl) Bc
 exact⟨.ret,iu,jT,hk _ _ hK,.of_steps s1 gC⟩
end
end Go.AL
namespace Go.Proofs.Tryz
open Go Go.AL Go.RowKit Go.Proofs Go.Proofs.Tram
attribute [local simp] dS eF dR cW dT cV cZ ck cg dQ cd bP fB fC an aq ev aB.S aB.H aY au aH AL.start AV.cells AV.storable AV.bb aQ aZ aP HR.okB post cU cL cI AV.out AV.bu br bU fz fG AV.vw bR vI int bI az ct cb gB il dM cD aR AV.aw AV.bV nz
variable{GI:World->Prop}{l:Nat}{xs:List AV}
variable{C:Cons prog GI l xs}{X:Env}{ws:List Int}{w:Int}{k:Nat}{MI MF:Nat->Prop}{W W0 W':World}{now T:List Nat}{a a':Act}{ex mj:List (Nat×AV)}
def My (hG:av GI) (hL:ft ws w) {r:Nat} (ih:I3 C X ws w r) (hlen:now.length+(r+1)=ws.length) (hT:T.length≤now.length) (F3:∀ x∈T,x < 2 ^ now.length) (h0:∀ b,X.oV b→MI b) (h:PS C X ws w MI W0 now T MI (tJ T 0) k a W) {tl:List AV} (hx:xs.drop k=(eU ws w (r+1) now T).map gM++tl) {Q:Exit→Act→World→Prop} {m:Nat}
  (hn:∀a' W',PS C X ws w MI W' now T MI [] (k+(eU ws w (r+1) now T).length) a' W'->(∀b,MI b->W'.heap[b]?=W.heap[b]?)->Q .normal a' W')
  (hr:∀a' W',a'.defers=[]->a'.tmps.getD 8 undef=.bool false->(∃M Pr,C.X M Pr W')->Q .ret a' W'):(Code.block 0 (.loop Iq)).wpIn (FR none) m prog Q a W:=by
 have E_:=hL.1.2
 have Er:∀i,i<=T.length->List.range' i (T.length+1-i)=i::List.range' (i+1) (T.length+1-(i+1)):=λi hi=>by
  obtain⟨d,hd⟩:∃d,T.length+1-i=d+1:=⟨T.length-i,by omega⟩
  rw[hd,List.range'_succ]
  congr 2
  omega
 refine wpIn_block (wpIn_loop (λa' W'=>∃i kk,i<=T.length+1/\PS C X ws w MI W' now T MI (tJ T i) kk a' W'/\(∀b,MI b->W'.heap[b]?=W.heap[b]?)/\xs.drop kk=((List.range' i (T.length+1-i)).flatMap (qB ws w r now T)).map gM++tl/\kk+((List.range' i (T.length+1-i)).flatMap (qB ws w r now T)).length=k+(eU ws w (r+1) now T).length) (λa _=>match a.tmps.getD 26 undef with|.int _ i=>T.length+1-i.toNat|_=>0) ⟨0,k,by omega,h.again,λ_ _=>rfl,hx,rfl⟩ ?_);clear h hx;rintro a W1 ⟨i,kk,hi,h,j1,hx,nP⟩;have zi:a.tmps.getD 26 undef=.int .i64 (i:Nat):=h.int (by simp[tJ]);show(Code.seq _ (.seq (.cond _ .skip (.exit 0)) (.seq (.block 1 Cx) _))).wpIn (FR none) m prog _ a W1;refine wpIn_seq ?_;refine h.region hG (ac:=ae.qa mP) (by kernel_rfl) (by kernel_rfl) (by kernel_rfl) [(27,.bool (decide (i<T.length+1))),(25,.int .i64 ((T.length+1:Nat):Int)),(26,.int .i64 (i:Nat))] rfl ?_ ?_
 .have:decide ((i:Int)<(T.length:Int)+1)=decide (i<T.length+1):=by congr 1;apply propext;omega
  simp[c155s,jE,mP,ae.qa,ae.qb,pS,tJ,List.lookup,this]
  try omega
 intro a2 W2 h2;show Code.wpIn _ _ _ _ _ a2 W2;refine wpIn_seq (wpIn_cond (t:=decide (i<T.length+1)) (h2.bool (by simp)) ?_)
 by_cases ao:i<T.length+1
 case neg=>
  rw[decide_eq_false ao];simp only[Bool.false_eq_true,if_false];refine wpIn_exit ?_
  have uC:T.length+1-i=0:=by omega
  rw[uC]at nP
  have nP:kk=k+(eU ws w (r+1) now T).length:=by simpa using nP
  subst nP
  exact hn _ _ (h2.PA (λp hp=>by cases hp)).again λb hb=>(h2.sm.2 b hb).trans (j1 b hb)
 rw[decide_eq_true ao];simp only[if_true];refine wpIn_skip ?_;show Code.wpIn _ _ _ _ _ a2 W2
 have ec:i<=T.length:=by omega
 rw[Er i ec,List.flatMap_cons,List.map_append,List.append_assoc]at hx;rw[Er i ec,List.flatMap_cons,List.length_append]at nP;obtain⟨M2,Yd,s2,_⟩:=h2.st;refine wpIn_seq (wpIn_block (wpIn_mono (Q:=λe a' W'=>((e=.normal\/e=.exit 1)/\PS C X ws w MI W' now T MI (tJ T i) (kk+(qB ws w r now T i).length) a' W'/\∀b,MI b->W'.heap[b]?=W2.heap[b]?)\/(e=.ret/\a'.defers=[]/\a'.tmps.getD 8 undef=.bool false/\∃M Pr,C.X M Pr W')) ?_ ?_))
 .refine QV hG (by omega) hT F3 ec ⟨rfl,rfl⟩ h2.again λa3 W3 h3 uO=>?_
  exact Qi hG hL ih hlen hT F3 ec h0 (λb hb=>s2.lt b (s2.mi b hb).1) (s2.lt _ s2.mp) h3 uO hx (λe a' W' he h' Uy=>.inl ⟨he,h',Uy⟩) λa' W' q1 q2 q3=>.inr ⟨rfl,q1,q2,q3⟩
 .have yj:xs.drop (kk+(qB ws w r now T i).length)=((List.range' (i+1) (T.length+1 - (i+1))).flatMap (qB ws w r now T)).map gM++tl:=by
   rw[<-List.drop_drop,hx,show(qB ws w r now T i).length=((qB ws w r now T i).map gM).length by simp,List.drop_left]
  rintro e a3 W3 (⟨rfl|rfl,h3,nV⟩|⟨rfl,q1,q2,q3⟩)
  all_goals try
   show Code.wpIn _ _ _ _ _ a3 W3;refine h3.region hG (ac:=ae.qb mP.qb.qb) (by kernel_rfl) (by kernel_rfl) (by kernel_rfl) (tJ T (i+1)) rfl ?_ ?_
   .have hw:IntKind.i64.wrap ((i:Int)+1)=(i:Int)+1:=bl (by omega);simp[c155s,jE,mP,ae.qa,ae.qb,pS,tJ,List.lookup,hw]
   .intro a4 W4 h4;have Y6:a4.tmps.getD 26 undef=.int .i64 ((i+1:Nat):Int):=h4.int (by simp[tJ]);refine⟨⟨i+1,_,by omega,h4.again,λb hb=>?_,yj,by omega⟩,?_⟩
    .exact(h4.sm.2 b hb).trans ((nV b hb).trans ((h2.sm.2 b hb).trans (j1 b hb)))
    .rw[Y6,zi];simp;omega
  .exact hr _ _ q1 q2 q3
def QF(hG:av GI)(hL:ft ws w):∀r,I3 C X ws w r:=by
 intro r
 induction r with
 |zero=>?_
 |succ r ih=>?_
 all_goals
  intro now T hlen hT F3 k M Pr MI GN W c0 c1 tl st Ey e0 e1 hx;have E_:=hL.1.2;refine(eA (ro:=none) (m:=0)).1 (callsIn_of_wp func155 rfl trivial ?_)
  have h:PS C X ws w (λb=>MI b\/GN b) W now T (λb=>MI b\/GN b) [] k { tmps:=#[c0,c1,X.cJ,X.cY,X.cK,X.cP]++Array.replicate (f155.ntmps-6) undef,defers:=[] } W:=by
   refine⟨⟨M,Pr,st.more (λb hb=>?_) (λb hb=>.inl (st.F6 b hb)),λb h1 h2=>absurd h1 (by omega)⟩,λ_ h=>h,⟨Nat.le_refl _,λ_ _=>rfl⟩,by simp[ntmps155],rfl,dP _ _ 2 (by simp),dP _ _ 3 (by simp),dP _ _ 4 (by simp),dP _ _ 5 (by simp),?_,?_,λp hp=>by cases hp⟩
   .rcases hb with hb|hb
    .exact st.mi b hb
    .exact⟨(Ey b hb).1,(Ey b hb).2.1⟩
   .rw[dP _ _ 0 (by simp)];exact e0.mono (aE.same λb _ _ hp=>.inr hp)
   .rw[dP _ _ 1 (by simp)];exact e1.mono (aE.same λb _ _ hp=>.inr hp)
  have t0:({ tmps:=#[c0,c1,X.cJ,X.cY,X.cK,X.cP]++Array.replicate (f155.ntmps-6) undef,defers:=[] }:Act).tmps.getD 0 undef=c0:=dP _ _ 0 (by simp);have t1:({ tmps:=#[c0,c1,X.cJ,X.cY,X.cK,X.cP]++Array.replicate (f155.ntmps-6) undef,defers:=[] }:Act).tmps.getD 1 undef=c1:=dP _ _ 1 (by simp);generalize({ tmps:=#[c0,c1,X.cJ,X.cY,X.cK,X.cP]++Array.replicate (f155.ntmps-6) undef,defers:=[] }:Act)=a at h t0 t1;generalize UZ:(λe W'=>∃M' cS,(e=Ending.returned (Value.bool true)/\nc C X ws w (k+(eU ws w _ now T).length) M' cS MI W'/\∀b,MI b->W'.heap[b]?=W.heap[b]?)\/(e=Ending.returned (Value.bool false)/\C.X M' cS W'))=RR
  have Ml:∀(b:Bool)(a':Act)(W':World),a'.defers=[]->a'.tmps.getD 8 undef=.bool b->RR (.returned (.bool b)) W'->bodyPost prog f155 RR .ret a' W':=λb a' W' q1 q2 q3=>⟨q1,.bool b,results_tmp results155 q2,q3⟩
  show(Code.seq (.region 0 _ false) (.scope (.seq (.seq (.region 1 _ false) (.cond _ (.seq _ .ret) .skip)) (.seq (.label 0) (.seq (.seq (.region 3 _ false) (.block 0 (.loop Iq))) (.seq (.region 14 _ false) .ret)))))).wpIn _ _ _ _ a W;refine wpIn_seq ?_;refine cQ hG bL (ac:=ae.qa c155s) (W:=W6) (by kernel_rfl) (by kernel_rfl) (by kernel_rfl) (C.gi st.j) (λ_ _=>True) (λ_=>.bj) h.size h.defers (λt _=>⟨rfl,.bj _⟩) (K:=λ_ _=>True) (by simp[c155s,ae.qa]) ?_;rintro g1 S1 H1 a1 W1 xT R1-tW
  have mR:Below W.heap.size W W1:=by have:=R1.below;rwa [R1.base]at this
  have h1:=h.v7 (dG.gP mR) (by obtain⟨y,hy⟩:=st.map;exact⟨y,hy.below mR⟩) tW R1.size (by rw[R1.defers,xT]<;>rfl) (by decide) rfl;have t0:a1.tmps.getD 0 undef=c0:=(tW 0 (by decide)).trans t0;have t1:a1.tmps.getD 1 undef=c1:=(tW 1 (by decide)).trans t1;clear R1 xT tW h;show Code.wpIn _ _ _ _ _ a1 W1
  refine Jj (K:=λa' W'=>bodyPost prog f155 RR .ret a' W') ?_ λ_ _ h=>h
  refine wpIn_seq (wpIn_seq ?_);obtain⟨M1,L_,s1,_⟩:=h1.st;have xP:=po ws;have CQ:=fk now;refine cQ hG bL (ac:=ae.qa c155s.qb.qa) (W:=W6) (by kernel_rfl) (by kernel_rfl) (by kernel_rfl) (C.gi s1.j) (λb j=>(MI b\/GN b)\/L_ b j) (pS l X ws w now T []) h1.size h1.defers (h1.gu s1) (K:=λS _=>S 16=.bool (decide (now.length=ws.length))) ?_ ?_
  .have:((now.length:Int)==(ws.length:Int))=decide (now.length=ws.length):=by rw[Bool.eq_iff_iff,beq_iff_eq,decide_eq_true_iff];omega
   simp[c155s,ae.qa,ae.qb,pS,List.lookup,bJ,xP,CQ,this]
   try omega
  rintro g2 S2 H2 a2 W2 lE R2 iM pR
  have iw:Below W1.heap.size W1 W2:=by have:=R2.below;rwa [R2.base]at this
  have h2:=h1.v7 (dG.gP iw) (by obtain⟨y,hy⟩:=s1.map;exact⟨y,hy.below iw⟩) pR R2.size (by rw[R2.defers,lE]<;>rfl) (by decide) rfl;have t0:a2.tmps.getD 0 undef=c0:=(pR 0 (by decide)).trans t0;have t1:a2.tmps.getD 1 undef=c1:=(pR 1 (by decide)).trans t1
  have Nc:a2.tmps.getD 16 undef=.bool (decide (now.length=ws.length)):=by
   have:=R2.slot 16 (by decide) id;rw[iM]at this;exact this.fc
  clear R2 lE pR iM s1 h1;show Code.wpIn _ _ _ _ _ a2 W2;refine wpIn_cond (t:=decide (now.length=ws.length)) Nc ?_
 .have hle:now.length=ws.length:=by omega
  rw[decide_eq_true hle];simp only[if_true];refine wpIn_seq ?_;have lP:xs.drop k=gM (now,T.length)::tl:=hx
  refine LA hG hle st Ey (by omega) h2 e0 e1 t0 t1 lP λb a' W' M' cS q1 q2 q3=>?_
  show Code.wpIn _ _ _ _ _ a' W';refine wpIn_ret ⟨rfl,Ml b _ _ q1 q2 ?_⟩;rw[<-UZ]
  rcases q3 with⟨rfl,p1,p2⟩|⟨rfl,p1⟩
  .exact⟨M',cS,.inl ⟨rfl,p1,p2⟩⟩
  .exact⟨M',cS,.inr ⟨rfl,p1⟩⟩
 .have hle:¬now.length=ws.length:=by omega
  rw[decide_eq_false hle];simp only[Bool.false_eq_true,if_false];refine wpIn_skip ?_;show Code.wpIn _ _ _ _ _ a2 W2;refine wpIn_seq (wpIn_label ?_);show Code.wpIn _ _ _ _ _ a2 W2;refine wpIn_seq (wpIn_seq ?_);have hTl:=fk T;refine h2.region hG (ac:=ae.qa jE.qa) (by kernel_rfl) (by kernel_rfl) (by kernel_rfl) (tJ T 0) rfl ?_ ?_
  .have hw:IntKind.i64.wrap ((T.length:Int)+1)=(T.length:Int)+1:=bl (by omega);simp[c155s,jE,ae.qa,ae.qb,pS,tJ,List.lookup,hTl,hw]
  intro a3 W3 h3;show Code.wpIn _ _ _ _ _ a3 W3
  refine My hG hL ih (by omega) hT F3 (λb hb=>.inl (st.F6 b hb)) h3 hx (λa4 W4 h4 wg=>?_) λa4 W4 q1 q2 ⟨M',cS,q3⟩=>⟨rfl,Ml false _ _ q1 q2 (by rw[<-UZ];exact⟨M',cS,.inr ⟨rfl,q3⟩⟩)⟩
  show Code.wpIn _ _ _ _ _ a4 W4;refine wpIn_seq ?_;refine h4.region hG (ac:=ae.qa jE.qb) (by kernel_rfl) (by kernel_rfl) (by kernel_rfl) [(8,.bool true)] rfl ?_ ?_
  .simp[c155s,jE,ae.qa,ae.qb]
  intro a5 W5 h5;obtain⟨M5,Pf,s5,_⟩:=h5.st;refine wpIn_ret ⟨rfl,Ml true _ _ h5.defers (h5.bool (by simp)) ?_⟩;rw[<-UZ];exact⟨M5,Pf,.inl ⟨rfl,s5.less (λb hb=>.inl hb) st.F6,λb hb=>(h5.sm.2 b (.inl hb)).trans ((wg b (.inl hb)).trans (h3.sm.2 b (.inl hb)))⟩⟩
end Go.Proofs.Tryz
namespace Go.Proofs.Tryz
open Go Go.AL Go.RowKit Go.Proofs Go.Proofs.Tram
attribute [local simp] dS eF dR cW dT cV cZ ck cg dQ cd bP fB fC an aq ev aB.S aB.H aY au aH AL.start AV.cells AV.storable AV.bb aQ aZ aP HR.okB post cU cL cI AV.out AV.bu br bU fz fG AV.vw bR vI int bI az ct cb gB il dM cD aR AV.aw AV.bV nz
variable{GI:World->Prop}
def L6{P:Program}{a:Act}{w:World}{o:Oper}{fn:Fn}{x y z u:Operand}(ho:o.op=.makeFunc fn #[] #[x,y,z,u]):(execOp a.eval o).run P w=.ok (.value (.func fn #[] #[a.eval x,a.eval y,a.eval z,a.eval u])) w:=by
 rw[pO ho];simp only[List.map_toArray,List.map_cons,List.map_nil]
def GU {w0:World} {n:Nat} {g:Gh} {S:af} {H:ah} {a:Act} {w:World} (R:Rel prog w0 n bp g S H a w) {t i:Nat} (ht:t < n) (hS:S t = .box i 0) {cs:List AV} (hH:H i=some cs) :
  ∃b arr ty,g.base<=b/\w.heap[b]?=some (.cells arr ty (0,0))/\RD (λx j=>g.Pr x j\/x=b) w (.ref cs) (a.tmps.getD t undef):=by
 obtain⟨b,al,e⟩:=sJ R ht hS;obtain⟨cs',vs,ty,k0,k1,k2,k3,k4,k5,k6,k7,k8⟩:=R.box i b al;rw[hH]at k0;cases k0;refine⟨b,vs,ty,k1,k2,?_⟩;rw[e];refine .ref cs b 0 (λk=>vs.getD k undef) (λi h=>k8 i h) (λk hk=>⟨.inr rfl,?_⟩) (λk hk=>?_)
 .have eG:k<vs.size:=by omega
  rw[Nat.zero_add];simp[World.cell?,k2,eG]
 .have eG:k<vs.size:=by omega
  have:=k6 k hk eG
  have e2:vs.getD k undef=vs[k]:=by simp[eG]
  simp only[e2];exact this.mono (aE.same λ_ _ _ h=>.inl h)
def WG(hG:av GI){ws:List Int}{w:Int}(hL:ft ws w):mN prog GI 154 [.ref (bJ ws w)] ((eU ws w ws.length [] []).map gM):=by
 intro l C W Pr a_ hJ hlen hr;obtain⟨cJ,rfl⟩:∃cJ,a_=#[cJ]:=j9 (by simpa using hlen.symm);have ZC:=hr 0 (by simp) (by simp);simp only[List.getElem_cons_zero,List.getElem_toArray]at ZC;have CK:GI W:=C.gi hJ;refine(eA (ro:=none) (m:=0)).1 (callsIn_of_wp func154 rfl trivial ?_)
 have R:Rel prog W 10 bp _ (AL.start [.val (.func (.yield l) #[] #[]),.ref (bJ ws w)]) (λ_=>none) { tmps:=(#[.func (.yield l) #[] #[]]++#[cJ])++Array.replicate (f154.ntmps-(#[Value.func (.yield l) #[] #[]]++#[cJ]).size) undef,defers:=[] } W:=Rel.begin (args:=[.val (.func (.yield l) #[] #[]),.ref (bJ ws w)]) (old:=Pr) ntmps154 (by simp) rfl (λi h h'=>by
  match i,h with
  |0,_=>exact .data _ _ (.val _ rfl)
  |1,_=>exact ZC)
 refine wpIn_seq ?_;refine eI R hG CK bL (ac:=ae.qa c154) (W:=λ_=>true) (by kernel_rfl) (by kernel_rfl) (iL _) (λ_ h=>h) (K:=λS H=>S 1=.ref (bJ ws w)/\S 2=.box 2 0/\H 2=some [.val (.func (.yield l) #[] #[])]) ?_ ?_
 .simp[c154,ae.qa]
 rintro g1 S1 H1 a1 W1 xT R1 ⟨s1,s2,h2⟩ -
 show Code.wpIn _ _ _ _ _ a1 W1;refine wpIn_seq (wpIn_region ?_);show wpOpsIn (FR none) _ _ _ _ ([0]++[1,2,3]) a1 W1;refine JK hG CK (by kernel_rfl) (os:=[_]) rfl (al:=(c154.qb.qa.dl).take 1) (by kernel_rfl) (by kernel_rfl) R1 (by rw[xT];exact λ_ h=>h) (λS H=>S 1=.ref (bJ ws w)/\S 2=.box 2 0/\H 2=some [.val (.func (.yield l) #[] #[])]/\S 5=jl ws w) ?_ ?_
 .simp[c154,ae.qa,ae.qb,ae.dl,s1,s2,h2,jl,bJ]
 clear s1 s2 h2;rintro g2 S2 H2 a2 W2 lE R2 ⟨s1,s2,h2,s5⟩;have r5:=R2.slot 5 (by decide) id;rw[s5]at r5
 refine gm rfl rfl (by rfl) (fJ (k:=44) (args:=#[a2.tmps.getD 5 undef,.slice none 0 0]) W2 rfl rfl ?_ (by kernel_rfl)) (GA hG hL W2 (kh g2 false) #[a2.tmps.getD 5 undef,.slice none 0 0] (hG W W2 CK (by have:=R2.below;rwa [R2.base]at this)) rfl (λi h h'=>by
  match i,h with
  |0,_=>exact(r5.bO rfl).mono (aE.same λb k _ hp=>.inl hp) λ_ _ h=>h
  |1,_=>exact .data _ _ (.fH _))) ?_
 .simp only[List.map_toArray,List.map_cons,List.map_nil,Act.eval]
 rintro e W3 he;obtain⟨bM,gJ,c,g3,rfl,R3,hK⟩:=Pk (cc:=Pr) R2 (by rw[lE,xT];exact⟨rfl,rfl,λ_ h=>h⟩) (t:=6) (by decide) (λ_ _ _ h=>by cases h) he;refine⟨_,rfl,?_⟩
 obtain⟨S3,Md⟩:∃S3:af,au S2 6 (.agg (bJ ws w++[.val (.map (some bM))]))=S3:=⟨_,rfl⟩
 rw[Md]at R3
 have t1:S3 1=.ref (bJ ws w):=by rw[<-Md];simp[au,s1]
 have t2:S3 2=.box 2 0:=by rw[<-Md];simp[au,s2]
 have t6:S3 6=dA ws w (dN bM):=by rw[<-Md];simp[au];rfl
 clear Md s1 s2 s5 r5;show wpOpsIn (FR none) _ _ _ _ ([2,3]++[]) (a2.put (some 6) c) W3;refine JK hG CK (by kernel_rfl) (os:=[_,_]) rfl (al:=(c154.qb.qa.dl).drop 2) (by kernel_rfl) (by kernel_rfl) R3 hK.bx (λS H=>S 1=.ref (bJ ws w)/\S 2=.box 2 0/\H 2=some [.val (.func (.yield l) #[] #[])]/\S 3=.box 3 0/\H 3=some (dY ws w (dN bM))) ?_ ?_
 .simp[c154,ae.qa,ae.qb,ae.dl,t1,t2,h2,t6,dH,dA,dY,bJ]
 clear t1 t2 h2 t6;rintro g4 S4 H4 a4 W4 KJ R4 ⟨s1,s2,h2,s3,h3⟩;rw[<-KJ]at hK;show Code.wpIn _ _ _ _ _ a4 W4;obtain⟨b2,ar2,YR,l2,o2,d2⟩:=GU R4 (t:=2) (by decide) s2 h2;obtain⟨b3,ar3,ty3,l3,o3,d3⟩:=GU R4 (t:=3) (by decide) s3 h3
 have d1:RD g4.Pr W4 (.ref (bJ ws w)) (a4.tmps.getD 1 undef):=by
  have:=R4.slot 1 (by decide) id;rw[s1]at this;exact this.bQ rfl
 obtain⟨m1,m2,m3,m4,m5⟩:=R4.kept bM _ hK.keep
 have uj:Below W.heap.size W W4:=by have:=R4.below;rwa [R4.base]at this
 have Ma:=R4.size
 have B7:a4.defers=[]:=by rw[R4.defers,hK.ds]
 have EI:∀x j,g4.Pr x j->x<W4.heap.size->(x<W.heap.size/\Pr x j)\/(W.heap.size<=x/\x≠bM):=λx j hp _=>by
  rcases hp with hp|hp
  .rw[R4.base,hK.c]at hp;exact .inl hp
  .rw[R4.base]at hp;refine .inr ⟨hp.1,?_⟩;rintro rfl;rw[m3]at hp;omega
 rw[R4.base]at m1 l2 l3
 have n2:b2≠bM:=by rintro rfl;rw[o2]at m2;cases m2
 have n3:b3≠bM:=by rintro rfl;rw[o3]at m2;cases m2
 obtain⟨b4,JF⟩:∃b4,W4.heap.size=b4:=⟨_,rfl⟩
 refine wpIn_seq (wpIn_region ?_);show wpOpsIn _ _ _ _ _ [0] a4 W4;refine aT rfl rfl (by rfl) (jz (t:=80) (z:=.nilFunc) rfl (by kernel_rfl)) ?_;show Code.wpIn _ _ _ _ _ (a4.put (some 4) (.pointer (some ⟨W4.heap.size,0,none⟩))) (W4.alloc (.cells #[.nilFunc] 80))
 obtain⟨a5,nM⟩:∃a5,a4.put (some 4) (.pointer (some ⟨W4.heap.size,0,none⟩))=a5:=⟨_,rfl⟩
 obtain⟨W5,IQ⟩:∃W5,W4.alloc (.cells #[.nilFunc] 80)=W5:=⟨_,rfl⟩
 have abd:W5.heap.size=b4+1:=by rw[<-IQ,<-JF];simp
 have T1:W5.heap[b4]?=some (.cells #[.nilFunc] 80 (0,0)):=by rw[<-IQ,<-JF];exact World.alloc_heap_new W4 _
 have ZY:∀b,b<b4->W5.heap[b]?=W4.heap[b]?:=λb hb=>by rw[<-IQ];exact Below.heap_alloc _ _ _ (by omega)
 rw[nM,IQ]
 have z5:a5.tmps.size=10:=by rw[<-nM,jN];exact Ma
 have u4:a5.tmps.getD 4 undef=.pointer (some ⟨b4,0,none⟩):=by rw[<-nM,eT _ _ _ (by omega),JF]
 have u:∀t,t<4->a5.tmps.getD t undef=a4.tmps.getD t undef:=λt ht=>by rw[<-nM];exact jO _ _ _ _ (by omega)
 refine wpIn_seq (wpIn_region ?_);show wpOpsIn _ _ _ _ _ [0,1] a5 W5;refine aT rfl rfl (by rfl) (L6 (fn:=.func 155) (x:=.tmp 1) (y:=.tmp 2) (z:=.tmp 3) (u:=.tmp 4) rfl) ?_
 obtain⟨fv,pW⟩:∃fv:Value,fv=.func (.func 155) #[] #[a4.tmps.getD 1 undef,a4.tmps.getD 2 undef,a4.tmps.getD 3 undef,.pointer (some ⟨b4,0,none⟩)]:=⟨_,rfl⟩
 have LF:(Value.func (.func 155) #[] #[a5.eval (.tmp 1),a5.eval (.tmp 2),a5.eval (.tmp 3),a5.eval (.tmp 4)])=fv:=by
  rw[pW];simp only[Act.eval];rw[u 1 (by omega),u 2 (by omega),u 3 (by omega),u4]
 rw[LF]
 obtain⟨a6,AD⟩:∃a6,a5.put (some 7) fv=a6:=⟨_,rfl⟩
 show wpOpsIn _ _ _ _ _ [1] (a5.put (some 7) fv) W5;rw[AD]
 have z6:a6.tmps.size=10:=by rw[<-AD,jN];exact z5
 have u7:a6.tmps.getD 7 undef=fv:=by rw[<-AD];exact eT _ _ _ (by omega)
 have Zi:a6.tmps.getD 4 undef=.pointer (some ⟨b4,0,none⟩):=by rw[<-AD,jO _ _ _ _ (by decide)];exact u4
 obtain⟨i80,aai,aa5⟩:=iZ 80 1;refine eC rfl rfl (by rfl) (iO (x:=.tmp 4) (y:=.tmp 7) rfl Zi aai aa5 T1 u7 (by rw[pW]<;>rfl)) ?_
 obtain⟨W6,IY⟩:∃W6,W5.setRow b4 #[fv]=W6:=⟨_,rfl⟩
 show Code.wpIn _ _ _ _ _ (a6.put none undef) (W5.setRow b4 #[fv]);rw[IY]
 have abw:W6.heap.size=b4+1:=by rw[<-IY];simpa using abd
 have Th:W6.heap[b4]?=some (.cells #[fv] 80 (0,0)):=by rw[<-IY];exact setRow_heap W5 _ _ _ _ _ T1
 have MM:∀b,b<b4->W6.heap[b]?=W4.heap[b]?:=λb hb=>by rw[<-IY];exact(setRow_other W5 _ _ _ (by omega)).trans (ZY b hb)
 refine wpIn_region ?_;show wpOpsIn _ _ _ _ _ [0,1] a6 W6;obtain⟨d80,Z3,Us⟩:=vZ 80;refine aT rfl rfl (by rfl) (gY (x:=.tmp 4) (v:=fv) rfl Zi Z3 Us (by simp[World.cell?,Th])) ?_;show wpOpsIn _ _ _ _ _ [1] (a6.put (some 8) fv) W6
 obtain⟨a7,Ba⟩:∃a7,a6.put (some 8) fv=a7:=⟨_,rfl⟩
 rw[Ba]
 have z7:a7.tmps.size=10:=by rw[<-Ba,jN];exact z6
 have u8:a7.eval (.tmp 8)=fv:=by rw[<-Ba];exact eT _ _ _ (by omega)
 have J4:a7.defers=[]:=by rw[<-Ba,<-AD,<-nM];exact B7
 let oV:Nat->Prop:=λb=>(W.heap.size<=b/\b<=b4)/\b≠bM
 have fD:dG (λ_=>False) W W6:=by
  refine⟨?_,?_,?_,by have:=uj.size;omega,λb hb _=>(MM b (by have:=uj.size;omega)).trans (uj.block b hb)⟩
  .rw[<-IY,<-IQ];exact uj.os
  .rw[<-IY,<-IQ];exact uj.tape
  .rw[<-IY,<-IQ];exact uj.output
 have hm:∀{v:AV}{c:Value}{P':Nat->Nat->Prop},(∀x j,P' x j->x<W4.heap.size->(x<W.heap.size/\Pr x j)\/(W.heap.size<=x/\x≠bM))->RD P' W4 v c->RD (λb j=>oV b\/Pr b j) W6 v c:=λhp h=>
  (h.mono (aE.gr (cS:=λb j=>oV b\/Pr b j) (λb hb=>MM b (by omega)) λx j hx hpx=>by
   rcases hp x j hpx hx with h|h
   .exact .inr h.2
   .exact .inl ⟨⟨h.1,by omega⟩,h.2⟩))
 let X:Env:={ bM:=bM,cJ:=a4.tmps.getD 1 undef,cY:=a4.tmps.getD 2 undef,cK:=a4.tmps.getD 3 undef,cP:=.pointer (some ⟨b4,0,none⟩),oV:=oV }
 have hXf:X.fv=fv:=by rw[pW]<;>rfl
 have YM:bM<b4:=by rw[<-JF];exact(Array.getElem?_eq_some_iff.1 m2).1
 have st:nc C X ws w 0 (λb=>W.heap.size<=b/\b<W6.heap.size) Pr oV W6:=by
  refine⟨C.fQ hJ fD λb hb=>⟨hb.2,.inr hb.1⟩,λb hb=>hb.2,λb hb=>⟨⟨hb.1.1,by have:=hb.1.2;omega⟩,hb.2⟩,λ_ h=>h,⟨m1,by show bM<_;omega⟩,⟨[],#[],gJ,(MM bM YM).trans m2,⟨rfl,λi h=>absurd h (by simp)⟩,λx hx=>by cases hx⟩,hm EI d1,hm (λx j hp hx=>?_) d2,hm (λx j hp hx=>?_) d3,?_⟩
  .rcases hp with hp|rfl
   .exact EI x j hp hx
   .exact .inr ⟨l2,n2⟩
  .rcases hp with hp|rfl
   .exact EI x j hp hx
   .exact .inr ⟨l3,n3⟩
  .rw[hXf];refine .ref _ b4 0 (λ_=>fv) (λi hi=>?_) (λk hk=>⟨?_,?_⟩) (λk hk=>?_)
   .have:i=0:=by simpa using hi
    subst this;rfl
   .exact .inl ⟨⟨by have:=uj.size;omega,Nat.le_refl _⟩,by omega⟩
   .have:k=0:=by simpa using hk
    subst this;simp[World.cell?,Th]
   .have:k=0:=by simpa using hk
    subst this;rw[pW];exact .val _ rfl
 have wN:=QF hG hL ws.length [] [] (by simp) (by simp) (λx hx=>by cases hx) 0 _ Pr oV (λ_=>False) W6 (.slice none 0 0) (.slice none 0 0) [] st (λb hb=>hb.elim) (.fH _) (.fH _) (by simp);have u8':a7.eval (.tmp 8)=.func (.func 155) #[] #[X.cJ,X.cY,X.cK,X.cP]:=u8.trans pW;refine gm rfl rfl (by rfl) (wU (f:=.tmp 8) (x:=.const (.slice none 0 0)) (y:=.const (.slice none 0 0)) W6 rfl rfl rfl u8' (by kernel_rfl)) wN ?_;rintro e W7 ⟨M',cS,kS⟩
 obtain⟨b,rfl,hv⟩:∃b:Bool,e=.returned (.bool b)/\(C.J ((eU ws w ws.length [] []).map gM).length M' cS W7\/C.X M' cS W7):=by
  rcases kS with⟨rfl,h,_⟩|⟨rfl,h⟩
  .refine⟨true,rfl,.inl ?_⟩;have:=h.j;simpa using this
  .exact⟨false,rfl,.inr h⟩
 refine⟨_,rfl,?_⟩;show bodyPost prog f154 _ .normal (a7.put (some 9) (.bool b)) W7;refine⟨J4,.tuple #[],?_,.tuple #[],_,_,rfl,hv⟩;simp[results,results154]
def wZ{α β:Type}{f:α->List β}{b:Nat}:∀{l:List α},(∀x∈l,(f x).length<=b)->(l.flatMap f).length<=l.length*b
 |[],_=>by simp
 |x::l,h=>by
  have h1:=h x List.mem_cons_self
  have h2:=wZ (l:=l) λy hy=>h y (List.mem_cons_of_mem _ hy)
  rw[List.flatMap_cons,List.length_append,List.length_cons,Nat.succ_mul];omega
def BW(ws:List Int)(w:Int):∀(r:Nat)(now T:List Nat),T.length+r<=4->(eU ws w r now T).length<=5^r
 |0,now,T,_=>by simp[eU]
 |r+1,now,T,h=>by
  rw[lB];refine Nat.le_trans (wZ (b:=5^r) λn hn=>?_) ?_
  .unfold qB;split
   .refine BW ws w r _ _ ?_;have:=(Bu (T:=T) (i:=n) (k:=now.length) (by have:=List.mem_range'_1.1 hn;omega)).1;omega
   .simp
  .rw[List.length_range',Nat.pow_succ,Nat.mul_comm (5^r) 5];exact Nat.mul_le_mul_right _ (by omega)
def kK(ws:List Int)(w:Int):List lZ:=eU ws w ws.length [] []
def HZ{ws:List Int}{w:Int}(hL:ft ws w):(kK ws w).length<=625:=by
 have h:=BW ws w ws.length [] [] (by simp;exact hL.1.2);have h2:(5:Nat)^ws.length<=5^4:=Nat.pow_le_pow_right (by decide) hL.1.2;unfold kK;omega
def XD (hG:av GI) {ws:List Int} {w:Int} {cs:List lZ} (hlen:cs.length≤100000) (mh:mN prog GI 154 [.ref (bJ ws w)] (cs.map gM)) :
  AC prog GI 107 [sY ws w,.func (.func 109) [] []] (.ret (nu (lH cs))):=by
 intro W old a_ lg hl hr
 refine Qt hG hlen mh W old a_ lg hl λi h h'=>?_
 match i,h with
 |0,_=>exact hr 0 (by simp) h'
 |1,_=>
  have h1:=hr 1 (by simp) h';simp only[List.getElem_cons_succ,List.getElem_cons_zero]at h1⊢;generalize a_[1]=c at h1
  cases h1 with
  |data _ _ h=>cases h
  |func _ _ _ vs us k1 k2 r1 r2=>
   have:vs=#[]:=Array.eq_empty_of_size_eq_zero (by simpa using k1.symm);subst this;have:us=#[]:=Array.eq_empty_of_size_eq_zero (by simpa using k2.symm);subst this;exact .data _ _ (.val _ rfl)
def Y4(hG:av GI){ws:List Int}{w:Int}(hL:ft ws w):AC prog GI 42 [jl ws w] (.ret (nu (lH (kK ws w)))):=by
 have Tb:=Vd (GI:=GI) hG ws w;have hlen:=HZ hL;have SJ:=XD (GI:=GI) hG (ws:=ws) (w:=w) (cs:=kK ws w) (by omega) (WG hG hL);generalize lH (kK ws w)=L at SJ⊢
 refine AC.kP func42 rfl ntmps42 (by simp) λcc W=>?_
 refine eD hG c42.qa (λS H=>S 1=.box 1 0/\H 1=some (bJ ws w)) ?_ ?_
 .simp[c42,ae.qa,jl,bJ]
 rintro S1 H1 ⟨s1,h1⟩
 refine SW.seq (SW.hand hG (p:=2) (lm:=[2]) (l2:=[3]) (mH:=[_,_]) (oh:=[_]) (lS:=[_]) rfl rfl rfl rfl (by kernel_rfl) (λ_ h=>h)
  (ua:=(c42.qb.qa.dl).take 2) (tH:=(c42.qb.qa.dl).drop 3) (by kernel_rfl) (by kernel_rfl) (by kernel_rfl) (by kernel_rfl)
  (K1:=λS _=>S 4=sY ws w) (K2:=λo S _=>o=Old.plain cc W/\S 5=nu L) (K3:=λo S _=>o=Old.plain cc W/\S 2=nu L) ?_ ?_ ?_ ?_)
 .unfold jl bJ at Tb;unfold bJ at h1;simp[c42,ae.qa,ae.qb,ae.dl,s1,h1];refine oc (by simpa[AV.aw,AV.vw,AV.bV]using Tb) ?_;simp[g_,sY,bJ]
 .rintro w0 g S2 H2 a w' m db ho R s4;have r4:=R.slot 4 (by decide) id;rw[s4]at r4
  refine gm rfl rfl (by rfl) (fJ (k:=107) (args:=#[a.tmps.getD 4 undef,.func (.func 109) #[] #[]]) w' rfl rfl ?_ (by kernel_rfl)) (SJ w' (kh g false) #[a.tmps.getD 4 undef,.func (.func 109) #[] #[]] (hG w0 w' db (by have:=R.below;rwa [R.base]at this)) rfl (λi h h'=>by
   match i,h with
   |0,_=>exact(r4.bO rfl).mono (aE.same λb k _ hp=>.inl hp) λ_ _ h=>h
   |1,_=>exact .func _ _ _ _ _ rfl rfl (λi h=>absurd h (by simp)) (λi h=>absurd h (by simp)))) ?_
  .simp only[List.map_toArray,List.map_cons,List.map_nil,Act.eval]
  rintro e w2 ⟨iw,hi,tw,c,rfl,Uq,cC⟩;refine⟨_,rfl,?_⟩;obtain⟨g',q1,q2,R'⟩:=R.call (some 5) (λt ht=>by cases ht;exact⟨by decide,id⟩) false iw tw Uq cC (λh=>by cases h);exact⟨g',_,_,R',q2.trans ho,aN _ _ _⟩
 .rintro o S2 H2 ⟨rfl,s5⟩;refine⟨λ_ h=>h,?_⟩
  cases L<;>simp[c42,ae.qa,ae.qb,ae.dl,s5,nu]
 .rintro o S2 H2 ⟨rfl,s2⟩;refine SW.ret ⟨fq.plain rfl,rfl,_,?_,rfl⟩;show cU prog 6 [.tmp 2] S2 H2=_;simp[cU,cL,cI,s2,nu,AV.bu,AV.out]
def Ga(ws:List Int)(w:Int):List AV:=match lH (kK ws w)with
 |[]=>[.slice .view [],.int .i64 0,.int .i64 5]
 |c::_=>[.slice .view (dL c.1),.int .i64 (c.2:Nat),.int .i64 0]
def aa4(hG:av GI){ws:List Int}{w:Int}(hL:ft ws w):AC prog GI 15 [jl ws w] (.ret (.fZ (Ga ws w))):=by
 have Mq:=T2 (GI:=GI) hG hL;have XN:=Y4 (GI:=GI) hG hL;unfold Ga;generalize lH (kK ws w)=L at XN⊢;refine dZ hG func15 ntmps15 c15 ?_;unfold jl bJ at Mq XN;refine bw (λS H=>S 1=.box 1 0/\H 1=some (bJ ws w)) (by simp[c15,jl,bJ]) ?_;rintro S H ⟨s1,h1⟩;unfold bJ at h1;simp[c15,s1,h1];refine oc (by simpa[AV.aw,AV.vw,AV.bV]using Mq) ?_;simp[s1,h1];refine oc (by simpa[AV.aw,AV.vw,AV.bV]using XN) ?_
 cases L with
 |nil=>simp[nu]
 |cons c L=>
  have xV:¬((L.length:Int)+1=0):=by omega
  have Iy:((L.length:Int)+1==0)=false:=by rw[beq_eq_false_iff_ne];omega
  simp[nu,gM,xV,Iy]
end Go.Proofs.Tryz
namespace Go.Proofs.Tryz
open Go.AL
variable{s:aD}{x y:List End}
def dK(s:aD):List End->List End->Bool:=uV List.length (vH s [])
end Go.Proofs.Tryz
namespace Go.Proofs.Tryz
open Go Go.AL Go.RowKit Go.Proofs Go.Proofs.Tram
attribute [local simp] dS eF dR cW dT cV cZ ck cg dQ cd bP fB fC an aq ev aB.S aB.H aY au aH AL.start AV.cells AV.storable AV.bb aQ aZ aP HR.okB post cU cL cI AV.out AV.bu br bU fz fG AV.vw bR vI int bI az ct cb gB il dM cD aR AV.aw AV.bV dO
variable{GI:World->Prop}
def qD(s:aD):(aK s).map AV.bV=aK s:=by
 simp[aK,aA,bB,vI,ints,AV.bV]
def pf(s:aD):(aK s).length=11:=rfl
def Dz(s:aD):AV.agg ((aK s).take 10|>.map AV.bV)=ee s:=by
 simp[aK,aA,ee,vI,ints,AV.bV]
def Fm{s:aD}(h:ba s=true):rH s:=by
 have hF:=hO h;refine⟨by have:=hF.Tm;omega,by have:=hF.Tn;omega,by have:=hF.words;omega,λw hw=>?_,λw hw=>?_⟩
 .have:=(oy h hw).xe;omega
 .have f:=oy h hw;have:=vC f.er (by have:=f.JD;omega);have:=f.xe;omega
def Cz(hG:av GI)(s:aD)(dF:ba s=true)(out:List Int)(ho:out.length<=1000):mN prog GI 121 [.ref (aK s),.ref [vI out]] ((gz s out s.rows.toNat).map (aM out)):=by
 have hr:=(hO dF).rows;have he:=zS dF out;refine VV hG (oE:=.view) (all:=kM s out) (rows:=s.rows.toNat) (by omega) (by omega) ho (pf s) ?_ ?_ ?_
 .intro x hx;simp[aK,aA]at hx
  rcases hx with rfl|rfl|rfl|rfl|rfl|rfl|rfl|rfl|rfl|rfl<;>exact⟨rfl,rfl,rfl⟩
 .show some (AV.int .i64 s.rows)=some (.int .i64 (s.rows.toNat:Nat));rw[Int.toNat_of_nonneg (by omega)]
 .rw[Dz];exact VO hG s (Fm dF) out (by omega)
def oC{s:aD}(dF:ba s=true){out:List Int}(mC:pq s out=true){es:List End}(h:es∈gz s out s.rows.toNat):pZ s out es=true/\es.length<=3:=by
 have hr:=(hO dF).rows;obtain⟨h1,h2⟩:=(wi dF mC).1 h;exact⟨h1,by omega⟩
def Kh(hG:av GI)(s:aD)(dF:ba s=true)(out:List Int)(ho:out.length<=1000)(mC:pq s out=true){es:List End}(h:es∈gz s out s.rows.toNat):AC prog GI 138 [.agg ((aK s).map AV.bV),aM out es,.int .i64 0] (.ret (.bool (fj s out es 0))):=by
 obtain⟨h1,h2⟩:=oC dF mC h;rw[qD];exact OT hG s dF out (by omega) es (by omega) (pP dF h1) (by omega) (by omega)
def Ms(hG:av GI)(s:aD)(dF:ba s=true)(out:List Int)(ho:out.length<=1000)(mC:pq s out=true):AC prog GI 96 [fX s,vI out] (.ret (.slice .view ((fS s out).map (aM out)))):=by
 have hr:=(hO dF).rows;have hl:=wk dF out (m:=s.rows.toNat) (by omega);refine AC.yL (o:=if(fS s out).isEmpty then .nil else .view) ?_
 exact Ya hG (pf s) (by
  intro x hx;simp[aK,aA]at hx
  rcases hx with rfl|rfl|rfl|rfl|rfl|rfl|rfl|rfl|rfl|rfl|rfl<;>rfl) (by omega) (λes h=>by have:=(oC dF mC h).2;omega) (by rw[qD];exact Cz hG s dF out ho) (λes h=>Kh hG s dF out ho mC h)
def Ul(hG:av GI)(s:aD)(dF:ba s=true)(out:List Int)(ho:out.length<=1000)(mC:pq s out=true):AC prog GI 66 [fX s,vI out] (.ret (.bool (!(fS s out).isEmpty))):=by
 have e:(!(fS s out).isEmpty)=(gz s out s.rows.toNat).any λes=>fj s out es 0:=by
  unfold fS;rw[Bool.eq_iff_iff];simp[List.filter_eq_nil_iff]
 rw[e];exact aal hG (pf s) (by rw[qD];exact Cz hG s dF out ho) (λes h=>Kh hG s dF out ho mC h)
def aaw(hG:av GI)(s:aD)(dF:ba s=true){a b:List End}(ha:pZ s [] a=true)(hb:pZ s [] b=true)(fu:a.length<=10)(fV:b.length<=10):AC prog GI 98 [aM [] a,aM [] b,.ref (aK s)] (.ret (.bool (dK s a b))):=by
 have ga:=MR hG s dF [] (by simp) a (by omega) (pP dF ha);have gb:=MR hG s dF [] (by simp) b (by omega) (pP dF hb);refine dZ hG func98 ntmps98 c98 ?_;refine bw (λS H=>S 2=.ref (aK s)/\S 3=.box 3 0/\S 4=.box 4 0/\H 3=some [vI [],.slice .view (a.map cz)]/\H 4=some [vI [],.slice .view (b.map cz)]) (by simp[aM,bz]) ?_;rintro S H ⟨s2,s3,s4,e3,e4⟩;refine bw (λS H=>S 2=.ref (aK s)/\S 3=.box 3 0/\S 4=.box 4 0/\H 3=some [vI [],.slice .view (a.map cz)]/\H 4=some [vI [],.slice .view (b.map cz)]/\S 6=.int .i64 a.length/\S 7=.int .i64 b.length) (by simp[s2,s3,s4,e3,e4]) ?_;clear s2 s3 s4 e3 e4 S H;rintro S H ⟨s2,s3,s4,e3,e4,s6,s7⟩;unfold dK uV
 by_cases ao:a.length<b.length
 .have jx:(a.length:Int)<b.length:=by omega
  simp[s2,s3,s4,e3,e4,s6,s7,ao,jx]
 by_cases he:a.length=b.length
 case neg=>
  have jx:¬(a.length:Int)<b.length:=by omega
  have he':((a.length:Int)==b.length)=false:=by simp;omega
  have Up:(a.length==b.length)=false:=by simpa using he
  simp[s2,s3,s4,e3,e4,s6,s7,ao,jx,he',Up]
 simp[s2,s3,s4,e3,e4,s6,s7,he,aK,aA,bB];refine oc ga ?_;simp[s2,s3,s4,e3,e4,s6,s7,he,aK,aA,bB];refine oc gb ?_;simp[s2,s3,s4,e3,e4,s6,s7,he,aK,aA,bB]
def OU(l:List (List End)):aC 2 (l.map (aM []))=true:=mM λa=>⟨rfl,rfl⟩
def Gc{α:Type}(better:α->α->Bool)(x:α){l:List α}{i:Nat}(h:i<l.length):gZ better x (l.take (i+1))=if better l[i] (gZ better x (l.take i))then l[i]else gZ better x (l.take i):=by
 unfold gZ;rw[List.take_succ_eq_append_getElem h,List.foldl_append];rfl
def qz{α:Type}(better:α->α->Bool):∀(l:List α)(x:α),gZ better x l∈x::l
 |[],x=>List.mem_cons_self
 |a::l,x=>by
  show gZ better (if better a x then a else x) l∈_;have:=qz better l (if better a x then a else x);rcases List.mem_cons.1 this with e|h
  .rw[e];split<;>simp
  .exact List.mem_cons_of_mem _ (List.mem_cons_of_mem _ h)
def Z2(hG:av GI)(s:aD)(dF:ba s=true)(x:List End)(l:List (List End))(hl:l.length<100000)(h:∀a∈x::l,pZ s [] a=true/\a.length<=10):AC prog GI 97 [.slice .view ((x::l).map (aM [])),.func (.func 98) [] [.ref (aK s)]] (.ret (aM [] (gZ (dK s) x l))):=by
 have bo:=OU (x::l);obtain⟨it,mh,aL⟩:=iZ 108 2;have hT:List.take l.length (l.map (aM []))=l.map (aM []):=List.take_of_length_le (by simp);have hm:(x::l).map (aM [])=aM [] x::l.map (aM []):=rfl
 have Gd:∀d,h_ d (.ref (aK s))=false:=λd=>rfl
 have yS:∀a,aM [] a=.agg [vI [],.slice .view (a.map cz)]:=λ_=>rfl
 refine dZ hG func97 ntmps97 c97 ?_;refine bw (λS H=>S 4=.box 4 0/\S 0=.slice .view (aM [] x::l.map (aM []))/\S 1=.func (.func 98) [] [.ref (aK s)]/\H 4=some [.slice .nil [],.slice .nil []]) (by simp[Gd]) ?_;rintro S H ⟨s4,s0,s1,e4⟩;refine bw (λS H=>S 4=.box 4 0/\S 0=.slice .view (aM [] x::l.map (aM []))/\S 1=.func (.func 98) [] [.ref (aK s)]/\H 4=some [.slice .nil [],.slice .nil []]/\S 5=.box 5 0/\H 5=some [vI [],.slice .view (x.map cz)]) (by simp[s4,s0,s1,e4,yS,Gd]) ?_;clear s4 s0 s1 e4 S H;rintro S H ⟨s4,s0,s1,e4,s5,e5⟩;rw[hm]at bo;refine bw (λS H=>S 4=.box 4 0/\H 4=some [.slice .nil [],.slice .nil []]/\S 5=.box 5 0/\H 5=some [vI [],.slice .view ((gZ (dK s) x l).map cz)]) ?_ ?_
 .have h1:(1:Int)<=l.length+1:=by omega
  simp[s4,s0,s1,e4,s5,e5,bound,bo,h1];refine dE 14 l.length (λi S H=>S 1=.func (.func 98) [] [.ref (aK s)]/\S 4=.box 4 0/\H 4=some [.slice .nil [],.slice .nil []]/\S 5=.box 5 0/\H 5=some [vI [],.slice .view ((gZ (dK s) x (l.take i)).map cz)]/\S 12=.slice .view (l.map (aM []))/\S 13=.int .i64 l.length/\S 14=.int .i64 (i:Nat)) (λi S H h=>h.2.2.2.2.2.2.2) ⟨by simp[s1],by simp[s4],by simp[e4],by simp[s5],by simp[e5,gZ],by simp[hT],by simp,by simp⟩ ?_;clear s4 s0 s1 e4 s5 e5 S H;rintro i hi S H ⟨s1,s4,e4,s5,e5,bn,dz,fw⟩
  by_cases ao:i<l.length
  case neg=>
   have ec:i=l.length:=by omega
   subst ec;rw[List.take_of_length_le (Nat.le_refl _)]at e5;simp[s1,s4,e4,s5,e5,bn,dz,fw]
  have hw:IntKind.i64.wrap ((i:Int)+1)=i+1:=bl (by omega);have rL:=qz (dK s) (l.take i) x
  have hb:=h (gZ (dK s) x (l.take i)) (by
   rcases List.mem_cons.1 rL with e|e
   .rw[e];exact List.mem_cons_self
   .exact List.mem_cons_of_mem _ (List.mem_of_mem_take e))
  have cy:=h l[i] (List.mem_cons_of_mem _ (List.getElem_mem ao));have Y5:=aaw hG s dF cy.1 hb.1 cy.2 hb.2;rw[Gc _ _ ao];generalize gZ (dK s) x (l.take i)=o at e5 Y5⊢;simp[s1,s4,e4,s5,e5,bn,dz,fw,ao,yS,Gd];refine oc Y5 ?_;cases dK s l[i] o
  .simp[s1,s4,e4,s5,e5,bn,dz,fw,ao,yS,Gd,hw]
  .simp[s1,s4,e4,s5,e5,bn,dz,fw,ao,yS,Gd,hw]
 clear s4 s0 s1 e4 s5 e5 S H;rintro S H ⟨s4,e4,s5,e5⟩;simp[s4,e4,s5,e5,yS,mh,aL,fE]
def Cd(s:aD):List AV:=if ba s then match fS s []with
 |[]=>[aM [] [],.int .i64 0,.int .i64 5]
 |x::l=>[aM [] (gZ (dK s) x l),.int .i64 (vH s [] (gZ (dK s) x l)),.int .i64 0]
 else[aM [] [],.int .i64 0,.int .i64 2]
def Pj{s:aD}(dF:ba s=true){a:List End}(h:a∈fS s []):pZ s [] a=true/\a.length<=3/\fj s [] a 0=true:=by
 have hr:=(hO dF).rows;obtain⟨h1,h2⟩:=(Iz dF (jK dF)).1 h;refine⟨h1,?_,h2⟩;unfold fj at h2;simp only[Bool.and_eq_true,decide_eq_true_eq]at h2;omega
def FB(hG:av GI)(s:aD)(hs:rH s)(dp:ba s=false\/fS s []=[]):AC prog GI 40 [ee s] (.ret (.fZ (Cd s))):=by
 obtain⟨it,mh,aL⟩:=iZ 108 2
 have yS:∀a,aM [] a=.agg [vI [],.slice .view (a.map cz)]:=λ_=>rfl
 refine dZ hG func40 ntmps40 c40 ?_;refine bw (λS H=>S 1=.box 1 0/\S 2=.box 2 0/\H 1=some (aA s)/\H 2=some [.slice .nil [],.slice .nil []]) (by simp[ee,aA]) ?_;rintro S H ⟨s1,s2,e1,e2⟩;unfold Cd;cases dF:ba s
 .simp[s1,s2,e1,e2,aA];refine⟨_,by kernel_rfl,Ca hG s hs,λ_=>rfl,?_⟩;rw[dF];simp[s1,s2,e1,e2,aA,mh,aL,fE,yS,dH,ints]
 have hg:fS s []=[]:=by
  rcases dp with h|h
  .rw[h]at dF;cases dF
  .exact h
 simp[s1,s2,e1,e2,aA];refine⟨_,by kernel_rfl,Ca hG s hs,λ_=>rfl,?_⟩;rw[dF];simp[s1,s2,e1,e2,aA];refine oc (Ei hG s dF) ?_;simp[s1,s2,e1,e2,fX,aK,aA,bB];refine oc (Ms hG s dF [] (by simp) (jK dF)) ?_;rw[hg];simp[s1,s2,e1,e2,mh,aL,fE,yS,dH,ints]
def X5(hG:av GI)(s:aD)(hs:rH s):AC prog GI 40 [ee s] (.ret (.fZ (Cd s))):=by
 cases dF:ba s with
 |false=>exact FB hG s hs (.inl dF)
 |true=>
 cases hg:fS s []with
 |nil=>exact FB hG s hs (.inr hg)
 |cons x l=>
 obtain⟨it,mh,aL⟩:=iZ 108 2
 have yS:∀a,aM [] a=.agg [vI [],.slice .view (a.map cz)]:=λ_=>rfl
 have hl:=I2 dF [];rw[hg]at hl;simp at hl
 have eP:∀a∈x::l,pZ s [] a=true/\a.length<=10:=λa ha=>by
  have:=Pj dF (a:=a) (by rw[hg];exact ha);exact⟨this.1,by omega⟩
 have a98:=Z2 hG s dF x l (by omega) eP;have hb:=eP _ (qz (dK s) l x);have a87:=MR hG s dF [] (by simp) (gZ (dK s) x l) (by omega) (pP dF hb.1)
 have pU:((l.length:Int)+1==0)=false:=by simp;omega
 have ho:Cd s=[aM [] (gZ (dK s) x l),.int .i64 (vH s [] (gZ (dK s) x l)),.int .i64 0]:=by
  unfold Cd;rw[dF,if_pos rfl,hg]
 rw[ho];refine AC.L2 hG bL 5 5 func40 rfl ntmps40 (by simp) (ac:=c40) (by kernel_rfl) ?_;refine rO (λS H=>S 1=.box 1 0/\S 2=.box 2 0/\H 1=some (aA s)/\H 2=some [.slice .nil [],.slice .nil []]) (by simp[ee,aA]) ?_;rintro S H ⟨s1,s2,e1,e2⟩;refine rO (λS H=>S 1=.box 1 0/\S 2=.box 2 0/\H 1=some (aA s)/\H 2=some [.slice .nil [],.slice .nil []]) ?_ ?_
 .simp[s1,s2,e1,e2,aA];refine⟨_,by kernel_rfl,Ca hG s hs,λ_=>rfl,?_⟩;rw[dF];simp[s1,s2,e1,e2,aA]
 clear s1 s2 e1 e2 S H;rintro S H ⟨s1,s2,e1,e2⟩;refine rO (λS H=>S 2=.box 2 0/\H 2=some [.slice .nil [],.slice .nil []]/\S 5=.box 5 0/\H 5=some (aK s)) ?_ ?_
 .simp[s1,s2,e1,e2,aA];refine oc (Ei hG s dF) ?_;simp[s1,s2,e1,e2,fX,aK,aA,bB]
 clear s1 s2 e1 e2 S H;rintro S H ⟨s2,e2,s5,e5⟩;refine rO (λS H=>S 2=.box 2 0/\H 2=some [.slice .nil [],.slice .nil []]/\S 5=.box 5 0/\H 5=some (aK s)/\S 6=.slice .view ((x::l).map (aM []))) ?_ ?_
 .have a97:=Ms hG s dF [] (by simp) (jK dF);rw[hg]at a97;simp[s2,e2,s5,e5,aK,aA,bB];refine oc a97 ?_;simp[s2,e2,s5,e5,aK,aA,bB]
 clear s2 e2 s5 e5 S H;rintro S H ⟨s2,e2,s5,e5,s6⟩;refine rO (λS H=>S 2=.box 2 0/\H 2=some [.slice .nil [],.slice .nil []]/\S 5=.box 5 0/\H 5=some (aK s)/\S 6=.slice .view ((x::l).map (aM []))) (by simp[s2,e2,s5,e5,s6,pU]) ?_;clear s2 e2 s5 e5 s6 S H;rintro S H ⟨s2,e2,s5,e5,s6⟩;refine G9 (aK s) (λS H=>S 2=.box 2 0/\H 2=some [.slice .nil [],.slice .nil []]/\S 5=.ref (aK s)/\S 6=.slice .view ((x::l).map (aM []))) e5 ⟨by simp[s2,lO],by simp[au,e2],by simp[s5,lO,aK,aA,bB,AV.aw,vI],by simp[s6,lO,aZ]⟩ ?_;clear s2 e2 s5 e5 s6 S H;rintro S H ⟨s2,e2,s5,s6⟩;refine bw (λS H=>S 2=.box 2 0/\H 2=some [.slice .nil [],.slice .nil []]/\S 5=.ref (aK s)/\S 7=.box 7 0/\H 7=some [vI [],.slice .view ((gZ (dK s) x l).map cz)]) ?_ ?_
 .simp[s2,e2,s5,s6];refine⟨_,by kernel_rfl,a98,by simp[bR,qh],?_⟩;simp[s2,e2,s5,s6,yS]
 clear s2 e2 s5 s6 S H;rintro S H ⟨s2,e2,s5,s7,e7⟩;simp[s2,e2,s5,s7,e7,aK,aA,bB];refine oc a87 ?_;simp[s2,e2,s5,s7,e7,mh,aL,fE,yS]
def tK(s:aD):List AV:=if ba s then match fS s []with
 |[]=>[.int .i64 0,.int .i64 5]
 |x::l=>[.int .i64 (gZ (dK s) x l).length,.int .i64 0]
 else[.int .i64 0,.int .i64 2]
def ZJ(hG:av GI)(s:aD)(hs:rH s):AC prog GI 14 [ee s] (.ret (.fZ (tK s))):=by
 have a40:=X5 hG s hs;unfold Cd at a40;unfold tK;refine dZ hG func14 ntmps14 c14 ?_;refine bw (λS H=>S 1=.box 1 0/\H 1=some (aA s)) (by simp[ee,aA]) ?_;rintro S H ⟨s1,e1⟩;cases dF:ba s
 .rw[dF]at a40;simp[s1,e1,aA];refine oc a40 ?_;simp[s1,e1,aA,rC]
 rw[dF,if_pos rfl]at a40
 cases hg:fS s []with
 |nil=>
  rw[hg]at a40;simp[s1,e1,aA];refine oc a40 ?_;simp[s1,e1,aA,rC]
 |cons x l=>
  rw[hg]at a40;simp only at a40⊢
  generalize gZ (dK s) x l=b at*
  simp[s1,e1,aA];refine oc a40 ?_;simp[s1,e1,aA,rC]
def YI:AV->Nat×Nat
 |.agg [.int _ a,.int _ b]=>(a.toNat,b.toNat)
 |_=>(0,0)
def ME(s:aD)(r:zY):Int:=gR s 0 (r.JS.map λa=>bH s (YI a)) r.cut
def sb(s:aD)(es:List End):List zY:=(List.range es.length).map λi=>⟨(iB s [] es i).map gA,iH s es i⟩
def Gz(s:aD)(l:List (Nat×Nat))(cut:Bool):ME s ⟨l.map gA,cut⟩=gR s 0 (l.map (bH s)) cut:=by
 unfold ME;simp only[List.map_map]
 congr 1
def He(s:aD)(es:List End):kv (ME s) (sb s es)=xl (bK s [] es 0):=by
 unfold kv xl sb bK jD;rw[List.map_map]
 congr 1
 exact List.map_congr_left λi _=>Gz s _ _
def rm(s:aD):List AV:=if ba s then[.int .i64 (kV s),.int .i64 0]else[.int .i64 0,.int .i64 2]
def Wx(hG:av GI)(s:aD)(hs:rH s):AC prog GI 17 [ee s] (.ret (.fZ (rm s))):=by
 unfold rm
 cases dF:ba s with
 |false=>
  refine dZ hG func17 ntmps17 c17 ?_;refine bw (λS H=>S 1=.box 1 0/\H 1=some (aA s)) (by simp[ee,aA]) ?_;rintro S H ⟨s1,e1⟩;have Hq:=Ca hG s hs;rw[dF]at Hq;simp[s1,e1,aA];refine⟨_,by kernel_rfl,Hq,λ_=>rfl,?_⟩;simp[s1,e1,aA]
 |true=>
 have hr:=(hO dF).rows;have fu:=wk dF [] (m:=s.rows.toNat) (by omega)
 obtain⟨Qh,C5,bt⟩:∃Qh C5,gz s [] s.rows.toNat=Qh::C5:=by
  cases h:gz s [] s.rows.toNat with
  |nil=>exact absurd h (Mr dF (by omega))
  |cons a l=>exact⟨a,l,rfl⟩
 have hvw:(aA s).map AV.bV=aA s:=by simp[aA,vI,ints,AV.bV]
 have h:=aaE hG (sA:=aA s) (F:=aK s) (sets:=gz s [] s.rows.toNat) (rows:=sb s) (wd:=ME s) rfl (pf s) (by
   intro x hx;simp[aA]at hx
   rcases hx with rfl|rfl|rfl|rfl|rfl|rfl|rfl|rfl|rfl|rfl<;>rfl) (qD s) (by
   intro x hx;simp[aK,aA]at hx
   rcases hx with rfl|rfl|rfl|rfl|rfl|rfl|rfl|rfl|rfl|rfl|rfl<;>rfl) (by omega) bt (by
   rw[hvw];have:=Ca hG s hs;rw[dF]at this
   exact this) (by rw[hvw];exact Ei hG s dF) (Cz hG s dF [] (by simp)) (λes h=>by
   obtain⟨h1,h2⟩:=oC dF (jK dF) h;have:=TA hG s dF [] (by simp) es (by omega) (pP dF h1)
   have e:fL s [] es es.length=(sb s es).map ot:=by
    unfold fL sb;rw[List.map_map];rfl
   rw[e]at this
   exact this) (λes h=>by
   have:=(oC dF (jK dF) h).2
   unfold sb;simp;omega) (λes h r hr=>by
   obtain⟨h1,h2⟩:=oC dF (jK dF) h;have g:=pP dF h1;unfold sb at hr;obtain⟨i,hi,rfl⟩:=List.mem_map.1 hr;rw[List.mem_range]at hi;rw[Gz]
   exact TO hG s dF (yG g hi) (vN dF g i) (λx hx=>BS g hx) (iH s es i) (by omega) (by omega))
 have e:(gz s [] s.rows.toNat).map (λes=>kv (ME s) (sb s es))=(gz s [] s.rows.toNat).map λes=>xl (bK s [] es 0):=List.map_congr_left λes _=>He s es
 rw[e]at h;exact h
def Xh(hG:av GI)(s:aD)(hs:rH s){L:Nat}(hL:L<4611686018427387904):AC prog GI 65 [ee s,.int .i64 (L:Nat)] (.ret (ee (rT s L))):=by
 have h:=Zb hG (sA:=aA s) (ws:=s.words) (L:=L) rfl rfl (by
  intro x hx;simp[aA]at hx
  rcases hx with rfl|rfl|rfl|rfl|rfl|rfl|rfl|rfl|rfl|rfl<;>rfl) (by have:=hs.words;omega) (λw hw=>by have:=hs.bD w hw;have:=hs.er w hw;omega) hL
 have e:AV.agg (((aA s).set 7 (.slice .view ((eM s.words L).map ez))).map AV.bV)=ee (rT s L):=by
  simp[aA,ee,rT,vI,ints,AV.bV]
 rw[e]at h;exact h
def DF(s:aD):List AV:=if ba s then[.int .i64 (vP s:Nat),.int .i64 0]else[.int .i64 0,.int .i64 2]
def aaW(hG:av GI)(s:aD)(hs:rH s):AC prog GI 20 [ee s] (.ret (.fZ (DF s))):=by
 unfold DF;have Hq:=Ca hG s hs
 cases dF:ba s with
 |false=>
  rw[dF]at Hq;refine dZ hG func20 ntmps20 c20 ?_;refine bw (λS H=>S 1=.box 1 0/\H 1=some (aA s)) (by simp[ee,aA]) ?_;rintro S H ⟨s1,e1⟩;simp[s1,e1,aA];refine⟨_,by kernel_rfl,Hq,λ_=>rfl,?_⟩;simp
 |true=>
 rw[dF]at Hq;rw[if_pos rfl];have hN:=CO dF
 obtain⟨N,Xk⟩:∃N,gW s.words=N:=⟨_,rfl⟩
 have Ku:=λn (h:n<N) hp hb=>Mb (s:=s) (n:=n) (by omega) hp hb
 have Ar:=KK (s:=s);rw[Xk]at Ar hN;refine dZ hG func20 ntmps20 c20 ?_;refine bw (λS H=>S 1=.box 1 0/\H 1=some (aA s)) (by simp[ee,aA]) ?_;rintro S H ⟨s1,e1⟩;refine bw (λS H=>S 1=.box 1 0/\H 1=some (aA s)) ?_ ?_
 .simp[s1,e1,aA];refine⟨_,by kernel_rfl,Hq,λ_=>rfl,?_⟩;simp[s1,e1,aA]
 clear s1 e1 S H;rintro S H ⟨s1,e1⟩;refine bw (λS H=>S 1=.box 1 0/\H 1=some (aA s)/\S 4=.int .i64 0) (by simp[s1,e1]) ?_;clear s1 e1 S H;rintro S H ⟨s1,e1,s4⟩;refine bw (λS H=>S 1=.box 1 0/\H 1=some (aA s)/\S 4=.int .i64 (N:Nat)) ?_ ?_
 .simp[s1,e1,s4,aA];refine dE 14 s.words.length (λi S H=>S 1=.box 1 0/\H 1=some (aA s)/\S 12=.slice .view (s.words.map ez)/\S 13=.int .i64 s.words.length/\S 14=.int .i64 (i:Nat)/\S 4=.int .i64 (gW (s.words.take i):Nat)) (λi S H h=>h.2.2.2.2.1) ⟨by simp[s1],by simp[e1,aA],by simp,by simp,by simp,by simp[s4,gW]⟩ ?_;clear s1 e1 s4 S H;rintro i hi S H ⟨s1,e1,bn,dz,fw,s4⟩
  by_cases ao:i<s.words.length
  case neg=>
   have ec:i=s.words.length:=by omega
   subst ec;rw[List.take_of_length_le (Nat.le_refl _),Xk]at s4;simp[s1,e1,bn,dz,fw,s4,aA]
  have kI:=(hO dF).words;have hw:IntKind.i64.wrap ((i:Int)+1)=i+1:=bl (by omega)
  have P7:gW (s.words.take i)<=24:=by
   have:=p' (l:=s.words.take i) (b:=6) λw hw=>(oy dF (List.mem_of_mem_take hw)).xe
   rw[List.length_take]at this;omega
  have hsi:=(oy dF (List.getElem_mem ao)).xe;rw[Gw ao]
  generalize gW (s.words.take i)=m at*
  have PT:IntKind.i64.wrap ((m:Int)+(s.words[i].bD.length:Int))=(m:Int)+(s.words[i].bD.length:Int):=bl (by omega);simp[s1,e1,bn,dz,fw,s4,ao,ez,hw,PT,aA]
 clear s1 e1 s4 S H;rintro S H ⟨s1,e1,s4⟩;simp[s1,e1,s4];refine dE 25 N (λn S H=>S 1=.box 1 0/\H 1=some (aA s)/\S 4=.int .i64 (N:Nat)/\S 24=.int .i64 (N:Nat)/\S 25=.int .i64 (n:Nat)/\∀j,j<n->iS s j=false) (λi S H h=>h.2.2.2.2.1) ⟨by simp[s1],by simp[e1],by simp[s4],by simp,by simp,λj h=>absurd h (Nat.not_lt_zero _)⟩ ?_;clear s1 e1 s4 S H;rintro n hn S H ⟨s1,e1,s4,tX,oT,hb⟩
 by_cases ao:n<N
 case neg=>
  have CQ:n=N:=by omega
  subst CQ;rw[Ar hb];simp[s1,e1,s4,tX,oT]
 have hw:IntKind.i64.wrap ((n:Int)+1)=n+1:=bl (by omega)
 have hws:IntKind.i64.wrap ((N:Int)-(n:Int))=(N-n:Nat):=by rw[bl (by omega)];omega
 have YZ:=Xh hG s hs (L:=N-n) (by omega);have iY:=Cs dF (k:=N-n) (by omega);have a80:=Ei hG (rT s (N-n)) iY;have a107:=Ul hG (rT s (N-n)) iY [] (by simp) (jK iY)
 have hp:iS s n=!(fS (rT s (N-n)) []).isEmpty:=by unfold iS;rw[Xk]
 rw[<-hp]at a107;simp[s1,e1,s4,tX,oT,ao,aA,hws];refine oc YZ ?_;simp[s1,e1,s4,tX,oT,ao,ee,aA];refine oc a80 ?_;simp[s1,e1,s4,tX,oT,ao,fX,aK,aA,bB];refine oc a107 ?_;cases hf:iS s n
 .simp[s1,e1,s4,tX,oT,ao,hw];refine⟨rfl,?_⟩;intro j hj;rcases Nat.lt_or_ge j n with h|h
  .exact hb j h
  .rw[show j=n by omega];exact hf
 .rw[Ku n ao hf hb];simp[s1,e1,s4,tX,oT,ao]
end Go.Proofs.Tryz
namespace Go.Proofs.Tryz
open Go Go.AL Go.RowKit Go.Proofs Go.Proofs.Tram
def aF(ws:List Int)(w rows:Int):aD:=⟨ws,[],0,0,0,0,1,(List.range ws.length).map λi:Nat=>⟨[(i:Int)],[],false⟩,w,rows⟩
def vd{ws:List Int}{w rows:Int}(h:ws.length<=4):rH (aF ws w rows):=by
 refine⟨?_,?_,?_,λw hw=>?_,λw hw=>?_⟩
 .show ws.length<1000;omega
 .show 0<1000;decide
 .show((List.range ws.length).map _).length<1000;simp;omega
 .obtain⟨i,_,rfl⟩:=List.mem_map.1 hw;show 1<1000;decide
 .obtain⟨i,_,rfl⟩:=List.mem_map.1 hw;show 0<1000;decide
def aa7{x w rows:Int}(h:(1<=x/\x<=6))(hw:1<=w/\w<=6)(hr:1<=rows/\rows<=3):ba (aF [x] w rows)=true:=by
 simp[ba,oF,aF,dD,kN,mA,i_,kc,iQ,List.range_succ];omega
def Kj{x w:Int}:gz (aF [x] w 3) [] 3=[[((0:Int),(1:Int))]]:=by rfl
def Rs{x w:Int}:gz (aF [x] w 1) [] 1=[[((0:Int),(1:Int))]]:=by rfl
def JB{x w rows:Int}:bK (aF [x] w rows) [] [((0:Int),(1:Int))] 0=[x]:=by
 simp[bK,jD,gR,fU,fT,iB,gL,jZ,kG,nE,bH,iH,fM,jR,mg,gw,gN,lA,aF,List.range_succ]
 try omega
def Jo{x w:Int}:fj (aF [x] w 3) [] [((0:Int),(1:Int))] 0=true↔x<=w:=by
 unfold fj;rw[JB];simp[aF]
def VM{x w:Int}(hx:1<=x):∀es∈fS (aF [x] w 3) [],(1<=es.length/\es.length<=3)/\(∃c∈eU [x] w 1 [] [],c.2=es.length)/\(es.length=1->x<=w):=by
 intro es h;obtain⟨h1,h2⟩:=List.mem_filter.1 h;have h1:es∈gz (aF [x] w 3) [] 3:=h1;rw[Kj]at h1;simp only[List.mem_cons,List.not_mem_nil,or_false]at h1;rcases h1 with rfl
 .obtain g0:=Jo.1 h2;exact⟨by decide,⟨_,JU hx g0,rfl⟩,λ_=>g0⟩
def O9{x w:Int}(h:x<=w):[((0:Int),(1:Int))]∈fS (aF [x] w 3) []:=by
 refine List.mem_filter.2 ⟨?_,Jo.2 h⟩;show[((0:Int),(1:Int))]∈gz (aF [x] w 3) [] 3;rw[Kj];simp
def Pl{x w:Int}(h:0<=x):kV (aF [x] w 1)=x:=by
 unfold kV;show pJ ((gz (aF [x] w 1) [] 1).map _)=_;rw[Rs];simp only[List.map_cons,List.map_nil];rw[JB];simp[pJ,xl];omega
def Yg{x y w rows:Int}(h:(1<=x/\x<=6)/\(1<=y/\y<=6))(hw:1<=w/\w<=6)(hr:1<=rows/\rows<=3):ba (aF [x,y] w rows)=true:=by
 simp[ba,oF,aF,dD,kN,mA,i_,kc,iQ,List.range_succ];omega
def JR{x y w:Int}:gz (aF [x,y] w 3) [] 3=[[((0:Int),(1:Int)),((1:Int),(1:Int))],[((1:Int),(1:Int))]]:=by rfl
def RK{x y w:Int}:gz (aF [x,y] w 1) [] 1=[[((1:Int),(1:Int))]]:=by rfl
def PO{x y w rows:Int}:bK (aF [x,y] w rows) [] [((0:Int),(1:Int)),((1:Int),(1:Int))] 0=[x,y]:=by
 simp[bK,jD,gR,fU,fT,iB,gL,jZ,kG,nE,bH,iH,fM,jR,mg,gw,gN,lA,aF,List.range_succ]
 try omega
def O5{x y w:Int}:fj (aF [x,y] w 3) [] [((0:Int),(1:Int)),((1:Int),(1:Int))] 0=true↔x<=w/\y<=w:=by
 unfold fj;rw[PO];simp[aF]
def J8{x y w rows:Int}:bK (aF [x,y] w rows) [] [((1:Int),(1:Int))] 0=[x+y]:=by
 simp[bK,jD,gR,fU,fT,iB,gL,jZ,kG,nE,bH,iH,fM,jR,mg,gw,gN,lA,aF,List.range_succ]
 try omega
def J6{x y w:Int}:fj (aF [x,y] w 3) [] [((1:Int),(1:Int))] 0=true↔x+y<=w:=by
 unfold fj;rw[J8];simp[aF]
def Wf{x y w:Int}(hx:1<=x)(hy:1<=y):∀es∈fS (aF [x,y] w 3) [],(1<=es.length/\es.length<=3)/\(∃c∈eU [x,y] w 2 [] [],c.2=es.length)/\(es.length=1->x+y<=w):=by
 intro es h;obtain⟨h1,h2⟩:=List.mem_filter.1 h;have h1:es∈gz (aF [x,y] w 3) [] 3:=h1;rw[JR]at h1;simp only[List.mem_cons,List.not_mem_nil,or_false]at h1;rcases h1 with rfl|rfl
 .obtain⟨g0,g1⟩:=O5.1 h2;exact⟨by decide,⟨_,FZ hx hy g0 g1,rfl⟩,λh=>absurd h (by decide)⟩
 .obtain g0:=J6.1 h2;exact⟨by decide,⟨_,Q8 hx hy g0,rfl⟩,λ_=>g0⟩
def MG{x y w:Int}(h:x+y<=w):[((1:Int),(1:Int))]∈fS (aF [x,y] w 3) []:=by
 refine List.mem_filter.2 ⟨?_,J6.2 h⟩;show[((1:Int),(1:Int))]∈gz (aF [x,y] w 3) [] 3;rw[JR];simp
def OV{x y w:Int}(h:0<=x+y):kV (aF [x,y] w 1)=x+y:=by
 unfold kV;show pJ ((gz (aF [x,y] w 1) [] 1).map _)=_;rw[RK];simp only[List.map_cons,List.map_nil];rw[J8];simp[pJ,xl];omega
def aa2{x y z w rows:Int}(h:(1<=x/\x<=6)/\(1<=y/\y<=6)/\(1<=z/\z<=6))(hw:1<=w/\w<=6)(hr:1<=rows/\rows<=3):ba (aF [x,y,z] w rows)=true:=by
 simp[ba,oF,aF,dD,kN,mA,i_,kc,iQ,List.range_succ];omega
def JZ{x y z w:Int}:gz (aF [x,y,z] w 3) [] 3=[[((0:Int),(1:Int)),((1:Int),(1:Int)),((2:Int),(1:Int))],[((0:Int),(1:Int)),((2:Int),(1:Int))],[((1:Int),(1:Int)),((2:Int),(1:Int))],[((2:Int),(1:Int))]]:=by rfl
def Qz{x y z w:Int}:gz (aF [x,y,z] w 1) [] 1=[[((2:Int),(1:Int))]]:=by rfl
def LC{x y z w rows:Int}:bK (aF [x,y,z] w rows) [] [((0:Int),(1:Int)),((1:Int),(1:Int)),((2:Int),(1:Int))] 0=[x,y,z]:=by
 simp[bK,jD,gR,fU,fT,iB,gL,jZ,kG,nE,bH,iH,fM,jR,mg,gw,gN,lA,aF,List.range_succ]
 try omega
def KY{x y z w:Int}:fj (aF [x,y,z] w 3) [] [((0:Int),(1:Int)),((1:Int),(1:Int)),((2:Int),(1:Int))] 0=true↔x<=w/\y<=w/\z<=w:=by
 unfold fj;rw[LC];simp[aF]
def Nr{x y z w rows:Int}:bK (aF [x,y,z] w rows) [] [((0:Int),(1:Int)),((2:Int),(1:Int))] 0=[x,y+z]:=by
 simp[bK,jD,gR,fU,fT,iB,gL,jZ,kG,nE,bH,iH,fM,jR,mg,gw,gN,lA,aF,List.range_succ]
 try omega
def Pb{x y z w:Int}:fj (aF [x,y,z] w 3) [] [((0:Int),(1:Int)),((2:Int),(1:Int))] 0=true↔x<=w/\y+z<=w:=by
 unfold fj;rw[Nr];simp[aF]
def MD{x y z w rows:Int}:bK (aF [x,y,z] w rows) [] [((1:Int),(1:Int)),((2:Int),(1:Int))] 0=[x+y,z]:=by
 simp[bK,jD,gR,fU,fT,iB,gL,jZ,kG,nE,bH,iH,fM,jR,mg,gw,gN,lA,aF,List.range_succ]
 try omega
def Mi{x y z w:Int}:fj (aF [x,y,z] w 3) [] [((1:Int),(1:Int)),((2:Int),(1:Int))] 0=true↔x+y<=w/\z<=w:=by
 unfold fj;rw[MD];simp[aF]
def JX{x y z w rows:Int}:bK (aF [x,y,z] w rows) [] [((2:Int),(1:Int))] 0=[x+y+z]:=by
 simp[bK,jD,gR,fU,fT,iB,gL,jZ,kG,nE,bH,iH,fM,jR,mg,gw,gN,lA,aF,List.range_succ]
 try omega
def J7{x y z w:Int}:fj (aF [x,y,z] w 3) [] [((2:Int),(1:Int))] 0=true↔x+y+z<=w:=by
 unfold fj;rw[JX];simp[aF]
def Wz{x y z w:Int}(hx:1<=x)(hy:1<=y)(hz:1<=z):∀es∈fS (aF [x,y,z] w 3) [],(1<=es.length/\es.length<=3)/\(∃c∈eU [x,y,z] w 3 [] [],c.2=es.length)/\(es.length=1->x+y+z<=w):=by
 intro es h;obtain⟨h1,h2⟩:=List.mem_filter.1 h;have h1:es∈gz (aF [x,y,z] w 3) [] 3:=h1;rw[JZ]at h1;simp only[List.mem_cons,List.not_mem_nil,or_false]at h1;rcases h1 with rfl|rfl|rfl|rfl
 .obtain⟨g0,g1,g2⟩:=KY.1 h2;exact⟨by decide,⟨_,BG hx hy hz g0 g1 g2,rfl⟩,λh=>absurd h (by decide)⟩
 .obtain⟨g0,g1⟩:=Pb.1 h2;exact⟨by decide,⟨_,Mg hx hy hz g0 g1,rfl⟩,λh=>absurd h (by decide)⟩
 .obtain⟨g0,g1⟩:=Mi.1 h2;exact⟨by decide,⟨_,NN hx hy hz g0 g1,rfl⟩,λh=>absurd h (by decide)⟩
 .obtain g0:=J7.1 h2;exact⟨by decide,⟨_,Qo hx hy hz g0,rfl⟩,λ_=>g0⟩
def NO{x y z w:Int}(h:x+y+z<=w):[((2:Int),(1:Int))]∈fS (aF [x,y,z] w 3) []:=by
 refine List.mem_filter.2 ⟨?_,J7.2 h⟩;show[((2:Int),(1:Int))]∈gz (aF [x,y,z] w 3) [] 3;rw[JZ];simp
def PU{x y z w:Int}(h:0<=x+y+z):kV (aF [x,y,z] w 1)=x+y+z:=by
 unfold kV;show pJ ((gz (aF [x,y,z] w 1) [] 1).map _)=_;rw[Qz];simp only[List.map_cons,List.map_nil];rw[JX];simp[pJ,xl];omega
def Ze{x y z u w rows:Int}(h:(1<=x/\x<=6)/\(1<=y/\y<=6)/\(1<=z/\z<=6)/\(1<=u/\u<=6))(hw:1<=w/\w<=6)(hr:1<=rows/\rows<=3):ba (aF [x,y,z,u] w rows)=true:=by
 simp[ba,oF,aF,dD,kN,mA,i_,kc,iQ,List.range_succ];omega
def Kg{x y z u w:Int}:gz (aF [x,y,z,u] w 3) [] 3=[[((0:Int),(1:Int)),((1:Int),(1:Int)),((3:Int),(1:Int))],[((0:Int),(1:Int)),((2:Int),(1:Int)),((3:Int),(1:Int))],[((0:Int),(1:Int)),((3:Int),(1:Int))],[((1:Int),(1:Int)),((2:Int),(1:Int)),((3:Int),(1:Int))],[((1:Int),(1:Int)),((3:Int),(1:Int))],[((2:Int),(1:Int)),((3:Int),(1:Int))],[((3:Int),(1:Int))]]:=by rfl
def Qb{x y z u w:Int}:gz (aF [x,y,z,u] w 1) [] 1=[[((3:Int),(1:Int))]]:=by rfl
def KU{x y z u w rows:Int}:bK (aF [x,y,z,u] w rows) [] [((0:Int),(1:Int)),((1:Int),(1:Int)),((3:Int),(1:Int))] 0=[x,y,z+u]:=by
 simp[bK,jD,gR,fU,fT,iB,gL,jZ,kG,nE,bH,iH,fM,jR,mg,gw,gN,lA,aF,List.range_succ]
 try omega
def Kz{x y z u w:Int}:fj (aF [x,y,z,u] w 3) [] [((0:Int),(1:Int)),((1:Int),(1:Int)),((3:Int),(1:Int))] 0=true↔x<=w/\y<=w/\z+u<=w:=by
 unfold fj;rw[KU];simp[aF]
def K5{x y z u w rows:Int}:bK (aF [x,y,z,u] w rows) [] [((0:Int),(1:Int)),((2:Int),(1:Int)),((3:Int),(1:Int))] 0=[x,y+z,u]:=by
 simp[bK,jD,gR,fU,fT,iB,gL,jZ,kG,nE,bH,iH,fM,jR,mg,gw,gN,lA,aF,List.range_succ]
 try omega
def LY{x y z u w:Int}:fj (aF [x,y,z,u] w 3) [] [((0:Int),(1:Int)),((2:Int),(1:Int)),((3:Int),(1:Int))] 0=true↔x<=w/\y+z<=w/\u<=w:=by
 unfold fj;rw[K5];simp[aF]
def O3{x y z u w rows:Int}:bK (aF [x,y,z,u] w rows) [] [((0:Int),(1:Int)),((3:Int),(1:Int))] 0=[x,y+z+u]:=by
 simp[bK,jD,gR,fU,fT,iB,gL,jZ,kG,nE,bH,iH,fM,jR,mg,gw,gN,lA,aF,List.range_succ]
 try omega
def Px{x y z u w:Int}:fj (aF [x,y,z,u] w 3) [] [((0:Int),(1:Int)),((3:Int),(1:Int))] 0=true↔x<=w/\y+z+u<=w:=by
 unfold fj;rw[O3];simp[aF]
def KW{x y z u w rows:Int}:bK (aF [x,y,z,u] w rows) [] [((1:Int),(1:Int)),((2:Int),(1:Int)),((3:Int),(1:Int))] 0=[x+y,z,u]:=by
 simp[bK,jD,gR,fU,fT,iB,gL,jZ,kG,nE,bH,iH,fM,jR,mg,gw,gN,lA,aF,List.range_succ]
 try omega
def K9{x y z u w:Int}:fj (aF [x,y,z,u] w 3) [] [((1:Int),(1:Int)),((2:Int),(1:Int)),((3:Int),(1:Int))] 0=true↔x+y<=w/\z<=w/\u<=w:=by
 unfold fj;rw[KW];simp[aF]
def NP{x y z u w rows:Int}:bK (aF [x,y,z,u] w rows) [] [((1:Int),(1:Int)),((3:Int),(1:Int))] 0=[x+y,z+u]:=by
 simp[bK,jD,gR,fU,fT,iB,gL,jZ,kG,nE,bH,iH,fM,jR,mg,gw,gN,lA,aF,List.range_succ]
 try omega
def Pv{x y z u w:Int}:fj (aF [x,y,z,u] w 3) [] [((1:Int),(1:Int)),((3:Int),(1:Int))] 0=true↔x+y<=w/\z+u<=w:=by
 unfold fj;rw[NP];simp[aF]
def NC{x y z u w rows:Int}:bK (aF [x,y,z,u] w rows) [] [((2:Int),(1:Int)),((3:Int),(1:Int))] 0=[x+y+z,u]:=by
 simp[bK,jD,gR,fU,fT,iB,gL,jZ,kG,nE,bH,iH,fM,jR,mg,gw,gN,lA,aF,List.range_succ]
 try omega
def Nv{x y z u w:Int}:fj (aF [x,y,z,u] w 3) [] [((2:Int),(1:Int)),((3:Int),(1:Int))] 0=true↔x+y+z<=w/\u<=w:=by
 unfold fj;rw[NC];simp[aF]
def J_{x y z u w rows:Int}:bK (aF [x,y,z,u] w rows) [] [((3:Int),(1:Int))] 0=[x+y+z+u]:=by
 simp[bK,jD,gR,fU,fT,iB,gL,jZ,kG,nE,bH,iH,fM,jR,mg,gw,gN,lA,aF,List.range_succ]
 try omega
def JC{x y z u w:Int}:fj (aF [x,y,z,u] w 3) [] [((3:Int),(1:Int))] 0=true↔x+y+z+u<=w:=by
 unfold fj;rw[J_];simp[aF]
def T6{x y z u w:Int}(hx:1<=x)(hy:1<=y)(hz:1<=z)(hu:1<=u):∀es∈fS (aF [x,y,z,u] w 3) [],(1<=es.length/\es.length<=3)/\(∃c∈eU [x,y,z,u] w 4 [] [],c.2=es.length)/\(es.length=1->x+y+z+u<=w):=by
 intro es h;obtain⟨h1,h2⟩:=List.mem_filter.1 h;have h1:es∈gz (aF [x,y,z,u] w 3) [] 3:=h1;rw[Kg]at h1;simp only[List.mem_cons,List.not_mem_nil,or_false]at h1;rcases h1 with rfl|rfl|rfl|rfl|rfl|rfl|rfl
 .obtain⟨g0,g1,g2⟩:=Kz.1 h2;exact⟨by decide,⟨_,Kw hx hy hz hu g0 g1 g2,rfl⟩,λh=>absurd h (by decide)⟩
 .obtain⟨g0,g1,g2⟩:=LY.1 h2;exact⟨by decide,⟨_,Lu hx hy hz hu g0 g1 g2,rfl⟩,λh=>absurd h (by decide)⟩
 .obtain⟨g0,g1⟩:=Px.1 h2;exact⟨by decide,⟨_,OK hx hy hz hu g0 g1,rfl⟩,λh=>absurd h (by decide)⟩
 .obtain⟨g0,g1,g2⟩:=K9.1 h2;exact⟨by decide,⟨_,LO hx hy hz hu g0 g1 g2,rfl⟩,λh=>absurd h (by decide)⟩
 .obtain⟨g0,g1⟩:=Pv.1 h2;exact⟨by decide,⟨_,OC hx hy hz hu g0 g1,rfl⟩,λh=>absurd h (by decide)⟩
 .obtain⟨g0,g1⟩:=Nv.1 h2;exact⟨by decide,⟨_,Mk hx hy hz hu g0 g1,rfl⟩,λh=>absurd h (by decide)⟩
 .obtain g0:=JC.1 h2;exact⟨by decide,⟨_,P_ hx hy hz hu g0,rfl⟩,λ_=>g0⟩
def Ot{x y z u w:Int}(h:x+y+z+u<=w):[((3:Int),(1:Int))]∈fS (aF [x,y,z,u] w 3) []:=by
 refine List.mem_filter.2 ⟨?_,JC.2 h⟩;show[((3:Int),(1:Int))]∈gz (aF [x,y,z,u] w 3) [] 3;rw[Kg];simp
def OH{x y z u w:Int}(h:0<=x+y+z+u):kV (aF [x,y,z,u] w 1)=x+y+z+u:=by
 unfold kV;show pJ ((gz (aF [x,y,z,u] w 1) [] 1).map _)=_;rw[Qb];simp only[List.map_cons,List.map_nil];rw[J_];simp[pJ,xl];omega
def Dw{ws:List Int}{w:Int}(hL:ft ws w){x:Int}(hx:x∈ws):1<=x/\x<=6:=hL.2.1 x hx
def tN{ws:List Int}{w rows:Int}(hL:ft ws w)(hr:1<=rows/\rows<=3):ba (aF ws w rows)=true:=by
 have g:=λx hx=>Dw hL (x:=x) hx
 rcases sI hL.1 with⟨x,rfl⟩|⟨x,y,rfl⟩|⟨x,y,z,rfl⟩|⟨x,y,z,u,rfl⟩
 .exact aa7 (g x (by simp)) hL.2.2 hr
 .exact Yg ⟨g x (by simp),g y (by simp)⟩ hL.2.2 hr
 .exact aa2 ⟨g x (by simp),g y (by simp),g z (by simp)⟩ hL.2.2 hr
 .exact Ze ⟨g x (by simp),g y (by simp),g z (by simp),g u (by simp)⟩ hL.2.2 hr
def Ic{ws:List Int}{w:Int}(hL:ft ws w):(∀es∈fS (aF ws w 3) [],(1<=es.length/\es.length<=3)/\(∃c∈eU ws w ws.length [] [],c.2=es.length)/\(es.length=1->ws.sum<=w))/\(ws.sum<=w->∃es∈fS (aF ws w 3) [],es.length=1)/\kV (aF ws w 1)=ws.sum:=by
 have g:=λx hx=>(Dw hL (x:=x) hx).1
 rcases sI hL.1 with⟨x,rfl⟩|⟨x,y,rfl⟩|⟨x,y,z,rfl⟩|⟨x,y,z,u,rfl⟩
 .have e:[x].sum=x:=by simp;try omega
  rw[e];exact⟨VM (g x (by simp)),λh=>⟨_,O9 h,rfl⟩,Pl (by have:=g x (by simp);omega)⟩
 .have e:[x,y].sum=x+y:=by simp;try omega
  rw[e];exact⟨Wf (g x (by simp)) (g y (by simp)),λh=>⟨_,MG h,rfl⟩,OV (by have:=g x (by simp);have:=g y (by simp);omega)⟩
 .have e:[x,y,z].sum=x+y+z:=by simp;try omega
  rw[e];exact⟨Wz (g x (by simp)) (g y (by simp)) (g z (by simp)),λh=>⟨_,NO h,rfl⟩,PU (by have:=g x (by simp);have:=g y (by simp);have:=g z (by simp);omega)⟩
 .have e:[x,y,z,u].sum=x+y+z+u:=by simp;try omega
  rw[e];exact⟨T6 (g x (by simp)) (g y (by simp)) (g z (by simp)) (g u (by simp)),λh=>⟨_,Ot h,rfl⟩,OH (by have:=g x (by simp);have:=g y (by simp);have:=g z (by simp);have:=g u (by simp);omega)⟩
def uT{s:aD}:∀(l:List (List End))(x:List End),∀y∈x::l,(gZ (dK s) x l).length<=y.length
 |[],x,y,hy=>by
  rw[List.mem_singleton]at hy;subst hy;exact Nat.le_refl _
 |z::l,x,y,hy=>by
  have e:gZ (dK s) x (z::l)=gZ (dK s) (if dK s z x then z else x) l:=rfl;rw[e];have ih:=uT (s:=s) l (if dK s z x then z else x);have h0:=ih _ List.mem_cons_self
  have hb:(if dK s z x then z else x).length<=x.length/\(if dK s z x then z else x).length<=z.length:=by
   by_cases hh:dK s z x=true
   .rw[if_pos hh];simp only[dK,uV,Bool.or_eq_true,Bool.and_eq_true,decide_eq_true_eq,beq_iff_eq]at hh;exact⟨by omega,Nat.le_refl _⟩
   .rw[if_neg hh];simp only[dK,uV,Bool.or_eq_true,Bool.and_eq_true,decide_eq_true_eq,beq_iff_eq]at hh;exact⟨Nat.le_refl _,by omega⟩
  rcases List.mem_cons.1 hy with rfl|hy
  .omega
  rcases List.mem_cons.1 hy with rfl|hy
  .omega
  .exact ih y (List.mem_cons_of_mem _ hy)
end Go.Proofs.Tryz
namespace Go.Proofs.Tryz
open Go Go.AL Go.RowKit Go.Proofs Go.Proofs.Tram
attribute [local simp] dS eF dR cW dT cV cZ ck cg dQ cd bP fB fC an aq ev aB.S aB.H aY au aH AL.start AV.cells AV.storable AV.bb aQ aZ aP HR.okB post cU cL cI AV.out AV.bu br bU fz fG AV.vw bR vI int bI az ct cb gB il dM cD aR AV.aw AV.bV dO
def bS:aD:=⟨[6,4,8],[⟨0,1,1,3⟩,⟨2,0,0,2⟩],2,4,5,8,3,[⟨[2,0,1],[],false⟩,⟨[0,2],[1],true⟩],18,2⟩
def aS:bG:=⟨[(6,8),(4,6),(8,10),(2,4),(6,6),(5,9),(8,12),(4,4)],[0,2,3,5,6],[(9,20),(10,20),(8,30)]⟩
def QN:vP bS=3:=by kernel_rfl
def SD:ba bS=true:=by kernel_rfl
def QZ:oz aS=true:=by kernel_rfl
def N3:qL aS=[0,2,5]::(qL aS).tail:=by kernel_rfl
def Ws:(qL aS).length=1:=by kernel_rfl
def Sf:rH bS:=⟨by decide,by decide,by decide,λw hw=>by
 simp[bS]at hw;rcases hw with rfl|rfl<;>decide,λw hw=>by
 simp[bS]at hw;rcases hw with rfl|rfl<;>decide⟩
def QW:Hd aS:=⟨by decide,by decide,by decide,λ_=>by rw[Ws];decide⟩
variable{GI:World->Prop}
def CB(hG:av GI)(a b:Int):AC prog GI 139 [.int .i64 a,.int .i64 b] (.ret (cz (a,b))):=by
 obtain⟨i33,xF,vt⟩:=iZ 33 2;obtain⟨fs,lM⟩:=uZ 33;refine dZ hG func139 ntmps139 c139 ?_;simp[c139,xF,vt,lM,fE,cz,dH]
def xw(hG:av GI)(a b:Int):AC prog GI 68 [.int .i64 a,.int .i64 b] (.ret (cz (a,b))):=by
 obtain⟨i33,xF,vt⟩:=iZ 33 2;obtain⟨fs,lM⟩:=uZ 33;refine dZ hG func68 ntmps68 c68 ?_;simp[c68,xF,vt,lM,fE,cz,dH]
def aaY(hG:av GI):AC prog GI 67 [] (.ret (ee { bS with wide:=21 })):=by
 obtain⟨i36,uW,vv⟩:=iZ 36 10;obtain⟨fs,lM⟩:=uZ 36;refine dZ hG func67 ntmps67 c67 ?_;simp[c67,aC];refine oc (CB hG 1 3) ?_;simp[cz,dH,aC];refine oc (CB hG 0 2) ?_;simp[cz,dH,aC];refine oc (CB hG 2 4) ?_;simp[cz,dH,aC];refine oc (CB hG 5 8) ?_;simp[cz,dH,aC,uW,vv,lM,fE,ee,aA,bS,ez,iv,ints]
def XY(hG:av GI):AC prog GI 21 [] (.ret (ee bS)):=by
 obtain⟨i36,uW,vv⟩:=iZ 36 10;obtain⟨fs,lM⟩:=uZ 36;refine dZ hG func21 ntmps21 c21 ?_;simp[c21];refine oc (aaY hG) ?_;simp[ee,aA,bS,uW,vv,lM,fE,ez,iv,ints]
def aa9(hG:av GI):AC prog GI 23 [] (.ret (mB aS)):=by
 obtain⟨i30,Z6,Y3⟩:=iZ 30 3;obtain⟨fs,lM⟩:=uZ 30;refine dZ hG func23 ntmps23 c23 ?_;simp[c23];refine oc (xw hG 6 8) ?_;simp[cz];refine oc (xw hG 4 6) ?_;simp[cz];refine oc (xw hG 8 10) ?_;simp[cz];refine oc (xw hG 2 4) ?_;simp[cz];refine oc (xw hG 6 6) ?_;simp[cz];refine oc (xw hG 5 9) ?_;simp[cz];refine oc (xw hG 8 12) ?_;simp[cz];refine oc (xw hG 4 4) ?_;simp[cz,dH,aC,Z6,Y3,lM,fE,mB,cq,aS,bz,ints]
def aaI(hG:av GI)(l:List Int)(hl:l.length<1000):AC prog GI 24 [vI l,vI l] (.ret (.bool true)):=by
 refine dZ hG func24 ntmps24 c24 ?_;simp[c24];refine dE 5 l.length (λi S H=>S 0=vI l/\S 1=vI l/\S 5=.int .i64 (i:Nat)) (λi S H h=>h.2.2) ⟨by simp,by simp,by simp⟩ ?_;rintro i hi S H ⟨s0,s1,s5⟩
 by_cases ao:i<l.length
 .have hw:IntKind.i64.wrap ((i:Int)+1)=i+1:=bl (by omega)
  have hn:¬(i:Int)<0:=by omega
  simp[s0,s1,s5,ao,hw,hn,cM,gV,aI]
 .have ec:i=l.length:=by omega
  subst ec;simp[s0,s1,s5]
def ac7:AC prog GT 7 [] (.ret (.bool true)):=by
 have hG:av GT:=eK;have Q6:=aaW hG bS Sf;have Qk:=aat aS QW
 have WZ:DF bS=[.int .i64 3,.int .i64 0]:=by unfold DF;rw[if_pos SD,QN]<;>rfl
 have MT:yr aS=[vI [0,2,5],.int .i64 0]:=by unfold yr;rw[if_pos QZ,N3]
 rw[WZ]at Q6;rw[MT]at Qk;refine dZ hG func7 ntmps7 c7 ?_;simp[c7];refine oc (XY hG) ?_;simp[ee,aA];refine oc Q6 ?_;simp;refine oc (aa9 hG) ?_;simp[mB,cq];refine oc Qk ?_;simp[aC];refine oc (aaI hG [0,2,5] (by decide)) ?_;simp
end Go.Proofs.Tryz
namespace Go.Proofs.Tryz
open Go Go.AL Go.RowKit Go.Proofs Go.Proofs.Tram
attribute [local simp] dS eF dR cW dT cV cZ ck cg dQ cd bP fB fC an aq ev aB.S aB.H aY au aH AL.start AV.cells AV.storable AV.bb aQ aZ aP HR.okB post cU cL cI AV.out AV.bu br bU fz fG AV.vw bR vI int bI az ct cb gB il dM cD aR AV.aw AV.bV dO
def vM{n lo hi:Int}:dD n lo hi=true↔lo<=n/\n<=hi:=by simp[dD]
def E6{w:Int}(hw:0<=w):∀(l:List Int)(a:Int),l.foldl max a<=w↔a<=w/\∀x∈l,x<=w
 |[],a=>by simp
 |x::l,a=>by
  rw[List.foldl_cons,E6 hw l (max a x)];simp only[List.mem_cons,forall_eq_or_imp]
  constructor
  .rintro⟨h1,h2⟩;exact⟨by omega,by omega,h2⟩
  .rintro⟨h1,h2,h3⟩;exact⟨by omega,h3⟩
def Cv:∀l:List Int,(∀x∈l,1<=x/\x<=6)->0<=l.sum/\l.sum<=6*l.length
 |[],_=>by simp
 |y::k,h=>by
  have h1:=h y (by simp)
  have h2:=Cv k λz hz=>h z (by simp[hz])
  simp only[List.sum_cons,List.length_cons];omega
def EP{ws:List Int}{w:Int}(hL:ft ws w)(h:∀x∈ws,x<=w):kK ws w≠[]:=by
 have g:=λx hx=>(Dw hL (x:=x) hx).1
 unfold kK
 rcases sI hL.1 with⟨x,rfl⟩|⟨x,y,rfl⟩|⟨x,y,z,rfl⟩|⟨x,y,z,u,rfl⟩
 .exact List.ne_nil_of_mem (JU (g x (by simp)) (h x (by simp)))
 .exact List.ne_nil_of_mem (FZ (g x (by simp)) (g y (by simp)) (h x (by simp)) (h y (by simp)))
 .exact List.ne_nil_of_mem (BG (g x (by simp)) (g y (by simp)) (g z (by simp)) (h x (by simp)) (h y (by simp)) (h z (by simp)))
 .exact List.ne_nil_of_mem (IA (g x (by simp)) (g y (by simp)) (g z (by simp)) (g u (by simp)) (h x (by simp)) (h y (by simp)) (h z (by simp)) (h u (by simp)))
def OJ{ws:List Int}{w:Int}(hL:ft ws w){c:lZ}(h:c∈kK ws w):∀x∈ws,x<=w:=by
 intro x hx;obtain⟨k,hk,rfl⟩:=List.getElem_of_mem hx;exact Gj hL.2.1 ws.length [] [] c (by simp) h k hk (by simp)
def F7 {ws:List Int} {w:Int} (hL:ft ws w):∃ (vr ve vl vf:Int) (L:List AV),tK (aF ws w 3)=[.int .i64 vr,.int .i64 ve]∧Ga ws w=[.slice .view L,.int .i64 vl,.int .i64 vf]∧rm (aF ws w 1)=[.int .i64 ws.sum,.int .i64 0] ∧
  aG ws w (2^ws.length-1)=decide (ws.sum<=w)/\(vf=0\/vf=5)/\(vf=0↔ws.foldl max 0<=w)/\((ve=5/\¬ws.sum<=w)\/(ve=0/\vf=0/\1<=vl/\vl<=vr/\(vl=1↔vr=1)/\(vr=1↔ws.sum<=w))):=by
 obtain⟨Mv,jY,XV⟩:=Ic hL;obtain⟨b1,b2,b3⟩:=G6 (kK ws w)
 have xX:(0:Int)<=w:=by have:=hL.2.2;omega
 have BO:=E6 xX ws 0
 have jV:aG ws w (2^ws.length-1)=decide (ws.sum<=w):=by unfold aG;rw[Pn hL.1]
 have e3:rm (aF ws w 1)=[.int .i64 ws.sum,.int .i64 0]:=by
  unfold rm;rw[if_pos (tN hL (by decide)),XV]
 have ph:∃(vl vf:Int)(L:List AV),Ga ws w=[.slice .view L,.int .i64 vl,.int .i64 vf]/\(vf=0\/vf=5)/\(vf=0↔ws.foldl max 0<=w)/\(kK ws w≠[]->∃c0∈lH (kK ws w),vl=(c0.2:Nat)/\vf=0):=by
  unfold Ga
  cases hb:lH (kK ws w)with
  |nil=>
   have nk:kK ws w=[]:=by
    rcases Decidable.em (kK ws w=[])with h|h
    .exact h
    .exact absurd hb (b3 h)
   refine⟨0,5,[],rfl,.inr rfl,⟨λh=>absurd h (by decide),λh=>?_⟩,λh=>absurd nk h⟩;exact absurd nk (EP hL (BO.1 h).2)
  |cons c l=>
   refine⟨(c.2:Nat),0,dL c.1,rfl,.inl rfl,⟨λ_=>BO.2 ⟨xX,OJ hL (b1 c (by rw[hb];exact List.mem_cons_self))⟩,λ_=>rfl⟩,λ_=>⟨c,List.mem_cons_self,rfl,rfl⟩⟩
 obtain⟨vl,vf,L,e2,Fy,EA,hex⟩:=ph
 cases hg:fS (aF ws w 3) []with
 |nil=>
  have ov:tK (aF ws w 3)=[.int .i64 0,.int .i64 5]:=by
   unfold tK;rw[if_pos (tN hL (by decide)),hg]
  rw[hg]at jY;refine⟨0,5,vl,vf,L,ov,e2,e3,jV,Fy,EA,.inl ⟨rfl,λh=>?_⟩⟩;obtain⟨es,he,_⟩:=jY h;cases he
 |cons x l=>
  have ov:tK (aF ws w 3)=[.int .i64 (gZ (dK (aF ws w 3)) x l).length,.int .i64 0]:=by
   unfold tK;rw[if_pos (tN hL (by decide)),hg]
  rw[hg]at jY Mv;have rL:=qz (dK (aF ws w 3)) l x;have Jp:=uT (s:=aF ws w 3) l x
  obtain⟨b,hb⟩:∃b,gZ (dK (aF ws w 3)) x l=b:=⟨_,rfl⟩
  rw[hb]at rL Jp ov;obtain⟨⟨g1,g3⟩,⟨c,hc,ig⟩,g4⟩:=Mv b rL;obtain⟨c0,Bg,rfl,rfl⟩:=hex (List.ne_nil_of_mem hc);have p1:=Mz hL.1.1 (b1 c0 Bg);have p2:=b2 c0 Bg c hc
  have PH:ws.sum<=w->b.length=1:=λh=>by
   obtain⟨es,he,kz⟩:=jY h;have:=Jp es he;omega
  refine⟨(b.length:Nat),0,(c0.2:Nat),0,L,ov,e2,e3,jV,Fy,EA,.inr ⟨rfl,rfl,by omega,by omega,⟨λh=>?_,λh=>by omega⟩,⟨λh=>g4 (by omega),λh=>by have:=PH h;omega⟩⟩⟩
  have h1:c0.2=1:=by omega
  have:=KD hL.1 (b1 c0 Bg) h1;rw[jV]at this;have:=PH (of_decide_eq_true this);omega
def JI{cc:Nat->Nat->Prop}{w:World}{Q:gy}{S:af}{H:ah}(h:S 4=.bool true)(hQ:sj prog 189 [.tmp 4] (.ret (.bool true)) cc .ret (Old.plain cc w) S H->Q .ret (Old.plain cc w) S H):SW prog GT 189 none .ret Q (Old.plain cc w) S H:=
 SW.ret (hQ ⟨fq.plain rfl,rfl,_,by simp[cU,cL,cI,h,AV.out,AV.bu,AV.aw],rfl⟩)
def By(ws:List Int)(w rows:Int):ee (aF ws w rows)=.agg [.slice .view (ints ws),.slice .view [],.int .i64 0,.int .i64 0,.int .i64 0,.int .i64 0,.int .i64 1,.slice .view (jg ws.length),.int .i64 w,.int .i64 rows]:=by
 have:((List.range ws.length).map λi:Nat=>(⟨[(i:Int)],[],false⟩:Word)).map ez=jg ws.length:=by
  unfold jg
  rw[List.map_map]<;>rfl
 simp only[ee,aA,aF,vI,this,List.map_nil]
def ac4(ws:List Int)(w:Int):AC prog GT 4 [vI ws,.int .i64 w] (.ret (.bool true)):=by
 have hG:av GT:=eK;have h7:=ac7
 refine AC.kP func4 rfl ntmps4 (by simp) λcc W=>?_
 refine eD eK c4.qa (λS H=>S 0=vI ws/\S 1=.int .i64 w) ?_ ?_
 .simp[c4,ae.qa]
 rintro S1 H1 ⟨s0,s1⟩;refine eD eK c4.qb.qa (λS H=>S 0=vI ws/\S 1=.int .i64 w/\S 5=.int .i64 ws.length) ?_ ?_
 .simp[c4,ae.qa,ae.qb,s0,s1]
 clear s0 s1;rintro S1 H1 ⟨s0,s1,s5⟩;refine SW.seq ?_;refine eD eK c4.qb.qb.qa.qa (λS H=>S 0=vI ws/\S 1=.int .i64 w/\S 5=.int .i64 ws.length/\S 30=.bool (!(dD ws.length 1 4&&dD w 1 6))) ?_ ?_
 .simp[c4,ae.qa,ae.qb,s0,s1,s5];refine oc (Ni hG _ _ _) ?_;cases e1:dD ws.length 1 4
  .simp[s0,s1,s5]
  simp[s0,s1,s5];refine oc (Ni hG _ _ _) ?_
  cases e2:dD w 1 6<;>simp[s0,s1,s5]
 clear s0 s1 s5;rintro S1 H1 ⟨s0,s1,s5,Dp⟩
 cases kJ:(dD ws.length 1 4&&dD w 1 6)with
 |false=>
  refine SW.cond rfl true (by show S1 30=_;rw[Dp,kJ]<;>rfl) ?_;refine eD eK c4.qb.qb.qa.qb.qa.qa (λS H=>S 4=.bool true) ?_ ?_
  .simp[c4,ae.qa,ae.qb];refine oc h7 ?_;simp
  .intro S2 H2 s4;exact JI s4 id
 |true=>
  refine SW.cond rfl false (by show S1 30=_;rw[Dp,kJ]<;>rfl) (SW.skip ?_);simp only[Bool.and_eq_true,vM]at kJ;obtain⟨hn,hww⟩:=kJ
  have oO:1<=ws.length/\ws.length<=4:=by omega
  show SW prog GT 189 none (.seq _ (.seq _ (.seq _ (.seq _ (.seq (.seq _ (.block 0 (.loop _))) _))))) _ _ _ _;refine eD eK eH.qa (λS H=>S 0=vI ws/\S 1=.int .i64 w/\S 5=.int .i64 ws.length/\S 6=.box 6 0/\H 6=some (gD ws w 3 0 0)) ?_ ?_
  .simp[c4,eH,ae.qa,ae.qb,s0,s1,s5,dH,gD,om,jg,ints]
  clear s0 s1 s5 Dp S1 H1;rintro S1 H1 ⟨s0,s1,s5,s6,h6⟩;refine eD eK eH.qb.qa (λS H=>S 0=vI ws/\S 1=.int .i64 w/\S 5=.int .i64 ws.length/\S 6=.box 6 0/\H 6=some (gD ws w 3 0 0)/\S 7=.box 7 0/\∃o,H 7=some [.int .i64 w,.int .i64 1,.int .i64 25,.int .i64 0,.slice o [fg],.slice .nil []]) ?_ ?_
  .generalize gD ws w 3 0 0=SB at h6⊢;simp[c4,eH,ae.qa,ae.qb,s0,s1,s5,s6,h6,dH,fg,aC]
   try exact⟨_,rfl⟩
  clear s0 s1 s5 s6 h6 S1 H1;rintro S1 H1 ⟨s0,s1,s5,s6,h6,s7,o,kU⟩;refine eD eK eH.qb.qb.qa (λS H=>S 0=vI ws/\S 1=.int .i64 w/\S 5=.int .i64 ws.length/\S 6=.box 6 0/\H 6=some (gD ws w 3 0 0)/\S 7=.box 7 0/\(∃o,H 7=some [.int .i64 w,.int .i64 1,.int .i64 25,.int .i64 0,.slice o [fg],.slice .nil []])/\S 8=.int .i64 0/\S 9=.int .i64 0) ?_ ?_
  .generalize gD ws w 3 0 0=SB at h6⊢;simp[c4,eH,ae.qa,ae.qb,s0,s1,s5,s6,h6,s7,kU]
   try exact⟨_,rfl⟩
  clear s0 s1 s5 s6 h6 s7 kU o S1 H1;rintro S1 H1 ⟨s0,s1,s5,s6,h6,s7,⟨o,kU⟩,s8,s9⟩;refine eD eK eH.qb.qb.qb.qa (λS H=>S 0=vI ws/\S 1=.int .i64 w/\S 5=.int .i64 ws.length/\S 6=.box 6 0/\H 6=some (gD ws w 3 0 0)/\S 7=.box 7 0/\(∃o,H 7=some [.int .i64 w,.int .i64 1,.int .i64 25,.int .i64 0,.slice o [fg],.slice .nil []])/\S 8=.int .i64 0/\S 9=.int .i64 0/\S 10=.slice .nil []) ?_ ?_
  .generalize gD ws w 3 0 0=SB at h6⊢;simp[c4,eH,ae.qa,ae.qb,s0,s1,s5,s6,h6,s7,kU,s8,s9]
   try exact⟨_,rfl⟩
  clear s0 s1 s5 s6 h6 s7 kU o s8 s9 S1 H1;rintro S1 H1 ⟨s0,s1,s5,s6,h6,s7,⟨o,kU⟩,s8,s9,bW⟩;refine SW.seq (eD eK sR.qa (F4 ws w 0 0 0 0 0 0) ?_ ?_)
  .unfold F4;generalize gD ws w 3 0 0=SB at h6⊢;simp[c4,eH,sR,ae.qa,ae.qb,s0,s1,s5,s6,h6,s7,kU,s8,s9,bW,om,iR,ints]
   try exact⟨_,rfl⟩
  clear s0 s1 s5 s6 h6 s7 kU o s8 s9 bW S1 H1;intro S1 H1 hF;refine SW.block (SW.loop (λo' S' H'=>∃i,o'=Old.plain cc W/\i<=ws.length/\(∀j (hj:j<ws.length),j<i->1<=ws[j]/\ws[j]<=6)/\F4 ws w i i i i i i S' H') (λS' _=>match S' 11 with|.int _ j=>ws.length-j.toNat|_=>0) ⟨0,rfl,Nat.zero_le _,λj _ h=>absurd h (by omega),hF⟩ ?_);clear hF S1 H1;rintro o' S1 H1 ⟨i,rfl,hi,Jv,hF⟩;have m11:S1 11=.int .i64 (i:Nat):=hF.2.2.2.2.2.2.2.2.2.2;show SW prog GT 189 none (.seq (.seq _ (.cond _ _ _)) (.seq (.block 1 (.seq (.seq _ (.cond _ _ _)) (.seq _ (.seq _ (.seq _ (.seq _ _)))))) _)) _ _ _ _;refine SW.seq (eD eK sU.qa.qa (λS' H'=>S' 41=.bool (decide (i<ws.length))/\F4 ws w i i i i i i S' H') ?_ ?_)
  .obtain⟨s0,s1,s5,s6,h6,s7,⟨o,kU⟩,s8,s9,bW,de⟩:=hF;unfold F4;generalize gD ws w 3 i i=SB at h6⊢;generalize(ws.take i).map cw=RP at kU⊢;generalize(ws.take i).sum=y8 at s8⊢;generalize(ws.take i).foldl max 0=y9 at s9⊢;generalize ints (iR i)=RS at bW⊢;simp[c4,eH,sU,sR,ae.qa,ae.qb,s0,s1,s5,s6,h6,s7,kU,s8,s9,bW,de]
   try exact⟨_,rfl⟩
   try (cases om i 3<;>simp)
  clear hF;rintro S2 H2 ⟨Vv,hF⟩
  by_cases ao:i<ws.length
  case neg=>
   refine SW.cond rfl false (by show S2 41=_;rw[Vv];simp[ao]) (SW.exit ?_)
   have ec:i=ws.length:=by omega
   subst ec
   have hL:ft ws w:=⟨oO,λx hx=>by
    obtain⟨j,hj,rfl⟩:=List.getElem_of_mem hx
    exact Jv j hj hj,hww⟩
   obtain⟨vr,ve,vl,vf,L,e1,e2,e3,e4,Fy,EA,mf⟩:=F7 hL;have q1:=ZJ hG _ (vd (w:=w) (rows:=3) oO.2);have q2:=aa4 (GI:=GT) hG hL;have q3:=X9 (GI:=GT) hG hL;have q4:=Wx hG _ (vd (w:=w) (rows:=1) oO.2);rw[e1,By]at q1;rw[e2]at q2;rw[e4]at q3;rw[e3,By]at q4;unfold jl bJ at q2 q3;have E9:=Cv ws hL.2.1;obtain⟨s0,s1,s5,s6,h6,s7,⟨o,kU⟩,s8,s9,bW,de⟩:=hF;rw[List.take_length]at kU s8 s9;have z3:om ws.length 3=.own 3:=ox (by omega) 3;have z58:om ws.length 58=.own 58:=ox (by omega) 58;have z60:om ws.length 60=.own 60:=ox (by omega) 60;unfold gD at h6;rw[List.take_length,z3,z58]at h6;rw[z60]at kU;rw[z3]at bW
   have Tq:(ints ws)≠[]:=λh=>by have:=congrArg List.length h;simp[ints]at this;rw[this]at oO;simp at oO
   generalize jg ws.length=WJ at h6 q1 q4;generalize ints ws=IW at h6 q1 q4 Tq;have q3:AC prog GT 16 [.agg [.int .i64 w,.int .i64 1,.int .i64 25,.int .i64 0,.slice .view [fg],.slice .view (ws.map cw)],.slice .view (ints (iR ws.length))] (.ret (.fZ [.bool (decide (ws.sum<=w)),.int .i64 0])):=q3;generalize ints (iR ws.length)=RS at bW q3;generalize ws.map cw=RP at kU q2 q3;generalize ws.sum=su at s8 q3 q4 mf;generalize ws.foldl max 0=mo at s9 EA;clear e1 e2 e3 e4 hL Jv E9 Tq z3 z58 z60 m11 Vv ao;show SW prog GT 189 none (.seq _ (.seq _ (.seq _ (.seq _ (.seq _ (.seq (.seq _ (.cond _ _ _)) (.seq (.seq _ (.cond _ _ _)) (.seq _ .ret)))))))) _ _ _ _;refine eD eK iI.qa (λS H=>S 1=.int .i64 w/\S 6=.box 6 0/\H 6=some [.slice (.own 3) IW,.slice .nil [],.int .i64 0,.int .i64 0,.int .i64 0,.int .i64 0,.int .i64 1,.slice (.own 58) WJ,.int .i64 w,.int .i64 3]/\S 7=.box 7 0/\(∃o,H 7=some [.int .i64 w,.int .i64 1,.int .i64 25,.int .i64 0,.slice o [fg],.slice (.own 60) RP])/\S 8=.int .i64 su/\S 9=.int .i64 mo/\S 10=.slice (.own 3) RS/\S 12=.int .i64 vr/\S 13=.int .i64 ve) ?_ ?_
   .simp[c4,eH,iI,ae.qa,ae.qb,s1,s6,h6,s7,kU,s8,s9,bW];refine oc q1 ?_;simp[s1,s6,h6,s7,kU,s8,s9,bW]
    try exact⟨_,rfl⟩
   clear s0 s1 s5 s6 h6 s7 kU o s8 s9 bW de S2 H2 q1;rintro S2 H2 ⟨s1,s6,h6,s7,⟨o,kU⟩,s8,s9,bW,bn,dz⟩;refine eD eK iI.qb.qa (λS H=>S 1=.int .i64 w/\S 6=.box 6 0/\H 6=some [.slice (.own 3) IW,.slice .nil [],.int .i64 0,.int .i64 0,.int .i64 0,.int .i64 0,.int .i64 1,.slice (.own 58) WJ,.int .i64 w,.int .i64 3]/\S 7=.box 7 0/\(∃o,H 7=some [.int .i64 w,.int .i64 1,.int .i64 25,.int .i64 0,.slice o [fg],.slice (.own 60) RP])/\S 8=.int .i64 su/\S 9=.int .i64 mo/\S 10=.slice (.own 3) RS/\S 12=.int .i64 vr/\S 13=.int .i64 ve/\S 15=.int .i64 vl/\S 16=.int .i64 vf) ?_ ?_
   .cases o
    all_goals
     simp[c4,eH,iI,ae.qa,ae.qb,s1,s6,h6,s7,kU,s8,s9,bW,bn,dz];refine oc q2 ?_;simp[s1,s6,h6,s7,kU,s8,s9,bW,bn,dz]
     try exact⟨_,rfl⟩
   clear s1 s6 h6 s7 kU o s8 s9 bW bn dz S2 H2 q2;rintro S2 H2 ⟨s1,s6,h6,s7,⟨o,kU⟩,s8,s9,bW,bn,dz,kj,iM⟩;refine eD eK iI.qb.qb.qa (λS H=>S 1=.int .i64 w/\S 6=.box 6 0/\H 6=some [.slice (.own 3) IW,.slice .nil [],.int .i64 0,.int .i64 0,.int .i64 0,.int .i64 0,.int .i64 1,.slice (.own 58) WJ,.int .i64 w,.int .i64 3]/\S 8=.int .i64 su/\S 9=.int .i64 mo/\S 12=.int .i64 vr/\S 13=.int .i64 ve/\S 15=.int .i64 vl/\S 16=.int .i64 vf/\S 17=.bool (decide (su<=w))/\S 18=.int .i64 0) ?_ ?_
   .cases o
    all_goals
     simp[c4,eH,iI,ae.qa,ae.qb,s1,s6,h6,s7,kU,s8,s9,bW,bn,dz,kj,iM];refine oc q3 ?_;simp[s1,s6,h6,s8,s9,bn,dz,kj,iM]
   clear s1 s6 h6 s7 kU o s8 s9 bW bn dz kj iM S2 H2 q3;rintro S2 H2 ⟨s1,s6,h6,s8,s9,bn,dz,kj,iM,lY,nb⟩;refine eD eK iI.qb.qb.qb.qa (λS H=>S 1=.int .i64 w/\S 6=.box 6 0/\H 6=some [.slice (.own 3) IW,.slice .nil [],.int .i64 0,.int .i64 0,.int .i64 0,.int .i64 0,.int .i64 1,.slice (.own 58) WJ,.int .i64 w,.int .i64 1]/\S 8=.int .i64 su/\S 9=.int .i64 mo/\S 12=.int .i64 vr/\S 13=.int .i64 ve/\S 15=.int .i64 vl/\S 16=.int .i64 vf/\S 17=.bool (decide (su<=w))/\S 18=.int .i64 0) ?_ ?_
   .simp[c4,eH,iI,ae.qa,ae.qb,s1,s6,h6,s8,s9,bn,dz,kj,iM,lY,nb]
   clear s1 s6 h6 s8 s9 bn dz kj iM lY nb S2 H2;rintro S2 H2 ⟨s1,s6,h6,s8,s9,bn,dz,kj,iM,lY,nb⟩;refine eD eK iI.qb.qb.qb.qb.qa (λS H=>S 1=.int .i64 w/\S 8=.int .i64 su/\S 9=.int .i64 mo/\S 12=.int .i64 vr/\S 13=.int .i64 ve/\S 15=.int .i64 vl/\S 16=.int .i64 vf/\S 17=.bool (decide (su<=w))/\S 18=.int .i64 0/\S 19=.int .i64 su/\S 20=.int .i64 0) ?_ ?_
   .simp[c4,eH,iI,ae.qa,ae.qb,s1,s6,h6,s8,s9,bn,dz,kj,iM,lY,nb];refine oc q4 ?_;simp[s1,s8,s9,bn,dz,kj,iM,lY,nb]
   clear s1 s6 h6 s8 s9 bn dz kj iM lY nb S2 H2 q4;rintro S2 H2 ⟨s1,s8,s9,bn,dz,kj,iM,lY,nb,AN,AX⟩
   have Q3:ve=0\/ve=5:=by rcases mf with⟨h,_⟩|⟨h,_⟩<;>omega
   refine SW.seq (eD eK iI.qb.qb.qb.qb.qb.qa.qa (λS H=>S 12=.int .i64 vr/\S 13=.int .i64 ve/\S 15=.int .i64 vl/\S 16=.int .i64 vf/\S 17=.bool (decide (su<=w))/\S 158=.bool false) ?_ ?_)
   .rcases Q3 with rfl|rfl<;>rcases Fy with rfl|rfl
    .have hm:mo<=w:=EA.1 rfl;simp[c4,eH,iI,ae.qa,ae.qb,s1,s8,s9,bn,dz,kj,iM,lY,nb,AN,AX,hm]
    .have hm:¬mo<=w:=λh=>absurd (EA.2 h) (by decide)
     simp[c4,eH,iI,ae.qa,ae.qb,s1,s8,s9,bn,dz,kj,iM,lY,nb,AN,AX,hm]
    .have hm:mo<=w:=EA.1 rfl;simp[c4,eH,iI,ae.qa,ae.qb,s1,s8,s9,bn,dz,kj,iM,lY,nb,AN,AX,hm]
    .have hm:¬mo<=w:=λh=>absurd (EA.2 h) (by decide)
     simp[c4,eH,iI,ae.qa,ae.qb,s1,s8,s9,bn,dz,kj,iM,lY,nb,AN,AX,hm]
   clear s1 s8 s9 bn dz kj iM lY nb AN AX S2 H2;rintro S2 H2 ⟨bn,dz,kj,iM,lY,SK⟩;refine SW.cond rfl false (by show S2 158=_;rw[SK]) (SW.skip ?_);show SW prog GT 189 none (.seq (.seq _ (.cond _ _ _)) (.seq _ .ret)) _ _ _ _;refine SW.seq (eD eK iI.qb.qb.qb.qb.qb.qb.qa.qa (λS H=>S 12=.int .i64 vr/\S 15=.int .i64 vl/\S 16=.int .i64 vf/\S 17=.bool (decide (su<=w))/\S 160=.bool (decide (ve≠0))) ?_ ?_)
   .rcases Q3 with rfl|rfl<;>simp[c4,eH,iI,ae.qa,ae.qb,bn,dz,kj,iM,lY]
   clear bn dz kj iM lY SK S2 H2;rintro S2 H2 ⟨bn,kj,iM,lY,TE⟩
   rcases mf with⟨rfl,c1⟩|⟨rfl,rfl,c1,c2,c3,c4'⟩
   .refine SW.cond rfl true (by show S2 160=_;rw[TE]<;>rfl) ?_;refine eD eK iI.qb.qb.qb.qb.qb.qb.qa.qb.qa.qa (λS H=>S 4=.bool true) ?_ ?_
    .simp[c4,eH,iI,ae.qa,ae.qb,bn,kj,iM,lY,c1];refine oc h7 ?_;simp
    .intro S3 H3 s4;exact JI s4 id
   .refine SW.cond rfl false (by show S2 160=_;rw[TE]<;>rfl) (SW.skip ?_);show SW prog GT 189 none (.seq _ .ret) _ _ _ _;refine eD eK iI.qb.qb.qb.qb.qb.qb.qb.qa (λS H=>S 4=.bool true) ?_ ?_
    .have i1:dD vl 1 vr=true:=vM.2 ⟨c1,c2⟩
     by_cases h1:vr=1
     .have h2:vl=1:=c3.2 h1;have h3:su<=w:=c4'.1 h1;subst h1 h2;simp[c4,eH,iI,ae.qa,ae.qb,bn,kj,iM,lY,h3];refine oc (Ni hG _ _ _) ?_;simp[i1,bn,kj,iM,lY,h3];refine oc h7 ?_;simp
     .have h2:vl≠1:=λh=>h1 (c3.1 h)
      have h3:¬su<=w:=λh=>h1 (c4'.2 h)
      have b1:(vr==1)=false:=by simpa using h1
      have b2:(vl==1)=false:=by simpa using h2
      simp[c4,eH,iI,ae.qa,ae.qb,bn,kj,iM,lY,h3];refine oc (Ni hG _ _ _) ?_;simp[i1,bn,kj,iM,lY,h3,b1,b2];refine oc h7 ?_;simp
    .intro S3 H3 s4;exact JI s4 id
  refine SW.cond rfl true (by show S2 41=_;rw[Vv];simp[ao]) (SW.skip ?_);show SW prog GT 189 none (.seq (.block 1 (.seq (.seq _ (.cond _ _ _)) (.seq _ (.seq _ (.seq _ (.seq _ _)))))) _) _ _ _ _;refine SW.seq (SW.block (SW.seq (eD eK tY.qa.qa (λS' H'=>S' 49=.bool (!dD ws[i] 1 6)/\F4 ws w i i i i i i S' H') ?_ ?_)))
  .obtain⟨s0,s1,s5,s6,h6,s7,⟨o,kU⟩,s8,s9,bW,de⟩:=hF
   have bt:¬(i:Int)<0:=by omega
   have a6:=Ni hG ws[i] 1 6;unfold F4;generalize gD ws w 3 i i=SB at h6⊢;generalize(ws.take i).map cw=RP at kU⊢;generalize(ws.take i).sum=y8 at s8⊢;generalize(ws.take i).foldl max 0=y9 at s9⊢;generalize ints (iR i)=RS at bW⊢;simp[c4,eH,sU,sR,tY,ae.qa,ae.qb,s0,s1,s5,s6,h6,s7,kU,s8,s9,bW,de,ao,bt];refine oc a6 ?_;simp[s0,s1,s5,s6,h6,s7,kU,s8,s9,bW,de,ao,bt]
   try exact⟨_,rfl⟩
  clear hF;rintro S3 H3 ⟨KH,hF⟩
  cases kW:dD ws[i] 1 6 with
  |false=>
   refine SW.cond rfl true (by show S3 49=_;rw[KH,kW]<;>rfl) ?_;refine eD eK tY.qa.qb.qa.qa (λS H=>S 4=.bool true) ?_ ?_
   .simp[c4,eH,sU,sR,tY,ae.qa,ae.qb];refine oc h7 ?_;simp
   .intro S4 H4 s4;exact JI s4 id
  |true=>
   refine SW.cond rfl false (by show S3 49=_;rw[KH,kW]<;>rfl) (SW.skip ?_);have hxi:=vM.1 kW
   have uR:=Cv (ws.take i) λx hx=>by
    obtain⟨j,hj,rfl⟩:=List.getElem_of_mem hx
    have dJ:j<i:=by rw[List.length_take]at hj;omega
    rw[List.getElem_take];exact Jv j (by omega) dJ
   have abv:(ws.take i).length<=4:=by rw[List.length_take];omega
   show SW prog GT 189 none (.seq _ (.seq _ (.seq _ (.seq _ _)))) _ _ _ _;refine eD eK QE _ (aba ao oO.2 hF) ?_;clear hF KH S3 H3;intro S3 H3 hF;refine eD eK Rh _ (ZQ ao oO.2 hF) ?_;clear hF S3 H3;intro S3 H3 hF;refine eD eK Rt _ (aa' ao oO.2 hF) ?_;clear hF S3 H3;intro S3 H3 hF;refine eD eK QR _ (X0 ao oO.2 hF) ?_;clear hF S3 H3;intro S3 H3 hF;refine SW.last eK bL (by kernel_rfl) (ac:=Ug) (by kernel_rfl) (λ_ _ h=>h) _ (aao ao oO.2 ⟨uR.1,by omega⟩ hxi hF) ?_;clear hF S3 H3;intro S3 H3 hF;show SW prog GT 189 none _ _ _ _ _;have n_:IntKind.i64.wrap ((i:Int)+1)=i+1:=bl (by omega);refine SW.last eK bL (by kernel_rfl) (ac:=ae.qb sU.qb) (by kernel_rfl) (λ_ _ h=>h) (F4 ws w (i+1) (i+1) (i+1) (i+1) (i+1) (i+1)) ?_ ?_
   .obtain⟨s0,s1,s5,s6,h6,s7,⟨o,kU⟩,s8,s9,bW,de⟩:=hF;unfold F4;generalize gD ws w 3 (i+1) (i+1)=SB at h6⊢;generalize(ws.take (i+1)).map cw=RP at kU⊢;generalize(ws.take (i+1)).sum=y8 at s8⊢;generalize(ws.take (i+1)).foldl max 0=y9 at s9⊢;generalize ints (iR (i+1))=RS at bW⊢;simp[c4,eH,sU,sR,ae.qa,ae.qb,s0,s1,s5,s6,h6,s7,kU,s8,s9,bW,de,n_]
    try exact⟨_,rfl⟩
   .intro S5 H5 hF;refine⟨⟨i+1,rfl,by omega,λj hj eL=>?_,hF⟩,?_⟩
    .by_cases PY:j=i
     .subst PY;exact hxi
     .exact Jv j hj (by omega)
    .have h5:S5 11=.int .i64 ((i+1:Nat):Int):=hF.2.2.2.2.2.2.2.2.2.2;show(match S5 11 with|.int _ j=>ws.length-j.toNat|_=>0)<(match S1 11 with|.int _ j=>ws.length-j.toNat|_=>0);rw[h5,m11];simp;omega
end Go.Proofs.Tryz
namespace Go.Proofs.YtifmgeicigngbaaGreat
open Go Go.AL Go.ChangeShapes Go.WideShapes Go.ChangeAt Go.RowKit Go.Proofs.Tryz
namespace Leaf
abbrev row:OpenClaim:=Rows.topLeafRow
abbrev spec:ChangeSpec:=Rows.topLeafSpec
def call (W:World) (base:Nat) (args:Array Value) {H:Type} {enc:TypeId×Value→H} (ds:List (DataW H)) (p:List MemPlace) (hG:GI W) (uH:∀ (j:Nat) t v,Tryz.f4.params[j]? = some t→args[j]? = some v→Value.okWide Tryz.prog W .any base t v)
  (hA:DataW.TrodAll enc Tryz.prog W 0 (λ_=>true) true Tryz.f4.params.toList args.toList ds p):Calls Tryz.prog 4 args W λe W'=>e=.returned (.bool true)/\Below W.heap.size W W':=by
 rw[Tryz.params4]at hA uH;obtain⟨v0,YV,d0,ds0,p0,q0,e0,rfl,rfl,h0,Yz⟩:=trodAll_cons hA;obtain⟨v1,vs1,d1,ds1,p1,q1,e1,rfl,rfl,h1,YU⟩:=trodAll_cons Yz;obtain⟨rfl,rfl,rfl⟩:=trodAll_nil YU
 obtain rfl:args=#[v0,v1]:=by
  apply Array.toList_inj.1;rw[e0,e1]
 obtain⟨x0,g0,a0⟩:=open_ints (uH 0 28 v0 rfl rfl) h0;obtain⟨x1,g1,a1⟩:=open_int (uH 1 3 v1 rfl rfl) h1
 refine K6 (ac4 x0 x1) trivial rfl λi h h'=>?_
 match i,h with
 |0,_=>exact .data _ _ a0
 |1,_=>exact .data _ _ a1
def w1(os:Os):((World.laidAll Tryz.prog os row.laid).forCall (λ_ _=>0) ⟨#[],#[.slice none 0 0,.int .i64 0],[]⟩).Shaped Tryz.checked.prog:=
 World.shaped_of_ZipB (by kernel_rfl) (by kernel_rfl)
def lifted (os:Os) (started:os.Started) (H:Type) (enc:TypeId×Value→H) :
  ReturnsInHanded {} Tryz.checked os 4 .any (λw args=>(spec.pre enc Tryz.prog Tryz.f4 row.domain false w args/\laidMetH Tryz.prog row.laid w)/\sizedMet enc Tryz.prog Tryz.f4 (OpenSpec.ofChange spec) false w args)
   (spec.post enc Tryz.prog Tryz.f4 false true false false):=by
 refine Hv 4 Tryz.f4 Tryz.func4 (by kernel_rfl) (by kernel_rfl) spec rfl ?_ ?_ os started _ 12 (w1 os) (by kernel_rfl) (by kernel_rfl) (by kernel_rfl) ?_ (λW base args ds p=>call W base args ds p)
 .intro ds hl;rw[show Tryz.f4.params.size=2 by kernel_rfl]at hl
  match ds,hl with
  |[d0,d1],_=>rfl
 .rw[Tryz.params4];intro t ht
  have:t=28\/t=3:=by simpa using ht
  rcases this with rfl|rfl
  all_goals exact⟨by kernel_rfl,of_decide_eq_true (by kernel_rfl)⟩
 .rw[MakeChecks.laidMetH_plain _ _ _ (by kernel_rfl)];exact laidMet_laidAll _ (by kernel_rfl) (by kernel_rfl)
def Li(w:World):laidMetH Tryz.prog [] w:=⟨[],rfl,List.nodup_nil,λ_ _ h=>by cases h⟩
def OS (os:Os) (started:os.Started) (H:Type) (enc:TypeId×Value→H) :
  ReturnsInHanded {} Tryz.checked os 4 .any (λw args=>spec.pre enc Tryz.prog Tryz.f4 row.domain false w args/\sizedMet enc Tryz.prog Tryz.f4 (OpenSpec.ofChange spec) false w args)
   (spec.post enc Tryz.prog Tryz.f4 false true false false):=by
 have e:(fun w args=>spec.pre enc Tryz.prog Tryz.f4 row.domain false w args∧sizedMet enc Tryz.prog Tryz.f4 (OpenSpec.ofChange spec) false w args) =
   (λw args=>(spec.pre enc Tryz.prog Tryz.f4 row.domain false w args/\laidMetH Tryz.prog row.laid w)/\sizedMet enc Tryz.prog Tryz.f4 (OpenSpec.ofChange spec) false w args):=by
  funext w args
  exact propext ⟨λh=>⟨⟨h.1,Li w⟩,h.2⟩,λh=>⟨h.1.1,h.2⟩⟩
 rw[e];exact lifted os started H enc
def Ny:Tryz.prog.funcNamed "mahlstick/mahlsticktop.TopLeaf" = some 4:=by kernel_rfl
def IS:(row.inPlace==Tryz.prog.inPlace 4)=true:=by kernel_rfl
def A6:(row.unfollowed==Tryz.prog.unfollowed 4)=true:=by kernel_rfl
def GK:(row.recurses==Tryz.prog.recurses 4)=true:=by kernel_rfl
def QY:(row.named==Tryz.prog.varsNamed 4)=true:=by kernel_rfl
def Rl:joinedFacts Tryz.prog 4 Tryz.f4 spec row=true:=
 IT ⟨rfl,rfl,rfl,rfl,rfl,rfl⟩ (by kernel_rfl) (by kernel_rfl) (by kernel_rfl) IS A6 GK QY (by kernel_rfl) (by kernel_rfl) (by kernel_rfl) (by kernel_rfl)
def El:Tryz.f4.isInstance Tryz.prog row.origin row.targs:=of_decide_eq_true (by kernel_rfl)
def Jf:Tryz.f4.isWrapper Tryz.prog row.wrapper row.mainSum:=by
 unfold Func.isWrapper;rw[if_neg (by decide+kernel)];exact⟨rfl,rfl⟩
theorem holds:Rows.TopLeafSaid:=
 OpenClaim.holds_of_wide 4 Tryz.f4 rfl rfl rfl rfl rfl rfl rfl ⟨rfl,rfl,rfl,rfl,rfl⟩ rfl rfl rfl rfl rfl Ny Tryz.func4 Rl El Jf (λos started H enc _=>OS os started H enc)
end Leaf
#print axioms Leaf.holds
end Go.Proofs.YtifmgeicigngbaaGreat
