/-
  A part of the proof: Q0 Q1 Q2 Q3 Q4 Q7 L2 Q13 Q14 Q15 L3 L4 L5 Q18 Q19 Q20 Q21 L6 L8 Q22 L9 Q23 Q32 L10 L12 L13 L14 L25 Q36 L32 L33 L34 L28 Q39 Q40 Q48 L36 L37.
-/
import Derived.Test.YtifmgeicigngbaaGreatA2
import Derived.Test.YtifmgeicigngbaaGreatK1
set_option linter.all false
set_option linter.unusedVariables false
set_option linter.unusedSimpArgs false
set_option linter.deprecated false
namespace Go.AL
section
variable {P:Program} {GI:World→Prop}
def kO (P:Program) (GI:World→Prop) (rest:List AOpr) (K:Slots→Boxes→Prop) (Qp:AV→Prop) (S:Slots) (dst:Option Nat) (H:Boxes) (v:AV):Prop:=aops P GI rest K Qp (putD S dst v) H
def kD (P:Program) (GI:World→Prop) (rest:List AOpr) (K:Slots→Boxes→Prop) (S:Slots) (dst:Option Nat) (H:Boxes) (v:AV):Prop:=dops P GI rest K (putD S dst v) H
def seqQ (P:Program) (GI:World→Prop) (y:ACode) (Q:AExit→Slots→Boxes→Prop) (e:AExit) (S:Slots) (H:Boxes):Prop:=thenQ (awp P GI y Q) Q e S H
def panQ (Q:AExit→Slots→Boxes→Prop) (S:Slots) (H:Boxes) (v:AV):Prop:=Q (.panic v) S H
theorem ops_nil (K Qp S H):aops P GI [] K Qp S H=K S H:=(Eq.refl _).trans (Eq.refl _)
theorem dops_nil (K S H):dops P GI [] K S H=K S H:=(Eq.refl _).trans (Eq.refl _)
theorem ops_call (f args d g rest K Qp S H):aops P GI (⟨d,g,.call f args⟩::rest) K Qp S H=(match awanted S g with
  |some true=>acall P GI f (args.map fun y=>fz H (ev S y)) (args.any fun y=>boxy (ev S y)) (kO P GI rest K Qp S d H) Qp
  |some false=>aops P GI rest K Qp (putD S d undefA) H
  |none=>False):=(Eq.refl _).trans (Eq.refl _)
theorem ops_callv (f args d g rest K Qp S H):aops P GI (⟨d,g,.callv f args⟩::rest) K Qp S H=(match awanted S g with
  |some true=>(match ev S f with
   |.func (.func k) first cap=>acall P GI k ((first++args.map (ev S)++cap).map (fz H)) ((first++args.map (ev S)++cap).any boxy) (kO P GI rest K Qp S d H) Qp
   |_=>False)
  |some false=>aops P GI rest K Qp (putD S d undefA) H
  |none=>False):=(Eq.refl _).trans (Eq.refl _)
abbrev OE (P:Program) (GI:World→Prop) (op:AOp):Prop:=∀ d g rest K Qp S H,aops P GI (⟨d,g,op⟩::rest) K Qp S H=(match awanted S g with | some true=>(match apure S H op with | some e=>aops P GI rest K Qp (e.S S d) (e.H H) | none=>False) | some false=>aops P GI rest K Qp (putD S d undefA) H | none=>False)
abbrev DE (P:Program) (GI:World→Prop) (op:AOp):Prop:=∀ d g rest K S H,dops P GI (⟨d,g,op⟩::rest) K S H=(match awanted S g with | some true=>(match apure S H op with | some e=>dops P GI rest K (e.S S d) (e.H H) | none=>False) | some false=>dops P GI rest K (putD S d undefA) H | none=>False)
theorem ops_alloc (t zero d rest K Qp S H):aops P GI (⟨some d,none,.alloc t zero⟩::rest) K Qp S H=aops P GI rest K Qp (upd (fun t=>scrub d (S t)) d (.box d 0)) (upd H d (some zero)):=(Eq.refl _).trans (Eq.refl _)
theorem ops_box (t size x d rest K Qp S H):aops P GI (⟨some d,none,.box t size x⟩::rest) K Qp S H=((ev S x).cells.length=size∧(ev S x).storable=true∧aops P GI rest K Qp (upd (fun t=>scrub d (S t)) d (.box d 0)) (upd H d (some ((ev S x).cells.map AV.dem)))):=(Eq.refl _).trans (Eq.refl _)
theorem dops_call (f args d g rest K S H):dops P GI (⟨d,g,.call f args⟩::rest) K S H=(match awanted S g with
  |some true=>(args.any fun y=>boxy (ev S y))=false∧acall P GI f (args.map fun y=>fz H (ev S y)) (args.any fun y=>boxy (ev S y)) (kD P GI rest K S d H) (fun _=>False)
  |some false=>dops P GI rest K (putD S d undefA) H
  |none=>False):=(Eq.refl _).trans (Eq.refl _)
theorem dops_alloc (t zero d rest K S H):dops P GI (⟨some d,none,.alloc t zero⟩::rest) K S H=dops P GI rest K (upd S d (.box d 0)) H:=(Eq.refl _).trans (Eq.refl _)
theorem kO_eq (rest K Qp S d H v):kO P GI rest K Qp S d H v=aops P GI rest K Qp (putD S d v) H:=(Eq.refl _).trans (Eq.refl _)
theorem kD_eq (rest K S d H v):kD P GI rest K S d H v=dops P GI rest K (putD S d v) H:=(Eq.refl _).trans (Eq.refl _)
theorem ops_all :
  (∀ x0 x1,OE P GI (.mv x0 x1)) ∧
  (∀ x0 x1 x2,OE P GI (.pick x0 x1 x2)) ∧
  (∀ x0 x1,OE P GI (.build x0 x1)) ∧
  (∀ x0 x1 x2 x3,OE P GI (.buildSlice x0 x1 x2 x3)) ∧
  (∀ x0 x1 x2 x3,OE P GI (.load x0 x1 x2 x3)) ∧
  (∀ x0 x1,OE P GI (.loadT x0 x1)) ∧
  (∀ x0 x1 x2 x3,OE P GI (.store x0 x1 x2 x3)) ∧
  (∀ x0 x1 x2,OE P GI (.bin x0 x1 x2)) ∧
  (∀ x0 x1 x2,OE P GI (.eqB x0 x1 x2)) ∧
  (∀ x0 x1 x2 x3,OE P GI (.eqs x0 x1 x2 x3)) ∧
  (∀ x0 x1 x2 x3 x4,OE P GI (.indexA x0 x1 x2 x3 x4)) ∧
  (∀ x0,OE P GI (.bstr x0)) ∧
  (∀ x0,OE P GI (.buildF x0)) ∧
  (∀ x0 x1 x2,OE P GI (.indexF x0 x1 x2)) ∧
  (∀ x0 x1 x2 x3,OE P GI (.lookup x0 x1 x2 x3)) ∧
  (∀ x0,OE P GI (.not x0)) ∧
  (∀ x0 x1,OE P GI (.conv x0 x1)) ∧
  (∀ x0 x1,OE P GI (.iface x0 x1)) ∧
  (∀ x0 x1 x2,OE P GI (.mkf x0 x1 x2)) ∧
  (∀ x0 x1 x2,OE P GI (.sliceS x0 x1 x2)) ∧
  (∀ x0 x1 x2 x3,OE P GI (.sliceL x0 x1 x2 x3)) ∧
  (∀ x0 x1,OE P GI (.sliceR x0 x1)) ∧
  (∀ x0 x1,OE P GI (.fieldAddr x0 x1)) ∧
  (∀ x0 x1 x2,OE P GI (.indexAddr x0 x1 x2)) ∧
  (∀ x0 x1,OE P GI (.indexS x0 x1)) ∧
  (∀ x0 x1,OE P GI (.extract x0 x1)) ∧
  (∀ x0,OE P GI (.lenS x0)) ∧
  (∀ x0,OE P GI (.lenL x0)) ∧
  (∀ x0 x1,OE P GI (.isNil x0 x1)) ∧
  (∀ x0,OE P GI (.empty x0)) ∧
  (∀ x0 x1 x2 x3 x4 x5,OE P GI (.append x0 x1 x2 x3 x4 x5)) ∧
  (∀ x0 x1,OE P GI (.max x0 x1)) ∧
  (∀ x0 x1,OE P GI (.min x0 x1)) ∧
  (∀ x0 x1 x2,OE P GI (.assert x0 x1 x2)):=by
 refine ⟨?_,?_,?_,?_,?_,?_,?_,?_,?_,?_,?_,?_,?_,?_,?_,?_,?_,?_,?_,?_,?_,?_,?_,?_,?_,?_,?_,?_,?_,?_,?_,?_,?_,?_⟩<;>intros<;>intro d<;>intros<;>rfl
theorem dops_all :
  (∀ x0 x1,DE P GI (.mv x0 x1)) ∧
  (∀ x0 x1 x2,DE P GI (.pick x0 x1 x2)) ∧
  (∀ x0 x1,DE P GI (.build x0 x1)) ∧
  (∀ x0 x1 x2 x3,DE P GI (.buildSlice x0 x1 x2 x3)) ∧
  (∀ x0 x1 x2 x3,DE P GI (.load x0 x1 x2 x3)) ∧
  (∀ x0 x1,DE P GI (.loadT x0 x1)) ∧
  (∀ x0 x1 x2 x3,DE P GI (.store x0 x1 x2 x3)) ∧
  (∀ x0 x1 x2,DE P GI (.bin x0 x1 x2)) ∧
  (∀ x0 x1 x2,DE P GI (.eqB x0 x1 x2)) ∧
  (∀ x0 x1 x2 x3,DE P GI (.eqs x0 x1 x2 x3)) ∧
  (∀ x0 x1 x2 x3 x4,DE P GI (.indexA x0 x1 x2 x3 x4)) ∧
  (∀ x0,DE P GI (.bstr x0)) ∧
  (∀ x0,DE P GI (.buildF x0)) ∧
  (∀ x0 x1 x2,DE P GI (.indexF x0 x1 x2)) ∧
  (∀ x0 x1 x2 x3,DE P GI (.lookup x0 x1 x2 x3)) ∧
  (∀ x0,DE P GI (.not x0)) ∧
  (∀ x0 x1,DE P GI (.conv x0 x1)) ∧
  (∀ x0 x1,DE P GI (.iface x0 x1)) ∧
  (∀ x0 x1 x2,DE P GI (.mkf x0 x1 x2)) ∧
  (∀ x0 x1 x2,DE P GI (.sliceS x0 x1 x2)) ∧
  (∀ x0 x1 x2 x3,DE P GI (.sliceL x0 x1 x2 x3)) ∧
  (∀ x0 x1,DE P GI (.sliceR x0 x1)) ∧
  (∀ x0 x1,DE P GI (.fieldAddr x0 x1)) ∧
  (∀ x0 x1 x2,DE P GI (.indexAddr x0 x1 x2)) ∧
  (∀ x0 x1,DE P GI (.indexS x0 x1)) ∧
  (∀ x0 x1,DE P GI (.extract x0 x1)) ∧
  (∀ x0,DE P GI (.lenS x0)) ∧
  (∀ x0,DE P GI (.lenL x0)) ∧
  (∀ x0 x1,DE P GI (.isNil x0 x1)) ∧
  (∀ x0,DE P GI (.empty x0)) ∧
  (∀ x0 x1 x2 x3 x4 x5,DE P GI (.append x0 x1 x2 x3 x4 x5)) ∧
  (∀ x0 x1,DE P GI (.max x0 x1)) ∧
  (∀ x0 x1,DE P GI (.min x0 x1)) ∧
  (∀ x0 x1 x2,DE P GI (.assert x0 x1 x2)):=by
 refine ⟨?_,?_,?_,?_,?_,?_,?_,?_,?_,?_,?_,?_,?_,?_,?_,?_,?_,?_,?_,?_,?_,?_,?_,?_,?_,?_,?_,?_,?_,?_,?_,?_,?_,?_⟩<;>intros<;>intro d<;>intros<;>rfl
theorem awp_all :
  (∀ Q S H,awp P GI .skip Q S H=Q .normal S H) ∧
  (∀ l Q S H,awp P GI (.ops l) Q S H=aops P GI l (Q .normal) (panQ Q S H) S H) ∧
  (∀ l Q S H,awp P GI (.dops l) Q S H=dops P GI l (Q .normal) (prol l S) (prolH l H)) ∧
  (∀ x y Q S H,awp P GI (.seq x y) Q S H=awp P GI x (seqQ P GI y Q) S H) ∧
  (∀ c x y Q S H,awp P GI (.cond c x y) Q S H=(match ev S c with
   |.bool true=>awp P GI x Q S H
   |.bool false=>awp P GI y Q S H
   |.anyb=>awp P GI x Q S H∧awp P GI y Q S H
   |_=>False)) ∧
  (∀ id c Q S H,awp P GI (.block id c) Q S H=awp P GI c (blockQ id Q) S H) ∧
  (∀ id Q S H,awp P GI (.exit id) Q S H=Q (.exit id) S H) ∧
  (∀ Q S H,awp P GI .ret Q S H=Q .ret S H) ∧
  (∀ y Q S H,seqQ P GI y Q .normal S H=awp P GI y Q S H) ∧
  (∀ y Q id S H,seqQ P GI y Q (.exit id) S H=Q (.exit id) S H) ∧
  (∀ y Q S H,seqQ P GI y Q .ret S H=Q .ret S H) ∧
  (∀ y Q v S H,seqQ P GI y Q (.panic v) S H=Q (.panic v) S H):=by
 refine ⟨?_,?_,?_,?_,?_,?_,?_,?_,?_,?_,?_,?_⟩<;>intros<;>rfl
theorem qs_all :
  (∀ id Q S H,blockQ id Q .normal S H=Q .normal S H) ∧
  (∀ id j Q S H,blockQ id Q (.exit j) S H=if j=id then Q .normal S H else Q (.exit j) S H) ∧
  (∀ id Q S H,blockQ id Q .ret S H=Q .ret S H) ∧
  (∀ id Q v S H,blockQ id Q (.panic v) S H=Q (.panic v) S H) ∧
  (∀ K Q S H,thenQ K Q .normal S H=K S H) ∧
  (∀ K Q id S H,thenQ K Q (.exit id) S H=Q (.exit id) S H) ∧
  (∀ K Q S H,thenQ K Q .ret S H=Q .ret S H) ∧
  (∀ K Q v S H,thenQ K Q (.panic v) S H=Q (.panic v) S H) ∧
  (∀ K S H,assignQ K .normal S H=K S H) ∧
  (∀ K id S H,assignQ K (.exit id) S H=False) ∧
  (∀ K S H,assignQ K .ret S H=False) ∧
  (∀ K v S H,assignQ K (.panic v) S H=False) ∧
  (∀ Q S H v,panQ Q S H v=Q (.panic v) S H) ∧
  (∀ v K Qp,onOut (.ret v) K Qp=K v) ∧
  (∀ v K Qp,onOut (.panic v) K Qp=Qp v):=by
 refine ⟨?_,?_,?_,?_,?_,?_,?_,?_,?_,?_,?_,?_,?_,?_,?_⟩<;>intros<;>rfl
end
section
variable {P:Program} {GI:World→Prop}
theorem acall_mono {f:Nat} {args:List AV} {b:Bool} {K K':AV→Prop} {Qp Qp':AV→Prop} (hK:∀ v,K v→K' v) (hQ:∀ v,Qp v→Qp' v) (h:acall P GI f args b K Qp):acall P GI f args b K' Qp':=by
 obtain ⟨out,h1,h2,h3,h4⟩:=h
 refine ⟨out,h1,h2,h3,?_⟩
 cases out with
 |ret v=>exact hK _ h4
 |panic v=>exact hQ _ h4
theorem astep_mono {op:AOp} {dst:Option Nat} {K K':Slots→Boxes→Prop} {Qp Qp':AV→Prop} (hK:∀ S H,K S H→K' S H) (hQ:∀ v,Qp v→Qp' v) {S:Slots} {H:Boxes} (h:astep P GI op dst K Qp S H):astep P GI op dst K' Qp' S H:=by
 by_cases hc:op.calm=true
 ·rw [astep_calm hc] at h ⊢
  split at h
  ·exact hK _ _ h
  ·exact h
 ·cases op<;>first | (exfalso;exact hc rfl) | skip
  case alloc=>simp only [astep] at h ⊢;split at h<;>first | exact hK _ _ h | exact h
  case box=>simp only [astep] at h ⊢;split at h<;>first | exact ⟨h.1,h.2.1,hK _ _ h.2.2⟩ | exact h
  case call=>exact acall_mono (fun v=>hK _ _) hQ h
  case callv=>simp only [astep] at h ⊢;split at h<;>first | exact acall_mono (fun v=>hK _ _) hQ h | exact h
  case panic=>simp only [astep] at h ⊢;split at h<;>first | exact hQ _ h | exact h
  case other=>exact h
theorem aops_mono {K K':Slots→Boxes→Prop} {Qp Qp':AV→Prop} (hK:∀ S H,K S H→K' S H) (hQ:∀ v,Qp v→Qp' v):∀ (l:List AOpr) (S:Slots) (H:Boxes),aops P GI l K Qp S H→aops P GI l K' Qp' S H
 |[],S,H,h=>hK S H h
 |o::rest,S,H,h=>by
  simp only [aops] at h ⊢
  split at h
  ·exact astep_mono (fun S H=>aops_mono hK hQ rest S H) hQ h
  ·exact aops_mono hK hQ rest _ _ h
  ·exact h
theorem dstep_mono {op:AOp} {dst:Option Nat} {K K':Slots→Boxes→Prop} (hK:∀ S H,K S H→K' S H) {S:Slots} {H:Boxes} (h:dstep P GI op dst K S H):dstep P GI op dst K' S H:=by
 cases op
 case alloc=>simp only [dstep] at h ⊢;split at h<;>first | exact hK _ _ h | exact h
 case call=>exact ⟨h.1,astep_mono hK (fun _ h=>h) h.2⟩
 case callv=>exact ⟨h.1,astep_mono hK (fun _ h=>h) h.2⟩
 case box=>exact h.elim
 case panic=>exact h.elim
 case other=>exact h.elim
 all_goals
  simp only [dstep] at h ⊢
  exact astep_mono hK (fun _ h=>h) h
theorem dops_mono {K K':Slots→Boxes→Prop} (hK:∀ S H,K S H→K' S H):∀ (l:List AOpr) (S:Slots) (H:Boxes),dops P GI l K S H→dops P GI l K' S H
 |[],S,H,h=>hK S H h
 |o::rest,S,H,h=>by
  simp only [dops] at h ⊢
  split at h
  ·exact dstep_mono (fun S H=>dops_mono hK rest S H) h
  ·exact dops_mono hK rest _ _ h
  ·exact h
theorem thenQ_mono {K K':Slots→Boxes→Prop} {Q Q':AExit→Slots→Boxes→Prop} (hK:∀ S H,K S H→K' S H) (h:∀ e S H,Q e S H→Q' e S H) (e:AExit) (S:Slots) (H:Boxes) (hq:thenQ K Q e S H):thenQ K' Q' e S H:=by
 cases e with
 |normal=>exact hK S H hq
 |exit id=>exact h _ S H hq
 |ret=>exact h _ S H hq
 |panic v=>exact h _ S H hq
theorem awp_mono:∀ (c:ACode) {Q Q':AExit→Slots→Boxes→Prop} (_:∀ e S H,Q e S H→Q' e S H) {S:Slots} {H:Boxes},awp P GI c Q S H→awp P GI c Q' S H
 |.skip,_,_,h,_,_,hq=>h _ _ _ hq
 |.ops l,_,_,h,_,_,hq=>aops_mono (fun S H=>h _ S H) (fun v=>h _ _ _) l _ _ hq
 |.dops l,_,_,h,_,_,hq=>dops_mono (fun S H=>h _ S H) l _ _ hq
 |.seq x y,_,_,h,_,_,hq=>awp_mono x (thenQ_mono (fun _ _=>awp_mono y h) h) hq
 |.cond c x y,_,_,h,S,H,hq=>by
  simp only [awp] at hq ⊢
  split at hq
  ·exact awp_mono x h hq
  ·exact awp_mono y h hq
  ·exact ⟨awp_mono x h hq.1,awp_mono y h hq.2⟩
  ·exact hq
 |.block id c,Q,Q',h,_,_,hq=>awp_mono c (fun e S H hb=>by
   cases e with
   |normal=>exact h _ S H hb
   |exit j =>
    by_cases hj:j=id
    ·simp only [blockQ,if_pos hj] at hb ⊢;exact h _ S H hb
    ·simp only [blockQ,if_neg hj] at hb ⊢;exact h _ S H hb
   |ret=>exact h _ S H hb
   |panic v=>exact h _ S H hb) hq
 |.loop c,_,_,h,_,_,⟨I,μ,h0,hi⟩=>⟨I,μ,h0,fun S H hI=>awp_mono c (thenQ_mono (fun _ _ h=>h) h) (hi S H hI)⟩
 |.exit id,_,_,h,_,_,hq=>h _ _ _ hq
 |.ret,_,_,h,_,_,hq=>h _ _ _ hq
 |.bad,_,_,_,_,_,hq=>hq
theorem awp_cut {x y:ACode} {Q:AExit→Slots→Boxes→Prop} {S:Slots} {H:Boxes} (K:Slots→Boxes→Prop) (hx:awp P GI x (assignQ K) S H) (hy:∀ S' H',K S' H'→awp P GI y Q S' H'):awp P GI (.seq x y) Q S H:=by
 refine awp_mono x (fun e S H h => ?_) hx
 cases e with
 |normal=>exact hy S H h
 |exit id=>exact h.elim
 |ret=>exact h.elim
 |panic v=>exact h.elim
theorem awp_go {c:Opd} {y z:ACode} {Q:AExit→Slots→Boxes→Prop} {S:Slots} {H:Boxes} (h:ev S c = .bool true) (hy:awp P GI y Q S H):awp P GI (.seq (.cond c .skip z) y) Q S H:=by
 simp only [awp,h];exact hy
theorem awp_in {id:Nat} {c y:ACode} {Q:AExit→Slots→Boxes→Prop} {S:Slots} {H:Boxes} (h:awp P GI c (blockQ id (seqQ P GI y Q)) S H):awp P GI (.seq (.block id c) y) Q S H:=h
theorem awp_loop {c:ACode} {Q:AExit→Slots→Boxes→Prop} {S:Slots} {H:Boxes} (t n:Nat) (I:Nat→Slots→Boxes→Prop) (hix:∀ i S H,I i S H→S t = .int .i64 (i:Nat)) (h0:I 0 S H)
  (hs:∀ i,i≤n→∀ S H,I i S H→awp P GI c (thenQ (fun S' H'=>i < n∧I (i+1) S' H') Q) S H):awp P GI (.loop c) Q S H:=by
 refine ⟨fun S H=>∃ i,i≤n∧I i S H,fun S _=>match S t with | .int _ k=>n - k.toNat | _=>0,⟨0,Nat.zero_le _,h0⟩,?_⟩
 rintro S H ⟨i,hi,hI⟩
 refine awp_mono c (thenQ_mono (fun S' H' h => ?_) (fun _ _ _ h=>h)) (hs i hi S H hI)
 refine ⟨⟨i+1,h.1,h.2⟩,?_⟩
 have e1:=hix _ _ _ hI
 have e2:=hix _ _ _ h.2
 simp only [e1,e2,Int.toNat_natCast]
 have:=h.1
 omega
end
end Go.AL
namespace Go.Proofs.Tryz
open Go Go.AL Go.RowKit Go.Proofs
attribute [local simp] awp_all qs_all ops_all dops_all ops_nil dops_nil ops_call ops_callv ops_alloc ops_box dops_call dops_alloc kO_eq kD_eq awanted apure ev Eff.S Eff.H tmpOf upd putD AL.start AV.dem AV.cells AV.storable AV.scells splice scrub abin loadA HR.okB post ares aress ares1 AV.out AV.isData ints_len ints_get fz fz1 AV.vw AV.vw1 boxy vI int undefA assignQ thenQ blockQ seqQ panQ prol prolH allocOf
variable {GI:World→Prop}
def inI (n lo hi:Int):Bool:=decide (lo≤n) && decide (n≤hi)
theorem ac113 (hG:Stable GI) (n lo hi:Int):AC prog GI 113 [.int .i64 n,.int .i64 lo,.int .i64 hi] (.ret (.bool (inI n lo hi))):=by
 refine AC.of_body hG hmix func113 rfl ntmps113 (by simp) (ac:=c113) (by kernel_rfl) ?_
 by_cases h1:lo≤n<;>by_cases h2:n≤hi<;>simp [c113,inI,h1,h2]
def spanI (lo hi a most:Int):Bool:=inI lo a most && inI hi lo most
theorem ac117 (hG:Stable GI) (lo hi a most:Int):AC prog GI 117 [.agg [.int .i64 lo,.int .i64 hi],.int .i64 a,.int .i64 most] (.ret (.bool (spanI lo hi a most))):=by
 refine AC.of_body hG hmix func117 rfl ntmps117 (by simp) (ac:=c117) (by kernel_rfl) ?_
 simp [c117]
 refine ⟨_,by kernel_rfl,ac113 hG lo a most,by simp [boxy],?_⟩
 cases h1:inI lo a most
 ·simp [spanI,h1]
 ·simp
  refine ⟨_,by kernel_rfl,ac113 hG hi lo most,by simp [boxy],?_⟩
  simp [spanI,h1]
def signI (s:Sheet) (n:Int):Bool:=inI n 0 (s.widths.length - 1)
def pairI (s:Sheet) (p:Pair):Bool:=signI s p.l && signI s p.r && spanI p.lo p.hi 0 9
theorem ac114 (hG:Stable GI) (s:Sheet) (hs:s.widths.length < 1000) (p:Pair):AC prog GI 114 [sheetA s,pairA p] (.ret (.bool (pairI s p))):=by
 refine AC.of_body hG hmix func114 rfl ntmps114 (by simp) (ac:=c114) (by kernel_rfl) ?_
 have hw:IntKind.i64.wrap ((s.widths.length:Int) - 1)=s.widths.length - 1:=wrapI (by omega)
 refine awp_cut (fun S H=>S 2 = .box 2 0∧S 3 = .box 3 0∧H 2=some (sheetL s)∧H 3=some [.int .i64 p.l,.int .i64 p.r,.int .i64 p.lo,.int .i64 p.hi]) (by simp [sheetA,sheetL,pairA]) ?_
 rintro S H ⟨s2,s3,h2,h3⟩
 simp [s2,s3,h2,h3,sheetL,hw]
 refine ⟨_,by kernel_rfl,ac113 hG p.l 0 (s.widths.length - 1),by simp [boxy],?_⟩
 cases h1:inI p.l 0 (s.widths.length - 1)
 ·simp [pairI,signI,h1]
 ·simp [s2,s3,h2,h3,sheetL,hw]
  refine ⟨_,by kernel_rfl,ac113 hG p.r 0 (s.widths.length - 1),by simp [boxy],?_⟩
  cases h4:inI p.r 0 (s.widths.length - 1)
  ·simp [pairI,signI,h1,h4]
  ·simp [s2,s3,h2,h3,sheetL]
   refine ⟨_,by kernel_rfl,ac117 hG p.lo p.hi 0 9,by simp [boxy],?_⟩
   simp [pairI,signI,h1,h4]
def ltP (a b:Pair):Bool:=decide (a.l < b.l) || (a.l==b.l && decide (a.r < b.r))
theorem ac115 (hG:Stable GI) (a b:Pair):AC prog GI 115 [pairA a,pairA b] (.ret (.bool (ltP a b))):=by
 refine AC.of_body hG hmix func115 rfl ntmps115 (by simp) (ac:=c115) (by kernel_rfl) ?_
 refine awp_cut (fun S H=>S 2 = .box 2 0∧S 3 = .box 3 0∧H 2=some [.int .i64 a.l,.int .i64 a.r,.int .i64 a.lo,.int .i64 a.hi]∧H 3=some [.int .i64 b.l,.int .i64 b.r,.int .i64 b.lo,.int .i64 b.hi]) (by simp [pairA]) ?_
 rintro S H ⟨s2,s3,h2,h3⟩
 by_cases h1:a.l < b.l
 ·simp [s2,s3,h2,h3,ltP,h1]
 ·cases h4:a.l==b.l
  ·simp [s2,s3,h2,h3,ltP,h1,h4]
  ·by_cases h5:a.r < b.r<;>simp [s2,s3,h2,h3,ltP,h1,h4,h5]
theorem ac116 (hG:Stable GI) (n:Int):AC prog GI 116 [.int .i64 n] (.ret (.bool (!inI n 1 20))):=by
 refine AC.of_body hG hmix func116 rfl ntmps116 (by simp) (ac:=c116) (by kernel_rfl) ?_
 simp [c116]
 refine ⟨_,by kernel_rfl,ac113 hG n 1 20,by simp [boxy],?_⟩
 simp
theorem ac161 (hG:Stable GI) (s:Sheet) (hs:s.widths.length < 1000) (n:Int):AC prog GI 161 [.int .i64 n,.ref (sheetL s)] (.ret (.bool (!signI s n))):=by
 refine AC.of_body hG hmix func161 rfl ntmps161 (by simp) (ac:=c161) (by kernel_rfl) ?_
 have hw:IntKind.i64.wrap ((s.widths.length:Int) - 1)=s.widths.length - 1:=wrapI (by omega)
 simp [c161,sheetL,hw]
 refine ⟨_,by kernel_rfl,ac113 hG n 0 (s.widths.length - 1),by simp [boxy],?_⟩
 simp [signI]
end Go.Proofs.Tryz
namespace Go.AL
def firstT {α:Type} (p:α→Bool) (l:List α):Int:=if l.any p then (l.findIdx p:Nat) else -1
theorem firstT_at {α:Type} {p:α→Bool} {l:List α} {i:Nat} (hi:i < l.length) (hp:p l[i]=true) (hb:∀ j (hj:j < l.length),j < i→p l[j]=false):firstT p l=(i:Nat):=by
  unfold firstT
  rw [if_pos (List.any_eq_true.2 ⟨l[i],List.getElem_mem hi,hp⟩),(List.findIdx_eq hi).2 ⟨hp,fun j hji=>hb j (by omega) hji⟩]
theorem firstT_none {α:Type} {p:α→Bool} {l:List α} (hb:∀ j (hj:j < l.length),p l[j]=false):firstT p l = -1:=by
  unfold firstT
  rw [if_neg]
  intro h
  obtain ⟨x,hx,hp⟩:=List.any_eq_true.1 h
  obtain ⟨j,hj,rfl⟩:=List.getElem_of_mem hx
  rw [hb j hj] at hp;cases hp
theorem firstT_any {α:Type} {p:α→Bool} {l:List α}:decide (0≤firstT p l)=l.any p:=by
  unfold firstT
  cases h:l.any p<;>simp
end Go.AL
namespace Go.Proofs.Tryz
open Go Go.AL Go.RowKit Go.Proofs
attribute [local simp] awp_all qs_all ops_all dops_all ops_nil dops_nil ops_call ops_callv ops_alloc ops_box dops_call dops_alloc kO_eq kD_eq awanted apure ev Eff.S Eff.H tmpOf upd putD AL.start AV.dem AV.cells AV.storable AV.scells splice scrub abin loadA HR.okB post ares aress ares1 AV.out AV.isData ints_len ints_get fz fz1 AV.vw AV.vw1 boxy vI int undefA assignQ thenQ blockQ seqQ panQ prol prolH allocOf
variable {GI:World→Prop}
theorem ac147 (hG:Stable GI) (l:List Int) (hl:l.length < 1000000) (k:Nat) (caps:List AV) (hcaps:caps=[]∨∃ c,caps=[.ref c]) (p:Int→Bool) (hk:callable prog k=true) (h:∀ x∈l,AC prog GI k ([.int .i64 x]++caps) (.ret (.bool (p x)))) :
    AC prog GI 147 [.slice .view (l.map (.int .i64)),.func (.func k) [] caps] (.ret (.int .i64 (firstT p l))):=by
  refine AC.of_body hG hmix func147 rfl ntmps147 (by simp) (ac:=c147) (by kernel_rfl) ?_
  rcases hcaps with rfl | ⟨c,rfl⟩ <;>
  (simp [c147]
   refine awp_loop 8 l.length (fun i S H=>S 0 = .slice .view (l.map (.int .i64))∧S 1=_∧S 7 = .int .i64 l.length∧S 8 = .int .i64 (i:Nat)∧∀ j (hj:j < l.length),j < i→p l[j]=false) (fun i S H h=>h.2.2.2.1) ⟨by simp,by simp;rfl,by simp,by simp,by simp⟩ ?_
   rintro i hi S H ⟨s0,s1,s7,s8,hb⟩
   by_cases hlt:i < l.length
   · have hw:IntKind.i64.wrap ((i:Int)+1)=i+1:=wrapI (by omega)
     have hx:=h l[i] (List.getElem_mem hlt)
     cases hp:p l[i]
     · simp [List.getElem_map,s0,s1,s7,s8,hlt]
       refine ⟨_,hk,hx,by simp [boxy],?_⟩
       simp [s0,s1,s7,s8,hlt,hp,hw]
       intro j hj hji
       by_cases hji':j=i
       · subst hji';exact hp
       · exact hb j hj (by omega)
     · simp [List.getElem_map,s0,s1,s7,s8,hlt]
       refine ⟨_,hk,hx,by simp [boxy],?_⟩
       simp [s0,s1,s7,s8,hlt,hp,hw]
       exact firstT_at hlt hp hb
   · have hil:i=l.length:=by omega
     subst hil
     simp [s0,s1,s7,s8]
     exact firstT_none fun j hj=>hb j hj hj)
theorem ac77 (hG:Stable GI) (l:List Int) (hl:l.length < 1000000) (k:Nat) (caps:List AV) (hcaps:caps=[]∨∃ c,caps=[.ref c]) (p:Int→Bool) (hk:callable prog k=true) (h:∀ x∈l,AC prog GI k ([.int .i64 x]++caps) (.ret (.bool (p x)))) :
    AC prog GI 77 [.slice .view (l.map (.int .i64)),.func (.func k) [] caps] (.ret (.bool (l.any p))):=by
  have hF:=ac147 hG l hl k caps hcaps p hk h
  refine AC.of_body hG hmix func77 rfl ntmps77 (by simp) (ac:=c77) (by kernel_rfl) ?_
  rcases hcaps with rfl | ⟨c,rfl⟩ <;>
  (simp [c77]
   refine ⟨_,by kernel_rfl,hF,fun _=>rfl,?_⟩
   simp
   exact firstT_any.symm)
theorem ac160 (hG:Stable GI) (l:List Word) (hl:l.length < 1000000) (k:Nat) (caps:List AV) (hcaps:caps=[]∨∃ c,caps=[.ref c]) (p:Word→Bool) (hk:callable prog k=true) (h:∀ x∈l,AC prog GI k ([wordA x]++caps) (.ret (.bool (p x)))) :
    AC prog GI 160 [.slice .view (l.map wordA),.func (.func k) [] caps] (.ret (.int .i64 (firstT p l))):=by
  refine AC.of_body hG hmix func160 rfl ntmps160 (by simp) (ac:=c160) (by kernel_rfl) ?_
  rcases hcaps with rfl | ⟨c,rfl⟩ <;>
  (simp [c160]
   refine awp_loop 8 l.length (fun i S H=>S 0 = .slice .view (l.map wordA)∧S 1=_∧S 7 = .int .i64 l.length∧S 8 = .int .i64 (i:Nat)∧∀ j (hj:j < l.length),j < i→p l[j]=false) (fun i S H h=>h.2.2.2.1) ⟨by simp,by simp;rfl,by simp,by simp,by simp⟩ ?_
   rintro i hi S H ⟨s0,s1,s7,s8,hb⟩
   by_cases hlt:i < l.length
   · have hw:IntKind.i64.wrap ((i:Int)+1)=i+1:=wrapI (by omega)
     have hx:=h l[i] (List.getElem_mem hlt)
     cases hp:p l[i]
     · simp [List.getElem_map,wordA,s0,s1,s7,s8,hlt]
       refine ⟨_,hk,hx,by simp [boxy],?_⟩
       simp [s0,s1,s7,s8,hlt,hp,hw]
       intro j hj hji
       by_cases hji':j=i
       · subst hji';exact hp
       · exact hb j hj (by omega)
     · simp [List.getElem_map,wordA,s0,s1,s7,s8,hlt]
       refine ⟨_,hk,hx,by simp [boxy],?_⟩
       simp [s0,s1,s7,s8,hlt,hp,hw]
       exact firstT_at hlt hp hb
   · have hil:i=l.length:=by omega
     subst hil
     simp [s0,s1,s7,s8]
     exact firstT_none fun j hj=>hb j hj hj)
theorem ac118 (hG:Stable GI) (l:List Word) (hl:l.length < 1000000) (k:Nat) (caps:List AV) (hcaps:caps=[]∨∃ c,caps=[.ref c]) (p:Word→Bool) (hk:callable prog k=true) (h:∀ x∈l,AC prog GI k ([wordA x]++caps) (.ret (.bool (p x)))) :
    AC prog GI 118 [.slice .view (l.map wordA),.func (.func k) [] caps] (.ret (.bool (l.any p))):=by
  have hF:=ac160 hG l hl k caps hcaps p hk h
  refine AC.of_body hG hmix func118 rfl ntmps118 (by simp) (ac:=c118) (by kernel_rfl) ?_
  rcases hcaps with rfl | ⟨c,rfl⟩ <;>
  (simp [c118]
   refine ⟨_,by kernel_rfl,hF,fun _=>rfl,?_⟩
   simp
   exact firstT_any.symm)
end Go.Proofs.Tryz
namespace Go.AL
def adjI {α:Type} (p:α→Bool) (lt:α→α→Bool) (l:List α):Bool:=l.all p && (List.range (l.length - 1)).all fun i=>match l[i]?,l[i+1]? with | some a,some b=>lt a b | _,_=>true
theorem adjI_false {α:Type} {p:α→Bool} {lt:α→α→Bool} {l:List α} {i:Nat} (hi:i < l.length) (hp:p l[i]=false):adjI p lt l=false:=by
 unfold adjI
 rw [Bool.and_eq_false_iff]
 exact .inl (List.all_eq_false.2 ⟨_,List.getElem_mem hi,by simp [hp]⟩)
theorem adjI_false2 {α:Type} {p:α→Bool} {lt:α→α→Bool} {l:List α} {i:Nat} (hi:i+1 < l.length) (hp:lt (l[i]'(by omega)) l[i+1]=false):adjI p lt l=false:=by
 unfold adjI
 rw [Bool.and_eq_false_iff]
 refine .inr (List.all_eq_false.2 ⟨i,List.mem_range.2 (by omega),?_⟩)
 simp [hi,show i < l.length by omega,hp]
theorem adjI_true {α:Type} {p:α→Bool} {lt:α→α→Bool} {l:List α} (h1:∀ j (hj:j < l.length),p l[j]=true) (h2:∀ j (hj:j+1 < l.length),lt (l[j]'(by omega)) l[j+1]=true):adjI p lt l=true:=by
 unfold adjI
 rw [Bool.and_eq_true]
 constructor
 ·rw [List.all_eq_true]
  intro x hx
  obtain ⟨j,hj,rfl⟩:=List.getElem_of_mem hx
  exact h1 j hj
 ·rw [List.all_eq_true]
  intro j hj
  rw [List.mem_range] at hj
  simp [show j < l.length by omega,show j+1 < l.length by omega,h2 j (by omega)]
end Go.AL
namespace Go.Proofs.Tryz
open Go Go.AL Go.RowKit Go.Proofs
attribute [local simp] awp_all qs_all ops_all dops_all ops_nil dops_nil ops_call ops_callv ops_alloc ops_box dops_call dops_alloc kO_eq kD_eq awanted apure ev Eff.S Eff.H tmpOf upd putD AL.start AV.dem AV.cells AV.storable AV.scells splice scrub abin loadA HR.okB post ares aress ares1 AV.out AV.isData ints_len ints_get fz fz1 AV.vw AV.vw1 boxy vI int undefA assignQ thenQ blockQ seqQ panQ prol prolH allocOf
variable {GI:World→Prop}
def risesI (l:List Int) (lo hi:Int):Bool:=adjI (inI · lo hi) (fun a b=>decide (a < b)) l
theorem ac162 (hG:Stable GI) (l:List Int) (hl:l.length < 1000000) (lo hi:Int):AC prog GI 162 [vI l,.int .i64 lo,.int .i64 hi] (.ret (.bool (risesI l lo hi))):=by
 refine AC.of_body hG hmix func162 rfl ntmps162 (by simp) (ac:=c162) (by kernel_rfl) ?_
 simp [c162]
 refine awp_loop 11 l.length (fun i S H=>S 0=vI l∧S 1 = .int .i64 lo∧S 2 = .int .i64 hi∧S 9=vI l∧S 10 = .int .i64 l.length∧S 11 = .int .i64 (i:Nat)∧(∀ j (hj:j < l.length),j < i→inI l[j] lo hi=true)∧∀ j (hj:j+1 < l.length),j+1 < i→decide (l[j] < l[j+1])=true) (fun i S H h=>h.2.2.2.2.2.1) ⟨by simp,by simp,by simp,by simp,by simp,by simp,by simp,by simp⟩ ?_
 rintro i hi' S H ⟨s0,s1,s2,s9,s10,s11,hb,hc⟩
 by_cases hlt:i < l.length
 ·have hw:IntKind.i64.wrap ((i:Int)+1)=i+1:=wrapI (by omega)
  simp [s0,s1,s2,s9,s10,s11,hlt]
  refine ⟨_,by kernel_rfl,ac113 hG l[i] lo hi,fun _=>rfl,?_⟩
  cases hp:inI l[i] lo hi
  ·simp [s0,s1,s2,s9,s10,s11,hlt,hw]
   exact adjI_false hlt hp
  ·cases i with
   |zero =>
    simp [s0,s1,s2,s9,s10,s11,hlt]
    exact ⟨wrapI (by omega),fun j hj hj0=>by subst hj0;exact hp⟩
   |succ k =>
    have hk:((k+1:Nat):Int) - 1=(k:Nat):=by omega
    have hwk:IntKind.i64.wrap (k:Int)=k:=wrapI (by omega)
    have hw2:IntKind.i64.wrap ((k:Int)+1+1)=k+1+1:=wrapI (by omega)
    have hkl:k < l.length:=by omega
    have h0:(0:Int) < (k:Int)+1:=by omega
    by_cases hle:l[k+1]≤l[k]
    ·simp [s0,s1,s2,s9,s10,s11,hlt,hwk,hkl,hle,h0]
     exact adjI_false2 (lt:=fun a b=>decide (a < b)) hlt (by simpa using hle)
    ·simp [s0,s1,s2,s9,s10,s11,hlt,hwk,hkl,hle,h0,hw2]
     refine ⟨fun j hj hjk => ?_,fun j hj hjk => ?_⟩
     ·by_cases e:j=k+1
      ·subst e;exact hp
      ·exact hb j hj (by omega)
     ·by_cases e:j=k
      ·subst e;omega
      ·simpa using hc j hj (by omega)
 ·have hil:i=l.length:=by omega
  subst hil
  simp [s0,s1,s2,s9,s10,s11]
  exact adjI_true (fun j hj=>hb j hj hj) (fun j hj=>hc j hj hj)
def wordI (s:Sheet) (w:Word):Bool:=inI w.signs.length 1 6 && !(w.signs.any fun n => !signI s n) && risesI w.cuts 1 (w.signs.length - 1)
theorem ac120 (hG:Stable GI) (s:Sheet) (hs:s.widths.length < 1000) (w:Word) (h1:w.signs.length < 1000) (h2:w.cuts.length < 1000):AC prog GI 120 [sheetA s,wordA w] (.ret (.bool (wordI s w))):=by
 have h139:=ac77 hG w.signs (by omega) 161 [.ref (sheetL s)] (.inr ⟨_,rfl⟩) (fun n => !signI s n) (by kernel_rfl) (fun n _=>ac161 hG s hs n)
 have hw:IntKind.i64.wrap ((w.signs.length:Int) - 1)=w.signs.length - 1:=wrapI (by omega)
 refine AC.of_body hG hmix func120 rfl ntmps120 (by simp) (ac:=c120) (by kernel_rfl) ?_
 refine awp_cut (fun S H=>S 2 = .box 2 0∧S 3 = .box 3 0∧H 2=some (sheetL s)∧H 3=some [vI w.signs,vI w.cuts,.bool w.free]) (by simp [sheetA,sheetL,wordA]) ?_
 rintro S H ⟨s2,s3,e2,e3⟩
 simp [s2,s3,e2,e3]
 refine ⟨_,by kernel_rfl,ac113 hG w.signs.length 1 6,fun _=>rfl,?_⟩
 cases h3:inI w.signs.length 1 6
 ·simp [wordI,h3]
 ·simp [s2,s3,e2,e3,sheetL]
  refine ⟨_,by kernel_rfl,h139,fun _=>rfl,?_⟩
  cases h4:w.signs.any fun n => !signI s n
  ·simp [s2,s3,e2,e3,hw]
   refine ⟨_,by kernel_rfl,ac162 hG w.cuts (by omega) 1 (w.signs.length - 1),fun _=>rfl,?_⟩
   simp [wordI,h3,h4]
  ·simp [wordI,h3,h4]
theorem ac119 (hG:Stable GI) (s:Sheet) (hs:s.widths.length < 1000) (w:Word) (h1:w.signs.length < 1000) (h2:w.cuts.length < 1000):AC prog GI 119 [wordA w,.ref (sheetL s)] (.ret (.bool (!wordI s w))):=by
 refine AC.of_body hG hmix func119 rfl ntmps119 (by simp) (ac:=c119) (by kernel_rfl) ?_
 simp [c119,wordA,sheetL]
 refine ⟨_,by kernel_rfl,ac120 hG s hs w h1 h2,fun _=>rfl,?_⟩
 simp
end Go.Proofs.Tryz
namespace Go.Proofs.Tryz
open Go Go.AL Go.RowKit Go.Proofs
attribute [local simp] awp_all qs_all ops_all dops_all ops_nil dops_nil ops_call ops_callv ops_alloc ops_box dops_call dops_alloc kO_eq kD_eq awanted apure ev Eff.S Eff.H tmpOf upd putD AL.start AV.dem AV.cells AV.storable AV.scells splice scrub abin loadA HR.okB post ares aress ares1 AV.out AV.isData ints_len ints_get fz fz1 AV.vw AV.vw1 boxy vI int undefA assignQ thenQ blockQ seqQ panQ prol prolH allocOf
variable {GI:World→Prop}
structure Slim (s:Sheet):Prop where
 widths:s.widths.length < 1000
 pairs:s.pairs.length < 1000
 words:s.words.length < 1000
 signs:∀ w∈s.words,w.signs.length < 1000
 cuts:∀ w∈s.words,w.cuts.length < 1000
def endI (s:Sheet):Bool := !(s.widths.any fun n => !inI n 1 20) && spanI s.olo s.ohi 0 9 && spanI s.glo s.ghi 0 20 && inI s.hyphen 1 20 && !(s.words.any fun w => !wordI s w) && inI s.wide 1 400 && inI s.rows 1 3
def sheetI (s:Sheet):Bool:=inI s.widths.length 1 6 && decide (s.pairs.length≤6) && inI s.words.length 1 4 && adjI (pairI s) ltP s.pairs && endI s
theorem ac47 (hG:Stable GI) (s:Sheet) (hs:Slim s):AC prog GI 47 [sheetA s] (.ret (.bool (sheetI s))):=by
 have h139:=ac77 hG s.widths (by have:=hs.widths;omega) 116 [] (.inl rfl) (fun n => !inI n 1 20) (by kernel_rfl) (fun n _=>ac116 hG n)
 have h141:=ac118 hG s.words (by have:=hs.words;omega) 119 [.ref (sheetL s)] (.inr ⟨_,rfl⟩) (fun w => !wordI s w) (by kernel_rfl) (fun w hw=>ac119 hG s hs.widths w (hs.signs w hw) (hs.cuts w hw))
 refine AC.of_body hG hmix func47 rfl ntmps47 (by simp) (ac:=c47) (by kernel_rfl) ?_
 refine awp_cut (fun S H=>S 1 = .box 1 0∧H 1=some (sheetL s)) (by simp [sheetA,sheetL]) ?_
 rintro S H ⟨s1,e1⟩
 simp [s1,e1,sheetL]
 refine ⟨_,by kernel_rfl,ac113 hG s.widths.length 1 6,fun _=>rfl,?_⟩
 cases h1:inI s.widths.length 1 6
 ·simp [sheetI,h1]
 by_cases h2:(6:Int) < s.pairs.length
 ·simp [s1,e1,sheetL,h2]
  have:¬ s.pairs.length≤6:=by omega
  simp [sheetI,this]
 simp [s1,e1,sheetL,h2]
 refine ⟨_,by kernel_rfl,ac113 hG s.words.length 1 4,fun _=>rfl,?_⟩
 cases h3:inI s.words.length 1 4
 ·simp [sheetI,h3]
 simp [s1,e1,sheetL]
 have h2':s.pairs.length≤6:=by omega
 refine awp_loop 27 s.pairs.length (fun i S H=>S 1 = .box 1 0∧H 1=some (sheetL s)∧S 25 = .slice .view (s.pairs.map pairA)∧S 26 = .int .i64 s.pairs.length∧S 27 = .int .i64 (i:Nat)∧(∀ j (hj:j < s.pairs.length),j < i→pairI s s.pairs[j]=true)∧∀ j (hj:j+1 < s.pairs.length),j+1 < i→ltP s.pairs[j] s.pairs[j+1]=true) (fun i S H h=>h.2.2.2.2.1) ⟨by simp [s1],by simp [e1,sheetL],by simp,by simp,by simp,by simp,by simp⟩ ?_
 clear s1 e1 S H
 rintro i hi S H ⟨s1,e1,s25,s26,s27,hb,hc⟩
 by_cases hlt:i < s.pairs.length
 case neg =>
  have hil:i=s.pairs.length:=by omega
  subst hil
  have hadj:adjI (pairI s) ltP s.pairs=true:=adjI_true (fun j hj=>hb j hj hj) (fun j hj=>hc j hj hj)
  simp [s1,e1,s25,s26,s27,sheetL]
  refine ⟨_,by kernel_rfl,h139,fun _=>rfl,?_⟩
  cases h4:s.widths.any fun n => !inI n 1 20
  case true=>simp [sheetI,endI,h4]
  simp [s1,e1,sheetL]
  refine ⟨_,by kernel_rfl,ac117 hG s.olo s.ohi 0 9,fun _=>rfl,?_⟩
  cases h5:spanI s.olo s.ohi 0 9
  ·simp [sheetI,endI,h5]
  simp [s1,e1,sheetL]
  refine ⟨_,by kernel_rfl,ac117 hG s.glo s.ghi 0 20,fun _=>rfl,?_⟩
  cases h6:spanI s.glo s.ghi 0 20
  ·simp [sheetI,endI,h6]
  simp [s1,e1,sheetL]
  refine ⟨_,by kernel_rfl,ac113 hG s.hyphen 1 20,fun _=>rfl,?_⟩
  cases h7:inI s.hyphen 1 20
  ·simp [sheetI,endI,h7]
  simp [s1,e1,sheetL]
  refine ⟨_,by kernel_rfl,h141,fun _=>rfl,?_⟩
  cases h8:s.words.any fun w => !wordI s w
  case true=>simp [sheetI,endI,h8]
  simp [s1,e1,sheetL]
  refine ⟨_,by kernel_rfl,ac113 hG s.wide 1 400,fun _=>rfl,?_⟩
  cases h9:inI s.wide 1 400
  ·simp [sheetI,endI,h9]
  simp [s1,e1,sheetL]
  refine ⟨_,by kernel_rfl,ac113 hG s.rows 1 3,fun _=>rfl,?_⟩
  simp [sheetI,endI,h1,h2',h3,hadj,h4,h5,h6,h7,h8,h9]
 case pos =>
  have hw:IntKind.i64.wrap ((i:Int)+1)=i+1:=wrapI (by omega)
  refine awp_cut (fun S H=>S 28 = .bool true∧S 1 = .box 1 0∧H 1=some (sheetL s)∧S 25 = .slice .view (s.pairs.map pairA)∧S 26 = .int .i64 s.pairs.length∧S 27 = .int .i64 (i:Nat)) (by simp [s1,e1,s25,s26,s27,hlt]) ?_
  clear s1 e1 s25 s26 s27 S H
  rintro S H ⟨s28,s1,e1,s25,s26,s27⟩
  refine awp_go s28 (awp_in ?_)
  refine awp_cut (fun S H=>S 4 = .box 4 0∧H 4=some (pairA s.pairs[i]).cells∧S 3 = .int .i64 (i:Nat)∧S 1 = .box 1 0∧H 1=some (sheetL s)∧S 25 = .slice .view (s.pairs.map pairA)∧S 26 = .int .i64 s.pairs.length∧S 27 = .int .i64 (i:Nat)) (by simp [s1,e1,s25,s26,s27,hlt,pairA]) ?_
  clear s1 e1 s25 s26 s27 s28 S H
  rintro S H ⟨s4,e4,s3,s1,e1,s25,s26,s27⟩
  simp [s1,e1,s3,s4,e4,sheetL,pairA]
  refine ⟨_,by kernel_rfl,ac114 hG s hs.widths s.pairs[i],fun _=>rfl,?_⟩
  cases hp:pairI s s.pairs[i]
  ·simp
   simp [sheetI,adjI_false hlt hp]
  cases i with
  |zero =>
   simp [s1,s3,s4,s25,s26,s27,hlt]
   exact ⟨e1,wrapI (by omega),fun j hj hj0=>by subst hj0;exact hp⟩
  |succ k =>
   have hwk:IntKind.i64.wrap (k:Int)=k:=wrapI (by omega)
   have hw2:IntKind.i64.wrap ((k:Int)+1+1)=k+1+1:=wrapI (by omega)
   have hkl:k < s.pairs.length:=by omega
   have h0:(0:Int) < (k:Int)+1:=by omega
   simp [s1,e1,s3,s4,e4,hlt,hwk,hkl,h0,sheetL,pairA]
   refine ⟨_,by kernel_rfl,ac115 hG s.pairs[k] s.pairs[k+1],fun _=>rfl,?_⟩
   cases hq:ltP s.pairs[k] s.pairs[k+1]
   ·simp
    simp [sheetI,adjI_false2 (p:=pairI s) hlt hq]
   ·simp [s1,e1,s3,s4,s25,s26,s27,hlt,hw2]
    refine ⟨rfl,fun j hj hjk => ?_,fun j hj hjk => ?_⟩
    ·by_cases e:j=k+1
     ·subst e;exact hp
     ·exact hb j hj (by omega)
    ·by_cases e:j=k
     ·subst e;exact hq
     ·exact hc j hj (by omega)
end Go.Proofs.Tryz
namespace Go.AL
theorem AC.as_view {P:Program} {GI:World→Prop} {f:Nat} {args:List AV} {o:Ow} {es:List AV} (h:AC P GI f args (.ret (.slice o es))):AC P GI f args (.ret (.slice .view es)):=by
 intro w old cargs h1 h2 h3
 refine (h w old cargs h1 h2 h3).mono ?_
 rintro e w' ⟨hb,hi,h0,c,rfl,hv,_⟩
 refine ⟨hb,hi,h0,c,rfl,?_,trivial⟩
 cases hv with
 |data _ _ h=>exact .data _ _ (Go.Proofs.Tryz.RD.anyFlag h)
theorem ints_ok (l:List Int):elemsOK 1 (ints l)=true:=by simp [elemsOK,ints,AV.storable,AV.cells]
end Go.AL
namespace Go.Proofs.Tryz
open Go Go.AL Go.RowKit Go.Proofs
variable {GI:World→Prop}
end Go.Proofs.Tryz
namespace Go.AL
theorem adjI_iff {α:Type} {p:α→Bool} {lt:α→α→Bool} {l:List α}:adjI p lt l=true↔(∀ x∈l,p x=true)∧∀ j (hj:j+1 < l.length),lt (l[j]'(by omega)) l[j+1]=true:=by
 unfold adjI
 rw [Bool.and_eq_true,List.all_eq_true,List.all_eq_true]
 constructor
 ·rintro ⟨h1,h2⟩
  refine ⟨h1,fun j hj => ?_⟩
  have:=h2 j (List.mem_range.2 (by omega))
  simpa [show j < l.length by omega,hj] using this
 ·rintro ⟨h1,h2⟩
  refine ⟨h1,fun j hj => ?_⟩
  rw [List.mem_range] at hj
  have:=h2 j (by omega)
  simpa [show j < l.length by omega,show j+1 < l.length by omega] using this
theorem adj_lt {l:List Int} (h:∀ j (hj:j+1 < l.length),l[j] < l[j+1]):l.Pairwise fun a b=>a < b:=by
 rw [List.pairwise_iff_getElem]
 intro i j hi hj hij
 obtain ⟨d,rfl⟩:∃ d,j=i+1+d:=⟨j - i - 1,by omega⟩
 clear hij
 induction d with
 |zero=>exact h i hj
 |succ d ih =>
  have h1:=ih (by omega)
  have h2:=h (i+1+d) hj
  exact Int.lt_trans h1 h2
end Go.AL
namespace Go.Proofs.Tryz
open Go.AL
def soonerI (a b:End):Bool:=decide (a.1 < b.1) || (a.1==b.1 && decide (a.2 < b.2))
theorem soonerI_iff {a b:End}:soonerI a b=true↔a.1 < b.1∨a.1=b.1∧a.2 < b.2:=by
 simp [soonerI]
section
variable {l:List End}
end
def notFree (s:Sheet) (n:Int):Bool:=match s.words[n.toNat]? with | some w => !w.free | none=>false
def outI (s:Sheet) (out:List Int):Bool:=risesI out 0 (s.words.length - 1) && decide (out.length < s.words.length) && !(out.any (notFree s))
def endsW (s:Sheet) (out:List Int) (n:Nat):List End:=if out.contains (n:Int) then [] else match s.words[n]? with
 |some w=>(w.cuts.map fun k=>((n:Int),k))++[((n:Int),(w.signs.length:Int))]
 |none=>[]
def endsL (s:Sheet) (out:List Int):List End:=(List.range s.words.length).flatMap (endsW s out)
def lastN (out:List Int):Nat→Int
 |0 => -1
 |n+1=>if out.contains (n:Int) then lastN out n else n
def okE (s:Sheet) (out:List Int) (e:End):Bool:=inI e.1 0 (s.words.length - 1) && !out.contains e.1 && match s.words[e.1.toNat]? with
 |some w=>e.2==(w.signs.length:Int) || w.cuts.contains e.2
 |none=>false
def lastE (s:Sheet) (out:List Int):End:=(lastN out s.words.length,match s.words[(lastN out s.words.length).toNat]? with | some w=>(w.signs.length:Int) | none=>0)
def setR (s:Sheet) (out:List Int) (es:List End):Bool:=outI s out && !es.isEmpty && (adjI (okE s out) soonerI es && (es.getLast?.getD (-1,0)==lastE s out))
theorem mem_endsL {s:Sheet} {out:List Int} {e:End}:e∈endsL s out↔okE s out e=true:=by
 unfold endsL okE inI
 rw [List.mem_flatMap]
 simp only [List.mem_range,Bool.and_eq_true,decide_eq_true_eq,Bool.not_eq_true',List.contains_eq_mem,decide_eq_false_iff_not]
 constructor
 ·rintro ⟨n,hn,he⟩
  unfold endsW at he
  split at he
  ·cases he
  rename_i hc
  have hc:¬ (n:Int)∈out:=by simpa using hc
  rw [List.getElem?_eq_getElem hn] at he
  simp only [List.mem_append,List.mem_map,List.mem_singleton] at he
  have h1:e.1=n:=by rcases he with ⟨k,_,rfl⟩ | rfl<;>rfl
  rw [h1]
  refine ⟨⟨by omega,hc⟩,?_⟩
  rw [Int.toNat_natCast,List.getElem?_eq_getElem hn]
  simp only [Bool.or_eq_true,beq_iff_eq,decide_eq_true_eq]
  rcases he with ⟨k,hk,rfl⟩ | rfl
  ·exact .inr hk
  ·exact .inl rfl
 ·rintro ⟨⟨⟨h1,h2⟩,hc⟩,h3⟩
  obtain ⟨w,k⟩:=e
  obtain ⟨n,rfl⟩:∃ n:Nat,w=n:=⟨w.toNat,by simp only at h1;omega⟩
  simp only at h1 h2 hc h3
  have hn:n < s.words.length:=by omega
  refine ⟨n,hn,?_⟩
  unfold endsW
  rw [if_neg (by simpa using hc)]
  rw [Int.toNat_natCast,List.getElem?_eq_getElem hn] at h3
  rw [List.getElem?_eq_getElem hn]
  simp only [Bool.or_eq_true,beq_iff_eq,decide_eq_true_eq] at h3
  simp only [List.mem_append,List.mem_map,List.mem_singleton]
  rcases h3 with rfl | h3
  ·exact .inr rfl
  ·exact .inl ⟨k,h3,rfl⟩
theorem endsL_sorted {s:Sheet} {out:List Int} (hw:∀ w∈s.words,risesI w.cuts 1 (w.signs.length - 1)=true):(endsL s out).Pairwise fun a b=>soonerI a b=true:=by
 unfold endsL
 rw [List.pairwise_flatMap]
 constructor
 ·intro n hn
  rw [List.mem_range] at hn
  unfold endsW
  split
  ·exact .nil
  rw [List.getElem?_eq_getElem hn]
  have h:=hw s.words[n] (List.getElem_mem hn)
  unfold risesI at h
  rw [adjI_iff] at h
  obtain ⟨h1,h2⟩:=h
  simp only
  rw [List.pairwise_append]
  refine ⟨?_,List.pairwise_singleton _ _,?_⟩
  ·rw [List.pairwise_map]
   have:s.words[n].cuts.Pairwise fun a b=>a < b:=adj_lt fun j hj=>by simpa using h2 j hj
   exact this.imp fun h=>by simp [soonerI,h]
  ·intro a ha b hb
   rw [List.mem_singleton] at hb
   subst hb
   obtain ⟨k,hk,rfl⟩:=List.mem_map.1 ha
   have:=h1 k hk
   simp [inI] at this
   simp [soonerI];omega
 ·refine List.Pairwise.imp_of_mem ?_ List.pairwise_lt_range
  intro a b ha hb hab x hx y hy
  have hx1:x.1=a:=by
   unfold endsW at hx
   split at hx
   ·cases hx
   split at hx
   ·simp only [List.mem_append,List.mem_map,List.mem_singleton] at hx
    rcases hx with ⟨k,_,rfl⟩ | rfl<;>rfl
   ·cases hx
  have hy1:y.1=b:=by
   unfold endsW at hy
   split at hy
   ·cases hy
   split at hy
   ·simp only [List.mem_append,List.mem_map,List.mem_singleton] at hy
    rcases hy with ⟨k,_,rfl⟩ | rfl<;>rfl
   ·cases hy
  rw [soonerI_iff,hx1,hy1]
  left;omega
theorem lastN_spec {out:List Int}:∀ n:Nat,(lastN out n = -1∧∀ k:Nat,k < n→(k:Int)∈out)∨∃ m:Nat,m < n∧lastN out n=m∧¬ (m:Int)∈out∧∀ k:Nat,m < k→k < n→(k:Int)∈out
 |0 => .inl ⟨rfl,fun k hk=>by omega⟩
 |n+1=>by
  unfold lastN
  split
  ·rename_i hc
   have hc:(n:Int)∈out:=by simpa using hc
   rcases lastN_spec (out:=out) n with ⟨h1,h2⟩ | ⟨m,h1,h2,h3,h4⟩
   ·refine .inl ⟨h1,fun k hk => ?_⟩
    by_cases e:k=n
    ·subst e;exact hc
    ·exact h2 k (by omega)
   ·refine .inr ⟨m,by omega,h2,h3,fun k hk hk' => ?_⟩
    by_cases e:k=n
    ·subst e;exact hc
    ·exact h4 k hk (by omega)
  ·rename_i hc
   exact .inr ⟨n,by omega,rfl,by simpa using hc,fun k h1 h2=>by omega⟩
theorem out_some {s:Sheet} {out:List Int} (h:outI s out=true):∃ m:Nat,m < s.words.length∧lastN out s.words.length=m∧¬ (m:Int)∈out∧∀ k:Nat,m < k→k < s.words.length→(k:Int)∈out:=by
 unfold outI at h
 simp only [Bool.and_eq_true,decide_eq_true_eq] at h
 obtain ⟨⟨h1,h2⟩,_⟩:=h
 rcases lastN_spec (out:=out) s.words.length with ⟨_,h3⟩ | h3
 ·exfalso
  unfold risesI at h1
  rw [adjI_iff] at h1
  obtain ⟨_,h1⟩:=h1
  have hp:out.Pairwise fun a b=>a < b:=adj_lt fun j hj=>by simpa using h1 j hj
  have hp:=List.pairwise_iff_getElem.1 hp
  have key:∀ k:Nat,k < s.words.length→∃ j,k≤j∧∃ hj:j < out.length,out[j]=k:=by
   intro k
   induction k with
   |zero =>
    intro hk
    obtain ⟨j,hj,e⟩:=List.getElem_of_mem (h3 0 hk)
    exact ⟨j,by omega,hj,e⟩
   |succ k ih =>
    intro hk
    obtain ⟨j,hkj,hj,e⟩:=ih (by omega)
    obtain ⟨j',hj',e'⟩:=List.getElem_of_mem (h3 (k+1) hk)
    refine ⟨j',?_,hj',e'⟩
    rcases Nat.lt_trichotomy j j' with h | h | h
    ·omega
    ·subst h;omega
    ·have:=hp j' j hj' hj h;omega
  obtain ⟨j,hkj,hj,_⟩:=key (s.words.length - 1) (by omega)
  omega
 ·exact h3
theorem lastE_mem {s:Sheet} {out:List Int} (h:outI s out=true):(endsL s out).getLast? = some (lastE s out):=by
 obtain ⟨m,h1,h2,h3,h4⟩:=out_some h
 have hl:lastE s out=((m:Int),((s.words[m]).signs.length:Int)):=by
  unfold lastE
  rw [h2,Int.toNat_natCast,List.getElem?_eq_getElem h1]
 rw [hl]
 unfold endsL
 obtain ⟨d,hd⟩:∃ d,s.words.length=m+1+d:=⟨s.words.length - m - 1,by omega⟩
 have key:∀ d,m+1+d≤s.words.length→((List.range (m+1+d)).flatMap (endsW s out)).getLast? = some ((m:Int),((s.words[m]).signs.length:Int)):=by
  intro d
  induction d with
  |zero =>
   intro _
   rw [Nat.add_zero,List.range_succ,List.flatMap_append,List.flatMap_singleton]
   have hm:¬ (out.contains (m:Int)=true):=by simpa using h3
   have e:endsW s out m=(s.words[m].cuts.map fun k=>((m:Int),k))++[((m:Int),(s.words[m].signs.length:Int))]:=by
    unfold endsW
    rw [if_neg hm,List.getElem?_eq_getElem h1]
   rw [e,← List.append_assoc,List.getLast?_append]
   simp
  |succ d ih =>
   intro hle
   rw [← Nat.add_assoc,List.range_succ,List.flatMap_append,List.flatMap_singleton]
   have hc:out.contains ((m+1+d:Nat):Int)=true:=by simpa using h4 (m+1+d) (by omega) (by omega)
   have e:endsW s out (m+1+d)=[]:=by
    unfold endsW
    rw [if_pos hc]
   rw [e,List.append_nil]
   exact ih (by omega)
 rw [hd]
 exact key d (by omega)
end Go.Proofs.Tryz
namespace Go.AL
section
variable {P:Program} {GI:World→Prop}
theorem awp_loopD {c:ACode} {Q:AExit→Slots→Boxes→Prop} {S:Slots} {H:Boxes} (t n:Nat) (I:Nat→Slots→Boxes→Prop) (hix:∀ i S H,I i S H→S t = .int .i64 ((i:Nat) - 1)) (h0:I n S H)
  (hs:∀ i,i≤n→∀ S H,I i S H→awp P GI c (thenQ (fun S' H'=>0 < i∧I (i - 1) S' H') Q) S H):awp P GI (.loop c) Q S H:=by
 refine ⟨fun S H=>∃ i,i≤n∧I i S H,fun S _=>match S t with | .int _ k=>(k+1).toNat | _=>0,⟨n,Nat.le_refl _,h0⟩,?_⟩
 rintro S H ⟨i,hi,hI⟩
 refine awp_mono c (thenQ_mono (fun S' H' h => ?_) (fun _ _ _ h=>h)) (hs i hi S H hI)
 refine ⟨⟨i - 1,by omega,h.2⟩,?_⟩
 have e1:=hix _ _ _ hI
 have e2:=hix _ _ _ h.2
 simp only [e1,e2]
 have:=h.1
 omega
end
end Go.AL
namespace Go.Proofs.Tryz
open Go Go.AL Go.RowKit Go.Proofs
attribute [local simp] awp_all qs_all ops_all dops_all ops_nil dops_nil ops_call ops_callv ops_alloc ops_box dops_call dops_alloc kO_eq kD_eq awanted apure ev Eff.S Eff.H tmpOf upd putD AL.start AV.dem AV.cells AV.storable AV.scells splice scrub abin loadA HR.okB post ares aress ares1 AV.out AV.isData ints_len ints_get fz fz1 AV.vw AV.vw1 boxy vI int undefA assignQ thenQ blockQ seqQ panQ prol prolH allocOf
variable {GI:World→Prop}
theorem ac148 (hG:Stable GI) (l:List Int) (hl:l.length < 1000000) (v:Int):AC prog GI 148 [vI l,.int .i64 v] (.ret (.int .i64 (firstT (v == ·) l))):=by
 refine AC.of_body hG hmix func148 rfl ntmps148 (by simp) (ac:=c148) (by kernel_rfl) ?_
 simp [c148]
 refine awp_loop 8 l.length (fun i S H=>S 0=vI l∧S 1 = .int .i64 v∧S 7 = .int .i64 l.length∧S 8 = .int .i64 (i:Nat)∧∀ j (hj:j < l.length),j < i→(v==l[j])=false) (fun i S H h=>h.2.2.2.1) ⟨by simp,by simp,by simp,by simp,by simp⟩ ?_
 rintro i hi S H ⟨s0,s1,s7,s8,hb⟩
 by_cases hlt:i < l.length
 ·have hw:IntKind.i64.wrap ((i:Int)+1)=i+1:=wrapI (by omega)
  cases he:v==l[i]
  ·simp [s0,s1,s7,s8,hlt,he,hw]
   intro j hj hji
   by_cases e:j=i
   ·subst e;simpa using he
   ·simpa using hb j hj (by omega)
  ·simp [s0,s1,s7,s8,hlt,he,hw]
   exact firstT_at hlt he hb
 ·have hil:i=l.length:=by omega
  subst hil
  simp [s0,s1,s7,s8]
  exact firstT_none fun j hj=>hb j hj hj
theorem ac81 (hG:Stable GI) (l:List Int) (hl:l.length < 1000000) (v:Int):AC prog GI 81 [vI l,.int .i64 v] (.ret (.bool (l.contains v))):=by
 refine AC.of_body hG hmix func81 rfl ntmps81 (by simp) (ac:=c81) (by kernel_rfl) ?_
 simp [c81]
 refine ⟨_,by kernel_rfl,ac148 hG l hl v,fun _=>rfl,?_⟩
 simp
 have:=firstT_any (p:=(v == ·)) (l:=l)
 rw [Bool.eq_iff_iff] at this
 simpa using this.symm
theorem intsOf2 (a b:Int):intsOf [.int .i64 a,.int .i64 b]=some [a,b]:=rfl
end Go.Proofs.Tryz
namespace Go.AL
section
variable {P:Program} {GI:World→Prop}
theorem ops_allN :
  (∀ x0 x1,OE P GI (.mv x0 x1)) ∧
  (∀ x0 x1 x2,OE P GI (.pick x0 x1 x2)) ∧
  (∀ x0 x1,OE P GI (.build x0 x1)) ∧
  (∀ x0 x1 x2 x3,OE P GI (.buildSlice x0 x1 x2 x3)) ∧
  (∀ x0 x1 x2 x3,OE P GI (.load x0 x1 x2 x3)) ∧
  (∀ x0 x1,OE P GI (.loadT x0 x1)) ∧
  (∀ x0 x1 x2 x3,OE P GI (.store x0 x1 x2 x3)) ∧
  (∀ x0 x1 x2,OE P GI (.bin x0 x1 x2)) ∧
  (∀ x0 x1 x2,OE P GI (.eqB x0 x1 x2)) ∧
  (∀ x0 x1 x2 x3,OE P GI (.eqs x0 x1 x2 x3)) ∧
  (∀ x0 x1 x2 x3 x4,OE P GI (.indexA x0 x1 x2 x3 x4)) ∧
  (∀ x0,OE P GI (.bstr x0)) ∧
  (∀ x0,OE P GI (.buildF x0)) ∧
  (∀ x0 x1 x2,OE P GI (.indexF x0 x1 x2)) ∧
  (∀ x0 x1 x2 x3,OE P GI (.lookup x0 x1 x2 x3)) ∧
  (∀ x0,OE P GI (.not x0)) ∧
  (∀ x0 x1,OE P GI (.conv x0 x1)) ∧
  (∀ x0 x1,OE P GI (.iface x0 x1)) ∧
  (∀ x0 x1 x2,OE P GI (.mkf x0 x1 x2)) ∧
  (∀ x0 x1 x2,OE P GI (.sliceS x0 x1 x2)) ∧
  (∀ x0 x1 x2 x3,OE P GI (.sliceL x0 x1 x2 x3)) ∧
  (∀ x0 x1,OE P GI (.sliceR x0 x1)) ∧
  (∀ x0 x1,OE P GI (.fieldAddr x0 x1)) ∧
  (∀ x0 x1 x2,OE P GI (.indexAddr x0 x1 x2)) ∧
  (∀ x0 x1,OE P GI (.indexS x0 x1)) ∧
  (∀ x0 x1,OE P GI (.extract x0 x1)) ∧
  (∀ x0,OE P GI (.lenS x0)) ∧
  (∀ x0,OE P GI (.lenL x0)) ∧
  (∀ x0 x1,OE P GI (.isNil x0 x1)) ∧
  (∀ x0,OE P GI (.empty x0)) ∧
  (∀ x0 x1,OE P GI (.max x0 x1)) ∧
  (∀ x0 x1,OE P GI (.min x0 x1)) ∧
  (∀ x0 x1 x2,OE P GI (.assert x0 x1 x2)):=by
 refine ⟨?_,?_,?_,?_,?_,?_,?_,?_,?_,?_,?_,?_,?_,?_,?_,?_,?_,?_,?_,?_,?_,?_,?_,?_,?_,?_,?_,?_,?_,?_,?_,?_,?_⟩<;>intros<;>intro d<;>intros<;>rfl
theorem dops_allN :
  (∀ x0 x1,DE P GI (.mv x0 x1)) ∧
  (∀ x0 x1 x2,DE P GI (.pick x0 x1 x2)) ∧
  (∀ x0 x1,DE P GI (.build x0 x1)) ∧
  (∀ x0 x1 x2 x3,DE P GI (.buildSlice x0 x1 x2 x3)) ∧
  (∀ x0 x1 x2 x3,DE P GI (.load x0 x1 x2 x3)) ∧
  (∀ x0 x1,DE P GI (.loadT x0 x1)) ∧
  (∀ x0 x1 x2 x3,DE P GI (.store x0 x1 x2 x3)) ∧
  (∀ x0 x1 x2,DE P GI (.bin x0 x1 x2)) ∧
  (∀ x0 x1 x2,DE P GI (.eqB x0 x1 x2)) ∧
  (∀ x0 x1 x2 x3,DE P GI (.eqs x0 x1 x2 x3)) ∧
  (∀ x0 x1 x2 x3 x4,DE P GI (.indexA x0 x1 x2 x3 x4)) ∧
  (∀ x0,DE P GI (.bstr x0)) ∧
  (∀ x0,DE P GI (.buildF x0)) ∧
  (∀ x0 x1 x2,DE P GI (.indexF x0 x1 x2)) ∧
  (∀ x0 x1 x2 x3,DE P GI (.lookup x0 x1 x2 x3)) ∧
  (∀ x0,DE P GI (.not x0)) ∧
  (∀ x0 x1,DE P GI (.conv x0 x1)) ∧
  (∀ x0 x1,DE P GI (.iface x0 x1)) ∧
  (∀ x0 x1 x2,DE P GI (.mkf x0 x1 x2)) ∧
  (∀ x0 x1 x2,DE P GI (.sliceS x0 x1 x2)) ∧
  (∀ x0 x1 x2 x3,DE P GI (.sliceL x0 x1 x2 x3)) ∧
  (∀ x0 x1,DE P GI (.sliceR x0 x1)) ∧
  (∀ x0 x1,DE P GI (.fieldAddr x0 x1)) ∧
  (∀ x0 x1 x2,DE P GI (.indexAddr x0 x1 x2)) ∧
  (∀ x0 x1,DE P GI (.indexS x0 x1)) ∧
  (∀ x0 x1,DE P GI (.extract x0 x1)) ∧
  (∀ x0,DE P GI (.lenS x0)) ∧
  (∀ x0,DE P GI (.lenL x0)) ∧
  (∀ x0 x1,DE P GI (.isNil x0 x1)) ∧
  (∀ x0,DE P GI (.empty x0)) ∧
  (∀ x0 x1,DE P GI (.max x0 x1)) ∧
  (∀ x0 x1,DE P GI (.min x0 x1)) ∧
  (∀ x0 x1 x2,DE P GI (.assert x0 x1 x2)):=by
 refine ⟨?_,?_,?_,?_,?_,?_,?_,?_,?_,?_,?_,?_,?_,?_,?_,?_,?_,?_,?_,?_,?_,?_,?_,?_,?_,?_,?_,?_,?_,?_,?_,?_,?_⟩<;>intros<;>intro d<;>intros<;>rfl
theorem ops_ap (x0 x1 x2 x3 x4 x5):OE P GI (.append x0 x1 x2 x3 x4 x5):=ops_all.2.2.2.2.2.2.2.2.2.2.2.2.2.2.2.2.2.2.2.2.2.2.2.2.2.2.2.2.2.2.1 x0 x1 x2 x3 x4 x5
theorem dops_ap (x0 x1 x2 x3 x4 x5):DE P GI (.append x0 x1 x2 x3 x4 x5):=dops_all.2.2.2.2.2.2.2.2.2.2.2.2.2.2.2.2.2.2.2.2.2.2.2.2.2.2.2.2.2.2.1 x0 x1 x2 x3 x4 x5
def grow (e:Nat) (l:List AV):AV := .slice (if l=[] then .nil else .own e) l
theorem grow_nil (e:Nat):grow e [] = .slice .nil []:=by unfold grow;rw [if_pos rfl]
theorem appV {S:Slots} {H:Boxes} {t e size cap i j:Nat} {l:List AV} {v:AV} {o:Ow} (hi:S i=grow e l) (hj:S j = .slice o [v]) (hv:elemsOK size [v]=true) (hl:elemsOK size l=true) (hn:l.length+1 < 1048576) :
  ∃ dm,(dm=none∨dm=some i)∧apure S H (.append t e size cap (.t i) (.t j))=some { v:=grow e (l++[v]),dm:=dm }:=by
 have ei:ev S (.t i)=grow e l:=hi
 have ej:ev S (.t j) = .slice o [v]:=hj
 cases l with
 |nil =>
  refine ⟨none,.inl rfl,?_⟩
  simp only [apure]
  rw [ei,ej,grow_nil]
  simp [hv,grow]
 |cons x l =>
  refine ⟨some i,.inr rfl,?_⟩
  have hn':l.length+1+1 < 1048576:=by simpa using hn
  simp only [apure]
  rw [ei,ej]
  simp [grow,hv,hl,tmpOf,hn']
theorem eff_keep {S:Slots} {i d:Nat} {dm:Option Nat} (hd:dm=none∨dm=some i) (v:AV):(Eff.S { v:=v,dm:=dm } S (some d)) d=v∧∀ k,k≠d→k≠i→Eff.S { v:=v,dm:=dm } S (some d) k=S k:=by
 rcases hd with rfl | rfl
 ·refine ⟨by simp [Eff.S,putD,upd],fun k h1 _=>by simp [Eff.S,putD,upd,h1]⟩
 ·refine ⟨by simp [Eff.S,putD,upd],fun k h1 h2=>by simp [Eff.S,putD,upd,h1,h2]⟩
theorem aops_app {K:Slots→Boxes→Prop} {Qp:AV→Prop} {S:Slots} {H:Boxes} {t e size cap d i j:Nat} {rest:List AOpr} (l:List AV) (v:AV) (o:Ow) (hi:S i=grow e l) (hj:S j = .slice o [v]) (hv:elemsOK size [v]=true) (hl:elemsOK size l=true) (hn:l.length+1 < 1048576)
  (h:∀ S',S' d=grow e (l++[v])→(∀ k,k≠d→k≠i→S' k=S k)→aops P GI rest K Qp S' H):aops P GI (⟨some d,none,.append t e size cap (.t i) (.t j)⟩::rest) K Qp S H:=by
 obtain ⟨dm,hdm,hap⟩:=appV (t:=t) (cap:=cap) (H:=H) hi hj hv hl hn
 obtain ⟨k1,k2⟩:=eff_keep (S:=S) (d:=d) hdm (grow e (l++[v]))
 rw [ops_all.2.2.2.2.2.2.2.2.2.2.2.2.2.2.2.2.2.2.2.2.2.2.2.2.2.2.2.2.2.2.1]
 simp only [awanted,hap]
 exact h _ k1 k2
theorem dops_app {K:Slots→Boxes→Prop} {S:Slots} {H:Boxes} {t e size cap d i j:Nat} {rest:List AOpr} (l:List AV) (v:AV) (o:Ow) (hi:S i=grow e l) (hj:S j = .slice o [v]) (hv:elemsOK size [v]=true) (hl:elemsOK size l=true) (hn:l.length+1 < 1048576)
  (h:∀ S',S' d=grow e (l++[v])→(∀ k,k≠d→k≠i→S' k=S k)→dops P GI rest K S' H):dops P GI (⟨some d,none,.append t e size cap (.t i) (.t j)⟩::rest) K S H:=by
 obtain ⟨dm,hdm,hap⟩:=appV (t:=t) (cap:=cap) (H:=H) hi hj hv hl hn
 obtain ⟨k1,k2⟩:=eff_keep (S:=S) (d:=d) hdm (grow e (l++[v]))
 rw [dops_all.2.2.2.2.2.2.2.2.2.2.2.2.2.2.2.2.2.2.2.2.2.2.2.2.2.2.2.2.2.2.1]
 simp only [awanted,hap]
 exact h _ k1 k2
theorem elems_map {α:Type} {f:α→AV} {size:Nat} {l:List α} (h:∀ a,(f a).storable=true∧(f a).cells.length=size):elemsOK size (l.map f)=true:=by
 simp [elemsOK,h]
end
end Go.AL
namespace Go.Proofs.Tryz
open Go Go.AL Go.RowKit Go.Proofs
variable {GI:World→Prop}
theorem ends_ok2 (l:List End):elemsOK 2 (l.map endA)=true:=elems_map fun a=>⟨rfl,rfl⟩
end Go.Proofs.Tryz
namespace Go.Proofs.Tryz
open Go Go.AL Go.RowKit Go.Proofs
attribute [local simp] awp_all qs_all ops_allN dops_allN ops_nil dops_nil ops_call ops_callv ops_alloc ops_box dops_call dops_alloc kO_eq kD_eq awanted apure ev Eff.S Eff.H tmpOf upd putD AL.start AV.dem AV.cells AV.storable AV.scells splice scrub abin loadA HR.okB post ares aress ares1 AV.out AV.isData ints_len ints_get fz fz1 AV.vw AV.vw1 boxy vI int undefA assignQ thenQ blockQ seqQ panQ prol prolH allocOf
variable {GI:World→Prop}
def endsG (l:List End):AV:=grow 214 (l.map endA)
theorem endsW_at {s:Sheet} {out:List Int} {n:Nat} (h:n < s.words.length) (hc:out.contains (n:Int)=false):endsW s out n=(s.words[n].cuts.map fun k=>((n:Int),k))++[((n:Int),(s.words[n].signs.length:Int))]:=by
 unfold endsW
 rw [hc,List.getElem?_eq_getElem h]
 rfl
theorem endsW_out {s:Sheet} {out:List Int} {n:Nat} (hc:out.contains (n:Int)=true):endsW s out n=[]:=by
 unfold endsW
 rw [hc]
 rfl
def endsP (s:Sheet) (out:List Int) (i:Nat):List End:=(List.range i).flatMap (endsW s out)
theorem endsP_succ (s:Sheet) (out:List Int) (i:Nat):endsP s out (i+1)=endsP s out i++endsW s out i:=by unfold endsP;rw [List.range_succ,List.flatMap_append,List.flatMap_singleton]
set_option maxHeartbeats 1000000 in
theorem ac122 (hG:Stable GI) (s:Sheet) (hs:Slim s) (out:List Int) (ho:out.length < 1000000):AC prog GI 122 [sheetA s,vI out] (.ret (.slice .view (endsA (endsL s out)))):=by
 have q3:=hs.words
 refine AC.as_view (o:=if endsL s out=[] then .nil else .view) ?_
 refine AC.of_body hG hmix func122 rfl ntmps122 (by simp) (ac:=c122) (by kernel_rfl) ?_
 simp [c122,ops_ap,dops_ap,sheetA,sheetL]
 refine awp_loop 12 s.words.length (fun i S H=>S 1=vI out∧S 2 = .box 2 0∧H 2=some (sheetL s)∧S 11 = .int .i64 s.words.length∧S 12 = .int .i64 (i:Nat)∧S 5=endsG (endsP s out i)∧(endsP s out i).length≤1001 * i) (fun i S H h=>h.2.2.2.2.1) ⟨by simp [ops_ap,dops_ap],by simp [ops_ap,dops_ap],by simp [ops_ap,dops_ap,sheetL],by simp [ops_ap,dops_ap],by simp [ops_ap,dops_ap],by simp [ops_ap,dops_ap,endsG,endsP,grow],by simp [endsP]⟩ ?_
 rintro i hi S H ⟨s1,s2,e2,s11,s12,s5,hl⟩
 by_cases hlt:i < s.words.length
 case neg =>
  have hil:i=s.words.length:=by omega
  subst hil
  have s5:S 5=endsG (endsL s out):=s5
  by_cases h0:endsL s out=[]
  ·rw [h0] at s5
   have s5':S 5 = .slice .nil []:=by rw [s5];simp [endsG,grow]
   simp [ops_ap,dops_ap,s1,s2,e2,s11,s12,s5',h0,endsA]
  ·have s5':S 5 = .slice (.own 214) ((endsL s out).map endA):=by rw [s5];simp [endsG,grow,h0]
   simp [ops_ap,dops_ap,s1,s2,e2,s11,s12,s5',h0,endsA]
 have hw:IntKind.i64.wrap ((i:Int)+1)=i+1:=wrapI (by omega)
 have hcut:=hs.cuts _ (List.getElem_mem hlt)
 have hr:=endsP_succ s out i
 generalize hL:endsP s out i=L at s5 hl hr
 simp [ops_ap,dops_ap,s1,s2,e2,s11,s12,hlt]
 refine ⟨_,by kernel_rfl,ac81 hG out ho i,fun _=>rfl,?_⟩
 cases hc:out.contains (i:Int)
 case true =>
  have hr':endsP s out (i+1)=L:=by rw [hr,endsW_out hc,List.append_nil]
  rw [hr']
  simp [ops_ap,dops_ap,s1,s2,e2,s11,s12,s5,hw,hlt]
  omega
 have hew:=endsW_at hlt hc
 simp [ops_ap,dops_ap,s1,s2,e2,s11,s12,hlt,sheetL,wordA]
 refine awp_loop 25 s.words[i].cuts.length (fun j S H=>S 1=vI out∧S 2 = .box 2 0∧H 2=some (sheetL s)∧S 11 = .int .i64 s.words.length∧S 12 = .int .i64 (i:Nat)∧S 6 = .int .i64 (i:Nat)∧S 23=vI s.words[i].cuts∧S 24 = .int .i64 s.words[i].cuts.length∧S 25 = .int .i64 (j:Nat)∧S 5=endsG (L++(s.words[i].cuts.take j).map fun k=>((i:Int),k))) (fun i S H h=>h.2.2.2.2.2.2.2.2.1) ⟨by simp [ops_ap,dops_ap,s1],by simp [ops_ap,dops_ap,s2],by simp [ops_ap,dops_ap,e2,sheetL],by simp [ops_ap,dops_ap,s11],by simp [ops_ap,dops_ap,s12],by simp [ops_ap,dops_ap],by simp [ops_ap,dops_ap],by simp [ops_ap,dops_ap],by simp [ops_ap,dops_ap],by simp [ops_ap,dops_ap,s5]⟩ ?_
 clear s1 s2 e2 s11 s12 s5 S H
 rintro j hj S H ⟨s1,s2,e2,s11,s12,s6,s23,s24,s25,s5⟩
 by_cases hjt:j < s.words[i].cuts.length
 ·have hwj:IntKind.i64.wrap ((j:Int)+1)=j+1:=wrapI (by omega)
  have htk:s.words[i].cuts.take (j+1)=s.words[i].cuts.take j++[s.words[i].cuts[j]]:=List.take_succ_eq_append_getElem hjt
  have hlen:(L++(s.words[i].cuts.take j).map fun k=>((i:Int),k)).length < 1040000:=by
   simp only [List.length_append,List.length_map,List.length_take];omega
  rw [htk,List.map_append,← List.append_assoc]
  generalize (L++(s.words[i].cuts.take j).map fun k=>((i:Int),k))=M at s5 hlen ⊢
  have hok1:elemsOK 2 [AV.agg [AV.int .i64 (i:Nat),AV.int .i64 s.words[i].cuts[j]]]=true:=rfl
  simp [s1,s2,e2,s11,s12,s6,s23,s24,s25,hjt,hok1]
  refine aops_app (M.map endA) (endA ((i:Int),s.words[i].cuts[j])) (.own 214) (by simp [s5,endsG]) (by simp [endA]) rfl (ends_ok2 _) (by rw [List.length_map];omega) ?_
  intro S' sd hk
  simp [sd,hk,s1,s2,e2,s11,s12,s6,s23,s24,s25,hwj,hjt,endsG]
 ·have hjl:j=s.words[i].cuts.length:=by omega
  subst hjl
  rw [List.take_length] at s5
  have hlen:(L++s.words[i].cuts.map fun k=>((i:Int),k)).length≤1001 * i+1000:=by
   simp only [List.length_append,List.length_map];omega
  rw [hr,hew,← List.append_assoc]
  generalize (L++s.words[i].cuts.map fun k=>((i:Int),k))=M at s5 hlen ⊢
  have hok1:elemsOK 2 [AV.agg [AV.int .i64 (i:Nat),AV.int .i64 s.words[i].signs.length]]=true:=rfl
  simp [s1,s2,e2,s11,s12,s6,s23,s24,s25,hlt,hok1,sheetL,wordA]
  refine aops_app (M.map endA) (endA ((i:Int),(s.words[i].signs.length:Int))) (.own 214) (by simp [s5,endsG]) (by simp [endA]) rfl (ends_ok2 _) (by rw [List.length_map];omega) ?_
  intro S' sd hk
  simp [sd,hk,s1,s2,e2,s11,s12,hw,hlt,endsG,sheetL]
  omega
end Go.Proofs.Tryz
namespace Go.Proofs.Tryz
open Go.AL
def lenW (s:Sheet) (w:Nat):Nat:=match s.words[w]? with | some x=>x.signs.length | none=>0
theorem lenW_eq {s:Sheet} {w:Nat} (h:w < s.words.length):lenW s w=s.words[w].signs.length:=by unfold lenW;rw [List.getElem?_eq_getElem h]
def seg (w f t:Nat):List (Nat×Nat):=(List.range' f (t - f)).map fun i=>(w,i)
def rowN (s:Sheet) (out:List Int):Nat→Nat→Nat→Nat→List (Nat×Nat)
 |0,w,f,t=>seg w f t
 |d+1,w,f,t=>(if out.contains (w:Int) then [] else seg w f (lenW s w))++rowN s out d (w+1) 0 t
def rowG (s:Sheet) (out:List Int) (a e:Nat×Nat):List (Nat×Nat):=rowN s out (e.1 - a.1) a.1 a.2 e.2
theorem seg_nil {w f t:Nat} (h:t≤f):seg w f t=[]:=by
 unfold seg
 rw [show t - f=0 by omega];rfl
theorem seg_cons {w f t:Nat} (h:f < t):seg w f t=(w,f)::seg w (f+1) t:=by
 unfold seg
 rw [show t - f=(t - (f+1))+1 by omega,List.range'_succ];rfl
theorem seg_snoc {w f t:Nat} (h:f≤t):seg w f (t+1)=seg w f t++[(w,t)]:=by
 unfold seg
 rw [show t+1 - f=(t - f)+1 by omega,List.range'_concat,List.map_append]
 simp only [List.map_cons,List.map_nil,Nat.one_mul]
 rw [show f+(t - f)=t by omega]
theorem seg_len {w f t:Nat}:(seg w f t).length=t - f:=by simp [seg]
theorem mem_seg {w f t:Nat} {g:Nat×Nat}:g∈seg w f t↔g.1=w∧f≤g.2∧g.2 < t:=by
 unfold seg
 rw [List.mem_map]
 simp only [List.mem_range'_1]
 constructor
 ·rintro ⟨i,hi,rfl⟩;exact ⟨rfl,hi.1,by have:=hi.2;show i < t;omega⟩
 ·rintro ⟨h1,h2,h3⟩;exact ⟨g.2,by omega,by rw [← h1]⟩
theorem rowG_self {s:Sheet} {out:List Int} {w f t:Nat} (h:t≤f):rowG s out (w,f) (w,t)=[]:=by
 unfold rowG
 simp only [Nat.sub_self]
 exact seg_nil h
theorem rowG_last {s:Sheet} {out:List Int} {w f t:Nat}:rowG s out (w,f) (w,t)=seg w f t:=by
 unfold rowG
 simp only [Nat.sub_self]
 rfl
theorem rowG_word {s:Sheet} {out:List Int} {w f:Nat} {e:Nat×Nat} (h:w < e.1):rowG s out (w,f) e=(if out.contains (w:Int) then [] else seg w f (lenW s w))++rowG s out (w+1,0) e:=by
 unfold rowG
 simp only
 rw [show e.1 - w=(e.1 - (w+1))+1 by omega]
 rfl
theorem rowG_out {s:Sheet} {out:List Int} {w f:Nat} {e:Nat×Nat} (h:w < e.1) (hc:out.contains (w:Int)=true):rowG s out (w,f) e=rowG s out (w+1,0) e:=by
 rw [rowG_word h,if_pos hc,List.nil_append]
theorem rowG_full {s:Sheet} {out:List Int} {w f:Nat} {e:Nat×Nat} (h:w < e.1) (hf:lenW s w≤f):rowG s out (w,f) e=rowG s out (w+1,0) e:=by
 rw [rowG_word h]
 split
 ·rfl
 ·rw [seg_nil hf];rfl
theorem rowG_go {s:Sheet} {out:List Int} {w f:Nat} {e:Nat×Nat} (h:w < e.1∧out.contains (w:Int)=false∧f < lenW s w∨w=e.1∧f < e.2):rowG s out (w,f) e=(w,f)::rowG s out (w,f+1) e:=by
 rcases h with ⟨h,hc,hf⟩ | ⟨h,hf⟩
 ·rw [rowG_word h,rowG_word h,hc]
  simp only [Bool.false_eq_true,if_false]
  rw [seg_cons hf];rfl
 ·obtain ⟨ew,et⟩:=e
  simp only at h hf
  subst h
  rw [rowG_last,rowG_last,seg_cons hf]
theorem rowN_len {s:Sheet} {out:List Int} {b:Nat} (hb:∀ w,lenW s w≤b):∀ (d w f t:Nat),t≤b→(rowN s out d w f t).length≤(d+1) * b
 |0,w,f,t,h=>by
  unfold rowN
  rw [seg_len];omega
 |d+1,w,f,t,h=>by
  unfold rowN
  rw [List.length_append]
  have h1:=rowN_len (out:=out) hb d (w+1) 0 t h
  have h2:(if out.contains (w:Int) then [] else seg w f (lenW s w)).length≤b:=by
   split
   ·simp
   ·rw [seg_len];have:=hb w;omega
  have:(d+1+1) * b=(d+1) * b+b:=Nat.succ_mul _ _
  omega
theorem rowN_mem {s:Sheet} {out:List Int}:∀ (d w f t:Nat) {g:Nat×Nat},g∈rowN s out d w f t→(g.1=w+d∧g.2 < t)∨(w≤g.1∧g.1 < w+d∧g.2 < lenW s g.1)
 |0,w,f,t,g,h=>by
  have:=mem_seg.1 h
  left;omega
 |d+1,w,f,t,g,h=>by
  unfold rowN at h
  rcases List.mem_append.1 h with h | h
  ·split at h
   ·cases h
   ·have:=mem_seg.1 h
    right
    rw [this.1];omega
  ·rcases rowN_mem d (w+1) 0 t h with h | h
   ·left;omega
   ·right;omega
theorem rowN_end {s:Sheet} {out:List Int}:∀ (d w f t:Nat),(d=0→f < t)→0 < t→(rowN s out d w f t).getLast? = some (w+d,t - 1)
 |0,w,f,t,h,h'=>by
  have h:=h rfl
  unfold rowN
  obtain ⟨t,rfl⟩:∃ t',t=t'+1:=⟨t - 1,by omega⟩
  rw [seg_snoc (by omega)]
  simp
 |d+1,w,f,t,h,h'=>by
  unfold rowN
  have:=rowN_end (s:=s) (out:=out) d (w+1) 0 t (fun _=>h') h'
  rw [List.getLast?_append,this]
  show some (w+1+d,t - 1)=some (w+(d+1),t - 1)
  rw [show w+1+d=w+(d+1) by omega]
def nE (e:End):Nat×Nat:=(e.1.toNat,e.2.toNat)
def aft (es:List End):Nat→Nat×Nat
 |0=>(0,0)
 |i+1=>match es[i]? with | some e=>nE e | none=>(0,0)
def rowI (s:Sheet) (out:List Int) (es:List End) (i:Nat):List (Nat×Nat):=match es[i]? with | some e=>rowG s out (aft es i) (nE e) | none=>[]
def cutI (s:Sheet) (es:List End) (i:Nat):Bool:=match es[i]? with | some e=>decide (e.2 < (lenW s e.1.toNat:Int)) | none=>false
structure Good (s:Sheet) (out:List Int) (es:List End):Prop where
 one:∀ i (h:i < es.length),0≤es[i].1∧es[i].1 < s.words.length∧out.contains es[i].1=false∧1≤es[i].2∧es[i].2≤lenW s es[i].1.toNat
 rise:∀ i (h:i+1 < es.length),es[i].1 < es[i+1].1∨es[i].1=es[i+1].1∧es[i].2 < es[i+1].2
theorem sheetI_wordI {s:Sheet} (h:sheetI s=true) {w:Word} (hw:w∈s.words):wordI s w=true:=by
 unfold sheetI endI at h
 simp only [Bool.and_eq_true,Bool.not_eq_true',List.any_eq_false] at h
 have:=h.2.1.1.2 w hw
 simpa using this
structure WordF (s:Sheet) (w:Word):Prop where
 len1:1≤w.signs.length
 len6:w.signs.length≤6
 sign:∀ n∈w.signs,0≤n∧n < s.widths.length
 cuts:risesI w.cuts 1 (w.signs.length - 1)=true
theorem wordF {s:Sheet} (h:sheetI s=true) {w:Word} (hw:w∈s.words):WordF s w:=by
 have h:=sheetI_wordI h hw
 unfold wordI at h
 simp only [Bool.and_eq_true,Bool.not_eq_true',List.any_eq_false,inI,decide_eq_true_eq] at h
 obtain ⟨⟨⟨h1,h2⟩,h3⟩,h4⟩:=h
 refine ⟨by omega,by omega,fun n hn => ?_,h4⟩
 have:=h3 n hn
 simp [signI,inI] at this
 omega
theorem good_of {s:Sheet} {out:List Int} {es:List End} (hs:sheetI s=true) (h:setR s out es=true):Good s out es:=by
 unfold setR at h
 simp only [Bool.and_eq_true] at h
 obtain ⟨_,h,_⟩:=h
 rw [adjI_iff] at h
 obtain ⟨h1,h2⟩:=h
 refine ⟨fun i hi => ?_,fun i hi => ?_⟩
 ·have:=h1 _ (List.getElem_mem hi)
  unfold okE inI at this
  simp only [Bool.and_eq_true,decide_eq_true_eq,Bool.not_eq_true'] at this
  obtain ⟨⟨⟨a1,a2⟩,a3⟩,a4⟩:=this
  have hlt:es[i].1.toNat < s.words.length:=by omega
  rw [List.getElem?_eq_getElem hlt] at a4
  have hw:=wordF hs (List.getElem_mem hlt)
  rw [lenW_eq hlt]
  refine ⟨a1,by omega,a3,?_⟩
  simp only [Bool.or_eq_true,beq_iff_eq] at a4
  rcases a4 with a4 | a4
  ·have:=hw.len1;omega
  ·have hc:=hw.cuts
   unfold risesI at hc
   rw [adjI_iff] at hc
   have:=hc.1 _ (by simpa using a4)
   simp [inI] at this
   omega
 ·have:=h2 i hi
  rw [soonerI_iff] at this
  exact this
theorem aft_le {s:Sheet} {out:List Int} {es:List End} (g:Good s out es) {i:Nat} (h:i < es.length):(aft es i).1 < (nE es[i]).1∨(aft es i).1=(nE es[i]).1∧(aft es i).2 < (nE es[i]).2:=by
 cases i with
 |zero =>
  have:=g.one 0 h
  show 0 < es[0].1.toNat∨0=es[0].1.toNat∧0 < es[0].2.toNat
  omega
 |succ i =>
  have h1:=g.one i (by omega)
  have h2:=g.one (i+1) h
  have h3:=g.rise i h
  have e:aft es (i+1)=nE es[i]:=by
   show (match es[i]? with | some e=>nE e | none=>(0,0))=_
   rw [List.getElem?_eq_getElem (by omega)]
  rw [e]
  show es[i].1.toNat < es[i+1].1.toNat∨es[i].1.toNat=es[i+1].1.toNat∧es[i].2.toNat < es[i+1].2.toNat
  omega
theorem rowI_eq {s:Sheet} {out:List Int} {es:List End} {i:Nat} (h:i < es.length):rowI s out es i=rowG s out (aft es i) (nE es[i]):=by
 unfold rowI;rw [List.getElem?_eq_getElem h]
theorem cutI_eq {s:Sheet} {es:List End} {i:Nat} (h:i < es.length):cutI s es i=decide (es[i].2 < (lenW s es[i].1.toNat:Int)):=by
 unfold cutI;rw [List.getElem?_eq_getElem h]
theorem rowI_last {s:Sheet} {out:List Int} {es:List End} (g:Good s out es) {i:Nat} (h:i < es.length):(rowI s out es i).getLast? = some ((nE es[i]).1,(nE es[i]).2 - 1):=by
 have h1:=aft_le g h
 have h2:=g.one i h
 rw [rowI_eq h]
 unfold rowG
 have h3:0 < (nE es[i]).2:=by show 0 < es[i].2.toNat;omega
 rw [rowN_end _ _ _ _ (fun hd=>by omega) h3]
 congr 2
 omega
theorem rowI_ne {s:Sheet} {out:List Int} {es:List End} (g:Good s out es) {i:Nat} (h:i < es.length):rowI s out es i≠[]:=by
 intro e
 have:=rowI_last g h
 rw [e] at this;cases this
theorem rowI_mem {s:Sheet} {out:List Int} {es:List End} (g:Good s out es) {i:Nat} {x:Nat×Nat} (hx:x∈rowI s out es i):x.1 < s.words.length∧x.2 < lenW s x.1:=by
 by_cases h:i < es.length
 case neg =>
  unfold rowI at hx
  rw [List.getElem?_eq_none (by omega)] at hx
  cases hx
 have h1:=aft_le g h
 have h2:=g.one i h
 rw [rowI_eq h] at hx
 have e1:(nE es[i]).1=es[i].1.toNat:=rfl
 have e2:(nE es[i]).2=es[i].2.toNat:=rfl
 rcases rowN_mem _ _ _ _ hx with ⟨h3,h4⟩ | ⟨h3,h4,h5⟩
 ·have h5:x.1=es[i].1.toNat:=by omega
  rw [h5]
  refine ⟨by omega,by omega⟩
 ·exact ⟨by omega,h5⟩
theorem rowI_len {s:Sheet} {out:List Int} {es:List End} (hs:sheetI s=true) (g:Good s out es) (i:Nat):(rowI s out es i).length≤24:=by
 by_cases h:i < es.length
 case neg =>
  unfold rowI
  rw [List.getElem?_eq_none (by omega)]
  simp
 have h2:=g.one i h
 have hb:∀ w,lenW s w≤6:=by
  intro w
  unfold lenW
  split
  ·rename_i x hx
   obtain ⟨hlt,rfl⟩:=List.getElem?_eq_some_iff.1 hx
   exact (wordF hs (List.getElem_mem hlt)).len6
  ·omega
 rw [rowI_eq h]
 unfold rowG
 have h3:=rowN_len (s:=s) (out:=out) hb ((nE es[i]).1 - (aft es i).1) (aft es i).1 (aft es i).2 (nE es[i]).2 (by have:=hb es[i].1.toNat;show es[i].2.toNat≤6;omega)
 have h4:s.words.length≤4:=by
  unfold sheetI inI at hs
  simp only [Bool.and_eq_true,decide_eq_true_eq] at hs
  omega
 have h5:(nE es[i]).1 < s.words.length:=by show es[i].1.toNat < _;omega
 have h6:((nE es[i]).1 - (aft es i).1+1) * 6≤4 * 6:=Nat.mul_le_mul_right _ (by omega)
 omega
end Go.Proofs.Tryz
namespace Go.Proofs.Tryz
open Go.AL
abbrev Lt:=Int×Int
def letS (s:Sheet) (g:Nat×Nat):Lt:=((g.1:Int),match s.words[g.1]? with | some w=>w.signs[g.2]?.getD 0 | none=>0)
def betw (lo hi st:Int):Int:=lo+((hi - lo) * st).tdiv 10
def spanS (s:Sheet) (a b:Lt):Int×Int:=if a.1=b.1 then match s.pairs.find? fun p=>p.l==a.2 && p.r==b.2 with
 |some p=>(p.lo,p.hi)
 |none=>(s.olo,s.ohi)
 else (s.glo,s.ghi)
def spc (s:Sheet) (st:Int) (a b:Lt):Int:=betw (spanS s a b).1 (spanS s a b).2 st
def wdL (s:Sheet) (a:Lt):Int:=if a.2 < 0 then s.hyphen else s.widths[a.2.toNat]?.getD 0
def gapsS (s:Sheet) (st:Int) (l:List Lt):Nat→Int
 |0=>0
 |i+1=>gapsS s st l i+(match l[i]?,l[i+1]? with | some a,some b=>spc s st a b | _,_=>0)
theorem gapsS_succ {s:Sheet} {st:Int} {l:List Lt} {i:Nat} (h:i+1 < l.length):gapsS s st l (i+1)=gapsS s st l i+spc s st (l[i]'(by omega)) l[i+1]:=by
 show gapsS s st l i+(match l[i]?,l[i+1]? with | some a,some b=>spc s st a b | _,_=>0)=_
 rw [List.getElem?_eq_getElem (by omega),List.getElem?_eq_getElem h]
def letsS (s:Sheet) (l:List Lt):Nat→Int
 |0=>0
 |i+1=>letsS s l i+(match l[i]? with | some a=>wdL s a | none=>0)
theorem letsS_succ {s:Sheet} {l:List Lt} {i:Nat} (h:i < l.length):letsS s l (i+1)=letsS s l i+wdL s l[i]:=by
 show letsS s l i+(match l[i]? with | some a=>wdL s a | none=>0)=_
 rw [List.getElem?_eq_getElem h]
def wideP (s:Sheet) (st:Int) (l:List Lt) (cut:Bool):Int:=(letsS s l l.length+(if cut then s.hyphen else 0))+(gapsS s st l (l.length - 1)+(if cut then betw s.olo s.ohi st else 0))
theorem betw_bounds {lo hi st:Int} (h:lo≤hi) (h0:0≤st) (h1:st≤10):lo≤betw lo hi st∧betw lo hi st≤hi:=by
 unfold betw
 have a:0≤(hi - lo) * st:=Int.mul_nonneg (by omega) h0
 have b:(hi - lo) * st≤(hi - lo) * 10:=Int.mul_le_mul_of_nonneg_left h1 (by omega)
 rw [Int.tdiv_eq_ediv_of_nonneg a]
 generalize (hi - lo) * st=x at a b ⊢
 omega
structure SheetF (s:Sheet):Prop where
 widths:∀ n∈s.widths,1≤n∧n≤20
 wlen:s.widths.length≤6
 pairs:∀ p∈s.pairs,0≤p.l∧0≤p.r∧0≤p.lo∧p.lo≤p.hi∧p.hi≤9
 plen:s.pairs.length≤6
 o:0≤s.olo∧s.olo≤s.ohi∧s.ohi≤9
 g:0≤s.glo∧s.glo≤s.ghi∧s.ghi≤20
 hyphen:1≤s.hyphen∧s.hyphen≤20
 words:1≤s.words.length∧s.words.length≤4
 wide:1≤s.wide∧s.wide≤400
 rows:1≤s.rows∧s.rows≤3
theorem sheetF {s:Sheet} (h:sheetI s=true):SheetF s:=by
 unfold sheetI endI spanI inI at h
 simp only [Bool.and_eq_true,decide_eq_true_eq,Bool.not_eq_true',List.any_eq_false,adjI_iff] at h
 obtain ⟨⟨⟨⟨h1,h2⟩,h3⟩,h4,_⟩,⟨⟨⟨⟨⟨h5,h6⟩,h7⟩,h8⟩,_⟩,h9⟩,h10⟩:=h
 refine ⟨fun n hn => ?_,by omega,fun p hp => ?_,h2,by omega,by omega,by omega,by omega,h9,h10⟩
 ·have:=h5 n hn
  simpa using this
 ·have:=h4 p hp
  unfold pairI signI spanI inI at this
  simp only [Bool.and_eq_true,decide_eq_true_eq] at this
  omega
theorem spanS_bounds {s:Sheet} (h:SheetF s) (a b:Lt):0≤(spanS s a b).1∧(spanS s a b).1≤(spanS s a b).2∧(spanS s a b).2≤20:=by
 unfold spanS
 split
 ·split
  ·rename_i p hp
   have:=h.pairs p (List.mem_of_find?_eq_some hp)
   simp only;omega
  ·have:=h.o;simp only;omega
 ·have:=h.g;simp only;omega
theorem spc_bounds {s:Sheet} (h:SheetF s) {st:Int} (h0:0≤st) (h1:st≤10) (a b:Lt):0≤spc s st a b∧spc s st a b≤20:=by
 have h2:=spanS_bounds h a b
 have h3:=betw_bounds h2.2.1 h0 h1
 unfold spc;omega
def okL (s:Sheet) (a:Lt):Prop:=0≤a.2∧a.2 < s.widths.length
theorem wdL_bounds {s:Sheet} (h:SheetF s) {a:Lt} (ha:okL s a):1≤wdL s a∧wdL s a≤20:=by
 unfold wdL
 rw [if_neg (by have:=ha.1;omega)]
 have hlt:a.2.toNat < s.widths.length:=by have:=ha.1;have:=ha.2;omega
 rw [List.getElem?_eq_getElem hlt]
 exact h.widths _ (List.getElem_mem hlt)
theorem letsS_bounds {s:Sheet} (h:SheetF s) {l:List Lt} (hl:∀ a∈l,okL s a):∀ {i:Nat},i≤l.length→(i:Int)≤letsS s l i∧letsS s l i≤20 * i
 |0,_=>by simp [letsS]
 |i+1,hi=>by
  rw [letsS_succ (by omega)]
  have:=letsS_bounds h hl (i:=i) (by omega)
  have:=wdL_bounds h (hl _ (List.getElem_mem (show i < l.length by omega)))
  omega
theorem gapsS_bounds {s:Sheet} (h:SheetF s) {st:Int} (h0:0≤st) (h1:st≤10) {l:List Lt}:∀ {i:Nat},i+1≤l.length→0≤gapsS s st l i∧gapsS s st l i≤20 * i
 |0,_=>by simp [gapsS]
 |i+1,hi=>by
  rw [gapsS_succ hi]
  have:=gapsS_bounds h h0 h1 (l:=l) (i:=i) (by omega)
  have:=spc_bounds h h0 h1 (l[i]'(by omega)) (l[i+1]'hi)
  omega
theorem wideP_bounds {s:Sheet} (h:SheetF s) {st:Int} (h0:0≤st) (h1:st≤10) {l:List Lt} (hl:l≠[]) (ho:∀ a∈l,okL s a) (hlen:l.length≤24) (cut:Bool):1≤wideP s st l cut∧wideP s st l cut≤1000:=by
 have hpos:=List.length_pos_iff.2 hl
 unfold wideP
 have:=gapsS_bounds h h0 h1 (l:=l) (i:=l.length - 1) (by omega)
 have:=letsS_bounds h ho (i:=l.length) (by omega)
 have:=betw_bounds h.o.2.1 h0 h1
 have:=h.o
 have:=h.hyphen
 split<;>omega
end Go.Proofs.Tryz
namespace Go.Proofs.Tryz
open Go.AL
def wideI (s:Sheet) (out:List Int) (es:List End) (st:Int) (i:Nat):Int:=wideP s st ((rowI s out es i).map (letS s)) (cutI s es i)
def widthsI (s:Sheet) (out:List Int) (es:List End) (st:Int):List Int:=(List.range es.length).map (wideI s out es st)
def fitI (s:Sheet) (out:List Int) (es:List End) (st:Int):Bool:=decide ((es.length:Int)≤s.rows) && (widthsI s out es st).all fun n=>decide (n≤s.wide)
def downL (p:Int→Bool):Nat→Int
 |0 => -1
 |n+1=>if p n then n else downL p n
def mostI (s:Sheet) (out:List Int) (es:List End):Int:=downL (fitI s out es) 11
theorem letS_ok {s:Sheet} (hs:sheetI s=true) {g:Nat×Nat} (h:g.1 < s.words.length∧g.2 < lenW s g.1):okL s (letS s g):=by
 obtain ⟨h1,h2⟩:=h
 rw [lenW_eq h1] at h2
 unfold letS okL
 simp only
 rw [List.getElem?_eq_getElem h1]
 simp only
 rw [List.getElem?_eq_getElem h2]
 exact (wordF hs (List.getElem_mem h1)).sign _ (List.getElem_mem h2)
section
variable {s:Sheet} {out:List Int} {es:List End}
end
theorem mem_ch {now es:List End}:∀ {all:List End} {m:Nat},all≠[]→all.Nodup→(es∈ch now all m↔∃ t,es=now++t∧t.Sublist all∧t.getLast? = all.getLast? ∧ t.length≤m):=by
 have key:∀ (all:List End),all.Nodup→∀ (now:List End) (m:Nat),(all≠[]→(es∈ch now all m↔∃ t,es=now++t∧t.Sublist all∧t.getLast? = all.getLast? ∧ t.length≤m))∧(all≠[]→(es∈lp now all m↔∃ t,es=now++t∧t.Sublist all∧t.getLast? = all.getLast? ∧ t.length≤m+1)):=by
  intro all
  induction all with
  |nil=>intro _ now m;exact ⟨fun h=>absurd rfl h,fun h=>absurd rfl h⟩
  |cons a r ih =>
   intro hnd
   obtain ⟨hna,hnr⟩:=List.nodup_cons.1 hnd
   have ih:=ih hnr
   have hlp:∀ (now:List End) (m:Nat),es∈lp now (a::r) m↔∃ t,es=now++t∧t.Sublist (a::r)∧t.getLast? = (a::r).getLast? ∧ t.length≤m+1:=by
    intro now m
    unfold lp
    rw [List.mem_append]
    by_cases hr:r=[]
    ·subst hr
     rw [if_pos rfl,List.mem_singleton]
     constructor
     ·rintro (h | h)
      ·exact ⟨[a],h,List.Sublist.refl _,rfl,by simp⟩
      ·unfold lp at h;cases h
     ·rintro ⟨t,h1,h2,h3,h4⟩
      left
      have:t=[a]:=by
       cases h2 with
       |cons _ h=>rw [List.sublist_nil.1 h] at h3;cases h3
       |cons_cons _ h=>rw [List.sublist_nil.1 h]
      rw [h1,this]
    ·rw [if_neg hr]
     have hl:(a::r).getLast? = r.getLast? := by
      cases r with
      |nil=>exact absurd rfl hr
      |cons b r=>rfl
     have h1:(es∈(match m with | 0=>[] | m+1=>lp (now++[a]) r m))↔∃ t,es=now++a::t∧t.Sublist r∧t.getLast? = r.getLast? ∧ t.length≤m:=by
      cases m with
      |zero =>
       constructor
       ·intro h;cases h
       ·rintro ⟨t,_,_,h3,h4⟩
        have:t=[]:=List.length_eq_zero_iff.1 (by omega)
        subst this
        exact absurd (List.getLast?_eq_none_iff.1 h3.symm) hr
      |succ m =>
       simp only
       rw [(ih (now++[a]) m).2 hr]
       simp
     rw [hl]
     refine (or_congr h1 ((ih now m).2 hr)).trans ?_
     constructor
     ·rintro (⟨t,a1,a2,a3,a4⟩ | ⟨t,a1,a2,a3,a4⟩)
      ·refine ⟨a::t,a1,a2.cons_cons _,?_,by simp;omega⟩
       cases t with
       |nil=>exact absurd (List.getLast?_eq_none_iff.1 a3.symm) hr
       |cons b t=>rw [← a3];rfl
      ·exact ⟨t,a1,a2.cons _,a3,a4⟩
     ·rintro ⟨t,a1,a2,a3,a4⟩
      cases a2 with
      |cons _ h=>exact .inr ⟨t,a1,h,a3,a4⟩
      |cons_cons _ h =>
       rename_i t
       left
       refine ⟨t,a1,h,?_,by simpa using a4⟩
       cases t with
       |nil =>
        exfalso
        apply hna
        exact List.mem_of_getLast? a3.symm
       |cons b t=>rw [← a3];rfl
   intro now m
   refine ⟨fun _ => ?_,fun _=>hlp now m⟩
   unfold ch
   rw [if_neg (by simp)]
   cases m with
   |zero =>
    constructor
    ·intro h;cases h
    ·rintro ⟨t,_,_,h3,h4⟩
     have:t=[]:=List.length_eq_zero_iff.1 (by omega)
     subst this
     cases r with
     |nil=>cases h3
     |cons b r=>exact absurd (List.getLast?_eq_none_iff.1 h3.symm) (by simp)
   |succ m=>exact hlp now m
 intro all m h hnd
 exact (key all hnd now m).1 h
end Go.Proofs.Tryz
namespace Go.Proofs.Tryz
open Go Go.AL Go.RowKit Go.Proofs
attribute [local simp] awp_all qs_all ops_all dops_all ops_nil dops_nil ops_call ops_callv ops_alloc ops_box dops_call dops_alloc kO_eq kD_eq awanted apure ev Eff.S Eff.H tmpOf upd putD AL.start AV.dem AV.cells AV.storable AV.scells splice scrub abin loadA HR.okB post ares aress ares1 AV.out AV.isData ints_len ints_get fz fz1 AV.vw AV.vw1 boxy vI int undefA assignQ thenQ blockQ seqQ panQ prol prolH allocOf
variable {GI:World→Prop}
def gA (g:Nat×Nat):AV := .agg [.int .i64 g.1,.int .i64 g.2]
def frontL (s:Sheet):List AV:=sheetL s++[spaces s.pairs]
def frontA (s:Sheet):AV := .agg (frontL s)
def lnA (l:List (Nat×Nat)) (cut:Bool):AV:=lineA ⟨l.map gA,cut⟩
def InS (s:Sheet) (g:Nat×Nat):Prop:=g.1 < s.words.length∧g.2 < lenW s g.1
theorem ac163 (hG:Stable GI) (s:Sheet) {g:Nat×Nat} (h:InS s g):AC prog GI 163 [frontA s,gA g] (.ret (.int .i64 (letS s g).2)):=by
 obtain ⟨h1,h2⟩:=h
 rw [lenW_eq h1] at h2
 have hr:(letS s g).2=s.words[g.1].signs[g.2]:=by unfold letS;simp [List.getElem?_eq_getElem h1,h2]
 rw [hr]
 refine AC.of_body hG hmix func163 rfl ntmps163 (by simp) (ac:=c163) (by kernel_rfl) ?_
 refine awp_cut (fun S H=>S 2 = .box 2 0∧S 3 = .box 3 0∧H 2=some (frontL s)∧H 3=some [.int .i64 g.1,.int .i64 g.2]) (by simp [frontA,frontL,gA,sheetL,spaces]) ?_
 rintro S H ⟨s2,s3,e2,e3⟩
 simp [s2,s3,e2,e3,frontL,sheetL,spaces,h1,h2,wordA]
theorem ac166 (hG:Stable GI) {lo hi st:Int} (h0:0≤lo) (h1:lo≤hi) (h2:hi≤20) (h3:0≤st) (h4:st≤10):AC prog GI 166 [.agg [.int .i64 lo,.int .i64 hi],.int .i64 st] (.ret (.int .i64 (betw lo hi st))):=by
 have hm0:0≤(hi - lo) * st:=Int.mul_nonneg (by omega) h3
 have hm1:(hi - lo) * st≤20 * 10:=Int.mul_le_mul (by omega) h4 h3 (by omega)
 have hb:=betw_bounds h1 h3 h4
 unfold betw at hb
 have w1:IntKind.i64.wrap (hi - lo)=hi - lo:=wrapI (by omega)
 have w2:IntKind.i64.wrap ((hi - lo) * st)=(hi - lo) * st:=wrapI (by omega)
 have w3:IntKind.i64.wrap (((hi - lo) * st).tdiv 10)=((hi - lo) * st).tdiv 10:=wrapI (by omega)
 have w4:IntKind.i64.wrap (lo+((hi - lo) * st).tdiv 10)=lo+((hi - lo) * st).tdiv 10:=wrapI (by omega)
 refine AC.of_body hG hmix func166 rfl ntmps166 (by simp) (ac:=c166) (by kernel_rfl) ?_
 simp [c166,w1,w2,w3,w4,betw]
theorem lookA_find (x y:Int):∀ (ps:List Pair),lookA [x,y] (ps.map keyA) (ps.map spanA)=some ((ps.find? fun p=>p.l==x && p.r==y).map spanA)
 |[]=>rfl
 |p::ps=>by
  show lookA [x,y] (keyA p::ps.map keyA) (spanA p::ps.map spanA)=_
  unfold lookA
  simp only [keyA,intsOf,Option.map_some]
  simp only [List.length_cons,List.length_nil,ne_eq,not_true_eq_false,if_false]
  rw [List.find?_cons]
  by_cases hp:p.l=x∧p.r=y
  ·obtain ⟨rfl,rfl⟩:=hp
   simp
  ·have h1:([x,y]==[p.l,p.r])=false:=by
    simp only [beq_eq_false_iff_ne,ne_eq,List.cons.injEq,and_true]
    rintro ⟨rfl,rfl⟩;exact hp ⟨rfl,rfl⟩
   have h2:(p.l==x && p.r==y)=false:=by
    rw [Bool.and_eq_false_iff];simp only [beq_eq_false_iff_ne]
    by_cases h:p.l=x
    ·exact .inr fun h'=>hp ⟨h,h'⟩
    ·exact .inl h
   rw [h1,h2]
   exact lookA_find x y ps
set_option maxHeartbeats 2000000 in
theorem ac165 (hG:Stable GI) (s:Sheet) (hF:SheetF s) {a b:Nat×Nat} (ha:InS s a) (hb:InS s b) {st:Int} (h3:0≤st) (h4:st≤10):AC prog GI 165 [frontA s,gA a,gA b,.int .i64 st] (.ret (.int .i64 (spc s st (letS s a) (letS s b)))):=by
 have hsb:=spanS_bounds hF (letS s a) (letS s b)
 refine AC.of_body hG hmix func165 rfl ntmps165 (by simp) (ac:=c165) (by kernel_rfl) ?_
 refine awp_cut (fun S H=>S 4 = .box 4 0∧S 5 = .box 5 0∧S 6 = .box 6 0∧S 3 = .int .i64 st∧H 4=some (frontL s)∧H 5=some [.int .i64 a.1,.int .i64 a.2]∧H 6=some [.int .i64 b.1,.int .i64 b.2]) (by simp [frontA,frontL,gA,sheetL,spaces]) ?_
 rintro S H ⟨s4,s5,s6,s3,e4,e5,e6⟩
 by_cases hw:a.1=b.1
 case neg =>
  have hsp:spanS s (letS s a) (letS s b)=(s.glo,s.ghi):=by
   unfold spanS letS;rw [if_neg];simp only;omega
  have hwb:((a.1:Int) != (b.1:Int))=true:=by simp;omega
  unfold spc
  rw [hsp] at hsb ⊢
  simp [s4,s5,s6,s3,e4,e5,e6,frontL,sheetL,spaces,hwb]
  refine ⟨_,by kernel_rfl,ac166 hG hsb.1 hsb.2.1 hsb.2.2 h3 h4,fun _=>rfl,?_⟩
  simp
 have hwi:(letS s a).1=(letS s b).1:=by unfold letS;simp only;omega
 have hwb:((a.1:Int) != (b.1:Int))=false:=by simp;omega
 simp [s4,s5,s6,s3,e4,e5,e6,frontL,sheetL,spaces,hwb]
 refine ⟨_,by kernel_rfl,ac163 hG s ha,by simp [boxy],?_⟩
 simp [s4,s5,s6,s3,e4,e5,e6,frontL,sheetL,spaces,hwb]
 refine ⟨_,by kernel_rfl,ac163 hG s hb,by simp [boxy],?_⟩
 simp [s4,s5,s6,s3,e4,e5,e6,frontL,sheetL,spaces,hwb,intsOf2,fillA,lookA_find]
 cases hf:s.pairs.find? fun p=>p.l==(letS s a).2 && p.r==(letS s b).2 with
 |some p =>
  have hsp:spanS s (letS s a) (letS s b)=(p.lo,p.hi):=by unfold spanS;rw [if_pos hwi,hf]
  unfold spc
  rw [hsp] at hsb ⊢
  simp [s4,s5,s6,s3,e4,e5,e6,spanA]
  refine ⟨_,by kernel_rfl,ac166 hG hsb.1 hsb.2.1 hsb.2.2 h3 h4,fun _=>rfl,?_⟩
  simp
 |none =>
  have hsp:spanS s (letS s a) (letS s b)=(s.olo,s.ohi):=by unfold spanS;rw [if_pos hwi,hf]
  unfold spc
  rw [hsp] at hsb ⊢
  simp [s4,s5,s6,s3,e4,e5,e6,frontL,sheetL,spaces]
  refine ⟨_,by kernel_rfl,ac166 hG hsb.1 hsb.2.1 hsb.2.2 h3 h4,fun _=>rfl,?_⟩
  simp
end Go.Proofs.Tryz
namespace Go.Proofs.Tryz
open Go Go.AL Go.RowKit Go.Proofs
attribute [local simp] awp_all qs_all ops_all dops_all ops_nil dops_nil ops_call ops_callv ops_alloc ops_box dops_call dops_alloc kO_eq kD_eq awanted apure ev Eff.S Eff.H tmpOf upd putD AL.start AV.dem AV.cells AV.storable AV.scells splice scrub abin loadA HR.okB post ares aress ares1 AV.out AV.isData ints_len ints_get fz fz1 AV.vw AV.vw1 boxy vI int undefA assignQ thenQ blockQ seqQ panQ prol prolH allocOf
variable {GI:World→Prop}
theorem sum_bounds {l:List Int} (h:∀ x∈l,0≤x∧x≤1000):0≤l.sum∧l.sum≤1000 * l.length:=by
 induction l with
 |nil=>simp
 |cons a l ih =>
  have h1:=h a List.mem_cons_self
  have h2:=ih fun x hx=>h x (List.mem_cons_of_mem _ hx)
  simp only [List.sum_cons,List.length_cons]
  omega
theorem sum_take {l:List Int} {i:Nat} (h:i < l.length):(l.take (i+1)).sum=(l.take i).sum+l[i]:=by
 rw [List.take_succ_eq_append_getElem h,List.sum_append];simp
theorem ac164 (hG:Stable GI) (l:List Int) (hl:l.length < 100000) (h:∀ x∈l,0≤x∧x≤1000):AC prog GI 164 [vI l] (.ret (.int .i64 l.sum)):=by
 refine AC.of_body hG hmix func164 rfl ntmps164 (by simp) (ac:=c164) (by kernel_rfl) ?_
 simp [c164]
 refine awp_loop 8 l.length (fun i S H=>S 6=vI l∧S 7 = .int .i64 l.length∧S 8 = .int .i64 (i:Nat)∧S 3 = .int .i64 (l.take i).sum) (fun i S H h=>h.2.2.1) ⟨by simp,by simp,by simp,by simp⟩ ?_
 rintro i hi S H ⟨s6,s7,s8,s3⟩
 by_cases hlt:i < l.length
 ·have hb:=sum_bounds (l:=l.take i) fun x hx=>h x (List.mem_of_mem_take hx)
  have hx:=h l[i] (List.getElem_mem hlt)
  rw [List.length_take] at hb
  have hw:IntKind.i64.wrap ((i:Int)+1)=i+1:=wrapI (by omega)
  have hw2:IntKind.i64.wrap ((l.take i).sum+l[i])=(l.take i).sum+l[i]:=wrapI (by omega)
  rw [sum_take hlt]
  generalize (l.take i).sum=y at s3 hw2 ⊢
  simp [s6,s7,s8,s3,hlt,hw,hw2]
 ·have hil:i=l.length:=by omega
  subst hil
  rw [List.take_length] at s3
  simp [s6,s7,s8,s3]
def intsG (l:List Int):AV:=grow 3 (l.map (AV.int .i64))
theorem ints_ok1 (l:List Int):elemsOK 1 (l.map (AV.int .i64))=true:=elems_map fun a=>⟨rfl,rfl⟩
theorem intsG_form (l:List Int):(intsG l = .slice .nil []∧l=[])∨intsG l = .slice (.own 3) (ints l):=by
 unfold intsG grow
 cases l with
 |nil=>exact .inl ⟨rfl,rfl⟩
 |cons a l=>exact .inr rfl
theorem letsS_take (s:Sheet) (l:List Lt):∀ i,i≤l.length→letsS s l i=((l.take i).map (wdL s)).sum
 |0,_=>rfl
 |i+1,h=>by
  rw [letsS_succ (by omega),letsS_take s l i (by omega),List.take_succ_eq_append_getElem (by omega),List.map_append,List.sum_append]
  simp
def gapL (s:Sheet) (st:Int) (l:List Lt):Nat→List Int
 |0=>[]
 |i+1=>gapL s st l i++(if 0 < i then match l[i - 1]?,l[i]? with
  |some a,some b=>[spc s st a b]
  |_,_=>[] else [])
theorem gapL_succ {s:Sheet} {st:Int} {l:List Lt} {i:Nat} (h:i+1 < l.length):gapL s st l (i+2)=gapL s st l (i+1)++[spc s st (l[i]'(by omega)) l[i+1]]:=by
 show gapL s st l (i+1)++_=_
 rw [if_pos (by omega),show i+1 - 1=i by omega,List.getElem?_eq_getElem (by omega:i < l.length),List.getElem?_eq_getElem h]
theorem gapL_sum {s:Sheet} {st:Int} {l:List Lt}:∀ i,i+1≤l.length→(gapL s st l (i+1)).sum=gapsS s st l i
 |0,_=>rfl
 |i+1,h=>by
  rw [gapL_succ (by omega),gapsS_succ (by omega),List.sum_append,gapL_sum i (by omega)]
  simp
theorem gapL_mem {s:Sheet} (hF:SheetF s) {st:Int} (h0:0≤st) (h1:st≤10) {l:List Lt}:∀ i,∀ x∈gapL s st l i,0≤x∧x≤20
 |0,x,hx=>by cases hx
 |i+1,x,hx=>by
  unfold gapL at hx
  rw [List.mem_append] at hx
  rcases hx with hx | hx
  ·exact gapL_mem hF h0 h1 i x hx
  ·split at hx
   ·split at hx
    ·rw [List.mem_singleton] at hx
     subst hx;exact spc_bounds hF h0 h1 _ _
    ·cases hx
   ·cases hx
theorem gapL_len {s:Sheet} {st:Int} {l:List Lt}:∀ i,(gapL s st l i).length≤i
 |0=>Nat.le_refl _
 |i+1=>by
  have:=gapL_len (s:=s) (st:=st) (l:=l) i
  unfold gapL
  rw [List.length_append]
  split
  ·split<;>simp<;>omega
  ·simp;omega
end Go.Proofs.Tryz
namespace Go.Proofs.Tryz
open Go Go.AL Go.RowKit Go.Proofs
attribute [local simp] awp_all qs_all ops_allN dops_allN ops_nil dops_nil ops_call ops_callv ops_alloc ops_box dops_call dops_alloc kO_eq kD_eq awanted apure ev Eff.S Eff.H tmpOf upd putD AL.start AV.dem AV.cells AV.storable AV.scells splice scrub abin loadA HR.okB post ares aress ares1 AV.out AV.isData ints_len ints_get fz fz1 AV.vw AV.vw1 boxy vI int undefA assignQ thenQ blockQ seqQ panQ prol prolH allocOf
variable {GI:World→Prop}
theorem letS_okS {s:Sheet} (hs:sheetI s=true) {g:Nat×Nat} (h:InS s g):okL s (letS s g):=letS_ok hs h
set_option maxHeartbeats 1000000 in
theorem ac126 (hG:Stable GI) (s:Sheet) (hs:sheetI s=true) {l:List (Nat×Nat)} (hl:l.length < 10000) (hin:∀ g∈l,InS s g) (cut:Bool) (x:Int):AC prog GI 126 [frontA s,lnA l cut,.int .i64 x] (.ret (.int .i64 (letsS s (l.map (letS s)) l.length+(if cut then s.hyphen else 0)))):=by
 have hF:=sheetF hs
 have hwl:=hF.wlen
 have hb:∀ x∈(l.map fun g=>wdL s (letS s g)),0≤x∧x≤1000:=by
  intro x hx
  obtain ⟨g,hg,rfl⟩:=List.mem_map.1 hx
  have:=wdL_bounds hF (letS_okS hs (hin g hg));omega
 have hsum:letsS s (l.map (letS s)) l.length=(l.map fun g=>wdL s (letS s g)).sum:=by
  have:=letsS_take s (l.map (letS s)) l.length (by simp)
  rw [this,List.take_of_length_le (by simp),List.map_map];rfl
 have hlenL:(l.map fun g=>wdL s (letS s g)).length < 10000:=by rw [List.length_map];exact hl
 rw [hsum]
 refine AC.of_body hG hmix func126 rfl ntmps126 (by simp) (ac:=c126) (by kernel_rfl) ?_
 refine awp_cut (fun S H=>S 3 = .box 3 0∧S 4 = .box 4 0∧H 3=some (frontL s)∧H 4=some [.slice .view (l.map gA),.bool cut]) (by simp [ops_ap,dops_ap,frontA,frontL,lnA,lineA,sheetL,spaces]) ?_
 rintro S H ⟨s3,s4,e3,e4⟩
 refine awp_cut (fun S H=>S 3 = .box 3 0∧S 4 = .box 4 0∧H 3=some (frontL s)∧H 4=some [.slice .view (l.map gA),.bool cut]∧S 7=intsG []) (by simp [ops_ap,dops_ap,s3,s4,e3,e4,intsG,grow]) ?_
 clear s3 s4 e3 e4 S H
 rintro S H ⟨s3,s4,e3,e4,s7⟩
 refine awp_cut (fun S H=>S 3 = .box 3 0∧S 4 = .box 4 0∧H 3=some (frontL s)∧H 4=some [.slice .view (l.map gA),.bool cut]∧S 7=intsG (l.map fun g=>wdL s (letS s g))) ?_ ?_
 ·simp [ops_ap,dops_ap,s3,s4,e3,e4]
  refine awp_loop 13 l.length (fun i S H=>S 3 = .box 3 0∧S 4 = .box 4 0∧H 3=some (frontL s)∧H 4=some [.slice .view (l.map gA),.bool cut]∧S 11 = .slice .view (l.map gA)∧S 12 = .int .i64 l.length∧S 13 = .int .i64 (i:Nat)∧S 7=intsG ((l.take i).map fun g=>wdL s (letS s g))) (fun i S H h=>h.2.2.2.2.2.2.1) ⟨by simp [ops_ap,dops_ap,s3],by simp [ops_ap,dops_ap,s4],by simp [ops_ap,dops_ap,e3],by simp [ops_ap,dops_ap,e4],by simp [ops_ap,dops_ap],by simp [ops_ap,dops_ap],by simp [ops_ap,dops_ap],by simp [ops_ap,dops_ap,s7]⟩ ?_
  clear s3 s4 e3 e4 s7 S H
  rintro i hi S H ⟨s3,s4,e3,e4,s11,s12,s13,s7⟩
  by_cases hlt:i < l.length
  case neg =>
   have hil:i=l.length:=by omega
   subst hil
   rw [List.take_length] at s7
   simp [ops_ap,dops_ap,s3,s4,e3,e4,s11,s12,s13,s7]
  have hw:IntKind.i64.wrap ((i:Int)+1)=i+1:=wrapI (by omega)
  obtain ⟨k,hk⟩:∃ k:Nat,(letS s l[i]).2=k:=⟨(letS s l[i]).2.toNat,by have:=(letS_okS hs (hin _ (List.getElem_mem hlt))).1;omega⟩
  have hkl:k < s.widths.length:=by have:=(letS_okS hs (hin _ (List.getElem_mem hlt))).2;omega
  have hwd:wdL s (letS s l[i])=s.widths[k]:=by
   unfold wdL
   rw [hk,if_neg (by omega),Int.toNat_natCast,List.getElem?_eq_getElem hkl];rfl
  rw [List.take_succ_eq_append_getElem hlt,List.map_append,List.map_singleton,hwd]
  have hlen:((l.take i).map fun g=>wdL s (letS s g)).length < 1000000:=by
   rw [List.length_map,List.length_take];omega
  generalize ((l.take i).map fun g=>wdL s (letS s g))=L at s7 hlen ⊢
  simp [s3,s4,e3,e4,s11,s12,s13,s7,hlt,gA,frontL,sheetL,spaces]
  refine ⟨_,by kernel_rfl,ac163 hG s (hin _ (List.getElem_mem hlt)),by simp [boxy],?_⟩
  have hok1:elemsOK 1 [AV.int .i64 s.widths[k]]=true:=rfl
  simp [s3,s4,e3,e4,s11,s12,s13,s7,hlt,frontL,sheetL,spaces,hk,hkl,hok1]
  refine dops_app (L.map (AV.int .i64)) (AV.int .i64 s.widths[k]) (.own 3) (by simp [s7,intsG,grow]) (by simp) rfl (ints_ok1 _) (by rw [List.length_map];omega) ?_
  intro S' sd hk'
  simp [sd,hk',s3,s4,e3,e4,s11,s12,s13,hlt,hw,intsG,frontL,sheetL,spaces]
 clear s3 s4 e3 e4 s7 S H
 rintro S H ⟨s3,s4,e3,e4,s7⟩
 refine awp_cut (fun S H=>S 7=intsG ((l.map fun g=>wdL s (letS s g))++if cut then [s.hyphen] else [])) ?_ ?_
 ·cases cut with
  |false=>simp [ops_ap,dops_ap,s3,s4,e3,e4,s7]
  |true =>
   have hok1:elemsOK 1 [AV.int .i64 s.hyphen]=true:=rfl
   generalize (l.map fun g=>wdL s (letS s g))=L at s7 hlenL ⊢
   simp [s3,s4,e3,e4,s7,frontL,sheetL,spaces,hok1]
   refine aops_app (L.map (AV.int .i64)) (AV.int .i64 s.hyphen) (.own 3) (by simp [intsG]) (by simp) rfl (ints_ok1 _) (by rw [List.length_map];omega) ?_
   intro S' sd hk'
   simp [sd,hk',intsG]
 clear s3 s4 e3 e4 s7 S H
 rintro S H s7
 have hh:=hF.hyphen
 have hb2:∀ x∈((l.map fun g=>wdL s (letS s g))++if cut then [s.hyphen] else []),0≤x∧x≤1000:=by
  intro x hx
  rcases List.mem_append.1 hx with hx | hx
  ·exact hb x hx
  ·cases cut with
   |false=>simp at hx
   |true=>simp at hx;omega
 have hsum2:((l.map fun g=>wdL s (letS s g))++if cut then [s.hyphen] else []).sum=(l.map fun g=>wdL s (letS s g)).sum+if cut then s.hyphen else 0:=by
  rw [List.sum_append]
  cases cut<;>simp
 have hl2:((l.map fun g=>wdL s (letS s g))++if cut then [s.hyphen] else []).length < 100000:=by
  rw [List.length_append]
  cases cut<;>simp<;>omega
 rw [← hsum2]
 generalize ((l.map fun g=>wdL s (letS s g))++if cut then [s.hyphen] else [])=L at s7 hb2 hl2 ⊢
 rcases intsG_form L with ⟨hg,rfl⟩ | hg
 ·rw [hg] at s7
  simp [ops_ap,dops_ap,s7]
  refine ⟨_,by kernel_rfl,ac164 hG [] hl2 hb2,by simp [boxy],?_⟩
  simp [ops_ap,dops_ap]
 ·rw [hg] at s7
  simp [ops_ap,dops_ap,s7]
  refine ⟨_,by kernel_rfl,ac164 hG L hl2 hb2,by simp [boxy],?_⟩
  simp [ops_ap,dops_ap]
end Go.Proofs.Tryz
namespace Go.Proofs.Tryz
open Go Go.AL Go.RowKit Go.Proofs
attribute [local simp] awp_all qs_all ops_allN dops_allN ops_nil dops_nil ops_call ops_callv ops_alloc ops_box dops_call dops_alloc kO_eq kD_eq awanted apure ev Eff.S Eff.H tmpOf upd putD AL.start AV.dem AV.cells AV.storable AV.scells splice scrub abin loadA HR.okB post ares aress ares1 AV.out AV.isData ints_len ints_get fz fz1 AV.vw AV.vw1 boxy vI int undefA assignQ thenQ blockQ seqQ panQ prol prolH allocOf
variable {GI:World→Prop}
set_option maxHeartbeats 1000000 in
theorem ac127 (hG:Stable GI) (s:Sheet) (hs:sheetI s=true) {l:List (Nat×Nat)} (hne:l≠[]) (hl:l.length < 10000) (hin:∀ g∈l,InS s g) (cut:Bool) {st:Int} (h0:0≤st) (h1:st≤10):AC prog GI 127 [frontA s,lnA l cut,.int .i64 st] (.ret (.int .i64 (gapsS s st (l.map (letS s)) (l.length - 1)+(if cut then betw s.olo s.ohi st else 0)))):=by
 have hF:=sheetF hs
 have hpos:=List.length_pos_iff.2 hne
 have hsum:gapsS s st (l.map (letS s)) (l.length - 1)=(gapL s st (l.map (letS s)) l.length).sum:=by
  have:=gapL_sum (s:=s) (st:=st) (l:=l.map (letS s)) (l.length - 1) (by rw [List.length_map];omega)
  rw [show l.length - 1+1=l.length by omega] at this
  exact this.symm
 rw [hsum]
 refine AC.of_body hG hmix func127 rfl ntmps127 (by simp) (ac:=c127) (by kernel_rfl) ?_
 refine awp_cut (fun S H=>S 2 = .int .i64 st∧S 3 = .box 3 0∧S 4 = .box 4 0∧H 3=some (frontL s)∧H 4=some [.slice .view (l.map gA),.bool cut]) (by simp [ops_ap,dops_ap,frontA,frontL,lnA,lineA,sheetL,spaces]) ?_
 rintro S H ⟨s2,s3,s4,e3,e4⟩
 refine awp_cut (fun S H=>S 2 = .int .i64 st∧S 3 = .box 3 0∧S 4 = .box 4 0∧H 3=some (frontL s)∧H 4=some [.slice .view (l.map gA),.bool cut]∧S 7=intsG []) (by simp [ops_ap,dops_ap,s2,s3,s4,e3,e4,intsG,grow]) ?_
 clear s2 s3 s4 e3 e4 S H
 rintro S H ⟨s2,s3,s4,e3,e4,s7⟩
 refine awp_cut (fun S H=>S 2 = .int .i64 st∧S 3 = .box 3 0∧S 4 = .box 4 0∧H 3=some (frontL s)∧H 4=some [.slice .view (l.map gA),.bool cut]∧S 7=intsG (gapL s st (l.map (letS s)) l.length)) ?_ ?_
 ·simp [ops_ap,dops_ap,s2,s3,s4,e3,e4]
  refine awp_loop 13 l.length (fun i S H=>S 2 = .int .i64 st∧S 3 = .box 3 0∧S 4 = .box 4 0∧H 3=some (frontL s)∧H 4=some [.slice .view (l.map gA),.bool cut]∧S 11 = .slice .view (l.map gA)∧S 12 = .int .i64 l.length∧S 13 = .int .i64 (i:Nat)∧S 7=intsG (gapL s st (l.map (letS s)) i)) (fun i S H h=>h.2.2.2.2.2.2.2.1) ⟨by simp [ops_ap,dops_ap,s2],by simp [ops_ap,dops_ap,s3],by simp [ops_ap,dops_ap,s4],by simp [ops_ap,dops_ap,e3],by simp [ops_ap,dops_ap,e4],by simp [ops_ap,dops_ap],by simp [ops_ap,dops_ap],by simp [ops_ap,dops_ap],by simp [ops_ap,dops_ap,s7,gapL]⟩ ?_
  clear s2 s3 s4 e3 e4 s7 S H
  rintro i hi S H ⟨s2,s3,s4,e3,e4,s11,s12,s13,s7⟩
  by_cases hlt:i < l.length
  case neg =>
   have hil:i=l.length:=by omega
   subst hil
   simp [ops_ap,dops_ap,s2,s3,s4,e3,e4,s11,s12,s13,s7]
  have hw:IntKind.i64.wrap ((i:Int)+1)=i+1:=wrapI (by omega)
  cases i with
  |zero =>
   have s7':S 7 = .slice .nil []:=by rw [s7];rfl
   simp [ops_ap,dops_ap,s2,s3,s4,e3,e4,s11,s12,s13,s7',hlt,gA]
   exact ⟨wrapI (by omega),by simp [gapL,intsG,grow]⟩
  |succ m =>
   have hml:m < l.length:=by omega
   have hgl:gapL s st (l.map (letS s)) (m+1+1)=gapL s st (l.map (letS s)) (m+1)++[spc s st (letS s l[m]) (letS s l[m+1])]:=by
    rw [gapL_succ (by simpa using hlt)];simp
   have hlen:(gapL s st (l.map (letS s)) (m+1)).length < 1000000:=by have:=gapL_len (s:=s) (st:=st) (l:=l.map (letS s)) (m+1);omega
   rw [hgl]
   have hwm:IntKind.i64.wrap (m:Int)=m:=wrapI (by omega)
   have hw2:IntKind.i64.wrap ((m:Int)+1+1)=m+1+1:=wrapI (by omega)
   have hp0:(0:Int) < (m:Int)+1:=by omega
   have hp00:(0:Int)≤(m:Int)+1:=by omega
   have hlt':(m:Int)+1 < l.length:=by omega
   generalize gapL s st (l.map (letS s)) (m+1)=L at s7 hlen ⊢
   have hok1:elemsOK 1 [AV.int .i64 (spc s st (letS s l[m]) (letS s l[m+1]))]=true:=rfl
   simp [s2,s3,s4,e3,e4,s11,s12,s13,s7,hlt,gA,frontL,sheetL,spaces,hwm,hp0,hp00,hml,hlt']
   refine ⟨_,by kernel_rfl,ac165 hG s hF (hin _ (List.getElem_mem hml)) (hin _ (List.getElem_mem hlt)) h0 h1,by simp [boxy],?_⟩
   simp [s2,s3,s4,e3,e4,s11,s12,s13,s7,hok1]
   refine dops_app (L.map (AV.int .i64)) (AV.int .i64 (spc s st (letS s l[m]) (letS s l[m+1]))) (.own 3) (by simp [s7,intsG,grow]) (by simp) rfl (ints_ok1 _) (by rw [List.length_map];omega) ?_
   intro S' sd hk'
   simp [sd,hk',s2,s3,s4,e3,e4,s11,s12,s13,hlt,hlt',hw2,intsG,frontL,sheetL,spaces]
 clear s2 s3 s4 e3 e4 s7 S H
 rintro S H ⟨s2,s3,s4,e3,e4,s7⟩
 have hbw:=betw_bounds hF.o.2.1 h0 h1
 have hlenL:(gapL s st (l.map (letS s)) l.length).length < 10000:=by have:=gapL_len (s:=s) (st:=st) (l:=l.map (letS s)) l.length;omega
 have hb:∀ x∈gapL s st (l.map (letS s)) l.length,0≤x∧x≤1000:=fun x hx=>by have:=gapL_mem hF h0 h1 _ x hx;omega
 refine awp_cut (fun S H=>S 7=intsG (gapL s st (l.map (letS s)) l.length++if cut then [betw s.olo s.ohi st] else [])) ?_ ?_
 ·cases cut with
  |false=>simp [ops_ap,dops_ap,s2,s3,s4,e3,e4,s7]
  |true =>
   have hok1:elemsOK 1 [AV.int .i64 (betw s.olo s.ohi st)]=true:=rfl
   generalize gapL s st (l.map (letS s)) l.length=L at s7 hlenL ⊢
   simp [s2,s3,s4,e3,e4,s7,frontL,sheetL,spaces]
   refine ⟨_,by kernel_rfl,ac166 hG hF.o.1 hF.o.2.1 (by have:=hF.o.2.2;omega) h0 h1,by simp [boxy],?_⟩
   simp [hok1]
   refine aops_app (L.map (AV.int .i64)) (AV.int .i64 (betw s.olo s.ohi st)) (.own 3) (by simp [intsG]) (by simp) rfl (ints_ok1 _) (by rw [List.length_map];omega) ?_
   intro S' sd hk'
   simp [sd,hk',intsG]
 clear s2 s3 s4 e3 e4 s7 S H
 rintro S H s7
 have ho:=hF.o
 have hb2:∀ x∈(gapL s st (l.map (letS s)) l.length++if cut then [betw s.olo s.ohi st] else []),0≤x∧x≤1000:=by
  intro x hx
  rcases List.mem_append.1 hx with hx | hx
  ·exact hb x hx
  ·cases cut with
   |false=>simp at hx
   |true=>simp at hx;omega
 have hsum2:(gapL s st (l.map (letS s)) l.length++if cut then [betw s.olo s.ohi st] else []).sum=(gapL s st (l.map (letS s)) l.length).sum+if cut then betw s.olo s.ohi st else 0:=by
  rw [List.sum_append]
  cases cut<;>simp
 have hl2:(gapL s st (l.map (letS s)) l.length++if cut then [betw s.olo s.ohi st] else []).length < 100000:=by
  rw [List.length_append]
  cases cut<;>simp<;>omega
 rw [← hsum2]
 generalize (gapL s st (l.map (letS s)) l.length++if cut then [betw s.olo s.ohi st] else [])=L at s7 hb2 hl2 ⊢
 rcases intsG_form L with ⟨hg,rfl⟩ | hg
 ·rw [hg] at s7
  simp [ops_ap,dops_ap,s7]
  refine ⟨_,by kernel_rfl,ac164 hG [] hl2 hb2,by simp [boxy],?_⟩
  simp [ops_ap,dops_ap]
 ·rw [hg] at s7
  simp [ops_ap,dops_ap,s7]
  refine ⟨_,by kernel_rfl,ac164 hG L hl2 hb2,by simp [boxy],?_⟩
  simp [ops_ap,dops_ap]
set_option maxHeartbeats 1000000 in
theorem ac51 (hG:Stable GI) (s:Sheet) (hs:sheetI s=true) {l:List (Nat×Nat)} (hne:l≠[]) (hl:l.length≤24) (hin:∀ g∈l,InS s g) (cut:Bool) {st:Int} (h0:0≤st) (h1:st≤10):AC prog GI 51 [frontA s,lnA l cut,.int .i64 st] (.ret (.int .i64 (wideP s st (l.map (letS s)) cut))):=by
 have hF:=sheetF hs
 have hok:∀ a∈l.map (letS s),okL s a:=fun a ha=>by
  obtain ⟨g,hg,rfl⟩:=List.mem_map.1 ha
  exact letS_okS hs (hin g hg)
 have hne':l.map (letS s)≠[]:=by simpa using hne
 have hb:=wideP_bounds hF h0 h1 hne' hok (by simpa using hl) cut
 have hpos:=List.length_pos_iff.2 hne
 have hg:=gapsS_bounds hF h0 h1 (l:=l.map (letS s)) (i:=l.length - 1) (by rw [List.length_map];omega)
 have hls:=letsS_bounds hF hok (i:=l.length) (by simp)
 have hbw:=betw_bounds hF.o.2.1 h0 h1
 have ho:=hF.o
 have hh:=hF.hyphen
 have a1:=ac126 hG s hs (by omega:l.length < 10000) hin cut st
 have a2:=ac127 hG s hs hne (by omega) hin cut h0 h1
 have hwp:wideP s st (l.map (letS s)) cut=(letsS s (l.map (letS s)) l.length+(if cut then s.hyphen else 0))+(gapsS s st (l.map (letS s)) (l.length - 1)+(if cut then betw s.olo s.ohi st else 0)):=by
  unfold wideP;rw [List.length_map]
 rw [hwp] at hb ⊢
 have hx1:0≤letsS s (l.map (letS s)) l.length+(if cut then s.hyphen else 0):=by cases cut<;>simp<;>omega
 have hx2:0≤gapsS s st (l.map (letS s)) (l.length - 1)+(if cut then betw s.olo s.ohi st else 0):=by cases cut<;>simp<;>omega
 generalize letsS s (l.map (letS s)) l.length+(if cut then s.hyphen else 0)=X at a1 hx1 hb ⊢
 generalize gapsS s st (l.map (letS s)) (l.length - 1)+(if cut then betw s.olo s.ohi st else 0)=Y at a2 hx2 hb ⊢
 have w1:IntKind.i64.wrap X=X:=wrapI (by omega)
 have w2:IntKind.i64.wrap (X+Y)=X+Y:=wrapI (by omega)
 refine AC.of_body hG hmix func51 rfl ntmps51 (by simp) (ac:=c51) (by kernel_rfl) ?_
 refine awp_cut (fun S H=>S 2 = .int .i64 st∧S 3 = .box 3 0∧S 4 = .box 4 0∧H 3=some (frontL s)∧H 4=some [.slice .view (l.map gA),.bool cut]) (by simp [ops_ap,dops_ap,frontA,frontL,lnA,lineA,sheetL,spaces]) ?_
 rintro S H ⟨s2,s3,s4,e3,e4⟩
 simp [ops_ap,dops_ap,s2,s3,s4,e3,e4]
 refine awp_loop 11 2 (fun i S H=>S 2 = .int .i64 st∧S 3 = .box 3 0∧S 4 = .box 4 0∧H 3=some (frontL s)∧H 4=some [.slice .view (l.map gA),.bool cut]∧S 10 = .fagg [.func (.func 126) [] [],.func (.func 127) [] []]∧S 11 = .int .i64 (i:Nat)∧S 7 = .int .i64 (if i=0 then 0 else if i=1 then X else X+Y)) (fun i S H h=>h.2.2.2.2.2.2.1) ⟨by simp [ops_ap,dops_ap,s2],by simp [ops_ap,dops_ap,s3],by simp [ops_ap,dops_ap,s4],by simp [ops_ap,dops_ap,e3],by simp [ops_ap,dops_ap,e4],by simp [ops_ap,dops_ap],by simp [ops_ap,dops_ap],by simp [ops_ap,dops_ap]⟩ ?_
 clear s2 s3 s4 e3 e4 S H
 rintro i hi S H ⟨s2,s3,s4,e3,e4,s10,s11,s7⟩
 match i,hi with
 |0,_ =>
  simp [ops_ap,dops_ap,s2,s3,s4,e3,e4,s10,s11,s7,frontL,sheetL,spaces,isFn]
  refine ⟨_,by kernel_rfl,a1,by simp [boxy],?_⟩
  simp [ops_ap,dops_ap,s2,s3,s4,e3,e4,s10,s11,s7,frontL,sheetL,spaces,w1]
  exact wrapI (by omega)
 |1,_ =>
  simp [ops_ap,dops_ap,s2,s3,s4,e3,e4,s10,s11,s7,frontL,sheetL,spaces,isFn]
  refine ⟨_,by kernel_rfl,a2,by simp [boxy],?_⟩
  simp [ops_ap,dops_ap,s2,s3,s4,e3,e4,s10,s11,s7,frontL,sheetL,spaces,w2]
  exact wrapI (by omega)
 |2,_ =>
  simp [ops_ap,dops_ap,s2,s3,s4,e3,e4,s10,s11,s7]
end Go.Proofs.Tryz
namespace Go.Proofs.Tryz
open Go.AL
theorem soonerI_trans {a b c:End} (h:soonerI a b=true) (h':soonerI b c=true):soonerI a c=true:=by
 rw [soonerI_iff] at *;omega
theorem soonerI_irrefl (a:End):soonerI a a=false:=by
 cases h:soonerI a a with
 |false=>rfl
 |true=>rw [soonerI_iff] at h;omega
abbrev Sorted (l:List End):Prop:=l.Pairwise fun a b=>soonerI a b=true
theorem Sorted.nodup {l:List End} (h:Sorted l):l.Nodup:=h.imp fun hab e=>by
 subst e;rw [soonerI_irrefl] at hab;cases hab
theorem sorted_sub:∀ {all t:List End},Sorted all→Sorted t→(∀ x∈t,x∈all)→t.Sublist all
 |[],t,_,_,h=>by
  cases t with
  |nil=>exact .slnil
  |cons a t=>exact absurd (h a List.mem_cons_self) (by simp)
 |a::r,[],_,_,_=>List.nil_sublist _
 |a::r,b::t,hs,ht,h=>by
  obtain ⟨hs1,hs2⟩:=List.pairwise_cons.1 hs
  obtain ⟨ht1,ht2⟩:=List.pairwise_cons.1 ht
  rcases List.mem_cons.1 (h b List.mem_cons_self) with e | hb
  ·subst e
   refine .cons_cons _ (sorted_sub hs2 ht2 fun x hx => ?_)
   rcases List.mem_cons.1 (h x (List.mem_cons_of_mem _ hx)) with e | hx'
   ·subst e
    have:=ht1 _ hx
    rw [soonerI_irrefl] at this;cases this
   ·exact hx'
  ·refine .cons _ (sorted_sub hs2 ht fun x hx => ?_)
   rcases List.mem_cons.1 (h x hx) with e | hx'
   ·subst e
    exfalso
    have h1:=hs1 b hb
    rcases List.mem_cons.1 hx with e | hx2
    ·subst e;rw [soonerI_irrefl] at h1;cases h1
    ·have:=soonerI_trans h1 (ht1 _ hx2)
     rw [soonerI_irrefl] at this;cases this
   ·exact hx'
theorem sorted_of_adj {l:List End} (h:∀ j (hj:j+1 < l.length),soonerI (l[j]'(by omega)) l[j+1]=true):Sorted l:=by
 unfold Sorted
 rw [List.pairwise_iff_getElem]
 intro i j hi hj hij
 obtain ⟨d,rfl⟩:∃ d,j=i+1+d:=⟨j - i - 1,by omega⟩
 clear hij
 induction d with
 |zero=>exact h i hj
 |succ d ih=>exact soonerI_trans (ih (by omega)) (h (i+1+d) hj)
section
variable {s:Sheet} {out:List Int} {es:List End}
theorem endsL_ne (ho:outI s out=true):endsL s out≠[]:=by
 intro e
 have:=lastE_mem ho
 rw [e] at this;cases this
theorem sheet_cuts (hs:sheetI s=true):∀ w∈s.words,risesI w.cuts 1 (w.signs.length - 1)=true:=fun _ hw=>(wordF hs hw).cuts
def allS (s:Sheet) (out:List Int) (m:Nat):List (List End):=ch [] (endsL s out) m
theorem mem_allS (hs:sheetI s=true) (ho:outI s out=true) {m:Nat}:es∈allS s out m↔setR s out es=true∧es.length≤m:=by
 have hso:=endsL_sorted (out:=out) (sheet_cuts hs)
 unfold allS
 rw [mem_ch (endsL_ne ho) (Sorted.nodup hso)]
 unfold setR
 rw [ho,Bool.true_and,Bool.and_eq_true,Bool.and_eq_true,adjI_iff,Bool.not_eq_true',beq_iff_eq]
 have hl:=lastE_mem ho
 constructor
 ·rintro ⟨t,h1,h2,h3,h4⟩
  rw [List.nil_append] at h1
  subst h1
  rw [h3,hl]
  have hne:es≠[]:=by
   rintro rfl
   rw [hl] at h3;cases h3
  have hst:Sorted es:=hso.sublist h2
  refine ⟨⟨by simpa using hne,⟨fun x hx=>mem_endsL.1 (h2.subset hx),fun j hj=>List.pairwise_iff_getElem.1 hst j (j+1) _ _ (by omega)⟩,rfl⟩,h4⟩
 ·rintro ⟨⟨h1,⟨h2,h3⟩,h4⟩,h5⟩
  have hne:es≠[]:=by
   rintro rfl
   cases h1
  refine ⟨es,rfl,sorted_sub hso (sorted_of_adj h3) fun x hx=>mem_endsL.2 (h2 x hx),?_,h5⟩
  rw [List.getLast?_eq_some_getLast hne] at h4 ⊢
  rw [hl]
  exact congrArg some h4
end
def goodS (s:Sheet) (out:List Int):List (List End):=(allS s out s.rows.toNat).filter fun es=>fitI s out es 0
theorem mem_goodS {s:Sheet} {out:List Int} {es:List End} (hs:sheetI s=true) (ho:outI s out=true):es∈goodS s out↔setR s out es=true∧fitI s out es 0=true:=by
 unfold goodS
 rw [List.mem_filter,mem_allS hs ho]
 constructor
 ·rintro ⟨⟨h1,_⟩,h2⟩;exact ⟨h1,h2⟩
 ·rintro ⟨h1,h2⟩
  refine ⟨⟨h1,?_⟩,h2⟩
  unfold fitI at h2
  simp only [Bool.and_eq_true,decide_eq_true_eq] at h2
  omega
section
variable {α:Type}
def bestL (better:α→α→Bool) (x:α) (l:List α):α:=l.foldl (fun o x=>if better x o then x else o) x
end
end Go.Proofs.Tryz
namespace Go.Proofs.Tryz
open Go.AL
theorem lp0_len:∀ {all now:List End},all≠[]→(lp now all 0).length=1
 |[],_,h=>absurd rfl h
 |a::r,now,_=>by
  unfold lp
  by_cases hr:r=[]
  ·subst hr;simp [lp]
  ·simp only [if_neg hr,List.nil_append]
   exact lp0_len hr
theorem lp1_len:∀ {all now:List End},(lp now all 1).length=all.length
 |[],_=>rfl
 |a::r,now=>by
  unfold lp
  by_cases hr:r=[]
  ·subst hr;simp [lp]
  ·simp only [if_neg hr,List.length_append,List.length_cons]
   rw [lp0_len hr,lp1_len];omega
theorem lp2_len:∀ {all now:List End},all≠[]→2 * (lp now all 2).length=2+all.length * (all.length - 1)
 |[],_,h=>absurd rfl h
 |a::r,now,_=>by
  unfold lp
  by_cases hr:r=[]
  ·subst hr;simp [lp]
  ·simp only [if_neg hr,List.length_append,List.length_cons]
   rw [lp1_len,Nat.mul_add,lp2_len hr]
   obtain ⟨n,hn⟩:∃ n,r.length=n+1:=⟨r.length - 1,by have:=List.length_pos_iff.2 hr;omega⟩
   rw [hn]
   simp only [Nat.add_sub_cancel]
   have e1:(n+1+1) * (n+1)=(n+1) * n+2 * (n+1):=by
    rw [Nat.add_mul,Nat.mul_comm (n+1) n,Nat.add_mul n 1];omega
   omega
theorem ch_len {all now:List End} {m:Nat} (h:all.length≤24) (hm:m≤3):(ch now all m).length≤277:=by
 unfold ch
 split
 ·simp
 rename_i hne
 match m,hm with
 |0,_=>simp
 |1,_=>simp only;rw [lp0_len hne];omega
 |2,_=>simp only;rw [lp1_len];omega
 |3,_ =>
  simp only
  have:=lp2_len (now:=now) hne
  have:all.length * (all.length - 1)≤24 * 23:=Nat.mul_le_mul h (by omega)
  omega
theorem rises_bound {l:List Int} {lo hi:Int} (h:risesI l lo hi=true) (hle:lo≤hi+1):(l.length:Int)≤hi+1 - lo:=by
 have h':=h
 unfold risesI at h
 rw [adjI_iff] at h
 obtain ⟨h1,h2⟩:=h
 have key:∀ j (hj:j < l.length),lo+j≤l[j]:=by
  intro j
  induction j with
  |zero =>
   intro hj
   have:=h1 _ (List.getElem_mem hj)
   simp [inI] at this
   simpa using this.1
  |succ j ih =>
   intro hj
   have:=ih (by omega)
   have:=h2 j hj
   simp at this
   omega
 by_cases h0:l.length=0
 ·omega
 ·have a:=key (l.length - 1) (by omega)
  have b:=h1 _ (List.getElem_mem (show l.length - 1 < l.length by omega))
  simp [inI] at b
  omega
theorem endsW_len {s:Sheet} (hs:sheetI s=true) {out:List Int} (n:Nat):(endsW s out n).length≤lenW s n∧lenW s n≤6:=by
 unfold endsW lenW
 by_cases h:n < s.words.length
 ·rw [List.getElem?_eq_getElem h]
  have hw:=wordF hs (List.getElem_mem h)
  have h1:=hw.len1
  have:=rises_bound hw.cuts (by omega)
  have:=hw.len6
  split
  ·simp only [List.length_nil];omega
  ·simp only [List.length_append,List.length_map,List.length_cons,List.length_nil];omega
 ·rw [List.getElem?_eq_none (by omega)]
  split<;>simp
theorem endsL_len {s:Sheet} (hs:sheetI s=true) (out:List Int):(endsL s out).length≤24:=by
 unfold endsL
 have h4:=(sheetF hs).words.2
 have key:∀ m:Nat,((List.range m).flatMap (endsW s out)).length≤6 * m:=by
  intro m
  induction m with
  |zero=>simp
  |succ m ih =>
   rw [List.range_succ,List.flatMap_append,List.flatMap_singleton,List.length_append]
   have:=endsW_len hs (out:=out) m
   omega
 have:=key s.words.length
 omega
theorem allS_len {s:Sheet} (hs:sheetI s=true) (out:List Int) {m:Nat} (hm:m≤3):(allS s out m).length≤277:=ch_len (endsL_len hs out) hm
theorem goodS_len {s:Sheet} (hs:sheetI s=true) (out:List Int):(goodS s out).length≤277 :=
 Nat.le_trans (List.length_filter_le _ _) (allS_len hs out (by have:=(sheetF hs).rows;omega))
end Go.Proofs.Tryz
namespace Go.Proofs.Tryz
open Go Go.AL Go.RowKit Go.Proofs
attribute [local simp] awp_all qs_all ops_allN dops_allN ops_nil dops_nil ops_call ops_callv ops_alloc ops_box dops_call dops_alloc kO_eq kD_eq awanted apure ev Eff.S Eff.H tmpOf upd putD AL.start AV.dem AV.cells AV.storable AV.scells splice scrub abin loadA HR.okB post ares aress ares1 AV.out AV.isData ints_len ints_get fz fz1 AV.vw AV.vw1 boxy vI int undefA assignQ thenQ blockQ seqQ panQ prol prolH allocOf
variable {GI:World→Prop}
def lnI (s:Sheet) (out:List Int) (es:List End) (i:Nat):AV:=lnA (rowI s out es i) (cutI s es i)
def linesL (s:Sheet) (out:List Int) (es:List End) (n:Nat):List AV:=(List.range n).map (lnI s out es)
theorem linesL_succ (s:Sheet) (out:List Int) (es:List End) (n:Nat):linesL s out es (n+1)=linesL s out es n++[lnI s out es n]:=by
 unfold linesL;rw [List.range_succ,List.map_append];rfl
theorem lines_ok2 (s:Sheet) (out:List Int) (es:List End) (n:Nat):elemsOK 2 (linesL s out es n)=true:=elems_map fun a=>⟨rfl,rfl⟩
theorem gA_ok2 (l:List (Nat×Nat)):elemsOK 2 (l.map gA)=true:=elems_map fun a=>⟨rfl,rfl⟩
theorem linesL_len (s:Sheet) (out:List Int) (es:List End) (n:Nat):(linesL s out es n).length=n:=by unfold linesL;simp
def mwf (a:Nat) (S:Slots) (_:Boxes):Nat:=match S 6,S 7 with
 |.int _ w,.int _ f=>((a - w) * 1000+(1000 - f)).toNat
 |_,_=>0
def I81 (s:Sheet) (out:List Int) (es:List End) (i a b:Nat) (S:Slots) (H:Boxes):Prop:=S 2 = .box 2 0∧S 3 = .box 3 0∧H 2=some (frontL s)∧H 3=some [vI out,.slice .view (es.map endA)]∧S 12 = .slice .view (es.map endA)∧S 13 = .int .i64 es.length∧S 14 = .int .i64 (i:Nat)∧S 5=grow 134 (linesL s out es i)∧S 9 = .box 9 0∧H 9=some [.int .i64 a,.int .i64 b]∧S 10 = .box 10 0∧∃ (w f:Nat) (D:List (Nat×Nat)),H 10=some [grow 216 (D.map gA),.bool (cutI s es i)]∧S 6 = .int .i64 w∧S 7 = .int .i64 f∧D++rowG s out (w,f) (a,b)=rowI s out es i∧w≤a∧(w=a→f≤b)∧(w < a→f≤lenW s w)
set_option maxHeartbeats 2000000 in
theorem ac50 (hG:Stable GI) (s:Sheet) (hs:sheetI s=true) (out:List Int) (ho:out.length < 1000000) (es:List End) (he:es.length < 100000) (g:Good s out es):AC prog GI 50 [frontA s,settingA out es] (.ret (.slice .view (linesL s out es es.length))):=by
 have hF:=sheetF hs
 refine AC.as_view (o:=if linesL s out es es.length=[] then .nil else .view) ?_
 refine AC.of_body hG hmix func50 rfl ntmps50 (by simp) (ac:=c50) (by kernel_rfl) ?_
 refine awp_cut (fun S H=>S 2 = .box 2 0∧S 3 = .box 3 0∧H 2=some (frontL s)∧H 3=some [vI out,.slice .view (es.map endA)]) (by simp [ops_ap,dops_ap,frontA,frontL,sheetL,spaces,settingA,endsA]) ?_
 rintro S H ⟨s2,s3,e2,e3⟩
 simp [ops_ap,dops_ap,s2,s3,e2,e3]
 refine awp_loop 14 es.length (fun i S H=>S 2 = .box 2 0∧S 3 = .box 3 0∧H 2=some (frontL s)∧H 3=some [vI out,.slice .view (es.map endA)]∧S 12 = .slice .view (es.map endA)∧S 13 = .int .i64 es.length∧S 14 = .int .i64 (i:Nat)∧S 5=grow 134 (linesL s out es i)∧S 6 = .int .i64 (aft es i).1∧S 7 = .int .i64 (aft es i).2) (fun i S H h=>h.2.2.2.2.2.2.1) ⟨by simp [ops_ap,dops_ap,s2],by simp [ops_ap,dops_ap,s3],by simp [ops_ap,dops_ap,e2],by simp [ops_ap,dops_ap,e3],by simp [ops_ap,dops_ap],by simp [ops_ap,dops_ap],by simp [ops_ap,dops_ap],by simp [ops_ap,dops_ap,grow,linesL],by simp [ops_ap,dops_ap,aft],by simp [ops_ap,dops_ap,aft]⟩ ?_
 clear s2 s3 e2 e3 S H
 rintro i hi S H ⟨s2,s3,e2,e3,s12,s13,s14,s5,s6,s7⟩
 by_cases hlt:i < es.length
 case neg =>
  have hil:i=es.length:=by omega
  subst hil
  by_cases h0:linesL s out es es.length=[]
  ·have s5':S 5 = .slice .nil []:=by rw [s5,h0];rfl
   simp [ops_ap,dops_ap,s2,s3,e2,e3,s12,s13,s14,s5',h0]
  ·have s5':S 5 = .slice (.own 134) (linesL s out es es.length):=by rw [s5];simp [grow,h0]
   simp [ops_ap,dops_ap,s2,s3,e2,e3,s12,s13,s14,s5',h0]
 obtain ⟨g1,g2,g3,g4,g5⟩:=g.one i hlt
 obtain ⟨a,ha⟩:∃ a:Nat,es[i].1=a:=⟨es[i].1.toNat,by omega⟩
 obtain ⟨b,hb⟩:∃ b:Nat,es[i].2=b:=⟨es[i].2.toNat,by omega⟩
 have hE:es[i]=((a:Int),(b:Int)):=Prod.ext ha hb
 have hnE:nE es[i]=(a,b):=by rw [hE];rfl
 have hal:a < s.words.length:=by omega
 have hcut:cutI s es i=decide (b < s.words[a].signs.length):=by
  rw [cutI_eq hlt,hE]
  show decide ((b:Int) < (lenW s (a:Int).toNat:Int))=_
  rw [Int.toNat_natCast,lenW_eq hal,decide_eq_decide];omega
 rw [ha] at g3 g5
 rw [hb] at g4 g5
 have g5:b≤s.words[a].signs.length:=by rw [Int.toNat_natCast,lenW_eq hal] at g5;omega
 have hrow:rowI s out es i=rowG s out (aft es i) (a,b):=by rw [rowI_eq hlt,hnE]
 have hrl:=rowI_len hs g i
 have hw:IntKind.i64.wrap ((i:Int)+1)=i+1:=wrapI (by omega)
 have haft:aft es (i+1)=(a,b):=by
  show (match es[i]? with | some e=>nE e | none=>(0,0))=_
  rw [List.getElem?_eq_getElem hlt];exact hnE
 have hale:=aft_le g hlt
 rw [hnE] at hale
 simp [ops_ap,dops_ap,s2,s3,e2,e3,s12,s13,s14,hlt,hE,endA,frontL,sheetL,spaces,hal,wordA,fillA]
 refine ⟨I81 s out es i a b,mwf a,⟨by simp [ops_ap,dops_ap,s2],by simp [ops_ap,dops_ap,s3],by simp [ops_ap,dops_ap,e2,frontL,sheetL,spaces],by simp [ops_ap,dops_ap,e3],by simp [ops_ap,dops_ap,s12],by simp [ops_ap,dops_ap,s13],by simp [ops_ap,dops_ap,s14],by simp [ops_ap,dops_ap,s5,grow],by simp [ops_ap,dops_ap],by simp [ops_ap,dops_ap],by simp [ops_ap,dops_ap],(aft es i).1,(aft es i).2,[],by simp [ops_ap,dops_ap,grow,hcut],by simp [ops_ap,dops_ap,s6],by simp [ops_ap,dops_ap,s7],by rw [hrow];rfl,by omega,by omega,?_⟩,?_⟩
 ·intro _
  cases i with
  |zero=>exact Nat.zero_le _
  |succ j =>
   have hj:=g.one j (by omega)
   have:aft es (j+1)=nE es[j]:=by show (match es[j]? with | some e=>nE e | none=>(0,0))=_;rw [List.getElem?_eq_getElem (by omega)]
   rw [this];show es[j].2.toNat≤lenW s es[j].1.toNat;omega
 clear s2 s3 e2 e3 s12 s13 s14 s5 s6 s7 S H
 rintro S H ⟨s2,s3,e2,e3,s12,s13,s14,s5,s9,e9,s10,w,f,D,e10,s6,s7,hD,hwa,hfb,hfl⟩
 have hDl:D.length≤24:=by
  have:=congrArg List.length hD
  rw [List.length_append] at this;omega
 have hl6:=(endsW_len hs (out:=out) w).2
 have hl6a:=(endsW_len hs (out:=out) a).2
 rw [lenW_eq hal] at hl6a
 have hf6:f≤6:=by
  by_cases h:w < a
  ·have:=hfl h;omega
  ·have:=hfb (by omega);omega
 by_cases hgo:w < a∨w=a∧f < b
 case neg =>
  obtain rfl:w=a:=by omega
  obtain rfl:f=b:=by have:=hfb rfl;omega
  rw [rowG_self (Nat.le_refl _),List.append_nil] at hD
  have hDne:D≠[]:=by rw [hD];exact rowI_ne g hlt
  have hg:grow 216 (D.map gA) = .slice (.own 216) (D.map gA):=by simp [grow,hDne]
  rw [hg] at e10
  have hln:lnI s out es i = .agg [.slice .view (D.map gA),.bool (cutI s es i)]:=by rw [hD];rfl
  have hok1:elemsOK 2 [AV.agg [AV.slice .view (D.map gA),AV.bool (cutI s es i)]]=true:=rfl
  simp [s2,s3,e2,e3,s12,s13,s14,s5,s9,e9,s10,e10,s6,s7,hok1]
  refine aops_app (linesL s out es i) (lnI s out es i) (.own 134) (by simp [s5,grow]) (by rw [hln];simp) (by rw [hln];rfl) (lines_ok2 _ _ _ _) (by rw [linesL_len];omega) ?_
  intro S' sd hk'
  simp [sd,hk',s2,s3,e2,e3,s12,s13,s14,s6,s7,hw,hlt,haft,linesL_succ,grow,frontL,sheetL,spaces]
 have hwl:w < s.words.length:=by omega
 have hlw:=lenW_eq hwl
 refine awp_cut (fun S H=>S 2 = .box 2 0∧S 3 = .box 3 0∧H 2=some (frontL s)∧H 3=some [vI out,.slice .view (es.map endA)]∧S 12 = .slice .view (es.map endA)∧S 13 = .int .i64 es.length∧S 14 = .int .i64 (i:Nat)∧S 5=grow 134 (linesL s out es i)∧S 9 = .box 9 0∧H 9=some [.int .i64 a,.int .i64 b]∧S 10 = .box 10 0∧H 10=some [grow 216 (D.map gA),.bool (cutI s es i)]∧S 6 = .int .i64 w∧S 7 = .int .i64 f) ?_ ?_
 ·rcases hgo with hwlt | ⟨rfl,hfl'⟩
  ·have hwi:(w:Int) < a:=by omega
   simp [ops_ap,dops_ap,s2,s3,e2,e3,s12,s13,s14,s5,s9,e9,s10,e10,s6,s7,hwi,hwlt]
  ·have hfi:(f:Int) < b:=by omega
   simp [ops_ap,dops_ap,s2,s3,e2,e3,s12,s13,s14,s5,s9,e9,s10,e10,s6,s7,hfi,hfl']
 have hmm:mwf a S H=(a - w) * 1000+(1000 - f):=by unfold mwf;rw [s6,s7];simp only;omega
 rw [hmm]
 clear s2 s3 e2 e3 s12 s13 s14 s5 s9 e9 s10 e10 s6 s7 hmm S H
 rintro S H ⟨s2,s3,e2,e3,s12,s13,s14,s5,s9,e9,s10,e10,s6,s7⟩
 simp [s2,s3,e2,e3,s12,s13,s14,s5,s9,e9,s10,e10,s6,s7]
 refine ⟨_,by kernel_rfl,ac81 hG out ho w,fun _=>rfl,?_⟩
 have hw4:=hF.words.2
 have hw1:IntKind.i64.wrap ((w:Int)+1)=w+1:=wrapI (by omega)
 have hf1:IntKind.i64.wrap ((f:Int)+1)=f+1:=wrapI (by omega)
 have hw0:IntKind.i64.wrap 0=0:=wrapI (by omega)
 cases hct:out.contains (w:Int)
 case true =>
  have hwlt:w < a:=by
   rcases hgo with h | ⟨rfl,_⟩
   ·exact h
   ·rw [hct] at g3;cases g3
  simp [s2,s3,e2,e3,s12,s13,s14,s5,s9,e9,s10,e10,s6,s7,hw1,hw0]
  refine ⟨⟨by simp [ops_ap,dops_ap,s2],by simp [ops_ap,dops_ap,s3],e2,e3,by simp [ops_ap,dops_ap,s12],by simp [ops_ap,dops_ap,s13],by simp [ops_ap,dops_ap,s14],by simp [ops_ap,dops_ap,s5,grow],by simp [ops_ap,dops_ap,s9],e9,by simp [ops_ap,dops_ap,s10],w+1,0,D,e10,by simp [ops_ap,dops_ap],by simp [ops_ap,dops_ap],by rw [← hD,rowG_out hwlt hct],by omega,fun _=>Nat.zero_le _,fun _=>Nat.zero_le _⟩,?_⟩
  simp [mwf,upd]
  omega
 have hlen:(((w:Nat):Int)) < s.words.length:=by omega
 cases hfe:((f:Int)==s.words[w].signs.length)
 case true =>
  have hfe':lenW s w≤f:=by rw [hlw];simp at hfe;omega
  have hwlt:w < a:=by
   rcases hgo with h | ⟨rfl,h⟩
   ·exact h
   ·rw [hlw] at hfe';omega
  simp [s2,s3,e2,e3,s12,s13,s14,s5,s9,e9,s10,e10,s6,s7,hw1,hw0,frontL,sheetL,spaces,wordA,hwl,hfe]
  refine ⟨⟨by simp [ops_ap,dops_ap,s2],by simp [ops_ap,dops_ap,s3],e2,e3,by simp [ops_ap,dops_ap,s12],by simp [ops_ap,dops_ap,s13],by simp [ops_ap,dops_ap,s14],by simp [ops_ap,dops_ap,s5,grow],by simp [ops_ap,dops_ap,s9],e9,by simp [ops_ap,dops_ap,s10],w+1,0,D,e10,by simp [ops_ap,dops_ap],by simp [ops_ap,dops_ap],by rw [← hD,rowG_full hwlt hfe'],by omega,fun _=>Nat.zero_le _,fun _=>Nat.zero_le _⟩,?_⟩
  simp [mwf,upd]
  omega
 have hne:f≠s.words[w].signs.length:=by simp at hfe;omega
 have hfw:f < lenW s w:=by
  rcases hgo with h | ⟨rfl,h⟩
  ·have:=hfl h;omega
  ·omega
 have hok1:elemsOK 2 [AV.agg [AV.int .i64 (w:Nat),AV.int .i64 (f:Nat)]]=true:=rfl
 simp [s2,s3,e2,e3,s12,s13,s14,s5,s9,e9,s10,e10,s6,s7,frontL,sheetL,spaces,wordA,hwl,hfe,fillA,hok1]
 refine aops_app (D.map gA) (gA (w,f)) (.own 216) (by simp [grow]) (by simp [gA]) rfl (gA_ok2 _) (by rw [List.length_map];omega) ?_
 intro S' sd hk'
 simp [sd,hk',s2,s3,e2,e3,s12,s13,s14,s5,s9,e9,s10,s6,s7,hf1,grow]
 refine ⟨⟨by simp [ops_ap,dops_ap,hk',s2],by simp [ops_ap,dops_ap,hk',s3],?_,?_,by simp [ops_ap,dops_ap,hk',s12],by simp [ops_ap,dops_ap,hk',s13],by simp [ops_ap,dops_ap,hk',s14],by simp [ops_ap,dops_ap,hk',s5,grow],by simp [ops_ap,dops_ap,hk',s9],?_,by simp [ops_ap,dops_ap,hk',s10],w,f+1,D++[(w,f)],?_,by simp [ops_ap,dops_ap,hk',s6],by simp [ops_ap,dops_ap],?_,hwa,?_,?_⟩,?_⟩
 ·simp [ops_ap,dops_ap,e2,frontL,sheetL,spaces]
 ·simp [ops_ap,dops_ap,e3]
 ·simp [ops_ap,dops_ap,e9]
 ·simp [ops_ap,dops_ap,grow]
 ·have hgr:rowG s out (w,f) (a,b)=(w,f)::rowG s out (w,f+1) (a,b):=rowG_go (by
   rcases hgo with h | h
   ·exact .inl ⟨h,hct,hfw⟩
   ·exact .inr h)
  rw [← hD,hgr];simp
 ·intro h;rcases hgo with h' | h'<;>omega
 ·intro _;omega
 ·simp [mwf,upd,hk',s6]
  omega
end Go.Proofs.Tryz
namespace Go.Proofs.Tryz
open Go.AL
def letsN (l:List Word):Nat:=(l.map fun w=>w.signs.length).sum
def lessS (s:Sheet) (k:Nat):Sheet:={ s with words:=shorterW s.words k }
section
variable {s x:Sheet} {m:Nat} {z z':Nat×Nat}
end
end Go.Proofs.Tryz
namespace Go.Proofs.Tryz
open Go Go.AL Go.RowKit Go.Proofs
variable {GI:World→Prop}
theorem pairs_apart {s:Sheet} (hs:sheetI s=true):∀ i j (hi:i < s.pairs.length) (hj:j < s.pairs.length),i < j→¬ (s.pairs[i].l=s.pairs[j].l∧s.pairs[i].r=s.pairs[j].r):=by
 unfold sheetI at hs
 simp only [Bool.and_eq_true] at hs
 have h:=hs.1.2
 rw [adjI_iff] at h
 have hp:Sorted (s.pairs.map fun p=>(p.l,p.r)):=sorted_of_adj fun j hj=>by
  rw [List.getElem_map,List.getElem_map]
  exact h.2 j (by simpa using hj)
 intro i j hi hj hij he
 have:=List.pairwise_iff_getElem.1 hp i j (by simpa using hi) (by simpa using hj) hij
 rw [List.getElem_map,List.getElem_map,he.1,he.2,soonerI_irrefl] at this
 cases this
theorem ac48f (hG:Stable GI) (s:Sheet) (hs:sheetI s=true):AC prog GI 48 [sheetA s] (.ret (frontA s)):=by
 have hF:=sheetF hs
 exact ac48 hG (sA:=sheetL s) (ps:=s.pairs) rfl rfl (by simp [sheetL,vI,int,AV.storable,isVal]) (by have:=hF.plen;omega) (pairs_apart hs)
theorem widthsI_len (s:Sheet) (out:List Int) (es:List End) (st:Int):(widthsI s out es st).length=es.length:=by unfold widthsI;simp
end Go.Proofs.Tryz
namespace Go.AL
theorem ops_panic {P:Program} {GI:World→Prop} (x d rest K Qp S H):aops P GI (⟨d,none,.panic x⟩::rest) K Qp S H=(match ev S x with
  |.iface t v=>Qp (.iface t v)
  |_=>False):=rfl
end Go.AL
namespace Go.Proofs.Tryz
open Go Go.AL Go.RowKit Go.Proofs
attribute [local simp] awp_all qs_all ops_all dops_all ops_nil dops_nil ops_call ops_callv ops_alloc ops_box dops_call dops_alloc kO_eq kD_eq awanted apure ev Eff.S Eff.H tmpOf upd putD AL.start AV.dem AV.cells AV.storable AV.scells splice scrub abin loadA HR.okB post ares aress ares1 AV.out AV.isData ints_len ints_get fz fz1 AV.vw AV.vw1 boxy vI int undefA assignQ thenQ blockQ seqQ panQ prol prolH allocOf
variable {GI:World→Prop}
def wide133 (s:Sheet) (out:List Int) (es:List End) (st:Int):Int:=firstT (fun n=>decide (s.wide < n)) (widthsI s out es st)
theorem fit_wide {s:Sheet} {out:List Int} {es:List End} {st:Int}:((widthsI s out es st).all fun n=>decide (n≤s.wide))=decide (wide133 s out es st < 0):=by
 have h:=firstT_any (p:=fun n=>decide (s.wide < n)) (l:=widthsI s out es st)
 have e:((widthsI s out es st).all fun n=>decide (n≤s.wide)) = !((widthsI s out es st).any fun n=>decide (s.wide < n)):=by
  rw [Bool.eq_iff_iff]
  simp
 rw [e,← h]
 unfold wide133
 by_cases hz:0≤firstT (fun n=>decide (s.wide < n)) (widthsI s out es st)
 ·have:¬ firstT (fun n=>decide (s.wide < n)) (widthsI s out es st) < 0:=by omega
  simp [hz,this]
 ·have:firstT (fun n=>decide (s.wide < n)) (widthsI s out es st) < 0:=by omega
  simp [hz,this]
def out133 (s:Sheet) (out:List Int) (es:List End) (st:Int):AOut:=if wide133 s out es st < 0 then .ret (.tup []) else .panic (.iface 257 (.agg [.int .i64 (wide133 s out es st)]))
set_option maxHeartbeats 2000000 in
theorem ac170 (hG:Stable GI) (s:Sheet) (hsh:sheetI s=true) (out:List Int) (ho:out.length < 1000000) (es:List End) (he:es.length < 100000) (g:Good s out es) {st:Int} (h0:0≤st) (h1:st≤10):AC prog GI 170 [.ref (frontL s),.ref [vI out,.slice .view (es.map endA)],.ref [.int .i64 st]] (out133 s out es st):=by
 have hlw:=widthsI_len s out es st
 refine AC.of_body hG hmix func170 rfl ntmps170 (by simp) (ac:=c170) (by kernel_rfl) ?_
 refine awp_cut (fun S H=>S 0 = .ref (frontL s)∧S 2 = .ref [.int .i64 st]∧S 7 = .slice .view (linesL s out es es.length)∧S 8 = .int .i64 es.length∧S 9 = .int .i64 0) ?_ ?_
 ·simp [frontL,sheetL,spaces]
  refine ⟨_,by kernel_rfl,ac50 hG s hsh out ho es he g,by simp [boxy],?_⟩
  simp [linesL_len]
 rintro S H ⟨s0,s2,s7,s8,s9⟩
 simp [s0,s2,s7,s8,s9]
 refine awp_loop 9 es.length (fun i S H=>S 0 = .ref (frontL s)∧S 2 = .ref [.int .i64 st]∧S 7 = .slice .view (linesL s out es es.length)∧S 8 = .int .i64 es.length∧S 9 = .int .i64 (i:Nat)∧∀ j (hj:j < (widthsI s out es st).length),j < i→decide (s.wide < (widthsI s out es st)[j])=false) (fun i S H h=>h.2.2.2.2.1) ⟨by simp [s0],by simp [s2],by simp [s7],by simp [s8],by simp [s9],fun j _ hj=>absurd hj (Nat.not_lt_zero _)⟩ ?_
 clear s0 s2 s7 s8 s9 S H
 rintro i hi S H ⟨s0,s2,s7,s8,s9,hb⟩
 by_cases hlt:i < es.length
 case neg =>
  have hn:wide133 s out es st < 0:=by
   unfold wide133
   rw [firstT_none fun j hj=>hb j hj (by omega)];decide
  unfold out133
  rw [if_pos hn]
  simp [s0,s2,s7,s8,s9,hlt]
 have hw:IntKind.i64.wrap ((i:Int)+1)=i+1:=wrapI (by omega)
 have hln:(linesL s out es es.length)[i]? = some (.agg [.slice .view ((rowI s out es i).map gA),.bool (cutI s es i)]):=by
  unfold linesL
  rw [List.getElem?_map,List.getElem?_range hlt];rfl
 have hwi:(widthsI s out es st)[i]'(by omega)=wideI s out es st i:=by unfold widthsI;simp
 refine awp_cut (fun S H=>S 0 = .ref (frontL s)∧S 2 = .ref [.int .i64 st]∧S 7 = .slice .view (linesL s out es es.length)∧S 8 = .int .i64 es.length∧S 9 = .int .i64 (i:Nat)∧S 10 = .bool true) (by simp [s0,s2,s7,s8,s9,hlt]) ?_
 clear s0 s2 s7 s8 s9 S H
 rintro S H ⟨s0,s2,s7,s8,s9,s10⟩
 refine awp_go (by simp [s10]) ?_
 refine awp_in ?_
 refine awp_cut (fun S H=>S 0 = .ref (frontL s)∧S 2 = .ref [.int .i64 st]∧S 7 = .slice .view (linesL s out es es.length)∧S 8 = .int .i64 es.length∧S 9 = .int .i64 (i:Nat)∧S 3 = .int .i64 (i:Nat)∧S 4 = .box 4 0∧H 4=some [.slice .view ((rowI s out es i).map gA),.bool (cutI s es i)]) (by simp [s0,s2,s7,s8,s9,hlt,hln]) ?_
 clear s0 s2 s7 s8 s9 s10 S H
 rintro S H ⟨s0,s2,s7,s8,s9,s3,s4,e4⟩
 have a84:=ac51 hG s hsh (rowI_ne g hlt) (rowI_len hsh g i) (fun x hx=>rowI_mem g hx) (cutI s es i) h0 h1
 have hfirst:s.wide < wideI s out es st i→wide133 s out es st=i:=fun h=>by
  unfold wide133
  exact firstT_at (i:=i) (by omega) (by rw [hwi];simpa using h) hb
 simp [s0,s2,s7,s8,s9,s3,s4,e4,frontL,sheetL,spaces]
 refine ⟨_,by kernel_rfl,a84,by simp [boxy],?_⟩
 by_cases hwide:s.wide < wideI s out es st i
 ·have hwide':s.wide < wideP s st ((rowI s out es i).map (letS s)) (cutI s es i):=hwide
  have hf:=hfirst hwide
  unfold out133
  rw [if_neg (by omega),hf]
  simp [s0,s2,s7,s8,s9,s3,s4,e4,frontL,sheetL,spaces,hwide',ops_panic,fillA]
 ·have hwide':¬ s.wide < wideP s st ((rowI s out es i).map (letS s)) (cutI s es i):=hwide
  simp [s0,s2,s7,s8,s9,s3,s4,e4,frontL,sheetL,spaces,hwide',hw,hlt]
  intro j hj hji
  by_cases e:j=i
  ·subst e;rw [hwi];omega
  ·have:=hb j hj (by omega);simpa using this
theorem ac138 (hG:Stable GI) (s:Sheet) (hsh:sheetI s=true) (out:List Int) (ho:out.length < 1000000) (es:List End) (he:es.length < 100000) (g:Good s out es) {st:Int} (h0:0≤st) (h1:st≤10):AC prog GI 138 [frontA s,settingA out es,.int .i64 st] (.ret (.bool (fitI s out es st))):=by
 have a:=ac170 hG s hsh out ho es he g h0 h1
 have e:fitI s out es st=(decide ((es.length:Int)≤s.rows) && decide (wide133 s out es st < 0)):=by unfold fitI;rw [fit_wide]
 rw [e]
 refine AC.of_body hG hmix func138 rfl ntmps138 (by simp) (ac:=c138) (by kernel_rfl) ?_
 refine awp_cut (fun S H=>S 3 = .box 3 0∧S 4 = .box 4 0∧S 5 = .box 5 0∧H 3=some (frontL s)∧H 4=some [vI out,.slice .view (es.map endA)]∧H 5=some [.int .i64 st]) (by simp [frontA,frontL,sheetL,spaces,settingA,endsA]) ?_
 rintro S H ⟨s3,s4,s5,e3,e4,e5⟩
 by_cases hr:(es.length:Int)≤s.rows
 case neg=>simp [s3,s4,s5,e3,e4,e5,frontL,sheetL,spaces,hr]
 unfold out133 at a
 by_cases hw:wide133 s out es st < 0
 ·rw [if_pos hw] at a
  have b:=ac169 hG (k:=170) (by kernel_rfl) a (.inl ⟨_,rfl,rfl⟩)
  simp [s3,s4,s5,e3,e4,e5,frontL,sheetL,spaces,hr]
  refine ⟨_,by kernel_rfl,b,fun _=>rfl,?_⟩
  simp [hw]
 ·rw [if_neg hw] at a
  have b:=ac169 hG (k:=170) (by kernel_rfl) a (.inr (.inl ⟨_,rfl,rfl⟩))
  simp [s3,s4,s5,e3,e4,e5,frontL,sheetL,spaces,hr]
  refine ⟨_,by kernel_rfl,b,fun _=>rfl,?_⟩
  simp [hw]
theorem downL_down {p:Int→Bool}:∀ {n i:Nat},i≤n→(∀ k:Nat,i≤k→k < n→p k=false)→downL p n=downL p i
 |0,i,h,_=>by rw [show i=0 by omega]
 |n+1,i,h,hp=>by
  by_cases e:i=n+1
  ·rw [e]
  ·rw [downL,hp n (by omega) (by omega)]
   exact downL_down (by omega) fun k h1 h2=>hp k h1 (by omega)
theorem ac99 (hG:Stable GI) (s:Sheet) (hsh:sheetI s=true) (out:List Int) (ho:out.length < 1000000) (es:List End) (he:es.length < 100000) (g:Good s out es):AC prog GI 99 [frontA s,settingA out es] (.ret (.int .i64 (mostI s out es))):=by
 refine AC.of_body hG hmix func99 rfl ntmps99 (by simp) (ac:=c99) (by kernel_rfl) ?_
 refine awp_cut (fun S H=>S 2 = .box 2 0∧S 3 = .box 3 0∧H 2=some (frontL s)∧H 3=some [vI out,.slice .view (es.map endA)]) (by simp [frontA,frontL,sheetL,spaces,settingA,endsA]) ?_
 rintro S H ⟨s2,s3,e2,e3⟩
 simp [s2,s3,e2,e3]
 refine awp_loopD 5 11 (fun i S H=>i≤11∧S 2 = .box 2 0∧S 3 = .box 3 0∧H 2=some (frontL s)∧H 3=some [vI out,.slice .view (es.map endA)]∧S 5 = .int .i64 ((i:Nat) - 1)∧∀ k:Nat,i≤k→k < 11→fitI s out es k=false) (fun i S H h=>h.2.2.2.2.2.1) ⟨by omega,by simp [s2],by simp [s3],by simp [e2],by simp [e3],by simp,fun k h1 h2=>by omega⟩ ?_
 clear s2 s3 e2 e3 S H
 rintro i hi S H ⟨_,s2,s3,e2,e3,s5,hb⟩
 have hm:=downL_down (p:=fitI s out es) hi hb
 cases i with
 |zero =>
  have hm:mostI s out es = -1:=hm
  simp [s2,s3,e2,e3,s5,hm]
 |succ m =>
  have hm:mostI s out es=if fitI s out es m then (m:Int) else downL (fitI s out es) m:=hm
  have s5':S 5 = .int .i64 (m:Nat):=by rw [s5];congr 1;omega
  have hwm:IntKind.i64.wrap ((m:Int) - 1)=m - 1:=wrapI (by omega)
  simp [s2,s3,e2,e3,s5',frontL,sheetL,spaces]
  refine ⟨_,by kernel_rfl,ac138 hG s hsh out ho es he g (by omega) (by omega),by simp [boxy],?_⟩
  cases hf:fitI s out es m
  ·simp [s2,s3,e2,e3,s5',frontL,sheetL,spaces,hwm]
   refine ⟨by omega,fun k h1 h2 => ?_⟩
   by_cases e:k=m
   ·subst e;exact hf
   ·exact hb k (by omega) h2
  ·rw [hf] at hm
   simp at hm
   simp [s2,s3,e2,e3,s5',frontL,sheetL,spaces,hm]
end Go.Proofs.Tryz
namespace Go.Proofs.Tryz
open Go.AL
theorem letsN_cons (w:Word) (l:List Word):letsN (w::l)=w.signs.length+letsN l:=rfl
theorem letsN_app (l r:List Word):letsN (l++r)=letsN l+letsN r:=by
 induction l with
 |nil=>simp [letsN]
 |cons a l ih=>rw [List.cons_append,letsN_cons,letsN_cons,ih];omega
theorem sheetI_parts {s:Sheet}:sheetI s=true↔(inI s.widths.length 1 6=true∧s.pairs.length≤6∧adjI (pairI s) ltP s.pairs=true∧(s.widths.any fun n => !inI n 1 20)=false∧spanI s.olo s.ohi 0 9=true∧spanI s.glo s.ghi 0 20=true∧inI s.hyphen 1 20=true∧inI s.wide 1 400=true∧inI s.rows 1 3=true)∧inI s.words.length 1 4=true∧(s.words.any fun w => !wordI s w)=false:=by
 unfold sheetI endI
 simp only [Bool.and_eq_true,Bool.not_eq_true',decide_eq_true_eq]
 constructor
 ·rintro ⟨⟨⟨⟨a,b⟩,c⟩,d⟩,⟨⟨⟨⟨⟨e,f⟩,g⟩,h⟩,i⟩,j⟩,k⟩
  exact ⟨⟨a,b,d,e,f,g,h,j,k⟩,c,i⟩
 ·rintro ⟨⟨a,b,d,e,f,g,h,j,k⟩,c,i⟩
  exact ⟨⟨⟨⟨a,b⟩,c⟩,d⟩,⟨⟨⟨⟨⟨e,f⟩,g⟩,h⟩,i⟩,j⟩,k⟩
theorem sheetI_words {s:Sheet} (hs:sheetI s=true) {ws:List Word} (h1:1≤ws.length) (h2:ws.length≤4) (h3:∀ w∈ws,wordI s w=true):sheetI { s with words:=ws }=true:=by
 rw [sheetI_parts] at hs ⊢
 refine ⟨hs.1,?_,?_⟩
 ·simp [inI];omega
 ·rw [List.any_eq_false]
  intro w hw
  have:wordI { s with words:=ws } w=wordI s w:=rfl
  rw [this,h3 w hw];simp
theorem wordI_cut {s:Sheet} {w:Word} (hw:WordF s w) {k:Nat} (hk:1≤k):wordI s { signs:=w.signs.take (min k w.signs.length),cuts:=w.cuts.filter fun c => !decide (((min k w.signs.length:Nat):Int)≤c),free:=w.free }=true:=by
 unfold wordI
 have h1:=hw.len1
 have h6:=hw.len6
 simp only [List.length_take,Bool.and_eq_true,Bool.not_eq_true',List.any_eq_false]
 refine ⟨⟨by simp [inI];omega,fun n hn => ?_⟩,?_⟩
 ·have:=hw.sign n (List.mem_of_mem_take hn)
  simp [signI,inI];omega
 ·have hc:=hw.cuts
  unfold risesI at hc ⊢
  rw [adjI_iff] at hc ⊢
  refine ⟨fun c hc' => ?_,?_⟩
  ·obtain ⟨a,b⟩:=List.mem_filter.1 hc'
   have:=hc.1 c a
   simp [inI] at this b ⊢
   omega
  ·have hp:w.cuts.Pairwise fun a b=>a < b:=adj_lt fun j hj=>by simpa using hc.2 j hj
   have hp:=List.pairwise_iff_getElem.1 (hp.sublist (List.filter_sublist (p:=fun c => !decide (((min k w.signs.length:Nat):Int)≤c))))
   intro j hj
   have:=hp j (j+1) (by omega) hj (by omega)
   simpa using this
theorem shorter_wordI {s:Sheet}:∀ {l:List Word} {k:Nat},(∀ w∈l,WordF s w)→∀ w∈shorterW l k,wordI s w=true
 |[],k,_,w,hw=>by cases hw
 |a::l,k,h,w,hw=>by
  unfold shorterW at hw
  split at hw
  ·cases hw
  ·rename_i h0
   rcases List.mem_cons.1 hw with rfl | hw
   ·exact wordI_cut (h a List.mem_cons_self) (by omega)
   ·exact shorter_wordI (fun x hx=>h x (List.mem_cons_of_mem _ hx)) w hw
theorem shorter_length:∀ {l:List Word} {k:Nat},(shorterW l k).length≤l.length
 |[],_=>Nat.le_refl _
 |a::l,k=>by
  unfold shorterW
  split
  ·simp
  ·have:=shorter_length (l:=l) (k:=k - min k a.signs.length)
   simp only [List.length_cons];omega
theorem lessS_sheet {s:Sheet} (hs:sheetI s=true) {k:Nat} (hk:1≤k):sheetI (lessS s k)=true:=by
 refine sheetI_words hs ?_ ?_ (shorter_wordI fun w hw=>wordF hs hw)
 ·have:=(sheetF hs).words.1
  match hw:s.words with
  |[]=>rw [hw] at this;simp at this
  |a::l =>
   unfold shorterW
   rw [if_neg (by omega)]
   simp
 ·have:=(sheetF hs).words.2
  have:=shorter_length (l:=s.words) (k:=k)
  omega
end Go.Proofs.Tryz
namespace Go.Proofs.Tryz
open Go.AL
section
variable {s:Sheet}
theorem outI_nil (hs:sheetI s=true):outI s []=true:=by
 have:=(sheetF hs).words.1
 unfold outI risesI adjI
 simp;omega
end
end Go.Proofs.Tryz
namespace Go.Proofs.Tryz
open Go.AL
section
variable {α:Type} {len:α→Nat} {most:α→Int}
def betterB (len:α→Nat) (most:α→Int) (a b:α):Bool:=decide (len a < len b) || (len a==len b && decide (most b < most a))
end
end Go.Proofs.Tryz
namespace Go.Proofs.Tryz
open Go.AL
structure Renum (s x:Sheet) (out:List Int) (k:Nat→Nat) (N:Nat):Prop where
 pos:0 < N
 n:x.words.length=N
 lt:∀ i,i < N→k i < s.words.length
 mono:∀ i,i+1 < N→k i < k (i+1)
 inn:∀ i,i < N→out.contains (k i:Int)=false
 gap:∀ i,i+1 < N→∀ j,k i < j→j < k (i+1)→out.contains (j:Int)=true
 first:∀ j,j < k 0→out.contains (j:Int)=true
 last:∀ j,k (N - 1) < j→j < s.words.length→out.contains (j:Int)=true
 word:∀ i,i < N→x.words[i]? = s.words[k i]?
 h1:x.widths=s.widths
 h2:x.pairs=s.pairs
 h3:x.olo=s.olo
 h4:x.ohi=s.ohi
 h5:x.glo=s.glo
 h6:x.ghi=s.ghi
 h7:x.hyphen=s.hyphen
 h8:x.wide=s.wide
 h9:x.rows=s.rows
section
variable {s x:Sheet} {out:List Int} {k:Nat→Nat} {N:Nat}
theorem Renum.mono' (h:Renum s x out k N):∀ d i,i+d+1 < N→k i < k (i+d+1)
 |0,i,hi=>h.mono i hi
 |d+1,i,hi=>Nat.lt_trans (h.mono' d i (by omega)) (h.mono (i+d+1) hi)
theorem Renum.lt_iff (h:Renum s x out k N) {i j:Nat} (hi:i < N) (hj:j < N):k i < k j↔i < j:=by
 constructor
 ·intro hk
  by_cases hij:i < j
  ·exact hij
  ·by_cases he:i=j
   ·subst he;omega
   ·have:=h.mono' (i - j - 1) j (by omega)
    rw [show j+(i - j - 1)+1=i by omega] at this
    omega
 ·intro hij
  have:=h.mono' (j - i - 1) i (by omega)
  rwa [show i+(j - i - 1)+1=j by omega] at this
theorem Renum.inj (h:Renum s x out k N) {i j:Nat} (hi:i < N) (hj:j < N) (he:k i=k j):i=j:=by
 have h1:=h.lt_iff hi hj
 have h2:=h.lt_iff hj hi
 omega
end
end Go.Proofs.Tryz
namespace Go.Proofs.Tryz
open Go.AL
variable {s:Sheet} {x y:List End}
def betterE (s:Sheet):List End→List End→Bool:=betterB List.length (mostI s [])
end Go.Proofs.Tryz
namespace Go.AL
theorem awpF_go {P:Program} {GI:World→Prop} {i k:Nat} {x y:ACode} {Q:AExit→Slots→Boxes→Prop} {S:Slots} {H:Boxes} (K:Slots→Boxes→Prop) (hx:awp P GI x (assignQ K) S H) (hy:∀ S' H',K S' H'→awpF P GI i k y Q S' H'):awpF P GI i (k+1) (.seq x y) Q S H:=by
 refine awpF_cut K (awp_mono x (fun e S H h => ?_) hx) (fun h=>awp_mono x h) hy
 cases e<;>first | exact ⟨rfl,h⟩ | exact h.elim
end Go.AL
namespace Go.Proofs.Tryz
open Go Go.AL Go.RowKit Go.Proofs
attribute [local simp] awp_all qs_all ops_all dops_all ops_nil dops_nil ops_call ops_callv ops_alloc ops_box dops_call dops_alloc kO_eq kD_eq awanted apure ev Eff.S Eff.H tmpOf upd putD AL.start AV.dem AV.cells AV.storable AV.scells splice scrub abin loadA HR.okB post ares aress ares1 AV.out AV.isData ints_len ints_get fz fz1 AV.vw AV.vw1 boxy vI int undefA assignQ thenQ blockQ seqQ panQ prol prolH allocOf
variable {GI:World→Prop}
theorem frontL_vw (s:Sheet):(frontL s).map AV.vw1=frontL s:=by
 simp [frontL,sheetL,spaces,vI,ints,AV.vw1]
theorem frontL_len (s:Sheet):(frontL s).length=11:=rfl
theorem frontL_take (s:Sheet):AV.agg ((frontL s).take 10 |>.map AV.vw1)=sheetA s:=by
 simp [frontL,sheetL,sheetA,vI,ints,AV.vw1]
theorem sheet_slim {s:Sheet} (h:sheetI s=true):Slim s:=by
 have hF:=sheetF h
 refine ⟨by have:=hF.wlen;omega,by have:=hF.plen;omega,by have:=hF.words;omega,fun w hw => ?_,fun w hw => ?_⟩
 ·have:=(wordF h hw).len6;omega
 ·have f:=wordF h hw
  have:=rises_bound f.cuts (by have:=f.len1;omega)
  have:=f.len6
  omega
theorem it_set (hG:Stable GI) (s:Sheet) (hsh:sheetI s=true) (out:List Int) (ho:out.length≤1000):IterC prog GI 121 [.ref (frontL s),.ref [vI out]] ((allS s out s.rows.toNat).map (settingA out)):=by
 have hr:=(sheetF hsh).rows
 have he:=endsL_len hsh out
 refine it121 hG (oE := .view) (all:=endsL s out) (rows:=s.rows.toNat) (by omega) (by omega) ho (frontL_len s) ?_ ?_ ?_
 ·intro x hx
  simp [frontL,sheetL] at hx
  rcases hx with rfl | rfl | rfl | rfl | rfl | rfl | rfl | rfl | rfl | rfl<;>exact ⟨rfl,rfl,rfl⟩
 ·show some (AV.int .i64 s.rows)=some (.int .i64 (s.rows.toNat:Nat))
  rw [Int.toNat_of_nonneg (by omega)]
 ·rw [frontL_take]
  exact ac122 hG s (sheet_slim hsh) out (by omega)
theorem allS_good {s:Sheet} (hsh:sheetI s=true) {out:List Int} (hout:outI s out=true) {es:List End} (h:es∈allS s out s.rows.toNat):setR s out es=true∧es.length≤3:=by
 have hr:=(sheetF hsh).rows
 obtain ⟨h1,h2⟩:=(mem_allS hsh hout).1 h
 exact ⟨h1,by omega⟩
theorem ac138s (hG:Stable GI) (s:Sheet) (hsh:sheetI s=true) (out:List Int) (ho:out.length≤1000) (hout:outI s out=true) {es:List End} (h:es∈allS s out s.rows.toNat):AC prog GI 138 [.agg ((frontL s).map AV.vw1),settingA out es,.int .i64 0] (.ret (.bool (fitI s out es 0))):=by
 obtain ⟨h1,h2⟩:=allS_good hsh hout h
 rw [frontL_vw]
 exact ac138 hG s hsh out (by omega) es (by omega) (good_of hsh h1) (by omega) (by omega)
theorem ac96f (hG:Stable GI) (s:Sheet) (hsh:sheetI s=true) (out:List Int) (ho:out.length≤1000) (hout:outI s out=true):AC prog GI 96 [frontA s,vI out] (.ret (.slice .view ((goodS s out).map (settingA out)))):=by
 have hr:=(sheetF hsh).rows
 have hl:=allS_len hsh out (m:=s.rows.toNat) (by omega)
 refine AC.as_view (o:=if (goodS s out).isEmpty then .nil else .view) ?_
 exact ac96 hG (frontL_len s) (by
  intro x hx
  simp [frontL,sheetL] at hx
  rcases hx with rfl | rfl | rfl | rfl | rfl | rfl | rfl | rfl | rfl | rfl | rfl<;>rfl) (by omega) (fun es h=>by have:=(allS_good hsh hout h).2;omega) (by rw [frontL_vw];exact it_set hG s hsh out ho) (fun es h=>ac138s hG s hsh out ho hout h)
theorem ac66f (hG:Stable GI) (s:Sheet) (hsh:sheetI s=true) (out:List Int) (ho:out.length≤1000) (hout:outI s out=true):AC prog GI 66 [frontA s,vI out] (.ret (.bool (!(goodS s out).isEmpty))):=by
 have e:(!(goodS s out).isEmpty)=(allS s out s.rows.toNat).any fun es=>fitI s out es 0:=by
  unfold goodS
  rw [Bool.eq_iff_iff]
  simp [List.filter_eq_nil_iff]
 rw [e]
 exact ac66 hG (frontL_len s) (by rw [frontL_vw];exact it_set hG s hsh out ho) (fun es h=>ac138s hG s hsh out ho hout h)
theorem ac98 (hG:Stable GI) (s:Sheet) (hsh:sheetI s=true) {a b:List End} (ha:setR s [] a=true) (hb:setR s [] b=true) (hal:a.length≤10) (hbl:b.length≤10):AC prog GI 98 [settingA [] a,settingA [] b,.ref (frontL s)] (.ret (.bool (betterE s a b))):=by
 have ga:=ac99 hG s hsh [] (by simp) a (by omega) (good_of hsh ha)
 have gb:=ac99 hG s hsh [] (by simp) b (by omega) (good_of hsh hb)
 refine AC.of_body hG hmix func98 rfl ntmps98 (by simp) (ac:=c98) (by kernel_rfl) ?_
 refine awp_cut (fun S H=>S 2 = .ref (frontL s)∧S 3 = .box 3 0∧S 4 = .box 4 0∧H 3=some [vI [],.slice .view (a.map endA)]∧H 4=some [vI [],.slice .view (b.map endA)]) (by simp [settingA,endsA]) ?_
 rintro S H ⟨s2,s3,s4,e3,e4⟩
 refine awp_cut (fun S H=>S 2 = .ref (frontL s)∧S 3 = .box 3 0∧S 4 = .box 4 0∧H 3=some [vI [],.slice .view (a.map endA)]∧H 4=some [vI [],.slice .view (b.map endA)]∧S 6 = .int .i64 a.length∧S 7 = .int .i64 b.length) (by simp [s2,s3,s4,e3,e4]) ?_
 clear s2 s3 s4 e3 e4 S H
 rintro S H ⟨s2,s3,s4,e3,e4,s6,s7⟩
 unfold betterE betterB
 by_cases hlt:a.length < b.length
 ·have hlt':(a.length:Int) < b.length:=by omega
  simp [s2,s3,s4,e3,e4,s6,s7,hlt,hlt']
 by_cases he:a.length=b.length
 case neg =>
  have hlt':¬ (a.length:Int) < b.length:=by omega
  have he':((a.length:Int)==b.length)=false:=by simp;omega
  have he2:(a.length==b.length)=false:=by simpa using he
  simp [s2,s3,s4,e3,e4,s6,s7,hlt,hlt',he',he2]
 simp [s2,s3,s4,e3,e4,s6,s7,he,frontL,sheetL,spaces]
 refine ⟨_,by kernel_rfl,ga,by simp [boxy],?_⟩
 simp [s2,s3,s4,e3,e4,s6,s7,he,frontL,sheetL,spaces]
 refine ⟨_,by kernel_rfl,gb,by simp [boxy],?_⟩
 simp [s2,s3,s4,e3,e4,s6,s7,he,frontL,sheetL,spaces]
theorem set_ok2 (l:List (List End)):elemsOK 2 (l.map (settingA []))=true:=elems_map fun a=>⟨rfl,rfl⟩
theorem bestL_take {α:Type} (better:α→α→Bool) (x:α) {l:List α} {i:Nat} (h:i < l.length):bestL better x (l.take (i+1))=if better l[i] (bestL better x (l.take i)) then l[i] else bestL better x (l.take i):=by
 unfold bestL
 rw [List.take_succ_eq_append_getElem h,List.foldl_append];rfl
theorem bestL_mem {α:Type} (better:α→α→Bool):∀ (l:List α) (x:α),bestL better x l∈x::l
 |[],x=>List.mem_cons_self
 |a::l,x=>by
  show bestL better (if better a x then a else x) l∈_
  have:=bestL_mem better l (if better a x then a else x)
  rcases List.mem_cons.1 this with e | h
  ·rw [e];split<;>simp
  ·exact List.mem_cons_of_mem _ (List.mem_cons_of_mem _ h)
set_option maxHeartbeats 1000000 in
theorem ac97 (hG:Stable GI) (s:Sheet) (hsh:sheetI s=true) (x:List End) (l:List (List End)) (hl:l.length < 100000) (h:∀ a∈x::l,setR s [] a=true∧a.length≤10):AC prog GI 97 [.slice .view ((x::l).map (settingA [])),.func (.func 98) [] [.ref (frontL s)]] (.ret (settingA [] (bestL (betterE s) x l))):=by
 have hok:=set_ok2 (x::l)
 obtain ⟨it,hit,hsz⟩:=info_size (P:=prog) (t:=108) (s:=2) (by kernel_rfl)
 have hT:List.take l.length (l.map (settingA []))=l.map (settingA []):=List.take_of_length_le (by simp)
 have hm:(x::l).map (settingA [])=settingA [] x::l.map (settingA []):=rfl
 have hscr:∀ d,scrub1 d (.ref (frontL s))=false:=fun d=>rfl
 have hsx:∀ a,settingA [] a = .agg [vI [],.slice .view (a.map endA)]:=fun _=>rfl
 refine AC.of_body hG hmix func97 rfl ntmps97 (by simp) (ac:=c97) (by kernel_rfl) ?_
 refine awp_cut (fun S H=>S 4 = .box 4 0∧S 0 = .slice .view (settingA [] x::l.map (settingA []))∧S 1 = .func (.func 98) [] [.ref (frontL s)]∧H 4=some [.slice .nil [],.slice .nil []]) (by simp [hscr]) ?_
 rintro S H ⟨s4,s0,s1,e4⟩
 refine awp_cut (fun S H=>S 4 = .box 4 0∧S 0 = .slice .view (settingA [] x::l.map (settingA []))∧S 1 = .func (.func 98) [] [.ref (frontL s)]∧H 4=some [.slice .nil [],.slice .nil []]∧S 5 = .box 5 0∧H 5=some [vI [],.slice .view (x.map endA)]) (by simp [s4,s0,s1,e4,hsx,hscr]) ?_
 clear s4 s0 s1 e4 S H
 rintro S H ⟨s4,s0,s1,e4,s5,e5⟩
 rw [hm] at hok
 refine awp_cut (fun S H=>S 4 = .box 4 0∧H 4=some [.slice .nil [],.slice .nil []]∧S 5 = .box 5 0∧H 5=some [vI [],.slice .view ((bestL (betterE s) x l).map endA)]) ?_ ?_
 ·have h1:(1:Int)≤l.length+1:=by omega
  simp [s4,s0,s1,e4,s5,e5,bound,hok,h1]
  refine awp_loop 14 l.length (fun i S H=>S 1 = .func (.func 98) [] [.ref (frontL s)]∧S 4 = .box 4 0∧H 4=some [.slice .nil [],.slice .nil []]∧S 5 = .box 5 0∧H 5=some [vI [],.slice .view ((bestL (betterE s) x (l.take i)).map endA)]∧S 12 = .slice .view (l.map (settingA []))∧S 13 = .int .i64 l.length∧S 14 = .int .i64 (i:Nat)) (fun i S H h=>h.2.2.2.2.2.2.2) ⟨by simp [s1],by simp [s4],by simp [e4],by simp [s5],by simp [e5,bestL],by simp [hT],by simp,by simp⟩ ?_
  clear s4 s0 s1 e4 s5 e5 S H
  rintro i hi S H ⟨s1,s4,e4,s5,e5,s12,s13,s14⟩
  by_cases hlt:i < l.length
  case neg =>
   have hil:i=l.length:=by omega
   subst hil
   rw [List.take_of_length_le (Nat.le_refl _)] at e5
   simp [s1,s4,e4,s5,e5,s12,s13,s14]
  have hw:IntKind.i64.wrap ((i:Int)+1)=i+1:=wrapI (by omega)
  have hmem:=bestL_mem (betterE s) (l.take i) x
  have hb:=h (bestL (betterE s) x (l.take i)) (by
   rcases List.mem_cons.1 hmem with e | e
   ·rw [e];exact List.mem_cons_self
   ·exact List.mem_cons_of_mem _ (List.mem_of_mem_take e))
  have hi':=h l[i] (List.mem_cons_of_mem _ (List.getElem_mem hlt))
  have a99:=ac98 hG s hsh hi'.1 hb.1 hi'.2 hb.2
  rw [bestL_take _ _ hlt]
  generalize bestL (betterE s) x (l.take i)=o at e5 a99 ⊢
  simp [s1,s4,e4,s5,e5,s12,s13,s14,hlt,hsx,hscr]
  refine ⟨_,by kernel_rfl,a99,by simp [boxy],?_⟩
  cases betterE s l[i] o
  ·simp [s1,s4,e4,s5,e5,s12,s13,s14,hlt,hsx,hscr,hw]
  ·simp [s1,s4,e4,s5,e5,s12,s13,s14,hlt,hsx,hscr,hw]
 clear s4 s0 s1 e4 s5 e5 S H
 rintro S H ⟨s4,e4,s5,e5⟩
 simp [s4,e4,s5,e5,hsx,hit,hsz,aggT]
def setO (s:Sheet):List AV:=if sheetI s then match goodS s [] with
 |[]=>[settingA [] [],.int .i64 0,.int .i64 5]
 |x::l=>[settingA [] (bestL (betterE s) x l),.int .i64 (mostI s [] (bestL (betterE s) x l)),.int .i64 0]
 else [settingA [] [],.int .i64 0,.int .i64 2]
theorem good_ok {s:Sheet} (hsh:sheetI s=true) {a:List End} (h:a∈goodS s []):setR s [] a=true∧a.length≤3∧fitI s [] a 0=true:=by
 have hr:=(sheetF hsh).rows
 obtain ⟨h1,h2⟩:=(mem_goodS hsh (outI_nil hsh)).1 h
 refine ⟨h1,?_,h2⟩
 unfold fitI at h2
 simp only [Bool.and_eq_true,decide_eq_true_eq] at h2
 omega
theorem ac40_no (hG:Stable GI) (s:Sheet) (hs:Slim s) (hno:sheetI s=false∨goodS s []=[]):AC prog GI 40 [sheetA s] (.ret (.tup (setO s))):=by
 obtain ⟨it,hit,hsz⟩:=info_size (P:=prog) (t:=108) (s:=2) (by kernel_rfl)
 have hsx:∀ a,settingA [] a = .agg [vI [],.slice .view (a.map endA)]:=fun _=>rfl
 refine AC.of_body hG hmix func40 rfl ntmps40 (by simp) (ac:=c40) (by kernel_rfl) ?_
 refine awp_cut (fun S H=>S 1 = .box 1 0∧S 2 = .box 2 0∧H 1=some (sheetL s)∧H 2=some [.slice .nil [],.slice .nil []]) (by simp [sheetA,sheetL]) ?_
 rintro S H ⟨s1,s2,e1,e2⟩
 unfold setO
 cases hsh:sheetI s
 ·simp [s1,s2,e1,e2,sheetL]
  refine ⟨_,by kernel_rfl,ac47 hG s hs,fun _=>rfl,?_⟩
  rw [hsh]
  simp [s1,s2,e1,e2,sheetL,hit,hsz,aggT,hsx,fillA,ints]
 have hg:goodS s []=[]:=by
  rcases hno with h | h
  ·rw [h] at hsh;cases hsh
  ·exact h
 simp [s1,s2,e1,e2,sheetL]
 refine ⟨_,by kernel_rfl,ac47 hG s hs,fun _=>rfl,?_⟩
 rw [hsh]
 simp [s1,s2,e1,e2,sheetL]
 refine ⟨_,by kernel_rfl,ac48f hG s hsh,by simp [boxy],?_⟩
 simp [s1,s2,e1,e2,frontA,frontL,sheetL,spaces]
 refine ⟨_,by kernel_rfl,ac96f hG s hsh [] (by simp) (outI_nil hsh),by simp [boxy],?_⟩
 rw [hg]
 simp [s1,s2,e1,e2,hit,hsz,aggT,hsx,fillA,ints]
set_option maxHeartbeats 1000000 in
theorem ac40 (hG:Stable GI) (s:Sheet) (hs:Slim s):AC prog GI 40 [sheetA s] (.ret (.tup (setO s))):=by
 cases hsh:sheetI s with
 |false=>exact ac40_no hG s hs (.inl hsh)
 |true =>
 cases hg:goodS s [] with
 |nil=>exact ac40_no hG s hs (.inr hg)
 |cons x l =>
 obtain ⟨it,hit,hsz⟩:=info_size (P:=prog) (t:=108) (s:=2) (by kernel_rfl)
 have hsx:∀ a,settingA [] a = .agg [vI [],.slice .view (a.map endA)]:=fun _=>rfl
 have hl:=goodS_len hsh []
 rw [hg] at hl
 simp at hl
 have hall:∀ a∈x::l,setR s [] a=true∧a.length≤10:=fun a ha=>by
  have:=good_ok hsh (a:=a) (by rw [hg];exact ha)
  exact ⟨this.1,by omega⟩
 have a98:=ac97 hG s hsh x l (by omega) hall
 have hb:=hall _ (bestL_mem (betterE s) l x)
 have a87:=ac99 hG s hsh [] (by simp) (bestL (betterE s) x l) (by omega) (good_of hsh hb.1)
 have hn0:((l.length:Int)+1==0)=false:=by simp;omega
 have ho:setO s=[settingA [] (bestL (betterE s) x l),.int .i64 (mostI s [] (bestL (betterE s) x l)),.int .i64 0]:=by
  unfold setO
  rw [hsh,if_pos rfl,hg]
 rw [ho]
 refine AC.of_bodyZ hG hmix 5 5 func40 rfl ntmps40 (by simp) (ac:=c40) (by kernel_rfl) ?_
 refine awpF_go (fun S H=>S 1 = .box 1 0∧S 2 = .box 2 0∧H 1=some (sheetL s)∧H 2=some [.slice .nil [],.slice .nil []]) (by simp [sheetA,sheetL]) ?_
 rintro S H ⟨s1,s2,e1,e2⟩
 refine awpF_go (fun S H=>S 1 = .box 1 0∧S 2 = .box 2 0∧H 1=some (sheetL s)∧H 2=some [.slice .nil [],.slice .nil []]) ?_ ?_
 ·simp [s1,s2,e1,e2,sheetL]
  refine ⟨_,by kernel_rfl,ac47 hG s hs,fun _=>rfl,?_⟩
  rw [hsh]
  simp [s1,s2,e1,e2,sheetL]
 clear s1 s2 e1 e2 S H
 rintro S H ⟨s1,s2,e1,e2⟩
 refine awpF_go (fun S H=>S 2 = .box 2 0∧H 2=some [.slice .nil [],.slice .nil []]∧S 5 = .box 5 0∧H 5=some (frontL s)) ?_ ?_
 ·simp [s1,s2,e1,e2,sheetL]
  refine ⟨_,by kernel_rfl,ac48f hG s hsh,by simp [boxy],?_⟩
  simp [s1,s2,e1,e2,frontA,frontL,sheetL,spaces]
 clear s1 s2 e1 e2 S H
 rintro S H ⟨s2,e2,s5,e5⟩
 refine awpF_go (fun S H=>S 2 = .box 2 0∧H 2=some [.slice .nil [],.slice .nil []]∧S 5 = .box 5 0∧H 5=some (frontL s)∧S 6 = .slice .view ((x::l).map (settingA []))) ?_ ?_
 ·have a97:=ac96f hG s hsh [] (by simp) (outI_nil hsh)
  rw [hg] at a97
  simp [s2,e2,s5,e5,frontL,sheetL,spaces]
  refine ⟨_,by kernel_rfl,a97,by simp [boxy],?_⟩
  simp [s2,e2,s5,e5,frontL,sheetL,spaces]
 clear s2 e2 s5 e5 S H
 rintro S H ⟨s2,e2,s5,e5,s6⟩
 refine awpF_go (fun S H=>S 2 = .box 2 0∧H 2=some [.slice .nil [],.slice .nil []]∧S 5 = .box 5 0∧H 5=some (frontL s)∧S 6 = .slice .view ((x::l).map (settingA []))) (by simp [s2,e2,s5,e5,s6,hn0]) ?_
 clear s2 e2 s5 e5 s6 S H
 rintro S H ⟨s2,e2,s5,e5,s6⟩
 refine awpF_zero (frontL s) (fun S H=>S 2 = .box 2 0∧H 2=some [.slice .nil [],.slice .nil []]∧S 5 = .ref (frontL s)∧S 6 = .slice .view ((x::l).map (settingA []))) e5 ⟨by simp [s2,frz],by simp [upd,e2],by simp [s5,frz,frontL,sheetL,spaces,AV.dem,vI],by simp [s6,frz,scrub]⟩ ?_
 clear s2 e2 s5 e5 s6 S H
 rintro S H ⟨s2,e2,s5,s6⟩
 refine awp_cut (fun S H=>S 2 = .box 2 0∧H 2=some [.slice .nil [],.slice .nil []]∧S 5 = .ref (frontL s)∧S 7 = .box 7 0∧H 7=some [vI [],.slice .view ((bestL (betterE s) x l).map endA)]) ?_ ?_
 ·simp [s2,e2,s5,s6]
  refine ⟨_,by kernel_rfl,a98,by simp [boxy,boxy1],?_⟩
  simp [s2,e2,s5,s6,hsx]
 clear s2 e2 s5 s6 S H
 rintro S H ⟨s2,e2,s5,s7,e7⟩
 simp [s2,e2,s5,s7,e7,frontL,sheetL,spaces]
 refine ⟨_,by kernel_rfl,a87,by simp [boxy],?_⟩
 simp [s2,e2,s5,s7,e7,hit,hsz,aggT,hsx]
end Go.Proofs.Tryz
namespace Go.Proofs.Tram
def stepP (seen:Nat→Bool) (s:Nat×List (Nat×Nat)) (i:Nat):Nat×List (Nat×Nat):=if seen i=true then s else (i+1,if s.1 < i then s.2++[(s.1,i - 1)] else s.2)
def viewsP (seen:Nat→Bool) (n:Nat):List (Nat×Nat):=((List.range (n+1)).foldl (stepP seen) (0,[])).2
def stepR (seen:Nat→Bool) (out:List (Nat×Nat)) (c:Nat):List (Nat×Nat) :=
 if seen c=true then (if 0 < c∧seen (c - 1)=true then out.dropLast++[((out.getLast?.getD (0,0)).1,c)] else out++[(c,c)]) else out
theorem views_inv (seen:Nat→Bool) (n:Nat) :
  ((List.range n).foldl (stepP seen) (0,[])).1≤n∧(((List.range n).foldl (stepP seen) (0,[])).1 < n↔0 < n∧seen (n - 1)=true) ∧
   (List.range n).foldl (stepR seen) []=((List.range n).foldl (stepP seen) (0,[])).2++(if ((List.range n).foldl (stepP seen) (0,[])).1 < n then [(((List.range n).foldl (stepP seen) (0,[])).1,n - 1)] else []):=by
 induction n with
 |zero=>simp
 |succ n ih =>
  rw [List.range_succ,List.foldl_append,List.foldl_append]
  generalize (List.range n).foldl (stepP seen) (0,[])=s at *
  generalize (List.range n).foldl (stepR seen) []=r at *
  obtain ⟨h1,h2,h3⟩:=ih
  simp only [List.foldl_cons,List.foldl_nil,Nat.add_sub_cancel]
  cases hs:seen n with
  |true =>
   have e1:stepP seen s n=s:=by simp [stepP,hs]
   rw [e1]
   refine ⟨by omega,⟨fun _=>⟨by omega,by first | exact hs | rfl⟩,fun _=>by omega⟩,?_⟩
   rw [if_pos (by omega:s.1 < n+1)]
   unfold stepR
   rw [if_pos hs]
   by_cases hlt:s.1 < n
   ·rw [if_pos (h2.1 hlt),h3,if_pos hlt]
    simp
   ·have:s.1=n:=by omega
    rw [if_neg (fun h=>hlt (h2.2 h)),h3,if_neg hlt,List.append_nil,this]
  |false =>
   have e1:stepP seen s n=(n+1,if s.1 < n then s.2++[(s.1,n - 1)] else s.2):=by simp [stepP,hs]
   have e2:stepR seen r n=r:=by simp [stepR,hs]
   rw [e1,e2]
   refine ⟨Nat.le_refl _,by simp,?_⟩
   simp only [Nat.lt_irrefl,if_false,List.append_nil]
   rw [h3]
   split<;>simp
def eat:List Int→Int→Nat×Int
 |[],t=>(0,t)
 |x::l,t=>if x≤t then ((eat l (t - x)).1+1,(eat l (t - x)).2) else (0,t)
theorem eat_le:∀ (l:List Int) (t:Int),(eat l t).1≤l.length
 |[],_=>Nat.le_refl _
 |x::l,t=>by
  unfold eat
  split
  ·simpa using eat_le l (t - x)
  ·simp
theorem eat_split:∀ (l:List Int) (t:Int) (k:Nat),k≤(eat l t).1→eat l t=(k+(eat (l.drop k) (t - (l.take k).sum)).1,(eat (l.drop k) (t - (l.take k).sum)).2)
 |_,_,0,_=>by simp
 |[],t,k+1,h=>by simp [eat] at h
 |x::l,t,k+1,h=>by
  by_cases hx:x≤t
  ·have e:eat (x::l) t=((eat l (t - x)).1+1,(eat l (t - x)).2):=by rw [eat];rw [if_pos hx]
   rw [e] at h ⊢
   have:=eat_split l (t - x) k (by simpa using h)
   rw [this]
   simp only [List.drop_succ_cons,List.take_succ_cons,List.sum_cons]
   rw [show t - x - (l.take k).sum=t - (x+(l.take k).sum) by omega]
   ext<;>simp<;>omega
  ·rw [eat,if_neg hx] at h
   simp at h
def sumR (ride:Nat→Int) (a b:Nat):Int:=((List.range' a (b - a)).map ride).sum
theorem sumR_self (ride:Nat→Int) (a:Nat):sumR ride a a=0:=by simp [sumR]
def readV (needs:List Int) (ride:Nat→Int) (vs:List (Nat×Nat)):Nat:=vs.foldl (fun n v=>n+(eat (needs.drop n) (sumR ride v.1 (v.2+1))).1) 0
theorem readV_append (needs:List Int) (ride:Nat→Int) (l:List (Nat×Nat)) (v:Nat×Nat):readV needs ride (l++[v])=readV needs ride l+(eat (needs.drop (readV needs ride l)) (sumR ride v.1 (v.2+1))).1:=by
 unfold readV
 rw [List.foldl_append];rfl
end Go.Proofs.Tram
namespace Go.Proofs.Tram
theorem views_what (seen:Nat→Bool) (n:Nat) :
  (∀ v∈((List.range n).foldl (stepP seen) (0,[])).2,v.1≤v.2∧v.2+2≤((List.range n).foldl (stepP seen) (0,[])).1)∧(((List.range n).foldl (stepP seen) (0,[])).2).Pairwise (fun u v=>u.2+1 < v.1) ∧
   ∀ c,c < n→(seen c=true↔(∃ v∈((List.range n).foldl (stepP seen) (0,[])).2,v.1≤c∧c≤v.2)∨((List.range n).foldl (stepP seen) (0,[])).1≤c):=by
 induction n with
 |zero=>simp
 |succ n ih =>
  have hle:=(views_inv seen n).1
  rw [List.range_succ,List.foldl_append]
  generalize (List.range n).foldl (stepP seen) (0,[])=s at *
  simp only [List.foldl_cons,List.foldl_nil]
  obtain ⟨h1,h2,h3⟩:=ih
  cases hs:seen n with
  |true =>
   have e1:stepP seen s n=s:=by simp [stepP,hs]
   rw [e1]
   refine ⟨h1,h2,fun c hc => ?_⟩
   by_cases hcn:c=n
   ·subst hcn
    exact ⟨fun _ => .inr hle,fun _=>hs⟩
   ·exact h3 c (by omega)
  |false =>
   have e1:stepP seen s n=(n+1,if s.1 < n then s.2++[(s.1,n - 1)] else s.2):=by simp [stepP,hs]
   rw [e1]
   simp only
   by_cases hlt:s.1 < n
   ·rw [if_pos hlt]
    refine ⟨fun v hv => ?_,?_,fun c hc => ?_⟩
    ·rcases List.mem_append.1 hv with hv | hv
     ·have:=h1 v hv
      omega
     ·simp only [List.mem_singleton] at hv
      subst hv
      simp only
      omega
    ·rw [List.pairwise_append]
     refine ⟨h2,by simp,fun u hu v hv => ?_⟩
     simp only [List.mem_singleton] at hv
     subst hv
     have:=h1 u hu
     simp only
     omega
    ·by_cases hcn:c=n
     ·subst hcn
      rw [hs]
      refine ⟨fun h=>by (cases h),fun h => ?_⟩
      rcases h with ⟨v,hv,hv1,hv2⟩ | h
      ·rcases List.mem_append.1 hv with hv | hv
       ·have:=h1 v hv
        omega
       ·simp only [List.mem_singleton] at hv
        subst hv
        simp only at hv2
        omega
      ·omega
     ·rw [h3 c (by omega)]
      refine ⟨fun h => .inl ?_,fun h => ?_⟩
      ·rcases h with ⟨v,hv,hvc⟩ | h
       ·exact ⟨v,List.mem_append_left _ hv,hvc⟩
       ·exact ⟨(s.1,n - 1),by simp,h,by simp only;omega⟩
      ·rcases h with ⟨v,hv,hv1,hv2⟩ | h
       ·rcases List.mem_append.1 hv with hv | hv
        ·exact .inl ⟨v,hv,hv1,hv2⟩
        ·simp only [List.mem_singleton] at hv
         subst hv
         exact .inr hv1
       ·omega
   ·rw [if_neg hlt]
    refine ⟨fun v hv => ?_,h2,fun c hc => ?_⟩
    ·have:=h1 v hv
     omega
    ·by_cases hcn:c=n
     ·subst hcn
      rw [hs]
      refine ⟨fun h=>by (cases h),fun h => ?_⟩
      rcases h with ⟨v,hv,hv1,hv2⟩ | h
      ·have:=h1 v hv
       omega
      ·omega
     ·rw [h3 c (by omega)]
      refine ⟨fun h => ?_,fun h => ?_⟩
      ·rcases h with h | h
       ·exact .inl h
       ·omega
      ·rcases h with h | h
       ·exact .inl h
       ·omega
theorem views_ok {seen:Nat→Bool} {n:Nat} (hn:seen n=false):(∀ v∈viewsP seen n,v.1≤v.2∧v.2 < n)∧(viewsP seen n).Pairwise (fun u v=>u.2+1 < v.1)∧∀ c,c < n→(seen c=true↔∃ v∈viewsP seen n,v.1≤c∧c≤v.2):=by
 obtain ⟨h1,h2,h3⟩:=views_what seen (n+1)
 have hv:=views_inv seen (n+1)
 have h4:¬ ((List.range (n+1)).foldl (stepP seen) (0,[])).1 < n+1:=fun hl=>by
  have:=(hv.2.1.1 hl).2
  rw [Nat.add_sub_cancel,hn] at this
  cases this
 have h5:=hv.1
 unfold viewsP
 generalize (List.range (n+1)).foldl (stepP seen) (0,[])=s at *
 refine ⟨fun v hv => ?_,h2,fun c hc => ?_⟩
 ·have:=h1 v hv
  omega
 ·rw [h3 c (by omega)]
  refine ⟨fun h => ?_,fun h => .inl h⟩
  rcases h with h | h
  ·exact h
  ·omega
theorem readV_le (needs:List Int) (ride:Nat→Int) (vs:List (Nat×Nat)):readV needs ride vs≤needs.length:=by
 have main:∀ (r:List (Nat×Nat)),readV needs ride r.reverse≤needs.length:=by
  intro r
  induction r with
  |nil=>simp [readV]
  |cons v r ih =>
   rw [List.reverse_cons,readV_append]
   have:=eat_le (needs.drop (readV needs ride r.reverse)) (sumR ride v.1 (v.2+1))
   rw [List.length_drop] at this
   omega
 have:=main vs.reverse
 rwa [List.reverse_reverse] at this
end Go.Proofs.Tram
namespace Go.Proofs.Tram
theorem fold_unseen {seen:Nat→Bool}:∀ (k a:Nat) (out:List (Nat×Nat)),(∀ i,a≤i→i < a+k→seen i=false)→(List.range' a k).foldl (stepP seen) (a,out)=(a+k,out)
 |0,a,out,_=>rfl
 |k+1,a,out,h=>by
  rw [List.range'_succ,List.foldl_cons]
  have e:stepP seen (a,out) a=(a+1,out):=by simp [stepP,h a (Nat.le_refl _) (by omega)]
  rw [e,fold_unseen k (a+1) out (fun i h1 h2=>h i (by omega) (by omega))]
  congr 1;omega
theorem fold_seen {seen:Nat→Bool}:∀ (l:List Nat) (s:Nat×List (Nat×Nat)),(∀ i∈l,seen i=true)→l.foldl (stepP seen) s=s
 |[],_,_=>rfl
 |i::l,s,h=>by
  have e:stepP seen s i=s:=by simp [stepP,h i (by simp)]
  rw [List.foldl_cons,e]
  exact fold_seen l s fun j hj=>h j (List.mem_cons_of_mem _ hj)
theorem views_last {seen:Nat→Bool} {d n:Nat} (hd:d < n) (h:∀ i,i≤n→(seen i=true↔d≤i∧i < n)):viewsP seen n=[(d,n - 1)]:=by
 have hf:∀ i,i≤n→¬ (d≤i∧i < n)→seen i=false:=fun i hi hn=>by
  cases hs:seen i with
  |false=>rfl
  |true=>exact absurd ((h i hi).1 hs) hn
 unfold viewsP
 have hr:List.range (n+1)=List.range' 0 d++(List.range' d (n - d)++[n]):=by
  rw [List.range_eq_range',show n+1=d+(n - d+1) by omega,← List.range'_append_1,Nat.zero_add,List.range'_concat]
  congr 2
  congr 1
  omega
 rw [hr,List.foldl_append,fold_unseen d 0 [] (fun i h1 h2=>hf i (by omega) (by omega)),List.foldl_append,fold_seen (List.range' d (n - d)) _ (fun i hi=>(h i (by have:=List.mem_range'_1.1 hi;omega)).2 (by have:=List.mem_range'_1.1 hi;omega))]
 simp only [List.foldl_cons,List.foldl_nil,Nat.zero_add]
 unfold stepP
 rw [if_neg (by simp [hf n (Nat.le_refl _) (by omega)])]
 simp [hd]
theorem read_one (need:Int) (ride:Nat→Int) {d n:Nat} (hd:d < n):readV [need] ride [(d,n - 1)]=if need≤sumR ride d n then 1 else 0:=by
 unfold readV
 simp only [List.foldl_cons,List.foldl_nil,Nat.zero_add,List.drop_zero]
 rw [show n - 1+1=n by omega]
 unfold eat
 split<;>simp [eat]
theorem sumR_less (ride:Nat→Int) (hr:∀ i,0 < ride i) {a b n:Nat} (hab:a < b) (hbn:b≤n):sumR ride b n < sumR ride a n:=by
 have step:∀ k,k < n→sumR ride (k+1) n+ride k=sumR ride k n:=fun k hk=>by
  unfold sumR
  rw [show n - k=(n - (k+1))+1 by omega,List.range'_succ]
  simp only [List.map_cons,List.sum_cons]
  omega
 have main:∀ m,a+m+1≤n→sumR ride (a+m+1) n < sumR ride a n:=by
  intro m
  induction m with
  |zero =>
   intro h
   have:=step a (by omega)
   have:=hr a
   simp only [Nat.add_zero]
   omega
  |succ m ih =>
   intro h
   have h1:=ih (by omega)
   have h2:=step (a+m+1) (by omega)
   have h3:=hr (a+m+1)
   rw [show a+(m+1)+1=a+m+1+1 by omega]
   omega
 have:=main (b - a - 1) (by omega)
 rwa [show a+(b - a - 1)+1=b by omega] at this
end Go.Proofs.Tram
namespace Go.Proofs.Tryz
open Go.AL
def shortFits (s:Sheet) (n:Nat):Bool := !(goodS (lessS s (letsN s.words - n)) []).isEmpty
def overI (s:Sheet):Nat:=((List.range (letsN s.words)).find? (shortFits s)).getD (letsN s.words)
theorem over_at {s:Sheet} {n:Nat} (h:n < letsN s.words) (hp:shortFits s n=true) (hb:∀ j,j < n→shortFits s j=false):overI s=n:=by
 unfold overI
 have:(List.range (letsN s.words)).find? (shortFits s)=some n:=by
  rw [List.find?_range_eq_some]
  exact ⟨hp,List.mem_range.2 h,fun j hj=>by rw [hb j hj];rfl⟩
 rw [this];rfl
theorem over_all {s:Sheet} (hb:∀ j,j < letsN s.words→shortFits s j=false):overI s=letsN s.words:=by
 unfold overI
 have:(List.range (letsN s.words)).find? (shortFits s)=none:=by
  rw [List.find?_eq_none]
  intro j hj
  rw [hb j (List.mem_range.1 hj)];simp
 rw [this];rfl
theorem letsN_bound:∀ {l:List Word} {b:Nat},(∀ w∈l,w.signs.length≤b)→letsN l≤b * l.length
 |[],_,_=>by simp [letsN]
 |w::l,b,h=>by
  have h1:=h w List.mem_cons_self
  have h2:=letsN_bound (l:=l) (b:=b) fun x hx=>h x (List.mem_cons_of_mem _ hx)
  rw [letsN_cons,List.length_cons,Nat.mul_add];omega
theorem letsN_take {l:List Word} {i:Nat} (h:i < l.length):letsN (l.take (i+1))=letsN (l.take i)+l[i].signs.length:=by
 rw [List.take_succ_eq_append_getElem h,letsN_app]
 simp [letsN]
theorem letsN_sheet {s:Sheet} (hs:sheetI s=true):letsN s.words≤24:=by
 have h4:=(sheetF hs).words
 have:=letsN_bound (l:=s.words) (b:=6) fun w hw=>(wordF hs hw).len6
 omega
end Go.Proofs.Tryz
namespace Go.Proofs.Tryz
open Go Go.AL Go.RowKit Go.Proofs
variable {GI:World→Prop}
end Go.Proofs.Tryz
namespace Go.Proofs.Tryz
open Go Go.AL Go.RowKit Go.Proofs
attribute [local simp] awp_all qs_all ops_all dops_all ops_nil dops_nil ops_call ops_callv ops_alloc ops_box dops_call dops_alloc kO_eq kD_eq awanted apure ev Eff.S Eff.H tmpOf upd putD AL.start AV.dem AV.cells AV.storable AV.scells splice scrub abin loadA HR.okB post ares aress ares1 AV.out AV.isData ints_len ints_get fz fz1 AV.vw AV.vw1 boxy vI int undefA assignQ thenQ blockQ seqQ panQ prol prolH allocOf
variable {GI:World→Prop}
end Go.Proofs.Tryz
namespace Go.Proofs.Tryz
open Go Go.AL Go.RowKit Go.Proofs
attribute [local simp] awp_all qs_all ops_all dops_all ops_nil dops_nil ops_call ops_callv ops_alloc ops_box dops_call dops_alloc kO_eq kD_eq awanted apure ev Eff.S Eff.H tmpOf upd putD AL.start AV.dem AV.cells AV.storable AV.scells splice scrub abin loadA HR.okB post ares aress ares1 AV.out AV.isData ints_len ints_get fz fz1 AV.vw AV.vw1 boxy vI int undefA assignQ thenQ blockQ seqQ panQ prol prolH allocOf
variable {GI:World→Prop}
theorem ac65f (hG:Stable GI) (s:Sheet) (hs:Slim s) {L:Nat} (hL:L < 4611686018427387904):AC prog GI 65 [sheetA s,.int .i64 (L:Nat)] (.ret (sheetA (lessS s L))):=by
 have h:=ac65 hG (sA:=sheetL s) (ws:=s.words) (L:=L) rfl rfl (by
  intro x hx
  simp [sheetL] at hx
  rcases hx with rfl | rfl | rfl | rfl | rfl | rfl | rfl | rfl | rfl | rfl<;>rfl) (by have:=hs.words;omega) (fun w hw=>by have:=hs.signs w hw;have:=hs.cuts w hw;omega) hL
 have e:AV.agg (((sheetL s).set 7 (.slice .view ((shorterW s.words L).map wordA))).map AV.vw1)=sheetA (lessS s L):=by
  simp [sheetL,sheetA,lessS,vI,ints,AV.vw1]
 rw [e] at h
 exact h
def overO (s:Sheet):List AV:=if sheetI s then [.int .i64 (overI s:Nat),.int .i64 0] else [.int .i64 0,.int .i64 2]
set_option maxHeartbeats 2000000 in
theorem ac20 (hG:Stable GI) (s:Sheet) (hs:Slim s):AC prog GI 20 [sheetA s] (.ret (.tup (overO s))):=by
 unfold overO
 have a96:=ac47 hG s hs
 cases hsh:sheetI s with
 |false =>
  rw [hsh] at a96
  refine AC.of_body hG hmix func20 rfl ntmps20 (by simp) (ac:=c20) (by kernel_rfl) ?_
  refine awp_cut (fun S H=>S 1 = .box 1 0∧H 1=some (sheetL s)) (by simp [sheetA,sheetL]) ?_
  rintro S H ⟨s1,e1⟩
  simp [s1,e1,sheetL]
  refine ⟨_,by kernel_rfl,a96,fun _=>rfl,?_⟩
  simp
 |true =>
 rw [hsh] at a96
 rw [if_pos rfl]
 have hN:=letsN_sheet hsh
 obtain ⟨N,hNe⟩:∃ N,letsN s.words=N:=⟨_,rfl⟩
 have hover_at:=fun n (h:n < N) hp hb=>over_at (s:=s) (n:=n) (by omega) hp hb
 have hover_all:=over_all (s:=s)
 rw [hNe] at hover_all hN
 refine AC.of_body hG hmix func20 rfl ntmps20 (by simp) (ac:=c20) (by kernel_rfl) ?_
 refine awp_cut (fun S H=>S 1 = .box 1 0∧H 1=some (sheetL s)) (by simp [sheetA,sheetL]) ?_
 rintro S H ⟨s1,e1⟩
 refine awp_cut (fun S H=>S 1 = .box 1 0∧H 1=some (sheetL s)) ?_ ?_
 ·simp [s1,e1,sheetL]
  refine ⟨_,by kernel_rfl,a96,fun _=>rfl,?_⟩
  simp [s1,e1,sheetL]
 clear s1 e1 S H
 rintro S H ⟨s1,e1⟩
 refine awp_cut (fun S H=>S 1 = .box 1 0∧H 1=some (sheetL s)∧S 4 = .int .i64 0) (by simp [s1,e1]) ?_
 clear s1 e1 S H
 rintro S H ⟨s1,e1,s4⟩
 refine awp_cut (fun S H=>S 1 = .box 1 0∧H 1=some (sheetL s)∧S 4 = .int .i64 (N:Nat)) ?_ ?_
 ·simp [s1,e1,s4,sheetL]
  refine awp_loop 14 s.words.length (fun i S H=>S 1 = .box 1 0∧H 1=some (sheetL s)∧S 12 = .slice .view (s.words.map wordA)∧S 13 = .int .i64 s.words.length∧S 14 = .int .i64 (i:Nat)∧S 4 = .int .i64 (letsN (s.words.take i):Nat)) (fun i S H h=>h.2.2.2.2.1) ⟨by simp [s1],by simp [e1,sheetL],by simp,by simp,by simp,by simp [s4,letsN]⟩ ?_
  clear s1 e1 s4 S H
  rintro i hi S H ⟨s1,e1,s12,s13,s14,s4⟩
  by_cases hlt:i < s.words.length
  case neg =>
   have hil:i=s.words.length:=by omega
   subst hil
   rw [List.take_of_length_le (Nat.le_refl _),hNe] at s4
   simp [s1,e1,s12,s13,s14,s4,sheetL]
  have hw4:=(sheetF hsh).words
  have hw:IntKind.i64.wrap ((i:Int)+1)=i+1:=wrapI (by omega)
  have hbi:letsN (s.words.take i)≤24:=by
   have:=letsN_bound (l:=s.words.take i) (b:=6) fun w hw=>(wordF hsh (List.mem_of_mem_take hw)).len6
   rw [List.length_take] at this
   omega
  have hsi:=(wordF hsh (List.getElem_mem hlt)).len6
  rw [letsN_take hlt]
  generalize letsN (s.words.take i)=m at *
  have hwm:IntKind.i64.wrap ((m:Int)+(s.words[i].signs.length:Int))=(m:Int)+(s.words[i].signs.length:Int):=wrapI (by omega)
  simp [s1,e1,s12,s13,s14,s4,hlt,wordA,hw,hwm,sheetL]
 clear s1 e1 s4 S H
 rintro S H ⟨s1,e1,s4⟩
 simp [s1,e1,s4]
 refine awp_loop 25 N (fun n S H=>S 1 = .box 1 0∧H 1=some (sheetL s)∧S 4 = .int .i64 (N:Nat)∧S 24 = .int .i64 (N:Nat)∧S 25 = .int .i64 (n:Nat)∧∀ j,j < n→shortFits s j=false) (fun i S H h=>h.2.2.2.2.1) ⟨by simp [s1],by simp [e1],by simp [s4],by simp,by simp,fun j h=>absurd h (Nat.not_lt_zero _)⟩ ?_
 clear s1 e1 s4 S H
 rintro n hn S H ⟨s1,e1,s4,s24,s25,hb⟩
 by_cases hlt:n < N
 case neg =>
  have hnl:n=N:=by omega
  subst hnl
  rw [hover_all hb]
  simp [s1,e1,s4,s24,s25]
 have hw:IntKind.i64.wrap ((n:Int)+1)=n+1:=wrapI (by omega)
 have hws:IntKind.i64.wrap ((N:Int) - (n:Int))=(N - n:Nat):=by rw [wrapI (by omega)];omega
 have a110:=ac65f hG s hs (L:=N - n) (by omega)
 have hxs:=lessS_sheet hsh (k:=N - n) (by omega)
 have a80:=ac48f hG (lessS s (N - n)) hxs
 have a107:=ac66f hG (lessS s (N - n)) hxs [] (by simp) (outI_nil hxs)
 have hp:shortFits s n = !(goodS (lessS s (N - n)) []).isEmpty:=by unfold shortFits;rw [hNe]
 rw [← hp] at a107
 simp [s1,e1,s4,s24,s25,hlt,sheetL,hws]
 refine ⟨_,by kernel_rfl,a110,by simp [boxy],?_⟩
 simp [s1,e1,s4,s24,s25,hlt,sheetA,sheetL]
 refine ⟨_,by kernel_rfl,a80,by simp [boxy],?_⟩
 simp [s1,e1,s4,s24,s25,hlt,frontA,frontL,sheetL,spaces]
 refine ⟨_,by kernel_rfl,a107,by simp [boxy],?_⟩
 cases hf:shortFits s n
 ·simp [s1,e1,s4,s24,s25,hlt,hw]
  refine ⟨rfl,?_⟩
  intro j hj
  rcases Nat.lt_or_ge j n with h | h
  ·exact hb j h
  ·rw [show j=n by omega];exact hf
 ·rw [hover_at n hlt hf hb]
  simp [s1,e1,s4,s24,s25,hlt]
end Go.Proofs.Tryz
namespace Go.Proofs.Coat
structure Shop where
 low:List Int
 high:List Int
 work:List Nat
 need:List Int
 peel:List Int
def sumD (l:List Int) (a b:Nat):Int:=((l.drop a).take (b - a)).sum
def shopA:Shop:=⟨[6,4,8,2,6,5,8,4],[8,6,10,4,6,9,12,4],[0,2,3,5,6],[9,10,8],[20,20,30]⟩
end Go.Proofs.Coat
namespace Go.Proofs.Coat
open Go.Proofs.Tram
theorem sumD_cons (l:List Int) {a:Nat} (h:a < l.length):sumD l a l.length=l[a]+sumD l (a+1) l.length:=by
 unfold sumD
 rw [List.take_of_length_le (by simp),List.take_of_length_le (by simp),List.drop_eq_getElem_cons h,List.sum_cons]
theorem sumD_sumR (l:List Int) {ride:Nat→Int} (hr:∀ i (h:i < l.length),ride i=l[i]):∀ k a,a+k=l.length→sumD l a l.length=sumR ride a l.length
 |0,a,h=>by
  have:a=l.length:=by omega
  subst this
  rw [sumR_self]
  simp [sumD]
 |k+1,a,h=>by
  rw [sumD_cons l (by omega),sumD_sumR l hr k (a+1) (by omega)]
  unfold sumR
  rw [show l.length - a=(l.length - (a+1))+1 by omega,List.range'_succ]
  simp only [List.map_cons,List.sum_cons]
  rw [hr a (by omega)]
theorem last_filter (p:Nat→Bool):∀ n,(∀ d,d < n→p d=false)∧(List.range n).filter p=[]∨∃ m l,(List.range n).filter p=l++[m]∧m < n∧p m=true∧(∀ d,m < d→d < n→p d=false)∧∀ d∈l,d < m
 |0 => .inl ⟨fun d h=>by omega,rfl⟩
 |n+1=>by
  rw [List.range_succ,List.filter_append]
  cases hp:p n with
  |true =>
   refine .inr ⟨n,(List.range n).filter p,by simp [hp],by omega,hp,fun d h1 h2=>by omega,fun d hd => ?_⟩
   exact List.mem_range.1 (List.mem_filter.1 hd).1
  |false =>
   have e:[n].filter p=[]:=by simp [hp]
   rw [e,List.append_nil]
   rcases last_filter p n with ⟨h1,h2⟩ | ⟨m,l,h1,h2,h3,h4,h5⟩
   ·refine .inl ⟨fun d hd => ?_,h2⟩
    by_cases hdn:d=n
    ·rw [hdn];exact hp
    ·exact h1 d (by omega)
   ·refine .inr ⟨m,l,h1,by omega,h3,fun d hd1 hd2 => ?_,h5⟩
    by_cases hdn:d=n
    ·rw [hdn];exact hp
    ·exact h4 d hd1 (by omega)
theorem waits {lo:List Int} {ride:Nat→Int} (hpos:∀ i,0 < ride i) (hr:∀ i (h:i < lo.length),ride i=lo[i]) (hn:0 < lo.length) (need:Int) :
  ((∀ d,d < lo.length→¬ need≤sumD lo d lo.length)∧(List.range lo.length).filter (fun d=>decide (need≤sumD lo d lo.length))=[]∧¬ need≤sumR ride 0 lo.length∧∀ r,1≤r→¬ need≤sumR ride (lo.length - r) lo.length) ∨
   ∃ late l,(List.range lo.length).filter (fun d=>decide (need≤sumD lo d lo.length))=l++[late]∧late < lo.length∧(∀ d∈l,d < late)∧need≤sumR ride 0 lo.length ∧
    need≤sumR ride (lo.length - (lo.length - late)) lo.length∧∀ r,1≤r→r < lo.length - late→¬ need≤sumR ride (lo.length - r) lo.length:=by
 have hs:∀ d,d≤lo.length→sumD lo d lo.length=sumR ride d lo.length:=fun d hd=>sumD_sumR lo hr (lo.length - d) d (by omega)
 have hmono:∀ a b,a≤b→b≤lo.length→sumR ride b lo.length≤sumR ride a lo.length:=fun a b hab hb=>by
  rcases Nat.lt_or_ge a b with h | h
  ·exact Int.le_of_lt (sumR_less ride hpos h hb)
  ·rw [show a=b by omega];exact Int.le_refl _
 rcases last_filter (fun d=>decide (need≤sumD lo d lo.length)) lo.length with ⟨h1,h2⟩ | ⟨m,l,h1,h2,h3,h4,h5⟩
 ·have h1':∀ d,d < lo.length→¬ need≤sumD lo d lo.length:=fun d hd=>by simpa using h1 d hd
  refine .inl ⟨h1',h2,by rw [← hs 0 (by omega)];exact h1' 0 hn,fun r hr1 => ?_⟩
  rw [← hs _ (by omega)]
  exact h1' _ (by omega)
 ·have h3':need≤sumR ride m lo.length:=by rw [← hs m (by omega)];simpa using h3
  refine .inr ⟨m,l,h1,h2,h5,Int.le_trans h3' (hmono 0 m (by omega) (by omega)),by rw [show lo.length - (lo.length - m)=m by omega];exact h3',fun r hr1 hr2 => ?_⟩
  rw [← hs _ (by omega)]
  simpa using h4 (lo.length - r) (by omega) (by omega)
end Go.Proofs.Coat
