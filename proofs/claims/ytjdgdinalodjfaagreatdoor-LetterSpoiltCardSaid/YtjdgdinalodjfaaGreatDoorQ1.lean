/-
  A part of the proof: Q0 Q1 Q2 Q3 Q4 Q5 L2 L3 L4 L5 L6 L7 L8 L26 Q6 Q7 Q8 Q9 Q10 Q12 Q13 Q14 Q15 Q16 Q17 Q18 Q19 Q20 Q21 Q22 L9 Q23 Q24 Q25 Q26 Q27 L20 Q29 L10 L11 L12 Q33 Q32 L13 L14 L15 L16 L17 L18 L25 Q36 Q37 Q38 Q39 Q40 L21 L22 L23 L24 L29 Q50 Q51 Q52 Q53 Q54 Q55 Q56 Q57 Q58 Q59 L30 Q68 Q69 Q60 Q61 Q62 L31.
-/
import Derived.Lib.AppendIntMem
import Derived.Test.YtjdgdinalodjfaaGreatDoorA2
import Derived.Test.YtjdgdinalodjfaaGreatDoorK1
import Derived.Test.YtjdgdinalodjfaaGreatDoorK2
import Derived.Test.YtjdgdinalodjfaaGreatDoorK3
set_option linter.all false
set_option linter.unusedVariables false
set_option linter.unusedSimpArgs false
set_option linter.deprecated false
namespace Go.AL
section
variable {P:Program} {GI:World→Prop}
def kO (P:Program) (GI:World→Prop) (rest:List AOpr) (K:Slots→Boxes→Prop) (Qp:AV→Prop) (S:Slots) (dst:Option Nat) (H:Boxes) (v:AV):Prop:=aops P GI rest K Qp (putD S dst v) H
def kD (P:Program) (GI:World→Prop) (rest:List AOpr) (K:Slots→Boxes→Prop) (S:Slots) (dst:Option Nat) (H:Boxes) (v:AV):Prop:=dops P GI rest K (putD S dst v) H
def seqQ (P:Program) (GI:World→Prop) (y:ACode) (Q:AExit→Slots→Boxes→Prop) (e:AExit) (S:Slots) (H:Boxes):Prop:=thenQ (awp P GI y Q) Q e S H
def panQ (Q:AExit→Slots→Boxes→Prop) (S:Slots) (H:Boxes) (v:AV):Prop:=Q (.panic v) S H
theorem ops_nil (K Qp S H):aops P GI [] K Qp S H=K S H:=(Eq.refl _).trans (Eq.refl _)
theorem dops_nil (K S H):dops P GI [] K S H=K S H:=(Eq.refl _).trans (Eq.refl _)
theorem ops_call (f args d g rest K Qp S H):aops P GI (⟨d,g,.call f args⟩::rest) K Qp S H=(match awanted S g with
  |some true=>acall P GI f (args.map fun y=>fz H (ev S y)) (args.any fun y=>boxy (ev S y)) (kO P GI rest K Qp S d H) Qp
  |some false=>aops P GI rest K Qp (putD S d undefA) H
  |none=>False):=(Eq.refl _).trans (Eq.refl _)
theorem ops_callv (f args d g rest K Qp S H):aops P GI (⟨d,g,.callv f args⟩::rest) K Qp S H=(match awanted S g with
  |some true=>(match ev S f with
   |.func (.func k) first cap=>acall P GI k ((first++args.map (ev S)++cap).map (fz H)) ((first++args.map (ev S)++cap).any boxy) (kO P GI rest K Qp S d H) Qp
   |_=>False)
  |some false=>aops P GI rest K Qp (putD S d undefA) H
  |none=>False):=(Eq.refl _).trans (Eq.refl _)
abbrev OE (P:Program) (GI:World→Prop) (op:AOp):Prop:=∀ d g rest K Qp S H,aops P GI (⟨d,g,op⟩::rest) K Qp S H=(match awanted S g with | some true=>(match apure S H op with | some e=>aops P GI rest K Qp (e.S S d) (e.H H) | none=>False) | some false=>aops P GI rest K Qp (putD S d undefA) H | none=>False)
abbrev DE (P:Program) (GI:World→Prop) (op:AOp):Prop:=∀ d g rest K S H,dops P GI (⟨d,g,op⟩::rest) K S H=(match awanted S g with | some true=>(match apure S H op with | some e=>dops P GI rest K (e.S S d) (e.H H) | none=>False) | some false=>dops P GI rest K (putD S d undefA) H | none=>False)
theorem ops_alloc (t zero d rest K Qp S H):aops P GI (⟨some d,none,.alloc t zero⟩::rest) K Qp S H=aops P GI rest K Qp (upd (fun t=>scrub d (S t)) d (.box d 0)) (upd H d (some zero)):=(Eq.refl _).trans (Eq.refl _)
theorem ops_box (t size x d rest K Qp S H):aops P GI (⟨some d,none,.box t size x⟩::rest) K Qp S H=((ev S x).cells.length=size∧(ev S x).storable=true∧aops P GI rest K Qp (upd (fun t=>scrub d (S t)) d (.box d 0)) (upd H d (some ((ev S x).cells.map AV.dem)))):=(Eq.refl _).trans (Eq.refl _)
theorem dops_call (f args d g rest K S H):dops P GI (⟨d,g,.call f args⟩::rest) K S H=(match awanted S g with
  |some true=>(args.any fun y=>boxy (ev S y))=false∧acall P GI f (args.map fun y=>fz H (ev S y)) (args.any fun y=>boxy (ev S y)) (kD P GI rest K S d H) (fun _=>False)
  |some false=>dops P GI rest K (putD S d undefA) H
  |none=>False):=(Eq.refl _).trans (Eq.refl _)
theorem dops_alloc (t zero d rest K S H):dops P GI (⟨some d,none,.alloc t zero⟩::rest) K S H=dops P GI rest K (upd S d (.box d 0)) H:=(Eq.refl _).trans (Eq.refl _)
theorem kO_eq (rest K Qp S d H v):kO P GI rest K Qp S d H v=aops P GI rest K Qp (putD S d v) H:=(Eq.refl _).trans (Eq.refl _)
theorem kD_eq (rest K S d H v):kD P GI rest K S d H v=dops P GI rest K (putD S d v) H:=(Eq.refl _).trans (Eq.refl _)
theorem ops_all :
  (∀ x0 x1,OE P GI (.mv x0 x1)) ∧
  (∀ x0 x1 x2,OE P GI (.pick x0 x1 x2)) ∧
  (∀ x0 x1,OE P GI (.build x0 x1)) ∧
  (∀ x0 x1 x2 x3,OE P GI (.buildSlice x0 x1 x2 x3)) ∧
  (∀ x0 x1 x2 x3,OE P GI (.load x0 x1 x2 x3)) ∧
  (∀ x0 x1,OE P GI (.loadT x0 x1)) ∧
  (∀ x0 x1 x2 x3,OE P GI (.store x0 x1 x2 x3)) ∧
  (∀ x0 x1 x2,OE P GI (.bin x0 x1 x2)) ∧
  (∀ x0 x1 x2,OE P GI (.eqB x0 x1 x2)) ∧
  (∀ x0 x1 x2 x3,OE P GI (.eqs x0 x1 x2 x3)) ∧
  (∀ x0 x1 x2 x3 x4,OE P GI (.indexA x0 x1 x2 x3 x4)) ∧
  (∀ x0,OE P GI (.bstr x0)) ∧
  (∀ x0,OE P GI (.buildF x0)) ∧
  (∀ x0 x1 x2,OE P GI (.indexF x0 x1 x2)) ∧
  (∀ x0 x1 x2 x3,OE P GI (.lookup x0 x1 x2 x3)) ∧
  (∀ x0,OE P GI (.not x0)) ∧
  (∀ x0 x1,OE P GI (.conv x0 x1)) ∧
  (∀ x0 x1,OE P GI (.iface x0 x1)) ∧
  (∀ x0 x1 x2,OE P GI (.mkf x0 x1 x2)) ∧
  (∀ x0 x1 x2,OE P GI (.sliceS x0 x1 x2)) ∧
  (∀ x0 x1 x2 x3,OE P GI (.sliceL x0 x1 x2 x3)) ∧
  (∀ x0 x1,OE P GI (.sliceR x0 x1)) ∧
  (∀ x0 x1,OE P GI (.fieldAddr x0 x1)) ∧
  (∀ x0 x1 x2,OE P GI (.indexAddr x0 x1 x2)) ∧
  (∀ x0 x1,OE P GI (.indexS x0 x1)) ∧
  (∀ x0 x1,OE P GI (.extract x0 x1)) ∧
  (∀ x0,OE P GI (.lenS x0)) ∧
  (∀ x0,OE P GI (.lenL x0)) ∧
  (∀ x0 x1,OE P GI (.isNil x0 x1)) ∧
  (∀ x0,OE P GI (.empty x0)) ∧
  (∀ x0 x1 x2 x3 x4 x5,OE P GI (.append x0 x1 x2 x3 x4 x5)) ∧
  (∀ x0 x1,OE P GI (.max x0 x1)) ∧
  (∀ x0 x1,OE P GI (.min x0 x1)) ∧
  (∀ x0 x1 x2,OE P GI (.assert x0 x1 x2)):=by
 refine ⟨?_,?_,?_,?_,?_,?_,?_,?_,?_,?_,?_,?_,?_,?_,?_,?_,?_,?_,?_,?_,?_,?_,?_,?_,?_,?_,?_,?_,?_,?_,?_,?_,?_,?_⟩<;>intros<;>intro d<;>intros<;>rfl
theorem dops_all :
  (∀ x0 x1,DE P GI (.mv x0 x1)) ∧
  (∀ x0 x1 x2,DE P GI (.pick x0 x1 x2)) ∧
  (∀ x0 x1,DE P GI (.build x0 x1)) ∧
  (∀ x0 x1 x2 x3,DE P GI (.buildSlice x0 x1 x2 x3)) ∧
  (∀ x0 x1 x2 x3,DE P GI (.load x0 x1 x2 x3)) ∧
  (∀ x0 x1,DE P GI (.loadT x0 x1)) ∧
  (∀ x0 x1 x2 x3,DE P GI (.store x0 x1 x2 x3)) ∧
  (∀ x0 x1 x2,DE P GI (.bin x0 x1 x2)) ∧
  (∀ x0 x1 x2,DE P GI (.eqB x0 x1 x2)) ∧
  (∀ x0 x1 x2 x3,DE P GI (.eqs x0 x1 x2 x3)) ∧
  (∀ x0 x1 x2 x3 x4,DE P GI (.indexA x0 x1 x2 x3 x4)) ∧
  (∀ x0,DE P GI (.bstr x0)) ∧
  (∀ x0,DE P GI (.buildF x0)) ∧
  (∀ x0 x1 x2,DE P GI (.indexF x0 x1 x2)) ∧
  (∀ x0 x1 x2 x3,DE P GI (.lookup x0 x1 x2 x3)) ∧
  (∀ x0,DE P GI (.not x0)) ∧
  (∀ x0 x1,DE P GI (.conv x0 x1)) ∧
  (∀ x0 x1,DE P GI (.iface x0 x1)) ∧
  (∀ x0 x1 x2,DE P GI (.mkf x0 x1 x2)) ∧
  (∀ x0 x1 x2,DE P GI (.sliceS x0 x1 x2)) ∧
  (∀ x0 x1 x2 x3,DE P GI (.sliceL x0 x1 x2 x3)) ∧
  (∀ x0 x1,DE P GI (.sliceR x0 x1)) ∧
  (∀ x0 x1,DE P GI (.fieldAddr x0 x1)) ∧
  (∀ x0 x1 x2,DE P GI (.indexAddr x0 x1 x2)) ∧
  (∀ x0 x1,DE P GI (.indexS x0 x1)) ∧
  (∀ x0 x1,DE P GI (.extract x0 x1)) ∧
  (∀ x0,DE P GI (.lenS x0)) ∧
  (∀ x0,DE P GI (.lenL x0)) ∧
  (∀ x0 x1,DE P GI (.isNil x0 x1)) ∧
  (∀ x0,DE P GI (.empty x0)) ∧
  (∀ x0 x1 x2 x3 x4 x5,DE P GI (.append x0 x1 x2 x3 x4 x5)) ∧
  (∀ x0 x1,DE P GI (.max x0 x1)) ∧
  (∀ x0 x1,DE P GI (.min x0 x1)) ∧
  (∀ x0 x1 x2,DE P GI (.assert x0 x1 x2)):=by
 refine ⟨?_,?_,?_,?_,?_,?_,?_,?_,?_,?_,?_,?_,?_,?_,?_,?_,?_,?_,?_,?_,?_,?_,?_,?_,?_,?_,?_,?_,?_,?_,?_,?_,?_,?_⟩<;>intros<;>intro d<;>intros<;>rfl
theorem awp_all :
  (∀ Q S H,awp P GI .skip Q S H=Q .normal S H) ∧
  (∀ l Q S H,awp P GI (.ops l) Q S H=aops P GI l (Q .normal) (panQ Q S H) S H) ∧
  (∀ l Q S H,awp P GI (.dops l) Q S H=dops P GI l (Q .normal) (prol l S) (prolH l H)) ∧
  (∀ x y Q S H,awp P GI (.seq x y) Q S H=awp P GI x (seqQ P GI y Q) S H) ∧
  (∀ c x y Q S H,awp P GI (.cond c x y) Q S H=(match ev S c with
   |.bool true=>awp P GI x Q S H
   |.bool false=>awp P GI y Q S H
   |.anyb=>awp P GI x Q S H∧awp P GI y Q S H
   |_=>False)) ∧
  (∀ id c Q S H,awp P GI (.block id c) Q S H=awp P GI c (blockQ id Q) S H) ∧
  (∀ id Q S H,awp P GI (.exit id) Q S H=Q (.exit id) S H) ∧
  (∀ Q S H,awp P GI .ret Q S H=Q .ret S H) ∧
  (∀ y Q S H,seqQ P GI y Q .normal S H=awp P GI y Q S H) ∧
  (∀ y Q id S H,seqQ P GI y Q (.exit id) S H=Q (.exit id) S H) ∧
  (∀ y Q S H,seqQ P GI y Q .ret S H=Q .ret S H) ∧
  (∀ y Q v S H,seqQ P GI y Q (.panic v) S H=Q (.panic v) S H):=by
 refine ⟨?_,?_,?_,?_,?_,?_,?_,?_,?_,?_,?_,?_⟩<;>intros<;>rfl
theorem qs_all :
  (∀ id Q S H,blockQ id Q .normal S H=Q .normal S H) ∧
  (∀ id j Q S H,blockQ id Q (.exit j) S H=if j=id then Q .normal S H else Q (.exit j) S H) ∧
  (∀ id Q S H,blockQ id Q .ret S H=Q .ret S H) ∧
  (∀ id Q v S H,blockQ id Q (.panic v) S H=Q (.panic v) S H) ∧
  (∀ K Q S H,thenQ K Q .normal S H=K S H) ∧
  (∀ K Q id S H,thenQ K Q (.exit id) S H=Q (.exit id) S H) ∧
  (∀ K Q S H,thenQ K Q .ret S H=Q .ret S H) ∧
  (∀ K Q v S H,thenQ K Q (.panic v) S H=Q (.panic v) S H) ∧
  (∀ K S H,assignQ K .normal S H=K S H) ∧
  (∀ K id S H,assignQ K (.exit id) S H=False) ∧
  (∀ K S H,assignQ K .ret S H=False) ∧
  (∀ K v S H,assignQ K (.panic v) S H=False) ∧
  (∀ Q S H v,panQ Q S H v=Q (.panic v) S H) ∧
  (∀ v K Qp,onOut (.ret v) K Qp=K v) ∧
  (∀ v K Qp,onOut (.panic v) K Qp=Qp v):=by
 refine ⟨?_,?_,?_,?_,?_,?_,?_,?_,?_,?_,?_,?_,?_,?_,?_⟩<;>intros<;>rfl
end
section
variable {P:Program} {GI:World→Prop}
theorem acall_mono {f:Nat} {args:List AV} {b:Bool} {K K':AV→Prop} {Qp Qp':AV→Prop} (hK:∀ v,K v→K' v) (hQ:∀ v,Qp v→Qp' v) (h:acall P GI f args b K Qp):acall P GI f args b K' Qp':=by
 obtain ⟨out,h1,h2,h3,h4⟩:=h
 refine ⟨out,h1,h2,h3,?_⟩
 cases out with
 |ret v=>exact hK _ h4
 |panic v=>exact hQ _ h4
theorem astep_mono {op:AOp} {dst:Option Nat} {K K':Slots→Boxes→Prop} {Qp Qp':AV→Prop} (hK:∀ S H,K S H→K' S H) (hQ:∀ v,Qp v→Qp' v) {S:Slots} {H:Boxes} (h:astep P GI op dst K Qp S H):astep P GI op dst K' Qp' S H:=by
 by_cases hc:op.calm=true
 ·rw [astep_calm hc] at h ⊢
  split at h
  ·exact hK _ _ h
  ·exact h
 ·cases op<;>first | (exfalso;exact hc rfl) | skip
  case alloc=>simp only [astep] at h ⊢;split at h<;>first | exact hK _ _ h | exact h
  case box=>simp only [astep] at h ⊢;split at h<;>first | exact ⟨h.1,h.2.1,hK _ _ h.2.2⟩ | exact h
  case call=>exact acall_mono (fun v=>hK _ _) hQ h
  case callv=>simp only [astep] at h ⊢;split at h<;>first | exact acall_mono (fun v=>hK _ _) hQ h | exact h
  case panic=>simp only [astep] at h ⊢;split at h<;>first | exact hQ _ h | exact h
  case other=>exact h
theorem aops_mono {K K':Slots→Boxes→Prop} {Qp Qp':AV→Prop} (hK:∀ S H,K S H→K' S H) (hQ:∀ v,Qp v→Qp' v):∀ (l:List AOpr) (S:Slots) (H:Boxes),aops P GI l K Qp S H→aops P GI l K' Qp' S H
 |[],S,H,h=>hK S H h
 |o::rest,S,H,h=>by
  simp only [aops] at h ⊢
  split at h
  ·exact astep_mono (fun S H=>aops_mono hK hQ rest S H) hQ h
  ·exact aops_mono hK hQ rest _ _ h
  ·exact h
theorem dstep_mono {op:AOp} {dst:Option Nat} {K K':Slots→Boxes→Prop} (hK:∀ S H,K S H→K' S H) {S:Slots} {H:Boxes} (h:dstep P GI op dst K S H):dstep P GI op dst K' S H:=by
 cases op
 case alloc=>simp only [dstep] at h ⊢;split at h<;>first | exact hK _ _ h | exact h
 case call=>exact ⟨h.1,astep_mono hK (fun _ h=>h) h.2⟩
 case callv=>exact ⟨h.1,astep_mono hK (fun _ h=>h) h.2⟩
 case box=>exact h.elim
 case panic=>exact h.elim
 case other=>exact h.elim
 all_goals
  simp only [dstep] at h ⊢
  exact astep_mono hK (fun _ h=>h) h
theorem dops_mono {K K':Slots→Boxes→Prop} (hK:∀ S H,K S H→K' S H):∀ (l:List AOpr) (S:Slots) (H:Boxes),dops P GI l K S H→dops P GI l K' S H
 |[],S,H,h=>hK S H h
 |o::rest,S,H,h=>by
  simp only [dops] at h ⊢
  split at h
  ·exact dstep_mono (fun S H=>dops_mono hK rest S H) h
  ·exact dops_mono hK rest _ _ h
  ·exact h
theorem thenQ_mono {K K':Slots→Boxes→Prop} {Q Q':AExit→Slots→Boxes→Prop} (hK:∀ S H,K S H→K' S H) (h:∀ e S H,Q e S H→Q' e S H) (e:AExit) (S:Slots) (H:Boxes) (hq:thenQ K Q e S H):thenQ K' Q' e S H:=by
 cases e with
 |normal=>exact hK S H hq
 |exit id=>exact h _ S H hq
 |ret=>exact h _ S H hq
 |panic v=>exact h _ S H hq
theorem awp_mono:∀ (c:ACode) {Q Q':AExit→Slots→Boxes→Prop} (_:∀ e S H,Q e S H→Q' e S H) {S:Slots} {H:Boxes},awp P GI c Q S H→awp P GI c Q' S H
 |.skip,_,_,h,_,_,hq=>h _ _ _ hq
 |.ops l,_,_,h,_,_,hq=>aops_mono (fun S H=>h _ S H) (fun v=>h _ _ _) l _ _ hq
 |.dops l,_,_,h,_,_,hq=>dops_mono (fun S H=>h _ S H) l _ _ hq
 |.seq x y,_,_,h,_,_,hq=>awp_mono x (thenQ_mono (fun _ _=>awp_mono y h) h) hq
 |.cond c x y,_,_,h,S,H,hq=>by
  simp only [awp] at hq ⊢
  split at hq
  ·exact awp_mono x h hq
  ·exact awp_mono y h hq
  ·exact ⟨awp_mono x h hq.1,awp_mono y h hq.2⟩
  ·exact hq
 |.block id c,Q,Q',h,_,_,hq=>awp_mono c (fun e S H hb=>by
   cases e with
   |normal=>exact h _ S H hb
   |exit j =>
    by_cases hj:j=id
    ·simp only [blockQ,if_pos hj] at hb ⊢;exact h _ S H hb
    ·simp only [blockQ,if_neg hj] at hb ⊢;exact h _ S H hb
   |ret=>exact h _ S H hb
   |panic v=>exact h _ S H hb) hq
 |.loop c,_,_,h,_,_,⟨I,μ,h0,hi⟩=>⟨I,μ,h0,fun S H hI=>awp_mono c (thenQ_mono (fun _ _ h=>h) h) (hi S H hI)⟩
 |.exit id,_,_,h,_,_,hq=>h _ _ _ hq
 |.ret,_,_,h,_,_,hq=>h _ _ _ hq
 |.bad,_,_,_,_,_,hq=>hq
theorem awp_cut {x y:ACode} {Q:AExit→Slots→Boxes→Prop} {S:Slots} {H:Boxes} (K:Slots→Boxes→Prop) (hx:awp P GI x (assignQ K) S H) (hy:∀ S' H',K S' H'→awp P GI y Q S' H'):awp P GI (.seq x y) Q S H:=by
 refine awp_mono x (fun e S H h => ?_) hx
 cases e with
 |normal=>exact hy S H h
 |exit id=>exact h.elim
 |ret=>exact h.elim
 |panic v=>exact h.elim
theorem awp_go {c:Opd} {y z:ACode} {Q:AExit→Slots→Boxes→Prop} {S:Slots} {H:Boxes} (h:ev S c = .bool true) (hy:awp P GI y Q S H):awp P GI (.seq (.cond c .skip z) y) Q S H:=by
 simp only [awp,h];exact hy
theorem awp_go2 {c:Opd} {y z:ACode} {Q:AExit→Slots→Boxes→Prop} {S:Slots} {H:Boxes} (h:ev S c = .bool false) (hy:awp P GI y Q S H):awp P GI (.seq (.cond c z .skip) y) Q S H:=by
 simp only [awp,h];exact hy
theorem awp_in {id:Nat} {c y:ACode} {Q:AExit→Slots→Boxes→Prop} {S:Slots} {H:Boxes} (h:awp P GI c (blockQ id (seqQ P GI y Q)) S H):awp P GI (.seq (.block id c) y) Q S H:=h
theorem awp_cut2 {x y z:ACode} {Q:AExit→Slots→Boxes→Prop} {S:Slots} {H:Boxes} (K:Slots→Boxes→Prop) (hx:awp P GI x (assignQ K) S H) (hy:∀ S' H',K S' H'→awp P GI (.seq y z) Q S' H'):awp P GI (.seq (.seq x y) z) Q S H:=by
 refine awp_mono x (fun e S H h => ?_) hx
 cases e with
 |normal =>
  refine awp_mono y (fun e S H h => ?_) (hy S H h)
  cases e<;>exact h
 |exit id=>exact h.elim
 |ret=>exact h.elim
 |panic v=>exact h.elim
theorem awp_loop {c:ACode} {Q:AExit→Slots→Boxes→Prop} {S:Slots} {H:Boxes} (t n:Nat) (I:Nat→Slots→Boxes→Prop) (hix:∀ i S H,I i S H→S t = .int .i64 (i:Nat)) (h0:I 0 S H)
  (hs:∀ i,i≤n→∀ S H,I i S H→awp P GI c (thenQ (fun S' H'=>i < n∧I (i+1) S' H') Q) S H):awp P GI (.loop c) Q S H:=by
 refine ⟨fun S H=>∃ i,i≤n∧I i S H,fun S _=>match S t with | .int _ k=>n - k.toNat | _=>0,⟨0,Nat.zero_le _,h0⟩,?_⟩
 rintro S H ⟨i,hi,hI⟩
 refine awp_mono c (thenQ_mono (fun S' H' h => ?_) (fun _ _ _ h=>h)) (hs i hi S H hI)
 refine ⟨⟨i+1,h.1,h.2⟩,?_⟩
 have e1:=hix _ _ _ hI
 have e2:=hix _ _ _ h.2
 simp only [e1,e2,Int.toNat_natCast]
 have:=h.1
 omega
end
end Go.AL
namespace Go.Proofs.Tryz
open Go Go.AL Go.RowKit Go.Proofs
attribute [local simp] awp_all qs_all ops_all dops_all ops_nil dops_nil ops_call ops_callv ops_alloc ops_box dops_call dops_alloc kO_eq kD_eq awanted apure ev Eff.S Eff.H tmpOf upd putD AL.start AV.dem AV.cells AV.storable AV.scells splice scrub abin loadA HR.okB post ares aress ares1 AV.out AV.isData ints_len ints_get fz fz1 AV.vw AV.vw1 boxy vI int undefA assignQ thenQ blockQ seqQ panQ prol prolH allocOf
variable {GI:World→Prop}
def inI (n lo hi:Int):Bool:=decide (lo≤n) && decide (n≤hi)
theorem ac72 (hG:Stable GI) (n lo hi:Int):AC prog GI 72 [.int .i64 n,.int .i64 lo,.int .i64 hi] (.ret (.bool (inI n lo hi))):=by
 refine AC.of_body hG hmix func72 rfl ntmps72 (by simp) (ac:=c72) (by kernel_rfl) ?_
 by_cases h1:lo≤n<;>by_cases h2:n≤hi<;>simp [c72,inI,h1,h2]
theorem ac128 (hG:Stable GI) (n lo hi:Int):AC prog GI 128 [.int .i64 n,.int .i64 lo,.int .i64 hi] (.ret (.bool (inI n lo hi))):=by
 refine AC.of_body hG hmix func128 rfl ntmps128 (by simp) (ac:=c128) (by kernel_rfl) ?_
 by_cases h1:lo≤n<;>by_cases h2:n≤hi<;>simp [c128,inI,h1,h2]
def spanI (lo hi a most:Int):Bool:=inI lo a most && inI hi lo most
theorem ac90 (hG:Stable GI) (lo hi most:Int):AC prog GI 90 [.agg [.int .i64 lo,.int .i64 hi],.int .i64 most] (.ret (.bool (spanI lo hi 0 most))):=by
 refine AC.of_body hG hmix func90 rfl ntmps90 (by simp) (ac:=c90) (by kernel_rfl) ?_
 simp [c90]
 refine ⟨_,by kernel_rfl,ac72 hG lo 0 most,by simp [boxy],?_⟩
 cases h1:inI lo 0 most
 ·simp [spanI,h1]
 ·simp
  refine ⟨_,by kernel_rfl,ac72 hG hi lo most,by simp [boxy],?_⟩
  simp [spanI,h1]
theorem ac140 (hG:Stable GI) (lo hi a most:Int):AC prog GI 140 [.agg [.int .i64 lo,.int .i64 hi],.int .i64 a,.int .i64 most] (.ret (.bool (spanI lo hi a most))):=by
 refine AC.of_body hG hmix func140 rfl ntmps140 (by simp) (ac:=c140) (by kernel_rfl) ?_
 simp [c140]
 refine ⟨_,by kernel_rfl,ac128 hG lo a most,by simp [boxy],?_⟩
 cases h1:inI lo a most
 ·simp [spanI,h1]
 ·simp
  refine ⟨_,by kernel_rfl,ac128 hG hi lo most,by simp [boxy],?_⟩
  simp [spanI,h1]
theorem ac60 (hG:Stable GI) (n:Int):AC prog GI 60 [.int .i64 n] (.ret (.bool (inI n 1 400))):=by
 refine AC.of_body hG hmix func60 rfl ntmps60 (by simp) (ac:=c60) (by kernel_rfl) ?_
 simp [c60]
 refine ⟨_,by kernel_rfl,ac72 hG n 1 400,by simp [boxy],?_⟩
 simp
def signI (s:Sheet) (n:Int):Bool:=inI n 0 (s.widths.length - 1)
theorem ac134 (hG:Stable GI) (s:Sheet) (hs:s.widths.length < 1000) (n:Int):AC prog GI 134 [sheetA s,.int .i64 n] (.ret (.bool (signI s n))):=by
 refine AC.of_body hG hmix func134 rfl ntmps134 (by simp) (ac:=c134) (by kernel_rfl) ?_
 have hw:IntKind.i64.wrap ((s.widths.length:Int) - 1)=s.widths.length - 1:=wrapI (by omega)
 simp [c134,sheetA,sheetL,hw]
 refine ⟨_,by kernel_rfl,ac72 hG n 0 (s.widths.length - 1),by simp [boxy],?_⟩
 simp [signI]
def pairI (s:Sheet) (p:Pair):Bool:=signI s p.l && signI s p.r && spanI p.lo p.hi 0 9
theorem ac136 (hG:Stable GI) (s:Sheet) (hs:s.widths.length < 1000) (p:Pair):AC prog GI 136 [sheetA s,pairA p] (.ret (.bool (pairI s p))):=by
 refine AC.of_body hG hmix func136 rfl ntmps136 (by simp) (ac:=c136) (by kernel_rfl) ?_
 have hw:IntKind.i64.wrap ((s.widths.length:Int) - 1)=s.widths.length - 1:=wrapI (by omega)
 refine awp_cut (fun S H=>S 2 = .box 2 0∧S 3 = .box 3 0∧H 2=some (sheetL s)∧H 3=some [.int .i64 p.l,.int .i64 p.r,.int .i64 p.lo,.int .i64 p.hi]) (by simp [sheetA,sheetL,pairA]) ?_
 rintro S H ⟨s2,s3,h2,h3⟩
 simp [s2,s3,h2,h3,sheetL,hw]
 refine ⟨_,by kernel_rfl,ac128 hG p.l 0 (s.widths.length - 1),by simp [boxy],?_⟩
 cases h1:inI p.l 0 (s.widths.length - 1)
 ·simp [pairI,signI,h1]
 ·simp [s2,s3,h2,h3,sheetL,hw]
  refine ⟨_,by kernel_rfl,ac128 hG p.r 0 (s.widths.length - 1),by simp [boxy],?_⟩
  cases h4:inI p.r 0 (s.widths.length - 1)
  ·simp [pairI,signI,h1,h4]
  ·simp [s2,s3,h2,h3,sheetL]
   refine ⟨_,by kernel_rfl,ac140 hG p.lo p.hi 0 9,by simp [boxy],?_⟩
   simp [pairI,signI,h1,h4]
def ltP (a b:Pair):Bool:=decide (a.l < b.l) || (a.l==b.l && decide (a.r < b.r))
theorem ac137 (hG:Stable GI) (a b:Pair):AC prog GI 137 [pairA a,pairA b] (.ret (.bool (ltP a b))):=by
 refine AC.of_body hG hmix func137 rfl ntmps137 (by simp) (ac:=c137) (by kernel_rfl) ?_
 refine awp_cut (fun S H=>S 2 = .box 2 0∧S 3 = .box 3 0∧H 2=some [.int .i64 a.l,.int .i64 a.r,.int .i64 a.lo,.int .i64 a.hi]∧H 3=some [.int .i64 b.l,.int .i64 b.r,.int .i64 b.lo,.int .i64 b.hi]) (by simp [pairA]) ?_
 rintro S H ⟨s2,s3,h2,h3⟩
 by_cases h1:a.l < b.l
 ·simp [s2,s3,h2,h3,ltP,h1]
 ·cases h4:a.l==b.l
  ·simp [s2,s3,h2,h3,ltP,h1,h4]
  ·by_cases h5:a.r < b.r<;>simp [s2,s3,h2,h3,ltP,h1,h4,h5]
theorem ac138 (hG:Stable GI) (n:Int):AC prog GI 138 [.int .i64 n] (.ret (.bool (!inI n 1 20))):=by
 refine AC.of_body hG hmix func138 rfl ntmps138 (by simp) (ac:=c138) (by kernel_rfl) ?_
 simp [c138]
 refine ⟨_,by kernel_rfl,ac128 hG n 1 20,by simp [boxy],?_⟩
 simp
theorem ac172 (hG:Stable GI) (s:Sheet) (hs:s.widths.length < 1000) (n:Int):AC prog GI 172 [.int .i64 n,.ref (sheetL s)] (.ret (.bool (!signI s n))):=by
 refine AC.of_body hG hmix func172 rfl ntmps172 (by simp) (ac:=c172) (by kernel_rfl) ?_
 have hw:IntKind.i64.wrap ((s.widths.length:Int) - 1)=s.widths.length - 1:=wrapI (by omega)
 simp [c172,sheetL,hw]
 refine ⟨_,by kernel_rfl,ac128 hG n 0 (s.widths.length - 1),by simp [boxy],?_⟩
 simp [signI]
end Go.Proofs.Tryz
namespace Go.AL
def firstT {α:Type} (p:α→Bool) (l:List α):Int:=if l.any p then (l.findIdx p:Nat) else -1
theorem firstT_at {α:Type} {p:α→Bool} {l:List α} {i:Nat} (hi:i < l.length) (hp:p l[i]=true) (hb:∀ j (hj:j < l.length),j < i→p l[j]=false):firstT p l=(i:Nat):=by
  unfold firstT
  rw [if_pos (List.any_eq_true.2 ⟨l[i],List.getElem_mem hi,hp⟩),(List.findIdx_eq hi).2 ⟨hp,fun j hji=>hb j (by omega) hji⟩]
theorem firstT_none {α:Type} {p:α→Bool} {l:List α} (hb:∀ j (hj:j < l.length),p l[j]=false):firstT p l = -1:=by
  unfold firstT
  rw [if_neg]
  intro h
  obtain ⟨x,hx,hp⟩:=List.any_eq_true.1 h
  obtain ⟨j,hj,rfl⟩:=List.getElem_of_mem hx
  rw [hb j hj] at hp;cases hp
theorem firstT_any {α:Type} {p:α→Bool} {l:List α}:decide (0≤firstT p l)=l.any p:=by
  unfold firstT
  cases h:l.any p<;>simp
end Go.AL
namespace Go.Proofs.Tryz
open Go Go.AL Go.RowKit Go.Proofs
attribute [local simp] awp_all qs_all ops_all dops_all ops_nil dops_nil ops_call ops_callv ops_alloc ops_box dops_call dops_alloc kO_eq kD_eq awanted apure ev Eff.S Eff.H tmpOf upd putD AL.start AV.dem AV.cells AV.storable AV.scells splice scrub abin loadA HR.okB post ares aress ares1 AV.out AV.isData ints_len ints_get fz fz1 AV.vw AV.vw1 boxy vI int undefA assignQ thenQ blockQ seqQ panQ prol prolH allocOf
variable {GI:World→Prop}
theorem ac170 (hG:Stable GI) (l:List Int) (hl:l.length < 1000000) (k:Nat) (caps:List AV) (hcaps:caps=[]∨∃ c,caps=[.ref c]) (p:Int→Bool) (hk:callable prog k=true) (h:∀ x∈l,AC prog GI k ([.int .i64 x]++caps) (.ret (.bool (p x)))) :
    AC prog GI 170 [.slice .view (l.map (.int .i64)),.func (.func k) [] caps] (.ret (.int .i64 (firstT p l))):=by
  refine AC.of_body hG hmix func170 rfl ntmps170 (by simp) (ac:=c170) (by kernel_rfl) ?_
  rcases hcaps with rfl | ⟨c,rfl⟩ <;>
  (simp [c170]
   refine awp_loop 8 l.length (fun i S H=>S 0 = .slice .view (l.map (.int .i64))∧S 1=_∧S 7 = .int .i64 l.length∧S 8 = .int .i64 (i:Nat)∧∀ j (hj:j < l.length),j < i→p l[j]=false) (fun i S H h=>h.2.2.2.1) ⟨by simp,by simp;rfl,by simp,by simp,by simp⟩ ?_
   rintro i hi S H ⟨s0,s1,s7,s8,hb⟩
   by_cases hlt:i < l.length
   · have hw:IntKind.i64.wrap ((i:Int)+1)=i+1:=wrapI (by omega)
     have hx:=h l[i] (List.getElem_mem hlt)
     cases hp:p l[i]
     · simp [List.getElem_map,s0,s1,s7,s8,hlt]
       refine ⟨_,hk,hx,by simp [boxy],?_⟩
       simp [s0,s1,s7,s8,hlt,hp,hw]
       intro j hj hji
       by_cases hji':j=i
       · subst hji';exact hp
       · exact hb j hj (by omega)
     · simp [List.getElem_map,s0,s1,s7,s8,hlt]
       refine ⟨_,hk,hx,by simp [boxy],?_⟩
       simp [s0,s1,s7,s8,hlt,hp,hw]
       exact firstT_at hlt hp hb
   · have hil:i=l.length:=by omega
     subst hil
     simp [s0,s1,s7,s8]
     exact firstT_none fun j hj=>hb j hj hj)
theorem ac139 (hG:Stable GI) (l:List Int) (hl:l.length < 1000000) (k:Nat) (caps:List AV) (hcaps:caps=[]∨∃ c,caps=[.ref c]) (p:Int→Bool) (hk:callable prog k=true) (h:∀ x∈l,AC prog GI k ([.int .i64 x]++caps) (.ret (.bool (p x)))) :
    AC prog GI 139 [.slice .view (l.map (.int .i64)),.func (.func k) [] caps] (.ret (.bool (l.any p))):=by
  have hF:=ac170 hG l hl k caps hcaps p hk h
  refine AC.of_body hG hmix func139 rfl ntmps139 (by simp) (ac:=c139) (by kernel_rfl) ?_
  rcases hcaps with rfl | ⟨c,rfl⟩ <;>
  (simp [c139]
   refine ⟨_,by kernel_rfl,hF,fun _=>rfl,?_⟩
   simp
   exact firstT_any.symm)
theorem ac171 (hG:Stable GI) (l:List Word) (hl:l.length < 1000000) (k:Nat) (caps:List AV) (hcaps:caps=[]∨∃ c,caps=[.ref c]) (p:Word→Bool) (hk:callable prog k=true) (h:∀ x∈l,AC prog GI k ([wordA x]++caps) (.ret (.bool (p x)))) :
    AC prog GI 171 [.slice .view (l.map wordA),.func (.func k) [] caps] (.ret (.int .i64 (firstT p l))):=by
  refine AC.of_body hG hmix func171 rfl ntmps171 (by simp) (ac:=c171) (by kernel_rfl) ?_
  rcases hcaps with rfl | ⟨c,rfl⟩ <;>
  (simp [c171]
   refine awp_loop 8 l.length (fun i S H=>S 0 = .slice .view (l.map wordA)∧S 1=_∧S 7 = .int .i64 l.length∧S 8 = .int .i64 (i:Nat)∧∀ j (hj:j < l.length),j < i→p l[j]=false) (fun i S H h=>h.2.2.2.1) ⟨by simp,by simp;rfl,by simp,by simp,by simp⟩ ?_
   rintro i hi S H ⟨s0,s1,s7,s8,hb⟩
   by_cases hlt:i < l.length
   · have hw:IntKind.i64.wrap ((i:Int)+1)=i+1:=wrapI (by omega)
     have hx:=h l[i] (List.getElem_mem hlt)
     cases hp:p l[i]
     · simp [List.getElem_map,wordA,s0,s1,s7,s8,hlt]
       refine ⟨_,hk,hx,by simp [boxy],?_⟩
       simp [s0,s1,s7,s8,hlt,hp,hw]
       intro j hj hji
       by_cases hji':j=i
       · subst hji';exact hp
       · exact hb j hj (by omega)
     · simp [List.getElem_map,wordA,s0,s1,s7,s8,hlt]
       refine ⟨_,hk,hx,by simp [boxy],?_⟩
       simp [s0,s1,s7,s8,hlt,hp,hw]
       exact firstT_at hlt hp hb
   · have hil:i=l.length:=by omega
     subst hil
     simp [s0,s1,s7,s8]
     exact firstT_none fun j hj=>hb j hj hj)
theorem ac141 (hG:Stable GI) (l:List Word) (hl:l.length < 1000000) (k:Nat) (caps:List AV) (hcaps:caps=[]∨∃ c,caps=[.ref c]) (p:Word→Bool) (hk:callable prog k=true) (h:∀ x∈l,AC prog GI k ([wordA x]++caps) (.ret (.bool (p x)))) :
    AC prog GI 141 [.slice .view (l.map wordA),.func (.func k) [] caps] (.ret (.bool (l.any p))):=by
  have hF:=ac171 hG l hl k caps hcaps p hk h
  refine AC.of_body hG hmix func141 rfl ntmps141 (by simp) (ac:=c141) (by kernel_rfl) ?_
  rcases hcaps with rfl | ⟨c,rfl⟩ <;>
  (simp [c141]
   refine ⟨_,by kernel_rfl,hF,fun _=>rfl,?_⟩
   simp
   exact firstT_any.symm)
end Go.Proofs.Tryz
namespace Go.AL
def adjI {α:Type} (p:α→Bool) (lt:α→α→Bool) (l:List α):Bool:=l.all p && (List.range (l.length - 1)).all fun i=>match l[i]?,l[i+1]? with | some a,some b=>lt a b | _,_=>true
theorem adjI_false {α:Type} {p:α→Bool} {lt:α→α→Bool} {l:List α} {i:Nat} (hi:i < l.length) (hp:p l[i]=false):adjI p lt l=false:=by
 unfold adjI
 rw [Bool.and_eq_false_iff]
 exact .inl (List.all_eq_false.2 ⟨_,List.getElem_mem hi,by simp [hp]⟩)
theorem adjI_false2 {α:Type} {p:α→Bool} {lt:α→α→Bool} {l:List α} {i:Nat} (hi:i+1 < l.length) (hp:lt (l[i]'(by omega)) l[i+1]=false):adjI p lt l=false:=by
 unfold adjI
 rw [Bool.and_eq_false_iff]
 refine .inr (List.all_eq_false.2 ⟨i,List.mem_range.2 (by omega),?_⟩)
 simp [hi,show i < l.length by omega,hp]
theorem adjI_true {α:Type} {p:α→Bool} {lt:α→α→Bool} {l:List α} (h1:∀ j (hj:j < l.length),p l[j]=true) (h2:∀ j (hj:j+1 < l.length),lt (l[j]'(by omega)) l[j+1]=true):adjI p lt l=true:=by
 unfold adjI
 rw [Bool.and_eq_true]
 constructor
 ·rw [List.all_eq_true]
  intro x hx
  obtain ⟨j,hj,rfl⟩:=List.getElem_of_mem hx
  exact h1 j hj
 ·rw [List.all_eq_true]
  intro j hj
  rw [List.mem_range] at hj
  simp [show j < l.length by omega,show j+1 < l.length by omega,h2 j (by omega)]
end Go.AL
namespace Go.Proofs.Tryz
open Go Go.AL Go.RowKit Go.Proofs
attribute [local simp] awp_all qs_all ops_all dops_all ops_nil dops_nil ops_call ops_callv ops_alloc ops_box dops_call dops_alloc kO_eq kD_eq awanted apure ev Eff.S Eff.H tmpOf upd putD AL.start AV.dem AV.cells AV.storable AV.scells splice scrub abin loadA HR.okB post ares aress ares1 AV.out AV.isData ints_len ints_get fz fz1 AV.vw AV.vw1 boxy vI int undefA assignQ thenQ blockQ seqQ panQ prol prolH allocOf
variable {GI:World→Prop}
def risesI (l:List Int) (lo hi:Int):Bool:=adjI (inI · lo hi) (fun a b=>decide (a < b)) l
theorem ac150 (hG:Stable GI) (l:List Int) (hl:l.length < 1000000) (lo hi:Int):AC prog GI 150 [vI l,.int .i64 lo,.int .i64 hi] (.ret (.bool (risesI l lo hi))):=by
 refine AC.of_body hG hmix func150 rfl ntmps150 (by simp) (ac:=c150) (by kernel_rfl) ?_
 simp [c150]
 refine awp_loop 11 l.length (fun i S H=>S 0=vI l∧S 1 = .int .i64 lo∧S 2 = .int .i64 hi∧S 9=vI l∧S 10 = .int .i64 l.length∧S 11 = .int .i64 (i:Nat)∧(∀ j (hj:j < l.length),j < i→inI l[j] lo hi=true)∧∀ j (hj:j+1 < l.length),j+1 < i→decide (l[j] < l[j+1])=true) (fun i S H h=>h.2.2.2.2.2.1) ⟨by simp,by simp,by simp,by simp,by simp,by simp,by simp,by simp⟩ ?_
 rintro i hi' S H ⟨s0,s1,s2,s9,s10,s11,hb,hc⟩
 by_cases hlt:i < l.length
 ·have hw:IntKind.i64.wrap ((i:Int)+1)=i+1:=wrapI (by omega)
  simp [s0,s1,s2,s9,s10,s11,hlt]
  refine ⟨_,by kernel_rfl,ac128 hG l[i] lo hi,fun _=>rfl,?_⟩
  cases hp:inI l[i] lo hi
  ·simp [s0,s1,s2,s9,s10,s11,hlt,hw]
   exact adjI_false hlt hp
  ·cases i with
   |zero =>
    simp [s0,s1,s2,s9,s10,s11,hlt]
    exact ⟨wrapI (by omega),fun j hj hj0=>by subst hj0;exact hp⟩
   |succ k =>
    have hk:((k+1:Nat):Int) - 1=(k:Nat):=by omega
    have hwk:IntKind.i64.wrap (k:Int)=k:=wrapI (by omega)
    have hw2:IntKind.i64.wrap ((k:Int)+1+1)=k+1+1:=wrapI (by omega)
    have hkl:k < l.length:=by omega
    have h0:(0:Int) < (k:Int)+1:=by omega
    by_cases hle:l[k+1]≤l[k]
    ·simp [s0,s1,s2,s9,s10,s11,hlt,hwk,hkl,hle,h0]
     exact adjI_false2 (lt:=fun a b=>decide (a < b)) hlt (by simpa using hle)
    ·simp [s0,s1,s2,s9,s10,s11,hlt,hwk,hkl,hle,h0,hw2]
     refine ⟨fun j hj hjk => ?_,fun j hj hjk => ?_⟩
     ·by_cases e:j=k+1
      ·subst e;exact hp
      ·exact hb j hj (by omega)
     ·by_cases e:j=k
      ·subst e;omega
      ·simpa using hc j hj (by omega)
 ·have hil:i=l.length:=by omega
  subst hil
  simp [s0,s1,s2,s9,s10,s11]
  exact adjI_true (fun j hj=>hb j hj hj) (fun j hj=>hc j hj hj)
def wordI (s:Sheet) (w:Word):Bool:=inI w.signs.length 1 6 && !(w.signs.any fun n => !signI s n) && risesI w.cuts 1 (w.signs.length - 1)
theorem ac143 (hG:Stable GI) (s:Sheet) (hs:s.widths.length < 1000) (w:Word) (h1:w.signs.length < 1000) (h2:w.cuts.length < 1000):AC prog GI 143 [sheetA s,wordA w] (.ret (.bool (wordI s w))):=by
 have h139:=ac139 hG w.signs (by omega) 172 [.ref (sheetL s)] (.inr ⟨_,rfl⟩) (fun n => !signI s n) (by kernel_rfl) (fun n _=>ac172 hG s hs n)
 have hw:IntKind.i64.wrap ((w.signs.length:Int) - 1)=w.signs.length - 1:=wrapI (by omega)
 refine AC.of_body hG hmix func143 rfl ntmps143 (by simp) (ac:=c143) (by kernel_rfl) ?_
 refine awp_cut (fun S H=>S 2 = .box 2 0∧S 3 = .box 3 0∧H 2=some (sheetL s)∧H 3=some [vI w.signs,vI w.cuts,.bool w.free]) (by simp [sheetA,sheetL,wordA]) ?_
 rintro S H ⟨s2,s3,e2,e3⟩
 simp [s2,s3,e2,e3]
 refine ⟨_,by kernel_rfl,ac128 hG w.signs.length 1 6,fun _=>rfl,?_⟩
 cases h3:inI w.signs.length 1 6
 ·simp [wordI,h3]
 ·simp [s2,s3,e2,e3,sheetL]
  refine ⟨_,by kernel_rfl,h139,fun _=>rfl,?_⟩
  cases h4:w.signs.any fun n => !signI s n
  ·simp [s2,s3,e2,e3,hw]
   refine ⟨_,by kernel_rfl,ac150 hG w.cuts (by omega) 1 (w.signs.length - 1),fun _=>rfl,?_⟩
   simp [wordI,h3,h4]
  ·simp [wordI,h3,h4]
theorem ac142 (hG:Stable GI) (s:Sheet) (hs:s.widths.length < 1000) (w:Word) (h1:w.signs.length < 1000) (h2:w.cuts.length < 1000):AC prog GI 142 [wordA w,.ref (sheetL s)] (.ret (.bool (!wordI s w))):=by
 refine AC.of_body hG hmix func142 rfl ntmps142 (by simp) (ac:=c142) (by kernel_rfl) ?_
 simp [c142,wordA,sheetL]
 refine ⟨_,by kernel_rfl,ac143 hG s hs w h1 h2,fun _=>rfl,?_⟩
 simp
end Go.Proofs.Tryz
namespace Go.Proofs.Tryz
open Go Go.AL Go.RowKit Go.Proofs
attribute [local simp] awp_all qs_all ops_all dops_all ops_nil dops_nil ops_call ops_callv ops_alloc ops_box dops_call dops_alloc kO_eq kD_eq awanted apure ev Eff.S Eff.H tmpOf upd putD AL.start AV.dem AV.cells AV.storable AV.scells splice scrub abin loadA HR.okB post ares aress ares1 AV.out AV.isData ints_len ints_get fz fz1 AV.vw AV.vw1 boxy vI int undefA assignQ thenQ blockQ seqQ panQ prol prolH allocOf
variable {GI:World→Prop}
structure Slim (s:Sheet):Prop where
 widths:s.widths.length < 1000
 pairs:s.pairs.length < 1000
 words:s.words.length < 1000
 signs:∀ w∈s.words,w.signs.length < 1000
 cuts:∀ w∈s.words,w.cuts.length < 1000
def endI (s:Sheet):Bool := !(s.widths.any fun n => !inI n 1 20) && spanI s.olo s.ohi 0 9 && spanI s.glo s.ghi 0 20 && inI s.hyphen 1 20 && !(s.words.any fun w => !wordI s w) && inI s.wide 1 400 && inI s.rows 1 3
def sheetI (s:Sheet):Bool:=inI s.widths.length 1 6 && decide (s.pairs.length≤6) && inI s.words.length 1 4 && adjI (pairI s) ltP s.pairs && endI s
theorem ac96 (hG:Stable GI) (s:Sheet) (hs:Slim s):AC prog GI 96 [sheetA s] (.ret (.bool (sheetI s))):=by
 have h139:=ac139 hG s.widths (by have:=hs.widths;omega) 138 [] (.inl rfl) (fun n => !inI n 1 20) (by kernel_rfl) (fun n _=>ac138 hG n)
 have h141:=ac141 hG s.words (by have:=hs.words;omega) 142 [.ref (sheetL s)] (.inr ⟨_,rfl⟩) (fun w => !wordI s w) (by kernel_rfl) (fun w hw=>ac142 hG s hs.widths w (hs.signs w hw) (hs.cuts w hw))
 refine AC.of_body hG hmix func96 rfl ntmps96 (by simp) (ac:=c96) (by kernel_rfl) ?_
 refine awp_cut (fun S H=>S 1 = .box 1 0∧H 1=some (sheetL s)) (by simp [sheetA,sheetL]) ?_
 rintro S H ⟨s1,e1⟩
 simp [s1,e1,sheetL]
 refine ⟨_,by kernel_rfl,ac128 hG s.widths.length 1 6,fun _=>rfl,?_⟩
 cases h1:inI s.widths.length 1 6
 ·simp [sheetI,h1]
 by_cases h2:(6:Int) < s.pairs.length
 ·simp [s1,e1,sheetL,h2]
  have:¬ s.pairs.length≤6:=by omega
  simp [sheetI,this]
 simp [s1,e1,sheetL,h2]
 refine ⟨_,by kernel_rfl,ac128 hG s.words.length 1 4,fun _=>rfl,?_⟩
 cases h3:inI s.words.length 1 4
 ·simp [sheetI,h3]
 simp [s1,e1,sheetL]
 have h2':s.pairs.length≤6:=by omega
 refine awp_loop 27 s.pairs.length (fun i S H=>S 1 = .box 1 0∧H 1=some (sheetL s)∧S 25 = .slice .view (s.pairs.map pairA)∧S 26 = .int .i64 s.pairs.length∧S 27 = .int .i64 (i:Nat)∧(∀ j (hj:j < s.pairs.length),j < i→pairI s s.pairs[j]=true)∧∀ j (hj:j+1 < s.pairs.length),j+1 < i→ltP s.pairs[j] s.pairs[j+1]=true) (fun i S H h=>h.2.2.2.2.1) ⟨by simp [s1],by simp [e1,sheetL],by simp,by simp,by simp,by simp,by simp⟩ ?_
 clear s1 e1 S H
 rintro i hi S H ⟨s1,e1,s25,s26,s27,hb,hc⟩
 by_cases hlt:i < s.pairs.length
 case neg =>
  have hil:i=s.pairs.length:=by omega
  subst hil
  have hadj:adjI (pairI s) ltP s.pairs=true:=adjI_true (fun j hj=>hb j hj hj) (fun j hj=>hc j hj hj)
  simp [s1,e1,s25,s26,s27,sheetL]
  refine ⟨_,by kernel_rfl,h139,fun _=>rfl,?_⟩
  cases h4:s.widths.any fun n => !inI n 1 20
  case true=>simp [sheetI,endI,h4]
  simp [s1,e1,sheetL]
  refine ⟨_,by kernel_rfl,ac140 hG s.olo s.ohi 0 9,fun _=>rfl,?_⟩
  cases h5:spanI s.olo s.ohi 0 9
  ·simp [sheetI,endI,h5]
  simp [s1,e1,sheetL]
  refine ⟨_,by kernel_rfl,ac140 hG s.glo s.ghi 0 20,fun _=>rfl,?_⟩
  cases h6:spanI s.glo s.ghi 0 20
  ·simp [sheetI,endI,h6]
  simp [s1,e1,sheetL]
  refine ⟨_,by kernel_rfl,ac128 hG s.hyphen 1 20,fun _=>rfl,?_⟩
  cases h7:inI s.hyphen 1 20
  ·simp [sheetI,endI,h7]
  simp [s1,e1,sheetL]
  refine ⟨_,by kernel_rfl,h141,fun _=>rfl,?_⟩
  cases h8:s.words.any fun w => !wordI s w
  case true=>simp [sheetI,endI,h8]
  simp [s1,e1,sheetL]
  refine ⟨_,by kernel_rfl,ac128 hG s.wide 1 400,fun _=>rfl,?_⟩
  cases h9:inI s.wide 1 400
  ·simp [sheetI,endI,h9]
  simp [s1,e1,sheetL]
  refine ⟨_,by kernel_rfl,ac128 hG s.rows 1 3,fun _=>rfl,?_⟩
  simp [sheetI,endI,h1,h2',h3,hadj,h4,h5,h6,h7,h8,h9]
 case pos =>
  have hw:IntKind.i64.wrap ((i:Int)+1)=i+1:=wrapI (by omega)
  refine awp_cut (fun S H=>S 28 = .bool true∧S 1 = .box 1 0∧H 1=some (sheetL s)∧S 25 = .slice .view (s.pairs.map pairA)∧S 26 = .int .i64 s.pairs.length∧S 27 = .int .i64 (i:Nat)) (by simp [s1,e1,s25,s26,s27,hlt]) ?_
  clear s1 e1 s25 s26 s27 S H
  rintro S H ⟨s28,s1,e1,s25,s26,s27⟩
  refine awp_go s28 (awp_in ?_)
  refine awp_cut (fun S H=>S 4 = .box 4 0∧H 4=some (pairA s.pairs[i]).cells∧S 3 = .int .i64 (i:Nat)∧S 1 = .box 1 0∧H 1=some (sheetL s)∧S 25 = .slice .view (s.pairs.map pairA)∧S 26 = .int .i64 s.pairs.length∧S 27 = .int .i64 (i:Nat)) (by simp [s1,e1,s25,s26,s27,hlt,pairA]) ?_
  clear s1 e1 s25 s26 s27 s28 S H
  rintro S H ⟨s4,e4,s3,s1,e1,s25,s26,s27⟩
  simp [s1,e1,s3,s4,e4,sheetL,pairA]
  refine ⟨_,by kernel_rfl,ac136 hG s hs.widths s.pairs[i],fun _=>rfl,?_⟩
  cases hp:pairI s s.pairs[i]
  ·simp
   simp [sheetI,adjI_false hlt hp]
  cases i with
  |zero =>
   simp [s1,s3,s4,s25,s26,s27,hlt]
   exact ⟨e1,wrapI (by omega),fun j hj hj0=>by subst hj0;exact hp⟩
  |succ k =>
   have hwk:IntKind.i64.wrap (k:Int)=k:=wrapI (by omega)
   have hw2:IntKind.i64.wrap ((k:Int)+1+1)=k+1+1:=wrapI (by omega)
   have hkl:k < s.pairs.length:=by omega
   have h0:(0:Int) < (k:Int)+1:=by omega
   simp [s1,e1,s3,s4,e4,hlt,hwk,hkl,h0,sheetL,pairA]
   refine ⟨_,by kernel_rfl,ac137 hG s.pairs[k] s.pairs[k+1],fun _=>rfl,?_⟩
   cases hq:ltP s.pairs[k] s.pairs[k+1]
   ·simp
    simp [sheetI,adjI_false2 (p:=pairI s) hlt hq]
   ·simp [s1,e1,s3,s4,s25,s26,s27,hlt,hw2]
    refine ⟨rfl,fun j hj hjk => ?_,fun j hj hjk => ?_⟩
    ·by_cases e:j=k+1
     ·subst e;exact hp
     ·exact hb j hj (by omega)
    ·by_cases e:j=k
     ·subst e;exact hq
     ·exact hc j hj (by omega)
end Go.Proofs.Tryz
namespace Go.AL
theorem all_at {α:Type} {p:α→Bool} {l:List α} (h:∀ j (hj:j < l.length),p l[j]=true):l.all p=true:=by
 rw [List.all_eq_true]
 intro x hx
 obtain ⟨j,hj,rfl⟩:=List.getElem_of_mem hx
 exact h j hj
theorem all_not {α:Type} {p:α→Bool} {l:List α} {i:Nat} (hi:i < l.length) (hp:p l[i]=false):l.all p=false:=List.all_eq_false.2 ⟨_,List.getElem_mem hi,by simp [hp]⟩
theorem not_any_not {α:Type} (p:α→Bool) (l:List α):(!(l.any fun x => !p x))=l.all p:=by
 induction l with
 |nil=>rfl
 |cons a l ih=>simp [List.any_cons,List.all_cons,← ih]
theorem step_all {α:Type} {p:α→Bool} {l:List α} {i:Nat} (hi:i < l.length) (hb:∀ j (hj:j < l.length),j < i→p l[j]=true) (hp:p l[i]=true):∀ j (hj:j < l.length),j < i+1→p l[j]=true:=by
 intro j hj hji
 by_cases e:j=i
 ·subst e;exact hp
 ·exact hb j hj (by omega)
theorem step_adj {α:Type} {lt:α→α→Bool} {l:List α} {k:Nat} (hi:k+1 < l.length) (hb:∀ j (hj:j+1 < l.length),j+1 < k+1→lt (l[j]'(by omega)) l[j+1]=true) (hp:lt (l[k]'(by omega)) l[k+1]=true):∀ j (hj:j+1 < l.length),j+1 < k+1+1→lt (l[j]'(by omega)) l[j+1]=true:=by
 intro j hj hji
 by_cases e:j=k
 ·subst e;exact hp
 ·exact hb j hj (by omega)
end Go.AL
namespace Go.Proofs.Tryz
open Go Go.AL Go.RowKit Go.Proofs
attribute [local simp] awp_all qs_all ops_all dops_all ops_nil dops_nil ops_call ops_callv ops_alloc ops_box dops_call dops_alloc kO_eq kD_eq awanted apure ev Eff.S Eff.H tmpOf upd putD AL.start AV.dem AV.cells AV.storable AV.scells splice scrub abin loadA HR.okB post ares aress ares1 AV.out AV.isData ints_len ints_get fz fz1 AV.vw AV.vw1 boxy vI int undefA assignQ thenQ blockQ seqQ panQ prol prolH allocOf
variable {GI:World→Prop}
theorem wordI_eq (s:Sheet) (w:Word):wordI s w=(w.signs.all (signI s) && (risesI w.cuts 1 (w.signs.length - 1) && inI w.signs.length 1 6)):=by
 unfold wordI
 rw [not_any_not]
 cases inI w.signs.length 1 6<;>cases w.signs.all (signI s)<;>cases risesI w.cuts 1 (w.signs.length - 1)<;>rfl
set_option maxHeartbeats 1000000 in
theorem ac88 (hG:Stable GI) (s:Sheet) (hs:s.widths.length < 1000) (w:Word) (h1:w.signs.length < 1000) (h2:w.cuts.length < 1000):AC prog GI 88 [sheetA s,wordA w] (.ret (.bool (wordI s w))):=by
 rw [wordI_eq]
 refine AC.of_body hG hmix func88 rfl ntmps88 (by simp) (ac:=c88) (by kernel_rfl) ?_
 refine awp_cut (fun S H=>S 2 = .box 2 0∧S 3 = .box 3 0∧H 2=some (sheetL s)∧H 3=some [vI w.signs,vI w.cuts,.bool w.free]) (by simp [sheetA,sheetL,wordA]) ?_
 rintro S H ⟨s2,s3,e2,e3⟩
 simp [s2,s3,e2,e3]
 refine awp_loop 5 w.signs.length (fun i S H=>S 2 = .box 2 0∧S 3 = .box 3 0∧H 2=some (sheetL s)∧H 3=some [vI w.signs,vI w.cuts,.bool w.free]∧S 5 = .int .i64 (i:Nat)∧(∀ j (hj:j < w.signs.length),j < i→signI s w.signs[j]=true)) (fun i S H h=>h.2.2.2.2.1) ⟨by simp [s2],by simp [s3],e2,e3,by simp,by simp⟩ ?_
 clear s2 s3 e2 e3 S H
 rintro i hi S H ⟨s2,s3,e2,e3,s5,hb⟩
 by_cases hlt:i < w.signs.length
 case pos =>
  have hw:IntKind.i64.wrap ((i:Int)+1)=i+1:=wrapI (by omega)
  simp [s2,s3,e2,e3,s5,hlt,sheetL]
  refine ⟨_,by kernel_rfl,ac134 hG s hs w.signs[i],fun _=>rfl,?_⟩
  cases hp:signI s w.signs[i]
  ·simp [all_not hlt hp]
  ·simp [s2,s3,e2,e3,s5,hlt,hw]
   exact ⟨rfl,step_all hlt hb hp⟩
 have hil:i=w.signs.length:=by omega
 subst hil
 have hall:w.signs.all (signI s)=true:=all_at fun j hj=>hb j hj hj
 simp [s2,s3,e2,e3,s5,hall]
 refine awp_loop 6 w.cuts.length (fun i S H=>S 3 = .box 3 0∧H 3=some [vI w.signs,vI w.cuts,.bool w.free]∧S 6 = .int .i64 (i:Nat)∧(∀ j (hj:j < w.cuts.length),j < i→inI w.cuts[j] 1 (w.signs.length - 1)=true)∧∀ j (hj:j+1 < w.cuts.length),j+1 < i→decide (w.cuts[j] < w.cuts[j+1])=true) (fun i S H h=>h.2.2.1) ⟨by simp [s3],e3,by simp,by simp,by simp⟩ ?_
 clear s2 s3 e2 e3 s5 hb S H
 rintro i hi S H ⟨s3,e3,s6,hb,hc⟩
 by_cases hlt:i < w.cuts.length
 case neg =>
  have hil:i=w.cuts.length:=by omega
  subst hil
  have hr:risesI w.cuts 1 (w.signs.length - 1)=true:=adjI_true (fun j hj=>hb j hj hj) (fun j hj=>hc j hj hj)
  simp [s3,e3,s6,hr]
  refine ⟨_,by kernel_rfl,ac72 hG w.signs.length 1 6,fun _=>rfl,?_⟩
  simp
 case pos =>
  have hw:IntKind.i64.wrap ((i:Int)+1)=i+1:=wrapI (by omega)
  have hwl:IntKind.i64.wrap ((w.signs.length:Int) - 1)=w.signs.length - 1:=wrapI (by omega)
  simp [s3,e3,s6,hlt,hwl]
  refine ⟨_,by kernel_rfl,ac72 hG w.cuts[i] 1 (w.signs.length - 1),fun _=>rfl,?_⟩
  cases hp:inI w.cuts[i] 1 (w.signs.length - 1)
  ·have hr:risesI w.cuts 1 (w.signs.length - 1)=false:=adjI_false hlt hp
   simp [hr]
  cases i with
  |zero =>
   simp [s3,e3,s6,hlt]
   exact ⟨wrapI (by omega),fun j hj hj0=>by subst hj0;exact hp⟩
  |succ k =>
   have hwk:IntKind.i64.wrap (k:Int)=k:=wrapI (by omega)
   have hw2:IntKind.i64.wrap ((k:Int)+1+1)=k+1+1:=wrapI (by omega)
   have hkl:k < w.cuts.length:=by omega
   have h0:(0:Int) < (k:Int)+1:=by omega
   have h00:(0:Int)≤(k:Int)+1:=by omega
   by_cases hle:w.cuts[k+1]≤w.cuts[k]
   ·have hr:risesI w.cuts 1 (w.signs.length - 1)=false:=adjI_false2 (lt:=fun a b=>decide (a < b)) hlt (by simpa using hle)
    simp [s3,e3,s6,hlt,hwk,hkl,hle,h0,h00,hr]
   ·simp [s3,e3,s6,hlt,hwk,hkl,hle,h0,h00,hw2]
    exact ⟨step_all (p:=fun n=>inI n 1 (w.signs.length - 1)) hlt hb hp,fun j hj hjk=>by simpa using step_adj (lt:=fun a b=>decide (a < b)) hlt hc (by simpa using hle) j hj (by omega)⟩
def pairsI (s:Sheet):Bool:=adjI (pairI s) ltP s.pairs && decide (s.pairs.length≤6)
theorem ltP_not (a b:Pair):ltP a b = !(decide (b.l < a.l) || (a.l==b.l && decide (b.r≤a.r))):=by
 unfold ltP
 by_cases h1:a.l < b.l
 ·have h2:¬ b.l < a.l:=by omega
  have h3:(a.l==b.l)=false:=by simp;omega
  simp [h1,h2,h3]
 ·by_cases h2:b.l < a.l
  ·have h3:(a.l==b.l)=false:=by simp;omega
   simp [h1,h2,h3]
  ·have h3:(a.l==b.l)=true:=by simp;omega
   by_cases h4:b.r≤a.r
   ·have h5:¬ a.r < b.r:=by omega
    simp [h1,h2,h3,h4,h5]
   ·have h5:a.r < b.r:=by omega
    simp [h1,h2,h3,h4,h5]
set_option maxHeartbeats 1000000 in
theorem ac89 (hG:Stable GI) (s:Sheet) (hs:s.widths.length < 1000) (h1:s.pairs.length < 1000):AC prog GI 89 [sheetA s] (.ret (.bool (pairsI s))):=by
 refine AC.of_body hG hmix func89 rfl ntmps89 (by simp) (ac:=c89) (by kernel_rfl) ?_
 simp [c89,sheetA,sheetL]
 refine awp_loop 3 s.pairs.length (fun i S H=>S 1 = .box 1 0∧H 1=some (sheetL s)∧S 3 = .int .i64 (i:Nat)∧(∀ j (hj:j < s.pairs.length),j < i→pairI s s.pairs[j]=true)∧∀ j (hj:j+1 < s.pairs.length),j+1 < i→ltP s.pairs[j] s.pairs[j+1]=true) (fun i S H h=>h.2.2.1) ⟨by simp,by simp [sheetL],by simp,by simp,by simp⟩ ?_
 rintro i hi S H ⟨s1,e1,s3,hb,hc⟩
 by_cases hlt:i < s.pairs.length
 case neg =>
  have hil:i=s.pairs.length:=by omega
  subst hil
  have hr:adjI (pairI s) ltP s.pairs=true:=adjI_true (fun j hj=>hb j hj hj) (fun j hj=>hc j hj hj)
  simp [s1,e1,s3,sheetL,pairsI,hr]
  by_cases h6:s.pairs.length≤6
  ·have h6':(s.pairs.length:Int)≤6:=by omega
   simp [h6,h6']
  ·have h6':¬ (s.pairs.length:Int)≤6:=by omega
   simp [h6,h6']
 case pos =>
  have hw:IntKind.i64.wrap ((i:Int)+1)=i+1:=wrapI (by omega)
  refine awp_cut2 (fun S H=>S 9 = .bool true∧S 1 = .box 1 0∧H 1=some (sheetL s)∧S 3 = .int .i64 (i:Nat)) (by simp [s1,e1,s3,hlt,sheetL]) ?_
  clear s1 e1 s3 S H
  rintro S H ⟨s9,s1,e1,s3⟩
  refine awp_go s9 (awp_in ?_)
  refine awp_cut (fun S H=>S 4 = .box 4 0∧H 4=some (pairA s.pairs[i]).cells∧S 1 = .box 1 0∧H 1=some (sheetL s)∧S 3 = .int .i64 (i:Nat)) (by simp [s1,e1,s3,hlt,sheetL,pairA]) ?_
  clear s1 e1 s3 s9 S H
  rintro S H ⟨s4,e4,s1,e1,s3⟩
  refine awp_cut2 (fun S H=>S 34 = .bool (!pairI s s.pairs[i])∧S 4 = .box 4 0∧H 4=some (pairA s.pairs[i]).cells∧S 1 = .box 1 0∧H 1=some (sheetL s)∧S 3 = .int .i64 (i:Nat)) ?_ ?_
  ·simp [s1,e1,s3,s4,e4,sheetL,pairA]
   refine ⟨_,by kernel_rfl,ac134 hG s hs s.pairs[i].l,fun _=>rfl,?_⟩
   cases h1:signI s s.pairs[i].l
   ·simp [s1,e1,s3,s4,e4,sheetL,pairA,pairI,h1]
   simp [s1,e1,s3,s4,e4,sheetL,pairA]
   refine ⟨_,by kernel_rfl,ac134 hG s hs s.pairs[i].r,fun _=>rfl,?_⟩
   cases h2:signI s s.pairs[i].r
   ·simp [s1,e1,s3,s4,e4,sheetL,pairA,pairI,h1,h2]
   simp [s1,e1,s3,s4,e4,sheetL,pairA]
   refine ⟨_,by kernel_rfl,ac90 hG s.pairs[i].lo s.pairs[i].hi 9,fun _=>rfl,?_⟩
   simp [s1,e1,s3,s4,e4,sheetL,pairA,pairI,h1,h2]
  clear s1 e1 s3 s4 e4 S H
  rintro S H ⟨s34,s4,e4,s1,e1,s3⟩
  cases hp:pairI s s.pairs[i]
  ·rw [hp] at s34
   have hr:pairsI s=false:=by unfold pairsI;rw [adjI_false hlt hp];rfl
   simp [s34,hr]
  rw [hp] at s34
  refine awp_go2 s34 ?_
  cases i with
  |zero =>
   simp [s1,e1,s3,s4,e4,sheetL,hlt]
   exact ⟨wrapI (by omega),fun j hj hj0=>by subst hj0;exact hp⟩
  |succ k =>
   have hwk:IntKind.i64.wrap (k:Int)=k:=wrapI (by omega)
   have hw2:IntKind.i64.wrap ((k:Int)+1+1)=k+1+1:=wrapI (by omega)
   have hkl:k < s.pairs.length:=by omega
   have h0:(0:Int) < (k:Int)+1:=by omega
   cases hq:ltP s.pairs[k] s.pairs[k+1]
   ·have hr:pairsI s=false:=by unfold pairsI;rw [adjI_false2 hlt hq];rfl
    rw [ltP_not] at hq
    by_cases h1:s.pairs[k+1].l < s.pairs[k].l
    ·simp [s1,e1,s3,s4,e4,sheetL,pairA,hwk,hkl,h0,h1,hr]
    ·cases h2:s.pairs[k].l==s.pairs[k+1].l
     ·simp [h1,h2] at hq
     ·by_cases h3:s.pairs[k+1].r≤s.pairs[k].r
      ·simp [s1,e1,s3,s4,e4,sheetL,pairA,hwk,hkl,h0,h1,h2,h3,hr]
      ·simp [h1,h2,h3] at hq
   ·have hq':=hq
    rw [ltP_not] at hq
    have h1:¬ s.pairs[k+1].l < s.pairs[k].l:=fun h=>by simp [h] at hq
    cases h2:s.pairs[k].l==s.pairs[k+1].l
    ·simp [s1,e1,s3,s4,e4,sheetL,pairA,hwk,hkl,h0,h1,h2,hw2,hlt]
     exact ⟨step_all hlt hb hp,fun j hj hjk=>step_adj hlt hc hq' j hj (by omega)⟩
    ·have h3:¬ s.pairs[k+1].r≤s.pairs[k].r:=fun h=>by simp [h1,h2,h] at hq
     simp [s1,e1,s3,s4,e4,sheetL,pairA,hwk,hkl,h0,h1,h2,h3,hw2,hlt]
     exact ⟨step_all hlt hb hp,fun j hj hjk=>step_adj hlt hc hq' j hj (by omega)⟩
theorem sheetI_eq (s:Sheet):sheetI s=(s.widths.all (inI · 1 20) && (s.words.all (wordI s) && (inI s.widths.length 1 6 && pairsI s && spanI s.olo s.ohi 0 9 && spanI s.glo s.ghi 0 20 && inI s.hyphen 1 20 && inI s.words.length 1 4 && inI s.wide 1 400 && inI s.rows 1 3))):=by
 unfold sheetI endI pairsI
 rw [not_any_not,not_any_not]
 cases inI s.widths.length 1 6<;>cases decide (s.pairs.length≤6)<;>cases inI s.words.length 1 4<;>cases adjI (pairI s) ltP s.pairs<;>cases s.widths.all (inI · 1 20)<;>cases s.words.all (wordI s)<;>cases spanI s.olo s.ohi 0 9<;>simp
set_option maxHeartbeats 1000000 in
theorem ac33 (hG:Stable GI) (s:Sheet) (hs:Slim s):AC prog GI 33 [sheetA s] (.ret (.bool (sheetI s))):=by
 rw [sheetI_eq]
 have q1:=hs.widths
 have q2:=hs.pairs
 have q3:=hs.words
 refine AC.of_body hG hmix func33 rfl ntmps33 (by simp) (ac:=c33) (by kernel_rfl) ?_
 simp [c33,sheetA,sheetL]
 refine awp_loop 3 s.widths.length (fun i S H=>S 1 = .box 1 0∧H 1=some (sheetL s)∧S 3 = .int .i64 (i:Nat)∧(∀ j (hj:j < s.widths.length),j < i→inI s.widths[j] 1 20=true)) (fun i S H h=>h.2.2.1) ⟨by simp,by simp [sheetL],by simp,by simp⟩ ?_
 rintro i hi S H ⟨s1,e1,s3,hb⟩
 by_cases hlt:i < s.widths.length
 case pos =>
  have hw:IntKind.i64.wrap ((i:Int)+1)=i+1:=wrapI (by omega)
  simp [s1,e1,s3,hlt,sheetL]
  refine ⟨_,by kernel_rfl,ac72 hG s.widths[i] 1 20,fun _=>rfl,?_⟩
  cases hp:inI s.widths[i] 1 20
  ·simp [all_not (p:=fun n=>inI n 1 20) hlt hp]
  ·simp [s1,e1,s3,hlt,hw]
   exact ⟨rfl,step_all (p:=fun n=>inI n 1 20) hlt hb hp⟩
 have hil:i=s.widths.length:=by omega
 subst hil
 have hall:s.widths.all (inI · 1 20)=true:=all_at fun j hj=>hb j hj hj
 simp [s1,e1,s3,sheetL,hall]
 refine awp_loop 4 s.words.length (fun i S H=>S 1 = .box 1 0∧H 1=some (sheetL s)∧S 4 = .int .i64 (i:Nat)∧(∀ j (hj:j < s.words.length),j < i→wordI s s.words[j]=true)) (fun i S H h=>h.2.2.1) ⟨by simp [s1],by simp [e1,sheetL],by simp,by simp⟩ ?_
 clear s1 e1 s3 hb S H
 rintro i hi S H ⟨s1,e1,s4,hb⟩
 by_cases hlt:i < s.words.length
 case pos =>
  have hw:IntKind.i64.wrap ((i:Int)+1)=i+1:=wrapI (by omega)
  simp [s1,e1,s4,hlt,sheetL,wordA]
  refine ⟨_,by kernel_rfl,ac88 hG s q1 s.words[i] (hs.signs _ (List.getElem_mem hlt)) (hs.cuts _ (List.getElem_mem hlt)),fun _=>rfl,?_⟩
  cases hp:wordI s s.words[i]
  ·simp [all_not hlt hp]
  ·simp [s1,e1,s4,hlt,hw]
   exact ⟨rfl,step_all hlt hb hp⟩
 have hil:i=s.words.length:=by omega
 subst hil
 have hall2:s.words.all (wordI s)=true:=all_at fun j hj=>hb j hj hj
 simp [s1,e1,s4,sheetL,hall2]
 refine ⟨_,by kernel_rfl,ac72 hG s.widths.length 1 6,fun _=>rfl,?_⟩
 cases h1:inI s.widths.length 1 6
 ·simp
 simp [s1,e1,s4,sheetL]
 refine ⟨_,by kernel_rfl,ac89 hG s q1 q2,fun _=>rfl,?_⟩
 cases h2:pairsI s
 ·simp
 simp [s1,e1,s4,sheetL]
 refine ⟨_,by kernel_rfl,ac90 hG s.olo s.ohi 9,fun _=>rfl,?_⟩
 cases h3:spanI s.olo s.ohi 0 9
 ·simp
 simp [s1,e1,s4,sheetL]
 refine ⟨_,by kernel_rfl,ac90 hG s.glo s.ghi 20,fun _=>rfl,?_⟩
 cases h4:spanI s.glo s.ghi 0 20
 ·simp
 simp [s1,e1,s4,sheetL]
 refine ⟨_,by kernel_rfl,ac72 hG s.hyphen 1 20,fun _=>rfl,?_⟩
 cases h5:inI s.hyphen 1 20
 ·simp
 simp [s1,e1,s4,sheetL]
 refine ⟨_,by kernel_rfl,ac72 hG s.words.length 1 4,fun _=>rfl,?_⟩
 cases h6:inI s.words.length 1 4
 ·simp
 simp [s1,e1,s4,sheetL]
 refine ⟨_,by kernel_rfl,ac60 hG s.wide,fun _=>rfl,?_⟩
 cases h7:inI s.wide 1 400
 ·simp
 simp [s1,e1,s4,sheetL]
 refine ⟨_,by kernel_rfl,ac72 hG s.rows 1 3,fun _=>rfl,?_⟩
 simp
end Go.Proofs.Tryz
namespace Go.AL
theorem adjI_iff {α:Type} {p:α→Bool} {lt:α→α→Bool} {l:List α}:adjI p lt l=true↔(∀ x∈l,p x=true)∧∀ j (hj:j+1 < l.length),lt (l[j]'(by omega)) l[j+1]=true:=by
 unfold adjI
 rw [Bool.and_eq_true,List.all_eq_true,List.all_eq_true]
 constructor
 ·rintro ⟨h1,h2⟩
  refine ⟨h1,fun j hj => ?_⟩
  have:=h2 j (List.mem_range.2 (by omega))
  simpa [show j < l.length by omega,hj] using this
 ·rintro ⟨h1,h2⟩
  refine ⟨h1,fun j hj => ?_⟩
  rw [List.mem_range] at hj
  have:=h2 j (by omega)
  simpa [show j < l.length by omega,show j+1 < l.length by omega] using this
theorem adj_lt {l:List Int} (h:∀ j (hj:j+1 < l.length),l[j] < l[j+1]):l.Pairwise fun a b=>a < b:=by
 rw [List.pairwise_iff_getElem]
 intro i j hi hj hij
 obtain ⟨d,rfl⟩:∃ d,j=i+1+d:=⟨j - i - 1,by omega⟩
 clear hij
 induction d with
 |zero=>exact h i hj
 |succ d ih =>
  have h1:=ih (by omega)
  have h2:=h (i+1+d) hj
  exact Int.lt_trans h1 h2
end Go.AL
namespace Go.Proofs.Tryz
open Go.AL
def soonerI (a b:End):Bool:=decide (a.1 < b.1) || (a.1==b.1 && decide (a.2 < b.2))
theorem soonerI_iff {a b:End}:soonerI a b=true↔a.1 < b.1∨a.1=b.1∧a.2 < b.2:=by
 simp [soonerI]
section
variable {l:List End}
end
def notFree (s:Sheet) (n:Int):Bool:=match s.words[n.toNat]? with | some w => !w.free | none=>false
def outI (s:Sheet) (out:List Int):Bool:=risesI out 0 (s.words.length - 1) && decide (out.length < s.words.length) && !(out.any (notFree s))
def endsW (s:Sheet) (out:List Int) (n:Nat):List End:=if out.contains (n:Int) then [] else match s.words[n]? with
 |some w=>(w.cuts.map fun k=>((n:Int),k))++[((n:Int),(w.signs.length:Int))]
 |none=>[]
def endsL (s:Sheet) (out:List Int):List End:=(List.range s.words.length).flatMap (endsW s out)
def lastN (out:List Int):Nat→Int
 |0 => -1
 |n+1=>if out.contains (n:Int) then lastN out n else n
def okE (s:Sheet) (out:List Int) (e:End):Bool:=inI e.1 0 (s.words.length - 1) && !out.contains e.1 && match s.words[e.1.toNat]? with
 |some w=>e.2==(w.signs.length:Int) || w.cuts.contains e.2
 |none=>false
def lastE (s:Sheet) (out:List Int):End:=(lastN out s.words.length,match s.words[(lastN out s.words.length).toNat]? with | some w=>(w.signs.length:Int) | none=>0)
def setR (s:Sheet) (out:List Int) (es:List End):Bool:=outI s out && !es.isEmpty && (adjI (okE s out) soonerI es && (es.getLast?.getD (-1,0)==lastE s out))
theorem mem_endsL {s:Sheet} {out:List Int} {e:End}:e∈endsL s out↔okE s out e=true:=by
 unfold endsL okE inI
 rw [List.mem_flatMap]
 simp only [List.mem_range,Bool.and_eq_true,decide_eq_true_eq,Bool.not_eq_true',List.contains_eq_mem,decide_eq_false_iff_not]
 constructor
 ·rintro ⟨n,hn,he⟩
  unfold endsW at he
  split at he
  ·cases he
  rename_i hc
  have hc:¬ (n:Int)∈out:=by simpa using hc
  rw [List.getElem?_eq_getElem hn] at he
  simp only [List.mem_append,List.mem_map,List.mem_singleton] at he
  have h1:e.1=n:=by rcases he with ⟨k,_,rfl⟩ | rfl<;>rfl
  rw [h1]
  refine ⟨⟨by omega,hc⟩,?_⟩
  rw [Int.toNat_natCast,List.getElem?_eq_getElem hn]
  simp only [Bool.or_eq_true,beq_iff_eq,decide_eq_true_eq]
  rcases he with ⟨k,hk,rfl⟩ | rfl
  ·exact .inr hk
  ·exact .inl rfl
 ·rintro ⟨⟨⟨h1,h2⟩,hc⟩,h3⟩
  obtain ⟨w,k⟩:=e
  obtain ⟨n,rfl⟩:∃ n:Nat,w=n:=⟨w.toNat,by simp only at h1;omega⟩
  simp only at h1 h2 hc h3
  have hn:n < s.words.length:=by omega
  refine ⟨n,hn,?_⟩
  unfold endsW
  rw [if_neg (by simpa using hc)]
  rw [Int.toNat_natCast,List.getElem?_eq_getElem hn] at h3
  rw [List.getElem?_eq_getElem hn]
  simp only [Bool.or_eq_true,beq_iff_eq,decide_eq_true_eq] at h3
  simp only [List.mem_append,List.mem_map,List.mem_singleton]
  rcases h3 with rfl | h3
  ·exact .inr rfl
  ·exact .inl ⟨k,h3,rfl⟩
theorem endsL_sorted {s:Sheet} {out:List Int} (hw:∀ w∈s.words,risesI w.cuts 1 (w.signs.length - 1)=true):(endsL s out).Pairwise fun a b=>soonerI a b=true:=by
 unfold endsL
 rw [List.pairwise_flatMap]
 constructor
 ·intro n hn
  rw [List.mem_range] at hn
  unfold endsW
  split
  ·exact .nil
  rw [List.getElem?_eq_getElem hn]
  have h:=hw s.words[n] (List.getElem_mem hn)
  unfold risesI at h
  rw [adjI_iff] at h
  obtain ⟨h1,h2⟩:=h
  simp only
  rw [List.pairwise_append]
  refine ⟨?_,List.pairwise_singleton _ _,?_⟩
  ·rw [List.pairwise_map]
   have:s.words[n].cuts.Pairwise fun a b=>a < b:=adj_lt fun j hj=>by simpa using h2 j hj
   exact this.imp fun h=>by simp [soonerI,h]
  ·intro a ha b hb
   rw [List.mem_singleton] at hb
   subst hb
   obtain ⟨k,hk,rfl⟩:=List.mem_map.1 ha
   have:=h1 k hk
   simp [inI] at this
   simp [soonerI];omega
 ·refine List.Pairwise.imp_of_mem ?_ List.pairwise_lt_range
  intro a b ha hb hab x hx y hy
  have hx1:x.1=a:=by
   unfold endsW at hx
   split at hx
   ·cases hx
   split at hx
   ·simp only [List.mem_append,List.mem_map,List.mem_singleton] at hx
    rcases hx with ⟨k,_,rfl⟩ | rfl<;>rfl
   ·cases hx
  have hy1:y.1=b:=by
   unfold endsW at hy
   split at hy
   ·cases hy
   split at hy
   ·simp only [List.mem_append,List.mem_map,List.mem_singleton] at hy
    rcases hy with ⟨k,_,rfl⟩ | rfl<;>rfl
   ·cases hy
  rw [soonerI_iff,hx1,hy1]
  left;omega
theorem lastN_spec {out:List Int}:∀ n:Nat,(lastN out n = -1∧∀ k:Nat,k < n→(k:Int)∈out)∨∃ m:Nat,m < n∧lastN out n=m∧¬ (m:Int)∈out∧∀ k:Nat,m < k→k < n→(k:Int)∈out
 |0 => .inl ⟨rfl,fun k hk=>by omega⟩
 |n+1=>by
  unfold lastN
  split
  ·rename_i hc
   have hc:(n:Int)∈out:=by simpa using hc
   rcases lastN_spec (out:=out) n with ⟨h1,h2⟩ | ⟨m,h1,h2,h3,h4⟩
   ·refine .inl ⟨h1,fun k hk => ?_⟩
    by_cases e:k=n
    ·subst e;exact hc
    ·exact h2 k (by omega)
   ·refine .inr ⟨m,by omega,h2,h3,fun k hk hk' => ?_⟩
    by_cases e:k=n
    ·subst e;exact hc
    ·exact h4 k hk (by omega)
  ·rename_i hc
   exact .inr ⟨n,by omega,rfl,by simpa using hc,fun k h1 h2=>by omega⟩
theorem out_some {s:Sheet} {out:List Int} (h:outI s out=true):∃ m:Nat,m < s.words.length∧lastN out s.words.length=m∧¬ (m:Int)∈out∧∀ k:Nat,m < k→k < s.words.length→(k:Int)∈out:=by
 unfold outI at h
 simp only [Bool.and_eq_true,decide_eq_true_eq] at h
 obtain ⟨⟨h1,h2⟩,_⟩:=h
 rcases lastN_spec (out:=out) s.words.length with ⟨_,h3⟩ | h3
 ·exfalso
  unfold risesI at h1
  rw [adjI_iff] at h1
  obtain ⟨_,h1⟩:=h1
  have hp:out.Pairwise fun a b=>a < b:=adj_lt fun j hj=>by simpa using h1 j hj
  have hp:=List.pairwise_iff_getElem.1 hp
  have key:∀ k:Nat,k < s.words.length→∃ j,k≤j∧∃ hj:j < out.length,out[j]=k:=by
   intro k
   induction k with
   |zero =>
    intro hk
    obtain ⟨j,hj,e⟩:=List.getElem_of_mem (h3 0 hk)
    exact ⟨j,by omega,hj,e⟩
   |succ k ih =>
    intro hk
    obtain ⟨j,hkj,hj,e⟩:=ih (by omega)
    obtain ⟨j',hj',e'⟩:=List.getElem_of_mem (h3 (k+1) hk)
    refine ⟨j',?_,hj',e'⟩
    rcases Nat.lt_trichotomy j j' with h | h | h
    ·omega
    ·subst h;omega
    ·have:=hp j' j hj' hj h;omega
  obtain ⟨j,hkj,hj,_⟩:=key (s.words.length - 1) (by omega)
  omega
 ·exact h3
theorem lastE_mem {s:Sheet} {out:List Int} (h:outI s out=true):(endsL s out).getLast? = some (lastE s out):=by
 obtain ⟨m,h1,h2,h3,h4⟩:=out_some h
 have hl:lastE s out=((m:Int),((s.words[m]).signs.length:Int)):=by
  unfold lastE
  rw [h2,Int.toNat_natCast,List.getElem?_eq_getElem h1]
 rw [hl]
 unfold endsL
 obtain ⟨d,hd⟩:∃ d,s.words.length=m+1+d:=⟨s.words.length - m - 1,by omega⟩
 have key:∀ d,m+1+d≤s.words.length→((List.range (m+1+d)).flatMap (endsW s out)).getLast? = some ((m:Int),((s.words[m]).signs.length:Int)):=by
  intro d
  induction d with
  |zero =>
   intro _
   rw [Nat.add_zero,List.range_succ,List.flatMap_append,List.flatMap_singleton]
   have hm:¬ (out.contains (m:Int)=true):=by simpa using h3
   have e:endsW s out m=(s.words[m].cuts.map fun k=>((m:Int),k))++[((m:Int),(s.words[m].signs.length:Int))]:=by
    unfold endsW
    rw [if_neg hm,List.getElem?_eq_getElem h1]
   rw [e,← List.append_assoc,List.getLast?_append]
   simp
  |succ d ih =>
   intro hle
   rw [← Nat.add_assoc,List.range_succ,List.flatMap_append,List.flatMap_singleton]
   have hc:out.contains ((m+1+d:Nat):Int)=true:=by simpa using h4 (m+1+d) (by omega) (by omega)
   have e:endsW s out (m+1+d)=[]:=by
    unfold endsW
    rw [if_pos hc]
   rw [e,List.append_nil]
   exact ih (by omega)
 rw [hd]
 exact key d (by omega)
end Go.Proofs.Tryz
namespace Go.Proofs.Tryz
open Go.AL
def lenW (s:Sheet) (w:Nat):Nat:=match s.words[w]? with | some x=>x.signs.length | none=>0
theorem lenW_eq {s:Sheet} {w:Nat} (h:w < s.words.length):lenW s w=s.words[w].signs.length:=by unfold lenW;rw [List.getElem?_eq_getElem h]
def seg (w f t:Nat):List (Nat×Nat):=(List.range' f (t - f)).map fun i=>(w,i)
def rowN (s:Sheet) (out:List Int):Nat→Nat→Nat→Nat→List (Nat×Nat)
 |0,w,f,t=>seg w f t
 |d+1,w,f,t=>(if out.contains (w:Int) then [] else seg w f (lenW s w))++rowN s out d (w+1) 0 t
def rowG (s:Sheet) (out:List Int) (a e:Nat×Nat):List (Nat×Nat):=rowN s out (e.1 - a.1) a.1 a.2 e.2
def nE (e:End):Nat×Nat:=(e.1.toNat,e.2.toNat)
def aft (es:List End):Nat→Nat×Nat
 |0=>(0,0)
 |i+1=>match es[i]? with | some e=>nE e | none=>(0,0)
def rowI (s:Sheet) (out:List Int) (es:List End) (i:Nat):List (Nat×Nat):=match es[i]? with | some e=>rowG s out (aft es i) (nE e) | none=>[]
def cutI (s:Sheet) (es:List End) (i:Nat):Bool:=match es[i]? with | some e=>decide (e.2 < (lenW s e.1.toNat:Int)) | none=>false
theorem sheetI_wordI {s:Sheet} (h:sheetI s=true) {w:Word} (hw:w∈s.words):wordI s w=true:=by
 unfold sheetI endI at h
 simp only [Bool.and_eq_true,Bool.not_eq_true',List.any_eq_false] at h
 have:=h.2.1.1.2 w hw
 simpa using this
structure WordF (s:Sheet) (w:Word):Prop where
 len1:1≤w.signs.length
 len6:w.signs.length≤6
 sign:∀ n∈w.signs,0≤n∧n < s.widths.length
 cuts:risesI w.cuts 1 (w.signs.length - 1)=true
theorem wordF {s:Sheet} (h:sheetI s=true) {w:Word} (hw:w∈s.words):WordF s w:=by
 have h:=sheetI_wordI h hw
 unfold wordI at h
 simp only [Bool.and_eq_true,Bool.not_eq_true',List.any_eq_false,inI,decide_eq_true_eq] at h
 obtain ⟨⟨⟨h1,h2⟩,h3⟩,h4⟩:=h
 refine ⟨by omega,by omega,fun n hn => ?_,h4⟩
 have:=h3 n hn
 simp [signI,inI] at this
 omega
theorem rowI_eq {s:Sheet} {out:List Int} {es:List End} {i:Nat} (h:i < es.length):rowI s out es i=rowG s out (aft es i) (nE es[i]):=by
 unfold rowI;rw [List.getElem?_eq_getElem h]
theorem cutI_eq {s:Sheet} {es:List End} {i:Nat} (h:i < es.length):cutI s es i=decide (es[i].2 < (lenW s es[i].1.toNat:Int)):=by
 unfold cutI;rw [List.getElem?_eq_getElem h]
end Go.Proofs.Tryz
namespace Go.Proofs.Tryz
open Go.AL
abbrev Lt:=Int×Int
def letS (s:Sheet) (g:Nat×Nat):Lt:=((g.1:Int),match s.words[g.1]? with | some w=>w.signs[g.2]?.getD 0 | none=>0)
def betw (lo hi st:Int):Int:=lo+((hi - lo) * st).tdiv 10
def spanS (s:Sheet) (a b:Lt):Int×Int:=if a.1=b.1 then match s.pairs.find? fun p=>p.l==a.2 && p.r==b.2 with
 |some p=>(p.lo,p.hi)
 |none=>(s.olo,s.ohi)
 else (s.glo,s.ghi)
def spc (s:Sheet) (st:Int) (a b:Lt):Int:=betw (spanS s a b).1 (spanS s a b).2 st
def wdL (s:Sheet) (a:Lt):Int:=if a.2 < 0 then s.hyphen else s.widths[a.2.toNat]?.getD 0
def gapsS (s:Sheet) (st:Int) (l:List Lt):Nat→Int
 |0=>0
 |i+1=>gapsS s st l i+(match l[i]?,l[i+1]? with | some a,some b=>spc s st a b | _,_=>0)
def letsS (s:Sheet) (l:List Lt):Nat→Int
 |0=>0
 |i+1=>letsS s l i+(match l[i]? with | some a=>wdL s a | none=>0)
def wideP (s:Sheet) (st:Int) (l:List Lt) (cut:Bool):Int:=(letsS s l l.length+(if cut then s.hyphen else 0))+(gapsS s st l (l.length - 1)+(if cut then betw s.olo s.ohi st else 0))
structure SheetF (s:Sheet):Prop where
 widths:∀ n∈s.widths,1≤n∧n≤20
 wlen:s.widths.length≤6
 pairs:∀ p∈s.pairs,0≤p.l∧0≤p.r∧0≤p.lo∧p.lo≤p.hi∧p.hi≤9
 plen:s.pairs.length≤6
 o:0≤s.olo∧s.olo≤s.ohi∧s.ohi≤9
 g:0≤s.glo∧s.glo≤s.ghi∧s.ghi≤20
 hyphen:1≤s.hyphen∧s.hyphen≤20
 words:1≤s.words.length∧s.words.length≤4
 wide:1≤s.wide∧s.wide≤400
 rows:1≤s.rows∧s.rows≤3
theorem sheetF {s:Sheet} (h:sheetI s=true):SheetF s:=by
 unfold sheetI endI spanI inI at h
 simp only [Bool.and_eq_true,decide_eq_true_eq,Bool.not_eq_true',List.any_eq_false,adjI_iff] at h
 obtain ⟨⟨⟨⟨h1,h2⟩,h3⟩,h4,_⟩,⟨⟨⟨⟨⟨h5,h6⟩,h7⟩,h8⟩,_⟩,h9⟩,h10⟩:=h
 refine ⟨fun n hn => ?_,by omega,fun p hp => ?_,h2,by omega,by omega,by omega,by omega,h9,h10⟩
 ·have:=h5 n hn
  simpa using this
 ·have:=h4 p hp
  unfold pairI signI spanI inI at this
  simp only [Bool.and_eq_true,decide_eq_true_eq] at this
  omega
end Go.Proofs.Tryz
namespace Go.Proofs.Tryz
open Go.AL
def wideI (s:Sheet) (out:List Int) (es:List End) (st:Int) (i:Nat):Int:=wideP s st ((rowI s out es i).map (letS s)) (cutI s es i)
def widthsI (s:Sheet) (out:List Int) (es:List End) (st:Int):List Int:=(List.range es.length).map (wideI s out es st)
def fitI (s:Sheet) (out:List Int) (es:List End) (st:Int):Bool:=decide ((es.length:Int)≤s.rows) && (widthsI s out es st).all fun n=>decide (n≤s.wide)
section
variable {s:Sheet} {out:List Int} {es:List End}
end
theorem mem_ch {now es:List End}:∀ {all:List End} {m:Nat},all≠[]→all.Nodup→(es∈ch now all m↔∃ t,es=now++t∧t.Sublist all∧t.getLast? = all.getLast? ∧ t.length≤m):=by
 have key:∀ (all:List End),all.Nodup→∀ (now:List End) (m:Nat),(all≠[]→(es∈ch now all m↔∃ t,es=now++t∧t.Sublist all∧t.getLast? = all.getLast? ∧ t.length≤m))∧(all≠[]→(es∈lp now all m↔∃ t,es=now++t∧t.Sublist all∧t.getLast? = all.getLast? ∧ t.length≤m+1)):=by
  intro all
  induction all with
  |nil=>intro _ now m;exact ⟨fun h=>absurd rfl h,fun h=>absurd rfl h⟩
  |cons a r ih =>
   intro hnd
   obtain ⟨hna,hnr⟩:=List.nodup_cons.1 hnd
   have ih:=ih hnr
   have hlp:∀ (now:List End) (m:Nat),es∈lp now (a::r) m↔∃ t,es=now++t∧t.Sublist (a::r)∧t.getLast? = (a::r).getLast? ∧ t.length≤m+1:=by
    intro now m
    unfold lp
    rw [List.mem_append]
    by_cases hr:r=[]
    ·subst hr
     rw [if_pos rfl,List.mem_singleton]
     constructor
     ·rintro (h | h)
      ·exact ⟨[a],h,List.Sublist.refl _,rfl,by simp⟩
      ·unfold lp at h;cases h
     ·rintro ⟨t,h1,h2,h3,h4⟩
      left
      have:t=[a]:=by
       cases h2 with
       |cons _ h=>rw [List.sublist_nil.1 h] at h3;cases h3
       |cons_cons _ h=>rw [List.sublist_nil.1 h]
      rw [h1,this]
    ·rw [if_neg hr]
     have hl:(a::r).getLast? = r.getLast? := by
      cases r with
      |nil=>exact absurd rfl hr
      |cons b r=>rfl
     have h1:(es∈(match m with | 0=>[] | m+1=>lp (now++[a]) r m))↔∃ t,es=now++a::t∧t.Sublist r∧t.getLast? = r.getLast? ∧ t.length≤m:=by
      cases m with
      |zero =>
       constructor
       ·intro h;cases h
       ·rintro ⟨t,_,_,h3,h4⟩
        have:t=[]:=List.length_eq_zero_iff.1 (by omega)
        subst this
        exact absurd (List.getLast?_eq_none_iff.1 h3.symm) hr
      |succ m =>
       simp only
       rw [(ih (now++[a]) m).2 hr]
       simp
     rw [hl]
     refine (or_congr h1 ((ih now m).2 hr)).trans ?_
     constructor
     ·rintro (⟨t,a1,a2,a3,a4⟩ | ⟨t,a1,a2,a3,a4⟩)
      ·refine ⟨a::t,a1,a2.cons_cons _,?_,by simp;omega⟩
       cases t with
       |nil=>exact absurd (List.getLast?_eq_none_iff.1 a3.symm) hr
       |cons b t=>rw [← a3];rfl
      ·exact ⟨t,a1,a2.cons _,a3,a4⟩
     ·rintro ⟨t,a1,a2,a3,a4⟩
      cases a2 with
      |cons _ h=>exact .inr ⟨t,a1,h,a3,a4⟩
      |cons_cons _ h =>
       rename_i t
       left
       refine ⟨t,a1,h,?_,by simpa using a4⟩
       cases t with
       |nil =>
        exfalso
        apply hna
        exact List.mem_of_getLast? a3.symm
       |cons b t=>rw [← a3];rfl
   intro now m
   refine ⟨fun _ => ?_,fun _=>hlp now m⟩
   unfold ch
   rw [if_neg (by simp)]
   cases m with
   |zero =>
    constructor
    ·intro h;cases h
    ·rintro ⟨t,_,_,h3,h4⟩
     have:t=[]:=List.length_eq_zero_iff.1 (by omega)
     subst this
     cases r with
     |nil=>cases h3
     |cons b r=>exact absurd (List.getLast?_eq_none_iff.1 h3.symm) (by simp)
   |succ m=>exact hlp now m
 intro all m h hnd
 exact (key all hnd now m).1 h
end Go.Proofs.Tryz
namespace Go.Proofs.Tryz
open Go.AL
theorem soonerI_trans {a b c:End} (h:soonerI a b=true) (h':soonerI b c=true):soonerI a c=true:=by
 rw [soonerI_iff] at *;omega
theorem soonerI_irrefl (a:End):soonerI a a=false:=by
 cases h:soonerI a a with
 |false=>rfl
 |true=>rw [soonerI_iff] at h;omega
abbrev Sorted (l:List End):Prop:=l.Pairwise fun a b=>soonerI a b=true
theorem Sorted.nodup {l:List End} (h:Sorted l):l.Nodup:=h.imp fun hab e=>by
 subst e;rw [soonerI_irrefl] at hab;cases hab
theorem sorted_sub:∀ {all t:List End},Sorted all→Sorted t→(∀ x∈t,x∈all)→t.Sublist all
 |[],t,_,_,h=>by
  cases t with
  |nil=>exact .slnil
  |cons a t=>exact absurd (h a List.mem_cons_self) (by simp)
 |a::r,[],_,_,_=>List.nil_sublist _
 |a::r,b::t,hs,ht,h=>by
  obtain ⟨hs1,hs2⟩:=List.pairwise_cons.1 hs
  obtain ⟨ht1,ht2⟩:=List.pairwise_cons.1 ht
  rcases List.mem_cons.1 (h b List.mem_cons_self) with e | hb
  ·subst e
   refine .cons_cons _ (sorted_sub hs2 ht2 fun x hx => ?_)
   rcases List.mem_cons.1 (h x (List.mem_cons_of_mem _ hx)) with e | hx'
   ·subst e
    have:=ht1 _ hx
    rw [soonerI_irrefl] at this;cases this
   ·exact hx'
  ·refine .cons _ (sorted_sub hs2 ht fun x hx => ?_)
   rcases List.mem_cons.1 (h x hx) with e | hx'
   ·subst e
    exfalso
    have h1:=hs1 b hb
    rcases List.mem_cons.1 hx with e | hx2
    ·subst e;rw [soonerI_irrefl] at h1;cases h1
    ·have:=soonerI_trans h1 (ht1 _ hx2)
     rw [soonerI_irrefl] at this;cases this
   ·exact hx'
theorem sorted_of_adj {l:List End} (h:∀ j (hj:j+1 < l.length),soonerI (l[j]'(by omega)) l[j+1]=true):Sorted l:=by
 unfold Sorted
 rw [List.pairwise_iff_getElem]
 intro i j hi hj hij
 obtain ⟨d,rfl⟩:∃ d,j=i+1+d:=⟨j - i - 1,by omega⟩
 clear hij
 induction d with
 |zero=>exact h i hj
 |succ d ih=>exact soonerI_trans (ih (by omega)) (h (i+1+d) hj)
section
variable {s:Sheet} {out:List Int} {es:List End}
theorem endsL_ne (ho:outI s out=true):endsL s out≠[]:=by
 intro e
 have:=lastE_mem ho
 rw [e] at this;cases this
theorem sheet_cuts (hs:sheetI s=true):∀ w∈s.words,risesI w.cuts 1 (w.signs.length - 1)=true:=fun _ hw=>(wordF hs hw).cuts
def allS (s:Sheet) (out:List Int) (m:Nat):List (List End):=ch [] (endsL s out) m
theorem mem_allS (hs:sheetI s=true) (ho:outI s out=true) {m:Nat}:es∈allS s out m↔setR s out es=true∧es.length≤m:=by
 have hso:=endsL_sorted (out:=out) (sheet_cuts hs)
 unfold allS
 rw [mem_ch (endsL_ne ho) (Sorted.nodup hso)]
 unfold setR
 rw [ho,Bool.true_and,Bool.and_eq_true,Bool.and_eq_true,adjI_iff,Bool.not_eq_true',beq_iff_eq]
 have hl:=lastE_mem ho
 constructor
 ·rintro ⟨t,h1,h2,h3,h4⟩
  rw [List.nil_append] at h1
  subst h1
  rw [h3,hl]
  have hne:es≠[]:=by
   rintro rfl
   rw [hl] at h3;cases h3
  have hst:Sorted es:=hso.sublist h2
  refine ⟨⟨by simpa using hne,⟨fun x hx=>mem_endsL.1 (h2.subset hx),fun j hj=>List.pairwise_iff_getElem.1 hst j (j+1) _ _ (by omega)⟩,rfl⟩,h4⟩
 ·rintro ⟨⟨h1,⟨h2,h3⟩,h4⟩,h5⟩
  have hne:es≠[]:=by
   rintro rfl
   cases h1
  refine ⟨es,rfl,sorted_sub hso (sorted_of_adj h3) fun x hx=>mem_endsL.2 (h2 x hx),?_,h5⟩
  rw [List.getLast?_eq_some_getLast hne] at h4 ⊢
  rw [hl]
  exact congrArg some h4
end
def befE:List End→List End→Bool
 |[],[]=>false
 |[],_::_=>true
 |_::_,[]=>false
 |a::x,b::y=>if a=b then befE x y else soonerI a b
theorem befE_app (now x y:List End):befE (now++x) (now++y)=befE x y:=by
 induction now with
 |nil=>rfl
 |cons a now ih =>
  show (if a=a then befE (now++x) (now++y) else soonerI a a)=_
  rw [if_pos rfl,ih]
theorem befE_irrefl:∀ l:List End,befE l l=false
 |[]=>rfl
 |a::l=>by
  unfold befE
  rw [if_pos rfl];exact befE_irrefl l
theorem mem_lp_head {es:List End}:∀ {all now:List End} {m:Nat},es∈lp now all m→∃ b t,b∈all∧es=now++b::t
 |[],now,m,h=>by unfold lp at h;cases h
 |a::r,now,m,h=>by
  unfold lp at h
  rcases List.mem_append.1 h with h | h
  ·split at h
   ·exact ⟨a,[],List.mem_cons_self,List.mem_singleton.1 h⟩
   ·split at h
    ·cases h
    ·obtain ⟨b,t,h1,rfl⟩:=mem_lp_head h
     exact ⟨a,b::t,List.mem_cons_self,by simp⟩
  ·obtain ⟨b,t,h1,rfl⟩:=mem_lp_head h
   exact ⟨b,t,List.mem_cons_of_mem _ h1,rfl⟩
theorem lp_sorted:∀ {all now:List End} {m:Nat},Sorted all→(lp now all m).Pairwise fun x y=>befE x y=true
 |[],now,m,_=>by unfold lp;exact .nil
 |a::r,now,m,hs=>by
  obtain ⟨hs1,hs2⟩:=List.pairwise_cons.1 hs
  unfold lp
  rw [List.pairwise_append]
  refine ⟨?_,lp_sorted hs2,?_⟩
  ·split
   ·exact List.pairwise_singleton _ _
   ·split
    ·exact .nil
    ·exact lp_sorted hs2
  ·intro x hx y hy
   obtain ⟨b,t,hb,rfl⟩:=mem_lp_head hy
   have hx':∃ u,x=now++a::u:=by
    split at hx
    ·exact ⟨[],List.mem_singleton.1 hx⟩
    ·split at hx
     ·cases hx
     ·obtain ⟨c,u,_,rfl⟩:=mem_lp_head hx
      exact ⟨c::u,by simp⟩
   obtain ⟨u,rfl⟩:=hx'
   rw [befE_app]
   unfold befE
   have hab:=hs1 b hb
   rw [if_neg,hab]
   rintro rfl
   rw [soonerI_irrefl] at hab;cases hab
theorem ch_sorted {all now:List End} {m:Nat} (hs:Sorted all):(ch now all m).Pairwise fun x y=>befE x y=true:=by
 unfold ch
 split
 ·exact List.pairwise_singleton _ _
 ·split
  ·exact .nil
  ·exact lp_sorted hs
theorem befE_nodup {l:List (List End)} (h:l.Pairwise fun x y=>befE x y=true):l.Nodup:=h.imp fun hab e=>by
 subst e;rw [befE_irrefl] at hab;cases hab
def goodS (s:Sheet) (out:List Int):List (List End):=(allS s out s.rows.toNat).filter fun es=>fitI s out es 0
theorem mem_goodS {s:Sheet} {out:List Int} {es:List End} (hs:sheetI s=true) (ho:outI s out=true):es∈goodS s out↔setR s out es=true∧fitI s out es 0=true:=by
 unfold goodS
 rw [List.mem_filter,mem_allS hs ho]
 constructor
 ·rintro ⟨⟨h1,_⟩,h2⟩;exact ⟨h1,h2⟩
 ·rintro ⟨h1,h2⟩
  refine ⟨⟨h1,?_⟩,h2⟩
  unfold fitI at h2
  simp only [Bool.and_eq_true,decide_eq_true_eq] at h2
  omega
theorem goodS_sorted {s:Sheet} {out:List Int} (hs:sheetI s=true):(goodS s out).Pairwise fun x y=>befE x y=true :=
 (ch_sorted (endsL_sorted (sheet_cuts hs))).sublist List.filter_sublist
section
variable {α:Type}
end
end Go.Proofs.Tryz
namespace Go.Proofs.Tryz
open Go.AL
theorem nodup_len {α:Type} [DecidableEq α]:∀ {l r:List α},l.Nodup→(∀ x∈l,x∈r)→l.length≤r.length
 |[],_,_,_=>Nat.zero_le _
 |a::l,r,h,hs=>by
  obtain ⟨h1,h2⟩:=List.nodup_cons.1 h
  have ha:=hs a List.mem_cons_self
  have hl:=List.length_erase_of_mem ha
  have hp:=List.length_pos_of_mem ha
  have:=nodup_len (r:=r.erase a) h2 fun x hx=>(List.mem_erase_of_ne (by rintro rfl;exact h1 hx)).2 (hs x (List.mem_cons_of_mem _ hx))
  simp only [List.length_cons]
  omega
structure WordW (w x:Word):Prop where
 signs:x.signs=w.signs
 free:x.free=w.free
 cuts:∀ c∈w.cuts,c∈x.cuts
structure Wider (s x:Sheet):Prop where
 widths:x.widths=s.widths
 pairs:x.pairs=s.pairs
 olo:x.olo=s.olo
 ohi:x.ohi=s.ohi
 glo:x.glo=s.glo
 ghi:x.ghi=s.ghi
 hyphen:x.hyphen=s.hyphen
 len:x.words.length=s.words.length
 words:∀ i (h:i < s.words.length),WordW s.words[i] (x.words[i]'(by omega))
 wide:s.wide≤x.wide
 rows:s.rows≤x.rows
section
variable {s x:Sheet} {out:List Int} {es:List End}
theorem Wider.lenW (h:Wider s x) (i:Nat):lenW x i=lenW s i:=by
 unfold Tryz.lenW
 by_cases hi:i < s.words.length
 ·rw [List.getElem?_eq_getElem hi,List.getElem?_eq_getElem (by rw [h.len];exact hi)]
  simp only
  rw [(h.words i hi).signs]
 ·have:=h.len
  rw [List.getElem?_eq_none (show s.words.length≤i by omega),List.getElem?_eq_none (show x.words.length≤i by omega)]
theorem Wider.letS (h:Wider s x) (g:Nat×Nat):letS x g=letS s g:=by
 unfold Tryz.letS
 by_cases hi:g.1 < s.words.length
 ·rw [List.getElem?_eq_getElem hi,List.getElem?_eq_getElem (by rw [h.len];exact hi)]
  simp only
  rw [(h.words g.1 hi).signs]
 ·have:=h.len
  rw [List.getElem?_eq_none (show s.words.length≤g.1 by omega),List.getElem?_eq_none (show x.words.length≤g.1 by omega)]
theorem rowN_congr {s x:Sheet} (h:∀ i,Tryz.lenW x i=Tryz.lenW s i) (out:List Int):∀ d w f t,rowN x out d w f t=rowN s out d w f t
 |0,_,_,_=>rfl
 |d+1,w,f,t=>by
  unfold rowN
  rw [h,rowN_congr h out d]
theorem Wider.rowI (h:Wider s x) (i:Nat):rowI x out es i=rowI s out es i:=by
 unfold Tryz.rowI
 split
 ·unfold rowG;rw [rowN_congr h.lenW]
 ·rfl
theorem Wider.cutI (h:Wider s x) (i:Nat):cutI x es i=cutI s es i:=by
 unfold Tryz.cutI
 split
 ·rw [h.lenW]
 ·rfl
theorem spc_congr {s x:Sheet} (h2:x.pairs=s.pairs) (h3:x.olo=s.olo) (h4:x.ohi=s.ohi) (h5:x.glo=s.glo) (h6:x.ghi=s.ghi) (st:Int) (a b:Lt):spc x st a b=spc s st a b:=by
 unfold spc spanS
 rw [h2,h3,h4,h5,h6]
theorem wideP_congr {s x:Sheet} (h1:x.widths=s.widths) (h2:x.pairs=s.pairs) (h3:x.olo=s.olo) (h4:x.ohi=s.ohi) (h5:x.glo=s.glo) (h6:x.ghi=s.ghi) (h7:x.hyphen=s.hyphen) (st:Int) (l:List Lt) (cut:Bool):wideP x st l cut=wideP s st l cut:=by
 have e1:∀ i,letsS x l i=letsS s l i:=by
  intro i
  induction i with
  |zero=>rfl
  |succ i ih =>
   unfold letsS
   rw [ih]
   congr 1
   split
   ·unfold wdL;rw [h1,h7]
   ·rfl
 have e2:∀ i,gapsS x st l i=gapsS s st l i:=by
  intro i
  induction i with
  |zero=>rfl
  |succ i ih =>
   unfold gapsS
   rw [ih]
   congr 1
   split
   ·exact spc_congr h2 h3 h4 h5 h6 st _ _
   ·rfl
 unfold wideP
 rw [e1,e2,h3,h4,h7]
theorem Wider.wideI (h:Wider s x) (st:Int) (i:Nat):wideI x out es st i=wideI s out es st i:=by
 unfold Tryz.wideI
 rw [h.rowI,h.cutI,wideP_congr h.widths h.pairs h.olo h.ohi h.glo h.ghi h.hyphen]
 congr 1
 exact List.map_congr_left fun g _=>h.letS g
theorem Wider.widthsI (h:Wider s x) (st:Int):widthsI x out es st=widthsI s out es st:=by
 unfold Tryz.widthsI
 exact List.map_congr_left fun i _=>h.wideI st i
theorem Wider.fitI (h:Wider s x) {st:Int} (hf:fitI s out es st=true):fitI x out es st=true:=by
 unfold Tryz.fitI at hf ⊢
 rw [h.widthsI]
 simp only [Bool.and_eq_true,List.all_eq_true,decide_eq_true_eq] at hf ⊢
 have:=h.wide
 have:=h.rows
 exact ⟨by omega,fun n hn=>by have:=hf.2 n hn;omega⟩
theorem Wider.outI (h:Wider s x):outI x out=outI s out:=by
 unfold Tryz.outI
 rw [h.len]
 have:notFree x=notFree s:=by
  unfold notFree
  funext n
  by_cases hi:n.toNat < s.words.length
  ·rw [List.getElem?_eq_getElem hi,List.getElem?_eq_getElem (by rw [h.len];exact hi)]
   simp only
   rw [(h.words _ hi).free]
  ·have:=h.len
   rw [List.getElem?_eq_none (show s.words.length≤n.toNat by omega),List.getElem?_eq_none (show x.words.length≤n.toNat by omega)]
 rw [this]
theorem Wider.setR (h:Wider s x) (hr:setR s out es=true):setR x out es=true:=by
 unfold Tryz.setR at hr ⊢
 rw [h.outI]
 simp only [Bool.and_eq_true,adjI_iff] at hr ⊢
 obtain ⟨h1,⟨h2,h3⟩,h4⟩:=hr
 refine ⟨h1,⟨fun e he => ?_,h3⟩,?_⟩
 ·have:=h2 e he
  unfold okE at this ⊢
  rw [h.len]
  by_cases hi:e.1.toNat < s.words.length
  ·rw [List.getElem?_eq_getElem hi] at this
   rw [List.getElem?_eq_getElem (by rw [h.len];exact hi)]
   simp only [Bool.and_eq_true,Bool.or_eq_true] at this ⊢
   rw [(h.words _ hi).signs]
   refine ⟨this.1,this.2.imp id fun hc => ?_⟩
   have:=(h.words _ hi).cuts e.2 (by simpa using hc)
   simpa using this
  ·rw [List.getElem?_eq_none (by omega)] at this
   simp at this
 ·have e1:lastE x out=lastE s out:=by
   unfold lastE
   rw [h.len]
   congr 1
   by_cases hi:(lastN out s.words.length).toNat < s.words.length
   ·rw [List.getElem?_eq_getElem hi,List.getElem?_eq_getElem (by rw [h.len];exact hi)]
    simp only
    rw [(h.words _ hi).signs]
   ·have:=h.len
    rw [List.getElem?_eq_none (show s.words.length≤(lastN out s.words.length).toNat by omega),List.getElem?_eq_none (show x.words.length≤(lastN out s.words.length).toNat by omega)]
  rw [e1];exact h4
theorem Wider.good (h:Wider s x) (hs:sheetI s=true) (hx:sheetI x=true) (ho:Tryz.outI s out=true) (hm:es∈goodS s out):es∈goodS x out:=by
 rw [mem_goodS hx (by rw [h.outI];exact ho)]
 rw [mem_goodS hs ho] at hm
 exact ⟨h.setR hm.1,h.fitI hm.2⟩
theorem Wider.count (h:Wider s x) (hs:sheetI s=true) (hx:sheetI x=true) (ho:Tryz.outI s out=true):(goodS s out).length≤(goodS x out).length :=
 nodup_len (befE_nodup (goodS_sorted hs)) fun _ hm=>h.good hs hx ho hm
end
end Go.Proofs.Tryz
namespace Go.Proofs.Tryz
open Go.AL
theorem rises_bound {l:List Int} {lo hi:Int} (h:risesI l lo hi=true) (hle:lo≤hi+1):(l.length:Int)≤hi+1 - lo:=by
 have h':=h
 unfold risesI at h
 rw [adjI_iff] at h
 obtain ⟨h1,h2⟩:=h
 have key:∀ j (hj:j < l.length),lo+j≤l[j]:=by
  intro j
  induction j with
  |zero =>
   intro hj
   have:=h1 _ (List.getElem_mem hj)
   simp [inI] at this
   simpa using this.1
  |succ j ih =>
   intro hj
   have:=ih (by omega)
   have:=h2 j hj
   simp at this
   omega
 by_cases h0:l.length=0
 ·omega
 ·have a:=key (l.length - 1) (by omega)
  have b:=h1 _ (List.getElem_mem (show l.length - 1 < l.length by omega))
  simp [inI] at b
  omega
end Go.Proofs.Tryz
namespace Go.Proofs.Tryz
open Go.AL
end Go.Proofs.Tryz
namespace Go.AL
section
variable {P:Program} {GI:World→Prop}
end
end Go.AL
namespace Go.Proofs.Tryz
open Go Go.AL Go.RowKit Go.Proofs
attribute [local simp] awp_all qs_all ops_all dops_all ops_nil dops_nil ops_call ops_callv ops_alloc ops_box dops_call dops_alloc kO_eq kD_eq awanted apure ev Eff.S Eff.H tmpOf upd putD AL.start AV.dem AV.cells AV.storable AV.scells splice scrub abin loadA HR.okB post ares aress ares1 AV.out AV.isData ints_len ints_get fz fz1 AV.vw AV.vw1 boxy vI int undefA assignQ thenQ blockQ seqQ panQ prol prolH allocOf
variable {GI:World→Prop}
def wordS (w:Word):Bool:=decide (w.signs.length≤8) && decide (w.cuts.length≤8)
def shortI (s:Sheet):Bool:=(s.words.take 6).all wordS && (decide (s.widths.length≤8) && decide (s.pairs.length≤8) && decide (s.words.length≤6))
theorem shortI_slim {s:Sheet} (h:shortI s=true):Slim s:=by
 unfold shortI at h
 simp only [Bool.and_eq_true,decide_eq_true_eq] at h
 obtain ⟨h1,⟨h2,h3⟩,h4⟩:=h
 rw [List.take_of_length_le h4,List.all_eq_true] at h1
 have h5:∀ w∈s.words,w.signs.length≤8∧w.cuts.length≤8:=fun w hw=>by simpa [wordS] using h1 w hw
 exact ⟨by omega,by omega,by omega,fun w hw=>by have:=(h5 w hw).1;omega,fun w hw=>by have:=(h5 w hw).2;omega⟩
set_option maxHeartbeats 1000000 in
theorem ac29 (hG:Stable GI) (s:Sheet):AC prog GI 29 [sheetA s] (.ret (.bool (shortI s))):=by
 refine AC.of_body hG hmix func29 rfl ntmps29 (by simp) (ac:=c29) (by kernel_rfl) ?_
 simp [c29,sheetA,sheetL]
 refine awp_loop 3 (min s.words.length 6) (fun i S H=>S 1 = .box 1 0∧H 1=some (sheetL s)∧S 3 = .int .i64 (i:Nat)∧(∀ j (hj:j < (s.words.take 6).length),j < i→wordS (s.words.take 6)[j]=true)) (fun i S H h=>h.2.2.1) ⟨by simp,by simp [sheetL],by simp,by simp⟩ ?_
 rintro i hi S H ⟨s1,e1,s3,hb⟩
 by_cases hlt:i < s.words.length
 case neg =>
  have hil:i=s.words.length:=by omega
  subst hil
  have hl6:s.words.length≤6:=by omega
  have hall:(s.words.take 6).all wordS=true:=all_at fun j hj=>hb j hj (by rw [List.length_take] at hj;omega)
  have hl6':(s.words.length:Int)≤6:=by omega
  by_cases h1:s.widths.length≤8<;>by_cases h2:s.pairs.length≤8<;>simp [s1,e1,s3,sheetL,shortI,hall,h1,h2,hl6,hl6',show ((s.widths.length:Int)≤8)↔s.widths.length≤8 by omega,show ((s.pairs.length:Int)≤8)↔s.pairs.length≤8 by omega]
 by_cases h6:i < 6
 case neg =>
  have hi6:¬ (i:Int) < 6:=by omega
  have hall:(s.words.take 6).all wordS=true:=all_at fun j hj=>hb j hj (by rw [List.length_take] at hj;omega)
  by_cases h1:s.widths.length≤8<;>by_cases h2:s.pairs.length≤8<;>simp [s1,e1,s3,hlt,hi6,sheetL,shortI,hall,h1,h2,show ((s.widths.length:Int)≤8)↔s.widths.length≤8 by omega,show ((s.pairs.length:Int)≤8)↔s.pairs.length≤8 by omega,show ((s.words.length:Int)≤6)↔s.words.length≤6 by omega]
 have hw:IntKind.i64.wrap ((i:Int)+1)=i+1:=wrapI (by omega)
 have hi6:(i:Int) < 6:=by omega
 have hit:i < (s.words.take 6).length:=by rw [List.length_take];omega
 have hget:(s.words.take 6)[i]=s.words[i]:=List.getElem_take
 by_cases h1:s.words[i].signs.length≤8
 case neg =>
  have hf:wordS (s.words.take 6)[i]=false:=by rw [hget];simp [wordS,h1]
  have h1':(8:Int) < s.words[i].signs.length:=by omega
  simp [s1,e1,s3,hlt,hi6,sheetL,wordA,vI,h1']
  simp [shortI,all_not hit hf]
 have h1':¬ (8:Int) < s.words[i].signs.length:=by omega
 by_cases h2:s.words[i].cuts.length≤8
 case neg =>
  have h2':(8:Int) < s.words[i].cuts.length:=by omega
  have hf:wordS (s.words.take 6)[i]=false:=by rw [hget];simp [wordS,h2]
  simp [s1,e1,s3,hlt,hi6,sheetL,wordA,vI,h1',h2']
  simp [shortI,all_not hit hf]
 have h2':¬ (8:Int) < s.words[i].cuts.length:=by omega
 have ht:wordS (s.words.take 6)[i]=true:=by rw [hget];simp [wordS,h1,h2]
 simp [s1,e1,s3,hlt,hi6,sheetL,wordA,vI,h1',h2',hw]
 exact ⟨by omega,fun j hj hji=>by
  have:=step_all hit hb ht j (by rw [List.length_take];omega) hji
  rwa [List.getElem_take] at this⟩
theorem ac52 (hG:Stable GI) (a b:List Int) (ha:a.length < 1000000):AC prog GI 52 [vI a,vI b] (.ret (.bool (a==b))):=by
 refine AC.of_body hG hmix func52 rfl ntmps52 (by simp) (ac:=c52) (by kernel_rfl) ?_
 by_cases hl:a.length=b.length
 case neg =>
  have hne:(a==b)=false:=by
   rw [beq_eq_false_iff_ne]
   exact fun h=>hl (congrArg List.length h)
  have hln:((a.length:Int) != (b.length:Int))=true:=by simp;omega
  simp [c52,hln,hne]
 simp [c52,hl]
 refine awp_loop 5 b.length (fun i S H=>S 0=vI a∧S 1=vI b∧S 5 = .int .i64 (i:Nat)∧∀ j (hj:j < a.length),j < i→a[j]=b[j]'(by omega)) (fun i S H h=>h.2.2.1) ⟨by simp,by simp,by simp,by simp⟩ ?_
 rintro i hi S H ⟨s0,s1,s5,hb⟩
 by_cases hlt:i < b.length
 ·have hlt':i < a.length:=by omega
  have hw:IntKind.i64.wrap ((i:Int)+1)=i+1:=wrapI (by omega)
  by_cases he:a[i]=b[i]
  ·have hbe:(a[i] != b[i])=false:=by simp [he]
   simp [s0,s1,s5,hlt,hlt',hbe,hw]
   intro j hj hji
   by_cases e:j=i
   ·subst e;exact he
   ·exact hb j hj (by omega)
  ·have hne:(a==b)=false:=by
    rw [beq_eq_false_iff_ne]
    rintro rfl
    exact he rfl
   have hbe:(a[i] != b[i])=true:=by simp [he]
   simp [s0,s1,s5,hlt,hlt',hbe,hne]
 ·have hil:i=b.length:=by omega
  subst hil
  have hab:a=b:=List.ext_getElem hl fun j h1 h2=>hb j h1 (by omega)
  simp [s0,s1,s5,hab]
end Go.Proofs.Tryz
namespace Go.AL
theorem AC.as_view {P:Program} {GI:World→Prop} {f:Nat} {args:List AV} {o:Ow} {es:List AV} (h:AC P GI f args (.ret (.slice o es))):AC P GI f args (.ret (.slice .view es)):=by
 intro w old cargs h1 h2 h3
 refine (h w old cargs h1 h2 h3).mono ?_
 rintro e w' ⟨hb,hi,h0,c,rfl,hv,_⟩
 refine ⟨hb,hi,h0,c,rfl,?_,trivial⟩
 cases hv with
 |data _ _ h=>exact .data _ _ (Go.Proofs.Tryz.RD.anyFlag h)
theorem ints_ok (l:List Int):elemsOK 1 (ints l)=true:=by simp [elemsOK,ints,AV.storable,AV.cells]
def grown (l:List Int):AV := .slice (if l.isEmpty then .nil else .own 3) (ints l)
end Go.AL
namespace Go.Proofs.Tryz
open Go Go.AL Go.RowKit Go.Proofs
attribute [local simp] awp_all qs_all ops_all dops_all ops_nil dops_nil ops_call ops_callv ops_alloc ops_box dops_call dops_alloc kO_eq kD_eq awanted apure ev Eff.S Eff.H tmpOf upd putD AL.start AV.dem AV.cells AV.storable AV.scells splice scrub abin loadA HR.okB post ares aress ares1 AV.out AV.isData ints_len ints_get fz fz1 AV.vw AV.vw1 boxy vI int undefA assignQ thenQ blockQ seqQ panQ prol prolH allocOf
variable {GI:World→Prop}
end Go.Proofs.Tryz
namespace Go.Proofs.Tryz
open Go Go.AL Go.RowKit Go.Proofs
attribute [local simp] awp_all qs_all ops_all dops_all ops_nil dops_nil ops_call ops_callv ops_alloc ops_box dops_call dops_alloc kO_eq kD_eq awanted apure ev Eff.S Eff.H tmpOf upd putD AL.start AV.dem AV.cells AV.storable AV.scells splice scrub abin loadA HR.okB post ares aress ares1 AV.out AV.isData ints_len ints_get fz fz1 AV.vw AV.vw1 boxy vI int undefA assignQ thenQ blockQ seqQ panQ prol prolH allocOf
variable {GI:World→Prop}
end Go.Proofs.Tryz
namespace Go.Proofs.Tryz
open Go Go.AL Go.RowKit Go.Proofs
attribute [local simp] awp_all qs_all ops_all dops_all ops_nil dops_nil ops_call ops_callv ops_alloc ops_box dops_call dops_alloc kO_eq kD_eq awanted apure ev Eff.S Eff.H tmpOf upd putD AL.start AV.dem AV.cells AV.storable AV.scells splice scrub abin loadA HR.okB post ares aress ares1 AV.out AV.isData ints_len ints_get fz fz1 AV.vw AV.vw1 boxy vI int undefA assignQ thenQ blockQ seqQ panQ prol prolH allocOf
variable {GI:World→Prop}
end Go.Proofs.Tryz
namespace Go.Proofs.Tryz
open Go Go.AL Go.RowKit Go.Proofs
attribute [local simp] awp_all qs_all ops_all dops_all ops_nil dops_nil ops_call ops_callv ops_alloc ops_box dops_call dops_alloc kO_eq kD_eq awanted apure ev Eff.S Eff.H tmpOf upd putD AL.start AV.dem AV.cells AV.storable AV.scells splice scrub abin loadA HR.okB post ares aress ares1 AV.out AV.isData ints_len ints_get fz fz1 AV.vw AV.vw1 boxy vI int undefA assignQ thenQ blockQ seqQ panQ prol prolH allocOf
variable {GI:World→Prop}
def ML (GI:World→Prop):Prop:=∀ w,GI w→∃ m,w.cell? ⟨1,0,none⟩=some (.int .i64 m)
end Go.Proofs.Tryz
namespace Go.AL
end Go.AL
namespace Go.Proofs.Tryz
open Go Go.AL Go.RowKit Go.Proofs
attribute [local simp] awp_all qs_all ops_all dops_all ops_nil dops_nil ops_call ops_callv ops_alloc ops_box dops_call dops_alloc kO_eq kD_eq awanted apure ev Eff.S Eff.H tmpOf upd putD AL.start AV.dem AV.cells AV.storable AV.scells splice scrub abin loadA HR.okB post ares aress ares1 AV.out AV.isData ints_len ints_get fz fz1 AV.vw AV.vw1 boxy vI int undefA assignQ thenQ blockQ seqQ panQ prol prolH allocOf
variable {GI:World→Prop}
end Go.Proofs.Tryz
namespace Go.AL
section
variable {P:Program} {GI:World→Prop}
end
end Go.AL
namespace Go.Proofs.Tryz
open Go Go.AL Go.RowKit Go.Proofs
attribute [local simp] awp_all qs_all ops_all dops_all ops_nil dops_nil ops_call ops_callv ops_alloc ops_box dops_call dops_alloc kO_eq kD_eq awanted apure ev Eff.S Eff.H tmpOf upd putD AL.start AV.dem AV.cells AV.storable AV.scells splice scrub abin loadA HR.okB post ares aress ares1 AV.out AV.isData ints_len ints_get fz fz1 AV.vw AV.vw1 boxy vI int undefA assignQ thenQ blockQ seqQ panQ prol prolH allocOf
variable {GI:World→Prop}
end Go.Proofs.Tryz
namespace Go.AL
section
variable {P:Program} {GI:World→Prop}
theorem ops_allN :
  (∀ x0 x1,OE P GI (.mv x0 x1)) ∧
  (∀ x0 x1 x2,OE P GI (.pick x0 x1 x2)) ∧
  (∀ x0 x1,OE P GI (.build x0 x1)) ∧
  (∀ x0 x1 x2 x3,OE P GI (.buildSlice x0 x1 x2 x3)) ∧
  (∀ x0 x1 x2 x3,OE P GI (.load x0 x1 x2 x3)) ∧
  (∀ x0 x1,OE P GI (.loadT x0 x1)) ∧
  (∀ x0 x1 x2 x3,OE P GI (.store x0 x1 x2 x3)) ∧
  (∀ x0 x1 x2,OE P GI (.bin x0 x1 x2)) ∧
  (∀ x0 x1 x2,OE P GI (.eqB x0 x1 x2)) ∧
  (∀ x0 x1 x2 x3,OE P GI (.eqs x0 x1 x2 x3)) ∧
  (∀ x0 x1 x2 x3 x4,OE P GI (.indexA x0 x1 x2 x3 x4)) ∧
  (∀ x0,OE P GI (.bstr x0)) ∧
  (∀ x0,OE P GI (.buildF x0)) ∧
  (∀ x0 x1 x2,OE P GI (.indexF x0 x1 x2)) ∧
  (∀ x0 x1 x2 x3,OE P GI (.lookup x0 x1 x2 x3)) ∧
  (∀ x0,OE P GI (.not x0)) ∧
  (∀ x0 x1,OE P GI (.conv x0 x1)) ∧
  (∀ x0 x1,OE P GI (.iface x0 x1)) ∧
  (∀ x0 x1 x2,OE P GI (.mkf x0 x1 x2)) ∧
  (∀ x0 x1 x2,OE P GI (.sliceS x0 x1 x2)) ∧
  (∀ x0 x1 x2 x3,OE P GI (.sliceL x0 x1 x2 x3)) ∧
  (∀ x0 x1,OE P GI (.sliceR x0 x1)) ∧
  (∀ x0 x1,OE P GI (.fieldAddr x0 x1)) ∧
  (∀ x0 x1 x2,OE P GI (.indexAddr x0 x1 x2)) ∧
  (∀ x0 x1,OE P GI (.indexS x0 x1)) ∧
  (∀ x0 x1,OE P GI (.extract x0 x1)) ∧
  (∀ x0,OE P GI (.lenS x0)) ∧
  (∀ x0,OE P GI (.lenL x0)) ∧
  (∀ x0 x1,OE P GI (.isNil x0 x1)) ∧
  (∀ x0,OE P GI (.empty x0)) ∧
  (∀ x0 x1,OE P GI (.max x0 x1)) ∧
  (∀ x0 x1,OE P GI (.min x0 x1)) ∧
  (∀ x0 x1 x2,OE P GI (.assert x0 x1 x2)):=by
 refine ⟨?_,?_,?_,?_,?_,?_,?_,?_,?_,?_,?_,?_,?_,?_,?_,?_,?_,?_,?_,?_,?_,?_,?_,?_,?_,?_,?_,?_,?_,?_,?_,?_,?_⟩<;>intros<;>intro d<;>intros<;>rfl
theorem dops_allN :
  (∀ x0 x1,DE P GI (.mv x0 x1)) ∧
  (∀ x0 x1 x2,DE P GI (.pick x0 x1 x2)) ∧
  (∀ x0 x1,DE P GI (.build x0 x1)) ∧
  (∀ x0 x1 x2 x3,DE P GI (.buildSlice x0 x1 x2 x3)) ∧
  (∀ x0 x1 x2 x3,DE P GI (.load x0 x1 x2 x3)) ∧
  (∀ x0 x1,DE P GI (.loadT x0 x1)) ∧
  (∀ x0 x1 x2 x3,DE P GI (.store x0 x1 x2 x3)) ∧
  (∀ x0 x1 x2,DE P GI (.bin x0 x1 x2)) ∧
  (∀ x0 x1 x2,DE P GI (.eqB x0 x1 x2)) ∧
  (∀ x0 x1 x2 x3,DE P GI (.eqs x0 x1 x2 x3)) ∧
  (∀ x0 x1 x2 x3 x4,DE P GI (.indexA x0 x1 x2 x3 x4)) ∧
  (∀ x0,DE P GI (.bstr x0)) ∧
  (∀ x0,DE P GI (.buildF x0)) ∧
  (∀ x0 x1 x2,DE P GI (.indexF x0 x1 x2)) ∧
  (∀ x0 x1 x2 x3,DE P GI (.lookup x0 x1 x2 x3)) ∧
  (∀ x0,DE P GI (.not x0)) ∧
  (∀ x0 x1,DE P GI (.conv x0 x1)) ∧
  (∀ x0 x1,DE P GI (.iface x0 x1)) ∧
  (∀ x0 x1 x2,DE P GI (.mkf x0 x1 x2)) ∧
  (∀ x0 x1 x2,DE P GI (.sliceS x0 x1 x2)) ∧
  (∀ x0 x1 x2 x3,DE P GI (.sliceL x0 x1 x2 x3)) ∧
  (∀ x0 x1,DE P GI (.sliceR x0 x1)) ∧
  (∀ x0 x1,DE P GI (.fieldAddr x0 x1)) ∧
  (∀ x0 x1 x2,DE P GI (.indexAddr x0 x1 x2)) ∧
  (∀ x0 x1,DE P GI (.indexS x0 x1)) ∧
  (∀ x0 x1,DE P GI (.extract x0 x1)) ∧
  (∀ x0,DE P GI (.lenS x0)) ∧
  (∀ x0,DE P GI (.lenL x0)) ∧
  (∀ x0 x1,DE P GI (.isNil x0 x1)) ∧
  (∀ x0,DE P GI (.empty x0)) ∧
  (∀ x0 x1,DE P GI (.max x0 x1)) ∧
  (∀ x0 x1,DE P GI (.min x0 x1)) ∧
  (∀ x0 x1 x2,DE P GI (.assert x0 x1 x2)):=by
 refine ⟨?_,?_,?_,?_,?_,?_,?_,?_,?_,?_,?_,?_,?_,?_,?_,?_,?_,?_,?_,?_,?_,?_,?_,?_,?_,?_,?_,?_,?_,?_,?_,?_,?_⟩<;>intros<;>intro d<;>intros<;>rfl
theorem ops_ap (x0 x1 x2 x3 x4 x5):OE P GI (.append x0 x1 x2 x3 x4 x5):=ops_all.2.2.2.2.2.2.2.2.2.2.2.2.2.2.2.2.2.2.2.2.2.2.2.2.2.2.2.2.2.2.1 x0 x1 x2 x3 x4 x5
theorem dops_ap (x0 x1 x2 x3 x4 x5):DE P GI (.append x0 x1 x2 x3 x4 x5):=dops_all.2.2.2.2.2.2.2.2.2.2.2.2.2.2.2.2.2.2.2.2.2.2.2.2.2.2.2.2.2.2.1 x0 x1 x2 x3 x4 x5
def grow (e:Nat) (l:List AV):AV := .slice (if l=[] then .nil else .own e) l
theorem grow_nil (e:Nat):grow e [] = .slice .nil []:=by unfold grow;rw [if_pos rfl]
theorem appV {S:Slots} {H:Boxes} {t e size cap i j:Nat} {l:List AV} {v:AV} {o:Ow} (hi:S i=grow e l) (hj:S j = .slice o [v]) (hv:elemsOK size [v]=true) (hl:elemsOK size l=true) (hn:l.length+1 < 1048576) :
  ∃ dm,(dm=none∨dm=some i)∧apure S H (.append t e size cap (.t i) (.t j))=some { v:=grow e (l++[v]),dm:=dm }:=by
 have ei:ev S (.t i)=grow e l:=hi
 have ej:ev S (.t j) = .slice o [v]:=hj
 cases l with
 |nil =>
  refine ⟨none,.inl rfl,?_⟩
  simp only [apure]
  rw [ei,ej,grow_nil]
  simp [hv,grow]
 |cons x l =>
  refine ⟨some i,.inr rfl,?_⟩
  have hn':l.length+1+1 < 1048576:=by simpa using hn
  simp only [apure]
  rw [ei,ej]
  simp [grow,hv,hl,tmpOf,hn']
theorem eff_keep {S:Slots} {i d:Nat} {dm:Option Nat} (hd:dm=none∨dm=some i) (v:AV):(Eff.S { v:=v,dm:=dm } S (some d)) d=v∧∀ k,k≠d→k≠i→Eff.S { v:=v,dm:=dm } S (some d) k=S k:=by
 rcases hd with rfl | rfl
 ·refine ⟨by simp [Eff.S,putD,upd],fun k h1 _=>by simp [Eff.S,putD,upd,h1]⟩
 ·refine ⟨by simp [Eff.S,putD,upd],fun k h1 h2=>by simp [Eff.S,putD,upd,h1,h2]⟩
theorem aops_app {K:Slots→Boxes→Prop} {Qp:AV→Prop} {S:Slots} {H:Boxes} {t e size cap d i j:Nat} {rest:List AOpr} (l:List AV) (v:AV) (o:Ow) (hi:S i=grow e l) (hj:S j = .slice o [v]) (hv:elemsOK size [v]=true) (hl:elemsOK size l=true) (hn:l.length+1 < 1048576)
  (h:∀ S',S' d=grow e (l++[v])→(∀ k,k≠d→k≠i→S' k=S k)→aops P GI rest K Qp S' H):aops P GI (⟨some d,none,.append t e size cap (.t i) (.t j)⟩::rest) K Qp S H:=by
 obtain ⟨dm,hdm,hap⟩:=appV (t:=t) (cap:=cap) (H:=H) hi hj hv hl hn
 obtain ⟨k1,k2⟩:=eff_keep (S:=S) (d:=d) hdm (grow e (l++[v]))
 rw [ops_all.2.2.2.2.2.2.2.2.2.2.2.2.2.2.2.2.2.2.2.2.2.2.2.2.2.2.2.2.2.2.1]
 simp only [awanted,hap]
 exact h _ k1 k2
theorem dops_app {K:Slots→Boxes→Prop} {S:Slots} {H:Boxes} {t e size cap d i j:Nat} {rest:List AOpr} (l:List AV) (v:AV) (o:Ow) (hi:S i=grow e l) (hj:S j = .slice o [v]) (hv:elemsOK size [v]=true) (hl:elemsOK size l=true) (hn:l.length+1 < 1048576)
  (h:∀ S',S' d=grow e (l++[v])→(∀ k,k≠d→k≠i→S' k=S k)→dops P GI rest K S' H):dops P GI (⟨some d,none,.append t e size cap (.t i) (.t j)⟩::rest) K S H:=by
 obtain ⟨dm,hdm,hap⟩:=appV (t:=t) (cap:=cap) (H:=H) hi hj hv hl hn
 obtain ⟨k1,k2⟩:=eff_keep (S:=S) (d:=d) hdm (grow e (l++[v]))
 rw [dops_all.2.2.2.2.2.2.2.2.2.2.2.2.2.2.2.2.2.2.2.2.2.2.2.2.2.2.2.2.2.2.1]
 simp only [awanted,hap]
 exact h _ k1 k2
theorem elems_map {α:Type} {f:α→AV} {size:Nat} {l:List α} (h:∀ a,(f a).storable=true∧(f a).cells.length=size):elemsOK size (l.map f)=true:=by
 simp [elemsOK,h]
end
end Go.AL
namespace Go.Proofs.Tryz
open Go Go.AL Go.RowKit Go.Proofs
variable {GI:World→Prop}
end Go.Proofs.Tryz
namespace Go.Proofs.Tryz
open Go Go.AL Go.RowKit Go.Proofs
attribute [local simp] awp_all qs_all ops_allN dops_allN ops_nil dops_nil ops_call ops_callv ops_alloc ops_box dops_call dops_alloc kO_eq kD_eq awanted apure ev Eff.S Eff.H tmpOf upd putD AL.start AV.dem AV.cells AV.storable AV.scells splice scrub abin loadA HR.okB post ares aress ares1 AV.out AV.isData ints_len ints_get fz fz1 AV.vw AV.vw1 boxy vI int undefA assignQ thenQ blockQ seqQ panQ prol prolH allocOf
variable {GI:World→Prop}
end Go.Proofs.Tryz
namespace Go.Proofs.Tryz
open Go Go.AL Go.RowKit Go.Proofs
attribute [local simp] awp_all qs_all ops_all dops_all ops_nil dops_nil ops_call ops_callv ops_alloc ops_box dops_call dops_alloc kO_eq kD_eq awanted apure ev Eff.S Eff.H tmpOf upd putD AL.start AV.dem AV.cells AV.storable AV.scells splice scrub abin loadA HR.okB post ares aress ares1 AV.out AV.isData ints_len ints_get fz fz1 AV.vw AV.vw1 boxy vI int undefA assignQ thenQ blockQ seqQ panQ prol prolH allocOf
variable {GI:World→Prop}
end Go.Proofs.Tryz
namespace Go.Proofs.Tryz
open Go Go.AL Go.RowKit Go.Proofs
attribute [local simp] awp_all qs_all ops_all dops_all ops_nil dops_nil ops_call ops_callv ops_alloc ops_box dops_call dops_alloc kO_eq kD_eq awanted apure ev Eff.S Eff.H tmpOf upd putD AL.start AV.dem AV.cells AV.storable AV.scells splice scrub abin loadA HR.okB post ares aress ares1 AV.out AV.isData ints_len ints_get fz fz1 AV.vw AV.vw1 boxy vI int undefA assignQ thenQ blockQ seqQ panQ prol prolH allocOf
variable {GI:World→Prop}
end Go.Proofs.Tryz
namespace Go.Proofs.Tryz
open Go Go.AL Go.RowKit Go.Proofs
attribute [local simp] awp_all qs_all ops_all dops_all ops_nil dops_nil ops_call ops_callv ops_alloc ops_box dops_call dops_alloc kO_eq kD_eq awanted apure ev Eff.S Eff.H tmpOf upd putD AL.start AV.dem AV.cells AV.storable AV.scells splice scrub abin loadA HR.okB post ares aress ares1 AV.out AV.isData ints_len ints_get fz fz1 AV.vw AV.vw1 boxy vI int undefA assignQ thenQ blockQ seqQ panQ prol prolH allocOf
variable {GI:World→Prop}
end Go.Proofs.Tryz
namespace Go.Proofs.Tryz
open Go Go.AL Go.RowKit Go.Proofs
attribute [local simp] awp_all qs_all ops_all dops_all ops_nil dops_nil ops_call ops_callv ops_alloc ops_box dops_call dops_alloc kO_eq kD_eq awanted apure ev Eff.S Eff.H tmpOf upd putD AL.start AV.dem AV.cells AV.storable AV.scells splice scrub abin loadA HR.okB post ares aress ares1 AV.out AV.isData ints_len ints_get fz fz1 AV.vw AV.vw1 boxy vI int undefA assignQ thenQ blockQ seqQ panQ prol prolH allocOf
variable {GI:World→Prop}
end Go.Proofs.Tryz
namespace Go.Proofs.Tryz
open Go Go.AL Go.RowKit Go.Proofs
attribute [local simp] awp_all qs_all ops_allN dops_allN ops_nil dops_nil ops_call ops_callv ops_alloc ops_box dops_call dops_alloc kO_eq kD_eq awanted apure ev Eff.S Eff.H tmpOf upd putD AL.start AV.dem AV.cells AV.storable AV.scells splice scrub abin loadA HR.okB post ares aress ares1 AV.out AV.isData ints_len ints_get fz fz1 AV.vw AV.vw1 boxy vI int undefA assignQ thenQ blockQ seqQ panQ prol prolH allocOf
variable {GI:World→Prop}
end Go.Proofs.Tryz
namespace Go.Proofs.Tryz
open Go Go.AL Go.RowKit Go.Proofs
attribute [local simp] awp_all qs_all ops_allN dops_allN ops_nil dops_nil ops_call ops_callv ops_alloc ops_box dops_call dops_alloc kO_eq kD_eq awanted apure ev Eff.S Eff.H tmpOf upd putD AL.start AV.dem AV.cells AV.storable AV.scells splice scrub abin loadA HR.okB post ares aress ares1 AV.out AV.isData ints_len ints_get fz fz1 AV.vw AV.vw1 boxy vI int undefA assignQ thenQ blockQ seqQ panQ prol prolH allocOf
variable {GI:World→Prop}
end Go.Proofs.Tryz
namespace Go.Proofs.Tryz
open Go Go.AL Go.RowKit Go.Proofs
attribute [local simp] awp_all qs_all ops_allN dops_allN ops_nil dops_nil ops_call ops_callv ops_alloc ops_box dops_call dops_alloc kO_eq kD_eq awanted apure ev Eff.S Eff.H tmpOf upd putD AL.start AV.dem AV.cells AV.storable AV.scells splice scrub abin loadA HR.okB post ares aress ares1 AV.out AV.isData ints_len ints_get fz fz1 AV.vw AV.vw1 boxy vI int undefA assignQ thenQ blockQ seqQ panQ prol prolH allocOf
variable {GI:World→Prop}
end Go.Proofs.Tryz
namespace Go.Proofs.Tryz
open Go.AL
section
variable {s x:Sheet} {m:Nat} {z z':Nat×Nat}
end
end Go.Proofs.Tryz
namespace Go.Proofs.Tryz
open Go Go.AL Go.RowKit Go.Proofs
attribute [local simp] awp_all qs_all ops_allN dops_allN ops_nil dops_nil ops_call ops_callv ops_alloc ops_box dops_call dops_alloc kO_eq kD_eq awanted apure ev Eff.S Eff.H tmpOf upd putD AL.start AV.dem AV.cells AV.storable AV.scells splice scrub abin loadA HR.okB post ares aress ares1 AV.out AV.isData ints_len ints_get fz fz1 AV.vw AV.vw1 boxy vI int undefA assignQ thenQ blockQ seqQ panQ prol prolH allocOf
variable {GI:World→Prop}
end Go.Proofs.Tryz
namespace Go.Proofs.Tryz
open Go Go.AL Go.RowKit Go.Proofs
attribute [local simp] awp_all qs_all ops_all dops_all ops_nil dops_nil ops_call ops_callv ops_alloc ops_box dops_call dops_alloc kO_eq kD_eq awanted apure ev Eff.S Eff.H tmpOf upd putD AL.start AV.dem AV.cells AV.storable AV.scells splice scrub abin loadA HR.okB post ares aress ares1 AV.out AV.isData ints_len ints_get fz fz1 AV.vw AV.vw1 boxy vI int undefA assignQ thenQ blockQ seqQ panQ prol prolH allocOf
variable {GI:World→Prop}
end Go.Proofs.Tryz
namespace Go.Proofs.Tryz
open Go Go.AL Go.RowKit Go.Proofs
attribute [local simp] awp_all qs_all ops_allN dops_allN ops_nil dops_nil ops_call ops_callv ops_alloc ops_box dops_call dops_alloc kO_eq kD_eq awanted apure ev Eff.S Eff.H tmpOf upd putD AL.start AV.dem AV.cells AV.storable AV.scells splice scrub abin loadA HR.okB post ares aress ares1 AV.out AV.isData ints_len ints_get fz fz1 AV.vw AV.vw1 boxy vI int undefA assignQ thenQ blockQ seqQ panQ prol prolH allocOf
variable {GI:World→Prop}
end Go.Proofs.Tryz
namespace Go.Proofs.Tryz
open Go Go.AL Go.RowKit Go.Proofs
attribute [local simp] awp_all qs_all ops_allN dops_allN ops_nil dops_nil ops_call ops_callv ops_alloc ops_box dops_call dops_alloc kO_eq kD_eq awanted apure ev Eff.S Eff.H tmpOf upd putD AL.start AV.dem AV.cells AV.storable AV.scells splice scrub abin loadA HR.okB post ares aress ares1 AV.out AV.isData ints_len ints_get fz fz1 AV.vw AV.vw1 boxy vI int undefA assignQ thenQ blockQ seqQ panQ prol prolH allocOf
variable {GI:World→Prop}
end Go.Proofs.Tryz
namespace Go.Proofs.Tryz
open Go Go.AL Go.RowKit Go.Proofs
attribute [local simp] awp_all qs_all ops_allN dops_allN ops_nil dops_nil ops_call ops_callv ops_alloc ops_box dops_call dops_alloc kO_eq kD_eq awanted apure ev Eff.S Eff.H tmpOf upd putD AL.start AV.dem AV.cells AV.storable AV.scells splice scrub abin loadA HR.okB post ares aress ares1 AV.out AV.isData ints_len ints_get fz fz1 AV.vw AV.vw1 boxy vI int undefA assignQ thenQ blockQ seqQ panQ prol prolH allocOf
variable {GI:World→Prop}
end Go.Proofs.Tryz
namespace Go.Proofs.Tryz
open Go.AL
variable {s:Sheet} {st:Int} {l:List Lt}
end Go.Proofs.Tryz
namespace Go.Proofs.Tryz
open Go Go.AL Go.RowKit Go.Proofs
attribute [local simp] awp_all qs_all ops_allN dops_allN ops_nil dops_nil ops_call ops_callv ops_alloc ops_box dops_call dops_alloc kO_eq kD_eq awanted apure ev Eff.S Eff.H tmpOf upd putD AL.start AV.dem AV.cells AV.storable AV.scells splice scrub abin loadA HR.okB post ares aress ares1 AV.out AV.isData ints_len ints_get fz fz1 AV.vw AV.vw1 boxy vI int undefA assignQ thenQ blockQ seqQ panQ prol prolH allocOf
variable {GI:World→Prop}
end Go.Proofs.Tryz
namespace Go.Proofs.Tryz
open Go.AL
end Go.Proofs.Tryz
namespace Go.Proofs.Tryz
open Go.AL
theorem okE_iff {s:Sheet} {out:List Int} {e:End}:okE s out e=true↔0≤e.1∧¬ e.1∈out∧∃ h:e.1.toNat < s.words.length,e.2=s.words[e.1.toNat].signs.length∨e.2∈s.words[e.1.toNat].cuts:=by
 unfold okE inI
 simp only [Bool.and_eq_true,decide_eq_true_eq,Bool.not_eq_true',List.contains_eq_mem,decide_eq_false_iff_not]
 constructor
 ·rintro ⟨⟨⟨h1,h2⟩,h3⟩,h4⟩
  have hlt:e.1.toNat < s.words.length:=by omega
  rw [List.getElem?_eq_getElem hlt] at h4
  refine ⟨h1,h3,hlt,?_⟩
  simpa using h4
 ·rintro ⟨h1,h3,hlt,h4⟩
  refine ⟨⟨⟨h1,by omega⟩,h3⟩,?_⟩
  rw [List.getElem?_eq_getElem hlt]
  simpa using h4
theorem lastE_nil {s:Sheet} {m:Nat} (h:s.words.length=m+1):lastE s []=((m:Int),(lenW s m:Int)):=by
 unfold lastE
 have e:lastN [] s.words.length=m:=by rw [h];unfold lastN;simp
 rw [e,Int.toNat_natCast,List.getElem?_eq_getElem (by omega),lenW_eq (by omega)]
end Go.Proofs.Tryz
namespace Go.Proofs.Tryz
open Go.AL
section
variable {s:Sheet}
end
end Go.Proofs.Tryz
namespace Go.Proofs.Tryz
open Go Go.AL Go.RowKit Go.Proofs
attribute [local simp] awp_all qs_all ops_allN dops_allN ops_nil dops_nil ops_call ops_callv ops_alloc ops_box dops_call dops_alloc kO_eq kD_eq awanted apure ev Eff.S Eff.H tmpOf upd putD AL.start AV.dem AV.cells AV.storable AV.scells splice scrub abin loadA HR.okB post ares aress ares1 AV.out AV.isData ints_len ints_get fz fz1 AV.vw AV.vw1 boxy vI int undefA assignQ thenQ blockQ seqQ panQ prol prolH allocOf
variable {GI:World→Prop}
end Go.Proofs.Tryz
namespace Go.AL
theorem ops_panic {P:Program} {GI:World→Prop} (x d rest K Qp S H):aops P GI (⟨d,none,.panic x⟩::rest) K Qp S H=(match ev S x with
  |.iface t v=>Qp (.iface t v)
  |_=>False):=rfl
end Go.AL
namespace Go.Proofs.Tryz
open Go Go.AL Go.RowKit Go.Proofs
attribute [local simp] awp_all qs_all ops_all dops_all ops_nil dops_nil ops_call ops_callv ops_alloc ops_box dops_call dops_alloc kO_eq kD_eq awanted apure ev Eff.S Eff.H tmpOf upd putD AL.start AV.dem AV.cells AV.storable AV.scells splice scrub abin loadA HR.okB post ares aress ares1 AV.out AV.isData ints_len ints_get fz fz1 AV.vw AV.vw1 boxy vI int undefA assignQ thenQ blockQ seqQ panQ prol prolH allocOf
variable {GI:World→Prop}
end Go.Proofs.Tryz
namespace Go.Proofs.Tryz
open Go.AL
section
variable {α:Type} {len:α→Nat} {most:α→Int}
end
end Go.Proofs.Tryz
namespace Go.Proofs.Tryz
open Go.AL
structure Renum (s x:Sheet) (out:List Int) (k:Nat→Nat) (N:Nat):Prop where
 pos:0 < N
 n:x.words.length=N
 lt:∀ i,i < N→k i < s.words.length
 mono:∀ i,i+1 < N→k i < k (i+1)
 inn:∀ i,i < N→out.contains (k i:Int)=false
 gap:∀ i,i+1 < N→∀ j,k i < j→j < k (i+1)→out.contains (j:Int)=true
 first:∀ j,j < k 0→out.contains (j:Int)=true
 last:∀ j,k (N - 1) < j→j < s.words.length→out.contains (j:Int)=true
 word:∀ i,i < N→x.words[i]? = s.words[k i]?
 h1:x.widths=s.widths
 h2:x.pairs=s.pairs
 h3:x.olo=s.olo
 h4:x.ohi=s.ohi
 h5:x.glo=s.glo
 h6:x.ghi=s.ghi
 h7:x.hyphen=s.hyphen
 h8:x.wide=s.wide
 h9:x.rows=s.rows
section
variable {s x:Sheet} {out:List Int} {k:Nat→Nat} {N:Nat}
theorem Renum.lenW (h:Renum s x out k N) {i:Nat} (hi:i < N):lenW x i=lenW s (k i):=by
 unfold Tryz.lenW
 rw [h.word i hi]
theorem Renum.mono' (h:Renum s x out k N):∀ d i,i+d+1 < N→k i < k (i+d+1)
 |0,i,hi=>h.mono i hi
 |d+1,i,hi=>Nat.lt_trans (h.mono' d i (by omega)) (h.mono (i+d+1) hi)
theorem Renum.lt_iff (h:Renum s x out k N) {i j:Nat} (hi:i < N) (hj:j < N):k i < k j↔i < j:=by
 constructor
 ·intro hk
  by_cases hij:i < j
  ·exact hij
  ·by_cases he:i=j
   ·subst he;omega
   ·have:=h.mono' (i - j - 1) j (by omega)
    rw [show j+(i - j - 1)+1=i by omega] at this
    omega
 ·intro hij
  have:=h.mono' (j - i - 1) i (by omega)
  rwa [show i+(j - i - 1)+1=j by omega] at this
theorem Renum.inj (h:Renum s x out k N) {i j:Nat} (hi:i < N) (hj:j < N) (he:k i=k j):i=j:=by
 have h1:=h.lt_iff hi hj
 have h2:=h.lt_iff hj hi
 omega
theorem rowN_skip {d t:Nat}:∀ (m w:Nat),(∀ j,w≤j→j < w+m→out.contains (j:Int)=true)→rowN s out (m+d) w 0 t=rowN s out d (w+m) 0 t
 |0,w,_=>by rw [Nat.zero_add,Nat.add_zero]
 |m+1,w,h=>by
  rw [show m+1+d=(m+d)+1 by omega]
  show (if out.contains (w:Int) then [] else seg w 0 (lenW s w))++rowN s out (m+d) (w+1) 0 t=_
  rw [h w (by omega) (by omega),if_pos rfl,List.nil_append,rowN_skip m (w+1) (fun j h1 h2=>h j (by omega) (by omega)),show w+1+m=w+(m+1) by omega]
def phi (k:Nat→Nat) (g:Nat×Nat):Nat×Nat:=(k g.1,g.2)
theorem seg_phi (w f t:Nat):(seg w f t).map (phi k)=seg (k w) f t:=by
 unfold seg
 rw [List.map_map];rfl
theorem Renum.rowN (h:Renum s x out k N) {t:Nat}:∀ d w f,w+d < N→(rowN x [] d w f t).map (phi k)=rowN s out (k (w+d) - k w) (k w) f t
 |0,w,f,_=>by
  rw [Nat.add_zero,Nat.sub_self]
  exact seg_phi w f t
 |d+1,w,f,hw=>by
  have m1:=h.mono w (by omega)
  have m2:k (w+1)≤k (w+1+d):=by
   cases d with
   |zero=>exact Nat.le_refl _
   |succ d=>exact Nat.le_of_lt (h.mono' d (w+1) (by omega))
  rw [show w+(d+1)=w+1+d by omega]
  rw [show k (w+1+d) - k w=((k (w+1) - k w - 1)+(k (w+1+d) - k (w+1)))+1 by omega]
  show List.map (phi k) ((if ([]:List Int).contains (w:Int) then [] else seg w f (Tryz.lenW x w))++Tryz.rowN x [] d (w+1) 0 t)=(if out.contains (k w:Int) then [] else seg (k w) f (Tryz.lenW s (k w)))++Tryz.rowN s out ((k (w+1) - k w - 1)+(k (w+1+d) - k (w+1))) (k w+1) 0 t
  rw [if_neg (by simp),h.inn w (by omega),if_neg (by simp),List.map_append,seg_phi,h.lenW (by omega),h.rowN d (w+1) 0 (by omega),rowN_skip _ _ fun j h1 h2=>h.gap w (by omega) j (by omega) (by omega),show k w+1+(k (w+1) - k w - 1)=k (w+1) by omega]
def phE (k:Nat→Nat) (e:End):End:=((k e.1.toNat:Int),e.2)
theorem nE_phE (e:End):nE (phE k e)=phi k (nE e):=rfl
theorem aft_succ (es:List End) (i:Nat):aft es (i+1)=match es[i]? with | some e=>nE e | none=>(0,0):=rfl
theorem aft_map (es:List End) (i:Nat):aft (es.map (phE k)) (i+1)=if i < es.length then phi k (aft es (i+1)) else (0,0):=by
 rw [aft_succ,aft_succ,List.getElem?_map]
 by_cases hi:i < es.length
 ·rw [List.getElem?_eq_getElem hi,if_pos hi];rfl
 ·rw [List.getElem?_eq_none (by omega),if_neg hi];rfl
def InR (N:Nat) (es:List End):Prop:=∀ e∈es,0≤e.1∧e.1.toNat < N
theorem Renum.rowI (h:Renum s x out k N) {es:List End} (hr:InR N es) (hs:∀ j (hj:j+1 < es.length),es[j].1.toNat≤es[j+1].1.toNat) (i:Nat) (hi:i < es.length):(rowI x [] es i).map (phi k)=rowI s out (es.map (phE k)) i:=by
 have hil:i < (es.map (phE k)).length:=by rw [List.length_map];exact hi
 rw [rowI_eq hi,rowI_eq hil,List.getElem_map,nE_phE]
 have he:=hr _ (List.getElem_mem hi)
 cases i with
 |zero =>
  have h0:=h.rowN (t:=(nE es[0]).2) (nE es[0]).1 0 0 (by rw [Nat.zero_add];exact he.2)
  show List.map (phi k) (Tryz.rowN x [] ((nE es[0]).1 - 0) 0 0 (nE es[0]).2)=Tryz.rowN s out (k (nE es[0]).1 - 0) 0 0 (nE es[0]).2
  rw [Nat.sub_zero,Nat.sub_zero,h0,Nat.zero_add]
  have hk:k 0≤k (nE es[0]).1:=by
   by_cases hz:(nE es[0]).1=0
   ·rw [hz];exact Nat.le_refl _
   ·exact Nat.le_of_lt ((h.lt_iff h.pos he.2).2 (Nat.pos_of_ne_zero hz))
  have:=rowN_skip (s:=s) (out:=out) (d:=k (nE es[0]).1 - k 0) (t:=(nE es[0]).2) (k 0) 0 fun j _ h2=>h.first j (by omega)
  rw [show k 0+(k (nE es[0]).1 - k 0)=k (nE es[0]).1 by omega,Nat.zero_add] at this
  exact this.symm
 |succ i =>
  have ha:aft es (i+1)=nE es[i]:=by rw [aft_succ,List.getElem?_eq_getElem (by omega)]
  have hb:=hr _ (List.getElem_mem (by omega:i < es.length))
  have hle:=hs i hi
  rw [aft_map,if_pos (by omega),ha]
  have:=h.rowN (t:=(nE es[i+1]).2) ((nE es[i+1]).1 - (nE es[i]).1) (nE es[i]).1 (nE es[i]).2 (by
   show es[i].1.toNat+(es[i+1].1.toNat - es[i].1.toNat) < N
   have:=he.2;omega)
  rw [show (nE es[i]).1+((nE es[i+1]).1 - (nE es[i]).1)=(nE es[i+1]).1 by show es[i].1.toNat+(es[i+1].1.toNat - es[i].1.toNat)=es[i+1].1.toNat;omega] at this
  exact this
theorem Renum.cutI (h:Renum s x out k N) {es:List End} (hr:InR N es) (i:Nat) (hi:i < es.length):cutI x es i=cutI s (es.map (phE k)) i:=by
 have hil:i < (es.map (phE k)).length:=by rw [List.length_map];exact hi
 rw [cutI_eq hi,cutI_eq hil,List.getElem_map]
 show decide (es[i].2 < (Tryz.lenW x es[i].1.toNat:Int))=decide (es[i].2 < (Tryz.lenW s ((k es[i].1.toNat:Int)).toNat:Int))
 rw [Int.toNat_natCast,h.lenW (hr _ (List.getElem_mem hi)).2]
theorem Renum.let2 (h:Renum s x out k N) {g:Nat×Nat} (hg:g.1 < N):(letS x g).2=(letS s (phi k g)).2:=by
 unfold letS phi
 simp only
 rw [h.word _ hg]
theorem Renum.wdL (h:Renum s x out k N) {a b:Lt} (he:a.2=b.2):wdL x a=wdL s b:=by
 unfold Tryz.wdL
 rw [he,h.h1,h.h7]
theorem Renum.spc (h:Renum s x out k N) (st:Int) {f g:Nat×Nat} (hf:f.1 < N) (hg:g.1 < N):spc x st (letS x f) (letS x g)=spc s st (letS s (phi k f)) (letS s (phi k g)):=by
 have e:spanS x (letS x f) (letS x g)=spanS s (letS s (phi k f)) (letS s (phi k g)):=by
  unfold spanS
  rw [h.let2 hf,h.let2 hg,h.h2,h.h3,h.h4,h.h5,h.h6]
  by_cases he:f.1=g.1
  ·rw [if_pos (by unfold letS;simp only;omega),if_pos (by unfold letS phi;simp only;rw [he])]
  ·rw [if_neg (by unfold letS;simp only;omega),if_neg]
   unfold letS phi
   simp only
   intro hc
   exact he (h.inj hf hg (by omega))
 unfold Tryz.spc
 rw [e]
theorem Renum.wideP (h:Renum s x out k N) (st:Int) {l:List (Nat×Nat)} (hl:∀ g∈l,g.1 < N) (cut:Bool):wideP x st (l.map (letS x)) cut=wideP s st ((l.map (phi k)).map (letS s)) cut:=by
 have e1:∀ i,letsS x (l.map (letS x)) i=letsS s ((l.map (phi k)).map (letS s)) i:=by
  intro i
  induction i with
  |zero=>rfl
  |succ i ih =>
   unfold letsS
   rw [ih,List.map_map,List.getElem?_map,List.getElem?_map]
   by_cases hi:i < l.length
   ·rw [List.getElem?_eq_getElem hi]
    show _+Tryz.wdL x (letS x l[i])=_+Tryz.wdL s (letS s (phi k l[i]))
    rw [h.wdL (h.let2 (hl _ (List.getElem_mem hi)))]
   ·rw [List.getElem?_eq_none (by omega)];rfl
 have e2:∀ i,gapsS x st (l.map (letS x)) i=gapsS s st ((l.map (phi k)).map (letS s)) i:=by
  intro i
  induction i with
  |zero=>rfl
  |succ i ih =>
   unfold gapsS
   rw [ih,List.map_map,List.getElem?_map,List.getElem?_map,List.getElem?_map,List.getElem?_map]
   by_cases hi:i+1 < l.length
   ·rw [List.getElem?_eq_getElem (by omega:i < l.length),List.getElem?_eq_getElem hi]
    show _+Tryz.spc x st (letS x l[i]) (letS x l[i+1])=_+Tryz.spc s st (letS s (phi k l[i])) (letS s (phi k l[i+1]))
    rw [h.spc st (hl _ (List.getElem_mem _)) (hl _ (List.getElem_mem hi))]
   ·rw [List.getElem?_eq_none (by omega:l.length≤i+1)]
    cases l[i]?<;>rfl
 unfold Tryz.wideP
 rw [e1,e2,h.h3,h.h4,h.h7]
 simp only [List.length_map]
end
end Go.Proofs.Tryz
namespace Go.Proofs.Tryz
open Go.AL
section
variable {s x:Sheet} {out:List Int} {k:Nat→Nat} {N:Nat}
theorem Renum.lastN (h:Renum s x out k N):Tryz.lastN out s.words.length=(k (N - 1):Int):=by
 have hp:=h.pos
 have hl:=h.lt (N - 1) (by omega)
 have:∀ n,k (N - 1) < n→n≤s.words.length→Tryz.lastN out n=(k (N - 1):Int):=by
  intro n
  induction n with
  |zero=>intro h1;omega
  |succ n ih =>
   intro h1 h2
   unfold Tryz.lastN
   by_cases he:n=k (N - 1)
   ·subst he;rw [h.inn _ (by omega)];rfl
   ·rw [h.last n (by omega) (by omega),if_pos rfl];exact ih (by omega) (by omega)
 exact this _ hl (Nat.le_refl _)
theorem Renum.okE (h:Renum s x out k N) {e:End} (h0:0≤e.1) (hn:e.1.toNat < N):Tryz.okE x [] e=true↔Tryz.okE s out (phE k e)=true:=by
 rw [okE_iff,okE_iff]
 have hk:=h.lt _ hn
 have hx:e.1.toNat < x.words.length:=by rw [h.n];exact hn
 have hw:=h.word _ hn
 rw [List.getElem?_eq_getElem hx,List.getElem?_eq_getElem hk] at hw
 have hw:=Option.some.inj hw
 have hi:=h.inn _ hn
 constructor
 ·rintro ⟨_,_,_,h3⟩
  refine ⟨by show (0:Int)≤(k e.1.toNat:Int);omega,?_,?_⟩
  ·show ¬ (k e.1.toNat:Int)∈out
   simpa using hi
  ·refine ⟨by show (k e.1.toNat:Int).toNat < _;omega,?_⟩
   show e.2=((s.words[(k e.1.toNat:Int).toNat]'_).signs.length:Int)∨e.2∈(s.words[(k e.1.toNat:Int).toNat]'_).cuts
   simp only [Int.toNat_natCast]
   rw [← hw];exact h3
 ·rintro ⟨_,_,_,h3⟩
  refine ⟨h0,by simp,hx,?_⟩
  have h3:e.2=((s.words[(k e.1.toNat:Int).toNat]'(by rw [Int.toNat_natCast];exact hk)).signs.length:Int)∨e.2∈(s.words[(k e.1.toNat:Int).toNat]'(by rw [Int.toNat_natCast];exact hk)).cuts:=h3
  simp only [Int.toNat_natCast] at h3
  rw [hw];exact h3
theorem Renum.sooner (h:Renum s x out k N) {a b:End} (ha:0≤a.1∧a.1.toNat < N) (hb:0≤b.1∧b.1.toNat < N):soonerI a b=soonerI (phE k a) (phE k b):=by
 have h1:=h.lt_iff ha.2 hb.2
 have h2:k a.1.toNat=k b.1.toNat↔a.1.toNat=b.1.toNat:=⟨h.inj ha.2 hb.2,fun e=>by rw [e]⟩
 unfold soonerI phE
 rw [Bool.eq_iff_iff]
 simp only [Bool.or_eq_true,Bool.and_eq_true,decide_eq_true_eq,beq_iff_eq]
 omega
theorem Renum.setR (h:Renum s x out k N) (ho:outI s out=true) (hx:outI x []=true) {es:List End} (hr:InR N es):Tryz.setR x [] es=Tryz.setR s out (es.map (phE k)):=by
 have hlast:(es.getLast?.getD (-1,0)==lastE x [])=((es.map (phE k)).getLast?.getD (-1,0)==lastE s out)∨es=[]:=by
  by_cases hne:es=[]
  ·exact .inr hne
  refine .inl ?_
  obtain ⟨e,he⟩:∃ e,es.getLast? = some e:=by cases hh:es.getLast? with | none=>exact absurd (List.getLast?_eq_none_iff.1 hh) hne | some e=>exact ⟨e,rfl⟩
  have hem:=List.mem_of_getLast? he
  have hee:=hr e hem
  have hp:=h.pos
  rw [List.getLast?_map,he]
  show (e==lastE x [])=(phE k e==lastE s out)
  have e1:lastE x []=(((N - 1:Nat):Int),(Tryz.lenW x (N - 1):Int)):=lastE_nil (by rw [h.n];omega)
  have e2:lastE s out=((k (N - 1):Int),(Tryz.lenW s (k (N - 1)):Int)):=by
   unfold lastE
   rw [h.lastN,Int.toNat_natCast]
   unfold Tryz.lenW
   rw [List.getElem?_eq_getElem (h.lt _ (by omega))]
  rw [e1,e2,h.lenW (by omega),Bool.eq_iff_iff,beq_iff_eq,beq_iff_eq]
  constructor
  ·rintro rfl
   show ((k ((N - 1:Nat):Int).toNat:Int),(Tryz.lenW s (k (N - 1)):Int))=_
   rw [Int.toNat_natCast]
  ·intro hh
   have a1:(k e.1.toNat:Int)=(k (N - 1):Int):=congrArg Prod.fst hh
   have a2:e.2=(Tryz.lenW s (k (N - 1)):Int):=congrArg Prod.snd hh
   have:=h.inj hee.2 (by omega) (by omega:k e.1.toNat=k (N - 1))
   exact Prod.ext (by show e.1=((N - 1:Nat):Int);omega) a2
 rcases hlast with hlast | rfl
 ·unfold Tryz.setR
  rw [ho,hx,hlast]
  have e1:(es.map (phE k)).isEmpty=es.isEmpty:=by cases es<;>rfl
  have e2:adjI (Tryz.okE x []) soonerI es=adjI (Tryz.okE s out) soonerI (es.map (phE k)):=by
   rw [Bool.eq_iff_iff,adjI_iff,adjI_iff]
   constructor
   ·rintro ⟨h1,h2⟩
    refine ⟨fun e he => ?_,fun j hj => ?_⟩
    ·obtain ⟨e',he',rfl⟩:=List.mem_map.1 he
     exact (h.okE (hr _ he').1 (hr _ he').2).1 (h1 _ he')
    ·have hj':j+1 < es.length:=by simpa using hj
     rw [List.getElem_map,List.getElem_map,← h.sooner (hr _ (List.getElem_mem _)) (hr _ (List.getElem_mem _))]
     exact h2 j hj'
   ·rintro ⟨h1,h2⟩
    refine ⟨fun e he => ?_,fun j hj => ?_⟩
    ·exact (h.okE (hr _ he).1 (hr _ he).2).2 (h1 _ (List.mem_map_of_mem he))
    ·have:=h2 j (by simpa using hj)
     rw [List.getElem_map,List.getElem_map,← h.sooner (hr _ (List.getElem_mem _)) (hr _ (List.getElem_mem _))] at this
     exact this
  rw [e1,e2]
 ·unfold Tryz.setR
  simp
theorem Renum.fitI (h:Renum s x out k N) {es:List End} (hr:InR N es) (hs:∀ j (hj:j+1 < es.length),es[j].1.toNat≤es[j+1].1.toNat) (hin:∀ i,i < es.length→∀ g∈Tryz.rowI x [] es i,g.1 < N) (st:Int):Tryz.fitI x [] es st=Tryz.fitI s out (es.map (phE k)) st:=by
 have e:widthsI x [] es st=widthsI s out (es.map (phE k)) st:=by
  unfold widthsI
  rw [List.length_map]
  refine List.map_congr_left fun i hi => ?_
  have hi:i < es.length:=List.mem_range.1 hi
  unfold wideI
  rw [h.wideP st (hin i hi),h.rowI hr hs i hi,h.cutI hr i hi]
 unfold Tryz.fitI
 rw [e,List.length_map,h.h8,h.h9]
end
end Go.Proofs.Tryz
namespace Go.Proofs.Tryz
open Go.AL
end Go.Proofs.Tryz
namespace Go.Proofs.Tryz
open Go.AL
end Go.Proofs.Tryz
namespace Go.Proofs.Tryz
open Go.AL
end Go.Proofs.Tryz
namespace Go.Proofs.Tryz
open Go.AL
variable {s:Sheet} {x y:List End}
end Go.Proofs.Tryz
namespace Go.AL
end Go.AL
namespace Go.Proofs.Tryz
open Go Go.AL Go.RowKit Go.Proofs
attribute [local simp] awp_all qs_all ops_all dops_all ops_nil dops_nil ops_call ops_callv ops_alloc ops_box dops_call dops_alloc kO_eq kD_eq awanted apure ev Eff.S Eff.H tmpOf upd putD AL.start AV.dem AV.cells AV.storable AV.scells splice scrub abin loadA HR.okB post ares aress ares1 AV.out AV.isData ints_len ints_get fz fz1 AV.vw AV.vw1 boxy vI int undefA assignQ thenQ blockQ seqQ panQ prol prolH allocOf
variable {GI:World→Prop}
end Go.Proofs.Tryz
namespace Go.AL
section
variable {P:Program} {GI:World→Prop}
theorem appVL {S:Slots} {H:Boxes} {t e size cap i j:Nat} {l vs:List AV} {o:Ow} (hi:S i=grow e l) (hj:S j = .slice o vs) (hv:elemsOK size vs=true) (hl:elemsOK size l=true) (hn:l.length+vs.length < 1048576) :
  ∃ dm,(dm=none∨dm=some i)∧apure S H (.append t e size cap (.t i) (.t j))=some { v:=grow e (l++vs),dm:=dm }:=by
 have ei:ev S (.t i)=grow e l:=hi
 have ej:ev S (.t j) = .slice o vs:=hj
 cases l with
 |nil =>
  refine ⟨none,.inl rfl,?_⟩
  simp only [apure]
  rw [ei,ej,grow_nil]
  have hn':vs.length < 1048576:=by simpa using hn
  simp [hv,grow,hn']
 |cons x l =>
  refine ⟨some i,.inr rfl,?_⟩
  have hn':l.length+1+vs.length < 1048576:=by simpa using hn
  simp only [apure]
  rw [ei,ej]
  simp [grow,hv,hl,tmpOf,hn']
theorem dops_appL {K:Slots→Boxes→Prop} {S:Slots} {H:Boxes} {t e size cap d i j:Nat} {rest:List AOpr} (l vs:List AV) (o:Ow) (hi:S i=grow e l) (hj:S j = .slice o vs) (hv:elemsOK size vs=true) (hl:elemsOK size l=true) (hn:l.length+vs.length < 1048576)
  (h:∀ S',S' d=grow e (l++vs)→(∀ k,k≠d→k≠i→S' k=S k)→dops P GI rest K S' H):dops P GI (⟨some d,none,.append t e size cap (.t i) (.t j)⟩::rest) K S H:=by
 obtain ⟨dm,hdm,hap⟩:=appVL (t:=t) (cap:=cap) (H:=H) hi hj hv hl hn
 obtain ⟨k1,k2⟩:=eff_keep (S:=S) (d:=d) hdm (grow e (l++vs))
 rw [dops_ap]
 simp only [awanted,hap]
 exact h _ k1 k2
end
end Go.AL
namespace Go.Proofs.Tryz
open Go Go.AL Go.RowKit Go.Proofs
attribute [local simp] awp_all qs_all ops_allN dops_allN ops_nil dops_nil ops_call ops_callv ops_alloc ops_box dops_call dops_alloc kO_eq kD_eq awanted apure ev Eff.S Eff.H tmpOf upd putD AL.start AV.dem AV.cells AV.storable AV.scells splice scrub abin loadA HR.okB post ares aress ares1 AV.out AV.isData ints_len ints_get fz fz1 AV.vw AV.vw1 boxy vI int undefA assignQ thenQ blockQ seqQ panQ prol prolH allocOf
variable {GI:World→Prop}
end Go.Proofs.Tryz
namespace Go.Proofs.Tryz
open Go Go.AL Go.RowKit Go.Proofs
attribute [local simp] awp_all qs_all ops_allN dops_allN ops_nil dops_nil ops_call ops_callv ops_alloc ops_box dops_call dops_alloc kO_eq kD_eq awanted apure ev Eff.S Eff.H tmpOf upd putD AL.start AV.dem AV.cells AV.storable AV.scells splice scrub abin loadA HR.okB post ares aress ares1 AV.out AV.isData ints_len ints_get fz fz1 AV.vw AV.vw1 boxy vI int undefA assignQ thenQ blockQ seqQ panQ prol prolH allocOf
variable {GI:World→Prop}
end Go.Proofs.Tryz
namespace Go.Proofs.Tryz
open Go Go.AL Go.RowKit Go.Proofs
attribute [local simp] awp_all qs_all ops_allN dops_allN ops_nil dops_nil ops_call ops_callv ops_alloc ops_box dops_call dops_alloc kO_eq kD_eq awanted apure ev Eff.S Eff.H tmpOf upd putD AL.start AV.dem AV.cells AV.storable AV.scells splice scrub abin loadA HR.okB post ares aress ares1 AV.out AV.isData ints_len ints_get fz fz1 AV.vw AV.vw1 boxy vI int undefA assignQ thenQ blockQ seqQ panQ prol prolH allocOf
variable {GI:World→Prop}
end Go.Proofs.Tryz
namespace Go.Proofs.Tryz
open Go Go.AL Go.RowKit Go.Proofs
attribute [local simp] awp_all qs_all ops_all dops_all ops_nil dops_nil ops_call ops_callv ops_alloc ops_box dops_call dops_alloc kO_eq kD_eq awanted apure ev Eff.S Eff.H tmpOf upd putD AL.start AV.dem AV.cells AV.storable AV.scells splice scrub abin loadA HR.okB post ares aress ares1 AV.out AV.isData ints_len ints_get fz fz1 AV.vw AV.vw1 boxy vI int undefA assignQ thenQ blockQ seqQ panQ prol prolH allocOf
variable {GI:World→Prop}
end Go.Proofs.Tryz
namespace Go.Proofs.Tryz
open Go.AL
def joinS (c:UInt8):List (List UInt8)→List UInt8
 |[]=>[]
 |[p]=>p
 |p::q::r=>p++c::joinS c (q::r)
theorem joinS_cons (c:UInt8) (p:List UInt8) {l:List (List UInt8)} (h:l≠[]):joinS c (p::l)=p++c::joinS c l:=by
 cases l with
 |nil=>exact absurd rfl h
 |cons a l=>rfl
theorem splitS_app {c:UInt8}:∀ {p l:List UInt8},¬ c∈p→splitS c (p++c::l)=p::splitS c l
 |[],l,_=>by
  show (if c=c then []::splitS c l else _)=_
  rw [if_pos rfl]
 |b::p,l,h=>by
  have hb:b≠c:=fun e=>h (e ▸ List.mem_cons_self)
  show (if b=c then []::splitS c (p++c::l) else match splitS c (p++c::l) with | []=>[[b]] | p::ps=>(b::p)::ps)=_
  rw [if_neg hb,splitS_app (fun e=>h (List.mem_cons_of_mem _ e))]
theorem splitS_one {c:UInt8}:∀ {p:List UInt8},¬ c∈p→splitS c p=[p]
 |[],_=>rfl
 |b::p,h=>by
  have hb:b≠c:=fun e=>h (e ▸ List.mem_cons_self)
  show (if b=c then []::splitS c p else match splitS c p with | []=>[[b]] | p::ps=>(b::p)::ps)=_
  rw [if_neg hb,splitS_one (fun e=>h (List.mem_cons_of_mem _ e))]
theorem split_join {c:UInt8}:∀ {l:List (List UInt8)},l≠[]→(∀ p∈l,¬ c∈p)→splitS c (joinS c l)=l
 |[],h,_=>absurd rfl h
 |[p],_,h=>splitS_one (h p List.mem_cons_self)
 |p::q::r,_,h=>by
  rw [joinS_cons c p (by simp),splitS_app (h p List.mem_cons_self),split_join (by simp) (fun x hx=>h x (List.mem_cons_of_mem _ hx))]
theorem join_split (c:UInt8):∀ l:List UInt8,joinS c (splitS c l)=l
 |[]=>rfl
 |b::l=>by
  have ih:=join_split c l
  show joinS c (if b=c then []::splitS c l else match splitS c l with | []=>[[b]] | p::ps=>(b::p)::ps)=_
  have hn:=splitS_ne c l
  split
  ·rename_i h
   rw [joinS_cons c _ hn,ih,h];rfl
  ·cases hs:splitS c l with
   |nil=>exact absurd hs hn
   |cons p ps =>
    rw [hs] at ih
    simp only
    cases ps with
    |nil=>exact congrArg (b :: ·) ih
    |cons q ps=>exact congrArg (b :: ·) ih
def decI (n:Int):List UInt8:=decs 20 n.toNat
def dg (n:Nat):UInt8:=UInt8.ofNat (48+n)
theorem dg_nat {n:Nat} (h:n < 10):(dg n).toNat=48+n:=by
 unfold dg
 simp;omega
theorem dec_one {n:Nat} (h:n < 10):decs 20 n=[dg n]:=by
 show (if n < 10 then [UInt8.ofNat (48+n)] else _)=_
 rw [if_pos h];rfl
theorem dec_two {n:Nat} (h0:10≤n) (h:n < 100):decs 20 n=[dg (n / 10),dg (n % 10)]:=by
 show (if n < 10 then _ else decs 19 (n / 10)++[UInt8.ofNat (48+n % 10)])=_
 rw [if_neg (by omega)]
 show (if n / 10 < 10 then [UInt8.ofNat (48+n / 10)] else _)++_=_
 rw [if_pos (by omega)];rfl
theorem dec_three {n:Nat} (h0:100≤n) (h:n < 1000):decs 20 n=[dg (n / 100),dg (n / 10 % 10),dg (n % 10)]:=by
 show (if n < 10 then _ else decs 19 (n / 10)++[UInt8.ofNat (48+n % 10)])=_
 rw [if_neg (by omega)]
 show (if n / 10 < 10 then _ else decs 18 (n / 10 / 10)++[UInt8.ofNat (48+n / 10 % 10)])++_=_
 rw [if_neg (by omega)]
 show ((if n / 10 / 10 < 10 then [UInt8.ofNat (48+n / 10 / 10)] else _)++_)++_=_
 rw [if_pos (by omega),show n / 10 / 10=n / 100 by omega];rfl
def Num3 (n:Int):Prop:=0≤n∧n≤999
theorem dec_good {n:Int} (h:Num3 n):decI n≠[]∧(decI n).length≤3∧(∀ c∈decI n,digit c)∧numV (decI n)=n:=by
 obtain ⟨m,rfl⟩:∃ m:Nat,n=m:=⟨n.toNat,by have:=h.1;omega⟩
 have hm:m < 1000:=by have:=h.2;omega
 unfold decI
 rw [Int.toNat_natCast]
 by_cases h1:m < 10
 ·rw [dec_one h1]
  have e:=dg_nat h1
  refine ⟨by simp,by simp,?_,?_⟩
  ·intro c hc;rw [List.mem_singleton] at hc;subst hc;unfold digit;omega
  ·simp [numV,e];omega
 by_cases h2:m < 100
 ·rw [dec_two (by omega) h2]
  have e1:=dg_nat (n:=m / 10) (by omega)
  have e2:=dg_nat (n:=m % 10) (by omega)
  refine ⟨by simp,by simp,?_,?_⟩
  ·intro c hc
   simp only [List.mem_cons,List.not_mem_nil,or_false] at hc
   rcases hc with rfl | rfl<;>unfold digit<;>omega
  ·simp [numV,e1,e2];omega
 ·rw [dec_three (by omega) hm]
  have e1:=dg_nat (n:=m / 100) (by omega)
  have e2:=dg_nat (n:=m / 10 % 10) (by omega)
  have e3:=dg_nat (n:=m % 10) (by omega)
  refine ⟨by simp,by simp,?_,?_⟩
  ·intro c hc
   simp only [List.mem_cons,List.not_mem_nil,or_false] at hc
   rcases hc with rfl | rfl | rfl<;>unfold digit<;>omega
  ·simp [numV,e1,e2,e3];omega
theorem dec_no {n:Int} (h:Num3 n) {c:UInt8} (hc:¬ digit c):¬ c∈decI n:=fun hm=>hc ((dec_good h).2.2.1 c hm)
theorem numV_range3:∀ {w:List UInt8},(∀ c∈w,digit c)→w.length≤3→Num3 (numV w)
 |[],_,_=>by simp [numV,Num3]
 |[a],h,_=>by
  have h1:=h a (by simp)
  unfold digit at h1
  simp only [numV,List.foldl,Num3];omega
 |[a,b],h,_=>by
  have h1:=h a (by simp)
  have h2:=h b (by simp)
  unfold digit at h1 h2
  simp only [numV,List.foldl,Num3];omega
 |[a,b,c],h,_=>by
  have h1:=h a (by simp)
  have h2:=h b (by simp)
  have h3:=h c (by simp)
  unfold digit at h1 h2 h3
  simp only [numV,List.foldl,Num3];omega
 |_::_::_::_::_,_,h=>by simp at h
end Go.Proofs.Tryz
namespace Go.Proofs.Tryz
open Go.AL
def nmF:List UInt8:=[102,114,111,110,116]
def nmS:List UInt8:=[115,112,97,99,101,115]
def nmI:List UInt8:=[115,105,103,110]
def nmP:List UInt8:=[112,97,105,114]
def nmW:List UInt8:=[119,111,114,100]
def rowT (nm:List UInt8) (l:List (List UInt8)):List UInt8:=joinS 32 (nm::l)
def listT (l:List Int):List UInt8:=if l=[] then [45] else joinS 44 (l.map decI)
def freeT (b:Bool):List UInt8:=if b then [121,101,115] else [110,111]
def wordT (w:Word):List UInt8:=rowT nmW [freeT w.free,listT w.signs,listT w.cuts]
def pairT (p:Pair):List UInt8:=rowT nmP [decI p.l,decI p.r,decI p.lo,decI p.hi]
def signT (n:Int):List UInt8:=rowT nmI [decI n]
def frontT (s:Sheet):List UInt8:=rowT nmF [decI s.wide,decI s.rows]
def roomT (s:Sheet):List UInt8:=rowT nmS [decI s.olo,decI s.ohi,decI s.glo,decI s.ghi,decI s.hyphen]
def linesT (s:Sheet):List (List UInt8):=frontT s::roomT s::(s.widths.map signT++(s.pairs.map pairT++s.words.map wordT))
def lineC:Nat→List UInt8→Int
 |_,[]=>0
 |k,b::l=>(b.toNat:Int) * (k+1)+lineC (k+1) l
def checkC:Nat→List (List UInt8)→Int
 |_,[]=>0
 |i,r::rs=>lineC 0 r * (i+1)+checkC (i+1) rs
def endT (c:Int):List UInt8:=[101,110,100,32]++decI (c / 100)++decI (c / 10 % 10)++decI (c % 10)
def sealT (l:List (List UInt8)):List UInt8:=joinS 10 (l++[endT (checkC 0 l % 173),[]])
def textT (s:Sheet):List UInt8:=sealT (linesT s)
def givenW (w:List UInt8):Bool := !w.isEmpty && decide (w.length≤3) && (w.all fun c=>decide (48≤c.toNat) && decide (c.toNat≤57)) && decI (numV w)==w
theorem givenW_iff {w:List UInt8}:givenW w=true↔w≠[]∧w.length≤3∧(∀ c∈w,digit c)∧decI (numV w)=w:=by
 unfold givenW digit
 simp [and_assoc]
theorem givenW_num {w:List UInt8} (h:givenW w=true):Num3 (numV w):=by
 obtain ⟨_,h2,h3,_⟩:=givenW_iff.1 h
 exact numV_range3 h3 h2
def givenE:List (List UInt8)→Except (List UInt8) (List Int)
 |[] => .ok []
 |w::ws=>if givenW w then (match givenE ws with | .ok l => .ok (numV w::l) | .error e => .error e) else .error w
theorem givenE_ok:∀ {ws:List (List UInt8)},ws.all givenW=true→givenE ws = .ok (ws.map numV)
 |[],_=>rfl
 |w::ws,h=>by
  rw [List.all_cons,Bool.and_eq_true] at h
  unfold givenE
  rw [if_pos h.1,givenE_ok h.2];rfl
theorem givenE_inv:∀ {ws:List (List UInt8)} {l:List Int},givenE ws = .ok l→ws.all givenW=true∧l=ws.map numV
 |[],l,h=>by cases h;exact ⟨rfl,rfl⟩
 |w::ws,l,h=>by
  unfold givenE at h
  split at h
  ·rename_i hw
   cases hg:givenE ws with
   |error e=>rw [hg] at h;cases h
   |ok r =>
    rw [hg] at h
    cases h
    obtain ⟨h1,rfl⟩:=givenE_inv hg
    exact ⟨by rw [List.all_cons,hw,h1];rfl,rfl⟩
  ·cases h
def Nums (l:List Int):Prop:=∀ n∈l,Num3 n
theorem nums_nil:Nums []:=fun _ h=>(List.not_mem_nil h).elim
theorem nums_cons {a:Int} {l:List Int} (h:Num3 a) (hl:Nums l):Nums (a::l):=by
 intro n hn
 rcases List.mem_cons.1 hn with rfl | hn
 ·exact h
 ·exact hl n hn
theorem no_nil {c:UInt8}:∀ q∈([]:List (List UInt8)),¬ c∈q:=fun _ h=>(List.not_mem_nil h).elim
theorem no_cons {c:UInt8} {p:List UInt8} {l:List (List UInt8)} (h:¬ c∈p) (hl:∀ q∈l,¬ c∈q):∀ q∈p::l,¬ c∈q:=by
 intro q hq
 rcases List.mem_cons.1 hq with rfl | hq
 ·exact h
 ·exact hl q hq
theorem given_nums {ws:List (List UInt8)} (h:ws.all givenW=true):Nums (ws.map numV):=by
 intro n hn
 obtain ⟨w,hw,rfl⟩:=List.mem_map.1 hn
 exact givenW_num (List.all_eq_true.1 h w hw)
def listedE (w:List UInt8):Except (List UInt8) (List Int):=if w=[45] then .ok [] else givenE (splitS 44 w)
theorem joined_chars:∀ {l:List Int},Nums l→∀ c∈joinS 44 (l.map decI),digit c∨c=44∨c=45
 |[],_,c,hc=>by cases hc
 |[n],h,c,hc => .inl ((dec_good (h n List.mem_cons_self)).2.2.1 c hc)
 |n::m::l,h,c,hc=>by
  rw [List.map_cons,joinS_cons 44 _ (by simp)] at hc
  rcases List.mem_append.1 hc with hc | hc
  ·exact .inl ((dec_good (h n List.mem_cons_self)).2.2.1 c hc)
  ·rcases List.mem_cons.1 hc with rfl | hc
   ·exact .inr (.inl rfl)
   ·exact joined_chars (fun x hx=>h x (List.mem_cons_of_mem _ hx)) c hc
theorem listT_chars {l:List Int} (h:Nums l):∀ c∈listT l,digit c∨c=44∨c=45:=by
 intro c hc
 unfold listT at hc
 split at hc
 ·rw [List.mem_singleton] at hc;exact .inr (.inr hc)
 ·exact joined_chars h c hc
theorem listedE_nums {w:List UInt8} {l:List Int} (h:listedE w = .ok l):Nums l:=by
 unfold listedE at h
 split at h
 ·cases h;intro n hn;cases hn
 ·obtain ⟨h1,rfl⟩:=givenE_inv h
  exact given_nums h1
def thenE {α β:Type} (x:Except (List UInt8) α) (f:α→Except (List UInt8) β):Except (List UInt8) β:=match x with
 |.ok a=>f a
 |.error e => .error e
def foldE {α β:Type} (f:α→β→Except (List UInt8) α):α→List β→Except (List UInt8) α
 |a,[] => .ok a
 |a,b::l=>thenE (f a b) fun a'=>foldE f a' l
theorem foldE_app {α β:Type} {f:α→β→Except (List UInt8) α}:∀ {l r:List β} {a b:α},foldE f a l = .ok b→foldE f a (l++r)=foldE f b r
 |[],r,a,b,h=>by cases h;rfl
 |x::l,r,a,b,h=>by
  show thenE (f a x) (fun a'=>foldE f a' (l++r))=_
  have h:thenE (f a x) (fun a'=>foldE f a' l) = .ok b:=h
  cases hx:f a x with
  |error e=>rw [hx] at h;cases h
  |ok a' =>
   rw [hx] at h
   exact foldE_app (l:=l) h
def at' (l:List Int) (i:Nat):Int:=l[i]?.getD 0
def stepE (x:Sheet) (r:List UInt8):Except (List UInt8) Sheet :=
 let nm:=(splitS 32 r).headD []
 let ws:=(splitS 32 r).tail
 if nm=nmF∧ws.length=2 then thenE (givenE ws) fun n => .ok { x with wide:=at' n 0,rows:=at' n 1 }
 else if nm=nmS∧ws.length=5 then thenE (givenE ws) fun n => .ok { x with olo:=at' n 0,ohi:=at' n 1,glo:=at' n 2,ghi:=at' n 3,hyphen:=at' n 4 }
 else if nm=nmI∧ws.length=1 then thenE (givenE ws) fun n => .ok { x with widths:=x.widths++n }
 else if nm=nmP∧ws.length=4 then thenE (givenE ws) fun n => .ok { x with pairs:=x.pairs++[⟨at' n 0,at' n 1,at' n 2,at' n 3⟩] }
 else if nm=nmW∧ws.length=3 then thenE (listedE (ws[1]?.getD [])) fun a=>thenE (listedE (ws[2]?.getD [])) fun b => .ok { x with words:=x.words++[⟨a,b,ws[0]?.getD []==[121,101,115]⟩] }
 else .error r
def sheet0:Sheet:=⟨[],[],0,0,0,0,0,[],0,0⟩
def parsedE (t:List UInt8):Except (List UInt8) Sheet :=
 if (splitS 10 t).length < 2 then .error t
 else thenE (foldE stepE sheet0 ((splitS 10 t).take ((splitS 10 t).length - 2))) fun x=>if textT x=t then .ok x else .error t
structure NumS (s:Sheet):Prop where
 widths:Nums s.widths
 pairs:∀ p∈s.pairs,Num3 p.l∧Num3 p.r∧Num3 p.lo∧Num3 p.hi
 olo:Num3 s.olo
 ohi:Num3 s.ohi
 glo:Num3 s.glo
 ghi:Num3 s.ghi
 hyphen:Num3 s.hyphen
 words:∀ w∈s.words,Nums w.signs∧Nums w.cuts
 wide:Num3 s.wide
 rows:Num3 s.rows
theorem num3_at {l:List Int} (h:Nums l) (i:Nat):Num3 (at' l i):=by
 unfold at'
 cases e:l[i]? with
 |none=>exact ⟨by decide,by decide⟩
 |some n=>exact h n (List.mem_of_getElem? e)
theorem thenE_ok {α β:Type} {x:Except (List UInt8) α} {f:α→Except (List UInt8) β} {b:β} (h:thenE x f = .ok b):∃ a,x = .ok a∧f a = .ok b:=by
 cases x with
 |error e=>cases h
 |ok a=>exact ⟨a,rfl,h⟩
theorem givenE_nums {ws:List (List UInt8)} {l:List Int} (h:givenE ws = .ok l):Nums l:=by
 obtain ⟨h1,rfl⟩:=givenE_inv h
 exact given_nums h1
theorem stepE_nums {x y:Sheet} {r:List UInt8} (hx:NumS x) (h:stepE x r = .ok y):NumS y:=by
 unfold stepE at h
 simp only at h
 repeat' split at h
 ·obtain ⟨n,hn,h⟩:=thenE_ok h
  cases h
  have hn:=givenE_nums hn
  exact { hx with wide:=num3_at hn 0,rows:=num3_at hn 1 }
 ·obtain ⟨n,hn,h⟩:=thenE_ok h
  cases h
  have hn:=givenE_nums hn
  exact { hx with olo:=num3_at hn 0,ohi:=num3_at hn 1,glo:=num3_at hn 2,ghi:=num3_at hn 3,hyphen:=num3_at hn 4 }
 ·obtain ⟨n,hn,h⟩:=thenE_ok h
  cases h
  have hn:=givenE_nums hn
  refine { hx with widths:=fun k hk => ?_ }
  rcases List.mem_append.1 hk with hk | hk
  ·exact hx.widths k hk
  ·exact hn k hk
 ·obtain ⟨n,hn,h⟩:=thenE_ok h
  cases h
  have hn:=givenE_nums hn
  refine { hx with pairs:=fun k hk => ?_ }
  rcases List.mem_append.1 hk with hk | hk
  ·exact hx.pairs k hk
  ·rw [List.mem_singleton] at hk
   subst hk
   exact ⟨num3_at hn 0,num3_at hn 1,num3_at hn 2,num3_at hn 3⟩
 ·obtain ⟨a,ha,h⟩:=thenE_ok h
  obtain ⟨b,hb,h⟩:=thenE_ok h
  cases h
  refine { hx with words:=fun k hk => ?_ }
  rcases List.mem_append.1 hk with hk | hk
  ·exact hx.words k hk
  ·rw [List.mem_singleton] at hk
   subst hk
   exact ⟨listedE_nums ha,listedE_nums hb⟩
 ·cases h
theorem foldE_inv {α β:Type} {f:α→β→Except (List UInt8) α} {I:α→Prop} (hf:∀ a b a',I a→f a b = .ok a'→I a'):∀ {l:List β} {a b:α},I a→foldE f a l = .ok b→I b
 |[],a,b,h,e=>by cases e;exact h
 |x::l,a,b,h,e=>by
  obtain ⟨a',h1,h2⟩:=thenE_ok (show thenE (f a x) (fun a'=>foldE f a' l) = .ok b from e)
  exact foldE_inv hf (hf a x a' h h1) h2
theorem sheet0_nums:NumS sheet0:=by
 have z:Num3 0:=⟨by decide,by decide⟩
 exact ⟨fun _ h=>(List.not_mem_nil h).elim,fun _ h=>(List.not_mem_nil h).elim,z,z,z,z,z,fun _ h=>(List.not_mem_nil h).elim,z,z⟩
theorem parsed_ok {t:List UInt8} {x:Sheet} (h:parsedE t = .ok x):textT x=t∧NumS x:=by
 unfold parsedE at h
 split at h
 ·cases h
 ·obtain ⟨y,hy,h⟩:=thenE_ok h
  split at h
  ·rename_i ht
   cases h
   exact ⟨ht,foldE_inv (I:=NumS) (fun a b a' ha hab=>stepE_nums ha hab) sheet0_nums hy⟩
  ·cases h
theorem no10_join {c:UInt8} (hc:c≠10):∀ {l:List (List UInt8)},(∀ p∈l,¬ (10:UInt8)∈p)→¬ (10:UInt8)∈joinS c l
 |[],_,h=>by cases h
 |[p],h,hm=>h p List.mem_cons_self hm
 |p::q::r,h,hm=>by
  rw [joinS_cons c p (by simp)] at hm
  rcases List.mem_append.1 hm with hm | hm
  ·exact h p List.mem_cons_self hm
  ·rcases List.mem_cons.1 hm with e | hm
   ·exact hc e.symm
   ·exact no10_join hc (fun x hx=>h x (List.mem_cons_of_mem _ hx)) hm
theorem dec_no10 {n:Int} (h:Num3 n):¬ (10:UInt8)∈decI n:=dec_no h (by unfold digit;decide)
theorem list_no10 {l:List Int} (h:Nums l):¬ (10:UInt8)∈listT l:=by
 intro hc
 rcases listT_chars h 10 hc with h | h | h
 ·revert h;unfold digit;decide
 ·revert h;decide
 ·revert h;decide
theorem lines_no10 {s:Sheet} (h:NumS s):∀ p∈linesT s,¬ (10:UInt8)∈p:=by
 intro p hp
 unfold linesT at hp
 simp only [List.mem_cons,List.mem_append,List.mem_map] at hp
 rcases hp with rfl | rfl | ⟨n,hn,rfl⟩ | ⟨q,hq,rfl⟩ | ⟨w,hw,rfl⟩
 ·exact no10_join (by decide) (no_cons (by decide) (no_cons (dec_no10 h.wide) (no_cons (dec_no10 h.rows) no_nil)))
 ·exact no10_join (by decide) (no_cons (by decide) (no_cons (dec_no10 h.olo) (no_cons (dec_no10 h.ohi) (no_cons (dec_no10 h.glo) (no_cons (dec_no10 h.ghi) (no_cons (dec_no10 h.hyphen) no_nil))))))
 ·exact no10_join (by decide) (no_cons (by decide) (no_cons (dec_no10 (h.widths n hn)) no_nil))
 ·obtain ⟨h1,h2,h3,h4⟩:=h.pairs q hq
  exact no10_join (by decide) (no_cons (by decide) (no_cons (dec_no10 h1) (no_cons (dec_no10 h2) (no_cons (dec_no10 h3) (no_cons (dec_no10 h4) no_nil)))))
 ·obtain ⟨h1,h2⟩:=h.words w hw
  exact no10_join (by decide) (no_cons (by decide) (no_cons (by cases w.free<;>decide) (no_cons (list_no10 h1) (no_cons (list_no10 h2) no_nil))))
theorem check_range (l:List (List UInt8)):0≤checkC 0 l % 173∧checkC 0 l % 173 < 173:=by omega
theorem end_no10 {c:Int} (h:0≤c) (h':c < 173):¬ (10:UInt8)∈endT c:=by
 unfold endT
 simp only [List.mem_append]
 rintro (((h1 | h1) | h1) | h1)
 ·revert h1;decide
 ·exact dec_no10 ⟨by omega,by omega⟩ h1
 ·exact dec_no10 ⟨by omega,by omega⟩ h1
 ·exact dec_no10 ⟨by omega,by omega⟩ h1
theorem seal_split {l:List (List UInt8)} (h:∀ p∈l,¬ (10:UInt8)∈p):splitS 10 (sealT l)=l++[endT (checkC 0 l % 173),[]]:=by
 refine split_join (by simp) ?_
 intro p hp
 simp only [List.mem_append,List.mem_cons,List.not_mem_nil,or_false] at hp
 obtain ⟨h1,h2⟩:=check_range l
 rcases hp with hp | rfl | rfl
 ·exact h p hp
 ·exact end_no10 h1 h2
 ·simp
end Go.Proofs.Tryz
namespace Go.Proofs.Tryz
open Go.AL
theorem joinS_len (c:UInt8):∀ {l:List (List UInt8)},l≠[]→(joinS c l).length+1=(l.map fun p=>p.length+1).sum
 |[],h=>absurd rfl h
 |[p],_=>by simp [joinS]
 |p::q::r,_=>by
  have ih:=joinS_len c (l:=q::r) (by simp)
  rw [joinS_cons c p (by simp),List.map_cons,List.sum_cons,← ih]
  simp;omega
theorem dec_len {n:Int} (h:Num3 n):(decI n).length≤3∧(n < 100→(decI n).length≤2)∧(n < 10→(decI n).length=1):=by
 obtain ⟨m,rfl⟩:∃ m:Nat,n=m:=⟨n.toNat,by have:=h.1;omega⟩
 have hm:m < 1000:=by have:=h.2;omega
 unfold decI
 rw [Int.toNat_natCast]
 by_cases h1:m < 10
 ·rw [dec_one h1];simp
 by_cases h2:m < 100
 ·rw [dec_two (by omega) h2];simp;omega
 ·rw [dec_three (by omega) hm];simp;omega
theorem rowT_len (nm:List UInt8) (l:List (List UInt8)):(rowT nm l).length=nm.length+(l.map fun p=>p.length+1).sum:=by
 have:=joinS_len 32 (l:=nm::l) (by simp)
 rw [List.map_cons,List.sum_cons] at this
 unfold rowT
 omega
theorem sum_le {α:Type} (f:α→Nat) (b:Nat):∀ {l:List α},(∀ x∈l,f x≤b)→(l.map f).sum≤b * l.length
 |[],_=>by simp
 |a::l,h=>by
  have ih:=sum_le f b (l:=l) (fun x hx=>h x (List.mem_cons_of_mem _ hx))
  have ha:=h a List.mem_cons_self
  rw [List.map_cons,List.sum_cons,List.length_cons,Nat.mul_add]
  omega
theorem listT_len {l:List Int} (h:∀ n∈l,0≤n∧n < 10) {b:Nat} (hb:l.length≤b) (hb1:1≤b):(listT l).length+1≤2 * b:=by
 unfold listT
 split
 ·simp;omega
 ·rename_i hl
  rw [joinS_len 44 (by simpa using hl),List.map_map]
  refine Nat.le_trans (sum_le _ 2 fun n hn => ?_) (by omega)
  have:=(dec_len ⟨(h n hn).1,by have:=(h n hn).2;omega⟩).2.2 (h n hn).2
  show (decI n).length+1≤2
  omega
theorem sheet_nums {s:Sheet} (hs:sheetI s=true):NumS s:=by
 have hF:=sheetF hs
 have hi:∀ {n a b:Int},0≤a→b≤999→a≤n∧n≤b→Num3 n:=fun h0 h1 h=>⟨by omega,by omega⟩
 have ho:=hF.o
 have hg:=hF.g
 have hh:=hF.hyphen
 have hw:=hF.wide
 have hr:=hF.rows
 have hpr:∀ p∈s.pairs,p.l < s.widths.length∧p.r < s.widths.length:=by
  unfold sheetI at hs
  simp only [Bool.and_eq_true] at hs
  intro p hp
  have h:=(adjI_iff.1 hs.1.2).1 p hp
  unfold pairI signI inI at h
  simp only [Bool.and_eq_true,decide_eq_true_eq] at h
  omega
 have hwl:=hF.wlen
 refine { widths:=fun n hn => ?_,pairs:=fun p hp => ?_,olo:=⟨by omega,by omega⟩,ohi:=⟨by omega,by omega⟩,glo:=⟨by omega,by omega⟩,ghi:=⟨by omega,by omega⟩,hyphen:=⟨by omega,by omega⟩,words:=fun w hw=>⟨fun n hn => ?_,fun n hn => ?_⟩,wide:=⟨by omega,by omega⟩,rows:=⟨by omega,by omega⟩ }
 ·have:=hF.widths n hn;exact ⟨by omega,by omega⟩
 ·have h1:=hF.pairs p hp
  have h2:=hpr p hp
  exact ⟨⟨by omega,by omega⟩,⟨by omega,by omega⟩,⟨by omega,by omega⟩,⟨by omega,by omega⟩⟩
 ·have:=(wordF hs hw).sign n hn;exact ⟨by omega,by omega⟩
 ·have hc:=(wordF hs hw).cuts
  have h6:=(wordF hs hw).len6
  unfold risesI at hc
  have:=(adjI_iff.1 hc).1 n hn
  unfold inI at this
  simp only [Bool.and_eq_true,decide_eq_true_eq] at this
  exact ⟨by omega,by omega⟩
end Go.Proofs.Tryz
namespace Go.Proofs.Tryz
open Go.AL
theorem num_small {n:Int} (h:Num3 n) (h1:n < 100):(decI n).length≤2:=(dec_len h).2.1 h1
theorem num_one {n:Int} (h:Num3 n) (h1:n < 10):(decI n).length≤1:=Nat.le_of_eq ((dec_len h).2.2 h1)
theorem sum_app (l r:List (List UInt8)):((l++r).map fun p=>p.length+1).sum=(l.map fun p=>p.length+1).sum+(r.map fun p=>p.length+1).sum:=by
 rw [List.map_append,List.sum_append]
theorem sum_lines {α:Type} {f:α→List UInt8} {l:List α} {b:Nat} (h:∀ x∈l,(f x).length+1≤b):((l.map f).map fun p=>p.length+1).sum≤b * l.length:=by
 rw [List.map_map]
 exact sum_le _ b h
theorem lines_len {s:Sheet} (hs:sheetI s=true):(frontT s).length≤11∧(roomT s).length≤19∧(∀ n∈s.widths,(signT n).length≤7)∧(∀ p∈s.pairs,(pairT p).length≤12)∧∀ w∈s.words,(wordT w).length≤30:=by
 have hN:=sheet_nums hs
 have hF:=sheetF hs
 have ho:=hF.o
 have hg:=hF.g
 have hh:=hF.hyphen
 have hw:=hF.wide
 have hr:=hF.rows
 have hwl:=hF.wlen
 have hpr:∀ p∈s.pairs,p.l < s.widths.length∧p.r < s.widths.length:=by
  unfold sheetI at hs
  simp only [Bool.and_eq_true] at hs
  intro p hp
  have h:=(adjI_iff.1 hs.1.2).1 p hp
  unfold pairI signI inI at h
  simp only [Bool.and_eq_true,decide_eq_true_eq] at h
  omega
 refine ⟨?_,?_,fun n hn => ?_,fun p hp => ?_,fun w hw => ?_⟩
 ·unfold frontT;rw [rowT_len]
  have h1:=(dec_len hN.wide).1
  have h2:=num_one hN.rows (by omega)
  simp [nmF];omega
 ·unfold roomT;rw [rowT_len]
  have h1:=num_one hN.olo (by omega)
  have h2:=num_one hN.ohi (by omega)
  have h3:=num_small hN.glo (by omega)
  have h4:=num_small hN.ghi (by omega)
  have h5:=num_small hN.hyphen (by omega)
  simp [nmS];omega
 ·unfold signT;rw [rowT_len]
  have:=hF.widths n hn
  have h1:=num_small (hN.widths n hn) (by omega)
  simp [nmI];omega
 ·unfold pairT;rw [rowT_len]
  obtain ⟨n1,n2,n3,n4⟩:=hN.pairs p hp
  have h1:=hF.pairs p hp
  have h2:=hpr p hp
  have h3:=num_one n1 (by omega)
  have h4:=num_one n2 (by omega)
  have h5:=num_one n3 (by omega)
  have h6:=num_one n4 (by omega)
  simp [nmP];omega
 ·unfold wordT;rw [rowT_len]
  have f:=wordF hs hw
  have hc:=f.cuts
  have h6:=f.len6
  have h1:=f.len1
  have hcl:=rises_bound hc (by omega)
  have hcm:∀ n∈w.cuts,0≤n∧n < 10:=by
   intro n hn
   unfold risesI at hc
   have:=(adjI_iff.1 hc).1 n hn
   unfold inI at this
   simp only [Bool.and_eq_true,decide_eq_true_eq] at this
   omega
  have hsm:∀ n∈w.signs,0≤n∧n < 10:=by
   intro n hn
   have:=f.sign n hn
   omega
  have e1:=listT_len hsm h6 (by omega)
  have e2:=listT_len (b:=5) hcm (by omega) (by omega)
  have e3:(freeT w.free).length≤3:=by cases w.free<;>decide
  simp [nmW];omega
theorem endT_eq {c:Int} (h:0≤c) (h':c < 173):endT c=[101,110,100,32,dg (c / 100).toNat,dg (c / 10 % 10).toNat,dg (c % 10).toNat]:=by
 unfold endT decI
 rw [dec_one (by omega),dec_one (by omega),dec_one (by omega)];rfl
theorem dg_inj {a b:Nat} (ha:a < 10) (hb:b < 10) (h:dg a=dg b):a=b:=by
 have:=congrArg UInt8.toNat h
 rw [dg_nat ha,dg_nat hb] at this
 omega
theorem endT_inj {c d:Int} (h:0≤c) (h':c < 173) (g:0≤d) (g':d < 173) (e:endT c=endT d):c=d:=by
 rw [endT_eq h h',endT_eq g g'] at e
 simp only [List.cons.injEq,and_true,true_and] at e
 have e1:=dg_inj (by omega) (by omega) e.1
 have e2:=dg_inj (by omega) (by omega) e.2.1
 have e3:=dg_inj (by omega) (by omega) e.2.2
 omega
theorem text_len {s:Sheet} (hs:sheetI s=true):(textT s).length≤320:=by
 obtain ⟨h1,h2,h3,h4,h5⟩:=lines_len hs
 have hF:=sheetF hs
 have e:=joinS_len 10 (l:=linesT s++[endT (checkC 0 (linesT s) % 173),[]]) (by simp)
 have he:(endT (checkC 0 (linesT s) % 173)).length=7:=by
  obtain ⟨a,b⟩:=check_range (linesT s)
  rw [endT_eq a b];rfl
 rw [sum_app] at e
 have hl:((linesT s).map fun p=>p.length+1).sum=(frontT s).length+1+((roomT s).length+1+(((s.widths.map signT).map fun p=>p.length+1).sum+(((s.pairs.map pairT).map fun p=>p.length+1).sum+((s.words.map wordT).map fun p=>p.length+1).sum))):=by
  unfold linesT
  rw [List.map_cons,List.sum_cons,List.map_cons,List.sum_cons,sum_app,sum_app]
 have a1:=sum_lines (b:=8) fun n hn=>Nat.succ_le_succ (h3 n hn)
 have a2:=sum_lines (b:=13) fun n hn=>Nat.succ_le_succ (h4 n hn)
 have a3:=sum_lines (b:=31) fun n hn=>Nat.succ_le_succ (h5 n hn)
 have b1:=hF.wlen
 have b2:=hF.plen
 have b3:=hF.words.2
 have hz:(([endT (checkC 0 (linesT s) % 173),[]]:List (List UInt8)).map fun p=>p.length+1).sum=9:=by simp [he]
 rw [hl,hz] at e
 unfold textT sealT
 omega
theorem linesT_count {s:Sheet} (hs:sheetI s=true):(linesT s).length≤18:=by
 have hF:=sheetF hs
 have b1:=hF.wlen
 have b2:=hF.plen
 have b3:=hF.words.2
 unfold linesT
 simp;omega
theorem linesT_len {s:Sheet} (hs:sheetI s=true):∀ p∈linesT s,p.length≤30:=by
 obtain ⟨h1,h2,h3,h4,h5⟩:=lines_len hs
 intro p hp
 unfold linesT at hp
 simp only [List.mem_cons,List.mem_append,List.mem_map] at hp
 rcases hp with rfl | rfl | ⟨n,hn,rfl⟩ | ⟨q,hq,rfl⟩ | ⟨w,hw,rfl⟩
 ·omega
 ·omega
 ·have:=h3 n hn;omega
 ·have:=h4 q hq;omega
 ·exact h5 w hw
theorem join_set {c d:UInt8}:∀ {R:List (List UInt8)} {at':Nat} (h:at' < (joinS c R).length),(joinS c R)[at']≠c →
  ∃ i k,∃ hi:i < R.length,∃ hk:k < R[i].length,R[i][k]=(joinS c R)[at']∧(joinS c R).set at' d=joinS c (R.set i (R[i].set k d))
 |[],_,h,_=>by simp [joinS] at h
 |[p],n,h,_=>⟨0,n,Nat.zero_lt_one,h,rfl,rfl⟩
 |p::q::r,n,h,hn=>by
  have e:=joinS_cons c p (l:=q::r) (by simp)
  by_cases h1:n < p.length
  ·refine ⟨0,n,by simp,h1,?_,?_⟩
   ·simp only [List.getElem_cons_zero,e]
    rw [List.getElem_append_left h1]
   ·show _=joinS c (p.set n d::q::r)
    rw [joinS_cons c (p.set n d) (by simp)]
    simp only [e]
    rw [List.set_append_left _ _ h1]
  ·have h2:n≠p.length:=by
    intro e2
    apply hn
    simp only [e]
    rw [List.getElem_append_right (by omega)]
    simp [e2]
   have hl:(joinS c (p::q::r)).length=p.length+1+(joinS c (q::r)).length:=by rw [e];simp;omega
   have h3:n - p.length - 1 < (joinS c (q::r)).length:=by omega
   have hg:(joinS c (p::q::r))[n]=(joinS c (q::r))[n - p.length - 1]:=by
    simp only [e]
    rw [List.getElem_append_right (by omega)]
    obtain ⟨m,hm⟩:∃ m,n - p.length=m+1:=⟨n - p.length - 1,by omega⟩
    simp [hm]
   obtain ⟨i,k,hi,hk,e1,e2⟩:=join_set (R:=q::r) (d:=d) h3 (by rw [← hg];exact hn)
   refine ⟨i+1,k,by simpa using hi,by simpa using hk,by rw [hg];simpa using e1,?_⟩
   show _=joinS c (p::(q::r).set i _)
   rw [joinS_cons c p (l:=(q::r).set i _) (by simp)]
   simp only [e]
   rw [List.set_append_right _ _ (by omega)]
   obtain ⟨m,hm⟩:∃ m,n - p.length=m+1:=⟨n - p.length - 1,by omega⟩
   rw [hm,List.set_cons_succ]
   rw [show n - p.length - 1=m by omega] at e2
   rw [e2];rfl
theorem lineC_set {d:UInt8}:∀ {l:List UInt8} {m k:Nat} (h:k < l.length),lineC m (l.set k d)=lineC m l+((d.toNat:Int) - (l[k].toNat:Int)) * ((m+k:Nat)+1)
 |[],_,_,h=>by simp at h
 |b::l,m,0,h=>by
  show (d.toNat:Int) * (m+1)+lineC (m+1) l=(b.toNat:Int) * (m+1)+lineC (m+1) l+_
  simp only [List.getElem_cons_zero,Nat.add_zero]
  rw [Int.sub_mul];omega
 |b::l,m,k+1,h=>by
  show (b.toNat:Int) * (m+1)+lineC (m+1) (l.set k d)=(b.toNat:Int) * (m+1)+lineC (m+1) l+_
  rw [lineC_set (by simpa using h)]
  simp only [List.getElem_cons_succ]
  rw [show m+1+k=m+(k+1) by omega];omega
theorem checkC_set {x:List UInt8}:∀ {L:List (List UInt8)} {m i:Nat} (h:i < L.length),checkC m (L.set i x)=checkC m L+(lineC 0 x - lineC 0 L[i]) * ((m+i:Nat)+1)
 |[],_,_,h=>by simp at h
 |b::l,m,0,h=>by
  show lineC 0 x * (m+1)+checkC (m+1) l=lineC 0 b * (m+1)+checkC (m+1) l+_
  simp only [List.getElem_cons_zero,Nat.add_zero]
  rw [Int.sub_mul];omega
 |b::l,m,i+1,h=>by
  show lineC 0 b * (m+1)+checkC (m+1) (l.set i x)=lineC 0 b * (m+1)+checkC (m+1) l+_
  rw [checkC_set (by simpa using h)]
  simp only [List.getElem_cons_succ]
  rw [show m+1+i=m+(i+1) by omega];omega
theorem cop173:∀ m,m < 173→0 < m→Nat.Coprime 173 m:=by decide +kernel
theorem no173 {a b c:Nat} (ha:0 < a) (ha':a < 173) (hb:0 < b) (hb':b < 173) (hc:0 < c) (hc':c < 173):¬ 173 ∣ a * b * c:=by
 intro h
 have h1:=(cop173 c hc' hc).dvd_of_dvd_mul_right h
 have h2:=(cop173 b hb' hb).dvd_of_dvd_mul_right h1
 exact absurd (Nat.le_of_dvd ha h2) (by omega)
theorem seal_spoilt {L L':List (List UInt8)} (hL:∀ p∈L,¬ (10:UInt8)∈p) (hL':∀ p∈L',¬ (10:UInt8)∈p) (hn:L.length≤100) (hl:∀ p∈L,p.length≤100) {n:Nat} (h:n < (sealT L).length) {d:UInt8}
  (ho:digit (sealT L)[n]) (hd:digit d) (hne:d≠(sealT L)[n]):sealT L'≠(sealT L).set n d:=by
 intro e
 have d10:∀ {c:UInt8},digit c→c≠10:=fun hc e=>by subst e;revert hc;unfold digit;decide
 obtain ⟨i,k,hi,hk,e1,e2⟩:=join_set (c:=10) (d:=d) h (d10 ho)
 replace e1:(L++[endT (checkC 0 L % 173),[]])[i][k]=(sealT L)[n]:=e1
 have c1:=check_range L
 have c2:=check_range L'
 have s1:=seal_split hL'
 rw [e] at s1
 have hR:∀ p∈(L++[endT (checkC 0 L % 173),[]]),¬ (10:UInt8)∈p:=by
  intro p hp
  simp only [List.mem_append,List.mem_cons,List.not_mem_nil,or_false] at hp
  rcases hp with hp | rfl | rfl
  ·exact hL p hp
  ·exact end_no10 c1.1 c1.2
  ·simp
 unfold sealT at s1
 rw [e2,split_join (by simp) (by
  intro p hp
  rcases List.mem_or_eq_of_mem_set hp with hp | rfl
  ·exact hR p hp
  ·intro hm
   rcases List.mem_or_eq_of_mem_set hm with hm | hm
   ·exact hR _ (List.getElem_mem hi) hm
   ·exact d10 hd hm.symm)] at s1
 have hlen:(L++[endT (checkC 0 L % 173),[]]).length=L.length+2:=by simp
 have hl':=congrArg List.length s1
 rw [List.length_set,hlen,List.length_append] at hl'
 have hl':L'.length=L.length:=by simp at hl';omega
 have hdig:(d.toNat:Int) - ((sealT L)[n].toNat:Int)≠0:=by
  intro e0
  apply hne
  exact UInt8.toNat_inj.1 (by omega)
 change 48≤d.toNat∧d.toNat≤57 at hd
 change 48≤((sealT L)[n]).toNat∧((sealT L)[n]).toNat≤57 at ho
 by_cases hiL:i < L.length
 ·rw [List.set_append_left _ _ hiL] at s1
  obtain ⟨s2,s3⟩:=List.append_inj s1 (by rw [List.length_set];exact hl'.symm)
  simp only [List.cons.injEq,and_true] at s3
  have hc:=endT_inj c1.1 c1.2 c2.1 c2.2 s3
  have hLi:(L++[endT (checkC 0 L % 173),[]])[i]=L[i]:=List.getElem_append_left hiL
  have hk':k < L[i].length:=by rw [hLi] at hk;exact hk
  have e1':L[i][k]=(sealT L)[n]:=by rw [← e1];simp only [hLi]
  rw [← s2,checkC_set hiL] at hc
  simp only [hLi] at hc
  rw [lineC_set hk',e1'] at hc
  generalize ((sealT L)[n]).toNat=o at *
  have hz:(173:Int) ∣ ((d.toNat:Int) - o) * ((0+k:Nat)+1) * ((0+i:Nat)+1):=by
   have:lineC 0 L[i]+((d.toNat:Int) - o) * ((0+k:Nat)+1) - lineC 0 L[i]=((d.toNat:Int) - o) * ((0+k:Nat)+1):=by omega
   rw [this] at hc
   generalize ((d.toNat:Int) - o) * ((0+k:Nat)+1) * ((0+i:Nat)+1)=z at hc ⊢
   omega
  have hz:=Int.natAbs_dvd_natAbs.2 hz
  rw [Int.natAbs_mul,Int.natAbs_mul] at hz
  have hki:=hl _ (List.getElem_mem hiL)
  refine no173 ?_ ?_ ?_ ?_ ?_ ?_ hz<;>omega
 ·have hi2:i=L.length∨i=L.length+1:=by omega
  rcases hi2 with rfl | rfl
  ·have hg:(L++[endT (checkC 0 L % 173),[]])[L.length]=endT (checkC 0 L % 173):=by
    rw [List.getElem_append_right (Nat.le_refl _)];simp
   rw [List.set_append_right _ _ (Nat.le_refl _)] at s1
   obtain ⟨s2,s3⟩:=List.append_inj s1 hl'.symm
   subst s2
   simp only [Nat.sub_self,List.set_cons_zero,List.cons.injEq,and_true] at s3
   rw [hg] at s3
   have hk':k < (endT (checkC 0 L % 173)).length:=by rw [hg] at hk;exact hk
   have e3:(endT (checkC 0 L % 173))[k]=(sealT L)[n]:=by rw [← e1];simp only [hg]
   apply hne
   rw [← e3]
   have e4:((endT (checkC 0 L % 173)).set k d)[k]'(by rw [List.length_set];exact hk')=d:=by simp
   rw [← e4]
   congr 1
  ·have hg:(L++[endT (checkC 0 L % 173),[]])[L.length+1]=[]:=by
    rw [List.getElem_append_right (by omega)];simp
   rw [hg] at hk
   simp at hk
theorem text_spoilt {s:Sheet} (hs:sheetI s=true) {n:Nat} (h:n < (textT s).length) {d:UInt8} (ho:digit (textT s)[n]) (hd:digit d) (hne:d≠(textT s)[n]):∀ x,parsedE ((textT s).set n d) ≠ .ok x:=by
 intro x hx
 obtain ⟨h1,h2⟩:=parsed_ok hx
 exact seal_spoilt (lines_no10 (sheet_nums hs)) (lines_no10 h2) (by have:=linesT_count hs;omega) (fun p hp=>by have:=linesT_len hs p hp;omega) h ho hd hne h1
end Go.Proofs.Tryz
namespace Go.Proofs.Tryz
open Go.AL
def tailT (l:List Int):List UInt8:=l.flatMap fun n=>32::decI n
theorem join_tail (c:UInt8):∀ (p:List UInt8) (l:List (List UInt8)),joinS c (p::l)=p++l.flatMap fun q=>c::q
 |p,[]=>by simp [joinS]
 |p,q::l=>by
  rw [joinS_cons c p (by simp),join_tail c q l,List.flatMap_cons]
  simp
theorem rowT_flat (nm:List UInt8) (l:List Int):rowT nm (l.map decI)=nm++tailT l:=by
 unfold rowT tailT
 rw [join_tail,List.flatMap_map]
theorem tailT_len {l:List Int} (h:Nums l):(tailT l).length≤4 * l.length:=by
 induction l with
 |nil=>simp [tailT]
 |cons n l ih =>
  have ih:=ih fun x hx=>h x (List.mem_cons_of_mem _ hx)
  have:=(dec_len (h n List.mem_cons_self)).1
  unfold tailT at ih ⊢
  rw [List.flatMap_cons,List.length_append,List.length_cons,List.length_cons]
  omega
def listP (l:List Int) (i:Nat):List UInt8:=joinS 44 ((l.take i).map decI)
theorem listP_len {l:List Int} (h:Nums l) (i:Nat):(listP l i).length≤4 * l.length:=by
 unfold listP
 by_cases h0:(l.take i).map decI=[]
 ·rw [h0];simp [joinS]
 ·have:=joinS_len 44 h0
  rw [List.map_map] at this
  have h2:((l.take i).map ((fun p=>p.length+1) ∘ decI)).sum≤4 * (l.take i).length:=sum_le _ 4 fun n hn=>by
   have:=(dec_len (h n (List.mem_of_mem_take hn))).1
   show (decI n).length+1≤4
   omega
  rw [List.length_take] at h2
  omega
def flatT (l:List (List UInt8)):List UInt8:=l.flatMap fun p=>p++[10]
theorem flatT_take {l:List (List UInt8)} {i:Nat} (h:i < l.length):flatT (l.take (i+1))=flatT (l.take i)++l[i]++[10]:=by
 unfold flatT
 rw [List.take_succ_eq_append_getElem h,List.flatMap_append]
 simp
theorem flatT_len {l:List (List UInt8)} {b:Nat} (h:∀ p∈l,p.length < b):(flatT l).length≤b * l.length:=by
 induction l with
 |nil=>simp [flatT]
 |cons p l ih =>
  have ih:=ih fun x hx=>h x (List.mem_cons_of_mem _ hx)
  have:=h p List.mem_cons_self
  unfold flatT at ih ⊢
  rw [List.flatMap_cons,List.length_append,List.length_append,List.length_singleton,List.length_cons,Nat.mul_add]
  omega
theorem sealT_flat (l:List (List UInt8)):sealT l=flatT l++endT (checkC 0 l % 173)++[10]:=by
 have:∀ (l:List (List UInt8)) (e:List UInt8),joinS 10 (l++[e,[]])=flatT l++e++[10]:=by
  intro l
  induction l with
  |nil=>intro e;simp [joinS,flatT]
  |cons p l ih =>
   intro e
   rw [List.cons_append,joinS_cons 10 p (by simp),ih e]
   unfold flatT
   simp
 exact this l _
theorem lineC_app:∀ (l r:List UInt8) (k:Nat),lineC k (l++r)=lineC k l+lineC (k+l.length) r
 |[],r,k=>by simp [lineC]
 |b::l,r,k=>by
  show (b.toNat:Int) * (k+1)+lineC (k+1) (l++r)=(b.toNat:Int) * (k+1)+lineC (k+1) l+_
  rw [lineC_app l r (k+1),List.length_cons,show k+1+l.length=k+(l.length+1) by omega]
  omega
theorem lineC_take {l:List UInt8} {k:Nat} (h:k < l.length):lineC 0 (l.take (k+1))=lineC 0 (l.take k)+(l[k].toNat:Int) * (k+1):=by
 rw [List.take_succ_eq_append_getElem h,lineC_app]
 simp [lineC,List.length_take,Nat.min_eq_left (Nat.le_of_lt h)]
theorem checkC_app:∀ (l r:List (List UInt8)) (k:Nat),checkC k (l++r)=checkC k l+checkC (k+l.length) r
 |[],r,k=>by simp [checkC]
 |b::l,r,k=>by
  show lineC 0 b * (k+1)+checkC (k+1) (l++r)=lineC 0 b * (k+1)+checkC (k+1) l+_
  rw [checkC_app l r (k+1),List.length_cons,show k+1+l.length=k+(l.length+1) by omega]
  omega
theorem checkC_take {l:List (List UInt8)} {k:Nat} (h:k < l.length):checkC 0 (l.take (k+1))=checkC 0 (l.take k)+lineC 0 l[k] * (k+1):=by
 rw [List.take_succ_eq_append_getElem h,checkC_app]
 simp [checkC,List.length_take,Nat.min_eq_left (Nat.le_of_lt h)]
theorem byte_le (b:UInt8):b.toNat≤255:=by have:=UInt8.toNat_lt b;omega
theorem lineC_bound:∀ (l:List UInt8) (k:Nat),k+l.length≤10000→0≤lineC k l∧lineC k l≤2550000 * l.length
 |[],k,_=>by simp [lineC]
 |b::l,k,h=>by
  have ih:=lineC_bound l (k+1) (by simp at h;omega)
  have hb:=byte_le b
  have h1:(b.toNat:Int) * (k+1)≤255 * 10000:=Int.mul_le_mul (by omega) (by simp at h;omega) (by omega) (by omega)
  have h2:0≤(b.toNat:Int) * (k+1):=Int.mul_nonneg (by omega) (by omega)
  show 0≤(b.toNat:Int) * (k+1)+lineC (k+1) l∧(b.toNat:Int) * (k+1)+lineC (k+1) l≤_
  rw [List.length_cons]
  omega
theorem checkC_bound:∀ (l:List (List UInt8)) (k:Nat),k+l.length≤1000→(∀ p∈l,p.length≤10000)→0≤checkC k l∧checkC k l≤25500000000000 * l.length
 |[],k,_,_=>by simp [checkC]
 |b::l,k,h,hp=>by
  have ih:=checkC_bound l (k+1) (by simp at h;omega) fun x hx=>hp x (List.mem_cons_of_mem _ hx)
  have hb:=hp b List.mem_cons_self
  have hl:=lineC_bound b 0 (by omega)
  have h1:lineC 0 b * (k+1)≤25500000000 * 1000:=Int.mul_le_mul (by omega) (by simp at h;omega) (by omega) (by omega)
  have h2:0≤lineC 0 b * (k+1):=Int.mul_nonneg (by omega) (by omega)
  show 0≤lineC 0 b * (k+1)+checkC (k+1) l∧lineC 0 b * (k+1)+checkC (k+1) l≤_
  rw [List.length_cons]
  omega
end Go.Proofs.Tryz
namespace Go.Proofs.Tryz
open Go Go.AL Go.RowKit Go.Proofs
attribute [local simp] awp_all qs_all ops_all dops_all ops_nil dops_nil ops_call ops_callv ops_alloc ops_box dops_call dops_alloc kO_eq kD_eq awanted apure ev Eff.S Eff.H tmpOf upd putD AL.start AV.dem AV.cells AV.storable AV.scells splice scrub abin loadA HR.okB post ares aress ares1 AV.out AV.isData ints_len ints_get fz fz1 AV.vw AV.vw1 boxy vI int undefA assignQ thenQ blockQ seqQ panQ prol prolH allocOf
variable {GI:World→Prop}
end Go.Proofs.Tryz
namespace Go.AL
theorem awp_in_block {P:Program} {GI:World→Prop} {id:Nat} {c:ACode} {Q:AExit→Slots→Boxes→Prop} {S:Slots} {H:Boxes} (h:awp P GI c (blockQ id Q) S H):awp P GI (.block id c) Q S H:=h
end Go.AL
namespace Go.Proofs.Tryz
open Go Go.AL Go.RowKit Go.Proofs
attribute [local simp] awp_all qs_all ops_all dops_all ops_nil dops_nil ops_call ops_callv ops_alloc ops_box dops_call dops_alloc kO_eq kD_eq awanted apure ev Eff.S Eff.H tmpOf upd putD AL.start AV.dem AV.cells AV.storable AV.scells splice scrub abin loadA HR.okB post ares aress ares1 AV.out AV.isData ints_len ints_get fz fz1 AV.vw AV.vw1 boxy vI int undefA assignQ thenQ blockQ seqQ panQ prol prolH allocOf
variable {GI:World→Prop}
end Go.Proofs.Tryz
namespace Go.Proofs.Tryz
open Go Go.AL Go.RowKit Go.Proofs
attribute [local simp] awp_all qs_all ops_allN dops_allN ops_nil dops_nil ops_call ops_callv ops_alloc ops_box dops_call dops_alloc kO_eq kD_eq awanted apure ev Eff.S Eff.H tmpOf upd putD AL.start AV.dem AV.cells AV.storable AV.scells splice scrub abin loadA HR.okB post ares aress ares1 AV.out AV.isData ints_len ints_get fz fz1 AV.vw AV.vw1 boxy vI int undefA assignQ thenQ blockQ seqQ panQ prol prolH allocOf
variable {GI:World→Prop}
theorem str_ok1 (l:List (List UInt8)):elemsOK 1 (l.map AV.str)=true:=elems_map fun a=>⟨rfl,rfl⟩
theorem wordT_eq (w:Word):wordT w=((((([119,111,114,100,32]++freeT w.free)++[32])++listT w.signs)++[32])++listT w.cuts):=by
 unfold wordT rowT
 simp [joinS,nmW]
theorem listT_small {l:List Int} (h:Nums l) (hl:l.length < 1000):(listT l).length≤4000:=by
 by_cases h0:l=[]
 ·subst h0;simp [listT]
 ·have:=listP_len h l.length
  have e:listT l=listP l l.length:=by unfold listT listP;rw [if_neg h0,List.take_of_length_le (Nat.le_refl _)]
  rw [e];omega
structure Few (s:Sheet):Prop where
 widths:s.widths.length≤300
 pairs:s.pairs.length≤300
 words:s.words.length≤300
 signs:∀ w∈s.words,w.signs.length < 1000
 cuts:∀ w∈s.words,w.cuts.length < 1000
theorem rowT_small {nm:List UInt8} {l:List Int} (hn:nm.length≤10) (h:Nums l) (hl:l.length≤5):(rowT nm (l.map decI)).length < 10000:=by
 rw [rowT_flat,List.length_append]
 have:=tailT_len h
 omega
theorem lines_small {s:Sheet} (hN:NumS s) (hf:Few s):∀ p∈linesT s,p.length < 10000:=by
 intro p hp
 unfold linesT at hp
 simp only [List.mem_cons,List.mem_append,List.mem_map] at hp
 rcases hp with rfl | rfl | ⟨n,hn,rfl⟩ | ⟨q,hq,rfl⟩ | ⟨w,hw,rfl⟩
 ·exact rowT_small (l:=[s.wide,s.rows]) (by decide) (nums_cons hN.wide (nums_cons hN.rows nums_nil)) (by simp)
 ·exact rowT_small (l:=[s.olo,s.ohi,s.glo,s.ghi,s.hyphen]) (by decide) (nums_cons hN.olo (nums_cons hN.ohi (nums_cons hN.glo (nums_cons hN.ghi (nums_cons hN.hyphen nums_nil))))) (by simp)
 ·exact rowT_small (l:=[n]) (by decide) (nums_cons (hN.widths n hn) nums_nil) (by simp)
 ·obtain ⟨h1,h2,h3,h4⟩:=hN.pairs q hq
  exact rowT_small (l:=[q.l,q.r,q.lo,q.hi]) (by decide) (nums_cons h1 (nums_cons h2 (nums_cons h3 (nums_cons h4 nums_nil)))) (by simp)
 ·obtain ⟨h1,h2⟩:=hN.words w hw
  have a:=listT_small h1 (hf.signs w hw)
  have b:=listT_small h2 (hf.cuts w hw)
  have c:(freeT w.free).length≤3:=by cases w.free<;>decide
  rw [wordT_eq]
  simp
  omega
end Go.Proofs.Tryz
namespace Go.Proofs.Tryz
open Go.AL
theorem join_S (c:UInt8):∀ l:List (List UInt8),Lib.join l [c]=joinS c l
 |[]=>rfl
 |[p]=>by rw [Lib.join_one];rfl
 |p::q::r=>by
  rw [joinS_cons c p (by simp),← join_S c (q::r),Lib.join_cons,Lib.join_cons]
  simp [Lib.joinTail]
end Go.Proofs.Tryz
namespace Go.Proofs.Tryz
open Go Go.AL Go.RowKit Go.Proofs
attribute [local simp] awp_all qs_all ops_allN dops_allN ops_nil dops_nil ops_call ops_callv ops_alloc ops_box dops_call dops_alloc kO_eq kD_eq awanted apure ev Eff.S Eff.H tmpOf upd putD AL.start AV.dem AV.cells AV.storable AV.scells splice scrub abin loadA HR.okB post ares aress ares1 AV.out AV.isData ints_len ints_get fz fz1 AV.vw AV.vw1 boxy vI int undefA assignQ thenQ blockQ seqQ panQ prol prolH allocOf
variable {GI:World→Prop}
def TB (GI:World→Prop):Prop:=∀ w,GI w→Lib.TabIs prog w "internal/strconv.uint64pow10" .u64 Lib.pow10Tab
theorem ac157n (hT:TB GI) {n:Int} (h:Num3 n):AC prog GI 157 [.int .i64 n] (.ret (.str (decI n))):=by
 intro w old cargs hG hl hr
 obtain ⟨v,rfl⟩:=args1 hl rfl
 have e1:=(hr 0 (by simp) (by simp)).int_eq
 simp only [List.getElem_toArray,List.getElem_cons_zero] at e1
 subst e1
 obtain ⟨h0,h1⟩:=h
 refine (Tryz.strconv_Itoa n (by omega) (by omega) w (hT w hG)).mono ?_
 rintro e w' ⟨rfl,k,os,rfl⟩
 refine ⟨Lib.below_grow _ w (Nat.le_refl _) k os,fun _=>0,fun _ _=>rfl,_,rfl,.data _ _ ?_,trivial⟩
 have hi:Lib.itoa n=decI n:=by
  unfold Lib.itoa decI
  rw [if_neg (by omega),decs_eq 20 n.toNat (by omega) (by omega)]
 rw [hi]
 exact .str _
theorem ac226 (hG:Stable GI) (hT:TB GI) (l:List Int) (h0:l≠[]) (hl:l.length < 1000) (h:Nums l):AC prog GI 226 [vI l] (.ret (strs (l.map decI))):=by
 have e0:strs (l.map decI) = .slice .view ((l.map decI).map .str):=rfl
 rw [e0]
 refine AC.of_body hG hmix func226 rfl ntmps226 (by simp) (ac:=c226) (by kernel_rfl) ?_
 simp [c226,ops_ap,dops_ap]
 refine awp_loop 8 l.length (fun i S H=>S 6=vI l∧S 7 = .int .i64 (l.length:Nat)∧S 8 = .int .i64 (i:Nat)∧S 3=grow 9 (((l.take i).map decI).map AV.str)) (fun i S H h=>h.2.2.1) ⟨by simp [ops_ap,dops_ap],by simp [ops_ap,dops_ap],by simp [ops_ap,dops_ap],by simp [ops_ap,dops_ap,grow]⟩ ?_
 rintro i hi S H ⟨s6,s7,s8,s3⟩
 by_cases hlt:i < l.length
 case neg =>
  have hil:i=l.length:=by omega
  subst hil
  rw [List.take_of_length_le (Nat.le_refl _)] at s3
  simp [ops_ap,dops_ap,s6,s7,s8,s3,grow,h0]
 have hw:IntKind.i64.wrap ((i:Int)+1)=i+1:=wrapI (by omega)
 have a157:=ac157n hT (h _ (List.getElem_mem hlt))
 have ht:(l.take (i+1)).map decI=(l.take i).map decI++[decI l[i]]:=by
  rw [List.take_succ_eq_append_getElem hlt,List.map_append];rfl
 have hlen:((l.take i).map decI).length≤1000:=by simp;omega
 rw [ht]
 generalize (l.take i).map decI=B at *
 generalize decI l[i]=t at *
 have hok1:elemsOK 1 [AV.str t]=true:=rfl
 simp [s6,s7,s8,s3,hlt]
 refine ⟨_,by kernel_rfl,a157,by simp [boxy],?_⟩
 simp [s6,s7,s8,s3,hok1]
 refine aops_app (B.map AV.str) (AV.str t) (.own 9) (by simp [s3,grow]) (by simp) hok1 (str_ok1 B) (by rw [List.length_map];omega) ?_
 intro S' sd hk'
 simp [sd,hk',s6,s7,s8,hlt,hw,grow]
end Go.Proofs.Tryz
namespace Go.Proofs.Tryz
open Go Go.AL Go.RowKit Go.Proofs
attribute [local simp] awp_all qs_all ops_all dops_all ops_nil dops_nil ops_call ops_callv ops_alloc ops_box dops_call dops_alloc kO_eq kD_eq awanted apure ev Eff.S Eff.H tmpOf upd putD AL.start AV.dem AV.cells AV.storable AV.scells splice scrub abin loadA HR.okB post ares aress ares1 AV.out AV.isData ints_len ints_get fz fz1 AV.vw AV.vw1 boxy vI int undefA assignQ thenQ blockQ seqQ panQ prol prolH allocOf
variable {GI:World→Prop}
theorem ac225 (hG:Stable GI) (hT:TB GI) (s:Sheet) (hN:NumS s):AC prog GI 225 [sheetA s] (.ret (strs ([s.wide,s.rows].map decI))):=by
 have a:=ac226 hG hT [s.wide,s.rows] (by simp) (by simp) (nums_cons hN.wide (nums_cons hN.rows nums_nil))
 have hok2:elemsOK 1 [AV.int .i64 s.wide,AV.int .i64 s.rows]=true:=rfl
 generalize ho:strs ([s.wide,s.rows].map decI)=o at *
 have hs:o.storable=true:=by rw [← ho];rfl
 have hv:o.vw=o:=by rw [← ho];rfl
 refine AC.of_body hG hmix func225 rfl ntmps225 (by simp) (ac:=c225) (by kernel_rfl) ?_
 simp [c225,sheetA,sheetL,hok2]
 refine ⟨_,by kernel_rfl,a,by simp [boxy],?_⟩
 subst ho
 simp [strs]
theorem ac227 (hG:Stable GI) (hT:TB GI) (s:Sheet) (hN:NumS s):AC prog GI 227 [sheetA s] (.ret (strs ([s.olo,s.ohi,s.glo,s.ghi,s.hyphen].map decI))):=by
 have a:=ac226 hG hT [s.olo,s.ohi,s.glo,s.ghi,s.hyphen] (by simp) (by simp) (nums_cons hN.olo (nums_cons hN.ohi (nums_cons hN.glo (nums_cons hN.ghi (nums_cons hN.hyphen nums_nil)))))
 have hok2:elemsOK 1 [AV.int .i64 s.olo,AV.int .i64 s.ohi,AV.int .i64 s.glo,AV.int .i64 s.ghi,AV.int .i64 s.hyphen]=true:=rfl
 generalize ho:strs ([s.olo,s.ohi,s.glo,s.ghi,s.hyphen].map decI)=o at *
 refine AC.of_body hG hmix func227 rfl ntmps227 (by simp) (ac:=c227) (by kernel_rfl) ?_
 simp [c227,sheetA,sheetL,hok2]
 refine ⟨_,by kernel_rfl,a,by simp [boxy],?_⟩
 subst ho
 simp [strs]
theorem ac228 (hG:Stable GI) (hT:TB GI) (n:Int) (h:Num3 n):AC prog GI 228 [.agg [.int .i64 n]] (.ret (strs ([n].map decI))):=by
 have a:=ac226 hG hT [n] (by simp) (by simp) (nums_cons h nums_nil)
 have hok2:elemsOK 1 [AV.int .i64 n]=true:=rfl
 generalize ho:strs ([n].map decI)=o at *
 refine AC.of_body hG hmix func228 rfl ntmps228 (by simp) (ac:=c228) (by kernel_rfl) ?_
 simp [c228,hok2]
 refine ⟨_,by kernel_rfl,a,by simp [boxy],?_⟩
 subst ho
 simp [strs]
theorem ac229 (hG:Stable GI) (hT:TB GI) (p:Pair) (n1:Num3 p.l) (n2:Num3 p.r) (n3:Num3 p.lo) (n4:Num3 p.hi):AC prog GI 229 [pairA p] (.ret (strs ([p.l,p.r,p.lo,p.hi].map decI))):=by
 have a:=ac226 hG hT [p.l,p.r,p.lo,p.hi] (by simp) (by simp) (nums_cons n1 (nums_cons n2 (nums_cons n3 (nums_cons n4 nums_nil))))
 have hok2:elemsOK 1 [AV.int .i64 p.l,AV.int .i64 p.r,AV.int .i64 p.lo,AV.int .i64 p.hi]=true:=rfl
 generalize ho:strs ([p.l,p.r,p.lo,p.hi].map decI)=o at *
 refine AC.of_body hG hmix func229 rfl ntmps229 (by simp) (ac:=c229) (by kernel_rfl) ?_
 simp [c229,pairA,hok2]
 refine ⟨_,by kernel_rfl,a,by simp [boxy],?_⟩
 subst ho
 simp [strs]
theorem joinI_len {l:List Int} (h:Nums l):(joinS 44 (l.map decI)).length≤4 * l.length:=by
 have:=listP_len h l.length
 unfold listP at this
 rwa [List.take_of_length_le (Nat.le_refl _)] at this
theorem ac231 (hG:Stable GI) (hT:TB GI) (l:List Int) (hl:l.length < 1000) (h:Nums l):AC prog GI 231 [vI l] (.ret (.str (listT l))):=by
 by_cases h0:l=[]
 ·subst h0
  have:listT []=[45]:=rfl
  rw [this]
  refine AC.of_body hG hmix func231 rfl ntmps231 (by simp) (ac:=c231) (by kernel_rfl) ?_
  simp [c231]
 have hn0:((l.length:Int)==0)=false:=by have:=List.length_pos_iff.2 h0;simp;omega
 have a:=ac226 hG hT l h0 hl h
 have hj:=joinI_len h
 have b:=ac173 (GI:=GI) (l.map decI) [44] (by simp;omega) (by rw [join_S];omega)
 rw [join_S] at b
 have hT:listT l=joinS 44 (l.map decI):=by unfold listT;rw [if_neg h0]
 rw [hT]
 have b2:AC prog GI 173 [.slice .view (l.map (AV.str ∘ decI)),.str [44]] (.ret (.str (joinS 44 (l.map decI)))):=by
  have e:l.map (AV.str ∘ decI)=(l.map decI).map AV.str:=by rw [List.map_map]
  rw [e]
  exact b
 generalize joinS 44 (l.map decI)=r at *
 generalize ho:strs (l.map decI)=o at *
 refine AC.of_body hG hmix func231 rfl ntmps231 (by simp) (ac:=c231) (by kernel_rfl) ?_
 simp [c231,hn0,h0]
 refine ⟨_,by kernel_rfl,a,by simp [boxy],?_⟩
 subst ho
 simp [strs]
 refine ⟨_,by kernel_rfl,b2,by simp [boxy],?_⟩
 simp [strs]
theorem ac230 (hG:Stable GI) (hT:TB GI) (w:Word) (h1:Nums w.signs) (h2:Nums w.cuts) (f1:w.signs.length < 1000) (f2:w.cuts.length < 1000):AC prog GI 230 [wordA w] (.ret (strs [freeT w.free,listT w.signs,listT w.cuts])):=by
 have a:=ac231 hG hT w.signs f1 h1
 have b:=ac231 hG hT w.cuts f2 h2
 have hok3:∀ x y z:List UInt8,elemsOK 1 [AV.str x,AV.str y,AV.str z]=true:=fun _ _ _=>rfl
 generalize listT w.signs=u at *
 generalize listT w.cuts=v at *
 have e0:strs [freeT w.free,u,v] = .slice .view [.str (freeT w.free),.str u,.str v]:=rfl
 rw [e0]
 refine AC.as_view (o := .own 9) ?_
 refine AC.of_body hG hmix func230 rfl ntmps230 (by simp) (ac:=c230) (by kernel_rfl) ?_
 cases hf:w.free
 all_goals
  simp [c230,wordA,hf,freeT]
  refine ⟨_,by kernel_rfl,a,by simp [boxy],?_⟩
  simp
  refine ⟨_,by kernel_rfl,b,by simp [boxy],?_⟩
  simp [hok3,strs]
theorem ac161 (hG:Stable GI):AC prog GI 161 [] (.ret (.agg [.str nmF,.str nmS,.str nmI,.str nmP,.str nmW])):=by
 obtain ⟨it,hit,hsz⟩:=info_size (P:=prog) (t:=195) (s:=5) (by kernel_rfl)
 refine AC.of_body hG hmix func161 rfl ntmps161 (by simp) (ac:=c161) (by kernel_rfl) ?_
 simp [c161,nmF,nmS,nmI,nmP,nmW,hit,hsz,aggT,fillA]
end Go.Proofs.Tryz
namespace Go.AL
section
variable {P:Program} {GI:World→Prop}
theorem dops_callv (f args d g rest K S H):dops P GI (⟨d,g,.callv f args⟩::rest) K S H=(match awanted S g with
  |some true=>((match ev S f with | .func _ first cap=>(first++args.map (ev S)++cap).any boxy | _=>true)=false∧(match ev S f with
   |.func (.func k) first cap=>acall P GI k ((first++args.map (ev S)++cap).map (fz H)) ((first++args.map (ev S)++cap).any boxy) (kD P GI rest K S d H) (fun _=>False)
   |_=>False))
  |some false=>dops P GI rest K (putD S d undefA) H
  |none=>False):=(Eq.refl _).trans (Eq.refl _)
theorem dops_meth {i d k t:Nat} {tab:List (TypeId×Nat)} {v r:AV} {rest:List AOpr} {K:Slots→Boxes→Prop} {S:Slots} {H:Boxes} (hS:S i = .iface t v) (ht:tab.lookup t=some k) (hb:boxy v=false) (hf:fz H v=v) (hc:callable P k=true) (a:AC P GI k [v] (.ret r)) (h:dops P GI rest K (upd S d r) H):dops P GI (⟨some d,none,.callv (.m i tab) []⟩::rest) K S H:=by
 rw [dops_callv]
 have e:ev S (.m i tab) = .func (.func k) [v] []:=by simp [ev,hS,ht]
 simp only [awanted,e]
 refine ⟨by simp [hb],.ret r,hc,?_,by simp [hb],?_⟩
 ·simpa [hf] using a
 ·exact h
end
end Go.AL
namespace Go.Proofs.Tryz
open Go Go.AL Go.RowKit Go.Proofs
attribute [local simp] awp_all qs_all ops_all dops_all ops_nil dops_nil ops_call ops_callv ops_alloc ops_box dops_call dops_alloc kO_eq kD_eq awanted apure ev Eff.S Eff.H tmpOf upd putD AL.start AV.dem AV.cells AV.storable AV.scells splice scrub abin loadA HR.okB post ares aress ares1 AV.out AV.isData ints_len ints_get fz fz1 AV.vw AV.vw1 boxy vI int undefA assignQ thenQ blockQ seqQ panQ prol prolH allocOf
variable {GI:World→Prop}
theorem row_join (nm:List UInt8) (ws:List (List UInt8)):Lib.join (nm::ws) [32]=rowT nm ws:=join_S 32 (nm::ws)
theorem ac156_0 (hG:Stable GI) (V:List AV) (ws:List (List UInt8)) (hb:boxy (.agg V)=false) (hf:∀ H,fz H (.agg V) = .agg V) (a:AC prog GI 225 [.agg V] (.ret (strs ws))) (hl:ws.length < 1000) (hr:(rowT nmF ws).length < 100000):AC prog GI 156 [.iface 178 (.agg V)] (.ret (.str (rowT nmF ws))):=by
 have a161:=ac161 hG
 have b:=ac173 (GI:=GI) (nmF::ws) [32] (by simp;omega) (by rw [row_join];omega)
 rw [row_join] at b
 have b2:AC prog GI 173 [.slice .view (AV.str nmF::ws.map AV.str),.str [32]] (.ret (.str (rowT nmF ws))):=b
 have hok1:elemsOK 1 [AV.str nmF]=true:=rfl
 have hok2:elemsOK 1 (ws.map AV.str)=true:=str_ok1 ws
 have hlen:1+(ws.map AV.str).length < 1048576:=by simp;omega
 generalize rowT nmF ws=r at *
 refine AC.of_body hG hmix func156 rfl ntmps156 (by simp) (ac:=c156) (by kernel_rfl) ?_
 simp [c156]
 refine ⟨_,by kernel_rfl,a161,by simp [boxy],?_⟩
 simp [hok1]
 refine dops_meth (t:=178) (v := .agg V) (r:=strs ws) (by simp) (by rfl) hb (hf _) (by kernel_rfl) a ?_
 refine dops_appL [AV.str nmF] (ws.map .str) .view (by simp [grow]) (by simp [strs]) hok2 hok1 hlen ?_
 intro S' sd hk'
 simp [sd,hk',grow]
 refine ⟨_,by kernel_rfl,b2,by simp [boxy],?_⟩
 simp
theorem ac156_1 (hG:Stable GI) (V:List AV) (ws:List (List UInt8)) (hb:boxy (.agg V)=false) (hf:∀ H,fz H (.agg V) = .agg V) (a:AC prog GI 227 [.agg V] (.ret (strs ws))) (hl:ws.length < 1000) (hr:(rowT nmS ws).length < 100000):AC prog GI 156 [.iface 179 (.agg V)] (.ret (.str (rowT nmS ws))):=by
 have a161:=ac161 hG
 have b:=ac173 (GI:=GI) (nmS::ws) [32] (by simp;omega) (by rw [row_join];omega)
 rw [row_join] at b
 have b2:AC prog GI 173 [.slice .view (AV.str nmS::ws.map AV.str),.str [32]] (.ret (.str (rowT nmS ws))):=b
 have hok1:elemsOK 1 [AV.str nmS]=true:=rfl
 have hok2:elemsOK 1 (ws.map AV.str)=true:=str_ok1 ws
 have hlen:1+(ws.map AV.str).length < 1048576:=by simp;omega
 generalize rowT nmS ws=r at *
 refine AC.of_body hG hmix func156 rfl ntmps156 (by simp) (ac:=c156) (by kernel_rfl) ?_
 simp [c156]
 refine ⟨_,by kernel_rfl,a161,by simp [boxy],?_⟩
 simp [hok1]
 refine dops_meth (t:=179) (v := .agg V) (r:=strs ws) (by simp) (by rfl) hb (hf _) (by kernel_rfl) a ?_
 refine dops_appL [AV.str nmS] (ws.map .str) .view (by simp [grow]) (by simp [strs]) hok2 hok1 hlen ?_
 intro S' sd hk'
 simp [sd,hk',grow]
 refine ⟨_,by kernel_rfl,b2,by simp [boxy],?_⟩
 simp
theorem ac156_2 (hG:Stable GI) (V:List AV) (ws:List (List UInt8)) (hb:boxy (.agg V)=false) (hf:∀ H,fz H (.agg V) = .agg V) (a:AC prog GI 228 [.agg V] (.ret (strs ws))) (hl:ws.length < 1000) (hr:(rowT nmI ws).length < 100000):AC prog GI 156 [.iface 182 (.agg V)] (.ret (.str (rowT nmI ws))):=by
 have a161:=ac161 hG
 have b:=ac173 (GI:=GI) (nmI::ws) [32] (by simp;omega) (by rw [row_join];omega)
 rw [row_join] at b
 have b2:AC prog GI 173 [.slice .view (AV.str nmI::ws.map AV.str),.str [32]] (.ret (.str (rowT nmI ws))):=b
 have hok1:elemsOK 1 [AV.str nmI]=true:=rfl
 have hok2:elemsOK 1 (ws.map AV.str)=true:=str_ok1 ws
 have hlen:1+(ws.map AV.str).length < 1048576:=by simp;omega
 generalize rowT nmI ws=r at *
 refine AC.of_body hG hmix func156 rfl ntmps156 (by simp) (ac:=c156) (by kernel_rfl) ?_
 simp [c156]
 refine ⟨_,by kernel_rfl,a161,by simp [boxy],?_⟩
 simp [hok1]
 refine dops_meth (t:=182) (v := .agg V) (r:=strs ws) (by simp) (by rfl) hb (hf _) (by kernel_rfl) a ?_
 refine dops_appL [AV.str nmI] (ws.map .str) .view (by simp [grow]) (by simp [strs]) hok2 hok1 hlen ?_
 intro S' sd hk'
 simp [sd,hk',grow]
 refine ⟨_,by kernel_rfl,b2,by simp [boxy],?_⟩
 simp
theorem ac156_3 (hG:Stable GI) (V:List AV) (ws:List (List UInt8)) (hb:boxy (.agg V)=false) (hf:∀ H,fz H (.agg V) = .agg V) (a:AC prog GI 229 [.agg V] (.ret (strs ws))) (hl:ws.length < 1000) (hr:(rowT nmP ws).length < 100000):AC prog GI 156 [.iface 184 (.agg V)] (.ret (.str (rowT nmP ws))):=by
 have a161:=ac161 hG
 have b:=ac173 (GI:=GI) (nmP::ws) [32] (by simp;omega) (by rw [row_join];omega)
 rw [row_join] at b
 have b2:AC prog GI 173 [.slice .view (AV.str nmP::ws.map AV.str),.str [32]] (.ret (.str (rowT nmP ws))):=b
 have hok1:elemsOK 1 [AV.str nmP]=true:=rfl
 have hok2:elemsOK 1 (ws.map AV.str)=true:=str_ok1 ws
 have hlen:1+(ws.map AV.str).length < 1048576:=by simp;omega
 generalize rowT nmP ws=r at *
 refine AC.of_body hG hmix func156 rfl ntmps156 (by simp) (ac:=c156) (by kernel_rfl) ?_
 simp [c156]
 refine ⟨_,by kernel_rfl,a161,by simp [boxy],?_⟩
 simp [hok1]
 refine dops_meth (t:=184) (v := .agg V) (r:=strs ws) (by simp) (by rfl) hb (hf _) (by kernel_rfl) a ?_
 refine dops_appL [AV.str nmP] (ws.map .str) .view (by simp [grow]) (by simp [strs]) hok2 hok1 hlen ?_
 intro S' sd hk'
 simp [sd,hk',grow]
 refine ⟨_,by kernel_rfl,b2,by simp [boxy],?_⟩
 simp
theorem ac156_4 (hG:Stable GI) (V:List AV) (ws:List (List UInt8)) (hb:boxy (.agg V)=false) (hf:∀ H,fz H (.agg V) = .agg V) (a:AC prog GI 230 [.agg V] (.ret (strs ws))) (hl:ws.length < 1000) (hr:(rowT nmW ws).length < 100000):AC prog GI 156 [.iface 186 (.agg V)] (.ret (.str (rowT nmW ws))):=by
 have a161:=ac161 hG
 have b:=ac173 (GI:=GI) (nmW::ws) [32] (by simp;omega) (by rw [row_join];omega)
 rw [row_join] at b
 have b2:AC prog GI 173 [.slice .view (AV.str nmW::ws.map AV.str),.str [32]] (.ret (.str (rowT nmW ws))):=b
 have hok1:elemsOK 1 [AV.str nmW]=true:=rfl
 have hok2:elemsOK 1 (ws.map AV.str)=true:=str_ok1 ws
 have hlen:1+(ws.map AV.str).length < 1048576:=by simp;omega
 generalize rowT nmW ws=r at *
 refine AC.of_body hG hmix func156 rfl ntmps156 (by simp) (ac:=c156) (by kernel_rfl) ?_
 simp [c156]
 refine ⟨_,by kernel_rfl,a161,by simp [boxy],?_⟩
 simp [hok1]
 refine dops_meth (t:=186) (v := .agg V) (r:=strs ws) (by simp) (by rfl) hb (hf _) (by kernel_rfl) a ?_
 refine dops_appL [AV.str nmW] (ws.map .str) .view (by simp [grow]) (by simp [strs]) hok2 hok1 hlen ?_
 intro S' sd hk'
 simp [sd,hk',grow]
 refine ⟨_,by kernel_rfl,b2,by simp [boxy],?_⟩
 simp
end Go.Proofs.Tryz
namespace Go.Proofs.Tryz
open Go Go.AL Go.RowKit Go.Proofs
attribute [local simp] awp_all qs_all ops_allN dops_allN ops_nil dops_nil ops_call ops_callv ops_alloc ops_box dops_call dops_alloc kO_eq kD_eq awanted apure ev Eff.S Eff.H tmpOf upd putD AL.start AV.dem AV.cells AV.storable AV.scells splice scrub abin loadA HR.okB post ares aress ares1 AV.out AV.isData ints_len ints_get fz fz1 AV.vw AV.vw1 boxy vI int undefA assignQ thenQ blockQ seqQ panQ prol prolH allocOf
variable {GI:World→Prop}
def pairL (p:Pair):List AV:=[.int .i64 p.l,.int .i64 p.r,.int .i64 p.lo,.int .i64 p.hi]
def wordL (w:Word):List AV:=[vI w.signs,vI w.cuts,.bool w.free]
def rowsX (s:Sheet):List (Nat×List AV×List UInt8):=[(178,sheetL s,frontT s),(179,sheetL s,roomT s)]++(s.widths.map (fun n=>(182,[AV.int .i64 n],signT n))++(s.pairs.map (fun p=>(184,pairL p,pairT p))++s.words.map (fun w=>(186,wordL w,wordT w))))
def pairQ (p:Pair):Nat×List AV×List UInt8:=(184,pairL p,pairT p)
def wordQ (w:Word):Nat×List AV×List UInt8:=(186,wordL w,wordT w)
def ifA (q:Nat×List AV×List UInt8):AV := .iface q.1 (.agg q.2.1)
theorem rows_lines (s:Sheet):(rowsX s).map (·.2.2)=linesT s:=by
 unfold rowsX linesT
 simp [Function.comp_def]
theorem rows_walk (hG:Stable GI) (hT:TB GI) (s:Sheet) (hN:NumS s) (hf:Few s):∀ q∈rowsX s,AC prog GI 156 [ifA q] (.ret (.str q.2.2)):=by
 have hsm:=lines_small hN hf
 rw [← rows_lines] at hsm
 intro q hq
 have hl:=hsm q.2.2 (List.mem_map_of_mem hq)
 unfold rowsX at hq
 simp only [List.mem_cons,List.mem_append,List.mem_map,List.not_mem_nil,or_false] at hq
 rcases hq with (rfl | rfl) | ⟨n,hn,rfl⟩ | ⟨p,hp,rfl⟩ | ⟨w,hw,rfl⟩
 ·exact ac156_0 hG (sheetL s) ([s.wide,s.rows].map decI) rfl (fun _=>rfl) (ac225 hG hT s hN) (by simp) (Nat.lt_trans hl (by omega))
 ·exact ac156_1 hG (sheetL s) ([s.olo,s.ohi,s.glo,s.ghi,s.hyphen].map decI) rfl (fun _=>rfl) (ac227 hG hT s hN) (by simp) (Nat.lt_trans hl (by omega))
 ·exact ac156_2 hG [.int .i64 n] ([n].map decI) rfl (fun _=>rfl) (ac228 hG hT n (hN.widths n hn)) (by simp) (Nat.lt_trans hl (by omega))
 ·obtain ⟨h1,h2,h3,h4⟩:=hN.pairs p hp
  exact ac156_3 hG (pairL p) ([p.l,p.r,p.lo,p.hi].map decI) rfl (fun _=>rfl) (ac229 hG hT p h1 h2 h3 h4) (by simp) (Nat.lt_trans hl (by omega))
 ·obtain ⟨h1,h2⟩:=hN.words w hw
  exact ac156_4 hG (wordL w) [freeT w.free,listT w.signs,listT w.cuts] rfl (fun _=>rfl) (ac230 hG hT w h1 h2 (hf.signs w hw) (hf.cuts w hw)) (by simp) (Nat.lt_trans hl (by omega))
theorem if_ok (l:List (Nat×List AV×List UInt8)):elemsOK 1 (l.map ifA)=true:=elems_map fun a=>⟨rfl,rfl⟩
set_option maxHeartbeats 4000000 in
theorem ac116 (hG:Stable GI) (hT:TB GI) (s:Sheet) (hN:NumS s) (hf:Few s):AC prog GI 116 [sheetA s] (.ret (.str (textT s))):=by
 have q1:=hf.widths
 have q2:=hf.pairs
 have q3:=hf.words
 have hrw:=rows_walk hG hT s hN hf
 have hrl:=rows_lines s
 have hsm:=lines_small hN hf
 have hll:(linesT s).length < 1000:=by unfold linesT;simp;omega
 have hTx:textT s=sealT (linesT s):=rfl
 rw [hTx]
 generalize hR:rowsX s=R at *
 refine AC.of_body hG hmix func116 rfl ntmps116 (by simp) (ac:=c116) (by kernel_rfl) ?_
 refine awp_cut (fun S H=>S 1 = .box 1 0∧H 1=some (sheetL s)∧S 2 = .str []) (by simp [ops_ap,dops_ap,sheetA,sheetL]) ?_
 rintro S H ⟨s1,e1,s2⟩
 refine awp_cut (fun S H=>S 1 = .box 1 0∧H 1=some (sheetL s)∧S 3=grow 188 ([(178,sheetL s,frontT s),(179,sheetL s,roomT s)].map ifA)) ?_ ?_
 ·have hok:∀ a b:List AV,elemsOK 1 [AV.iface 178 (.agg a),AV.iface 179 (.agg b)]=true:=fun _ _=>rfl
  simp [ops_ap,dops_ap,s1,e1,sheetL,fillA,hok,grow,ifA]
 clear s1 e1 s2 S H
 rintro S H ⟨s1,e1,s3⟩
 refine awp_cut (fun S H=>S 1 = .box 1 0∧H 1=some (sheetL s)∧S 3=grow 188 (([(178,sheetL s,frontT s),(179,sheetL s,roomT s)]++s.widths.map (fun n=>(182,[AV.int .i64 n],signT n))).map ifA)) ?_ ?_
 ·simp [ops_ap,dops_ap,s1,e1,s3]
  refine awp_loop 26 s.widths.length (fun i S H=>S 1 = .box 1 0∧H 1=some (sheetL s)∧S 24=vI s.widths∧S 25 = .int .i64 (s.widths.length:Nat)∧S 26 = .int .i64 (i:Nat)∧S 3=grow 188 (([(178,sheetL s,frontT s),(179,sheetL s,roomT s)]++(s.widths.take i).map (fun n=>(182,[AV.int .i64 n],signT n))).map ifA)) (fun i S H h=>h.2.2.2.2.1) ⟨by simp [ops_ap,dops_ap,s1],by simp [ops_ap,dops_ap,e1],by simp [ops_ap,dops_ap,sheetL,s1,e1],by simp [ops_ap,dops_ap,sheetL,s1,e1],by simp [ops_ap,dops_ap],by simp [ops_ap,dops_ap,s3,grow]⟩ ?_
  clear s1 e1 s3 S H
  rintro i hi S H ⟨s1,e1,s24,s25,s26,s3⟩
  by_cases hlt:i < s.widths.length
  case neg =>
   have hil:i=s.widths.length:=by omega
   subst hil
   rw [List.take_of_length_le (Nat.le_refl _)] at s3
   simp [ops_ap,dops_ap,s1,e1,s24,s25,s26,s3]
  have hw:IntKind.i64.wrap ((i:Int)+1)=i+1:=wrapI (by omega)
  have ht:[(178,sheetL s,frontT s),(179,sheetL s,roomT s)]++(s.widths.take (i+1)).map (fun n=>(182,[AV.int .i64 n],signT n))=([(178,sheetL s,frontT s),(179,sheetL s,roomT s)]++(s.widths.take i).map (fun n=>(182,[AV.int .i64 n],signT n)))++[(182,[AV.int .i64 s.widths[i]],signT s.widths[i])]:=by
   rw [List.take_succ_eq_append_getElem hlt,List.map_append,List.append_assoc];rfl
  have hlen:([(178,sheetL s,frontT s),(179,sheetL s,roomT s)]++(s.widths.take i).map (fun n=>(182,[AV.int .i64 n],signT n))).length≤2000:=by simp;omega
  rw [ht]
  generalize [(178,sheetL s,frontT s),(179,sheetL s,roomT s)]++(s.widths.take i).map (fun n=>(182,[AV.int .i64 n],signT n))=B at *
  have hok1:elemsOK 1 [AV.iface 182 (.agg [.int .i64 s.widths[i]])]=true:=rfl
  simp [s1,e1,s24,s25,s26,s3,hlt,fillA,hok1]
  refine aops_app (B.map ifA) (.iface 182 (.agg [.int .i64 s.widths[i]])) (.own 188) (by simp [s3,grow]) (by simp) hok1 (if_ok B) (by rw [List.length_map];omega) ?_
  intro S' sd hk'
  simp [sd,hk',s1,e1,s24,s25,s26,hlt,hw,grow,ifA]
 clear s1 e1 s3 S H
 rintro S H ⟨s1,e1,s3⟩
 generalize hA:[(178,sheetL s,frontT s),(179,sheetL s,roomT s)]++s.widths.map (fun n=>(182,[AV.int .i64 n],signT n))=A at s3
 have hAl:A.length≤302:=by rw [← hA];simp;omega
 refine awp_cut (fun S H=>S 1 = .box 1 0∧H 1=some (sheetL s)∧S 3=grow 188 ((A++s.pairs.map pairQ).map ifA)) ?_ ?_
 ·simp [ops_ap,dops_ap,s1,e1,s3]
  refine awp_loop 40 s.pairs.length (fun i S H=>S 1 = .box 1 0∧H 1=some (sheetL s)∧S 38 = .slice .view (s.pairs.map pairA)∧S 39 = .int .i64 (s.pairs.length:Nat)∧S 40 = .int .i64 (i:Nat)∧S 3=grow 188 ((A++(s.pairs.take i).map pairQ).map ifA)) (fun i S H h=>h.2.2.2.2.1) ⟨by simp [ops_ap,dops_ap,s1],by simp [ops_ap,dops_ap,e1],by simp [ops_ap,dops_ap,sheetL,s1,e1],by simp [ops_ap,dops_ap,sheetL,s1,e1],by simp [ops_ap,dops_ap],by simp [ops_ap,dops_ap,s3,grow]⟩ ?_
  clear s1 e1 s3 S H
  rintro i hi S H ⟨s1,e1,s38,s39,s40,s3⟩
  by_cases hlt:i < s.pairs.length
  case neg =>
   have hil:i=s.pairs.length:=by omega
   subst hil
   rw [List.take_of_length_le (Nat.le_refl _)] at s3
   simp [ops_ap,dops_ap,s1,e1,s38,s39,s40,s3]
  have hw:IntKind.i64.wrap ((i:Int)+1)=i+1:=wrapI (by omega)
  have ht:A++(s.pairs.take (i+1)).map pairQ=(A++(s.pairs.take i).map pairQ)++[pairQ s.pairs[i]]:=by
   rw [List.take_succ_eq_append_getElem hlt,List.map_append,List.append_assoc];rfl
  have hlen:(A++(s.pairs.take i).map pairQ).length≤2000:=by simp;omega
  rw [ht]
  generalize A++(s.pairs.take i).map pairQ=B at *
  have hok1:elemsOK 1 [ifA (pairQ s.pairs[i])]=true:=rfl
  simp [s1,e1,s38,s39,s40,s3,hlt,fillA,pairQ,pairL,pairA]
  try simp only [pairQ,pairL,pairA,ifA] at hok1
  try simp [s1,e1,s38,s39,s40,s3,hlt,fillA,hok1]
  refine aops_app (B.map ifA) (ifA (pairQ s.pairs[i])) (.own 188) (by simp [s3,grow]) (by simp [ifA,pairQ,pairL,pairA]) rfl (if_ok B) (by rw [List.length_map];omega) ?_
  intro S' sd hk'
  simp [sd,hk',s1,e1,s38,s39,s40,hlt,hw,grow,ifA,pairQ,pairL,pairA]
 clear s1 e1 s3 S H
 rintro S H ⟨s1,e1,s3⟩
 generalize hC:A++s.pairs.map pairQ=C at s3
 have hCl:C.length≤602:=by rw [← hC];simp;omega
 refine awp_cut (fun S H=>S 1 = .box 1 0∧H 1=some (sheetL s)∧S 3=grow 188 ((C++s.words.map wordQ).map ifA)) ?_ ?_
 ·simp [ops_ap,dops_ap,s1,e1,s3]
  refine awp_loop 54 s.words.length (fun i S H=>S 1 = .box 1 0∧H 1=some (sheetL s)∧S 52 = .slice .view (s.words.map wordA)∧S 53 = .int .i64 (s.words.length:Nat)∧S 54 = .int .i64 (i:Nat)∧S 3=grow 188 ((C++(s.words.take i).map wordQ).map ifA)) (fun i S H h=>h.2.2.2.2.1) ⟨by simp [ops_ap,dops_ap,s1],by simp [ops_ap,dops_ap,e1],by simp [ops_ap,dops_ap,sheetL,s1,e1],by simp [ops_ap,dops_ap,sheetL,s1,e1],by simp [ops_ap,dops_ap],by simp [ops_ap,dops_ap,s3,grow]⟩ ?_
  clear s1 e1 s3 S H
  rintro i hi S H ⟨s1,e1,s52,s53,s54,s3⟩
  by_cases hlt:i < s.words.length
  case neg =>
   have hil:i=s.words.length:=by omega
   subst hil
   rw [List.take_of_length_le (Nat.le_refl _)] at s3
   simp [ops_ap,dops_ap,s1,e1,s52,s53,s54,s3]
  have hw:IntKind.i64.wrap ((i:Int)+1)=i+1:=wrapI (by omega)
  have ht:C++(s.words.take (i+1)).map wordQ=(C++(s.words.take i).map wordQ)++[wordQ s.words[i]]:=by
   rw [List.take_succ_eq_append_getElem hlt,List.map_append,List.append_assoc];rfl
  have hlen:(C++(s.words.take i).map wordQ).length≤2000:=by simp;omega
  rw [ht]
  generalize C++(s.words.take i).map wordQ=B at *
  have hok1:elemsOK 1 [ifA (wordQ s.words[i])]=true:=rfl
  simp [s1,e1,s52,s53,s54,s3,hlt,fillA,wordQ,wordL,wordA]
  try simp only [wordQ,wordL,wordA,ifA] at hok1
  try simp [s1,e1,s52,s53,s54,s3,hlt,fillA,hok1]
  refine aops_app (B.map ifA) (ifA (wordQ s.words[i])) (.own 188) (by simp [s3,grow]) (by simp [ifA,wordQ,wordL,wordA]) rfl (if_ok B) (by rw [List.length_map];omega) ?_
  intro S' sd hk'
  simp [sd,hk',s1,e1,s52,s53,s54,hlt,hw,grow,ifA,wordQ,wordL,wordA]
 clear s1 e1 s3 S H
 rintro S H ⟨s1,e1,s3⟩
 have hR':C++s.words.map wordQ=R:=by
  rw [← hC,← hA,← hR]
  unfold rowsX
  simp
  rfl
 rw [hR'] at s3
 clear s1 e1
 have hR0:R≠[]:=by rw [← hR'];intro h;rw [← hC,← hA] at h;simp at h
 have hRl:R.length=(linesT s).length:=by rw [← hrl];simp
 have hrow:∀ i (h:i < R.length) (h':i < (linesT s).length),R[i].2.2=(linesT s)[i]:=by
  intro i h h'
  have:(R.map (·.2.2))[i]'(by simpa using h)=(linesT s)[i]:=by simp only [hrl]
  simpa using this
 clear hA hC hR' hR hAl hCl hN hf q1 q2 q3 hrl
 generalize linesT s=l at *
 rw [sealT_flat]
 have hfl:∀ i,(flatT (l.take i)).length≤10000 * 1000:=fun i=>by
  have:=flatT_len (l:=l.take i) (b:=10000) fun x hx=>hsm x (List.mem_of_mem_take hx)
  have h2:10000 * (l.take i).length≤10000 * 1000:=Nat.mul_le_mul_left _ (by rw [List.length_take];omega)
  omega
 have hcb:∀ i,0≤checkC 0 (l.take i)∧checkC 0 (l.take i)≤25500000000000000:=fun i=>by
  have:=checkC_bound (l.take i) 0 (by rw [List.length_take];omega) fun x hx=>by have:=hsm x (List.mem_of_mem_take hx);omega
  rw [List.length_take] at this
  omega
 refine awp_cut (fun S H=>S 3=grow 188 (R.map ifA)∧S 10 = .str []∧S 11 = .int .i64 0) (by simp [ops_ap,dops_ap,s3]) ?_
 clear s3 S H
 rintro S H ⟨s3,s10,s11⟩
 refine awp_cut (fun S H=>S 10 = .str (flatT l)∧S 11 = .int .i64 (checkC 0 l)) ?_ ?_
 ·simp [ops_ap,dops_ap,s3,s10,s11,grow,hR0]
  refine awp_loop 67 l.length (fun i S H=>S 65 = .slice .view (R.map ifA)∧S 66 = .int .i64 (l.length:Nat)∧S 67 = .int .i64 (i:Nat)∧S 10 = .str (flatT (l.take i))∧S 11 = .int .i64 (checkC 0 (l.take i))) (fun i S H h=>h.2.2.1) ⟨by simp [ops_ap,dops_ap,s3,grow,hR0],by simp [ops_ap,dops_ap,s3,grow,hR0,hRl],by simp [ops_ap,dops_ap],by simp [ops_ap,dops_ap,s10,flatT],by simp [ops_ap,dops_ap,s11,checkC]⟩ ?_
  clear s3 s10 s11 S H
  rintro i hi S H ⟨s65,s66,s67,s10,s11⟩
  by_cases hlt:i < l.length
  case neg =>
   have hil:i=l.length:=by omega
   subst hil
   rw [List.take_of_length_le (Nat.le_refl _)] at s10 s11
   simp [ops_ap,dops_ap,s65,s66,s67,s10,s11]
  have hltR:i < R.length:=by omega
  have hw:IntKind.i64.wrap ((i:Int)+1)=i+1:=wrapI (by omega)
  have hp:=hsm _ (List.getElem_mem hlt)
  have hf:=hfl i
  have hc:=hcb i
  have a156:=hrw _ (List.getElem_mem hltR)
  rw [hrow i hltR hlt] at a156
  have a2:AC prog GI 156 [.iface R[i].1 (.agg R[i].2.1)] (.ret (.str l[i])):=a156
  have hflt:flatT (l.take (i+1))=flatT (l.take i)++l[i]++[10]:=flatT_take hlt
  have hckt:=checkC_take hlt
  have hlb:∀ k,0≤lineC 0 (l[i].take k)∧lineC 0 (l[i].take k)≤25500000000:=fun k=>by
   have:=lineC_bound (l[i].take k) 0 (by rw [List.length_take];omega)
   rw [List.length_take] at this
   omega
  rw [hflt,hckt]
  clear hflt hckt a156
  generalize flatT (l.take i)=F at *
  generalize checkC 0 (l.take i)=c at *
  generalize hpe:l[i]=p at *
  refine awp_cut (fun S H=>S 65 = .slice .view (R.map ifA)∧S 66 = .int .i64 (l.length:Nat)∧S 67 = .int .i64 (i:Nat)∧S 10 = .str F∧S 11 = .int .i64 c∧S 68 = .bool true) (by simp [ops_ap,dops_ap,s65,s66,s67,s10,s11,hlt]) ?_
  clear s65 s66 s67 s10 s11 S H
  rintro S H ⟨s65,s66,s67,s10,s11,s68⟩
  refine awp_cut (fun S H=>S 65 = .slice .view (R.map ifA)∧S 66 = .int .i64 (l.length:Nat)∧S 67 = .int .i64 (i:Nat)∧S 10 = .str F∧S 11 = .int .i64 c) (by simp [ops_ap,dops_ap,s65,s66,s67,s10,s11,s68]) ?_
  clear s65 s66 s67 s10 s11 s68 S H
  rintro S H ⟨s65,s66,s67,s10,s11⟩
  refine awp_cut (fun S H=>S 65 = .slice .view (R.map ifA)∧S 66 = .int .i64 (l.length:Nat)∧S 67 = .int .i64 (i:Nat)∧S 10 = .str (F++p++[10])∧S 11 = .int .i64 (c+lineC 0 p * (i+1))) ?_ ?_
  ·refine awp_in_block ?_
   refine awp_cut (fun S H=>S 65 = .slice .view (R.map ifA)∧S 66 = .int .i64 (l.length:Nat)∧S 67 = .int .i64 (i:Nat)∧S 12 = .int .i64 (i:Nat)∧S 13 = .iface R[i].1 (.agg R[i].2.1)∧S 10 = .str F∧S 11 = .int .i64 c) (by simp [ops_ap,dops_ap,s65,s66,s67,s10,s11,hltR,ifA]) ?_
   clear s65 s66 s67 s10 s11 S H
   rintro S H ⟨s65,s66,s67,s12,s13,s10,s11⟩
   refine awp_cut (fun S H=>S 65 = .slice .view (R.map ifA)∧S 66 = .int .i64 (l.length:Nat)∧S 67 = .int .i64 (i:Nat)∧S 12 = .int .i64 (i:Nat)∧S 14 = .str p∧S 10 = .str F∧S 11 = .int .i64 c) ?_ ?_
   ·simp [ops_ap,dops_ap,s65,s66,s67,s10,s11,s12,s13]
    refine ⟨_,by kernel_rfl,a2,by simp [boxy],?_⟩
    simp [ops_ap,dops_ap,s65,s66,s67,s10,s11,s12,s13]
   clear s65 s66 s67 s10 s11 s12 s13 S H
   rintro S H ⟨s65,s66,s67,s12,s14,s10,s11⟩
   refine awp_cut (fun S H=>S 65 = .slice .view (R.map ifA)∧S 66 = .int .i64 (l.length:Nat)∧S 67 = .int .i64 (i:Nat)∧S 14 = .str p∧S 10 = .str F∧S 11 = .int .i64 (c+lineC 0 p * (i+1))) ?_ ?_
   ·simp [ops_ap,dops_ap,s65,s66,s67,s12,s14,s10,s11]
    refine awp_loop 76 p.length (fun k S H=>S 65 = .slice .view (R.map ifA)∧S 66 = .int .i64 (l.length:Nat)∧S 67 = .int .i64 (i:Nat)∧S 12 = .int .i64 (i:Nat)∧S 14 = .str p∧S 10 = .str F∧S 75 = .int .i64 (p.length:Nat)∧S 76 = .int .i64 (k:Nat)∧S 11 = .int .i64 (c+lineC 0 (p.take k) * (i+1))) (fun i S H h=>h.2.2.2.2.2.2.2.1) ⟨by simp [ops_ap,dops_ap,s65],by simp [ops_ap,dops_ap,s66],by simp [ops_ap,dops_ap,s67],by simp [ops_ap,dops_ap,s12],by simp [ops_ap,dops_ap,s14],by simp [ops_ap,dops_ap,s10],by simp [ops_ap,dops_ap,s14],by simp [ops_ap,dops_ap],by simp [ops_ap,dops_ap,s11,lineC]⟩ ?_
    clear s65 s66 s67 s12 s14 s10 s11 S H
    rintro k hk S H ⟨s65,s66,s67,s12,s14,s10,s75,s76,s11⟩
    by_cases hkl:k < p.length
    case neg =>
     have hk':k=p.length:=by omega
     subst hk'
     rw [List.take_of_length_le (Nat.le_refl _)] at s11
     simp [ops_ap,dops_ap,s65,s66,s67,s12,s14,s10,s75,s76,s11]
    have hwk:IntKind.i64.wrap ((k:Int)+1)=k+1:=wrapI (by omega)
    have hb1:=hlb k
    have hby:=byte_le p[k]
    rw [lineC_take hkl]
    generalize lineC 0 (p.take k)=u at *
    generalize hyb:p[k].toNat=y at *
    have hgk:p[k]? = some p[k]:=List.getElem?_eq_getElem hkl
    have m1:(y:Int) * (k+1)≤255 * 10000:=Int.mul_le_mul (by omega) (by omega) (by omega) (by omega)
    have m0:0≤(y:Int) * (k+1):=Int.mul_nonneg (by omega) (by omega)
    have m2:(y:Int) * (k+1) * (i+1)≤2550000 * 1000:=Int.mul_le_mul (by omega) (by omega) (by omega) (by omega)
    have m3:0≤(y:Int) * (k+1) * (i+1):=Int.mul_nonneg (by omega) (by omega)
    have m4:u * (i+1)≤25500000000 * 1000:=Int.mul_le_mul (by omega) (by omega) (by omega) (by omega)
    have m5:0≤u * (i+1):=Int.mul_nonneg (by omega) (by omega)
    have w0:IntKind.i64.wrap (y:Int)=y:=wrapI (by omega)
    have w1:IntKind.i64.wrap ((y:Int) * (k+1))=(y:Int) * (k+1):=wrapI (by omega)
    have w2:IntKind.i64.wrap ((y:Int) * (k+1) * (i+1))=(y:Int) * (k+1) * (i+1):=wrapI (by omega)
    have w3:IntKind.i64.wrap (c+u * (i+1)+(y:Int) * (k+1) * (i+1))=c+(u+(y:Int) * (k+1)) * (i+1):=by
     rw [wrapI (by omega),Int.add_mul];omega
    simp [ops_ap,dops_ap,s65,s66,s67,s12,s14,s10,s75,s76,s11,hkl,hyb,w0,w1,w2,w3,hw,hwk]
   clear s65 s66 s67 s12 s14 s10 s11 S H
   rintro S H ⟨s65,s66,s67,s14,s10,s11⟩
   have b0:p.length+1 < 1073741824:=by omega
   have b1:F.length+p.length < 1073741824:=by omega
   have b2:F.length+p.length+1 < 1073741824:=by omega
   have b3:F.length+(p.length+1) < 1073741824:=by omega
   simp [ops_ap,dops_ap,s65,s66,s67,s14,s10,s11,b0,b1,b2,b3]
  clear s65 s66 s67 s10 s11 S H
  rintro S H ⟨s65,s66,s67,s10,s11⟩
  simp [ops_ap,dops_ap,s65,s66,s67,s10,s11,hw,hlt]
 clear s3 s10 s11 S H
 rintro S H ⟨s10,s11⟩
 have hf:=hfl l.length
 have hc:=hcb l.length
 rw [List.take_of_length_le (Nat.le_refl _)] at hf hc
 generalize flatT l=F at *
 obtain ⟨c,hce⟩:∃ c:Nat,checkC 0 l=c:=⟨(checkC 0 l).toNat,by omega⟩
 rw [hce] at s11 ⊢
 have hm:(c:Int).tmod 173=((c % 173:Nat):Int):=by rw [Int.tmod_eq_emod_of_nonneg (by omega)];omega
 have hm':(c:Int) % 173=((c % 173:Nat):Int):=by omega
 have hmb:c % 173 < 173:=Nat.mod_lt _ (by omega)
 rw [hm']
 generalize c % 173=r at *
 have n1:Num3 ((r:Int) / 100):=⟨by omega,by omega⟩
 have n2:Num3 ((r:Int) / 10 % 10):=⟨by omega,by omega⟩
 have n3:Num3 ((r:Int) % 10):=⟨by omega,by omega⟩
 have q1:IntKind.i64.wrap ((r:Int) / 100)=(r:Int) / 100:=wrapI (by omega)
 have q2:IntKind.i64.wrap ((r:Int) / 10)=(r:Int) / 10:=wrapI (by omega)
 have t1:(r:Int).tdiv 100=(r:Int) / 100:=Int.tdiv_eq_ediv_of_nonneg (by omega)
 have t2:(r:Int).tdiv 10=(r:Int) / 10:=Int.tdiv_eq_ediv_of_nonneg (by omega)
 have t3:((r:Int) / 10).tmod 10=(r:Int) / 10 % 10:=Int.tmod_eq_emod_of_nonneg (by omega)
 have t4:(r:Int).tmod 10=(r:Int) % 10:=Int.tmod_eq_emod_of_nonneg (by omega)
 have a1:=ac157n hT n1
 have a2:=ac157n hT n2
 have a3:=ac157n hT n3
 have d1:=(dec_len n1).1
 have d2:=(dec_len n2).1
 have d3:=(dec_len n3).1
 have hE:endT (r:Int)=[101,110,100,32]++decI ((r:Int) / 100)++decI ((r:Int) / 10 % 10)++decI ((r:Int) % 10):=rfl
 rw [hE]
 generalize decI ((r:Int) / 100)=u at *
 generalize decI ((r:Int) / 10 % 10)=v at *
 generalize decI ((r:Int) % 10)=w at *
 have e1:F.length+(u.length+1+1+1+1)+v.length < 1073741824:=by omega
 have e2:F.length+(u.length+v.length+1+1+1+1)+w.length < 1073741824:=by omega
 have e3:F.length+(u.length+(v.length+w.length)+1+1+1+1)+1 < 1073741824:=by omega
 have e4:F.length+(u.length+v.length+w.length+1+1+1+1)+1 < 1073741824:=by omega
 have b1:F.length+4 < 1073741824:=by omega
 have b2:F.length+(u.length+4) < 1073741824:=by omega
 have b3:F.length+(v.length+u.length+4) < 1073741824:=by omega
 have b4:F.length+4+u.length < 1073741824:=by omega
 have b5:F.length+4+u.length+v.length < 1073741824:=by omega
 have b6:F.length+4+u.length+v.length+w.length < 1073741824:=by omega
 have b7:F.length+4+u.length+v.length+w.length+1 < 1073741824:=by omega
 refine awp_cut (fun S H=>S 10 = .str F∧S 11 = .int .i64 r) (by simp [ops_ap,dops_ap,s10,s11,hm]) ?_
 clear s10 s11 S H
 rintro S H ⟨s10,s11⟩
 simp [ops_ap,dops_ap,s10,s11,q1,q2,t1,t2,t3,t4,b1]
 refine ⟨_,by kernel_rfl,a1,by simp [boxy],?_⟩
 simp [ops_ap,dops_ap,s10,s11,q1,q2,t1,t2,t3,t4,b1,b4]
 refine ⟨_,by kernel_rfl,a2,by simp [boxy],?_⟩
 simp [ops_ap,dops_ap,s10,s11,q1,q2,t1,t2,t3,t4,b1,b4,b5,e1]
 refine ⟨_,by kernel_rfl,a3,by simp [boxy],?_⟩
 simp [ops_ap,dops_ap,s10,s11,q1,q2,t1,t2,t3,t4,b1,b4,b5,e1,e2,e3,e4]
end Go.Proofs.Tryz
namespace Go.Proofs.Tryz
open Go Go.AL Go.RowKit Go.Proofs
attribute [local simp] awp_all qs_all ops_all dops_all ops_nil dops_nil ops_call ops_callv ops_alloc ops_box dops_call dops_alloc kO_eq kD_eq awanted apure ev Eff.S Eff.H tmpOf upd putD AL.start AV.dem AV.cells AV.storable AV.scells splice scrub abin loadA HR.okB post ares aress ares1 AV.out AV.isData ints_len ints_get fz fz1 AV.vw AV.vw1 boxy vI int undefA assignQ thenQ blockQ seqQ panQ prol prolH allocOf
variable {GI:World→Prop}
theorem few_of {s:Sheet} (hs:Slim s) (h:sheetI s=true):Few s:=by
 unfold sheetI inI at h
 simp only [Bool.and_eq_true,decide_eq_true_eq] at h
 obtain ⟨⟨⟨⟨⟨h1,h2⟩,h3⟩,h4,h5⟩,_⟩,_⟩:=h
 exact ⟨by omega,by omega,by omega,hs.signs,hs.cuts⟩
theorem ac67_ok (hG:Stable GI) (hT:TB GI) (s:Sheet) (hs:Slim s) (h:sheetI s=true):AC prog GI 67 [sheetA s] (.ret (.tup [.str (textT s),.int .i64 0])):=by
 have a:=ac96 hG s hs
 rw [h] at a
 have b:=ac116 hG hT s (sheet_nums h) (few_of hs h)
 generalize textT s=t at *
 refine AC.of_body hG hmix func67 rfl ntmps67 (by simp) (ac:=c67) (by kernel_rfl) ?_
 refine awp_cut (fun S H=>S 1 = .box 1 0∧H 1=some (sheetL s)) (by simp [sheetA,sheetL]) ?_
 rintro S H ⟨s1,e1⟩
 simp [s1,e1,sheetL]
 refine ⟨_,by kernel_rfl,a,fun _=>rfl,?_⟩
 simp [s1,e1,sheetL]
 refine ⟨_,by kernel_rfl,b,by simp [boxy],?_⟩
 simp
end Go.Proofs.Tryz
namespace Go.Proofs.Tryz
open Go Go.AL Go.RowKit Go.Proofs
attribute [local simp] awp_all qs_all ops_all dops_all ops_nil dops_nil ops_call ops_callv ops_alloc ops_box dops_call dops_alloc kO_eq kD_eq awanted apure ev Eff.S Eff.H tmpOf upd putD AL.start AV.dem AV.cells AV.storable AV.scells splice scrub abin loadA HR.okB post ares aress ares1 AV.out AV.isData ints_len ints_get fz fz1 AV.vw AV.vw1 boxy vI int undefA assignQ thenQ blockQ seqQ panQ prol prolH allocOf
variable {GI:World→Prop}
set_option maxHeartbeats 2000000 in
theorem ac70s (hG:Stable GI) (s:Sheet) (hs:Slim s):AC prog GI 70 [sheetA s,sheetA s] (.ret (.bool true)):=by
 have q0:=hs.widths
 have q1:=hs.pairs
 have q2:=hs.words
 have a52:=fun l hl=>ac52 (GI:=GI) hG l l hl
 simp only [beq_self_eq_true] at a52
 refine AC.of_body hG hmix func70 rfl ntmps70 (by simp) (ac:=c70) (by kernel_rfl) ?_
 refine awp_cut (fun S H=>S 2 = .box 2 0∧S 3 = .box 3 0∧H 2=some (sheetL s)∧H 3=some (sheetL s)) (by simp [sheetA,sheetL]) ?_
 rintro S H ⟨s2,s3,e2,e3⟩
 refine awp_cut (fun S H=>S 2 = .box 2 0∧S 3 = .box 3 0∧H 2=some (sheetL s)∧H 3=some (sheetL s)) ?_ ?_
 ·simp [s2,s3,e2,e3,sheetL]
  refine ⟨_,by kernel_rfl,a52 s.widths (by omega),fun _=>rfl,?_⟩
  simp [s2,s3,e2,e3,sheetL,intsOf]
 clear s2 s3 e2 e3 S H
 rintro S H ⟨s2,s3,e2,e3⟩
 refine awp_cut (fun S H=>S 2 = .box 2 0∧S 3 = .box 3 0∧H 2=some (sheetL s)∧H 3=some (sheetL s)) ?_ ?_
 ·simp [s2,s3,e2,e3]
  refine awp_loop 5 s.pairs.length (fun i S H=>S 2 = .box 2 0∧S 3 = .box 3 0∧H 2=some (sheetL s)∧H 3=some (sheetL s)∧S 5 = .int .i64 (i:Nat)) (fun i S H h=>h.2.2.2.2) ⟨by simp [s2],by simp [s3],by simp [e2],by simp [e3],by simp⟩ ?_
  clear s2 s3 e2 e3 S H
  rintro i hi S H ⟨s2,s3,e2,e3,s5⟩
  by_cases hlt:i < s.pairs.length
  case neg =>
   have hil:i=s.pairs.length:=by omega
   subst hil
   simp [s2,s3,e2,e3,s5,sheetL]
  have hw:IntKind.i64.wrap ((i:Int)+1)=i+1:=wrapI (by omega)
  simp [s2,s3,e2,e3,s5,sheetL,hlt,hw,pairA,intsOf]
 clear s2 s3 e2 e3 S H
 rintro S H ⟨s2,s3,e2,e3⟩
 refine awp_cut (fun S H=>True) ?_ (by simp)
 simp [s2,s3,e2,e3]
 refine awp_loop 6 s.words.length (fun i S H=>S 2 = .box 2 0∧S 3 = .box 3 0∧H 2=some (sheetL s)∧H 3=some (sheetL s)∧S 6 = .int .i64 (i:Nat)) (fun i S H h=>h.2.2.2.2) ⟨by simp [s2],by simp [s3],by simp [e2],by simp [e3],by simp⟩ ?_
 clear s2 s3 e2 e3 S H
 rintro i hi S H ⟨s2,s3,e2,e3,s6⟩
 by_cases hlt:i < s.words.length
 case neg =>
  have hil:i=s.words.length:=by omega
  subst hil
  simp [s2,s3,e2,e3,s6,sheetL]
 have hw:IntKind.i64.wrap ((i:Int)+1)=i+1:=wrapI (by omega)
 have f1:=hs.signs _ (List.getElem_mem hlt)
 have f2:=hs.cuts _ (List.getElem_mem hlt)
 simp [s2,s3,e2,e3,s6,sheetL,hlt,hw,wordA]
 refine ⟨_,by kernel_rfl,a52 s.words[i].signs (by omega),fun _=>rfl,?_⟩
 simp [s2,s3,e2,e3,s6,sheetL,hlt,hw,wordA]
 refine ⟨_,by kernel_rfl,a52 s.words[i].cuts (by omega),fun _=>rfl,?_⟩
 simp [s2,s3,e2,e3,s6,sheetL,hlt,hw,wordA]
end Go.Proofs.Tryz
namespace Go.Proofs.Tryz
open Go Go.AL Go.RowKit Go.Proofs
attribute [local simp] awp_all qs_all ops_all dops_all ops_nil dops_nil ops_call ops_callv ops_alloc ops_box dops_call dops_alloc kO_eq kD_eq awanted apure ev Eff.S Eff.H tmpOf upd putD AL.start AV.dem AV.cells AV.storable AV.scells splice scrub abin loadA HR.okB post ares aress ares1 AV.out AV.isData ints_len ints_get fz fz1 AV.vw AV.vw1 boxy vI int undefA assignQ thenQ blockQ seqQ panQ prol prolH allocOf
variable {GI:World→Prop}
theorem ac160f (hG:Stable GI) (s:List UInt8):AC prog GI 160 [.bool false,.str s] (.panic (.iface 192 (.agg [.str s]))):=by
 refine AC.of_body hG hmix func160 rfl ntmps160 (by simp) (ac:=c160) (by kernel_rfl) ?_
 simp [c160,fillA,ops_panic]
end Go.Proofs.Tryz
namespace Go.Proofs.Tryz
open Go.AL
theorem splitS_sum (c:UInt8) (l:List UInt8):((splitS c l).map fun p=>p.length+1).sum=l.length+1:=by
 have h:=joinS_len c (splitS_ne c l)
 rw [join_split] at h
 exact h.symm
theorem len_le_sum:∀ L:List (List UInt8),L.length≤(L.map fun p=>p.length+1).sum
 |[]=>by simp
 |p::L=>by
  have:=len_le_sum L
  rw [List.map_cons,List.sum_cons,List.length_cons];omega
theorem mem_le_sum:∀ {L:List (List UInt8)} {p:List UInt8},p∈L→p.length+1≤(L.map fun p=>p.length+1).sum
 |q::L,p,h=>by
  rw [List.map_cons,List.sum_cons]
  rcases List.mem_cons.1 h with rfl | h
  ·omega
  ·have:=mem_le_sum h;omega
theorem splitS_len (c:UInt8) (l:List UInt8):(splitS c l).length≤l.length+1:=by
 have:=len_le_sum (splitS c l)
 rw [splitS_sum] at this;exact this
theorem splitS_part {c:UInt8} {l p:List UInt8} (h:p∈splitS c l):p.length≤l.length:=by
 have:=mem_le_sum h
 rw [splitS_sum] at this;omega
theorem givenE_len {ws:List (List UInt8)} {l:List Int} (h:givenE ws = .ok l):l.length=ws.length:=by
 rw [(givenE_inv h).2,List.length_map]
theorem listedE_len {w:List UInt8} {l:List Int} (h:listedE w = .ok l):l.length≤w.length+1:=by
 unfold listedE at h
 split at h
 ·cases h;simp
 ·rw [givenE_len h];exact splitS_len 44 w
theorem get_len {L:List (List UInt8)} {b:Nat} (h:∀ p∈L,p.length≤b) (i:Nat):(L[i]?.getD []).length≤b:=by
 cases e:L[i]? with
 |none=>simp
 |some p=>exact h p (List.mem_of_getElem? e)
structure Grown (b:Nat) (x:Sheet) (k:Nat):Prop where
 widths:x.widths.length≤k
 pairs:x.pairs.length≤k
 words:x.words.length≤k
 signs:∀ w∈x.words,w.signs.length≤b
 cuts:∀ w∈x.words,w.cuts.length≤b
theorem Grown.mono {b k k':Nat} {x:Sheet} (h:Grown b x k) (hk:k≤k'):Grown b x k':=⟨by have:=h.widths;omega,by have:=h.pairs;omega,by have:=h.words;omega,h.signs,h.cuts⟩
theorem stepE_grown {x y:Sheet} {r:List UInt8} {b k:Nat} (hr:r.length+1≤b) (hx:Grown b x k) (h:stepE x r = .ok y):Grown b y (k+1)∧4≤r.length:=by
 have hp:∀ p∈(splitS 32 r).tail,p.length≤r.length:=fun p hp=>splitS_part (List.mem_of_mem_tail hp)
 have hhd:((splitS 32 r).headD []).length≤r.length:=by
  cases e:splitS 32 r with
  |nil=>exact absurd e (splitS_ne 32 r)
  |cons p l=>exact splitS_part (c:=32) (by rw [e];exact List.mem_cons_self)
 have hm:=hx.mono (Nat.le_succ k)
 unfold stepE at h
 simp only at h
 split at h
 ·rename_i hc
  rw [hc.1] at hhd
  obtain ⟨n,hn,h⟩:=thenE_ok h
  cases h
  exact ⟨⟨hm.widths,hm.pairs,hm.words,hm.signs,hm.cuts⟩,by simp [nmF] at hhd;omega⟩
 split at h
 ·rename_i hc
  rw [hc.1] at hhd
  obtain ⟨n,hn,h⟩:=thenE_ok h
  cases h
  exact ⟨⟨hm.widths,hm.pairs,hm.words,hm.signs,hm.cuts⟩,by simp [nmS] at hhd;omega⟩
 split at h
 ·rename_i hc
  rw [hc.1] at hhd
  obtain ⟨n,hn,h⟩:=thenE_ok h
  cases h
  have h1:=givenE_len hn
  have h2:=hx.widths
  exact ⟨⟨by simp;omega,hm.pairs,hm.words,hm.signs,hm.cuts⟩,by simp [nmI] at hhd;omega⟩
 split at h
 ·rename_i hc
  rw [hc.1] at hhd
  obtain ⟨n,hn,h⟩:=thenE_ok h
  cases h
  have h2:=hx.pairs
  exact ⟨⟨hm.widths,by simp;omega,hm.words,hm.signs,hm.cuts⟩,by simp [nmP] at hhd;omega⟩
 split at h
 ·rename_i hc
  rw [hc.1] at hhd
  obtain ⟨a,ha,h⟩:=thenE_ok h
  obtain ⟨c,hc2,h⟩:=thenE_ok h
  cases h
  have h2:=hx.words
  have h3:=listedE_len ha
  have h4:=listedE_len hc2
  have h5:=get_len hp 1
  have h6:=get_len hp 2
  refine ⟨⟨hm.widths,hm.pairs,by simp;omega,?_,?_⟩,by simp [nmW] at hhd;omega⟩
  ·intro w hw
   rcases List.mem_append.1 hw with hw | hw
   ·exact hx.signs w hw
   ·rw [List.mem_singleton] at hw;subst hw;show a.length≤b;omega
  ·intro w hw
   rcases List.mem_append.1 hw with hw | hw
   ·exact hx.cuts w hw
   ·rw [List.mem_singleton] at hw;subst hw;show c.length≤b;omega
 ·cases h
theorem foldE_grown {b:Nat}:∀ {L:List (List UInt8)} {x y:Sheet} {k:Nat},(∀ r∈L,r.length+1≤b)→Grown b x k→foldE stepE x L = .ok y→Grown b y (k+L.length)∧5 * L.length≤(L.map fun p=>p.length+1).sum
 |[],x,y,k,_,hx,h=>by cases h;exact ⟨hx,by simp⟩
 |r::L,x,y,k,hr,hx,h=>by
  have h:thenE (stepE x r) (fun a=>foldE stepE a L) = .ok y:=h
  obtain ⟨a,ha,h⟩:=thenE_ok h
  obtain ⟨h1,h2⟩:=stepE_grown (hr r List.mem_cons_self) hx ha
  obtain ⟨h3,h4⟩:=foldE_grown (fun q hq=>hr q (List.mem_cons_of_mem _ hq)) h1 h
  rw [List.map_cons,List.sum_cons,List.length_cons]
  exact ⟨h3.mono (by omega),by omega⟩
theorem sheet0_grown (b:Nat):Grown b sheet0 0:=⟨Nat.le_refl _,Nat.le_refl _,Nat.le_refl _,fun _ h=>(List.not_mem_nil h).elim,fun _ h=>(List.not_mem_nil h).elim⟩
theorem foldE_succ {α β:Type} {f:α→β→Except (List UInt8) α} {x:α} {L:List β} {i:Nat} (hi:i < L.length) {y:α} (h:foldE f x (L.take i) = .ok y):foldE f x (L.take (i+1))=f y L[i]:=by
 rw [List.take_succ_eq_append_getElem hi,foldE_app h]
 show thenE (f y L[i]) (fun a => .ok a)=_
 cases f y L[i]<;>rfl
theorem foldE_stop {α β:Type} {f:α→β→Except (List UInt8) α}:∀ {L:List β} {x y:α} {i:Nat} (hi:i < L.length) {e:List UInt8},foldE f x (L.take i) = .ok y→f y L[i] = .error e→foldE f x L = .error e
 |[],x,y,i,hi,_,_,_=>by simp at hi
 |b::L,x,y,0,_,e,h,he=>by
  cases h
  show thenE (f x b) (fun a=>foldE f a L)=_
  rw [show (b::L)[0]=b from rfl] at he
  rw [he];rfl
 |b::L,x,y,i+1,hi,e,h,he=>by
  rw [List.take_succ_cons] at h
  have h:thenE (f x b) (fun a=>foldE f a (L.take i)) = .ok y:=h
  obtain ⟨a,ha,h⟩:=thenE_ok h
  show thenE (f x b) (fun a=>foldE f a L)=_
  rw [ha]
  exact foldE_stop (L:=L) (by simpa using hi) h (by simpa using he)
end Go.Proofs.Tryz
namespace Go.AL
open Go.RowKit
section
variable {P:Program} {a:Act} {w:World}
theorem decode_small {s:ByteArray} {pos:Nat} (h:pos < s.size) (hr:(Utf8.decode s pos).1 < 128):(Utf8.decode s pos).1=(s[pos]'h).toNat:=by
 by_cases ha:(s[pos]'h).toNat < 128
 ·rw [decode_ascii s pos h ha]
 ·exfalso
  have e:s.get! (pos+0)=s[pos]'h:=by
   show s.get! pos=_
   simp [ByteArray.get!,getElem!_pos,h]
   rfl
  simp only [Utf8.decode,e,ha,if_false] at hr
  revert hr
  (repeat' split)<;>simp only [Utf8.runeError,Nat.not_lt]<;>rename_i hh<;>try omega
  all_goals (try simp only [Bool.and_eq_true,decide_eq_true_eq] at hh;try omega)
theorem run_nextU {o:Oper} {x:Operand} {b:Nat} {s:ByteArray} {pos r p':Nat} (ho:o.op = .next x true) (hx:a.eval x = .pointer (some ⟨b,0,none⟩)) (hb:w.heap[b]? = some (.stringIter s pos)) (h:pos < s.size) (hr:(Utf8.decode s pos).1=r) (hp:pos+(Utf8.decode s pos).2=p') :
  (execOp a.eval o).run P w = .ok (.value (.tuple #[.bool true,.int .i64 pos,.int .i32 r])) (w.putObj b (.stringIter s p')):=by
 unfold execOp
 simp only [ho,hx,Instr.next,getObj,setObj,Sem.run_bind,Sem.run,hb,Result.andThen,h,if_true]
 generalize hd:Utf8.decode s pos=d at *
 obtain ⟨d1,d2⟩:=d
 simp only at hr hp
 subst hr
 subst hp
 simp [goInt,Sem.run,World.putObj]
end
end Go.AL
namespace Go.Proofs.Tryz
open Go Go.AL Go.RowKit Go.Proofs
attribute [local simp] awp_all qs_all ops_all dops_all ops_nil dops_nil ops_call ops_callv ops_alloc ops_box dops_call dops_alloc kO_eq kD_eq awanted apure ev Eff.S Eff.H tmpOf upd putD AL.start AV.dem AV.cells AV.storable AV.scells splice scrub abin loadA HR.okB post ares aress ares1 AV.out AV.isData ints_len ints_get fz fz1 AV.vw AV.vw1 boxy vI int undefA assignQ thenQ blockQ seqQ panQ prol prolH allocOf
variable {GI:World→Prop}
def noTx (e:List UInt8):AV := .iface 192 (.agg [.str e])
def outG:Except (List UInt8) (List Int)→AOut
 |.ok l => .ret (.slice (if l.isEmpty then .nil else .view) (ints l))
 |.error e => .panic (noTx e)
theorem givenE_bad:∀ {ws:List (List UInt8)} {j:Nat} (h:j < ws.length),(ws.take j).all givenW=true→givenW ws[j]=false→givenE ws = .error ws[j]
 |[],j,h,_,_=>by simp at h
 |w::ws,0,_,_,hb=>by
  unfold givenE
  rw [if_neg (by rw [show (w::ws)[0]=w from rfl] at hb;rw [hb];simp)];rfl
 |w::ws,j+1,h,ha,hb=>by
  rw [List.take_succ_cons,List.all_cons,Bool.and_eq_true] at ha
  unfold givenE
  rw [if_pos ha.1,givenE_bad (by simpa using h) ha.2 (by simpa using hb)];rfl
set_option maxRecDepth 100000 in
theorem ac163E (hG:Stable GI) {ws:List (List UInt8)} (hlen:ws.length≤100000) (hI:∀ w∈ws,w.length≤3→(∀ c∈w,digit c)→AC prog GI 157 [.int .i64 (numV w)] (.ret (.str (decI (numV w))))) :
  AC prog GI 163 [strs ws] (outG (givenE ws)):=by
 refine AC.of_SW func163 rfl ntmps163 (by simp) fun cc w => ?_
 refine SW.cut hG hmix (by kernel_rfl) (ac:=ACode.fst c163) (by kernel_rfl) (fun _ _ h=>h) (fun S' H'=>S' 0=strs ws) ?_ ?_
 ·simp [c163,ACode.fst,awp,aops,awanted,astep,apure,ev,Eff.S,Eff.H,upd,putD,AL.start,AV.dem,strs,tmpOf,assignQ]
 rintro S1 H1 s0
 refine SW.cut hG hmix (by kernel_rfl) (ac:=ACode.fst (ACode.snd c163)) (by kernel_rfl) (fun _ _ h=>h) (fun S' H'=>S' 0=strs ws∧S' 3=numsA []) ?_ ?_
 ·simp [c163,ACode.fst,ACode.snd,awp,aops,awanted,astep,apure,ev,Eff.S,Eff.H,upd,putD,s0,tmpOf,assignQ,numsA,ints]
 rintro S2 H2 ⟨s0,s3⟩
 show SW prog GI 55 none (.seq (.seq _ (.block 0 (.loop _))) (.seq _ .ret)) _ _ _ _
 refine SW.seq (SW.cut hG hmix (by kernel_rfl) (ac:=ACode.fst (ACode.fst (ACode.snd (ACode.snd c163)))) (by kernel_rfl) (fun _ _ h=>h) (F163 ws 0) ?_ ?_)
 ·simp [c163,ACode.fst,ACode.snd,awp,aops,awanted,astep,apure,ev,Eff.S,Eff.H,upd,putD,s0,s3,F163,strs,AV.dem,assignQ]
 intro S3 H3 hF
 refine SW.block (SW.loop (fun o S' H'=>∃ k j,o=oK cc w k∧j≤ws.length∧(ws.take j).all givenW=true∧F163 ws j S' H') (fun S' _=>match S' 11 with | .int _ j=>ws.length - j.toNat | _=>0) ⟨_,0,rfl,Nat.zero_le _,rfl,hF⟩ ?_)
 rintro o S4 H4 ⟨kk,j,rfl,hj,hall,hF⟩
 have m11:S4 11 = .int .i64 (j:Nat):=hF.2.2.2
 have hbx:∀ k d,¬ (oK cc w k).bx d:=fun _ _ h=>h
 show SW prog GI 55 none (.seq _ (.seq (.cond _ _ _) (.seq (.block 1 (.seq _ (.seq _ (.seq (.seq _ (.block 2 (.loop _))) (.seq _ _))))) _))) _ _ _ _
 refine SW.cut hG hmix (by kernel_rfl) (ac:=ACode.fst bodyA163) (by kernel_rfl) (fun _ _ h=>h) (fun S' H'=>S' 12 = .bool (decide (j < ws.length))∧F163 ws j S' H') ?_ ?_
 ·obtain ⟨s3,s9,s10,s11⟩:=hF
  simp [c163,bodyA163,ACode.fst,ACode.snd,awp,aops,awanted,astep,apure,assignQ,ev,Eff.S,Eff.H,upd,putD,F163,s3,s9,s10,s11,abin]
 rintro S5 H5 ⟨s12,hF⟩
 by_cases hlt:j < ws.length
 case neg =>
  refine SW.seq (SW.cond rfl false (by show S5 12=_;rw [s12];simp [hlt]) (SW.exit ?_))
  have hjl:j=ws.length:=by omega
  subst hjl
  obtain ⟨s3,s9,s10,s11⟩:=hF
  rw [List.take_length] at s3 hall
  have hout:=givenE_ok hall
  rw [hout]
  show SW prog GI 55 none (.seq _ .ret) _ _ _ _
  refine SW.cut hG hmix (by kernel_rfl) (ac:=ACode.fst (ACode.snd (ACode.snd (ACode.snd c163)))) (by kernel_rfl) (fun _ _ h=>h) (fun S' H'=>S' 2 = .slice (if ws.isEmpty then .nil else .view) (ints (ws.map numV))) ?_ ?_
  ·cases ws<;>simp [c163,ACode.fst,ACode.snd,awp,aops,awanted,astep,apure,ev,Eff.S,Eff.H,upd,putD,s3,numsA,AV.dem,tmpOf,assignQ]
  intro S7 H7 s2
  refine SW.ret ⟨Marked.plain rfl,rfl,_,?_,rfl⟩
  show ares prog 55 [.tmp 2] S7 H7=_
  simp [ares,aress,ares1,s2,AV.isData,AV.out]
 case pos =>
  refine SW.seq (SW.cond rfl true (by show S5 12=_;rw [s12];simp [hlt]) (SW.skip ?_))
  show SW prog GI 55 none (.seq (.block 1 (.seq _ (.seq _ (.seq (.seq _ (.block 2 (.loop _))) (.seq _ _))))) _) _ _ _ _
  have hmem:ws[j]∈ws:=List.getElem_mem hlt
  obtain ⟨wd,hwd⟩:∃ wd,ws[j]=wd:=⟨_,rfl⟩
  have hIw:=hI _ hmem
  rw [hwd] at hIw
  have hbad:givenW wd=false→givenE ws = .error wd:=fun h=>by rw [← hwd] at h ⊢;exact givenE_bad hlt hall h
  refine SW.seq (SW.block (SW.cut hG hmix (by kernel_rfl) (ac:=ACode.fst inA163) (by kernel_rfl) (fun _ _ h=>h) (fun S' H'=>S' 5 = .str wd∧F163 ws j S' H') ?_ ?_))
  ·obtain ⟨s3,s9,s10,s11⟩:=hF
   simp [c163,bodyA163,inA163,ACode.fst,ACode.snd,awp,aops,awanted,astep,apure,assignQ,ev,Eff.S,Eff.H,upd,putD,F163,s3,s9,s10,s11,strs,hlt,hwd,loadA,AV.cells,AV.dem,tmpOf]
  rintro S6 H6 ⟨s5,hF⟩
  refine SW.cut hG hmix (by kernel_rfl) (ac:=ACode.fst (ACode.snd inA163)) (by kernel_rfl) (fun _ _ h=>h) (fun S' H'=>S' 6 = .int .i64 0∧S' 5 = .str wd∧F163 ws j S' H') ?_ ?_
  ·obtain ⟨s3,s9,s10,s11⟩:=hF
   simp [c163,bodyA163,inA163,ACode.fst,ACode.snd,awp,aops,awanted,astep,apure,assignQ,ev,Eff.S,Eff.H,upd,putD,F163,s3,s5,s9,s10,s11,AV.dem,tmpOf]
  rintro S7 H7 ⟨s6,s5,hF⟩
  obtain ⟨sb,hsb⟩:∃ sb:ByteArray,sb=⟨wd.toArray⟩:=⟨_,rfl⟩
  refine SW.seq (SW.seq (SW.mid hG (p:=1) (oh:={ dst:=some 16,op := .range 9 (.tmp 15),type:=0,pos := "text.go:133",after:=_,guard:=none }) (os1:=[_]) (os2:=[]) (l2:=[]) rfl rfl rfl rfl (by kernel_rfl) rfl (hbx _) (al1:=(ACode.dl (ACode.fst (ACode.fst (ACode.snd (ACode.snd inA163))))).take 1) (al2:=[]) (by kernel_rfl) rfl (by kernel_rfl) rfl
   (K1:=fun S' H'=>S' 15 = .str wd∧S' 6 = .int .i64 0∧S' 5 = .str wd∧F163 ws j S' H')
   (K2:=fun o S' H'=>∃ k b,o=oK cc w k∧k b=some (.stringIter sb 0)∧S' 16 = .val (.pointer (some ⟨b,0,none⟩))∧S' 6 = .int .i64 0∧S' 5 = .str wd∧F163 ws j S' H')
   (K3:=fun o S' H'=>∃ k b,o=oK cc w k∧k b=some (.stringIter sb 0)∧S' 16 = .val (.pointer (some ⟨b,0,none⟩))∧S' 6 = .int .i64 0∧S' 5 = .str wd∧F163 ws j S' H') ?_ ?_ ?_ ?_))
  ·obtain ⟨s3,s9,s10,s11⟩:=hF
   simp [c163,bodyA163,inA163,ACode.fst,ACode.snd,ACode.dl,aops,awanted,astep,apure,ev,Eff.S,Eff.H,upd,putD,F163,s3,s5,s6,s9,s10,s11,AV.dem]
  ·rintro w0 g S8 H8 a w8 ho R ⟨s15,s6,s5,s3,s9,s10,s11⟩
   have t15:=R.slot 15 (by decide) (fun h=>h)
   rw [s15] at t15
   have t15:a.eval (.tmp 15) = .string sb:=by rw [hsb];exact str_eq t15
   have hun:prog.underlying 9=some .string:=by kernel_rfl
   have R2:=R.keepNew (.stringIter sb 0)
   refine ⟨_,_,_,upd S8 16 (.val (.pointer (some ⟨w8.heap.size,0,none⟩))),H8,.inl (run_rangeS rfl hun t15),R2.put 16 _ _ (by decide) (.data _ _ (.val _ rfl)) trivial,upd g.old.keep w8.heap.size (some (.stringIter sb 0)),w8.heap.size,?_,upd_same _ _ _,by simp [upd],by simp [upd,s6],by simp [upd,s5],by simp [upd,s3],by simp [upd,s9],by simp [upd,s10],by simp [upd,s11]⟩
   show ({ g.old with keep:=upd g.old.keep w8.heap.size _ }:Old)=_
   rw [ho];rfl
  ·rintro o S8 H8 ⟨k,b,rfl,h⟩
   exact ⟨hbx _,k,b,rfl,h⟩
  ·rintro o S8 H8 ⟨k,b,rfl,hkb,s16,s6,s5,hF⟩
   refine SW.block (SW.loopO (fun o S' H'=>∃ k b pos,o=oK cc w k∧k b=some (.stringIter sb pos)∧pos≤wd.length∧(∀ c∈wd.take pos,digit c)∧(0 < pos→wd.length≤3)∧S' 16 = .val (.pointer (some ⟨b,0,none⟩))∧S' 6 = .int .i64 (numV (wd.take pos))∧S' 5 = .str wd∧F163 ws j S' H')
    (fun o S' _=>match S' 16 with | .val (.pointer (some a))=>(match o.keep a.block with | some (.stringIter _ p)=>wd.length - p | _=>0) | _=>0) ⟨k,b,0,rfl,hkb,Nat.zero_le _,by simp,by simp,s16,s6,s5,hF⟩ ?_)
   rintro o S9 H9 ⟨k,b,pos,rfl,hkb,hpos,hdg,hl0,s16,s6,s5,hF⟩
   have m16:=s16
   have hμ:∀ (S:Slots) (k:Nat→Option Obj) p,S 16 = .val (.pointer (some ⟨b,0,none⟩))→k b=some (.stringIter sb p)→(match S 16 with | .val (.pointer (some a))=>(match (oK cc w k).keep a.block with | some (.stringIter _ p)=>wd.length - p | _=>0) | _=>0)=wd.length - p:=by
    intro S k p h1 h2
    rw [h1]
    show (match k b with | some (.stringIter _ p)=>wd.length - p | _=>0)=_
    rw [h2]
   have hsz:sb.size=wd.length:=by rw [hsb];rfl
   show SW prog GI 55 none (.seq _ (.seq (.cond _ _ _) (.block 3 (.seq _ (.seq _ _))))) _ _ _ _
   by_cases hp:pos < wd.length
   case neg =>
    refine SW.seq (SW.mid hG (p:=0) (oh:={ dst:=some 17,op := .next (.tmp 16) true,type:=0,pos := "text.go:133",after := #[],guard:=none }) (os1:=[]) (os2:=[_]) (l2:=[1]) rfl rfl rfl rfl (by kernel_rfl) rfl (hbx _) (al1:=[]) (al2:=(ACode.dl (ACode.fst loopA163)).drop 1) rfl (by kernel_rfl) rfl (by kernel_rfl)
     (K1:=fun S' H'=>S' 16 = .val (.pointer (some ⟨b,0,none⟩))∧S' 6 = .int .i64 (numV wd)∧S' 5 = .str wd∧F163 ws j S' H')
     (K2:=fun o S' H'=>o=oK cc w k∧S' 17 = .tup [.bool false]∧S' 6 = .int .i64 (numV wd)∧S' 5 = .str wd∧F163 ws j S' H')
     (K3:=fun o S' H'=>o=oK cc w k∧S' 18 = .bool false∧S' 6 = .int .i64 (numV wd)∧S' 5 = .str wd∧F163 ws j S' H') ?_ ?_ ?_ ?_)
    ·have:pos=wd.length:=by omega
     subst this
     rw [List.take_length] at s6
     exact ⟨s16,s6,s5,hF⟩
    ·rintro w0 g S10 H10 a w10 ho R ⟨s16,s6,s5,s3,s9,s10,s11⟩
     have t16:=R.slot 16 (by decide) (fun h=>h)
     rw [s16] at t16
     have t16:a.eval (.tmp 16) = .pointer (some ⟨b,0,none⟩):=t16.val_eq
     have hk:g.old.keep b=some (.stringIter sb pos):=by rw [ho];exact hkb
     have hb:=(R.kept b _ hk).2.1
     refine ⟨_,_,_,upd S10 17 (.tup [.bool false]),H10,.inl (run_nextS_end rfl t16 hb (by omega)),R.put 17 _ _ (by decide) (.data _ _ (.tup _ _ rfl fun i h h' => ?_)) trivial,ho,upd_same _ _ _,by simp [upd,s6],by simp [upd,s5],by simp [upd,s3],by simp [upd,s9],by simp [upd,s10],by simp [upd,s11]⟩
     match i,h with
     |0,_=>exact .bool _
    ·rintro o S10 H10 ⟨rfl,s17,s6,s5,s3,s9,s10,s11⟩
     refine ⟨hbx _,?_⟩
     simp [c163,bodyA163,inA163,loopA163,ACode.fst,ACode.snd,ACode.dl,aops,awanted,astep,apure,ev,Eff.S,Eff.H,upd,putD,F163,s3,s5,s6,s9,s10,s11,s17,AV.dem]
    ·rintro o S10 H10 ⟨rfl,s18,s6,s5,hF⟩
     refine SW.seq (SW.cond rfl false (by show S10 18=_;rw [s18]) (SW.exit ?_))
     show SW prog GI 55 none (.seq _ _) _ _ _ _
     have hpe:pos=wd.length:=by omega
     have hdig:∀ c∈wd,digit c:=by rw [hpe,List.take_length] at hdg;exact hdg
     have h160:=ac160 (GI:=GI) hG wd
     have h160f:=ac160f (GI:=GI) hG wd
     have e8:∀ H,fz H (.int .i64 (numV wd)) = .int .i64 (numV wd):=fun H=>rfl
     have e9:∀ H,fz H (.str wd) = .str wd:=fun H=>rfl
     have e10:∀ b H,fz H (.bool b) = .bool b:=fun b H=>rfl
     by_cases hne:wd=[]
     ·have hgb:givenW wd=false:=by rw [hne];rfl
      rw [hbad hgb]
      have hneb:(wd != [])=false:=by simpa using hne
      refine SW.seq (SW.of_awp hG hmix (by kernel_rfl) (fun d _=>hbx _ d) (ac:=ACode.fst (ACode.snd (ACode.snd (ACode.snd inA163)))) (by kernel_rfl) ?_)
      unfold Post.awp
      obtain ⟨s3,s9,s10,s11⟩:=hF
      simp [c163,bodyA163,inA163,ACode.fst,ACode.snd,ACode.dl,awp,aops,awanted,astep,apure,assignQ,thenQ,ev,Eff.S,Eff.H,upd,putD,F163,s3,s5,s6,s9,s10,s11,AV.dem,abin,hneb,e8,e9,e10,tmpOf]
      refine ⟨_,by kernel_rfl,h160f,by simp [boxy],?_⟩
      simp [onOut,thenS,blockS,retS,outG,noTx]
      exact ⟨rfl,rfl⟩
     have hl3:wd.length≤3:=hl0 (by rw [hpe];exact List.length_pos_iff.2 hne)
     have hIw:=hIw hl3 hdig
     have hneb:(wd != [])=true:=by simpa using hne
     have hs:=numV_range wd hdig hl3
     by_cases hde:decI (numV wd)=wd
     case neg =>
      have hgb:givenW wd=false:=by
       rw [Bool.eq_false_iff]
       intro h
       exact hde (givenW_iff.1 h).2.2.2
      rw [hbad hgb]
      have hdb:(decI (numV wd)==wd)=false:=by simpa using hde
      refine SW.seq (SW.of_awp hG hmix (by kernel_rfl) (fun d _=>hbx _ d) (ac:=ACode.fst (ACode.snd (ACode.snd (ACode.snd inA163)))) (by kernel_rfl) ?_)
      unfold Post.awp
      obtain ⟨s3,s9,s10,s11⟩:=hF
      simp [c163,bodyA163,inA163,ACode.fst,ACode.snd,ACode.dl,awp,aops,awanted,astep,apure,assignQ,thenQ,ev,Eff.S,Eff.H,upd,putD,F163,s3,s5,s6,s9,s10,s11,AV.dem,abin,hneb,e8,tmpOf]
      refine ⟨_,by kernel_rfl,hIw,by simp [boxy],?_⟩
      simp [onOut,upd,AV.dem,s3,s5,s6,s9,s10,s11,abin,e9,e10,hdb]
      refine ⟨_,by kernel_rfl,h160f,by simp [boxy],?_⟩
      simp [onOut,thenS,blockS,retS,outG,noTx]
      exact ⟨rfl,rfl⟩
     have hgw:givenW wd=true:=givenW_iff.2 ⟨hne,hl3,hdig,hde⟩
     have hallj:(ws.take (j+1)).all givenW=true:=by
      rw [List.take_succ_eq_append_getElem hlt,List.all_append,hall,hwd];simp [hgw]
     rw [hde] at hIw
     refine SW.cut hG hmix (by kernel_rfl) (ac:=ACode.fst (ACode.snd (ACode.snd (ACode.snd inA163)))) (by kernel_rfl) (fun d _=>hbx _ d) (fun S' H'=>S' 6 = .int .i64 (numV wd)∧F163 ws j S' H') ?_ ?_
     ·obtain ⟨s3,s9,s10,s11⟩:=hF
      simp [c163,bodyA163,inA163,ACode.fst,ACode.snd,ACode.dl,awp,aops,awanted,astep,apure,assignQ,ev,Eff.S,Eff.H,upd,putD,F163,s3,s5,s6,s9,s10,s11,AV.dem,abin,hneb,e8]
      refine ⟨_,by kernel_rfl,hIw,by simp [boxy],?_⟩
      simp [onOut,upd,AV.dem,s3,s5,s6,s9,s10,s11,abin,e9,e10]
      refine ⟨_,by kernel_rfl,h160,by simp [boxy],?_⟩
      simp [onOut,upd,AV.dem,s3,s5,s6,s9,s10,s11]
     rintro S11 H11 ⟨s6,hF⟩
     have hnx:(ws.take (j+1)).map numV=(ws.take j).map numV++[numV wd]:=by rw [List.take_succ_eq_append_getElem hlt,List.map_append,hwd];rfl
     have hLl:((ws.take j).map numV).length≤100000:=by simp;omega
     refine SW.mono (Q:=fun e o S' H'=>e = .normal∧o=oK cc w k∧S' 3=numsA ((ws.take (j+1)).map numV)∧S' 9=strs ws∧S' 10 = .int .i64 ws.length∧S' 11 = .int .i64 (j:Nat)) ?_ (SW.of_awp hG hmix (by kernel_rfl) (fun d _=>hbx _ d) (ac:=ACode.snd (ACode.snd (ACode.snd (ACode.snd inA163)))) (by kernel_rfl) ?_)
     ·rintro e o S' H' ⟨rfl,rfl,s3,s9,s10,s11⟩
      show SW prog GI 55 none _ _ _ _ _
      refine SW.of_awp hG hmix (by kernel_rfl) (fun d _=>hbx _ d) (ac:=ACode.snd (ACode.snd (ACode.snd bodyA163))) (by kernel_rfl) ?_
      have hwr:IntKind.i64.wrap ((j:Int)+1)=j+1:=wrapI (by omega)
      simp [c163,bodyA163,ACode.fst,ACode.snd,awp,aops,awanted,astep,apure,ev,Eff.S,Eff.H,upd,putD,s3,s9,s10,s11,abin,AV.dem,hwr,Post.awp,thenS,F163]
      refine ⟨⟨⟨_,rfl⟩,j+1,by omega,List.all_eq_true.1 hallj,rfl,by omega⟩,?_⟩
      rw [m11]
      show ws.length - (j+1) < ws.length - (j:Int).toNat
      rw [Int.toNat_natCast];omega
     ·unfold Post.awp
      obtain ⟨s3,s9,s10,s11⟩:=hF
      rw [hnx]
      generalize (ws.take j).map numV=L at s3 hLl ⊢
      cases L with
      |nil=>simp [c163,bodyA163,inA163,ACode.fst,ACode.snd,ACode.dl,awp,aops,awanted,astep,apure,ev,Eff.S,Eff.H,upd,putD,s3,s6,s9,s10,s11,numsA,ints,AV.dem,elemsOK,AV.storable,AV.cells,AV.vw,AV.vw1,tmpOf]
      |cons x L =>
       have hsm:L.length+1+1 < 1048576:=by simp at hLl;omega
       simp [c163,bodyA163,inA163,ACode.fst,ACode.snd,ACode.dl,awp,aops,awanted,astep,apure,ev,Eff.S,Eff.H,upd,putD,s3,s6,s9,s10,s11,numsA,ints,AV.dem,elemsOK,AV.storable,AV.cells,AV.vw,AV.vw1,tmpOf,hsm]
   case pos =>
    obtain ⟨c,hc⟩:∃ c,wd[pos]=c:=⟨_,rfl⟩
    obtain ⟨r,hr⟩:∃ r:Nat,(Utf8.decode sb pos).1=r:=⟨_,rfl⟩
    obtain ⟨p',hp'⟩:∃ p':Nat,pos+(Utf8.decode sb pos).2=p':=⟨_,rfl⟩
    have hsbc:sb[pos]'(by omega)=c:=by subst hsb;rw [← hc];rfl
    refine SW.seq (SW.mid hG (p:=0) (oh:={ dst:=some 17,op := .next (.tmp 16) true,type:=0,pos := "text.go:133",after := #[],guard:=none }) (os1:=[]) (os2:=[_]) (l2:=[1]) rfl rfl rfl rfl (by kernel_rfl) rfl (hbx _) (al1:=[]) (al2:=(ACode.dl (ACode.fst loopA163)).drop 1) rfl (by kernel_rfl) rfl (by kernel_rfl)
     (K1:=fun S' H'=>S' 16 = .val (.pointer (some ⟨b,0,none⟩))∧S' 6 = .int .i64 (numV (wd.take pos))∧S' 5 = .str wd∧F163 ws j S' H')
     (K2:=fun o S' H'=>o=oK cc w (upd k b (some (.stringIter sb p')))∧S' 16 = .val (.pointer (some ⟨b,0,none⟩))∧S' 17 = .tup [.bool true,.int .i64 pos,.int .i32 r]∧S' 6 = .int .i64 (numV (wd.take pos))∧S' 5 = .str wd∧F163 ws j S' H')
     (K3:=fun o S' H'=>o=oK cc w (upd k b (some (.stringIter sb p')))∧S' 16 = .val (.pointer (some ⟨b,0,none⟩))∧S' 18 = .bool true∧S' 17 = .tup [.bool true,.int .i64 pos,.int .i32 r]∧S' 6 = .int .i64 (numV (wd.take pos))∧S' 5 = .str wd∧F163 ws j S' H') ⟨s16,s6,s5,hF⟩ ?_ ?_ ?_)
    ·rintro w0 g S10 H10 a w10 ho R ⟨s16,s6,s5,s3,s9,s10,s11⟩
     have t16:=R.slot 16 (by decide) (fun h=>h)
     rw [s16] at t16
     have t16:a.eval (.tmp 16) = .pointer (some ⟨b,0,none⟩):=t16.val_eq
     have hk:g.old.keep b=some (.stringIter sb pos):=by rw [ho];exact hkb
     have hb:=(R.kept b _ hk).2.1
     refine ⟨_,_,_,upd S10 17 (.tup [.bool true,.int .i64 pos,.int .i32 r]),H10,.inl (run_nextU rfl t16 hb (by omega) hr hp'),(R.rekeep hk _).put 17 _ _ (by decide) (.data _ _ (.tup _ _ rfl fun i h h' => ?_)) trivial,?_,by simp [upd,s16],upd_same _ _ _,by simp [upd,s6],by simp [upd,s5],by simp [upd,s3],by simp [upd,s9],by simp [upd,s10],by simp [upd,s11]⟩
     ·match i,h with
      |0,_=>exact .bool _
      |1,_=>exact .int _ _
      |2,_ =>
       exact .int _ _
     ·show ({ g.old with keep:=upd g.old.keep b _ }:Old)=_
      rw [ho];rfl
    ·rintro o S10 H10 ⟨rfl,s16,s17,s6,s5,s3,s9,s10,s11⟩
     refine ⟨hbx _,?_⟩
     simp [c163,bodyA163,inA163,loopA163,ACode.fst,ACode.snd,ACode.dl,aops,awanted,astep,apure,ev,Eff.S,Eff.H,upd,putD,F163,s3,s5,s6,s9,s10,s11,s16,s17,AV.dem]
    ·rintro o S10 H10 ⟨rfl,s16,s18,s17,s6,s5,hF⟩
     refine SW.seq (SW.cond rfl true (by show S10 18=_;rw [s18]) (SW.skip ?_))
     show SW prog GI 55 none (.block 3 (.seq _ (.seq _ _))) _ _ _ _
     by_cases hgc:digit c∧wd.length≤3
     case neg =>
      have hgb:givenW wd=false:=by
       rw [Bool.eq_false_iff]
       intro h
       obtain ⟨_,h2,h3,_⟩:=givenW_iff.1 h
       exact hgc ⟨h3 c (hc ▸ List.getElem_mem hp),h2⟩
      rw [hbad hgb]
      have hrn:¬ (48≤(r:Int)∧(r:Int)≤57∧(wd.length:Int)≤3):=by
       rintro ⟨g1,g2,g3⟩
       refine hgc ⟨?_,by omega⟩
       have:=decode_small (s:=sb) (pos:=pos) (by omega) (by rw [hr];omega)
       rw [hr] at this
       have hcr:c.toNat=r:=by rw [← hsbc];exact this.symm
       unfold digit
       omega
      have h160f:=ac160f (GI:=GI) hG wd
      have e9:∀ H,fz H (.str wd) = .str wd:=fun H=>rfl
      have e10:∀ b H,fz H (.bool b) = .bool b:=fun b H=>rfl
      refine SW.block (SW.of_awp hG hmix (by kernel_rfl) (fun d _=>hbx _ d) (ac:=ACode.snd (ACode.snd (ACode.snd loopA163))) (by kernel_rfl) ?_)
      unfold Post.awp
      obtain ⟨s3,s9,s10,s11⟩:=hF
      by_cases g1:(48:Int)≤r
      ·by_cases g2:(r:Int)≤57
       ·have g3:¬ (wd.length:Int)≤3:=fun g3=>hrn ⟨g1,g2,g3⟩
        simp [c163,bodyA163,inA163,loopA163,ACode.fst,ACode.snd,ACode.dl,awp,aops,awanted,astep,apure,thenQ,ev,Eff.S,Eff.H,upd,putD,F163,s3,s5,s6,s9,s10,s11,s16,s17,AV.dem,abin,g1,g2,g3,e9,e10,tmpOf]
        refine ⟨_,by kernel_rfl,h160f,by simp [boxy],?_⟩
        simp [onOut,thenS,blockS,retS,outG,noTx]
        exact ⟨rfl,rfl⟩
       ·simp [c163,bodyA163,inA163,loopA163,ACode.fst,ACode.snd,ACode.dl,awp,aops,awanted,astep,apure,thenQ,ev,Eff.S,Eff.H,upd,putD,F163,s3,s5,s6,s9,s10,s11,s16,s17,AV.dem,abin,g1,g2,e9,e10,tmpOf]
        refine ⟨_,by kernel_rfl,h160f,by simp [boxy],?_⟩
        simp [onOut,thenS,blockS,retS,outG,noTx]
        exact ⟨rfl,rfl⟩
      ·simp [c163,bodyA163,inA163,loopA163,ACode.fst,ACode.snd,ACode.dl,awp,aops,awanted,astep,apure,thenQ,ev,Eff.S,Eff.H,upd,putD,F163,s3,s5,s6,s9,s10,s11,s16,s17,AV.dem,abin,g1,e9,e10,tmpOf]
       refine ⟨_,by kernel_rfl,h160f,by simp [boxy],?_⟩
       simp [onOut,thenS,blockS,retS,outG,noTx]
       exact ⟨rfl,rfl⟩
     obtain ⟨hcd,hl3⟩:=hgc
     have hcd':=hcd
     unfold digit at hcd'
     have hdec:=decode_ascii sb pos (by omega) (by rw [hsbc];omega)
     have hrc:r=c.toNat:=by rw [← hr,hdec,hsbc]
     have hpp:p'=pos+1:=by rw [← hp',hdec]
     subst hrc
     subst hpp
     have hdg1:∀ x∈wd.take (pos+1),digit x:=by
      rw [List.take_succ_eq_append_getElem hp,hc]
      intro x hx
      rcases List.mem_append.1 hx with hx | hx
      ·exact hdg x hx
      ·rw [List.mem_singleton] at hx;rw [hx];exact hcd
     have htk:wd.take (pos+1)=wd.take pos++[c]:=by rw [List.take_succ_eq_append_getElem hp,hc]
     have hnum:=numV_range (wd.take pos) hdg (by simp;omega)
     refine SW.block (SW.mono (Q:=fun e o S' H'=>e = .normal∧o=oK cc w (upd k b (some (.stringIter sb (pos+1))))∧S' 16 = .val (.pointer (some ⟨b,0,none⟩))∧S' 6 = .int .i64 (numV (wd.take (pos+1)))∧S' 5 = .str wd∧F163 ws j S' H') ?_ (SW.of_awp hG hmix (by kernel_rfl) (fun d _=>hbx _ d) (ac:=ACode.snd (ACode.snd (ACode.snd loopA163))) (by kernel_rfl) ?_))
     ·rintro e o S' H' ⟨rfl,rfl,s16,s6,s5,hF⟩
      refine ⟨⟨upd k b (some (.stringIter sb (pos+1))),b,pos+1,rfl,upd_same _ _ _,hp,hdg1,fun _=>hl3,s16,s6,s5,hF⟩,?_⟩
      show (match S' 16 with | .val (.pointer (some a))=>(match (oK cc w (upd k b (some (.stringIter sb (pos+1))))).keep a.block with | some (.stringIter _ p)=>wd.length - p | _=>0) | _=>0) < _
      rw [hμ S' _ (pos+1) s16 (upd_same _ _ _),hμ S9 k pos m16 hkb]
      omega
     ·unfold Post.awp
      obtain ⟨s3,s9,s10,s11⟩:=hF
      have h160:=ac160 (GI:=GI) hG wd
      have g1:(48:Int)≤c.toNat:=by omega
      have g2:(c.toNat:Int)≤57:=by omega
      have g3:(wd.length:Int)≤3:=by omega
      have w1:IntKind.i64.wrap (10 * numV (wd.take pos))=10 * numV (wd.take pos):=wrapI (by omega)
      have w2:IntKind.i32.wrap ((c.toNat:Int) - 48)=(c.toNat:Int) - 48:=wrap32 (by omega)
      have w3:IntKind.i64.wrap ((c.toNat:Int) - 48)=(c.toNat:Int) - 48:=wrapI (by omega)
      have w4:IntKind.i64.wrap (10 * numV (wd.take pos)+((c.toNat:Int) - 48))=numV (wd.take (pos+1)):=by rw [htk,numV_snoc,wrapI (by omega)]
      have e9:∀ H,fz H (.str wd) = .str wd:=fun H=>rfl
      have e10:∀ H,fz H (.bool true) = .bool true:=fun H=>rfl
      simp [c163,bodyA163,inA163,loopA163,ACode.fst,ACode.snd,ACode.dl,awp,aops,awanted,astep,apure,thenQ,ev,Eff.S,Eff.H,upd,putD,F163,s3,s5,s6,s9,s10,s11,s16,s17,AV.dem,abin,g1,g2,g3,e9,e10,tmpOf]
      refine ⟨_,by kernel_rfl,h160,by simp [boxy],?_⟩
      simp [onOut,upd,AV.dem,s3,s5,s6,s9,s10,s11,s16,abin,w1,w2,w3,w4,tmpOf]
theorem ac163g (hG:Stable GI) (hT:TB GI) {ws:List (List UInt8)} (hlen:ws.length≤100000):AC prog GI 163 [strs ws] (outG (givenE ws)) :=
 ac163E hG hlen fun w _ h3 hd=>ac157n hT (numV_range3 hd h3)
theorem ac164g (hG:Stable GI) (hT:TB GI) (hML:ML GI) (w:List UInt8) (hw:w.length≤10000):AC prog GI 164 [.str w] (outG (listedE w)):=by
 by_cases h0:w=[45]
 ·subst h0
  have:listedE [45] = .ok []:=rfl
  rw [this]
  refine AC.of_body hG hmix func164 rfl ntmps164 (by simp) (ac:=c164) (by kernel_rfl) ?_
  simp [c164]
  rfl
 have hlE:listedE w=givenE (splitS 44 w):=by unfold listedE;rw [if_neg h0]
 rw [hlE]
 have hne:(w==[45])=false:=by simpa using h0
 have a:=ac159 hML w 44 (by omega)
 have hsl:(splitS 44 w).length≤100000:=by have:=splitS_len 44 w;omega
 have b:=ac163g (ws:=splitS 44 w) hG hT hsl
 generalize splitS 44 w=ws at *
 generalize hog:givenE ws=o at b ⊢
 refine AC.of_body hG hmix func164 rfl ntmps164 (by simp) (ac:=c164) (by kernel_rfl) ?_
 simp [c164,hne]
 refine ⟨_,by kernel_rfl,a,by simp [boxy],?_⟩
 simp [strs]
 refine ⟨_,by kernel_rfl,(by simpa [strs] using b),by simp [boxy],?_⟩
 cases o with
 |ok l=>simp [outG]
 |error e=>simp [outG,noTx]
theorem dem_s:(∀ k n,(AV.int k n).dem = .int k n)∧(∀ b,(AV.bool b).dem = .bool b)∧(∀ l,(AV.str l).dem = .str l)∧(∀ l,(AV.slice .view l).dem = .slice .view l)∧(∀ l,(AV.slice .nil l).dem = .slice .nil l)∧(∀ e l,(AV.slice (.own e) l).dem = .slice .view l)∧(∀ cs,(AV.agg cs).dem = .agg cs)∧(∀ cs,(AV.tup cs).dem = .tup cs)∧(∀ cs,(AV.ref cs).dem = .ref cs)∧(∀ i o,(AV.box i o).dem = .box i o)∧(∀ t v,(AV.iface t v).dem = .iface t v)∧∀ v:AV,v.dem.dem=v.dem :=
 ⟨fun _ _=>rfl,fun _=>rfl,fun _=>rfl,fun _=>rfl,fun _=>rfl,fun _ _=>rfl,fun _=>rfl,fun _=>rfl,fun _=>rfl,fun _ _=>rfl,fun _ _=>rfl,AV.idem⟩
theorem vw1_s:(∀ k n,(AV.int k n).vw1 = .int k n)∧(∀ b,(AV.bool b).vw1 = .bool b)∧(∀ l,(AV.str l).vw1 = .str l)∧(∀ o l,(AV.slice o l).vw1 = .slice .view l)∧(∀ cs,(AV.agg cs).vw1 = .agg cs)∧(∀ cs,(AV.tup cs).vw1 = .tup cs)∧(∀ cs,(AV.ref cs).vw1 = .ref cs)∧∀ t v,(AV.iface t v).vw1 = .iface t v :=
 ⟨fun _ _=>rfl,fun _=>rfl,fun _=>rfl,fun _ _=>rfl,fun _=>rfl,fun _=>rfl,fun _=>rfl,fun _ _=>rfl⟩
theorem dem_grow (e:Nat) (l:List AV):(grow e l).dem = .slice (if l=[] then .nil else .view) l:=by
 unfold grow
 by_cases h:l=[]<;>simp [h,AV.dem]
theorem vw1_dgrow (e:Nat) (l:List AV):(grow e l).dem.vw1 = .slice .view l:=by
 rw [dem_grow];rfl
end Go.Proofs.Tryz
namespace Go.Proofs.Tryz
open Go Go.AL Go.RowKit Go.Proofs
variable {GI:World→Prop}
theorem panicI {Pr:Nat→Nat→Prop} {w:World} {e:List UInt8} {c:Value} (h:RD Pr w (noTx e) c):c = .iface 192 (.agg #[.string ⟨e.toArray⟩]):=by
 unfold noTx at h
 cases h with
 |iface t v c h =>
  cases h with
  |agg cs vs hl h1 hr =>
   have hs:vs.size=1:=by rw [← hl];rfl
   have h0:=hr 0 (by simp) (by omega)
   simp only [List.getElem_cons_zero] at h0
   have:vs = #[vs[0]]:=by
    apply Array.ext
    ·simpa using hs
    ·intro i h1 h2
     have:i=0:=by simp at h2;omega
     subst this;rfl
   rw [this]
   generalize vs[0]=x at h0
   cases h0;rfl
theorem calls118p (hG:Stable GI) {w0:World} {n:Nat} {g:Gh} {S:Slots} {H:Boxes} {a:Act} {w:World} {i1 i4:Nat} {s e:List UInt8} {z:List AV} (hG0:GI w0) (R:Rel prog w0 n NoU g S H a w) (h1n:i1 < n) (h4n:i4 < n)
  (hS1:S i1 = .box i1 0) (hH1:H i1=some [.str s]) (hS4:S i4 = .box i4 0) (hH4:H i4=some z) (h119:AC prog GI 119 [.str s] (.panic (noTx e))) :
  Calls prog 118 #[a.tmps.getD i1 undef,a.tmps.getD i4 undef] w fun en w2=>en = .panicked [{ v := .iface 192 (.agg #[.string ⟨e.toArray⟩]),recovered:=false }]∧Below w.heap.size w w2:=by
 have hsz:=R.size
 have v1:=R.slot i1 h1n id
 rw [hS1] at v1
 have v4:=R.slot i4 h4n id
 rw [hS4] at v4
 obtain ⟨b1,e1,hal1⟩:∃ b,a.tmps.getD i1 undef = .pointer (some ⟨b,0,none⟩)∧g.al i1=some b:=by
  generalize a.tmps.getD i1 undef=c at v1
  cases v1 with
  |data _ _ h=>cases h
  |box _ _ b h=>exact ⟨b,rfl,h⟩
 obtain ⟨b4,e4,hal4⟩:∃ b,a.tmps.getD i4 undef = .pointer (some ⟨b,0,none⟩)∧g.al i4=some b:=by
  generalize a.tmps.getD i4 undef=c at v4
  cases v4 with
  |data _ _ h=>cases h
  |box _ _ b h=>exact ⟨b,rfl,h⟩
 obtain ⟨cs,vs,ty,k0,k1,k2,k3,k4,k5,k6,k7,k8⟩:=R.box i1 b1 hal1
 rw [hH1] at k0;cases k0
 have h0:0 < vs.size:=by rw [← k5];exact Nat.zero_lt_one
 have hv:=str_eq (RV.data (al:=noneA) _ _ (k6 0 (by simp) h0))
 have hcell:w.cell? ⟨b1,0,none⟩=some (.string ⟨s.toArray⟩):=by simp [World.cell?,k2,h0,hv]
 have hb0:=R.below
 rw [R.base] at hb0
 have hGw:GI w:=hG w0 w hG0 hb0
 rw [e1,e4]
 refine calls_of_wp func118 rfl ?_
 refine (wpIn_FR_none (m:=0)).1 ?_
 refine anyAct (fun a=>a.tmps.size=4∧a.defers=[]∧a.tmps.getD 0 undef = .pointer (some ⟨b1,0,none⟩)∧a.tmps.getD 1 undef = .pointer (some ⟨b4,0,none⟩)) ⟨by simp [ntmps118],rfl,args_get _ _ 0 (by simp),args_get _ _ 1 (by simp)⟩ ?_
 rintro aC ⟨zC,dC,t0,t1⟩
 have hgs:∀ (a:Act) (d:Nat) (c:Value),a.tmps.size=4→d < 4→(a.put (some d) c).tmps.getD d undef=c:=fun a d c h hd=>by
  simp [Act.put,h,hd]
 refine wpIn_region ?_
 show wpOpsIn _ _ _ _ _ [0,1,2] aC w
 refine opIn_val rfl rfl (by rfl) (run_load1 (t:=9) (d := .string) (b:=b1) (off:=0) rfl t0 (by kernel_rfl) rfl hcell) ?_
 show wpOpsIn _ _ _ _ _ [1,2] (aC.put (some 2) (.string ⟨s.toArray⟩)) w
 refine opIn_callE rfl rfl (by rfl) (run_callF (k:=119) (args := #[.string ⟨s.toArray⟩]) w rfl rfl ?_ (by kernel_rfl)) (h119 w (callOld g false) #[.string ⟨s.toArray⟩] hGw rfl (fun i h h'=>by
  match i,h with
  |0,_=>exact .data _ _ (.str s))) ?_
 ·simp only [List.map_toArray,List.map_cons,List.map_nil]
  show #[(aC.put (some 2) _).tmps.getD 2 undef]=_
  rw [hgs _ _ _ zC (by decide)]
 rintro en w2 ⟨hb2,hi,hfr,c,rfl,hrd⟩
 have hc:=panicI hrd
 subst hc
 exact ⟨dC,rfl,hb2⟩
theorem calls117p (hG:Stable GI) {w0:World} {n:Nat} {g:Gh} {S:Slots} {H:Boxes} {a:Act} {w:World} {i1 i4:Nat} {s e:List UInt8} {z:List AV} (hG0:GI w0) (R:Rel prog w0 n NoU g S H a w) (h1n:i1 < n) (h4n:i4 < n)
  (hS1:S i1 = .box i1 0) (hH1:H i1=some [.str s]) (hS4:S i4 = .box i4 0) (hH4:H i4=some z) (h119:AC prog GI 119 [.str s] (.panic (noTx e))) :
  Calls prog 117 #[.func (.func 118) #[] #[a.tmps.getD i1 undef,a.tmps.getD i4 undef]] w fun en w2=>en = .returned (.int .i64 4)∧∃ g',g'.old=g.old∧Rel prog w0 n NoU g' S H a w2:=by
 have R1:=R.keepNew (.cells #[.int .i64 0] 36)
 have hkn:g.old.keep w.heap.size=none:=by
  cases h:g.old.keep w.heap.size with
  |none=>rfl
  |some o =>
   have:=(Array.getElem?_eq_some_iff.1 (R.kept _ o h).2.1).1
   omega
 refine attempt_calls (by kernel_rfl) (calls118p hG hG0 R1 h1n h4n hS1 hH1 hS4 hH4 h119) ?_
 rintro en w2 ⟨rfl,hb2⟩
 have R2:=R1.grow' hb2
 have hk:upd g.old.keep w.heap.size (some (.cells #[.int .i64 0] 36)) w.heap.size=some (.cells #[.int .i64 0] 36):=upd_same _ _ _
 have hk2:=(R2.kept _ _ hk).2.1
 have hlt:=(Array.getElem?_eq_some_iff.1 hk2).1
 refine ⟨hlt,⟨_,_,hk2⟩,.inr (.inr ⟨e,rfl,fun w3 hb3=>⟨rfl,?_⟩⟩)⟩
 have R3:=R2.grow' hb3
 have hk3:=(R3.kept _ _ hk).2.1
 have R4:=R3.rekeep hk (.cells #[.int .i64 4] 36)
 rw [setRow_putObj w3 hk3]
 refine ⟨_,?_,unkeep R4 w.heap.size⟩
 have:upd (upd (upd g.old.keep w.heap.size (some (.cells #[.int .i64 0] 36))) w.heap.size (some (.cells #[.int .i64 4] 36))) w.heap.size none=g.old.keep:=by
  funext b
  by_cases hb:b=w.heap.size
  ·subst hb;simp [upd,hkn]
  ·simp [upd,hb]
 show ({ g.old with keep:=upd (upd (upd g.old.keep w.heap.size (some (.cells #[.int .i64 0] 36))) w.heap.size (some (.cells #[.int .i64 4] 36))) w.heap.size none }:Old)=_
 rw [this]
end Go.Proofs.Tryz
namespace Go.Proofs.Tryz
open Go Go.AL Go.RowKit Go.Proofs
attribute [local simp] awp_all qs_all ops_allN dops_allN ops_nil dops_nil ops_call ops_callv ops_alloc ops_box dops_call dops_alloc kO_eq kD_eq awanted apure ev Eff.S Eff.H tmpOf upd putD AL.start AV.dem AV.cells AV.storable AV.scells splice scrub abin loadA HR.okB post ares aress ares1 AV.out AV.isData ints_len ints_get fz fz1 AV.vw AV.vw1 boxy vI int undefA assignQ thenQ blockQ seqQ panQ prol prolH allocOf
variable {GI:World→Prop}
structure SpI (c:UInt8) (s:List UInt8) (i:Nat) (P:List (List UInt8)) (st:Nat):Prop where
 le:st≤i
 few:P.length≤st
 no:¬ c∈(s.take i).drop st
 eq:splitS c s=P++splitS c (s.drop st)
theorem SpI.zero (c:UInt8) (s:List UInt8):SpI c s 0 [] 0:=⟨Nat.le_refl _,Nat.le_refl _,by simp,rfl⟩
theorem SpI.skip {c:UInt8} {s:List UInt8} {i:Nat} {P:List (List UInt8)} {st:Nat} (h:SpI c s i P st) (hi:i < s.length) (hc:s[i]≠c):SpI c s (i+1) P st:=by
 obtain ⟨h1,h2,h3,h4⟩:=h
 refine ⟨by omega,h2,?_,h4⟩
 rw [List.take_succ_eq_append_getElem hi,List.drop_append_of_le_length (by rw [List.length_take];omega)]
 intro hm
 rcases List.mem_append.1 hm with hm | hm
 ·exact h3 hm
 ·rw [List.mem_singleton] at hm;exact hc hm.symm
theorem SpI.cut {c:UInt8} {s:List UInt8} {i:Nat} {P:List (List UInt8)} {st:Nat} (h:SpI c s i P st) (hi:i < s.length) (hc:s[i]=c):SpI c s (i+1) (P++[(s.take i).drop st]) (i+1):=by
 obtain ⟨h1,h2,h3,h4⟩:=h
 refine ⟨Nat.le_refl _,by simp;omega,by simp,?_⟩
 rw [h4,List.append_assoc]
 congr 1
 have e:s.drop st=(s.take i).drop st++c::s.drop (i+1):=by
  have e1:s=s.take i++s[i]::s.drop (i+1):=by
   rw [List.getElem_cons_drop,List.take_append_drop]
  conv=>lhs;rw [e1]
  rw [List.drop_append_of_le_length (by rw [List.length_take];omega),hc]
 rw [e,splitS_app h3]
 rfl
end Go.Proofs.Tryz
namespace Go.Proofs.Tryz
open Go Go.AL Go.RowKit Go.Proofs
attribute [local simp] awp_all qs_all ops_all dops_all ops_nil dops_nil ops_call ops_callv ops_alloc ops_box dops_call dops_alloc kO_eq kD_eq awanted apure ev Eff.S Eff.H tmpOf upd putD AL.start AV.dem AV.cells AV.storable AV.scells splice scrub abin loadA HR.okB post ares aress ares1 AV.out AV.isData ints_len ints_get fz fz1 AV.vw AV.vw1 boxy vI int undefA assignQ thenQ blockQ seqQ panQ prol prolH allocOf
variable {GI:World→Prop}
theorem ac162_at (hG:Stable GI) (l:List (List UInt8)) (w:List UInt8) (hl:l.length < 1000000) (k:Nat) (hk:k < l.length) (he:l[k]=w) (hne:∀ j (h:j < k),l[j]≠w):AC prog GI 162 [strs l,.str w] (.ret (.int .i64 k)):=by
 refine AC.of_body hG hmix func162 rfl ntmps162 (by simp) (ac:=c162) (by kernel_rfl) ?_
 refine awp_cut (fun S H=>S 0=strs l∧S 1 = .str w) (by simp [strs]) ?_
 rintro S H ⟨s0,s1⟩
 simp [s0,s1,strs]
 refine awp_loop 8 l.length (fun i S H=>i≤k∧S 0=strs l∧S 1 = .str w∧S 7 = .int .i64 (l.length:Nat)∧S 8 = .int .i64 (i:Nat)) (fun i S H h=>h.2.2.2.2) ⟨Nat.zero_le _,by simp [s0,strs],by simp [s1],by simp,by simp⟩ ?_
 clear s0 s1 S H
 rintro i hi S H ⟨hik,s0,s1,s7,s8⟩
 have hlt:i < l.length:=by omega
 have hw:IntKind.i64.wrap ((i:Int)+1)=i+1:=wrapI (by omega)
 by_cases hc:i=k
 ·subst hc
  simp [s0,s1,s7,s8,strs,hlt,he]
 ·have hn:(w==l[i])=false:=by
   rw [beq_eq_false_iff_ne]
   exact fun e=>hne i (by omega) e.symm
  have hle:i+1≤k:=by omega
  simp [s0,s1,s7,s8,strs,hlt,hn,hw,hle]
theorem ac162_no (hG:Stable GI) (l:List (List UInt8)) (w:List UInt8) (hl:l.length < 1000000) (hne:∀ j (h:j < l.length),l[j]≠w):AC prog GI 162 [strs l,.str w] (.ret (.int .i64 (-1))):=by
 refine AC.of_body hG hmix func162 rfl ntmps162 (by simp) (ac:=c162) (by kernel_rfl) ?_
 refine awp_cut (fun S H=>S 0=strs l∧S 1 = .str w) (by simp [strs]) ?_
 rintro S H ⟨s0,s1⟩
 refine awp_cut (fun S H=>True) ?_ (by simp)
 simp [s0,s1,strs]
 refine awp_loop 8 l.length (fun i S H=>S 0=strs l∧S 1 = .str w∧S 7 = .int .i64 (l.length:Nat)∧S 8 = .int .i64 (i:Nat)) (fun i S H h=>h.2.2.2) ⟨by simp [s0,strs],by simp [s1],by simp,by simp⟩ ?_
 clear s0 s1 S H
 rintro i hi S H ⟨s0,s1,s7,s8⟩
 by_cases hlt:i < l.length
 case neg =>
  simp [s0,s1,s7,s8,strs,hlt]
 have hw:IntKind.i64.wrap ((i:Int)+1)=i+1:=wrapI (by omega)
 have hn:(w==l[i])=false:=by
  rw [beq_eq_false_iff_ne]
  exact fun e=>hne i hlt e.symm
 simp [s0,s1,s7,s8,strs,hlt,hn,hw]
end Go.Proofs.Tryz
namespace Go.Proofs.Tryz
open Go Go.AL Go.RowKit Go.Proofs
attribute [local simp] awp_all qs_all ops_all dops_all ops_nil dops_nil ops_call ops_callv ops_alloc ops_box dops_call dops_alloc kO_eq kD_eq awanted apure ev Eff.S Eff.H tmpOf upd putD AL.start AV.dem AV.cells AV.storable AV.scells splice scrub abin loadA HR.okB post ares aress ares1 AV.out AV.isData ints_len ints_get fz fz1 AV.vw AV.vw1 boxy vI int undefA assignQ thenQ blockQ seqQ panQ prol prolH allocOf
variable {GI:World→Prop}
end Go.Proofs.Tryz
namespace Go.Proofs.Tryz
open Go.AL
end Go.Proofs.Tryz
