/-
  A part of the proof: Al16 Al17 Al18 Al19 Al20 Al21 Al22 Al23 Al32 Al33 Al24 Al25 Al26 Al27 Al28 Al29 Al30 Al31 Al34 Al35 Al36 Al37 Al38 Al40 Al41 Al39 Al42.
-/
import Derived.ControlIn
import Derived.OrdersIn
import Derived.RangeFuncRecord
import Derived.RangeFuncIn
import Derived.RangeFuncLeaves
import Derived.Laws.RangeString
import Derived.Test.YtifmgeicigngbaaGreatA1
set_option linter.all false
set_option linter.unusedVariables false
set_option linter.unusedSimpArgs false
set_option linter.deprecated false
namespace Go.AL
open Go.RowKit
section
variable {P:Program} {GI:World→Prop} {md:Region.Mode} {ops:Array Oper} {n:Nat}
def aAt (P:Program) (n:Nat) (ops:Array Oper) (i:Nat):Option AOpr:=(ops[i]?).map (compOpr P n true ops)
def dOp (P:Program) (GI:World→Prop) (n:Nat) (ops:Array Oper) (i:Nat) (K:Slots→Boxes→Prop) (S:Slots) (H:Boxes):Prop :=
 match aAt P n ops i with
 |none=>False
 |some o=>∃ e,yields P GI o S H e∧K (e.S S o.dst) (e.H H)
def anyA (P:Program) (GI:World→Prop) (n:Nat) (md:Region.Mode) (ops:Array Oper) (QA:Slots→Boxes→Prop):Nat→Array Bool→Slots→Boxes→Prop
 |0,listed,S,H=>Region.ready md ops listed=[]∧QA S H
 |fuel+1,listed,S,H=>(Region.ready md ops listed=[]→QA S H)∧∀ i∈Region.ready md ops listed,dOp P GI n ops i (anyA P GI n md ops QA fuel (listed.setIfInBounds i true)) S H
theorem aAt_of_ready {listed:Array Bool} {i:Nat} (h:i∈Region.ready md ops listed):∃ o,ops[i]? = some o∧aAt P n ops i=some (compOpr P n true ops o):=by
 obtain ⟨_,o,ho,_⟩:=mem_ready.1 h
 exact ⟨o,ho,by simp [aAt,ho]⟩
theorem anyA_first {QA:Slots→Boxes→Prop} {i:Nat} {oi:AOpr} {e:Eff} (hi:aAt P n ops i=some oi) :
  ∀ (fuel:Nat) (listed:Array Bool) (S:Slots) (H:Boxes),
   (∀ j o aj,ops[j]? = some o→aAt P n ops j=some aj→j≠i→listed.getD j true=false→(∀ ed∈o.after,Region.binds md ed=true→ed.on≠i)→oi.apart aj=true) →
   i∈Region.ready md ops listed→yields P GI oi S H e →
   anyA P GI n md ops QA fuel (listed.setIfInBounds i true) (e.S S oi.dst) (e.H H)→anyA P GI n md ops QA (fuel+1) listed S H:=by
 intro fuel
 induction fuel with
 |zero =>
  intro listed S H _ hr hy hK
  refine ⟨fun h=>(by rw [h] at hr;cases hr),fun j hj => ?_⟩
  by_cases hji:j=i
  ·subst hji;unfold dOp;rw [hi];exact ⟨e,hy,hK⟩
  ·have:=ready_mono hj hji
   rw [hK.1] at this
   cases this
 |succ fuel ih =>
  intro listed S H hfree hr hy hK
  refine ⟨fun h=>(by rw [h] at hr;cases hr),fun j hj => ?_⟩
  by_cases hji:j=i
  ·subst hji;unfold dOp;rw [hi];exact ⟨e,hy,hK⟩
  ·have h1:=hK.2 j (ready_mono hj hji)
   obtain ⟨hjun,o,ho,hall⟩:=mem_ready.1 hj
   have haj:aAt P n ops j=some (compOpr P n true ops o):=by simp [aAt,ho]
   have hnot:∀ ed∈o.after,Region.binds md ed=true→ed.on≠i:=fun ed hed hb heq=>by
    have h1:=hall ed hed hb
    have h0:=(mem_ready.1 hr).1
    rw [heq] at h1
    rcases Nat.lt_or_ge i listed.size with h' | h'
    ·simp [h'] at h0 h1;rw [h0] at h1;cases h1
    ·simp [Array.getElem?_eq_none h'] at h1
   have hap:=hfree j o _ ho haj hji hjun hnot
   unfold dOp at h1 ⊢
   rw [haj] at h1 ⊢
   obtain ⟨ej,hyj,hKj⟩:=h1
   have hyj':=yields_back hap hy hyj
   refine ⟨ej,hyj',?_⟩
   have hfree':∀ k o' ak,ops[k]? = some o'→aAt P n ops k=some ak→k≠i→(listed.setIfInBounds j true).getD k true=false→(∀ ed∈o'.after,Region.binds md ed=true→ed.on≠i)→oi.apart ak=true:=by
    intro k o' ak hk hak hki hun hno
    refine hfree k o' ak hk hak hki ?_ hno
    by_cases hjk:j=k
    ·subst hjk;exact hjun
    ·rw [getD_set_ne true hjk] at hun;exact hun
   refine ih (listed.setIfInBounds j true) _ _ hfree' (ready_mono hr (Ne.symm hji)) (yields_keep hap hyj' hy) ?_
   rw [Array.setIfInBounds_comm _ _ hji]
   rw [← effS_comm hap (yields_dm hy).1 (yields_dm hyj).1,← effH_comm hap (yields_dm hy).2 (yields_dm hyj').2]
   exact hKj
def afree (md:Region.Mode) (ops:Array Oper) (al:List AOpr) (listed:Array Bool) (i:Nat):Bool :=
 match al[i]? with
 |none=>false
 |some oi=>(List.range ops.size).all fun j=>j==i || listed.getD j true || match ops[j]?,al[j]? with
   |some oj,some aj=>oj.after.any (fun e=>Region.binds md e && e.on==i) || oi.apart aj
   |_,_=>true
def alex (md:Region.Mode) (ops:Array Oper) (al:List AOpr):Nat→Nat→Array Bool→Bool
 |0,_,listed=>(Region.ready md ops listed).isEmpty
 |fuel+1,k,listed=>(Region.ready md ops listed).contains k && afree md ops al listed k && alex md ops al fuel (k+1) (listed.setIfInBounds k true)
theorem compOps_get (i:Nat):(compOps P n true ops)[i]? = aAt P n ops i:=by simp [compOps,aAt]
theorem afree_spec {i:Nat} {oi:AOpr} {listed:Array Bool} (hi:aAt P n ops i=some oi) (h:afree md ops (compOps P n true ops) listed i=true) (j:Nat) (o:Oper) (aj:AOpr)
  (hj:ops[j]? = some o) (haj:aAt P n ops j=some aj) (hne:j≠i) (hun:listed.getD j true=false) (hno:∀ e∈o.after,Region.binds md e=true→e.on≠i):oi.apart aj=true:=by
 simp only [afree,compOps_get,hi,List.all_eq_true,List.mem_range] at h
 have h1:=h j (Array.getElem?_eq_some_iff.1 hj).1
 simp only [hj,haj,Bool.or_eq_true,beq_iff_eq,hne,false_or,hun,Bool.false_eq_true] at h1
 rcases h1 with h1 | h1
 ·obtain ⟨e,he,hb⟩:=Array.any_eq_true'.1 h1
  simp only [Bool.and_eq_true,beq_iff_eq] at hb
  exact absurd hb.2 (hno e he hb.1)
 ·exact h1
theorem anyA_lex {QA:Slots→Boxes→Prop}:∀ (l:List Oper) (k:Nat) (listed:Array Bool) (S:Slots) (H:Boxes),(∀ j,l[j]? = ops[k+j]?) →
  alex md ops (compOps P n true ops) l.length k listed=true→dops P GI (l.map (compOpr P n true ops)) QA S H→anyA P GI n md ops QA l.length listed S H
 |[],_,_,_,_,_,hB,h=>⟨by simpa [alex] using hB,h⟩
 |o::l,k,listed,S,H,hl,hB,h=>by
  have h0:ops[k]? = some o:=by simpa using (hl 0).symm
  have ha:aAt P n ops k=some (compOpr P n true ops o):=by simp [aAt,h0]
  simp only [List.length_cons,alex,Bool.and_eq_true] at hB
  obtain ⟨⟨hr,hf⟩,hB'⟩:=hB
  obtain ⟨e,hy,hK⟩:=yields_of_dops h
  exact anyA_first ha l.length listed S H (afree_spec ha hf) (by simpa using hr) hy
   (anyA_lex l (k+1) _ _ _ (fun j=>by have:=hl (j+1);simpa [Nat.add_assoc,Nat.add_comm 1 j] using this) hB' hK)
def allocOf (o:AOpr):Option (Nat×List AV) :=
 match o.op,o.dst with
 |.alloc _ z,some d=>some (d,z)
 |_,_=>none
def UU (P:Program) (n:Nat) (ops:Array Oper) (listed:Array Bool) (t:Nat):Prop :=
 ∃ j o z,aAt P n ops j=some o∧allocOf o=some (t,z)∧listed.getD j true=false
def allocsOK (md:Region.Mode) (ops:Array Oper) (al:List AOpr):Bool :=
 (List.range ops.size).all fun j=>match ops[j]?,al[j]? with
  |some oj,some aj=>match allocOf aj with
   |some (d,_)=>oj.after.isEmpty && aj.guard.isNone && (List.range ops.size).all fun k=>k==j || match ops[k]?,al[k]? with
     |some ok,some ak => !ak.writes.contains d && (!ak.reads.contains d || ok.after.any (fun e=>Region.binds md e && e.on==j))
     |_,_=>false
   |none=>true
  |_,_=>false
theorem allocsOK_spec (h:allocsOK md ops (compOps P n true ops)=true) {j:Nat} {oj:Oper} {aj:AOpr} {d:Nat} {z:List AV} (hj:ops[j]? = some oj) (haj:aAt P n ops j=some aj) (hd:allocOf aj=some (d,z)) :
  oj.after = #[]∧aj.guard=none∧∀ k ok ak,ops[k]? = some ok→aAt P n ops k=some ak→k≠j→d∉ak.writes∧(d∈ak.reads→∃ e∈ok.after,Region.binds md e=true∧e.on=j):=by
 simp only [allocsOK,List.all_eq_true,List.mem_range] at h
 have h1:=h j (Array.getElem?_eq_some_iff.1 hj).1
 simp only [hj,compOps_get,haj,hd,Bool.and_eq_true,List.all_eq_true,List.mem_range] at h1
 obtain ⟨⟨h2,h3⟩,h4⟩:=h1
 refine ⟨by simpa using h2,by simpa using h3,fun k ok ak hk hak hne => ?_⟩
 have h5:=h4 k (Array.getElem?_eq_some_iff.1 hk).1
 simp only [hk,hak,Bool.or_eq_true,beq_iff_eq,hne,false_or,Bool.and_eq_true,Bool.not_eq_true'] at h5
 refine ⟨by simpa using h5.1,fun hd => ?_⟩
 rcases h5.2 with h6 | h6
 ·simp at h6;exact absurd hd h6
 ·obtain ⟨e,he,hb⟩:=Array.any_eq_true'.1 h6
  simp only [Bool.and_eq_true,beq_iff_eq] at hb
  exact ⟨e,he,hb⟩
theorem UU_done (hA:allocsOK md ops (compOps P n true ops)=true) {listed:Array Bool} (hr:Region.ready md ops listed=[]):UU P n ops listed=NoU:=by
 funext t
 simp only [NoU,eq_iff_iff,iff_false]
 rintro ⟨j,o,z,h1,h2,h3⟩
 unfold aAt at h1
 cases hj:ops[j]? with
 |none=>simp [hj] at h1
 |some oj =>
  have haj:aAt P n ops j=some o:=by unfold aAt;exact h1
  obtain ⟨ha,_,_⟩:=allocsOK_spec hA hj haj h2
  have:j∈Region.ready md ops listed:=mem_ready.2 ⟨h3,oj,hj,fun e he=>by rw [ha] at he;simp at he⟩
  rw [hr] at this
  cases this
theorem UU_other {listed:Array Bool} {i:Nat} {oi:AOpr} (hi:aAt P n ops i=some oi) (hno:allocOf oi=none):UU P n ops (listed.setIfInBounds i true)=UU P n ops listed:=by
 funext t
 simp only [UU,eq_iff_iff]
 constructor
 ·rintro ⟨j,o,z,h1,h2,h3⟩
  refine ⟨j,o,z,h1,h2,?_⟩
  by_cases hji:i=j
  ·subst hji;rw [hi] at h1;cases h1;rw [hno] at h2;cases h2
  ·rwa [getD_set_ne true hji] at h3
 ·rintro ⟨j,o,z,h1,h2,h3⟩
  refine ⟨j,o,z,h1,h2,?_⟩
  by_cases hji:i=j
  ·subst hji;rw [hi] at h1;cases h1;rw [hno] at h2;cases h2
  ·rwa [getD_set_ne true hji]
theorem UU_alloc (hA:allocsOK md ops (compOps P n true ops)=true) {listed:Array Bool} {i d:Nat} {o:Oper} {oi:AOpr} {z:List AV} (ho:ops[i]? = some o) (hi:aAt P n ops i=some oi) (hd:allocOf oi=some (d,z)) (hlt:i < listed.size) :
  UU P n ops (listed.setIfInBounds i true)=fun t=>UU P n ops listed t∧t≠d:=by
 obtain ⟨_,_,hsp⟩:=allocsOK_spec hA ho hi hd
 funext t
 simp only [UU,eq_iff_iff]
 constructor
 ·rintro ⟨j,oj,z',h1,h2,h3⟩
  have hji:i≠j:=by rintro rfl;simp [hlt] at h3
  refine ⟨⟨j,oj,z',h1,h2,by rwa [getD_set_ne true hji] at h3⟩,?_⟩
  rintro rfl
  have hj:∃ o',ops[j]? = some o':=by
   unfold aAt at h1
   cases hj:ops[j]? with
   |none=>simp [hj] at h1
   |some o'=>exact ⟨o',rfl⟩
  obtain ⟨o',hj⟩:=hj
  have:=(hsp j o' oj hj h1 (Ne.symm hji)).1
  apply this
  unfold allocOf at h2
  split at h2
  ·rename_i hdst
   simp only [Option.some.injEq,Prod.mk.injEq] at h2
   rw [h2.1] at hdst
   exact mem_writes (.inl hdst)
  ·cases h2
 ·rintro ⟨⟨j,oj,z',h1,h2,h3⟩,hne⟩
  have hji:i≠j:=by
   rintro rfl
   rw [hi] at h1;cases h1
   rw [hd] at h2
   simp only [Option.some.injEq,Prod.mk.injEq] at h2
   exact hne h2.1.symm
  exact ⟨j,oj,z',h1,h2,by rwa [getD_set_ne true hji]⟩
end
end Go.AL
namespace Go.AL
open Go.RowKit
section
variable {P:Program} {GI:World→Prop} {w0:World} {n:Nat} {U:Nat→Prop} {g:Gh} {S:Slots} {H:Boxes} {a:Act} {w:World} {ops:Array Oper}
theorem comp_store {dr:Bool} {o:AOpr} {x:Oper} {hr:HR} {size:Nat} {y z:Opd} (hc:compOpr P n dr ops x=o) (h:o.op = .store hr size y z):∃ x',opd n x'=some y:=by
 subst hc
 unfold compOpr at h
 revert h
 generalize (match x.dst with | some d=>taken ops d | none=>false)=tk
 intro h
 simp only at h
 unfold comp at h
 repeat' split at h
 all_goals first
  |(cases h;done)
  |(cases h;exact ⟨_,by assumption⟩)
theorem comp_loadT {dr:Bool} {o:AOpr} {x:Oper} {hr:HR} {y:Opd} (hc:compOpr P n dr ops x=o) (h:o.op = .loadT hr y):∃ x',opd n x'=some y:=by
 subst hc
 unfold compOpr at h
 revert h
 generalize (match x.dst with | some d=>taken ops d | none=>false)=tk
 intro h
 simp only at h
 unfold comp at h
 repeat' split at h
 all_goals first
  |(cases h;done)
  |(cases h;exact ⟨_,by assumption⟩)
theorem hw_al (R:Rel P w0 n U g S H a w) {o:Oper} {dst:Option Nat} {e:Eff} (hrd:∀ t∈(compOpr P n true ops o).op.rd,¬ U t) (h:deff P GI (compOpr P n true ops o).op dst S H e) {i:Nat} {cs:List AV} (hw:e.hw=some (i,cs)):(g.al i).isSome=true:=by
 have hhw:=(deff_dm h).2
 rw [hw] at hhw
 have box:∀ {y:Opd} {x':Operand} {off:Nat},opd n x'=some y→(∀ t∈y.tmps,¬ U t)→AL.ev S y = .box i off→(g.al i).isSome=true:=by
  intro y x' off hx hu he
  have:=R.ev hx hu
  rw [he] at this
  generalize a.eval x'=c at this
  cases this with
  |data _ _ h=>cases h
  |box _ _ b h=>simp [h]
 generalize hc:(compOpr P n true ops o).op=op at hrd h hhw
 cases op<;>try (exact hhw.elim)
 case load hr _ _ _=>cases hr<;>exact hhw.elim
 case loadT hr y =>
  obtain ⟨x',hx⟩:=comp_loadT rfl hc
  simp only [deff,apure] at h
  cases hev:AL.ev S y<;>rw [hev] at h<;>simp only at h<;>try cases h
  rename_i k off
  split at h
  case isFalse=>cases h
  split at h
  case h_2=>cases h
  split at h
  case h_2=>cases h
  cases h
  cases hw
  exact box hx hrd hev
 case store hr s y z =>
  obtain ⟨x',hx⟩:=comp_store rfl hc
  simp only [AOp.rd,List.mem_append] at hrd
  simp only [deff,apure] at h
  cases hev:AL.ev S y<;>rw [hev] at h<;>simp only at h<;>try cases h
  rename_i k off
  split at h
  case isFalse=>cases h
  split at h
  case h_2=>cases h
  split at h
  case isFalse=>cases h
  cases h
  cases hw
  exact box hx (fun t ht=>hrd t (.inl ht)) hev
theorem deff_calm {op:AOp} (h:op.calm=true) {dst:Option Nat} {e:Eff} (hd:deff P GI op dst S H e):apure S H op=some e:=by
 cases op<;>first | exact hd | cases h
set_option maxHeartbeats 1000000 in
theorem any_wp (hG:Stable GI) (hG0:GI w0) {old:Old} {Q:AExit→Slots→Boxes→Prop} (hA:allocsOK .any ops (compOps P n true ops)=true) (hok:∀ o∈ops,(compOpr P n true ops o).ok n=true) :
  ∀ (fuel:Nat) (listed:Array Bool) (g:Gh) (S:Slots) (H:Boxes) (a:Act) (w:World),listed.size=ops.size→g.old=old→Rel P w0 n (UU P n ops listed) g S H a w →
   (∀ j o d z,aAt P n ops j=some o→allocOf o=some (d,z)→listed.getD j true=false→S d = .box d 0∧H d=some z) →
   anyA P GI n .any ops (Q .normal) fuel listed S H→wpAny P .any ops (QQ P w0 n old Q) fuel listed a w:=by
 intro fuel
 induction fuel with
 |zero =>
  intro listed g S H a w _ ho R _ h
  have hU:=UU_done hA h.1
  rw [hU] at R
  exact ⟨h.1,g,S,H,ho,R,h.2⟩
 |succ fuel ih =>
  intro listed g S H a w hls ho R hinv h
  refine ⟨fun hr => ?_,fun i hi => ?_⟩
  ·have hU:=UU_done hA hr
   rw [hU] at R
   exact ⟨g,S,H,ho,R,h.1 hr⟩
  ·have hd:=h.2 i hi
   obtain ⟨o,hoi,hai⟩:=aAt_of_ready (P:=P) (n:=n) hi
   obtain ⟨hiun,o',ho',hall⟩:=mem_ready.1 hi
   rw [hoi] at ho';cases ho'
   have hilt:i < listed.size:=by rw [hls];exact (Array.getElem?_eq_some_iff.1 hoi).1
   unfold dOp at hd
   rw [hai] at hd
   obtain ⟨e,hy,hK⟩:=hd
   have hoko:=hok o (Array.mem_of_getElem? hoi)
   have hreads:∀ t∈(compOpr P n true ops o).reads,¬ UU P n ops listed t:=by
    rintro t ht ⟨j,aj,z,h1,h2,h3⟩
    have hj:∃ oj,ops[j]? = some oj:=by
     unfold aAt at h1
     cases hj:ops[j]? with
     |none=>simp [hj] at h1
     |some oj=>exact ⟨oj,rfl⟩
    obtain ⟨oj,hj⟩:=hj
    obtain ⟨k1,k2,k3⟩:=allocsOK_spec hA hj h1 h2
    by_cases hji:i=j
    ·subst hji
     rw [hai] at h1;cases h1
     unfold allocOf at h2
     split at h2
     ·rename_i hop _
      simp only [AOpr.reads,hop,k2,AOp.rd,List.append_nil] at ht
      cases ht
     ·cases h2
    ·obtain ⟨ed,he1,he2,he3⟩:=(k3 i o _ hoi hai hji).2 ht
     have:=hall ed he1 he2
     rw [he3] at this
     rcases Nat.lt_or_ge j listed.size with h' | h'
     ·simp [h'] at h3 this;rw [h3] at this;cases this
     ·simp [Array.getElem?_eq_none h'] at this
   have hwr:∀ j aj d z,aAt P n ops j=some aj→allocOf aj=some (d,z)→j≠i→d∉(compOpr P n true ops o).writes:=by
    intro j aj d z h1 h2 hne
    have hj:∃ oj,ops[j]? = some oj:=by
     unfold aAt at h1
     cases hj:ops[j]? with
     |none=>simp [hj] at h1
     |some oj=>exact ⟨oj,rfl⟩
    obtain ⟨oj,hj⟩:=hj
    exact ((allocsOK_spec hA hj h1 h2).2.2 i o _ hoi hai (Ne.symm hne)).1
   have hdn:∀ t,o.dst=some t→t < n∧t∉(compOpr P n true ops o).op.rd:=by
    intro t ht
    simp only [AOpr.ok,Bool.and_eq_true] at hoko
    have h1:=hoko.1
    rw [show (compOpr P n true ops o).dst=o.dst from rfl,ht] at h1
    simpa using h1
   have hdU:allocOf (compOpr P n true ops o)=none→∀ t,o.dst=some t→¬ UU P n ops listed t:=by
    rintro hno t ht ⟨j,aj,z,h1,h2,h3⟩
    have hne:j≠i:=by rintro rfl;rw [hai] at h1;cases h1;rw [hno] at h2;cases h2
    exact hwr j aj t z h1 h2 hne (mem_writes (.inl ht))
   have hinv':(∀ k cs,e.hw=some (k,cs)→(g.al k).isSome=true)→∀ j aj d z,aAt P n ops j=some aj→allocOf aj=some (d,z)→(listed.setIfInBounds i true).getD j true=false →
     e.S S o.dst d = .box d 0∧e.H H d=some z:=by
    intro hhw j aj d z h1 h2 h3
    have hne:j≠i:=by rintro rfl;simp [hilt] at h3
    have h3':listed.getD j true=false:=by rwa [getD_set_ne true (Ne.symm hne)] at h3
    obtain ⟨k1,k2⟩:=hinv j aj d z h1 h2 h3'
    have hw:=hwr j aj d z h1 h2 hne
    refine ⟨?_,?_⟩
    ·show e.S S (compOpr P n true ops o).dst d=_
     rw [Eff.S_other (fun hh=>hw (mem_writes (.inl hh))) (fun hh=>hw (mem_writes (.inr ((yields_dm hy).1 d hh))))]
     exact k1
    ·unfold Eff.H
     cases hh:e.hw with
     |none=>exact k2
     |some p =>
      obtain ⟨k,cs⟩:=p
      have hkd:d≠k:=by
       rintro rfl
       have:=hhw d cs hh
       rw [R.alU d ⟨j,aj,z,h1,h2,h3'⟩] at this
       cases this
      simp only [upd_ne _ _ hkd]
      exact k2
   have hsz:(listed.setIfInBounds i true).size=ops.size:=by simpa using hls
   unfold wpOp
   simp only [hoi]
   unfold yields at hy
   cases haw:awanted S (compOpr P n true ops o).guard with
   |none=>rw [haw] at hy;exact hy.elim
   |some b =>
    rw [wanted_of R (fun t b hg=>hreads t (by simp [AOpr.reads,hg])) hoko haw]
    rw [haw] at hy
    cases b with
    |false =>
     simp only at hy
     subst hy
     simp only [Bool.false_eq_true,if_false]
     have hno:allocOf (compOpr P n true ops o)=none:=by
      cases hh:allocOf (compOpr P n true ops o) with
      |none=>rfl
      |some p =>
       obtain ⟨d,z⟩:=p
       have:=(allocsOK_spec hA hoi hai hh).2.1
       rw [this] at haw
       cases haw
     have hU:=UU_other hai hno (listed:=listed)
     refine ih _ g _ _ _ _ hsz ho ?_ (hinv' fun _ _ hh=>by cases hh) hK
     rw [hU]
     exact R.putD o.dst _ _ (fun t ht=>(hdn t ht).1) (.data _ _ (undefRD _ _)) fun _ _=>trivial
    |true =>
     simp only at hy
     simp only [if_true]
     refine .inl ?_
     have hhw:∀ k cs,e.hw=some (k,cs)→(g.al k).isSome=true:=fun k cs hh=>hw_al R (fun t ht=>hreads t (by simp only [AOpr.reads,List.mem_append];exact .inl ht)) hy hh
     have hinv2:=hinv' hhw
     have next:allocOf (compOpr P n true ops o)=none→∀ (g':Gh) (a':Act) (w':World),g'.old=g.old→Rel P w0 n (UU P n ops listed) g' (e.S S o.dst) (e.H H) a' w'→wpAny P .any ops (QQ P w0 n old Q) fuel (listed.setIfInBounds i true) a' w':=by
      intro hno g' a' w' h2 R'
      refine ih _ g' _ _ _ _ hsz (h2.trans ho) ?_ hinv2 hK
      rw [UU_other hai hno]
      exact R'
     have hrd:∀ t∈(compOpr P n true ops o).op.rd,¬ UU P n ops listed t:=fun t ht=>hreads t (by simp only [AOpr.reads,List.mem_append];exact .inl ht)
     by_cases hcalm:(compOpr P n true ops o).op.calm=true
     ·have hno:allocOf (compOpr P n true ops o)=none:=by
       unfold allocOf
       split
       ·rename_i hop _;rw [hop] at hcalm;cases hcalm
       ·rfl
      refine (does_calm R rfl hcalm (fun t ht=>⟨(hdn t ht).1,hdU hno t ht⟩) hrd (fun t ht=>(hdn t ht).2) (deff_calm hcalm hy)).wp fun g' a' w' e1 e2 R'=>next hno g' a' w' e2 R'
     ·generalize hop:(compOpr P n true ops o).op=op at hcalm hy hrd
      have hcomp:comp P n (match o.dst with | some d=>taken ops d | none=>false) (hrOf ops o) o=op:=hop
      cases op<;>try (exact absurd rfl hcalm)
      case alloc t cs =>
       simp only [deff] at hy
       cases hdst:o.dst with
       |none=>rw [show (compOpr P n true ops o).dst=o.dst from rfl,hdst] at hy;exact hy.elim
       |some d =>
        rw [show (compOpr P n true ops o).dst=o.dst from rfl,hdst] at hy
        simp only at hy
        subst hy
        have hal:allocOf (compOpr P n true ops o)=some (d,cs):=by
         unfold allocOf
         rw [hop,show (compOpr P n true ops o).dst=o.dst from rfl,hdst]
        obtain ⟨k1,k2⟩:=hinv i _ d cs hai hal hiun
        obtain ⟨hopp,hz⟩:=comp_alloc hcomp
        unfold zeroCells at hz
        split at hz
        case h_2=>cases hz
        rename_i it hit
        split at hz
        case h_2=>cases hz
        rename_i z hzz
        obtain ⟨h1,h2,h3⟩:=constCells_rds g.Pr w hz
        have R2:=R.newBox d ⟨i,_,cs,hai,hal,hiun⟩ (hdn d hdst).1 cs z.cells t k1 k2 (by simpa using h1.1) (fun j h h'=>by have:=h1.2.1 j h (by simpa using h');simpa using this)
         (fun j hj hj'=>⟨h2 _ (List.getElem_mem hj),by have:=h3 P g (.cell d) j hj (by simpa using hj');rwa [Array.getElem_toList] at this⟩) h1.2.2
        have hrun:(execOp a.eval o).run P w = .ok (.value (.pointer (some ⟨w.heap.size,0,none⟩))) (w.alloc (.cells z.cells t)):=by
         unfold execOp
         simp [hopp,Instr.alloc,zeroValue,typeInfo,hit,hzz,newVar,newRow]
        unfold Oper.wp
        rw [hrun]
        show wpAny P .any ops (QQ P w0 n old Q) fuel (listed.setIfInBounds i true) _ _
        rw [hdst]
        rw [← UU_alloc hA hoi hai hal hilt] at R2
        have hS:upd S d (.box d 0)=S:=by
         funext t
         by_cases ht:t=d
         ·subst ht;rw [upd_same,k1]
         ·rw [upd_ne _ _ ht]
        have hK':anyA P GI n .any ops (Q .normal) fuel (listed.setIfInBounds i true) S H:=by
         have:({ v := .box d 0 }:Eff).S S (compOpr P n true ops o).dst=S:=by
          rw [show (compOpr P n true ops o).dst=o.dst from rfl,hdst];exact hS
         rw [this] at hK
         exact hK
        refine ih _ { g with al:=upd g.al d (some w.heap.size) } S H _ _ hsz ho R2 (fun j aj d' z' h1 h2 h3 => ?_) hK'
        have:=hinv2 j aj d' z' h1 h2 h3
        have hSS:({ v := .box d 0 }:Eff).S S o.dst=S:=by rw [hdst];exact hS
        rw [hSS] at this
        exact this
      case call f args =>
       have hno:allocOf (compOpr P n true ops o)=none:=by unfold allocOf;rw [hop]
       exact opcall_wp R hG hG0 hcomp (fun t ht=>⟨(hdn t ht).1,hdU hno t ht⟩) hrd hy.2 (fun v g' a' w' e1 e2 R' hk=>by subst hk;exact next hno g' a' w' e2 R') (fun _ _ _ _ _ _ _ hf=>hf.elim)
      case callv f args =>
       have hno:allocOf (compOpr P n true ops o)=none:=by unfold allocOf;rw [hop]
       simp only [deff] at hy
       split at hy
       case h_2=>exact hy.elim
       rename_i k first cap hfk
       exact opcallv_wp R hG hG0 hcomp (fun t ht=>⟨(hdn t ht).1,hdU hno t ht⟩) hrd hfk hy.2 (fun v g' a' w' e1 e2 R' hk=>by subst hk;exact next hno g' a' w' e2 R') (fun _ _ _ _ _ _ _ hf=>hf.elim)
      case box=>exact hy.elim
      case panic=>exact hy.elim
      case other=>exact hy.elim
def prol:List AOpr→Slots→Slots
 |[],S=>S
 |o::l,S=>match allocOf o with
  |some (d,_)=>prol l (upd (fun t=>scrub d (S t)) d (.box d 0))
  |none=>prol l S
def prolH:List AOpr→Boxes→Boxes
 |[],H=>H
 |o::l,H=>match allocOf o with
  |some (d,z)=>prolH l (upd H d (some z))
  |none=>prolH l H
def allocDs (l:List AOpr):List Nat:=l.filterMap fun o=>(allocOf o).map (·.1)
theorem Rel.prol:∀ (l:List AOpr) {U:Nat→Prop} {g:Gh} {S:Slots} {H:Boxes},Rel P w0 n U g S H a w→(allocDs l).Nodup→(∀ d∈allocDs l,¬ g.old.bx d) →
  ∃ g',g'.base=g.base∧g'.old=g.old∧Rel P w0 n (fun t=>U t∨t∈allocDs l) g' (Go.AL.prol l S) (prolH l H) a w
 |[],U,g,S,H,R,_,_=>⟨g,rfl,rfl,by simpa [allocDs,Go.AL.prol,prolH] using R⟩
 |o::l,U,g,S,H,R,hn,hbx=>by
  cases ha:allocOf o with
  |none =>
   have e:allocDs (o::l)=allocDs l:=by simp [allocDs,ha]
   rw [e] at hn hbx ⊢
   simp only [Go.AL.prol,prolH,ha]
   exact Rel.prol l R hn hbx
  |some p =>
   obtain ⟨d,z⟩:=p
   have e:allocDs (o::l)=d::allocDs l:=by simp [allocDs,ha]
   rw [e] at hn hbx ⊢
   simp only [Go.AL.prol,prolH,ha]
   obtain ⟨g',e1,e2,R'⟩:=Rel.prol l (R.suspend d (hbx d List.mem_cons_self) (.box d 0) z) (List.nodup_cons.1 hn).2 (fun k hk=>hbx k (List.mem_cons_of_mem _ hk))
   refine ⟨g',e1,e2,?_⟩
   have:(fun t=>U t∨t∈d::allocDs l)=(fun t=>(U t∨t=d)∨t∈allocDs l):=by
    funext t;simp [or_assoc]
   rw [this];exact R'
theorem prol_other:∀ (l:List AOpr) (S:Slots) (d:Nat),d∉allocDs l→S d = .box d 0→Go.AL.prol l S d = .box d 0
 |[],S,d,_,h=>h
 |o::l,S,d,hn,h=>by
  cases ha:allocOf o with
  |none=>simp only [Go.AL.prol,ha];exact prol_other l S d (by simpa [allocDs,ha] using hn) h
  |some p =>
   obtain ⟨k,z⟩:=p
   simp only [Go.AL.prol,ha]
   have hn':d≠k∧d∉allocDs l:=by simpa [allocDs,ha] using hn
   refine prol_other l _ d hn'.2 ?_
   rw [upd_ne _ _ hn'.1,h]
   simp [scrub,hn'.1]
theorem prolH_other:∀ (l:List AOpr) (H:Boxes) (d:Nat) (z:List AV),d∉allocDs l→H d=some z→prolH l H d=some z
 |[],H,d,z,_,h=>h
 |o::l,H,d,z,hn,h=>by
  cases ha:allocOf o with
  |none=>simp only [prolH,ha];exact prolH_other l H d z (by simpa [allocDs,ha] using hn) h
  |some p =>
   obtain ⟨k,z'⟩:=p
   simp only [prolH,ha]
   have hn':d≠k∧d∉allocDs l:=by simpa [allocDs,ha] using hn
   exact prolH_other l _ d z hn'.2 (by rw [upd_ne _ _ hn'.1,h])
theorem prol_at:∀ (l:List AOpr) (S:Slots) (H:Boxes),(allocDs l).Nodup→∀ o∈l,∀ d z,allocOf o=some (d,z)→Go.AL.prol l S d = .box d 0∧prolH l H d=some z
 |[],S,H,_,o,ho,_,_,_=>by cases ho
 |o'::l,S,H,hn,o,ho,d,z,hd=>by
  rcases List.mem_cons.1 ho with rfl | ho
  ·have e:allocDs (o::l)=d::allocDs l:=by simp [allocDs,hd]
   rw [e] at hn
   simp only [Go.AL.prol,prolH,hd]
   exact ⟨prol_other l _ d (List.nodup_cons.1 hn).1 (upd_same _ _ _),prolH_other l _ d z (List.nodup_cons.1 hn).1 (upd_same _ _ _)⟩
  ·cases ha:allocOf o' with
   |none =>
    have e:allocDs (o'::l)=allocDs l:=by simp [allocDs,ha]
    rw [e] at hn
    simp only [Go.AL.prol,prolH,ha]
    exact prol_at l S H hn o ho d z hd
   |some p =>
    obtain ⟨k,z'⟩:=p
    have e:allocDs (o'::l)=k::allocDs l:=by simp [allocDs,ha]
    rw [e] at hn
    simp only [Go.AL.prol,prolH,ha]
    exact prol_at l _ _ (List.nodup_cons.1 hn).2 o ho d z hd
def dOK (P:Program) (n:Nat) (ops:Array Oper):Bool :=
 (compOps P n true ops).all (·.ok n) && allocsOK .any ops (compOps P n true ops) && decide ((allocDs (compOps P n true ops)).Nodup) && alex .any ops (compOps P n true ops) ops.size 0 (Array.replicate ops.size false)
theorem dregion_wp (hG:Stable GI) (hG0:GI w0) (hm:P.follows .mixedOrders=true) {old:Old} {id:Nat} {Q:AExit→Slots→Boxes→Prop} (hok:dOK P n ops=true) (hbx:∀ o∈compOps P n true ops,∀ d∈o.lays,¬ old.bx d) (ho:g.old=old) (R:Rel P w0 n NoU g S H a w)
  (h:dops P GI (compOps P n true ops) (Q .normal) (prol (compOps P n true ops) S) (prolH (compOps P n true ops) H)):(Code.region id ops true).wp P (QQ P w0 n old Q) a w:=by
 simp only [dOK,Bool.and_eq_true,decide_eq_true_eq] at hok
 obtain ⟨⟨⟨h1,h2⟩,h3⟩,h4⟩:=hok
 refine wp_region_any hm ?_
 have R0:Rel P w0 n NoU g S H a { w with drawn:=w.drawn+1 }:=R.grow' ((Below.refl _ w).drew)
 obtain ⟨g',e1,e2,R'⟩:=Rel.prol (compOps P n true ops) R0 h3 (fun d hd=>by
  simp only [allocDs,List.mem_filterMap,Option.map_eq_some_iff] at hd
  obtain ⟨o,hoo,⟨d',z⟩,k1,rfl⟩:=hd
  rw [ho]
  refine hbx o hoo d' ?_
  unfold allocOf at k1
  split at k1
  ·rename_i h1 h2
   cases k1
   simp [AOpr.lays,h1,h2,AOp.lays]
  ·cases k1)
 have hU:UU P n ops (Array.replicate ops.size false)=(fun t=>NoU t∨t∈allocDs (compOps P n true ops)):=by
  funext t
  simp only [UU,NoU,false_or,eq_iff_iff,allocDs,List.mem_filterMap,Option.map_eq_some_iff]
  constructor
  ·rintro ⟨j,o,z,k1,k2,k3⟩
   rw [← compOps_get] at k1
   exact ⟨o,List.mem_of_getElem? k1,(t,z),k2,rfl⟩
  ·rintro ⟨o,ho,⟨d,z⟩,k1,rfl⟩
   obtain ⟨j,hj⟩:=List.getElem?_of_mem ho
   refine ⟨j,o,z,by rw [← compOps_get];exact hj,k1,?_⟩
   have:j < ops.size:=by
    have:=(List.getElem?_eq_some_iff.1 hj).1
    simpa [compOps] using this
   simp [this]
 refine any_wp hG hG0 h2 (fun o hoo => ?_) ops.size (Array.replicate ops.size false) g' _ _ a _ (by simp) (e2.trans ho) (by rw [hU];exact R') (fun j o d z k1 k2 k3 => ?_) ?_
 ·simp only [compOps,List.all_map,List.all_eq_true,Function.comp] at h1
  exact h1 o (by simpa using hoo)
 ·rw [← compOps_get] at k1
  exact prol_at _ S H h3 o (List.mem_of_getElem? k1) d z k2
 ·have:=anyA_lex (QA:=Q .normal) ops.toList 0 (Array.replicate ops.size false) _ _ (by simp) (by simpa using h4) h
  simpa using this
end
end Go.AL
namespace Go.AL
open Go.RowKit
inductive ACode where
 |skip
 |ops (l:List AOpr)
 |dops (l:List AOpr)
 |seq (x y:ACode)
 |cond (c:Opd) (x y:ACode)
 |block (id:Nat) (c:ACode)
 |loop (c:ACode)
 |exit (id:Nat)
 |ret
 |bad
def compC (P:Program) (n:Nat):Code→ACode
 |.skip => .skip
 |.region _ ops draw =>
  if draw then (if dOK P n ops then .dops (compOps P n true ops) else .bad)
  else (if (compOps P n false ops).all (·.ok n) then .ops (compOps P n false ops) else .bad)
 |.seq x y => .seq (compC P n x) (compC P n y)
 |.cond c x y=>match opd n c with
  |some c => .cond c (compC P n x) (compC P n y)
  |none => .bad
 |.block id c => .block id (compC P n c)
 |.loop c => .loop (compC P n c)
 |.exit id => .exit id
 |.ret => .ret
 |_ => .bad
def thenQ (K:Slots→Boxes→Prop) (Q:AExit→Slots→Boxes→Prop):AExit→Slots→Boxes→Prop
 |.normal,S,H=>K S H
 |.exit id,S,H=>Q (.exit id) S H
 |.ret,S,H=>Q .ret S H
 |.panic v,S,H=>Q (.panic v) S H
def blockQ (id:Nat) (Q:AExit→Slots→Boxes→Prop):AExit→Slots→Boxes→Prop
 |.normal,S,H=>Q .normal S H
 |.exit j,S,H=>if j=id then Q .normal S H else Q (.exit j) S H
 |.ret,S,H=>Q .ret S H
 |.panic v,S,H=>Q (.panic v) S H
def ACode.names:ACode→List Nat
 |.ops l=>l.flatMap AOpr.lays
 |.dops l=>l.flatMap AOpr.lays
 |.seq x y=>x.names++y.names
 |.cond _ x y=>x.names++y.names
 |.block _ c=>c.names
 |.loop c=>c.names
 |_=>[]
def awp (P:Program) (GI:World→Prop):ACode→(AExit→Slots→Boxes→Prop)→Slots→Boxes→Prop
 |.skip,Q,S,H=>Q .normal S H
 |.ops l,Q,S,H=>aops P GI l (Q .normal) (fun v=>Q (.panic v) S H) S H
 |.dops l,Q,S,H=>dops P GI l (Q .normal) (prol l S) (prolH l H)
 |.seq x y,Q,S,H=>awp P GI x (thenQ (awp P GI y Q) Q) S H
 |.cond c x y,Q,S,H=>match ev S c with
  |.bool true=>awp P GI x Q S H
  |.bool false=>awp P GI y Q S H
  |.anyb=>awp P GI x Q S H∧awp P GI y Q S H
  |_=>False
 |.block id c,Q,S,H=>awp P GI c (blockQ id Q) S H
 |.loop c,Q,S,H=>∃ (I:Slots→Boxes→Prop) (μ:Slots→Boxes→Nat),I S H∧∀ S H,I S H→awp P GI c (thenQ (fun S' H'=>I S' H'∧μ S' H' < μ S H) Q) S H
 |.exit id,Q,S,H=>Q (.exit id) S H
 |.ret,Q,S,H=>Q .ret S H
 |.bad,_,_,_=>False
section
variable {P:Program} {GI:World→Prop} {w0:World} {n:Nat} {g:Gh} {S:Slots} {H:Boxes} {a:Act} {w:World}
theorem wp_loop_nat {c:Code} {Q:Exit→Act→World→Prop} (J:Nat→Act→World→Prop)
  (round:∀ m a w,J m a w→c.wp P (Exit.then (fun a' w'=>∃ m',m' < m∧J m' a' w') Q) a w) {m:Nat} (h0:J m a w):(Code.loop c).wp P Q a w:=by
 intro b k cs
 have key:∀ m a w,J m a w→∃ e a' w',Q e a' w'∧Arrives P (lone (b.at a (.code c :: .inLoop c::k)) cs w) b k cs e a' w':=by
  intro m
  induction m using Nat.strongRecOn with
  |_ m ih =>
   intro a w hJ
   obtain ⟨e,a₁,w₁,hq,harr⟩:=round m a w hJ b (.inLoop c::k) cs
   cases e with
   |normal =>
    obtain ⟨m',hlt,hJ'⟩:=hq
    obtain ⟨e₂,a₂,w₂,hq₂,harr₂⟩:=ih m' hlt a₁ w₁ hJ'
    exact ⟨e₂,a₂,w₂,hq₂,.of_steps (Steps.trans harr (.one step_inLoop)) harr₂⟩
   |exit id=>exact ⟨_,a₁,w₁,hq,.pass (x := .inLoop c) rfl (fun _ _ => .inl (by simp)) harr⟩
   |goto l=>exact ⟨_,a₁,w₁,hq,.pass (x := .inLoop c) rfl (fun _ _ => .inl (by simp)) harr⟩
   |ret=>exact ⟨_,a₁,w₁,hq,.pass (x := .inLoop c) rfl (fun _ _ => .inl (by simp)) harr⟩
   |panic ch=>exact ⟨_,a₁,w₁,hq,.pass (x := .inLoop c) rfl (fun _ _ => .inl (by simp)) harr⟩
   |outgrown=>exact ⟨_,a₁,w₁,hq,.pass (x := .inLoop c) rfl (fun _ _ => .inl (by simp)) harr⟩
 obtain ⟨e,a',w',hq,harr⟩:=key _ _ _ h0
 exact ⟨e,a',w',hq,.of_steps (.one step_loop) harr⟩
theorem awp_wp (hG:Stable GI) (hG0:GI w0) (hm:P.follows .mixedOrders=true) {old:Old} :
  ∀ (c:Code) (Q:AExit→Slots→Boxes→Prop) (g:Gh) (S:Slots) (H:Boxes) (a:Act) (w:World),(∀ d∈(compC P n c).names,¬ old.bx d)→g.old=old→Rel P w0 n NoU g S H a w→awp P GI (compC P n c) Q S H→c.wp P (QQ P w0 n old Q) a w
 |.skip,Q,g,S,H,a,w,hbx,ho,R,h=>wp_skip ⟨g,S,H,ho,R,h⟩
 |.region id ops draw,Q,g,S,H,a,w,hbx,ho,R,h=>by
  simp only [compC] at h hbx
  cases draw with
  |true =>
   simp only [if_true] at h hbx
   split at h
   case isFalse=>exact h.elim
   rename_i hok
   rw [if_pos hok] at hbx
   exact dregion_wp hG hG0 hm hok (fun o hoo d hd=>hbx d (List.mem_flatMap.2 ⟨o,hoo,hd⟩)) ho R h
  |false =>
   simp only [Bool.false_eq_true,if_false] at h hbx
   split at h
   case isFalse=>exact h.elim
   rename_i hok
   rw [if_pos hok] at hbx
   exact region_wp hG hG0 hok (fun o hoo d hd=>hbx d (List.mem_flatMap.2 ⟨o,hoo,hd⟩)) ho R h
 |.seq x y,Q,g,S,H,a,w,hbx,ho,R,h=>by
  refine wp_seq (wp_mono (awp_wp hG hG0 hm x _ g S H a w (fun d hd=>hbx d (by simp [compC,ACode.names,hd])) ho R h) ?_)
  intro e a' w' he
  cases e with
  |normal =>
   obtain ⟨g',S',H',h1,h2,h3⟩:=he
   exact awp_wp hG hG0 hm y Q g' S' H' a' w' (fun d hd=>hbx d (by simp [compC,ACode.names,hd])) h1 h2 h3
  |exit id=>exact he
  |ret=>exact he
  |panic ch=>exact he
  |goto l=>exact he.elim
  |outgrown=>exact he.elim
 |.cond c x y,Q,g,S,H,a,w,hbx,ho,R,h=>by
  simp only [compC] at h
  split at h
  case h_2=>exact h.elim
  rename_i c' hc
  simp only [compC,hc,ACode.names,List.mem_append] at hbx
  simp only [awp] at h
  have hv:=R.ev hc (fun _ _=>id)
  split at h
  ·rename_i hb
   rw [hb] at hv
   have:a.eval c = .bool true:=by
    generalize a.eval c=v at hv
    cases hv;rename_i hv;cases hv;rfl
   exact wp_cond this (awp_wp hG hG0 hm x Q g S H a w (fun d hd=>hbx d (.inl hd)) ho R h)
  ·rename_i hb
   rw [hb] at hv
   have:a.eval c = .bool false:=by
    generalize a.eval c=v at hv
    cases hv;rename_i hv;cases hv;rfl
   exact wp_cond this (awp_wp hG hG0 hm y Q g S H a w (fun d hd=>hbx d (.inr hd)) ho R h)
  ·rename_i hb
   rw [hb] at hv
   have:∃ b,a.eval c = .bool b:=by
    generalize a.eval c=v at hv
    cases hv;rename_i hv;cases hv;exact ⟨_,rfl⟩
   obtain ⟨b,hb⟩:=this
   cases b with
   |true=>exact wp_cond hb (awp_wp hG hG0 hm x Q g S H a w (fun d hd=>hbx d (.inl hd)) ho R h.1)
   |false=>exact wp_cond hb (awp_wp hG hG0 hm y Q g S H a w (fun d hd=>hbx d (.inr hd)) ho R h.2)
  ·exact h.elim
 |.block id c,Q,g,S,H,a,w,hbx,ho,R,h=>by
  refine wp_block (wp_mono (awp_wp hG hG0 hm c _ g S H a w (fun d hd=>hbx d (by simpa [compC,ACode.names] using hd)) ho R h) ?_)
  intro e a' w' he
  cases e with
  |normal=>exact he
  |exit j =>
   obtain ⟨g',S',H',h1,h2,h3⟩:=he
   simp only [blockQ] at h3
   simp only [Exit.inBlock]
   split
   ·rename_i hj;rw [if_pos hj] at h3;exact ⟨g',S',H',h1,h2,h3⟩
   ·rename_i hj;rw [if_neg hj] at h3;exact ⟨g',S',H',h1,h2,h3⟩
  |ret=>exact he
  |panic ch=>exact he
  |goto l=>exact he.elim
  |outgrown=>exact he.elim
 |.loop c,Q,g,S,H,a,w,hbx,ho,R,h=>by
  obtain ⟨I,μ,h0,hr⟩:=h
  refine wp_loop_nat (fun m a w=>∃ g S H,g.old=old∧Rel P w0 n NoU g S H a w∧I S H∧μ S H=m) ?_ (m:=μ S H) ⟨g,S,H,ho,R,h0,rfl⟩
  rintro m a' w' ⟨g',S',H',h1,h2,h3,rfl⟩
  refine wp_mono (awp_wp hG hG0 hm c _ g' S' H' a' w' (fun d hd=>hbx d (by simpa [compC,ACode.names] using hd)) h1 h2 (hr S' H' h3)) ?_
  intro e a'' w'' he
  cases e with
  |normal =>
   obtain ⟨g2,S2,H2,k1,k2,k3,k4⟩:=he
   exact ⟨_,k4,g2,S2,H2,k1,k2,k3,rfl⟩
  |exit id=>exact he
  |ret=>exact he
  |panic ch=>exact he
  |goto l=>exact he.elim
  |outgrown=>exact he.elim
 |.exit id,Q,g,S,H,a,w,hbx,ho,R,h=>wp_exit ⟨g,S,H,ho,R,h⟩
 |.ret,Q,g,S,H,a,w,hbx,ho,R,h=>wp_ret ⟨g,S,H,ho,R,h⟩
 |.rangeFunc ..,_,_,_,_,_,_,_,_,_,h=>h.elim
 |.scope _,_,_,_,_,_,_,_,_,_,h=>h.elim
 |.label _,_,_,_,_,_,_,_,_,_,h=>h.elim
 |.goto _,_,_,_,_,_,_,_,_,_,h=>h.elim
 |.refuse _,_,_,_,_,_,_,_,_,_,h=>h.elim
def AV.out:AV→AV
 |.agg cs => .agg (cs.map vw1)
 |v=>v
def ares1 (P:Program) (n:Nat) (S:Slots) (H:Boxes):ResultVar→Option AV
 |.tmp t=>if t < n∧(S t).isData=true then some (S t) else none
 |.cell a t=>if a < n then
   match S a with
   |.box i off=>match H i,P.info? t,P.underlying t with
    |some cs,some it,some d=>loadA (aggT d) it.size (cs.drop off)
    |_,_,_=>none
   |_=>none
  else none
def aress (P:Program) (n:Nat) (S:Slots) (H:Boxes):List ResultVar→Option (List AV)
 |[]=>some []
 |r::rs=>match ares1 P n S H r,aress P n S H rs with
  |some v,some vs=>some (v::vs)
  |_,_=>none
def ares (P:Program) (n:Nat) (rs:List ResultVar) (S:Slots) (H:Boxes):Option AV :=
 match aress P n S H rs with
 |some [v]=>some v.out
 |some vs=>some (.tup (vs.map AV.vw))
 |none=>none
def resF (a:Act):ResultVar→Sem Value
 |.tmp t=>pure (a.tmps.getD t undef)
 |.cell x t=>do loadVar t (← asAddr (a.tmps.getD x undef))
theorem ares1_sound (R:Rel P w0 n NoU g S H a w) {r:ResultVar} {v:AV} (h:ares1 P n S H r=some v) :
  ∃ c,(resF a r).run P w = .ok c w∧RD g.Pr w v c∧OwnRes P g.base g.hi w v c:=by
 cases r with
 |tmp t =>
  simp only [ares1] at h
  split at h<;>cases h
  rename_i hc
  refine ⟨a.tmps.getD t undef,rfl,(R.slot t hc.1 id).toData hc.2,?_⟩
  have ho:=R.own t hc.1 id
  generalize S t=v at ho
  generalize a.tmps.getD t undef=c at ho
  cases v<;>try trivial
  rename_i oo es
  cases oo with
  |view=>trivial
  |nil=>trivial
  |own e =>
   obtain ⟨i,xs,b,h1,h2,h3,h4,h5⟩:=ho
   exact ⟨i,xs,b,h1,h2,h3,h5⟩
 |cell x t =>
  simp only [ares1] at h
  split at h
  case isFalse=>cases h
  rename_i hx
  have hs:=R.slot x hx id
  generalize S x=q at h hs
  generalize hcx:a.tmps.getD x undef=cx at hs
  cases hs<;>(try cases h;done)
  case data hh=>cases hh<;>cases h
  rename_i i off b hal
  obtain ⟨cs,vs,ty',k1,k2,k3,k4,k5,k6,k7,k8,k9⟩:=R.box i b hal
  simp only [k1] at h
  split at h
  case h_2=>cases h
  rename_i cs' it d hcs hit hd
  cases hcs
  obtain ⟨c,h1,h2,h3⟩:=loadA_sound (Pr:=g.Pr) (al:=g.al) (P:=P) (w:=w) (b:=b) (off:=off) hit hd (vs:=fun k=>vs.getD (off+k) undef) (fun k hk=>by
    simp only [List.length_drop] at hk
    have:off+k < vs.size:=by omega
    simp [World.cell?,k3,this]) (fun k hk=>by
    simp only [List.length_drop] at hk
    simp only [List.getElem_drop]
    exact k9 (off+k) (by omega)) (fun k hk=>by
    simp only [List.length_drop] at hk
    simp only [List.getElem_drop]
    have hh:=k7 (off+k) (by omega) (by omega)
    have:off+k < vs.size:=by omega
    simpa [this] using hh) h
  refine ⟨c,by simp only [resF,hcx,asAddr,Sem.run_bind,Sem.run_pure,Result.andThen_ok,h1],h2,?_⟩
  rw [← h3]
  cases v<;>try trivial
  rename_i oo es
  cases oo<;>trivial
theorem aress_sound (R:Rel P w0 n NoU g S H a w):∀ {rs:List ResultVar} {vs:List AV},aress P n S H rs=some vs →
  ∃ cs:List Value,(rs.mapM (resF a)).run P w=Result.ok cs w∧vs.length=cs.length ∧
   ∀ i (h:i < vs.length) (h':i < cs.length),RD g.Pr w vs[i] cs[i]∧OwnRes P g.base g.hi w vs[i] cs[i]
 |[],vs,h=>by cases h;exact ⟨[],by simp,rfl,fun i h=>by simp at h⟩
 |r::rs,vs,h=>by
  simp only [aress] at h
  split at h<;>cases h
  rename_i v vs' h1 h2
  obtain ⟨c,r1,r2,r3⟩:=ares1_sound R h1
  obtain ⟨cs,q1,q2,q3⟩:=aress_sound R h2
  refine ⟨c::cs,?_,by simp [q2],fun i hi hi' => ?_⟩
  ·simp [List.mapM_cons,r1,q1]
  ·cases i with
   |zero=>exact ⟨r2,r3⟩
   |succ i=>exact q3 i (by simpa using hi) (by simpa using hi')
theorem ares_sound (R:Rel P w0 n NoU g S H a w) {fn:Func} {v:AV} (h:ares P n fn.results.toList S H=some v) :
  ∃ c,(results fn a.tmps).run P w = .ok c w∧RD g.Pr w v c∧OwnRes P g.base g.hi w v c:=by
 unfold ares at h
 have hrun:∀ cs:List Value,(fn.results.toList.mapM (resF a)).run P w=Result.ok cs w →
   (results fn a.tmps).run P w = .ok (if h:cs.toArray.size=1 then cs.toArray[0] else .tuple cs.toArray) w:=by
  intro cs hcs
  unfold results
  rw [Array.mapM_eq_mapM_toList]
  have e:(fn.results.toList.mapM fun r=>match r with | .tmp t=>(pure (a.tmps.getD t undef):Sem Value) | .cell x t=>do loadVar t (← asAddr (a.tmps.getD x undef)))=fn.results.toList.mapM (resF a):=by
   congr 1
  simp only [Sem.run_bind,Sem.run_map]
  erw [e]
  rw [hcs]
  rfl
 split at h
 ·rename_i v' hv
  cases h
  obtain ⟨cs,q1,q2,q3⟩:=aress_sound R hv
  match cs,q2 with
  |[c],_ =>
   have h1:=(q3 0 (by simp) (by simp)).1
   have h2:=(q3 0 (by simp) (by simp)).2
   simp only [List.getElem_cons_zero] at h1 h2
   refine ⟨c,by rw [hrun _ q1];rfl,?_,?_⟩
   ·cases v'<;>first | exact h1 | exact h1.vw
   ·cases v'<;>first | exact h2 | trivial
 ·rename_i vs hne hvs
  cases h
  obtain ⟨cs,q1,q2,q3⟩:=aress_sound R hvs
  refine ⟨.tuple cs.toArray,?_,.tup _ _ (by simp [q2]) (fun i h h' => ?_),trivial⟩
  ·rw [hrun _ q1,dif_neg]
   intro hl
   have:vs.length=1:=by rw [q2];simpa using hl
   match vs,this with
   |[v],_=>exact hne v rfl
  ·simp only [List.length_map] at h
   simp only [List.getElem_map,List.getElem_toArray]
   exact (q3 i h (by simpa using h')).1.vw
 ·cases h
def post (P:Program) (n:Nat) (rs:List ResultVar) (out:AOut):AExit→Slots→Boxes→Prop
 |.normal,S,H | .ret,S,H=>∃ v,ares P n rs S H=some v∧out = .ret v
 |.panic v,_,_=>out = .panic v
 |_,_,_=>False
def start (args:List AV):Slots:=fun t=>(args.getD t undefA).dem
theorem AC.of_body (hG:Stable GI) (hm:P.follows .mixedOrders=true) {f:Nat} {fn:Func} {c:Code} {args:List AV} {out:AOut} (hf:P.funcs[f]? = some fn) (hb:fn.body=some c) (hn:fn.ntmps=n) (hl:args.length≤n) {ac:ACode} (hc:compC P n c=ac)
  (h:awp P GI ac (post P n fn.results.toList out) (start args) (fun _=>none)):AC P GI f args out:=by
 intro w old cargs hGw hlen hr
 refine calls_of_wp hf hb ?_
 subst hc
 let g:Gh:={ base:=w.heap.size,old:=Old.plain old w,al:=fun _=>none,hi:=fun _=>0,owner:=fun _=>none }
 have hsz:(cargs++Array.replicate (fn.ntmps - cargs.size) undef).size=n:=by simp;omega
 have R:Rel P w n NoU g (start args) (fun _=>none) { tmps:=cargs++Array.replicate (fn.ntmps - cargs.size) undef,defers:=[] } w:=by
  refine { size:=hsz,defers:=rfl,facts:=fun _ h=>(by cases h),slot := ?_,own := ?_,box := ?_,alH := ?_,alU := ?_,inj := ?_,base:=rfl,below:=Below.refl _ _,fresh:=fun b _=>⟨rfl,rfl⟩,still:=⟨fun _ _ h=>h.elim,fun _ h=>h.elim⟩,grown:=Nat.le_refl _,kept:=fun _ _ h=>(by cases h) }
  ·intro t ht _
   by_cases hta:t < args.length
   ·have h1:start args t=args[t].dem:=by simp [start,hta]
    have h2:(cargs++Array.replicate (fn.ntmps - cargs.size) undef).getD t undef=cargs[t]'(by omega):=by
     have:t < cargs.size:=by omega
     simp [Array.getElem?_append,this]
    rw [h1,h2]
    refine ((hr t hta (by omega)).mono (Keeps.same fun b k hlt hp => .inl ⟨hlt,hp⟩) (fun _ _ h=>h)).dem
   ·have h1:start args t=undefA:=by simp [start,hta,undefA,AV.dem]
    have h2:(cargs++Array.replicate (fn.ntmps - cargs.size) undef).getD t undef=undef:=by
     have:¬ t < cargs.size:=by omega
     simp only [Array.getD_eq_getD_getElem?,Array.getElem?_append,this,if_false]
     by_cases hh:t - cargs.size < fn.ntmps - cargs.size
     ·simp [hh]
     ·simp [hh]
    rw [h1,h2]
    exact .data _ _ (undefRD _ _)
  ·intro t ht _
   exact ownAt_dem _ _ _
  ·intro i b h;cases h
  ·intro i cs h;cases h
  ·intro i h;rfl
  ·intro i j b h;cases h
 refine wp_mono (awp_wp hG hGw hm c _ g _ _ _ w (fun _ _ h=>h) rfl R h) ?_
 intro e a' w' he
 have fin:(∃ g' S H,g'.old=Old.plain old w∧Rel P w n NoU g' S H a' w'∧∃ v,ares P n fn.results.toList S H=some v∧out = .ret v) →
   a'.defers=[]∧∃ v,(results fn a'.tmps).run P w' = .ok v w'∧Ends P old w out (.returned v) w':=by
  rintro ⟨g',S,H,e1,R',v,hv,rfl⟩
  obtain ⟨c,r1,r2,r3⟩:=ares_sound R' hv
  refine ⟨by rw [R'.defers,e1];rfl,c,r1,?_,g'.hi,fun b hb=>(R'.fresh b hb).1,c,rfl,?_,?_⟩
  ·have:=R'.below;rwa [R'.base] at this
  ·have:g'.Pr=prOf w.heap.size old g'.hi:=by
    funext b k
    simp only [Gh.Pr,prOf,R'.base,e1,Old.plain]
   rw [this] at r2;exact .data _ _ r2
  ·rwa [R'.base] at r3
 cases e with
 |normal=>exact fin he
 |ret=>exact fin he
 |exit id=>obtain ⟨_,_,_,_,_,h⟩:=he;exact h.elim
 |panic chain =>
  obtain ⟨hd,v,c,hi,S,H,h1,h2,h3,h4,h5⟩:=he
  subst h1
  cases (show out = .panic v from h5)
  exact ⟨hd,h2,hi,h3,c,rfl,h4⟩
 |goto l=>exact he.elim
 |outgrown=>exact he.elim
end
end Go.AL
namespace Go.AL
open Go.RowKit
abbrev SL:=List AV
abbrev HL:=List (Option (List AV))
def gS (s:SL):Slots:=fun t=>s.getD t undefA
def gH (h:HL):Boxes:=fun t=>h.getD t none
inductive Res where
 |go (s:SL) (h:HL) | panic (v:AV)
def Res.on (K:Slots→Boxes→Prop) (Qp:AV→Prop):Res→Prop
 |.go s h=>K (gS s) (gH h)
 |.panic v=>Qp v
abbrev CallF:=Nat→List AV→Option AOut
section
variable {P:Program} {GI:World→Prop} {call:CallF} (hcall:∀ f args out,call f args=some out→AC P GI f args out)
include hcall
end
end Go.AL
namespace Go.AL
open Go.RowKit
def FR (ro:Option Nat):Fence:={ Fence.wide with round:=ro }
theorem callsIn_FR {ro:Option Nat} {m:Nat} {P:Program} {f:FuncId} {args:Array Value} {w:World} {R:Ending→World→Prop}:CallsIn (FR ro) m P f args w R↔Calls P f args w R :=
 callsIn_wide (n:=m)
theorem rowsIn_FR {ro:Option Nat} {m:Nat} {P:Program} {row:String} {args:Array Value} {w:World} {R:Value→World→Prop} (h:Rows P row args w R):RowsIn (FR ro) m P row args w R :=
 fun c cs _=>let ⟨v,w',r,s⟩:=h c cs;⟨v,w',r,stepsIn_wide.2 s⟩
theorem wpIn_FR_none {m:Nat} {P:Program} {c:Code} {Q:Exit→Act→World→Prop} {a:Act} {w:World}:c.wpIn (FR none) m P Q a w↔c.wp P Q a w:=wpIn_wide (n:=m)
def calmOp:Op→Bool
 |.defer _=>false
 |_=>true
section
variable {P:Program} {Q:Exit→Act→World→Prop} {ro:Option Nat} {m:Nat}
theorem oper_wpIn {o:Oper} {a:Act} {w:World} {K:Act→World→Prop} (hnd:calmOp o.op=true) (h:o.wp P a w K Q):o.wpIn (FR ro) m P a w K Q:=by
 refine ⟨fun _ _=>trivial,?_⟩
 unfold Oper.wp at h
 rw [Oper.semAt_eq _ _ _ (fun c hc=>by rw [hc] at hnd;cases hnd)]
 generalize (execOp a.eval o).run P w=r at *
 have hd:(FR ro).depth.isSome=true→1≤m:=fun h=>by simp [FR,Fence.wide] at h
 cases r with
 |ok x w' =>
  cases x<;>simp only [Oper.upon,Oper.uponIn] at h ⊢<;>first
   |exact h
   |exact ⟨hd,callsIn_FR.2 h⟩
   |exact ⟨hd,rowsIn_FR h⟩
 |halt x w'=>cases x<;>simp only [Oper.upon,Oper.uponIn] at h ⊢<;>exact h
theorem wpOps_in {ops:Array Oper} (hnd:ops.all (fun o=>calmOp o.op)=true) (hQ:¬ LetsOut Q):∀ (l:List Nat) (a:Act) (w:World),wpOps P ops Q l a w→wpOpsIn (FR ro) m P ops Q l a w
 |[],_,_,h=>h
 |i::l,a,w,h=>by
  simp only [wpOps,wpOpsIn] at h ⊢
  cases ho:ops[i]? with
  |none=>simp only [ho] at h ⊢;exact wpOps_in hnd hQ l a w h
  |some o =>
   simp only [ho] at h ⊢
   have hc:calmOp o.op=true:=by
    have:=Array.all_eq_true'.1 hnd o (Array.mem_of_getElem? ho)
    exact this
   split
   ·rename_i hw
    simp only [hw,if_true] at h
    rcases h with h | ⟨_,h⟩
    ·exact oper_wpIn hc (Oper.wp_mono (fun a w hh=>wpOps_in hnd hQ l a w hh) h)
    ·exact absurd h hQ
   ·rename_i hw
    simp only [hw,Bool.false_eq_true,if_false] at h
    exact ⟨fun _ _=>trivial,wpOps_in hnd hQ l _ w h⟩
theorem wpOp_in {ops:Array Oper} (hnd:ops.all (fun o=>calmOp o.op)=true) (hQ:¬ LetsOut Q) {i:Nat} {K:Act→World→Prop} {a:Act} {w:World} (h:wpOp P ops Q i K a w):wpOpIn (FR ro) m P ops Q i K a w:=by
 unfold wpOp at h
 unfold wpOpIn
 cases ho:ops[i]? with
 |none=>simp only [ho] at h ⊢;exact h
 |some o =>
  simp only [ho] at h ⊢
  have hc:calmOp o.op=true:=by
   have:=Array.all_eq_true'.1 hnd o (Array.mem_of_getElem? ho)
   exact this
  split
  ·rename_i hw
   simp only [hw,if_true] at h
   rcases h with h | ⟨_,h⟩
   ·exact oper_wpIn hc h
   ·exact absurd h hQ
  ·rename_i hw
   simp only [hw,Bool.false_eq_true,if_false] at h
   exact ⟨fun _ _=>trivial,h⟩
theorem wpAny_in {ops:Array Oper} {md:Region.Mode} (hnd:ops.all (fun o=>calmOp o.op)=true) (hQ:¬ LetsOut Q):∀ (fuel:Nat) (listed:Array Bool) (a:Act) (w:World),wpAny P md ops Q fuel listed a w→wpAnyIn (FR ro) m P md ops Q fuel listed a w
 |0,_,_,_,h=>h
 |fuel+1,listed,a,w,h=>⟨h.1,fun i hi=>wpOpIn_mono (fun a w hh=>wpAny_in hnd hQ fuel _ a w hh) (wpOp_in hnd hQ (h.2 i hi))⟩
def calmC:Code→Bool
 |.region _ ops _=>ops.all fun o=>calmOp o.op
 |.seq x y | .cond _ x y=>calmC x && calmC y
 |.block _ c | .loop c=>calmC c
 |_=>true
end
section
variable {P:Program} {GI:World→Prop} {w0:World} {n:Nat} {g:Gh} {S:Slots} {H:Boxes} {a:Act} {w:World} {ro:Option Nat} {m:Nat}
theorem QQ_noOut {old:Old} {Q:AExit→Slots→Boxes→Prop}:¬ LetsOut (QQ P w0 n old Q):=fun ⟨_,_,h⟩=>h
theorem region_ops (hG:Stable GI) (hG0:GI w0) {old:Old} {ops:Array Oper} {Q:AExit→Slots→Boxes→Prop} (hnd:ops.all (fun o=>calmOp o.op)=true) (hok:(compOps P n false ops).all (·.ok n)=true) (hbx:∀ o∈compOps P n false ops,∀ d∈o.lays,¬ old.bx d) (ho:g.old=old) (R:Rel P w0 n NoU g S H a w)
  (h:aops P GI (compOps P n false ops) (Q .normal) (fun v=>Q (.panic v) S H) S H):wpOpsIn (FR ro) m P ops (QQ P w0 n old Q) (List.range ops.size) a w:=by
 refine wpOps_in hnd QQ_noOut _ _ _ (aops_wp hG hG0 (S0:=S) (H0:=H) (List.range ops.size) ops.toList g S H a w ?_ (fun o hoo => ?_) (fun o hoo=>hbx _ (List.mem_map_of_mem hoo)) ho R h)
 ·apply List.ext_getElem?
  intro i
  simp only [List.getElem?_map]
  by_cases hi:i < ops.size
  ·simp [hi]
  ·simp [hi]
 ·simp only [compOps,List.all_map,List.all_eq_true,Function.comp] at hok
  exact hok o hoo
theorem regionIn_wp (hG:Stable GI) (hG0:GI w0) {old:Old} {id:Nat} {ops:Array Oper} {Q:AExit→Slots→Boxes→Prop} (hnd:ops.all (fun o=>calmOp o.op)=true) (hok:(compOps P n false ops).all (·.ok n)=true) (hbx:∀ o∈compOps P n false ops,∀ d∈o.lays,¬ old.bx d) (ho:g.old=old) (R:Rel P w0 n NoU g S H a w)
  (h:aops P GI (compOps P n false ops) (Q .normal) (fun v=>Q (.panic v) S H) S H):(Code.region id ops false).wpIn (FR ro) m P (QQ P w0 n old Q) a w :=
 wpIn_region (region_ops hG hG0 hnd hok hbx ho R h)
theorem dregion_any (hG:Stable GI) (hG0:GI w0) (hm:P.follows .mixedOrders=true) {old:Old} {ops:Array Oper} {Q:AExit→Slots→Boxes→Prop} (hnd:ops.all (fun o=>calmOp o.op)=true) (hok:dOK P n ops=true) (hbx:∀ o∈compOps P n true ops,∀ d∈o.lays,¬ old.bx d) (ho:g.old=old) (R:Rel P w0 n NoU g S H a w)
  (h:dops P GI (compOps P n true ops) (Q .normal) (prol (compOps P n true ops) S) (prolH (compOps P n true ops) H)):wpAnyIn (FR ro) m P .any ops (QQ P w0 n old Q) ops.size (Array.replicate ops.size false) a { w with drawn:=w.drawn+1 }:=by
 simp only [dOK,Bool.and_eq_true,decide_eq_true_eq] at hok
 obtain ⟨⟨⟨h1,h2⟩,h3⟩,h4⟩:=hok
 refine wpAny_in hnd QQ_noOut _ _ _ _ ?_
 have R0:Rel P w0 n NoU g S H a { w with drawn:=w.drawn+1 }:=R.grow' ((Below.refl _ w).drew)
 obtain ⟨g',e1,e2,R'⟩:=Rel.prol (compOps P n true ops) R0 h3 (fun d hd=>by
  simp only [allocDs,List.mem_filterMap,Option.map_eq_some_iff] at hd
  obtain ⟨o,hoo,⟨d',z⟩,k1,rfl⟩:=hd
  rw [ho]
  refine hbx o hoo d' ?_
  unfold allocOf at k1
  split at k1
  ·rename_i h1 h2
   cases k1
   simp [AOpr.lays,h1,h2,AOp.lays]
  ·cases k1)
 have hU:UU P n ops (Array.replicate ops.size false)=(fun t=>NoU t∨t∈allocDs (compOps P n true ops)):=by
  funext t
  simp only [UU,NoU,false_or,eq_iff_iff,allocDs,List.mem_filterMap,Option.map_eq_some_iff]
  constructor
  ·rintro ⟨j,o,z,k1,k2,k3⟩
   rw [← compOps_get] at k1
   exact ⟨o,List.mem_of_getElem? k1,(t,z),k2,rfl⟩
  ·rintro ⟨o,ho,⟨d,z⟩,k1,rfl⟩
   obtain ⟨j,hj⟩:=List.getElem?_of_mem ho
   refine ⟨j,o,z,by rw [← compOps_get];exact hj,k1,?_⟩
   have:j < ops.size:=by
    have:=(List.getElem?_eq_some_iff.1 hj).1
    simpa [compOps] using this
   simp [this]
 refine any_wp hG hG0 h2 (fun o hoo => ?_) ops.size (Array.replicate ops.size false) g' _ _ a _ (by simp) (e2.trans ho) (by rw [hU];exact R') (fun j o d z k1 k2 k3 => ?_) ?_
 ·simp only [compOps,List.all_map,List.all_eq_true,Function.comp] at h1
  exact h1 o (by simpa using hoo)
 ·rw [← compOps_get] at k1
  exact prol_at _ S H h3 o (List.mem_of_getElem? k1) d z k2
 ·have:=anyA_lex (QA:=Q .normal) ops.toList 0 (Array.replicate ops.size false) _ _ (by simp) (by simpa using h4) h
  simpa using this
theorem dregionIn_wp (hG:Stable GI) (hG0:GI w0) (hm:P.follows .mixedOrders=true) {old:Old} {id:Nat} {ops:Array Oper} {Q:AExit→Slots→Boxes→Prop} (hnd:ops.all (fun o=>calmOp o.op)=true) (hok:dOK P n ops=true) (hbx:∀ o∈compOps P n true ops,∀ d∈o.lays,¬ old.bx d) (ho:g.old=old) (R:Rel P w0 n NoU g S H a w)
  (h:dops P GI (compOps P n true ops) (Q .normal) (prol (compOps P n true ops) S) (prolH (compOps P n true ops) H)):(Code.region id ops true).wpIn (FR ro) m P (QQ P w0 n old Q) a w :=
 wpIn_region_any hm (dregion_any hG hG0 hm hnd hok hbx ho R h)
abbrev Post:=AExit→Old→Slots→Boxes→Prop
def QS (P:Program) (w0:World) (n:Nat) (Q:Post):Exit→Act→World→Prop
 |.normal,a,w=>∃ g S H,Rel P w0 n NoU g S H a w∧Q .normal g.old S H
 |.exit id,a,w=>∃ g S H,Rel P w0 n NoU g S H a w∧Q (.exit id) g.old S H
 |.ret,a,w=>∃ g S H,Rel P w0 n NoU g S H a w∧Q .ret g.old S H
 |.panic chain,a,w=>∃ (o:Old) (v:AV) (c:Value) (hi:Nat→Nat) (S:Slots) (H:Boxes),a.defers=o.ds∧chain=[{ v:=c,recovered:=false }]∧Below w0.heap.size w0 w∧(∀ b,w.heap.size≤b→hi b=0)∧RD (prOf w0.heap.size o.c hi) w v c∧Q (.panic v) o S H
 |_,_,_=>False
def SW (P:Program) (GI:World→Prop) (n:Nat) (ro:Option Nat) (c:Code) (Q:Post) (old:Old) (S:Slots) (H:Boxes):Prop :=
 ∀ (w0:World) (g:Gh) (a:Act) (w:World) (m:Nat),GI w0→g.old=old→Rel P w0 n NoU g S H a w→c.wpIn (FR ro) m P (QS P w0 n Q) a w
def thenS (K:Old→Slots→Boxes→Prop) (Q:Post):Post
 |.normal=>K
 |e=>Q e
def blockS (id:Nat) (Q:Post):Post
 |.exit j=>if j=id then Q .normal else Q (.exit j)
 |e=>Q e
variable {old:Old} {Q Q':Post}
theorem QS.mono (h:∀ e o S H,Q e o S H→Q' e o S H) {e:Exit} {a:Act} {w:World} (hq:QS P w0 n Q e a w):QS P w0 n Q' e a w:=by
 cases e<;>simp only [QS] at hq ⊢
 case normal=>obtain ⟨g,S,H,h2,h3⟩:=hq;exact ⟨g,S,H,h2,h _ _ _ _ h3⟩
 case exit=>obtain ⟨g,S,H,h2,h3⟩:=hq;exact ⟨g,S,H,h2,h _ _ _ _ h3⟩
 case ret=>obtain ⟨g,S,H,h2,h3⟩:=hq;exact ⟨g,S,H,h2,h _ _ _ _ h3⟩
 case panic=>obtain ⟨o,v,c,hi,S,H,h1,h2,h3,h4,h5,h6⟩:=hq;exact ⟨o,v,c,hi,S,H,h1,h2,h3,h4,h5,h _ _ _ _ h6⟩
theorem SW.mono {c:Code} (h:∀ e o S H,Q e o S H→Q' e o S H) (hs:SW P GI n ro c Q old S H):SW P GI n ro c Q' old S H :=
 fun w0 g a w m hG ho R=>wpIn_mono (hs w0 g a w m hG ho R) fun _ _ _ hq=>QS.mono h hq
theorem SW.seq {x y:Code} (hx:SW P GI n ro x (thenS (SW P GI n ro y Q) Q) old S H):SW P GI n ro (.seq x y) Q old S H:=by
 intro w0 g a w m hG ho R
 refine wpIn_seq (wpIn_mono (hx w0 g a w m hG ho R) ?_)
 intro e a' w' he
 cases e with
 |normal =>
  obtain ⟨g',S',H',h2,h3⟩:=he
  exact h3 w0 g' a' w' m hG rfl h2
 |exit id=>exact he
 |ret=>exact he
 |panic ch=>exact he
 |goto l=>exact he.elim
 |outgrown=>exact he.elim
theorem SW.block {id:Nat} {c:Code} (hc:SW P GI n ro c (blockS id Q) old S H):SW P GI n ro (.block id c) Q old S H:=by
 intro w0 g a w m hG ho R
 refine wpIn_block (wpIn_mono (hc w0 g a w m hG ho R) ?_)
 intro e a' w' he
 cases e with
 |normal=>exact he
 |exit j =>
  obtain ⟨g',S',H',h2,h3⟩:=he
  simp only [blockS] at h3
  simp only [Exit.inBlock]
  split
  ·rename_i hj;rw [if_pos hj] at h3;exact ⟨g',S',H',h2,h3⟩
  ·rename_i hj;rw [if_neg hj] at h3;exact ⟨g',S',H',h2,h3⟩
 |ret=>exact he
 |panic ch=>exact he
 |goto l=>exact he.elim
 |outgrown=>exact he.elim
theorem SW.cond {c:Operand} {c':Opd} {x y:Code} (hc:opd n c=some c') (b:Bool) (hb:ev S c' = .bool b) (h:SW P GI n ro (if b then x else y) Q old S H):SW P GI n ro (.cond c x y) Q old S H:=by
 intro w0 g a w m hG ho R
 have hv:=R.ev hc (fun _ _=>id)
 rw [hb] at hv
 have:a.eval c = .bool b:=by
  generalize a.eval c=v at hv
  cases hv;rename_i hv;cases hv;rfl
 exact wpIn_cond this (h w0 g a w m hG ho R)
theorem SW.exit {id:Nat} (h:Q (.exit id) old S H):SW P GI n ro (.exit id) Q old S H :=
 fun _ g _ _ _ _ ho R=>wpIn_exit ⟨g,S,H,R,by rw [ho];exact h⟩
theorem SW.ret (h:Q .ret old S H):SW P GI n ro .ret Q old S H :=
 fun _ g _ _ _ _ ho R=>wpIn_ret ⟨g,S,H,R,by rw [ho];exact h⟩
theorem SW.skip (h:Q .normal old S H):SW P GI n ro .skip Q old S H :=
 fun _ g _ _ _ _ ho R=>wpIn_skip ⟨g,S,H,R,by rw [ho];exact h⟩
theorem SW.loop {c:Code} (I:Old→Slots→Boxes→Prop) (μ:Slots→Boxes→Nat) (h0:I old S H) (hr:∀ o S H,I o S H→SW P GI n ro c (thenS (fun o' S' H'=>I o' S' H'∧μ S' H' < μ S H) Q) o S H):SW P GI n ro (.loop c) Q old S H:=by
 intro w0 g a w m hG ho R
 subst ho
 have key:∀ (k:Nat) (g:Gh) (S:Slots) (H:Boxes) (a:Act) (w:World),Rel P w0 n NoU g S H a w→I g.old S H→μ S H=k→∀ (b:Frame) (kk:List Item) (cs:List Frame),b.roundOf=ro→(FR ro).room (cs.length+1+m) →
   ∃ e a' w',QS P w0 n Q e a' w'∧ArrivesIn (Machine.fenced P (FR ro)) P (lone (b.atR a (.code c :: .inLoop c::kk)) cs w) b kk cs e a' w':=by
  intro k
  induction k using Nat.strongRecOn with
  |_ k ih =>
   intro g S H a w R hI hk b kk cs hro hroom
   obtain ⟨e,a₁,w₁,hq,harr⟩:=hr g.old S H hI w0 g a w m hG rfl R b (.inLoop c::kk) cs hro trivial hroom
   cases e with
   |normal =>
    obtain ⟨g',S',H',h2,h3,h4⟩:=hq
    obtain ⟨e₂,a₂,w₂,hq₂,harr₂⟩:=ih _ (by rw [← hk];exact h4) g' S' H' a₁ w₁ h2 h3 rfl b kk cs hro hroom
    exact ⟨e₂,a₂,w₂,hq₂,.of_steps (StepsIn.trans harr (.one (fenced_calm (F:=FR ro) (fr:=b.atR a₁ (.inLoop c::kk)) trivial hroom rfl) stepR_inLoop)) harr₂⟩
   |exit id=>exact ⟨.exit id,a₁,w₁,hq,.pass (x := .inLoop c) rfl (fun _ _ => .inl (by simp)) harr⟩
   |goto l=>exact hq.elim
   |ret=>exact ⟨.ret,a₁,w₁,hq,.pass (x := .inLoop c) rfl (fun _ _ => .inl (by simp)) harr⟩
   |panic ch=>exact ⟨.panic ch,a₁,w₁,hq,.pass (x := .inLoop c) rfl (fun _ _ => .inl (by simp)) harr⟩
   |outgrown=>exact hq.elim
 intro b kk cs hro hF hroom
 obtain ⟨e,a',w',hq,harr⟩:=key _ g S H a w R h0 rfl b kk cs hro hroom
 exact ⟨e,a',w',hq,.of_steps (.one (fenced_calm (F:=FR ro) (fr:=b.atR a (.code (.loop c)::kk)) trivial hroom rfl) stepR_loop) harr⟩
def Post.awp (old:Old) (Q:Post):AExit→Slots→Boxes→Prop
 |e,S,H=>Q e old S H
theorem QS_of_QQ {e:Exit} {a:Act} {w:World} (h:QQ P w0 n old (Q.awp old) e a w):QS P w0 n Q e a w:=by
 cases e<;>simp only [QQ,QS] at h ⊢
 case normal=>obtain ⟨g,S,H,h1,h2,h3⟩:=h;exact ⟨g,S,H,h2,by rw [h1];exact h3⟩
 case exit=>obtain ⟨g,S,H,h1,h2,h3⟩:=h;exact ⟨g,S,H,h2,by rw [h1];exact h3⟩
 case ret=>obtain ⟨g,S,H,h1,h2,h3⟩:=h;exact ⟨g,S,H,h2,by rw [h1];exact h3⟩
 case panic=>obtain ⟨h1,v,c,hi,S,H,h2,h3,h4,h5,h6⟩:=h;exact ⟨old,v,c,hi,S,H,h1,h2,h3,h4,h5,h6⟩
theorem awp_wpIn (hG:Stable GI) (hG0:GI w0) (hm:P.follows .mixedOrders=true) {old:Old} :
  ∀ (c:Code) (Q:AExit→Slots→Boxes→Prop) (g:Gh) (S:Slots) (H:Boxes) (a:Act) (w:World),calmC c=true→(∀ d∈(compC P n c).names,¬ old.bx d)→g.old=old→Rel P w0 n NoU g S H a w→awp P GI (compC P n c) Q S H→c.wpIn (FR ro) m P (QQ P w0 n old Q) a w
 |.skip,Q,g,S,H,a,w,_,hbx,ho,R,h=>wpIn_skip ⟨g,S,H,ho,R,h⟩
 |.region id ops draw,Q,g,S,H,a,w,hnd,hbx,ho,R,h=>by
  simp only [compC] at h hbx
  cases draw with
  |true =>
   simp only [if_true] at h hbx
   split at h
   case isFalse=>exact h.elim
   rename_i hok
   rw [if_pos hok] at hbx
   exact dregionIn_wp hG hG0 hm hnd hok (fun o hoo d hd=>hbx d (List.mem_flatMap.2 ⟨o,hoo,hd⟩)) ho R h
  |false =>
   simp only [Bool.false_eq_true,if_false] at h hbx
   split at h
   case isFalse=>exact h.elim
   rename_i hok
   rw [if_pos hok] at hbx
   exact regionIn_wp hG hG0 hnd hok (fun o hoo d hd=>hbx d (List.mem_flatMap.2 ⟨o,hoo,hd⟩)) ho R h
 |.seq x y,Q,g,S,H,a,w,hnd,hbx,ho,R,h=>by
  simp only [calmC,Bool.and_eq_true] at hnd
  refine wpIn_seq (wpIn_mono (awp_wpIn hG hG0 hm x _ g S H a w hnd.1 (fun d hd=>hbx d (by simp [compC,ACode.names,hd])) ho R h) ?_)
  intro e a' w' he
  cases e with
  |normal =>
   obtain ⟨g',S',H',h1,h2,h3⟩:=he
   exact awp_wpIn hG hG0 hm y Q g' S' H' a' w' hnd.2 (fun d hd=>hbx d (by simp [compC,ACode.names,hd])) h1 h2 h3
  |exit id=>exact he
  |ret=>exact he
  |panic ch=>exact he
  |goto l=>exact he.elim
  |outgrown=>exact he.elim
 |.cond c x y,Q,g,S,H,a,w,hnd,hbx,ho,R,h=>by
  simp only [calmC,Bool.and_eq_true] at hnd
  simp only [compC] at h
  split at h
  case h_2=>exact h.elim
  rename_i c' hc
  simp only [compC,hc,ACode.names,List.mem_append] at hbx
  simp only [awp] at h
  have hv:=R.ev hc (fun _ _=>id)
  have key:∀ b,a.eval c = .bool b→(if b then x else y).wpIn (FR ro) m P (QQ P w0 n old Q) a w→(Code.cond c x y).wpIn (FR ro) m P (QQ P w0 n old Q) a w:=fun b hb h=>wpIn_cond hb h
  split at h
  ·rename_i hb
   rw [hb] at hv
   have:a.eval c = .bool true:=by
    generalize a.eval c=v at hv
    cases hv;rename_i hv;cases hv;rfl
   exact key true this (awp_wpIn hG hG0 hm x Q g S H a w hnd.1 (fun d hd=>hbx d (.inl hd)) ho R h)
  ·rename_i hb
   rw [hb] at hv
   have:a.eval c = .bool false:=by
    generalize a.eval c=v at hv
    cases hv;rename_i hv;cases hv;rfl
   exact key false this (awp_wpIn hG hG0 hm y Q g S H a w hnd.2 (fun d hd=>hbx d (.inr hd)) ho R h)
  ·rename_i hb
   rw [hb] at hv
   have:∃ b,a.eval c = .bool b:=by
    generalize a.eval c=v at hv
    cases hv;rename_i hv;cases hv;exact ⟨_,rfl⟩
   obtain ⟨b,hb⟩:=this
   cases b with
   |true=>exact key true hb (awp_wpIn hG hG0 hm x Q g S H a w hnd.1 (fun d hd=>hbx d (.inl hd)) ho R h.1)
   |false=>exact key false hb (awp_wpIn hG hG0 hm y Q g S H a w hnd.2 (fun d hd=>hbx d (.inr hd)) ho R h.2)
  ·exact h.elim
 |.block id c,Q,g,S,H,a,w,hnd,hbx,ho,R,h=>by
  refine wpIn_block (wpIn_mono (awp_wpIn hG hG0 hm c _ g S H a w hnd (fun d hd=>hbx d (by simpa [compC,ACode.names] using hd)) ho R h) ?_)
  intro e a' w' he
  cases e with
  |normal=>exact he
  |exit j =>
   obtain ⟨g',S',H',h1,h2,h3⟩:=he
   simp only [blockQ] at h3
   simp only [Exit.inBlock]
   split
   ·rename_i hj;rw [if_pos hj] at h3;exact ⟨g',S',H',h1,h2,h3⟩
   ·rename_i hj;rw [if_neg hj] at h3;exact ⟨g',S',H',h1,h2,h3⟩
  |ret=>exact he
  |panic ch=>exact he
  |goto l=>exact he.elim
  |outgrown=>exact he.elim
 |.loop c,Q,g,S,H,a,w,hnd,hbx,ho,R,h=>by
  obtain ⟨I,μ,h0,hr⟩:=h
  have key:∀ (k:Nat) (g:Gh) (S:Slots) (H:Boxes) (a:Act) (w:World),g.old=old→Rel P w0 n NoU g S H a w→I S H→μ S H=k→∀ (b:Frame) (kk:List Item) (cs:List Frame),b.roundOf=ro→(FR ro).room (cs.length+1+m) →
    ∃ e a' w',QQ P w0 n old Q e a' w'∧ArrivesIn (Machine.fenced P (FR ro)) P (lone (b.atR a (.code c :: .inLoop c::kk)) cs w) b kk cs e a' w':=by
   intro k
   induction k using Nat.strongRecOn with
   |_ k ih =>
    intro g S H a w ho R hI hk b kk cs hro hroom
    obtain ⟨e,a₁,w₁,hq,harr⟩:=awp_wpIn hG hG0 hm c _ g S H a w hnd (fun d hd=>hbx d (by simpa [compC,ACode.names] using hd)) ho R (hr S H hI) b (.inLoop c::kk) cs hro trivial hroom
    cases e with
    |normal =>
     obtain ⟨g',S',H',h1,h2,h3,h4⟩:=hq
     obtain ⟨e₂,a₂,w₂,hq₂,harr₂⟩:=ih _ (by rw [← hk];exact h4) g' S' H' a₁ w₁ h1 h2 h3 rfl b kk cs hro hroom
     exact ⟨e₂,a₂,w₂,hq₂,.of_steps (StepsIn.trans harr (.one (fenced_calm (F:=FR ro) (fr:=b.atR a₁ (.inLoop c::kk)) trivial hroom rfl) stepR_inLoop)) harr₂⟩
    |exit id=>exact ⟨.exit id,a₁,w₁,hq,.pass (x := .inLoop c) rfl (fun _ _ => .inl (by simp)) harr⟩
    |goto l=>exact hq.elim
    |ret=>exact ⟨.ret,a₁,w₁,hq,.pass (x := .inLoop c) rfl (fun _ _ => .inl (by simp)) harr⟩
    |panic ch=>exact ⟨.panic ch,a₁,w₁,hq,.pass (x := .inLoop c) rfl (fun _ _ => .inl (by simp)) harr⟩
    |outgrown=>exact hq.elim
  intro b kk cs hro hF hroom
  obtain ⟨e,a',w',hq,harr⟩:=key _ g S H a w ho R h0 rfl b kk cs hro hroom
  exact ⟨e,a',w',hq,.of_steps (.one (fenced_calm (F:=FR ro) (fr:=b.atR a (.code (.loop c)::kk)) trivial hroom rfl) stepR_loop) harr⟩
 |.exit id,Q,g,S,H,a,w,_,hbx,ho,R,h=>wpIn_exit ⟨g,S,H,ho,R,h⟩
 |.ret,Q,g,S,H,a,w,_,hbx,ho,R,h=>wpIn_ret ⟨g,S,H,ho,R,h⟩
 |.rangeFunc ..,_,_,_,_,_,_,_,_,_,_,h=>h.elim
 |.scope _,_,_,_,_,_,_,_,_,_,_,h=>h.elim
 |.label _,_,_,_,_,_,_,_,_,_,_,h=>h.elim
 |.goto _,_,_,_,_,_,_,_,_,_,_,h=>h.elim
 |.refuse _,_,_,_,_,_,_,_,_,_,_,h=>h.elim
theorem SW.of_awp (hG:Stable GI) (hm:P.follows .mixedOrders=true) {c:Code} (hc:calmC c=true) (hbx:∀ d∈(compC P n c).names,¬ old.bx d) {ac:ACode} (hac:compC P n c=ac)
  (h:awp P GI ac (Q.awp old) S H):SW P GI n ro c Q old S H:=by
 subst hac
 intro w0 g a w m hG0 ho R
 exact wpIn_mono (awp_wpIn hG hG0 hm c _ g S H a w hc hbx ho R h) fun _ _ _ hq=>QS_of_QQ hq
end
end Go.AL
namespace Go.AL
open Go.RowKit
def Free (g:Gh) (b:Nat):Prop:=g.base≤b∧g.hi b=0∧g.owner b=none∧∀ i,g.al i≠some b
structure Turn (M:Nat→Prop) (w w':World):Prop where
 os:w'.os=w.os
 tape:w'.tape=w.tape
 output:w'.output=w.output
 size:w.heap.size≤w'.heap.size
 block:∀ b,b < w.heap.size→¬ M b→w'.heap[b]? = w.heap[b]?
theorem Turn.refl (M:Nat→Prop) (w:World):Turn M w w:=⟨rfl,rfl,rfl,Nat.le_refl _,fun _ _ _=>rfl⟩
theorem Turn.trans {M M' M'':Nat→Prop} {w w' w'':World} (h:Turn M w w') (h':Turn M' w' w'') (h1:∀ b,M b→M'' b) (h2:∀ b,M' b→b < w.heap.size→M'' b):Turn M'' w w'' :=
 ⟨h'.os.trans h.os,h'.tape.trans h.tape,h'.output.trans h.output,Nat.le_trans h.size h'.size,fun b hb hm =>
  (h'.block b (Nat.lt_of_lt_of_le hb h.size) fun hh=>hm (h2 b hh hb)).trans (h.block b hb fun hh=>hm (h1 b hh))⟩
theorem Turn.of_below {M:Nat→Prop} {w w':World} (h:Below w.heap.size w w'):Turn M w w':=⟨h.os,h.tape,h.output,h.size,fun b hb _=>h.block b hb⟩
theorem Turn.below {M:Nat→Prop} {w w':World} (h:Turn M w w') {k:Nat} (hk:k≤w.heap.size) (hM:∀ b,M b→k≤b):Below k w w' :=
 ⟨h.os,h.tape,h.output,h.size,fun b hb=>h.block b (Nat.lt_of_lt_of_le hb hk) fun hm=>by have:=hM b hm;omega⟩
section
variable {P:Program} {w0:World} {n:Nat} {g:Gh} {S:Slots} {H:Boxes} {a:Act} {w w':World}
theorem Rel.turn (R:Rel P w0 n NoU g S H a w) {M:Nat→Prop} (ht:Turn M w w') (hM:∀ b,M b→Free g b) (hk:∀ b,M b→g.old.keep b=none):Rel P w0 n NoU g S H a w':=by
 have hcell:Keeps g.Pr g.Pr w w':=Keeps.of_moved fun b k hlt hp=>ht.block b hlt fun hm=>by
  obtain ⟨h1,h2,_⟩:=hM b hm
  rcases hp with hp | hp
  ·omega
  ·rw [h2] at hp;omega
 refine R.ext rfl rfl rfl hcell ?_ ?_ ?_ ?_ ?_ ht.size
 ·intro i b hi
  obtain ⟨_,_,_,_,_,h3,_⟩:=R.box i b hi
  exact ⟨ht.block b (Array.getElem?_eq_some_iff.1 h3).1 fun hm=>(hM b hm).2.2.2 i hi,rfl,rfl⟩
 ·intro b loc ho
  have hlt:b < w.heap.size:=by
   rcases Nat.lt_or_ge b w.heap.size with h | h
   ·exact h
   ·rw [(R.fresh b h).2] at ho;cases ho
  exact ⟨ht.block b hlt fun hm=>(by rw [(hM b hm).2.2.1] at ho;cases ho),rfl,ho⟩
 ·exact R.below.trans (ht.below (by rw [R.base];exact R.below.size) fun b hm=>(hM b hm).1)
 ·exact fun b hb=>R.fresh b (Nat.le_trans ht.size hb)
 ·intro b o hko ho
  exact ⟨by rw [ht.block b (Array.getElem?_eq_some_iff.1 ho).1 (fun hm=>by rw [hk b hm] at hko;cases hko)];exact ho,rfl,rfl⟩
open Classical in
noncomputable def Gh.claim (g:Gh) (G:Nat→Prop) (hi':Nat→Nat):Gh:={ g with hi:=fun b=>if G b then hi' b else g.hi b }
theorem Rel.claim (R:Rel P w0 n NoU g S H a w) {G:Nat→Prop} (hi':Nat→Nat) (hG:∀ b,G b→Free g b∧b < w.heap.size∧g.old.keep b=none):Rel P w0 n NoU (g.claim G hi') S H a w:=by
 have hn:∀ b,¬ G b→(g.claim G hi').hi b=g.hi b:=fun b hb=>by simp [Gh.claim,hb]
 have hPr:∀ b k,g.Pr b k→(g.claim G hi').Pr b k:=by
  intro b k hp
  by_cases hb:G b
  ·obtain ⟨⟨h1,h2,_⟩,_⟩:=hG b hb
   rcases hp with hp | hp
   ·omega
   ·rw [h2] at hp;omega
  ·rcases hp with hp | hp
   ·exact .inl hp
   ·exact .inr ⟨hp.1,by rw [hn b hb];exact hp.2⟩
 refine R.ext (g':=g.claim G hi') rfl rfl rfl (Keeps.same fun b k _ hp=>hPr b k hp) ?_ ?_ R.below ?_ ?_ (Nat.le_refl _)
 ·intro i b hi
  exact ⟨rfl,hn b fun hb=>(hG b hb).1.2.2.2 i hi,rfl⟩
 ·intro b loc ho
  exact ⟨rfl,hn b (fun hb=>by rw [(hG b hb).1.2.2.1] at ho;cases ho),ho⟩
 ·intro b hb
  exact ⟨by rw [hn b (fun h=>by have:=(hG b h).2.1;omega)];exact (R.fresh b hb).1,(R.fresh b hb).2⟩
 ·intro b o hk ho
  exact ⟨ho,hn b (fun h=>by rw [(hG b h).2.2] at hk;cases hk),rfl⟩
theorem Rel.rekeep (R:Rel P w0 n NoU g S H a w) {l:Nat} {o:Obj} (hl:g.old.keep l=some o) (o':Obj):Rel P w0 n NoU { g with old:={ g.old with keep:=upd g.old.keep l (some o') } } S H a (w.putObj l o'):=by
 obtain ⟨k1,k2,k3,k4,k5⟩:=R.kept l o hl
 have hlt:l < w.heap.size:=(Array.getElem?_eq_some_iff.1 k2).1
 have hoth:∀ b,b≠l→(w.putObj l o').heap[b]? = w.heap[b]? := fun b hb=>World.putObj_heap_other hb
 have hne:∀ b k,g.Pr b k→b≠l:=by
  rintro b k hp rfl
  rcases hp with hp | hp
  ·omega
  ·rw [k3] at hp;omega
 have hK:Keeps g.Pr g.Pr w (w.putObj l o'):=Keeps.of_moved fun b k _ hp=>hoth b (hne b k hp)
 have hsize:(w.putObj l o').heap.size=w.heap.size:=by simp [World.putObj]
 refine { size:=R.size,defers:=R.defers,facts:=fun p hp=>(R.facts p hp).mono hK fun _ _ h=>h,slot:=fun t ht hu=>(R.slot t ht hu).mono hK fun _ _ h=>h,own:=fun t ht hu=>(R.own t ht hu).keep rfl fun b' hb'=>⟨hoth b' (by rintro rfl;rw [k4] at hb';cases hb'),rfl,hb'⟩,box := ?_,alH:=R.alH,alU:=R.alU,inj:=R.inj,base:=R.base,below := ?_,fresh := ?_,still:=R.still.trans hK,grown:=by rw [hsize];exact R.grown,kept := ?_ }
 ·intro i b hi
  obtain ⟨cs,vs,ty,h1,h2,h3,h4,h5,h6,h7,h8,h9⟩:=R.box i b hi
  have hbl:b≠l:=by rintro rfl;exact k5 i hi
  refine ⟨cs,vs,ty,h1,h2,by rw [hoth b hbl];exact h3,h4,h5,h6,fun j hj hj'=>(h7 j hj hj').mono hK,fun j hj hj'=>(h8 j hj hj').keep rfl fun b' hb'=>⟨hoth b' (by rintro rfl;rw [k4] at hb';cases hb'),rfl,hb'⟩,h9⟩
 ·refine R.below.trans ⟨rfl,rfl,rfl,by rw [hsize];exact Nat.le_refl _,fun k hk=>hoth k (by omega)⟩
 ·intro b hb
  rw [hsize] at hb
  exact R.fresh b hb
 ·intro b ob h
  by_cases hbl:b=l
  ·subst hbl
   have:ob=o':=by simpa [upd] using h.symm
   subst this
   exact ⟨k1,World.putObj_heap_same hlt,k3,k4,k5⟩
  ·have h:g.old.keep b=some ob:=by simpa [upd,hbl] using h
   obtain ⟨q1,q2,q3,q4,q5⟩:=R.kept b ob h
   exact ⟨q1,by rw [hoth b hbl];exact q2,q3,q4,q5⟩
theorem Rel.reold (R:Rel P w0 n NoU g S H a w) (o2:Old) {a2:Act} {S2:Slots} (hc:o2.c=g.old.c) (hsz:a2.tmps.size=n) (hds:a2.defers=o2.ds)
  (hf:∀ p∈o2.facts,RV g.Pr g.al w p.1 p.2) (hst:Keeps o2.sp g.Pr o2.sw w) (hgr:o2.sw.heap.size≤w.heap.size) (hk:∀ b o,o2.keep b=some o→Free g b∧w.heap[b]? = some o)
  (hS:∀ t,t < n→(S2 t).dem=S2 t∧RV g.Pr g.al w (S2 t) (a2.tmps.getD t undef)):Rel P w0 n NoU { g with old:=o2 } S2 H a2 w:=by
 have hPr:({ g with old:=o2 }:Gh).Pr=g.Pr:=by
  funext b k
  simp only [Gh.Pr,hc]
 refine { size:=hsz,defers:=hds,facts:=by rw [hPr];exact hf,slot:=fun t ht _=>by rw [hPr];exact (hS t ht).2,own:=fun t ht _ => ?_,box := ?_,alH:=R.alH,alU:=R.alU,inj:=R.inj,base:=R.base,below:=R.below,fresh:=R.fresh,still:=by rw [hPr];exact hst,grown:=hgr,kept := ?_ }
 ·rw [← (hS t ht).1];exact OwnAt.dem
 ·intro i b hi
  obtain ⟨cs,vs,ty,h1,h2,h3,h4,h5,h6,h7,h8,h9⟩:=R.box i b hi
  exact ⟨cs,vs,ty,h1,h2,h3,h4,h5,h6,by rw [hPr];exact h7,fun j hj hj'=>(h8 j hj hj').keep rfl fun b hb=>⟨rfl,rfl,hb⟩,h9⟩
 ·intro b o h
  obtain ⟨⟨q1,q3,q4,q5⟩,q2⟩:=hk b o h
  exact ⟨q1,q2,q3,q4,q5⟩
def inL (L:Nat→Bool):AV→Bool
 |.box i _=>L i
 |.func .. | .fagg _=>true
 |_=>false
def noL (L:Nat→Bool) (v:AV):AV:=match v with
 |.box i o=>if L i then .junk else .box i o
 |.func fn f c=>if f.any (inL L) || c.any (inL L) then .junk else .func fn f c
 |.fagg _ => .junk
 |v=>v.dem
theorem RV.noL {Pr:Nat→Nat→Prop} {al:Nat→Option Nat} {w:World} {v:AV} {c:Value} {L:Nat→Bool} (h:RV Pr al w v c):RV Pr al w (Go.AL.noL L v) c:=by
 have hd:=h.dem
 cases v<;>simp only [Go.AL.noL]<;>(try exact hd)
 ·split
  ·exact .junk _
  ·exact h
 ·split
  ·exact .junk _
  ·exact h
 ·exact .junk _
theorem noL_dem (L:Nat→Bool) (v:AV):(noL L v).dem=noL L v:=by
 cases v<;>simp only [noL]<;>try rfl
 ·rename_i o es;cases o<;>rfl
 ·split<;>rfl
 ·split<;>rfl
theorem noL_flat (L:Nat→Bool) (v:AV):flat (noL L v)=true:=by
 cases v<;>simp only [noL]<;>try rfl
 ·rename_i o es;cases o<;>rfl
 ·split<;>rfl
 ·split
  ·rfl
  ·rename_i fn f c h
   simp only [Bool.not_eq_true,Bool.or_eq_false_iff,List.any_eq_false] at h
   simp only [flat,Bool.and_eq_true,List.all_eq_true]
   refine ⟨fun v hv => ?_,fun v hv => ?_⟩
   ·have:=h.1 v hv
    cases v<;>first | rfl | (cases this;done)
   ·have:=h.2 v hv
    cases v<;>first | rfl | (cases this;done)
theorem noL_scrub (L:Nat→Bool) (v:AV) (d:Nat) (hd:L d=true):scrub d (noL L v)=noL L v:=by
 have key:∀ v,inL L v=false→¬ scrub1 d v=true:=by
  intro v hv hs
  cases v<;>simp only [scrub1] at hs<;>(try cases hs)<;>(try cases hv)
  simp only [beq_iff_eq] at hs;subst hs;simp only [inL,hd] at hv;cases hv
 cases v<;>simp only [noL]<;>try rfl
 ·rename_i o es;cases o<;>rfl
 ·split
  ·rfl
  ·rename_i i o h
   simp only [scrub]
   rw [if_neg];rintro rfl;exact h hd
 ·split
  ·rfl
  ·rename_i fn f c h
   simp only [Bool.not_eq_true,Bool.or_eq_false_iff,List.any_eq_false] at h
   simp only [scrub]
   rw [if_neg]
   simp only [Bool.or_eq_true,List.any_eq_true,not_or,not_exists,not_and]
   exact ⟨fun v hv=>key v (h.1 v hv),fun v hv=>key v (h.2 v hv)⟩
end
end Go.AL
namespace Go.AL
open Go.RowKit
structure Cons (P:Program) (GI:World→Prop) (l:Nat) (xs:List AV) where
 J:Nat→(Nat→Prop)→(Nat→Nat→Prop)→World→Prop
 X:(Nat→Prop)→(Nat→Nat→Prop)→World→Prop
 gi:∀ {k M Pr w},J k M Pr w→GI w
 apart:∀ {k M Pr w},J k M Pr w→∀ b j,M b→¬ Pr b j
 turn:∀ {k M M' Pr w w'},J k M Pr w→Turn M w w'→(∀ b,M' b→b < w'.heap.size∧(M b∨w.heap.size≤b))→J k M' Pr w'
 turnX:∀ {M M' Pr w w'},X M Pr w→Turn M w w'→(∀ b,M' b→b < w'.heap.size∧(M b∨w.heap.size≤b))→X M' Pr w'
 round:∀ {k:Nat} (hk:k < xs.length) {M Pr w} (G:Nat→Prop) (hi':Nat→Nat) (c:Value),J k M Pr w→(∀ b,G b→M b)→RD (fun b j=>Pr b j∨(G b∧j < hi' b)) w xs[k] c →
  ∃ f tmps assign body,(Instr.yield l #[c]).run P w = .ok (.round l f tmps assign body) w ∧
   ∀ m,RoundIn (FR none) m P l f tmps assign body w fun e w'=>(∀ b,M b→¬ G b→w'.heap[b]? = w.heap[b]?)∧∃ Pr',Keeps Pr Pr' w w' ∧
    ((e = .returned (.bool true)∧J (k+1) (fun b=>M b∧¬ G b) Pr' w')∨(e = .returned (.bool false)∧X (fun b=>M b∧¬ G b) Pr' w'))
def noneA:Nat→Option Nat:=fun _=>none
def IterC (P:Program) (GI:World→Prop) (f:Nat) (caps:List AV) (xs:List AV):Prop :=
 ∀ (l:Nat) (C:Cons P GI l xs) (w:World) (Pr:Nat→Nat→Prop) (cargs:Array Value),C.J 0 (fun _=>False) Pr w→caps.length=cargs.size →
  (∀ i (h:i < caps.length) (h':i < cargs.size),RV Pr noneA w caps[i] cargs[i]) →
  Calls P f (#[.func (.yield l) #[] #[]]++cargs) w fun e w'=>∃ v M Pr',e = .returned v∧(C.J xs.length M Pr' w'∨C.X M Pr' w')
def capOK1:AV→Bool
 |.box .. | .func .. | .fagg _=>false
 |_=>true
def capOK:AV→Bool
 |.box .. | .fagg _=>false
 |.func _ f c=>f.all capOK1 && c.all capOK1
 |_=>true
theorem RV.noneA1 {Pr:Nat→Nat→Prop} {al:Nat→Option Nat} {w:World} {v:AV} {c:Value} (h:RV Pr al w v c) (hv:capOK1 v=true):RV Pr Go.AL.noneA w v c:=by
 cases h with
 |data v c h=>exact .data _ _ h
 |box=>cases hv
 |func=>cases hv
 |fagg=>cases hv
 |junk c=>exact .junk c
theorem RV.noneA {Pr:Nat→Nat→Prop} {al:Nat→Option Nat} {w:World} {v:AV} {c:Value} (h:RV Pr al w v c) (hv:capOK v=true):RV Pr Go.AL.noneA w v c:=by
 cases h with
 |data v c h=>exact .data _ _ h
 |box=>cases hv
 |func fn f c vs us h1 h2 r1 r2 =>
  simp only [capOK,Bool.and_eq_true,List.all_eq_true] at hv
  exact .func _ _ _ _ _ h1 h2 (fun i hi hi'=>(r1 i hi hi').noneA1 (hv.1 _ (List.getElem_mem hi))) (fun i hi hi'=>(r2 i hi hi').noneA1 (hv.2 _ (List.getElem_mem hi)))
 |fagg=>cases hv
 |junk c=>exact .junk c
def Old.mark (o:Old) (D:Nat):Old:={ o with ds:={ target := .collected D,args := #[] }::o.ds,keep:=upd o.keep D (some (.deferred (some []))) }
def jumpOf:AExit→Option Code
 |.exit id=>some (.exit id)
 |.ret=>some .ret
 |_=>none
def roundQ (I:Boxes→Prop) (Ix:AExit→Boxes→Prop):AExit→Slots→Boxes→Prop
 |.normal,_,H=>I H
 |.panic _,_,_=>False
 |e,_,H=>Ix e H
def assignQ (K:Slots→Boxes→Prop):AExit→Slots→Boxes→Prop
 |.normal,S,H=>K S H
 |_,_,_=>False
section
variable {P:Program} {GI:World→Prop} {n:Nat} {S:Slots} {H:Boxes}
set_option maxHeartbeats 1000000 in
open Classical in
theorem SW.range (hG:Stable GI) (hm:P.follows .mixedOrders=true) {old:Old} {Q:Post} {gop:Operand} {y:Opd} {p:Tmp} {assign body:Code} {f:Nat} {caps xs:List AV}
  (hg:opd n gop=some y) (hS:ev S y = .func (.func f) [] caps) (hf:callable P f=true) (hcaps:caps.all capOK=true) (hit:IterC P GI f caps xs) (hp:p < n) (hxs:∀ x∈xs,x.dem=x)
  (L:Nat→Bool) {aa ab:ACode} (haa:compC P n assign=aa) (hab:compC P n body=ab) (hLa:∀ d∈aa.names,L d=true) (hLb:∀ d∈ab.names,L d=true) (hLo:∀ d,L d=true→¬ old.bx d)
  (hca:calmC assign=true) (hcb:calmC body=true) (I:Nat→Boxes→Prop) (Ix:AExit→Boxes→Prop) (h0:I 0 H)
  (hround:∀ k (hk:k < xs.length) H',I k H'→awp P GI aa (assignQ (awp P GI ab (roundQ (I (k+1)) Ix))) (upd (fun t=>noL L (S t)) p xs[k]) H')
  (hdone:∀ D H',old.keep D=none→I xs.length H'→Q .normal (old.mark D) (fun t=>noL L (S t)) H')
  (hstop:∀ D e H',old.keep D=none→(jumpOf e).isSome=true→Ix e H'→Q e (old.mark D) (fun t=>noL L (S t)) H') :
  SW P GI n none (.rangeFunc gop #[p] assign body) Q old S H:=by
 subst haa hab
 intro w0 g a w m hG0 ho R
 subst ho
 refine wpIn_rangeFunc ?_
 intro fn hfn
 obtain ⟨rec,hrec⟩:∃ rec:LoopState→Option Code→Loop,rec=fun st pe=>{ state:=st,pending:=pe,fn,tmps:=a.tmps,params := #[p],assign,body,defers:=w.heap.size }:=⟨_,rfl⟩
 obtain ⟨W1,hW1⟩:∃ W1,(w.alloc (.deferred (some []))).alloc (.loop (rec .ready none))=W1:=⟨_,rfl⟩
 obtain ⟨D,hD⟩:∃ D,w.heap.size=D:=⟨_,rfl⟩
 have hL1:W1.heap[D+1]? = some (.loop (rec .ready none)):=by
  rw [← hW1,← hD];have:=World.alloc_heap_new (w.alloc (.deferred (some []))) (.loop (rec .ready none));rwa [World.size_alloc] at this
 have hK1:W1.heap[D]? = some (.deferred (some [])):=by
  rw [← hW1,← hD];exact (Below.heap_alloc _ _ _ (by simp)).trans (World.alloc_heap_new w _)
 have hb1:Below w.heap.size w W1:=by
  rw [← hW1];exact (((Below.refl _ w).alloc (Nat.le_refl _) _).alloc (by simp) _)
 have R1:Rel P w0 n NoU g S H a W1:=R.grow' hb1
 have hle:g.base≤D:=by rw [← hD,R.base];exact R.below.size
 have hfree:∀ b,D≤b→Free g b:=fun b hb=>⟨by omega,(R.fresh b (by omega)).1,(R.fresh b (by omega)).2,fun i hi=>by
  obtain ⟨_,_,_,_,_,h3,_⟩:=R.box i b hi
  have:=(Array.getElem?_eq_some_iff.1 h3).1
  omega⟩
 have hkeepD:∀ b,D≤b→g.old.keep b=none:=fun b hb=>by
  cases hk:g.old.keep b with
  |none=>rfl
  |some o=>have:=(Array.getElem?_eq_some_iff.1 (R.kept b o hk).2.1).1;omega
 have hfv:=R.ev hg (fun _ _=>id)
 rw [hS] at hfv
 obtain ⟨us,hev,hcl,hcr⟩:∃ us:Array Value,a.eval gop = .func (.func f) #[] us∧caps.length=us.size∧∀ i (h:i < caps.length) (h':i < us.size),RV g.Pr noneA W1 caps[i] us[i]:=by
  generalize hq:a.eval gop=q at hfv
  cases hfv with
  |data _ _ h=>cases h
  |func _ _ _ vs us h1 h2 r1 r2 =>
   have:vs = #[]:=Array.eq_empty_of_size_eq_zero (by simpa using h1.symm)
   subst this
   refine ⟨us,rfl,h2,fun i h h' => ?_⟩
   have:=(r2 i h h').noneA (by simp only [List.all_eq_true] at hcaps;exact hcaps _ (List.getElem_mem h))
   exact this.mono (Keeps.of_blocks (fun b hlt=>hb1.block b hlt) fun _ _ _ h=>h) fun _ _ h=>h
 let Se:Slots:=fun t=>noL L (S t)
 let al:Act:={ tmps:=a.tmps,defers:=[] }
 let fs:List (AV×Value):=(List.range n).map fun t=>(Se t,a.tmps.getD t undef)
 let kp:Nat→Option Obj:=upd (upd g.old.keep D (some (.deferred (some [])))) (D+1) (some (.loop (rec .ready none)))
 have hok:∀ q∈fs++g.old.facts,flat q.1=true∧∀ d,¬ (L d=false)→scrub d q.1=q.1:=by
  intro q hq
  rcases List.mem_append.1 hq with h | h
  ·obtain ⟨t,_,rfl⟩:=List.mem_map.1 h
   exact ⟨noL_flat L _,fun d hd=>noL_scrub L _ d (by simpa using hd)⟩
  ·exact ⟨(g.old.ok q h).1,fun d hd=>(g.old.ok q h).2 d (hLo d (by simpa using hd))⟩
 let mk:(Nat→Option Obj)→(Nat→Nat→Prop)→World→Old:=fun keep sp sw =>
  { c:=g.old.c,facts:=fs++g.old.facts,bx:=fun d=>L d=false,ds:=[],keep:=keep,sp:=sp,sw:=sw,ok:=hok }
 let oldL:Old:=mk kp g.old.sp g.old.sw
 let kx:Code→Nat→Option Obj:=fun c=>upd kp (D+1) (some (.loop (rec .done (some c))))
 have hSe:∀ t,(Se t).dem=Se t:=fun t=>noL_dem L _
 have hsz:a.tmps.size=n:=R.size
 have hslots:∀ {g':Gh} {W:World} {H':Boxes} {n' S' a'},Rel P w0 n' NoU g' S' H' a' W→g'.old.facts=fs++g.old.facts→∀ t,t < n→(Se t).dem=Se t∧RV g'.Pr g'.al W (Se t) (a.tmps.getD t undef):=by
  intro g' W H' n' S' a' R' hfa t ht
  exact ⟨hSe t,R'.facts (Se t,a.tmps.getD t undef) (by rw [hfa];exact List.mem_append_left _ (List.mem_map.2 ⟨t,List.mem_range.2 ht,rfl⟩))⟩
 have kp_of:∀ b,D≤b→b≠D→b≠D+1→kp b=none:=fun b hb h1 h2=>by simp [kp,upd,h1,h2,hkeepD b hb]
 have kpl:kp (D+1)=some (.loop (rec .ready none)):=upd_same _ _ _
 let J:Nat→(Nat→Prop)→(Nat→Nat→Prop)→World→Prop:=fun k M Pr W=>∃ g' H',Rel P w0 n NoU g' Se H' al W∧g'.old=oldL∧g'.Pr=Pr∧I k H'∧∀ b,M b→Free g' b∧b < W.heap.size∧kp b=none
 let X:(Nat→Prop)→(Nat→Nat→Prop)→World→Prop:=fun M Pr W=>∃ e jc g' H',Rel P w0 n NoU g' Se H' al W∧g'.old=mk (kx jc) g.old.sp g.old.sw∧jumpOf e=some jc∧g'.Pr=Pr∧Ix e H'∧∀ b,M b→Free g' b∧b < W.heap.size∧kp b=none
 have hgi:∀ {g':Gh} {H':Boxes} {W:World},Rel P w0 n NoU g' Se H' al W→GI W:=fun R'=>by
  have hb:=R'.below
  rw [R'.base] at hb
  exact hG w0 _ hG0 hb
 have hnewM:∀ {g':Gh} {H':Boxes} {W:World} (k':Nat→Option Obj),Rel P w0 n NoU g' Se H' al W→g'.old.keep=k'→(∀ b,kp b=none↔k' b=none)→∀ b,W.heap.size≤b→Free g' b∧kp b=none:=by
  intro g' H' W k' R' hk hkk b hb
  refine ⟨⟨?_,(R'.fresh b hb).1,(R'.fresh b hb).2,fun i hi => ?_⟩,?_⟩
  ·have:=R'.below.size
   rw [R'.base];omega
  ·obtain ⟨_,_,_,_,_,h3,_⟩:=R'.box i b hi
   have:=(Array.getElem?_eq_some_iff.1 h3).1
   omega
  ·rw [hkk]
   cases hq:k' b with
   |none=>rfl
   |some o=>have:=(Array.getElem?_eq_some_iff.1 (R'.kept b o (by rw [hk];exact hq)).2.1).1;omega
 have hkx:∀ c b,kp b=none↔kx c b=none:=fun c b=>by
  by_cases hb:b=D+1
  ·subst hb;simp [kpl,kx,upd]
  ·simp [kx,upd,hb]
 let C:Cons P GI (D+1) xs:={
  J:=J
  X:=X
  gi:=fun ⟨g',H',R',_⟩=>hgi R'
  apart:=by
   rintro k M Pr W ⟨g',H',R',e1,rfl,e3,e4⟩ b j hb hp
   obtain ⟨⟨h1,h2,_⟩,_⟩:=e4 b hb
   rcases hp with hp | hp
   ·omega
   ·rw [h2] at hp;omega
  turn:=by
   rintro k M M' Pr W W' ⟨g',H',R',e1,e2,e3,e4⟩ ht hM'
   have R2:=R'.turn ht (fun b hb=>(e4 b hb).1) (fun b hb=>by rw [e1];exact (e4 b hb).2.2)
   refine ⟨g',H',R2,e1,e2,e3,fun b hb => ?_⟩
   obtain ⟨q1,q2⟩:=hM' b hb
   rcases q2 with q2 | q2
   ·exact ⟨(e4 b q2).1,q1,(e4 b q2).2.2⟩
   ·obtain ⟨z1,z2⟩:=hnewM kp R' (by rw [e1]) (fun _=>Iff.rfl) b q2
    exact ⟨z1,q1,z2⟩
  turnX:=by
   rintro M M' Pr W W' ⟨e,jc,g',H',R',e1,ej,e2,e3,e4⟩ ht hM'
   have R2:=R'.turn ht (fun b hb=>(e4 b hb).1) (fun b hb=>by rw [e1];exact (hkx jc b).1 (e4 b hb).2.2)
   refine ⟨e,jc,g',H',R2,e1,ej,e2,e3,fun b hb => ?_⟩
   obtain ⟨q1,q2⟩:=hM' b hb
   rcases q2 with q2 | q2
   ·exact ⟨(e4 b q2).1,q1,(e4 b q2).2.2⟩
   ·obtain ⟨z1,z2⟩:=hnewM (kx jc) R' (by rw [e1]) (hkx jc) b q2
    exact ⟨z1,q1,z2⟩
  round:=by
   rintro k hk M Pr W G hi' c ⟨g',H',R',e1,rfl,e3,e4⟩ hGM hx
   have hkg:∀ b,M b→g'.old.keep b=none:=fun b hb=>by rw [e1];exact (e4 b hb).2.2
   have Rc:=R'.claim (G:=G) hi' (fun b hb=>⟨(e4 b (hGM b hb)).1,(e4 b (hGM b hb)).2.1,hkg b (hGM b hb)⟩)
   obtain ⟨gc,hgc⟩:∃ gc,g'.claim G hi'=gc:=⟨_,rfl⟩
   rw [hgc] at Rc
   have gco:gc.old=oldL:=by rw [← hgc];exact e1
   have hKc:Keeps g'.Pr gc.Pr W W:=Keeps.same fun b j _ hpp=>by
    rw [← hgc]
    by_cases hb:G b
    ·obtain ⟨⟨h1,h2,_⟩,_⟩:=e4 b (hGM b hb)
     rcases hpp with hp | hp
     ·omega
     ·rw [h2] at hp;omega
    ·rcases hpp with hp | hp
     ·exact .inl hp
     ·exact .inr ⟨hp.1,by simpa [Gh.claim,hb] using hp.2⟩
   have hx':RD gc.Pr W xs[k] c:=hx.mono (Keeps.same fun b j hlt hpp=>by
    rcases hpp with hpp | ⟨h1,h2⟩
    ·by_cases hex:∃ u,W.cell? ⟨b,j,none⟩=some u
     ·obtain ⟨u,hu⟩:=hex;exact (hKc.cell b j hpp u hu).1
     ·rw [← hgc]
      by_cases hb:G b
      ·obtain ⟨⟨h1,h2,_⟩,_⟩:=e4 b (hGM b hb)
       rcases hpp with hp | hp
       ·omega
       ·rw [h2] at hp;omega
      ·rcases hpp with hp | hp
       ·exact .inl hp
       ·exact .inr ⟨hp.1,by simpa [Gh.claim,hb] using hp.2⟩
    ·rw [← hgc]
     exact .inr ⟨(e4 b (hGM b h1)).1.1,by simpa [Gh.claim,h1] using h2⟩)
   let kr:Nat→Option Obj:=fun b=>if M b∧¬ G b then W.heap[b]? else kp b
   have hMl:¬ M (D+1):=fun hh=>by have:=(e4 _ hh).2.2;rw [kpl] at this;cases this
   have krl:kr (D+1)=some (.loop (rec .ready none)):=by simp [kr,hMl,kpl]
   have Rr:=Rc.reold (mk kr gc.Pr W) (a2:={ tmps:=a.tmps.setIfInBounds p c,defers:=[] }) (S2:=upd Se p xs[k]) (by rw [gco]) (by simpa using hsz) rfl
    (fun q hq=>Rc.facts q (by rw [gco];exact hq)) (Keeps.same fun _ _ _ h=>h) (Nat.le_refl _)
    (fun b ob hb=>by
     simp only [mk,kr] at hb
     split at hb
     ·rename_i hMG
      obtain ⟨h1,h2,h3,h4⟩:=(e4 b hMG.1).1
      exact ⟨⟨by rw [← hgc];exact h1,by rw [← hgc];simpa [Gh.claim,hMG.2] using h2,by rw [← hgc];exact h3,by rw [← hgc];exact h4⟩,hb⟩
     ·obtain ⟨h1,h2,h3,h4,h5⟩:=Rc.kept b ob (by rw [gco];exact hb)
      exact ⟨⟨h1,h3,h4,h5⟩,h2⟩)
    (fun t ht=>by
     by_cases htp:t=p
     ·subst htp
      rw [upd_same]
      refine ⟨hxs _ (List.getElem_mem hk),.data _ _ ?_⟩
      have:(a.tmps.setIfInBounds t c).getD t undef=c:=by simp [hsz,ht]
      rw [this];exact hx'
     ·rw [upd_ne _ _ htp]
      have:(a.tmps.setIfInBounds p c).getD t undef=a.tmps.getD t undef:=by
       simp [Array.getElem?_setIfInBounds_ne (Ne.symm htp)]
      rw [this]
      exact ⟨hSe t,(Rc.slot t ht id)⟩)
   have hl0:W.heap[D+1]? = some (.loop (rec .ready none)):=(R'.kept (D+1) _ (by rw [e1];exact kpl)).2.1
   have hy:=run_yield (P:=P) (args := #[c]) hl0 (by rw [hrec];rfl)
   rw [hrec] at hy
   have hy':(Instr.yield (D+1) #[c]).run P W = .ok (.round (D+1) fn (a.tmps.setIfInBounds p c) assign body) W:=by rw [hy];simp
   refine ⟨fn,_,assign,body,hy',fun m'=>roundIn_of_wpIn (F:=FR none) trivial ?_⟩
   show assign.wpIn (FR (some (D+1))) m' P _ { tmps:=a.tmps.setIfInBounds p c,defers:=[] } W
   refine wpIn_mono (awp_wpIn hG hG0 hm (old:=mk kr gc.Pr W) assign _ _ _ H' _ W hca (fun d hd (hh:L d=false)=>by have:=hLa d hd;rw [this] at hh;cases hh) rfl Rr (hround k hk H' e3)) ?_
   intro e a1 w1 hq
   cases e with
   |normal =>
    obtain ⟨g1,S1,H1,ho1,R1',hb⟩:=hq
    have hl1:w1.heap[D+1]? = some (.loop (rec .ready none)):=(R1'.kept (D+1) _ (by rw [ho1];exact krl)).2.1
    have hbr:=run_beginRound (P:=P) hl1 (by rw [hrec])
    refine ⟨_,hbr,?_⟩
    have R2:=R1'.rekeep (l:=D+1) (o := .loop (rec .ready none)) (by rw [ho1];exact krl) (.loop { rec .ready none with state := .busy })
    let kb:Nat→Option Obj:=upd kr (D+1) (some (.loop { rec .ready none with state := .busy }))
    have ho2:({ g1.old with keep:=upd g1.old.keep (D+1) (some (.loop { rec .ready none with state := .busy })) }:Old)=mk kb gc.Pr W:=by rw [ho1]
    refine wpIn_mono (awp_wpIn hG hG0 hm (old:=mk kb gc.Pr W) body _ _ _ _ _ _ hcb (fun d hd (hh:L d=false)=>by have:=hLb d hd;rw [this] at hh;cases hh) ho2 R2 hb) ?_
    have kbl:kb (D+1)=some (.loop { rec .ready none with state := .busy }):=upd_same _ _ _
    have fin:∀ (g3:Gh) (S3:Slots) (H3:Boxes) (a3:Act) (w3:World) (jump:Option Code),g3.old=mk kb gc.Pr W→Rel P w0 n NoU g3 S3 H3 a3 w3 →
      ∃ w4,(Instr.endRound (D+1) jump).run P w3 = .ok (.bool jump.isNone) w4∧(∀ b,M b→¬ G b→w4.heap[b]? = W.heap[b]?)∧∃ g4,Keeps g'.Pr g4.Pr W w4 ∧
       Rel P w0 n NoU g4 Se H3 al w4∧g4.old=mk (upd kp (D+1) (some (.loop (rec (if jump.isNone then .ready else .done) jump)))) g.old.sp g.old.sw∧∀ b,M b∧¬ G b→Free g4 b∧b < w4.heap.size∧kp b=none:=by
     intro g3 S3 H3 a3 w3 jump ho3 R3
     have hl3:w3.heap[D+1]? = some (.loop { rec .ready none with state := .busy }):=(R3.kept (D+1) _ (by rw [ho3];exact kbl)).2.1
     have her:=run_endRound (P:=P) jump hl3
     obtain ⟨w4,hw4⟩:∃ w4,w3.putObj (D+1) (.loop { ({ rec .ready none with state := .busy }:Loop) with state:=if jump.isNone then .ready else .done,pending:=jump })=w4:=⟨_,rfl⟩
     rw [hw4] at her
     have R4:=R3.rekeep (l:=D+1) (o := .loop { rec .ready none with state := .busy }) (by rw [ho3];exact kbl) (.loop { ({ rec .ready none with state := .busy }:Loop) with state:=if jump.isNone then .ready else .done,pending:=jump })
     rw [hw4] at R4
     have hrr:({ ({ rec .ready none with state := .busy }:Loop) with state:=if jump.isNone then .ready else .done,pending:=jump })=rec (if jump.isNone then .ready else .done) jump:=by rw [hrec]
     rw [hrr] at R4
     have ho4:({ g3.old with keep:=upd g3.old.keep (D+1) (some (.loop (rec (if jump.isNone then .ready else .done) jump))) }:Old)=mk (upd kr (D+1) (some (.loop (rec (if jump.isNone then .ready else .done) jump)))) gc.Pr W:=by
      rw [ho3]
      simp only [mk,Old.mk.injEq,true_and,and_true]
      funext b
      by_cases hbb:b=D+1
      ·subst hbb;simp [upd]
      ·simp [upd,kb,hbb]
     obtain ⟨g4,hg4⟩:∃ g4,({ g3 with old:={ g3.old with keep:=upd g3.old.keep (D+1) (some (.loop (rec (if jump.isNone then .ready else .done) jump))) } }:Gh)=g4:=⟨_,rfl⟩
     rw [hg4] at R4
     have ho4':g4.old=mk (upd kr (D+1) (some (.loop (rec (if jump.isNone then .ready else .done) jump)))) gc.Pr W:=by rw [← hg4];exact ho4
     have hKW:Keeps g'.Pr g4.Pr W w4:=hKc.trans (by have:=R4.still;rw [ho4'] at this;exact this)
     have hMne:∀ b,M b→b≠D+1:=by rintro b hb rfl;exact hMl hb
     have hkr:∀ b,M b→¬ G b→∃ ob,W.heap[b]? = some ob∧g4.old.keep b=some ob:=by
      intro b hb hgb
      have hlt:=(e4 b hb).2.1
      refine ⟨W.heap[b],by simp [hlt],?_⟩
      rw [ho4']
      simp [mk,upd,hMne b hb,kr,hb,hgb,hlt]
     have R5:=R4.reold (mk (upd kp (D+1) (some (.loop (rec (if jump.isNone then .ready else .done) jump)))) g.old.sp g.old.sw) (a2:=al) (S2:=Se) (by rw [ho4']) hsz rfl
      (fun q hq=>R4.facts q (by rw [ho4'];exact hq)) (by
       have h1:=R'.still
       rw [e1] at h1
       exact h1.trans hKW) (by
       have h1:=R'.grown
       rw [e1] at h1
       have h2:=R4.grown
       rw [ho4'] at h2
       exact Nat.le_trans h1 h2)
      (fun b ob hb=>by
       have hq:g4.old.keep b=some ob:=by
        rw [ho4']
        simp only [mk] at hb ⊢
        by_cases hbb:b=D+1
        ·subst hbb;simpa [upd] using hb
        ·simp only [upd_ne _ _ hbb] at hb ⊢
         simp only [kr]
         rw [if_neg];exact hb
         rintro ⟨hMb,_⟩
         rw [(e4 b hMb).2.2] at hb;cases hb
       obtain ⟨h1,h2,h3,h4,h5⟩:=R4.kept b ob hq
       exact ⟨⟨h1,h3,h4,h5⟩,h2⟩)
      (fun t ht=>hslots R4 (by rw [ho4']) t ht)
     refine ⟨w4,her,fun b hb hgb => ?_,{ g4 with old:=mk (upd kp (D+1) (some (.loop (rec (if jump.isNone then .ready else .done) jump)))) g.old.sp g.old.sw },?_,R5,rfl,fun b hb => ?_⟩
     ·obtain ⟨ob,h1,h2⟩:=hkr b hb hgb
      rw [h1];exact (R4.kept b ob h2).2.1
     ·have:(({ g4 with old:=mk (upd kp (D+1) (some (.loop (rec (if jump.isNone then .ready else .done) jump)))) g.old.sp g.old.sw }:Gh)).Pr=g4.Pr:=by
       funext b j;simp only [Gh.Pr,ho4',mk]
      rw [this];exact hKW
     ·obtain ⟨ob,h1,h2⟩:=hkr b hb.1 hb.2
      obtain ⟨q1,q2,q3,q4,q5⟩:=R4.kept b ob h2
      exact ⟨⟨q1,q3,q4,q5⟩,(Array.getElem?_eq_some_iff.1 q2).1,(e4 b hb.1).2.2⟩
    intro e2 a3 w3 hq3
    cases e2 with
    |normal =>
     obtain ⟨g3,S3,H3,ho3,R3,hI3⟩:=hq3
     obtain ⟨w4,her,q1,g4,q3,R4,q4,q5⟩:=fin g3 S3 H3 a3 w3 none ho3 R3
     refine ⟨_,w4,her,q1,g4.Pr,q3,.inl ⟨rfl,g4,H3,R4,?_,rfl,hI3,q5⟩⟩
     rw [q4]
     simp only [oldL,mk,Old.mk.injEq,true_and,and_true,Option.isNone_none,if_true]
     funext b
     by_cases hbb:b=D+1
     ·subst hbb;simp [upd,kpl]
     ·simp [upd,hbb]
    |ret =>
     obtain ⟨g3,S3,H3,ho3,R3,hI3⟩:=hq3
     obtain ⟨w4,her,q1,g4,q3,R4,q4,q5⟩:=fin g3 S3 H3 a3 w3 (some .ret) ho3 R3
     exact ⟨_,w4,her,q1,g4.Pr,q3,.inr ⟨rfl,.ret,.ret,g4,H3,R4,q4,rfl,rfl,hI3,q5⟩⟩
    |exit id =>
     obtain ⟨g3,S3,H3,ho3,R3,hI3⟩:=hq3
     obtain ⟨w4,her,q1,g4,q3,R4,q4,q5⟩:=fin g3 S3 H3 a3 w3 (some (.exit id)) ho3 R3
     exact ⟨_,w4,her,q1,g4.Pr,q3,.inr ⟨rfl,.exit id,.exit id,g4,H3,R4,q4,rfl,rfl,hI3,q5⟩⟩
    |panic ch=>obtain ⟨_,_,_,_,_,_,_,_,_,_,hh⟩:=hq3;exact hh.elim
    |goto l=>exact hq3.elim
    |outgrown=>exact hq3.elim
   |exit id=>obtain ⟨_,_,_,_,_,hh⟩:=hq;exact hh.elim
   |ret=>obtain ⟨_,_,_,_,_,hh⟩:=hq;exact hh.elim
   |panic ch=>obtain ⟨_,_,_,_,_,_,_,_,_,_,hh⟩:=hq;exact hh.elim
   |goto l=>exact hq.elim
   |outgrown=>exact hq.elim }
 have fin2:∀ (g':Gh) (H':Boxes) (w2:World) (st:LoopState) (pe:Option Code),st ≠ .busy→Rel P w0 n NoU g' Se H' al w2→g'.old=mk (upd kp (D+1) (some (.loop (rec st pe)))) g.old.sp g.old.sw →
   ∃ w4 g4,(Instr.endLoop (D+1)).run P w2 = .ok pe w4∧Rel P w0 n NoU g4 Se H' { a with defers:=[{ target := .collected D,args := #[] }]++a.defers } w4∧g4.old=g.old.mark D:=by
  intro g' H' w2 st pe hst R' e1
  have hkl:g'.old.keep (D+1)=some (.loop (rec st pe)):=by rw [e1];exact upd_same _ _ _
  have hl2:=(R'.kept (D+1) _ hkl).2.1
  have hel:=run_endLoop (P:=P) hl2 (by rw [hrec];exact hst)
  have R2:=R'.rekeep hkl (.loop { rec st pe with state := .exhausted })
  obtain ⟨W4,hW4⟩:∃ W4,w2.putObj (D+1) (.loop { rec st pe with state := .exhausted })=W4:=⟨_,rfl⟩
  rw [hW4] at hel R2
  have hpe:(rec st pe).pending=pe:=by rw [hrec]
  rw [hpe] at hel
  have hold:∀ b ob,(g.old.mark D).keep b=some ob→({ g' with old:={ g'.old with keep:=upd g'.old.keep (D+1) (some (.loop { rec st pe with state := .exhausted })) } }:Gh).old.keep b=some ob:=by
   intro b ob hb
   simp only [Old.mark] at hb
   by_cases hbD:b=D
   ·subst hbD
    rw [upd_same] at hb
    cases hb
    show upd g'.old.keep (b+1) _ b=_
    rw [upd_ne _ _ (by omega),e1]
    show upd kp (b+1) _ b=_
    rw [upd_ne _ _ (by omega)]
    show upd (upd g.old.keep b _) (b+1) _ b=_
    rw [upd_ne _ _ (by omega),upd_same]
   ·rw [upd_ne _ _ hbD] at hb
    have hlt:b < D:=by
     rcases Nat.lt_or_ge b D with h | h
     ·exact h
     ·rw [hkeepD b h] at hb;cases hb
    show upd g'.old.keep (D+1) _ b=_
    rw [upd_ne _ _ (by omega),e1]
    show upd kp (D+1) _ b=_
    rw [upd_ne _ _ (by omega)]
    show upd (upd g.old.keep D _) (D+1) _ b=_
    rw [upd_ne _ _ (by omega),upd_ne _ _ hbD];exact hb
  have R3:=R2.reold (g.old.mark D) (a2:={ a with defers:=[{ target := .collected D,args := #[] }]++a.defers }) (S2:=Se) (by show g.old.c=g'.old.c;rw [e1]) hsz (by show [_]++a.defers=_::_;rw [R.defers];rfl) (fun q hq=>R2.facts q ?_) ?_ ?_ (fun b ob hb => ?_) (fun t ht=>hslots R2 (by show g'.old.facts=_;rw [e1]) t ht)
  ·refine ⟨_,_,hel,R3,?_⟩
   rfl
  ·show q∈g'.old.facts
   rw [e1];exact List.mem_append_right _ hq
  ·have h:=R2.still
   have:({ g' with old:={ g'.old with keep:=upd g'.old.keep (D+1) (some (.loop { rec st pe with state := .exhausted })) } }:Gh).old.sp=g.old.sp:=by show g'.old.sp=_;rw [e1]
   rw [this] at h
   have:({ g' with old:={ g'.old with keep:=upd g'.old.keep (D+1) (some (.loop { rec st pe with state := .exhausted })) } }:Gh).old.sw=g.old.sw:=by show g'.old.sw=_;rw [e1]
   rw [this] at h
   exact h
  ·have h:=R2.grown
   have:({ g' with old:={ g'.old with keep:=upd g'.old.keep (D+1) (some (.loop { rec st pe with state := .exhausted })) } }:Gh).old.sw=g.old.sw:=by show g'.old.sw=_;rw [e1]
   rw [this] at h
   exact h
  ·obtain ⟨h1,h2,h3,h4,h5⟩:=R2.kept b ob (hold b ob hb)
   exact ⟨⟨h1,h3,h4,h5⟩,h2⟩
 refine ⟨D+1,[{ target := .collected D,args := #[] }],W1,{ target := .fn (.func f) us,args := #[.func (.yield (D+1)) #[] #[]] },W1,f,#[.func (.yield (D+1)) #[] #[]]++us,W1,?_,?_,fun _ _=>trivial,?_,fun h=>by simp [FR,Fence.wide] at h,?_⟩
 ·rw [← hW1,hrec,← hD];exact run_enterLoop_outer _ _ _ _ _
 ·simp only [resolve,hev]
  simp [go_sem]
 ·simp [invoke,go_sem,run_callFunc hf]
 ·refine callsIn_FR.2 ((hit (D+1) C W1 g.Pr us ?_ hcl hcr).mono ?_)
  ·refine ⟨{ g with old:=oldL },H,R1.reold oldL rfl hsz rfl (fun q hq => ?_) R1.still R1.grown (fun b ob hb => ?_) (fun t ht=>⟨hSe t,(R1.slot t ht id).noL⟩),rfl,rfl,h0,fun b hb=>hb.elim⟩
   ·rcases List.mem_append.1 hq with h | h
    ·obtain ⟨t,ht,rfl⟩:=List.mem_map.1 h
     exact (R1.slot t (List.mem_range.1 ht) id).noL
    ·exact R1.facts q h
   ·simp only [oldL,mk,kp] at hb
    by_cases h1:b=D+1
    ·subst h1
     rw [upd_same] at hb
     cases hb
     exact ⟨hfree _ (by omega),hL1⟩
    ·rw [upd_ne _ _ h1] at hb
     by_cases h2:b=D
     ·subst h2
      rw [upd_same] at hb
      cases hb
      exact ⟨hfree _ (by omega),hK1⟩
     ·rw [upd_ne _ _ h2] at hb
      obtain ⟨q1,q2,q3,q4,q5⟩:=R1.kept b ob hb
      exact ⟨⟨q1,q3,q4,q5⟩,q2⟩
  ·rintro e w2 ⟨v,M,Pr',rfl,hJ | hX⟩
   ·obtain ⟨g',H',R',e1,_,hI,_⟩:=hJ
    have hk0:upd kp (D+1) (some (.loop (rec .ready none)))=kp:=by
     funext b
     by_cases hb:b=D+1
     ·subst hb;rw [upd_same,kpl]
     ·rw [upd_ne _ _ hb]
    obtain ⟨w4,g4,h1,R4,h2⟩:=fin2 g' H' w2 .ready none (by simp) R' (by rw [hk0];exact e1)
    exact ⟨none,w4,h1,g4,Se,H',R4,by rw [h2];exact hdone D H' (hkeepD D (Nat.le_refl _)) hI⟩
   ·obtain ⟨e,jc,g',H',R',e1,ej,_,hI,_⟩:=hX
    obtain ⟨w4,g4,h1,R4,h2⟩:=fin2 g' H' w2 .done (some jc) (by simp) R' e1
    refine ⟨some jc,w4,h1,?_⟩
    have hq:=hstop D e H' (hkeepD D (Nat.le_refl _)) (by rw [ej];rfl) hI
    cases e<;>simp only [jumpOf] at ej<;>cases ej
    ·exact wpIn_exit ⟨g4,Se,H',R4,by rw [h2];exact hq⟩
    ·exact wpIn_ret ⟨g4,Se,H',R4,by rw [h2];exact hq⟩
end
end Go.AL
namespace Go.AL
open Go.RowKit
def Marked (o:Old):Prop:=∃ Ds:List Nat,Ds.Nodup∧o.ds=Ds.map (fun D=>{ target := .collected D,args := #[] })∧∀ D∈Ds,o.keep D=some (.deferred (some []))
theorem Marked.plain {o:Old} (h:o.ds=[]):Marked o:=⟨[],.nil,by simpa using h,by simp⟩
theorem Marked.mark {o:Old} {D:Nat} (h:Marked o) (hD:o.keep D=none):Marked (o.mark D):=by
 obtain ⟨Ds,h1,h2,h3⟩:=h
 have hn:D∉Ds:=fun hm=>by rw [h3 D hm] at hD;cases hD
 refine ⟨D::Ds,List.nodup_cons.2 ⟨hn,h1⟩,by simp [Old.mark,h2],fun E hE => ?_⟩
 rcases List.mem_cons.1 hE with rfl | hE
 ·exact upd_same _ _ _
 ·show upd o.keep D _ E=_
  rw [upd_ne _ _ (fun e:E=D=>hn (by rw [← e];exact hE))];exact h3 E hE
section
variable {P:Program} {GI:World→Prop} {w0:World} {n:Nat} {g:Gh} {S:Slots} {H:Boxes} {a:Act} {w:World}
theorem leaves_marks {F:Fence} {m:Nat} {fn:Func} {tmps:Array Value} {R:Ending→World→Prop}:∀ (Ds:List Nat) {g:Gh} {w:World},Rel P w0 n NoU g S H a w→Ds.Nodup→(∀ D∈Ds,g.old.keep D=some (.deferred (some []))) →
  (∀ g' w',Rel P w0 n NoU g' S H a w'→g'.old.c=g.old.c→∃ v,(results fn tmps).run P w' = .ok v w'∧R (.returned v) w') →
  LeavesInM F m P fn tmps R (Ds.map fun D=>{ target := .collected D,args := #[] }) .returning w
 |[],g,w,R',_,_,hfin=>hfin g w R' rfl
 |D::Ds,g,w,R',hnd,hk,hfin=>by
  obtain ⟨h1,h2⟩:=List.nodup_cons.1 hnd
  have hD:=hk D List.mem_cons_self
  have R2:=R'.rekeep hD (.deferred none)
  refine ⟨by simp,.inl ⟨D,_,rfl,run_takeDeferred (R'.kept D _ hD).2.1,?_⟩⟩
  refine leaves_marks Ds R2 h2 (fun E hE => ?_) (fun g' w' R3 hc=>hfin g' w' R3 hc)
  show upd g.old.keep D _ E=_
  rw [upd_ne _ _ (fun e:E=D=>h1 (by rw [← e];exact hE))];exact hk E (List.mem_cons_of_mem _ hE)
theorem Rel.begin {fn:Func} {args:List AV} {old:Nat→Nat→Prop} {cargs:Array Value} (hn:fn.ntmps=n) (hl:args.length≤n) (hlen:args.length=cargs.size)
  (hr:∀ i (h:i < args.length) (h':i < cargs.size),RV old (fun _=>none) w args[i] cargs[i]) :
  Rel P w n NoU { base:=w.heap.size,old:=Old.plain old w,al:=fun _=>none,hi:=fun _=>0,owner:=fun _=>none } (start args) (fun _=>none) { tmps:=cargs++Array.replicate (fn.ntmps - cargs.size) undef,defers:=[] } w:=by
 have hsz:(cargs++Array.replicate (fn.ntmps - cargs.size) undef).size=n:=by simp;omega
 refine { size:=hsz,defers:=rfl,facts:=fun _ h=>(by cases h),slot := ?_,own := ?_,box := ?_,alH := ?_,alU := ?_,inj := ?_,base:=rfl,below:=Below.refl _ _,fresh:=fun b _=>⟨rfl,rfl⟩,still:=⟨fun _ _ h=>h.elim,fun _ h=>h.elim⟩,grown:=Nat.le_refl _,kept:=fun _ _ h=>(by cases h) }
 ·intro t ht _
  by_cases hta:t < args.length
  ·have h1:start args t=args[t].dem:=by simp [start,hta]
   have h2:(cargs++Array.replicate (fn.ntmps - cargs.size) undef).getD t undef=cargs[t]'(by omega):=by
    have:t < cargs.size:=by omega
    simp [Array.getElem?_append,this]
   rw [h1,h2]
   refine ((hr t hta (by omega)).mono (Keeps.same fun b k hlt hp => .inl ⟨hlt,hp⟩) (fun _ _ h=>h)).dem
  ·have h1:start args t=undefA:=by simp [start,hta,undefA,AV.dem]
   have h2:(cargs++Array.replicate (fn.ntmps - cargs.size) undef).getD t undef=undef:=by
    have:¬ t < cargs.size:=by omega
    simp only [Array.getD_eq_getD_getElem?,Array.getElem?_append,this,if_false]
    by_cases hh:t - cargs.size < fn.ntmps - cargs.size
    ·simp [hh]
    ·simp [hh]
   rw [h1,h2]
   exact .data _ _ (undefRD _ _)
 ·intro t ht _
  exact ownAt_dem _ _ _
 ·intro i b h;cases h
 ·intro i cs h;cases h
 ·intro i h;rfl
 ·intro i j b h;cases h
def retS (P:Program) (n:Nat) (rs:List ResultVar) (out:AOut) (c:Nat→Nat→Prop):Post
 |.normal,o,S,H | .ret,o,S,H=>Marked o∧o.c=c∧∃ v,ares P n rs S H=some v∧out = .ret v
 |.panic v,o,_,_=>o.ds=[]∧o.c=c∧out = .panic v
 |_,_,_,_=>False
theorem AC.of_SW {f:Nat} {fn:Func} {c:Code} {args:List AV} {out:AOut} (hf:P.funcs[f]? = some fn) (hb:fn.body=some c) (hn:fn.ntmps=n) (hl:args.length≤n)
  (h:∀ cc w,SW P GI n none c (retS P n fn.results.toList out cc) (Old.plain cc w) (start args) (fun _=>none)):AC P GI f args out:=by
 intro w old cargs hGw hlen hr
 refine (callsIn_FR (ro:=none) (m:=0)).1 (callsIn_of_wp_marks hf hb trivial ?_)
 have R:Rel P w n NoU _ (start args) (fun _=>none) { tmps:=cargs++Array.replicate (fn.ntmps - cargs.size) undef,defers:=[] } w:=Rel.begin hn hl hlen hr
 refine wpIn_mono (h old w w _ _ w 0 hGw rfl R) ?_
 intro e a' w' he
 have fin:(∃ g' S H,Rel P w n NoU g' S H a' w'∧Marked g'.old∧g'.old.c=old∧∃ v,ares P n fn.results.toList S H=some v∧out = .ret v) →
   LeavesInM (FR none) 0 P fn a'.tmps (Ends P old w out) a'.defers .returning w':=by
  rintro ⟨g',S,H,R',⟨Ds,h1,h2,h3⟩,hc,v,hv,rfl⟩
  rw [R'.defers,h2]
  refine leaves_marks Ds R' h1 h3 fun g2 w2 R2 hc2 => ?_
  obtain ⟨c,r1,r2,r3⟩:=ares_sound R2 hv
  refine ⟨c,r1,?_,g2.hi,fun b hb=>(R2.fresh b hb).1,c,rfl,?_,?_⟩
  ·have:=R2.below;rwa [R2.base] at this
  ·have:g2.Pr=prOf w.heap.size old g2.hi:=by
    funext b k
    simp only [Gh.Pr,prOf,R2.base,hc2,hc]
   rw [this] at r2;exact .data _ _ r2
  ·rwa [R2.base] at r3
 cases e with
 |normal=>exact fin he
 |ret=>exact fin he
 |exit id=>obtain ⟨_,_,_,_,h⟩:=he;exact h.elim
 |panic chain =>
  obtain ⟨o,v,c,hi,S,H,h1,h2,h3,h4,h5,h6,rfl,rfl⟩:=he
  subst h2
  show LeavesInM (FR none) 0 P fn a'.tmps _ a'.defers _ w'
  rw [h1,h6]
  exact ⟨h3,hi,h4,c,rfl,h5⟩
 |goto l=>exact he.elim
 |outgrown=>exact he.elim
def postF (n:Nat) (rs:List ResultVar) (out:AOut):AExit→Slots→Boxes→Prop
 |.normal,S,H | .ret,S,H=>∃ t fn fi ca,rs=[.tmp t]∧t < n∧S t = .func fn fi ca∧out = .ret (fz H (S t))
 |_,_,_=>False
open Classical in
theorem AC.of_bodyF (hG:Stable GI) (hm:P.follows .mixedOrders=true) {f:Nat} {fn:Func} {c:Code} {args:List AV} {out:AOut} (hf:P.funcs[f]? = some fn) (hb:fn.body=some c) (hn:fn.ntmps=n) (hl:args.length≤n) {ac:ACode} (hc:compC P n c=ac)
  (h:awp P GI ac (postF n fn.results.toList out) (start args) (fun _=>none)):AC P GI f args out:=by
 intro w old cargs hGw hlen hr
 refine calls_of_wp hf hb ?_
 subst hc
 have R:Rel P w n NoU _ (start args) (fun _=>none) { tmps:=cargs++Array.replicate (fn.ntmps - cargs.size) undef,defers:=[] } w:=Rel.begin hn hl hlen hr
 refine wp_mono (awp_wp hG hGw hm c _ _ _ _ _ w (fun _ _ h=>h) rfl R h) ?_
 intro e a' w' he
 have fin:(∃ g' S H,g'.old=Old.plain old w∧Rel P w n NoU g' S H a' w'∧∃ t f' fi ca,fn.results.toList=[.tmp t]∧t < n∧S t = .func f' fi ca∧out = .ret (fz H (S t))) →
   a'.defers=[]∧∃ v,(results fn a'.tmps).run P w' = .ok v w'∧Ends P old w out (.returned v) w':=by
  rintro ⟨g',S,H,e1,R',t,f',fi,ca,hrs,ht,hS,rfl⟩
  have hrs':fn.results = #[.tmp t]:=by
   rw [← Array.toArray_toList (xs:=fn.results),hrs]
  have hv:=R'.fz (R'.slot t ht id) true (fun _=>rfl)
  have hblk:∀ b,(∃ i,g'.al i=some b)→g'.base≤b∧g'.hi b=0∧∃ vs ty,w'.heap[b]? = some (.cells vs ty (0,0)):=by
   rintro b ⟨i,hi⟩
   obtain ⟨cs,vs,ty,h1,h2,h3,h4,_⟩:=R'.box i b hi
   exact ⟨h2,h4,vs,ty,h3⟩
  let hi':Nat→Nat:=fun b=>if ∃ i,g'.al i=some b then (match w'.heap[b]? with | some (.cells vs _ _)=>vs.size | _=>0) else g'.hi b
  have hPr:∀ b k,g'.Pr b k→prOf w.heap.size old hi' b k:=by
   intro b k hp
   rcases hp with ⟨q1,q2⟩ | ⟨q1,q2⟩
   ·exact .inl ⟨by rw [← R'.base];exact q1,by rw [e1] at q2;exact q2⟩
   ·refine .inr ⟨by rw [← R'.base];exact q1,?_⟩
    show k < (if ∃ i,g'.al i=some b then _ else g'.hi b)
    rw [if_neg]
    ·exact q2
    ·intro hex;rw [(hblk b hex).2.1] at q2;omega
  refine ⟨by rw [R'.defers,e1];rfl,a'.tmps.getD t undef,by simp [results,hrs'],?_,hi',fun b hb => ?_,_,rfl,?_,?_⟩
  ·have:=R'.below;rwa [R'.base] at this
  ·show (if ∃ i,g'.al i=some b then _ else g'.hi b)=0
   rw [if_neg]
   ·exact (R'.fresh b hb).1
   ·intro hex
    obtain ⟨_,_,vs,ty,h3⟩:=hblk b hex
    have:=(Array.getElem?_eq_some_iff.1 h3).1
    omega
  ·refine hv.mono ?_ (fun _ _ h=>h)
   refine { cell:=fun b k hp u hu=>⟨?_,hu⟩,map:=fun b hp es cc hmm=>⟨?_,hmm⟩ }
   ·rcases hp with hp | ⟨_,hex⟩
    ·exact hPr b k hp
    ·obtain ⟨h1,h2,vs,ty,h3⟩:=hblk b hex
     refine .inr ⟨by rw [← R'.base];exact h1,?_⟩
     show k < (if ∃ i,g'.al i=some b then _ else g'.hi b)
     rw [if_pos hex,h3]
     simp [World.cell?,h3] at hu
     exact (Array.getElem?_eq_some_iff.1 hu).1
   ·rcases hp with hp | ⟨_,hex⟩
    ·exact hPr b 0 hp
    ·obtain ⟨h1,h2,vs,ty,h3⟩:=hblk b hex
     rw [h3] at hmm;cases hmm
  ·rw [hS]
   simp only [fz]
   trivial
 cases e with
 |normal=>exact fin he
 |ret=>exact fin he
 |exit id=>obtain ⟨_,_,_,_,_,h⟩:=he;exact h.elim
 |panic chain=>obtain ⟨_,_,_,_,_,_,_,_,_,_,h⟩:=he;exact h.elim
 |goto l=>exact he.elim
 |outgrown=>exact he.elim
end
end Go.AL
namespace Go.AL
open Go.RowKit
inductive TT (α:Type) where
 |lf (v:α)
 |nd (a b c d:TT α)
namespace TT
variable {α:Type}
noncomputable def G (z:α) (k:Nat):TT α→Nat→α :=
 Nat.rec (motive:=fun _=>TT α→Nat→α) (fun t _=>match t with | .lf v=>v | .nd .. => z)
  (fun _ ih t i=>match t with
   |.lf v=>v
   |.nd a b c d=>bif Nat.beq (i % 4) 0 then ih a (i / 4) else bif Nat.beq (i % 4) 1 then ih b (i / 4) else bif Nat.beq (i % 4) 2 then ih c (i / 4) else ih d (i / 4)) k
noncomputable def P (k:Nat):TT α→Nat→α→TT α :=
 Nat.rec (motive:=fun _=>TT α→Nat→α→TT α) (fun _ _ v => .lf v)
  (fun _ ih t i v=>match t with
   |.lf x=>bif Nat.beq (i % 4) 0 then .nd (ih (.lf x) (i / 4) v) (.lf x) (.lf x) (.lf x) else bif Nat.beq (i % 4) 1 then .nd (.lf x) (ih (.lf x) (i / 4) v) (.lf x) (.lf x) else bif Nat.beq (i % 4) 2 then .nd (.lf x) (.lf x) (ih (.lf x) (i / 4) v) (.lf x) else .nd (.lf x) (.lf x) (.lf x) (ih (.lf x) (i / 4) v)
   |.nd a b c d=>bif Nat.beq (i % 4) 0 then .nd (ih a (i / 4) v) b c d else bif Nat.beq (i % 4) 1 then .nd a (ih b (i / 4) v) c d else bif Nat.beq (i % 4) 2 then .nd a b (ih c (i / 4) v) d else .nd a b c (ih d (i / 4) v)) k
noncomputable def M (f:α→α) (k:Nat):TT α→TT α :=
 Nat.rec (motive:=fun _=>TT α→TT α) (fun t=>match t with | .lf v => .lf (f v) | t=>t)
  (fun _ ih t=>match t with
   |.lf v => .lf (f v)
   |.nd a b c d => .nd (ih a) (ih b) (ih c) (ih d)) k
end TT
abbrev TS:=TT AV
abbrev TH:=TT (Option (List AV))
noncomputable def gT (s:TS):Slots:=fun t=>bif Nat.ble 256 t then undefA else s.G undefA 4 t
noncomputable def gU (h:TH):Boxes:=fun t=>bif Nat.ble 256 t then none else h.G none 4 t
inductive ResT where
 |go (s:TS) (h:TH) | panic (v:AV)
noncomputable def ResT.on (K:Slots→Boxes→Prop) (Qp:AV→Prop):ResT→Prop
 |.go s h=>K (gT s) (gU h)
 |.panic v=>Qp v
section
variable {P:Program} {GI:World→Prop} {call:CallF} (hcall:∀ f args out,call f args=some out→AC P GI f args out)
include hcall
end
end Go.AL
namespace Go.AL
open Go.RowKit
end Go.AL
namespace Go.AL
open Go.RowKit
section
variable {P:Program} {GI:World→Prop} {n:Nat} {S:Slots} {H:Boxes} {a:Act} {w:World} {ro:Option Nat} {m:Nat} {Q:Exit→Act→World→Prop}
theorem Rel.anew (c:Nat→Nat→Prop) (hsz:a.tmps.size=n) (hds:a.defers=[]) (hS:∀ t,t < n→(S t).dem=S t∧RV c noneA w (S t) (a.tmps.getD t undef)) :
  Rel P w n NoU { base:=w.heap.size,old:=Old.plain c w,al:=noneA,hi:=fun _=>0,owner:=fun _=>none } S (fun _=>none) a w:={
 size:=hsz
 defers:=hds
 facts _ h:=by cases h
 slot t ht _:=(hS t ht).2.mono (Keeps.same fun b k hlt hp => .inl ⟨hlt,hp⟩) (fun _ _ h=>h)
 own t ht _:=by rw [← (hS t ht).1];exact OwnAt.dem
 box i b h:=by cases h
 alH i cs h:=by cases h
 alU i _:=rfl
 inj i j b h:=by cases h
 base:=rfl
 below:=Below.refl _ _
 fresh b _:=⟨rfl,rfl⟩
 still:=⟨fun _ _ h=>h.elim,fun _ h=>h.elim⟩
 grown:=Nat.le_refl _
 kept _ _ h:=by cases h }
theorem opIn_val {ops:Array Oper} {i:Nat} {rest:List Nat} {o:Oper} (ho:ops[i]? = some o) (hg:o.guard=none) (hnd:calmOp o.op=true) {v:Value} {w':World}
  (hr:(execOp a.eval o).run P w = .ok (.value v) w') (hk:wpOpsIn (FR ro) m P ops Q rest (a.put o.dst v) w'):wpOpsIn (FR ro) m P ops Q (i::rest) a w:=by
 simp only [wpOpsIn,ho]
 have:Region.wanted o (yielded ops a.tmps)=true:=by simp [Region.wanted,hg]
 rw [if_pos this]
 refine ⟨fun _ _=>trivial,?_⟩
 rw [Oper.semAt_eq _ _ _ (fun c hc=>by rw [hc] at hnd;cases hnd),hr]
 exact hk
theorem opIn_skip {ops:Array Oper} {i:Nat} {rest:List Nat} {o:Oper} (ho:ops[i]? = some o) (hg:o.guard=none) (hnd:calmOp o.op=true) {w':World}
  (hr:(execOp a.eval o).run P w = .ok .skip w') (hk:wpOpsIn (FR ro) m P ops Q rest (a.put o.dst undef) w'):wpOpsIn (FR ro) m P ops Q (i::rest) a w:=by
 simp only [wpOpsIn,ho]
 have:Region.wanted o (yielded ops a.tmps)=true:=by simp [Region.wanted,hg]
 rw [if_pos this]
 refine ⟨fun _ _=>trivial,?_⟩
 rw [Oper.semAt_eq _ _ _ (fun c hc=>by rw [hc] at hnd;cases hnd),hr]
 exact hk
theorem opIn_call {ops:Array Oper} {i:Nat} {rest:List Nat} {o:Oper} (ho:ops[i]? = some o) (hg:o.guard=none) (hnd:calmOp o.op=true) {f:Nat} {args:Array Value} {w':World}
  (hr:(execOp a.eval o).run P w = .ok (.enter f args) w') {R:Ending→World→Prop} (hc:Calls P f args w' R) (hk:∀ e w'',R e w''→∃ v,e = .returned v∧wpOpsIn (FR ro) m P ops Q rest (a.put o.dst v) w''):wpOpsIn (FR ro) m P ops Q (i::rest) a w:=by
 simp only [wpOpsIn,ho]
 have:Region.wanted o (yielded ops a.tmps)=true:=by simp [Region.wanted,hg]
 rw [if_pos this]
 refine ⟨fun _ _=>trivial,?_⟩
 rw [Oper.semAt_eq _ _ _ (fun c hc=>by rw [hc] at hnd;cases hnd),hr]
 refine ⟨fun h=>by simp [FR,Fence.wide] at h,callsIn_FR.2 (hc.mono fun e w'' hh => ?_)⟩
 obtain ⟨v,rfl,h⟩:=hk e w'' hh
 exact h
theorem opIn_round {ops:Array Oper} {i:Nat} {rest:List Nat} {o:Oper} (ho:ops[i]? = some o) (hg:o.guard=none) (hnd:calmOp o.op=true) {l f:Nat} {tmps:Array Value} {as bd:Code} {w':World}
  (hr:(execOp a.eval o).run P w = .ok (.round l f tmps as bd) w') {R:Ending→World→Prop} (hc:∀ m,RoundIn (FR none) m P l f tmps as bd w' R) (hk:∀ e w'',R e w''→∃ v,e = .returned v∧wpOpsIn (FR none) m P ops Q rest (a.put o.dst v) w''):wpOpsIn (FR none) m P ops Q (i::rest) a w:=by
 simp only [wpOpsIn,ho]
 have:Region.wanted o (yielded ops a.tmps)=true:=by simp [Region.wanted,hg]
 rw [if_pos this]
 refine ⟨fun _ _=>trivial,?_⟩
 rw [Oper.semAt_eq _ _ _ (fun c hc=>by rw [hc] at hnd;cases hnd),hr]
 refine ⟨fun h=>by simp [FR,Fence.wide] at h,(hc (m - 1)).mono fun e w'' hh => ?_⟩
 obtain ⟨v,rfl,h⟩:=hk e w'' hh
 exact h
def midQ (K:Act→World→Prop) (Q:Exit→Act→World→Prop):Exit→Act→World→Prop
 |.normal,a,w=>K a w
 |e,a,w=>Q e a w
theorem oper_midQ {F:Fence} {o:Oper} {K K':Act→World→Prop} (h:o.wpIn F m P a w K' (midQ K Q)):o.wpIn F m P a w K' Q:=by
 unfold Oper.wpIn at *
 refine ⟨h.1,?_⟩
 have h2:=h.2
 generalize (o.semAt F.round a.eval).run P w=r at *
 cases r with
 |ok x w' =>
  cases x<;>simp only [Oper.uponIn] at h2 ⊢<;>first
   |exact h2
   |exact ⟨h2.1,CallsIn.mono h2.2 (fun e w'' he=>by cases e<;>exact he)⟩
   |exact ⟨h2.1,RowsIn.mono h2.2 (fun _ _ he=>he)⟩
   |exact ⟨h2.1,RoundIn.mono h2.2 (fun e w'' he=>by cases e<;>exact he)⟩
 |halt x w'=>cases x<;>simp only [Oper.uponIn] at h2 ⊢<;>exact h2
def restOK (ops:Array Oper):Nat→Nat→Array Bool→Bool
 |0,_,listed=>Region.ready .any ops listed==[]
 |k+1,i,listed=>Region.ready .any ops listed==[i] && restOK ops k (i+1) (listed.setIfInBounds i true)
def cutOK (ops:Array Oper) (p:Nat):Nat→Array Bool→Array Bool→Bool
 |0,la,l=>(Region.ready .any (ops.extract 0 p) la==[]) && restOK ops (ops.size - p) p l
 |k+1,la,l=>let r:=Region.ready .any ops l
  r != [] && r==Region.ready .any (ops.extract 0 p) la && r.all (fun i=>decide (i < p) && cutOK ops p k (la.setIfInBounds i true) (l.setIfInBounds i true))
def cutAt (ops:Array Oper) (p:Nat):Bool :=
 decide (p≤ops.size) && ops.all (fun o=>o.guard.isNone) && cutOK ops p p (Array.replicate p false) (Array.replicate ops.size false)
theorem restOK_sound {F:Fence} {ops:Array Oper} (hg:ops.all (fun o=>o.guard.isNone)=true):∀ (k i:Nat) (l:Array Bool) (a:Act) (w:World),restOK ops k i l=true→wpOpsIn F m P ops Q (List.range' i k) a w→wpAnyIn F m P .any ops Q k l a w
 |0,i,l,a,w,h,hh=>⟨by simpa [restOK] using h,hh⟩
 |k+1,i,l,a,w,h,hh=>by
  simp only [restOK,Bool.and_eq_true,beq_iff_eq] at h
  refine ⟨fun hr=>(by rw [hr] at h;cases h.1),fun j hj => ?_⟩
  rw [h.1,List.mem_singleton] at hj
  subst hj
  simp only [List.range'_succ] at hh
  rw [wpOpsIn_cons] at hh
  exact wpOpIn_mono (fun a w hq=>restOK_sound hg k _ _ a w h.2 hq) hh
theorem cutOK_sound {F:Fence} {ops:Array Oper} {p:Nat} (hp:p≤ops.size) (hg:ops.all (fun o=>o.guard.isNone)=true):∀ (k:Nat) (la l:Array Bool) (a:Act) (w:World),cutOK ops p k la l=true →
  wpAnyIn F m P .any (ops.extract 0 p) (midQ (wpOpsIn F m P ops Q (List.range' p (ops.size - p))) Q) k la a w→wpAnyIn F m P .any ops Q (k+(ops.size - p)) l a w
 |0,la,l,a,w,h,hh=>by
  simp only [cutOK,Bool.and_eq_true] at h
  rw [Nat.zero_add]
  exact restOK_sound hg _ _ _ a w h.2 hh.2
 |k+1,la,l,a,w,h,hh=>by
  simp only [cutOK,Bool.and_eq_true,bne_iff_ne,ne_eq,beq_iff_eq,List.all_eq_true,decide_eq_true_eq] at h
  obtain ⟨⟨h1,h2⟩,h3⟩:=h
  rw [show k+1+(ops.size - p)=(k+(ops.size - p))+1 by omega]
  refine ⟨fun hr=>absurd hr h1,fun i hi => ?_⟩
  have hi':i∈Region.ready .any (ops.extract 0 p) la:=by rw [← h2];exact hi
  obtain ⟨hip,hc⟩:=h3 i hi
  have hs:=hh.2 i hi'
  unfold wpOpIn at hs ⊢
  have hget:(ops.extract 0 p)[i]? = ops[i]? := by
   rw [Array.getElem?_extract]
   have:i < min p ops.size - 0:=by omega
   rw [if_pos this,Nat.zero_add]
  rw [hget] at hs
  cases ho:ops[i]? with
  |none=>rw [ho] at hs;exact cutOK_sound hp hg k _ _ a w hc hs
  |some o =>
   rw [ho] at hs
   have hgo:o.guard=none:=by
    have:=Array.all_eq_true'.1 hg o (Array.mem_of_getElem? ho)
    simpa using this
   have hw:∀ y,Region.wanted o y=true:=fun y=>by simp [Region.wanted,hgo]
   simp only [hw,if_true] at hs ⊢
   exact Oper.wpIn_mono (fun a w hq=>cutOK_sound hp hg k _ _ a w hc hq) (oper_midQ hs)
theorem wpIn_cut (hm:P.follows .mixedOrders=true) {F:Fence} {id:Nat} {ops:Array Oper} {p:Nat} (h:cutAt ops p=true)
  (hh:wpAnyIn F m P .any (ops.extract 0 p) (midQ (wpOpsIn F m P ops Q (List.range' p (ops.size - p))) Q) p (Array.replicate p false) a { w with drawn:=w.drawn+1 }):(Code.region id ops true).wpIn F m P Q a w:=by
 simp only [cutAt,Bool.and_eq_true,decide_eq_true_eq] at h
 refine wpIn_region_any hm ?_
 have:=cutOK_sound h.1.1 h.1.2 p _ _ a _ h.2 hh
 rwa [show p+(ops.size - p)=ops.size by omega] at this
theorem wpAnyIn_mono {F:Fence} {md:Region.Mode} {ops:Array Oper} {Q':Exit→Act→World→Prop} (hQ:∀ e a w,Q e a w→Q' e a w):∀ (fuel:Nat) (l:Array Bool) (a:Act) (w:World),wpAnyIn F m P md ops Q fuel l a w→wpAnyIn F m P md ops Q' fuel l a w
 |0,_,_,_,h=>⟨h.1,hQ _ _ _ h.2⟩
 |k+1,l,a,w,h=>⟨fun hr=>hQ _ _ _ (h.1 hr),fun i hi=>by
   have hs:=h.2 i hi
   unfold wpOpIn at hs ⊢
   cases ho:ops[i]? with
   |none=>rw [ho] at hs;exact wpAnyIn_mono hQ k _ a w hs
   |some o =>
    rw [ho] at hs
    simp only at hs ⊢
    split
    ·rename_i hw
     rw [if_pos hw] at hs
     have hs:=Oper.wpIn_mono (fun a w hq=>wpAnyIn_mono hQ k _ a w hq) hs
     unfold Oper.wpIn at *
     refine ⟨hs.1,?_⟩
     have h2:=hs.2
     generalize (o.semAt F.round a.eval).run P w=r at *
     cases r with
     |ok x w' =>
      have hlo:LetsOut Q→LetsOut Q':=fun ⟨a,w,h⟩=>⟨a,w,hQ _ _ _ h⟩
      cases x<;>simp only [Oper.uponIn] at h2 ⊢<;>first
       |exact h2
       |exact ⟨h2.1,CallsIn.mono h2.2 (fun e w'' he=>by cases e<;>first | exact he | exact hQ _ _ _ he | exact hlo he)⟩
       |exact ⟨h2.1,RowsIn.mono h2.2 (fun _ _ he=>he)⟩
       |exact ⟨h2.1,RoundIn.mono h2.2 (fun e w'' he=>by cases e<;>first | exact he | exact hQ _ _ _ he | exact hlo he)⟩
     |halt x w'=>cases x<;>simp only [Oper.uponIn] at h2 ⊢<;>first | exact h2 | exact hQ _ _ _ h2
    ·rename_i hw
     rw [if_neg hw] at hs
     exact ⟨hs.1,wpAnyIn_mono hQ k _ _ w hs.2⟩⟩
end
end Go.AL
namespace Go.AL
open Go.RowKit
def FlatOf (Pr:Nat→Nat→Prop) (w:World) (size:Nat) (es:List AV) (xs:List Value):Prop :=
 (∀ x∈es,x.cells.length=size∧x.storable=true∧∀ c∈x.cells,c.one=true)∧∀ j (h:j < es.length) k (hk:k < (es[j]).cells.length),∃ u,xs[j * size+k]? = some u∧RD Pr w ((es[j]).cells[k]) u
theorem FlatOf.mono {Pr Pr':Nat→Nat→Prop} {w w':World} {size:Nat} {es:List AV} {xs:List Value} (h:FlatOf Pr w size es xs) (hk:Keeps Pr Pr' w w'):FlatOf Pr' w' size es xs :=
 ⟨h.1,fun j hj k hkk=>let ⟨u,h1,h2⟩:=h.2 j hj k hkk;⟨u,h1,h2.mono hk⟩⟩
theorem RD.ofRow {Pr:Nat→Nat→Prop} {w:World} {base:Nat} {e:TypeId} {size:Nat} {v:Value} {es:List AV} {xs:List Value} (hown:w.ownsRow base e size v es.length xs) (hf:FlatOf Pr w size es xs)
  (hpr:∀ b,v.ownBlock=some b→∀ k,k < es.length * size→Pr b k):RD Pr w (.slice .view es) v:=by
 rcases hown.2 with ⟨rfl,hn⟩ | ⟨g,cap,cur,rfl,hbg,hg,hnc,hcm,hcs,htake⟩
 ·have:es=[]:=List.eq_nil_of_length_eq_zero hn
  subst this;exact .nils _
 ·refine .slice _ es g 0 cap size (fun k=>xs.getD k undef) hnc (fun h=>by cases h) (fun i h=>(hf.1 _ (List.getElem_mem h)).1) (fun i h j hj=>(hf.1 _ (List.getElem_mem h)).2.2 _ (List.getElem_mem hj)) (fun k hk=>⟨?_,?_⟩) (fun i h j hj => ?_)
  ·rw [Nat.zero_add];exact hpr g rfl k hk
  ·have hlt:k < xs.length:=by rw [hown.1];exact hk
   have:=hown.cells (g:=g) rfl k _ (List.getElem?_eq_getElem hlt)
   rw [Addr.add_lit] at this
   simp only [List.getD_eq_getElem?_getD,List.getElem?_eq_getElem hlt,Option.getD_some]
   exact this
  ·obtain ⟨u,h1,h2⟩:=hf.2 i h j hj
   simpa [h1] using h2
theorem RD.toOwn {Pr:Nat→Nat→Prop} {w:World} {o:Ow} {es:List AV} {c:Value} (h:RD Pr w (.slice o es) c) (e:TypeId):RD Pr w (.slice (.own e) es) c:=by
 cases h with
 |nils=>exact .nils _
 |emps _ a=>exact .emps _ a
 |slice _ _ b off cap size cs hcap hn hsz h1 hc hr=>exact .slice _ es b off cap size cs hcap (fun h=>by cases h) hsz h1 hc hr
def stackA (e:TypeId) (v:Value) (es:List AV):AV:=match v.ownBlock with
 |some _ => .slice (.own e) es
 |none => .slice .nil []
theorem RD.noCells {Pr Pr':Nat→Nat→Prop} {w:World} {o:Ow} {c:Value} (h:RD Pr w (.slice o []) c):RD Pr' w (.slice .view []) c:=by
 cases h with
 |nils=>exact .nils _
 |emps _ a=>exact .emps _ a
 |slice _ _ b off cap size cs hcap hn hsz h1 hc hr=>exact .slice _ [] b off cap size cs hcap (fun h=>by cases h) (fun i h=>by simp at h) (fun i h=>by simp at h) (fun k h=>by simp at h) (fun i h=>by simp at h)
theorem FlatOf.ofOwn {Pr:Nat→Nat→Prop} {w:World} {base:Nat} {e:TypeId} {size:Nat} {o:Ow} {c:Value} {es:List AV} {xs:List Value} (hr:RD Pr w (.slice o es) c) (hown:w.ownsRow base e size c es.length xs)
  (hes:∀ x∈es,x.cells.length=size∧x.storable=true∧∀ c∈x.cells,c.one=true) (hsc:∀ x∈es,∀ c∈x.cells,scal1 c=true):FlatOf (fun _ _=>False) w size es xs:=by
 refine ⟨hes,fun j hj k hk => ?_⟩
 rcases hr.sliceCells size (by simp only [elemsOK,List.all_eq_true,Bool.and_eq_true,beq_iff_eq];exact fun x hx=>⟨(hes x hx).2.1,(hes x hx).1⟩) with ⟨rfl,_⟩ | ⟨b2,off,cap,news,hcc,hl,hn,hone,hrr⟩
 ·simp at hj
 ·obtain ⟨u,u1,u2⟩:=hrr j hj k hk
  refine ⟨u,?_,u2.scal1 (hsc _ (List.getElem_mem hj) _ (List.getElem_mem hk))⟩
  have hlt:j * size+k < xs.length:=by
   rw [hown.1,← hl];exact (List.getElem?_eq_some_iff.1 u1).1
  rcases hown.2 with ⟨hnil,h0⟩ | ⟨gg,cap',cur,hvv,_⟩
  ·rw [List.eq_nil_of_length_eq_zero h0] at hj;simp at hj
  ·have e1:=hown.cells (g:=gg) (by rw [hvv];rfl) _ _ (List.getElem?_eq_getElem hlt)
   have e2:=hn _ _ u1
   rw [hvv] at hcc
   cases hcc
   rw [Addr.add_lit,Nat.zero_add] at e1
   rw [Nat.zero_add] at e2
   rw [e2] at e1
   rw [List.getElem?_eq_getElem hlt,Option.some.inj e1]
section
variable {P:Program} {n:Nat} {S:Slots} {a:Act} {w:World}
def stackOld (pr:Nat→Nat→Prop) (w:World) (bN:Nat) (v:Value):Old :=
 { c:=pr,facts:=[],bx:=fun _=>False,ds:=[],keep:=fun b=>if bN < b∧v.ownBlock≠some b then w.heap[b]? else none,sp:=fun _ _=>False,sw:=w,ok:=fun _ h=>by cases h }
theorem Rel.stack (pr:Nat→Nat→Prop) {bN nm:Nat} {v:Value} {e ty:TypeId} {i:TypeInfo} {es:List AV} {xs:List Value} (hsz:a.tmps.size=n) (hds:a.defers=[])
  (hN:w.heap[bN]? = some (.cells #[v] ty (0,0))) (hi:P.info? e=some i) (hown:w.ownsRow (bN+1) e i.size v es.length xs) (hf:FlatOf (fun b k=>b < bN∧pr b k) w i.size es xs)
  (hS:∀ t,t < n→(S t).dem=S t∧((S t = .box nm 0∧a.tmps.getD t undef = .pointer (some ⟨bN,0,none⟩))∨RV (fun b k=>b < bN∧pr b k) noneA w (S t) (a.tmps.getD t undef))) :
  ∃ g,g.old=stackOld pr w bN v∧g.base=bN∧g.al=(fun j=>if j=nm then some bN else none) ∧
   Rel P { w with heap:=w.heap.extract 0 bN } n NoU g S (fun j=>if j=nm then some [stackA e v es] else none) a w:=by
 have hlt:=(Array.getElem?_eq_some_iff.1 hN).1
 let g:Gh:={ base:=bN,old:=stackOld pr w bN v,al:=fun j=>if j=nm then some bN else none,hi:=fun b=>if v.ownBlock=some b then es.length * i.size else 0,owner:=fun b=>if v.ownBlock=some b then some (.cell nm 0) else none }
 have hPr:∀ b k,b < bN∧pr b k→g.Pr b k:=fun b k h => .inl h
 have hvb:∀ b,v.ownBlock=some b→bN < b∧b < w.heap.size:=fun b hb=>hown.lt b hb
 have hself:v.ownBlock≠some bN:=fun h=>by have:=hvb _ h;omega
 have hone:v.oneCell'=true:=by
  rcases hown.2 with ⟨rfl,_⟩ | ⟨_,_,_,rfl,_⟩<;>rfl
 have hrd:RD g.Pr w (stackA e v es) v:=by
  unfold stackA
  rcases hown.2 with ⟨rfl,hn⟩ | ⟨gg,cap,cur,rfl,hbg,hg,hnc,hcm,hcs,htake⟩
  ·exact .nils _
  ·simp only [Value.ownBlock]
   have h1:RD g.Pr w (.slice .view es) (.slice (some ⟨gg,0,none⟩) es.length cap):=RD.ofRow hown (hf.mono (Keeps.same fun b k _ h=>hPr b k h)) (fun b hb k hk=>by
    refine .inr ⟨by have:=(hvb b hb).1;show bN≤b;omega,?_⟩
    show k < (if _=some b then es.length * i.size else 0)
    rw [if_pos hb];exact hk)
   exact h1.toOwn e
 refine ⟨g,rfl,rfl,rfl,{ size:=hsz,defers:=hds,facts:=fun _ h=>(by cases h),slot := ?_,own := ?_,box := ?_,alH := ?_,alU:=fun i h=>h.elim,inj := ?_,base := ?_,below := ?_,fresh := ?_,still:=⟨fun _ _ h=>h.elim,fun _ h=>h.elim⟩,grown:=Nat.le_refl _,kept := ?_ }⟩
 ·intro t ht _
  rcases (hS t ht).2 with ⟨h1,h2⟩ | h
  ·rw [h1,h2];exact .box _ _ _ (by simp [g])
  ·exact h.mono (Keeps.same fun b k _ h=>hPr b k h) (fun _ _ h=>by cases h)
 ·intro t ht _
  rw [← (hS t ht).1];exact OwnAt.dem
 ·intro j b hj
  by_cases hjn:j=nm
  ·subst hjn
   have hb:b=bN:=by simpa [g] using hj.symm
   subst hb
   refine ⟨[stackA e v es],#[v],ty,by simp,Nat.le_refl _,hN,by simp [g,hself],by simp [g,hself],rfl,fun k hk hk' => ?_,fun k hk hk' => ?_,fun k hk => ?_⟩
   ·have:k=0:=by simpa using hk
    subst this;exact hrd
   ·have:k=0:=by simpa using hk
    subst this
    simp only [List.getElem_cons_zero,List.getElem_toArray]
    unfold stackA
    cases hvo:v.ownBlock with
    |none=>trivial
    |some b' =>
     refine ⟨i,xs,b',hi,?_,hvo,by simp [g,hvo],by simp [g,hvo]⟩
     refine ⟨hown.1,?_⟩
     rcases hown.2 with h | ⟨gg,cap,cur,rfl,hbg,rest⟩
     ·exact .inl h
     ·exact .inr ⟨gg,cap,cur,rfl,Nat.le_trans (Nat.le_succ _) hbg,rest⟩
   ·have:k=0:=by simpa using hk
    subst this
    simp only [List.getElem_cons_zero]
    unfold stackA
    cases v.ownBlock<;>rfl
  ·simp [g,hjn] at hj
 ·intro j cs hj _
  by_cases hjn:j=nm
  ·subst hjn;simp [g]
  ·simp [hjn] at hj
 ·intro j k b hj hk
  by_cases hjn:j=nm<;>by_cases hkn:k=nm
  ·rw [hjn,hkn]
  ·simp [g,hkn] at hk
  ·simp [g,hjn] at hj
  ·simp [g,hjn] at hj
 ·show bN=(w.heap.extract 0 bN).size
  simp;omega
 ·refine ⟨rfl,rfl,rfl,by simp;omega,fun k hk => ?_⟩
  have hk':k < bN:=hk
  show w.heap[k]? = (w.heap.extract 0 bN)[k]?
  rw [Array.getElem?_extract,if_pos (by omega),Nat.zero_add]
 ·intro b hb
  have:v.ownBlock≠some b:=fun h=>by have:=hvb b h;omega
  simp [g,this]
 ·intro b o h
  simp only [g,stackOld] at h
  split at h
  case isFalse=>cases h
  rename_i hc
  refine ⟨by show bN≤b;omega,h,by simp [g,hc.2],by simp [g,hc.2],fun j hj => ?_⟩
  by_cases hjn:j=nm
  ·simp [g,hjn] at hj;omega
  ·simp [g,hjn] at hj
theorem Rel.stackEnd {w0 w':World} {g':Gh} {S':Slots} {H':Boxes} {a':Act} (pr:Nat→Nat→Prop) {bN nm:Nat} {v:Value} {e:TypeId} {i:TypeInfo} {es':List AV} (hi:P.info? e=some i)
  (R:Rel P w0 n NoU g' S' H' a' w') (hold:g'.old=stackOld pr w bN v) (hbase:g'.base=bN) (hb0:∀ b,b < bN→w0.heap[b]? = w.heap[b]?) (hal:g'.al nm=some bN) (hH:H' nm=some [.slice (.own e) es'])
  (hes:∀ x∈es',x.cells.length=i.size∧x.storable=true∧∀ c∈x.cells,c.one=true) (hsc:∀ x∈es',∀ c∈x.cells,scal1 c=true) :
  ∃ v' ty' xs',w'.heap[bN]? = some (.cells #[v'] ty' (0,0))∧w'.ownsRow (bN+1) e i.size v' es'.length xs'∧FlatOf (fun _ _=>False) w' i.size es' xs' ∧
   (∀ b,b < w.heap.size→b≠bN→v.ownBlock≠some b→w'.heap[b]? = w.heap[b]?)∧∀ b,v'.ownBlock=some b→v.ownBlock=some b∨w.heap.size≤b:=by
 obtain ⟨cs,vs,ty,h1,h2,h3,h4,h5,h6,h7,h8,h9⟩:=R.box nm bN hal
 rw [hH] at h1
 cases h1
 have hvs:vs.size=1:=h6.symm
 obtain ⟨v',hv'⟩:∃ v',vs = #[v']:=⟨vs[0],by
  apply Array.ext
  ·simpa using hvs
  ·intro j hj hj'
   have:j=0:=by omega
   subst this;rfl⟩
 subst hv'
 have hr:=h7 0 (by simp) (by simp)
 have ho:=h8 0 (by simp) (by simp)
 simp only [List.getElem_cons_zero,List.getElem_toArray] at hr ho
 obtain ⟨i',xs,b,k1,k2,k3,k4,k5⟩:=ho
 rw [hi] at k1;cases k1
 have hne:b≠bN:=by
  rintro rfl
  rw [h5] at k4;cases k4
 refine ⟨v',ty,xs,h3,?_,⟨hes,fun j hj k hk => ?_⟩,fun b' hb' hbN hbv => ?_,fun b' hb' => ?_⟩
 ·refine ⟨k2.1,?_⟩
  rcases k2.2 with h | ⟨gg,cap,cur,rfl,hbg,rest⟩
  ·exact .inl h
  ·have:gg=b:=by simpa [Value.ownBlock] using k3
   subst this
   exact .inr ⟨gg,cap,cur,rfl,by rw [hbase] at hbg;omega,rest⟩
 ·rcases hr.sliceCells i.size (by simp only [elemsOK,List.all_eq_true,Bool.and_eq_true,beq_iff_eq];exact fun x hx=>⟨(hes x hx).2.1,(hes x hx).1⟩) with ⟨rfl,_⟩ | ⟨b2,off,cap,news,hcc,hl,hn,hone,hrr⟩
  ·simp at hj
  ·obtain ⟨u,u1,u2⟩:=hrr j hj k hk
   refine ⟨u,?_,u2.scal1 (hsc _ (List.getElem_mem hj) _ (List.getElem_mem hk))⟩
   have hlt:j * i.size+k < xs.length:=by
    rw [k2.1,← hl];exact (List.getElem?_eq_some_iff.1 u1).1
   have e1:=k2.cells k3 _ _ (List.getElem?_eq_getElem hlt)
   have e2:=hn _ _ u1
   rcases k2.2 with ⟨hnil,_⟩ | ⟨gg,cap',cur,hvv,_⟩
   ·rw [hnil] at k3;cases k3
   ·rw [hvv] at hcc k3
    have hgb:gg=b:=by simpa [Value.ownBlock] using k3
    subst hgb
    cases hcc
    rw [Addr.add_lit,Nat.zero_add] at e1
    rw [Nat.zero_add] at e2
    rw [e2] at e1
    rw [List.getElem?_eq_getElem hlt,Option.some.inj e1]
 ·rcases Nat.lt_or_ge b' bN with hlt | hge
  ·have:=R.below.block b' (by rw [hbase];exact hlt)
   rw [this];exact hb0 b' hlt
  ·have hkp:g'.old.keep b'=w.heap[b']? := by
    rw [hold]
    simp only [stackOld]
    rw [if_pos ⟨by omega,hbv⟩]
   have:w.heap[b']? = some (w.heap[b']):=by simp [hb']
   rw [this] at hkp
   rw [(R.kept b' _ hkp).2.1,this]
 ·rw [k3] at hb'
  cases hb'
  rcases Nat.lt_or_ge b w.heap.size with hlt | hge
  ·by_cases hbv:v.ownBlock=some b
   ·exact .inl hbv
   ·exfalso
    have hbb:bN≤b:=by
     have:=(k2.lt b k3).1
     rw [hbase] at this;exact this
    have hkp:g'.old.keep b=w.heap[b]? := by
     rw [hold]
     simp only [stackOld]
     rw [if_pos ⟨by omega,hbv⟩]
    have:w.heap[b]? = some (w.heap[b]):=by simp [hlt]
    rw [this] at hkp
    have:=(R.kept b _ hkp).2.2.2.1
    rw [k4] at this;cases this
  ·exact .inr hge
end
end Go.AL
namespace Go.AL
open Go.RowKit
section
variable {P:Program} {GI:World→Prop} {n:Nat} {S:Slots} {H:Boxes} {a:Act} {w:World} {ro:Option Nat} {m:Nat} {Q Q':Exit→Act→World→Prop} {F:Fence}
theorem operIn_mono {o:Oper} {K K':Act→World→Prop} (hK:∀ a w,K a w→K' a w) (hQ:∀ e a w,e ≠ .normal→Q e a w→Q' e a w) (hs:o.wpIn F m P a w K Q):o.wpIn F m P a w K' Q':=by
 have hs:=Oper.wpIn_mono hK hs
 unfold Oper.wpIn at *
 refine ⟨hs.1,?_⟩
 have h2:=hs.2
 generalize (o.semAt F.round a.eval).run P w=r at *
 have hlo:LetsOut Q→LetsOut Q':=fun ⟨a,w,h⟩=>⟨a,w,hQ _ _ _ (by simp) h⟩
 cases r with
 |ok x w' =>
  cases x<;>simp only [Oper.uponIn] at h2 ⊢<;>first
   |exact h2
   |exact ⟨h2.1,CallsIn.mono h2.2 (fun e w'' he=>by cases e<;>first | exact he | exact hQ _ _ _ (by simp) he | exact hlo he)⟩
   |exact ⟨h2.1,RowsIn.mono h2.2 (fun _ _ he=>he)⟩
   |exact ⟨h2.1,RoundIn.mono h2.2 (fun e w'' he=>by cases e<;>first | exact he | exact hQ _ _ _ (by simp) he | exact hlo he)⟩
 |halt x w'=>cases x<;>simp only [Oper.uponIn] at h2 ⊢<;>first | exact h2 | exact hQ _ _ _ (by simp) h2
theorem wpOpsIn_mono {ops:Array Oper} (hQ:∀ e a w,Q e a w→Q' e a w):∀ (l:List Nat) (a:Act) (w:World),wpOpsIn F m P ops Q l a w→wpOpsIn F m P ops Q' l a w
 |[],a,w,h=>hQ _ _ _ h
 |i::l,a,w,h=>by
  simp only [wpOpsIn] at h ⊢
  cases ho:ops[i]? with
  |none=>simp only [ho] at h ⊢;exact wpOpsIn_mono hQ l a w h
  |some o =>
   simp only [ho] at h ⊢
   split
   ·rename_i hw;rw [if_pos hw] at h
    exact operIn_mono (fun a w hh=>wpOpsIn_mono hQ l a w hh) (fun e a w _ hh=>hQ e a w hh) h
   ·rename_i hw;rw [if_neg hw] at h
    exact ⟨h.1,wpOpsIn_mono hQ l _ w h.2⟩
def Same (W:Nat→Bool) (a a':Act):Prop:=∀ t,W t=false→a'.tmps.getD t undef=a.tmps.getD t undef
theorem Same.refl (W:Nat→Bool) (a:Act):Same W a a:=fun _ _=>rfl
theorem Same.trans {W:Nat→Bool} {a a' a'':Act} (h:Same W a a') (h':Same W a' a''):Same W a a'':=fun t ht=>(h' t ht).trans (h t ht)
theorem Same.put {W:Nat→Bool} {a:Act} {d:Option Nat} (hd:∀ t,d=some t→W t=true) (v:Value):Same W a (a.put d v):=by
 intro t ht
 cases d with
 |none=>rfl
 |some k =>
  have:t≠k:=by rintro rfl;rw [hd t rfl] at ht;cases ht
  simp [Act.put,Array.getElem?_setIfInBounds_ne (Ne.symm this)]
theorem operIn_frame {W:Nat→Bool} {o:Oper} {K:Act→World→Prop} (hd:∀ t,o.dst=some t→W t=true) (h:o.wpIn F m P a w K Q):o.wpIn F m P a w (fun a' w'=>K a' w'∧Same W a a') Q:=by
 unfold Oper.wpIn at *
 refine ⟨h.1,?_⟩
 have h2:=h.2
 generalize (o.semAt F.round a.eval).run P w=r at *
 cases r with
 |ok x w' =>
  cases x<;>simp only [Oper.uponIn] at h2 ⊢<;>first
   |exact ⟨h2,Same.put hd _⟩
   |exact ⟨h2,(Same.put (a:={ a with defers:=_ }) hd _:Same W { a with defers:=_ } _)⟩
   |exact ⟨h2.1,CallsIn.mono h2.2 (fun e w'' he=>by cases e<;>first | exact ⟨he,Same.put hd _⟩ | exact he)⟩
   |exact ⟨h2.1,RowsIn.mono h2.2 (fun _ _ he=>⟨he,Same.put hd _⟩)⟩
   |exact ⟨h2.1,RoundIn.mono h2.2 (fun e w'' he=>by cases e<;>first | exact ⟨he,Same.put hd _⟩ | exact he)⟩
 |halt x w'=>cases x<;>simp only [Oper.uponIn] at h2 ⊢<;>exact h2
def Writes (ops:Array Oper) (W:Nat→Bool):Bool:=ops.all fun o=>match o.dst with | some t=>W t | none=>true
theorem Writes.spec {ops:Array Oper} {W:Nat→Bool} (h:Writes ops W=true) {i:Nat} {o:Oper} (ho:ops[i]? = some o):∀ t,o.dst=some t→W t=true:=by
 intro t ht
 have:=Array.all_eq_true'.1 h o (Array.mem_of_getElem? ho)
 simpa [ht] using this
def frQ (W:Nat→Bool) (a:Act) (Q:Exit→Act→World→Prop):Exit→Act→World→Prop
 |.normal,a',w'=>Q .normal a' w'∧Same W a a'
 |e,a',w'=>Q e a' w'
theorem frQ.next {W:Nat→Bool} {a₀ a₁:Act} (h:Same W a₀ a₁):∀ e a w,frQ W a₁ Q e a w→frQ W a₀ Q e a w:=by
 intro e a w hh
 cases e<;>first | exact hh | exact ⟨hh.1,h.trans hh.2⟩
theorem wpOpsIn_frame {ops:Array Oper} {W:Nat→Bool} (hW:Writes ops W=true):∀ (l:List Nat) (a:Act) (w:World),wpOpsIn F m P ops Q l a w→wpOpsIn F m P ops (frQ W a Q) l a w
 |[],a,w,h=>⟨h,Same.refl _ _⟩
 |i::l,a,w,h=>by
  simp only [wpOpsIn] at h ⊢
  cases ho:ops[i]? with
  |none=>simp only [ho] at h ⊢;exact wpOpsIn_frame hW l a w h
  |some o =>
   simp only [ho] at h ⊢
   split
   ·rename_i hw;rw [if_pos hw] at h
    refine operIn_mono (fun a' w' hh=>wpOpsIn_mono (frQ.next hh.2) l a' w' (wpOpsIn_frame hW l a' w' hh.1)) (fun e a w hne hh => ?_) (operIn_frame (Writes.spec hW ho) h)
    cases e<;>first | exact hh | exact absurd rfl hne
   ·rename_i hw;rw [if_neg hw] at h
    exact ⟨h.1,wpOpsIn_mono (frQ.next (Same.put (Writes.spec hW ho) _)) l _ w (wpOpsIn_frame hW l _ w h.2)⟩
theorem wpAnyIn_frame {ops:Array Oper} {md:Region.Mode} {W:Nat→Bool} (hW:Writes ops W=true):∀ (fuel:Nat) (l:Array Bool) (a:Act) (w:World),wpAnyIn F m P md ops Q fuel l a w→wpAnyIn F m P md ops (frQ W a Q) fuel l a w
 |0,l,a,w,h=>⟨h.1,h.2,Same.refl _ _⟩
 |k+1,l,a,w,h=>⟨fun hr=>⟨h.1 hr,Same.refl _ _⟩,fun i hi=>by
   have hs:=h.2 i hi
   unfold wpOpIn at hs ⊢
   cases ho:ops[i]? with
   |none=>rw [ho] at hs;exact wpAnyIn_frame hW k _ a w hs
   |some o =>
    rw [ho] at hs
    simp only at hs ⊢
    split
    ·rename_i hw
     rw [if_pos hw] at hs
     refine operIn_mono (fun a' w' hh=>wpAnyIn_mono (frQ.next hh.2) k _ a' w' (wpAnyIn_frame hW k _ a' w' hh.1)) (fun e a w hne hh => ?_) (operIn_frame (Writes.spec hW ho) hs)
     cases e<;>first | exact hh | exact absurd rfl hne
    ·rename_i hw
     rw [if_neg hw] at hs
     exact ⟨hs.1,wpAnyIn_mono (frQ.next (Same.put (Writes.spec hW ho) _)) k _ _ w (wpAnyIn_frame hW k _ _ w hs.2)⟩⟩
theorem region_anew (hG:Stable GI) (hm:P.follows .mixedOrders=true) {id:Nat} {ops:Array Oper} {draw:Bool} (hc:calmC (.region id ops draw)=true) {ac:ACode} (hac:compC P n (.region id ops draw)=ac) {W:Nat→Bool} (hW:Writes ops W=true) (hGw:GI w) (pr:Nat→Nat→Prop) (S:Slots)
  (hsz:a.tmps.size=n) (hds:a.defers=[]) (hS:∀ t,t < n→(S t).dem=S t∧RV pr noneA w (S t) (a.tmps.getD t undef)) {K:Slots→Boxes→Prop} (h:awp P GI ac (assignQ K) S (fun _=>none))
  (hk:∀ g S' H' a' w',g.old=Old.plain pr w→Rel P w n NoU g S' H' a' w'→K S' H'→Same W a a'→Q .normal a' w'):(Code.region id ops draw).wpIn (FR ro) m P Q a w:=by
 subst hac
 have R:=Rel.anew (P:=P) pr hsz hds hS
 have fin:∀ e a' w',frQ W a (QQ P w n (Old.plain pr w) (assignQ K)) e a' w'→Q e a' w':=by
  intro e a' w' hq
  cases e with
  |normal =>
   obtain ⟨⟨g',S',H',h1,h2,h3⟩,h4⟩:=hq
   exact hk g' S' H' a' w' h1 h2 h3 h4
  |exit id=>obtain ⟨_,_,_,_,_,h⟩:=hq;exact h.elim
  |ret=>obtain ⟨_,_,_,_,_,h⟩:=hq;exact h.elim
  |panic ch=>obtain ⟨_,_,_,_,_,_,_,_,_,_,h⟩:=hq;exact h.elim
  |goto l=>exact hq.elim
  |outgrown=>exact hq.elim
 simp only [compC] at h
 cases draw with
 |true =>
  simp only [if_true] at h
  split at h
  case isFalse=>exact h.elim
  rename_i hok
  exact wpIn_region_any hm (wpAnyIn_mono fin _ _ _ _ (wpAnyIn_frame hW _ _ _ _ (dregion_any hG hGw hm (old:=Old.plain pr w) hc hok (fun _ _ _ _ h=>h) rfl R h)))
 |false =>
  simp only [Bool.false_eq_true,if_false] at h
  split at h
  case isFalse=>exact h.elim
  rename_i hok
  exact wpIn_region (wpOpsIn_mono fin _ _ _ (wpOpsIn_frame hW _ _ _ (region_ops hG hGw (old:=Old.plain pr w) hc hok (fun _ _ _ _ h=>h) rfl R h)))
theorem cut_anew (hG:Stable GI) (hm:P.follows .mixedOrders=true) {id:Nat} {ops:Array Oper} {p:Nat} (hcut:cutAt ops p=true) (hnd:(ops.extract 0 p).all (fun o=>calmOp o.op)=true) (hok:dOK P n (ops.extract 0 p)=true)
  {l:List AOpr} (hl:compOps P n true (ops.extract 0 p)=l) (hsp:(ops.extract 0 p).size=p) {W:Nat→Bool} (hW:Writes (ops.extract 0 p) W=true) (hGw:GI w) (pr:Nat→Nat→Prop) (S:Slots)
  (hsz:a.tmps.size=n) (hds:a.defers=[]) (hS:∀ t,t < n→(S t).dem=S t∧RV pr noneA w (S t) (a.tmps.getD t undef)) {K:Slots→Boxes→Prop}
  (h:dops P GI l K (prol l S) (prolH l (fun _=>none)))
  (hk:∀ g S' H' a' w',g.old=Old.plain pr w→Rel P w n NoU g S' H' a' w'→K S' H'→Same W a a'→wpOpsIn (FR ro) m P ops Q (List.range' p (ops.size - p)) a' w') :
  (Code.region id ops true).wpIn (FR ro) m P Q a w:=by
 refine wpIn_cut hm hcut ?_
 have key:=dregion_any (ro:=ro) (m:=m) (a:=a) (w:=w) hG hGw hm (old:=Old.plain pr w) (ops:=ops.extract 0 p) (Q:=assignQ K) hnd hok (fun _ _ _ _ h=>h) rfl (Rel.anew pr hsz hds hS) (by subst hl;exact h)
 rw [hsp] at key
 refine wpAnyIn_mono ?_ _ _ _ _ (wpAnyIn_frame hW _ _ _ _ key)
 intro e a' w' hq
 cases e with
 |normal =>
  obtain ⟨⟨g',S',H',h1,h2,h3⟩,h4⟩:=hq
  exact hk g' S' H' a' w' h1 h2 h3 h4
 |exit id=>obtain ⟨_,_,_,_,_,h⟩:=hq;exact h.elim
 |ret=>obtain ⟨_,_,_,_,_,h⟩:=hq;exact h.elim
 |panic ch=>obtain ⟨_,_,_,_,_,_,_,_,_,_,h⟩:=hq;exact h.elim
 |goto l=>exact hq.elim
 |outgrown=>exact hq.elim
theorem region_stack (hm:P.follows .mixedOrders=true) {id:Nat} {ops:Array Oper} {draw:Bool} (hc:calmC (.region id ops draw)=true) {ac:ACode} (hac:compC P n (.region id ops draw)=ac) (hnm:ac.names=[]) {W:Nat→Bool} (hW:Writes ops W=true) (pr:Nat→Nat→Prop) (S:Slots)
  {bN nm tp:Nat} {v:Value} {e ty:TypeId} {i:TypeInfo} {es es':List AV} {xs:List Value} (htp:tp < n) (hWt:W tp=false) (hptr:a.tmps.getD tp undef = .pointer (some ⟨bN,0,none⟩)) (hsz:a.tmps.size=n) (hds:a.defers=[])
  (hN:w.heap[bN]? = some (.cells #[v] ty (0,0))) (hi:P.info? e=some i) (hown:w.ownsRow (bN+1) e i.size v es.length xs) (hf:FlatOf (fun b k=>b < bN∧pr b k) w i.size es xs)
  (hS:∀ t,t < n→(S t).dem=S t∧((S t = .box nm 0∧a.tmps.getD t undef = .pointer (some ⟨bN,0,none⟩))∨RV (fun b k=>b < bN∧pr b k) noneA w (S t) (a.tmps.getD t undef)))
  (h:awp P (fun _=>True) ac (assignQ fun S' H'=>S' tp = .box nm 0∧H' nm=some [.slice (.own e) es']) S (fun j=>if j=nm then some [stackA e v es] else none))
  (hes:∀ x∈es',x.cells.length=i.size∧x.storable=true∧∀ c∈x.cells,c.one=true) (hsc:∀ x∈es',∀ c∈x.cells,scal1 c=true)
  (hk:∀ a' w' v' ty' xs',a'.tmps.size=n→a'.defers=[]→Same W a a'→w'.heap[bN]? = some (.cells #[v'] ty' (0,0))→w'.ownsRow (bN+1) e i.size v' es'.length xs'→FlatOf (fun _ _=>False) w' i.size es' xs' →
   Turn (fun b=>b=bN∨v.ownBlock=some b) w w'→(∀ b,v'.ownBlock=some b→v.ownBlock=some b∨w.heap.size≤b)→Q .normal a' w'):(Code.region id ops draw).wpIn (FR ro) m P Q a w:=by
 subst hac
 obtain ⟨g,hg1,hg2,hg3,R⟩:=Rel.stack (P:=P) (nm:=nm) (S:=S) (a:=a) pr hsz hds hN hi hown hf hS
 have hlt:=(Array.getElem?_eq_some_iff.1 hN).1
 have fin:∀ e1 a' w',frQ W a (QQ P { w with heap:=w.heap.extract 0 bN } n (stackOld pr w bN v) (assignQ fun S' H'=>S' tp = .box nm 0∧H' nm=some [.slice (.own e) es'])) e1 a' w'→Q e1 a' w':=by
  intro e1 a' w' hq
  cases e1 with
  |normal =>
   obtain ⟨⟨g',S',H',h1,h2,h3⟩,h4⟩:=hq
   have hgb:g'.base=bN:=by rw [h2.base];simp;omega
   have hal:g'.al nm=some bN:=by
    have hs:=h2.slot tp htp (fun hh=>hh)
    rw [h3.1,h4 tp hWt,hptr] at hs
    cases hs with
    |data _ _ h=>cases h
    |box _ _ b h=>exact h
   obtain ⟨v',ty',xs',k1,k2,k3,k4,k5⟩:=Rel.stackEnd (w:=w) pr hi h2 h1 hgb (fun b hb=>by
    show (w.heap.extract 0 bN)[b]? = w.heap[b]?
    rw [Array.getElem?_extract,if_pos (by omega),Nat.zero_add]) hal h3.2 hes hsc
   have hgr:=h2.grown
   rw [h1] at hgr
   refine hk a' w' v' ty' xs' h2.size (by rw [h2.defers,h1];rfl) h4 k1 k2 k3 ⟨h2.below.os,h2.below.tape,h2.below.output,hgr,fun b hb hM => ?_⟩ k5
   exact k4 b hb (fun h=>hM (.inl h)) (fun h=>hM (.inr h))
  |exit id=>obtain ⟨_,_,_,_,_,h⟩:=hq;exact h.elim
  |ret=>obtain ⟨_,_,_,_,_,h⟩:=hq;exact h.elim
  |panic ch=>obtain ⟨_,_,_,_,_,_,_,_,_,_,h⟩:=hq;exact h.elim
  |goto l=>exact hq.elim
  |outgrown=>exact hq.elim
 simp only [compC] at h hnm
 have hb:∀ (b:Nat),(stackOld pr w bN v).bx b→False:=fun _ h=>h
 cases draw with
 |true =>
  simp only [if_true] at h
  split at h
  case isFalse=>exact h.elim
  rename_i hok
  exact wpIn_region_any hm (wpAnyIn_mono fin _ _ _ _ (wpAnyIn_frame hW _ _ _ _ (dregion_any (GI:=fun _=>True) (fun _ _ _ _=>trivial) trivial hm hc hok (fun _ _ _ _ h=>h) hg1 R h)))
 |false =>
  simp only [Bool.false_eq_true,if_false] at h
  split at h
  case isFalse=>exact h.elim
  rename_i hok
  exact wpIn_region (wpOpsIn_mono fin _ _ _ (wpOpsIn_frame hW _ _ _ (region_ops (GI:=fun _=>True) (fun _ _ _ _=>trivial) trivial hc hok (fun _ _ _ _ h=>h) hg1 R h)))
theorem Rel.freshSlice {w0 w':World} {g:Gh} {S':Slots} {H':Boxes} {a':Act} (R:Rel P w0 n NoU g S' H' a' w') {t:Nat} (ht:t < n) {e:TypeId} {i:TypeInfo} (hi:P.info? e=some i) {es:List AV} (hS:S' t = .slice (if es.isEmpty then .nil else .own e) es)
  (hes:∀ x∈es,x.cells.length=i.size∧x.storable=true∧∀ c∈x.cells,c.one=true) (hsc:∀ x∈es,∀ c∈x.cells,scal1 c=true) :
  RD (fun b j=>(g.base≤b∧b < w'.heap.size)∧j < g.hi b) w' (.slice .view es) (a'.tmps.getD t undef):=by
 have h1:=(R.slot t ht id)
 have h2:=(R.own t ht id)
 rw [hS] at h1 h2
 have h1:=h1.toData rfl
 cases es with
 |nil=>exact h1.noCells
 |cons x es =>
  simp only [List.isEmpty_cons,Bool.false_eq_true,if_false] at h1 h2
  obtain ⟨i',xs,b,k1,k2,k3,k4,k5⟩:=h2
  rw [hi] at k1;cases k1
  have hf:=FlatOf.ofOwn h1 k2 hes hsc
  refine RD.ofRow k2 (hf.mono (Keeps.same fun _ _ _ h=>h.elim)) fun b' hb' k hk => ?_
  rw [k3] at hb';cases hb'
  exact ⟨k2.lt b k3,by rw [k5];exact hk⟩
end
end Go.AL
namespace Go.AL
open Go.RowKit
section
variable {P:Program} {GI:World→Prop} {n:Nat} {S:Slots} {H:Boxes} {a:Act} {w:World} {ro:Option Nat} {m:Nat} {Q Q':Exit→Act→World→Prop} {F:Fence}
def noteOK (ops:Array Oper) (j d:Nat) (T:List Nat):Nat→Array Bool→Bool
 |0,l=>l.getD j false
 |k+1,l=>(Region.ready .any ops l != [] || l.getD j false) && (Region.ready .any ops l).all fun i =>
   (!l.getD j false || (match (ops[i]?).bind (·.dst) with | some t=>t != d && !T.contains t | none=>true)) && noteOK ops j d T k (l.setIfInBounds i true)
def noteQ (N:Act→Prop) (Q:Exit→Act→World→Prop):Exit→Act→World→Prop
 |.normal,a,w=>Q .normal a w∧N a
 |e,a,w=>Q e a w
theorem wpAnyIn_note {ops:Array Oper} {j d:Nat} {oj:Oper} {T:List Nat} (hj:ops[j]? = some oj) (hgj:oj.guard=none) (hnd:calmOp oj.op=true) (N:Act→Prop)
  (hN0:∀ a a':Act,a'.tmps.getD d undef=a.tmps.getD d undef→(∀ t∈T,a'.tmps.getD t undef=a.tmps.getD t undef)→N a→N a') (hrun:∀ (a:Act) (w:World),a.tmps.size=n→match (execOp a.eval oj).run P w with | .ok (.value v) _=>N (a.put oj.dst v) | .ok _ _=>False | .halt _ _=>True) (hW:Writes ops (fun t=>decide (t < n))=true) :
  ∀ (fuel:Nat) (l:Array Bool) (a:Act) (w:World),noteOK ops j d T fuel l=true→(l.getD j false=true→N a)→l.size=ops.size→a.tmps.size=n →
   wpAnyIn (FR ro) m P .any ops Q fuel l a w→wpAnyIn (FR ro) m P .any ops (noteQ N Q) fuel l a w
 |0,l,a,w,h,hN,hl,hsz,hh=>⟨hh.1,hh.2,hN (by simpa [noteOK] using h)⟩
 |k+1,l,a,w,h,hN,hl,hsz,hh=>by
  simp only [noteOK,Bool.and_eq_true,List.all_eq_true,Bool.or_eq_true,bne_iff_ne,ne_eq] at h
  refine ⟨fun hr=>⟨hh.1 hr,hN (h.1.resolve_left (fun hne=>hne hr))⟩,fun i hi => ?_⟩
  obtain ⟨h2,h3⟩:=h.2 i hi
  have hs:=hh.2 i hi
  unfold wpOpIn at hs ⊢
  cases ho:ops[i]? with
  |none=>exact absurd (mem_ready.1 hi).2 (by rw [ho];rintro ⟨o,h,_⟩;cases h)
  |some o =>
   rw [ho] at hs h2
   simp only [Option.bind_some] at h2 hs ⊢
   have hilt:i < l.size:=by rw [hl];exact (Array.getElem?_eq_some_iff.1 ho).1
   have hl':(l.setIfInBounds i true).size=ops.size:=by simpa using hl
   have next:∀ (a':Act),a'.tmps.size=n→Same (fun t=>o.dst==some t) a a'→i≠j→((l.setIfInBounds i true).getD j false=true→N a'):=by
    intro a' _ hsame hne hlj
    have hlj':l.getD j false=true:=by
     rw [Array.getD_eq_getD_getElem?,Array.getElem?_setIfInBounds_ne hne] at hlj
     rwa [Array.getD_eq_getD_getElem?]
    rcases h2 with h2 | h2
    ·rw [hlj'] at h2;cases h2
    ·have hdd:(o.dst==some d)=false∧∀ t∈T,(o.dst==some t)=false:=by
      cases hod:o.dst with
      |none=>simp
      |some t =>
       rw [hod] at h2
       simp only [Bool.and_eq_true,bne_iff_ne,ne_eq,Bool.not_eq_true',List.contains_eq_mem,decide_eq_false_iff_not] at h2
       refine ⟨by simpa using h2.1,fun t' ht' => ?_⟩
       simp only [beq_eq_false_iff_ne,ne_eq,Option.some.injEq]
       rintro rfl;exact h2.2 ht'
     exact hN0 a a' (hsame d hdd.1) (fun t ht=>hsame t (hdd.2 t ht)) (hN hlj')
   have hsize:∀ (d':Option Nat) (v:Value) (a:Act),(a.put d' v).tmps.size=a.tmps.size:=by
    intro d' v a;cases d'<;>simp [Act.put]
   split
   ·rename_i hw
    rw [if_pos hw] at hs
    by_cases hij:i=j
    ·subst hij
     rw [hj] at ho;cases ho
     unfold Oper.wpIn at hs ⊢
     refine ⟨fun _ _=>trivial,?_⟩
     have h4:=hs.2
     rw [Oper.semAt_eq _ _ _ (fun c hc=>by rw [hc] at hnd;cases hnd)] at h4 ⊢
     have h5:=hrun a w hsz
     generalize (execOp a.eval oj).run P w=r at h4 h5 ⊢
     cases r with
     |ok x w' =>
      cases x<;>simp only at h5
      case value v =>
       simp only [Oper.uponIn] at h4 ⊢
       exact wpAnyIn_note hj hgj hnd N hN0 hrun hW k _ _ w' h3 (fun _=>h5) hl' (by rw [hsize];exact hsz) h4
     |halt x w'=>cases x<;>simp only [Oper.uponIn] at h4 ⊢<;>exact h4
    ·have hfr:=operIn_frame (W:=fun t=>o.dst==some t) (fun t ht=>by simp [ht]) hs
     have hsz':o.wpIn (FR ro) m P a w (fun a' w'=>(wpAnyIn (FR ro) m P .any ops Q k (l.setIfInBounds i true) a' w'∧Same (fun t=>o.dst==some t) a a')∧a'.tmps.size=n) Q:=by
      unfold Oper.wpIn at hfr ⊢
      refine ⟨hfr.1,?_⟩
      have h4:=hfr.2
      generalize (o.semAt (FR ro).round a.eval).run P w=r at *
      cases r with
      |ok x w' =>
       cases x<;>simp only [Oper.uponIn] at h4 ⊢<;>first
        |exact ⟨h4,by rw [hsize];exact hsz⟩
        |exact ⟨h4.1,CallsIn.mono h4.2 (fun e w'' he=>by cases e<;>first | exact ⟨he,by rw [hsize];exact hsz⟩ | exact he)⟩
        |exact ⟨h4.1,RowsIn.mono h4.2 (fun _ _ he=>⟨he,by rw [hsize];exact hsz⟩)⟩
        |exact ⟨h4.1,RoundIn.mono h4.2 (fun e w'' he=>by cases e<;>first | exact ⟨he,by rw [hsize];exact hsz⟩ | exact he)⟩
      |halt x w'=>cases x<;>simp only [Oper.uponIn] at h4 ⊢<;>exact h4
     refine operIn_mono (fun a' w' hh => ?_) (fun e a w hne hh => ?_) hsz'
     ·exact wpAnyIn_note hj hgj hnd N hN0 hrun hW k _ a' w' h3 (next a' hh.2 hh.1.2 hij) hl' hh.2 hh.1.1
     ·cases e<;>first | exact hh | exact absurd rfl hne
   ·rename_i hw
    rw [if_neg hw] at hs
    have hij:i≠j:=by
     rintro rfl
     rw [hj] at ho;cases ho
     simp [Region.wanted,hgj] at hw
    refine ⟨hs.1,wpAnyIn_note hj hgj hnd N hN0 hrun hW k _ _ w h3 (next _ (by rw [hsize];exact hsz) (Same.put (fun t ht=>by simp [ht]) _) hij) hl' (by rw [hsize];exact hsz) hs.2⟩
theorem cut_note (hG:Stable GI) (hm:P.follows .mixedOrders=true) {id:Nat} {ops:Array Oper} {p:Nat} (hcut:cutAt ops p=true) (hnd:(ops.extract 0 p).all (fun o=>calmOp o.op)=true) (hok:dOK P n (ops.extract 0 p)=true)
  {l:List AOpr} (hl:compOps P n true (ops.extract 0 p)=l) (hsp:(ops.extract 0 p).size=p) {W:Nat→Bool} (hW:Writes (ops.extract 0 p) W=true) (hGw:GI w) (pr:Nat→Nat→Prop) (S:Slots)
  {j d:Nat} {oj:Oper} {T:List Nat} (hj:(ops.extract 0 p)[j]? = some oj) (hgj:oj.guard=none) (hndj:calmOp oj.op=true) (N:Act→Prop)
  (hN0:∀ a a':Act,a'.tmps.getD d undef=a.tmps.getD d undef→(∀ t∈T,a'.tmps.getD t undef=a.tmps.getD t undef)→N a→N a') (hrun:∀ (a:Act) (w:World),a.tmps.size=n→match (execOp a.eval oj).run P w with | .ok (.value v) _=>N (a.put oj.dst v) | .ok _ _=>False | .halt _ _=>True) (hWn:Writes (ops.extract 0 p) (fun t=>decide (t < n))=true)
  (hno:noteOK (ops.extract 0 p) j d T p (Array.replicate p false)=true)
  (hsz:a.tmps.size=n) (hds:a.defers=[]) (hS:∀ t,t < n→(S t).dem=S t∧RV pr noneA w (S t) (a.tmps.getD t undef)) {K:Slots→Boxes→Prop}
  (h:dops P GI l K (prol l S) (prolH l (fun _=>none)))
  (hk:∀ g S' H' a' w',g.old=Old.plain pr w→Rel P w n NoU g S' H' a' w'→K S' H'→Same W a a'→N a'→wpOpsIn (FR ro) m P ops Q (List.range' p (ops.size - p)) a' w') :
  (Code.region id ops true).wpIn (FR ro) m P Q a w:=by
 refine wpIn_cut hm hcut ?_
 have key:=dregion_any (ro:=ro) (m:=m) (a:=a) (w:=w) hG hGw hm (old:=Old.plain pr w) (ops:=ops.extract 0 p) (Q:=assignQ K) hnd hok (fun _ _ _ _ h=>h) rfl (Rel.anew pr hsz hds hS) (by subst hl;exact h)
 rw [hsp] at key
 have key2:=wpAnyIn_note hj hgj hndj N hN0 hrun hWn p _ a _ hno (fun hh=>by
  have:(Array.replicate p false).getD j false=false:=by
   rw [Array.getD_eq_getD_getElem?]
   by_cases hjp:j < p
   ·simp [hjp]
   ·simp [hjp]
  rw [this] at hh;cases hh) (by simpa using hsp.symm) hsz (wpAnyIn_frame hW _ _ _ _ key)
 refine wpAnyIn_mono ?_ _ _ _ _ key2
 intro e a' w' hq
 cases e with
 |normal =>
  obtain ⟨⟨⟨g',S',H',h1,h2,h3⟩,h4⟩,h5⟩:=hq
  exact hk g' S' H' a' w' h1 h2 h3 h4 h5
 |exit id=>obtain ⟨_,_,_,_,_,h⟩:=hq;exact h.elim
 |ret=>obtain ⟨_,_,_,_,_,h⟩:=hq;exact h.elim
 |panic ch=>obtain ⟨_,_,_,_,_,_,_,_,_,_,h⟩:=hq;exact h.elim
 |goto l=>exact hq.elim
 |outgrown=>exact hq.elim
end
end Go.AL
namespace Go.AL
open Go.RowKit
section
variable {P:Program} {n:Nat} {a:Act} {w:World} {m:Nat} {Q:Exit→Act→World→Prop}
theorem run_load1 {o:Oper} {t:TypeId} {x:Operand} {b off:Nat} {v:Value} {d:TypeDesc} (ho:o.op = .load t x) (hx:a.eval x = .pointer (some ⟨b,off,none⟩)) (hu:P.underlying t=some d) (hd:aggT d=false) (hc:w.cell? ⟨b,off,none⟩=some v) :
  (execOp a.eval o).run P w = .ok (.value v) w:=by
 have hagg:(isAgg t).run P w = .ok false w:=by
  unfold isAgg
  rw [Sem.run_bind,run_underlying hu w]
  cases d<;>simp_all [aggT]
 unfold execOp
 simp [ho,hx,Instr.loadAt,Instr.sureAddr,loadVar,Sem.run_bind,hagg,hc]
theorem run_store1 {o:Oper} {t:TypeId} {x y:Operand} {b:Nat} {v u:Value} {ty:TypeId} {i:TypeInfo} (ho:o.op = .store t x y) (hx:a.eval x = .pointer (some ⟨b,0,none⟩)) (hi:P.info? t=some i) (hs:i.size=1) (hb:w.heap[b]? = some (.cells #[u] ty (0,0)))
  (hv:(a.eval y)=v) (h1:v.oneCell'=true):(execOp a.eval o).run P w = .ok .skip (w.setRow b #[v]):=by
 have hcc:v.cells = #[v]:=by cases v<;>first | rfl | cases h1
 have hrun:=run_storeCells_at P b 0 ty [v] 0 #[u] w hb (by simp) (fun x hx=>by simp at hx;subst hx;exact h1)
 unfold execOp
 simp only [ho,hx,hv,Instr.storeAt,Instr.sureAddr,storeVar,sizeOf,typeInfo,Sem.run_bind,Sem.run_pure,Result.andThen_ok,run_program,hi,hs,hcc,ne_eq,not_true_eq_false,if_false]
 simp only [Nat.add_zero,List.take_zero,List.nil_append,List.length_singleton,List.size_toArray,Nat.zero_add] at hrun
 have e:(w.setRow b ([v]++List.drop 1 #[u].toList).toArray)=w.setRow b #[v]:=by simp
 rw [e] at hrun
 have hsz:(#[v]:Array Value).size=1:=rfl
 simp only [hsz,not_true_eq_false,if_false]
 rw [show storeCells ⟨b,0,none⟩ (#[v]:Array Value).toList=storeCells ⟨b,0,none⟩ [v] 0 from rfl,hrun]
 rfl
theorem run_lenL {o:Oper} {cl:Call} {t:TypeId} {x:Operand} {ad:Option Addr} {k cap:Nat} {el:TypeId} (ho:o.op = .call cl) (hcl:cl.callee = .builtin .len) (ha:cl.args = #[x]) (ht:cl.argTypes = #[t]) (hu:P.underlying t=some (.slice el)) (hx:a.eval x = .slice ad k cap) :
  (execOp a.eval o).run P w = .ok (.value (.int .i64 k)) w:=by
 unfold execOp
 have hm:(Builtin.len_ #[t] o.type #[.slice ad k cap]).run P w = .ok (.int .i64 k) w:=by simp [Builtin.len_,run_underlying hu,goInt]
 simp [ho,hcl,ha,ht,resolve,invoke,builtin,hx,hm]
theorem run_popped {o:Oper} {t:TypeId} {x y:Operand} {g k cap:Nat} {el:TypeId} {i:TypeInfo} (ho:o.op = .slice t x none (some y) none) (hu:P.underlying t=some (.slice el)) (hi:P.info? el=some i) (hx:a.eval x = .slice (some ⟨g,0,none⟩) (k+1) cap) (hy:a.eval y = .int .i64 k) (hk:k≤cap) :
  (execOp a.eval o).run P w = .ok (.value (.slice (some ⟨g,0,none⟩) k cap)) w:=by
 have hb:=run_sliceBound (P:=P) (w:=w) (x := .int .i64 k) (i:=k) (y:=cap) (code := .sliceAcap) rfl (by omega) (by omega)
 have hbs:(Instr.sliceBounds true (k+1) cap none (some (.int .i64 k)) none).run P w = .ok (0,k,cap) w:=by
  unfold Instr.sliceBounds
  simp [Sem.run_bind,hb]
 unfold execOp
 simp [ho,hx,hy,Instr.sliceAt,run_underlying hu,Instr.slice,hbs,sizeOf,typeInfo,hi,Addr.add_lit]
theorem run_sub1 {o:Oper} {t t':TypeId} {x y:Operand} {p q:Int} (ho:o.op = .binOp .sub t x y t') (hx:a.eval x = .int .i64 p) (hy:a.eval y = .int .i64 q) :
  (execOp a.eval o).run P w = .ok (.value (.int .i64 (IntKind.i64.wrap (p - q)))) w:=by
 have h0:(eqGuard .sub t x y (.int .i64 p) (.int .i64 q)).run P w = .ok () w:=run_eqGuard_other _ _ _ _ _ _ rfl
 have h1:(binOp .sub t (.int .i64 p) (.int .i64 q)).run P w = .ok (.int .i64 (IntKind.i64.wrap (p - q))) w:=by
  simp [binOp,Op.intArith]
 simp [execOp,ho,hx,hy,h0,h1]
theorem pop_ops {ops:Array Oper} {T el ti ti':TypeId} {p t1 t2 t3 t4 t5 bN:Nat} {o0 o1 o2 o3 o4 o5:Oper} {cl:Call} {i iT:TypeInfo} {v:Value} {ty:TypeId} {k:Nat} {xs last:List Value}
  (h0:ops[0]? = some o0) (h1:ops[1]? = some o1) (h2:ops[2]? = some o2) (h3:ops[3]? = some o3) (h4:ops[4]? = some o4) (h5:ops[5]? = some o5)
  (q0:o0.op = .load T (.tmp p)∧o0.dst=some t1∧o0.guard=none) (q1:o1.op = .load T (.tmp p)∧o1.dst=some t2∧o1.guard=none) (q2:o2.op = .call cl∧o2.dst=some t3∧o2.guard=none) (q3:o3.op = .binOp .sub ti (.tmp t3) (.const (.int .i64 1)) ti'∧o3.dst=some t4∧o3.guard=none)
  (q4:o4.op = .slice T (.tmp t1) none (some (.tmp t4)) none∧o4.dst=some t5∧o4.guard=none) (q5:o5.op = .store T (.tmp p) (.tmp t5)∧o5.dst=none∧o5.guard=none)
  (hcl:cl.callee = .builtin .len) (hca:cl.args = #[.tmp t2]) (hct:cl.argTypes = #[T]) (hu:P.underlying T=some (.slice el)) (hiT:P.info? T=some iT) (hsT:iT.size=1) (hi:P.info? el=some i)
  (hd:p≠t1∧p≠t2∧p≠t3∧p≠t4∧p≠t5∧t1≠t2∧t1≠t3∧t1≠t4∧t2≠t3∧t3≠t4∧t4≠t5) (hsz:a.tmps.size=n) (hn:t1 < n∧t2 < n∧t3 < n∧t4 < n∧t5 < n)
  (hp:a.tmps.getD p undef = .pointer (some ⟨bN,0,none⟩)) (hN:w.heap[bN]? = some (.cells #[v] ty (0,0))) (hown:w.ownsRow (bN+1) el i.size v (k+1) (xs++last)) (hxs:xs.length=k * i.size) (hk:k < 1000000)
  (hq:∀ a' v',a'.tmps.size=n→a'.defers=a.defers→(∀ t,t≠t1→t≠t2→t≠t3→t≠t4→t≠t5→a'.tmps.getD t undef=a.tmps.getD t undef)→v'.ownBlock=v.ownBlock→v.ownBlock.isSome=true→w.ownsRow (bN+1) el i.size v' k xs→Q .normal a' (w.setRow bN #[v'])) :
  wpOpsIn (FR none) m P ops Q [0,1,2,3,4,5] a w:=by
 obtain ⟨d1,d2,d3,d4,d5,d6,d7,d8,d9,d10,d11⟩:=hd
 obtain ⟨n1,n2,n3,n4,n5⟩:=hn
 have hc:w.cell? ⟨bN,0,none⟩=some v:=by simp [World.cell?,hN]
 obtain ⟨g,cap,rfl⟩:∃ g cap,v = .slice (some ⟨g,0,none⟩) (k+1) cap:=by
  rcases hown.2 with ⟨_,h⟩ | ⟨g,cap,cur,h,_⟩
  ·omega
  ·exact ⟨g,cap,h⟩
 have hcap:k≤cap:=by
  rcases hown.2 with ⟨h,_⟩ | ⟨g',cap',cur,h,_,_,hnc,_⟩
  ·cases h
  ·cases h;omega
 have hpop:w.ownsRow (bN+1) el i.size (.slice (some ⟨g,0,none⟩) k cap) k xs:=by
  obtain ⟨_,h2⟩:=hown
  rcases h2 with ⟨h0,_⟩ | ⟨g',cap',cur,hv,hg,hh,hn,hcap,hsz,htake⟩
  ·cases h0
  ·cases hv
   refine ⟨hxs,.inr ⟨g,cap,cur,rfl,hg,hh,by omega,hcap,hsz,?_⟩⟩
   have h3:(cur.toList.take ((k+1) * i.size)).take (k * i.size)=(xs++last).take (k * i.size):=by rw [htake]
   rw [List.take_take,Nat.min_eq_left (Nat.mul_le_mul_right _ (by omega))] at h3
   rw [h3,← hxs,List.take_left]
 have hgp:∀ (a:Act) (d t:Nat) (c:Value),t≠d→(a.put (some d) c).tmps.getD t undef=a.tmps.getD t undef:=fun a d t c h=>by
  simp [Act.put,Array.getElem?_setIfInBounds_ne (Ne.symm h)]
 have hgs:∀ (a:Act) (d:Nat) (c:Value),a.tmps.size=n→d < n→(a.put (some d) c).tmps.getD d undef=c:=fun a d c h hd=>by
  simp [Act.put,h,hd]
 have hps:∀ (a:Act) (d:Option Nat) (c:Value),(a.put d c).tmps.size=a.tmps.size:=fun a d c=>by cases d<;>simp [Act.put]
 have hpd:∀ (a:Act) (d:Option Nat) (c:Value),(a.put d c).defers=a.defers:=fun a d c=>by cases d<;>rfl
 refine opIn_val h0 q0.2.2 (by rw [q0.1];rfl) (run_load1 q0.1 hp hu rfl hc) ?_
 rw [q0.2.1]
 obtain ⟨a1,ha1⟩:∃ a1,a.put (some t1) (.slice (some ⟨g,0,none⟩) (k+1) cap)=a1:=⟨_,rfl⟩
 have z1:a1.tmps.size=n:=by rw [← ha1,hps];exact hsz
 have v1:a1.tmps.getD t1 undef = .slice (some ⟨g,0,none⟩) (k+1) cap:=by rw [← ha1];exact hgs a t1 _ hsz n1
 have p1:a1.tmps.getD p undef = .pointer (some ⟨bN,0,none⟩):=by rw [← ha1,hgp _ _ _ _ d1];exact hp
 rw [ha1]
 refine opIn_val h1 q1.2.2 (by rw [q1.1];rfl) (run_load1 q1.1 p1 hu rfl hc) ?_
 rw [q1.2.1]
 obtain ⟨a2,ha2⟩:∃ a2,a1.put (some t2) (.slice (some ⟨g,0,none⟩) (k+1) cap)=a2:=⟨_,rfl⟩
 have z2:a2.tmps.size=n:=by rw [← ha2,hps];exact z1
 have v2:a2.tmps.getD t2 undef = .slice (some ⟨g,0,none⟩) (k+1) cap:=by rw [← ha2];exact hgs a1 t2 _ z1 n2
 have v1:a2.tmps.getD t1 undef = .slice (some ⟨g,0,none⟩) (k+1) cap:=by rw [← ha2,hgp _ _ _ _ d6];exact v1
 have p2:a2.tmps.getD p undef = .pointer (some ⟨bN,0,none⟩):=by rw [← ha2,hgp _ _ _ _ d2];exact p1
 rw [ha2]
 refine opIn_val h2 q2.2.2 (by rw [q2.1];rfl) (run_lenL q2.1 hcl hca hct hu v2) ?_
 rw [q2.2.1]
 obtain ⟨a3,ha3⟩:∃ a3,a2.put (some t3) (.int .i64 ((k+1:Nat):Int))=a3:=⟨_,rfl⟩
 have z3:a3.tmps.size=n:=by rw [← ha3,hps];exact z2
 have v3:a3.tmps.getD t3 undef = .int .i64 ((k+1:Nat):Int):=by rw [← ha3];exact hgs a2 t3 _ z2 n3
 have v1:a3.tmps.getD t1 undef = .slice (some ⟨g,0,none⟩) (k+1) cap:=by rw [← ha3,hgp _ _ _ _ d7];exact v1
 have p3:a3.tmps.getD p undef = .pointer (some ⟨bN,0,none⟩):=by rw [← ha3,hgp _ _ _ _ d3];exact p2
 rw [ha3]
 refine opIn_val h3 q3.2.2 (by rw [q3.1];rfl) (run_sub1 q3.1 v3 rfl) ?_
 rw [q3.2.1]
 have hw:IntKind.i64.wrap (((k+1:Nat):Int) - 1)=(k:Int):=by
  have key:∀ m:Int,m=(((k+1:Nat):Int) - 1) % 18446744073709551616→(if decide (m≥9223372036854775808)=true then m - 18446744073709551616 else m)=(k:Int):=by
   intro m hm
   split
   ·rename_i hd
    have:=of_decide_eq_true hd
    omega
   ·omega
  exact key _ rfl
 rw [hw]
 obtain ⟨a4,ha4⟩:∃ a4,a3.put (some t4) (.int .i64 (k:Int))=a4:=⟨_,rfl⟩
 have z4:a4.tmps.size=n:=by rw [← ha4,hps];exact z3
 have v4:a4.tmps.getD t4 undef = .int .i64 (k:Int):=by rw [← ha4];exact hgs a3 t4 _ z3 n4
 have v1:a4.tmps.getD t1 undef = .slice (some ⟨g,0,none⟩) (k+1) cap:=by rw [← ha4,hgp _ _ _ _ d8];exact v1
 have p4:a4.tmps.getD p undef = .pointer (some ⟨bN,0,none⟩):=by rw [← ha4,hgp _ _ _ _ d4];exact p3
 rw [ha4]
 refine opIn_val h4 q4.2.2 (by rw [q4.1];rfl) (run_popped q4.1 hu hi v1 v4 hcap) ?_
 rw [q4.2.1]
 obtain ⟨a5,ha5⟩:∃ a5,a4.put (some t5) (.slice (some ⟨g,0,none⟩) k cap)=a5:=⟨_,rfl⟩
 have z5:a5.tmps.size=n:=by rw [← ha5,hps];exact z4
 have v5:a5.tmps.getD t5 undef = .slice (some ⟨g,0,none⟩) k cap:=by rw [← ha5];exact hgs a4 t5 _ z4 n5
 have p5:a5.tmps.getD p undef = .pointer (some ⟨bN,0,none⟩):=by rw [← ha5,hgp _ _ _ _ d5];exact p4
 rw [ha5]
 refine opIn_skip h5 q5.2.2 (by rw [q5.1];rfl) (run_store1 q5.1 p5 hiT hsT hN v5 rfl) ?_
 rw [q5.2.1]
 refine hq a5 _ z5 ?_ (fun t e1 e2 e3 e4 e5 => ?_) rfl rfl hpop
 ·rw [← ha5,hpd,← ha4,hpd,← ha3,hpd,← ha2,hpd,← ha1,hpd]
 ·rw [← ha5,hgp _ _ _ _ e5,← ha4,hgp _ _ _ _ e4,← ha3,hgp _ _ _ _ e3,← ha2,hgp _ _ _ _ e2,← ha1,hgp _ _ _ _ e1]
theorem wpOpsIn_append {F:Fence} {ops:Array Oper} {Q1:Exit→Act→World→Prop} {l2:List Nat} (hQ:∀ e a w,e ≠ .normal→Q1 e a w→Q e a w) (hn:∀ a w,Q1 .normal a w→wpOpsIn F m P ops Q l2 a w) :
  ∀ (l1:List Nat) (a:Act) (w:World),wpOpsIn F m P ops Q1 l1 a w→wpOpsIn F m P ops Q (l1++l2) a w
 |[],a,w,h=>hn a w h
 |i::l,a,w,h=>by
  simp only [List.cons_append,wpOpsIn] at h ⊢
  cases ho:ops[i]? with
  |none=>simp only [ho] at h ⊢;exact wpOpsIn_append hQ hn l a w h
  |some o =>
   simp only [ho] at h ⊢
   split
   ·rename_i hw;rw [if_pos hw] at h
    exact operIn_mono (fun a w hh=>wpOpsIn_append hQ hn l a w hh) hQ h
   ·rename_i hw;rw [if_neg hw] at h
    exact ⟨h.1,wpOpsIn_append hQ hn l _ w h.2⟩
theorem front_anew {GI:World→Prop} {ro:Option Nat} (hG:Stable GI) {ops:Array Oper} {p:Nat} {l2:List Nat} (hr:List.range ops.size=List.range p++l2) (hnd:ops.all (fun o=>calmOp o.op)=true) (hok:((compOps P n false ops).take p).all (·.ok n)=true)
  {l:List AOpr} (hl:(compOps P n false ops).take p=l) (hpn:p≤ops.size) {W:Nat→Bool} (hW:Writes ops W=true) (hGw:GI w) (pr:Nat→Nat→Prop) (S:Slots)
  (hsz:a.tmps.size=n) (hds:a.defers=[]) (hS:∀ t,t < n→(S t).dem=S t∧RV pr noneA w (S t) (a.tmps.getD t undef)) {K:Slots→Boxes→Prop} (h:aops P GI l K (fun _=>False) S (fun _=>none))
  (hk:∀ g S' H' a' w',g.old=Old.plain pr w→Rel P w n NoU g S' H' a' w'→K S' H'→Same W a a'→wpOpsIn (FR ro) m P ops Q l2 a' w') {id:Nat}:(Code.region id ops false).wpIn (FR ro) m P Q a w:=by
 refine wpIn_region ?_
 rw [hr]
 subst hl
 have R:=Rel.anew (P:=P) pr hsz hds hS
 have key:=aops_wp hG hGw (old:=Old.plain pr w) (ops:=ops) (Q:=assignQ K) (S0:=S) (H0:=fun _=>none) (List.range p) (ops.toList.take p) _ S _ a w (by
   apply List.ext_getElem?
   intro i
   simp only [List.getElem?_map,List.getElem?_take]
   by_cases hi:i < p
   ·have:i < ops.size:=by omega
    simp [hi,this]
   ·simp [hi]) (fun o hoo=>by
    simp only [compOps,← List.map_take,List.all_map,List.all_eq_true,Function.comp] at hok
    exact hok o hoo) (fun _ _ _ _ h=>h) rfl R (by
    simp only [compOps,← List.map_take] at h
    exact h)
 refine wpOpsIn_append (Q1:=frQ W a (QQ P w n (Old.plain pr w) (assignQ K))) (fun e a w hne hq => ?_) (fun a' w' hq => ?_) _ _ _ (wpOpsIn_frame hW _ _ _ (wpOps_in hnd QQ_noOut _ _ _ key))
 ·cases e with
  |normal=>exact absurd rfl hne
  |exit id=>obtain ⟨_,_,_,_,_,h⟩:=hq;exact h.elim
  |ret=>obtain ⟨_,_,_,_,_,h⟩:=hq;exact h.elim
  |panic ch=>obtain ⟨_,_,_,_,_,_,_,_,_,_,h⟩:=hq;exact h.elim
  |goto l=>exact hq.elim
  |outgrown=>exact hq.elim
 ·obtain ⟨⟨g',S',H',h1,h2,h3⟩,h4⟩:=hq
  exact hk g' S' H' a' w' h1 h2 h3 h4
end
end Go.AL
namespace Go.AL
open Go.RowKit
section
variable {P:Program} {GI:World→Prop} {n:Nat} {old:Old} {S:Slots} {H:Boxes} {Q:Post}
theorem aops_list (hG:Stable GI) {w0:World} (hG0:GI w0) {ro:Option Nat} {m:Nat} {ops:Array Oper} (hnd:ops.all (fun o=>calmOp o.op)=true) {g:Gh} {a:Act} {w:World} (ho:g.old=old) (R:Rel P w0 n NoU g S H a w) (l:List Nat) (os:List Oper) (hl:l.map (ops[·]?)=os.map some)
  (hok:∀ o∈os,(compOpr P n false ops o).ok n=true) (hbx:∀ d,¬ old.bx d) {K:Slots→Boxes→Prop} (h:aops P GI (os.map (compOpr P n false ops)) K (fun _=>False) S H) :
  wpOpsIn (FR ro) m P ops (QQ P w0 n old (assignQ K)) l a w :=
 wpOps_in hnd QQ_noOut _ _ _ (aops_wp hG hG0 (old:=old) (ops:=ops) (Q:=assignQ K) (S0:=S) (H0:=H) l os g S H a w hl hok (fun _ _ _ _=>hbx _) ho R h)
theorem SW.mid (hG:Stable GI) {ro:Option Nat} {id p:Nat} {ops:Array Oper} {oh:Oper} {l2:List Nat} {os1 os2:List Oper} (hops:ops.toList=os1++oh::os2) (hp:os1.length=p) (hr:List.range ops.size=List.range p++(p::l2)) (hl2:l2.map (ops[·]?)=os2.map some)
  (hnd:ops.all (fun o=>calmOp o.op)=true) (hgh:oh.guard=none) (hbx:∀ d,¬ old.bx d)
  {al1 al2:List AOpr} (hal1:os1.map (compOpr P n false ops)=al1) (hal2:os2.map (compOpr P n false ops)=al2) (hok1:al1.all (·.ok n)=true) (hok2:al2.all (·.ok n)=true)
  {K1:Slots→Boxes→Prop} {K2 K3:Old→Slots→Boxes→Prop} (h1:aops P GI al1 K1 (fun _=>False) S H)
  (hand:∀ w0 g S1 H1 a w,g.old=old→Rel P w0 n NoU g S1 H1 a w→K1 S1 H1→∃ v w' g2 S2 H2,((execOp a.eval oh).run P w = .ok (.value v) w'∨((execOp a.eval oh).run P w = .ok .skip w'∧v=undef))∧Rel P w0 n NoU g2 S2 H2 (a.put oh.dst v) w'∧K2 g2.old S2 H2)
  (h2:∀ o S H,K2 o S H→(∀ d,¬ o.bx d)∧aops P GI al2 (K3 o) (fun _=>False) S H) (hQ:∀ o S H,K3 o S H→Q .normal o S H):SW P GI n ro (.region id ops false) Q old S H:=by
 intro w0 g a w m hG0 ho R
 refine wpIn_region ?_
 rw [hr]
 have hl1:(List.range p).map (ops[·]?)=os1.map some:=by
  apply List.ext_getElem?
  intro i
  simp only [List.getElem?_map]
  by_cases hi:i < p
  ·have h3:ops[i]? = os1[i]? := by
    rw [← Array.getElem?_toList,hops,List.getElem?_append_left (by omega)]
   have h4:os1[i]? = some (os1[i]'(by omega)):=List.getElem?_eq_getElem (by omega)
   simp [hi,h3,h4]
  ·have:os1[i]? = none:=List.getElem?_eq_none (by omega)
   simp [hi,this]
 have hoh:ops[p]? = some oh:=by
  rw [← Array.getElem?_toList,hops,List.getElem?_append_right (by omega)]
  simp [hp]
 refine wpOpsIn_append (Q1:=QQ P w0 n old (assignQ K1)) (fun e a w hne hq => ?_) (fun a1 w1 hq => ?_) _ _ _ (aops_list hG hG0 hnd ho R (List.range p) os1 hl1 (fun o hoo=>by
   subst hal1
   simp only [List.all_map,List.all_eq_true,Function.comp] at hok1
   exact hok1 o hoo) hbx (by rw [hal1];exact h1))
 ·cases e with
  |normal=>exact absurd rfl hne
  |exit id=>obtain ⟨_,_,_,_,_,h⟩:=hq;exact h.elim
  |ret=>obtain ⟨_,_,_,_,_,h⟩:=hq;exact h.elim
  |panic ch=>obtain ⟨_,_,_,_,_,_,_,_,_,_,h⟩:=hq;exact h.elim
  |goto l=>exact hq.elim
  |outgrown=>exact hq.elim
 ·obtain ⟨g1,S1,H1,ho1,R1,hk1⟩:=hq
  obtain ⟨v,w2,g2,S2,H2,hrun,R2,hk2⟩:=hand w0 g1 S1 H1 a1 w1 ho1 R1 hk1
  obtain ⟨hb2,ha2⟩:=h2 _ _ _ hk2
  have hnoh:calmOp oh.op=true:=by
   have:=Array.all_eq_true'.1 hnd oh (Array.mem_of_getElem? hoh)
   exact this
  have rest:wpOpsIn (FR ro) m P ops (QS P w0 n Q) l2 (a1.put oh.dst v) w2:=by
   have:=aops_list (ro:=ro) (m:=m) hG hG0 hnd (old:=g2.old) rfl R2 l2 os2 hl2 (fun o hoo=>by
    subst hal2
    simp only [List.all_map,List.all_eq_true,Function.comp] at hok2
    exact hok2 o hoo) hb2 (by rw [hal2];exact ha2)
   refine wpOpsIn_mono (fun e a w hq => ?_) _ _ _ this
   cases e with
   |normal =>
    obtain ⟨g3,S3,H3,ho3,R3,hk3⟩:=hq
    exact ⟨g3,S3,H3,R3,by rw [ho3];exact hQ _ _ _ hk3⟩
   |exit id=>obtain ⟨_,_,_,_,_,h⟩:=hq;exact h.elim
   |ret=>obtain ⟨_,_,_,_,_,h⟩:=hq;exact h.elim
   |panic ch=>obtain ⟨_,_,_,_,_,_,_,_,_,_,h⟩:=hq;exact h.elim
   |goto l=>exact hq.elim
   |outgrown=>exact hq.elim
  rcases hrun with hrun | ⟨hrun,rfl⟩
  ·exact opIn_val hoh hgh hnoh hrun rest
  ·exact opIn_skip hoh hgh hnoh hrun rest
variable {w0:World} {g:Gh} {a:Act} {w:World}
theorem Rel.keepNew (R:Rel P w0 n NoU g S H a w) (o:Obj):Rel P w0 n NoU { g with old:={ g.old with keep:=upd g.old.keep w.heap.size (some o) } } S H a (w.alloc o):=by
 have hb:Below w.heap.size w (w.alloc o):=(Below.refl _ _).alloc (Nat.le_refl _) _
 have R':=Rel.grow' R hb
 have hle:g.base≤w.heap.size:=by rw [R.base];exact R.below.size
 refine { size:=R'.size,defers:=R'.defers,facts:=R'.facts,slot:=R'.slot,own:=fun t ht hu=>(R'.own t ht hu).keep rfl fun b hb=>⟨rfl,rfl,hb⟩,box := ?_,alH:=R'.alH,alU:=R'.alU,inj:=R'.inj,base:=R'.base,below:=R'.below,fresh:=R'.fresh,still:=R'.still,grown:=R'.grown,kept := ?_ }
 ·intro i b hi
  obtain ⟨cs,vs,ty,h1,h2,h3,h4,h5,h6,h7,h8,h9⟩:=R'.box i b hi
  exact ⟨cs,vs,ty,h1,h2,h3,h4,h5,h6,h7,fun j hj hj'=>(h8 j hj hj').keep rfl fun b hb=>⟨rfl,rfl,hb⟩,h9⟩
 ·intro b ob h
  by_cases hbl:b=w.heap.size
  ·subst hbl
   have:ob=o:=by simpa [upd] using h.symm
   subst this
   refine ⟨hle,World.alloc_heap_new w _,(R.fresh _ (Nat.le_refl _)).1,(R.fresh _ (Nat.le_refl _)).2,fun i hi => ?_⟩
   obtain ⟨_,_,_,_,_,h3,_⟩:=R.box i _ hi
   have:=(Array.getElem?_eq_some_iff.1 h3).1
   omega
  ·have h:g.old.keep b=some ob:=by simpa [upd,hbl] using h
   exact R'.kept b ob h
def giveM (b:Nat) (ks vs:List AV):AV→AV
 |.val (.map (some b'))=>if b'=b then .map ks vs else .val (.map (some b'))
 |v=>v
theorem giveM_one (b:Nat) (ks vs:List AV) (v:AV) (h:v.one=true):(giveM b ks vs v).one=true:=by
 unfold giveM
 split
 ·split<;>rfl
 ·exact h
theorem Rel.giveMap (R:Rel P w0 n NoU g S H a w) {b:Nat} {es:Array MapEntry} {clock:Nat} (hk:g.old.keep b=some (.map es clock)) (ks vs:List AV) (hkl:ks.length=es.size) (hvl:vs.length=es.size)
  (hks:∀ i (h:i < ks.length) (h':i < es.size),RD (fun _ _=>False) w ks[i] (es[i]).key) (hvs:∀ i (h:i < vs.length) (h':i < es.size),RD (fun _ _=>False) w vs[i] (es[i]).val)
  (hf:g.old.facts=[]):∃ g',g'.old={ g.old with keep:=upd g.old.keep b none }∧Rel P w0 n NoU g' (fun t=>match S t with | .box i o => .box i o | _ => .junk) (fun i=>(H i).map fun cs=>cs.map (giveM b ks vs)) a w:=by
 obtain ⟨k1,k2,k3,k4,k5⟩:=R.kept b _ hk
 let g':Gh:={ g with old:={ g.old with keep:=upd g.old.keep b none },hi:=upd g.hi b 1 }
 have hPr:∀ c k,g.Pr c k→g'.Pr c k:=by
  intro c k h
  rcases h with h | h
  ·exact .inl h
  ·refine .inr ⟨h.1,?_⟩
   show k < upd g.hi b 1 c
   by_cases hc:c=b
   ·subst hc;rw [k3] at h;omega
   ·rw [upd_ne _ _ hc];exact h.2
 have hK:Keeps g.Pr g'.Pr w w:=Keeps.same fun c k _ h=>hPr c k h
 have hmap:RD g'.Pr w (.map ks vs) (.map (some b)):=by
  refine .map ks vs b es clock (.inr ⟨k1,by show 0 < upd g.hi b 1 b;rw [upd_same];omega⟩) k2 hkl hvl (fun i h h'=>(hks i h h').mono (Keeps.same fun _ _ _ h=>h.elim)) (fun i h h'=>(hvs i h h').mono (Keeps.same fun _ _ _ h=>h.elim))
 have hgive:∀ {v:AV} {c:Value},RD g.Pr w v c→RD g'.Pr w (giveM b ks vs v) c:=by
  intro v c h
  unfold giveM
  split
  ·rename_i b'
   split
   ·rename_i hb
    subst hb
    cases h
    exact hmap
   ·exact h.mono hK
  ·exact h.mono hK
 refine ⟨g',rfl,{ size:=R.size,defers:=R.defers,facts:=fun p hp=>(by rw [show g'.old.facts=g.old.facts from rfl,hf] at hp;cases hp),slot := ?_,own := ?_,box := ?_,alH := ?_,alU:=R.alU,inj:=R.inj,base:=R.base,below:=R.below,fresh := ?_,still:=R.still.trans hK,grown:=R.grown,kept := ?_ }⟩
 ·intro t ht hu
  have h:=R.slot t ht hu
  show RV g'.Pr g'.al w (match S t with | .box i o => .box i o | _ => .junk) _
  split
  ·rename_i i o hs
   rw [hs] at h
   generalize a.tmps.getD t undef=c at h
   cases h with
   |data _ _ h=>cases h
   |box _ _ b h=>exact .box _ _ _ h
  ·exact .junk _
 ·intro t ht hu
  show OwnAt P w g' (.slot t) (match S t with | .box i o => .box i o | _ => .junk) _
  split<;>trivial
 ·intro i c hi
  obtain ⟨cs,vs',ty,h1,h2,h3,h4,h5,h6,h7,h8,h9⟩:=R.box i c hi
  have hcb:c≠b:=by rintro rfl;exact k5 i hi
  refine ⟨cs.map (giveM b ks vs),vs',ty,by simp [h1],h2,h3,by show upd g.hi b 1 c=0;rw [upd_ne _ _ hcb];exact h4,h5,by simpa using h6,fun j hj hj' => ?_,fun j hj hj' => ?_,fun j hj => ?_⟩
  ·simp only [List.length_map] at hj
   simp only [List.getElem_map]
   exact hgive (h7 j hj hj')
  ·simp only [List.length_map] at hj
   simp only [List.getElem_map]
   have ho:=h8 j hj hj'
   unfold giveM
   split
   ·split<;>trivial
   ·refine ho.keep rfl fun b' hb'=>⟨rfl,?_,hb'⟩
    show upd g.hi b 1 b'=g.hi b'
    exact upd_ne _ _ (by rintro rfl;rw [k4] at hb';cases hb')
  ·simp only [List.length_map] at hj
   simp only [List.getElem_map]
   exact giveM_one _ _ _ _ (h9 j hj)
 ·intro i cs h hu
  obtain ⟨cs',h1,_⟩:=Option.map_eq_some_iff.1 h
  exact R.alH i cs' h1 hu
 ·intro c hc
  have hcb:c≠b:=by
   rintro rfl
   have:=(Array.getElem?_eq_some_iff.1 k2).1
   omega
  exact ⟨by show upd g.hi b 1 c=0;rw [upd_ne _ _ hcb];exact (R.fresh c hc).1,(R.fresh c hc).2⟩
 ·intro c ob h
  have hcb:c≠b:=by rintro rfl;simp [g',upd] at h
  have h:g.old.keep c=some ob:=by simpa [g',upd,hcb] using h
  obtain ⟨q1,q2,q3,q4,q5⟩:=R.kept c ob h
  exact ⟨q1,q2,by show upd g.hi b 1 c=0;rw [upd_ne _ _ hcb];exact q3,q4,q5⟩
end
end Go.AL
namespace Go.AL
open Go.RowKit
def frz (i:Nat) (cs:List AV):AV→AV
 |.box j off=>if j=i then .ref ((cs.map AV.dem).drop off) else .box j off
 |v=>scrub i v
section
variable {P:Program} {w0:World} {n:Nat} {g:Gh} {S:Slots} {H:Boxes} {a:Act} {w:World}
theorem Rel.freeze (R:Rel P w0 n NoU g S H a w) {i:Nat} {cs:List AV} (hH:H i=some cs) (hf:g.old.facts=[]) :
  ∃ g',g'.old=g.old∧Rel P w0 n NoU g' (fun t=>frz i cs (S t)) (upd H i none) a w:=by
 obtain ⟨b,hb⟩:=Option.isSome_iff_exists.1 (R.alH i cs hH id)
 obtain ⟨cs',vs,ty,e0,b1,b2,b3,b4,b5,b6,b7,b8⟩:=R.box i b hb
 rw [hH] at e0;cases e0
 let g':Gh:={ g with al:=upd g.al i none,hi:=upd g.hi b cs.length }
 have hPr:∀ c k,g.Pr c k→g'.Pr c k:=by
  intro c k h
  rcases h with h | h
  ·exact .inl h
  ·refine .inr ⟨h.1,?_⟩
   show k < upd g.hi b cs.length c
   by_cases hc:c=b
   ·subst hc;rw [b3] at h;omega
   ·rw [upd_ne _ _ hc];exact h.2
 have hK:Keeps g.Pr g'.Pr w w:=Keeps.same fun c k _ h=>hPr c k h
 have hal:∀ j c,j≠i→g.al j=some c→g'.al j=some c:=fun j c hj h=>by show upd g.al i none j=_;rw [upd_ne _ _ hj];exact h
 have hnb:∀ j c,j≠i→g.al j=some c→c≠b:=by
  rintro j c hj h rfl
  exact hj (R.inj j i _ h hb)
 refine ⟨g',rfl,{ size:=R.size,defers:=R.defers,facts:=fun p hp=>(by rw [show g'.old.facts=g.old.facts from rfl,hf] at hp;cases hp),slot := ?_,own := ?_,box := ?_,alH := ?_,alU:=fun _ h=>h.elim,inj := ?_,base:=R.base,below:=R.below,fresh := ?_,still:=R.still.trans hK,grown:=R.grown,kept := ?_ }⟩
 ·intro t ht hu
  have h:=R.slot t ht hu
  generalize a.tmps.getD t undef=c at h
  have h2:=(h.scrub i hal).mono hK (fun _ _ h=>h)
  show RV g'.Pr g'.al w (frz i cs (S t)) c
  generalize S t=v at h h2
  cases v<;>try exact h2
  rename_i j off
  simp only [frz]
  simp only [scrub] at h2
  split
  ·rename_i hj
   subst hj
   have hbb:∃ c',c = .pointer (some ⟨c',off,none⟩)∧g.al j=some c':=by
    cases h with
    |data _ _ h=>cases h
    |box _ _ c' h=>exact ⟨c',rfl,h⟩
   obtain ⟨c',rfl,hc'⟩:=hbb
   rw [hb] at hc';cases hc'
   refine .data _ _ (.ref _ b off (fun k=>vs.getD (off+k) undef) (fun k hk => ?_) (fun k hk => ?_) (fun k hk => ?_))
   ·simp only [List.getElem_drop,List.getElem_map]
    simp only [List.length_drop,List.length_map] at hk
    exact (AV.one_dem _).trans (b8 _ (by omega))
   ·simp only [List.length_drop,List.length_map] at hk
    refine ⟨.inr ⟨b1,by show off+k < upd g.hi b cs.length b;rw [upd_same];omega⟩,?_⟩
    have:off+k < vs.size:=by omega
    simp [World.cell?,b2,this]
   ·simp only [List.length_drop,List.length_map] at hk
    simp only [List.getElem_drop,List.getElem_map]
    have hh:=b6 (off+k) (by omega) (by omega)
    have:off+k < vs.size:=by omega
    have:=hh.dem.mono hK
    simpa [‹off+k < vs.size›] using this
  ·rename_i hj
   rw [if_neg hj] at h2
   exact h2
 ·intro t ht hu
  have h:=R.own t ht hu
  have h2:=scrub_own P w g (.slot t) i (S t) _ h
  have h3:OwnAt P w g' (.slot t) (scrub i (S t)) (a.tmps.getD t undef):=h2.keep rfl fun c hc=>⟨rfl,by show upd g.hi b cs.length c=g.hi c;exact upd_ne _ _ (by rintro rfl;rw [b4] at hc;cases hc),hc⟩
  show OwnAt P w g' (.slot t) (frz i cs (S t)) _
  generalize S t=v at h3
  cases v<;>try exact h3
  simp only [frz]
  split<;>trivial
 ·intro j c hj
  have hji:j≠i:=by rintro rfl;simp [g',upd] at hj
  have hj':g.al j=some c:=by simpa [g',upd,hji] using hj
  have hcb:=hnb j c hji hj'
  obtain ⟨cs2,vs2,ty2,h1,h2,h3,h4,h5,h6,h7,h8,h9⟩:=R.box j c hj'
  refine ⟨cs2,vs2,ty2,by rw [upd_ne _ _ hji];exact h1,h2,h3,by show upd g.hi b cs.length c=0;rw [upd_ne _ _ hcb];exact h4,h5,h6,fun k hk hk'=>(h7 k hk hk').mono hK,fun k hk hk' => ?_,h9⟩
  refine (h8 k hk hk').keep rfl fun b' hb'=>⟨rfl,?_,hb'⟩
  show upd g.hi b cs.length b'=g.hi b'
  exact upd_ne _ _ (by rintro rfl;rw [b4] at hb';cases hb')
 ·intro j cs2 h hu
  have hji:j≠i:=by rintro rfl;simp [upd] at h
  have h':H j=some cs2:=by simpa [upd,hji] using h
  show (upd g.al i none j).isSome
  rw [upd_ne _ _ hji]
  exact R.alH j cs2 h' hu
 ·intro j k c h1 h2
  have hj:j≠i:=by rintro rfl;simp [g',upd] at h1
  have hk:k≠i:=by rintro rfl;simp [g',upd] at h2
  exact R.inj j k c (by simpa [g',upd,hj] using h1) (by simpa [g',upd,hk] using h2)
 ·intro c hc
  have hcb:c≠b:=by
   rintro rfl
   have:=(Array.getElem?_eq_some_iff.1 b2).1
   omega
  exact ⟨by show upd g.hi b cs.length c=0;rw [upd_ne _ _ hcb];exact (R.fresh c hc).1,(R.fresh c hc).2⟩
 ·intro c ob h
  obtain ⟨q1,q2,q3,q4,q5⟩:=R.kept c ob h
  have hcb:c≠b:=by rintro rfl;exact q5 i hb
  refine ⟨q1,q2,by show upd g.hi b cs.length c=0;rw [upd_ne _ _ hcb];exact q3,q4,fun j => ?_⟩
  show upd g.al i none j≠some c
  by_cases hj:j=i
  ·subst hj;simp [upd]
  ·rw [upd_ne _ _ hj];exact q5 j
end
section
variable {P:Program} {GI:World→Prop} {n:Nat} {old:Old} {S:Slots} {H:Boxes} {Q:Post} {ro:Option Nat}
theorem SW.ghost {c:Code} {K:Old→Slots→Boxes→Prop} (h:∀ w0 g a w,g.old=old→Rel P w0 n NoU g S H a w→∃ g2 S2 H2,Rel P w0 n NoU g2 S2 H2 a w∧K g2.old S2 H2) (hc:∀ o S H,K o S H→SW P GI n ro c Q o S H):SW P GI n ro c Q old S H:=by
 intro w0 g a w m hG ho R
 obtain ⟨g2,S2,H2,R2,hK⟩:=h w0 g a w ho R
 exact hc _ _ _ hK w0 g2 a w m hG rfl R2
theorem SW.freeze {c:Code} {i:Nat} {cs:List AV} (hH:H i=some cs) (hf:old.facts=[]) (hc:SW P GI n ro c Q old (fun t=>frz i cs (S t)) (upd H i none)):SW P GI n ro c Q old S H:=by
 intro w0 g a w m hG ho R
 obtain ⟨g',h1,R'⟩:=R.freeze hH (by rw [ho];exact hf)
 exact hc w0 g' a w m hG (h1.trans ho) R'
def HQ (P:Program) (w0:World) (n:Nat) (K:Old→Slots→Boxes→Prop):Exit→Act→World→Prop
 |.normal,a,w=>∃ g S H,Rel P w0 n NoU g S H a w∧K g.old S H
 |_,_,_=>False
theorem SW.hand (hG:Stable GI) {id p:Nat} {ops:Array Oper} {lm l2:List Nat} {os1 oh os2:List Oper} (hops:ops.toList=os1++(oh++os2)) (hp:os1.length=p) (hr:List.range ops.size=List.range p++(lm++l2)) (hl2:l2.map (ops[·]?)=os2.map some)
  (hnd:ops.all (fun o=>calmOp o.op)=true) (hbx:∀ d,¬ old.bx d)
  {al1 al2:List AOpr} (hal1:os1.map (compOpr P n false ops)=al1) (hal2:os2.map (compOpr P n false ops)=al2) (hok1:al1.all (·.ok n)=true) (hok2:al2.all (·.ok n)=true)
  {K1:Slots→Boxes→Prop} {K2 K3:Old→Slots→Boxes→Prop} (h1:aops P GI al1 K1 (fun _=>False) S H)
  (hand:∀ w0 g S1 H1 a w m,GI w0→g.old=old→Rel P w0 n NoU g S1 H1 a w→K1 S1 H1→wpOpsIn (FR ro) m P ops (HQ P w0 n K2) lm a w)
  (h2:∀ o S H,K2 o S H→(∀ d,¬ o.bx d)∧aops P GI al2 (K3 o) (fun _=>False) S H) (hQ:∀ o S H,K3 o S H→Q .normal o S H):SW P GI n ro (.region id ops false) Q old S H:=by
 intro w0 g a w m hG0 ho R
 refine wpIn_region ?_
 rw [hr]
 have hl1:(List.range p).map (ops[·]?)=os1.map some:=by
  apply List.ext_getElem?
  intro i
  simp only [List.getElem?_map]
  by_cases hi:i < p
  ·have h3:ops[i]? = os1[i]? := by
    rw [← Array.getElem?_toList,hops,List.getElem?_append_left (by omega)]
   have h4:os1[i]? = some (os1[i]'(by omega)):=List.getElem?_eq_getElem (by omega)
   simp [hi,h3,h4]
  ·have:os1[i]? = none:=List.getElem?_eq_none (by omega)
   simp [hi,this]
 refine wpOpsIn_append (Q1:=QQ P w0 n old (assignQ K1)) (fun e a w hne hq => ?_) (fun a1 w1 hq => ?_) _ _ _ (aops_list hG hG0 hnd ho R (List.range p) os1 hl1 (fun o hoo=>by
   subst hal1
   simp only [List.all_map,List.all_eq_true,Function.comp] at hok1
   exact hok1 o hoo) hbx (by rw [hal1];exact h1))
 ·cases e with
  |normal=>exact absurd rfl hne
  |exit id=>obtain ⟨_,_,_,_,_,h⟩:=hq;exact h.elim
  |ret=>obtain ⟨_,_,_,_,_,h⟩:=hq;exact h.elim
  |panic ch=>obtain ⟨_,_,_,_,_,_,_,_,_,_,h⟩:=hq;exact h.elim
  |goto l=>exact hq.elim
  |outgrown=>exact hq.elim
 ·obtain ⟨g1,S1,H1,ho1,R1,hk1⟩:=hq
  refine wpOpsIn_append (Q1:=HQ P w0 n K2) (fun e a w hne hq => ?_) (fun a2 w2 hq => ?_) _ _ _ (hand w0 g1 S1 H1 a1 w1 m hG0 ho1 R1 hk1)
  ·cases e with
   |normal=>exact absurd rfl hne
   |_=>exact hq.elim
  ·obtain ⟨g2,S2,H2,R2,hk2⟩:=hq
   obtain ⟨hb2,ha2⟩:=h2 _ _ _ hk2
   have:=aops_list (ro:=ro) (m:=m) hG hG0 hnd (old:=g2.old) rfl R2 l2 os2 hl2 (fun o hoo=>by
    subst hal2
    simp only [List.all_map,List.all_eq_true,Function.comp] at hok2
    exact hok2 o hoo) hb2 (by rw [hal2];exact ha2)
   refine wpOpsIn_mono (fun e a w hq => ?_) _ _ _ this
   cases e with
   |normal =>
    obtain ⟨g3,S3,H3,ho3,R3,hk3⟩:=hq
    exact ⟨g3,S3,H3,R3,by rw [ho3];exact hQ _ _ _ hk3⟩
   |exit id=>obtain ⟨_,_,_,_,_,h⟩:=hq;exact h.elim
   |ret=>obtain ⟨_,_,_,_,_,h⟩:=hq;exact h.elim
   |panic ch=>obtain ⟨_,_,_,_,_,_,_,_,_,_,h⟩:=hq;exact h.elim
   |goto l=>exact hq.elim
   |outgrown=>exact hq.elim
end
end Go.AL
namespace Go.AL
open Go.RowKit
section
variable {P:Program} {a:Act} {w:World}
end
section
variable {P:Program} {GI:World→Prop} {n:Nat} {old:Old} {S:Slots} {H:Boxes} {Q:Post} {ro:Option Nat}
end
end Go.AL
namespace Go.AL
open Go.RowKit
section
variable {P:Program} {GI:World→Prop} {call:CallF} {n:Nat} {ro:Option Nat} {Q:Post} {old:Old}
theorem compC_seq {c:Code} {x y:ACode} (h:compC P n c = .seq x y):∃ x' y',c = .seq x' y'∧compC P n x'=x∧compC P n y'=y:=by
 cases c with
 |seq x' y'=>simp only [compC,ACode.seq.injEq] at h;exact ⟨x',y',rfl,h.1,h.2⟩
 |region id ops draw =>
  simp only [compC] at h
  split at h
  ·split at h<;>cases h
  ·split at h<;>cases h
 |cond c x y=>simp only [compC] at h;split at h<;>cases h
 |_=>cases h
end
end Go.AL
namespace Go.AL
open Go.RowKit
section
variable {P:Program} {GI:World→Prop} {n:Nat} {w0:World}
def awpF (P:Program) (GI:World→Prop) (i:Nat):Nat→ACode→(AExit→Slots→Boxes→Prop)→Slots→Boxes→Prop
 |0,ac,Q,S,H=>∃ cs,H i=some cs∧awp P GI ac Q (fun t=>frz i cs (S t)) (upd H i none)
 |k+1,.seq x y,Q,S,H=>awp P GI x (fun e S' H'=>match e with
  |.normal=>awpF P GI i k y Q S' H'
  |e=>Q e S' H') S H
 |_+1,_,_,_,_=>False
theorem awpF_wp (hG:Stable GI) (hG0:GI w0) (hm:P.follows .mixedOrders=true) {old:Old} {i:Nat} (hf:old.facts=[]) (hbx:∀ d,¬ old.bx d):∀ (k:Nat) (c:Code) (Q:AExit→Slots→Boxes→Prop) (g:Gh) (S:Slots) (H:Boxes) (a:Act) (w:World),g.old=old→Rel P w0 n NoU g S H a w→awpF P GI i k (compC P n c) Q S H→c.wp P (QQ P w0 n old Q) a w
 |0,c,Q,g,S,H,a,w,ho,R,h=>by
  obtain ⟨cs,hH,h⟩:=h
  obtain ⟨g',h1,R'⟩:=R.freeze hH (by rw [ho];exact hf)
  exact awp_wp hG hG0 hm c _ g' _ _ a w (fun d _=>hbx d) (h1.trans ho) R' h
 |k+1,c,Q,g,S,H,a,w,ho,R,h=>by
  cases hac:compC P n c<;>rw [hac] at h<;>try (exact h.elim)
  rename_i xa ya
  obtain ⟨x,y,rfl,rfl,rfl⟩:=compC_seq hac
  refine wp_seq (wp_mono (awp_wp hG hG0 hm x _ g S H a w (fun d _=>hbx d) ho R h) ?_)
  intro e a' w' he
  cases e with
  |normal =>
   obtain ⟨g',S',H',e1,R',h'⟩:=he
   exact awpF_wp hG hG0 hm hf hbx k y Q g' S' H' a' w' e1 R' h'
  |_=>exact he
theorem AC.of_bodyZ (hG:Stable GI) (hm:P.follows .mixedOrders=true) {f:Nat} {fn:Func} {c:Code} {args:List AV} {out:AOut} (i k:Nat) (hf:P.funcs[f]? = some fn) (hb:fn.body=some c) (hn:fn.ntmps=n) (hl:args.length≤n) {ac:ACode} (hc:compC P n c=ac)
  (h:awpF P GI i k ac (post P n fn.results.toList out) (start args) (fun _=>none)):AC P GI f args out:=by
 intro w old cargs hGw hlen hr
 refine calls_of_wp hf hb ?_
 subst hc
 have R:Rel P w n NoU _ (start args) (fun _=>none) { tmps:=cargs++Array.replicate (fn.ntmps - cargs.size) undef,defers:=[] } w:=Rel.begin hn hl hlen hr
 refine wp_mono (awpF_wp hG hGw hm (old:=Old.plain old w) rfl (fun _ h=>h) k c _ _ _ _ _ w rfl R h) ?_
 intro e a' w' he
 have fin:(∃ g' S H,g'.old=Old.plain old w∧Rel P w n NoU g' S H a' w'∧∃ v,ares P n fn.results.toList S H=some v∧out = .ret v) →
   a'.defers=[]∧∃ v,(results fn a'.tmps).run P w' = .ok v w'∧Ends P old w out (.returned v) w':=by
  rintro ⟨g',S,H,e1,R',v,hv,rfl⟩
  obtain ⟨c,r1,r2,r3⟩:=ares_sound R' hv
  refine ⟨by rw [R'.defers,e1];rfl,c,r1,?_,g'.hi,fun b hb=>(R'.fresh b hb).1,c,rfl,?_,?_⟩
  ·have:=R'.below;rwa [R'.base] at this
  ·have:g'.Pr=prOf w.heap.size old g'.hi:=by
    funext b k
    simp only [Gh.Pr,prOf,R'.base,e1,Old.plain]
   rw [this] at r2;exact .data _ _ r2
  ·rwa [R'.base] at r3
 cases e with
 |normal=>exact fin he
 |ret=>exact fin he
 |exit id=>obtain ⟨_,_,_,_,_,h⟩:=he;exact h.elim
 |panic chain =>
  obtain ⟨hd,v,c,hi,S,H,h1,h2,h3,h4,h5⟩:=he
  subst h1
  cases (show out = .panic v from h5)
  exact ⟨hd,h2,hi,h3,c,rfl,h4⟩
 |goto l=>exact he.elim
 |outgrown=>exact he.elim
theorem awpF_cut {i k:Nat} {x y:ACode} {Q:AExit→Slots→Boxes→Prop} {S:Slots} {H:Boxes} (K:Slots→Boxes→Prop) (hx:awp P GI x (fun e S H=>e = .normal∧K S H) S H) (hmono:∀ {Q Q':AExit→Slots→Boxes→Prop},(∀ e S H,Q e S H→Q' e S H)→awp P GI x Q S H→awp P GI x Q' S H) (hy:∀ S' H',K S' H'→awpF P GI i k y Q S' H'):awpF P GI i (k+1) (.seq x y) Q S H :=
 hmono (fun e S' H' h=>by obtain ⟨rfl,h⟩:=h;exact hy S' H' h) hx
theorem awpF_zero {i:Nat} {ac:ACode} {Q:AExit→Slots→Boxes→Prop} {S:Slots} {H:Boxes} (cs:List AV) (K:Slots→Boxes→Prop) (hH:H i=some cs) (hK:K (fun t=>frz i cs (S t)) (upd H i none)) (hc:∀ S' H',K S' H'→awp P GI ac Q S' H'):awpF P GI i 0 ac Q S H:=⟨cs,hH,hc _ _ hK⟩
end
end Go.AL
namespace Go.AL
open Go.RowKit
section
variable {P:Program} {GI:World→Prop} {w0:World} {n:Nat} {g:Gh} {S:Slots} {H:Boxes} {a:Act} {w:World}
theorem Rel.hand (R:Rel P w0 n NoU g S H a w) {b:Nat} {o:Obj} (hk:g.old.keep b=some o) (m:Nat) :
  ∃ g',g'.old={ g.old with keep:=upd g.old.keep b none }∧g'.base=g.base∧Rel P w0 n NoU g' S H a w∧(∀ c k,g.Pr c k→g'.Pr c k)∧∀ k,k < m→g'.Pr b k:=by
 obtain ⟨k1,k2,k3,k4,k5⟩:=R.kept b o hk
 have R1:Rel P w0 n NoU { g with old:={ g.old with keep:=upd g.old.keep b none } } S H a w:=by
  refine { size:=R.size,defers:=R.defers,facts:=R.facts,slot:=R.slot,own:=fun t ht hu=>(R.own t ht hu).keep rfl fun b hb=>⟨rfl,rfl,hb⟩,box := ?_,alH:=R.alH,alU:=R.alU,inj:=R.inj,base:=R.base,below:=R.below,fresh:=R.fresh,still:=R.still,grown:=R.grown,kept := ?_ }
  ·intro i c hi
   obtain ⟨cs,vs,ty,h1,h2,h3,h4,h5,h6,h7,h8,h9⟩:=R.box i c hi
   exact ⟨cs,vs,ty,h1,h2,h3,h4,h5,h6,h7,fun j hj hj'=>(h8 j hj hj').keep rfl fun b hb=>⟨rfl,rfl,hb⟩,h9⟩
  ·intro c ob h
   have hc:c≠b:=by rintro rfl;simp [upd] at h
   exact R.kept c ob (by simpa [upd,hc] using h)
 have hlt:=(Array.getElem?_eq_some_iff.1 k2).1
 have R2:=R1.claim (G:=fun c=>c=b) (fun _=>m) (fun c hc=>by subst hc;exact ⟨⟨k1,k3,k4,k5⟩,hlt,upd_same _ _ _⟩)
 refine ⟨Gh.claim { g with old:={ g.old with keep:=upd g.old.keep b none } } (fun c=>c=b) (fun _=>m),rfl,rfl,R2,fun c k hp => ?_,fun k hkm => .inr ⟨k1,?_⟩⟩
 ·rcases hp with hp | hp
  ·exact .inl hp
  ·refine .inr ⟨hp.1,?_⟩
   simp only [Gh.claim]
   by_cases hc:c=b
   ·subst hc;rw [k3] at hp;omega
   ·rw [if_neg hc];exact hp.2
 ·simp only [Gh.claim]
  rw [if_pos trivial];exact hkm
end
end Go.AL
namespace Go.AL
open Go.RowKit
section
variable {P:Program} {GI:World→Prop} {md:Region.Mode} {ops:Array Oper} {n:Nat}
def gives (P:Program) (GI:World→Prop) (o:AOpr) (S:Slots) (H:Boxes) (v:AV):Prop :=
 awanted S o.guard=some true∧match o.op with
 |.call f args=>(args.any fun y=>boxy (ev S y))=false∧callable P f=true∧AC P GI f (args.map fun y=>fz H (ev S y)) (.panic v)
 |_=>False
theorem gives_back {x y:AOpr} {S:Slots} {H:Boxes} {ex:Eff} {v:AV} (ha:x.apart y=true) (hx:yields P GI x S H ex) (hy:gives P GI y (ex.S S x.dst) (ex.H H) v):gives P GI y S H v:=by
 obtain ⟨h1,h2,h3⟩:=apart_spec ha
 obtain ⟨d1,d2⟩:=yields_dm hx
 have hS:∀ t∈y.reads,ex.S S x.dst t=S t:=fun t ht=>Eff.S_other (fun h=>(h1 t (mem_writes (.inl h))).1 ht) (fun h=>(h1 t (mem_writes (.inr (d1 t h)))).1 ht)
 unfold gives at hy ⊢
 obtain ⟨hw,hy⟩:=hy
 refine ⟨by rw [← hw];exact (awanted_congr fun t b hgd=>hS t (by simp [AOpr.reads,hgd])).symm,?_⟩
 generalize hop:y.op=op at hy
 cases op<;>try (exact hy.elim)
 rename_i f args
 simp only at hy ⊢
 have hS':∀ z∈args,∀ t∈z.tmps,ex.S S x.dst t=S t:=fun z hz t ht=>hS t (by
  simp only [AOpr.reads,hop,AOp.rd,List.mem_append,List.mem_flatMap]
  exact .inl ⟨z,hz,ht⟩)
 have e1:(args.any fun y=>boxy (ev (ex.S S x.dst) y))=(args.any fun y=>boxy (ev S y)):=by
  rw [Bool.eq_iff_iff]
  simp only [List.any_eq_true]
  constructor
  ·rintro ⟨y,hy,hb⟩;exact ⟨y,hy,by rw [← ev_congr (hS' y hy)];exact hb⟩
  ·rintro ⟨y,hy,hb⟩;exact ⟨y,hy,by rw [ev_congr (hS' y hy)];exact hb⟩
 obtain ⟨hb,hc,hac⟩:=hy
 have e2:(args.map fun y=>fz (ex.H H) (ev (ex.S S x.dst) y))=(args.map fun y=>fz H (ev S y)):=List.map_congr_left fun y hy=>by
  simp only [List.any_eq_false,Bool.not_eq_true] at hb
  rw [fz_congr (hb y hy) (H':=H),ev_congr (hS' y hy)]
 rw [e1] at hb
 rw [e2] at hac
 exact ⟨hb,hc,hac⟩
def dOpP (P:Program) (GI:World→Prop) (n:Nat) (ops:Array Oper) (i:Nat) (K:Slots→Boxes→Prop) (Qp:AV→Prop) (S:Slots) (H:Boxes):Prop :=
 match aAt P n ops i with
 |none=>False
 |some o=>(∃ e,yields P GI o S H e∧K (e.S S o.dst) (e.H H))∨∃ v,gives P GI o S H v∧Qp v
def anyP (P:Program) (GI:World→Prop) (n:Nat) (md:Region.Mode) (ops:Array Oper) (QA:Slots→Boxes→Prop) (Qp:AV→Prop):Nat→Array Bool→Slots→Boxes→Prop
 |0,listed,S,H=>Region.ready md ops listed=[]∧QA S H
 |fuel+1,listed,S,H=>(Region.ready md ops listed=[]→QA S H)∧∀ i∈Region.ready md ops listed,dOpP P GI n ops i (anyP P GI n md ops QA Qp fuel (listed.setIfInBounds i true)) Qp S H
theorem anyP_first {QA:Slots→Boxes→Prop} {Qp:AV→Prop} {i:Nat} {oi:AOpr} {e:Eff} (hi:aAt P n ops i=some oi) :
  ∀ (fuel:Nat) (listed:Array Bool) (S:Slots) (H:Boxes),
   (∀ j o aj,ops[j]? = some o→aAt P n ops j=some aj→j≠i→listed.getD j true=false→(∀ ed∈o.after,Region.binds md ed=true→ed.on≠i)→oi.apart aj=true) →
   i∈Region.ready md ops listed→yields P GI oi S H e →
   anyP P GI n md ops QA Qp fuel (listed.setIfInBounds i true) (e.S S oi.dst) (e.H H)→anyP P GI n md ops QA Qp (fuel+1) listed S H:=by
 intro fuel
 induction fuel with
 |zero =>
  intro listed S H _ hr hy hK
  refine ⟨fun h=>(by rw [h] at hr;cases hr),fun j hj => ?_⟩
  by_cases hji:j=i
  ·subst hji;unfold dOpP;rw [hi];exact .inl ⟨e,hy,hK⟩
  ·have:=ready_mono hj hji
   rw [hK.1] at this
   cases this
 |succ fuel ih =>
  intro listed S H hfree hr hy hK
  refine ⟨fun h=>(by rw [h] at hr;cases hr),fun j hj => ?_⟩
  by_cases hji:j=i
  ·subst hji;unfold dOpP;rw [hi];exact .inl ⟨e,hy,hK⟩
  ·have h1:=hK.2 j (ready_mono hj hji)
   obtain ⟨hjun,o,ho,hall⟩:=mem_ready.1 hj
   have haj:aAt P n ops j=some (compOpr P n true ops o):=by simp [aAt,ho]
   have hnot:∀ ed∈o.after,Region.binds md ed=true→ed.on≠i:=fun ed hed hb heq=>by
    have h1:=hall ed hed hb
    have h0:=(mem_ready.1 hr).1
    rw [heq] at h1
    rcases Nat.lt_or_ge i listed.size with h' | h'
    ·simp [h'] at h0 h1;rw [h0] at h1;cases h1
    ·simp [Array.getElem?_eq_none h'] at h1
   have hap:=hfree j o _ ho haj hji hjun hnot
   unfold dOpP at h1 ⊢
   rw [haj] at h1 ⊢
   rcases h1 with h1 | ⟨v,hg,hq⟩
   case inr=>exact .inr ⟨v,gives_back hap hy hg,hq⟩
   obtain ⟨ej,hyj,hKj⟩:=h1
   have hyj':=yields_back hap hy hyj
   refine .inl ⟨ej,hyj',?_⟩
   have hfree':∀ k o' ak,ops[k]? = some o'→aAt P n ops k=some ak→k≠i→(listed.setIfInBounds j true).getD k true=false→(∀ ed∈o'.after,Region.binds md ed=true→ed.on≠i)→oi.apart ak=true:=by
    intro k o' ak hk hak hki hun hno
    refine hfree k o' ak hk hak hki ?_ hno
    by_cases hjk:j=k
    ·subst hjk;exact hjun
    ·rw [getD_set_ne true hjk] at hun;exact hun
   refine ih (listed.setIfInBounds j true) _ _ hfree' (ready_mono hr (Ne.symm hji)) (yields_keep hap hyj' hy) ?_
   rw [Array.setIfInBounds_comm _ _ hji]
   rw [← effS_comm hap (yields_dm hy).1 (yields_dm hyj).1,← effH_comm hap (yields_dm hy).2 (yields_dm hyj').2]
   exact hKj
def alexO (md:Region.Mode) (ops:Array Oper) (al:List AOpr) (ps:List Nat):List Nat→Array Bool→Bool
 |[],listed=>(Region.ready md ops listed).isEmpty
 |k::ord,listed=>(Region.ready md ops listed).contains k && afree md ops al listed k && (!ps.contains k || Region.ready md ops listed==[k]) && alexO md ops al ps ord (listed.setIfInBounds k true)
def pstep (P:Program) (GI:World→Prop) (op:AOp) (dst:Option Nat) (K:Slots→Boxes→Prop) (Qp:AV→Prop) (S:Slots) (H:Boxes):Prop :=
 match op with
 |.call f args=>(args.any fun y=>boxy (ev S y))=false∧astep P GI (.call f args) dst K Qp S H
 |_=>False
def dopsO (P:Program) (GI:World→Prop) (al:List AOpr) (ps:List Nat):List Nat→(Slots→Boxes→Prop)→(AV→Prop)→Slots→Boxes→Prop
 |[],K,_,S,H=>K S H
 |k::ord,K,Qp,S,H=>match al[k]? with
  |none=>False
  |some o=>match awanted S o.guard with
   |some true=>if ps.contains k then pstep P GI o.op o.dst (dopsO P GI al ps ord K Qp) Qp S H else dstep P GI o.op o.dst (dopsO P GI al ps ord K Qp) S H
   |some false=>dopsO P GI al ps ord K Qp (putD S o.dst undefA) H
   |none=>False
theorem anyP_lex {QA:Slots→Boxes→Prop} {Qp:AV→Prop} {ps:List Nat}:∀ (ord:List Nat) (listed:Array Bool) (S:Slots) (H:Boxes),
  alexO md ops (compOps P n true ops) ps ord listed=true→dopsO P GI (compOps P n true ops) ps ord QA Qp S H→anyP P GI n md ops QA Qp ord.length listed S H
 |[],_,_,_,hB,h=>⟨by simpa [alexO] using hB,h⟩
 |k::ord,listed,S,H,hB,h=>by
  simp only [alexO,Bool.and_eq_true] at hB
  obtain ⟨⟨⟨hr,hf⟩,hp⟩,hB'⟩:=hB
  simp only [dopsO] at h
  split at h
  case h_1=>exact h.elim
  rename_i o ho
  have ha:aAt P n ops k=some o:=by rw [← compOps_get];exact ho
  have hr':k∈Region.ready md ops listed:=by simpa using hr
  have step:∀ e,yields P GI o S H e→dopsO P GI (compOps P n true ops) ps ord QA Qp (e.S S o.dst) (e.H H)→anyP P GI n md ops QA Qp (k::ord).length listed S H:=fun e hy hK =>
   anyP_first ha ord.length listed S H (afree_spec ha hf) hr' hy (anyP_lex ord _ _ _ hB' hK)
  split at h
  ·rename_i hw
   split at h
   ·rename_i hps
    simp only [hps,Bool.not_true,Bool.false_or,beq_iff_eq] at hp
    unfold pstep at h
    split at h
    case h_2=>exact h.elim
    rename_i f args hop
    obtain ⟨hb,out,h1,h2,h3,h4⟩:=h
    cases out with
    |ret v =>
     refine step { v:=v } ?_ h4
     unfold yields
     rw [hw]
     simp only [hop]
     exact ⟨hb,.ret v,h1,h2,h3,rfl⟩
    |panic v =>
     refine ⟨fun hn=>(by rw [hn] at hr';cases hr'),fun j hj => ?_⟩
     rw [hp,List.mem_singleton] at hj
     subst hj
     unfold dOpP
     rw [ha]
     refine .inr ⟨v,⟨hw,?_⟩,h4⟩
     rw [hop]
     exact ⟨hb,h1,h2⟩
   ·obtain ⟨e,he,hK⟩:=deff_of_dstep h
    exact step e (by unfold yields;rw [hw];exact he) hK
  ·rename_i hw
   exact step { v:=undefA } (by unfold yields;rw [hw]) h
  ·exact h.elim
variable {w0:World} {g:Gh} {S:Slots} {H:Boxes} {a:Act} {w:World}
theorem any_wpP (hG:Stable GI) (hG0:GI w0) {old:Old} {Q:AExit→Slots→Boxes→Prop} {S0:Slots} {H0:Boxes} (hA:∀ o∈ops,∀ t z,(compOpr P n true ops o).op ≠ .alloc t z) (hok:∀ o∈ops,(compOpr P n true ops o).ok n=true) :
  ∀ (fuel:Nat) (listed:Array Bool) (g:Gh) (S:Slots) (H:Boxes) (a:Act) (w:World),g.old=old→Rel P w0 n NoU g S H a w →
   anyP P GI n .any ops (Q .normal) (fun v=>Q (.panic v) S0 H0) fuel listed S H→wpAny P .any ops (QQ P w0 n old Q) fuel listed a w:=by
 intro fuel
 induction fuel with
 |zero =>
  intro listed g S H a w ho R h
  exact ⟨h.1,g,S,H,ho,R,h.2⟩
 |succ fuel ih =>
  intro listed g S H a w ho R h
  refine ⟨fun hr=>⟨g,S,H,ho,R,h.1 hr⟩,fun i hi => ?_⟩
  have hd:=h.2 i hi
  obtain ⟨o,hoi,hai⟩:=aAt_of_ready (P:=P) (n:=n) hi
  unfold dOpP at hd
  rw [hai] at hd
  have hmem:=Array.mem_of_getElem? hoi
  have hoko:=hok o hmem
  have hnal:=hA o hmem
  have hdn:∀ t,o.dst=some t→t < n∧t∉(compOpr P n true ops o).op.rd:=by
   intro t ht
   simp only [AOpr.ok,Bool.and_eq_true] at hoko
   have h1:=hoko.1
   rw [show (compOpr P n true ops o).dst=o.dst from rfl,ht] at h1
   simpa using h1
  unfold wpOp
  simp only [hoi]
  rcases hd with ⟨e,hy,hK⟩ | ⟨v,⟨haw,hv⟩,hq⟩
  case inr =>
   rw [wanted_of R (fun _ _ _=>id) hoko haw]
   simp only [if_true]
   refine .inl ?_
   generalize hop:(compOpr P n true ops o).op=op at hv
   have hcomp:comp P n (match o.dst with | some d=>taken ops d | none=>false) (hrOf ops o) o=op:=hop
   cases op<;>try (exact hv.elim)
   rename_i f args
   obtain ⟨hb,h1,h2⟩:=hv
   refine opcall_wp R hG hG0 hcomp (fun t ht=>⟨(hdn t ht).1,id⟩) (fun _ _=>id) (KA:=fun _=>False) (Qp:=fun v'=>v'=v) ⟨.panic v,h1,h2,⟨fun h=>absurd (hb.symm.trans h) (by decide),rfl⟩⟩ (fun _ _ _ _ _ _ _ hf=>hf.elim) ?_
   intro v' c hi' w' k1 k2 k3 k4
   subst k4
   exact ⟨by rw [← ho];exact R.defers,v',c,hi',S0,H0,rfl,k1,k2,by rw [← ho];exact k3,hq⟩
  unfold yields at hy
  cases haw:awanted S (compOpr P n true ops o).guard with
  |none=>rw [haw] at hy;exact hy.elim
  |some b =>
   rw [wanted_of R (fun _ _ _=>id) hoko haw]
   rw [haw] at hy
   cases b with
   |false =>
    simp only at hy
    subst hy
    simp only [Bool.false_eq_true,if_false]
    exact ih _ g _ _ _ _ ho (R.putD o.dst _ _ (fun t ht=>(hdn t ht).1) (.data _ _ (undefRD _ _)) fun _ _=>trivial) hK
   |true =>
    simp only at hy
    simp only [if_true]
    refine .inl ?_
    have next:∀ (g':Gh) (a':Act) (w':World),g'.old=g.old→Rel P w0 n NoU g' (e.S S o.dst) (e.H H) a' w'→wpAny P .any ops (QQ P w0 n old Q) fuel (listed.setIfInBounds i true) a' w' :=
     fun g' a' w' h2 R'=>ih _ g' _ _ _ _ (h2.trans ho) R' hK
    by_cases hcalm:(compOpr P n true ops o).op.calm=true
    ·exact (does_calm R rfl hcalm (fun t ht=>⟨(hdn t ht).1,id⟩) (fun _ _=>id) (fun t ht=>(hdn t ht).2) (deff_calm hcalm hy)).wp fun g' a' w' e1 e2 R'=>next g' a' w' e2 R'
    ·generalize hop:(compOpr P n true ops o).op=op at hcalm hy
     have hcomp:comp P n (match o.dst with | some d=>taken ops d | none=>false) (hrOf ops o) o=op:=hop
     cases op<;>try (exact absurd rfl hcalm)
     case alloc t cs=>exact absurd hop (hnal t cs)
     case call f args =>
      exact opcall_wp R hG hG0 hcomp (fun t ht=>⟨(hdn t ht).1,id⟩) (fun _ _=>id) hy.2 (fun v g' a' w' e1 e2 R' hk=>by subst hk;exact next g' a' w' e2 R') (fun _ _ _ _ _ _ _ hf=>hf.elim)
     case callv f args =>
      simp only [deff] at hy
      split at hy
      case h_2=>exact hy.elim
      rename_i k first cap hfk
      exact opcallv_wp R hG hG0 hcomp (fun t ht=>⟨(hdn t ht).1,id⟩) (fun _ _=>id) hfk hy.2 (fun v g' a' w' e1 e2 R' hk=>by subst hk;exact next g' a' w' e2 R') (fun _ _ _ _ _ _ _ hf=>hf.elim)
     case box=>exact hy.elim
     case panic=>exact hy.elim
     case other=>exact hy.elim
def noAlloc (l:List AOpr):Bool:=l.all fun o=>match o.op with | .alloc .. => false | _=>true
def dOKp (P:Program) (n:Nat) (ops:Array Oper) (ps ord:List Nat):Bool :=
 (compOps P n true ops).all (·.ok n) && noAlloc (compOps P n true ops) && decide (ord.length=ops.size) && alexO .any ops (compOps P n true ops) ps ord (Array.replicate ops.size false)
theorem SW.drawP (hG:Stable GI) (hm:P.follows .mixedOrders=true) {ro:Option Nat} {old:Old} {Q:Post} {id:Nat} {ps ord:List Nat} (hnd:ops.all (fun o=>calmOp o.op)=true) (hok:dOKp P n ops ps ord=true)
  {l:List AOpr} (hl:compOps P n true ops=l) (h:dopsO P GI l ps ord (Q .normal old) (fun v=>Q (.panic v) old S H) S H):SW P GI n ro (.region id ops true) Q old S H:=by
 subst hl
 intro w0 g a w m hG0 ho R
 simp only [dOKp,Bool.and_eq_true,decide_eq_true_eq] at hok
 obtain ⟨⟨⟨h1,h2⟩,h3⟩,h4⟩:=hok
 have R0:Rel P w0 n NoU g S H a { w with drawn:=w.drawn+1 }:=R.grow' ((Below.refl _ w).drew)
 refine wpIn_mono (wpIn_region_any hm (wpAny_in hnd QQ_noOut _ _ _ _ (any_wpP hG hG0 (old:=old) (Q:=Q.awp old) (S0:=S) (H0:=H) (fun o hoo t z hz => ?_) (fun o hoo => ?_) ops.size (Array.replicate ops.size false) g S H a _ ho R0 ?_))) fun _ _ _ hq=>QS_of_QQ hq
 ·have:=List.all_eq_true.1 h2 (compOpr P n true ops o) (List.mem_map_of_mem (by simpa using hoo))
  rw [hz] at this
  cases this
 ·simp only [compOps,List.all_map,List.all_eq_true,Function.comp] at h1
  exact h1 o (by simpa using hoo)
 ·rw [← h3]
  exact anyP_lex ord _ S H (by rw [h3];exact h4) h
def dopsM (P:Program) (GI:World→Prop):List (Bool×AOpr)→(Slots→Boxes→Prop)→(AV→Prop)→Slots→Boxes→Prop
 |[],K,_,S,H=>K S H
 |(b,o)::L,K,Qp,S,H=>match awanted S o.guard with
  |some true=>if b then pstep P GI o.op o.dst (dopsM P GI L K Qp) Qp S H else dstep P GI o.op o.dst (dopsM P GI L K Qp) S H
  |some false=>dopsM P GI L K Qp (putD S o.dst undefA) H
  |none=>False
theorem dopsM_eq {al:List AOpr} {ps:List Nat} {K:Slots→Boxes→Prop} {Qp:AV→Prop}:∀ (ord:List Nat) (L:List (Bool×AOpr)),(ord.map fun k=>(ps.contains k,al[k]?))=(L.map fun x=>(x.1,some x.2))→dopsO P GI al ps ord K Qp=dopsM P GI L K Qp
 |[],[],_=>rfl
 |[],_::_,h=>by simp at h
 |_::_,[],h=>by simp at h
 |k::ord,(b,o)::L,h=>by
  simp only [List.map_cons,List.cons.injEq,Prod.mk.injEq] at h
  obtain ⟨⟨h1,h2⟩,h3⟩:=h
  funext S H
  simp only [dopsO,dopsM,h1,h2,dopsM_eq ord L h3]
theorem dstep_monoM {op:AOp} {dst:Option Nat} {K K':Slots→Boxes→Prop} (hK:∀ S H,K S H→K' S H) {S:Slots} {H:Boxes} (h:dstep P GI op dst K S H):dstep P GI op dst K' S H:=by
 cases op<;>simp only [dstep,astep] at h ⊢<;>(try exact h)
 case alloc=>cases dst<;>first | exact h | exact hK _ _ h
 case call f args =>
  obtain ⟨hb,out,h1,h2,h3,h4⟩:=h
  refine ⟨hb,out,h1,h2,h3,?_⟩
  cases out with
  |ret v=>exact hK _ _ h4
  |panic v=>exact h4
 case callv f args =>
  refine ⟨h.1,?_⟩
  have h:=h.2
  split at h
  ·obtain ⟨out,h1,h2,h3,h4⟩:=h
   refine ⟨out,h1,h2,h3,?_⟩
   cases out with
   |ret v=>exact hK _ _ h4
   |panic v=>exact h4
  ·exact h.elim
 all_goals
  split at h
  ·exact hK _ _ h
  ·exact h.elim
theorem dopsM_pre {K:Slots→Boxes→Prop} {Qp:AV→Prop} {L:List (Bool×AOpr)}:∀ (l:List AOpr) {S:Slots} {H:Boxes},dops P GI l (dopsM P GI L K Qp) S H→dopsM P GI (l.map (fun o=>(false,o))++L) K Qp S H
 |[],_,_,h=>h
 |o::l,S,H,h=>by
  simp only [List.map_cons,List.cons_append,dopsM,dops] at h ⊢
  cases hw:awanted S o.guard with
  |none=>rw [hw] at h;exact h.elim
  |some b =>
   rw [hw] at h
   cases b with
   |true=>exact dstep_monoM (fun S H h=>dopsM_pre l h) h
   |false=>exact dopsM_pre l h
theorem dopsM_call {K:Slots→Boxes→Prop} {Qp:AV→Prop} {L:List (Bool×AOpr)} {d:Option Nat} {f:Nat} {args:List Opd} {S:Slots} {H:Boxes} (hb:(args.any fun y=>boxy (ev S y))=false) (hc:callable P f=true) {out:AOut} (h:AC P GI f (args.map fun y=>fz H (ev S y)) out)
  (hk:match (generalizing:=false) out with | .ret v=>dopsM P GI L K Qp (putD S d v) H | .panic v=>Qp v):dopsM P GI ((true,⟨d,none,.call f args⟩)::L) K Qp S H:=by
 simp only [dopsM,awanted,if_true,pstep]
 refine ⟨hb,out,hc,h,fun h=>absurd (hb.symm.trans h) (by decide),?_⟩
 cases out<;>exact hk
theorem dopsM_end {K:Slots→Boxes→Prop} {Qp:AV→Prop} (l:List AOpr) {S:Slots} {H:Boxes} (h:dops P GI l K S H):dopsM P GI (l.map (fun o=>(false,o))) K Qp S H:=by
 have:=dopsM_pre (P:=P) (GI:=GI) (K:=K) (Qp:=Qp) (L:=[]) l h
 rwa [List.append_nil] at this
theorem SW.drawF (hG:Stable GI) (hm:P.follows .mixedOrders=true) {ro:Option Nat} {old:Old} {Q:Post} {id:Nat} (ps ord:List Nat) (hnd:ops.all (fun o=>calmOp o.op)=true) (hok:dOKp P n ops ps ord=true)
  {l:List AOpr} (hl:compOps P n true ops=l) (L:List (Bool×AOpr)) (hL:(ord.map fun k=>(ps.contains k,l[k]?))=(L.map fun x=>(x.1,some x.2))) (h:dopsM P GI L (Q .normal old) (fun v=>Q (.panic v) old S H) S H):SW P GI n ro (.region id ops true) Q old S H :=
 SW.drawP hG hm hnd hok hl (by rw [dopsM_eq ord L hL];exact h)
end
end Go.AL
namespace Go.AL
open Go.RowKit
section
variable {P:Program} {GI:World→Prop} {n:Nat} {a:Act} {w:World} {S:Slots} {H:Boxes}
theorem run_fieldAddrV {o:Oper} {s:TypeId} {fs:Array Field} {f:Field} {i:TypeInfo} {j:Nat} {x:Operand} {b off:Nat} (ho:o.op = .fieldAddr s x j) (hs:P.underlying s=some (.struct fs)) (hf:fs[j]? = some f) (hi:P.info? f.type=some i) (hz:i.size≠0)
  (hx:a.eval x = .pointer (some ⟨b,off,none⟩)):(execOp a.eval o).run P w = .ok (.value (.pointer (some ⟨b,off+f.offset,none⟩))) w:=by
 simp [execOp,ho,hx,Instr.fieldAt,run_underlying hs,hf,Instr.sureAddr,fieldPlace,sizeOf,typeInfo,hi,hz,Addr.add_lit]
theorem setRow_putObj (w:World) {b:Nat} {cs cs':Array Value} {ty:TypeId} (h:w.heap[b]? = some (.cells cs ty (0,0))):w.setRow b cs'=w.putObj b (.cells cs' ty (0,0)):=by
 unfold World.setRow World.putObj
 congr 1
 apply Array.ext_getElem?
 intro k
 rw [Array.getElem?_modify,Array.getElem?_setIfInBounds]
 have hlt:=(Array.getElem?_eq_some_iff.1 h).1
 by_cases hk:b=k
 ·subst hk
  have e:=(Array.getElem?_eq_some_iff.1 h).2
  simp [hlt,e]
 ·simp [hk]
end
end Go.AL
namespace Go.AL
open Go.RowKit
def EntK {κ:Type} (enc:κ→Value) (es:Array MapEntry) (l:List (κ×Value)):Prop:=es.size=l.length∧∀ i (h:i < es.size) (h':i < l.length),(es[i]).key=enc l[i].1∧(es[i]).val=l[i].2
def lookK {κ:Type} [BEq κ] (k:κ):List (κ×Value)→Nat→Option (Nat×Value)
 |[],_=>none
 |(k',v)::l,i=>if (k==k')=true then some (i,v) else lookK k l (i+1)
theorem EntK.push {κ:Type} {enc:κ→Value} {es:Array MapEntry} {l:List (κ×Value)} (h:EntK enc es l) (k:κ) (v:Value) (born:Nat):EntK enc (es.push { key:=enc k,val:=v,born:=born }) (l++[(k,v)]):=by
 refine ⟨by simp [h.1],fun i hi hi' => ?_⟩
 rw [Array.getElem_push,List.getElem_append]
 have hs:=h.1
 by_cases hlt:i < es.size
 ·rw [dif_pos hlt,dif_pos (by omega)]
  exact h.2 i hlt (by omega)
 ·rw [dif_neg hlt,dif_neg (by omega)]
  simp
theorem EntK.list {κ:Type} {enc:κ→Value} {es:Array MapEntry} {l:List (κ×Value)} (h:EntK enc es l):∀ i (h:i < es.toList.length) (h':i < l.length),(es.toList[i]).key=enc l[i].1∧(es.toList[i]).val=l[i].2:=fun i hi hi'=>by
 have:=h.2 i (by simpa using hi) hi'
 simpa using this
theorem findNow_int (k:Int):∀ (es:List MapEntry) (l:List (Int×Value)) (i:Nat),es.length=l.length→(∀ j (h:j < es.length) (h':j < l.length),(es[j]).key = .int .i64 l[j].1∧(es[j]).val=l[j].2)→Instr.findNow (.int .i64) (.int .i64 k) es i=some (lookK k l i)
 |[],[],_,_,_=>rfl
 |[],_::_,_,h,_=>by simp at h
 |_::_,[],_,h,_=>by simp at h
 |e::es,(k',v)::l,i,hl,h=>by
  obtain ⟨h1,h2⟩:=h 0 (by simp) (by simp)
  simp only [List.getElem_cons_zero] at h1 h2
  unfold Instr.findNow lookK
  rw [h1]
  simp only [Instr.sameNow,if_true]
  by_cases hk:k=k'
  ·subst hk;simp [h2]
  ·have:(k==k')=false:=by simpa using hk
   rw [this]
   simp only [Bool.false_eq_true,if_false]
   exact findNow_int k es l (i+1) (by simpa using hl) fun j hj hj'=>h (j+1) (Nat.succ_lt_succ hj) (Nat.succ_lt_succ hj')
section
variable {P:Program} {a:Act} {w:World}
theorem findAsking_ints {kt:TypeId} {fs:Array Field} {k:Nat} (hu:P.underlying kt=some (.struct fs)) (hk:flatI P 10000 kt=some k) (key:List Int) (hl:key.length=k):∀ (es:List MapEntry) (l:List (List Int×Value)) (i:Nat),es.length=l.length →
  (∀ j (h:j < es.length) (h':j < l.length),(es[j]).key = .agg (intsV l[j].1)∧(es[j]).val=l[j].2)→(∀ x∈l,x.1.length=k)→(Instr.findAsking kt (.agg (intsV key)) es i).run P w = .ok (lookK key l i) w
 |[],[],_,_,_,_=>by simp [Instr.findAsking,lookK]
 |[],_::_,_,h,_,_=>by simp at h
 |_::_,[],_,h,_,_=>by simp at h
 |e::es,(k',v)::l,i,hle,h,hx=>by
  obtain ⟨h1,h2⟩:=h 0 (by simp) (by simp)
  simp only [List.getElem_cons_zero] at h1 h2
  have hE:=flat_equal (P:=P) (w:=w) 10000 kt k hk key k' hl (hx (k',v) (by simp))
  simp only [encI,hu] at hE
  have hE':(Op.equal kt (.agg (intsV key)) e.key).run P w = .ok (key==k') w:=by rw [h1];exact hE
  cases hb:(key==k') with
  |true =>
   rw [hb] at hE'
   simp [Instr.findAsking,hE',lookK,hb,h2]
  |false =>
   rw [hb] at hE'
   have:=findAsking_ints hu hk key hl es l (i+1) (by simpa using hle) (fun j hj hj'=>h (j+1) (Nat.succ_lt_succ hj) (Nat.succ_lt_succ hj')) fun x hxm=>hx x (List.mem_cons_of_mem _ hxm)
   simp [Instr.findAsking,hE',lookK,hb,this]
theorem run_mapSetI {o:Oper} {t kt el:TypeId} {x1 x2 x3:Operand} {b clock:Nat} {es:Array MapEntry} {k:Int} {l:List (Int×Value)} (ho:o.op = .mapUpdate t x1 x2 x3) (hun:P.underlying t=some (.map kt el)) (hu:P.underlying kt=some (.int .i64)) (h1:a.eval x1 = .map (some b)) (h2:a.eval x2 = .int .i64 k)
  (hb:w.heap[b]? = some (.map es clock)) (he:EntK (.int .i64) es l) (hno:lookK k l 0=none):(execOp a.eval o).run P w = .ok .skip (w.putObj b (.map (es.push { key := .int .i64 k,val:=a.eval x3,born:=clock }) (clock+1))):=by
 have hf:=findNow_int k es.toList l 0 (by simpa using he.1) he.list
 rw [hno] at hf
 have hfind:=MapKept.run_findKey (P:=P) (w:=w) hu hf
 have hchk:(Instr.checkKey false 10000 kt (.int .i64 k)).run P w = .ok () w:=by
  unfold Instr.checkKey
  simp [Sem.run_bind,run_underlying hu]
 unfold execOp
 simp only [ho,h1,h2,Instr.mapUpdate,Sem.run_bind,run_underlying hun,Result.andThen_ok,MapKept.run_getObj_map hb,hchk,hfind,MapKept.run_setObj_map _ hb]
 rfl
theorem run_mapGetI {o:Oper} {t kt el:TypeId} {ie:TypeInfo} {z:Value} {x1 x2:Operand} {b clock:Nat} {es:Array MapEntry} {k:Int} {l:List (Int×Value)} (ho:o.op = .lookup t x1 x2 false) (hun:P.underlying t=some (.map kt el)) (hu:P.underlying kt=some (.int .i64)) (hi:P.info? el=some ie) (hz:ie.zero=some z)
  (h1:a.eval x1 = .map (some b)) (h2:a.eval x2 = .int .i64 k) (hb:w.heap[b]? = some (.map es clock)) (he:EntK (.int .i64) es l):(execOp a.eval o).run P w = .ok (.value (((lookK k l 0).map (·.2)).getD z)) w:=by
 have hf:=findNow_int k es.toList l 0 (by simpa using he.1) he.list
 have hfind:=MapKept.run_findKey (P:=P) (w:=w) hu hf
 have hchk:∀ e,(Instr.checkKey e 10000 kt (.int .i64 k)).run P w = .ok () w:=fun e=>by
  unfold Instr.checkKey
  simp [Sem.run_bind,run_underlying hu]
 unfold execOp
 simp only [ho,h1,h2,Instr.lookup,Sem.run_bind,run_underlying hun,Result.andThen_ok,MapKept.run_getObj_map hb,Sem.run_pure,hchk,hfind]
 cases lookK k l 0 with
 |none=>simp [zeroValue,typeInfo,hi,hz]
 |some q=>simp
theorem run_mapSetS {o:Oper} {t kt el:TypeId} {fs:Array Field} {n:Nat} {x1 x2 x3:Operand} {b clock:Nat} {es:Array MapEntry} {key:List Int} {l:List (List Int×Value)} (ho:o.op = .mapUpdate t x1 x2 x3) (hun:P.underlying t=some (.map kt el)) (hu:P.underlying kt=some (.struct fs)) (hk:flatI P 10000 kt=some n)
  (h1:a.eval x1 = .map (some b)) (h2:a.eval x2 = .agg (intsV key)) (hl:key.length=n) (hb:w.heap[b]? = some (.map es clock)) (he:EntK (fun k => .agg (intsV k)) es l) (hx:∀ x∈l,x.1.length=n) (hno:lookK key l 0=none) :
  (execOp a.eval o).run P w = .ok .skip (w.putObj b (.map (es.push { key := .agg (intsV key),val:=a.eval x3,born:=clock }) (clock+1))):=by
 have hwide:(match P.underlying kt with | some (.array _ _) | some (.struct _)=>true | _=>false)=true:=by rw [hu]
 have hf:=findAsking_ints (w:=w) hu hk key hl es.toList l 0 (by simpa using he.1) he.list hx
 rw [hno] at hf
 have hfind:=(run_findKey_eq (P:=P) (w:=w) hwide (.agg (intsV key)) es.toList).trans hf
 have hchk:=flat_check (P:=P) (w:=w) false 10000 kt n hk key hl
 simp only [encI,hu] at hchk
 unfold execOp
 simp only [ho,h1,h2,Instr.mapUpdate,Sem.run_bind,run_underlying hun,Result.andThen_ok,MapKept.run_getObj_map hb,hchk,hfind,MapKept.run_setObj_map _ hb]
 rfl
theorem run_mapGetS {o:Oper} {t kt el:TypeId} {fs:Array Field} {n:Nat} {ie:TypeInfo} {z:Value} {x1 x2:Operand} {b clock:Nat} {es:Array MapEntry} {key:List Int} {l:List (List Int×Value)} (ho:o.op = .lookup t x1 x2 true) (hun:P.underlying t=some (.map kt el)) (hu:P.underlying kt=some (.struct fs)) (hk:flatI P 10000 kt=some n) (hi:P.info? el=some ie) (hz:ie.zero=some z)
  (h1:a.eval x1 = .map (some b)) (h2:a.eval x2 = .agg (intsV key)) (hl:key.length=n) (hb:w.heap[b]? = some (.map es clock)) (he:EntK (fun k => .agg (intsV k)) es l) (hx:∀ x∈l,x.1.length=n) :
  (execOp a.eval o).run P w = .ok (.value (match lookK key l 0 with | some (_,v) => .tuple #[v,.bool true] | none => .tuple #[z,.bool false])) w:=by
 have hwide:(match P.underlying kt with | some (.array _ _) | some (.struct _)=>true | _=>false)=true:=by rw [hu]
 have hf:=findAsking_ints (w:=w) hu hk key hl es.toList l 0 (by simpa using he.1) he.list hx
 have hfind:=(run_findKey_eq (P:=P) (w:=w) hwide (.agg (intsV key)) es.toList).trans hf
 have hchk:=flat_check (P:=P) (w:=w) es.isEmpty 10000 kt n hk key hl
 simp only [encI,hu] at hchk
 unfold execOp
 simp only [ho,h1,h2,Instr.lookup,Sem.run_bind,run_underlying hun,Result.andThen_ok,MapKept.run_getObj_map hb,Sem.run_pure,hchk,hfind]
 cases lookK key l 0 with
 |none=>simp [zeroValue,typeInfo,hi,hz]
 |some q=>simp
end
end Go.AL
namespace Go.AL
open Go.RowKit
def sepT (x y:AOpr):Bool:=match x.dst,x.guard,x.op,y.dst,y.guard,y.op with
 |some d,none,.loadT _ a,some d',none,.loadT _ a'=>d != d' && !a'.tmps.contains d && !a.tmps.contains d'
 |_,_,_,_,_,_=>false
def SepAt (S:Slots) (x y:AOpr):Prop:=match x.op,y.op with
 |.loadT _ a,.loadT _ a'=>∃ i o i' o',ev S a = .box i o∧ev S a' = .box i' o'∧(i≠i'∨o≠o')
 |_,_=>False
section
variable {P:Program} {GI:World→Prop} {md:Region.Mode} {ops:Array Oper} {n:Nat}
theorem sep_swap {x y:AOpr} {S:Slots} {H:Boxes} {ex ey:Eff} (hs:sepT x y=true) (hA:SepAt S x y) (hx:yields P GI x S H ex) (hy:yields P GI y (ex.S S x.dst) (ex.H H) ey) :
  ∃ ey' ex',yields P GI y S H ey'∧yields P GI x (ey'.S S y.dst) (ey'.H H) ex'∧ex'.S (ey'.S S y.dst) x.dst=ey.S (ex.S S x.dst) y.dst∧ex'.H (ey'.H H)=ey.H (ex.H H)∧ey'.dm=none:=by
 obtain ⟨xd,xg,xo⟩:=x
 obtain ⟨yd,yg,yo⟩:=y
 unfold sepT at hs
 split at hs
 case h_2=>cases hs
 rename_i d h a d' h' a' q1 q2 q3 q4 q5 q6
 simp only at q1 q2 q3 q4 q5 q6
 subst q1 q2 q3 q4 q5 q6
 simp only [Bool.and_eq_true,bne_iff_ne,ne_eq,Bool.not_eq_true',List.contains_eq_mem,decide_eq_false_iff_not] at hs
 obtain ⟨⟨hd,hd1⟩,hd2⟩:=hs
 obtain ⟨i,o,i',o',e1,e2,hne⟩:=hA
 simp only [yields,awanted,deff,apure,e1] at hx
 split at hx
 case isFalse=>cases hx
 rename_i hok
 split at hx
 case h_2=>cases hx
 rename_i cs hcs
 split at hx
 case h_2=>cases hx
 rename_i v hv
 cases hx
 simp only [Eff.S,putD,Eff.H] at hy
 have e2':ev (upd S d v) a' = .box i' o':=by
  rw [← e2];exact ev_congr fun t ht=>upd_ne _ _ (by rintro rfl;exact hd1 ht)
 simp only [yields,awanted,deff,apure,e2'] at hy
 split at hy
 case isFalse=>cases hy
 rename_i hok'
 split at hy
 case h_2=>cases hy
 rename_i cs' hcs'
 split at hy
 case h_2=>cases hy
 rename_i v' hv'
 cases hy
 have e1':ev (upd S d' v') a = .box i o:=by
  rw [← e1];exact ev_congr fun t ht=>upd_ne _ _ (by rintro rfl;exact hd2 ht)
 have hSc:upd (upd S d' v') d v=upd (upd S d v) d' v':=by
  funext t
  simp only [upd]
  by_cases h1:t=d
  ·subst h1;simp [hd]
  ·simp [h1]
 by_cases hi:i=i'
 ·subst hi
  have ho:o≠o':=by rcases hne with h | h;exact absurd rfl h;exact h
  rw [upd_same] at hcs'
  cases hcs'
  rw [List.getElem?_set_ne ho] at hv'
  refine ⟨{ v:=v',hw:=some (i,cs.set o' v'.dem) },{ v:=v,hw:=some (i,(cs.set o' v'.dem).set o v.dem) },?_,?_,hSc,?_,rfl⟩
  ·simp [yields,awanted,deff,apure,e2,hok',hcs,hv']
  ·have:(cs.set o' v'.dem)[o]? = some v:=by rw [List.getElem?_set_ne (Ne.symm ho)];exact hv
   simp [yields,awanted,deff,apure,Eff.S,Eff.H,putD,e1',hok,upd_same,this]
  ·simp only [Eff.H]
   rw [List.set_comm _ _ (Ne.symm ho)]
   funext t
   simp only [upd]
   split<;>rfl
 ·rw [upd_ne _ _ (Ne.symm hi)] at hcs'
  refine ⟨{ v:=v',hw:=some (i',cs'.set o' v'.dem) },{ v:=v,hw:=some (i,cs.set o v.dem) },?_,?_,hSc,?_,rfl⟩
  ·simp [yields,awanted,deff,apure,e2,hok',hcs',hv']
  ·simp [yields,awanted,deff,apure,Eff.S,Eff.H,putD,e1',hok,upd_ne _ _ hi,hcs,hv]
  ·simp only [Eff.H]
   funext t
   simp only [upd]
   by_cases h1:t=i
   ·subst h1;simp [hi]
   ·simp [h1]
theorem SepAt.keep {S S':Slots} {x y:AOpr} (h:SepAt S x y) (hS:∀ t∈x.op.rd++y.op.rd,S' t=S t):SepAt S' x y:=by
 obtain ⟨xd,xg,xo⟩:=x
 obtain ⟨yd,yg,yo⟩:=y
 unfold SepAt at h ⊢
 simp only at h hS ⊢
 split at h
 case h_2=>exact h.elim
 obtain ⟨i,o,i',o',e1,e2,hne⟩:=h
 refine ⟨i,o,i',o',?_,?_,hne⟩
 ·rw [← e1];exact ev_congr fun t ht=>hS t (List.mem_append_left _ ht)
 ·rw [← e2];exact ev_congr fun t ht=>hS t (List.mem_append_right _ ht)
def stay (P:Program) (n:Nat) (ops:Array Oper) (listed:Array Bool) (ts:List Nat):Prop:=∀ k ak,aAt P n ops k=some ak→listed.getD k true=false→∀ t∈ts,t∉ak.writes
theorem anyA_firstX {QA:Slots→Boxes→Prop} {i:Nat} {oi:AOpr} (hi:aAt P n ops i=some oi) :
  ∀ (fuel:Nat) (listed:Array Bool) (S:Slots) (H:Boxes) (e:Eff),
   (∀ j o aj,ops[j]? = some o→aAt P n ops j=some aj→j≠i→listed.getD j true=false→(∀ ed∈o.after,Region.binds md ed=true→ed.on≠i)→oi.apart aj=true∨(sepT oi aj=true∧SepAt S oi aj∧stay P n ops listed (oi.op.rd++aj.op.rd))) →
   i∈Region.ready md ops listed→yields P GI oi S H e →
   anyA P GI n md ops QA fuel (listed.setIfInBounds i true) (e.S S oi.dst) (e.H H)→anyA P GI n md ops QA (fuel+1) listed S H:=by
 intro fuel
 induction fuel with
 |zero =>
  intro listed S H e _ hr hy hK
  refine ⟨fun h=>(by rw [h] at hr;cases hr),fun j hj => ?_⟩
  by_cases hji:j=i
  ·subst hji;unfold dOp;rw [hi];exact ⟨e,hy,hK⟩
  ·have:=ready_mono hj hji
   rw [hK.1] at this
   cases this
 |succ fuel ih =>
  intro listed S H e hfree hr hy hK
  refine ⟨fun h=>(by rw [h] at hr;cases hr),fun j hj => ?_⟩
  by_cases hji:j=i
  ·subst hji;unfold dOp;rw [hi];exact ⟨e,hy,hK⟩
  ·have h1:=hK.2 j (ready_mono hj hji)
   obtain ⟨hjun,o,ho,hall⟩:=mem_ready.1 hj
   have haj:aAt P n ops j=some (compOpr P n true ops o):=by simp [aAt,ho]
   have hnot:∀ ed∈o.after,Region.binds md ed=true→ed.on≠i:=fun ed hed hb heq=>by
    have h1:=hall ed hed hb
    have h0:=(mem_ready.1 hr).1
    rw [heq] at h1
    rcases Nat.lt_or_ge i listed.size with h' | h'
    ·simp [h'] at h0 h1;rw [h0] at h1;cases h1
    ·simp [Array.getElem?_eq_none h'] at h1
   have hap:=hfree j o _ ho haj hji hjun hnot
   unfold dOp at h1 ⊢
   rw [haj] at h1 ⊢
   obtain ⟨ej,hyj,hKj⟩:=h1
   have hun2:∀ k,(listed.setIfInBounds j true).getD k true=false→listed.getD k true=false:=fun k hk=>by
    by_cases hjk:j=k
    ·subst hjk;exact hjun
    ·rwa [getD_set_ne true hjk] at hk
   have hfree':∀ ej':Eff,(∀ t,ej'.dm=some t→t∈(compOpr P n true ops o).op.wr)→∀ k o' ak,ops[k]? = some o'→aAt P n ops k=some ak→k≠i→(listed.setIfInBounds j true).getD k true=false→(∀ ed∈o'.after,Region.binds md ed=true→ed.on≠i) →
     oi.apart ak=true∨(sepT oi ak=true∧SepAt (ej'.S S (compOpr P n true ops o).dst) oi ak∧stay P n ops (listed.setIfInBounds j true) (oi.op.rd++ak.op.rd)):=by
    intro ej' hdm k o' ak hk hak hki hun hno
    rcases hfree k o' ak hk hak hki (hun2 k hun) hno with h | ⟨h1,h2,h3⟩
    ·exact .inl h
    ·refine .inr ⟨h1,h2.keep fun t ht => ?_,fun m am hm hu=>h3 m am hm (hun2 m hu)⟩
     have:=h3 j _ haj hjun t ht
     exact Eff.S_other (fun h=>this (mem_writes (.inl h))) (fun h=>this (mem_writes (.inr (hdm t h))))
   rcases hap with hap | ⟨hs,hA,_⟩
   ·have hyj':=yields_back hap hy hyj
    refine ⟨ej,hyj',?_⟩
    refine ih (listed.setIfInBounds j true) _ _ e (hfree' ej (yields_dm hyj).1) (ready_mono hr (Ne.symm hji)) (yields_keep hap hyj' hy) ?_
    rw [Array.setIfInBounds_comm _ _ hji]
    rw [← effS_comm hap (yields_dm hy).1 (yields_dm hyj).1,← effH_comm hap (yields_dm hy).2 (yields_dm hyj').2]
    exact hKj
   ·obtain ⟨ey',ex',q1,q2,q3,q4,q5⟩:=sep_swap hs hA hy hyj
    refine ⟨ey',q1,?_⟩
    refine ih (listed.setIfInBounds j true) _ _ ex' (hfree' ey' (fun t h=>by rw [q5] at h;cases h)) (ready_mono hr (Ne.symm hji)) q2 ?_
    rw [Array.setIfInBounds_comm _ _ hji,q3,q4]
    exact hKj
def afreeX (md:Region.Mode) (ops:Array Oper) (al:List AOpr) (p q:Nat) (listed:Array Bool) (i:Nat):Bool :=
 match al[i]? with
 |none=>false
 |some oi=>(List.range ops.size).all fun j=>j==i || listed.getD j true || match ops[j]?,al[j]? with
   |some oj,some aj=>oj.after.any (fun e=>Region.binds md e && e.on==i) || oi.apart aj ||
     (i==p && j==q && sepT oi aj && (List.range ops.size).all fun k=>listed.getD k true || match al[k]? with
      |some ak=>(oi.op.rd++aj.op.rd).all fun t => !ak.writes.contains t
      |none=>true)
   |_,_=>true
def alexX (md:Region.Mode) (ops:Array Oper) (al:List AOpr) (p q:Nat):List Nat→Array Bool→Bool
 |[],listed=>(Region.ready md ops listed).isEmpty
 |k::r,listed=>(Region.ready md ops listed).contains k && afreeX md ops al p q listed k && alexX md ops al p q r (listed.setIfInBounds k true)
theorem afreeX_spec {p q i:Nat} {oi:AOpr} {listed:Array Bool} {S:Slots} (hi:aAt P n ops i=some oi) (h:afreeX md ops (compOps P n true ops) p q listed i=true) (hS:i=p→∀ aj,aAt P n ops q=some aj→SepAt S oi aj) (j:Nat) (o:Oper) (aj:AOpr)
  (hj:ops[j]? = some o) (haj:aAt P n ops j=some aj) (hne:j≠i) (hun:listed.getD j true=false) (hno:∀ e∈o.after,Region.binds md e=true→e.on≠i):oi.apart aj=true∨(sepT oi aj=true∧SepAt S oi aj∧stay P n ops listed (oi.op.rd++aj.op.rd)):=by
 simp only [afreeX,compOps_get,hi,List.all_eq_true,List.mem_range] at h
 have h1:=h j (Array.getElem?_eq_some_iff.1 hj).1
 simp only [hj,haj,Bool.or_eq_true,beq_iff_eq,hne,false_or,hun,Bool.false_eq_true,Bool.and_eq_true] at h1
 rcases h1 with (h1 | h1) | ⟨⟨⟨h1,h2⟩,h3⟩,h4⟩
 ·obtain ⟨e,he,hb⟩:=Array.any_eq_true'.1 h1
  simp only [Bool.and_eq_true,beq_iff_eq] at hb
  exact absurd hb.2 (hno e he hb.1)
 ·exact .inl h1
 ·subst h1 h2
  refine .inr ⟨h3,hS rfl aj haj,fun k ak hk hu t ht hw => ?_⟩
  have hkl:k < ops.size:=by
   unfold aAt at hk
   cases ho:ops[k]? with
   |none=>rw [ho] at hk;cases hk
   |some x=>exact (Array.getElem?_eq_some_iff.1 ho).1
  have h5:=List.all_eq_true.1 h4 k (List.mem_range.2 hkl)
  simp only [hu,Bool.false_or,hk] at h5
  have:=List.all_eq_true.1 h5 t ht
  simp [hw] at this
theorem dops_monoX {K K':Slots→Boxes→Prop} (hK:∀ S H,K S H→K' S H):∀ (l:List AOpr) (S:Slots) (H:Boxes),dops P GI l K S H→dops P GI l K' S H
 |[],_,_,h=>hK _ _ h
 |o::rest,S,H,h=>by
  simp only [dops] at h ⊢
  split
  ·rename_i hw
   simp only [hw] at h
   exact dstep_monoM (fun S H=>dops_monoX hK rest S H) h
  ·rename_i hw
   simp only [hw] at h
   exact dops_monoX hK rest _ _ h
  ·rename_i hw
   simp only [hw] at h
def dopsX (P:Program) (GI:World→Prop) (al:List AOpr) (p q:Nat) (K:Slots→Boxes→Prop):List Nat→Slots→Boxes→Prop
 |[],S,H=>K S H
 |k::r,S,H=>∃ o,al[k]? = some o∧(k=p→∀ aj,al[q]? = some aj→SepAt S o aj)∧dops P GI [o] (dopsX P GI al p q K r) S H
theorem anyA_lexX {QA:Slots→Boxes→Prop} {p q:Nat}:∀ (ord:List Nat) (listed:Array Bool) (S:Slots) (H:Boxes),
  alexX md ops (compOps P n true ops) p q ord listed=true→dopsX P GI (compOps P n true ops) p q QA ord S H→anyA P GI n md ops QA ord.length listed S H
 |[],_,_,_,hB,h=>⟨by simpa [alexX] using hB,h⟩
 |k::r,listed,S,H,hB,h=>by
  obtain ⟨o,ha,hS,h⟩:=h
  rw [compOps_get] at ha
  simp only [alexX,Bool.and_eq_true] at hB
  obtain ⟨⟨hr,hf⟩,hB'⟩:=hB
  obtain ⟨e,hy,hK⟩:=yields_of_dops h
  exact anyA_firstX ha r.length listed S H e (afreeX_spec ha hf (fun hk aj haj=>hS hk aj (by rw [compOps_get];exact haj))) (by simpa using hr) hy
   (anyA_lexX r _ _ _ hB' hK)
def dOKX (P:Program) (n:Nat) (ops:Array Oper) (p q:Nat) (ord:List Nat):Bool :=
 (compOps P n true ops).all (·.ok n) && allocsOK .any ops (compOps P n true ops) && noAlloc (compOps P n true ops) && decide (ord.length=ops.size) && alexX .any ops (compOps P n true ops) p q ord (Array.replicate ops.size false)
theorem dopsX_pre {al:List AOpr} {p q:Nat} {K:Slots→Boxes→Prop} {r:List Nat}:∀ (ks:List Nat) (l:List AOpr) {S:Slots} {H:Boxes},ks.map (al[·]?)=l.map some→(∀ k∈ks,k≠p)→dops P GI l (dopsX P GI al p q K r) S H→dopsX P GI al p q K (ks++r) S H
 |[],[],_,_,_,_,h=>h
 |[],_::_,_,_,h,_,_=>by simp at h
 |_::_,[],_,_,h,_,_=>by simp at h
 |k::ks,o::l,S,H,he,hp,h=>by
  simp only [List.map_cons,List.cons.injEq] at he
  refine ⟨o,he.1,fun hk=>absurd hk (hp k (by simp)),?_⟩
  have hm:∀ S H,dops P GI l (dopsX P GI al p q K r) S H→dopsX P GI al p q K (ks++r) S H:=fun S H h=>dopsX_pre ks l he.2 (fun k hk=>hp k (List.mem_cons_of_mem _ hk)) h
  simp only [dops] at h ⊢
  split
  ·rename_i hw
   simp only [hw] at h
   exact dstep_monoM hm h
  ·rename_i hw
   simp only [hw] at h
   exact hm _ _ h
  ·rename_i hw
   simp only [hw] at h
end
section
variable {P:Program} {GI:World→Prop} {n:Nat} {ops:Array Oper} {S:Slots} {H:Boxes}
theorem SW.drawX (hG:Stable GI) (hm:P.follows .mixedOrders=true) {ro:Option Nat} {old:Old} {Q:Post} {id p q:Nat} (k1 k2:List Nat) (hnd:ops.all (fun o=>calmOp o.op)=true) (hok:dOKX P n ops p q (k1++p::k2)=true) (h1:∀ k∈k1,k≠p) (h2:∀ k∈k2,k≠p)
  {l:List AOpr} (hl:compOps P n true ops=l) (l1 l2:List AOpr) (o aj:AOpr) (e1:k1.map (l[·]?)=l1.map some) (e2:k2.map (l[·]?)=l2.map some) (eo:l[p]? = some o) (ej:l[q]? = some aj)
  (h:dops P GI l1 (fun S H=>SepAt S o aj∧dops P GI [o] (fun S H=>dops P GI l2 (fun S H=>Q .normal old S H) S H) S H) S H):SW P GI n ro (.region id ops true) Q old S H:=by
 subst hl
 intro w0 g a w m hG0 ho R
 simp only [dOKX,Bool.and_eq_true,decide_eq_true_eq] at hok
 obtain ⟨⟨⟨⟨q1,q2⟩,q3⟩,q4⟩,q5⟩:=hok
 have hno:∀ j o d z,aAt P n ops j=some o→allocOf o=some (d,z)→False:=fun j o d z hj hz=>by
  rw [← compOps_get] at hj
  have:=List.all_eq_true.1 q3 o (List.mem_of_getElem? hj)
  unfold allocOf at hz
  split at hz
  ·rename_i h _;rw [h] at this;cases this
  ·cases hz
 have R0:Rel P w0 n NoU g S H a { w with drawn:=w.drawn+1 }:=R.grow' ((Below.refl _ w).drew)
 have hU:UU P n ops (Array.replicate ops.size false)=NoU:=by
  funext t
  simp only [UU,NoU,eq_iff_iff,iff_false]
  rintro ⟨j,o,z,k1,k2,_⟩
  exact hno j o t z k1 k2
 refine wpIn_mono (wpIn_region_any hm (wpAny_in hnd QQ_noOut _ _ _ _ (any_wp (Q:=Q.awp old) (old:=old) hG hG0 q2 (fun o hoo => ?_) ops.size (Array.replicate ops.size false) g S H a _ (by simp) ho (by rw [hU];exact R0) (fun j o d z k1 k2 k3=>(hno j o d z k1 k2).elim) ?_))) fun _ _ _ hq=>QS_of_QQ hq
 ·simp only [compOps,List.all_map,List.all_eq_true,Function.comp] at q1
  exact q1 o (by simpa using hoo)
 ·have:=anyA_lexX (P:=P) (GI:=GI) (n:=n) (md := .any) (ops:=ops) (QA:=Q.awp old .normal) (k1++p::k2) (Array.replicate ops.size false) S H q5 (dopsX_pre k1 l1 e1 h1 (dops_monoX (fun S H hh => ?_) _ _ _ h))
  ·rw [q4] at this;exact this
  ·obtain ⟨hs,hh⟩:=hh
   refine ⟨o,eo,fun _ aj' haj'=>by rw [ej] at haj';cases haj';exact hs,dops_monoX (fun S H hh => ?_) _ _ _ hh⟩
   have:=dopsX_pre (P:=P) (GI:=GI) (al:=compOps P n true ops) (p:=p) (q:=q) (K:=Q.awp old .normal) (r:=[]) k2 l2 e2 h2 (S:=S) (H:=H) (dops_monoX (fun S H h=>h) l2 _ _ hh)
   simpa using this
end
end Go.AL
namespace Go.AL
open Go.RowKit
section
variable {P:Program} {GI:World→Prop} {n m:Nat} {Q:Exit→Act→World→Prop}
def cutAtB (ops:Array Oper) (p:Nat):Bool :=
 decide (p≤ops.size) && ops.all (fun o=>o.guard.isNone) &&
 (List.range ops.size).all (fun i=>((ops[i]?).map fun o=>if i < p then o.after.all fun e => !Region.binds .any e || decide (e.on < i) else (List.range p).all fun j=>o.after.any fun e=>Region.binds .any e && e.on==j).getD true) &&
 restOK ops (ops.size - p) p ((List.range ops.size).map fun i=>decide (i < p)).toArray
theorem restOK_more {F:Fence} {ops:Array Oper} (hg:ops.all (fun o=>o.guard.isNone)=true) (x:Nat):∀ (k i:Nat) (l:Array Bool) (a:Act) (w:World),restOK ops k i l=true→wpOpsIn F m P ops Q (List.range' i k) a w→wpAnyIn F m P .any ops Q (x+k) l a w
 |0,i,l,a,w,h,hh=>by
  have h0:Region.ready .any ops l=[]:=by simpa [restOK] using h
  cases x with
  |zero=>exact ⟨h0,hh⟩
  |succ x=>exact ⟨fun _=>hh,fun i hi=>by rw [h0] at hi;cases hi⟩
 |k+1,i,l,a,w,h,hh=>by
  simp only [restOK,Bool.and_eq_true,beq_iff_eq] at h
  refine ⟨fun hr=>(by rw [hr] at h;cases h.1),fun j hj => ?_⟩
  rw [h.1,List.mem_singleton] at hj
  subst hj
  simp only [List.range'_succ] at hh
  rw [wpOpsIn_cons] at hh
  exact wpOpIn_mono (fun a w hq=>restOK_more hg x k _ _ a w h.2 hq) hh
structure CutI (ops:Array Oper) (p:Nat) (la l:Array Bool):Prop where
 sla:la.size=p
 sl:l.size=ops.size
 front:∀ i,i < p→l[i]? = la[i]?
 back:∀ i,p≤i→i < ops.size→l[i]? = some false
section
variable {ops:Array Oper} {p:Nat} {la l:Array Bool} (hp:p≤ops.size)
 (hw:∀ i o,ops[i]? = some o→if i < p then ∀ e∈o.after,Region.binds .any e=true→e.on < i else ∀ j,j < p→∃ e∈o.after,Region.binds .any e=true∧e.on=j)
include hp hw
theorem cut_ready (h:CutI ops p la l) {j:Nat} (hj:j < p) (hju:la[j]? = some false):Region.ready .any ops l=Region.ready .any (ops.extract 0 p) la:=by
 unfold Region.ready
 have hsz:(ops.extract 0 p).size=p:=by simp;omega
 rw [hsz]
 have hr:List.range ops.size=List.range p++List.range' p (ops.size - p):=by
  rw [List.range_eq_range',List.range_eq_range']
  have:=List.range'_append_1 (s:=0) (m:=p) (n:=ops.size - p)
  rw [Nat.zero_add] at this
  rw [this]
  congr 1;omega
 rw [hr,List.filter_append]
 have hb:(List.range' p (ops.size - p)).filter (fun i => !l.getD i true && ((ops[i]?).map (·.after.all fun e => !Region.binds .any e || l.getD e.on false)).getD false)=[]:=by
  rw [List.filter_eq_nil_iff]
  intro i hi
  have hi:=List.mem_range'_1.1 hi
  have hi1:p≤i:=hi.1
  have hi2:i < ops.size:=by omega
  have ho:ops[i]? = some ops[i]:=Array.getElem?_eq_getElem hi2
  have hwi:=hw i _ ho
  rw [if_neg (by omega)] at hwi
  obtain ⟨e,he,hb,hej⟩:=hwi j hj
  rw [ho]
  simp only [Option.map_some,Option.getD_some,Bool.and_eq_true,not_and,Bool.not_eq_true]
  intro _
  rw [Array.all_eq_false]
  obtain ⟨q,hq,rfl⟩:=Array.getElem_of_mem he
  refine ⟨q,hq,?_⟩
  rw [hb,hej]
  simp only [Bool.not_true,Bool.false_or,Bool.not_eq_true]
  rw [Array.getD_eq_getD_getElem?,h.front j hj,hju];rfl
 rw [hb,List.append_nil]
 refine List.filter_congr fun i hi => ?_
 have hi:=List.mem_range.1 hi
 have ho:ops[i]? = some (ops[i]'(by omega)):=Array.getElem?_eq_getElem (by omega)
 have hwi:=hw i _ ho
 rw [if_pos hi] at hwi
 have hoe:(ops.extract 0 p)[i]? = ops[i]? := by
  rw [Array.getElem?_extract]
  have:i < min p ops.size - 0:=by omega
  rw [if_pos this,Nat.zero_add]
 rw [hoe,ho]
 simp only [Option.map_some,Option.getD_some,Array.getD_eq_getD_getElem?,h.front i hi]
 congr 1
 rw [Bool.eq_iff_iff,Array.all_eq_true',Array.all_eq_true']
 refine forall_congr' fun e=>forall_congr' fun he => ?_
 cases hbe:Region.binds .any e with
 |false=>simp
 |true =>
  have:=hwi e he hbe
  rw [h.front e.on (by omega)]
theorem cut_progress (h:CutI ops p la l) {j:Nat} (hj:j < p) (hju:la[j]? = some false):Region.ready .any (ops.extract 0 p) la≠[]:=by
 have hsz:(ops.extract 0 p).size=p:=by simp;omega
 have ex:∃ j,j < p∧la[j]? = some false∧∀ i,i < j→la[i]? = some true:=by
  induction j using Nat.strongRecOn with
  |_ j ih =>
   by_cases hx:∃ i,i < j∧la[i]? = some false
   ·obtain ⟨i,hi,hiu⟩:=hx
    exact ih i hi (by omega) hiu
   ·refine ⟨j,hj,hju,fun i hi => ?_⟩
    have hil:i < la.size:=by rw [h.sla];omega
    rw [Array.getElem?_eq_getElem hil]
    cases hb:la[i] with
    |true=>rfl
    |false=>exact absurd ⟨i,hi,by rw [Array.getElem?_eq_getElem hil,hb]⟩ hx
 obtain ⟨j,hj,hju,hmin⟩:=ex
 intro hnil
 have:j∈Region.ready .any (ops.extract 0 p) la:=by
  unfold Region.ready
  rw [List.mem_filter]
  refine ⟨List.mem_range.2 (by omega),?_⟩
  have ho:ops[j]? = some (ops[j]'(by omega)):=Array.getElem?_eq_getElem (by omega)
  have hwi:=hw j _ ho
  rw [if_pos hj] at hwi
  have hoe:(ops.extract 0 p)[j]? = ops[j]? := by
   rw [Array.getElem?_extract]
   have:j < min p ops.size - 0:=by omega
   rw [if_pos this,Nat.zero_add]
  rw [hoe,ho]
  simp only [Option.map_some,Option.getD_some,Bool.and_eq_true,Array.getD_eq_getD_getElem?,hju,Bool.not_false,true_and]
  rw [Array.all_eq_true']
  intro e he
  cases hbe:Region.binds .any e with
  |false=>rfl
  |true =>
   rw [hmin e.on (hwi e he hbe)];rfl
 rw [hnil] at this
 cases this
theorem cutB_sound {F:Fence} (hg:ops.all (fun o=>o.guard.isNone)=true) (hrest:restOK ops (ops.size - p) p ((List.range ops.size).map fun i=>decide (i < p)).toArray=true):∀ (k:Nat) (la l:Array Bool) (a:Act) (w:World),CutI ops p la l →
  wpAnyIn F m P .any (ops.extract 0 p) (midQ (wpOpsIn F m P ops Q (List.range' p (ops.size - p))) Q) k la a w→wpAnyIn F m P .any ops Q (k+(ops.size - p)) l a w:=by
 have hsz:(ops.extract 0 p).size=p:=by simp;omega
 have final:∀ (k:Nat) (la l:Array Bool) (a:Act) (w:World),CutI ops p la l→(¬ ∃ j,j < p∧la[j]? = some false)→wpOpsIn F m P ops Q (List.range' p (ops.size - p)) a w→wpAnyIn F m P .any ops Q (k+(ops.size - p)) l a w:=by
  intro k la l a w h hall hh
  have hl:l=((List.range ops.size).map fun i=>decide (i < p)).toArray:=by
   apply Array.ext_getElem?
   intro i
   by_cases hi:i < ops.size
   ·simp only [List.getElem?_toArray,List.getElem?_map,List.getElem?_range hi,Option.map_some]
    by_cases hip:i < p
    ·rw [h.front i hip]
     have hil:i < la.size:=by rw [h.sla];omega
     rw [Array.getElem?_eq_getElem hil]
     cases hb:la[i] with
     |true=>simp [hip]
     |false=>exact absurd ⟨i,hip,by rw [Array.getElem?_eq_getElem hil,hb]⟩ hall
    ·rw [h.back i (by omega) hi];simp [hip]
   ·have hls:=h.sl
    rw [Array.getElem?_eq_none (by omega),Array.getElem?_eq_none (by simp;omega)]
  rw [hl]
  exact restOK_more hg k _ _ _ a w hrest hh
 intro k
 induction k with
 |zero =>
  intro la l a w h hh
  refine final 0 la l a w h ?_ hh.2
  rintro ⟨j,hj,hju⟩
  exact cut_progress hp hw h hj hju hh.1
 |succ k ih =>
  intro la l a w h hh
  by_cases hall:∃ j,j < p∧la[j]? = some false
  case neg =>
   have h0:Region.ready .any (ops.extract 0 p) la=[]:=by
    unfold Region.ready
    rw [List.filter_eq_nil_iff]
    intro i hi
    have hi:=List.mem_range.1 hi
    have hil:i < la.size:=by rw [h.sla];omega
    cases hb:la[i] with
    |true=>simp [Array.getD_eq_getD_getElem?,Array.getElem?_eq_getElem hil,hb]
    |false=>exact absurd ⟨i,by omega,by rw [Array.getElem?_eq_getElem hil,hb]⟩ hall
   exact final (k+1) la l a w h hall (hh.1 h0)
  obtain ⟨j,hj,hju⟩:=hall
  have h1:=cut_progress hp hw h hj hju
  have h2:=cut_ready hp hw h hj hju
  rw [show k+1+(ops.size - p)=(k+(ops.size - p))+1 by omega]
  refine ⟨fun hr=>absurd (h2 ▸ hr) h1,fun i hi => ?_⟩
  have hi':i∈Region.ready .any (ops.extract 0 p) la:=by rw [← h2];exact hi
  have hip:i < p:=by
   have:=List.mem_range.1 (List.mem_filter.1 hi').1
   omega
  have hI:CutI ops p (la.setIfInBounds i true) (l.setIfInBounds i true):=by
   refine ⟨by simpa using h.sla,by simpa using h.sl,fun q hq => ?_,fun q hq hq' => ?_⟩
   ·rw [Array.getElem?_setIfInBounds,Array.getElem?_setIfInBounds,h.front q hq]
    have e1:=h.sla
    have e2:=h.sl
    by_cases hiq:i=q
    ·subst hiq;rw [if_pos rfl,if_pos rfl,if_pos (by omega),if_pos (by omega)]
    ·rw [if_neg hiq,if_neg hiq]
   ·rw [Array.getElem?_setIfInBounds,if_neg (by omega)]
    exact h.back q hq hq'
  have hs:=hh.2 i hi'
  unfold wpOpIn at hs ⊢
  have hget:(ops.extract 0 p)[i]? = ops[i]? := by
   rw [Array.getElem?_extract]
   have:i < min p ops.size - 0:=by omega
   rw [if_pos this,Nat.zero_add]
  rw [hget] at hs
  cases ho:ops[i]? with
  |none=>rw [ho] at hs;exact ih _ _ a w hI hs
  |some o =>
   rw [ho] at hs
   have hgo:o.guard=none:=by
    have:=Array.all_eq_true'.1 hg o (Array.mem_of_getElem? ho)
    simpa using this
   have hw:∀ y,Region.wanted o y=true:=fun y=>by simp [Region.wanted,hgo]
   simp only [hw,if_true] at hs ⊢
   exact Oper.wpIn_mono (fun a w hq=>ih _ _ a w hI hq) (oper_midQ hs)
end
theorem wpIn_cutB (hm:P.follows .mixedOrders=true) {F:Fence} {id p:Nat} {ops:Array Oper} {a:Act} {w:World} (h:cutAtB ops p=true)
  (hh:wpAnyIn F m P .any (ops.extract 0 p) (midQ (wpOpsIn F m P ops Q (List.range' p (ops.size - p))) Q) p (Array.replicate p false) a { w with drawn:=w.drawn+1 }):(Code.region id ops true).wpIn F m P Q a w:=by
 simp only [cutAtB,Bool.and_eq_true,decide_eq_true_eq] at h
 obtain ⟨⟨⟨h1,h2⟩,h3⟩,h4⟩:=h
 refine wpIn_region_any hm ?_
 have:=cutB_sound (P:=P) (Q:=Q) (m:=m) h1 (fun i o ho=>by
  have hi:=(Array.getElem?_eq_some_iff.1 ho).1
  have:=List.all_eq_true.1 h3 i (List.mem_range.2 hi)
  rw [ho] at this
  simp only [Option.map_some,Option.getD_some] at this
  split
  ·rename_i hip
   rw [if_pos hip,Array.all_eq_true'] at this
   intro e he hb
   have:=this e he
   simpa [hb] using this
  ·rename_i hip
   rw [if_neg hip] at this
   intro j hj
   have:=List.all_eq_true.1 this j (List.mem_range.2 hj)
   obtain ⟨q,hq,hqb⟩:=Array.any_eq_true.1 this
   simp only [Bool.and_eq_true,beq_iff_eq] at hqb
   exact ⟨_,Array.getElem_mem hq,hqb.1,hqb.2⟩) (F:=F) h2 h4 p (Array.replicate p false) (Array.replicate ops.size false) a _ ⟨by simp,by simp,fun i hi=>by
    rw [Array.getElem?_replicate,Array.getElem?_replicate,if_pos (by omega),if_pos hi],fun i hi hi'=>by rw [Array.getElem?_replicate,if_pos hi']⟩ hh
 rwa [show p+(ops.size - p)=ops.size by omega] at this
end
end Go.AL
namespace Go.AL
open Go.RowKit
section
variable {P:Program} {Q:Exit→Act→World→Prop} {ro:Option Nat} {m n:Nat} {ops:Array Oper}
structure AI (ops:Array Oper) (n:Nat) (a0:Act) (val:Nat→Value) (l:Array Bool) (a:Act):Prop where
 size:a.tmps.size=n
 defers:a.defers=a0.defers
 old:∀ t:Nat,(∀ (i:Nat) (o:Oper),ops[i]? = some o→o.dst≠some t)→a.tmps.getD t undef=a0.tmps.getD t undef
 got:∀ (i:Nat) (o:Oper) (t:Nat),ops[i]? = some o→o.dst=some t→l.getD i false=true→a.tmps.getD t undef=val t
def valsOK (ops:Array Oper) (n:Nat):Bool :=
 ops.all (fun o=>o.guard.isNone && calmOp o.op && (match o.dst with | some t=>decide (t < n) | none=>false)) &&
 (List.range ops.size).all (fun i=>((ops[i]?).map fun o=>(o.after.all fun e => !Region.binds .any e || decide (e.on < i)) && (List.range ops.size).all fun j=>i==j || ((ops[j]?).map fun o'=>o'.dst != o.dst).getD true).getD true)
theorem ready_some {l:Array Bool} (hac:∀ (i:Nat) (o:Oper),ops[i]? = some o→∀ e∈o.after,Region.binds .any e=true→e.on < i) (hl:l.size=ops.size):Region.ready .any ops l=[]→∀ i,i < ops.size→l.getD i false=true:=by
 intro h i
 induction i using Nat.strongRecOn with
 |_ i ih =>
 intro hi
 cases hli:l.getD i false with
 |true=>rfl
 |false =>
  exfalso
  have hi':i < l.size:=by omega
  have h1:l.getD i true=false:=by
   simp only [Array.getD_eq_getD_getElem?,Array.getElem?_eq_getElem hi',Option.getD_some] at hli ⊢
   exact hli
  have:i∈Region.ready .any ops l:=mem_ready.2 ⟨h1,ops[i],Array.getElem?_eq_getElem hi,fun e he hb=>ih e.on (hac i _ (Array.getElem?_eq_getElem hi) e he hb) (by have:=hac i _ (Array.getElem?_eq_getElem hi) e he hb;omega)⟩
  rw [h] at this
  cases this
theorem wpAnyIn_vals {a0:Act} {val:Nat→Value} (hst:valsOK ops n=true) (W:World→Prop)
  (hstep:∀ (i:Nat) (o:Oper) (l:Array Bool) (a:Act) (w:World),ops[i]? = some o→AI ops n a0 val l a→W w→(∀ e∈o.after,Region.binds .any e=true→l.getD e.on false=true) →
   ∃ t,o.dst=some t∧((∃ w',(execOp a.eval o).run P w = .ok (.value (val t)) w'∧W w') ∨
    ∃ f args,(execOp a.eval o).run P w = .ok (.enter f args) w∧Calls P f args w fun e w'=>e = .returned (val t)∧W w'))
  (hQ:∀ (a:Act) (w:World),AI ops n a0 val (Array.replicate ops.size true) a→W w→Q .normal a w) :
  ∀ (fuel:Nat) (l:Array Bool) (a:Act) (w:World),l.size=ops.size→(l.toList.filter (! ·)).length≤fuel→AI ops n a0 val l a→W w→wpAnyIn (FR ro) m P .any ops Q fuel l a w:=by
 simp only [valsOK,Bool.and_eq_true] at hst
 obtain ⟨hg,hs⟩:=hst
 have hac:∀ (i:Nat) (o:Oper),ops[i]? = some o→∀ e∈o.after,Region.binds .any e=true→e.on < i:=by
  intro i o ho e he hb
  have:=List.all_eq_true.1 hs i (List.mem_range.2 (Array.getElem?_eq_some_iff.1 ho).1)
  simp only [ho,Option.map_some,Option.getD_some,Bool.and_eq_true] at this
  have:=Array.all_eq_true'.1 this.1 e he
  simpa [hb] using this
 have hdis:∀ (i j:Nat) (o o':Oper),ops[i]? = some o→ops[j]? = some o'→i≠j→o'.dst≠o.dst:=by
  intro i j o o' ho ho' hij
  have:=List.all_eq_true.1 hs i (List.mem_range.2 (Array.getElem?_eq_some_iff.1 ho).1)
  simp only [ho,Option.map_some,Option.getD_some,Bool.and_eq_true] at this
  have:=List.all_eq_true.1 this.2 j (List.mem_range.2 (Array.getElem?_eq_some_iff.1 ho').1)
  simpa [ho',hij] using this
 have fin:∀ (l:Array Bool) (a:Act) (w:World),l.size=ops.size→AI ops n a0 val l a→W w→Region.ready .any ops l=[]→Q .normal a w:=by
  intro l a w hl hI hW hr
  have:=ready_some hac hl hr
  refine hQ a w ⟨hI.size,hI.defers,hI.old,fun i o t ho hd _=>hI.got i o t ho hd (this i (Array.getElem?_eq_some_iff.1 ho).1)⟩ hW
 intro fuel
 induction fuel with
 |zero =>
  intro l a w hl hc hI hW
  have hr:Region.ready .any ops l=[]:=by
   rw [List.eq_nil_iff_forall_not_mem]
   intro i hi
   obtain ⟨h1,o,ho,_⟩:=mem_ready.1 hi
   have hi':i < l.size:=by rw [hl];exact (Array.getElem?_eq_some_iff.1 ho).1
   have h2:l[i]=false:=by simpa [Array.getD_eq_getD_getElem?,hi'] using h1
   have:l[i]∈l.toList.filter (! ·):=List.mem_filter.2 ⟨by simp,by simp [h2]⟩
   have:=List.length_pos_of_mem this
   omega
  exact ⟨hr,fin l a w hl hI hW hr⟩
 |succ fuel ih =>
  intro l a w hl hc hI hW
  refine ⟨fun hr=>fin l a w hl hI hW hr,fun i hi => ?_⟩
  obtain ⟨h1,o,ho,hall⟩:=mem_ready.1 hi
  have hi0:=(Array.getElem?_eq_some_iff.1 ho).1
  have hi':i < l.size:=by omega
  have h2:l[i]=false:=by simpa [Array.getD_eq_getD_getElem?,hi'] using h1
  have hgo:=Array.all_eq_true'.1 hg o (Array.mem_of_getElem? ho)
  simp only [Bool.and_eq_true] at hgo
  obtain ⟨⟨hgo,hcalm⟩,hdn⟩:=hgo
  obtain ⟨t,hd,hcase⟩:=hstep i o l a w ho hI hW hall
  have htn:t < n:=by simpa [hd] using hdn
  have hcnt:((l.setIfInBounds i true).toList.filter (! ·)).length≤fuel:=by
   have:(l.setIfInBounds i true).toList=l.toList.set i true:=by simp
   rw [this]
   have hlen:∀ (xs:List Bool) (k:Nat) (h:k < xs.length),xs[k]=false→((xs.set k true).filter (! ·)).length+1=(xs.filter (! ·)).length:=by
    intro xs
    induction xs with
    |nil=>intro k h;simp at h
    |cons x xs ih =>
     intro k h hk
     cases k with
     |zero =>
      simp only [List.getElem_cons_zero] at hk
      subst hk
      simp
     |succ k =>
      simp only [List.getElem_cons_succ] at hk
      have:=ih k (by simpa using h) hk
      simp only [List.set_cons_succ,List.filter_cons]
      split<;>(try simp only [List.length_cons])<;>omega
   have:=hlen l.toList i (by simpa using hi') (by simpa using h2)
   omega
  have next:∀ w',W w'→wpAnyIn (FR ro) m P .any ops Q fuel (l.setIfInBounds i true) (a.put o.dst (val t)) w':=by
   intro w' hW'
   refine ih _ _ w' (by simpa using hl) hcnt ⟨by simp [Act.put,hd,hI.size],by rw [hd];exact hI.defers,fun s hs => ?_,fun j o' s ho' hd' hlj => ?_⟩ hW'
   ·have hne:s≠t:=by rintro rfl;exact hs i o ho hd
    rw [hd,← hI.old s hs]
    simp [Act.put,Array.getElem?_setIfInBounds_ne (Ne.symm hne)]
   ·rw [hd]
    by_cases hji:j=i
    ·subst hji
     rw [ho] at ho';cases ho'
     rw [hd] at hd';cases hd'
     simp [Act.put,hI.size,htn]
    ·have hne:s≠t:=by
      rintro rfl
      exact hdis i j o o' ho ho' (Ne.symm hji) (hd'.trans hd.symm)
     have hlj':l.getD j false=true:=by
      have:=hlj
      simp only [Array.getD_eq_getD_getElem?,Array.getElem?_setIfInBounds_ne (Ne.symm hji)] at this ⊢
      exact this
     rw [← hI.got j o' s ho' hd' hlj']
     simp [Act.put,Array.getElem?_setIfInBounds_ne (Ne.symm hne)]
  have hw:Region.wanted o (yielded ops a.tmps)=true:=by
   have:o.guard=none:=by simpa using hgo
   simp [Region.wanted,this]
  simp only [wpOpIn,ho,hw,if_true]
  refine ⟨fun _ _=>trivial,?_⟩
  rw [Oper.semAt_eq _ _ _ (fun c hc=>by rw [hc] at hcalm;cases hcalm)]
  rcases hcase with ⟨w',hr,hW'⟩ | ⟨f,args,hr,hC⟩
  ·rw [hr]
   exact next w' hW'
  ·rw [hr]
   refine ⟨fun h=>by simp [FR,Fence.wide] at h,callsIn_FR.2 (hC.mono fun e w'' hh => ?_)⟩
   obtain ⟨rfl,hW'⟩:=hh
   exact next w'' hW'
theorem region_valsB (hm:P.follows .mixedOrders=true) {id p:Nat} {a0:Act} {w0:World} {val:Nat→Value} (hcut:cutAtB ops p=true) (hsp:(ops.extract 0 p).size=p) (hst:valsOK (ops.extract 0 p) n=true) (hsz:a0.tmps.size=n) (W:World→Prop) (hW0:W { w0 with drawn:=w0.drawn+1 })
  (hstep:∀ (i:Nat) (o:Oper) (l:Array Bool) (a:Act) (w:World),(ops.extract 0 p)[i]? = some o→AI (ops.extract 0 p) n a0 val l a→W w→(∀ e∈o.after,Region.binds .any e=true→l.getD e.on false=true) →
   ∃ t,o.dst=some t∧((∃ w',(execOp a.eval o).run P w = .ok (.value (val t)) w'∧W w') ∨
    ∃ f args,(execOp a.eval o).run P w = .ok (.enter f args) w∧Calls P f args w fun e w'=>e = .returned (val t)∧W w'))
  (hQ:∀ (a:Act) (w:World),AI (ops.extract 0 p) n a0 val (Array.replicate p true) a→W w→wpOpsIn (FR ro) m P ops Q (List.range' p (ops.size - p)) a w):(Code.region id ops true).wpIn (FR ro) m P Q a0 w0:=by
 refine wpIn_cutB hm hcut ?_
 refine wpAnyIn_vals hst W hstep (fun a w hI hW => ?_) p (Array.replicate p false) a0 _ (by simp [hsp]) ?_ ⟨hsz,rfl,fun _ _=>rfl,fun i o t ho hd h => ?_⟩ hW0
 ·rw [hsp] at hI
  exact hQ a w hI hW
 ·refine Nat.le_trans (List.length_filter_le _ _) (by simp)
 ·simp [Array.getElem?_replicate] at h
  split at h<;>cases h
section
variable {a:Act} {w:World}
theorem opIn_valG {i:Nat} {rest:List Nat} {o:Oper} (ho:ops[i]? = some o) (hw:Region.wanted o (yielded ops a.tmps)=true) (hnd:calmOp o.op=true) {v:Value} {w':World}
  (hr:(execOp a.eval o).run P w = .ok (.value v) w') (hk:wpOpsIn (FR ro) m P ops Q rest (a.put o.dst v) w'):wpOpsIn (FR ro) m P ops Q (i::rest) a w:=by
 simp only [wpOpsIn,ho]
 rw [if_pos hw]
 refine ⟨fun _ _=>trivial,?_⟩
 rw [Oper.semAt_eq _ _ _ (fun c hc=>by rw [hc] at hnd;cases hnd),hr]
 exact hk
theorem opIn_callG {i:Nat} {rest:List Nat} {o:Oper} (ho:ops[i]? = some o) (hw:Region.wanted o (yielded ops a.tmps)=true) (hnd:calmOp o.op=true) {f:Nat} {args:Array Value} {w':World}
  (hr:(execOp a.eval o).run P w = .ok (.enter f args) w') {R:Ending→World→Prop} (hc:Calls P f args w' R) (hk:∀ e w'',R e w''→∃ v,e = .returned v∧wpOpsIn (FR ro) m P ops Q rest (a.put o.dst v) w''):wpOpsIn (FR ro) m P ops Q (i::rest) a w:=by
 simp only [wpOpsIn,ho]
 rw [if_pos hw]
 refine ⟨fun _ _=>trivial,?_⟩
 rw [Oper.semAt_eq _ _ _ (fun c hc=>by rw [hc] at hnd;cases hnd),hr]
 refine ⟨fun h=>by simp [FR,Fence.wide] at h,callsIn_FR.2 (hc.mono fun e w'' hh => ?_)⟩
 obtain ⟨v,rfl,h⟩:=hk e w'' hh
 exact h
end
end
end Go.AL
