/-
  A part of the proof: Al39.
-/
import Derived.Test.YtjdgdinalodjfaaGreatDoorA2
set_option linter.all false
set_option linter.unusedVariables false
set_option linter.unusedSimpArgs false
set_option linter.deprecated false
namespace Go.AL
open Go.RowKit
section
variable {P:Program} {GI:World→Prop} {n m:Nat} {Q:Exit→Act→World→Prop}
def cutAtB (ops:Array Oper) (p:Nat):Bool :=
 decide (p≤ops.size) && ops.all (fun o=>o.guard.isNone) &&
 (List.range ops.size).all (fun i=>((ops[i]?).map fun o=>if i < p then o.after.all fun e => !Region.binds .any e || decide (e.on < i) else (List.range p).all fun j=>o.after.any fun e=>Region.binds .any e && e.on==j).getD true) &&
 restOK ops (ops.size - p) p ((List.range ops.size).map fun i=>decide (i < p)).toArray
theorem restOK_more {F:Fence} {ops:Array Oper} (hg:ops.all (fun o=>o.guard.isNone)=true) (x:Nat):∀ (k i:Nat) (l:Array Bool) (a:Act) (w:World),restOK ops k i l=true→wpOpsIn F m P ops Q (List.range' i k) a w→wpAnyIn F m P .any ops Q (x+k) l a w
 |0,i,l,a,w,h,hh=>by
  have h0:Region.ready .any ops l=[]:=by simpa [restOK] using h
  cases x with
  |zero=>exact ⟨h0,hh⟩
  |succ x=>exact ⟨fun _=>hh,fun i hi=>by rw [h0] at hi;cases hi⟩
 |k+1,i,l,a,w,h,hh=>by
  simp only [restOK,Bool.and_eq_true,beq_iff_eq] at h
  refine ⟨fun hr=>(by rw [hr] at h;cases h.1),fun j hj => ?_⟩
  rw [h.1,List.mem_singleton] at hj
  subst hj
  simp only [List.range'_succ] at hh
  rw [wpOpsIn_cons] at hh
  exact wpOpIn_mono (fun a w hq=>restOK_more hg x k _ _ a w h.2 hq) hh
structure CutI (ops:Array Oper) (p:Nat) (la l:Array Bool):Prop where
 sla:la.size=p
 sl:l.size=ops.size
 front:∀ i,i < p→l[i]? = la[i]?
 back:∀ i,p≤i→i < ops.size→l[i]? = some false
section
variable {ops:Array Oper} {p:Nat} {la l:Array Bool} (hp:p≤ops.size)
 (hw:∀ i o,ops[i]? = some o→if i < p then ∀ e∈o.after,Region.binds .any e=true→e.on < i else ∀ j,j < p→∃ e∈o.after,Region.binds .any e=true∧e.on=j)
include hp hw
theorem cut_ready (h:CutI ops p la l) {j:Nat} (hj:j < p) (hju:la[j]? = some false):Region.ready .any ops l=Region.ready .any (ops.extract 0 p) la:=by
 unfold Region.ready
 have hsz:(ops.extract 0 p).size=p:=by simp;omega
 rw [hsz]
 have hr:List.range ops.size=List.range p++List.range' p (ops.size - p):=by
  rw [List.range_eq_range',List.range_eq_range']
  have:=List.range'_append_1 (s:=0) (m:=p) (n:=ops.size - p)
  rw [Nat.zero_add] at this
  rw [this]
  congr 1;omega
 rw [hr,List.filter_append]
 have hb:(List.range' p (ops.size - p)).filter (fun i => !l.getD i true && ((ops[i]?).map (·.after.all fun e => !Region.binds .any e || l.getD e.on false)).getD false)=[]:=by
  rw [List.filter_eq_nil_iff]
  intro i hi
  have hi:=List.mem_range'_1.1 hi
  have hi1:p≤i:=hi.1
  have hi2:i < ops.size:=by omega
  have ho:ops[i]? = some ops[i]:=Array.getElem?_eq_getElem hi2
  have hwi:=hw i _ ho
  rw [if_neg (by omega)] at hwi
  obtain ⟨e,he,hb,hej⟩:=hwi j hj
  rw [ho]
  simp only [Option.map_some,Option.getD_some,Bool.and_eq_true,not_and,Bool.not_eq_true]
  intro _
  rw [Array.all_eq_false]
  obtain ⟨q,hq,rfl⟩:=Array.getElem_of_mem he
  refine ⟨q,hq,?_⟩
  rw [hb,hej]
  simp only [Bool.not_true,Bool.false_or,Bool.not_eq_true]
  rw [Array.getD_eq_getD_getElem?,h.front j hj,hju];rfl
 rw [hb,List.append_nil]
 refine List.filter_congr fun i hi => ?_
 have hi:=List.mem_range.1 hi
 have ho:ops[i]? = some (ops[i]'(by omega)):=Array.getElem?_eq_getElem (by omega)
 have hwi:=hw i _ ho
 rw [if_pos hi] at hwi
 have hoe:(ops.extract 0 p)[i]? = ops[i]? := by
  rw [Array.getElem?_extract]
  have:i < min p ops.size - 0:=by omega
  rw [if_pos this,Nat.zero_add]
 rw [hoe,ho]
 simp only [Option.map_some,Option.getD_some,Array.getD_eq_getD_getElem?,h.front i hi]
 congr 1
 rw [Bool.eq_iff_iff,Array.all_eq_true',Array.all_eq_true']
 refine forall_congr' fun e=>forall_congr' fun he => ?_
 cases hbe:Region.binds .any e with
 |false=>simp
 |true =>
  have:=hwi e he hbe
  rw [h.front e.on (by omega)]
theorem cut_progress (h:CutI ops p la l) {j:Nat} (hj:j < p) (hju:la[j]? = some false):Region.ready .any (ops.extract 0 p) la≠[]:=by
 have hsz:(ops.extract 0 p).size=p:=by simp;omega
 have ex:∃ j,j < p∧la[j]? = some false∧∀ i,i < j→la[i]? = some true:=by
  induction j using Nat.strongRecOn with
  |_ j ih =>
   by_cases hx:∃ i,i < j∧la[i]? = some false
   ·obtain ⟨i,hi,hiu⟩:=hx
    exact ih i hi (by omega) hiu
   ·refine ⟨j,hj,hju,fun i hi => ?_⟩
    have hil:i < la.size:=by rw [h.sla];omega
    rw [Array.getElem?_eq_getElem hil]
    cases hb:la[i] with
    |true=>rfl
    |false=>exact absurd ⟨i,hi,by rw [Array.getElem?_eq_getElem hil,hb]⟩ hx
 obtain ⟨j,hj,hju,hmin⟩:=ex
 intro hnil
 have:j∈Region.ready .any (ops.extract 0 p) la:=by
  unfold Region.ready
  rw [List.mem_filter]
  refine ⟨List.mem_range.2 (by omega),?_⟩
  have ho:ops[j]? = some (ops[j]'(by omega)):=Array.getElem?_eq_getElem (by omega)
  have hwi:=hw j _ ho
  rw [if_pos hj] at hwi
  have hoe:(ops.extract 0 p)[j]? = ops[j]? := by
   rw [Array.getElem?_extract]
   have:j < min p ops.size - 0:=by omega
   rw [if_pos this,Nat.zero_add]
  rw [hoe,ho]
  simp only [Option.map_some,Option.getD_some,Bool.and_eq_true,Array.getD_eq_getD_getElem?,hju,Bool.not_false,true_and]
  rw [Array.all_eq_true']
  intro e he
  cases hbe:Region.binds .any e with
  |false=>rfl
  |true =>
   rw [hmin e.on (hwi e he hbe)];rfl
 rw [hnil] at this
 cases this
theorem cutB_sound {F:Fence} (hg:ops.all (fun o=>o.guard.isNone)=true) (hrest:restOK ops (ops.size - p) p ((List.range ops.size).map fun i=>decide (i < p)).toArray=true):∀ (k:Nat) (la l:Array Bool) (a:Act) (w:World),CutI ops p la l →
  wpAnyIn F m P .any (ops.extract 0 p) (midQ (wpOpsIn F m P ops Q (List.range' p (ops.size - p))) Q) k la a w→wpAnyIn F m P .any ops Q (k+(ops.size - p)) l a w:=by
 have hsz:(ops.extract 0 p).size=p:=by simp;omega
 have final:∀ (k:Nat) (la l:Array Bool) (a:Act) (w:World),CutI ops p la l→(¬ ∃ j,j < p∧la[j]? = some false)→wpOpsIn F m P ops Q (List.range' p (ops.size - p)) a w→wpAnyIn F m P .any ops Q (k+(ops.size - p)) l a w:=by
  intro k la l a w h hall hh
  have hl:l=((List.range ops.size).map fun i=>decide (i < p)).toArray:=by
   apply Array.ext_getElem?
   intro i
   by_cases hi:i < ops.size
   ·simp only [List.getElem?_toArray,List.getElem?_map,List.getElem?_range hi,Option.map_some]
    by_cases hip:i < p
    ·rw [h.front i hip]
     have hil:i < la.size:=by rw [h.sla];omega
     rw [Array.getElem?_eq_getElem hil]
     cases hb:la[i] with
     |true=>simp [hip]
     |false=>exact absurd ⟨i,hip,by rw [Array.getElem?_eq_getElem hil,hb]⟩ hall
    ·rw [h.back i (by omega) hi];simp [hip]
   ·have hls:=h.sl
    rw [Array.getElem?_eq_none (by omega),Array.getElem?_eq_none (by simp;omega)]
  rw [hl]
  exact restOK_more hg k _ _ _ a w hrest hh
 intro k
 induction k with
 |zero =>
  intro la l a w h hh
  refine final 0 la l a w h ?_ hh.2
  rintro ⟨j,hj,hju⟩
  exact cut_progress hp hw h hj hju hh.1
 |succ k ih =>
  intro la l a w h hh
  by_cases hall:∃ j,j < p∧la[j]? = some false
  case neg =>
   have h0:Region.ready .any (ops.extract 0 p) la=[]:=by
    unfold Region.ready
    rw [List.filter_eq_nil_iff]
    intro i hi
    have hi:=List.mem_range.1 hi
    have hil:i < la.size:=by rw [h.sla];omega
    cases hb:la[i] with
    |true=>simp [Array.getD_eq_getD_getElem?,Array.getElem?_eq_getElem hil,hb]
    |false=>exact absurd ⟨i,by omega,by rw [Array.getElem?_eq_getElem hil,hb]⟩ hall
   exact final (k+1) la l a w h hall (hh.1 h0)
  obtain ⟨j,hj,hju⟩:=hall
  have h1:=cut_progress hp hw h hj hju
  have h2:=cut_ready hp hw h hj hju
  rw [show k+1+(ops.size - p)=(k+(ops.size - p))+1 by omega]
  refine ⟨fun hr=>absurd (h2 ▸ hr) h1,fun i hi => ?_⟩
  have hi':i∈Region.ready .any (ops.extract 0 p) la:=by rw [← h2];exact hi
  have hip:i < p:=by
   have:=List.mem_range.1 (List.mem_filter.1 hi').1
   omega
  have hI:CutI ops p (la.setIfInBounds i true) (l.setIfInBounds i true):=by
   refine ⟨by simpa using h.sla,by simpa using h.sl,fun q hq => ?_,fun q hq hq' => ?_⟩
   ·rw [Array.getElem?_setIfInBounds,Array.getElem?_setIfInBounds,h.front q hq]
    have e1:=h.sla
    have e2:=h.sl
    by_cases hiq:i=q
    ·subst hiq;rw [if_pos rfl,if_pos rfl,if_pos (by omega),if_pos (by omega)]
    ·rw [if_neg hiq,if_neg hiq]
   ·rw [Array.getElem?_setIfInBounds,if_neg (by omega)]
    exact h.back q hq hq'
  have hs:=hh.2 i hi'
  unfold wpOpIn at hs ⊢
  have hget:(ops.extract 0 p)[i]? = ops[i]? := by
   rw [Array.getElem?_extract]
   have:i < min p ops.size - 0:=by omega
   rw [if_pos this,Nat.zero_add]
  rw [hget] at hs
  cases ho:ops[i]? with
  |none=>rw [ho] at hs;exact ih _ _ a w hI hs
  |some o =>
   rw [ho] at hs
   have hgo:o.guard=none:=by
    have:=Array.all_eq_true'.1 hg o (Array.mem_of_getElem? ho)
    simpa using this
   have hw:∀ y,Region.wanted o y=true:=fun y=>by simp [Region.wanted,hgo]
   simp only [hw,if_true] at hs ⊢
   exact Oper.wpIn_mono (fun a w hq=>ih _ _ a w hI hq) (oper_midQ hs)
end
theorem wpIn_cutB (hm:P.follows .mixedOrders=true) {F:Fence} {id p:Nat} {ops:Array Oper} {a:Act} {w:World} (h:cutAtB ops p=true)
  (hh:wpAnyIn F m P .any (ops.extract 0 p) (midQ (wpOpsIn F m P ops Q (List.range' p (ops.size - p))) Q) p (Array.replicate p false) a { w with drawn:=w.drawn+1 }):(Code.region id ops true).wpIn F m P Q a w:=by
 simp only [cutAtB,Bool.and_eq_true,decide_eq_true_eq] at h
 obtain ⟨⟨⟨h1,h2⟩,h3⟩,h4⟩:=h
 refine wpIn_region_any hm ?_
 have:=cutB_sound (P:=P) (Q:=Q) (m:=m) h1 (fun i o ho=>by
  have hi:=(Array.getElem?_eq_some_iff.1 ho).1
  have:=List.all_eq_true.1 h3 i (List.mem_range.2 hi)
  rw [ho] at this
  simp only [Option.map_some,Option.getD_some] at this
  split
  ·rename_i hip
   rw [if_pos hip,Array.all_eq_true'] at this
   intro e he hb
   have:=this e he
   simpa [hb] using this
  ·rename_i hip
   rw [if_neg hip] at this
   intro j hj
   have:=List.all_eq_true.1 this j (List.mem_range.2 hj)
   obtain ⟨q,hq,hqb⟩:=Array.any_eq_true.1 this
   simp only [Bool.and_eq_true,beq_iff_eq] at hqb
   exact ⟨_,Array.getElem_mem hq,hqb.1,hqb.2⟩) (F:=F) h2 h4 p (Array.replicate p false) (Array.replicate ops.size false) a _ ⟨by simp,by simp,fun i hi=>by
    rw [Array.getElem?_replicate,Array.getElem?_replicate,if_pos (by omega),if_pos hi],fun i hi hi'=>by rw [Array.getElem?_replicate,if_pos hi']⟩ hh
 rwa [show p+(ops.size - p)=ops.size by omega] at this
theorem SW.cutHandB (hG:Stable GI) (hm:P.follows .mixedOrders=true) {ro:Option Nat} {old:Old} {Q:Post} {S:Slots} {H:Boxes} {ops:Array Oper} {id p:Nat} (hcut:cutAtB ops p=true) (hnd:(ops.extract 0 p).all (fun o=>calmOp o.op)=true) (hok:dOK P n (ops.extract 0 p)=true) (hbx:∀ d,¬ old.bx d)
  {l:List AOpr} (hl:compOps P n true (ops.extract 0 p)=l) (hsp:(ops.extract 0 p).size=p) {K:Slots→Boxes→Prop} (h:dops P GI l K (prol l S) (prolH l H))
  (hand:∀ w0 g S1 H1 a w m,GI w0→g.old=old→Rel P w0 n NoU g S1 H1 a w→K S1 H1→wpOpsIn (FR ro) m P ops (QS P w0 n Q) (List.range' p (ops.size - p)) a w):SW P GI n ro (.region id ops true) Q old S H:=by
 subst hl
 intro w0 g a w m hG0 ho R
 refine wpIn_cutB hm hcut ?_
 have key:=dregion_any (ro:=ro) (m:=m) hG hG0 hm (old:=old) (ops:=ops.extract 0 p) (Q:=assignQ K) hnd hok (fun _ _ d _=>hbx d) ho R h
 rw [hsp] at key
 refine wpAnyIn_mono ?_ _ _ _ _ key
 intro e a' w' hq
 cases e with
 |normal =>
  obtain ⟨g',S',H',h1,h2,h3⟩:=hq
  exact hand w0 g' S' H' a' w' m hG0 h1 h2 h3
 |exit id=>obtain ⟨_,_,_,_,_,h⟩:=hq;exact h.elim
 |ret=>obtain ⟨_,_,_,_,_,h⟩:=hq;exact h.elim
 |panic ch=>obtain ⟨_,_,_,_,_,_,_,_,_,_,h⟩:=hq;exact h.elim
 |goto l=>exact hq.elim
 |outgrown=>exact hq.elim
end
end Go.AL
