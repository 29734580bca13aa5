/-
  A part of the proof: Al43 Al44 Al45 Al46 Al47 Al48 Al49.
-/
import Derived.Test.YtifmgeicigngbaaGreatA2
import Derived.Test.YtifmgeicigngbaaGreatK1
set_option linter.all false
set_option linter.unusedVariables false
set_option linter.unusedSimpArgs false
set_option linter.deprecated false
namespace Go.AL
open Go.RowKit
section
variable {P:Program} {GI:World→Prop} {w0:World} {n:Nat} {g:Gh} {S:Slots} {H:Boxes} {a:Act} {w:World}
theorem Rel.layBox (R:Rel P w0 n NoU g S H a w) (d:Nat) (hd:d < n) (hbx:¬ g.old.bx d) (cs:List AV) (vs:Array Value) (ty:TypeId) (hr:RDs g.Pr w cs vs)
  (ho:∀ (g':Gh) j (h:j < cs.length) (h':j < vs.size),(cs[j]).noOwn∧OwnAt P w g' (.cell d j) cs[j] vs[j]) :
  ∃ g',g'.base=g.base∧g'.old=g.old∧g'.hi=g.hi∧g'.owner=g.owner∧g'.al d=some w.heap.size∧Rel P w0 n NoU g' (upd (fun t=>scrub d (S t)) d (.box d 0)) (upd H d (some cs)) (a.put (some d) (.pointer (some ⟨w.heap.size,0,none⟩))) (w.alloc (.cells vs ty)):=by
 have R1:=R.suspend d hbx (.box d 0) cs
 have R2:=R1.newBox d (.inr rfl) hd cs vs ty (upd_same _ _ _) (upd_same _ _ _) hr.1 hr.2.1 (fun j h h'=>ho _ j h h') hr.2.2
 rw [noU_back] at R2
 exact ⟨{ g with al:=upd (upd g.al d none) d (some w.heap.size) },rfl,rfl,rfl,rfl,upd_same _ _ _,R2⟩
theorem run_allocZ {o:Oper} {t:TypeId} {it:TypeInfo} {z:Value} (ho:o.op = .alloc t) (hi:P.info? t=some it) (hz:it.zero=some z):(execOp a.eval o).run P w = .ok (.value (.pointer (some ⟨w.heap.size,0,none⟩))) (w.alloc (.cells z.cells t)):=by
 unfold execOp
 simp [ho,Instr.alloc,zeroValue,typeInfo,hi,hz,newVar,newRow]
theorem run_storeAll {o:Oper} {t:TypeId} {x y:Operand} {b:Nat} {c:Value} {vs:Array Value} {ty:TypeId} {i:TypeInfo} (ho:o.op = .store t x y) (hx:a.eval x = .pointer (some ⟨b,0,none⟩)) (hi:P.info? t=some i) (hb:w.heap[b]? = some (.cells vs ty (0,0))) (hy:a.eval y=c)
  (hsz:c.cells.size=i.size) (hvs:vs.size=i.size) (hone:∀ u∈c.cells.toList,u.oneCell'=true):(execOp a.eval o).run P w = .ok .skip (w.setRow b c.cells):=by
 have hrun:=run_storeCells_at P b 0 ty c.cells.toList 0 vs w hb (by simp;omega) hone
 have e:(vs.toList.take 0++c.cells.toList++vs.toList.drop (0+c.cells.toList.length)).toArray=c.cells:=by
  simp [List.drop_eq_nil_of_le,hsz,hvs]
 simp only [Nat.add_zero] at hrun
 rw [e] at hrun
 unfold execOp
 simp only [ho,hx,hy,Instr.storeAt,Instr.sureAddr,storeVar,sizeOf,typeInfo,Sem.run_bind,Sem.run_pure,Result.andThen_ok,run_program,hi,hsz,ne_eq,not_true_eq_false,if_false]
 rw [show storeCells ⟨b,0,none⟩ c.cells.toList=storeCells ⟨b,0,none⟩ c.cells.toList 0 from rfl,hrun]
 rfl
theorem Rel.forget (R:Rel P w0 n NoU g S H a w) (d:Nat) (hd:d < n) (c:Value):Rel P w0 n NoU g (upd S d .junk) H (a.put (some d) c) w:=R.put d .junk c hd (.junk _) trivial
end
end Go.AL
namespace Go.AL
open Go.RowKit
section
variable {P:Program} {GI:World→Prop} {n m:Nat} {a:Act} {w w0:World} {Q:Exit→Act→World→Prop} {g:Gh} {S:Slots} {H:Boxes} {ro:Option Nat}
theorem front_step (R:Rel P w0 n NoU g S H a w) (hG:Stable GI) (hG0:GI w0) {ops:Array Oper} {p:Nat} {l2:List Nat} (hr:List.range ops.size=List.range p++l2) (hnd:ops.all (fun o=>calmOp o.op)=true) (hok:((compOps P n false ops).take p).all (·.ok n)=true)
  {l:List AOpr} (hl:(compOps P n false ops).take p=l) (hpn:p≤ops.size) {W:Nat→Bool} (hW:Writes ops W=true) (hbx:∀ d,¬ g.old.bx d) {K:Slots→Boxes→Prop} (h:aops P GI l K (fun _=>False) S H)
  (hk:∀ g' S' H' a' w',g'.old=g.old→Rel P w0 n NoU g' S' H' a' w'→K S' H'→Same W a a'→wpOpsIn (FR ro) m P ops Q l2 a' w') {id:Nat}:(Code.region id ops false).wpIn (FR ro) m P Q a w:=by
 refine wpIn_region ?_
 rw [hr]
 subst hl
 have key:=aops_wp hG hG0 (old:=g.old) (ops:=ops) (Q:=assignQ K) (S0:=S) (H0:=H) (List.range p) (ops.toList.take p) g S H a w (by
   apply List.ext_getElem?
   intro i
   simp only [List.getElem?_map,List.getElem?_take]
   by_cases hi:i < p
   ·have:i < ops.size:=by omega
    simp [hi,this]
   ·simp [hi]) (fun o hoo=>by
    simp only [compOps,← List.map_take,List.all_map,List.all_eq_true,Function.comp] at hok
    exact hok o hoo) (fun _ _ d _=>hbx d) rfl R (by
    simp only [compOps,← List.map_take] at h
    exact h)
 refine wpOpsIn_append (Q1:=frQ W a (QQ P w0 n g.old (assignQ K))) (fun e a w hne hq => ?_) (fun a' w' hq => ?_) _ _ _ (wpOpsIn_frame hW _ _ _ (wpOps_in hnd QQ_noOut _ _ _ key))
 ·cases e with
  |normal=>exact absurd rfl hne
  |exit id=>obtain ⟨_,_,_,_,_,h⟩:=hq;exact h.elim
  |ret=>obtain ⟨_,_,_,_,_,h⟩:=hq;exact h.elim
  |panic ch=>obtain ⟨_,_,_,_,_,_,_,_,_,_,h⟩:=hq;exact h.elim
  |goto l=>exact hq.elim
  |outgrown=>exact hq.elim
 ·obtain ⟨⟨g',S',H',h1,h2,h3⟩,h4⟩:=hq
  exact hk g' S' H' a' w' h1 h2 h3 h4
theorem run_indexAddrA {o:Oper} {s el:TypeId} {len:Nat} {i:TypeInfo} {x1 x2:Operand} {b off k:Nat} (ho:o.op = .indexAddr s x1 x2) (hs:P.underlying s=some (.array len el)) (hi:P.info? el=some i)
  (h1:a.eval x1 = .pointer (some ⟨b,off,none⟩)) (h2:a.eval x2 = .int .i64 k) (hk:k < len):(execOp a.eval o).run P w = .ok (.value (.pointer (some ⟨b,off+k * i.size,none⟩))) w:=by
 have hk0:(0:Int)≤k:=by omega
 have hkl:(k:Int) < len:=by omega
 simp [execOp,ho,h1,h2,Instr.indexAt,asIntOf,run_underlying hs,hk0,hkl,sizeOf,typeInfo,hi,Addr.add_lit,hk,Instr.sureAddr]
theorem run_callvN {o:Oper} {cl:Call} {f:Operand} {k:Nat} {first cap:Array Value} (w:World) (ho:o.op = .call cl) (hc:cl.callee = .value f) (hf:a.eval f = .func (.func k) first cap) (hk:callable P k=true) :
  (execOp a.eval o).run P w = .ok (.enter k (first++cl.args.map a.eval++cap)) w:=by
 unfold execOp
 simp [ho,run_resolve_func hc,hf,Deferred.ofValue,invoke,run_callFunc hk]
theorem run_load1V {o:Oper} {t:TypeId} {d:TypeDesc} {x:Operand} {b off:Nat} {v:Value} {vs:Array Value} {ty:TypeId} (ho:o.op = .load t x) (hx:a.eval x = .pointer (some ⟨b,off,none⟩)) (hd:P.underlying t=some d) (hd':aggT d=false) (hb:w.heap[b]? = some (.cells vs ty (0,0))) (hv:vs[off]? = some v) :
  (execOp a.eval o).run P w = .ok (.value v) w:=by
 refine run_load1 ho hx hd hd' ?_
 simp [World.cell?,hb,hv]
theorem AI.keep {ops:Array Oper} {a0:Act} {val:Nat→Value} {l:Array Bool} (h:AI ops n a0 val l a) {t:Nat} (ht:ops.all (fun o=>o.dst != some t)=true):a.tmps.getD t undef=a0.tmps.getD t undef :=
 h.old t fun i o ho hd=>by
  have:=Array.all_eq_true'.1 ht o (Array.mem_of_getElem? ho)
  simp [hd] at this
theorem AI.at {ops:Array Oper} {a0:Act} {val:Nat→Value} {l:Array Bool} (h:AI ops n a0 val l a) (i t:Nat) (ho:∃ o,ops[i]? = some o∧o.dst=some t) (hl:l.getD i false=true):a.tmps.getD t undef=val t:=by
 obtain ⟨o,h1,h2⟩:=ho
 exact h.got i o t h1 h2 hl
theorem results_cell2 {fn:Func} {tmps:Array Value} {T t b:Nat} {u v:Value} {ty:TypeId} {fs:Array Field} {i:TypeInfo} (hr:fn.results = #[.cell t T]) (h:tmps.getD t undef = .pointer (some ⟨b,0,none⟩)) (hb:w.heap[b]? = some (.cells #[u,v] ty (0,0))) (hT:P.underlying T=some (.struct fs)) (hi:P.info? T=some i) (hs:i.size=2):(results fn tmps).run P w = .ok (.agg #[u,v]) w:=by
 have h':tmps[t]?.getD undef = .pointer (some ⟨b,0,none⟩):=by rw [← h];simp
 have hagg:(isAgg T).run P w = .ok true w:=by
  unfold isAgg
  rw [Sem.run_bind,run_underlying hT w]
  rfl
 have hl:(loadVar T ⟨b,0,none⟩).run P w = .ok (.agg #[u,v]) w:=by
  simp [loadVar,Sem.run_bind,hagg,sizeOf,typeInfo,hi,hs,loadCells]
  have h0:w.cell? ⟨b,0,none⟩=some u:=by simp [World.cell?,hb]
  have h1:w.cell? ⟨b,1,none⟩=some v:=by simp [World.cell?,hb]
  simp [loadCellsFrom,Sem.run_bind,run_load,Addr.add_lit,h0,h1]
 simp [results,hr,h',asAddr,hl]
end
end Go.AL
namespace Go.AL
open Go.RowKit
theorem OwnAt.keep3 {P:Program} {w w':World} {g:Gh} {loc:Loc} {v:AV} {c:Value} (h:OwnAt P w g loc v c) (hk:∀ b o,g.base≤b→w.heap[b]? = some o→w'.heap[b]? = some o):OwnAt P w' g loc v c:=by
 unfold OwnAt at *
 split at h
 ·obtain ⟨i,xs,b,h1,h2,h3,h4,h5⟩:=h
  refine ⟨i,xs,b,h1,?_,h3,h4,h5⟩
  refine ⟨h2.1,?_⟩
  rcases h2.2 with hn | ⟨gg,cap,cur,rfl,hbb,hgg,rest⟩
  ·exact .inl hn
  ·exact .inr ⟨gg,cap,cur,rfl,hbb,hk gg _ hbb hgg,rest⟩
 ·trivial
def swapW (wS w':World) (b:Nat) (o:Obj):World:={ w' with heap:=wS.heap.setIfInBounds b o }
section
variable {P:Program} {GI:World→Prop} {n m:Nat} {a:Act} {w w0:World} {Q:Exit→Act→World→Prop} {g:Gh} {S:Slots} {H:Boxes} {ro:Option Nat}
theorem Rel.turn1 (R:Rel P w0 n NoU g S H a w) {w':World} {bM:Nat} {o:Obj} (ht:Turn (fun b=>b=bM) w w') (hlt:bM < g.base) (hno:∀ k,¬ g.old.c bM k) (ho:w'.heap[bM]? = some o):Rel P (swapW w0 w' bM o) n NoU g S H a w':=by
 have hb:=R.base
 have hup:∀ b ob,g.base≤b→w.heap[b]? = some ob→w'.heap[b]? = some ob:=fun b ob hbb h=>by
  rw [ht.block b (Array.getElem?_eq_some_iff.1 h).1 (by omega)];exact h
 have hK:Keeps g.Pr g.Pr w w':=Keeps.of_moved fun b k hl hp=>ht.block b hl (by
  rintro rfl
  rcases hp with hp | hp
  ·exact hno k hp.2
  ·omega)
 have hlo:∀ b,b < g.base→(swapW w0 w' bM o).heap[b]? = w'.heap[b]? := fun b hbb=>by
  by_cases hbm:b=bM
  ·subst hbm
   rw [ho]
   simp [swapW,← hb,hbb]
  ·have h1:w.heap[b]? = w0.heap[b]? := R.below.block b hbb
   have h2:=ht.block b (by have:=R.below.size;omega) hbm
   simp only [swapW,Array.getElem?_setIfInBounds_ne (Ne.symm hbm)]
   rw [h2,h1]
 refine { size:=R.size,defers:=R.defers,facts:=fun p hp=>(R.facts p hp).mono hK fun _ _ h=>h,slot:=fun t ht hu=>(R.slot t ht hu).mono hK fun _ _ h=>h,own:=fun t ht hu=>(R.own t ht hu).keep3 hup,box := ?_,alH:=R.alH,alU:=R.alU,inj:=R.inj,base:=by simp [swapW,hb],below := ?_,fresh:=fun b hb=>R.fresh b (Nat.le_trans ht.size hb),still:=R.still.trans hK,grown:=Nat.le_trans R.grown ht.size,kept := ?_ }
 ·intro i b hi
  obtain ⟨cs,vs,ty,h1,h2,h3,h4,h5,h6,h7,h8,h9⟩:=R.box i b hi
  exact ⟨cs,vs,ty,h1,h2,hup b _ h2 h3,h4,h5,h6,fun j hj hj'=>(h7 j hj hj').mono hK,fun j hj hj'=>(h8 j hj hj').keep3 hup,h9⟩
 ·refine ⟨rfl,rfl,rfl,?_,fun b hbb=>(hlo b hbb).symm⟩
  have:=R.below.size
  have:=ht.size
  have:(swapW w0 w' bM o).heap.size=w0.heap.size:=by simp [swapW]
  omega
 ·intro b ob h
  obtain ⟨q1,q2,q3,q4,q5⟩:=R.kept b ob h
  exact ⟨q1,hup b ob q1 q2,q3,q4,q5⟩
theorem rest_step (R:Rel P w0 n NoU g S H a w) (hG:Stable GI) (hG0:GI w0) {ops:Array Oper} {l2:List Nat} {os2:List Oper} (hl2:l2.map (ops[·]?)=os2.map some) (hnd:ops.all (fun o=>calmOp o.op)=true) {al:List AOpr} (hal:os2.map (compOpr P n false ops)=al) (hok:al.all (·.ok n)=true)
  {W:Nat→Bool} (hW:Writes ops W=true) (hbx:∀ d,¬ g.old.bx d) {K:Slots→Boxes→Prop} (h:aops P GI al K (fun _=>False) S H)
  (hk:∀ g' S' H' a' w',g'.old=g.old→Rel P w0 n NoU g' S' H' a' w'→K S' H'→Same W a a'→Q .normal a' w'):wpOpsIn (FR ro) m P ops Q l2 a w:=by
 subst hal
 have key:=aops_wp hG hG0 (old:=g.old) (ops:=ops) (Q:=assignQ K) (S0:=S) (H0:=H) l2 os2 g S H a w hl2 (fun o hoo=>by
    simp only [List.all_map,List.all_eq_true,Function.comp] at hok
    exact hok o hoo) (fun _ _ d _=>hbx d) rfl R h
 refine wpOpsIn_mono (fun e a' w' hq => ?_) _ _ _ (wpOpsIn_frame hW _ _ _ (wpOps_in (ro:=ro) (m:=m) hnd QQ_noOut _ _ _ key))
 cases e with
 |normal =>
  obtain ⟨⟨g',S',H',h1,h2,h3⟩,h4⟩:=hq
  exact hk g' S' H' a' w' h1 h2 h3 h4
 |exit id=>obtain ⟨_,_,_,_,_,h⟩:=hq;exact h.elim
 |ret=>obtain ⟨_,_,_,_,_,h⟩:=hq;exact h.elim
 |panic ch=>obtain ⟨_,_,_,_,_,_,_,_,_,_,h⟩:=hq;exact h.elim
 |goto l=>exact hq.elim
 |outgrown=>exact hq.elim
theorem lookK_none {κ:Type} [BEq κ] [LawfulBEq κ] {k:κ}:∀ {l:List (κ×Value)} {i:Nat},(∀ x∈l,x.1≠k)→lookK k l i=none
 |[],_,_=>rfl
 |(k',v)::l,i,h=>by
  have h1:k'≠k:=h (k',v) (by simp)
  unfold lookK
  rw [if_neg (by simpa using Ne.symm h1)]
  exact lookK_none fun x hx=>h x (List.mem_cons_of_mem _ hx)
theorem lookK_mem {κ:Type} [BEq κ] [LawfulBEq κ] {k:κ}:∀ {l:List (κ×Value)} {i j:Nat} {v:Value},lookK k l i=some (j,v)→(k,v)∈l
 |[],_,_,_,h=>by cases h
 |(k',v')::l,i,j,v,h=>by
  unfold lookK at h
  split at h
  ·rename_i hk
   have:k=k':=by simpa using hk
   subst this
   cases h
   simp
  ·exact List.mem_cons_of_mem _ (lookK_mem h)
theorem lookK_no {κ:Type} [BEq κ] [LawfulBEq κ] {k:κ}:∀ {l:List (κ×Value)} {i:Nat},lookK k l i=none→∀ x∈l,x.1≠k
 |[],_,_,x,hx=>by cases hx
 |(k',v')::l,i,h,x,hx=>by
  unfold lookK at h
  split at h
  ·cases h
  ·rename_i hk
   rcases List.mem_cons.1 hx with rfl | hx
   ·intro he;apply hk;simpa using he.symm
   ·exact lookK_no h x hx
end
end Go.AL
namespace Go.AL
open Go.RowKit
section
variable {P:Program} {GI:World→Prop} {n m:Nat} {a:Act} {w:World} {Q:Exit→Act→World→Prop} {S:Slots} {ro:Option Nat}
theorem popped_row {P:Program} {w:World} {bN k:Nat} {el:TypeId} {sz:Nat} {v:Value} {xs last:List Value} (hown:w.ownsRow (bN+1) el sz v (k+1) (xs++last)) (hxs:xs.length=k * sz) :
  ∃ g cap,v = .slice (some ⟨g,0,none⟩) (k+1) cap∧k≤cap∧w.ownsRow (bN+1) el sz (.slice (some ⟨g,0,none⟩) k cap) k xs:=by
 obtain ⟨_,h2⟩:=hown
 rcases h2 with ⟨_,h⟩ | ⟨g',cap',cur,hv,hg,hh,hn,hcap,hsz,htake⟩
 ·omega
 ·refine ⟨g',cap',hv,by omega,hxs,.inr ⟨g',cap',cur,rfl,hg,hh,by omega,hcap,hsz,?_⟩⟩
  have h3:(cur.toList.take ((k+1) * sz)).take (k * sz)=(xs++last).take (k * sz):=by rw [htake]
  rw [List.take_take,Nat.min_eq_left (Nat.mul_le_mul_right _ (by omega))] at h3
  rw [h3,← hxs,List.take_left]
end
end Go.AL
namespace Go.AL
open Go.RowKit
section
variable {P:Program} {n m:Nat} {a:Act} {w:World} {Q:Exit→Act→World→Prop} {ro:Option Nat}
theorem opIn_val_inv {ops:Array Oper} {i:Nat} {rest:List Nat} {o:Oper} (ho:ops[i]? = some o) (hg:o.guard=none) (hnd:calmOp o.op=true) {v:Value} {w':World}
  (hr:(execOp a.eval o).run P w = .ok (.value v) w') (h:wpOpsIn (FR ro) m P ops Q (i::rest) a w):wpOpsIn (FR ro) m P ops Q rest (a.put o.dst v) w':=by
 simp only [wpOpsIn,ho] at h
 have:Region.wanted o (yielded ops a.tmps)=true:=by simp [Region.wanted,hg]
 rw [if_pos this] at h
 have h2:=h.2
 rw [Oper.semAt_eq _ _ _ (fun c hc=>by rw [hc] at hnd;cases hnd),hr] at h2
 exact h2
theorem put_swap {a:Act} {d e:Nat} {u v:Value} (h:d≠e):(a.put (some d) u).put (some e) v=(a.put (some e) v).put (some d) u:=by
 simp [Act.put,Array.setIfInBounds_comm _ _ h]
theorem loads_swap {ops:Array Oper} {i j:Nat} {rest:List Nat} {oi oj:Oper} {d e:Nat} {u v:Value} (hi:ops[i]? = some oi) (hj:ops[j]? = some oj) (gi:oi.guard=none) (gj:oj.guard=none) (ci:calmOp oi.op=true) (cj:calmOp oj.op=true) (di:oi.dst=some d) (dj:oj.dst=some e) (hde:d≠e)
  (ri:(execOp a.eval oi).run P w = .ok (.value u) w) (rj:(execOp (a.put (some d) u).eval oj).run P w = .ok (.value v) w) (ri':(execOp (a.put (some e) v).eval oi).run P w = .ok (.value u) w)
  (h:wpOpsIn (FR ro) m P ops Q (i::rest) (a.put (some e) v) w):wpOpsIn (FR ro) m P ops Q (i::j::rest) a w:=by
 refine opIn_val hi gi ci ri ?_
 rw [di]
 refine opIn_val hj gj cj rj ?_
 rw [dj,put_swap hde]
 have:=opIn_val_inv hi gi ci ri' h
 rw [di] at this
 exact this
theorem stack_list {ops:Array Oper} {l2:List Nat} {os2:List Oper} (hl2:l2.map (ops[·]?)=os2.map some) (hnd:ops.all (fun o=>calmOp o.op)=true) {al:List AOpr} (hal:os2.map (compOpr P n false ops)=al) (hok:al.all (·.ok n)=true) {W:Nat→Bool} (hW:Writes ops W=true) (pr:Nat→Nat→Prop) (S:Slots)
  {bN nm tp:Nat} {v:Value} {e ty:TypeId} {i:TypeInfo} {es es':List AV} {xs:List Value} (htp:tp < n) (hWt:W tp=false) (hptr:a.tmps.getD tp undef = .pointer (some ⟨bN,0,none⟩)) (hsz:a.tmps.size=n) (hds:a.defers=[])
  (hN:w.heap[bN]? = some (.cells #[v] ty (0,0))) (hi:P.info? e=some i) (hown:w.ownsRow (bN+1) e i.size v es.length xs) (hf:FlatOf (fun b k=>b < bN∧pr b k) w i.size es xs)
  (hS:∀ t,t < n→(S t).dem=S t∧((S t = .box nm 0∧a.tmps.getD t undef = .pointer (some ⟨bN,0,none⟩))∨RV (fun b k=>b < bN∧pr b k) noneA w (S t) (a.tmps.getD t undef)))
  (h:aops P (fun _=>True) al (fun S' H'=>S' tp = .box nm 0∧H' nm=some [.slice (.own e) es']) (fun _=>False) S (fun j=>if j=nm then some [stackA e v es] else none))
  (hes:∀ x∈es',x.cells.length=i.size∧x.storable=true∧∀ c∈x.cells,c.one=true) (hsc:∀ x∈es',∀ c∈x.cells,scal1 c=true)
  (hk:∀ a' w' v' ty' xs',a'.tmps.size=n→a'.defers=[]→Same W a a'→w'.heap[bN]? = some (.cells #[v'] ty' (0,0))→w'.ownsRow (bN+1) e i.size v' es'.length xs'→FlatOf (fun _ _=>False) w' i.size es' xs' →
   Turn (fun b=>b=bN∨v.ownBlock=some b) w w'→(∀ b,v'.ownBlock=some b→v.ownBlock=some b∨w.heap.size≤b)→Q .normal a' w'):wpOpsIn (FR ro) m P ops Q l2 a w:=by
 subst hal
 obtain ⟨g,hg1,hg2,hg3,R⟩:=Rel.stack (P:=P) (nm:=nm) (S:=S) (a:=a) pr hsz hds hN hi hown hf hS
 have hlt:=(Array.getElem?_eq_some_iff.1 hN).1
 have fin:∀ e1 a' w',frQ W a (QQ P { w with heap:=w.heap.extract 0 bN } n (stackOld pr w bN v) (assignQ fun S' H'=>S' tp = .box nm 0∧H' nm=some [.slice (.own e) es'])) e1 a' w'→Q e1 a' w':=by
  intro e1 a' w' hq
  cases e1 with
  |normal =>
   obtain ⟨⟨g',S',H',h1,h2,h3⟩,h4⟩:=hq
   have hgb:g'.base=bN:=by rw [h2.base];simp;omega
   have hal:g'.al nm=some bN:=by
    have hs:=h2.slot tp htp (fun hh=>hh)
    rw [h3.1,h4 tp hWt,hptr] at hs
    cases hs with
    |data _ _ h=>cases h
    |box _ _ b h=>exact h
   obtain ⟨v',ty',xs',k1,k2,k3,k4,k5⟩:=Rel.stackEnd (w:=w) pr hi h2 h1 hgb (fun b hb=>by
    show (w.heap.extract 0 bN)[b]? = w.heap[b]?
    rw [Array.getElem?_extract,if_pos (by omega),Nat.zero_add]) hal h3.2 hes hsc
   have hgr:=h2.grown
   rw [h1] at hgr
   refine hk a' w' v' ty' xs' h2.size (by rw [h2.defers,h1];rfl) h4 k1 k2 k3 ⟨h2.below.os,h2.below.tape,h2.below.output,hgr,fun b hb hM => ?_⟩ k5
   exact k4 b hb (fun h=>hM (.inl h)) (fun h=>hM (.inr h))
  |exit id=>obtain ⟨_,_,_,_,_,h⟩:=hq;exact h.elim
  |ret=>obtain ⟨_,_,_,_,_,h⟩:=hq;exact h.elim
  |panic ch=>obtain ⟨_,_,_,_,_,_,_,_,_,_,h⟩:=hq;exact h.elim
  |goto l=>exact hq.elim
  |outgrown=>exact hq.elim
 have key:=aops_wp (GI:=fun _=>True) (fun _ _ _ _=>trivial) trivial (old:=stackOld pr w bN v) (ops:=ops) (Q:=assignQ fun S' H'=>S' tp = .box nm 0∧H' nm=some [.slice (.own e) es']) (S0:=S) (H0:=fun j=>if j=nm then some [stackA e v es] else none) l2 os2 g S _ a w hl2 (fun o hoo=>by
    simp only [List.all_map,List.all_eq_true,Function.comp] at hok
    exact hok o hoo) (fun _ _ _ _ h=>h) hg1 R h
 exact wpOpsIn_mono fin _ _ _ (wpOpsIn_frame hW _ _ _ (wpOps_in (ro:=ro) (m:=m) hnd QQ_noOut _ _ _ key))
def fieldC (P:Program) (t j:Nat):Option (Nat×Nat):=match P.underlying t with
 |some (.struct fs)=>match fs[j]? with
  |some f=>match P.info? f.type with
   |some i=>some (f.offset,i.size)
   |none=>none
  |none=>none
 |_=>none
theorem run_fieldAddrC {o:Oper} {s j off0 sz:Nat} {x:Operand} {b off:Nat} (h:fieldC P s j=some (off0,sz)) (hz:sz≠0) (ho:o.op = .fieldAddr s x j) (hx:a.eval x = .pointer (some ⟨b,off,none⟩)):(execOp a.eval o).run P w = .ok (.value (.pointer (some ⟨b,off+off0,none⟩))) w:=by
 unfold fieldC at h
 split at h
 ·rename_i fs hfs
  split at h
  ·rename_i f hf
   split at h
   ·rename_i i hi
    simp only [Option.some.injEq,Prod.mk.injEq] at h
    obtain ⟨rfl,rfl⟩:=h
    exact run_fieldAddrV ho hfs hf hi hz hx
   ·cases h
  ·cases h
 ·cases h
theorem slice_form {Pr:Nat→Nat→Prop} {es:List AV} {c:Value} (h:RD Pr w (.slice .view es) c):∃ ad cap,c = .slice ad es.length cap:=by
 cases h with
 |nils=>exact ⟨_,_,rfl⟩
 |slice _ _ b off cap size cs hcap hn hsz h1 hc hr=>exact ⟨_,_,rfl⟩
 |emps _ a=>exact ⟨_,_,rfl⟩
end
end Go.AL
namespace Go.AL
open Go.RowKit
section
variable {P:Program} {GI:World→Prop} {n m:Nat} {a:Act} {w:World} {Q:Exit→Act→World→Prop} {ro:Option Nat}
def waitsOf (o:Oper):List Nat:=(o.after.toList.filter (Region.binds .any ·)).map (·.on)
def cloGo (ops:Array Oper):Nat→List Nat→List Nat
 |0,s=>s
 |k+1,s=>cloGo ops k (if s.contains k then s++((ops[k]?).map waitsOf).getD [] else s)
theorem cloGo_listed {ops:Array Oper} {L:Nat→Prop}:∀ (n:Nat),(∀ k,k < n→∀ o,ops[k]? = some o→L k→∀ y∈waitsOf o,L y)→∀ s,(∀ y∈s,L y)→∀ y∈cloGo ops n s,L y
 |0,_,s,hs,y,hy=>hs y hy
 |k+1,h,s,hs,y,hy=>by
  refine cloGo_listed k (fun k' hk'=>h k' (by omega)) _ (fun z hz => ?_) y hy
  split at hz
  ·rename_i hc
   rcases List.mem_append.1 hz with hz | hz
   ·exact hs z hz
   ·cases ho:ops[k]? with
    |none=>rw [ho] at hz;cases hz
    |some o =>
     rw [ho] at hz
     exact h k (by omega) o ho (hs k (by simpa using hc)) z hz
  ·exact hs z hz
def cutAtT (ops:Array Oper) (p:Nat):Bool :=
 decide (p≤ops.size) && (ops.extract 0 p).all (fun o=>match o.guard with | none=>true | some (j,_)=>decide (j < p)) &&
 (List.range ops.size).all (fun i=>((ops[i]?).map fun o=>if i < p then (waitsOf o).all (fun y=>decide (y < i)) else let c:=cloGo ops i (waitsOf o);(List.range p).all fun j=>c.contains j).getD true) &&
 restOK ops (ops.size - p) p ((List.range ops.size).map fun i=>decide (i < p)).toArray
theorem restOK_moreG {F:Fence} {ops:Array Oper} (x:Nat):∀ (k i:Nat) (l:Array Bool) (a:Act) (w:World),restOK ops k i l=true→wpOpsIn F m P ops Q (List.range' i k) a w→wpAnyIn F m P .any ops Q (x+k) l a w
 |0,i,l,a,w,h,hh=>by
  have h0:Region.ready .any ops l=[]:=by simpa [restOK] using h
  cases x with
  |zero=>exact ⟨h0,hh⟩
  |succ x=>exact ⟨fun _=>hh,fun i hi=>by rw [h0] at hi;cases hi⟩
 |k+1,i,l,a,w,h,hh=>by
  simp only [restOK,Bool.and_eq_true,beq_iff_eq] at h
  refine ⟨fun hr=>(by rw [hr] at h;cases h.1),fun j hj => ?_⟩
  rw [h.1,List.mem_singleton] at hj
  subst hj
  simp only [List.range'_succ] at hh
  rw [wpOpsIn_cons] at hh
  exact wpOpIn_mono (fun a w hq=>restOK_moreG x k _ _ a w h.2 hq) hh
structure CutT (ops:Array Oper) (p:Nat) (la l:Array Bool):Prop where
 sla:la.size=p
 sl:l.size=ops.size
 front:∀ i,i < p→l[i]? = la[i]?
 back:∀ i,p≤i→i < ops.size→l[i]? = some false
 closed:∀ (i:Nat) (o:Oper),ops[i]? = some o→l.getD i false=true→∀ y∈waitsOf o,l.getD y false=true
section
variable {ops:Array Oper} {p:Nat} {la l:Array Bool} (hp:p≤ops.size)
 (hw:∀ i o,ops[i]? = some o→if i < p then ∀ e∈o.after,Region.binds .any e=true→e.on < i else ∀ j,j < p→j∈cloGo ops i (waitsOf o))
include hp hw
theorem cutT_ready (h:CutT ops p la l) {j:Nat} (hj:j < p) (hju:la[j]? = some false):Region.ready .any ops l=Region.ready .any (ops.extract 0 p) la:=by
 unfold Region.ready
 have hsz:(ops.extract 0 p).size=p:=by simp;omega
 rw [hsz]
 have hr:List.range ops.size=List.range p++List.range' p (ops.size - p):=by
  rw [List.range_eq_range',List.range_eq_range']
  have:=List.range'_append_1 (s:=0) (m:=p) (n:=ops.size - p)
  rw [Nat.zero_add] at this
  rw [this]
  congr 1;omega
 rw [hr,List.filter_append]
 have hb:(List.range' p (ops.size - p)).filter (fun i => !l.getD i true && ((ops[i]?).map (·.after.all fun e => !Region.binds .any e || l.getD e.on false)).getD false)=[]:=by
  rw [List.filter_eq_nil_iff]
  intro i hi
  have hi:=List.mem_range'_1.1 hi
  have hi1:p≤i:=hi.1
  have hi2:i < ops.size:=by omega
  have ho:ops[i]? = some ops[i]:=Array.getElem?_eq_getElem hi2
  have hwi:=hw i _ ho
  rw [if_neg (by omega)] at hwi
  rw [ho]
  simp only [Option.map_some,Option.getD_some,Bool.and_eq_true,not_and]
  intro _ hall
  have hall:=Array.all_eq_true'.1 hall
  have hL:=cloGo_listed (L:=fun y=>l.getD y false=true) (ops:=ops) i (fun k _ o ho hLk=>h.closed k o ho hLk) (waitsOf ops[i]) (fun y hy=>by
   simp only [waitsOf,List.mem_map,List.mem_filter,Array.mem_toList_iff] at hy
   obtain ⟨e,⟨he,hbe⟩,rfl⟩:=hy
   simpa [hbe] using hall e he) j (hwi j hj)
  rw [Array.getD_eq_getD_getElem?,h.front j hj,hju] at hL
  cases hL
 rw [hb,List.append_nil]
 refine List.filter_congr fun i hi => ?_
 have hi:=List.mem_range.1 hi
 have ho:ops[i]? = some (ops[i]'(by omega)):=Array.getElem?_eq_getElem (by omega)
 have hwi:=hw i _ ho
 rw [if_pos hi] at hwi
 have hoe:(ops.extract 0 p)[i]? = ops[i]? := by
  rw [Array.getElem?_extract]
  have:i < min p ops.size - 0:=by omega
  rw [if_pos this,Nat.zero_add]
 rw [hoe,ho]
 simp only [Option.map_some,Option.getD_some,Array.getD_eq_getD_getElem?,h.front i hi]
 congr 1
 rw [Bool.eq_iff_iff,Array.all_eq_true',Array.all_eq_true']
 refine forall_congr' fun e=>forall_congr' fun he => ?_
 cases hbe:Region.binds .any e with
 |false=>simp
 |true =>
  have:=hwi e he hbe
  rw [h.front e.on (by omega)]
theorem cutT_progress (h:CutT ops p la l) {j:Nat} (hj:j < p) (hju:la[j]? = some false):Region.ready .any (ops.extract 0 p) la≠[]:=by
 have hsz:(ops.extract 0 p).size=p:=by simp;omega
 have ex:∃ j,j < p∧la[j]? = some false∧∀ i,i < j→la[i]? = some true:=by
  induction j using Nat.strongRecOn with
  |_ j ih =>
   by_cases hx:∃ i,i < j∧la[i]? = some false
   ·obtain ⟨i,hi,hiu⟩:=hx
    exact ih i hi (by omega) hiu
   ·refine ⟨j,hj,hju,fun i hi => ?_⟩
    have hil:i < la.size:=by rw [h.sla];omega
    rw [Array.getElem?_eq_getElem hil]
    cases hb:la[i] with
    |true=>rfl
    |false=>exact absurd ⟨i,hi,by rw [Array.getElem?_eq_getElem hil,hb]⟩ hx
 obtain ⟨j,hj,hju,hmin⟩:=ex
 intro hnil
 have:j∈Region.ready .any (ops.extract 0 p) la:=by
  unfold Region.ready
  rw [List.mem_filter]
  refine ⟨List.mem_range.2 (by omega),?_⟩
  have ho:ops[j]? = some (ops[j]'(by omega)):=Array.getElem?_eq_getElem (by omega)
  have hwi:=hw j _ ho
  rw [if_pos hj] at hwi
  have hoe:(ops.extract 0 p)[j]? = ops[j]? := by
   rw [Array.getElem?_extract]
   have:j < min p ops.size - 0:=by omega
   rw [if_pos this,Nat.zero_add]
  rw [hoe,ho]
  simp only [Option.map_some,Option.getD_some,Bool.and_eq_true,Array.getD_eq_getD_getElem?,hju,Bool.not_false,true_and]
  rw [Array.all_eq_true']
  intro e he
  cases hbe:Region.binds .any e with
  |false=>rfl
  |true =>
   rw [hmin e.on (hwi e he hbe)];rfl
 rw [hnil] at this
 cases this
theorem cutT_sound {F:Fence} (hg:(ops.extract 0 p).all (fun o=>match o.guard with | none=>true | some (j,_)=>decide (j < p))=true) (hrest:restOK ops (ops.size - p) p ((List.range ops.size).map fun i=>decide (i < p)).toArray=true):∀ (k:Nat) (la l:Array Bool) (a:Act) (w:World),CutT ops p la l →
  wpAnyIn F m P .any (ops.extract 0 p) (midQ (wpOpsIn F m P ops Q (List.range' p (ops.size - p))) Q) k la a w→wpAnyIn F m P .any ops Q (k+(ops.size - p)) l a w:=by
 have hsz:(ops.extract 0 p).size=p:=by simp;omega
 have final:∀ (k:Nat) (la l:Array Bool) (a:Act) (w:World),CutT ops p la l→(¬ ∃ j,j < p∧la[j]? = some false)→wpOpsIn F m P ops Q (List.range' p (ops.size - p)) a w→wpAnyIn F m P .any ops Q (k+(ops.size - p)) l a w:=by
  intro k la l a w h hall hh
  have hl:l=((List.range ops.size).map fun i=>decide (i < p)).toArray:=by
   apply Array.ext_getElem?
   intro i
   by_cases hi:i < ops.size
   ·simp only [List.getElem?_toArray,List.getElem?_map,List.getElem?_range hi,Option.map_some]
    by_cases hip:i < p
    ·rw [h.front i hip]
     have hil:i < la.size:=by rw [h.sla];omega
     rw [Array.getElem?_eq_getElem hil]
     cases hb:la[i] with
     |true=>simp [hip]
     |false=>exact absurd ⟨i,hip,by rw [Array.getElem?_eq_getElem hil,hb]⟩ hall
    ·rw [h.back i (by omega) hi];simp [hip]
   ·have hls:=h.sl
    rw [Array.getElem?_eq_none (by omega),Array.getElem?_eq_none (by simp;omega)]
  rw [hl]
  exact restOK_moreG k _ _ _ a w hrest hh
 intro k
 induction k with
 |zero =>
  intro la l a w h hh
  refine final 0 la l a w h ?_ hh.2
  rintro ⟨j,hj,hju⟩
  exact cutT_progress hp hw h hj hju hh.1
 |succ k ih =>
  intro la l a w h hh
  by_cases hall:∃ j,j < p∧la[j]? = some false
  case neg =>
   have h0:Region.ready .any (ops.extract 0 p) la=[]:=by
    unfold Region.ready
    rw [List.filter_eq_nil_iff]
    intro i hi
    have hi:=List.mem_range.1 hi
    have hil:i < la.size:=by rw [h.sla];omega
    cases hb:la[i] with
    |true=>simp [Array.getD_eq_getD_getElem?,Array.getElem?_eq_getElem hil,hb]
    |false=>exact absurd ⟨i,by omega,by rw [Array.getElem?_eq_getElem hil,hb]⟩ hall
   exact final (k+1) la l a w h hall (hh.1 h0)
  obtain ⟨j,hj,hju⟩:=hall
  have h1:=cutT_progress hp hw h hj hju
  have h2:=cutT_ready hp hw h hj hju
  rw [show k+1+(ops.size - p)=(k+(ops.size - p))+1 by omega]
  refine ⟨fun hr=>absurd (h2 ▸ hr) h1,fun i hi => ?_⟩
  have hi':i∈Region.ready .any (ops.extract 0 p) la:=by rw [← h2];exact hi
  have hip:i < p:=by
   have:=List.mem_range.1 (List.mem_filter.1 hi').1
   omega
  have hI:CutT ops p (la.setIfInBounds i true) (l.setIfInBounds i true):=by
   have hready:∀ o,ops[i]? = some o→∀ y∈waitsOf o,l.getD y false=true:=fun o ho y hy=>by
    obtain ⟨_,o',ho',hall⟩:=mem_ready.1 hi
    rw [ho] at ho';cases ho'
    simp only [waitsOf,List.mem_map,List.mem_filter,Array.mem_toList_iff] at hy
    obtain ⟨e,⟨he,hbe⟩,rfl⟩:=hy
    exact hall e he hbe
   have hmono:∀ y,l.getD y false=true→(l.setIfInBounds i true).getD y false=true:=fun y hy=>by
    rw [Array.getD_eq_getD_getElem?,Array.getElem?_setIfInBounds]
    by_cases hiy:i=y
    ·subst hiy
     rw [Array.getD_eq_getD_getElem?] at hy
     split
     ·split
      ·rfl
      ·rename_i h1 h2
       rw [Array.getElem?_eq_none (by omega)] at hy
       cases hy
     ·exact hy
    ·rw [if_neg hiy,← Array.getD_eq_getD_getElem?];exact hy
   refine ⟨by simpa using h.sla,by simpa using h.sl,fun q hq => ?_,fun q hq hq' => ?_,fun q o ho hLq y hy => ?_⟩
   ·rw [Array.getElem?_setIfInBounds,Array.getElem?_setIfInBounds,h.front q hq]
    have e1:=h.sla
    have e2:=h.sl
    by_cases hiq:i=q
    ·subst hiq;rw [if_pos rfl,if_pos rfl,if_pos (by omega),if_pos (by omega)]
    ·rw [if_neg hiq,if_neg hiq]
   ·rw [Array.getElem?_setIfInBounds,if_neg (by omega)]
    exact h.back q hq hq'
   ·by_cases hiq:q=i
    ·subst hiq
     exact hmono y (hready o ho y hy)
    ·refine hmono y (h.closed q o ho ?_ y hy)
     rw [Array.getD_eq_getD_getElem?,Array.getElem?_setIfInBounds,if_neg (Ne.symm hiq),← Array.getD_eq_getD_getElem?] at hLq
     exact hLq
  have hs:=hh.2 i hi'
  unfold wpOpIn at hs ⊢
  have hget:∀ i,i < p→(ops.extract 0 p)[i]? = ops[i]? := fun i hip=>by
   rw [Array.getElem?_extract]
   have:i < min p ops.size - 0:=by omega
   rw [if_pos this,Nat.zero_add]
  have hgi:=hget i hip
  rw [hgi] at hs
  cases ho:ops[i]? with
  |none=>rw [ho] at hs;exact ih _ _ a w hI hs
  |some o =>
   rw [ho] at hs hgi
   have hw:Region.wanted o (yielded (ops.extract 0 p) a.tmps)=Region.wanted o (yielded ops a.tmps):=by
    have:=Array.all_eq_true'.1 hg o (Array.mem_of_getElem? hgi)
    unfold Region.wanted
    cases hgo:o.guard with
    |none=>rfl
    |some q =>
     obtain ⟨j,b⟩:=q
     rw [hgo] at this
     simp only [decide_eq_true_eq] at this
     simp only [yielded,hget j this]
   simp only [hw] at hs
   simp only
   split
   ·rename_i hw'
    rw [if_pos hw'] at hs
    exact Oper.wpIn_mono (fun a w hq=>ih _ _ a w hI hq) (oper_midQ hs)
   ·rename_i hw'
    rw [if_neg hw'] at hs
    exact ⟨hs.1,ih _ _ _ w hI hs.2⟩
end
theorem wpIn_cutT (hm:P.follows .mixedOrders=true) {F:Fence} {id p:Nat} {ops:Array Oper} {a:Act} {w:World} (h:cutAtT ops p=true)
  (hh:wpAnyIn F m P .any (ops.extract 0 p) (midQ (wpOpsIn F m P ops Q (List.range' p (ops.size - p))) Q) p (Array.replicate p false) a { w with drawn:=w.drawn+1 }):(Code.region id ops true).wpIn F m P Q a w:=by
 simp only [cutAtT,Bool.and_eq_true,decide_eq_true_eq] at h
 obtain ⟨⟨⟨h1,h2⟩,h3⟩,h4⟩:=h
 refine wpIn_region_any hm ?_
 have:=cutT_sound (P:=P) (Q:=Q) (m:=m) h1 (fun i o ho=>by
  have hi:=(Array.getElem?_eq_some_iff.1 ho).1
  have:=List.all_eq_true.1 h3 i (List.mem_range.2 hi)
  rw [ho] at this
  simp only [Option.map_some,Option.getD_some] at this
  split
  ·rename_i hip
   rw [if_pos hip,List.all_eq_true] at this
   intro e he hb
   have:=this e.on (by
    simp only [waitsOf,List.mem_map,List.mem_filter,Array.mem_toList_iff]
    exact ⟨e,⟨he,hb⟩,rfl⟩)
   simpa using this
  ·rename_i hip
   rw [if_neg hip] at this
   intro j hj
   have:=List.all_eq_true.1 this j (List.mem_range.2 hj)
   simpa using this) (F:=F) h2 h4 p (Array.replicate p false) (Array.replicate ops.size false) a _ ⟨by simp,by simp,fun i hi=>by
    rw [Array.getElem?_replicate,Array.getElem?_replicate,if_pos (by omega),if_pos hi],fun i hi hi'=>by rw [Array.getElem?_replicate,if_pos hi'],fun i o ho hL=>by
    rw [Array.getD_eq_getD_getElem?,Array.getElem?_replicate] at hL
    split at hL<;>cases hL⟩ hh
 rwa [show p+(ops.size - p)=ops.size by omega] at this
theorem cut_anewT (hG:Stable GI) (hm:P.follows .mixedOrders=true) {id:Nat} {ops:Array Oper} {p:Nat} (hcut:cutAtT ops p=true) (hnd:(ops.extract 0 p).all (fun o=>calmOp o.op)=true) (hok:dOK P n (ops.extract 0 p)=true)
  {l:List AOpr} (hl:compOps P n true (ops.extract 0 p)=l) (hsp:(ops.extract 0 p).size=p) {W:Nat→Bool} (hW:Writes (ops.extract 0 p) W=true) (hGw:GI w) (pr:Nat→Nat→Prop) (S:Slots)
  (hsz:a.tmps.size=n) (hds:a.defers=[]) (hS:∀ t,t < n→(S t).dem=S t∧RV pr noneA w (S t) (a.tmps.getD t undef)) {K:Slots→Boxes→Prop}
  (h:dops P GI l K (prol l S) (prolH l (fun _=>none)))
  (hk:∀ g S' H' a' w',g.old=Old.plain pr w→Rel P w n NoU g S' H' a' w'→K S' H'→Same W a a'→wpOpsIn (FR ro) m P ops Q (List.range' p (ops.size - p)) a' w') :
  (Code.region id ops true).wpIn (FR ro) m P Q a w:=by
 refine wpIn_cutT hm hcut ?_
 have key:=dregion_any (ro:=ro) (m:=m) (a:=a) (w:=w) hG hGw hm (old:=Old.plain pr w) (ops:=ops.extract 0 p) (Q:=assignQ K) hnd hok (fun _ _ _ _ h=>h) rfl (Rel.anew pr hsz hds hS) (by subst hl;exact h)
 rw [hsp] at key
 refine wpAnyIn_mono ?_ _ _ _ _ (wpAnyIn_frame hW _ _ _ _ key)
 intro e a' w' hq
 cases e with
 |normal =>
  obtain ⟨⟨g',S',H',h1,h2,h3⟩,h4⟩:=hq
  exact hk g' S' H' a' w' h1 h2 h3 h4
 |exit id=>obtain ⟨_,_,_,_,_,h⟩:=hq;exact h.elim
 |ret=>obtain ⟨_,_,_,_,_,h⟩:=hq;exact h.elim
 |panic ch=>obtain ⟨_,_,_,_,_,_,_,_,_,_,h⟩:=hq;exact h.elim
 |goto l=>exact hq.elim
 |outgrown=>exact hq.elim
end
end Go.AL
namespace Go.AL
open Go.RowKit
def RO {α:Type} (P:Program) (x:Sem α):Prop:=∀ w r w',x.run P w = .ok r w'→w'=w
def NK {α:Type} (P:Program) (x:Sem α):Prop:=∀ w r w',x.run P w ≠ .ok r w'
section
variable {P:Program} {α β:Type}
theorem RO.pure (a:α):RO P (Pure.pure a:Sem α):=fun w r w' h=>by
 have:(Pure.pure a:Sem α).run P w = .ok a w:=rfl
 rw [this] at h;cases h;rfl
theorem RO.bind {x:Sem α} {f:α→Sem β} (hx:RO P x) (hf:∀ a,RO P (f a)):RO P (x >>= f):=fun w r w' h=>by
 rw [Sem.run_bind] at h
 cases hr:x.run P w with
 |ok a w1 =>
  rw [hr] at h
  have h1:=hf a w1 r w' h
  rw [h1,hx w a w1 hr]
 |halt e w1=>rw [hr] at h;cases h
theorem NK.ro {x:Sem α} (h:NK P x):RO P x:=fun w r w' hh=>absurd hh (h w r w')
theorem NK.bind {x:Sem α} {f:α→Sem β} (hf:∀ a,NK P (f a)):NK P (x >>= f):=fun w r w' h=>by
 rw [Sem.run_bind] at h
 cases hr:x.run P w with
 |ok a w1=>rw [hr] at h;exact hf a w1 r w' h
 |halt e w1=>rw [hr] at h;cases h
theorem NK.bindL {x:Sem α} {f:α→Sem β} (hx:NK P x):NK P (x >>= f):=fun w r w' h=>by
 rw [Sem.run_bind] at h
 cases hr:x.run P w with
 |ok a w1=>exact hx w a w1 hr
 |halt e w1=>rw [hr] at h;cases h
theorem NK.halt (e:Halt):NK P (.halt e:Sem α):=fun w r w' h=>by cases h
theorem RO.load (m:Mode) (a:Addr):RO P (.load m a .pure):=fun w r w' h=>by
 simp only [Sem.run] at h
 split at h
 ·cases h;rfl
 ·split at h
  ·cases h;rfl
  ·cases h
theorem RO.underlying (t:TypeId):RO P (Go.underlying t):=fun w r w' h=>by
 simp only [Go.underlying,program] at h
 rw [Sem.run_bind] at h
 simp only [Sem.run,Result.andThen] at h
 split at h
 ·cases h;rfl
 ·cases h
theorem RO.typeInfo (t:TypeId):RO P (Go.typeInfo t):=fun w r w' h=>by
 simp only [Go.typeInfo,program] at h
 rw [Sem.run_bind] at h
 simp only [Sem.run,Result.andThen] at h
 split at h
 ·cases h;rfl
 ·cases h
theorem RO.sizeOf (t:TypeId):RO P (Go.sizeOf t):=(RO.typeInfo t).bind fun _=>RO.pure _
theorem RO.isAgg (t:TypeId):RO P (Go.isAgg t):=(RO.underlying t).bind fun d=>by split<;>exact RO.pure _
theorem RO.loadCellsFrom (a:Addr):∀ (n i:Nat) (acc:Array Value),RO P (Go.loadCellsFrom a i n acc)
 |0,_,_=>RO.pure _
 |n+1,i,acc=>(RO.load _ _).bind fun _=>RO.loadCellsFrom a n _ _
theorem RO.loadVar (t:TypeId) (a:Addr):RO P (Go.loadVar t a):=by
 unfold Go.loadVar
 refine (RO.isAgg t).bind fun b => ?_
 cases b
 ·exact RO.load _ _
 ·exact (RO.sizeOf t).bind fun n=>(RO.loadCellsFrom a n 0 #[]).bind fun _=>RO.pure _
theorem RO.sureAddr (v:Value):RO P (Instr.sureAddr v):=by
 unfold Instr.sureAddr
 split
 ·exact RO.pure _
 ·exact (NK.halt _).ro
theorem RO.loadAt (t:TypeId) (v:Value):RO P (Instr.loadAt t v):=(RO.sureAddr v).bind fun a=>RO.loadVar t a
theorem RO.asIntOf (v:Value):RO P (Go.asIntOf v):=by
 unfold Go.asIntOf
 split
 ·exact RO.pure _
 ·exact (NK.halt _).ro
 ·exact (NK.halt _).ro
theorem NK.bounds (k:IntKind) (x y:Int) (c:BoundsCode):NK P (boundsPanic k x y c:Sem α):=by
 have h:∀ s:Bool,NK P (runtimePanic (.bounds (IntKind.i64.wrap x) y s c):Sem α):=fun s=>NK.bind fun p=>NK.halt _
 unfold boundsPanic
 dsimp only
 split
 ·exact NK.bind h
 ·exact NK.bind h
theorem RO.indexAt (t:TypeId) (x ix:Value):RO P (Instr.indexAt t x ix):=by
 have key:∀ (k:IntKind) (i:Int) (b:Option Addr) (len:Nat) (elem:TypeId),RO P (do
   let d ← Go.underlying t
   let tiny:Bool:=decide (len≤1) && (match d with | .array .. => true | _=>false)
   match b with
   |some a =>
    if 0≤i∧i < (len:Int) then do
     let sz ← Go.sizeOf elem
     Pure.pure (Value.pointer (some (a.add (i.toNat * sz))))
    else if tiny=true then unsupported (Unsupported.noEntry "op/indexAddr.an index out of range at an array of length 0 or 1 (ledger 616)")
    else boundsPanic k i len BoundsCode.index
   |none=>boundsPanic k i 0 BoundsCode.index):=by
  intro k i b len elem
  refine (RO.underlying t).bind fun d => ?_
  cases b with
  |some a =>
   simp only
   split
   ·exact (RO.sizeOf _).bind fun _=>RO.pure _
   ·generalize (decide (len≤1) && _)=tn
    cases tn
    ·exact (NK.bounds _ _ _ _).ro
    ·exact (NK.halt _).ro
  |none=>exact (NK.bounds _ _ _ _).ro
 unfold Instr.indexAt
 refine (RO.asIntOf ix).bind fun ⟨k,i⟩ => ?_
 refine (RO.underlying t).bind fun d => ?_
 dsimp only
 split
 ·exact (RO.sureAddr _).bind fun _=>(RO.pure _).bind fun ⟨base,len,elem⟩=>key k i base len elem
 ·exact (RO.pure _).bind fun ⟨base,len,elem⟩=>key k i base len elem
 ·exact (NK.bindL (NK.halt _)).ro
theorem ro_op {ρ:Operand→Value} {o:Oper} (h:match o.op with | .move _ | .assign _ | .load .. | .indexAddr .. => true | _=>false):RO P (execOp ρ o):=by
 unfold execOp
 split at h<;>try cases h
 ·rename_i x e;simp only [e];exact RO.pure _
 ·rename_i x e;simp only [e];exact RO.pure _
 ·rename_i t x e;simp only [e];exact (RO.loadAt _ _).bind fun _=>RO.pure _
 ·rename_i t x ix e;simp only [e];exact (RO.indexAt _ _ _).bind fun _=>RO.pure _
theorem ro_val {ρ:Operand→Value} {o:Oper} (h:match o.op with | .move _ | .assign _ | .load .. | .indexAddr .. => true | _=>false) {w w':World} {x:Next} (hr:(execOp ρ o).run P w = .ok x w'):w'=w∧∃ v,x = .value v:=by
 refine ⟨ro_op h w x w' hr,?_⟩
 have key:∀ (s:Sem Value),(do let v ← s;pure (Next.value v):Sem Next).run P w = .ok x w'→∃ v,x = .value v:=fun s hs=>by
  rw [Sem.run_bind] at hs
  cases hq:s.run P w with
  |ok a w1=>rw [hq] at hs;cases hs;exact ⟨_,rfl⟩
  |halt e w1=>rw [hq] at hs;cases hs
 unfold execOp at hr
 split at h<;>try cases h
 ·rename_i x e;simp only [e] at hr;cases hr;exact ⟨_,rfl⟩
 ·rename_i x e;simp only [e] at hr;cases hr;exact ⟨_,rfl⟩
 ·rename_i t x e;simp only [e] at hr;exact key _ hr
 ·rename_i t x ix e;simp only [e] at hr;exact key _ hr
end
section
variable {P:Program} {ops ops':Array Oper} {Q:Exit→Act→World→Prop} {m:Nat}
structure SameR (ops ops':Array Oper):Prop where
 size:ops'.size=ops.size
 each:∀ (i:Nat) (o:Oper),ops[i]? = some o→∃ o',ops'[i]? = some o'∧o'.dst=o.dst∧o'.after=o.after∧o'.guard=none∧o.guard=none
theorem SameR.ready (h:SameR ops ops') (l:Array Bool):Region.ready .any ops' l=Region.ready .any ops l:=by
 unfold Region.ready
 rw [h.size]
 refine List.filter_congr fun i hi => ?_
 have hi:=List.mem_range.1 hi
 obtain ⟨o',ho',_,ha,_⟩:=h.each i _ (Array.getElem?_eq_getElem hi)
 rw [ho',Array.getElem?_eq_getElem hi]
 simp only [Option.map_some,Option.getD_some,ha]
theorem wpAnyIn_swap (hsame:SameR ops ops') (I:Array Bool→Act→World→Prop)
  (hstep:∀ (i:Nat) (o o':Oper) (l:Array Bool) (a:Act) (w:World),ops[i]? = some o→ops'[i]? = some o'→l.size=ops.size→l.getD i true=false→I l a w→(∀ e∈o.after,Region.binds .any e=true→l.getD e.on false=true) →
   (o.semAt none a.eval).run P w=(o'.semAt none a.eval).run P w∧((∀ a' w',I (l.setIfInBounds i true) a' w') ∨
    ∀ x w',(o.semAt none a.eval).run P w = .ok x w'→∃ v,x = .value v∧I (l.setIfInBounds i true) (a.put o.dst v) w')) :
  ∀ (fuel:Nat) (l:Array Bool) (a:Act) (w:World),l.size=ops.size→I l a w→wpAnyIn (FR none) m P .any ops' Q fuel l a w→wpAnyIn (FR none) m P .any ops Q fuel l a w:=by
 intro fuel
 induction fuel with
 |zero =>
  intro l a w _ _ h
  exact ⟨(hsame.ready l) ▸ h.1,h.2⟩
 |succ fuel ih =>
  intro l a w hl hI h
  refine ⟨fun hr=>h.1 (by rw [hsame.ready];exact hr),fun i hi => ?_⟩
  have h1:=h.2 i (by rw [hsame.ready];exact hi)
  obtain ⟨hun,o,ho,hall⟩:=mem_ready.1 hi
  obtain ⟨o',ho',hd,ha,hg',hg⟩:=hsame.each i o ho
  obtain ⟨he,hx⟩:=hstep i o o' l a w ho ho' hl hun hI hall
  have hl':(l.setIfInBounds i true).size=ops.size:=by simpa using hl
  have hw:Region.wanted o (yielded ops a.tmps)=true:=by simp [Region.wanted,hg]
  have hw':Region.wanted o' (yielded ops' a.tmps)=true:=by simp [Region.wanted,hg']
  simp only [wpOpIn,ho',hw',if_true] at h1
  simp only [wpOpIn,ho,hw,if_true]
  have hu:∀ K r,o'.uponIn (FR none) m P a K Q r=o.uponIn (FR none) m P a K Q r:=fun K r=>by unfold Oper.uponIn;rw [hd]
  have h2:o.wpIn (FR none) m P a w (wpAnyIn (FR none) m P .any ops' Q fuel (l.setIfInBounds i true)) Q:=by
   refine ⟨fun _ _=>trivial,?_⟩
   have h3:=h1.2
   rw [hu] at h3
   change o.uponIn (FR none) m P a _ Q ((o'.semAt none a.eval).run P w) at h3
   change o.uponIn (FR none) m P a _ Q ((o.semAt none a.eval).run P w)
   rw [he];exact h3
  rcases hx with hx | hx
  ·exact Oper.wpIn_mono (fun a' w' hh=>ih _ _ _ hl' (hx a' w') hh) h2
  ·refine ⟨h2.1,?_⟩
   have h3:=h2.2
   change o.uponIn (FR none) m P a _ Q ((o.semAt none a.eval).run P w) at h3
   change o.uponIn (FR none) m P a _ Q ((o.semAt none a.eval).run P w)
   cases hr:(o.semAt none a.eval).run P w with
   |ok x w' =>
    rw [hr] at h3
    obtain ⟨v,rfl,hv⟩:=hx x w' hr
    simp only [Oper.uponIn_value] at h3 ⊢
    exact ih _ _ _ hl' hv h3
   |halt x w' =>
    rw [hr] at h3
    cases x<;>exact h3
def retell (h:Nat→Op→Op) (ops:Array Oper):Array Oper:=ops.mapIdx fun i o=>{ o with op:=h i o.op }
theorem retell_get (h:Nat→Op→Op) (i:Nat):(retell h ops)[i]? = (ops[i]?).map fun o=>{ o with op:=h i o.op }:=by
 simp [retell]
theorem retell_same (h:Nat→Op→Op) (hg:ops.all (fun o=>o.guard.isNone)=true):SameR ops (retell h ops):=by
 refine ⟨by simp [retell],fun i o ho=>⟨{ o with op:=h i o.op },by rw [retell_get,ho];rfl,rfl,rfl,?_,?_⟩⟩
 all_goals
  have:=Array.all_eq_true'.1 hg o (Array.mem_of_getElem? ho)
  simpa using this
end
section
variable {P:Program} {GI:World→Prop} {n:Nat} {ops ops':Array Oper} {S:Slots} {H:Boxes}
theorem SW.swapD (hG:Stable GI) (hm:P.follows .mixedOrders=true) {old:Old} {Q:Post} {id:Nat} (hsame:SameR ops ops') (hnd:ops'.all (fun o=>calmOp o.op)=true) (hok:dOKX P n ops' ops'.size ops'.size (List.range ops'.size)=true)
  {l:List AOpr} (hl:compOps P n true ops'=l)
  (hI:∀ (w0:World) (g:Gh) (a:Act) (w:World),g.old=old→Rel P w0 n NoU g S H a w→∃ I:Array Bool→Act→World→Prop,I (Array.replicate ops.size false) a { w with drawn:=w.drawn+1 } ∧
   ∀ (i:Nat) (o o':Oper) (l:Array Bool) (a:Act) (w:World),ops[i]? = some o→ops'[i]? = some o'→l.size=ops.size→l.getD i true=false→I l a w→(∀ e∈o.after,Region.binds .any e=true→l.getD e.on false=true) →
    (o.semAt none a.eval).run P w=(o'.semAt none a.eval).run P w∧((∀ a' w',I (l.setIfInBounds i true) a' w') ∨
     ∀ x w',(o.semAt none a.eval).run P w = .ok x w'→∃ v,x = .value v∧I (l.setIfInBounds i true) (a.put o.dst v) w'))
  (h:dops P GI l (fun S H=>Q .normal old S H) S H):SW P GI n none (.region id ops true) Q old S H:=by
 subst hl
 intro w0 g a w m hG0 ho R
 simp only [dOKX,Bool.and_eq_true,decide_eq_true_eq] at hok
 obtain ⟨⟨⟨⟨q1,q2⟩,q3⟩,q4⟩,q5⟩:=hok
 have hno:∀ j o d z,aAt P n ops' j=some o→allocOf o=some (d,z)→False:=fun j o d z hj hz=>by
  rw [← compOps_get] at hj
  have:=List.all_eq_true.1 q3 o (List.mem_of_getElem? hj)
  unfold allocOf at hz
  split at hz
  ·rename_i h _;rw [h] at this;cases this
  ·cases hz
 have R0:Rel P w0 n NoU g S H a { w with drawn:=w.drawn+1 }:=R.grow' ((Below.refl _ w).drew)
 have hU:UU P n ops' (Array.replicate ops'.size false)=NoU:=by
  funext t
  simp only [UU,NoU,eq_iff_iff,iff_false]
  rintro ⟨j,o,z,k1,k2,_⟩
  exact hno j o t z k1 k2
 obtain ⟨I,i0,hstep⟩:=hI w0 g a w ho R
 refine wpIn_region_any hm (wpAnyIn_swap hsame I hstep ops.size _ a _ (by simp) i0 ?_)
 rw [← hsame.size]
 refine wpAnyIn_mono (Q:=QQ P w0 n old (Q.awp old)) (fun _ _ _ hq=>QS_of_QQ hq) _ _ _ _ (wpAny_in hnd QQ_noOut _ _ _ _ (any_wp (Q:=Q.awp old) (old:=old) hG hG0 q2 (fun o hoo => ?_) ops'.size (Array.replicate ops'.size false) g S H a _ (by simp) ho (by rw [hU];exact R0) (fun j o d z k1 k2 k3=>(hno j o d z k1 k2).elim) ?_))
 ·simp only [compOps,List.all_map,List.all_eq_true,Function.comp] at q1
  exact q1 o (by simpa using hoo)
 ·have:=anyA_lexX (P:=P) (GI:=GI) (n:=n) (md := .any) (ops:=ops') (QA:=Q.awp old .normal) (p:=ops'.size) (q:=ops'.size) (List.range ops'.size) (Array.replicate ops'.size false) S H q5 ?_
  ·rw [q4] at this;exact this
  ·have:=dopsX_pre (P:=P) (GI:=GI) (al:=compOps P n true ops') (p:=ops'.size) (q:=ops'.size) (K:=Q.awp old .normal) (r:=[]) (List.range ops'.size) (compOps P n true ops') (by
    apply List.ext_getElem?
    intro k
    by_cases hk:k < ops'.size
    ·simp [hk,compOps]
    ·simp [hk,compOps]) (fun k hk=>by have:=List.mem_range.1 hk;omega) (S:=S) (H:=H) (dops_monoX (fun S H h=>h) _ _ _ h)
   simpa using this
end
end Go.AL
