/-
  A part of the proof.
-/
import Derived.Below
import Derived.Orders
import Derived.Still
import Derived.KernelRfl
import Derived.Laws.AppendOwn
import Derived.ChangeKeysEq
import Derived.Laws.StructEq
import Derived.Laws.Concat
import Derived.Laws.Strings2
import Derived.Great.BuildSlice
import Derived.Great.FillDense
import Derived.Laws.OwnMore
import Derived.Laws.IdiomStrings
import Derived.Laws.BytesArg
import Derived.WideKeyRuns
import Derived.Maps.Own
import Derived.ControlIn
import Derived.OrdersIn
import Derived.RangeFuncRecord
import Derived.RangeFuncIn
import Derived.RangeFuncLeaves
import Derived.Laws.RangeString
import Derived.Defers
import Derived.Recover
import Derived.Tactics
import Derived.Tactics2
import Derived.Laws.Pointers
import Derived.Deep.OwnRows
import Derived.Lib.AppendIntMem
import Derived.ChangeSlices
import Derived.ChangeArms
import Derived.ChangeShapes
import Derived.WideShapes
import Derived.Shelf.Vars
import Derived.ProofKit
import Derived.OpenShut
import Derived.LaidMore
import Derived.Lay
import Derived.SevenTiedAt
import Derived.Stop.Joined
import Derived.MakeChecks
set_option maxRecDepth 100000
set_option maxHeartbeats 8000000
set_option linter.all false
set_option linter.unusedVariables false
set_option linter.unusedSimpArgs false
set_option linter.deprecated false
namespace Go
def ae9:=@List.getElem?_eq_getElem
def ae_:=@List.getElem_mem
def afa:=@Bool.and_eq_true
def afb:=@Array.getElem?_setIfInBounds_ne
def afc:=@Go.wpIn_seq
def afd:=@List.take_succ_eq_append_getElem
def afe:=@Array.getElem?_eq_some_iff
def aff:=@decide_eq_true_eq
def afg:=@Nat.le_refl
def afh:=@List.take_of_length_le
def afi:=@List.length_map
def afj:=@Bool.false_eq_true
def afk:=@List.mem_cons_of_mem
def afl:=@List.getElem_map
def afm:=@List.length_append
def afn:=@List.getElem?_eq_none
def afo:=@Option.some.inj
def afp:=@List.mem_map
def afq:=@Go.wpIn_region
def afr:=@List.mem_append
def afs:=@List.mem_singleton
def aft:=@List.mem_cons_self
def afu:=@List.map_append
def afv:=@List.map_cons
def afw:=@List.map_toArray
def afx:=@if_false
def afy:=@List.foldl_append
def afz:=@List.getElem_append_left
def afA:=@List.getD_eq_getElem?_getD
def afB:=@List.map_nil
def afC:=@List.all_eq_true
def afD:=@List.getElem_of_mem
def afE:=@List.mem_range
def afF:=@Go.wpIn_cond
def afG:=@List.getElem?_map
def afH:=@if_true
def afI:=@Nat.lt_of_lt_of_le
def afJ:=@List.length_take
def afK:=@Nat.zero_le
def afL:=@List.append_nil
def afM:=@List.range_succ
def afN:=@beq_eq_false_iff_ne
def afO:=@Go.World.alloc_heap_new
def afP:=@List.length_pos_iff
def afQ:=@Ne.symm
def afR:=@List.eq_nil_of_length_eq_zero
def afS:=@List.take_length
def afT:=@Bool.not_eq_true'
def afU:=@List.mem_cons
def afV:=@List.mem_of_mem_take
def afW:=@Go.Sem.run_bind
def afX:=@Option.map_eq_some_iff
def afY:=@beq_iff_eq
def afZ:=@Bool.eq_iff_iff
def af0:=@List.getElem?_eq_some_iff
def af1:=@List.map_map
def af2:=@List.getElem_append_right
def af3:=@Go.wpIn_block
def af4:=@Go.setRow_other
def af5:=@Option.bind_eq_some_iff
def af6:=@Nat.zero_add
def af7:=@Go.wpIn_skip
def af8:=@List.sum_append
def af9:=@Int.le_refl
def af_:=@List.pairwise_iff_getElem
def aga:=@Go.RowKit.Below.refl
def agb:=@List.any_eq_false
def agc:=@Int.mul_nonneg
def agd:=@List.append_assoc
def age:=@Bool.or_eq_true
def agf:=@Nat.mul_one
def agh:=@Int.mul_le_mul
def agi:=@List.map_congr_left
def agj:=@Nat.add_sub_cancel
def agk:=@Option.some.injEq
def agl:=@Array.getD_eq_getD_getElem?
def agm:=@List.flatMap_append
def agn:=@Go.run_underlying
def ago:=@decide_eq_true
def agp:=@Array.ext
def agq:=@Go.setRow_heap
def agr:=@List.range'_succ
def ags:=@List.drop_eq_getElem_cons
def agt:=@List.getLast?_eq_none_iff
def agu:=@Nat.le_trans
def agv:=@Array.eq_empty_of_size_eq_zero
def agw:=@List.find?_eq_none
def agx:=@List.drop_eq_nil_of_le
def agy:=@List.pairwise_append
def agz:=@List.pairwise_cons
def agA:=@List.take_append_drop
def agB:=@List.mem_of_getElem?
def agC:=@List.mem_of_mem_drop
def agD:=@decide_eq_false_iff_not
def agE:=@of_decide_eq_true
def agF:=@List.flatMap_singleton
def agG:=@Bool.and_eq_false_iff
def agH:=@decide_eq_false
def agI:=@List.mem_range'_1
def agJ:=@List.length_filter_le
def agK:=@Go.wpIn_ret
def agL:=@List.range'_concat
def agM:=@List.pairwise_singleton
def agN:=@List.length_drop
def agO:=@Go.callsD_of_wpS
def agP:=@List.flatMap_cons
def agQ:=@Array.getElem?_eq_getElem
def agR:=@List.getElem?_take_of_lt
def agS:=@List.take_succ
def agT:=@Go.wpIn_exit
def agU:=@Bool.true_and
def agV:=@List.drop_drop
def agW:=@List.range_eq_range'
def agX:=@List.mem_append_left
def agY:=@decide_false
def agZ:=@decide_true
def ag0:=@Go.wpS_region
def ag1:=@String.toList_ofList
def ag2:=@List.any_eq_true
def ag3:=@List.drop_append_of_le_length
def ag4:=@Int.toNat_of_nonneg
def ag5:=@List.drop_length
def ag6:=@Nat.mul_comm
def ag7:=@List.length_eq_zero_iff
def ag8:=@List.mem_of_find?_eq_some
def ag9:=@List.getElem_take
def ag_:=@Go.wpS_of_wp
def aha:=@Go.callsIn_of_wp
def ahb:=@List.ext_getElem
def ahc:=@List.cons.injEq
def ahd:=@List.all_eq_false
def ahe:=@List.getElem?_set
def ahf:=@Go.World.cells?_some
def ahg:=@List.range'_append_1
def ahh:=@List.mem_flatMap
def ahi:=@Nat.sub_self
def ahj:=@List.length_erase_of_mem
def ahk:=@List.length_filterMap_le
def ahl:=@List.getElem?_append_left
def ahm:=@Go.calls_of_wp
def ahn:=@Go.Addr.add_lit
def aho:=@Nat.mul_le_mul_right
def ahp:=@List.flatMap_eq_nil_iff
def ahq:=@Go.wpIn_loop
def ahr:=@List.getElem?_append_right
def ahs:=@not_true_eq_false
def aht:=@List.contains_eq_mem
def ahu:=@Go.results_tmp
def ahv:=@Go.leaves_cons
def ahw:=@List.pairwise_lt_range
def ahx:=@List.length_pos_of_mem
def ahy:=@Go.wpS_seq
def ahz:=@Nat.eq_of_beq_eq_true
def ahA:=@List.getElem?_drop
def ahB:=@Nat.lt_or_ge
def ahC:=@List.getLast?_append
def ahD:=@List.mem_of_getLast?
def ahE:=@List.mem_erase_of_ne
def ahF:=@Nat.div_lt_of_lt_mul
def ahG:=@Array.getElem?_toList
def ahH:=@List.nodup_cons
def ahI:=@Nat.lt_irrefl
def ahJ:=@Bool.and_true
def ahK:=@List.drop_succ_cons
def ahL:=@List.filter_flatMap
def ahM:=@Array.mem_of_getElem?
def ahN:=@Bool.or_eq_false_iff
def ahO:=@Go.calls_of_wp_defers
def ahP:=@Nat.le_of_lt
def ahQ:=@Nat.succ_lt_succ
def ahR:=@Nat.add_mul
def ahS:=@Go.RowKit.Below.heap_alloc
def ahT:=@decide_eq_decide
def ahU:=@Nat.add_assoc
def ahV:=@List.map_take
def ahW:=@List.ext_getElem?
def ahX:=@Nat.not_lt_zero
def ahY:=@Go.World.cell?_of_block
def ahZ:=@Go.World.block_lt_of_cell?
def ah0:=@List.map_drop
def ah1:=@Bool.not_false
def ah2:=@Array.getElem?_append
def ah3:=@Bool.not_eq_true
def ah4:=@Go.wpIn_mono
def ah5:=@List.mem_or_eq_of_mem_set
def ah6:=@Go.Oper.semAt_eq
def ah7:=@Nat.eq_zero_or_pos
def ah8:=@List.mem_filterMap
def ah9:=@bne_iff_ne
def ah_:=@and_true
def aia:=@Go.World.putObj_heap_other
def aib:=@List.mem_append_right
def aic:=@Go.World.putObj_heap_same
def aid:=@Go.wpIn_region_any
def aie:=@Array.any_eq_true'
def aif:=@List.mem_map_of_mem
def aih:=@Nat.div_add_mod
def aii:=@Nat.mul_le_mul
def aij:=@Prod.mk.injEq
def aik:=@List.getElem_drop
def ail:=@Nat.succ_mul
def aim:=@List.getElem_set
def ain:=@Nat.zero_mul
def aio:=@Nat.mod_lt
def aip:=@Array.all_eq_true'
def aiq:=@Nat.le_of_ble_eq_true
def air:=@List.all_map
def ais:=@Go.run_build
def ait:=@List.length_set
def aiu:=@true_and
def aiv:=@Array.getElem_append_left
def aiw:=@Go.MapKept.run_getObj_map
def aix:=@Go.fenced_calm
def aiy:=@List.size_toArray
def aiz:=@Go.mem_ready
def aiA:=@Array.getElem_append_right
def aiB:=@Go.getD_set_ne
def aiC:=@Option.isSome_iff_exists
def aiD:=@Array.setIfInBounds_comm
def aiE:=@List.getElem?_take
def aiF:=@eq_iff_iff
def aiG:=@Go.ready_mono
def aiH:=@Go.run_storeCells_at
def aiI:=@Classical.not_not
def aiJ:=@Array.getElem?_eq_none
def aiK:=@Array.getElem?_extract
def aiL:=@Array.toList_map
def aiM:=@Go.CallsIn.mono
def aiN:=@Go.RoundIn.mono
def aiO:=@Go.heap_alloc_new
def aiP:=@List.take_left
def aiQ:=@Go.Oper.wpIn_mono
def aiR:=@Array.getElem?_setIfInBounds
def aiS:=@Go.RowsIn.mono
def aiT:=@Go.StepsIn.trans
def aiU:=@Go.wp_mono
def aiV:=@Nat.div_eq_of_lt
def aiW:=@false_or
def aiX:=@Go.MapKept.run_setObj_map
def aiY:=@List.getElem?_toArray
def aiZ:=@List.getElem_set_self
def ai0:=@Nat.ble_eq_true_of_le
def ai1:=@List.getElem?_of_mem
def ai2:=@List.getElem?_set_ne
def ai3:=@Array.toList_append
def ai5:=@List.getElem_set_ne
def ai7:=@Array.empty_append
def ai8:=@Array.append_empty
def ai9:=@Go.stepR_inLoop
end Go
namespace Go.Proofs.Tram
end Go.Proofs.Tram
namespace Go.AL
inductive Ow where
 |view|nil|own (e:Nat)
 deriving DecidableEq
inductive AV where
 |bool (b:Bool)
 |JJ
 |int (k:IntKind) (n:Int)
 |str (l:List UInt8)
 |slice (o:Ow) (es:List AV)
 |agg (cs:List AV)
 |d_ (vs:List AV)
 |ref (cs:List AV)
 |Ui
 |iface (t:TypeId) (v:AV)
 |Tv
 |map (ks vs:List AV)
 |box (i off:Nat)
 |func (fn:Fn) (first cap:List AV)
 |uL (fs:List AV)
 |val (c:Value)
 |bB
namespace AV
def cells:AV->List AV
 |.agg cs=>cs
 |v=>[v]
def aI:AV->AV
 |.slice (.own _) es=>.slice .view es
 |v=>v
def cm:AV->AV
 |.slice _ es=>.slice .view es
 |v=>v
def vw:AV->AV
 |.agg cs=>.agg (cs.map cm)
 |v=>v.cm
def bU:AV->Bool
 |.box ..|.func ..|.uL _|.bB=>false
 |_=>true
def one:AV->Bool
 |.agg _|.d_ _=>false
 |_=>true
def storable:AV->Bool
 |.box ..|.func ..|.uL _|.bB|.d_ _=>false
 |_=>true
end AV
inductive RD(Pr:Nat->Nat->Prop)(w:World):AV->Value->Prop
 |bool (b:Bool):RD Pr w (.bool b) (.bool b)
 |JJ (b:Bool):RD Pr w .JJ (.bool b)
 |int (k:IntKind) (n:Int):RD Pr w (.int k n) (.int k n)
 |str (l:List UInt8):RD Pr w (.str l) (.string ⟨l.toArray⟩)
 |qw (o:Ow):RD Pr w (.slice o []) (.slice none 0 0)
 |sF (o:Ow) (a:Addr):RD Pr w (.slice o []) (.slice (some a) 0 0)
 |slice (o:Ow) (es:List AV) (b off cap size:Nat) (cs:Nat→Value) (iV:es.length≤cap) (hn:o = .nil→cap=0)
   (bL:∀i (h:i<es.length),(es[i]).cells.length=size) (h1:∀i (h:i<es.length) j (hj:j<(es[i]).cells.length),((es[i]).cells[j]).one=true)
   (hc:∀k,k<es.length*size->Pr b (off+k)/\w.cell? ⟨b,off+k,none⟩=some (cs k))
   (hr:∀i (h:i<es.length) j (hj:j<(es[i]).cells.length),RD Pr w ((es[i]).cells[j]) (cs (i*size+j))):
   RD Pr w (.slice o es) (.slice (some ⟨b,off,none⟩) es.length cap)
 |agg (cs:List AV) (vs:Array Value) (hl:cs.length=vs.size) (h1:∀ i (h:i < cs.length),(cs[i]).one=true)
   (hr:∀i (h:i<cs.length)(h':i<vs.size),RD Pr w cs[i] vs[i]):RD Pr w (.agg cs) (.agg vs)
 |d_ (cs:List AV) (vs:Array Value) (hl:cs.length=vs.size)
   (hr:∀i (h:i<cs.length)(h':i<vs.size),RD Pr w cs[i] vs[i]):RD Pr w (.d_ cs) (.tuple vs)
 |ref (cs:List AV) (b off:Nat) (vs:Nat→Value) (h1:∀ i (h:i < cs.length),(cs[i]).one=true)
   (hc:∀k,k<cs.length->Pr b (off+k)/\w.cell? ⟨b,off+k,none⟩=some (vs k))
   (hr:∀k (h:k<cs.length),RD Pr w cs[k] (vs k)):RD Pr w (.ref cs) (.pointer (some ⟨b,off,none⟩))
 |map (ks vs:List AV) (b:Nat) (es:Array MapEntry) (clock:Nat) (hb:Pr b 0) (hm:w.heap[b]? = some (.map es clock)) (hk:ks.length=es.size) (hv:vs.length=es.size)
   (hr:∀i (h:i<ks.length)(h':i<es.size),RD Pr w ks[i] (es[i]).key) (kh:∀i (h:i<vs.length)(h':i<es.size),RD Pr w vs[i] (es[i]).val):RD Pr w (.map ks vs) (.map (some b))
 |WL:RD Pr w (.map [] []) (.map none)
 |Ui:RD Pr w .Ui (.pointer none)
 |iface (t:TypeId) (v:AV) (c:Value) (h:RD Pr w v c):RD Pr w (.iface t v) (.iface t c)
 |Tv:RD Pr w .Tv .nilIface
 |val (c:Value) (h:c.oneCell'=true):RD Pr w (.val c) c
inductive RV(Pr:Nat->Nat->Prop)(al:Nat->Option Nat)(w:World):AV->Value->Prop
 |data (v:AV) (c:Value) (h:RD Pr w v c):RV Pr al w v c
 |box (i off b:Nat) (h:al i=some b):RV Pr al w (.box i off) (.pointer (some ⟨b,off,none⟩))
 |func (fn:Fn) (first cap:List AV) (vs us:Array Value) (h1:first.length=vs.size) (h2:cap.length=us.size)
   (AZ:∀i (h:i<first.length)(h':i<vs.size),RV Pr al w first[i] vs[i])
   (Tc:∀i (h:i<cap.length)(h':i<us.size),RV Pr al w cap[i] us[i]):RV Pr al w (.func fn first cap) (.func fn vs us)
 |uL (fs:List AV) (vs:Array Value) (h1:fs.length=vs.size) (hr:∀i (h:i<fs.length)(h':i<vs.size),RV Pr al w fs[i] vs[i]):RV Pr al w (.uL fs) (.agg vs)
 |bB (c:Value):RV Pr al w .bB c
structure bz(Pr fl:Nat->Nat->Prop)(w w':World):Prop where
 cell:∀b k,Pr b k->∀u,w.cell? ⟨b,k,none⟩=some u->fl b k/\w'.cell? ⟨b,k,none⟩=some u
 map:∀b,Pr b 0->∀es c,w.heap[b]?=some (.map es c)->fl b 0/\w'.heap[b]?=some (.map es c)
theorem bz.jV{Pr fl:Nat->Nat->Prop}{w w':World}(h:∀b,b<w.heap.size->w'.heap[b]?=w.heap[b]?)(hp:∀b k,b<w.heap.size->Pr b k->fl b k):bz Pr fl w w':={
 cell b k hb u hu:=by
  have aw:=ahZ _ _ hu;exact⟨hp b k aw hb,by rw[ahY (w:=w) (h b aw)];exact hu⟩
 map b hb es c hm:=by
  have aw:=(afe.1 hm).1
  exact⟨hp b 0 aw hb,by rw[h b aw];exact hm⟩ }
theorem bz.trans{Pr fl adS:Nat->Nat->Prop}{w w' yT:World}(h:bz Pr fl w w')(h':bz fl adS w' yT):bz Pr adS w yT:={
 cell b k hp u hu:=h'.cell b k (h.cell b k hp u hu).1 u (h.cell b k hp u hu).2
 map b hp es c hm:=h'.map b (h.map b hp es c hm).1 es c (h.map b hp es c hm).2 }
theorem bz.pX{Pr:Nat->Nat->Prop}{w w':World}(h:∀b k,b<w.heap.size->Pr b k->w'.heap[b]?=w.heap[b]?):bz Pr Pr w w':={
 cell b k hb u hu:=⟨hb,by rw[ahY (w:=w) (h b k (ahZ _ _ hu) hb)];exact hu⟩
 map b hb es c hm:=⟨hb,by rw[h b 0 (afe.1 hm).1 hb];exact hm⟩ }
theorem bz.same{Pr fl:Nat->Nat->Prop}{w:World}(hp:∀b k,b<w.heap.size->Pr b k->fl b k):bz Pr fl w w:=bz.jV (λ_ _=>rfl) hp
theorem RD.mono {Pr fl:Nat→Nat→Prop} {w w':World} {v:AV} {c:Value} (h:RD Pr w v c)
  (hp:bz Pr fl w w'):RD fl w' v c:=by
 induction h with
 |bool b=>exact .bool b
 |JJ b=>exact .JJ b
 |int k n=>exact .int k n
 |str l=>exact .str l
 |qw o=>exact .qw o
 |sF o a=>exact .sF o a
 |slice o es b off cap size cs iV hn bL h1 hc _ ih=>
  exact .slice o es b off cap size cs iV hn bL h1 (λk hk=>hp.cell _ _ (hc k hk).1 _ (hc k hk).2) ih
 |agg cs vs hl h1 _ ih=>exact .agg cs vs hl h1 ih
 |d_ cs vs hl _ ih=>exact .d_ cs vs hl ih
 |ref cs b off vs h1 hc _ ih=>exact .ref cs b off vs h1 (λk hk=>hp.cell _ _ (hc k hk).1 _ (hc k hk).2) ih
 |map ks vs b es clock hb hm hk hv _ _ ih ih'=>exact .map ks vs b es clock (hp.map b hb es clock hm).1 (hp.map b hb es clock hm).2 hk hv ih ih'
 |WL=>exact .WL
 |Ui=>exact .Ui
 |iface t v c _ ih=>exact .iface t v c ih
 |Tv=>exact .Tv
 |val c h=>exact .val c h
theorem RV.mono {Pr fl:Nat→Nat→Prop} {al al':Nat→Option Nat} {w w':World} {v:AV} {c:Value} (h:RV Pr al w v c)
  (hp:bz Pr fl w w')
  (ha:∀i b,al i=some b->al' i=some b):RV fl al' w' v c:=by
 induction h with
 |data v c h=>exact .data v c (h.mono hp)
 |box i off b h=>exact .box i off b (ha i b h)
 |func fn first cap vs us h1 h2 _ _ ih1 ih2=>exact .func fn first cap vs us h1 h2 ih1 ih2
 |uL fs vs h1 _ ih=>exact .uL fs vs h1 ih
 |bB c=>exact .bB c
theorem RD.bU{Pr:Nat->Nat->Prop}{w:World}{v:AV}{c:Value}(h:RD Pr w v c):v.bU=true:=by
 cases h<;>rfl
theorem RV.j_{Pr:Nat->Nat->Prop}{al:Nat->Option Nat}{w:World}{v:AV}{c:Value}(h:RV Pr al w v c)(hd:v.bU=true):RD Pr w v c:=by
 cases h with
 |data v c h=>exact h
 |box i off b h=>cases hd
 |func=>cases hd
 |uL=>cases hd
 |bB c=>cases hd
theorem RD.aI{Pr:Nat->Nat->Prop}{w:World}{v:AV}{c:Value}(h:RD Pr w v c):RD Pr w v.aI c:=by
 cases h with
 |qw o=>cases o<;>exact .qw _
 |sF o a=>cases o<;>exact .sF _ a
 |slice o es b off cap size cs iV hn bL h1 hc hr=>
  cases o with
  |own e=>exact .slice _ es b off cap size cs iV (λh=>by cases h) bL h1 hc hr
  |view=>exact .slice _ es b off cap size cs iV hn bL h1 hc hr
  |nil=>exact .slice _ es b off cap size cs iV hn bL h1 hc hr
 |bool b=>exact .bool b
 |JJ b=>exact .JJ b
 |int k n=>exact .int k n
 |str l=>exact .str l
 |agg cs vs hl h1 hr=>exact .agg cs vs hl h1 hr
 |d_ cs vs hl hr=>exact .d_ cs vs hl hr
 |ref cs b off vs h1 hc hr=>exact .ref cs b off vs h1 hc hr
 |map ks vs b es clock hb hm hk hv hr kh=>exact .map ks vs b es clock hb hm hk hv hr kh
 |WL=>exact .WL
 |Ui=>exact .Ui
 |iface t v c h=>exact .iface t v c h
 |Tv=>exact .Tv
 |val c h=>exact .val c h
theorem RV.aI{Pr:Nat->Nat->Prop}{al:Nat->Option Nat}{w:World}{v:AV}{c:Value}(h:RV Pr al w v c):RV Pr al w v.aI c:=by
 cases h with
 |data v c h=>exact .data _ _ h.aI
 |box i off b h=>exact .box i off b h
 |func fn first cap vs us h1 h2 r1 r2=>exact .func fn first cap vs us h1 h2 r1 r2
 |uL fs vs h1 hr=>exact .uL fs vs h1 hr
 |bB c=>exact .bB c
theorem RD.cells {Pr:Nat→Nat→Prop} {w:World} {v:AV} {c:Value} (h:RD Pr w v c) :
  v.cells.length=c.cells.size/\∀i (h:i<v.cells.length)(h':i<c.cells.size),RD Pr w v.cells[i] c.cells[i]:=by
 cases h with
 |agg cs vs hl h1 hr=>exact⟨hl,hr⟩
 |bool b=>exact⟨rfl,λi h _=>by simp[AV.cells]at h;subst h;exact .bool b⟩
 |JJ b=>exact⟨rfl,λi h _=>by simp[AV.cells]at h;subst h;exact .JJ b⟩
 |int k n=>exact⟨rfl,λi h _=>by simp[AV.cells]at h;subst h;exact .int k n⟩
 |str l=>exact⟨rfl,λi h _=>by simp[AV.cells]at h;subst h;exact .str l⟩
 |qw o=>exact⟨rfl,λi h _=>by simp[AV.cells]at h;subst h;exact .qw o⟩
 |sF o a=>exact⟨rfl,λi h _=>by simp[AV.cells]at h;subst h;exact .sF o a⟩
 |slice o es b off cap size cs iV hn bL h1 hc hr=>exact⟨rfl,λi h _=>by simp[AV.cells]at h;subst h;exact .slice o es b off cap size cs iV hn bL h1 hc hr⟩
 |d_ cs vs hl hr=>exact⟨rfl,λi h _=>by simp[AV.cells]at h;subst h;exact .d_ cs vs hl hr⟩
 |ref cs b off vs h1 hc hr=>exact⟨rfl,λi h _=>by simp[AV.cells]at h;subst h;exact .ref cs b off vs h1 hc hr⟩
 |map ks vs b es clock hb hm hk hv hr kh=>exact⟨rfl,λi h _=>by simp[AV.cells]at h;subst h;exact .map ks vs b es clock hb hm hk hv hr kh⟩
 |WL=>exact⟨rfl,λi h _=>by simp[AV.cells]at h;subst h;exact .WL⟩
 |Ui=>exact⟨rfl,λi h _=>by simp[AV.cells]at h;subst h;exact .Ui⟩
 |iface t v c hh=>exact⟨rfl,λi h _=>by simp[AV.cells]at h;subst h;exact .iface t v c hh⟩
 |Tv=>exact⟨rfl,λi h _=>by simp[AV.cells]at h;subst h;exact .Tv⟩
 |val c hc=>
  have ER:c.cells=#[c]:=by cases c<;>first|rfl|cases hc
  exact⟨by rw[ER];rfl,λi h h'=>by simp[AV.cells]at h;subst h;simp only[ER];exact .val c hc⟩
theorem RD.one{Pr:Nat->Nat->Prop}{w:World}{v:AV}{c:Value}(h:RD Pr w v c)(h1:v.one=true):c.oneCell'=true:=by
 cases h<;>first|rfl|(cases h1;done)|assumption
theorem RD.cells_one{Pr:Nat->Nat->Prop}{w:World}{v:AV}{c:Value}(h:RD Pr w v c)(h1:v.storable=true):∀i (h:i<v.cells.length),(v.cells[i]).one=true:=by
 cases h with
 |agg cs vs hl ho hr=>exact ho
 |d_=>cases h1
 |_=>intro i hi;simp[AV.cells]at hi;subst hi;rfl
theorem AV.Ti(v:AV):v.aI.one=v.one:=by
 cases v<;>try rfl
 rename_i o es;cases o<;>rfl
theorem AV.adr(v:AV):v.cm.one=v.one:=by cases v<;>rfl
theorem AV.idem(v:AV):v.aI.aI=v.aI:=by
 cases v<;>try rfl
 rename_i o es;cases o<;>rfl
theorem RD.cm{Pr:Nat->Nat->Prop}{w:World}{v:AV}{c:Value}(h:RD Pr w v c):RD Pr w v.cm c:=by
 cases h with
 |qw o=>exact .qw _
 |sF o a=>exact .sF _ a
 |slice o es b off cap size cs iV hn bL h1 hc hr=>exact .slice _ es b off cap size cs iV (λh=>by cases h) bL h1 hc hr
 |bool b=>exact .bool b
 |JJ b=>exact .JJ b
 |int k n=>exact .int k n
 |str l=>exact .str l
 |agg cs vs hl h1 hr=>exact .agg cs vs hl h1 hr
 |d_ cs vs hl hr=>exact .d_ cs vs hl hr
 |ref cs b off vs h1 hc hr=>exact .ref cs b off vs h1 hc hr
 |map ks vs b es clock hb hm hk hv hr kh=>exact .map ks vs b es clock hb hm hk hv hr kh
 |WL=>exact .WL
 |Ui=>exact .Ui
 |iface t v c h=>exact .iface t v c h
 |Tv=>exact .Tv
 |val c h=>exact .val c h
theorem RD.vw{Pr:Nat->Nat->Prop}{w:World}{v:AV}{c:Value}(h:RD Pr w v c):RD Pr w v.vw c:=by
 cases h with
 |agg cs vs hl h1 hr=>
  refine .agg _ vs (by simpa using hl) (λi hi=>?_) (λi hi gq=>?_)
  .simp only[afi]at hi;have:=h1 i hi;simp only[afl];generalize cs[i]=u at this
   cases u<;>first|rfl|cases this
  .simp only[afi]at hi;simp only[afl];exact(hr i hi gq).cm
 |qw o=>exact .qw _
 |sF o a=>exact .sF _ a
 |slice o es b off cap size cs iV hn bL h1 hc hr=>exact .slice _ es b off cap size cs iV (λh=>by cases h) bL h1 hc hr
 |bool b=>exact .bool b
 |JJ b=>exact .JJ b
 |int k n=>exact .int k n
 |str l=>exact .str l
 |d_ cs vs hl hr=>exact .d_ cs vs hl hr
 |ref cs b off vs h1 hc hr=>exact .ref cs b off vs h1 hc hr
 |map ks vs b es clock hb hm hk hv hr kh=>exact .map ks vs b es clock hb hm hk hv hr kh
 |WL=>exact .WL
 |Ui=>exact .Ui
 |iface t v c h=>exact .iface t v c h
 |Tv=>exact .Tv
 |val c h=>exact .val c h
theorem AV.K7{v:AV}(h:v.storable=true):v.bU=true:=by cases v<;>first|rfl|cases h
end Go.AL
namespace Go.AL
open Go.RowKit
abbrev aF:=Nat->AV
abbrev aK:=Nat->Option (List AV)
def av{α:Type}(f:Nat->α)(i:Nat)(x:α):Nat->α:=λj=>if j=i then x else f j
theorem bm{α:Type}(f:Nat->α)(i:Nat)(x:α):av f i x i=x:=by simp[av]
theorem cN{α:Type}(f:Nat->α){i j:Nat}(x:α)(h:j≠i):av f i x j=f j:=by simp[av,h]
inductive Loc where
 |slot (t:Nat)|cell (i j:Nat)
 deriving DecidableEq
def sy(d:Nat):AV->Bool
 |.box i _=>i==d
 |.func ..|.uL _=>true
 |_=>false
def cE(d:Nat):AV->AV
 |.box i o=>if i=d then .bB else .box i o
 |.func fn first cap=>if first.any (sy d)||cap.any (sy d)then .bB else .func fn first cap
 |.uL _=>.bB
 |v=>v
def adB:AV->Bool
 |.func ..|.uL _=>false
 |_=>true
def flat:AV->Bool
 |.func _ first cap=>first.all adB&&cap.all adB
 |.uL _=>false
 |_=>true
structure Old where
 c:Nat->Nat->Prop
 facts:List (AV×Value)
 bx:Nat->Prop
 ds:List Deferred
 bI:Nat->Option Obj
 sp:Nat->Nat->Prop
 sw:World
 ok:∀p∈facts,flat p.1=true/\∀d,¬bx d->cE d p.1=p.1
def Old.plain(c:Nat->Nat->Prop)(w:World):Old:={ c:=c,facts:=[],bx:=λ_=>False,ds:=[],bI:=λ_=>none,sp:=λ_ _=>False,sw:=w,ok:=λ_ h=>by cases h }
structure Gh where
 base:Nat
 old:Old
 al:Nat->Option Nat
 hi:Nat->Nat
 owner:Nat->Option Loc
def Gh.Pr(g:Gh)(b k:Nat):Prop:=(b<g.base/\g.old.c b k)\/(g.base<=b/\k<g.hi b)
def A2(P:Program)(w:World)(g:Gh)(loc:Loc):AV->Value->Prop
 |.slice (.own e) es,c=>∃i xs b,P.info? e=some i/\w.ownsRow g.base e i.size c es.length xs/\c.ownBlock=some b/\g.owner b=some loc/\g.hi b=es.length*i.size
 |_,_=>True
structure Rel(P:Program)(w0:World)(n:Nat)(U:Nat->Prop)(g:Gh)(S:aF)(H:aK)(a:Act)(w:World):Prop where
 size:a.tmps.size=n
 defers:a.defers=g.old.ds
 facts:∀p∈g.old.facts,RV g.Pr g.al w p.1 p.2
 slot:∀t,t<n->¬U t->RV g.Pr g.al w (S t) (a.tmps.getD t undef)
 own:∀t,t<n->¬U t->A2 P w g (.slot t) (S t) (a.tmps.getD t undef)
 box:∀i b,g.al i=some b->∃cs vs ty,H i=some cs/\g.base<=b/\w.heap[b]?=some (.cells vs ty (0,0))/\g.hi b=0/\g.owner b=none/\cs.length=vs.size/\
  (∀j (h:j<cs.length)(h':j<vs.size),RD g.Pr w cs[j] vs[j])/\(∀j (h:j<cs.length)(h':j<vs.size),A2 P w g (.cell i j) cs[j] vs[j])/\∀j (h:j<cs.length),(cs[j]).one=true
 Cf:∀i cs,H i=some cs->¬U i->(g.al i).isSome
 BB:∀i,U i->g.al i=none
 inj:∀i j b,g.al i=some b->g.al j=some b->i=j
 base:g.base=w0.heap.size
 below:Below g.base w0 w
 fresh:∀b,w.heap.size<=b->g.hi b=0/\g.owner b=none
 still:bz g.old.sp g.Pr g.old.sw w
 grown:g.old.sw.heap.size<=w.heap.size
 kept:∀b o,g.old.bI b=some o->g.base<=b/\w.heap[b]?=some o/\g.hi b=0/\g.owner b=none/\∀i,g.al i≠some b
theorem A2.bI {P:Program} {w w':World} {g g':Gh} {loc:Loc} {v:AV} {c:Value} (h:A2 P w g loc v c) (hb:g'.base=g.base)
  (hk:∀b,g.owner b=some loc->w'.heap[b]?=w.heap[b]?/\g'.hi b=g.hi b/\g'.owner b=some loc):A2 P w' g' loc v c:=by
 unfold A2 at*
 split at h
 .obtain⟨i,xs,b,h1,h2,h3,h4,h5⟩:=h;obtain⟨k1,k2,k3⟩:=hk b h4;refine⟨i,xs,b,h1,?_,h3,k3,by rw[k2];exact h5⟩;rw[hb];refine⟨h2.1,?_⟩
  rcases h2.2 with hn|⟨gg,cap,cur,rfl,Ju,yM,rest⟩
  .exact .inl hn
  .have:gg=b:=by simpa[Value.ownBlock]using h3
   subst this;exact .inr ⟨gg,cap,cur,rfl,Ju,by rw[k1];exact yM,rest⟩
 .trivial
theorem A2.aI{P:Program}{w:World}{g:Gh}{loc:Loc}{v:AV}{c:Value}:A2 P w g loc v.aI c:=by
 cases v<;>try trivial
 rename_i o es
 cases o<;>trivial
theorem Rel.ext {P:Program} {w0:World} {n:Nat} {U:Nat→Prop} {g g':Gh} {S:aF} {H:aK} {a:Act} {w w':World} (R:Rel P w0 n U g S H a w)
  (oL:g'.base=g.base) (hold:g'.old=g.old) (sC:g'.al=g.al)
  (gG:bz g.Pr g'.Pr w w')
  (aeH:∀i b,g.al i=some b->w'.heap[b]?=w.heap[b]?/\g'.hi b=g.hi b/\g'.owner b=g.owner b)
  (h_:∀b loc,g.owner b=some loc->w'.heap[b]?=w.heap[b]?/\g'.hi b=g.hi b/\g'.owner b=some loc)
  (adH:Below g.base w0 w') (Dg:∀b,w'.heap.size<=b->g'.hi b=0/\g'.owner b=none)
  (ng:∀b o,g.old.bI b=some o->w.heap[b]?=some o->w'.heap[b]?=some o/\g'.hi b=g.hi b/\g'.owner b=g.owner b) (aed:w.heap.size<=w'.heap.size):Rel P w0 n U g' S H a w':={
 size:=R.size
 defers:=by rw[hold];exact R.defers
 facts p hp:=(R.facts p (by rw[<-hold];exact hp)).mono gG (by rw[sC];exact λ_ _ h=>h)
 slot t ht hu:=(R.slot t ht hu).mono gG (by rw[sC];exact λ_ _ h=>h)
 own t ht hu:=(R.own t ht hu).bI oL λb hb=>h_ b _ hb
 box i b hi:=by
  rw[sC]at hi;obtain⟨cs,vs,ty,h1,h2,h3,h4,h5,h6,h7,h8,h9⟩:=R.box i b hi;obtain⟨k1,k2,k3⟩:=aeH i b hi;refine⟨cs,vs,ty,h1,by rw[oL];exact h2,by rw[k1];exact h3,by rw[k2];exact h4,by rw[k3];exact h5,h6,?_,?_,h9⟩
  .exact λj hj fj=>(h7 j hj fj).mono gG
  .exact λj hj fj=>(h8 j hj fj).bI oL λb hb=>h_ b _ hb
 Cf i cs h hu:=by rw[sC];exact R.Cf i cs h hu
 BB i h:=by rw[sC];exact R.BB i h
 inj i j b h h':=by rw[sC]at h h';exact R.inj i j b h h'
 base:=by rw[oL];exact R.base
 below:=by rw[oL];exact adH
 fresh:=Dg
 still:=by rw[hold];exact R.still.trans gG
 grown:=by rw[hold];exact agu R.grown aed
 kept b o h:=by
  rw[hold]at h;obtain⟨k1,k2,k3,k4,k5⟩:=R.kept b o h;obtain⟨e1,e2,e3⟩:=ng b o h k2
  exact⟨by rw[oL];exact k1,e1,by rw[e2];exact k3,by rw[e3];exact k4,by rw[sC];exact k5⟩ }
theorem Rel.grow {P:Program} {w0:World} {n:Nat} {U:Nat→Prop} {g g':Gh} {S:aF} {H:aK} {a:Act} {w w':World} (R:Rel P w0 n U g S H a w)
  (hb:Below w.heap.size w w') (oL:g'.base=g.base) (hold:g'.old=g.old) (sC:g'.al=g.al)
  (hg:∀b,b<w.heap.size->g'.hi b=g.hi b/\g'.owner b=g.owner b) (Dg:∀b,w'.heap.size<=b->g'.hi b=0/\g'.owner b=none):Rel P w0 n U g' S H a w':=by
 have hle:g.base<=w.heap.size:=by rw[R.base];exact R.below.size
 refine R.ext oL hold sC ?_ ?_ ?_ ?_ Dg ?_ hb.size
 .refine bz.jV (λb aw=>hb.block b aw) λb k aw hp=>?_
  unfold Gh.Pr at*
  rw[oL,hold,(hg b aw).1];exact hp
 .intro i b hi;obtain⟨cs,vs,ty,h1,h2,h3,_⟩:=R.box i b hi;have aw:b<w.heap.size:=(afe.1 h3).1;exact⟨hb.block b aw,hg b aw⟩
 .intro b loc ho
  have aw:b<w.heap.size:=by
   rcases ahB b w.heap.size with h|h
   .exact h
   .rw[(R.fresh b h).2]at ho;cases ho
  exact⟨hb.block b aw,(hg b aw).1,by rw[(hg b aw).2];exact ho⟩
 .exact R.below.trans (hb.mono hle)
 .intro b o _ ho;have aw:b<w.heap.size:=(afe.1 ho).1;exact⟨by rw[hb.block b aw];exact ho,hg b aw⟩
theorem Rel.mw {P:Program} {w0:World} {n:Nat} {U:Nat→Prop} {g:Gh} {S:aF} {H:aK} {a:Act} {w w':World} (R:Rel P w0 n U g S H a w)
  (hb:Below w.heap.size w w'):Rel P w0 n U g S H a w':=
 R.grow hb rfl rfl rfl (λ_ _=>⟨rfl,rfl⟩) (λb h=>R.fresh b (agu hb.size h))
theorem ji(a:Act)(d t:Nat)(c:Value)(hd:d<a.tmps.size):(a.put (some d) c).tmps.getD t undef=if t=d then c else a.tmps.getD t undef:=by
 simp only[Act.put]
 by_cases h:t=d
 .subst h;simp[hd]
 .simp[h,afb (afQ h)]
theorem Rel.put {P:Program} {w0:World} {n:Nat} {U:Nat→Prop} {g:Gh} {S:aF} {H:aK} {a:Act} {w:World} (R:Rel P w0 n U g S H a w)
  (d:Nat) (v:AV) (c:Value) (hd:d<n) (hv:RV g.Pr g.al w v c) (ho:A2 P w g (.slot d) v c):Rel P w0 n U g (av S d v) H (a.put (some d) c) w:={
 size:=by simp[Act.put,R.size]
 defers:=R.defers
 facts:=R.facts
 slot t ht hu:=by
  rw[ji a d t c (by rw[R.size];exact hd)]
  by_cases h:t=d
  .subst h;simp only[bm,afH];exact hv
  .rw[cN S v h,if_neg h];exact R.slot t ht hu
 own t ht hu:=by
  rw[ji a d t c (by rw[R.size];exact hd)]
  by_cases h:t=d
  .subst h;simp only[bm,afH];exact ho
  .rw[cN S v h,if_neg h];exact R.own t ht hu
 box:=R.box
 Cf:=R.Cf
 BB:=R.BB
 inj:=R.inj
 base:=R.base
 below:=R.below
 fresh:=R.fresh
 still:=R.still
 grown:=R.grown
 kept:=R.kept }
def aY(S:aF):Option Nat->AV->aF
 |some d,v=>av S d v
 |none,_=>S
theorem Rel.aY {P:Program} {w0:World} {n:Nat} {U:Nat→Prop} {g:Gh} {S:aF} {H:aK} {a:Act} {w:World} (R:Rel P w0 n U g S H a w)
  (d:Option Nat) (v:AV) (c:Value) (hd:∀t,d=some t->t<n) (hv:RV g.Pr g.al w v c) (ho:∀t,d=some t->A2 P w g (.slot t) v c):Rel P w0 n U g (aY S d v) H (a.put d c) w:=by
 cases d with
 |none=>exact R
 |some t=>exact R.put t v c (hd t rfl) hv (ho t rfl)
theorem Rel.weaken {P:Program} {w0:World} {n:Nat} {U:Nat→Prop} {g:Gh} {S:aF} {H:aK} {a:Act} {w:World} (R:Rel P w0 n U g S H a w)
  (S':aF) (h:∀t,t<n->¬U t->∀c,RV g.Pr g.al w (S t) c->A2 P w g (.slot t) (S t) c->RV g.Pr g.al w (S' t) c/\A2 P w g (.slot t) (S' t) c):Rel P w0 n U g S' H a w:={
 size:=R.size
 defers:=R.defers
 facts:=R.facts
 slot t ht hu:=(h t ht hu _ (R.slot t ht hu) (R.own t ht hu)).1
 own t ht hu:=(h t ht hu _ (R.slot t ht hu) (R.own t ht hu)).2
 box:=R.box
 Cf:=R.Cf
 BB:=R.BB
 inj:=R.inj
 base:=R.base
 below:=R.below
 fresh:=R.fresh
 still:=R.still
 grown:=R.grown
 kept:=R.kept }
def AV.OJ:AV->Prop
 |.slice (.own _) _=>False
 |_=>True
instance(v:AV):Decidable v.OJ:=by unfold AV.OJ;split<;>infer_instance
theorem AV.T7(v:AV):v.aI.OJ:=by
 cases v<;>try trivial
 rename_i o es
 cases o<;>trivial
theorem A2.OJ{P:Program}{w w':World}{g g':Gh}{loc YV:Loc}{v:AV}{c:Value}(h:A2 P w g loc v c)(hn:v.OJ):A2 P w' g' YV v c:=by
 cases v<;>try trivial
 rename_i o es
 cases o with
 |view=>trivial
 |nil=>trivial
 |own e=>simp[AV.OJ]at hn
theorem Rel.aaI {P:Program} {w0:World} {n:Nat} {U:Nat→Prop} {g:Gh} {S:aF} {H:aK} {a:Act} {w:World} (R:Rel P w0 n U g S H a w)
  (loc:Loc) (YV:Option Loc) (hS:∀t,loc=.slot t->t<n->¬U t->(S t).OJ)
  (hH:∀i j cs,loc=.cell i j->H i=some cs->∀h:j<cs.length,(cs[j]).OJ):
  Rel P w0 n U { g with owner:=λb=>if g.owner b=some loc then YV else g.owner b } S H a w:={
 size:=R.size
 defers:=R.defers
 facts:=R.facts
 slot:=R.slot
 own t ht hu:=by
  by_cases h:loc=.slot t
  .exact(R.own t ht hu).OJ (hS t h ht hu)
  .refine(R.own t ht hu).bI rfl λb hb=>⟨rfl,rfl,?_⟩
   show(if g.owner b=some loc then YV else g.owner b)=_;rw[if_neg (by rw[hb];intro e;exact h (afo e).symm)];exact hb
 box i b hi:=by
  obtain⟨cs,vs,ty,h1,h2,h3,h4,h5,h6,h7,h8,h9⟩:=R.box i b hi;refine⟨cs,vs,ty,h1,h2,h3,h4,?_,h6,h7,?_,h9⟩
  .show(if g.owner b=some loc then YV else g.owner b)=none;rw[h5];simp
  .intro j hj fj
   by_cases h:loc=.cell i j
   .exact(h8 j hj fj).OJ (hH i j cs h h1 hj)
   .refine(h8 j hj fj).bI rfl λb hb=>⟨rfl,rfl,?_⟩
    show(if g.owner b=some loc then YV else g.owner b)=_;rw[if_neg (by rw[hb];intro e;exact h (afo e).symm)];exact hb
 Cf:=R.Cf
 BB:=R.BB
 inj:=R.inj
 base:=R.base
 below:=R.below
 fresh b hb:=by
  refine⟨(R.fresh b hb).1,?_⟩;show(if g.owner b=some loc then YV else g.owner b)=none;rw[(R.fresh b hb).2];simp
 still:=R.still
 grown:=R.grown
 kept b o h:=by
  obtain⟨k1,k2,k3,k4,k5⟩:=R.kept b o h;refine⟨k1,k2,k3,?_,k5⟩;show(if g.owner b=some loc then YV else g.owner b)=none
  rw[k4];simp }
theorem RV.sy {Pr:Nat→Nat→Prop} {al al':Nat→Option Nat} {w:World} {v:AV} {c:Value} {d:Nat} (h:RV Pr al w v c) (hs:sy d v=false)
  (ha:∀i b,i≠d->al i=some b->al' i=some b):RV Pr al' w v c:=by
 cases h with
 |data v c h=>exact .data _ _ h
 |box i off b h=>exact .box i off b (ha i b (by simpa[Go.AL.sy]using hs) h)
 |func=>simp[Go.AL.sy]at hs
 |uL=>simp[Go.AL.sy]at hs
 |bB c=>exact .bB c
theorem RV.cE {Pr:Nat→Nat→Prop} {al al':Nat→Option Nat} {w:World} {v:AV} {c:Value} (d:Nat) (h:RV Pr al w v c)
  (ha:∀i b,i≠d->al i=some b->al' i=some b):RV Pr al' w (cE d v) c:=by
 cases h with
 |data v c h=>
  have:Go.AL.cE d v=v:=by cases h<;>rfl
  rw[this];exact .data _ _ h
 |box i off b h=>
  simp only[Go.AL.cE];split
  .exact .bB _
  .rename_i hi;exact .box i off b (ha i b hi h)
 |func fn first cap vs us h1 h2 r1 r2=>
  simp only[Go.AL.cE];split
  .exact .bB _
  .rename_i hn;simp only[age,not_or,ah3,agb]at hn;exact .func fn first cap vs us h1 h2 (λi h h'=>(r1 i h h').sy (by simpa using hn.1 _ (ae_ h)) ha) (λi h h'=>(r2 i h h').sy (by simpa using hn.2 _ (ae_ h)) ha)
 |uL=>exact .bB _
 |bB c=>exact .bB c
theorem ZT(P:Program)(w:World)(g:Gh)(loc:Loc)(d:Nat)(v:AV)(c:Value)(h:A2 P w g loc v c):A2 P w g loc (cE d v) c:=by
 cases v<;>try exact h
 .simp only[cE];split<;>trivial
 .simp only[cE];split<;>trivial
theorem Rel.suspend {P:Program} {w0:World} {n:Nat} {U:Nat→Prop} {g:Gh} {S:aF} {H:aK} {a:Act} {w:World} (R:Rel P w0 n U g S H a w)
  (d:Nat) (ib:¬g.old.bx d) (v:AV) (cs:List AV):
  Rel P w0 n (λt=>U t\/t=d) { g with al:=av g.al d none } (av (λt=>cE d (S t)) d v) (av H d (some cs)) a w:={
 size:=R.size
 defers:=R.defers
 facts p hp:=by
  have h:=(R.facts p hp).cE (al':=av g.al d none) d λi b hi h=>by rw[cN _ _ hi];exact h
  rw[(g.old.ok p hp).2 d ib]at h;exact h
 slot t ht hu:=by
  simp only[not_or]at hu;rw[cN _ _ hu.2]
  refine(R.slot t ht hu.1).cE d λi b hi h=>?_
  show av g.al d none i=some b;rw[cN _ _ hi];exact h
 own t ht hu:=by
  simp only[not_or]at hu;rw[cN _ _ hu.2];exact ZT _ _ _ _ _ _ _ (R.own t ht hu.1)
 box i b hi:=by
  by_cases h:i=d
  .subst h;simp[av]at hi
  .simp only[cN _ _ h]at hi;obtain⟨kd,vs,ty,h1,rest⟩:=R.box i b hi;exact⟨kd,vs,ty,by rw[cN _ _ h];exact h1,rest⟩
 Cf i kd h hu:=by
  simp only[not_or]at hu;rw[cN _ _ hu.2]at h;simp only[cN _ _ hu.2];exact R.Cf i kd h hu.1
 BB i h:=by
  show av g.al d none i=none
  by_cases hi:i=d
  .subst hi;simp[av]
  .rw[cN _ _ hi];exact R.BB i (h.resolve_right hi)
 inj i j b h h':=by
  have e:∀k,(av g.al d none) k=some b->g.al k=some b:=by
   intro k hk
   by_cases hkd:k=d
   .subst hkd;simp[av]at hk
   .rwa [cN _ _ hkd]at hk
  exact R.inj i j b (e i h) (e j h')
 base:=R.base
 below:=R.below
 fresh:=R.fresh
 still:=R.still
 grown:=R.grown
 kept b o h:=by
  obtain⟨k1,k2,k3,k4,k5⟩:=R.kept b o h;refine⟨k1,k2,k3,k4,λi=>?_⟩;show av g.al d none i≠some b
  by_cases hi:i=d
  .subst hi;simp[av]
  .rw[cN _ _ hi];exact k5 i }
theorem Rel.aa' {P:Program} {w0:World} {n:Nat} {U:Nat→Prop} {g:Gh} {S:aF} {H:aK} {a:Act} {w:World} (R:Rel P w0 n U g S H a w)
  (d:Nat) (hU:U d) (hd:d<n) (cs:List AV) (vs:Array Value) (ty:TypeId) (hS:S d=.box d 0) (hH:H d=some cs) (hl:cs.length=vs.size)
  (hr:∀j (h:j<cs.length)(h':j<vs.size),RD g.Pr w cs[j] vs[j])
  (ho:∀j (h:j<cs.length)(h':j<vs.size),(cs[j]).OJ/\A2 P w g (.cell d j) cs[j] vs[j]) (h1:∀j (h:j<cs.length),(cs[j]).one=true):
  Rel P w0 n (λt=>U t/\t≠d) { g with al:=av g.al d (some w.heap.size) } S H (a.put (some d) (.pointer (some ⟨w.heap.size,0,none⟩))) (w.alloc (.cells vs ty)):=by
 have hb:Below w.heap.size w (w.alloc (.cells vs ty)):=(aga _ _).alloc (afg _) _;have R':=R.mw hb
 have hle:g.base<=w.heap.size:=by rw[R.base];exact R.below.size
 have sC:∀i b,g.al i=some b->av g.al d (some w.heap.size) i=some b:=by
  intro i b h;rw[cN _ _ (by rintro rfl;rw[R.BB _ hU]at h;cases h)];exact h
 have hRD:∀{v:AV}{c:Value},RD g.Pr w v c->RD g.Pr (w.alloc (.cells vs ty)) v c:=λh=>h.mono (bz.jV (λb aw=>hb.block b aw) λ_ _ _ h=>h)
 refine{ size:=by simp[Act.put,R.size],defers:=R.defers,facts:=λp hp=>(R'.facts p hp).mono (bz.same λ_ _ _ h=>h) sC,slot:=?_,own:=?_,box:=?_,Cf:=?_,BB:=?_,inj:=?_,base:=R.base,below:=R'.below,fresh:=R'.fresh,still:=R'.still,grown:=R'.grown,kept:=?_ }
 .intro t ht hu;rw[ji a d t _ (by rw[R.size];exact hd)]
  by_cases h:t=d
  .subst h;rw[if_pos rfl,hS];exact .box _ _ _ (by simp[av])
  .rw[if_neg h];exact(R'.slot t ht (λhu'=>hu ⟨hu',h⟩)).mono (bz.same λ_ _ _ h=>h) sC
 .intro t ht hu;rw[ji a d t _ (by rw[R.size];exact hd)]
  by_cases h:t=d
  .subst h;rw[hS];simp[A2]
  .rw[if_neg h]
   exact(R'.own t ht (λhu'=>hu ⟨hu',h⟩)).bI rfl λb hb=>⟨rfl,rfl,hb⟩
 .intro i b hi
  by_cases h:i=d
  .subst h
   have Ju:b=w.heap.size:=by simpa[av]using hi.symm
   subst Ju;refine⟨cs,vs,ty,hH,hle,aiO w _,(R.fresh _ (afg _)).1,(R.fresh _ (afg _)).2,hl,λj h h'=>hRD (hr j h h'),λj h h'=>(ho j h h').2.OJ (ho j h h').1,h1⟩
  .simp only[cN _ _ h]at hi;obtain⟨kd,Oa,MC,h1,h2,h3,h4,h5,h6,h7,h8,h9⟩:=R'.box i b hi;exact⟨kd,Oa,MC,h1,h2,h3,h4,h5,h6,h7,λj hj fj=>(h8 j hj fj).bI rfl λb hb=>⟨rfl,rfl,hb⟩,h9⟩
 .intro i kd h hu
  by_cases hi:i=d
  .subst hi;simp[av]
  .simp only[cN _ _ hi];exact R.Cf i kd h (λhu'=>hu ⟨hu',hi⟩)
 .intro i h;show av g.al d (some w.heap.size) i=none;rw[cN _ _ h.2];exact R.BB i h.1
 .intro i j b h h'
  have key:∀k,av g.al d (some w.heap.size) k=some b->(k=d/\b=w.heap.size)\/(k≠d/\g.al k=some b):=by
   intro k hk
   by_cases hkd:k=d
   .subst hkd;exact .inl ⟨rfl,by simpa[av]using hk.symm⟩
   .rw[cN _ _ hkd]at hk;exact .inr ⟨hkd,hk⟩
  have aw:∀k,g.al k=some b->b<w.heap.size:=by
   intro k hk;obtain⟨_,_,_,_,_,h3,_⟩:=R.box k b hk;exact(afe.1 h3).1
  rcases key i h with⟨rfl,e⟩|⟨hi,h1⟩<;>rcases key j h' with⟨rfl,e'⟩|⟨hj,h2⟩
  .rfl
  .have:=aw j h2;omega
  .have:=aw i h1;omega
  .exact R.inj i j b h1 h2
 .intro b o h;obtain⟨k1,k2,k3,k4,k5⟩:=R'.kept b o h;refine⟨k1,k2,k3,k4,λi=>?_⟩;show av g.al d (some w.heap.size) i≠some b
  by_cases hi:i=d
  .subst hi;rw[bm];have:=(afe.1 (R.kept b o h).2.1).1;intro e;have:=afo e;omega
  .rw[cN _ _ hi];exact k5 i
theorem Rel.O9 {P:Program} {w0:World} {n:Nat} {U:Nat→Prop} {g:Gh} {S:aF} {H:aK} {a:Act} {w:World} (R:Rel P w0 n U g S H a w)
  (i b:Nat) (hi:g.al i=some b) (vs Oa:Array Value) (ty:TypeId) (hh:w.heap[b]?=some (.cells vs ty (0,0))) (kd:List AV) (hl:kd.length=Oa.size)
  (hr:∀j (h:j<kd.length)(h':j<Oa.size),RD g.Pr w kd[j] Oa[j])
  (ho:∀j (h:j<kd.length)(h':j<Oa.size),A2 P w g (.cell i j) kd[j] Oa[j]) (Df:∀j (h:j<kd.length),(kd[j]).one=true):
  Rel P w0 n U g S (av H i (some kd)) a (w.setRow b Oa):=by
 obtain⟨cs,K8,ty0,h1,h2,h3,h4,h5,h6,h7,h8,h9⟩:=R.box i b hi
 have dO:∀b' k,g.Pr b' k->b'≠b:=by
  rintro b' k hp rfl;unfold Gh.Pr at hp;rw[h4]at hp;omega
 have gG:bz g.Pr g.Pr w (w.setRow b Oa):={
  cell:=λb' k hp u hu=>⟨hp,by rw[ahY (w:=w) (af4 w b b' Oa (dO b' k hp))];exact hu⟩
  map:=λb' hp es c hm=>⟨hp,by rw[af4 w b b' Oa (dO b' 0 hp)];exact hm⟩ }
 have h_:∀b' loc,g.owner b'=some loc->(w.setRow b Oa).heap[b']?=w.heap[b']?/\g.hi b'=g.hi b'/\g.owner b'=some loc:=by
  intro b' loc vn;refine⟨af4 w b b' Oa ?_,rfl,vn⟩;rintro rfl;rw[h5]at vn;cases vn
 refine{ size:=R.size,defers:=R.defers,facts:=λp hp=>(R.facts p hp).mono gG λ_ _ h=>h,slot:=?_,own:=?_,box:=?_,Cf:=?_,BB:=R.BB,inj:=R.inj,base:=R.base,below:=?_,fresh:=?_,still:=R.still.trans gG,grown:=by simpa using R.grown,kept:=?_ }
 .exact λt ht hu=>(R.slot t ht hu).mono gG λ_ _ h=>h
 .exact λt ht hu=>(R.own t ht hu).bI rfl λb' vn=>h_ b' _ vn
 .intro k b' hk
  by_cases hki:k=i
  .subst hki
   have:b'=b:=by rw[hi]at hk;exact(afo hk).symm
   subst this;exact⟨kd,Oa,ty,bm _ _ _,h2,agq w b' vs Oa ty (0,0) hh,h4,h5,hl,λj h h'=>(hr j h h').mono gG,λj h h'=>(ho j h h').bI rfl λb' vn=>h_ b' _ vn,Df⟩
  .obtain⟨c1,v1,t1,k1,k2,k3,k4,k5,k6,k7,k8,k9⟩:=R.box k b' hk
   have dO:b'≠b:=by rintro rfl;exact hki (R.inj k i b' hk hi)
   exact⟨c1,v1,t1,by rw[cN _ _ hki];exact k1,k2,by rw[af4 w b b' Oa dO];exact k3,k4,k5,k6,λj h h'=>(k7 j h h').mono gG,λj h h'=>(k8 j h h').bI rfl λb' vn=>h_ b' _ vn,k9⟩
 .intro k cs1 hk hu
  by_cases hki:k=i
  .subst hki;rw[hi];rfl
  .rw[cN _ _ hki]at hk;exact R.Cf k cs1 hk hu
 .exact R.below.trans ⟨rfl,rfl,rfl,by simp,λk hk=>af4 w b k Oa (by omega)⟩
 .intro b' vn;exact R.fresh b' (by simpa using vn)
 .intro b' o h;obtain⟨k1,k2,k3,k4,k5⟩:=R.kept b' o h;refine⟨k1,?_,k3,k4,k5⟩;rw[af4 w b b' Oa (by rintro rfl;exact k5 i hi)];exact k2
inductive pR where
 |t (n:Nat)|c (v:AV)|f (n:Nat)|m (n:Nat) (tab:List (TypeId×Nat))
def PX:Value->Option AV
 |.bool b=>some (.bool b)
 |.int k n=>some (.int k n)
 |.string s=>some (.str s.data.toList)
 |.slice none 0 0=>some (.slice .nil [])
 |.pointer none=>some .Ui
 |.map none=>some (.map [] [])
 |.nilIface=>some .Tv
 |.nilFunc=>some (.val .nilFunc)
 |_=>none
def JC:List Value->Option (List AV)
 |[]=>some []
 |v::vs=>match PX v,JC vs with
  |some x,some xs=>if x.storable then some (x::xs)else none
  |_,_=>none
def ev(S:aF):pR->AV
 |.t n=>S n
 |.c v=>v
 |.f n=>.func (.func n) [] []
 |.m n tab=>match S n with
  |.iface t v=>match tab.lookup t with
   |some k=>.func (.func k) [v] []
   |none=>.bB
  |_=>.bB
inductive HR where
 |any|ref|box (r:Nat)
def HR.okB:HR->Nat->Bool
 |.any,_=>true
 |.ref,_=>false
 |.box r,i=>i==r
inductive nj where
 |mv (take:Bool) (x:pR)
 |pick (c a b:pR)
 |alloc (t:TypeId) (zero:List AV)
 |box (t:TypeId) (size:Nat) (x:pR)
 |build (zero:List AV) (parts:List (Nat×Nat×pR))
 |buildSlice (t e:TypeId) (size:Nat) (parts:List pR)
 |load (hr:HR) (agg:Bool) (size:Nat) (a:pR)
 |loadT (hr:HR) (a:pR)
 |store (hr:HR) (size:Nat) (a x:pR)
 |bin (op:BinOp) (x y:pR)
 |JI (neg:Bool) (x y:pR)
 |eqs (neg:Bool) (k:Nat) (x y:pR)
 |te (ag:Bool) (len size:Nat) (x i:pR)
 |Ef (x:pR)
 |uz (xs:List pR)
 |ux (len:Nat) (x i:pR)
 |lookup (k:Nat) (z:AV) (x i:pR)
 |not (x:pR)
 |conv (k:IntKind) (x:pR)
 |iface (t:TypeId) (x:pR)
 |JU (fn:Fn) (first cap:List pR)
 |uy (x:pR) (lo hi:Option pR)
 |qz (size:Nat) (x:pR) (lo hi:Option pR)
 |uG (len:Nat) (x:pR)
 |fieldAddr (off:Nat) (x:pR)
 |indexAddr (size:Nat) (x i:pR)
 |uw (x i:pR)
 |extract (x:pR) (i:Nat)
 |Eh (x:pR)
 |lO (x:pR)
 |isNil (neg:Bool) (x:pR)
 |empty (e:TypeId)
 |append (t e:TypeId) (size bytes:Nat) (x y:pR)
 |max (x y:pR)
 |min (x y:pR)
 |assert (t:TypeId) (zero:AV) (x:pR)
 |panic (x:pR)
 |call (f:Nat) (args:List pR)
 |nP (f:pR) (args:List pR)
 |other
structure aT where
 v:AV
 dm:Option Nat:=none
 hw:Option (Nat×List AV):=none
def aT.S(e:aT)(S:aF)(dst:Option Nat):aF:=
 aY (match e.dm with|some t=>av S t (S t).aI|none=>S) dst e.v
def aT.H(e:aT)(H:aK):aK:=
 match e.hw with|some (i,cs)=>av H i (some cs)|none=>H
def cG:AV:=.d_ []
def dI(op:BinOp):AV->AV->Option AV
 |.int k a,.int k' b=>
  if k≠k' then none else
  match op with
  |.add=>some (.int k (k.wrap (a+b)))
  |.sub=>some (.int k (k.wrap (a-b)))
  |.mul=>some (.int k (k.wrap (a*b)))
  |.quo=>if b=0 then none else some (.int k (k.wrap (a.tdiv b)))
  |.rem=>if b=0 then none else some (.int k (a.tmod b))
  |.eql=>some (.bool (a==b))
  |.neq=>some (.bool (a !=b))
  |.lss=>some (.bool (decide (a<b)))
  |.leq=>some (.bool (decide (a<=b)))
  |.gtr=>some (.bool (decide (a>b)))
  |.geq=>some (.bool (decide (a>=b)))
  |_=>none
 |.str a,.str b=>
  match op with
  |.eql=>some (.bool (a==b))
  |.neq=>some (.bool (a !=b))
  |.add=>if a.length+b.length<1073741824 then some (.str (a++b))else none
  |_=>none
 |_,_=>none
def wx:List AV->Option (List Int)
 |[]=>some []
 |.int .i64 n::cs=>(wx cs).map (n::·)
 |_=>none
def bytesOf:List AV->Option (List UInt8)
 |[]=>some []
 |.int .u8 n::cs=>if 0<=n/\n<256 then(bytesOf cs).map (UInt8.ofNat n.toNat::·)else none
 |_=>none
def rA(key:List Int):List AV->List AV->Option (Option AV)
 |[],_=>some none
 |.agg c::ks,v::vs=>match wx c with
  |some m=>if m.length≠key.length then none else if key==m then some (some v)else rA key ks vs
  |none=>none
 |_,_=>none
def Hs:AV->Bool
 |.func ..|.val .nilFunc=>true
 |_=>false
def bo(cs:List AV)(off:Nat)(vs:List AV):List AV:=cs.take off++vs++cs.drop (off+vs.length)
def bC(cells:List AV):List (Nat×Nat×AV)->Option (List AV)
 |[]=>some cells
 |(off,size,v)::rest=>if v.cells.length=size/\off+size<=cells.length/\v.storable=true then bC (bo cells off (v.aI.cells)) rest else none
def ck(agg:Bool)(size:Nat)(cs:List AV):Option AV:=
 if agg then(if size<=cs.length then some (.agg ((cs.take size).map AV.aI))else none)
 else(cs[0]?).map AV.aI
def bound(x:Option AV)(d:Nat):Option Int:=
 match x with
 |none=>some d
 |some (.int .i64 n)=>some n
 |_=>none
def AV.cg:AV->List AV
 |.agg cs=>cs.map AV.aI
 |v=>[v]
def bu:pR->Option Nat
 |.t n=>some n
 |_=>none
def aM(size:Nat)(es:List AV):Bool:=es.all λv=>v.storable&&v.cells.length==size
def aL(S:aF)(H:aK):nj->Option aT
 |.mv take x=>if take then some { v:=ev S x,dm:=bu x }else some { v:=(ev S x).aI }
 |.pick c a b=>match ev S c with
  |.bool t=>some { v:=(if t then ev S a else ev S b).aI }
  |_=>none
 |.build zero parts=>(bC zero (parts.map λ(o,s,x)=>(o,s,ev S x))).map λcs=>{ v:=.agg cs }
 |.buildSlice _ e size parts=>
  if aM size (parts.map (ev S))&&parts.length*size<=16777216 then some { v:=.slice (.own e) ((parts.map (ev S)).map AV.vw) }else none
 |.load hr agg size x=>match ev S x with
  |.box i off=>if hr.okB i then match H i with
   |some cs=>(ck agg size (cs.drop off)).map λv=>{ v:=v }
   |none=>none
   else none
  |.ref cs=>(ck agg size cs).map λv=>{ v:=v }
  |_=>none
 |.loadT hr x=>match ev S x with
  |.box i off=>if hr.okB i then match H i with
   |some cs=>match cs[off]? with
    |some v=>some { v:=v,hw:=some (i,cs.set off v.aI) }
    |none=>none
   |none=>none
   else none
  |_=>none
 |.store hr size x y=>match ev S x with
  |.box i off=>if hr.okB i then match H i with
   |some cs=>if (ev S y).cells.length=size∧off+size≤cs.length∧(ev S y).storable=true then
     some { v:=cG,dm:=bu y,hw:=some (i,bo cs off (ev S y).cg) }else none
   |none=>none
   else none
  |_=>none
 |.bin op x y=>(dI op (ev S x) (ev S y)).map λv=>{ v:=v }
 |.JI neg x y=>match ev S x,ev S y with
  |.bool a,.bool b=>some { v:=.bool (if neg then a !=b else a==b) }
  |_,_=>none
 |.eqs neg k x y=>match ev S x,ev S y with
  |.agg xs,.agg ys=>match wx xs,wx ys with
   |some a,some b=>if a.length=k/\b.length=k then some { v:=.bool (if neg then a !=b else a==b) }else none
   |_,_=>none
  |_,_=>none
 |.te ag len size x i=>match ev S x,ev S i with
  |.agg cs,.int .i64 k=>if 0<=k/\k<len then(ck ag size (cs.drop (k.toNat*size))).map λv=>{ v:=v }else none
  |_,_=>none
 |.uz xs=>if(xs.map (ev S)).all Hs then some { v:=.uL (xs.map (ev S)) }else none
 |.ux len x i=>match ev S x,ev S i with
  |.uL fs,.int .i64 k=>if 0≤k∧k < len then match fs[k.toNat]? with
    |some v=>if Hs v then some { v:=v }else none
    |none=>none
   else none
  |_,_=>none
 |.Ef x=>match ev S x with
  |.slice _ es=>(bytesOf es).map λl=>{ v:=.str l }
  |_=>none
 |.lookup k z x i=>match ev S x,ev S i with
  |.map ks vs,.agg c=>match wx c with
   |some key=>if key.length=k then match rA key ks vs with
     |some (some v)=>some { v:=.d_ [v.aI,.bool true] }
     |some none=>some { v:=.d_ [z,.bool false] }
     |none=>none
    else none
   |none=>none
  |_,_=>none
 |.not x=>match ev S x with
  |.bool b=>some { v:=.bool !b }
  |_=>none
 |.conv k x=>match ev S x with
  |.int _ n=>some { v:=.int k (k.wrap n) }
  |_=>none
 |.iface t x=>if(ev S x).storable then some { v:=.iface t (ev S x).vw }else none
 |.JU fn first cap=>some { v:=.func fn (first.map λx=>(ev S x).aI) (cap.map λx=>(ev S x).aI) }
 |.uy x lo hi=>match ev S x with
  |.str l=>match bound (lo.map (ev S)) 0,bound (hi.map (ev S)) l.length with
   |some a,some b=>if 0<=a/\a<=b/\b<=l.length then some { v:=.str ((l.take b.toNat).drop a.toNat) }else none
   |_,_=>none
  |_=>none
 |.uG len x=>match ev S x with
  |.ref cs=>if cs.length=len then some { v:=.slice .view cs }else none
  |_=>none
 |.qz size x lo hi=>match ev S x with
  |.slice _ es=>match bound (lo.map (ev S)) 0,bound (hi.map (ev S)) es.length with
   |some a,some b=>if 0<=a/\a<=b/\b<=es.length/\aM size es=true then some { v:=.slice .view ((es.take b.toNat).drop a.toNat) }else none
   |_,_=>none
  |_=>none
 |.fieldAddr off x=>match ev S x with
  |.box i o=>some { v:=.box i (o+off) }
  |.ref cs=>some { v:=.ref (cs.drop off) }
  |_=>none
 |.indexAddr size x i=>match ev S x,ev S i with
  |.slice _ es,.int .i64 k=>if 0≤k then match es[k.toNat]? with
    |some v=>if v.cells.length=size then some { v:=.ref v.cells }else none
    |none=>none
   else none
  |_,_=>none
 |.uw x i=>match ev S x,ev S i with
  |.str l,.int .i64 k=>if 0≤k then match l[k.toNat]? with
    |some b=>some { v:=.int .u8 b.toNat }
    |none=>none
   else none
  |_,_=>none
 |.extract x i=>match ev S x with
  |.d_ vs=>(vs[i]?).map λv=>{ v:=v.aI }
  |_=>none
 |.Eh x=>match ev S x with
  |.str l=>some { v:=.int .i64 l.length }
  |_=>none
 |.lO x=>match ev S x with
  |.slice _ es=>some { v:=.int .i64 es.length }
  |_=>none
 |.isNil neg x=>match ev S x with
  |.slice _ es=>some { v:=if es.isEmpty then .JJ else .bool neg }
  |_=>none
 |.empty _=>some { v:=.slice .nil [] }
 |.append _ e size _ x y=>match ev S x,ev S y with
  |.slice .nil [],.slice _ ys=>if aM size ys&&ys.length<1048576 then some { v:=.slice (if ys.isEmpty then .nil else .own e) ys }else none
  |.slice (.own e') xs,.slice _ ys=>if e'=e/\(aM size ys&&aM size xs&&(xs.length+ys.length<1048576))=true then some { v:=.slice (.own e) (xs++ys),dm:=bu x }else none
  |_,_=>none
 |.max x y=>match ev S x,ev S y with
  |.int .i64 a,.int .i64 b=>some { v:=.int .i64 (max a b) }
  |_,_=>none
 |.min x y=>match ev S x,ev S y with
  |.int .i64 a,.int .i64 b=>some { v:=.int .i64 (min a b) }
  |_,_=>none
 |.assert t zero x=>match ev S x with
  |.iface t' v=>some { v:=if t'=t then .d_ [v,.bool true]else .d_ [zero,.bool false] }
  |.Tv=>some { v:=.d_ [zero,.bool false] }
  |_=>none
 |_=>none
def pR.tmps:pR->List Nat
 |.t n=>[n]
 |.m n _=>[n]
 |_=>[]
def nj.rd:nj->List Nat
 |.mv _ x|.uG _ x|.box _ _ x|.load _ _ _ x|.loadT _ x|.not x|.Ef x|.conv _ x|.iface _ x|.fieldAddr _ x|.extract x _|.Eh x|.lO x|.isNil _ x|.assert _ _ x|.panic x=>x.tmps
 |.pick a b c=>a.tmps++b.tmps++c.tmps
 |.alloc ..|.other|.empty _=>[]
 |.build _ ps=>ps.flatMap λp=>p.2.2.tmps
 |.buildSlice _ _ _ ps=>ps.flatMap pR.tmps
 |.store _ _ a x|.bin _ a x|.JI _ a x|.eqs _ _ a x|.indexAddr _ a x|.uw a x|.te _ _ _ a x|.lookup _ _ a x|.append _ _ _ _ a x|.max a x|.min a x=>a.tmps++x.tmps
 |.uz xs=>xs.flatMap pR.tmps
 |.ux _ a x=>a.tmps++x.tmps
 |.JU _ f c=>f.flatMap pR.tmps++c.flatMap pR.tmps
 |.uy x l h|.qz _ x l h=>x.tmps++(l.toList++h.toList).flatMap pR.tmps
 |.call _ XE=>XE.flatMap pR.tmps
 |.nP f XE=>f.tmps++XE.flatMap pR.tmps
def lQ(n:Nat):Operand->Option pR
 |.tmp t=>if t<n then some (.t t)else none
 |.const c=>(PX c).map .c
 |.func f=>some (.f f)
 |.global _=>none
def Tx(n:Nat):List Operand->Option (List pR)
 |[]=>some []
 |x::xs=>match lQ n x,Tx n xs with
  |some y,some ys=>some (y::ys)
  |_,_=>none
def O_(n:Nat):Option Operand->Option (Option pR)
 |none=>some none
 |some x=>(lQ n x).map some
theorem abz(Pr:Nat->Nat->Prop)(al:Nat->Option Nat)(w:World){c:Value}{v:AV}(h:PX c=some v):RV Pr al w v c:=by
 unfold PX at h
 split at h<;>first|cases h|skip
 .exact .data _ _ (.bool _)
 .exact .data _ _ (.int _ _)
 .rename_i s
  have:s=⟨s.data.toList.toArray⟩:=by simp
  rw(occs:=.pos [2]) [this];exact .data _ _ (.str _)
 .exact .data _ _ (.qw _)
 .exact .data _ _ .Ui
 .exact .data _ _ .WL
 .exact .data _ _ .Tv
 .exact .data _ _ (.val _ rfl)
theorem YC{c:Value}{v:AV}(h:PX c=some v)(P:Program)(w:World)(g:Gh)(loc:Loc):A2 P w g loc v c:=by
 unfold PX at h
 split at h<;>first|cases h|skip
 all_goals first|trivial|exact⟨none,rfl⟩
theorem Y0{c:Value}{v:AV}(h:PX c=some v):v.OJ:=by
 unfold PX at h
 split at h<;>first|cases h|skip
 all_goals trivial
section
variable{P:Program}{w0:World}{n:Nat}{U:Nat->Prop}{g:Gh}{S:aF}{H:aK}{a:Act}{w:World}
theorem Rel.ev(R:Rel P w0 n U g S H a w){x:Operand}{y:pR}(h:lQ n x=some y)(hu:∀t∈y.tmps,¬U t):RV g.Pr g.al w (ev S y) (a.eval x):=by
 cases x with
 |tmp t=>
  simp only[lQ]at h;split at h
  .rename_i ht;cases h;exact R.slot t ht (hu t (by simp[pR.tmps]))
  .cases h
 |const c=>
  simp only[lQ,afX]at h;obtain⟨v,hv,rfl⟩:=h;exact abz _ _ _ hv
 |global k=>cases h
 |func f=>
  cases h;exact .func _ [] [] #[] #[] rfl rfl (λi h=>by simp at h) (λi h=>by simp at h)
theorem Rel.evs (R:Rel P w0 n U g S H a w):∀ {xs:List Operand} {ys:List pR},Tx n xs=some ys→(∀ y∈ys,∀ t∈y.tmps,¬ U t) →
  ys.length=xs.length/\∀i (h:i<ys.length)(h':i<xs.length),RV g.Pr g.al w (AL.ev S ys[i]) (a.eval xs[i])
 |[],ys,h,_=>by cases h;exact⟨rfl,λi h=>by simp at h⟩
 |x::xs,ys,h,hu=>by
  simp only[Tx]at h;split at h
  .rename_i y ys' h1 h2;cases h;obtain⟨e,hh⟩:=R.evs h2 (λy hy=>hu y (by simp[hy]));refine⟨by simp[e],λi hi gq=>?_⟩
   cases i with
   |zero=>exact R.ev h1 (hu y (by simp))
   |succ i=>exact hh i (by simpa using hi) (by simpa using gq)
  .cases h
def sS(P:Program)(w0:World)(n:Nat)(U:Nat->Prop)(g:Gh)(S:aF)(H:aK)(a:Act)(w:World)(o:Oper)(e:aT):Prop:=
 ∃c w' g',((execOp a.eval o).run P w=.ok (.value c) w'\/((execOp a.eval o).run P w=.ok .skip w'/\c=undef))/\
  g'.base=g.base/\g'.old=g.old/\Rel P w0 n U g' (e.S S o.dst) (e.H H) (a.put o.dst c) w'
theorem sS.val (R:Rel P w0 n U g S H a w) {o:Oper} {v:AV} {c:Value} (hd:∀ t,o.dst=some t→t < n) (hr:(execOp a.eval o).run P w = .ok (.value c) w)
  (hv:RV g.Pr g.al w v c) (ho:∀loc,A2 P w g loc v c):sS P w0 n U g S H a w o { v:=v }:=
 ⟨c,w,g,.inl hr,rfl,rfl,R.aY o.dst v c hd hv λ_ _=>ho _⟩
theorem Hh(v:AV)(c:Value)(loc:Loc):A2 P w g loc v.aI c:=A2.aI
theorem abi (R:Rel P w0 n U g S H a w) {o:Oper} {x:Operand} {y:pR} {tk:Bool} {e:aT} (hd:∀ t,o.dst=some t→t < n∧¬ U t) (hx:lQ n x=some y) (hu:∀ t∈y.tmps,¬ U t)
  (hr:(execOp a.eval o).run P w=.ok (.value (a.eval x)) w) (ea:∀t,o.dst=some t->t∉y.tmps) (he:aL S H (.mv tk y)=some e):sS P w0 n U g S H a w o e:=by
 have hv:=R.ev hx hu
 cases tk with
 |false=>
  simp only[aL,afj,afx,agk]at he;subst he
  exact sS.val R (λt h=>(hd t h).1) hr hv.aI λloc=>Hh _ _ _
 |true=>
  simp only[aL,afH,agk]at he;subst he
  cases x with
  |const c=>
   simp only[lQ,afX]at hx;obtain⟨v,hc,rfl⟩:=hx
   exact sS.val R (λt h=>(hd t h).1) hr hv λloc=>YC hc _ _ _ _
  |global k=>cases hx
  |func f=>cases hx;exact sS.val R (λt h=>(hd t h).1) hr hv λloc=>trivial
  |tmp t=>
   simp only[lQ]at hx;split at hx
   case isFalse=>cases hx
   rename_i ht;cases hx;have hut:=hu t (by simp[pR.tmps]);have ho:=R.own t ht hut
   have R1:Rel P w0 n U g (av S t (S t).aI) H a w:=R.weaken _ λk hk huk c Dn ho=>by
    by_cases h:k=t
    .subst h;rw[bm];exact⟨Dn.aI,Hh _ _ _⟩
    .rw[cN _ _ h];exact⟨Dn,ho⟩
   cases HF:o.dst with
   |none=>
    refine⟨_,w,g,.inl hr,rfl,rfl,?_⟩;simpa[aT.S,aT.H,aY,bu,HF,Act.put]using R1
   |some d=>
    have hdt:d≠t:=λh=>ea d HF (by simp[pR.tmps,h])
    have R2:=R1.aaI (.slot t) (some (.slot d)) (λk hk _ _=>by cases hk;rw[bm];exact AV.T7 _) (λi j cs h=>by cases h);have R3:=R2.put d (S t) (a.tmps.getD t undef) (hd d HF).1 (R.slot t ht hut) ?own
    case own=>
     show A2 P w _ (.slot d) (S t) (a.tmps.getD t undef);generalize S t=v at ho;generalize a.tmps.getD t undef=c at ho
     cases v<;>try trivial
     rename_i oo es
     cases oo with
     |view=>trivial
     |nil=>exact ho
     |own e=>
      obtain⟨i,xs,b,h1,h2,h3,h4,h5⟩:=ho;refine⟨i,xs,b,h1,h2,h3,?_,h5⟩;show(if g.owner b=some (.slot t)then some (.slot d)else g.owner b)=_;rw[if_pos h4]
    rw[<-HF]at R3;exact⟨_,w,{ g with owner:=λb=>if g.owner b=some (.slot t)then some (.slot d)else g.owner b },.inl hr,rfl,rfl,by rw[HF]at R3⊢;exact R3⟩
def fg:TypeDesc->Bool
 |.struct _|.array _ _=>true
 |_=>false
theorem V2 {Pr:Nat→Nat→Prop} {al:Nat→Option Nat} {ty:TypeId} {i:TypeInfo} {Tq:TypeDesc} (hi:P.info? ty=some i) (hu:P.underlying ty=some Tq) {b off:Nat} {cs:List AV} {vs:Nat→Value} {v:AV}
  (hc:∀k,k<cs.length->w.cell? ⟨b,off+k,none⟩=some (vs k)) (h1:∀k (h:k<cs.length),(cs[k]).one=true) (hr:∀k (h:k<cs.length),RD Pr w cs[k] (vs k))
  (he:ck (fg Tq) i.size cs=some v):
  ∃c,(loadVar ty ⟨b,off,none⟩).run P w=.ok c w/\RD Pr w v c/\v.aI=v:=by
 have AY:(isAgg ty).run P w=.ok (fg Tq) w:=by
  unfold isAgg;rw[afW,agn hu w]
  cases Tq<;>simp[fg]
 generalize fg Tq=q at he AY
 cases q with
 |true=>
  simp only[ck,afH]at he;split at he
  case isFalse=>cases he
  rename_i hl;cases he
  have KT:(loadCells ⟨b,off,none⟩ i.size).run P w=.ok ((List.range i.size).map vs).toArray w:=
   run_loadCells (P:=P) w _ _ vs λj hj=>by rw[ahn];exact hc j (by omega)
  refine⟨.agg ((List.range i.size).map vs).toArray,by simp[loadVar,afW,AY,sizeOf,typeInfo,hi,KT],?_,rfl⟩
  refine .agg _ _ (by simp;omega) (λk hk=>?_) λk hk ee=>?_
  .simp only[afi,afJ]at hk;simp only[afl,ag9];rw[AV.Ti];exact h1 k (by omega)
  .simp only[afi,afJ]at hk;have:=(hr k (by omega)).aI;simpa using this
 |false=>
  simp only[ck,afj,afx,afX]at he;obtain⟨v0,hv0,rfl⟩:=he;obtain⟨h0,rfl⟩:=af0.1 hv0;have:=hc 0 h0;simp only[Nat.add_zero]at this;exact⟨vs 0,by simp[loadVar,afW,AY,this],(hr 0 h0).aI,AV.idem _⟩
set_option linter.unusedVariables false in
theorem JN (R:Rel P w0 n U g S H a w) {o:Oper} {hr:HR} {ty:TypeId} {i:TypeInfo} {Tq:TypeDesc} {x:Operand} {y:pR} {e:aT} (ho:o.op = .load ty x) (hd:∀ t,o.dst=some t→t < n∧¬ U t)
  (hi:P.info? ty=some i) (mJ:P.underlying ty=some Tq) (hx:lQ n x=some y) (hu:∀t∈y.tmps,¬U t)
  (he:aL S H (.load hr (fg Tq) i.size y)=some e):sS P w0 n U g S H a w o e:=by
 have hv:=R.ev hx hu
 have fin:∀{v:AV}{b off:Nat},a.eval x=.pointer (some ⟨b,off,none⟩)->(∃c,(loadVar ty ⟨b,off,none⟩).run P w=.ok c w/\RD g.Pr w v c/\v.aI=v)->sS P w0 n U g S H a w o { v:=v }:=by
  rintro v b off hx ⟨c,h1,h2,h3⟩
  refine sS.val R (λt h=>(hd t h).1) (c:=c) ?_ (.data _ _ h2) λloc=>by rw[<-h3];exact Hh _ _ _
  unfold execOp;simp[ho,hx,Instr.loadAt,Instr.sureAddr,h1]
 simp only[aL]at he;generalize UE:AL.ev S y=q at he hv;generalize Pe:a.eval x=c at hv fin
 cases hv with
 |box j off b sC=>
  simp only at he;split at he
  case isFalse=>cases he
  obtain⟨cs,vs,MC,k1,k2,k3,k4,k5,k6,k7,k8,k9⟩:=R.box j b sC;simp only[k1,afX]at he;obtain⟨v,hv,rfl⟩:=he;refine fin rfl (V2 (Pr:=g.Pr) (al:=g.al) hi mJ (vs:=λk=>vs.getD (off+k) undef) (λk hk=>?_) (λk hk=>?_) (λk hk=>?_) hv)
  .simp only[agN]at hk
   have:off+k<vs.size:=by omega
   simp[World.cell?,k3,this]
  .simp only[agN]at hk;simp only[aik];exact k9 (off+k) (by omega)
  .simp only[agN]at hk;simp only[aik];have hh:=k7 (off+k) (by omega) (by omega)
   have:off+k<vs.size:=by omega
   simpa[this]using hh
 |data v c h=>
  cases h<;>simp only at he<;>try cases he
  rename_i cs b off vs h1 hc hr;simp only[afX]at he;obtain⟨v,hv,rfl⟩:=he;exact fin rfl (V2 (Pr:=g.Pr) (al:=g.al) hi mJ (vs:=vs) (λk hk=>(hc k hk).2) h1 hr hv)
 |func=>cases he
 |uL=>cases he
 |bB c=>cases he
end
section
variable{P:Program}{w0:World}{n:Nat}{U:Nat->Prop}{g:Gh}{S:aF}{H:aK}{a:Act}{w:World}
theorem ab0 (R:Rel P w0 n U g S H a w) {o:Oper} {x x1 x2:Operand} {y y1 y2:pR} {e:aT} (ho:o.op = .pick x x1 x2) (hd:∀ t,o.dst=some t→t < n∧¬ U t)
  (hx:lQ n x=some y) (Eu:lQ n x1=some y1) (AJ:lQ n x2=some y2) (hu:∀t∈y.tmps,¬U t) (TI:∀t∈y1.tmps,¬U t) (TG:∀t∈y2.tmps,¬U t)
  (he:aL S H (.pick y y1 y2)=some e):sS P w0 n U g S H a w o e:=by
 have hv:=R.ev hx hu;have sV:=R.ev Eu TI;have qD:=R.ev AJ TG;simp only[aL]at he;generalize UE:AL.ev S y=q at he hv;generalize Pe:a.eval x=c at hv
 cases hv<;>(try cases he;done)
 rename_i h
 cases h<;>simp only at he<;>try cases he
 rename_i b
 refine sS.val R (λt h=>(hd t h).1) (c:=if b then a.eval x1 else a.eval x2) ?_ ?_ λloc=>Hh _ _ _
 .simp[execOp,ho,Pe,asBool]
 .cases b<;>simp only[afj,afH,afx]
  .exact qD.aI
  .exact sV.aI
theorem acJ (R:Rel P w0 n U g S H a w) {o:Oper} {t:TypeId} {x:Operand} {y:pR} {e:aT} (ho:o.op = .unOp .not t x) (hd:∀ t,o.dst=some t→t < n∧¬ U t)
  (hx:lQ n x=some y) (hu:∀t∈y.tmps,¬U t) (he:aL S H (.not y)=some e):sS P w0 n U g S H a w o e:=by
 have hv:=R.ev hx hu;simp only[aL]at he;generalize UE:AL.ev S y=q at he hv;generalize Pe:a.eval x=c at hv
 cases hv<;>(try cases he;done)
 rename_i h
 cases h<;>simp only at he<;>try cases he
 rename_i b
 refine sS.val R (λt h=>(hd t h).1) (c:=.bool !b) ?_ (.data _ _ (.bool _)) λloc=>trivial
 simp[execOp,ho,Pe,Op.unary]
def aca:Value->Bool
 |.nilIface|.agg _=>false
 |_=>true
theorem sD (op:BinOp) (t:TypeId) (x y:Operand) (c d:Value) (h:aca c=true) :
  (eqGuard op t x y c d).run P w=.ok () w:=by
 unfold eqGuard
 cases op<;>(try rfl)<;>cases c<;>first|rfl|cases h
theorem aat (R:Rel P w0 n U g S H a w) {o:Oper} {op:BinOp} {t t':TypeId} {x1 x2:Operand} {y1 y2:pR} {e:aT} (ho:o.op = .binOp op t x1 x2 t') (hd:∀ t,o.dst=some t→t < n∧¬ U t)
  (Eu:lQ n x1=some y1) (AJ:lQ n x2=some y2) (TI:∀t∈y1.tmps,¬U t) (TG:∀t∈y2.tmps,¬U t)
  (he:aL S H (.bin op y1 y2)=some e):sS P w0 n U g S H a w o e:=by
 have sV:=R.ev Eu TI;have qD:=R.ev AJ TG;simp only[aL,afX]at he;obtain⟨v,hb,rfl⟩:=he;generalize AL.ev S y1=q1 at hb sV;generalize AL.ev S y2=q2 at hb qD
 have fin:∀c,(eqGuard op t x1 x2 (a.eval x1) (a.eval x2)).run P w=.ok () w->(binOp op t (a.eval x1) (a.eval x2)).run P w=.ok c w->RD g.Pr w v c->(∀loc,A2 P w g loc v c)->sS P w0 n U g S H a w o { v:=v }:=by
  intro c h0 h1 h2 h3;refine sS.val R (λt h=>(hd t h).1) (c:=c) ?_ (.data _ _ h2) h3;simp[execOp,ho,h0,h1]
 generalize a.eval x1=c1 at sV fin;generalize a.eval x2=c2 at qD fin;unfold dI at hb;split at hb
 .rename_i k p k' q;cases sV;rename_i sV;cases sV;cases qD;rename_i qD;cases qD;split at hb
  .cases hb
  .rename_i hk
   have hk:k=k':=by simpa using hk
   subst hk;have hg:=sD (P:=P) (w:=w) op t x1 x2 (.int k p) (.int k q) rfl
   split at hb<;>(try cases hb;done)<;>(try (split at hb;· cases hb))<;>cases hb
   case h_4.isFalse.refl h=>exact fin _ hg (by simp[binOp,Op.intDiv,h]) (.int _ _) λ_=>trivial
   case h_5.isFalse.refl h=>exact fin _ hg (by simp[binOp,Op.intDiv,h]) (.int _ _) λ_=>trivial
   case h_1.refl=>exact fin (.int k (k.wrap (p+q))) hg (by simp[binOp,Op.intArith]) (.int _ _) λ_=>trivial
   case h_2.refl=>exact fin (.int k (k.wrap (p-q))) hg (by simp[binOp,Op.intArith]) (.int _ _) λ_=>trivial
   case h_3.refl=>exact fin (.int k (k.wrap (p*q))) hg (by simp[binOp,Op.intArith]) (.int _ _) λ_=>trivial
   case h_6.refl=>exact fin (.bool (p==q)) hg (by simp[binOp,Op.intCmp]) (.bool _) λ_=>trivial
   case h_7.refl=>exact fin (.bool (p !=q)) hg (by simp[binOp,Op.intCmp]) (.bool _) λ_=>trivial
   all_goals exact fin (.bool _) hg (by simp[binOp,Op.intCmp]) (.bool _) λ_=>trivial
 .rename_i p q;cases sV;rename_i sV;cases sV;cases qD;rename_i qD;cases qD;have hg:=sD (P:=P) (w:=w) op t x1 x2 (.string ⟨p.toArray⟩) (.string ⟨q.toArray⟩) rfl
  split at hb<;>(try cases hb;done)
  .cases hb;exact fin (.bool (p==q)) hg (by simp[binOp,Op.stringOp]) (.bool _) λ_=>trivial
  .cases hb;exact fin (.bool (p !=q)) hg (by simp[binOp,Op.stringOp,bne]) (.bool _) λ_=>trivial
  .split at hb
   case isFalse=>cases hb
   rename_i hl;cases hb
   refine fin (.string ⟨(p++q).toArray⟩) hg ?_ (.str _) λ_=>trivial
   rw[binOp_string_add,run_string_add_sum w _ _ (by show p.length+q.length<=_;omega),ByteArray.mk_append_mk]
 .cases hb
theorem aaz (R:Rel P w0 n U g S H a w) {o:Oper} {neg:Bool} {t t':TypeId} {x1 x2:Operand} {y1 y2:pR} {e:aT} (ho:o.op = .binOp (if neg then .neq else .eql) t x1 x2 t') (hd:∀ t,o.dst=some t→t < n∧¬ U t)
  (ht:P.underlying t=some .bool) (Eu:lQ n x1=some y1) (AJ:lQ n x2=some y2) (TI:∀t∈y1.tmps,¬U t) (TG:∀t∈y2.tmps,¬U t)
  (he:aL S H (.JI neg y1 y2)=some e):sS P w0 n U g S H a w o e:=by
 have sV:=R.ev Eu TI;have qD:=R.ev AJ TG;simp only[aL]at he;generalize AL.ev S y1=q1 at he sV;generalize AL.ev S y2=q2 at he qD;generalize yL:a.eval x1=c1 at sV;generalize K4:a.eval x2=c2 at qD;split at he
 case h_2=>cases he
 rename_i p q;cases sV;rename_i sV;cases sV;cases qD;rename_i qD;cases qD;cases he;have hg:=sD (P:=P) (w:=w) (if neg then .neq else .eql) t x1 x2 (.bool p) (.bool q) rfl;have hE:(Op.equal t (.bool p) (.bool q)).run P w=.ok (p==q) w:=run_equalIn_bool' w _ t p q ht
 refine sS.val R (λt h=>(hd t h).1) (c:=.bool (if neg then p !=q else p==q)) ?_ (.data _ _ (.bool _)) λ_=>trivial
 cases neg
 .simp only[afj,afx]at ho hg⊢;simp[execOp,ho,yL,K4,hg,binOp,hE]
 .simp only[afH]at ho hg⊢;simp[execOp,ho,yL,K4,hg,binOp,hE,bne]
theorem ab1 (R:Rel P w0 n U g S H a w) {o:Oper} {s d:TypeId} {ds:TypeDesc} {k:IntKind} {x:Operand} {y:pR} {e:aT} (ho:o.op = .convert s d x) (hd:∀ t,o.dst=some t→t < n∧¬ U t)
  (hs:P.underlying s=some ds) (hk:P.underlying d=some (.int k)) (hx:lQ n x=some y) (hu:∀t∈y.tmps,¬U t) (he:aL S H (.conv k y)=some e):sS P w0 n U g S H a w o e:=by
 have hv:=R.ev hx hu;simp only[aL]at he;generalize UE:AL.ev S y=q at he hv;generalize Pe:a.eval x=c at hv
 cases hv<;>(try cases he;done)
 rename_i h
 cases h<;>simp only at he<;>try cases he
 rename_i k' m
 refine sS.val R (λt h=>(hd t h).1) (c:=.int k (k.wrap m)) ?_ (.data _ _ (.int _ _)) λloc=>trivial
 simp[execOp,ho,Pe,convert,agn hs,agn hk,Conv.intToInt]
theorem abv (R:Rel P w0 n U g S H a w) {o:Oper} {t:TypeId} {dt:TypeDesc} {x:Operand} {y:pR} {e:aT} (ho:o.op = .makeInterface t x) (hd:∀ t,o.dst=some t→t < n∧¬ U t)
  (ht:P.underlying t=some dt) (NP:∀ms,dt≠.interface ms) (hx:lQ n x=some y) (hu:∀t∈y.tmps,¬U t) (he:aL S H (.iface t y)=some e):sS P w0 n U g S H a w o e:=by
 have hv:=R.ev hx hu;simp only[aL]at he;split at he
 case isFalse=>cases he
 rename_i kR;cases he
 refine sS.val R (λt h=>(hd t h).1) (c:=.iface t (a.eval x)) ?_ (.data _ _ (.iface _ _ _ (hv.j_ (AV.K7 kR)).vw)) λloc=>trivial
 simp only[execOp,ho,Instr.makeInterface,afW,agn ht,Result.andThen_ok]
 cases dt<;>first|rfl|exact absurd rfl (NP _)
theorem Zb (R:Rel P w0 n U g S H a w) {o:Oper} {s:TypeId} {fs:Array Field} {f:Field} {i:TypeInfo} {j:Nat} {x:Operand} {y:pR} {e:aT} (ho:o.op = .fieldAddr s x j) (hd:∀ t,o.dst=some t→t < n∧¬ U t)
  (hs:P.underlying s=some (.struct fs)) (hf:fs[j]?=some f) (hi:P.info? f.type=some i) (hz:i.size≠0) (hx:lQ n x=some y) (hu:∀t∈y.tmps,¬U t)
  (he:aL S H (.fieldAddr f.offset y)=some e):sS P w0 n U g S H a w o e:=by
 have hv:=R.ev hx hu;simp only[aL]at he;generalize UE:AL.ev S y=q at he hv;generalize Pe:a.eval x=c at hv
 have run:∀b off,c=.pointer (some ⟨b,off,none⟩)->(execOp a.eval o).run P w=.ok (.value (.pointer (some ⟨b,off+f.offset,none⟩))) w:=by
  rintro b off rfl;simp[execOp,ho,Pe,Instr.fieldAt,agn hs,hf,Instr.sureAddr,fieldPlace,sizeOf,typeInfo,hi,hz,ahn]
 cases hv with
 |box k off b sC=>
  cases he
  exact sS.val R (λt h=>(hd t h).1) (run _ _ rfl) (.box _ _ _ sC) λ_=>trivial
 |data v c h=>
  cases h<;>simp only at he<;>try cases he
  rename_i cs b off vs h1 hc hr
  refine sS.val R (λt h=>(hd t h).1) (run _ _ rfl) (.data _ _ (.ref _ _ _ (λk=>vs (f.offset+k)) (λk hk=>?_) (λk hk=>?_) λk hk=>?_)) λ_=>trivial
  .simp only[agN]at hk;simp only[aik];exact h1 _ (by omega)
  .simp only[agN]at hk;have:=hc (f.offset+k) (by omega);rwa [show off+f.offset+k=off+(f.offset+k) by omega]
  .simp only[agN]at hk;simp only[aik];exact hr _ (by omega)
 |func=>cases he
 |uL=>cases he
 |bB c=>cases he
theorem Y' (R:Rel P w0 n U g S H a w) {o:Oper} {s el:TypeId} {i:TypeInfo} {x1 x2:Operand} {y1 y2:pR} {e:aT} (ho:o.op = .indexAddr s x1 x2) (hd:∀ t,o.dst=some t→t < n∧¬ U t)
  (hs:P.underlying s=some (.slice el)) (hi:P.info? el=some i) (Eu:lQ n x1=some y1) (AJ:lQ n x2=some y2) (TI:∀t∈y1.tmps,¬U t) (TG:∀t∈y2.tmps,¬U t)
  (he:aL S H (.indexAddr i.size y1 y2)=some e):sS P w0 n U g S H a w o e:=by
 have sV:=R.ev Eu TI;have qD:=R.ev AJ TG;simp only[aL]at he;generalize AL.ev S y1=q1 at he sV;generalize AL.ev S y2=q2 at he qD;generalize yL:a.eval x1=c1 at sV;generalize K4:a.eval x2=c2 at qD;split at he
 case h_2=>cases he
 rename_i oo es k;cases qD;rename_i qD;cases qD;split at he
 case isFalse=>cases he
 rename_i hk;split at he
 case h_2=>cases he
 rename_i v hv;split at he
 case isFalse=>cases he
 rename_i bL;cases he;obtain⟨aw,rfl⟩:=af0.1 hv;cases sV;rename_i sV
 cases sV with
 |qw=>simp at aw
 |sF=>simp at aw
 |slice _ _ b off cap size cs iV wv Dj h1 hc hr=>
  have hss:size=i.size:=by rw[<-Dj _ aw];exact bL
  subst hss
  have j9:k<(es.length:Int):=by omega
  have kW:∀q,q<(es[k.toNat]).cells.length->k.toNat*i.size+q<es.length*i.size:=by
   intro q hq;rw[bL]at hq
   calc k.toNat*i.size+q<k.toNat*i.size+i.size:=by omega
    _=(k.toNat+1)*i.size:=by rw[ail]
    _<=es.length*i.size:=aho _ (by omega)
  refine sS.val R (λt h=>(hd t h).1) (c:=.pointer (some ⟨b,off+k.toNat*i.size,none⟩)) ?_ (.data _ _ (.ref _ _ _ (λq=>cs (k.toNat*i.size+q)) (λq hq=>h1 _ aw q hq) (λq hq=>?_) λq hq=>hr _ aw q hq)) λ_=>trivial
  .simp[execOp,ho,yL,K4,Instr.indexAt,asIntOf,agn hs,hk,j9,sizeOf,typeInfo,hi,ahn]
  .have:=hc (k.toNat*i.size+q) (kW q hq);rwa [<-ahU]at this
theorem aaH (R:Rel P w0 n U g S H a w) {o:Oper} {s:TypeId} {x1 x2:Operand} {y1 y2:pR} {e:aT} (ho:o.op = .index s x1 x2) (hd:∀ t,o.dst=some t→t < n∧¬ U t)
  (hs:P.underlying s=some .string) (Eu:lQ n x1=some y1) (AJ:lQ n x2=some y2) (TI:∀t∈y1.tmps,¬U t) (TG:∀t∈y2.tmps,¬U t)
  (he:aL S H (.uw y1 y2)=some e):sS P w0 n U g S H a w o e:=by
 have sV:=R.ev Eu TI;have qD:=R.ev AJ TG;simp only[aL]at he;generalize AL.ev S y1=q1 at he sV;generalize AL.ev S y2=q2 at he qD;generalize yL:a.eval x1=c1 at sV;generalize K4:a.eval x2=c2 at qD;split at he
 case h_2=>cases he
 rename_i l k;cases qD;rename_i qD;cases qD;split at he
 case isFalse=>cases he
 rename_i hk;split at he
 case h_2=>cases he
 rename_i v hv;cases he;cases sV;rename_i sV;cases sV
 have hb:(⟨l.toArray⟩:ByteArray)[k.toNat]?=some v:=by
  obtain⟨aw,rfl⟩:=af0.1 hv;rw[ByteArray.getElem?_lt' _ _ (by simpa[ByteArray.size]using aw)]
  rfl
 refine sS.val R (λt h=>(hd t h).1) (c:=.int .u8 v.toNat) ?_ (.data _ _ (.int _ _)) λ_=>trivial
 simp[execOp,ho,yL,K4,Instr.index,asIntOf,agn hs,hk,hb]
theorem aad (R:Rel P w0 n U g S H a w) {o:Oper} {j:Nat} {x:Operand} {y:pR} {e:aT} (ho:o.op = .extract x j) (hd:∀ t,o.dst=some t→t < n∧¬ U t)
  (hx:lQ n x=some y) (hu:∀t∈y.tmps,¬U t) (he:aL S H (.extract y j)=some e):sS P w0 n U g S H a w o e:=by
 have hv:=R.ev hx hu;simp only[aL]at he;generalize UE:AL.ev S y=q at he hv;generalize Pe:a.eval x=c at hv
 cases hv<;>(try cases he;done)
 rename_i h
 cases h<;>simp only at he<;>try cases he
 rename_i cs vs hl hr;simp only[afX]at he;obtain⟨v,hv,rfl⟩:=he;obtain⟨aw,rfl⟩:=af0.1 hv
 have jL:j<vs.size:=by omega
 refine sS.val R (λt h=>(hd t h).1) (c:=vs[j]) ?_ (.data _ _ (hr j aw jL).aI) λloc=>Hh _ _ _
 simp[execOp,ho,Pe,Instr.extract,jL]
theorem aaB (R:Rel P w0 n U g S H a w) {o:Oper} {cl:Call} {s:TypeId} {ds:TypeDesc} {x:Operand} {y:pR} {e:aT} (ho:o.op = .call cl) (yS:cl.callee = .builtin .len) (Zc:cl.args = #[x]) (xi:cl.argTypes = #[s])
  (hd:∀t,o.dst=some t->t<n/\¬U t) (hs:P.underlying s=some ds) (hx:lQ n x=some y) (hu:∀t∈y.tmps,¬U t)
  (he:(ds=.string/\aL S H (.Eh y)=some e)\/((∃el,ds=.slice el)/\aL S H (.lO y)=some e)):sS P w0 n U g S H a w o e:=by
 have hv:=R.ev hx hu;simp only[aL]at he;generalize UE:AL.ev S y=q at he hv;generalize Pe:a.eval x=c at hv
 have fin:∀(m:Nat),(Builtin.len_ #[s] o.type #[c]).run P w=.ok (.int .i64 m) w->sS P w0 n U g S H a w o { v:=.int .i64 m }:=by
  intro m hm
  refine sS.val R (λt h=>(hd t h).1) (c:=.int .i64 m) ?_ (.data _ _ (.int _ _)) λ_=>trivial
  unfold execOp;simp[ho,yS,Zc,xi,resolve,invoke,builtin,Pe,hm]
 rcases he with⟨rfl,he⟩|⟨⟨el,rfl⟩,he⟩
 .cases hv<;>(try cases he;done)
  rename_i h
  cases h<;>simp only at he<;>try cases he
  exact fin _ (by simp[Builtin.len_,agn hs,goInt];rfl)
 .cases hv<;>(try cases he;done)
  rename_i h
  cases h<;>simp only at he<;>try cases he
  .exact fin 0 (by simp[Builtin.len_,agn hs,goInt])
  .exact fin 0 (by simp[Builtin.len_,agn hs,goInt])
  .exact fin _ (by simp[Builtin.len_,agn hs,goInt])
theorem Yi (R:Rel P w0 n U g S H a w) {o:Oper} {cl:Call} {x1 x2:Operand} {y1 y2:pR} {e:aT} (ho:o.op = .call cl) (Zc:cl.args = #[x1,x2])
  (hd:∀t,o.dst=some t->t<n/\¬U t) (Eu:lQ n x1=some y1) (AJ:lQ n x2=some y2) (TI:∀t∈y1.tmps,¬U t) (TG:∀t∈y2.tmps,¬U t)
  (he:(cl.callee=.builtin .max/\aL S H (.max y1 y2)=some e)\/(cl.callee=.builtin .min/\aL S H (.min y1 y2)=some e)):sS P w0 n U g S H a w o e:=by
 have sV:=R.ev Eu TI;have qD:=R.ev AJ TG;simp only[aL]at he;generalize AL.ev S y1=q1 at he sV;generalize AL.ev S y2=q2 at he qD;generalize yL:a.eval x1=c1 at sV;generalize K4:a.eval x2=c2 at qD
 rcases he with⟨yS,he⟩|⟨yS,he⟩
 all_goals
  split at he
  case h_2=>cases he
  rename_i p q;cases sV;rename_i sV;cases sV;cases qD;rename_i qD;cases qD;cases he
 .refine sS.val R (λt h=>(hd t h).1) (c:=.int .i64 (max p q)) ?_ (.data _ _ (.int _ _)) λ_=>trivial
  have:(if q>p then q else p)=max p q:=by split<;>omega
  simp[execOp,ho,yS,Zc,resolve,invoke,builtin,yL,K4,Builtin.max_,Builtin.max2,this]
 .refine sS.val R (λt h=>(hd t h).1) (c:=.int .i64 (min p q)) ?_ (.data _ _ (.int _ _)) λ_=>trivial
  have:(if q<p then q else p)=min p q:=by split<;>omega
  simp[execOp,ho,yS,Zc,resolve,invoke,builtin,yL,K4,Builtin.min_,Builtin.min2,this]
end
def Ts(Pr:Nat->Nat->Prop)(w:World)(cs:List AV)(vs:Array Value):Prop:=
 cs.length=vs.size/\(∀i (h:i<cs.length)(h':i<vs.size),RD Pr w cs[i] vs[i])/\∀i (h:i<cs.length),(cs[i]).one=true
theorem RD.rds{Pr:Nat->Nat->Prop}{w:World}{v:AV}{c:Value}(h:RD Pr w v c)(hs:v.storable=true):Ts Pr w v.cells c.cells:=
 ⟨h.cells.1,h.cells.2,h.cells_one hs⟩
theorem AV.Ex{v:AV}:v.aI.storable=v.storable:=by
 cases v<;>try rfl
 rename_i o es;cases o<;>rfl
theorem AV.Yd{v:AV}:v.aI.cells.length=v.cells.length:=by
 cases v<;>try rfl
 rename_i o es;cases o<;>rfl
theorem AV.aaR{v:AV}:v.vw.storable=v.storable:=by cases v<;>rfl
theorem AV.YJ{v:AV}:v.vw.cells.length=v.cells.length:=by cases v<;>simp[AV.vw,AV.cm,AV.cells]
theorem HK (Pr:Nat→Nat→Prop) (w:World):∀ {vs:List Value} {cs:List AV},JC vs=some cs→Ts Pr w cs vs.toArray∧(∀ v∈cs,v.OJ) ∧
  ∀(P:Program)(g:Gh)(f:Nat->Loc) i (h:i<cs.length)(h':i<vs.length),A2 P w g (f i) cs[i] vs[i]
 |[],cs,h=>by cases h;exact⟨⟨rfl,λi h=>by simp at h,λi h=>by simp at h⟩,λv h=>by simp at h,λP g f i h=>by simp at h⟩
 |v::vs,cs,h=>by
  simp only[JC]at h;split at h
  .rename_i x xs hx pF;split at h
   case isFalse=>cases h
   rename_i kR;cases h;obtain⟨⟨h1,h2,h3⟩,h4,h5⟩:=HK Pr w pF;have hd:RD Pr w x v:=(abz Pr (λ_=>none) w hx).j_ (AV.K7 kR);refine⟨⟨by simp at h1⊢;exact h1,λi hi gq=>?_,λi hi=>?_⟩,λy hy=>?_,λP g f i hi gq=>?_⟩
   .cases i with
    |zero=>exact hd
    |succ i=>exact h2 i (by simpa using hi) (by simpa using gq)
   .cases i with
    |zero=>
     show x.one=true;unfold PX at hx
     split at hx<;>first|cases hx|skip
     all_goals rfl
    |succ i=>exact h3 i (by simpa using hi)
   .simp at hy;rcases hy with rfl|hy
    .exact Y0 hx
    .exact h4 y hy
   .cases i with
    |zero=>exact YC hx _ _ _ _
    |succ i=>exact h5 P g (λi=>f (i+1)) i (by simpa using hi) (by simpa using gq)
  .cases h
theorem Zt{cs vs:List AV}{off:Nat}(h:off+vs.length<=cs.length):(bo cs off vs).length=cs.length:=by
 simp[bo];omega
theorem VD {cs vs:List AV} {off:Nat} (h:off+vs.length≤cs.length) (i:Nat) :
  (bo cs off vs)[i]?=if off<=i/\i<off+vs.length then vs[i-off]? else cs[i]?:=by
 unfold bo
 by_cases h1:i<off
 .rw[if_neg (by omega),agd,ahl (by simp;omega)];simp[h1]
 .by_cases h2:i<off+vs.length
  .rw[if_pos ⟨by omega,h2⟩,ahl (by simp;omega),ahr (by simp;omega)]
   congr 1
   simp;omega
  .rw[if_neg (by omega),ahr (by simp;omega)];simp only[ahA]
   congr 1
   simp;omega
theorem Ts.get{Pr:Nat->Nat->Prop}{w:World}{cs:List AV}{vs:Array Value}(h:Ts Pr w cs vs){i:Nat}{v:AV}{c:Value}(hv:cs[i]?=some v)(hc:vs[i]?=some c):RD Pr w v c:=by
 obtain⟨h1,rfl⟩:=af0.1 hv;obtain⟨h2,rfl⟩:=afe.1 hc;exact h.2.1 i h1 h2
theorem Ts.one{Pr:Nat->Nat->Prop}{w:World}{cs:List AV}{vs:Array Value}(h:Ts Pr w cs vs){i:Nat}{v:AV}(hv:cs[i]?=some v):v.one=true:=by
 obtain⟨h1,rfl⟩:=af0.1 hv;exact h.2.2 i h1
theorem Ts.mk'{Pr:Nat->Nat->Prop}{w:World}{cs:List AV}{vs:Array Value}(h:cs.length=vs.size)(hr:∀(i:Nat)(v:AV)(c:Value),cs[i]?=some v->vs[i]?=some c->RD Pr w v c)(h1:∀(i:Nat)(v:AV),cs[i]?=some v->v.one=true):Ts Pr w cs vs:=
 ⟨h,λi hi gq=>hr i _ _ (ae9 hi) (agQ gq),λi hi=>h1 i _ (ae9 hi)⟩
theorem Ts.bo {Pr:Nat→Nat→Prop} {w:World} {cs vs:List AV} {xs ys:Array Value} {off:Nat} (h:Ts Pr w cs xs) (hv:Ts Pr w vs ys) (hl:off+vs.length≤cs.length)
  (zs:Array Value) (hz:zs.size=xs.size) (jy:∀k,zs[k]?=if off<=k/\k<off+ys.size then ys[k-off]? else xs[k]?):Ts Pr w (bo cs off vs) zs:=by
 have sV:=hv.1;have h1:=h.1;refine Ts.mk' (by rw[Zt hl,hz];exact h.1) (λi v c e1 e2=>?_) (λi v e1=>?_)
 .rw[VD hl]at e1;rw[jy]at e2;rw[<-sV]at e2;split at e1
  .rename_i hh;rw[if_pos hh]at e2;exact hv.get e1 e2
  .rename_i hh;rw[if_neg hh]at e2;exact h.get e1 e2
 .rw[VD hl]at e1;split at e1
  .exact hv.one e1
  .exact h.one e1
def U0(n:Nat)(place:Nat->Option (Nat×Nat)):List (Nat×Operand)->Option (List (Nat×Nat×pR))
 |[]=>some []
 |(i,x)::rest=>match place i,lQ n x,U0 n place rest with
  |some (off,size),some y,some r=>some ((off,size,y)::r)
  |_,_,_=>none
section
variable{P:Program}{w0:World}{n:Nat}{U:Nat->Prop}{g:Gh}{S:aF}{H:aK}{a:Act}{w:World}
theorem WT (R:Rel P w0 n U g S H a w) {place:Nat→Option (Nat×Nat)}:∀ {ps:List (Nat×Operand)} {qs:List (Nat×Nat×pR)},U0 n place ps=some qs →
  (∀q∈qs,∀t∈q.2.2.tmps,¬U t)->∀{cs kd:List AV}{vs:Array Value},Ts g.Pr w cs vs->bC cs (qs.map λ(o,s,x)=>(o,s,ev S x))=some kd->
  ∃Oa,Instr.fill place vs (ps.map λ(i,x)=>(i,a.eval x))=some Oa/\Ts g.Pr w kd Oa
 |[],qs,h,_,cs,kd,vs,hr,he=>by
  cases h;simp only[afB,bC,agk]at he;subst he;exact⟨vs,rfl,hr⟩
 |(i,x)::ps,qs,h,hu,cs,kd,vs,hr,he=>by
  simp only[U0]at h;split at h
  case h_2=>cases h
  rename_i off size y r hp hx ju;cases h;simp only[afv,bC]at he;split at he
  case isFalse=>cases he
  rename_i hc;obtain⟨yL,K4,Yz⟩:=hc;have hv:=(R.ev hx (hu _ aft)).j_ (AV.K7 Yz);have hvd:=hv.aI.rds (by rw[AV.Ex];exact Yz)
  have bL:(a.eval x).cells.size=size:=by rw[<-hv.cells.1];exact yL
  have yS:cs.length=vs.size:=hr.1;obtain⟨k1,k2⟩:=Great.foldl_set off (a.eval x).cells.toList 0 vs
  have kh:=hr.bo (off:=off) hvd (by rw[AV.Yd,yL];exact K4)
   (((a.eval x).cells.toList.zipIdx 0).foldl (λcs (x:Value×Nat)=>cs.setIfInBounds (off+x.2) x.1) vs) k1 (λk=>by
    rw[k2 k];simp only[Nat.add_zero,Array.length_toList,ahG]
    by_cases kW:off<=k/\k<off+(a.eval x).cells.size
    .rw[if_pos kW,if_pos ⟨kW.1,kW.2,by omega⟩]
    .rw[if_neg kW,if_neg (by omega)])
  obtain⟨Oa,e1,e2⟩:=WT R ju (λq hq=>hu q (afk _ hq)) kh he;refine⟨Oa,?_,e2⟩;simp only[afv,Instr.fill,hp];rw[if_neg (by simp;omega)];rw[<-e1]
  congr 1
  rw[<-Array.foldl_toList,Array.toList_zipIdx]
theorem abH (R:Rel P w0 n U g S H a w) {o:Oper} {t:TypeId} {it:TypeInfo} {fs:Array Field} {z:Value} {places:List (Nat×Nat)} {zs:List AV} {ps:Array (Nat×Operand)} {qs:List (Nat×Nat×pR)} {e:aT}
  (ho:o.op=.build t ps) (hd:∀t,o.dst=some t->t<n/\¬U t) (hi:P.info? t=some it) (mJ:P.underlying t=some (.struct fs)) (hz:it.zero=some z)
  (HW:fs.toList.mapM (λf=>(P.info? f.type).map λi=>(f.offset,i.size))=some places) (TD:JC z.cells.toList=some zs) (hq:U0 n (places[·]?) ps.toList=some qs)
  (hu:∀q∈qs,∀t∈q.2.2.tmps,¬U t) (he:aL S H (.build (zs.map AV.aI) qs)=some e):sS P w0 n U g S H a w o e:=by
 simp only[aL,afX]at he;obtain⟨kd,hc,rfl⟩:=he;have hz0:=(HK g.Pr w TD).1
 have TV:Ts g.Pr w (zs.map AV.aI) z.cells:=by
  refine⟨by simpa using hz0.1,λi h h'=>?_,λi h=>?_⟩
  .simp only[afi]at h;have:=(hz0.2.1 i h (by simpa using h')).aI;simpa using this
  .simp only[afi]at h;have:=hz0.2.2 i h;simp only[afl];exact(AV.Ti _).trans this
 obtain⟨Oa,h1,h2⟩:=WT R hq hu TV hc
 have hb:P.built t (ps.map λ(i,x)=>(i,a.eval x)).toList=some Oa:=by
  unfold Program.built;simp only[hi,mJ,hz,HW,aiL];rw[<-h1]
  congr 1
  funext i
  simp
 refine sS.val R (λt h=>(hd t h).1) (c:=.agg Oa) ?_ (.data _ _ (.agg _ _ h2.1 h2.2.2 h2.2.1)) λ_=>trivial
 unfold execOp;simp only[ho,afW,ais w t _ Oa hb,Result.andThen_ok]
 rfl
theorem acY (R:Rel P w0 n U g S H a w) {o:Oper} {fn:Fn} {f1 c1:Array Operand} {f2 c2:List pR} {e:aT} (ho:o.op = .makeFunc fn f1 c1) (hd:∀ t,o.dst=some t→t < n∧¬ U t)
  (hf:Tx n f1.toList=some f2) (hc:Tx n c1.toList=some c2) (huf:∀y∈f2,∀t∈y.tmps,¬U t) (huc:∀y∈c2,∀t∈y.tmps,¬U t) (he:aL S H (.JU fn f2 c2)=some e):sS P w0 n U g S H a w o e:=by
 simp only[aL,agk]at he;subst he;obtain⟨l1,r1⟩:=R.evs hf huf;obtain⟨l2,r2⟩:=R.evs hc huc
 refine sS.val R (λt h=>(hd t h).1) (c:=.func fn (f1.map a.eval) (c1.map a.eval)) ?_ ?_ λ_=>trivial
 .simp[execOp,ho,Instr.makeFunc]
 .refine .func fn _ _ _ _ (by simpa using l1) (by simpa using l2) (λi h h'=>?_) (λi h h'=>?_)
  .simp only[afi,Array.size_map]at h h';have:=(r1 i h (by simpa using h')).aI;simpa using this
  .simp only[afi,Array.size_map]at h h';have:=(r2 i h (by simpa using h')).aI;simpa using this
theorem Rel.newRow (R:Rel P w0 n U g S H a w) (d:Option Nat) (hd:∀ t,d=some t→t < n∧¬ U t) (el:TypeId) (i:TypeInfo) (hi:P.info? el=some i) (es:List AV) (cells:Array Value)
  (bL:∀j (h:j<es.length),(es[j]).cells.length=i.size) (kR:∀j (h:j<es.length),(es[j]).storable=true) (hl:cells.size=es.length*i.size) (hlen:es.length<=maxLen)
  (hr:∀j (h:j<es.length),∃c,RD g.Pr w es[j] c/\∀k u,c.cells[k]?=some u->cells[j*i.size+k]?=some u):
  ∃g',g'.base=g.base/\g'.old=g.old/\Rel P w0 n U g' (Go.AL.aY S d (.slice (.own el) es)) H (a.put d (.slice (some ⟨w.heap.size,0,none⟩) es.length es.length)) (w.alloc (.cells cells el)):=by
 have hb:Below w.heap.size w (w.alloc (.cells cells el)):=(aga _ _).alloc (afg _) _
 have hle:g.base<=w.heap.size:=by rw[R.base];exact R.below.size
 let g':Gh:={ g with hi:=av g.hi w.heap.size (es.length*i.size),owner:=av g.owner w.heap.size (d.map .slot) }
 have R':Rel P w0 n U g' S H a (w.alloc (.cells cells el)):=R.grow (g':=g') hb rfl rfl rfl
  (λb hb=>⟨cN _ _ (by omega),cN _ _ (by omega)⟩)
  (λb hb=>by
   have vn:w.heap.size+1<=b:=by simpa using hb
   exact⟨(cN _ _ (by omega)).trans (R.fresh b (by omega)).1,(cN _ _ (by omega)).trans (R.fresh b (by omega)).2⟩)
 have T6:∀k,k<es.length*i.size->g'.Pr w.heap.size k:=λk hk=>.inr ⟨hle,by show k<av g.hi _ _ _;rw[bm];exact hk⟩
 have aei:bz g.Pr g'.Pr w (w.alloc (.cells cells el)):=by
  refine bz.jV (λb aw=>hb.block b aw) λb k aw hp=>?_
  unfold Gh.Pr at*
  show(b<g.base/\g.old.c b k)\/(g.base<=b/\k<av g.hi _ _ b)
  rw[cN _ _ (by omega)];exact hp
 refine⟨g',rfl,rfl,R'.aY d _ _ (λt h=>(hd t h).1) (.data _ _ ?_) ?_⟩
 .refine .slice _ es w.heap.size 0 es.length i.size (λk=>cells.getD k undef) (afg _) (λh=>by cases h) bL (λj h k hk=>?_) (λk hk=>⟨by rw[af6];exact T6 k hk,?_⟩) (λj h k hk=>?_)
  .obtain⟨c,h1,h2⟩:=hr j h;exact h1.cells_one (kR j h) k hk
  .simp[hl,hk]
  .obtain⟨c,h1,h2⟩:=hr j h
   have ee:k<c.cells.size:=by rw[<-h1.cells.1];exact hk
   have:cells.getD (j*i.size+k) undef=c.cells[k]:=by simp[h2 k _ (agQ ee)]
   rw[this];exact(h1.cells.2 k hk ee).mono aei
 .intro t ht;subst ht;refine⟨i,cells.toList,w.heap.size,hi,⟨by simp[hl],.inr ⟨w.heap.size,es.length,cells,rfl,hle,aiO w _,afg _,hlen,hl,?_⟩⟩,rfl,?_,?_⟩
  .exact afh (by simp[hl])
  .show av g.owner _ _ _=_;rw[bm];rfl
  .show av g.hi _ _ _=_;rw[bm]
theorem YN (R:Rel P w0 n U g S H a w) {o:Oper} {t el:TypeId} {i:TypeInfo} {z:Value} {len:Nat} {ps:Array (Nat×Operand)} {xs:List Operand} {ys:List pR} {e:aT}
  (ho:o.op=.buildSlice t len ps) (hd:∀t,o.dst=some t->t<n/\¬U t) (mJ:P.underlying t=some (.slice el)) (hi:P.info? el=some i) (hz:i.zero=some z) (jb:0<i.size)
  (ju:ps.toList=(xs.zipIdx 0).map λx=>(x.2,x.1)) (hlen:xs.length=len) (hlz:0<len) (hx:Tx n xs=some ys) (hu:∀y∈ys,∀t∈y.tmps,¬U t)
  (he:aL S H (.buildSlice t el i.size ys)=some e):sS P w0 n U g S H a w o e:=by
 simp only[aL]at he;split at he
 case isFalse=>cases he
 rename_i hc;cases he;simp only[afa,aff]at hc;obtain⟨yL,K4⟩:=hc;simp only[aM,afC,afa,afY]at yL;obtain⟨l1,r1⟩:=R.evs hx hu
 have DG:ys.length=len:=by omega
 have hR:∀j (h:j<ys.length),RD g.Pr w (AL.ev S ys[j]) ((xs.map a.eval)[j]'(by simp;omega))/\(AL.ev S ys[j]).cells.length=i.size/\(AL.ev S ys[j]).storable=true:=by
  intro j h;have hm:=yL (AL.ev S ys[j]) (afp.2 ⟨_,ae_ h,rfl⟩);refine⟨?_,hm.2,hm.1⟩;have:=(r1 j h (by omega)).j_ (AV.K7 hm.1);simpa using this
 have IQ:∀v∈xs.map a.eval,v.cells.size=i.size:=by
  intro v hv;obtain⟨j,hj,rfl⟩:=afD hv;simp only[afi]at hj;obtain⟨h1,h2,h3⟩:=hR j (by omega);rw[<-h1.cells.1];exact h2
 have aek:((Array.range (len*i.size)).map (z.cells[· % z.cells.size]!)).size=len*i.size:=by simp
 have abS:=Great.fill_whole jb (xs.map a.eval) ((Array.range (len*i.size)).map (z.cells[· % z.cells.size]!)) IQ (by rw[aek];simp[hlen])
 have aaQ:(ps.map λ(i,x)=>(i,a.eval x)).toList=((xs.map a.eval).zipIdx 0).map λx=>(x.2,x.1):=by
  rw[aiL,ju];simp[List.zipIdx_map]
 have eh:=run_buildSlice (P:=P) w t el len (ps.map λ(i,x)=>(i,a.eval x)) ((xs.map a.eval).flatMap λv=>v.cells.toList).toArray i z mJ hi hz (by rw[DG]at K4;omega)
  (by have:=Nat.mul_pos hlz jb;omega) (by rw[aaQ];exact abS)
 have abT:=Great.flat_get jb (xs.map a.eval) IQ
 obtain⟨g',e1,e2,R'⟩:=R.newRow o.dst hd el i hi ((ys.map (AL.ev S)).map AV.vw) ((xs.map a.eval).flatMap λv=>v.cells.toList).toArray
  (λj h=>by simp only[afi]at h;simp only[afl,AV.YJ];exact(hR j h).2.1)
  (λj h=>by simp only[afi]at h;simp only[afl,AV.aaR];exact(hR j h).2.2)
  (by
   simp only[aiy,afi]
   have hh:∀(l:List Value),(∀v∈l,v.cells.size=i.size)->(l.flatMap λv=>v.cells.toList).length=l.length*i.size:=by
    intro l
    induction l with
    |nil=>simp
    |cons v l ih=>intro h;simp only[agP,afm,List.length_cons,Array.length_toList,h v aft,ih (λu hu=>h u (afk _ hu)),ail];omega
   rw[hh _ IQ,afi,l1])
  (by simp only[afi];have:=Nat.le_mul_of_pos_right ys.length jb;unfold maxLen;omega)
  (λj h=>by
   simp only[afi]at h;obtain⟨h1,h2,h3⟩:=hR j h
   have fj:j<(xs.map a.eval).length:=by simp;omega
   refine⟨(xs.map a.eval)[j],by simpa using h1.vw,λk u hk=>?_⟩
   have ee:k<i.size:=by
    rw[<-IQ _ (ae_ fj)];exact(afe.1 hk).1
   simp only[aiY];rw[abT,show(j*i.size+k)/i.size=j by rw[ag6,Nat.mul_add_div jb,aiV ee,Nat.add_zero],show(j*i.size+k) % i.size=k by rw[ag6,Nat.mul_add_mod,Nat.mod_eq_of_lt ee],ae9 fj]
   exact hk)
 refine⟨.slice (some ⟨w.heap.size,0,none⟩) len len,w.alloc (.cells ((xs.map a.eval).flatMap λv=>v.cells.toList).toArray el),g',.inl ?_,e1,e2,?_⟩
 .unfold execOp;simp only[ho,afW,eh,Result.andThen_ok]
  rfl
 .have:((ys.map (AL.ev S)).map AV.vw).length=len:=by simp[DG]
  rw[this]at R';exact R'
end
section
variable{P:Program}{w0:World}{n:Nat}{U:Nat->Prop}{g:Gh}{S:aF}{H:aK}{a:Act}{w:World}
def adC(S:aF)(y:pR):aF:=match bu y with|some t=>av S t (S t).aI|none=>S
theorem Rel.take (R:Rel P w0 n U g S H a w) {x:Operand} {y:pR} (hx:lQ n x=some y) (hu:∀ t∈y.tmps,¬ U t) (loc:Loc) :
  ∃g1,g1.base=g.base/\g1.old=g.old/\g1.al=g.al/\g1.hi=g.hi/\Rel P w0 n U g1 (adC S y) H a w/\A2 P w g1 loc (AL.ev S y) (a.eval x):=by
 cases x with
 |const c=>
  simp only[lQ,afX]at hx;obtain⟨v,hc,rfl⟩:=hx;exact⟨g,rfl,rfl,rfl,rfl,R,YC hc _ _ _ _⟩
 |global k=>cases hx
 |func f=>cases hx;exact⟨g,rfl,rfl,rfl,rfl,R,trivial⟩
 |tmp t=>
  simp only[lQ]at hx;split at hx
  case isFalse=>cases hx
  rename_i ht;cases hx;have hut:=hu t (by simp[pR.tmps]);have ho:=R.own t ht hut
  have R1:Rel P w0 n U g (av S t (S t).aI) H a w:=R.weaken _ λk hk huk c Dn ho=>by
   by_cases h:k=t
   .subst h;rw[bm];exact⟨Dn.aI,Hh _ _ _⟩
   .rw[cN _ _ h];exact⟨Dn,ho⟩
  have R2:=R1.aaI (.slot t) (some loc) (λk hk _ _=>by cases hk;rw[bm];exact AV.T7 _) (λi j cs h=>by cases h);refine⟨{ g with owner:=λb=>if g.owner b=some (.slot t)then some loc else g.owner b },rfl,rfl,rfl,rfl,R2,?_⟩;show A2 P w _ loc (S t) (a.tmps.getD t undef);generalize S t=v at ho;generalize a.tmps.getD t undef=c at ho
  cases v<;>try trivial
  rename_i oo es
  cases oo with
  |view=>trivial
  |nil=>exact ho
  |own e=>
   obtain⟨i,xs,b,h1,h2,h3,h4,h5⟩:=ho;refine⟨i,xs,b,h1,h2,h3,?_,h5⟩;show(if g.owner b=some (.slot t)then some loc else g.owner b)=_;rw[if_pos h4]
theorem Rel.acD (R:Rel P w0 n U g S H a w) {x:Operand} {y:pR} (hx:lQ n x=some y) (hu:∀ t∈y.tmps,¬ U t) {e:TypeId} {es:List AV} (hy:AL.ev S y = .slice (.own e) es) :
  ∃g1 i xs b,g1.base=g.base/\g1.old=g.old/\g1.al=g.al/\g1.hi=g.hi/\Rel P w0 n U g1 (adC S y) H a w/\
   P.info? e=some i/\w.ownsRow g.base e i.size (a.eval x) es.length xs/\(a.eval x).ownBlock=some b/\g1.owner b=none/\g.hi b=es.length*i.size/\(∀j,g.al j≠some b)/\(∀o,g.old.bI b≠some o):=by
 cases x with
 |const c=>
  simp only[lQ,afX]at hx;obtain⟨v,hc,rfl⟩:=hx;have:=Y0 hc;rw[show v=AL.ev S (.c v)from rfl,hy]at this;cases this
 |global k=>cases hx
 |func f=>cases hx;cases hy
 |tmp t=>
  simp only[lQ]at hx;split at hx
  case isFalse=>cases hx
  rename_i ht;cases hx;have hut:=hu t (by simp[pR.tmps]);have ho:=R.own t ht hut
  change S t=_ at hy
  have R1:Rel P w0 n U g (av S t (S t).aI) H a w:=R.weaken _ λk hk huk c Dn ho=>by
   by_cases h:k=t
   .subst h;rw[bm];exact⟨Dn.aI,Hh _ _ _⟩
   .rw[cN _ _ h];exact⟨Dn,ho⟩
  have R2:=R1.aaI (.slot t) none (λk hk _ _=>by cases hk;rw[bm];exact AV.T7 _) (λi j cs h=>by cases h);rw[hy]at ho;obtain⟨i,xs,b,h1,h2,h3,h4,h5⟩:=ho;refine⟨{ g with owner:=λb=>if g.owner b=some (.slot t)then none else g.owner b },i,xs,b,rfl,rfl,rfl,rfl,R2,h1,h2,h3,?_,h5,λj hj=>?_,λo hk=>?_⟩
  .show(if g.owner b=some (.slot t)then none else g.owner b)=none;rw[if_pos h4]
  .obtain⟨_,_,_,_,_,_,_,k5,_⟩:=R.box j b hj;rw[h4]at k5;cases k5
  .obtain⟨_,_,_,k4,_⟩:=R.kept b o hk;rw[h4]at k4;cases k4
theorem ZV(v:AV):v.cg.length=v.cells.length:=by cases v<;>simp[AV.cg,AV.cells]
theorem RD.cg{Pr:Nat->Nat->Prop}{v:AV}{c:Value}(h:RD Pr w v c)(hs:v.storable=true):Ts Pr w v.cg c.cells:=by
 cases v<;>try exact h.rds hs
 rename_i cs;have hh:=h.rds hs;refine Ts.mk' (by simpa[AV.cg,AV.cells]using hh.1) (λi v c e1 e2=>?_) (λi v e1=>?_)
 .simp only[AV.cg,afG,afX]at e1;obtain⟨u,h1,rfl⟩:=e1;exact(hh.get h1 e2).aI
 .simp only[AV.cg,afG,afX]at e1;obtain⟨u,h1,rfl⟩:=e1;exact(AV.Ti _).trans (hh.one h1)
theorem kS (R:Rel P w0 n U g S H a w) {o:Oper} {hr:HR} {t:TypeId} {i:TypeInfo} {x1 x2:Operand} {y1 y2:pR} {e:aT} (ho:o.op = .store t x1 x2) (HF:o.dst=none)
  (hi:P.info? t=some i) (Eu:lQ n x1=some y1) (AJ:lQ n x2=some y2) (TI:∀t∈y1.tmps,¬U t) (TG:∀t∈y2.tmps,¬U t)
  (he:aL S H (.store hr i.size y1 y2)=some e):sS P w0 n U g S H a w o e:=by
 have sV:=R.ev Eu TI;have qD:=R.ev AJ TG;simp only[aL]at he;generalize ae8:AL.ev S y1=q1 at he sV;generalize yL:a.eval x1=c1 at sV
 cases sV<;>(try cases he;done)
 case data h=>cases h<;>cases he
 rename_i k off b sC;simp only at he;split at he
 case isFalse=>cases he
 obtain⟨cs,vs,ty,k1,k2,k3,k4,k5,k6,k7,k8,k9⟩:=R.box k b sC;simp only[k1]at he;split at he
 case isFalse=>cases he
 rename_i hc;obtain⟨yS,adz,kR⟩:=hc;cases he;have Og:=qD.j_ (AV.K7 kR);obtain⟨g1,e1,e2,e3,e4,R1,adq⟩:=R.take AJ TG (.cell k off)
 have T6:g1.Pr=g.Pr:=by unfold Gh.Pr;rw[e1,e2,e4]
 obtain⟨Uy,K8,ty0,m1,m2,m3,m4,m5,m6,m7,m8,m9⟩:=R1.box k b (by rw[e3];exact sC);rw[k1]at m1;cases m1;rw[k3]at m3;cases m3
 have bL:(a.eval x2).cells.size=i.size:=by rw[<-Og.cells.1];exact yS
 have hlen:off+(a.eval x2).cells.size<=vs.size:=by omega
 have pV:∀u∈(a.eval x2).cells.toList,u.oneCell'=true:=by
  intro u hu;obtain⟨j,hj,rfl⟩:=afD hu
  have fj:j<(AL.ev S y2).cells.length:=by rw[Og.cells.1];simpa using hj
  have:=(Og.cells.2 j fj (by simpa using hj)).one (Og.cells_one kR j fj);simpa using this
 have eh:=aiH P b off ty (a.eval x2).cells.toList 0 vs w k3 (by simpa using hlen) pV;simp only[Nat.add_zero]at eh;have Dk:=ZV (AL.ev S y2)
 have jy:∀j,(vs.toList.take off++(a.eval x2).cells.toList++vs.toList.drop (off+(a.eval x2).cells.toList.length)).toArray[j]?=if off<=j/\j<off+(a.eval x2).cells.size then(a.eval x2).cells[j-off]? else vs[j]?:=by
  intro j;simp only[aiY,Array.length_toList]
  by_cases h1:j<off
  .rw[if_neg (by omega),agd,ahl (by simp;omega)];simp[h1]
  .by_cases h2:j<off+(a.eval x2).cells.size
   .rw[if_pos ⟨by omega,h2⟩,ahl (by simp;omega),ahr (by simp;omega)];rw[ahG]
    congr 1
    simp;omega
   .rw[if_neg (by omega),ahr (by simp;omega)];simp only[ahA,ahG]
    congr 1
    simp;omega
 have ea:Ts g1.Pr w (bo cs off (AL.ev S y2).cg) (vs.toList.take off++(a.eval x2).cells.toList++vs.toList.drop (off+(a.eval x2).cells.toList.length)).toArray:=
  Ts.bo (cs:=cs) (xs:=vs) ⟨m6,m7,m9⟩ (ys:=(a.eval x2).cells) (by rw[T6];exact Og.cg kR) (by omega) _ (by simp;omega) jy
 have h_:∀j v c,(bo cs off (AL.ev S y2).cg)[j]?=some v->(vs.toList.take off++(a.eval x2).cells.toList++vs.toList.drop (off+(a.eval x2).cells.toList.length)).toArray[j]?=some c->A2 P w g1 (.cell k j) v c:=by
  intro j v c h1 h2;rw[VD (by omega)]at h1;rw[jy]at h2;rw[Dk,Og.cells.1]at h1;split at h1
  .rename_i kW;rw[if_pos kW]at h2;have OO:=Og;generalize AL.ev S y2=q at h1 adq OO kR;generalize a.eval x2=c2 at h2 adq OO
   have single:q.cg=[q]->c2.cells=#[c2]->A2 P w g1 (.cell k j) v c:=by
    intro h3 h4;rw[h3]at h1;rw[h4]at h2
    have h0:j-off=0:=by simpa using(af0.1 h1).1
    rw[h0]at h1 h2;simp at h1 h2;subst h1;subst h2;rw[show j=off by omega];exact adq
   cases OO with
   |agg kd Oa hl pV hr=>
    simp only[AV.cg,afG,afX]at h1;obtain⟨u,_,rfl⟩:=h1;exact Hh _ _ _
   |d_=>cases kR
   |val _ hc=>exact single rfl (by cases c2<;>first|rfl|cases hc)
   |_=>exact single rfl rfl
  .rename_i kW;rw[if_neg kW]at h2;obtain⟨l1,rfl⟩:=af0.1 h1;obtain⟨l2,rfl⟩:=afe.1 h2;exact m8 j l1 l2
 have R2:=R1.O9 k b (by rw[e3];exact sC) vs _ ty k3 _ ea.1 ea.2.1 (λj hj fj=>h_ j _ _ (ae9 hj) (agQ fj)) ea.2.2;refine⟨undef,w.setRow b (vs.toList.take off++(a.eval x2).cells.toList++vs.toList.drop (off+(a.eval x2).cells.toList.length)).toArray,g1,.inr ⟨?_,rfl⟩,e1,e2,?_⟩
 .unfold execOp;simp only[ho,yL,Instr.storeAt,Instr.sureAddr,storeVar,sizeOf,typeInfo,afW,Sem.run_pure,Result.andThen_ok,run_program,hi,bL,ne_eq,ahs,afx];rw[show storeCells ⟨b,off,none⟩ (a.eval x2).cells.toList=storeCells ⟨b,off,none⟩ (a.eval x2).cells.toList 0 from rfl,eh]
  rfl
 .rw[HF];exact R2
end
theorem Uq {P:Program} {w:World} (base:Nat) (t ty e:TypeId) (i:TypeInfo) (z:Value) (ht:P.underlying t=some (.slice e)) (hi:P.info? e=some i) (hz:i.zero=some z)
  (TD:z.cells.size=i.size) (v:Value) (n:Nat) (xs:List Value) (b:Nat) (h_:w.ownsRow base e i.size v n xs) (Tn:v.ownBlock=some b)
  (ad:Addr) (m c:Nat) (news:List Value) (hl:news.length=m*i.size) (WA:∀j u,news[j]?=some u->w.cell? (ad.add j)=some u) (h1:∀u∈news,u.oneCell'=true)
  (h63:n+m<=2097152) (aa3:(n+m)*i.bytes<=140737488355328) (oL:base<=w.heap.size):
  ∃v' w' b',(Builtin.append_ #[t,t] ty #[v,.slice (some ad) m c]).run P w=.ok v' w'/\w'.ownsRow base e i.size v' (n+m) (xs++news)/\v'.ownBlock=some b'/\
   ((b'=b/\w.grownBy w' (some b))\/(b'=w.heap.size/\w.grownBy w' none/\w'.heap.size=w.heap.size+1)):=by
 have aeG:n+m<=maxLen:=by unfold maxLen;omega
 have hlen:(xs++news).length=(n+m)*i.size:=by rw[afm,h_.1,hl,ahR]
 rcases h_.2 with⟨rfl,rfl⟩|⟨g,cap,cur,rfl,uq,hg,hnc,CA,IQ,YF⟩
 .cases Tn
 .have Hg:g=b:=by simpa[Value.ownBlock]using Tn
  subst Hg
  by_cases IC:n+m<=cap
  .have aeW:n*i.size+news.length<=cur.size:=by rw[hl,IQ,<-ahR];exact aho _ IC
   have hr:=run_append_room (P:=P) w t ty e i ht hi g n cap cur hg ad m c news hl WA h1 IC aeW;refine⟨_,_,g,hr,⟨hlen,.inr ⟨g,cap,_,rfl,uq,agq w g cur _ e _ hg,IC,CA,?_,?_⟩⟩,rfl,.inl ⟨rfl,⟨rfl,rfl,rfl,by simp,λk _ hk=>af4 w g k _ (λe=>hk (by simp[e]))⟩⟩⟩
   .simp only[aiy,afm,afJ,agN,Array.length_toList];omega
   .rw[YF,<-hlen];exact aiP
  .have holds:∀j u,xs[j]?=some u->w.cell? ((⟨g,0,none⟩:Addr).add j)=some u:=h_.cells (g:=g) rfl;have hr:=run_append_grow (P:=P) w t ty e i z ht hi hz ⟨g,0,none⟩ n cap xs h_.1 holds ad m c news hl WA (by omega) (by omega) (growslice_fits (by omega) aa3);have EE:=grownCap_ge w (n+m) cap e;have adg:grownCap w (n+m) cap e<=maxLen:=grownCap_le_maxLen w (n+m) cap e aeG;refine⟨_,_,w.heap.size,hr,⟨hlen,.inr ⟨w.heap.size,_,_,rfl,oL,aiO w.drew _,EE,adg,?_,?_⟩⟩,rfl,.inr ⟨rfl,⟨rfl,rfl,rfl,by simp,λk hk _=>heap_alloc_old w.drew _ k hk⟩,by simp⟩⟩
   .simp only[Array.size_append,aiy,size_zeroCells,TD,h_.1,hl,<-ahR]
    congr 1
    omega
   .simp only[ai3,agd];rw[<-agd,<-hlen];exact aiP
theorem VQ {P:Program} {w:World} (base:Nat) (t ty e:TypeId) (i:TypeInfo) (z:Value) (ht:P.underlying t=some (.slice e)) (hi:P.info? e=some i) (hz:i.zero=some z)
  (TD:z.cells.size=i.size) (a0:Option Addr)
  (ad:Addr) (m c:Nat) (news:List Value) (hl:news.length=m*i.size) (WA:∀j u,news[j]?=some u->w.cell? (ad.add j)=some u)
  (hm:0<m) (h63:m<=2097152) (aa3:m*i.bytes<=140737488355328) (oL:base<=w.heap.size):
  ∃v' w',(Builtin.append_ #[t,t] ty #[.slice a0 0 0,.slice (some ad) m c]).run P w=.ok v' w'/\w'.ownsRow base e i.size v' m news/\v'.ownBlock=some w.heap.size/\w.grownBy w' none/\w'.heap.size=w.heap.size+1:=by
 have EE:=grownCap_ge w m 0 e;have adg:grownCap w m 0 e<=maxLen:=grownCap_le_maxLen w m 0 e (by unfold maxLen;omega)
 have eh:(Builtin.append_ #[t,t] ty #[.slice a0 0 0,.slice (some ad) m c]).run P w=.ok (.slice (some ⟨w.heap.size,0,none⟩) m (grownCap w m 0 e)) (w.drew.alloc (.cells (news.toArray++Builtin.zeroCells z.cells (grownCap w m 0 e-m)) e)):=by
  cases a0 with
  |none=>exact run_append_nil (P:=P) w t ty e i z ht hi hz ad m c news hl WA hm (by omega) (by omega)
  |some b=>
   have:=run_append_grow (P:=P) w t ty e i z ht hi hz b 0 0 [] (by simp) (by simp) ad m c news hl WA (by omega) (by omega) (growslice_fits (by omega) (by simpa using aa3));simpa using this
 refine⟨_,_,eh,⟨hl,.inr ⟨w.heap.size,_,_,rfl,oL,aiO w.drew _,EE,adg,?_,?_⟩⟩,rfl,⟨rfl,rfl,rfl,by simp,λk hk _=>heap_alloc_old w.drew _ k hk⟩,by simp⟩
 .simp only[Array.size_append,aiy,size_zeroCells,TD,hl,<-ahR]
  congr 1
  omega
 .rw[<-hl];simp only[ai3];exact aiP
theorem WN {P:Program} {w:World} (base:Nat) (t ty e:TypeId) (i:TypeInfo) (size:Nat) (ht:P.underlying t=some (.slice e)) (hi:P.info? e=some i)
  (v:Value) (n:Nat) (xs:List Value) (h_:w.ownsRow base e size v n xs) (ad:Option Addr):
  (Builtin.append_ #[t,t] ty #[v,.slice ad 0 0]).run P w=.ok v w:=by
 have hfc:(Builtin.firstCells i.size 0 (.slice ad 0 0)).run P w=.ok #[] w:=by
  rcases ad with _|ad
  .rfl
  .simp[Builtin.firstCells,loadCells,loadCellsFrom]
 rcases h_.2 with⟨rfl,rfl⟩|⟨g,cap,cur,rfl,_,_,hnc,_⟩
 .simp[Builtin.append_,agn ht,sizeOf,typeInfo,hi,Builtin.lenOf,hfc]
 .simp[Builtin.append_,agn ht,sizeOf,typeInfo,hi,Builtin.lenOf,hfc,hnc,storeCells]
theorem RD.Pb {Pr:Nat→Nat→Prop} {w:World} {o:Ow} {es:List AV} {c:Value} (h:RD Pr w (.slice o es) c) (size:Nat) (hs:aM size es=true) :
  (es=[]/\∃ad,c=.slice ad 0 0)\/∃(b off cap:Nat)(news:List Value),c=.slice (some ⟨b,off,none⟩) es.length cap/\news.length=es.length*size/\
   (∀j u,news[j]?=some u->w.cell? ⟨b,off+j,none⟩=some u)/\(∀u∈news,u.oneCell'=true)/\
   ∀j (h:j<es.length) k (hk:k<(es[j]).cells.length),∃u,news[j*size+k]?=some u/\RD Pr w ((es[j]).cells[k]) u:=by
 simp only[aM,afC,afa,afY]at hs
 cases h with
 |qw=>exact .inl ⟨rfl,_,rfl⟩
 |sF _ a=>exact .inl ⟨rfl,_,rfl⟩
 |slice _ _ b off cap sz cs iV wv bL h1 hc hr=>
  refine .inr ⟨b,off,cap,(List.range (es.length*size)).map cs,rfl,by simp,?_,?_,?_⟩
  .intro j u hu;simp only[afG,afX]at hu;obtain⟨j',h1,rfl⟩:=hu;obtain⟨aw,rfl⟩:=af0.1 h1;simp only[List.length_range]at aw;simp only[List.getElem_range]
   have jb:0<es.length:=by
    rcases ah7 es.length with h0|h0
    .rw[h0]at aw;omega
    .exact h0
   have:sz=size:=by rw[<-bL 0 jb];exact(hs _ (ae_ jb)).2
   subst this;exact(hc j aw).2
  .intro u hu;simp only[afp,afE]at hu;obtain⟨j,aw,rfl⟩:=hu
   have jb:0<es.length:=by
    rcases ah7 es.length with h0|h0
    .rw[h0]at aw;omega
    .exact h0
   have:sz=size:=by rw[<-bL 0 jb];exact(hs _ (ae_ jb)).2
   subst this
   have jo:0<sz:=by
    rcases ah7 sz with h0|h0
    .rw[h0]at aw;omega
    .exact h0
   have hj:j/sz<es.length:=(Nat.div_lt_iff_lt_mul jo).2 aw
   have hk:j % sz<(es[j/sz]).cells.length:=by rw[bL _ hj];exact aio _ jo
   have e:j/sz*sz+j % sz=j:=by rw[ag6];exact aih j sz
   have:=(hr _ hj _ hk).one (h1 _ hj _ hk);rwa [e]at this
  .intro j hj k hk
   have:sz=size:=by rw[<-bL j hj];exact(hs _ (ae_ hj)).2
   subst this;refine⟨cs (j*sz+k),?_,hr j hj k hk⟩;rw[bL j hj]at hk
   have:j*sz+k<es.length*sz:=by
    calc j*sz+k<j*sz+sz:=by omega
     _=(j+1)*sz:=by rw[ail]
     _<=es.length*sz:=aho _ (by omega)
   simp[this]
theorem RD.abV{Pr:Nat->Nat->Prop}{w:World}{o:Ow}{es:List AV}{c:Value}(h:RD Pr w (.slice o es) c):∀j (h:j<es.length) k (hk:k<(es[j]).cells.length),((es[j]).cells[k]).one=true:=by
 intro j hj k hk
 cases h with
 |qw=>simp at hj
 |sF=>simp at hj
 |slice _ _ _ _ _ _ _ _ _ _ h1 _ _=>exact h1 j hj k hk
section
variable{P:Program}{w0:World}{n:Nat}{U:Nat->Prop}{g:Gh}{S:aF}{H:aK}{a:Act}{w:World}
theorem Rel.ownRow (R:Rel P w0 n U g S H a w) {w':World} {b':Nat} (d:Option Nat) (hd:∀ t,d=some t→t < n∧¬ U t) {el:TypeId} {i:TypeInfo} (hi:P.info? el=some i) {es:List AV} {news:List Value} {v':Value}
  (h_:w'.ownsRow g.base el i.size v' es.length news) (Tn:v'.ownBlock=some b')
  (zW:∀es c,w.heap[b']?≠some (.map es c))
  (hb:(b'<w.heap.size/\w.grownBy w' (some b')/\g.owner b'=none/\(∀j,g.al j≠some b')/\g.hi b'<=es.length*i.size/\(∀k u,k<g.hi b'->w.cell? ⟨b',k,none⟩=some u->news[k]?=some u)/\∀o,g.old.bI b'≠some o)\/
   (b'=w.heap.size/\w.grownBy w' none/\w'.heap.size=w.heap.size+1))
  (kR:aM i.size es=true)
  (hr:∀j (h:j<es.length) k (hk:k<(es[j]).cells.length),∃u,news[j*i.size+k]?=some u/\RD g.Pr w ((es[j]).cells[k]) u/\((es[j]).cells[k]).one=true):
  ∃g',g'.base=g.base/\g'.old=g.old/\Rel P w0 n U g' (Go.AL.aY S d (.slice (.own el) es)) H (a.put d v') w':=by
 have hle:g.base<=w.heap.size:=by rw[R.base];exact R.below.size
 simp only[aM,afC,afa,afY]at kR
 let g':Gh:={ g with hi:=av g.hi b' (es.length*i.size),owner:=av g.owner b' (d.map .slot) }
 have ry:∀k,k<w.heap.size->k≠b'->w'.heap[k]?=w.heap[k]?:=by
  intro k hk dO
  rcases hb with⟨_,h,_⟩|⟨_,h,_⟩
  .exact h.block k hk (by simp[dO])
  .exact h.block k hk (by simp)
 have Dj:w.heap.size<=w'.heap.size:=by rcases hb with⟨_,h,_⟩|⟨_,h,_⟩<;>exact h.size
 rcases h_.2 with⟨rfl,_⟩|⟨gg,cap,cur,rfl,uq,hg,hnc,CA,IQ,YF⟩
 .cases Tn
 have Hg:gg=b':=by simpa[Value.ownBlock]using Tn
 subst Hg
 have gG:∀k u,news[k]?=some u->w'.cell? ⟨gg,k,none⟩=some u:=by
  intro k u hu;have:=h_.cells (g:=gg) rfl k u hu;rwa [ahn,af6]at this
 have adJ:∀b k,g.Pr b k->∀u,w.cell? ⟨b,k,none⟩=some u->g'.Pr b k/\w'.cell? ⟨b,k,none⟩=some u:=by
  intro b k hp u hu;have aw:b<w.heap.size:=ahZ _ _ hu
  by_cases Ju:b=gg
  .subst Ju
   rcases hb with⟨h1,h2,h3,h4,h5,h6,_⟩|⟨h1,_⟩
   .rcases hp with hp|hp
    .omega
    .exact⟨.inr ⟨hp.1,by show k<av g.hi _ _ _;rw[bm];omega⟩,gG k u (h6 k u hp.2 hu)⟩
   .omega
  .refine⟨?_,by rw[ahY (w:=w) (ry b aw Ju)];exact hu⟩;rcases hp with hp|hp
   .exact .inl hp
   .exact .inr ⟨hp.1,by show k<av g.hi _ _ b;rw[cN _ _ Ju];exact hp.2⟩
 have Xt:bz g.Pr g'.Pr w w':={
  cell:=adJ
  map:=λb hp es c hm=>by
   have aw:b<w.heap.size:=(afe.1 hm).1
   have Ju:b≠gg:=by
    rintro rfl;exact zW _ _ hm
   refine⟨?_,by rw[ry b aw Ju];exact hm⟩;rcases hp with hp|hp
   .exact .inl hp
   .exact .inr ⟨hp.1,by show 0<av g.hi _ _ b;rw[cN _ _ Ju];exact hp.2⟩ }
 have R':Rel P w0 n U g' S H a w':=by
  refine R.ext (g':=g') rfl rfl rfl Xt ?_ ?_ ?_ ?_ ?_ Dj
  .intro j b hj;obtain⟨_,_,_,_,_,k3,_⟩:=R.box j b hj;have aw:b<w.heap.size:=(afe.1 k3).1
   have dO:b≠gg:=by
    rintro rfl
    rcases hb with⟨_,_,_,h4,_⟩|⟨h1,_⟩
    .exact h4 j hj
    .omega
   exact⟨ry b aw dO,cN _ _ dO,cN _ _ dO⟩
  .intro b loc ho
   have aw:b<w.heap.size:=by
    rcases ahB b w.heap.size with h|h
    .exact h
    .rw[(R.fresh b h).2]at ho;cases ho
   have dO:b≠gg:=by
    rintro rfl
    rcases hb with⟨_,_,h3,_⟩|⟨h1,_⟩
    .rw[h3]at ho;cases ho
    .omega
   exact⟨ry b aw dO,cN _ _ dO,(cN _ _ dO).trans ho⟩
  .refine R.below.trans ?_
   rcases hb with⟨_,h,_⟩|⟨_,h,_⟩
   .exact⟨h.os,h.tape,h.output,h.size,λk hk=>ry k (by omega) (by omega)⟩
   .exact⟨h.os,h.tape,h.output,h.size,λk hk=>ry k (by omega) (by omega)⟩
  .intro b Ju
   have dO:b≠gg:=by
    have:=(afe.1 hg).1;omega
   exact⟨(cN _ _ dO).trans (R.fresh b (by omega)).1,(cN _ _ dO).trans (R.fresh b (by omega)).2⟩
  .intro b o hk ho;have aw:b<w.heap.size:=(afe.1 ho).1
   have dO:b≠gg:=by
    rintro rfl
    rcases hb with⟨_,_,_,_,_,_,h7⟩|⟨h1,_⟩
    .exact h7 o hk
    .omega
   exact⟨by rw[ry b aw dO];exact ho,cN _ _ dO,cN _ _ dO⟩
 refine⟨g',rfl,rfl,R'.aY d _ _ (λt h=>(hd t h).1) (.data _ _ ?_) ?_⟩
 .refine .slice _ es gg 0 cap i.size (λk=>news.getD k undef) hnc (λh=>by cases h) (λj h=>(kR _ (ae_ h)).2) (λj h k hk=>(hr j h k hk).choose_spec.2.2) (λk hk=>⟨?_,?_⟩) (λj h k hk=>?_)
  .exact .inr ⟨uq,by show 0+k<av g.hi _ _ _;rw[bm];omega⟩
  .rw[af6];refine gG k _ ?_
   have:k<news.length:=by rw[h_.1];exact hk
   simp[this]
  .obtain⟨u,h1,h2,_⟩:=hr j h k hk
   have:news.getD (j*i.size+k) undef=u:=by simp[h1]
   rw[this];exact h2.mono Xt
 .intro t ht;subst ht;exact⟨i,news,gg,hi,h_,rfl,by show av g.owner _ _ _=_;rw[bm];rfl,by show av g.hi _ _ _=_;rw[bm]⟩
theorem QX{size:Nat}{es:List AV}:aM size es=true↔∀v∈es,v.storable=true/\v.cells.length=size:=by
 simp[aM]
theorem aa7 (R:Rel P w0 n U g S H a w) {o:Oper} {cl:Call} {t el:TypeId} {i:TypeInfo} {z:Value} {x1 x2:Operand} {y1 y2:pR} {e:aT} (ho:o.op = .call cl) (yS:cl.callee = .builtin .append) (Zc:cl.args = #[x1,x2]) (xi:cl.argTypes = #[t,t])
  (hd:∀t,o.dst=some t->t<n/\¬U t) (mJ:P.underlying t=some (.slice el)) (hi:P.info? el=some i) (hz:i.zero=some z) (TD:z.cells.size=i.size) (hby:i.bytes<=65536)
  (Eu:lQ n x1=some y1) (AJ:lQ n x2=some y2) (TI:∀t∈y1.tmps,¬U t) (TG:∀t∈y2.tmps,¬U t) (ea:∀t,o.dst=some t->t∉y1.tmps)
  (he:aL S H (.append t el i.size i.bytes y1 y2)=some e):sS P w0 n U g S H a w o e:=by
 have hle:g.base<=w.heap.size:=by rw[R.base];exact R.below.size
 have sV:=R.ev Eu TI;have qD:=R.ev AJ TG
 have run:∀v' w',(Builtin.append_ #[t,t] o.type #[a.eval x1,a.eval x2]).run P w=.ok v' w'->(execOp a.eval o).run P w=.ok (.value v') w':=by
  intro v' w' h;unfold execOp;simp[ho,yS,Zc,xi,resolve,invoke,builtin,h]
 have bytes:∀m,m<=2097152->m*i.bytes<=140737488355328:=λm hm=>agu (aii hm hby) (by decide)
 simp only[aL]at he;split at he
 .
  rename_i oo ys XA hq2;split at he
  case isFalse=>cases he
  rename_i hc;simp only[afa,aff]at hc;cases he;rw[XA]at sV;rw[hq2]at qD
  obtain⟨ad0,yL⟩:∃ad,a.eval x1=.slice ad 0 0:=by
   have hq:=sV.j_ rfl;generalize a.eval x1=c at hq
   cases hq with
   |qw=>exact⟨_,rfl⟩
   |sF=>exact⟨_,rfl⟩
   |slice _ _ b off cap size cs iV wv=>rw[wv rfl];exact⟨_,rfl⟩
  have Og:=qD.j_ rfl
  rcases Og.Pb i.size hc.1 with⟨rfl,ad2,K4⟩|⟨b,off,cap,news,K4,hl,hn,h1,hr⟩
  .refine⟨a.eval x1,w,g,.inl (run _ _ ?_),rfl,rfl,R.aY o.dst _ _ (λt h=>(hd t h).1) (.data _ _ (sV.j_ rfl)) λ_ _=>trivial⟩;rw[yL,K4]
   have hfc:(Builtin.firstCells i.size 0 (.slice ad2 0 0)).run P w=.ok #[] w:=by
    rcases ad2 with _|ad2
    .rfl
    .simp[Builtin.firstCells,loadCells,loadCellsFrom]
   simp[Builtin.append_,agn mJ,sizeOf,typeInfo,hi,Builtin.lenOf,hfc,storeCells]
   cases ad0<;>simp[storeCells]
  .by_cases hys:ys=[]
   .subst hys;have WA:news=[]:=afR (by simpa using hl);refine⟨a.eval x1,w,g,.inl (run _ _ ?_),rfl,rfl,R.aY o.dst _ _ (λt h=>(hd t h).1) (.data _ _ (sV.j_ rfl)) λ_ _=>trivial⟩;rw[yL,K4];simp[Builtin.append_,agn mJ,sizeOf,typeInfo,hi,Builtin.lenOf,Builtin.firstCells,loadCells,loadCellsFrom]
    cases ad0<;>simp[storeCells]
   .have jb:0<ys.length:=afP.2 hys;obtain⟨v',w',r1,r2,r3,r4,r5⟩:=VQ (P:=P) (w:=w) g.base t o.type el i z mJ hi hz TD ad0 ⟨b,off,none⟩ ys.length cap news hl (λj u hu=>by rw[ahn];exact hn j u hu) jb (by omega) (bytes _ (by omega)) hle
    obtain⟨g',e1,e2,R'⟩:=R.ownRow o.dst hd hi (es:=ys) r2 r3 (λes c hm=>by have:=(afe.1 hm).1;omega) (.inr ⟨rfl,r4,r5⟩) hc.1 (λj h k hk=>by
     obtain⟨u,u1,u2⟩:=hr j h k hk
     exact⟨u,u1,u2,Og.abV j h k hk⟩)
    refine⟨v',w',g',.inl (run _ _ (by rw[yL,K4];exact r1)),e1,e2,?_⟩
    have:ys.isEmpty=false:=by cases ys with|nil=>exact absurd rfl hys|cons=>rfl
    simp only[this];exact R'
 .rename_i e' xs oo ys XA hq2;split at he
  case isFalse=>cases he
  rename_i hc;simp only[afa,aff]at hc;obtain⟨rfl,⟨yL,K4⟩,Yz⟩:=hc;cases he;rw[XA]at sV;rw[hq2]at qD;obtain⟨g1,i',xv,b,b1,b2,b3,b4,R1,gq,h_,Tn,nO,Lg,hnb,G_⟩:=R.acD Eu TI XA;rw[hi]at gq;cases gq
  have T6:g1.Pr=g.Pr:=by unfold Gh.Pr;rw[b1,b2,b4]
  have EA:=sV.j_ rfl;have Og:=qD.j_ rfl;have l8:b<w.heap.size:=(h_.lt b Tn).2
  have Hb:aM i.size (xs++ys)=true:=by
   rw[QX];intro v hv;rcases afr.1 hv with h|h
   .exact QX.1 K4 v h
   .exact QX.1 yL v h
  have hS:adC S y1=(match(bu y1)with|some t=>av S t (S t).aI|none=>S):=rfl
  have pV:∀(o:Ow)(es:List AV)(c:Value),RD g.Pr w (.slice o es) c->∀j (h:j<es.length) k (hk:k<(es[j]).cells.length),((es[j]).cells[k]).one=true:=by
   intro o es c h j hj k hk
   cases h with
   |qw=>simp at hj
   |sF=>simp at hj
   |slice _ _ _ _ _ _ _ _ _ _ h1 _ _=>exact h1 j hj k hk
  have ad9:∀j (h:j<xs.length) k (hk:k<(xs[j]).cells.length),∃u,xv[j*i.size+k]?=some u/\RD g.Pr w ((xs[j]).cells[k]) u:=by
   intro j hj k hk
   rcases EA.Pb i.size K4 with⟨rfl,ER⟩|⟨b',off,cap,ae2,ER,hl,hn,h1,hr⟩
   .simp at hj
   .obtain⟨u,u1,u2⟩:=hr j hj k hk;refine⟨u,?_,u2⟩
    have aw:j*i.size+k<xv.length:=by
     rw[h_.1,<-hl];exact(af0.1 u1).1
    have e1:=h_.cells Tn _ _ (ae9 aw);have e2:=hn _ _ u1
    rcases h_.2 with⟨Xm,_⟩|⟨gg,abn,cur,SV,_⟩
    .rw[Xm]at Tn;cases Tn
    .rw[SV]at ER Tn
     have Hg:gg=b:=by simpa[Value.ownBlock]using Tn
     subst Hg;cases ER;rw[ahn,af6]at e1;rw[af6]at e2;rw[e2]at e1;rw[ae9 aw,afo e1]
  have ad':∀k u,k<g1.hi b->w.cell? ⟨b,k,none⟩=some u->∀news,(xv++news)[k]?=some u:=by
   intro k u hk hu news;rw[b4,Lg]at hk
   have aw:k<xv.length:=by rw[h_.1];exact hk
   have e1:=h_.cells Tn _ _ (ae9 aw);rw[ahn,af6,hu]at e1;rw[ahl aw,ae9 aw,<-afo e1]
  have fin:∀ v' w' b' news,(Builtin.append_ #[t,t] o.type #[a.eval x1,a.eval x2]).run P w = .ok v' w'→w'.ownsRow g.base e' i.size v' (xs.length+ys.length) (xv++news)→v'.ownBlock=some b' →
    ((b'=b/\w.grownBy w' (some b))\/(b'=w.heap.size/\w.grownBy w' none/\w'.heap.size=w.heap.size+1))->news.length=ys.length*i.size->
    (∀j (h:j<ys.length) k (hk:k<(ys[j]).cells.length),∃u,news[j*i.size+k]?=some u/\RD g.Pr w ((ys[j]).cells[k]) u)->
    sS P w0 n U g S H a w o { v:=.slice (.own e') (xs++ys),dm:=bu y1 }:=by
   intro v' w' b' news r1 r2 r3 r4 hl hr
   obtain⟨g',e1,e2,R'⟩:=R1.ownRow o.dst hd hi (es:=xs++ys) (by rw[b1,afm];exact r2) r3 (by
    rcases r4 with⟨rfl,_⟩|⟨rfl,_⟩
    .intro es c hm
     rcases h_.2 with⟨Xm,_⟩|⟨gg,abn,cur,SV,_,aep,_⟩
     .rw[Xm]at Tn;cases Tn
     .rw[SV]at Tn
      have Hg:gg=b':=by simpa[Value.ownBlock]using Tn
      subst Hg;rw[aep]at hm;cases hm
    .intro es c hm;have:=(afe.1 hm).1
     omega) (by
    rcases r4 with⟨rfl,hg⟩|h
    .refine .inl ⟨l8,hg,nO,by rw[b3];exact hnb,by rw[b4,Lg,afm,ahR];omega,λk u hk hu=>ad' k u hk hu news,by rw[b2];exact G_⟩
    .exact .inr h) Hb (λj h k hk=>by
     rw[T6]
     by_cases hj:j<xs.length
     .have ej:(xs++ys)[j]=xs[j]:=afz hj
      have ee:k<(xs[j]).cells.length:=by rw[<-ej];exact hk
      obtain⟨u,u1,u2⟩:=ad9 j hj k ee;refine⟨u,?_,?_,?_⟩
      .rw[ahl (af0.1 u1).1];exact u1
      .simp only[ej];exact u2
      .simp only[ej];exact pV _ _ _ EA j hj k ee
     .have hj2:j-xs.length<ys.length:=by simp only[afm]at h;omega
      have ej:(xs++ys)[j]=ys[j-xs.length]:=af2 (by omega)
      have ee:k<(ys[j-xs.length]).cells.length:=by rw[<-ej];exact hk
      obtain⟨u,u1,u2⟩:=hr _ hj2 k ee;refine⟨u,?_,?_,?_⟩
      .have e3:j * i.size+k=xv.length+((j - xs.length) * i.size+k):=by
        rw[h_.1,<-ahU,<-ahR];congr 2;omega
       rw[e3,ahr (by omega),Nat.add_sub_cancel_left];exact u1
      .simp only[ej];exact u2
      .simp only[ej];exact pV _ _ _ Og _ hj2 k ee)
   exact⟨v',w',g',.inl (run _ _ r1),e1.trans b1,e2.trans b2,R'⟩
  rcases Og.Pb i.size yL with⟨rfl,ad2,ER⟩|⟨b',off,cap,news,ER,hl,hn,h1,hr⟩
  .refine fin (a.eval x1) w b [] (by rw[ER];exact WN (P:=P) (w:=w) g.base t o.type e' i i.size mJ hi _ _ _ h_ ad2) (by simpa using h_) Tn (.inl ⟨rfl,⟨rfl,rfl,rfl,afg _,λ_ _ _=>rfl⟩⟩) (by simp) (λj h=>by simp at h)
  .obtain⟨v',w',b'',r1,r2,r3,r4⟩:=Uq (P:=P) (w:=w) g.base t o.type e' i z mJ hi hz TD (a.eval x1) xs.length xv b h_ Tn ⟨b',off,none⟩ ys.length cap news hl (λj u hu=>by rw[ahn];exact hn j u hu) h1 (by omega) (bytes _ (by omega)) hle;exact fin v' w' b'' news (by rw[ER];exact r1) r2 r3 r4 hl hr
 .cases he
end
section
variable{P:Program}{w0:World}{n:Nat}{U:Nat->Prop}{g:Gh}{S:aF}{H:aK}{a:Act}{w:World}
theorem abD (R:Rel P w0 n U g S H a w) {o:Oper} {hr:HR} {t:TypeId} {Tq:TypeDesc} {x:Operand} {y:pR} {e:aT} {d:Nat} (ho:o.op = .load t x) (HF:o.dst=some d) (hd:d < n∧¬ U d)
  (mJ:P.underlying t=some Tq) (AY:fg Tq=false) (hx:lQ n x=some y) (hu:∀t∈y.tmps,¬U t) (he:aL S H (.loadT hr y)=some e):sS P w0 n U g S H a w o e:=by
 have hv:=R.ev hx hu;simp only[aL]at he;generalize UE:AL.ev S y=q at he hv;generalize Pe:a.eval x=c at hv
 cases hv<;>(try cases he;done)
 case data h=>cases h<;>cases he
 rename_i k off b sC;simp only at he;split at he
 case isFalse=>cases he
 obtain⟨cs,vs,ty,k1,k2,k3,k4,k5,k6,k7,k8,k9⟩:=R.box k b sC;simp only[k1]at he;split at he
 case h_2=>cases he
 rename_i v hv;cases he;obtain⟨aw,rfl⟩:=af0.1 hv
 have jL:off<vs.size:=by omega
 have eh:(loadVar t ⟨b,off,none⟩).run P w=.ok vs[off] w:=by
  have aea:(isAgg t).run P w=.ok false w:=by
   unfold isAgg;rw[afW,agn mJ w,<-AY]
   cases Tq<;>simp[fg]
  have hc:w.cell? ⟨b,off,none⟩=some vs[off]:=by simp[World.cell?,k3,jL]
  simp[loadVar,afW,aea,hc]
 have R1:=R.O9 k b sC vs vs ty k3 (cs.set off (cs[off]).aI) (by simpa using k6) (fun j h h'=>by
   simp only[ait]at h;rw[aim];split
   .rename_i hj;subst hj;exact(k7 _ aw jL).aI
   .exact k7 j h h') (λj h h'=>by
   simp only[ait]at h;rw[aim];split
   .exact Hh _ _ _
   .exact k8 j h h') (λj h=>by
   simp only[ait]at h;rw[aim];split
   .have:=k9 off aw;exact(AV.Ti _).trans this
   .exact k9 j h)
 rw[setRow_self w b vs ty (0,0) k3]at R1
 have R2:=R1.aaI (.cell k off) (some (.slot d)) (λt h=>by cases h) (λi j kd h hH hj=>by
  cases h;rw[bm]at hH;cases hH;simp only[aiZ]
  exact AV.T7 _)
 refine⟨vs[off],w,{ g with owner:=λb=>if g.owner b=some (.cell k off)then some (.slot d)else g.owner b },.inl ?_,rfl,rfl,?_⟩
 .unfold execOp;simp[ho,Pe,Instr.loadAt,Instr.sureAddr,eh]
 .rw[HF];refine R2.put d _ _ hd.1 (.data _ _ (k7 _ aw jL)) ?_;have hh:=k8 off aw jL;generalize cs[off]=v at hh;generalize vs[off]=c at hh
  cases v<;>try trivial
  rename_i oo es
  cases oo with
  |view=>trivial
  |nil=>exact hh
  |own e=>
   obtain⟨i,xs,b,h1,h2,h3,h4,h5⟩:=hh;refine⟨i,xs,b,h1,h2,h3,?_,h5⟩;show(if g.owner b=some (.cell k off)then some (.slot d)else g.owner b)=_;rw[if_pos h4]
theorem run_sliceBound{x:Value}{i:Int}{y:Nat}{code:BoundsCode}(hx:x=.int .i64 i)(h0:0<=i)(h1:i<=y):(Instr.sliceBound x y code).run P w=.ok i.toNat w:=by
 subst hx;simp[Instr.sliceBound,asIntOf,h0,h1]
theorem Y7 (R:Rel P w0 n U g S H a w) {lo hi:Option Operand} {Yo gq:Option pR} (EG:O_ n lo=some Yo) (Lg:O_ n hi=some gq) (hul:∀ y∈Yo,∀ t∈y.tmps,¬ U t) (huh:∀ y∈gq,∀ t∈y.tmps,¬ U t)
  {len cap:Nat} (Uw:len<=cap) {p q:Int} (hp:bound (Yo.map (AL.ev S)) 0=some p) (hq:bound (gq.map (AL.ev S)) len=some q) (h0:0<=p) (h1:p<=q) (h2:q<=len) (sl:Bool):
  (Instr.sliceBounds sl len cap (lo.map a.eval) (hi.map a.eval) none).run P w=.ok (p.toNat,q.toNat,cap) w:=by
 have hh:∀code,(match hi.map a.eval with|some v=>Instr.sliceBound v cap code|none=>(pure len:Sem Nat)).run P w=.ok q.toNat w:=by
  intro code
  cases hi with
  |none=>
   cases Lg;simp only[Option.map_none,bound,agk]at hq;subst hq;simp
  |some x=>
   simp only[O_,afX]at Lg;obtain⟨y,hy,rfl⟩:=Lg;have hv:=R.ev hy (huh y rfl);simp only[Option.map_some,bound]at hq;generalize AL.ev S y=v at hq hv
   split at hq<;>simp only[agk,reduceCtorEq]at hq
   .simp_all
   .rename_i m hm;simp only[agk]at hm;subst hm;subst hq;simp only[Option.map_some];refine run_sliceBound ?_ (by omega) (by omega);generalize a.eval x=cx at hv;cases hv;rename_i hv;cases hv;rfl
 have hl:∀code,(match lo.map a.eval with|some v=>Instr.sliceBound v q.toNat code|none=>(pure 0:Sem Nat)).run P w=.ok p.toNat w:=by
  intro code
  cases lo with
  |none=>
   cases EG;simp only[Option.map_none,bound,agk]at hp;subst hp;simp
  |some x=>
   simp only[O_,afX]at EG;obtain⟨y,hy,rfl⟩:=EG;have hv:=R.ev hy (hul y rfl);simp only[Option.map_some,bound]at hp;generalize AL.ev S y=v at hp hv
   split at hp<;>simp only[agk,reduceCtorEq]at hp
   .simp_all
   .rename_i m hm;simp only[agk]at hm;subst hm;subst hp;simp only[Option.map_some];refine run_sliceBound ?_ (by omega) (by omega);generalize a.eval x=cx at hv;cases hv;rename_i hv;cases hv;rfl
 unfold Instr.sliceBounds
 cases hi with
 |none=>
  have h3:=hh .sliceB;simp only[Option.map_none]at h3⊢
  cases lo with
  |none=>have h4:=hl .sliceB;simp only[Option.map_none]at h4⊢;simp at h3 h4;simp[h3,h4]
  |some x=>have h4:=hl .sliceB;simp only[Option.map_some]at h4⊢;simp at h3;simp[h3,h4]
 |some y=>
  have h3:=λc=>hh c
  simp only[Option.map_some]at h3⊢
  cases lo with
  |none=>have h4:=hl .sliceB;simp only[Option.map_none]at h4⊢;simp at h4;simp[h3,h4]
  |some x=>have h4:=hl .sliceB;simp only[Option.map_some]at h4⊢;simp[h3,h4]
theorem aa8 (R:Rel P w0 n U g S H a w) {o:Oper} {t:TypeId} {x:Operand} {lo hi:Option Operand} {y:pR} {Yo gq:Option pR} {e:aT} (ho:o.op = .slice t x lo hi none) (hd:∀ t,o.dst=some t→t < n∧¬ U t)
  (mJ:P.underlying t=some .string) (hx:lQ n x=some y) (hu:∀t∈y.tmps,¬U t) (EG:O_ n lo=some Yo) (Lg:O_ n hi=some gq) (hul:∀y∈Yo,∀t∈y.tmps,¬U t) (huh:∀y∈gq,∀t∈y.tmps,¬U t)
  (he:aL S H (.uy y Yo gq)=some e):sS P w0 n U g S H a w o e:=by
 have hv:=R.ev hx hu;simp only[aL]at he;generalize UE:AL.ev S y=q at he hv;generalize Pe:a.eval x=c at hv
 cases hv<;>(try cases he;done)
 rename_i h
 cases h<;>simp only at he<;>try cases he
 rename_i l;split at he
 case h_2=>cases he
 rename_i p q hp hq;split at he
 case isFalse=>cases he
 rename_i hc;cases he;have hb:=Y7 R EG Lg hul huh (len:=l.length) (afg _) hp hq hc.1 hc.2.1 hc.2.2 false
 refine sS.val R (λt h=>(hd t h).1) (c:=.string ⟨((l.take q.toNat).drop p.toNat).toArray⟩) ?_ (.data _ _ (.str _)) λ_=>trivial
 have vn:(Instr.sliceBounds false (⟨l.toArray⟩:ByteArray).size (⟨l.toArray⟩:ByteArray).size (lo.map a.eval) (hi.map a.eval) none).run P w=.ok (p.toNat,q.toNat,l.length) w:=hb;unfold execOp;simp only[ho,Pe,Instr.sliceAt,afW,agn mJ,Result.andThen_ok,Option.map_none,Instr.slice,Option.isSome_none,afj,afx,Sem.run_pure,vn];rw[ByteArray.extract_mk,List.drop_take]
theorem aaJ (R:Rel P w0 n U g S H a w) {o:Oper} {t el:TypeId} {i:TypeInfo} {x:Operand} {lo hi:Option Operand} {y:pR} {Yo gq:Option pR} {e:aT} (ho:o.op = .slice t x lo hi none) (hd:∀ t,o.dst=some t→t < n∧¬ U t)
  (mJ:P.underlying t=some (.slice el)) (JH:P.info? el=some i) (hx:lQ n x=some y) (hu:∀t∈y.tmps,¬U t) (EG:O_ n lo=some Yo) (Lg:O_ n hi=some gq) (hul:∀y∈Yo,∀t∈y.tmps,¬U t) (huh:∀y∈gq,∀t∈y.tmps,¬U t)
  (he:aL S H (.qz i.size y Yo gq)=some e):sS P w0 n U g S H a w o e:=by
 have hv:=R.ev hx hu;simp only[aL]at he;generalize UE:AL.ev S y=q at he hv;generalize Pe:a.eval x=c at hv
 cases hv<;>(try cases he;done)
 rename_i h
 have key:∀ (es:List AV) (ad:Option Addr) (cap:Nat),es.length≤cap→c = .slice ad es.length cap→∀ p q:Int,bound (Yo.map (AL.ev S)) 0=some p→bound (gq.map (AL.ev S)) es.length=some q→0≤p→p≤q→q≤es.length →
   (execOp a.eval o).run P w=.ok (.value (.slice (if cap=p.toNat then ad else ad.map (·.add (p.toNat*i.size))) (q.toNat-p.toNat) (cap-p.toNat))) w:=by
  rintro es ad cap iV rfl p q hp hq h0 h1 h2;have hb:=Y7 R EG Lg hul huh iV hp hq h0 h1 h2 true;unfold execOp;simp[ho,Pe,Instr.sliceAt,afW,agn mJ,Instr.slice,hb,sizeOf,typeInfo,JH]
 cases h with
 |qw oo=>
  simp only at he;split at he
  case h_2=>cases he
  rename_i p q hp hq;split at he
  case isFalse=>cases he
  rename_i hc;cases he;have hk:=key [] none 0 (afg _) rfl p q hp hq hc.1 hc.2.1 hc.2.2.1
  have T_:q.toNat=0:=by have:=hc.2.2.1;simp at this;omega
  have OK:p.toNat=0:=by have:=hc.2.1;omega
  refine sS.val R (λt h=>(hd t h).1) hk (.data _ _ ?_) λ_=>trivial
  simp[T_,OK];exact .qw _
 |sF oo a0=>
  simp only at he;split at he
  case h_2=>cases he
  rename_i p q hp hq;split at he
  case isFalse=>cases he
  rename_i hc;cases he;have hk:=key [] (some a0) 0 (afg _) rfl p q hp hq hc.1 hc.2.1 hc.2.2.1
  have T_:q.toNat=0:=by have:=hc.2.2.1;simp at this;omega
  have OK:p.toNat=0:=by have:=hc.2.1;omega
  refine sS.val R (λt h=>(hd t h).1) hk (.data _ _ ?_) λ_=>trivial
  simp[T_,OK];exact .sF _ _
 |slice oo es b off cap size cs iV wv bL h1 ER hr=>
  simp only at he;split at he
  case h_2=>cases he
  rename_i p q hp hq;split at he
  case isFalse=>cases he
  rename_i hc;cases he;have hk:=key es (some ⟨b,off,none⟩) cap iV rfl p q hp hq hc.1 hc.2.1 hc.2.2.1;have eK:=QX.1 hc.2.2.2
  have hlq:q.toNat<=es.length:=by have:=hc.2.2.1;omega
  have hpq:p.toNat<=q.toNat:=by have:=hc.2.1;omega
  have hlen:((es.take q.toNat).drop p.toNat).length=q.toNat-p.toNat:=by simp;omega
  refine sS.val R (λt h=>(hd t h).1) hk (.data _ _ ?_) λ_=>trivial
  by_cases hm:cap=p.toNat
  .rw[if_pos hm];have Xm:(es.take q.toNat).drop p.toNat=[]:=afR (by omega);rw[Xm,show q.toNat-p.toNat=([]:List AV).length by simp;omega];exact .slice _ [] b off _ 0 cs (afK _) (λh=>by cases h) (λi h=>by simp at h) (λi h=>by simp at h) (λk hk=>by simp at hk) (λi h=>by simp at h)
  .rw[if_neg hm];simp only[Option.map_some,ahn];rw[<-hlen]
   have jy:∀j (h:j<((es.take q.toNat).drop p.toNat).length),((es.take q.toNat).drop p.toNat)[j]=es[p.toNat+j]'(by rw[hlen]at h;omega):=by intro j h;simp
   by_cases sk:es=[]
   .subst sk
    have Xm:(([]:List AV).take q.toNat).drop p.toNat=[]:=by simp
    rw[Xm];exact .slice _ [] b _ _ 0 cs (afK _) (λh=>by cases h) (λi h=>by simp at h) (λi h=>by simp at h) (λk hk=>by simp at hk) (λi h=>by simp at h)
   .have jb:0<es.length:=afP.2 sk
    have hss:size=i.size:=by rw[<-bL 0 jb];exact(eK _ (ae_ jb)).2
    subst hss;refine .slice _ _ b _ _ i.size (λk=>cs (p.toNat*i.size+k)) (by omega) (λh=>by cases h) (λj h=>by rw[jy j h];exact bL _ _) (λj h k hk=>by have:=jy j h;simp only[this]at hk⊢;exact h1 _ _ k hk) (λk hk=>?_) (λj h k hk=>?_)
    .rw[hlen]at hk
     have:p.toNat*i.size+k<es.length*i.size:=by
      calc p.toNat*i.size+k<p.toNat*i.size+(q.toNat-p.toNat)*i.size:=by omega
       _=q.toNat*i.size:=by rw[<-ahR];congr 1;omega
       _<=es.length*i.size:=aho _ hlq
     have:=ER _ this;rwa [<-ahU]at this
    .have e:=jy j h;simp only[e]at hk⊢;have:=hr (p.toNat+j) (by rw[hlen]at h;omega) k hk;rwa [ahR,ahU]at this
 |_=>cases he
theorem YT (R:Rel P w0 n U g S H a w) {o:Oper} {neg:Bool} {t t' el:TypeId} {x:Operand} {y:pR} {e:aT} (ho:o.op = .binOp (if neg then .neq else .eql) t x (.const (.slice none 0 0)) t') (hd:∀ t,o.dst=some t→t < n∧¬ U t)
  (ht:P.underlying t=some (.slice el)) (hx:lQ n x=some y) (hu:∀t∈y.tmps,¬U t) (he:aL S H (.isNil neg y)=some e):sS P w0 n U g S H a w o e:=by
 have hv:=R.ev hx hu;simp only[aL]at he;generalize UE:AL.ev S y=q at he hv;generalize Pe:a.eval x=c at hv
 have run:∀ad l k,c=.slice ad l k->(execOp a.eval o).run P w=.ok (.value (.bool (if neg then !ad.isNone else ad.isNone))) w:=by
  rintro ad l k rfl;have hg:=sD (P:=P) (w:=w) (if neg then .neq else .eql) t x (.const (.slice none 0 0)) (.slice ad l k) (.slice none 0 0) rfl
  have hE:(Op.equal t (.slice ad l k) (.slice none 0 0)).run P w=.ok ad.isNone w:=by
   unfold Op.equal Op.maxDepth Op.equalIn
   cases ad<;>simp[agn ht]
  have adR:a.eval (.const (.slice none 0 0))=.slice none 0 0:=rfl;cases neg
  .simp only[afj,afx]at ho hg⊢;simp[execOp,ho,Pe,adR,hg,binOp,hE]
  .simp only[afH]at ho hg⊢;simp[execOp,ho,Pe,adR,hg,binOp,hE]
 cases hv<;>(try cases he;done)
 rename_i h
 cases h<;>simp only at he<;>try cases he
 .exact sS.val R (λt h=>(hd t h).1) (run _ _ _ rfl) (.data _ _ (.JJ _)) λ_=>trivial
 .exact sS.val R (λt h=>(hd t h).1) (run _ _ _ rfl) (.data _ _ (.JJ _)) λ_=>trivial
 .rename_i oo es b off cap sz cs iV wv bL h1 hc hr
  refine sS.val R (λt h=>(hd t h).1) (run _ _ _ rfl) (.data _ _ ?_) λ_=>by cases es<;>trivial
  cases es
  .exact .JJ _
  .simp only[List.isEmpty_cons,afj,afx,Option.isNone_some,ah1]
   cases neg<;>exact .bool _
theorem abF (R:Rel P w0 n U g S H a w) {o:Oper} {t el:TypeId} {i:TypeInfo} {e:aT} (ho:o.op = .buildSlice t 0 #[]) (hd:∀ t,o.dst=some t→t < n∧¬ U t)
  (mJ:P.underlying t=some (.slice el)) (hi:P.info? el=some i) (he:aL S H (.empty el)=some e):sS P w0 n U g S H a w o e:=by
 cases he;have hb:Below w.heap.size w (w.alloc (.cells #[] el)):=(aga _ _).alloc (afg _) _;refine⟨.slice (some ⟨w.heap.size,0,none⟩) 0 0,w.alloc (.cells #[] el),g,.inl ?_,rfl,rfl,(R.mw hb).aY o.dst _ _ (λt h=>(hd t h).1) (.data _ _ ?_) λ_ _=>trivial⟩
 .unfold execOp;have hz:(Array.map (λ_:Nat=>(default:Value)) (Array.range 0))=#[]:=agv (by simp);simp[ho,Instr.buildSlice,agn mJ,sizeOf,typeInfo,hi,Instr.fill,newRow,hz]
 .exact .slice _ [] _ 0 0 0 (λ_=>undef) (afK _) (λ_=>rfl) (λi h=>by simp at h) (λi h=>by simp at h) (λk hk=>by simp at hk) (λi h=>by simp at h)
theorem aa_ (R:Rel P w0 n U g S H a w) {o:Oper} {xt t:TypeId} {dt:TypeDesc} {i:TypeInfo} {z:Value} {zs:List AV} {x:Operand} {y:pR} {e:aT} (ho:o.op = .typeAssert x xt t true) (hd:∀ t,o.dst=some t→t < n∧¬ U t)
  (ht:P.underlying t=some dt) (NP:∀ms,dt≠.interface ms) (hi:P.info? t=some i) (hz:i.zero=some (.agg z.cells)) (TD:JC z.cells.toList=some zs) (hx:lQ n x=some y) (hu:∀t∈y.tmps,¬U t)
  (he:aL S H (.assert t (.agg zs) y)=some e):sS P w0 n U g S H a w o e:=by
 have hv:=R.ev hx hu;simp only[aL]at he;generalize UE:AL.ev S y=q at he hv;generalize Pe:a.eval x=c at hv;have hzr:=(HK g.Pr w TD).1;have hzd:RD g.Pr w (.agg zs) (.agg z.cells):=.agg _ _ (by simpa using hzr.1) hzr.2.2 (λi h h'=>by simpa using hzr.2.1 i h (by simpa using h'))
 have two:∀(v:AV)(c:Value)(b:Bool),RD g.Pr w v c->RD g.Pr w (.d_ [v,.bool b]) (.tuple #[c,.bool b]):=by
  intro v c b h
  refine .d_ _ _ rfl λi hi gq=>?_
  match i,hi with
  |0,_=>exact h
  |1,_=>exact .bool b
 cases hv<;>(try cases he;done)
 rename_i h
 cases h<;>simp only at he<;>try cases he
 .rename_i t' v c' h
  refine sS.val R (λt h=>(hd t h).1) (c:=if t'=t then .tuple #[c',.bool true]else .tuple #[.agg z.cells,.bool false]) ?_ (.data _ _ ?_) λ_=>by split<;>trivial
  .unfold execOp;simp only[ho,Pe,Instr.typeAssert,afW,agn ht,Result.andThen_ok]
   cases dt<;>first|exact absurd rfl (NP _)|skip
   all_goals (split<;>simp[zeroValue,typeInfo,hi,hz])
  .split
   .exact two _ _ _ h
   .exact two _ _ _ hzd
 .refine sS.val R (λt h=>(hd t h).1) (c:=.tuple #[.agg z.cells,.bool false]) ?_ (.data _ _ (two _ _ _ hzd)) λ_=>trivial
  unfold execOp;simp only[ho,Pe,Instr.typeAssert,afW,agn ht,Result.andThen_ok]
  cases dt<;>first|exact absurd rfl (NP _)|skip
  all_goals simp[zeroValue,typeInfo,hi,hz]
end
def Xd(k:TypeId->Option Nat):List Field->Nat->Option Nat
 |[],acc=>some acc
 |f::fs,acc=>if f.name = "_" \/ f.offset≠acc then none else
  match k f.type with
  |some m=>Xd k fs (acc+m)
  |none=>none
def Pa(P:Program):Nat->TypeId->Option Nat
 |0,_=>none
 |d+1,t=>match P.underlying t,P.info? t with
  |some (.int .i64),some i=>if i.size=1 then some 1 else none
  |some (.struct fs),some i=>if P.stoodInHeld t=false/\Xd (Pa P d) fs.toList 0=some i.size then some i.size else none
  |_,_=>none
def CJ(l:List Int):Array Value:=(l.map (Value.int .i64)).toArray
def Tu(P:Program)(t:TypeId)(l:List Int):Value:=
 match P.underlying t with
 |some (.int _)=>.int .i64 (l.headD 0)
 |_=>.agg (CJ l)
section
variable{P:Program}{w:World}
theorem YR {d:Nat} {t:TypeId} {k:Nat} (h:Pa P d t=some k) (l:List Int) (off:Nat) (hl:off+k≤l.length) :
  (part t (CJ l) off).run P w=.ok (Tu P t ((l.drop off).take k)) w:=by
 cases d with
 |zero=>cases h
 |succ d=>
  simp only[Pa]at h;split at h
  .rename_i i hu hi
   split at h<;>cases h
   rename_i hs
   have AY:(isAgg t).run P w=.ok false w:=by
    unfold isAgg;rw[afW,agn hu w];simp
   have aw:off<l.length:=by omega
   have hhd:((l.drop off).take 1).headD 0=l[off]:=by
    rw[ags aw];rfl
   simp only[part,afW,AY,Result.andThen_ok,afj,afx,Tu,hu,hhd];simp[CJ,aw]
  .rename_i fs i hu hi
   split at h<;>cases h
   have AY:(isAgg t).run P w=.ok true w:=by
    unfold isAgg;rw[afW,agn hu w];simp
   simp only[part,afW,AY,Result.andThen_ok,afH,Tu,hu];simp only[sizeOf,typeInfo,afW];simp[CJ,ahV,ah0,hi]
  .cases h
theorem ab5(a b:List Int)(k:Nat)(h:a.length=b.length):(a==b)=((a.take k==b.take k)&&(a.drop k==b.drop k)):=by
 rw[afZ];simp only[afa,afY]
 constructor
 .rintro rfl;exact⟨rfl,rfl⟩
 .rintro⟨h1,h2⟩;rw[<-agA k a,<-agA k b,h1,h2]
theorem X6 {d:Nat} (ih:∀ t k,Pa P d t=some k→∀ a b:List Int,a.length=k→b.length=k→(Op.equalIn d t (Tu P t a) (Tu P t b)).run P w = .ok (a==b) w) :
  ∀(fs:List Field)(acc nC:Nat),Xd (Pa P d) fs acc=some nC->∀l m:List Int,l.length=nC->m.length=nC->
   acc<=nC/\(Op.eqFields d (CJ l) (CJ m) fs).run P w=.ok (l.drop acc==m.drop acc) w
 |[],acc,nC,h,l,m,hl,hm=>by
  cases h;refine⟨afg _,?_⟩;have e1:l.drop acc=[]:=agx (by omega);have e2:m.drop acc=[]:=agx (by omega);rw[e1,e2];simp[Op.eqFields]
 |f::fs,acc,nC,h,l,m,hl,hm=>by
  simp only[Xd]at h;split at h
  case isTrue=>cases h
  rename_i hn;simp only[not_or,ne_eq,aiI]at hn;split at h
  case h_2=>cases h
  rename_i k hk;obtain⟨hle,XO⟩:=X6 ih fs (acc+k) nC h l m hl hm;refine⟨by omega,?_⟩;have e1:=YR (w:=w) hk l acc (by omega);have e2:=YR (w:=w) hk m acc (by omega);have e3:=ih f.type k hk ((l.drop acc).take k) ((m.drop acc).take k) (by simp;omega) (by simp;omega);simp only[Op.eqFields,ne_eq,hn.1,not_false_eq_true,afH,hn.2,afW,e1,e2,Result.andThen_ok,e3];rw[ab5 (l.drop acc) (m.drop acc) k (by simp;omega)];rw[agV,agV];generalize((l.drop acc).take k==(m.drop acc).take k)=q
  cases q with
  |false=>simp
  |true=>simpa using XO
theorem WX:∀(d:Nat)(t:TypeId)(k:Nat),Pa P d t=some k->∀a b:List Int,a.length=k->b.length=k->(Op.equalIn d t (Tu P t a) (Tu P t b)).run P w=.ok (a==b) w
 |0,t,k,h,a,b,ha,hb=>by cases h
 |d+1,t,k,h,a,b,ha,hb=>by
  simp only[Pa]at h;split at h
  .rename_i i hu hi
   split at h<;>cases h
   match a,ha,b,hb with
   |[x],_,[y],_=>
    simp only[Tu,hu];rw[run_equalIn_int w d t .i64 .i64 _ _ hu];simp
  .rename_i fs i hu hi
   split at h<;>cases h
   rename_i hc
   have hf:P.fieldsOf t=fs:=by simp[Program.fieldsOf,hu]
   simp only[Tu,hu];rw[run_equalIn_struct w d t _ _ (by rw[hf];exact hu) hc.1,hf];exact(X6 (WX d) fs.toList 0 i.size hc.2 a b ha hb).2
  .cases h
theorem TZ {Pr:Nat→Nat→Prop}:∀ {xs:List AV} {a:List Int},wx xs=some a→∀ {vs:List Value},xs.length=vs.length →
  (∀i (h:i<xs.length)(h':i<vs.length),RD Pr w xs[i] vs[i])->vs=a.map (Value.int .i64)/\a.length=xs.length
 |[],a,h,vs,hl,hr=>by
  cases h;have:vs=[]:=ag7.1 hl.symm;subst this;exact⟨rfl,rfl⟩
 |x::xs,a,h,vs,hl,hr=>by
  cases vs with
  |nil=>simp at hl
  |cons v vs=>
   unfold wx at h;split at h
   .rename_i e;cases e
   .rename_i n cs e;cases e;simp only[afX]at h;obtain⟨a',ha,rfl⟩:=h;have h0:=hr 0 (by simp) (by simp);simp only[List.getElem_cons_zero]at h0;cases h0;obtain⟨h1,h2⟩:=TZ ha (by simpa using hl) (λi h h'=>hr (i+1) (by simpa using h) (by simpa using h'));rw[h1];exact⟨rfl,by simp[h2]⟩
   .cases h
variable{w0:World}{n:Nat}{U:Nat->Prop}{g:Gh}{S:aF}{H:aK}{a:Act}
theorem aah (R:Rel P w0 n U g S H a w) {o:Oper} {neg:Bool} {k:Nat} {t t':TypeId} {fs:Array Field} {x1 x2:Operand} {y1 y2:pR} {e:aT} (ho:o.op = .binOp (if neg then .neq else .eql) t x1 x2 t') (hd:∀ t,o.dst=some t→t < n∧¬ U t)
  (mJ:P.underlying t=some (.struct fs)) (hk:Pa P 10000 t=some k) (Hx:P.eqGuardType P.depth t=false) (Eu:lQ n x1=some y1) (AJ:lQ n x2=some y2) (TI:∀t∈y1.tmps,¬U t) (TG:∀t∈y2.tmps,¬U t)
  (he:aL S H (.eqs neg k y1 y2)=some e):sS P w0 n U g S H a w o e:=by
 have sV:=R.ev Eu TI;have qD:=R.ev AJ TG;simp only[aL]at he;generalize AL.ev S y1=p1 at he sV;generalize AL.ev S y2=p2 at he qD;generalize yL:a.eval x1=c1 at sV;generalize K4:a.eval x2=c2 at qD;split at he
 case h_2=>cases he
 rename_i xs ys;split at he
 case h_2=>cases he
 rename_i XE bs ha hb
 split at he<;>cases he
 rename_i hlen;have q1:=sV.j_ rfl;have q2:=qD.j_ rfl;cases q1;rename_i vs hl h1 hr;cases q2;rename_i us rp Df kh;obtain⟨e1,_⟩:=TZ (vs:=vs.toList) ha (by simpa using hl) (λi h h'=>by simpa using hr i h (by simpa using h'));obtain⟨e2,_⟩:=TZ (vs:=us.toList) hb (by simpa using rp) (λi h h'=>by simpa using kh i h (by simpa using h'))
 have f1:vs=CJ XE:=by rw[CJ,<-e1]
 have f2:us=CJ bs:=by rw[CJ,<-e2]
 subst f1 f2;have hE:=WX (P:=P) (w:=w) 10000 t k hk XE bs hlen.1 hlen.2;simp only[Tu,mJ]at hE;have hg:=run_eqGuard_agg w (if neg then .neq else .eql) t x1 x2 (CJ XE) (CJ bs) Hx
 refine sS.val R (λt h=>(hd t h).1) (c:=.bool (if neg then XE !=bs else XE==bs)) ?_ (.data _ _ (.bool _)) λ_=>trivial
 cases neg with
 |true=>
  simp only[afH]at ho hg⊢;simp[execOp,ho,yL,K4,hg,run_neq_struct,hE,bne,afW]
 |false=>
  simp only[afj,afx]at ho hg⊢;simp[execOp,ho,yL,K4,hg,run_eql_struct,hE,afW]
end
section
variable{P:Program}{w0:World}{n:Nat}{U:Nat->Prop}{g:Gh}{S:aF}{H:aK}{a:Act}{w:World}
theorem aaN (R:Rel P w0 n U g S H a w) {o:Oper} {t el:TypeId} {len:Nat} {it ie:TypeInfo} {z:Value} {ps:Array (Nat×Operand)} {zs:List AV} {qs:List (Nat×Nat×pR)} {e:aT} (ho:o.op = .build t ps) (hd:∀ t,o.dst=some t→t < n∧¬ U t)
  (hi:P.info? t=some it) (mJ:P.underlying t=some (.array len el)) (hz:it.zero=some z) (JO:P.info? el=some ie) (TD:JC z.cells.toList=some zs) (hq:U0 n (λi=>some (i*ie.size,ie.size)) ps.toList=some qs)
  (hu:∀q∈qs,∀t∈q.2.2.tmps,¬U t) (he:aL S H (.build (zs.map AV.aI) qs)=some e):sS P w0 n U g S H a w o e:=by
 simp only[aL,afX]at he;obtain⟨kd,hc,rfl⟩:=he;have hz0:=(HK g.Pr w TD).1
 have TV:Ts g.Pr w (zs.map AV.aI) z.cells:=by
  refine⟨by simpa using hz0.1,λi h h'=>?_,λi h=>?_⟩
  .simp only[afi]at h;have:=(hz0.2.1 i h (by simpa using h')).aI;simpa using this
  .simp only[afi]at h;have:=hz0.2.2 i h;simp only[afl];exact(AV.Ti _).trans this
 obtain⟨Oa,h1,h2⟩:=WT R hq hu TV hc
 have hb:P.built t (ps.map λ(i,x)=>(i,a.eval x)).toList=some Oa:=by
  unfold Program.built;simp only[hi,mJ,hz,JO,aiL];exact h1
 refine sS.val R (λt h=>(hd t h).1) (c:=.agg Oa) ?_ (.data _ _ (.agg _ _ h2.1 h2.2.2 h2.2.1)) λ_=>trivial
 unfold execOp;simp only[ho,afW,ais w t _ Oa hb,Result.andThen_ok]
 rfl
theorem abE {Pr:Nat→Nat→Prop} {ty:TypeId} {i:TypeInfo} {Tq:TypeDesc} (hi:P.info? ty=some i) (hu:P.underlying ty=some Tq) {cs:List AV} {vs:Array Value} {off:Nat} {v:AV}
  (hr:RD Pr w (.agg cs) (.agg vs)) (he:ck (fg Tq) i.size (cs.drop off)=some v):∃c,(part ty vs off).run P w=.ok c w/\RD Pr w v c:=by
 cases hr;rename_i h1 hl hr
 have AY:(isAgg ty).run P w=.ok (fg Tq) w:=by
  unfold isAgg;rw[afW,agn hu w]
  cases Tq<;>simp[fg]
 generalize fg Tq=q at he AY
 cases q with
 |true=>
  simp only[ck,afH,agN]at he;split at he
  case isFalse=>cases he
  rename_i hle;cases he;refine⟨.agg (vs.extract off (off+i.size)),by simp[part,afW,AY,sizeOf,typeInfo,hi],?_⟩
  refine .agg _ _ (by simp;omega) (λk hk=>?_) λk hk ee=>?_
  .simp only[afi,afJ,agN]at hk;simp only[afl,ag9,aik];have:=h1 (off+k) (by omega);exact(AV.Ti _).trans this
  .simp only[afi,afJ,agN]at hk;have:=(hr (off+k) (by omega) (by omega)).aI;simpa using this
 |false=>
  simp only[ck,afj,afx,afX]at he;obtain⟨v0,hv0,rfl⟩:=he;simp only[ahA,Nat.add_zero]at hv0;obtain⟨h0,rfl⟩:=af0.1 hv0
  have hv:off<vs.size:=by omega
  exact⟨vs[off],by simp[part,afW,AY,hv],(hr off h0 hv).aI⟩
theorem aaV (R:Rel P w0 n U g S H a w) {o:Oper} {t el:TypeId} {len:Nat} {ie:TypeInfo} {Tq:TypeDesc} {x1 x2:Operand} {y1 y2:pR} {e:aT} (ho:o.op = .index t x1 x2) (hd:∀ t,o.dst=some t→t < n∧¬ U t)
  (mJ:P.underlying t=some (.array len el)) (hi:P.info? el=some ie) (hue:P.underlying el=some Tq) (Eu:lQ n x1=some y1) (AJ:lQ n x2=some y2) (TI:∀t∈y1.tmps,¬U t) (TG:∀t∈y2.tmps,¬U t)
  (he:aL S H (.te (fg Tq) len ie.size y1 y2)=some e):sS P w0 n U g S H a w o e:=by
 have sV:=R.ev Eu TI;have qD:=R.ev AJ TG;simp only[aL]at he;generalize AL.ev S y1=p1 at he sV;generalize AL.ev S y2=p2 at he qD;generalize yL:a.eval x1=c1 at sV;generalize K4:a.eval x2=c2 at qD;split at he
 case h_2=>cases he
 rename_i cs k;split at he
 case isFalse=>cases he
 rename_i hk;simp only[afX]at he;obtain⟨v,hv,rfl⟩:=he;have q1:=sV.j_ rfl;have q2:=qD.j_ rfl;cases q2;have q1':=q1;cases q1;obtain⟨c,h1,h2⟩:=abE (P:=P) hi hue q1' hv
 refine sS.val R (λt h=>(hd t h).1) (c:=c) ?_ (.data _ _ h2) λ_=>?_
 .simp only[execOp,ho,yL,K4,Instr.index,afW];simp[asIntOf,agn mJ,hk,sizeOf,typeInfo,hi,afW,h1]
 .simp only[ck]at hv;split at hv
  .split at hv<;>cases hv;trivial
  .simp only[afX]at hv;obtain⟨u,_,rfl⟩:=hv;exact Hh _ _ _
theorem YX{Pr:Nat->Nat->Prop}:∀{es:List AV}{l:List UInt8},bytesOf es=some l->l.length=es.length/\∀j (h:j<es.length)(h':j<l.length),es[j]=.int .u8 (l[j].toNat:Int)
 |[],l,h=>by cases h;exact⟨rfl,λj h=>by simp at h⟩
 |x::es,l,h=>by
  unfold bytesOf at h;split at h
  .rename_i e;cases e
  .rename_i m cs e;cases e;split at h
   case isFalse=>cases h
   rename_i hm;simp only[afX]at h;obtain⟨l',hl,rfl⟩:=h;obtain⟨h1,h2⟩:=YX (Pr:=Pr) hl;refine⟨by simp[h1],λj hj fj=>?_⟩
   cases j with
   |zero=>
    simp only[List.getElem_cons_zero]
    have:((UInt8.ofNat m.toNat).toNat:Int)=m:=by
     have h3:m.toNat<256:=by omega
     simp[UInt8.toNat_ofNat',Nat.mod_eq_of_lt h3];omega
    rw[this]
   |succ j=>simpa using h2 j (by simpa using hj) (by simpa using fj)
  .cases h
theorem abN (R:Rel P w0 n U g S H a w) {o:Oper} {s d el:TypeId} {x:Operand} {y:pR} {e:aT} (ho:o.op = .convert s d x) (hd:∀ t,o.dst=some t→t < n∧¬ U t)
  (hs:P.underlying s=some (.slice el)) (Ej:P.underlying el=some (.int .u8)) (Q7:P.underlying d=some .string) (hx:lQ n x=some y) (hu:∀t∈y.tmps,¬U t)
  (he:aL S H (.Ef y)=some e):sS P w0 n U g S H a w o e:=by
 have hv:=R.ev hx hu;simp only[aL]at he;generalize AL.ev S y=p at he hv;generalize hc:a.eval x=c at hv;split at he
 case h_2=>cases he
 rename_i ow es;simp only[afX]at he;obtain⟨l,hl,rfl⟩:=he;obtain⟨hlen,jy⟩:=YX (Pr:=g.Pr) hl;have q:=hv.j_ rfl
 cases q with
 |qw=>
  have:l=[]:=ag7.1 (by simpa using hlen);subst this
  refine sS.val R (λt h=>(hd t h).1) (c:=.string ByteArray.empty) ?_ (.data _ _ (.str [])) λ_=>trivial
  simp[execOp,ho,hc,run_convert_bytes_nil w s el hs Ej 0 0 d Q7]
 |sF _ a0=>
  have:l=[]:=ag7.1 (by simpa using hlen);subst this
  refine sS.val R (λt h=>(hd t h).1) (c:=.string ByteArray.empty) ?_ (.data _ _ (.str [])) λ_=>trivial
  have Ox:(convert s d (.slice (some a0) 0 0)).run P w=.ok (.string ByteArray.empty) w:=by
   rw[run_convert_bytes_string w s d el _ 0 0 hs Ej Q7];simp[Conv.bytesToString,loadCells,loadCellsFrom]
  simp[execOp,ho,hc,Ox]
 |slice _ _ b off cap size cs iV wv bL h1 gG hr=>
  refine sS.val R (λt h=>(hd t h).1) (c:=.string ⟨l.toArray⟩) ?_ (.data _ _ (.str l)) λ_=>trivial
  have Ox:=run_convert_bytes_back (P:=P) w s d el ⟨b,off,none⟩ cap l hs Ej Q7 (λj hj=>by
   have fj:j<es.length:=by omega
   have e1:=jy j fj hj;have uI:=bL j fj
   have yS:(es[j]).cells.length=1:=by rw[e1];rfl
   have O2:size=1:=by rw[<-uI,yS]
   subst O2;have h2:=gG j (by omega);have h3:=hr j fj 0 (by rw[yS];omega)
   have h4:(es[j]).cells[0]'(by rw[yS];omega)=.int .u8 (l[j].toNat:Int):=by
    have:∀(v:AV)(hh:0<v.cells.length)(q:AV),v=q->(h':0<q.cells.length)->v.cells[0]=q.cells[0]:=by rintro v hh q rfl _;rfl
    rw[this _ _ _ e1 (by simp[AV.cells])]
    rfl
   rw[h4]at h3;simp only[agf,Nat.add_zero]at h3;rw[ahn,h2.2];generalize cs j=u at h3;cases h3
   rfl)
  rw[hlen]at Ox;simp[execOp,ho,hc,Ox]
end
section
variable{P:Program}{w:World}
theorem WK{α:Type}(f:α->PUnit->Sem (ForInStep PUnit)):∀(l:List α),(∀x∈l,(f x PUnit.unit).run P w=.ok (ForInStep.yield PUnit.unit) w)->(forIn l PUnit.unit f:Sem PUnit).run P w=.ok PUnit.unit w
 |[],_=>by simp
 |x::l,h=>by
  simp only[List.forIn_cons,afW,h x aft,Result.andThen_ok]
  exact WK f l λy hy=>h y (afk _ hy)
theorem Y1{k:TypeId->Option Nat}:∀{fs:List Field}{acc nC:Nat},Xd k fs acc=some nC->acc<=nC/\∀f∈fs,∃m,k f.type=some m/\f.offset+m<=nC
 |[],acc,nC,h=>by cases h;exact⟨afg _,λ_ h=>by cases h⟩
 |f::fs,acc,nC,h=>by
  simp only[Xd]at h;split at h
  case isTrue=>cases h
  rename_i hn;simp only[not_or,ne_eq,aiI]at hn;split at h
  case h_2=>cases h
  rename_i m hm;obtain⟨h1,h2⟩:=Y1 h;refine⟨by omega,λf' yJ=>?_⟩;rcases afU.1 yJ with rfl|yJ
  .exact⟨m,hm,by omega⟩
  .exact h2 f' yJ
theorem W9(b:Bool):∀(d:Nat)(t:TypeId)(k:Nat),Pa P d t=some k->∀a:List Int,a.length=k->(Instr.checkKey b d t (Tu P t a)).run P w=.ok () w
 |0,t,k,h,a,ha=>by cases h
 |d+1,t,k,h,a,ha=>by
  simp only[Pa]at h;split at h
  .rename_i i hu hi;simp[Instr.checkKey,agn hu,Tu,hu]
  .rename_i fs i hu hi
   split at h<;>cases h
   rename_i hc;obtain⟨_,hm⟩:=Y1 hc.2;simp only[Instr.checkKey,afW,agn hu,Result.andThen_ok,Tu,hu];rw[<-Array.forIn_toList];rw[WK (P:=P) (w:=w)]
   .simp
   .intro f hf;obtain⟨m,h1,h2⟩:=hm f hf;rw[Sem.run_ite];split
    .simp only[afW,YR (w:=w) h1 a f.offset (by omega),Result.andThen_ok,W9 b d f.type m h1 ((a.drop f.offset).take m) (by simp;omega),Sem.run_pure]
    .simp
  .cases h
theorem Od {kt:TypeId} {fs:Array Field} {k:Nat} (hu:P.underlying kt=some (.struct fs)) (hk:Pa P 10000 kt=some k) {Pr:Nat→Nat→Prop} (key:List Int) (hl:key.length=k) :
  ∀(ks vs:List AV)(es:List MapEntry)(i:Nat)(r:Option AV),ks.length=es.length->vs.length=es.length->(∀j (h:j<ks.length)(h':j<es.length),RD Pr w ks[j] (es[j]).key)->(∀j (h:j<vs.length)(h':j<es.length),RD Pr w vs[j] (es[j]).val)->
   rA key ks vs=some r->∃q,(Instr.findAsking kt (.agg (CJ key)) es i).run P w=.ok q w/\(match r,q with
    |none,none=>True
    |some v,some (_,c)=>RD Pr w v c
    |_,_=>False)
 |[],vs,es,i,r,h1,h2,_,_,h=>by
  have:es=[]:=ag7.1 h1.symm;subst this;cases h;exact⟨none,by simp[Instr.findAsking],trivial⟩
 |kk::ks,vs,[],i,r,h1,_,_,_,_=>by simp at h1
 |kk::ks,[],e::es,i,r,_,h2,_,_,_=>by simp at h2
 |kk::ks,v::vs,e::es,i,r,h1,h2,hr,kh,h=>by
  unfold rA at h;split at h
  .rename_i e1;cases e1
  .rename_i c ks' v' Oa e1 e2;cases e1;cases e2;split at h
   case h_2=>cases h
   rename_i m hm;split at h
   case isTrue=>cases h
   rename_i A3;simp only[ne_eq,aiI]at A3;have h0:=hr 0 (by simp) (by simp);simp only[List.getElem_cons_zero]at h0;have AH:=h0;generalize Xi:e.key=ek at h0;cases h0;rename_i us h3 h4 h5;obtain⟨e3,_⟩:=TZ (vs:=us.toList) hm (by simpa using h3) (λi h h'=>by simpa using h5 i h (by simpa using h'))
   have f1:us=CJ m:=by rw[CJ,<-e3]
   have hE:=WX (P:=P) (w:=w) 10000 kt k hk key m hl (by omega);simp only[Tu,hu]at hE;rw[<-f1]at hE
   have hE':(Op.equal kt (.agg (CJ key)) e.key).run P w=.ok (key==m) w:=by rw[Xi];exact hE
   split at h
   .rename_i hb;cases h;exact⟨some (i,e.val),by simp[Instr.findAsking,hE',hb],kh 0 (by simp) (by simp)⟩
   .rename_i hb;obtain⟨q,q1,q2⟩:=Od hu hk key hl ks vs es (i+1) r (by simpa using h1) (by simpa using h2) (λj h h'=>hr (j+1) (by simpa using h) (by simpa using h')) (λj h h'=>kh (j+1) (by simpa using h) (by simpa using h')) h;exact⟨q,by simp[Instr.findAsking,hE',hb,q1],q2⟩
  .cases h
variable{w0:World}{n:Nat}{U:Nat->Prop}{g:Gh}{S:aF}{H:aK}{a:Act}
theorem aaU (R:Rel P w0 n U g S H a w) {o:Oper} {t kt el:TypeId} {fs:Array Field} {k:Nat} {ie:TypeInfo} {z:Value} {zs:List AV} {x1 x2:Operand} {y1 y2:pR} {e:aT} (ho:o.op = .lookup t x1 x2 true) (hd:∀ t,o.dst=some t→t < n∧¬ U t)
  (mJ:P.underlying t=some (.map kt el)) (hu:P.underlying kt=some (.struct fs)) (hk:Pa P 10000 kt=some k) (hi:P.info? el=some ie) (hz:ie.zero=some (.agg z.cells)) (TD:JC z.cells.toList=some zs)
  (Eu:lQ n x1=some y1) (AJ:lQ n x2=some y2) (TI:∀t∈y1.tmps,¬U t) (TG:∀t∈y2.tmps,¬U t)
  (he:aL S H (.lookup k (.agg zs) y1 y2)=some e):sS P w0 n U g S H a w o e:=by
 have sV:=R.ev Eu TI;have qD:=R.ev AJ TG;simp only[aL]at he;generalize AL.ev S y1=p1 at he sV;generalize AL.ev S y2=p2 at he qD;generalize yL:a.eval x1=c1 at sV;generalize K4:a.eval x2=c2 at qD;have hzr:=(HK g.Pr w TD).1;have hzd:RD g.Pr w (.agg zs) (.agg z.cells):=.agg _ _ (by simpa using hzr.1) hzr.2.2 (λi h h'=>by simpa using hzr.2.1 i h (by simpa using h'))
 have two:∀(v:AV)(c:Value)(b:Bool),RD g.Pr w v c->RD g.Pr w (.d_ [v,.bool b]) (.tuple #[c,.bool b]):=by
  intro v c b h
  refine .d_ _ _ rfl λi hi gq=>?_
  match i,hi with
  |0,_=>exact h
  |1,_=>exact .bool b
 split at he
 case h_2=>cases he
 rename_i ks vs c;split at he
 case h_2=>cases he
 rename_i key aeT;split at he
 case isFalse=>cases he
 rename_i hl;have q2:=qD.j_ rfl;cases q2;rename_i us h3 h4 h5;obtain⟨e3,_⟩:=TZ (vs:=us.toList) aeT (by simpa using h3) (λi h h'=>by simpa using h5 i h (by simpa using h'))
 have f1:us=CJ key:=by rw[CJ,<-e3]
 subst f1
 have AM:(match P.underlying kt with|some (.array _ _)|some (.struct _)=>true|_=>false)=true:=by rw[hu]
 have q1:=sV.j_ rfl
 obtain ⟨es,sk,WO,jf,J0,hk4⟩:∃ es:Array MapEntry,(∀ K:Array MapEntry→Sem Value,((do
    let es<-match c1 with
     |.map none=>pure #[]
     |.map (some r)=>do
      let .map es _ <-getObj r | stuck "Lookup: map expected"
      pure es
     |_=>stuck "Lookup: map expected"
    K es):Sem Value).run P w=(K es).run P w)/\ks.length=es.size/\vs.length=es.size/\(∀j (h:j<ks.length)(h':j<es.size),RD g.Pr w ks[j] (es[j]).key)/\(∀j (h:j<vs.length)(h':j<es.size),RD g.Pr w vs[j] (es[j]).val):=by
  cases q1 with
  |map _ _ b es clock hb hm hk hv hr kh=>
   exact⟨es,λK=>by simp[afW,aiw hm],hk,hv,hr,kh⟩
  |WL=>exact⟨#[],λK=>by simp,rfl,rfl,λj h=>by simp at h,λj h=>by simp at h⟩
 have Yq:=W9 (P:=P) (w:=w) es.isEmpty 10000 kt k hk key hl;simp only[Tu,hu]at Yq
 have main:∀ r,rA key ks vs=some r→(execOp a.eval o).run P w = .ok (.value (match r with | some _ => .tuple #[(match (Instr.findAsking kt (.agg (CJ key)) es.toList 0).run P w with | .ok (some (_,c)) _=>c | _=>undef),.bool true] | none => .tuple #[.agg z.cells,.bool false])) w ∧
   (∀v,r=some v->RD g.Pr w v (match(Instr.findAsking kt (.agg (CJ key)) es.toList 0).run P w with|.ok (some (_,c)) _=>c|_=>undef)):=by
  intro r hr;obtain⟨q,q1,q2⟩:=Od (w:=w) (Pr:=g.Pr) hu hk key hl ks vs es.toList 0 r (by simpa using WO) (by simpa using jf) (λj h h'=>by simpa using J0 j h (by simpa using h')) (λj h h'=>by simpa using hk4 j h (by simpa using h')) hr;have XC:=(run_findKey_eq (P:=P) (w:=w) AM (.agg (CJ key)) es.toList).trans q1
  have eh:(Instr.lookup t c1 (.agg (CJ key)) true).run P w=.ok (match q with|some (_,v)=>.tuple #[v,.bool true]|none=>.tuple #[.agg z.cells,.bool false]) w:=by
   unfold Instr.lookup;simp only[afW,agn mJ,Result.andThen_ok]
   have:=sk (λes=>do
    Instr.checkKey es.isEmpty 10000 kt (.agg (CJ key))
    let(v,ok)<-match<-Instr.findKey kt (.agg (CJ key)) es.toList with
     |some (_,v)=>pure (v,true)
     |none=>pure (<-zeroValue el,false)
    pure (if true=true then .tuple #[v,.bool ok]else v))
   simp only[afW]at this;refine this.trans ?_;simp only[Yq,Result.andThen_ok,XC]
   cases q with
   |none=>simp[zeroValue,typeInfo,hi,hz]
   |some p=>simp
  refine⟨?_,?_⟩
  .unfold execOp;simp only[ho,yL,K4,afW,eh,Result.andThen_ok,q1]
   cases r<;>cases q<;>first|exact q2.elim|rfl
  .rintro v rfl;rw[q1]
   cases q with
   |none=>exact q2.elim
   |some p=>exact q2
 split at he
 .rename_i v hv;cases he;obtain⟨m1,m2⟩:=main _ hv
  exact sS.val R (λt h=>(hd t h).1) m1 (.data _ _ (two _ _ _ (m2 v rfl).aI)) λ_=>trivial
 .rename_i hv;cases he;obtain⟨m1,m2⟩:=main _ hv
  exact sS.val R (λt h=>(hd t h).1) m1 (.data _ _ (two _ _ _ hzd)) λ_=>trivial
 .cases he
end
section
variable{P:Program}{w0:World}{n:Nat}{U:Nat->Prop}{g:Gh}{S:aF}{H:aK}{a:Act}{w:World}
theorem acK{Pr:Nat->Nat->Prop}{al:Nat->Option Nat}{v:AV}{c:Value}(h:RV Pr al w v c)(hf:Hs v=true):c.cells=#[c]:=by
 cases h with
 |data v c h=>
  cases h with
  |val c hc=>cases c<;>first|rfl|cases hc
  |_=>cases hf
 |func=>rfl
 |box=>cases hf
 |uL=>cases hf
 |bB=>cases hf
theorem aa5 (R:Rel P w0 n U g S H a w) {o:Oper} {t el:TypeId} {len:Nat} {it ie:TypeInfo} {z:Value} {ps:Array (Nat×Operand)} {xs:List Operand} {ys:List pR} {e:aT} (ho:o.op = .build t ps) (hd:∀ t,o.dst=some t→t < n∧¬ U t)
  (hi:P.info? t=some it) (mJ:P.underlying t=some (.array len el)) (hz:it.zero=some z) (JO:P.info? el=some ie) (hs:ie.size=1) (TD:z.cells.size=xs.length)
  (ju:ps.toList=(xs.zipIdx 0).map λx=>(x.2,x.1)) (hx:Tx n xs=some ys) (hu:∀y∈ys,∀t∈y.tmps,¬U t) (he:aL S H (.uz ys)=some e):sS P w0 n U g S H a w o e:=by
 simp only[aL]at he;split at he
 case isFalse=>cases he
 rename_i fX;cases he;simp only[afC]at fX;obtain⟨l1,r1⟩:=R.evs hx hu
 have gG:∀j (h:j<xs.length),(a.eval xs[j]).cells=#[a.eval xs[j]]:=λj h=>
  acK (r1 j (by omega) h) (fX _ (afp.2 ⟨_,ae_ (by omega),rfl⟩))
 have abS:=Great.fill_whole (s:=1) (by omega) (xs.map a.eval) z.cells (λv hv=>by
  obtain⟨x,hx,rfl⟩:=afp.1 hv;obtain⟨j,hj,rfl⟩:=afD hx
  rw[gG j hj];rfl) (by simp[TD])
 have aaQ:(ps.map λ(i,x)=>(i,a.eval x)).toList=((xs.map a.eval).zipIdx 0).map λx=>(x.2,x.1):=by
  rw[aiL,ju];simp[List.zipIdx_map]
 have abT:((xs.map a.eval).flatMap λv=>v.cells.toList)=xs.map a.eval:=by
  have:∀l:List Operand,(∀x∈l,(a.eval x).cells=#[a.eval x])->((l.map a.eval).flatMap λv=>v.cells.toList)=l.map a.eval:=by
   intro l
   induction l with
   |nil=>intro _;rfl
   |cons x l ih=>intro h;simp only[afv,agP,h x aft,ih λy hy=>h y (afk _ hy)];rfl
  exact this xs λx hx=>by obtain⟨j,hj,rfl⟩:=afD hx;exact gG j hj
 have hb:P.built t (ps.map λ(i,x)=>(i,a.eval x)).toList=some (xs.map a.eval).toArray:=by
  unfold Program.built;simp only[hi,mJ,hz,JO,hs];rw[aaQ,abS,abT]
 refine sS.val R (λt h=>(hd t h).1) (c:=.agg (xs.map a.eval).toArray) ?_ (.uL _ _ (by simp[l1]) (λi h h'=>?_)) λ_=>trivial
 .unfold execOp;simp only[ho,afW,ais w t _ _ hb,Result.andThen_ok]
  rfl
 .simp only[afi]at h;have:=r1 i h (by simpa using h');simpa using this
theorem aa6 (R:Rel P w0 n U g S H a w) {o:Oper} {t el:TypeId} {len:Nat} {ie:TypeInfo} {Tq:TypeDesc} {x1 x2:Operand} {y1 y2:pR} {e:aT} (ho:o.op = .index t x1 x2) (hd:∀ t,o.dst=some t→t < n∧¬ U t)
  (mJ:P.underlying t=some (.array len el)) (hi:P.info? el=some ie) (hs:ie.size=1) (hue:P.underlying el=some Tq) (hag:fg Tq=false) (Eu:lQ n x1=some y1) (AJ:lQ n x2=some y2) (TI:∀t∈y1.tmps,¬U t) (TG:∀t∈y2.tmps,¬U t)
  (he:aL S H (.ux len y1 y2)=some e):sS P w0 n U g S H a w o e:=by
 have sV:=R.ev Eu TI;have qD:=R.ev AJ TG;simp only[aL]at he;generalize AL.ev S y1=p1 at he sV;generalize AL.ev S y2=p2 at he qD;generalize yL:a.eval x1=c1 at sV;generalize K4:a.eval x2=c2 at qD;split at he
 case h_2=>cases he
 rename_i fs k;split at he
 case isFalse=>cases he
 rename_i hk;split at he
 case h_2=>cases he
 rename_i v hv;split at he
 case isFalse=>cases he
 rename_i hf;cases he;obtain⟨h0,rfl⟩:=af0.1 hv;have q2:=qD.j_ rfl;cases q2
 cases sV with
 |data _ _ hh=>cases hh
 |uL _ vs h1 hr=>
  have aw:k.toNat<vs.size:=by omega
  have AY:(isAgg el).run P w=.ok false w:=by
   unfold isAgg;rw[afW,agn hue w]
   cases Tq<;>simp[fg]at hag⊢
  refine sS.val R (λt h=>(hd t h).1) (c:=vs[k.toNat]) ?_ (hr _ h0 aw) λ_=>?_
  .simp only[execOp,ho,yL,K4,Instr.index,afW];simp[asIntOf,agn mJ,hk,sizeOf,typeInfo,hi,hs,afW,part,AY,aw]
  .generalize fs[k.toNat]=u at hf
   cases u<;>first|trivial|cases hf
theorem XB{v:AV}(h:v.one=true):v.cells=[v]:=by
 cases v<;>first|rfl|cases h
theorem aaS (R:Rel P w0 n U g S H a w) {o:Oper} {t el:TypeId} {len:Nat} {i:TypeInfo} {x:Operand} {y:pR} {e:aT} (ho:o.op = .slice t x none none none) (hd:∀ t,o.dst=some t→t < n∧¬ U t)
  (mJ:P.underlying t=some (.array len el)) (JH:P.info? el=some i) (hx:lQ n x=some y) (hu:∀t∈y.tmps,¬U t)
  (he:aL S H (.uG len y)=some e):sS P w0 n U g S H a w o e:=by
 have hv:=R.ev hx hu;simp only[aL]at he;generalize UE:AL.ev S y=q at he hv;generalize Pe:a.eval x=c at hv;split at he
 case h_2=>cases he
 rename_i cs;split at he
 case isFalse=>cases he
 rename_i hlen;cases he;have q2:=hv.j_ rfl
 cases q2 with
 |ref _ b off vs h1 hc hr=>
  have hk:(execOp a.eval o).run P w=.ok (.value (.slice (some ⟨b,off,none⟩) len len)) w:=by
   unfold execOp;simp only[ho,Pe,Option.map_none,Instr.sliceAt,afW,agn mJ]
   by_cases h0:len=0
   .subst h0;simp[Instr.sureAddr,Instr.sliceBounds,afW,sizeOf,typeInfo,JH]
   .simp[Instr.sureAddr,Instr.sliceBounds,afW,sizeOf,typeInfo,JH,Addr.add]
  refine sS.val R (λt h=>(hd t h).1) hk (.data _ _ ?_) λ_=>trivial
  rw[<-hlen];refine .slice .view cs b off cs.length 1 vs (afg _) (λh=>by cases h) (λi h=>by rw[XB (h1 i h)];rfl) (λi h j hj=>?_) (λk hk=>hc k (by omega)) (λi h j hj=>?_)
  .have e:=XB (h1 i h)
   have:((cs[i]).cells[j])=cs[i]:=by
    have fj:j<[cs[i]].length:=by rw[<-e];exact hj
    have:j=0:=by simp at fj;omega
    subst this;simp only[e];rfl
   rw[this];exact h1 i h
  .have e:=XB (h1 i h)
   have fj:j<[cs[i]].length:=by rw[<-e];exact hj
   have wu:j=0:=by simp at fj;omega
   subst wu
   have:((cs[i]).cells[0])=cs[i]:=by simp only[e];rfl
   rw[this,agf,Nat.add_zero];exact hr i h
def ab2(P:Program)(name:String)(t:TypeId):Option Nat:=
 match P.info? t with
 |some i=>match P.underlying t with
  |some (.struct _)=>match i.methods.find? (·.name==name)with
   |some m=>if m.path.isEmpty=true then match m.func with
    |some (f,false)=>some f
    |_=>none
    else none
   |none=>none
  |_=>none
 |none=>none
def abg(P:Program)(name:String):List (TypeId×Nat):=(List.range P.types.size).filterMap λt=>(ab2 P name t).map λk=>(t,k)
theorem Y_{t k:Nat}:∀{l:List (Nat×Nat)},l.lookup t=some k->(t,k)∈l
 |[],h=>by cases h
 |(a,b)::l,h=>by
  rw[List.lookup_cons]at h;split at h
  .rename_i he;cases h;simp only[afY]at he;subst he;exact aft
  .exact afk _ (Y_ h)
theorem abY{P:Program}{name:String}{t k:Nat}(h:(abg P name).lookup t=some k):ab2 P name t=some k:=by
 have h1:=Y_ h;simp only[abg,ah8,afX,aij]at h1;obtain⟨a,_,b,h2,rfl,rfl⟩:=h1;exact h2
theorem abr{P:Program}{name:String}{t k:Nat}{v:Value}{w:World}(h:(abg P name).lookup t=some k):(method (P.types.size+Made.depth) t v name).run P w=.ok (k,v) w:=by
 have h:=abY h;unfold ab2 at h;split at h
 case h_2=>cases h
 rename_i i hi;split at h
 case h_2=>cases h
 rename_i fs mJ;split at h
 case h_2=>cases h
 rename_i m hm;split at h
 case isFalse=>cases h
 rename_i hp;split at h
 case h_2=>cases h
 rename_i f hf;cases h;show(method (P.types.size+99+1) t v name).run P w=_
 have wz:m.path.toList=[]:=by simpa using hp
 generalize P.types.size+99=d;simp[method,typeInfo,hi,hm,wz,hf,follow,receiverAt,agn mJ,Place.get,afW]
end
inductive eZ where
 |ret (v:AV)|panic (v:AV)
def Tw(base:Nat)(old:Nat->Nat->Prop)(hi:Nat->Nat)(b k:Nat):Prop:=(b<base/\old b k)\/(base<=b/\k<hi b)
def Ya(P:Program)(base:Nat)(hi:Nat->Nat)(w:World):AV->Value->Prop
 |.slice (.own e) es,c=>∃i xs b,P.info? e=some i/\w.ownsRow base e i.size c es.length xs/\c.ownBlock=some b/\hi b=es.length*i.size
 |_,_=>True
def Ends(P:Program)(old:Nat->Nat->Prop)(w:World)(out:eZ)(e:Ending)(w':World):Prop:=
 Below w.heap.size w w'/\∃hi:Nat->Nat,(∀b,w'.heap.size<=b->hi b=0)/\
  match out with
  |.ret v=>∃c,e=.returned c/\RV (Tw w.heap.size old hi) (λ_=>none) w' v c/\Ya P w.heap.size hi w' v c
  |.panic v=>∃c,e=.panicked [{ v:=c,recovered:=false }]/\RD (Tw w.heap.size old hi) w' v c
def AC(P:Program)(GI:World->Prop)(f:Nat)(args:List AV)(out:eZ):Prop:=
 ∀(w:World)(old:Nat->Nat->Prop)(dH:Array Value),GI w->args.length=dH.size->
  (∀i (h:i<args.length)(h':i<dH.size),RV old (λ_=>none) w args[i] dH[i])->Calls P f dH w (Ends P old w out)
def iA(H:aK):AV->AV
 |.box i off=>match H i with|some cs=>.ref ((cs.drop off).map AV.cm)|none=>.bB
 |.func ..|.uL _=>.bB
 |v=>v.vw
def fz(H:aK):AV->AV
 |.func fn first cap=>.func fn (first.map (iA H)) (cap.map (iA H))
 |v=>iA H v
def sx:AV->Bool
 |.box ..=>true
 |_=>false
def du:AV->Bool
 |.box ..=>true
 |.func _ first cap=>first.any sx||cap.any sx
 |_=>false
def jA:AV->Bool
 |.bool _|.JJ|.int ..|.str _=>true
 |_=>false
def Xl:AV->Bool
 |.d_ vs=>vs.all jA
 |v=>jA v
def eZ.Xl:eZ->Bool
 |.ret v=>Go.AL.Xl v
 |.panic _=>false
theorem aci{v:AV}(h:Xl v=true):v.bU=true:=by cases v<;>first|rfl|cases h
theorem RD.jA{Pr fl:Nat->Nat->Prop}{w w':World}{v:AV}{c:Value}(h:RD Pr w v c)(hs:Go.AL.jA v=true):RD fl w' v c:=by
 cases h<;>first|(cases hs;done)|constructor
theorem RD.Xl{Pr fl:Nat->Nat->Prop}{w w':World}{v:AV}{c:Value}(h:RD Pr w v c)(hs:Go.AL.Xl v=true):RD fl w' v c:=by
 cases h with
 |d_ cs vs hl hr=>exact .d_ cs vs hl λi h h'=>(hr i h h').jA (by simp only[Go.AL.Xl,afC]at hs;exact hs _ (ae_ h))
 |bool b=>exact .bool b
 |JJ b=>exact .JJ b
 |int k n=>exact .int k n
 |str l=>exact .str l
 |_=>cases hs
section
variable{P:Program}{w0:World}{n:Nat}{U:Nat->Prop}{g:Gh}{S:aF}{H:aK}{a:Act}{w:World}
def fy(g:Gh)(bx:Bool)(b k:Nat):Prop:=g.Pr b k\/(bx=true/\∃i,g.al i=some b)
theorem Rel.iA(R:Rel P w0 n U g S H a w){v:AV}{c:Value}(h:RV g.Pr g.al w v c)(bx:Bool)(hb:sx v=true->bx=true):RV (fy g bx) (λ_=>none) w (Go.AL.iA H v) c:=by
 have Xt:∀{v c},RD g.Pr w v c->RD (fy g bx) w v c:=λh=>h.mono (bz.same λb k _ hp=>.inl hp)
 cases h with
 |data v c h=>
  have hd:=(Xt h).vw
  have:Go.AL.iA H v=v.vw:=by cases h<;>rfl
  rw[this];exact .data _ _ hd
 |box i off b sC=>
  obtain⟨cs,vs,ty,k1,k2,k3,k4,k5,k6,k7,k8,k9⟩:=R.box i b sC;simp only[Go.AL.iA,k1];have ib:bx=true:=hb rfl;refine .data _ _ (.ref _ _ _ (λk=>vs.getD (off+k) undef) (λk hk=>?_) (λk hk=>?_) λk hk=>?_)
  .simp only[afi,agN]at hk;simp only[afl,aik];have:=k9 (off+k) (by omega);exact(AV.adr _).trans this
  .simp only[afi,agN]at hk
   have:off+k<vs.size:=by omega
   exact⟨.inr ⟨ib,i,sC⟩,by simp[World.cell?,k3,this]⟩
  .simp only[afi,agN]at hk
   have aw:off+k<vs.size:=by omega
   have:=(Xt (k7 (off+k) (by omega) aw)).cm;simpa[aw]using this
 |func=>exact .bB _
 |uL=>exact .bB _
 |bB c=>exact .bB c
theorem Rel.fz(R:Rel P w0 n U g S H a w){v:AV}{c:Value}(h:RV g.Pr g.al w v c)(bx:Bool)(hb:du v=true->bx=true):RV (fy g bx) (λ_=>none) w (Go.AL.fz H v) c:=by
 have h0:=h
 cases h with
 |func fn first cap vs us h1 h2 r1 r2=>
  simp only[du,age,ag2]at hb;refine .func fn _ _ _ _ (by simpa using h1) (by simpa using h2) (λi hi gq=>?_) (λi hi gq=>?_)
  .simp only[afi]at hi;simp only[afl]
   exact R.iA (r1 i hi gq) bx λhx=>hb (.inl ⟨_,ae_ hi,hx⟩)
  .simp only[afi]at hi;simp only[afl]
   exact R.iA (r2 i hi gq) bx λhx=>hb (.inr ⟨_,ae_ hi,hx⟩)
 |data v c h=>
  have:Go.AL.fz H v=Go.AL.iA H v:=by cases h<;>rfl
  rw[this];exact R.iA h0 bx λhx=>hb (by cases v<;>first|rfl|cases hx)
 |box=>exact R.iA h0 bx hb
 |uL=>exact .bB _
 |bB c=>exact .bB c
theorem Rel.call (R:Rel P w0 n U g S H a w) (d:Option Nat) (hd:∀ t,d=some t→t < n∧¬ U t) (bx:Bool) {v:AV} {c:Value} {w':World} {hi:Nat→Nat} (hb:Below w.heap.size w w')
  (Dg:∀b,w'.heap.size<=b->hi b=0) (hr:RV (Tw w.heap.size (fy g bx) hi) (λ_=>none) w' v c) (h_:Ya P w.heap.size hi w' v c) (ib:bx=true->Xl v=true):
  ∃g',g'.base=g.base/\g'.old=g.old/\Rel P w0 n U g' (Go.AL.aY S d v) H (a.put d c) w':=by
 have hle:g.base<=w.heap.size:=by rw[R.base];exact R.below.size
 let own:Nat->Option Loc:=λb=>match c.ownBlock,d with
  |some b',some t=>if b=b' then some (.slot t)else none
  |_,_=>none
 let g':Gh:={ g with hi:=λb=>if b<w.heap.size then g.hi b else hi b,owner:=λb=>if b<w.heap.size then g.owner b else if b<w'.heap.size then own b else none }
 have R':Rel P w0 n U g' S H a w':=R.grow (g':=g') hb rfl rfl rfl
  (λb hb=>⟨if_pos hb,if_pos hb⟩)
  (λb Ju=>by
   have:=hb.size
   exact⟨(if_neg (by omega)).trans (Dg b Ju),(if_neg (by omega)).trans (if_neg (by omega))⟩)
 refine⟨g',rfl,rfl,R'.aY d v c (λt h=>(hd t h).1) ?_ ?_⟩
 .cases bx with
  |true=>exact .data _ _ ((hr.j_ (aci (ib rfl))).Xl (ib rfl))
  |false=>
   refine hr.mono (bz.same λb k _ hp=>?_) (λi b h=>by cases h)
   rcases hp with⟨h1,h2⟩|⟨h1,h2⟩
   .rcases h2 with h2|⟨h2,_⟩
    .rcases h2 with h2|h2
     .exact .inl h2
     .exact .inr ⟨h2.1,by show k<(if b<w.heap.size then g.hi b else hi b);rw[if_pos h1];exact h2.2⟩
    .cases h2
   .exact .inr ⟨by show g.base<=b;omega,by show k<(if b<w.heap.size then g.hi b else hi b);rw[if_neg (by omega)];exact h2⟩
 .intro t ht;subst ht
  cases v<;>try trivial
  rename_i oo es
  cases oo with
  |view=>trivial
  |nil=>trivial
  |own e=>
   obtain⟨i,xs,b,h1,h2,h3,h4⟩:=h_;have aw:=h2.lt b h3;refine⟨i,xs,b,h1,⟨h2.1,?_⟩,h3,?_,?_⟩
   .rcases h2.2 with hn|⟨gg,cap,cur,e1,uq,rest⟩
    .exact .inl hn
    .exact .inr ⟨gg,cap,cur,e1,agu hle uq,rest⟩
   .show(if b<w.heap.size then g.owner b else if b<w'.heap.size then own b else none)=_;rw[if_neg (by omega),if_pos aw.2];simp[own,h3]
   .show(if b<w.heap.size then g.hi b else hi b)=_;rw[if_neg (by omega)];exact h4
end
def zeroCells(P:Program)(t:TypeId):Option (List AV):=
 match P.info? t with
 |some i=>match i.zero with
  |some z=>JC z.cells.toList
  |none=>none
 |none=>none
def isVal:AV->Bool
 |.val _=>true
 |_=>false
def W2(P:Program)(t:TypeId):Option (List AV):=
 match zeroCells P t with
 |some zs=>if zs.any isVal then none else some zs
 |none=>none
theorem UD{P:Program}{t:TypeId}{zs:List AV}(h:W2 P t=some zs):zeroCells P t=some zs:=by
 unfold W2 at h;split at h
 .rename_i h'
  split at h<;>cases h
  exact h'
 .cases h
def comp(P:Program)(n:Nat)(tk:Bool)(hr:HR)(o:Oper):nj:=
 match o.op with
 |.move x=>match lQ n x with
  |some y=>.mv tk y
  |none=>.other
 |.assign x=>match lQ n x with
  |some y=>.mv true y
  |none=>.other
 |.pick c a b=>match lQ n c,lQ n a,lQ n b with
  |some c,some a,some b=>.pick c a b
  |_,_,_=>.other
 |.alloc t=>match zeroCells P t with
  |some cs=>.alloc t cs
  |none=>.other
 |.box t x=>match P.info? t,lQ n x with
  |some i,some y=>.box t i.size y
  |_,_=>.other
 |.build t ps=>match P.underlying t,W2 P t with
  |some (.struct fs),some zs=>match fs.toList.mapM (λf=>(P.info? f.type).map λi=>(f.offset,i.size))with
   |some places=>match U0 n (places[·]?) ps.toList with
    |some qs=>.build (zs.map AV.aI) qs
    |none=>.other
   |none=>.other
  |some (.array _ el),some zs=>match P.info? el with
   |some ie=>match U0 n (λi=>some (i*ie.size,ie.size)) ps.toList with
    |some qs=>.build (zs.map AV.aI) qs
    |none=>.other
   |none=>.other
  |some (.array _ el),none=>match P.info? t,P.info? el,Tx n (ps.toList.map (·.2))with
   |some it,some ie,some ys=>match it.zero with
    |some z=>if ie.size=1/\z.cells.size=ps.toList.length/\ps.toList.map (·.1)=List.range ps.toList.length then .uz ys else .other
    |none=>.other
   |_,_,_=>.other
  |_,_=>.other
 |.buildSlice t len ps=>match P.underlying t with
  |some (.slice el)=>match P.info? el with
   |some i=>if len=0/\ps.toList.isEmpty=true then .empty el else
    match i.zero,Tx n (ps.toList.map (·.2))with
    |some _,some ys=>if 0<i.size/\0<len/\ps.toList.map (·.1)=List.range len then .buildSlice t el i.size ys else .other
    |_,_=>.other
   |none=>.other
  |_=>.other
 |.load t a=>match P.info? t,P.underlying t,lQ n a with
  |some i,some d,some y=>if tk=true/\fg d=false/\o.dst.isSome=true then .loadT hr y else .load hr (fg d) i.size y
  |_,_,_=>.other
 |.store t a x=>match P.info? t,lQ n a,lQ n x with
  |some i,some y,some z=>if o.dst.isNone then .store hr i.size y z else .other
  |_,_,_=>.other
 |.binOp op t x y _=>match P.underlying t,lQ n x,lQ n y with
  |some (.int _),some x,some y|some .string,some x,some y=>.bin op x y
  |some .bool,some x,some y=>match op with
   |.eql=>.JI false x y
   |.neq=>.JI true x y
   |_=>.other
  |some (.struct _),some x,some y=>if P.eqGuardType P.depth t=false then
    match op,Pa P 10000 t with
    |.eql,some k=>.eqs false k x y
    |.neq,some k=>.eqs true k x y
    |_,_=>.other
   else .other
  |some (.slice _),some x',some _=>match op,y with
   |.eql,.const (.slice none 0 0)=>.isNil false x'
   |.neq,.const (.slice none 0 0)=>.isNil true x'
   |_,_=>.other
  |_,_,_=>.other
 |.unOp .not _ x=>match lQ n x with
  |some y=>.not y
  |none=>.other
 |.convert s d x=>match P.underlying s,P.underlying d,lQ n x with
  |some _,some (.int k),some y=>.conv k y
  |some (.slice el),some .string,some y=>match P.underlying el with
   |some (.int .u8)=>.Ef y
   |_=>.other
  |_,_,_=>.other
 |.makeInterface t x=>match P.underlying t,lQ n x with
  |some (.interface _),_=>.other
  |some _,some y=>.iface t y
  |_,_=>.other
 |.makeFunc fn f c=>match Tx n f.toList,Tx n c.toList with
  |some f,some c=>.JU fn f c
  |_,_=>.other
 |.slice t x lo hi none=>match P.underlying t,lQ n x,O_ n lo,O_ n hi with
  |some .string,some y,some lo,some hi=>.uy y lo hi
  |some (.slice el),some y,some lo,some hi=>match P.info? el with
   |some i=>.qz i.size y lo hi
   |none=>.other
  |some (.array len el),some y,some none,some none=>match P.info? el with
   |some _=>.uG len y
   |none=>.other
  |_,_,_,_=>.other
 |.fieldAddr s x j=>match P.underlying s,lQ n x with
  |some (.struct fs),some y=>match fs[j]? with
   |some f=>match P.info? f.type with
    |some i=>if i.size≠0 then .fieldAddr f.offset y else .other
    |none=>.other
   |none=>.other
  |_,_=>.other
 |.indexAddr t x i=>match P.underlying t,lQ n x,lQ n i with
  |some (.slice el),some y,some z=>match P.info? el with
   |some i=>.indexAddr i.size y z
   |none=>.other
  |_,_,_=>.other
 |.index t x i=>match P.underlying t,lQ n x,lQ n i with
  |some .string,some y,some z=>.uw y z
  |some (.array len el),some y,some z=>match P.info? el,P.underlying el with
   |some i,some (.func a b c)=>if i.size=1 then .ux len y z else .other
   |some i,some d=>.te (fg d) len i.size y z
   |_,_=>.other
  |_,_,_=>.other
 |.lookup t x i true=>match P.underlying t,lQ n x,lQ n i with
  |some (.map kt el),some y,some z=>match P.underlying kt,Pa P 10000 kt,P.info? el with
   |some (.struct _),some k,some ie=>match ie.zero with
    |some (.agg v)=>match JC v.toList with
     |some zs=>.lookup k (.agg zs) y z
     |none=>.other
    |_=>.other
   |_,_,_=>.other
  |_,_,_=>.other
 |.extract x j=>match lQ n x with
  |some y=>.extract y j
  |none=>.other
 |.typeAssert x _ t true=>match P.underlying t,P.info? t,lQ n x with
  |some (.interface _),_,_=>.other
  |some _,some i,some y=>match i.zero with
   |some (.agg z)=>match JC z.toList with
    |some zs=>.assert t (.agg zs) y
    |none=>.other
   |_=>.other
  |_,_,_=>.other
 |.panic x=>match lQ n x with
  |some y=>.panic y
  |none=>.other
 |.call cl=>match cl.callee,cl.args.toList,cl.argTypes.toList with
  |.builtin .len,[x],[s]=>match P.underlying s,lQ n x with
   |some .string,some y=>.Eh y
   |some (.slice _),some y=>.lO y
   |_,_=>.other
  |.builtin .append,[x1,x2],[t,t']=>match P.underlying t,lQ n x1,lQ n x2 with
   |some (.slice el),some y1,some y2=>match P.info? el with
    |some i=>match i.zero with
     |some z=>if t=t'/\z.cells.size=i.size/\i.bytes<=65536 then .append t el i.size i.bytes y1 y2 else .other
     |none=>.other
    |none=>.other
   |_,_,_=>.other
  |.builtin .max,[x1,x2],_=>match lQ n x1,lQ n x2 with
   |some y1,some y2=>.max y1 y2
   |_,_=>.other
  |.builtin .min,[x1,x2],_=>match lQ n x1,lQ n x2 with
   |some y1,some y2=>.min y1 y2
   |_,_=>.other
  |.value f,args,_=>match lQ n f,Tx n args with
   |some (.f k),some ys=>.call k ys
   |some y,some ys=>.nP y ys
   |_,_=>.other
  |.invoke r name,args,_=>match lQ n r,Tx n args with
   |some (.t t),some ys=>.nP (.m t (abg P name)) ys
   |_,_=>.other
  |_,_,_=>.other
 |_=>.other
structure fw where
 dst:Option Nat
 guard:Option (Nat×Bool)
 op:nj
def dZ(P:Program)(f:Nat):Bool:=
 match P.funcs[f]? with
 |some fn=>fn.name != "runtime.NumGoroutine" && fn.body.isSome
 |none=>false
theorem je{P:Program}{w:World}{f:Nat}{args:Array Value}(h:dZ P f=true):(callFunc f args).run P w=.ok (.enter f args) w:=by
 unfold dZ at h
 cases hf:P.funcs[f]? with
 |none=>simp[hf]at h
 |some fn=>
  simp only[hf,afa,ah9]at h;unfold callFunc;obtain⟨c,hc⟩:=aiC.1 h.2;simp[hf,h.1,hc]
section
variable{P:Program}{GI:World->Prop}
def iH(out:eZ)(K:AV->Prop)(Qp:AV->Prop):Prop:=
 match out with
 |.ret v=>K v
 |.panic v=>Qp v
def mH(P:Program)(GI:World->Prop)(f:Nat)(args:List AV)(bx:Bool)(K:AV->Prop)(Qp:AV->Prop):Prop:=
 ∃out,dZ P f=true/\AC P GI f args out/\(bx=true->out.Xl=true)/\iH out K Qp
def bf(P:Program)(GI:World->Prop)(op:nj)(dst:Option Nat)(K:aF->aK->Prop)(Qp:AV->Prop)(S:aF)(H:aK):Prop:=
 match op with
 |.alloc _ zero=>match dst with
  |some d=>K (av (λt=>cE d (S t)) d (.box d 0)) (av H d (some zero))
  |none=>False
 |.box _ size x=>match dst with
  |some d=>(ev S x).cells.length=size/\(ev S x).storable=true/\K (av (λt=>cE d (S t)) d (.box d 0)) (av H d (some ((ev S x).cells.map AV.aI)))
  |none=>False
 |.call f args=>mH P GI f (args.map λy=>fz H (ev S y)) (args.any λy=>du (ev S y)) (λv=>K (aY S dst v) H) Qp
 |.nP f args=>match ev S f with
  |.func (.func k) first cap=>mH P GI k ((first++args.map (ev S)++cap).map (fz H)) ((first++args.map (ev S)++cap).any du) (λv=>K (aY S dst v) H) Qp
  |_=>False
 |.panic x=>match ev S x with
  |.iface t v=>Qp (.iface t v)
  |_=>False
 |op=>match aL S H op with
  |some e=>K (e.S S dst) (e.H H)
  |none=>False
def nj.calm:nj->Bool
 |.alloc ..|.box ..|.call ..|.nP ..|.panic _|.other=>false
 |_=>true
theorem Hr {op:nj} (h:op.calm=true) (dst:Option Nat) (K:aF→aK→Prop) (Qp:AV→Prop) (S:aF) (H:aK) :
  bf P GI op dst K Qp S H=(match aL S H op with|some e=>K (e.S S dst) (e.H H)|none=>False):=by
 cases op<;>first|rfl|cases h
variable{w0:World}{n:Nat}{U:Nat->Prop}{g:Gh}{S:aF}{H:aK}{a:Act}{w:World}
theorem Xx:∀(ps:List (Nat×Operand))(k:Nat),ps.map (·.1)=(List.range' k ps.length)->ps=((ps.map (·.2)).zipIdx k).map λx=>(x.2,x.1)
 |[],_,_=>rfl
 |(i,x)::ps,k,h=>by
  simp only[afv,List.length_cons,agr,ahc]at h;obtain⟨rfl,h⟩:=h;simp only[afv,List.zipIdx_cons,ahc,aiu];exact Xx ps (i+1) h
theorem XX{x:Option Operand}(h:O_ n x=some none):x=none:=by
 cases x with
 |none=>rfl
 |some y=>simp[O_]at h
theorem ZC (R:Rel P w0 n U g S H a w) {o:Oper} {tk:Bool} {hr:HR} {op:nj} {e:aT} (hc:comp P n tk hr o=op) (o8:op.calm=true) (hd:∀ t,o.dst=some t→t < n∧¬ U t) (jX:∀ t∈op.rd,¬ U t) (ea:∀ t,o.dst=some t→t∉op.rd)
  (he:aL S H op=some e):sS P w0 n U g S H a w o e:=by
 unfold comp at hc;cases jM:o.op
 case move x=>
  simp only[jM]at hc
  split at hc<;>subst hc
  case h_2=>cases o8
  rename_i y hx;exact abi R hd hx jX (by unfold execOp;simp only[jM];rfl) ea he
 case assign x=>
  simp only[jM]at hc
  split at hc<;>subst hc
  case h_2=>cases o8
  rename_i y hx;exact abi R hd hx jX (by unfold execOp;simp only[jM];rfl) ea he
 case pick x x1 x2=>
  simp only[jM]at hc
  split at hc<;>subst hc
  case h_2=>cases o8
  rename_i c a' b h1 h2 h3;simp only[nj.rd,afr]at jX;exact ab0 R jM hd h1 h2 h3 (λt h=>jX t (.inl (.inl h))) (λt h=>jX t (.inl (.inr h))) (λt h=>jX t (.inr h)) he
 case alloc t=>simp only[jM]at hc;split at hc<;>subst hc<;>cases o8
 case box t x=>simp only[jM]at hc;split at hc<;>subst hc<;>cases o8
 case build t ps=>
  simp only[jM]at hc;split at hc
  .rename_i fs zs h1 h2;split at hc
   case h_2=>subst hc;cases o8
   rename_i places h3
   split at hc<;>subst hc
   case h_2=>cases o8
   rename_i qs h4;have h2:=UD h2;unfold zeroCells at h2;split at h2
   case h_2=>cases h2
   rename_i it hi;split at h2
   case h_2=>cases h2
   rename_i z hz;exact abH R jM hd hi h1 hz h3 h2 h4 (λq hq t ht=>jX t (ahh.2 ⟨q,hq,ht⟩)) he
  .rename_i len el zs h1 h2;split at hc
   case h_2=>subst hc;cases o8
   rename_i ie h3
   split at hc<;>subst hc
   case h_2=>cases o8
   rename_i qs h4;have h2:=UD h2;unfold zeroCells at h2;split at h2
   case h_2=>cases h2
   rename_i it hi;split at h2
   case h_2=>cases h2
   rename_i z hz;exact aaN R jM hd hi h1 hz h3 h2 h4 (λq hq t ht=>jX t (ahh.2 ⟨q,hq,ht⟩)) he
  .rename_i len el h1 h2;split at hc
   case h_2=>subst hc;cases o8
   rename_i it ie ys h3 h4 h5;split at hc
   case h_2=>subst hc;cases o8
   rename_i z hz
   split at hc<;>subst hc
   case isFalse=>cases o8
   rename_i ER;exact aa5 R jM hd h3 h1 hz h4 ER.1 (by simpa using ER.2.1) (Xx _ 0 (by rw[ER.2.2,agW])) h5 (λy hy t ht=>jX t (ahh.2 ⟨y,hy,ht⟩)) he
  .subst hc;cases o8
 case buildSlice t len ps=>
  simp only[jM]at hc;split at hc
  case h_2=>subst hc;cases o8
  rename_i el h1;split at hc
  case h_2=>subst hc;cases o8
  rename_i i h2;split at hc
  case isTrue=>
   rename_i ER;subst hc
   have ju:ps=#[]:=by
    have:=ER.2;simp only[List.isEmpty_iff]at this;exact Array.toList_eq_nil_iff.1 this
   rw[ER.1,ju]at jM;exact abF R jM hd h1 h2 he
  case isFalse=>
   split at hc
   case h_2=>subst hc;cases o8
   rename_i z ys h3 h4
   split at hc<;>subst hc
   case isFalse=>cases o8
   rename_i K4
   have hlen:ps.toList.length=len:=by have:=congrArg List.length K4.2.2;simpa using this
   exact YN R jM hd h1 h2 h3 K4.1 (Xx _ 0 (by rw[K4.2.2,hlen,agW])) (by simpa using hlen) K4.2.1 h4 (λy hy t ht=>jX t (ahh.2 ⟨y,hy,ht⟩)) he
 case load t x=>
  simp only[jM]at hc;split at hc
  case h_2=>subst hc;cases o8
  rename_i i d y h1 h2 h3
  split at hc<;>subst hc
  case isTrue ER=>
   obtain⟨dd,Q7⟩:=aiC.1 ER.2.2;exact abD R jM Q7 (hd dd Q7) h2 ER.2.1 h3 jX he
  case isFalse ER=>exact JN R jM hd h1 h2 h3 jX he
 case store t x1 x2=>
  simp only[jM]at hc;split at hc
  case h_2=>subst hc;cases o8
  rename_i i y z h1 h2 h3
  split at hc<;>subst hc
  case isFalse=>cases o8
  rename_i ER;simp only[nj.rd,afr]at jX;exact kS R jM (by simpa using ER) h1 h2 h3 (λt h=>jX t (.inl h)) (λt h=>jX t (.inr h)) he
 case binOp op t x1 x2 t'=>
  simp only[jM]at hc;split at hc
  .subst hc;rename_i k y1 y2 h1 h2 h3;simp only[nj.rd,afr]at jX;exact aat R jM hd h2 h3 (λt h=>jX t (.inl h)) (λt h=>jX t (.inr h)) he
  .subst hc;rename_i y1 y2 h1 h2 h3;simp only[nj.rd,afr]at jX;exact aat R jM hd h2 h3 (λt h=>jX t (.inl h)) (λt h=>jX t (.inr h)) he
  .rename_i y1 y2 h1 h2 h3
   split at hc<;>subst hc
   .simp only[nj.rd,afr]at jX;exact aaz (neg:=false) R jM hd h1 h2 h3 (λt h=>jX t (.inl h)) (λt h=>jX t (.inr h)) he
   .simp only[nj.rd,afr]at jX;exact aaz (neg:=true) R jM hd h1 h2 h3 (λt h=>jX t (.inl h)) (λt h=>jX t (.inr h)) he
   .cases o8
  .rename_i fs y1 y2 h1 h2 h3;split at hc
   case isFalse=>subst hc;cases o8
   rename_i Hx
   split at hc<;>subst hc
   .simp only[nj.rd,afr]at jX;exact aah (neg:=false) R jM hd h1 (by assumption) Hx h2 h3 (λt h=>jX t (.inl h)) (λt h=>jX t (.inr h)) he
   .simp only[nj.rd,afr]at jX;exact aah (neg:=true) R jM hd h1 (by assumption) Hx h2 h3 (λt h=>jX t (.inl h)) (λt h=>jX t (.inr h)) he
   .cases o8
  .rename_i el y1 y2 h1 h2 h3
   split at hc<;>subst hc
   .exact YT (neg:=false) R jM hd h1 h2 jX he
   .exact YT (neg:=true) R jM hd h1 h2 jX he
   .cases o8
  .subst hc;cases o8
 case unOp u t x=>
  cases u<;>simp only[jM]at hc
  case not=>
   split at hc<;>subst hc
   case h_2=>cases o8
   rename_i y h1;exact acJ R jM hd h1 jX he
  all_goals (subst hc;cases o8)
 case convert s d x=>
  simp only[jM]at hc;split at hc
  .subst hc;rename_i ds k y h1 h2 h3;exact ab1 R jM hd h1 h2 h3 jX he
  .rename_i el y h1 h2 h3
   split at hc<;>subst hc
   case h_2=>cases o8
   rename_i h4;exact abN R jM hd h1 h4 h2 h3 jX he
  .subst hc;cases o8
 case makeInterface t x=>
  simp only[jM]at hc
  split at hc<;>subst hc
  case h_1=>cases o8
  case h_3=>cases o8
  rename_i d y NP h1 h2;exact abv R jM hd h1 NP h2 jX he
 case makeFunc fn f c=>
  simp only[jM]at hc
  split at hc<;>subst hc
  case h_2=>cases o8
  rename_i f2 c2 h1 h2;simp only[nj.rd,afr,ahh]at jX;exact acY R jM hd h1 h2 (λy hy t ht=>jX t (.inl ⟨y,hy,ht⟩)) (λy hy t ht=>jX t (.inr ⟨y,hy,ht⟩)) he
 case slice t x lo hi mx=>
  cases mx with
  |some m=>simp only[jM]at hc;subst hc;cases o8
  |none=>
   simp only[jM]at hc;split at hc
   .subst hc;rename_i y Yo gq h1 h2 h3 h4;simp only[nj.rd,afr,ahh]at jX;exact aa8 R jM hd h1 h2 (λt h=>jX t (.inl h)) h3 h4 (λy hy t ht=>jX t (.inr ⟨y,.inl (by simpa using hy),ht⟩)) (λy hy t ht=>jX t (.inr ⟨y,.inr (by simpa using hy),ht⟩)) he
   .rename_i el y Yo gq h1 h2 h3 h4
    split at hc<;>subst hc
    case h_2=>cases o8
    rename_i i h5;simp only[nj.rd,afr,ahh]at jX;exact aaJ R jM hd h1 h5 h2 (λt h=>jX t (.inl h)) h3 h4 (λy hy t ht=>jX t (.inr ⟨y,.inl (by simpa using hy),ht⟩)) (λy hy t ht=>jX t (.inr ⟨y,.inr (by simpa using hy),ht⟩)) he
   .rename_i len el y h1 h2 h3 h4
    split at hc<;>subst hc
    case h_2=>cases o8
    rename_i i h5;have e3:=XX h3;have e4:=XX h4;subst e3;subst e4;exact aaS R jM hd h1 h5 h2 jX he
   .subst hc;cases o8
 case fieldAddr s x j=>
  simp only[jM]at hc;split at hc
  case h_2=>subst hc;cases o8
  rename_i fs y h1 h2;split at hc
  case h_2=>subst hc;cases o8
  rename_i f h3;split at hc
  case h_2=>subst hc;cases o8
  rename_i i h4
  split at hc<;>subst hc
  case isFalse=>cases o8
  rename_i ER;exact Zb R jM hd h1 h3 h4 ER h2 jX he
 case indexAddr t x1 x2=>
  simp only[jM]at hc;split at hc
  case h_2=>subst hc;cases o8
  rename_i el y z h1 h2 h3
  split at hc<;>subst hc
  case h_2=>cases o8
  rename_i i h4;simp only[nj.rd,afr]at jX;exact Y' R jM hd h1 h4 h2 h3 (λt h=>jX t (.inl h)) (λt h=>jX t (.inr h)) he
 case index t x1 x2=>
  simp only[jM]at hc;split at hc
  .subst hc;rename_i y z h1 h2 h3;simp only[nj.rd,afr]at jX;exact aaH R jM hd h1 h2 h3 (λt h=>jX t (.inl h)) (λt h=>jX t (.inr h)) he
  .rename_i len el y z h1 h2 h3;split at hc
   .rename_i i a1 a2 a3 h4 h5
    split at hc<;>subst hc
    case isFalse=>cases o8
    rename_i hs;simp only[nj.rd,afr]at jX;exact aa6 R jM hd h1 h4 hs h5 rfl h2 h3 (λt h=>jX t (.inl h)) (λt h=>jX t (.inr h)) he
   case h_3=>subst hc;cases o8
   subst hc;rename_i i d _ h4 h5;simp only[nj.rd,afr]at jX;exact aaV R jM hd h1 h4 h5 h2 h3 (λt h=>jX t (.inl h)) (λt h=>jX t (.inr h)) he
  .subst hc;cases o8
 case lookup t x1 x2 ok=>
  cases ok with
  |false=>simp only[jM]at hc;subst hc;cases o8
  |true=>
   simp only[jM]at hc;split at hc
   case h_2=>subst hc;cases o8
   rename_i kt el y z h1 h2 h3;split at hc
   case h_2=>subst hc;cases o8
   rename_i fs k ie h4 h5 h6;split at hc
   case h_2=>subst hc;cases o8
   rename_i v h7
   split at hc<;>subst hc
   case h_2=>cases o8
   rename_i zs h8;simp only[nj.rd,afr]at jX;exact aaU (z:=.agg v) R jM hd h1 h4 h5 h6 h7 h8 h2 h3 (λt h=>jX t (.inl h)) (λt h=>jX t (.inr h)) he
 case extract x j=>
  simp only[jM]at hc
  split at hc<;>subst hc
  case h_2=>cases o8
  rename_i y h1;exact aad R jM hd h1 jX he
 case typeAssert x xt t ok=>
  cases ok with
  |false=>simp only[jM]at hc;subst hc;cases o8
  |true=>
   simp only[jM]at hc;split at hc
   case h_1=>subst hc;cases o8
   case h_3=>subst hc;cases o8
   rename_i d i y NP h1 h2 h3;split at hc
   case h_2=>subst hc;cases o8
   rename_i z hz
   split at hc<;>subst hc
   case h_2=>cases o8
   rename_i zs TD;exact aa_ (z:=.agg z) R jM hd h1 NP h2 hz TD h3 jX he
 case panic x=>simp only[jM]at hc;split at hc<;>subst hc<;>cases o8
 case call cl=>
  simp only[jM]at hc;split at hc
  .rename_i x s yS ha ht
   have ha':cl.args=#[x]:=by rw[<-Array.toArray_toList (xs:=cl.args),ha]
   have uB:cl.argTypes=#[s]:=by rw[<-Array.toArray_toList (xs:=cl.argTypes),ht]
   split at hc<;>subst hc
   .rename_i y h1 h2;exact aaB R jM yS ha' uB hd h1 h2 jX (.inl ⟨rfl,he⟩)
   .rename_i el y h1 h2;exact aaB R jM yS ha' uB hd h1 h2 jX (.inr ⟨⟨el,rfl⟩,he⟩)
   .cases o8
  .rename_i x1 x2 t t' yS ha ht
   have ha':cl.args=#[x1,x2]:=by rw[<-Array.toArray_toList (xs:=cl.args),ha]
   have uB:cl.argTypes=#[t,t']:=by rw[<-Array.toArray_toList (xs:=cl.argTypes),ht]
   split at hc
   case h_2=>subst hc;cases o8
   rename_i el y1 y2 h1 h2 h3;split at hc
   case h_2=>subst hc;cases o8
   rename_i i h4;split at hc
   case h_2=>subst hc;cases o8
   rename_i z h5
   split at hc<;>subst hc
   case isFalse=>cases o8
   rename_i ER;obtain⟨rfl,k1,k2⟩:=ER;simp only[nj.rd,afr]at jX ea;exact aa7 R jM yS ha' uB hd h1 h4 h5 k1 k2 h2 h3 (λt h=>jX t (.inl h)) (λt h=>jX t (.inr h)) (λt ht h=>ea t ht (.inl h)) he
  .rename_i x1 x2 yS ha
   have ha':cl.args=#[x1,x2]:=by rw[<-Array.toArray_toList (xs:=cl.args),ha]
   split at hc<;>subst hc
   case h_2=>cases o8
   rename_i y1 y2 h1 h2;simp only[nj.rd,afr]at jX;exact Yi R jM ha' hd h1 h2 (λt h=>jX t (.inl h)) (λt h=>jX t (.inr h)) (.inl ⟨yS,he⟩)
  .rename_i x1 x2 yS ha
   have ha':cl.args=#[x1,x2]:=by rw[<-Array.toArray_toList (xs:=cl.args),ha]
   split at hc<;>subst hc
   case h_2=>cases o8
   rename_i y1 y2 h1 h2;simp only[nj.rd,afr]at jX;exact Yi R jM ha' hd h1 h2 (λt h=>jX t (.inl h)) (λt h=>jX t (.inr h)) (.inr ⟨yS,he⟩)
  .split at hc<;>subst hc<;>cases o8
  .split at hc<;>subst hc<;>cases o8
  .subst hc;cases o8
 all_goals (simp only[jM]at hc;subst hc;cases o8)
end
def dU:Nat->Prop:=λ_=>False
def au(GI:World->Prop):Prop:=∀w w',GI w->Below w.heap.size w w'->GI w'
def fw.ok(n:Nat)(o:fw):Bool:=
 (match o.dst with|some d=>decide (d<n)&&!o.op.rd.contains d|none=>true)&&
 (match o.guard with|some (t,_)=>decide (t<n)|none=>true)
def nj.l5:nj->Bool
 |.alloc ..|.box ..=>true
 |_=>false
def fw.l5(o:fw):List Nat:=if o.op.l5 then o.dst.toList else[]
def JL(ops:Array Oper)(j:Nat):Option Nat:=(ops[j]?).bind (·.dst)
def taken(ops:Array Oper)(d:Nat):Bool:=
 ops.any λo=>match o.op with
  |.call { callee:=.builtin .append,args,.. }=>match args.toList with
   |.tmp t::_=>t==d
   |_=>false
  |_=>false
def rootOf(ops:Array Oper):Nat->Operand->HR
 |k+1,.tmp t=>match ops.toList.find? (λo=>o.dst==some t)with
  |some o=>match o.op with
   |.fieldAddr _ x _=>rootOf ops k x
   |.indexAddr ..=>.ref
   |.alloc _=>.box t
   |_=>.any
  |none=>.box t
 |_,_=>.any
def adQ(ops:Array Oper)(o:Oper):HR:=
 match o.op with
 |.load _ x|.store _ x _=>rootOf ops 10 x
 |_=>.any
def og(P:Program)(n:Nat)(dr:Bool)(ops:Array Oper)(o:Oper):fw:={
 dst:=o.dst
 guard:=match o.guard with
  |some (j,b)=>match JL ops j with
   |some t=>some (t,b)
   |none=>some (n,b)
  |none=>none
 op:=comp P n (match o.dst with|some d=>taken ops d|none=>false) (if dr then adQ ops o else .any) o }
def mV(P:Program)(n:Nat)(dr:Bool)(ops:Array Oper):List fw:=ops.toList.map (og P n dr ops)
def aD(S:aF):Option (Nat×Bool)->Option Bool
 |none=>some true
 |some (t,b)=>match S t with
  |.bool c=>some (c==b)
  |.d_ []=>some false
  |_=>none
def bj(P:Program)(GI:World->Prop):List fw->(aF->aK->Prop)->(AV->Prop)->aF->aK->Prop
 |[],K,_,S,H=>K S H
 |o::rest,K,Qp,S,H=>match aD S o.guard with
  |some true=>bf P GI o.op o.dst (bj P GI rest K Qp) Qp S H
  |some false=>bj P GI rest K Qp (aY S o.dst cG) H
  |none=>False
section
variable{P:Program}{GI:World->Prop}{w0:World}{n:Nat}{U:Nat->Prop}{g:Gh}{S:aF}{H:aK}{a:Act}{w:World}
theorem sS.wp {o:Oper} {e:aT} (h:sS P w0 n U g S H a w o e) {K:Act→World→Prop} {Q:Exit→Act→World→Prop}
  (hK:∀g' a' w',g'.base=g.base->g'.old=g.old->Rel P w0 n U g' (e.S S o.dst) (e.H H) a' w'->K a' w'):o.wp P a w K Q:=by
 obtain⟨c,w',g',hr,h1,h2,R⟩:=h;unfold Oper.wp
 rcases hr with hr|⟨hr,rfl⟩
 .rw[hr];exact hK g' _ _ h1 h2 R
 .rw[hr];exact hK g' _ _ h1 h2 R
theorem eV{a:Act}{cl:Call}{f:Operand}{t:TypeId}(hc:cl.callee=.value f):resolve a.eval cl t=Deferred.ofValue (a.eval f) (cl.args.map a.eval):=by
 unfold resolve;rw[hc]
theorem YE (R:Rel P w0 n U g S H a w) (hG:au GI) (dS:GI w0) {f:Nat} {args:List AV} {dH:Array Value} {bx:Bool} {KA:AV→Prop} {Qp:AV→Prop}
  (hl:args.length=dH.size) (hr:∀i (h:i<args.length)(h':i<dH.size),RV (fy g bx) (λ_=>none) w args[i] dH[i])
  (h:mH P GI f args bx KA Qp) (dst:Option Nat) (hd:∀t,dst=some t->t<n/\¬U t) {Kc:Act->World->Prop} {Qc:Exit->Act->World->Prop}
  (hK:∀v g' a' w',g'.base=g.base->g'.old=g.old->Rel P w0 n U g' (aY S dst v) H a' w'->KA v->Kc a' w')
  (hP:∀v c hi w',Below w0.heap.size w0 w'->(∀b,w'.heap.size<=b->hi b=0)->RD (Tw w0.heap.size g.old.c hi) w' v c->Qp v->Qc (.panic [{ v:=c,recovered:=false }]) a w'):
  dZ P f=true/\Calls P f dH w (λ|.returned v,yT=>Kc (a.put dst v) yT|.panicked chain,yT=>Qc (.panic chain) a yT|.outgrown,_=>LetsOut Qc):=by
 obtain⟨out,sX,wR,ib,iJ⟩:=h
 have hle:g.base<=w.heap.size:=by rw[R.base];exact R.below.size
 have fR:GI w:=by
  have hb:=R.below;rw[R.base]at hb;exact hG w0 w dS hb
 refine⟨sX,(wR w (fy g bx) dH fR hl hr).mono ?_⟩;rintro e w' ⟨hb,hi,Dg,hh⟩
 cases out with
 |ret v=>
  obtain⟨c,rfl,h1,h2⟩:=hh;obtain⟨g',e1,e2,R'⟩:=R.call dst hd bx hb Dg h1 h2 (λhx=>ib hx);exact hK v g' _ _ e1 e2 R' iJ
 |panic v=>
  obtain⟨c,rfl,h1⟩:=hh
  have aeL:bx=false:=by
   cases bx with
   |false=>rfl
   |true=>have:=ib rfl;cases this
  subst aeL;have AN:=R.below;rw[R.base]at AN hle;refine hP v c (λb=>if b<w.heap.size then g.hi b else hi b) w' (AN.trans (hb.mono hle)) (λb Ju=>?_) ?_ iJ
  .have:=hb.size;show(if b<w.heap.size then g.hi b else hi b)=0;rw[if_neg (by omega)];exact Dg b Ju
  .refine h1.mono (bz.same λb k _ hp=>?_)
   rcases hp with⟨k1,k2⟩|⟨k1,k2⟩
   .rcases k2 with k2|⟨k2,_⟩
    .rcases k2 with k2|k2
     .exact .inl (by rw[<-R.base];exact k2)
     .exact .inr ⟨by rw[<-R.base];exact k2.1,by show k<(if b<w.heap.size then g.hi b else hi b);rw[if_pos k1];exact k2.2⟩
    .cases k2
   .exact .inr ⟨by omega,by show k<(if b<w.heap.size then g.hi b else hi b);rw[if_neg (by omega)];exact k2⟩
theorem aaD(d:Nat):(λt=>(dU t\/t=d)/\t≠d)=dU:=by
 funext t
 simp only[dU,aiW,aiF,iff_false,not_and,aiI];exact id
theorem Zr (R:Rel P w0 n dU g S H a w) {o:Oper} {d:Nat} (HF:o.dst=some d) (hd:d < n) (ib:¬ g.old.bx d) {ty:TypeId} {vs:Array Value} {cs:List AV}
  (eh:(execOp a.eval o).run P w=.ok (.value (.pointer (some ⟨w.heap.size,0,none⟩))) (w.alloc (.cells vs ty))) (hr:Ts g.Pr w cs vs)
  (ho:∀(g':Gh) j (h:j<cs.length)(h':j<vs.size),(cs[j]).OJ/\A2 P w g' (.cell d j) cs[j] vs[j])
  {Kc:Act->World->Prop} {Qc:Exit->Act->World->Prop}
  (hK:∀g' a' w',g'.base=g.base->g'.old=g.old->Rel P w0 n dU g' (av (λt=>cE d (S t)) d (.box d 0)) (av H d (some cs)) a' w'->Kc a' w'):o.wp P a w Kc Qc:=by
 have R1:=R.suspend d ib (.box d 0) cs;have R2:=R1.aa' d (.inr rfl) hd cs vs ty (bm _ _ _) (bm _ _ _) hr.1 hr.2.1 (λj h h'=>ho _ j h h') hr.2.2;unfold Oper.wp;rw[eh];show Kc _ _;rw[HF];rw[aaD]at R2;exact hK { g with al:=av (av g.al d none) d (some w.heap.size) } _ _ rfl rfl R2
theorem Y5{o:Oper}{tk:Bool}{hr:HR}{t:TypeId}{cs:List AV}(h:comp P n tk hr o=.alloc t cs):o.op=.alloc t/\zeroCells P t=some cs:=by
 unfold comp at h
 repeat' split at h
 all_goals first
  |(cases h;done)
  |(cases h;exact⟨by assumption,by assumption⟩)
theorem acW{o:Oper}{tk:Bool}{hr:HR}{t:TypeId}{size:Nat}{x:pR}(h:comp P n tk hr o=.box t size x):∃x',o.op=.box t x'/\lQ n x'=some x:=by
 unfold comp at h
 repeat' split at h
 all_goals first
  |(cases h;done)
  |(cases h;exact⟨_,by assumption,by assumption⟩)
theorem abf{o:Oper}{tk:Bool}{hr:HR}{x:pR}(h:comp P n tk hr o=.panic x):∃x',o.op=.panic x'/\lQ n x'=some x:=by
 unfold comp at h
 repeat' split at h
 all_goals first
  |(cases h;done)
  |(cases h;exact⟨_,by assumption,by assumption⟩)
theorem ad4{x:Operand}{f:Nat}(h:lQ n x=some (.f f)):x=.func f:=by
 cases x<;>simp only[lQ]at h
 .split at h<;>cases h
 .simp only[afX]at h;obtain⟨_,_,h⟩:=h;cases h
 .cases h
 .cases h;rfl
theorem acj{o:Oper}{tk:Bool}{hr:HR}{f:Nat}{args:List pR}(h:comp P n tk hr o=.call f args):∃cl,o.op=.call cl/\cl.callee=.value (.func f)/\Tx n cl.args.toList=some args:=by
 unfold comp at h
 repeat' split at h
 all_goals first
  |(cases h;done)
  |skip
 cases h;rename_i h1 h2;have e:=ad4 h1;subst e;exact⟨_,by assumption,by assumption,h2⟩
theorem abk {o:Oper} {tk:Bool} {hr:HR} {f:pR} {args:List pR} (h:comp P n tk hr o = .nP f args) :
  (∃cl f',o.op=.call cl/\cl.callee=.value f'/\lQ n f'=some f/\Tx n cl.args.toList=some args)\/
  ∃cl r name t,o.op=.call cl/\cl.callee=.invoke r name/\lQ n r=some (.t t)/\f=.m t (abg P name)/\Tx n cl.args.toList=some args:=by
 unfold comp at h
 repeat' split at h
 all_goals first
  |(cases h;done)
  |skip
 .cases h;exact .inl ⟨_,_,by assumption,by assumption,by assumption,by assumption⟩
 .cases h;exact .inr ⟨_,_,_,_,by assumption,by assumption,by assumption,rfl,by assumption⟩
theorem abO(x:Value)(l:Array Value):(#[x]++l)[0]?=some x:=by
 rw[Array.getElem?_append_left (by simp)];rfl
theorem acI(x:Value)(l:Array Value):(#[x]++l).extract 1 (#[x]++l).size=l:=by
 apply Array.ext';simp
theorem Zs (R:Rel P w0 n U g S H a w) (hG:au GI) (dS:GI w0) {o:Oper} {tk:Bool} {hr:HR} {f:Nat} {args:List pR} (hc:comp P n tk hr o = .call f args) (hd:∀ t,o.dst=some t→t < n∧¬ U t) (hu:∀ t∈(nj.call f args).rd,¬ U t)
  {KA:AV->Prop} {Qp:AV->Prop} (h:mH P GI f (args.map λy=>fz H (AL.ev S y)) (args.any λy=>du (AL.ev S y)) KA Qp) {Kc:Act->World->Prop} {Qc:Exit->Act->World->Prop}
  (hK:∀v g' a' w',g'.base=g.base->g'.old=g.old->Rel P w0 n U g' (aY S o.dst v) H a' w'->KA v->Kc a' w')
  (hP:∀v c hi w',Below w0.heap.size w0 w'->(∀b,w'.heap.size<=b->hi b=0)->RD (Tw w0.heap.size g.old.c hi) w' v c->Qp v->Qc (.panic [{ v:=c,recovered:=false }]) a w'):o.wp P a w Kc Qc:=by
 obtain⟨cl,jM,abK,HN⟩:=acj hc;obtain⟨l1,r1⟩:=R.evs HN (λy hy t ht=>hu t (ahh.2 ⟨y,hy,ht⟩))
 obtain⟨sX,oT⟩:=YE R hG dS (dH:=cl.args.map a.eval) (by simpa using l1) (λi hi gq=>by
  simp only[afi]at hi;simp only[afl,Array.getElem_map];have:=r1 i hi (by simpa using gq)
  refine R.fz (by simpa using this) _ λhb=>?_
  exact ag2.2 ⟨_,ae_ hi,hb⟩) h o.dst hd (Kc:=Kc) (Qc:=Qc) hK hP
 have aem:a.eval (.func f)=.func (.func f) #[] #[]:=rfl;unfold Oper.wp execOp;simp only[jM,eV abK,aem,Deferred.ofValue,afW,Sem.run_pure,Result.andThen_ok,invoke,ai7,ai8];rw[je sX];exact oT
theorem YS (R:Rel P w0 n U g S H a w) (hG:au GI) (dS:GI w0) {o:Oper} {tk:Bool} {hr:HR} {f:pR} {args:List pR} (hc:comp P n tk hr o = .nP f args) (hd:∀ t,o.dst=some t→t < n∧¬ U t) (hu:∀ t∈(nj.nP f args).rd,¬ U t)
  {k:Nat} {first cap:List AV} (Zf:AL.ev S f=.func (.func k) first cap)
  {KA:AV->Prop} {Qp:AV->Prop} (h:mH P GI k ((first++args.map (AL.ev S)++cap).map (fz H)) ((first++args.map (AL.ev S)++cap).any du) KA Qp) {Kc:Act->World->Prop} {Qc:Exit->Act->World->Prop}
  (hK:∀v g' a' w',g'.base=g.base->g'.old=g.old->Rel P w0 n U g' (aY S o.dst v) H a' w'->KA v->Kc a' w')
  (hP:∀v c hi w',Below w0.heap.size w0 w'->(∀b,w'.heap.size<=b->hi b=0)->RD (Tw w0.heap.size g.old.c hi) w' v c->Qp v->Qc (.panic [{ v:=c,recovered:=false }]) a w'):o.wp P a w Kc Qc:=by
 simp only[nj.rd,afr,ahh]at hu
 rcases abk hc with⟨cl,f',jM,abK,hf,HN⟩|⟨cl,r,name,t,jM,abK,kh,rfl,HN⟩
 case inr=>
  obtain⟨l1,r1⟩:=R.evs HN (λy hy t ht=>hu t (.inr ⟨y,hy,ht⟩));have hvr:=R.ev kh (λt' ht=>hu t' (.inl (by simpa[pR.tmps]using ht)));simp only[AL.ev]at Zf hvr;generalize hS:S t=sv at Zf hvr;split at Zf
  case h_2=>cases Zf
  rename_i ty v;split at Zf
  case h_2=>cases Zf
  rename_i k' hk;cases Zf;generalize hcr:a.eval r=cr at hvr;have hvr:=hvr.j_ rfl
  cases hvr with
  |iface _ _ cv hv=>
  simp only[List.singleton_append,afL]at h
  obtain⟨sX,oT⟩:=YE R hG dS (dH:=#[cv]++cl.args.map a.eval) (by simp at l1⊢;omega) (λi hi gq=>by
   simp only[afi]at hi;simp only[afl]
   refine R.fz ?_ _ λhb=>?_
   .cases i with
    |zero=>
     have e2:(#[cv]++cl.args.map a.eval)[0]=cv:=by rw[aiv (by simp)];rfl
     simp only[List.getElem_cons_zero];rw[e2];exact .data _ _ hv
    |succ i=>
     have e2:(#[cv]++cl.args.map a.eval)[i+1]=a.eval (cl.args.toList[i]'(by simp at gq l1⊢;omega)):=by
      rw[aiA (by simp)];simp
     simp only[List.getElem_cons_succ,afl];rw[e2];exact r1 i (by simpa using hi) (by simp at gq l1⊢;omega)
   .exact ag2.2 ⟨_,ae_ hi,hb⟩) h o.dst hd (Kc:=Kc) (Qc:=Qc) hK hP
  have hm:=abr (v:=cv) (w:=w) hk;unfold Oper.wp execOp;simp only[jM]
  have OS:(resolve a.eval cl o.type).run P w=.ok { target:=.fn (.method name) #[],args:=#[.iface ty cv]++cl.args.map a.eval } w:=by
   unfold resolve;rw[abK];simp[hcr]
  simp only[afW,OS,Result.andThen_ok,invoke,abO,callMethod,acI,hm,run_program];rw[je sX];simp only[Oper.upon];exact oT
 obtain⟨l1,r1⟩:=R.evs HN (λy hy t ht=>hu t (.inr ⟨y,hy,ht⟩));have hvf:=R.ev hf (λt ht=>hu t (.inl ht));rw[Zf]at hvf;generalize hcf:a.eval f'=cf at hvf
 cases hvf with
 |data _ _ hh=>cases hh
 |func _ _ _ vs us q1 q2 q3 q4=>
  have fX:∀i (hi:i<(first++args.map (AL.ev S)++cap).length)(gq:i<(vs++cl.args.map a.eval++us).size),RV g.Pr g.al w (first++args.map (AL.ev S)++cap)[i] (vs++cl.args.map a.eval++us)[i]:=by
   intro i hi gq;simp only[afm,afi]at hi;simp only[Array.length_toList]at l1
   by_cases c1:i<first.length
   .have e1:(first++args.map (AL.ev S)++cap)[i]=first[i]:=by rw[afz (by simp;omega),afz c1]
    have e2:(vs++cl.args.map a.eval++us)[i]=vs[i]:=by rw[aiv (by simp;omega),aiv (by omega)]
    rw[e1,e2];exact q3 i c1 (by omega)
   .by_cases c2:i<first.length+args.length
    .have e1:(first++args.map (AL.ev S)++cap)[i]=AL.ev S (args[i-first.length]):=by rw[afz (by simp;omega),af2 (by omega)];simp
     have e2:(vs++cl.args.map a.eval++us)[i]=a.eval (cl.args.toList[i-first.length]'(by simp;omega)):=by
      rw[aiv (by simp;omega),aiA (by omega)];simp[q1]
     rw[e1,e2];exact r1 _ (by omega) (by simp;omega)
    .have e1:(first++args.map (AL.ev S)++cap)[i]=cap[i-(first.length+args.length)]'(by omega):=by rw[af2 (by simp;omega)];simp
     have e2:(vs++cl.args.map a.eval++us)[i]=us[i-(first.length+args.length)]'(by omega):=by
      rw[aiA (by simp;omega)];simp[q1,l1]
     rw[e1,e2];exact q4 _ (by omega) (by omega)
  obtain⟨sX,oT⟩:=YE R hG dS (dH:=vs++cl.args.map a.eval++us) (by simp at l1⊢;omega) (λi hi gq=>by
   simp only[afi]at hi;simp only[afl]
   refine R.fz (fX i hi gq) _ λhb=>?_
   exact ag2.2 ⟨_,ae_ hi,hb⟩) h o.dst hd (Kc:=Kc) (Qc:=Qc) hK hP
  unfold Oper.wp execOp;simp only[jM,eV abK,hcf,Deferred.ofValue,afW,Sem.run_pure,Result.andThen_ok,invoke];rw[je sX];simp only[Oper.upon];exact oT
theorem acM (R:Rel P w0 n dU g S H a w) (hG:au GI) (dS:GI w0) {o:Oper} {tk:Bool} {hr:HR} (hd:∀ t,o.dst=some t→t < n) (ea:∀ t,o.dst=some t→t∉(comp P n tk hr o).rd) (ib:∀ d,o.dst=some d→(comp P n tk hr o).l5=true→¬ g.old.bx d)
  {K:aF->aK->Prop} {Qp:AV->Prop} (h:bf P GI (comp P n tk hr o) o.dst K Qp S H) {Kc:Act->World->Prop} {Qc:Exit->Act->World->Prop}
  (hK:∀g' S' H' a' w',g'.base=g.base->g'.old=g.old->Rel P w0 n dU g' S' H' a' w'->K S' H'->Kc a' w')
  (hP:∀v c hi w',Below w0.heap.size w0 w'->(∀b,w'.heap.size<=b->hi b=0)->RD (Tw w0.heap.size g.old.c hi) w' v c->Qp v->Qc (.panic [{ v:=c,recovered:=false }]) a w'):
  o.wp P a w Kc Qc:=by
 by_cases o8:(comp P n tk hr o).calm=true
 .rw[Hr o8]at h;split at h
  case h_2=>exact h.elim
  rename_i e he
  exact(ZC R rfl o8 (λt ht=>⟨hd t ht,id⟩) (λ_ _=>id) ea he).wp λg' a' w' h1 h2 R'=>hK g' _ _ _ _ h1 h2 R' h
 .generalize hc:comp P n tk hr o=op at h o8 ea ib
  cases op<;>try (exact absurd rfl o8)
  case alloc t cs=>
   simp only[bf]at h
   cases HF:o.dst with
   |none=>rw[HF]at h;exact h.elim
   |some d=>
    rw[HF]at h;obtain⟨jM,hz⟩:=Y5 hc;unfold zeroCells at hz;split at hz
    case h_2=>cases hz
    rename_i it hi;split at hz
    case h_2=>cases hz
    rename_i z OI;obtain⟨h1,h2,h3⟩:=HK g.Pr w hz
    refine Zr R HF (hd d HF) (ib d HF rfl) (vs:=z.cells) (ty:=t) (cs:=cs) ?_ (by simpa using h1) (λg' j hj fj=>⟨h2 _ (ae_ hj),by have:=h3 P g' (.cell d) j hj (by simpa using fj);rwa [Array.getElem_toList]at this⟩) λg' a' w' e1 e2 R'=>hK g' _ _ _ _ e1 e2 R' h
    unfold execOp;simp[jM,Instr.alloc,zeroValue,typeInfo,hi,OI,newVar,newRow]
  case box t size x=>
   simp only[bf]at h
   cases HF:o.dst with
   |none=>rw[HF]at h;exact h.elim
   |some d=>
    rw[HF]at h;obtain⟨uI,s_,hk⟩:=h;obtain⟨x',jM,hx⟩:=acW hc;have hv:=(R.ev hx (λ_ _=>id)).j_ (AV.K7 s_);have jX:=hv.rds s_
    have aeu:Ts g.Pr w ((AL.ev S x).cells.map AV.aI) (a.eval x').cells:=by
     refine Ts.mk' (by simpa using jX.1) (λi v c e1 e2=>?_) (λi v e1=>?_)
     .simp only[afG,afX]at e1;obtain⟨u,h1,rfl⟩:=e1;exact(jX.get h1 e2).aI
     .simp only[afG,afX]at e1;obtain⟨u,h1,rfl⟩:=e1;exact(AV.Ti _).trans (jX.one h1)
    refine Zr R HF (hd d HF) (ib d HF rfl) (vs:=(a.eval x').cells) (ty:=t) ?_ aeu (λg' j hj fj=>⟨by simp only[afl];exact AV.T7 _,by simp only[afl];exact Hh _ _ _⟩) λg' a' w' e1 e2 R'=>hK g' _ _ _ _ e1 e2 R' hk
    unfold execOp;simp[jM,Instr.box,newVar,newRow]
  case panic x=>
   simp only[bf]at h;obtain⟨x',jM,hx⟩:=abf hc;have hv:=R.ev hx (λ_ _=>id);generalize AL.ev S x=v at h hv;generalize Pe:a.eval x'=c at hv
   cases v<;>try exact h.elim
   rename_i t v;cases hv;rename_i hv;have Dn:=hv;cases Dn;rename_i c' Dn;unfold Oper.wp execOp;simp only[jM,Pe,Instr.panic,afW,run_goPanic,Result.andThen_halt];have AN:=R.below;rw[R.base]at AN;refine hP (.iface t v) (.iface t c') g.hi w AN (λb hb=>(R.fresh b hb).1) ?_ h;rw[<-R.base];exact hv
  case call f args=>
   exact Zs R hG dS hc (λt ht=>⟨hd t ht,id⟩) (λ_ _=>id) h (λv g' a' w' e1 e2 R' hk=>hK g' _ _ _ _ e1 e2 R' hk) hP
  case nP f args=>
   simp only[bf]at h;split at h
   case h_2=>exact h.elim
   rename_i k first cap Zf;exact YS R hG dS hc (λt ht=>⟨hd t ht,id⟩) (λ_ _=>id) Zf h (λv g' a' w' e1 e2 R' hk=>hK g' _ _ _ _ e1 e2 R' hk) hP
  case other=>exact h.elim
end
section
variable{P:Program}{GI:World->Prop}{w0:World}{n:Nat}{U:Nat->Prop}{g:Gh}{S:aF}{H:aK}{a:Act}{w:World}
inductive ft where
 |normal|exit (id:Nat)|ret|panic (v:AV)
def QQ(P:Program)(w0:World)(n:Nat)(old:Old)(Q:ft->aF->aK->Prop):Exit->Act->World->Prop
 |.normal,a,w=>∃g S H,g.old=old/\Rel P w0 n dU g S H a w/\Q .normal S H
 |.exit id,a,w=>∃g S H,g.old=old/\Rel P w0 n dU g S H a w/\Q (.exit id) S H
 |.ret,a,w=>∃g S H,g.old=old/\Rel P w0 n dU g S H a w/\Q .ret S H
 |.panic chain,a,w=>a.defers=old.ds/\∃v c hi S H,chain=[{ v:=c,recovered:=false }]/\Below w0.heap.size w0 w/\(∀b,w.heap.size<=b->hi b=0)/\RD (Tw w0.heap.size old.c hi) w v c/\Q (.panic v) S H
 |_,_,_=>False
theorem XH(Pr:Nat->Nat->Prop)(w:World):RD Pr w cG undef:=.d_ [] #[] rfl λi h=>by simp at h
theorem Rel.ac'(R:Rel P w0 n U g S H a w)(dst:Option Nat)(hd:∀t,dst=some t->t<n):Rel P w0 n U g (Go.AL.aY S dst cG) H (a.put dst undef) w:=
 R.aY dst _ _ hd (.data _ _ (XH _ _)) λ_ _=>trivial
theorem ZQ (R:Rel P w0 n U g S H a w) {dr:Bool} {ops:Array Oper} {o:Oper} {b:Bool} (hu:∀ t b,(og P n dr ops o).guard=some (t,b)→¬ U t)
  (eK:(og P n dr ops o).ok n=true) (h:aD S (og P n dr ops o).guard=some b):Region.wanted o (yielded ops a.tmps)=b:=by
 unfold Region.wanted;simp only[og]at eK h hu
 cases hg:o.guard with
 |none=>
  rw[hg]at h;simp only[aD,agk]at h;exact h
 |some p=>
  obtain⟨j,want⟩:=p;rw[hg]at h eK hu;simp only at h eK hu⊢
  cases hj:JL ops j with
  |none=>
   rw[hj]at eK;simp only[fw.ok,afa,aff]at eK;omega
  |some t=>
   rw[hj]at h eK hu;simp only[fw.ok,afa,aff]at eK;have ht:t<n:=eK.2;have hs:=R.slot t ht (hu t want rfl)
   have hy:yielded ops a.tmps j=(match a.tmps.getD t undef with|.bool b=>some b|_=>none):=by
    unfold yielded;unfold JL at hj;rw[hj]
    have:t<a.tmps.size:=by rw[R.size];exact ht
    simp[this]
    split<;>simp_all
   rw[hy];simp only[aD]at h;generalize S t=v at h hs;generalize a.tmps.getD t undef=c at hs;split at h
   .cases h;cases hs;rename_i hs;cases hs;rename_i c'
    cases c'<;>cases want<;>rfl
   .cases h;cases hs;rename_i hs;cases hs
    simp_all
   .cases h
theorem UF (hG:au GI) (dS:GI w0) {old:Old} {ops:Array Oper} {Q:ft→aF→aK→Prop} {S0:aF} {H0:aK} :
  ∀(l:List Nat)(os:List Oper)(g:Gh)(S:aF)(H:aK)(a:Act)(w:World),l.map (ops[·]?)=os.map some->(∀o∈os,(og P n false ops o).ok n=true)->(∀o∈os,∀d∈(og P n false ops o).l5,¬old.bx d)->g.old=old->Rel P w0 n dU g S H a w->
   bj P GI (os.map (og P n false ops)) (Q .normal) (λv=>Q (.panic v) S0 H0) S H->wpOps P ops (QQ P w0 n old Q) l a w
 |[],os,g,S,H,a,w,hl,_,_,ho,R,h=>by
  have:os=[]:=by cases os with|nil=>rfl|cons=>simp at hl
  subst this;exact⟨g,S,H,ho,R,h⟩
 |i::l,os,g,S,H,a,w,hl,eK,ib,ho,R,h=>by
  cases os with
  |nil=>simp at hl
  |cons o os=>
   simp only[afv,ahc]at hl;obtain⟨hi,hl⟩:=hl;have ZU:=eK o aft;simp only[afv,bj]at h;simp only[wpOps,hi]
   have hdn:∀t,o.dst=some t->t<n/\t∉(og P n false ops o).op.rd:=by
    intro t ht;simp only[fw.ok,afa]at ZU;have h1:=ZU.1;rw[show(og P n false ops o).dst=o.dst from rfl,ht]at h1;simpa using h1
   cases hw:aD S (og P n false ops o).guard with
   |none=>rw[hw]at h;exact h.elim
   |some b=>
    rw[hw]at h;rw[ZQ R (λ_ _ _=>id) ZU hw]
    cases b with
    |true=>
     simp only[afH];refine .inl (acM R hG dS (λt ht=>(hdn t ht).1) (λt ht=>(hdn t ht).2) (λd hd hl=>by rw[ho];exact ib o aft d (by have:(og P n false ops o).op.l5=true:=hl;simp only[fw.l5,this,afH];rw[show(og P n false ops o).dst=o.dst from rfl,hd];simp)) h (λg' S' H' a' w' e1 e2 R' hk=>UF hG dS l os g' S' H' a' w' hl (λo ho=>eK o (afk _ ho)) (λo ho=>ib o (afk _ ho)) (e2.trans ho) R' hk) ?_);intro v c hi w' k1 k2 k3 k4;exact⟨by rw[<-ho];exact R.defers,v,c,hi,S0,H0,rfl,k1,k2,by rw[<-ho];exact k3,k4⟩
    |false=>
     simp only[afj,afx];exact UF hG dS l os g _ H _ w hl (λo ho=>eK o (afk _ ho)) (λo ho=>ib o (afk _ ho)) ho (R.ac' o.dst λt ht=>(hdn t ht).1) h
theorem acf (hG:au GI) (dS:GI w0) {old:Old} {id:Nat} {ops:Array Oper} {Q:ft→aF→aK→Prop} (eK:(mV P n false ops).all (·.ok n)=true) (ib:∀ o∈mV P n false ops,∀ d∈o.l5,¬ old.bx d) (ho:g.old=old) (R:Rel P w0 n dU g S H a w)
  (h:bj P GI (mV P n false ops) (Q .normal) (λv=>Q (.panic v) S H) S H):(Code.region id ops false).wp P (QQ P w0 n old Q) a w:=by
 refine wp_region (UF hG dS (S0:=S) (H0:=H) (List.range ops.size) ops.toList g S H a w ?_ (λo Of=>?_) (λo Of=>ib _ (aif Of)) ho R h)
 .apply ahW;intro i;simp only[afG]
  by_cases hi:i<ops.size
  .simp[hi]
  .simp[hi]
 .simp only[mV,air,afC,Function.comp]at eK;exact eK o Of
end
inductive Acc where
 |no|rd (r:Option Nat)|soft (r:Option Nat)|wr (r:Option Nat)
def HR.one:HR->Option Nat
 |.box r=>some r
 |_=>none
def nj.acc:nj->Acc
 |.load .ref ..=>.no
 |.load hr ..=>.rd hr.one
 |.loadT hr _=>.soft hr.one
 |.store hr ..=>.wr hr.one
 |_=>.no
def meets:Option Nat->Option Nat->Bool
 |some a,some b=>a==b
 |_,_=>true
def Acc.conflict:Acc->Acc->Bool
 |.no,_|_,.no=>false
 |.rd _,.rd _|.rd _,.soft _|.soft _,.rd _=>false
 |.rd a,.wr b|.wr a,.rd b|.soft a,.soft b|.soft a,.wr b|.wr a,.soft b|.wr a,.wr b=>meets a b
def nj.wr:nj->List Nat
 |.mv true x=>x.tmps
 |.store _ _ _ x=>x.tmps
 |.append _ _ _ _ x _=>x.tmps
 |_=>[]
def fw.reads(o:fw):List Nat:=o.op.rd++(match o.guard with|some (t,_)=>[t]|none=>[])
def fw.writes(o:fw):List Nat:=o.dst.toList++o.op.wr
def fw.apart(x y:fw):Bool:=
 x.writes.all (λt=>!y.reads.contains t&&!y.writes.contains t)&&y.writes.all (λt=>!x.reads.contains t)&&!x.op.acc.conflict y.op.acc
section
variable{P:Program}{GI:World->Prop}
def Ok(P:Program)(GI:World->Prop)(op:nj)(dst:Option Nat)(S:aF)(H:aK)(e:aT):Prop:=
 match op with
 |.alloc _ _=>match dst with
  |some d=>e={ v:=.box d 0 }
  |none=>False
 |.call f args=>(args.any λy=>du (ev S y))=false/\mH P GI f (args.map λy=>fz H (ev S y)) (args.any λy=>du (ev S y)) (λv=>e={ v:=v }) (λ_=>False)
 |.nP f args=>match ev S f with
  |.func (.func k) first cap=>((first++args.map (ev S)++cap).any du)=false/\mH P GI k ((first++args.map (ev S)++cap).map (fz H)) ((first++args.map (ev S)++cap).any du) (λv=>e={ v:=v }) (λ_=>False)
  |_=>False
 |.box ..|.panic _|.other=>False
 |op=>aL S H op=some e
def jH(P:Program)(GI:World->Prop)(op:nj)(dst:Option Nat)(K:aF->aK->Prop)(S:aF)(H:aK):Prop:=
 match op with
 |.alloc _ _=>match dst with
  |some d=>K (av S d (.box d 0)) H
  |none=>False
 |.box ..|.panic _|.other=>False
 |.call f args=>(args.any λy=>du (ev S y))=false/\bf P GI (.call f args) dst K (λ_=>False) S H
 |.nP f args=>(match ev S f with|.func _ first cap=>(first++args.map (ev S)++cap).any du|_=>true)=false/\bf P GI (.nP f args) dst K (λ_=>False) S H
 |op=>bf P GI op dst K (λ_=>False) S H
theorem Z4{op:nj}{dst:Option Nat}{K:aF->aK->Prop}{S:aF}{H:aK}(h:jH P GI op dst K S H):∃e,Ok P GI op dst S H e/\K (e.S S dst) (e.H H):=by
 cases op
 case alloc t z=>
  cases dst with
  |none=>exact h.elim
  |some d=>exact⟨_,rfl,h⟩
 case call f args=>
  obtain⟨hb,out,h1,h2,h3,h4⟩:=h
  cases out with
  |ret v=>exact⟨{ v:=v },⟨hb,.ret v,h1,h2,h3,rfl⟩,h4⟩
  |panic v=>exact h4.elim
 case nP f args=>
  simp only[jH,bf]at h;simp only[Ok];obtain⟨hb,h⟩:=h;split at h
  .rename_i k first cap hf;rw[hf]at hb;obtain⟨out,h1,h2,h3,h4⟩:=h
   cases out with
   |ret v=>exact⟨{ v:=v },by(try simp only[hf]);exact⟨hb,.ret v,h1,h2,h3,rfl⟩,h4⟩
   |panic v=>exact h4.elim
  .exact h.elim
 case box=>exact h.elim
 case panic=>exact h.elim
 case other=>exact h.elim
 all_goals
  simp only[jH,bf]at h;split at h
  case h_2=>exact h.elim
  rename_i e he;exact⟨e,he,h⟩
def eB(P:Program)(GI:World->Prop):List fw->(aF->aK->Prop)->aF->aK->Prop
 |[],K,S,H=>K S H
 |o::rest,K,S,H=>match aD S o.guard with
  |some true=>jH P GI o.op o.dst (eB P GI rest K) S H
  |some false=>eB P GI rest K (aY S o.dst cG) H
  |none=>False
def DK(P:Program)(GI:World->Prop)(o:fw)(S:aF)(H:aK)(e:aT):Prop:=
 match aD S o.guard with
 |some true=>Ok P GI o.op o.dst S H e
 |some false=>e={ v:=cG }
 |none=>False
theorem WM {o:fw} {rest:List fw} {K:aF→aK→Prop} {S:aF} {H:aK} (h:eB P GI (o::rest) K S H) :
  ∃e,DK P GI o S H e/\eB P GI rest K (e.S S o.dst) (e.H H):=by
 simp only[eB]at h;unfold DK;split at h
 .exact Z4 h
 .exact⟨_,rfl,h⟩
 .exact h.elim
theorem oq{S S':aF}{y:pR}(h:∀t∈y.tmps,S t=S' t):ev S y=ev S' y:=by
 cases y with
 |t k=>exact h k (by simp[pR.tmps])
 |c v=>rfl
 |f k=>rfl
 |m k tab=>simp only[ev,h k (by simp[pR.tmps])]
theorem Xy{S S':aF}{ys:List pR}(h:∀y∈ys,∀t∈y.tmps,S t=S' t):ys.map (ev S)=ys.map (ev S'):=
 agi λy hy=>oq (h y hy)
def Xg:Acc->aK->aK->Prop
 |.no,_,_=>True
 |.rd none,H,H'=>∀i,(H i).map (·.map AV.aI)=(H' i).map (·.map AV.aI)
 |.rd (some r),H,H'=>(H r).map (·.map AV.aI)=(H' r).map (·.map AV.aI)
 |.soft none,H,H'|.wr none,H,H'=>H=H'
 |.soft (some r),H,H'|.wr (some r),H,H'=>H r=H' r
theorem acd{ag:Bool}{size off:Nat}{cs kd:List AV}(h:cs.map AV.aI=kd.map AV.aI):ck ag size (cs.drop off)=ck ag size (kd.drop off):=by
 have hl:cs.length=kd.length:=by have:=congrArg List.length h;simpa using this
 have hd:(cs.drop off).map AV.aI=(kd.drop off).map AV.aI:=by rw[ah0,ah0,h]
 generalize hx:cs.drop off=xs at hd;generalize hy:kd.drop off=ys at hd
 have tg:xs.length=ys.length:=by have:=congrArg List.length hd;simpa using this
 unfold ck
 have e1:(xs.take size).map AV.aI=(ys.take size).map AV.aI:=by rw[ahV,ahV,hd]
 have e2:(xs[0]?).map AV.aI=(ys[0]?).map AV.aI:=by
  have:=congrArg (·[0]?) hd;simpa using this
 rw[e1,e2,tg]
theorem aa0{S S':aF}{H H':aK}{op:nj}(hS:∀t∈op.rd,S t=S' t)(hH:Xg op.acc H H'):aL S H op=aL S' H' op:=by
 cases op
 case build z ps=>
  have:(ps.map λ(o,s,x)=>(o,s,ev S x))=(ps.map λ(o,s,x)=>(o,s,ev S' x)):=
   agi λq hq=>by
    have:=oq (S:=S) (S':=S') (y:=q.2.2) λt ht=>hS t (ahh.2 ⟨q,hq,ht⟩)
    simp[this]
  simp only[aL,this]
 case buildSlice t e s ps=>
  have:=Xy (S:=S) (S':=S') (ys:=ps) λy hy t ht=>hS t (ahh.2 ⟨y,hy,ht⟩)
  simp only[aL,this]
 case JU fn f c=>
  simp only[nj.rd,afr,ahh]at hS
  have h1:(f.map λx=>(ev S x).aI)=(f.map λx=>(ev S' x).aI):=agi λy hy=>by rw[oq λt ht=>hS t (.inl ⟨y,hy,ht⟩)]
  have h2:(c.map λx=>(ev S x).aI)=(c.map λx=>(ev S' x).aI):=agi λy hy=>by rw[oq λt ht=>hS t (.inr ⟨y,hy,ht⟩)]
  simp only[aL,h1,h2]
 case uy x lo hi=>
  simp only[nj.rd,afr,ahh]at hS
  have h0:=oq (S:=S) (S':=S') (y:=x) λt ht=>hS t (.inl ht)
  have h1:lo.map (ev S)=lo.map (ev S'):=by cases lo with|none=>rfl|some y=>simp only[Option.map_some,agk];exact oq λt ht=>hS t (.inr ⟨y,.inl (by simp),ht⟩)
  have h2:hi.map (ev S)=hi.map (ev S'):=by cases hi with|none=>rfl|some y=>simp only[Option.map_some,agk];exact oq λt ht=>hS t (.inr ⟨y,.inr (by simp),ht⟩)
  simp only[aL,h0,h1,h2]
 case qz s x lo hi=>
  simp only[nj.rd,afr,ahh]at hS
  have h0:=oq (S:=S) (S':=S') (y:=x) λt ht=>hS t (.inl ht)
  have h1:lo.map (ev S)=lo.map (ev S'):=by cases lo with|none=>rfl|some y=>simp only[Option.map_some,agk];exact oq λt ht=>hS t (.inr ⟨y,.inl (by simp),ht⟩)
  have h2:hi.map (ev S)=hi.map (ev S'):=by cases hi with|none=>rfl|some y=>simp only[Option.map_some,agk];exact oq λt ht=>hS t (.inr ⟨y,.inr (by simp),ht⟩)
  simp only[aL,h0,h1,h2]
 case load hr ag s x=>
  have e:=oq (S:=S) (S':=S') (y:=x) hS;simp only[aL,e];split
  .rename_i i off he;split
   case isFalse=>rfl
   rename_i eK
   have hd:(H i).map (·.map AV.aI)=(H' i).map (·.map AV.aI):=by
    cases hr with
    |any=>exact hH i
    |ref=>cases eK
    |box r=>
     have:i=r:=by simpa[HR.okB]using eK
     subst this;exact hH
   cases h1:H i<;>cases h2:H' i<;>rw[h1,h2]at hd<;>simp only[Option.map_none,Option.map_some,reduceCtorEq,agk]at hd
   .simp only[acd hd]
  .rfl
  .rfl
 case loadT hr x=>
  have e:=oq (S:=S) (S':=S') (y:=x) hS;simp only[aL,e];split
  .rename_i i off he;split
   case isFalse=>rfl
   rename_i eK
   have hd:H i=H' i:=by
    cases hr with
    |any=>cases(show H=H' from hH);rfl
    |ref=>cases eK
    |box r=>
     have:i=r:=by simpa[HR.okB]using eK
     subst this;exact hH
   rw[hd]
  .rfl
 case store hr s x y=>
  simp only[nj.rd,afr]at hS
  have e1:=oq (S:=S) (S':=S') (y:=x) λt ht=>hS t (.inl ht)
  have e2:=oq (S:=S) (S':=S') (y:=y) λt ht=>hS t (.inr ht)
  simp only[aL,e1,e2];split
  .rename_i i off he;split
   case isFalse=>rfl
   rename_i eK
   have hd:H i=H' i:=by
    cases hr with
    |any=>cases(show H=H' from hH);rfl
    |ref=>cases eK
    |box r=>
     have:i=r:=by simpa[HR.okB]using eK
     subst this;exact hH
   rw[hd]
  .rfl
 case pick x y z=>
  simp only[nj.rd,afr]at hS;simp only[aL,oq λt ht=>hS t (.inl (.inl ht)),oq λt ht=>hS t (.inl (.inr ht)),oq λt ht=>hS t (.inr ht)]
 case bin=>simp only[nj.rd,afr]at hS;simp only[aL,oq λt ht=>hS t (.inl ht),oq λt ht=>hS t (.inr ht)]
 case JI=>simp only[nj.rd,afr]at hS;simp only[aL,oq λt ht=>hS t (.inl ht),oq λt ht=>hS t (.inr ht)]
 case eqs=>simp only[nj.rd,afr]at hS;simp only[aL,oq λt ht=>hS t (.inl ht),oq λt ht=>hS t (.inr ht)]
 case uz xs=>
  have:=Xy (S:=S) (S':=S') (ys:=xs) λy hy t ht=>hS t (ahh.2 ⟨y,hy,ht⟩)
  simp only[aL,this]
 case ux=>simp only[nj.rd,afr]at hS;simp only[aL,oq λt ht=>hS t (.inl ht),oq λt ht=>hS t (.inr ht)]
 case te=>simp only[nj.rd,afr]at hS;simp only[aL,oq λt ht=>hS t (.inl ht),oq λt ht=>hS t (.inr ht)]
 case lookup=>simp only[nj.rd,afr]at hS;simp only[aL,oq λt ht=>hS t (.inl ht),oq λt ht=>hS t (.inr ht)]
 case indexAddr=>simp only[nj.rd,afr]at hS;simp only[aL,oq λt ht=>hS t (.inl ht),oq λt ht=>hS t (.inr ht)]
 case uw=>simp only[nj.rd,afr]at hS;simp only[aL,oq λt ht=>hS t (.inl ht),oq λt ht=>hS t (.inr ht)]
 case append=>simp only[nj.rd,afr]at hS;simp only[aL,oq λt ht=>hS t (.inl ht),oq λt ht=>hS t (.inr ht)]
 case max=>simp only[nj.rd,afr]at hS;simp only[aL,oq λt ht=>hS t (.inl ht),oq λt ht=>hS t (.inr ht)]
 case min=>simp only[nj.rd,afr]at hS;simp only[aL,oq λt ht=>hS t (.inl ht),oq λt ht=>hS t (.inr ht)]
 all_goals first
  |rfl
  |simp only[aL,oq hS]
theorem Zj{H H':aK}{v:AV}(h:sx v=false):iA H v=iA H' v:=by cases v<;>first|rfl|cases h
theorem aap{H H':aK}{v:AV}(h:du v=false):fz H v=fz H' v:=by
 cases v<;>first|rfl|skip
 case box=>cases h
 case func fn first cap=>
  simp only[du,ahN,agb,ah3]at h;simp only[fz]
  congr 1
  .exact agi λy hy=>Zj (h.1 y hy)
  .exact agi λy hy=>Zj (h.2 y hy)
theorem abl{S S':aF}{H H':aK}{op:nj}{dst:Option Nat}{e:aT}(hS:∀t∈op.rd,S t=S' t)(hH:Xg op.acc H H')(h:Ok P GI op dst S H e):Ok P GI op dst S' H' e:=by
 cases op
 case alloc=>exact h
 case box=>exact h
 case panic=>exact h
 case other=>exact h
 case call f args=>
  simp only[nj.rd,ahh]at hS;simp only[Ok]at h⊢;obtain⟨hb,h⟩:=h
  have h2:(args.any λy=>du (ev S y))=(args.any λy=>du (ev S' y)):=by
   rw[afZ];simp only[ag2]
   constructor
   .rintro⟨y,hy,hb⟩;exact⟨y,hy,by rw[<-oq λt ht=>hS t ⟨y,hy,ht⟩];exact hb⟩
   .rintro⟨y,hy,hb⟩;exact⟨y,hy,by rw[oq λt ht=>hS t ⟨y,hy,ht⟩];exact hb⟩
  have h1:(args.map λy=>fz H (ev S y))=(args.map λy=>fz H' (ev S' y)):=agi λy hy=>by
   rw[<-oq λt ht=>hS t ⟨y,hy,ht⟩];simp only[agb,ah3]at hb;exact aap (hb y hy)
  rw[<-h1,<-h2];exact⟨hb,h⟩
 case nP f args=>
  simp only[nj.rd,afr,ahh]at hS;simp only[Ok]at h⊢
  have h1:=Xy (S:=S) (S':=S') (ys:=args) λy hy t ht=>hS t (.inr ⟨y,hy,ht⟩)
  rw[<-oq λt ht=>hS t (.inl ht)];split at h
  case h_2=>exact h.elim
  obtain⟨hb,h⟩:=h;rw[<-h1];refine⟨hb,?_⟩
  have h3:∀l:List AV,l.any du=false->l.map (fz H)=l.map (fz H'):=λl hl=>agi λy hy=>by
   simp only[agb,ah3]at hl;exact aap (hl y hy)
  rw[<-h3 _ hb];exact h
 all_goals
  simp only[Ok]at h⊢;rw[<-aa0 hS hH];exact h
theorem aT.XW{e:aT}{S:aF}{dst:Option Nat}{t:Nat}(h1:dst≠some t)(h2:e.dm≠some t):e.S S dst t=S t:=by
 unfold aT.S
 cases dst with
 |none=>
  cases hd:e.dm with
  |none=>rfl
  |some k=>simp only[aY];exact cN _ _ (λh=>h2 (by rw[hd,h]))
 |some d=>
  simp only[aY];rw[cN _ _ (λh=>h1 (by rw[h]))]
  cases hd:e.dm with
  |none=>rfl
  |some k=>exact cN _ _ (λh=>h2 (by rw[hd,h]))
def ZS(acc:Acc)(H:aK):Option (Nat×List AV)->Prop
 |none=>True
 |some (i,cs)=>match acc with
  |.soft r=>meets r (some i)=true/\∃old,H i=some old/\old.map AV.aI=cs.map AV.aI
  |.wr r=>meets r (some i)=true
  |_=>False
theorem ZK{hr:HR}{i:Nat}(h:hr.okB i=true):meets hr.one (some i)=true:=by
 cases hr with
 |any=>rfl
 |ref=>cases h
 |box r=>simp only[HR.okB]at h;simp only[HR.one,meets];rw[afY]at h⊢;exact h.symm
theorem fD(v:AV):v.aI=v.aI.aI:=(AV.idem v).symm
theorem acF{S:aF}{H:aK}{op:nj}{e:aT}(h:aL S H op=some e):(∀t,e.dm=some t->t∈op.wr)/\ZS op.acc H e.hw:=by
 cases op
 case mv tk x=>
  simp only[aL]at h
  split at h<;>cases h
  .rename_i ly;subst ly;refine⟨λt ht=>?_,trivial⟩
   cases x<;>simp only[bu]at ht<;>cases ht
   simp[nj.wr,pR.tmps]
  .exact⟨λt ht=>(by cases ht),trivial⟩
 case store hr s x y=>
  simp only[aL]at h
  split at h<;>try cases h
  split at h<;>try cases h
  split at h<;>try cases h
  split at h<;>cases h
  rename_i eK _ _ _ _;refine⟨λt ht=>?_,ZK (by assumption)⟩
  cases y<;>simp only[bu]at ht<;>cases ht
  simp[nj.wr,pR.tmps]
 case loadT hr x=>
  simp only[aL]at h
  split at h<;>try cases h
  split at h<;>try cases h
  split at h<;>try cases h
  split at h<;>cases h
  refine⟨λt ht=>(by cases ht),ZK (by assumption),_,by assumption,?_⟩;rename_i cs IQ _ v hv;rw[List.map_set];obtain⟨aw,rfl⟩:=af0.1 hv;apply ahb (by simp);intro j h1 h2;rw[aim];split
  .rename_i hj;subst hj;simp only[afl];exact fD _
  .rfl
 case append t e s b x y=>
  simp only[aL]at h;split at h
  .split at h<;>cases h
   exact⟨λt ht=>(by cases ht),trivial⟩
  .split at h<;>cases h
   refine⟨λt ht=>?_,trivial⟩
   cases x<;>simp only[bu]at ht<;>cases ht
   simp[nj.wr,pR.tmps]
  .cases h
 all_goals
  simp only[aL]at h
  first
   |(cases h;done)
   |(simp only[afX]at h;obtain⟨_,_,rfl⟩:=h;exact⟨λt ht=>(by cases ht),trivial⟩)
   |((repeat' split at h)<;>first|(cases h;done)|(cases h;exact⟨λt ht=>(by cases ht),trivial⟩)|(simp only[afX]at h;obtain⟨_,_,rfl⟩:=h;exact⟨λt ht=>(by cases ht),trivial⟩))
theorem abx{S:aF}{H:aK}{op:nj}{dst:Option Nat}{e:aT}(h:Ok P GI op dst S H e):(∀t,e.dm=some t->t∈op.wr)/\ZS op.acc H e.hw:=by
 cases op
 case alloc=>
  simp only[Ok]at h;split at h
  .subst h;exact⟨λt ht=>(by cases ht),trivial⟩
  .exact h.elim
 case box=>exact h.elim
 case panic=>exact h.elim
 case other=>exact h.elim
 case call f args=>
  obtain⟨_,out,_,_,_,h4⟩:=h
  cases out with
  |ret v=>cases(show e=_ from h4);exact⟨λt ht=>(by cases ht),trivial⟩
  |panic v=>exact h4.elim
 case nP f args=>
  simp only[Ok]at h;split at h
  .obtain⟨_,out,_,_,_,h4⟩:=h
   cases out with
   |ret v=>cases(show e=_ from h4);exact⟨λt ht=>(by cases ht),trivial⟩
   |panic v=>exact h4.elim
  .exact h.elim
 all_goals exact acF h
theorem HP{S:aF}{H:aK}{o:fw}{e:aT}(h:DK P GI o S H e):(∀t,e.dm=some t->t∈o.op.wr)/\ZS o.op.acc H e.hw:=by
 unfold DK at h;split at h
 .exact abx h
 .subst h;exact⟨λt ht=>(by cases ht),trivial⟩
 .exact h.elim
theorem Zl{S S':aF}{gd:Option (Nat×Bool)}(h:∀t b,gd=some (t,b)->S t=S' t):aD S gd=aD S' gd:=by
 cases gd with
 |none=>rfl
 |some p=>obtain⟨t,b⟩:=p;simp only[aD,h t b rfl]
theorem Xs{S S':aF}{H H':aK}{o:fw}{e:aT}(hS:∀t∈o.reads,S t=S' t)(hH:Xg o.op.acc H H')(h:DK P GI o S H e):DK P GI o S' H' e:=by
 unfold DK at*
 have hg:aD S o.guard=aD S' o.guard:=Zl λt b Hx=>hS t (by simp[fw.reads,Hx])
 rw[<-hg];split at h
 .exact abl (λt ht=>hS t (by simp[fw.reads,ht])) hH h
 .exact h
 .exact h
theorem ZM(a b:Acc):a.conflict b=b.conflict a:=by
 cases a<;>cases b<;>simp only[Acc.conflict]<;>(rename_i x y;cases x<;>cases y<;>simp only[meets];rw[afZ,afY,afY];exact eq_comm)
theorem apart_spec {x y:fw} (h:x.apart y=true) :
  (∀t∈x.writes,t∉y.reads/\t∉y.writes)/\(∀t∈y.writes,t∉x.reads)/\x.op.acc.conflict y.op.acc=false:=by
 simp only[fw.apart,afa,afC,afT]at h;obtain⟨⟨h1,h2⟩,h3⟩:=h;refine⟨λt ht=>?_,λt ht=>?_,h3⟩
 .have:=h1 t ht;simpa using this
 .have:=h2 t ht;simpa using this
theorem Z7{x y:Acc}(hc:x.conflict y=false){e:aT}{H:aK}(hw:ZS y H e.hw):Xg x H (e.H H):=by
 have refl:∀{H':aK},H=H'->Xg x H H':=by
  rintro _ rfl
  cases x with
  |no=>trivial
  |rd r=>cases r<;>simp[Xg]
  |soft r=>cases r<;>simp[Xg]
  |wr r=>cases r<;>simp[Xg]
 unfold aT.H
 cases hh:e.hw with
 |none=>exact refl rfl
 |some p=>
  obtain⟨i,cs⟩:=p;rw[hh]at hw;simp only
  cases x with
  |no=>trivial
  |rd r=>
   cases y with
   |no=>exact hw.elim
   |rd=>exact hw.elim
   |soft q=>
    obtain⟨_,old,h1,h2⟩:=hw
    have key:∀j,(H j).map (·.map AV.aI)=(av H i (some cs) j).map (·.map AV.aI):=by
     intro j
     by_cases hj:j=i
     .subst hj;rw[bm,h1];simp[h2]
     .rw[cN _ _ hj]
    cases r with
    |none=>exact key
    |some r=>exact key r
   |wr q=>
    cases r with
    |none=>cases q<;>simp[Acc.conflict,meets]at hc
    |some r=>
     cases q with
     |none=>simp[Acc.conflict,meets]at hc
     |some q=>
      simp only[Acc.conflict,meets,afN]at hc
      have hq:q=i:=by simpa[ZS,meets]using hw
      subst hq;simp only[Xg];rw[cN _ _ hc]
  |soft r=>
   have dO:∀q,meets q (some i)=true->meets r q=false->∃r',r=some r'/\r'≠i:=by
    intro q h1 h2
    cases r with
    |none=>cases q<;>simp[meets]at h2
    |some r=>
     cases q with
     |none=>simp[meets]at h2
     |some q=>
      simp only[meets,afY,afN]at h1 h2;exact⟨r,rfl,by rw[<-h1];exact h2⟩
   cases y with
   |no=>exact hw.elim
   |rd=>exact hw.elim
   |soft q=>
    obtain⟨r',rfl,hn⟩:=dO q hw.1 hc;simp only[Xg];rw[cN _ _ hn]
   |wr q=>
    obtain⟨r',rfl,hn⟩:=dO q hw hc;simp only[Xg];rw[cN _ _ hn]
  |wr r=>
   have dO:∀q,meets q (some i)=true->meets r q=false->∃r',r=some r'/\r'≠i:=by
    intro q h1 h2
    cases r with
    |none=>cases q<;>simp[meets]at h2
    |some r=>
     cases q with
     |none=>simp[meets]at h2
     |some q=>
      simp only[meets,afY,afN]at h1 h2;exact⟨r,rfl,by rw[<-h1];exact h2⟩
   cases y with
   |no=>exact hw.elim
   |rd=>exact hw.elim
   |soft q=>
    obtain⟨r',rfl,hn⟩:=dO q hw.1 hc;simp only[Xg];rw[cN _ _ hn]
   |wr q=>
    obtain⟨r',rfl,hn⟩:=dO q hw hc;simp only[Xg];rw[cN _ _ hn]
theorem Xg.symm{x:Acc}{H H':aK}(h:Xg x H H'):Xg x H' H:=by
 cases x with
 |no=>trivial
 |rd r=>cases r with
  |none=>exact λi=>(h i).symm
  |some r=>exact Eq.symm h
 |soft r=>cases r<;>exact Eq.symm h
 |wr r=>cases r<;>exact Eq.symm h
theorem EI{o:fw}{t:Nat}(h:o.dst=some t\/t∈o.op.wr):t∈o.writes:=by
 rcases h with h|h<;>simp[fw.writes,h]
theorem Yb{x y:fw}{S:aF}{H:aK}{ex ey:aT}(ha:x.apart y=true)(hy:DK P GI y S H ey)(hx:DK P GI x S H ex):DK P GI x (ey.S S y.dst) (ey.H H) ex:=by
 obtain⟨h1,h2,h3⟩:=apart_spec ha;obtain⟨d1,d2⟩:=HP hy;refine Xs (λt ht=>?_) (Z7 h3 d2) hx;rw[aT.XW (λh=>h2 t (EI (.inl h)) ht) (λh=>h2 t (EI (.inr (d1 t h))) ht)]
theorem Yc{x y:fw}{S:aF}{H:aK}{ex ey:aT}(ha:x.apart y=true)(hx:DK P GI x S H ex)(hy:DK P GI y (ex.S S x.dst) (ex.H H) ey):DK P GI y S H ey:=by
 obtain⟨h1,h2,h3⟩:=apart_spec ha;obtain⟨d1,d2⟩:=HP hx;refine Xs (λt ht=>?_) (Z7 (by rw[ZM];exact h3) d2).symm hy;rw[aT.XW (λh=>(h1 t (EI (.inl h))).1 ht) (λh=>(h1 t (EI (.inr (d1 t h)))).1 ht)]
theorem aT.aev(e:aT)(S:aF)(dst:Option Nat)(t:Nat):e.S S dst t=if dst=some t then e.v else if e.dm=some t then(S t).aI else S t:=by
 unfold aT.S
 cases dst with
 |none=>
  rw[if_neg (by simp)]
  cases e.dm with
  |none=>rfl
  |some k=>
   simp only[aY,agk]
   by_cases h:k=t
   .subst h;simp[bm]
   .rw[if_neg h];exact cN _ _ (λhh=>h hh.symm)
 |some d=>
  simp only[aY,agk]
  by_cases hd:d=t
  .subst hd;simp[bm]
  .rw[if_neg hd,cN _ _ (λhh=>hd hh.symm)]
   cases e.dm with
   |none=>rfl
   |some k=>
    simp only[agk]
    by_cases h:k=t
    .subst h;simp[bm]
    .rw[if_neg h];exact cN _ _ (λhh=>h hh.symm)
theorem ZG {x y:fw} {S:aF} {ex ey:aT} (ha:x.apart y=true) (dx:∀ t,ex.dm=some t→t∈x.op.wr) (dy:∀ t,ey.dm=some t→t∈y.op.wr) :
  ey.S (ex.S S x.dst) y.dst=ex.S (ey.S S y.dst) x.dst:=by
 obtain⟨h1,h2,h3⟩:=apart_spec ha
 funext t
 simp only[aT.aev]
 by_cases hx:x.dst=some t\/ex.dm=some t
 .have hxw:t∈x.writes:=EI (hx.imp id (dx t))
  have A_:y.dst≠some t:=λh=>(h1 t hxw).2 (EI (.inl h))
  have Z_:ey.dm≠some t:=λh=>(h1 t hxw).2 (EI (.inr (dy t h)))
  simp only[if_neg A_,if_neg Z_]
 .simp only[not_or]at hx;simp only[if_neg hx.1,if_neg hx.2]
theorem Zm {x y:fw} {H:aK} {ex ey:aT} (ha:x.apart y=true) (dx:ZS x.op.acc H ex.hw) (dy:ZS y.op.acc H ey.hw) :
  ey.H (ex.H H)=ex.H (ey.H H):=by
 obtain⟨_,_,h3⟩:=apart_spec ha;unfold aT.H
 cases hx:ex.hw with
 |none=>rfl
 |some p=>
  cases hy:ey.hw with
  |none=>rfl
  |some q=>
   obtain⟨i,cs⟩:=p;obtain⟨j,ds⟩:=q;rw[hx]at dx;rw[hy]at dy;simp only
   have dO:i≠j:=by
    have key:∀a b:Option Nat,meets a (some i)=true->meets b (some j)=true->meets a b=false->i≠j:=by
     intro a b h1 h2 h3
     cases a with
     |none=>cases b<;>simp[meets]at h3
     |some a=>
      cases b with
      |none=>simp[meets]at h3
      |some b=>
       simp only[meets,afY,afN]at h1 h2 h3;rw[<-h1,<-h2];exact h3
    generalize x.op.acc=ax at dx h3;generalize y.op.acc=ay at dy h3
    cases ax<;>cases ay<;>first|(exact dx.elim)|(exact dy.elim)|skip
    .exact key _ _ dx.1 dy.1 h3
    .exact key _ _ dx.1 dy h3
    .exact key _ _ dx dy.1 h3
    .exact key _ _ dx dy h3
   funext k
   by_cases h1:k=i
   .subst h1;rw[cN _ _ dO,bm,bm]
   .by_cases h2:k=j
    .subst h2;rw[bm,cN _ _ h1,bm]
    .rw[cN _ _ h2,cN _ _ h1,cN _ _ h1,cN _ _ h2]
end
section
variable{P:Program}{GI:World->Prop}{md:Region.Mode}{ops:Array Oper}{n:Nat}
def My(P:Program)(n:Nat)(ops:Array Oper)(i:Nat):Option fw:=(ops[i]?).map (og P n true ops)
def dOp(P:Program)(GI:World->Prop)(n:Nat)(ops:Array Oper)(i:Nat)(K:aF->aK->Prop)(S:aF)(H:aK):Prop:=
 match My P n ops i with
 |none=>False
 |some o=>∃e,DK P GI o S H e/\K (e.S S o.dst) (e.H H)
def XT(P:Program)(GI:World->Prop)(n:Nat)(md:Region.Mode)(ops:Array Oper)(QA:aF->aK->Prop):Nat->Array Bool->aF->aK->Prop
 |0,listed,S,H=>Region.ready md ops listed=[]/\QA S H
 |fuel+1,listed,S,H=>(Region.ready md ops listed=[]->QA S H)/\∀i∈Region.ready md ops listed,dOp P GI n ops i (XT P GI n md ops QA fuel (listed.setIfInBounds i true)) S H
theorem Z'{listed:Array Bool}{i:Nat}(h:i∈Region.ready md ops listed):∃o,ops[i]?=some o/\My P n ops i=some (og P n true ops o):=by
 obtain⟨_,o,ho,_⟩:=aiz.1 h;exact⟨o,ho,by simp[My,ho]⟩
theorem abc {QA:aF→aK→Prop} {i:Nat} {oi:fw} {e:aT} (hi:My P n ops i=some oi) :
  ∀(fuel:Nat)(listed:Array Bool)(S:aF)(H:aK),
   (∀j o aj,ops[j]?=some o->My P n ops j=some aj->j≠i->listed.getD j true=false->(∀ed∈o.after,Region.binds md ed=true->ed.on≠i)->oi.apart aj=true)->
   i∈Region.ready md ops listed->DK P GI oi S H e->
   XT P GI n md ops QA fuel (listed.setIfInBounds i true) (e.S S oi.dst) (e.H H)->XT P GI n md ops QA (fuel+1) listed S H:=by
 intro fuel
 induction fuel with
 |zero=>
  intro listed S H _ hr hy hK;refine⟨λh=>(by rw[h]at hr;cases hr),λj hj=>?_⟩
  by_cases lg:j=i
  .subst lg;unfold dOp;rw[hi];exact⟨e,hy,hK⟩
  .have:=aiG hj lg;rw[hK.1]at this;cases this
 |succ fuel ih=>
  intro listed S H G' hr hy hK;refine⟨λh=>(by rw[h]at hr;cases hr),λj hj=>?_⟩
  by_cases lg:j=i
  .subst lg;unfold dOp;rw[hi];exact⟨e,hy,hK⟩
  .have h1:=hK.2 j (aiG hj lg);obtain⟨aaE,o,ho,fX⟩:=aiz.1 hj
   have Xa:My P n ops j=some (og P n true ops o):=by simp[My,ho]
   have adl:∀ed∈o.after,Region.binds md ed=true->ed.on≠i:=λed hed hb heq=>by
    have h1:=fX ed hed hb;have h0:=(aiz.1 hr).1;rw[heq]at h1;rcases ahB i listed.size with h'|h'
    .simp[h']at h0 h1;rw[h0]at h1;cases h1
    .simp[aiJ h']at h1
   have kc:=G' j o _ ho Xa lg aaE adl;unfold dOp at h1⊢;rw[Xa]at h1⊢;obtain⟨ej,hyj,hKj⟩:=h1;have Z5:=Yc kc hy hyj;refine⟨ej,Z5,?_⟩
   have Zg:∀k o' ak,ops[k]?=some o'->My P n ops k=some ak->k≠i->(listed.setIfInBounds j true).getD k true=false->(∀ed∈o'.after,Region.binds md ed=true->ed.on≠i)->oi.apart ak=true:=by
    intro k o' ak hk hak hki mJ nO;refine G' k o' ak hk hak hki ?_ nO
    by_cases Cz:j=k
    .subst Cz;exact aaE
    .rw[aiB true Cz]at mJ;exact mJ
   refine ih (listed.setIfInBounds j true) _ _ Zg (aiG hr (afQ lg)) (Yb kc Z5 hy) ?_;rw[aiD _ _ lg];rw[<-ZG kc (HP hy).1 (HP hyj).1,<-Zm kc (HP hy).2 (HP Z5).2];exact hKj
def abX(md:Region.Mode)(ops:Array Oper)(al:List fw)(listed:Array Bool)(i:Nat):Bool:=
 match al[i]? with
 |none=>false
 |some oi=>(List.range ops.size).all fun j=>j==i || listed.getD j true || match ops[j]?,al[j]? with
   |some oj,some aj=>oj.after.any (λe=>Region.binds md e&&e.on==i)||oi.apart aj
   |_,_=>true
def abo(md:Region.Mode)(ops:Array Oper)(al:List fw):Nat->Nat->Array Bool->Bool
 |0,_,listed=>(Region.ready md ops listed).isEmpty
 |fuel+1,k,listed=>(Region.ready md ops listed).contains k&&abX md ops al listed k&&abo md ops al fuel (k+1) (listed.setIfInBounds k true)
theorem EC(i:Nat):(mV P n true ops)[i]?=My P n ops i:=by simp[mV,My]
theorem abj {i:Nat} {oi:fw} {listed:Array Bool} (hi:My P n ops i=some oi) (h:abX md ops (mV P n true ops) listed i=true) (j:Nat) (o:Oper) (aj:fw)
  (hj:ops[j]?=some o) (Xa:My P n ops j=some aj) (dO:j≠i) (mJ:listed.getD j true=false) (nO:∀e∈o.after,Region.binds md e=true->e.on≠i):oi.apart aj=true:=by
 simp only[abX,EC,hi,afC,afE]at h;have h1:=h j (afe.1 hj).1;simp only[hj,Xa,age,afY,dO,aiW,mJ,afj]at h1;rcases h1 with h1|h1
 .obtain⟨e,he,hb⟩:=aie.1 h1;simp only[afa,afY]at hb;exact absurd hb.2 (nO e he hb.1)
 .exact h1
theorem YH {QA:aF→aK→Prop}:∀ (l:List Oper) (k:Nat) (listed:Array Bool) (S:aF) (H:aK),(∀ j,l[j]? = ops[k+j]?) →
  abo md ops (mV P n true ops) l.length k listed=true->eB P GI (l.map (og P n true ops)) QA S H->XT P GI n md ops QA l.length listed S H
 |[],_,_,_,_,_,hB,h=>⟨by simpa[abo]using hB,h⟩
 |o::l,k,listed,S,H,hl,hB,h=>by
  have h0:ops[k]?=some o:=by simpa using(hl 0).symm
  have ha:My P n ops k=some (og P n true ops o):=by simp[My,h0]
  simp only[List.length_cons,abo,afa]at hB;obtain⟨⟨hr,hf⟩,TW⟩:=hB;obtain⟨e,hy,hK⟩:=WM h
  exact abc ha l.length listed S H (abj ha hf) (by simpa using hr) hy
   (YH l (k+1) _ _ _ (λj=>by have:=hl (j+1);simpa[ahU,Nat.add_comm 1 j]using this) TW hK)
def da(o:fw):Option (Nat×List AV):=
 match o.op,o.dst with
 |.alloc _ z,some d=>some (d,z)
 |_,_=>none
def UU(P:Program)(n:Nat)(ops:Array Oper)(listed:Array Bool)(t:Nat):Prop:=
 ∃j o z,My P n ops j=some o/\da o=some (t,z)/\listed.getD j true=false
def SY(md:Region.Mode)(ops:Array Oper)(al:List fw):Bool:=
 (List.range ops.size).all λj=>match ops[j]?,al[j]? with
  |some oj,some aj=>match da aj with
   |some (d,_)=>oj.after.isEmpty && aj.guard.isNone && (List.range ops.size).all fun k=>k==j || match ops[k]?,al[k]? with
     |some ok,some ak=>!ak.writes.contains d&&(!ak.reads.contains d||ok.after.any (λe=>Region.binds md e&&e.on==j))
     |_,_=>false
   |none=>true
  |_,_=>false
theorem Oe (h:SY md ops (mV P n true ops)=true) {j:Nat} {oj:Oper} {aj:fw} {d:Nat} {z:List AV} (hj:ops[j]? = some oj) (Xa:My P n ops j=some aj) (hd:da aj=some (d,z)) :
  oj.after=#[]/\aj.guard=none/\∀k ok ak,ops[k]?=some ok->My P n ops k=some ak->k≠j->d∉ak.writes/\(d∈ak.reads->∃e∈ok.after,Region.binds md e=true/\e.on=j):=by
 simp only[SY,afC,afE]at h;have h1:=h j (afe.1 hj).1;simp only[hj,EC,Xa,hd,afa,afC,afE]at h1;obtain⟨⟨h2,h3⟩,h4⟩:=h1;refine⟨by simpa using h2,by simpa using h3,λk ok ak hk hak dO=>?_⟩;have h5:=h4 k (afe.1 hk).1;simp only[hk,hak,age,afY,dO,aiW,afa,afT]at h5;refine⟨by simpa using h5.1,λhd=>?_⟩;rcases h5.2 with h6|h6
 .simp at h6;exact absurd hd h6
 .obtain⟨e,he,hb⟩:=aie.1 h6;simp only[afa,afY]at hb;exact⟨e,he,hb⟩
theorem abm(hA:SY md ops (mV P n true ops)=true){listed:Array Bool}(hr:Region.ready md ops listed=[]):UU P n ops listed=dU:=by
 funext t
 simp only[dU,aiF,iff_false];rintro⟨j,o,z,h1,h2,h3⟩;unfold My at h1
 cases hj:ops[j]? with
 |none=>simp[hj]at h1
 |some oj=>
  have Xa:My P n ops j=some o:=by unfold My;exact h1
  obtain⟨ha,_,_⟩:=Oe hA hj Xa h2;have:j∈Region.ready md ops listed:=aiz.2 ⟨h3,oj,hj,λe he=>by rw[ha]at he;simp at he⟩;rw[hr]at this;cases this
theorem aaq{listed:Array Bool}{i:Nat}{oi:fw}(hi:My P n ops i=some oi)(nO:da oi=none):UU P n ops (listed.setIfInBounds i true)=UU P n ops listed:=by
 funext t
 simp only[UU,aiF]
 constructor
 .rintro⟨j,o,z,h1,h2,h3⟩;refine⟨j,o,z,h1,h2,?_⟩
  by_cases lg:i=j
  .subst lg;rw[hi]at h1;cases h1;rw[nO]at h2;cases h2
  .rwa [aiB true lg]at h3
 .rintro⟨j,o,z,h1,h2,h3⟩;refine⟨j,o,z,h1,h2,?_⟩
  by_cases lg:i=j
  .subst lg;rw[hi]at h1;cases h1;rw[nO]at h2;cases h2
  .rwa [aiB true lg]
theorem acL (hA:SY md ops (mV P n true ops)=true) {listed:Array Bool} {i d:Nat} {o:Oper} {oi:fw} {z:List AV} (ho:ops[i]? = some o) (hi:My P n ops i=some oi) (hd:da oi=some (d,z)) (aw:i < listed.size) :
  UU P n ops (listed.setIfInBounds i true)=λt=>UU P n ops listed t/\t≠d:=by
 obtain⟨_,_,jo⟩:=Oe hA ho hi hd
 funext t
 simp only[UU,aiF]
 constructor
 .rintro⟨j,oj,z',h1,h2,h3⟩
  have lg:i≠j:=by rintro rfl;simp[aw]at h3
  refine⟨⟨j,oj,z',h1,h2,by rwa [aiB true lg]at h3⟩,?_⟩;rintro rfl
  have hj:∃o',ops[j]?=some o':=by
   unfold My at h1
   cases hj:ops[j]? with
   |none=>simp[hj]at h1
   |some o'=>exact⟨o',rfl⟩
  obtain⟨o',hj⟩:=hj;have:=(jo j o' oj hj h1 (afQ lg)).1;apply this;unfold da at h2;split at h2
  .rename_i HF;simp only[agk,aij]at h2;rw[h2.1]at HF;exact EI (.inl HF)
  .cases h2
 .rintro⟨⟨j,oj,z',h1,h2,h3⟩,dO⟩
  have lg:i≠j:=by
   rintro rfl;rw[hi]at h1;cases h1;rw[hd]at h2;simp only[agk,aij]at h2;exact dO h2.1.symm
  exact⟨j,oj,z',h1,h2,by rwa [aiB true lg]⟩
end
section
variable{P:Program}{GI:World->Prop}{w0:World}{n:Nat}{U:Nat->Prop}{g:Gh}{S:aF}{H:aK}{a:Act}{w:World}{ops:Array Oper}
theorem abh{dr:Bool}{o:fw}{x:Oper}{hr:HR}{size:Nat}{y z:pR}(hc:og P n dr ops x=o)(h:o.op=.store hr size y z):∃x',lQ n x'=some y:=by
 subst hc;unfold og at h;revert h;generalize(match x.dst with|some d=>taken ops d|none=>false)=tk;intro h;simp only at h;unfold comp at h
 repeat' split at h
 all_goals first
  |(cases h;done)
  |(cases h;exact⟨_,by assumption⟩)
theorem abC{dr:Bool}{o:fw}{x:Oper}{hr:HR}{y:pR}(hc:og P n dr ops x=o)(h:o.op=.loadT hr y):∃x',lQ n x'=some y:=by
 subst hc;unfold og at h;revert h;generalize(match x.dst with|some d=>taken ops d|none=>false)=tk;intro h;simp only at h;unfold comp at h
 repeat' split at h
 all_goals first
  |(cases h;done)
  |(cases h;exact⟨_,by assumption⟩)
theorem aeb(R:Rel P w0 n U g S H a w){o:Oper}{dst:Option Nat}{e:aT}(jX:∀t∈(og P n true ops o).op.rd,¬U t)(h:Ok P GI (og P n true ops o).op dst S H e){i:Nat}{cs:List AV}(hw:e.hw=some (i,cs)):(g.al i).isSome=true:=by
 have hhw:=(abx h).2;rw[hw]at hhw
 have box:∀{y:pR}{x':Operand}{off:Nat},lQ n x'=some y->(∀t∈y.tmps,¬U t)->AL.ev S y=.box i off->(g.al i).isSome=true:=by
  intro y x' off hx hu he;have:=R.ev hx hu;rw[he]at this;generalize a.eval x'=c at this
  cases this with
  |data _ _ h=>cases h
  |box _ _ b h=>simp[h]
 generalize hc:(og P n true ops o).op=op at jX h hhw
 cases op<;>try (exact hhw.elim)
 case load hr _ _ _=>cases hr<;>exact hhw.elim
 case loadT hr y=>
  obtain⟨x',hx⟩:=abC rfl hc;simp only[Ok,aL]at h
  cases UE:AL.ev S y<;>rw[UE]at h<;>simp only at h<;>try cases h
  rename_i k off;split at h
  case isFalse=>cases h
  split at h
  case h_2=>cases h
  split at h
  case h_2=>cases h
  cases h;cases hw;exact box hx jX UE
 case store hr s y z=>
  obtain⟨x',hx⟩:=abh rfl hc;simp only[nj.rd,afr]at jX;simp only[Ok,aL]at h
  cases UE:AL.ev S y<;>rw[UE]at h<;>simp only at h<;>try cases h
  rename_i k off;split at h
  case isFalse=>cases h
  split at h
  case h_2=>cases h
  split at h
  case isFalse=>cases h
  cases h;cases hw;exact box hx (λt ht=>jX t (.inl ht)) UE
theorem abQ{op:nj}(h:op.calm=true){dst:Option Nat}{e:aT}(hd:Ok P GI op dst S H e):aL S H op=some e:=by
 cases op<;>first|exact hd|cases h
theorem aa4 (hG:au GI) (dS:GI w0) {old:Old} {Q:ft→aF→aK→Prop} (hA:SY .any ops (mV P n true ops)=true) (eK:∀ o∈ops,(og P n true ops o).ok n=true) :
  ∀(fuel:Nat)(listed:Array Bool)(g:Gh)(S:aF)(H:aK)(a:Act)(w:World),listed.size=ops.size->g.old=old->Rel P w0 n (UU P n ops listed) g S H a w->
   (∀j o d z,My P n ops j=some o->da o=some (d,z)->listed.getD j true=false->S d=.box d 0/\H d=some z)->
   XT P GI n .any ops (Q .normal) fuel listed S H->wpAny P .any ops (QQ P w0 n old Q) fuel listed a w:=by
 intro fuel
 induction fuel with
 |zero=>
  intro listed g S H a w _ ho R _ h;have hU:=abm hA h.1;rw[hU]at R;exact⟨h.1,g,S,H,ho,R,h.2⟩
 |succ fuel ih=>
  intro listed g S H a w Ta ho R hinv h;refine⟨λhr=>?_,λi hi=>?_⟩
  .have hU:=abm hA hr;rw[hU]at R;exact⟨g,S,H,ho,R,h.1 hr⟩
  .have hd:=h.2 i hi;obtain⟨o,iG,Zk⟩:=Z' (P:=P) (n:=n) hi;obtain⟨ad1,o',sE,fX⟩:=aiz.1 hi;rw[iG]at sE;cases sE
   have adv:i<listed.size:=by rw[Ta];exact(afe.1 iG).1
   unfold dOp at hd;rw[Zk]at hd;obtain⟨e,hy,hK⟩:=hd;have ZU:=eK o (ahM iG)
   have aaG:∀t∈(og P n true ops o).reads,¬UU P n ops listed t:=by
    rintro t ht ⟨j,aj,z,h1,h2,h3⟩
    have hj:∃oj,ops[j]?=some oj:=by
     unfold My at h1
     cases hj:ops[j]? with
     |none=>simp[hj]at h1
     |some oj=>exact⟨oj,rfl⟩
    obtain⟨oj,hj⟩:=hj;obtain⟨k1,k2,k3⟩:=Oe hA hj h1 h2
    by_cases lg:i=j
    .subst lg;rw[Zk]at h1;cases h1;unfold da at h2;split at h2
     .rename_i jM _;simp only[fw.reads,jM,k2,nj.rd,afL]at ht;cases ht
     .cases h2
    .obtain⟨ed,Ur,vt,he3⟩:=(k3 i o _ iG Zk lg).2 ht;have:=fX ed Ur vt;rw[he3]at this;rcases ahB j listed.size with h'|h'
     .simp[h']at h3 this;rw[h3]at this;cases this
     .simp[aiJ h']at this
   have nk:∀j aj d z,My P n ops j=some aj->da aj=some (d,z)->j≠i->d∉(og P n true ops o).writes:=by
    intro j aj d z h1 h2 dO
    have hj:∃oj,ops[j]?=some oj:=by
     unfold My at h1
     cases hj:ops[j]? with
     |none=>simp[hj]at h1
     |some oj=>exact⟨oj,rfl⟩
    obtain⟨oj,hj⟩:=hj;exact((Oe hA hj h1 h2).2.2 i o _ iG Zk (afQ dO)).1
   have hdn:∀t,o.dst=some t->t<n/\t∉(og P n true ops o).op.rd:=by
    intro t ht;simp only[fw.ok,afa]at ZU;have h1:=ZU.1;rw[show(og P n true ops o).dst=o.dst from rfl,ht]at h1;simpa using h1
   have hdU:da (og P n true ops o)=none->∀t,o.dst=some t->¬UU P n ops listed t:=by
    rintro nO t ht ⟨j,aj,z,h1,h2,h3⟩
    have dO:j≠i:=by rintro rfl;rw[Zk]at h1;cases h1;rw[nO]at h2;cases h2
    exact nk j aj t z h1 h2 dO (EI (.inl ht))
   have ada:(∀ k cs,e.hw=some (k,cs)→(g.al k).isSome=true)→∀ j aj d z,My P n ops j=some aj→da aj=some (d,z)→(listed.setIfInBounds i true).getD j true=false →
     e.S S o.dst d=.box d 0/\e.H H d=some z:=by
    intro hhw j aj d z h1 h2 h3
    have dO:j≠i:=by rintro rfl;simp[adv]at h3
    have OX:listed.getD j true=false:=by rwa [aiB true (afQ dO)]at h3
    obtain⟨k1,k2⟩:=hinv j aj d z h1 h2 OX;have hw:=nk j aj d z h1 h2 dO;refine⟨?_,?_⟩
    .show e.S S (og P n true ops o).dst d=_;rw[aT.XW (λhh=>hw (EI (.inl hh))) (λhh=>hw (EI (.inr ((HP hy).1 d hh))))];exact k1
    .unfold aT.H
     cases hh:e.hw with
     |none=>exact k2
     |some p=>
      obtain⟨k,cs⟩:=p
      have hkd:d≠k:=by
       rintro rfl;have:=hhw d cs hh;rw[R.BB d ⟨j,aj,z,h1,h2,OX⟩]at this;cases this
      simp only[cN _ _ hkd];exact k2
   have bL:(listed.setIfInBounds i true).size=ops.size:=by simpa using Ta
   unfold wpOp;simp only[iG];unfold DK at hy
   cases Tr:aD S (og P n true ops o).guard with
   |none=>rw[Tr]at hy;exact hy.elim
   |some b=>
    rw[ZQ R (λt b hg=>aaG t (by simp[fw.reads,hg])) ZU Tr];rw[Tr]at hy
    cases b with
    |false=>
     simp only at hy;subst hy;simp only[afj,afx]
     have nO:da (og P n true ops o)=none:=by
      cases hh:da (og P n true ops o)with
      |none=>rfl
      |some p=>
       obtain⟨d,z⟩:=p;have:=(Oe hA iG Zk hh).2.1;rw[this]at Tr;cases Tr
     have hU:=aaq Zk nO (listed:=listed);refine ih _ g _ _ _ _ bL ho ?_ (ada λ_ _ hh=>by cases hh) hK;rw[hU]
     exact R.aY o.dst _ _ (λt ht=>(hdn t ht).1) (.data _ _ (XH _ _)) λ_ _=>trivial
    |true=>
     simp only at hy;simp only[afH];refine .inl ?_
     have hhw:∀k cs,e.hw=some (k,cs)->(g.al k).isSome=true:=λk cs hh=>aeb R (λt ht=>aaG t (by simp only[fw.reads,afr];exact .inl ht)) hy hh
     have adi:=ada hhw
     have next:da (og P n true ops o)=none->∀(g':Gh)(a':Act)(w':World),g'.old=g.old->Rel P w0 n (UU P n ops listed) g' (e.S S o.dst) (e.H H) a' w'->wpAny P .any ops (QQ P w0 n old Q) fuel (listed.setIfInBounds i true) a' w':=by
      intro nO g' a' w' h2 R';refine ih _ g' _ _ _ _ bL (h2.trans ho) ?_ adi hK;rw[aaq Zk nO];exact R'
     have jX:∀t∈(og P n true ops o).op.rd,¬UU P n ops listed t:=λt ht=>aaG t (by simp only[fw.reads,afr];exact .inl ht)
     by_cases o8:(og P n true ops o).op.calm=true
     .have nO:da (og P n true ops o)=none:=by
       unfold da;split
       .rename_i jM _;rw[jM]at o8;cases o8
       .rfl
      refine(ZC R rfl o8 (λt ht=>⟨(hdn t ht).1,hdU nO t ht⟩) jX (λt ht=>(hdn t ht).2) (abQ o8 hy)).wp λg' a' w' e1 e2 R'=>next nO g' a' w' e2 R'
     .generalize jM:(og P n true ops o).op=op at o8 hy jX;have ach:comp P n (match o.dst with|some d=>taken ops d|none=>false) (adQ ops o) o=op:=jM
      cases op<;>try (exact absurd rfl o8)
      case alloc t cs=>
       simp only[Ok]at hy
       cases HF:o.dst with
       |none=>rw[show(og P n true ops o).dst=o.dst from rfl,HF]at hy;exact hy.elim
       |some d=>
        rw[show(og P n true ops o).dst=o.dst from rfl,HF]at hy;simp only at hy;subst hy
        have sC:da (og P n true ops o)=some (d,cs):=by
         unfold da;rw[jM,show(og P n true ops o).dst=o.dst from rfl,HF]
        obtain⟨k1,k2⟩:=hinv i _ d cs Zk sC ad1;obtain⟨aeM,hz⟩:=Y5 ach;unfold zeroCells at hz;split at hz
        case h_2=>cases hz
        rename_i it hit;split at hz
        case h_2=>cases hz
        rename_i z OI;obtain⟨h1,h2,h3⟩:=HK g.Pr w hz
        have R2:=R.aa' d ⟨i,_,cs,Zk,sC,ad1⟩ (hdn d HF).1 cs z.cells t k1 k2 (by simpa using h1.1) (λj h h'=>by have:=h1.2.1 j h (by simpa using h');simpa using this)
         (λj hj fj=>⟨h2 _ (ae_ hj),by have:=h3 P g (.cell d) j hj (by simpa using fj);rwa [Array.getElem_toList]at this⟩) h1.2.2
        have eh:(execOp a.eval o).run P w=.ok (.value (.pointer (some ⟨w.heap.size,0,none⟩))) (w.alloc (.cells z.cells t)):=by
         unfold execOp;simp[aeM,Instr.alloc,zeroValue,typeInfo,hit,OI,newVar,newRow]
        unfold Oper.wp;rw[eh];show wpAny P .any ops (QQ P w0 n old Q) fuel (listed.setIfInBounds i true) _ _;rw[HF];rw[<-acL hA iG Zk sC adv]at R2
        have hS:av S d (.box d 0)=S:=by
         funext t
         by_cases ht:t=d
         .subst ht;rw[bm,k1]
         .rw[cN _ _ ht]
        have hK':XT P GI n .any ops (Q .normal) fuel (listed.setIfInBounds i true) S H:=by
         have:({ v:=.box d 0 }:aT).S S (og P n true ops o).dst=S:=by
          rw[show(og P n true ops o).dst=o.dst from rfl,HF];exact hS
         rw[this]at hK;exact hK
        refine ih _ { g with al:=av g.al d (some w.heap.size) } S H _ _ bL ho R2 (λj aj d' z' h1 h2 h3=>?_) hK';have:=adi j aj d' z' h1 h2 h3
        have hSS:({ v:=.box d 0 }:aT).S S o.dst=S:=by rw[HF];exact hS
        rw[hSS]at this;exact this
      case call f args=>
       have nO:da (og P n true ops o)=none:=by unfold da;rw[jM]
       exact Zs R hG dS ach (λt ht=>⟨(hdn t ht).1,hdU nO t ht⟩) jX hy.2 (λv g' a' w' e1 e2 R' hk=>by subst hk;exact next nO g' a' w' e2 R') (λ_ _ _ _ _ _ _ hf=>hf.elim)
      case nP f args=>
       have nO:da (og P n true ops o)=none:=by unfold da;rw[jM]
       simp only[Ok]at hy;split at hy
       case h_2=>exact hy.elim
       rename_i k first cap Zf;exact YS R hG dS ach (λt ht=>⟨(hdn t ht).1,hdU nO t ht⟩) jX Zf hy.2 (λv g' a' w' e1 e2 R' hk=>by subst hk;exact next nO g' a' w' e2 R') (λ_ _ _ _ _ _ _ hf=>hf.elim)
      case box=>exact hy.elim
      case panic=>exact hy.elim
      case other=>exact hy.elim
def fV:List fw->aF->aF
 |[],S=>S
 |o::l,S=>match da o with
  |some (d,_)=>fV l (av (λt=>cE d (S t)) d (.box d 0))
  |none=>fV l S
def eG:List fw->aK->aK
 |[],H=>H
 |o::l,H=>match da o with
  |some (d,z)=>eG l (av H d (some z))
  |none=>eG l H
def uH(l:List fw):List Nat:=l.filterMap λo=>(da o).map (·.1)
theorem Rel.fV:∀ (l:List fw) {U:Nat→Prop} {g:Gh} {S:aF} {H:aK},Rel P w0 n U g S H a w→(uH l).Nodup→(∀ d∈uH l,¬ g.old.bx d) →
  ∃g',g'.base=g.base/\g'.old=g.old/\Rel P w0 n (λt=>U t\/t∈uH l) g' (Go.AL.fV l S) (eG l H) a w
 |[],U,g,S,H,R,_,_=>⟨g,rfl,rfl,by simpa[uH,Go.AL.fV,eG]using R⟩
 |o::l,U,g,S,H,R,hn,ib=>by
  cases ha:da o with
  |none=>
   have e:uH (o::l)=uH l:=by simp[uH,ha]
   rw[e]at hn ib⊢;simp only[Go.AL.fV,eG,ha];exact Rel.fV l R hn ib
  |some p=>
   obtain⟨d,z⟩:=p
   have e:uH (o::l)=d::uH l:=by simp[uH,ha]
   rw[e]at hn ib⊢;simp only[Go.AL.fV,eG,ha];obtain⟨g',e1,e2,R'⟩:=Rel.fV l (R.suspend d (ib d aft) (.box d 0) z) (ahH.1 hn).2 (λk hk=>ib k (afk _ hk));refine⟨g',e1,e2,?_⟩
   have:(λt=>U t\/t∈d::uH l)=(λt=>(U t\/t=d)\/t∈uH l):=by
    funext t;simp[or_assoc]
   rw[this];exact R'
theorem W5:∀(l:List fw)(S:aF)(d:Nat),d∉uH l->S d=.box d 0->Go.AL.fV l S d=.box d 0
 |[],S,d,_,h=>h
 |o::l,S,d,hn,h=>by
  cases ha:da o with
  |none=>simp only[Go.AL.fV,ha];exact W5 l S d (by simpa[uH,ha]using hn) h
  |some p=>
   obtain⟨k,z⟩:=p;simp only[Go.AL.fV,ha]
   have Ew:d≠k/\d∉uH l:=by simpa[uH,ha]using hn
   refine W5 l _ d Ew.2 ?_;rw[cN _ _ Ew.1,h];simp[cE,Ew.1]
theorem VY:∀(l:List fw)(H:aK)(d:Nat)(z:List AV),d∉uH l->H d=some z->eG l H d=some z
 |[],H,d,z,_,h=>h
 |o::l,H,d,z,hn,h=>by
  cases ha:da o with
  |none=>simp only[eG,ha];exact VY l H d z (by simpa[uH,ha]using hn) h
  |some p=>
   obtain⟨k,z'⟩:=p;simp only[eG,ha]
   have Ew:d≠k/\d∉uH l:=by simpa[uH,ha]using hn
   exact VY l _ d z Ew.2 (by rw[cN _ _ Ew.1,h])
theorem X1:∀(l:List fw)(S:aF)(H:aK),(uH l).Nodup->∀o∈l,∀d z,da o=some (d,z)->Go.AL.fV l S d=.box d 0/\eG l H d=some z
 |[],S,H,_,o,ho,_,_,_=>by cases ho
 |o'::l,S,H,hn,o,ho,d,z,hd=>by
  rcases afU.1 ho with rfl|ho
  .have e:uH (o::l)=d::uH l:=by simp[uH,hd]
   rw[e]at hn;simp only[Go.AL.fV,eG,hd];exact⟨W5 l _ d (ahH.1 hn).1 (bm _ _ _),VY l _ d z (ahH.1 hn).1 (bm _ _ _)⟩
  .cases ha:da o' with
   |none=>
    have e:uH (o'::l)=uH l:=by simp[uH,ha]
    rw[e]at hn;simp only[Go.AL.fV,eG,ha];exact X1 l S H hn o ho d z hd
   |some p=>
    obtain⟨k,z'⟩:=p
    have e:uH (o'::l)=k::uH l:=by simp[uH,ha]
    rw[e]at hn;simp only[Go.AL.fV,eG,ha];exact X1 l _ _ (ahH.1 hn).2 o ho d z hd
def dOK(P:Program)(n:Nat)(ops:Array Oper):Bool:=
 (mV P n true ops).all (·.ok n)&&SY .any ops (mV P n true ops)&&decide ((uH (mV P n true ops)).Nodup)&&abo .any ops (mV P n true ops) ops.size 0 (Array.replicate ops.size false)
theorem abt (hG:au GI) (dS:GI w0) (hm:P.follows .mixedOrders=true) {old:Old} {id:Nat} {Q:ft→aF→aK→Prop} (eK:dOK P n ops=true) (ib:∀ o∈mV P n true ops,∀ d∈o.l5,¬ old.bx d) (ho:g.old=old) (R:Rel P w0 n dU g S H a w)
  (h:eB P GI (mV P n true ops) (Q .normal) (fV (mV P n true ops) S) (eG (mV P n true ops) H)):(Code.region id ops true).wp P (QQ P w0 n old Q) a w:=by
 simp only[dOK,afa,aff]at eK;obtain⟨⟨⟨h1,h2⟩,h3⟩,h4⟩:=eK;refine wp_region_any hm ?_;have R0:Rel P w0 n dU g S H a { w with drawn:=w.drawn+1 }:=R.mw ((aga _ w).drew)
 obtain⟨g',e1,e2,R'⟩:=Rel.fV (mV P n true ops) R0 h3 (λd hd=>by
  simp only[uH,ah8,afX]at hd;obtain⟨o,Of,⟨d',z⟩,k1,rfl⟩:=hd;rw[ho];refine ib o Of d' ?_;unfold da at k1;split at k1
  .rename_i h1 h2;cases k1;simp[fw.l5,h1,h2,nj.l5]
  .cases k1)
 have hU:UU P n ops (Array.replicate ops.size false)=(λt=>dU t\/t∈uH (mV P n true ops)):=by
  funext t
  simp only[UU,dU,aiW,aiF,uH,ah8,afX]
  constructor
  .rintro⟨j,o,z,k1,k2,k3⟩;rw[<-EC]at k1;exact⟨o,agB k1,(t,z),k2,rfl⟩
  .rintro⟨o,ho,⟨d,z⟩,k1,rfl⟩;obtain⟨j,hj⟩:=ai1 ho;refine⟨j,o,z,by rw[<-EC];exact hj,k1,?_⟩
   have:j<ops.size:=by
    have:=(af0.1 hj).1;simpa[mV]using this
   simp[this]
 refine aa4 hG dS h2 (λo Of=>?_) ops.size (Array.replicate ops.size false) g' _ _ a _ (by simp) (e2.trans ho) (by rw[hU];exact R') (λj o d z k1 k2 k3=>?_) ?_
 .simp only[mV,air,afC,Function.comp]at h1;exact h1 o (by simpa using Of)
 .rw[<-EC]at k1;exact X1 _ S H h3 o (agB k1) d z k2
 .have:=YH (QA:=Q .normal) ops.toList 0 (Array.replicate ops.size false) _ _ (by simp) (by simpa using h4) h;simpa using this
end
end Go.AL
