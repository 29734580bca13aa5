/- A part of the proof. -/
import Derived.Still
import Derived.Laws.Concat
import Derived.Laws.Strings2
import Derived.Great.BuildSlice
import Derived.Laws.BytesArg
import Derived.Maps.Own
import Derived.OrdersIn
import Derived.RangeFuncRecord
import Derived.Laws.RangeString
import Derived.Recover
import Derived.Laws.Pointers
import Derived.Lib.AppendIntMem
import Derived.Deep.OwnRows
import Derived.Shelf.Vars
import Derived.ProofKit
import Derived.OpenShut
import Derived.LaidMore
import Derived.Lay
import Derived.SevenTiedAt
set_option maxRecDepth 100000
set_option maxHeartbeats 8000000
set_option linter.all false
namespace Go
theorem zo{a:Prop}(h:a:=by omega):a:=h
theorem zk{a:Prop}(h:a:=by kernel_rfl):a:=h
theorem zd{a:Prop}(h:a:=by decide):a:=h
theorem ahB{a:Prop}(h:a:=by simp):a:=h
theorem zr{a:Prop}(h:a:=by rfl):a:=h
end Go
namespace Go
def adB:=@List.getElem?_eq_getElem
def adC:=@List.getElem_mem
def adD:=@Array.getElem?_eq_some_iff
def adE:=@Bool.and_eq_true
def adF:=@Nat.le_refl
def adG:=@List.mem_append
def adH:=@List.length_map
def adI:=@List.take_of_length_le
def adJ:=@List.take_succ_eq_append_getElem
def adK:=@Go.Sem.run_bind
def adL:=@decide_eq_true_eq
def adM:=@Bool.false_eq_true
def adN:=@Array.getElem?_setIfInBounds_ne
def adO:=@List.mem_cons_of_mem
def adP:=@Option.map_eq_some_iff
def adQ:=@List.all_eq_true
def adR:=@List.getElem_map
def adS:=@List.length_take
def adT:=@Go.wpIn_seq
def adU:=@List.map_cons
def adV:=@List.length_append
def adW:=@Go.run_underlying
def adX:=@List.mem_cons_self
def adY:=@Array.getD_eq_getD_getElem?
def adZ:=@List.mem_map
def ad0:=@List.getElem?_eq_some_iff
def ad1:=@if_false
def ad2:=@List.mem_singleton
def ad3:=@List.getElem?_eq_none
def ad4:=@Array.getElem?_eq_getElem
def ad5:=@List.getElem_append_left
def ad6:=@List.map_append
def ad7:=@Option.some.inj
def ad8:=@Option.some.injEq
def ad9:=@List.getElem?_map
def ad_:=@List.mem_cons
def aea:=@Go.wpIn_region
def aeb:=@List.mem_range
def aec:=@List.getElem_append_right
def aed:=@if_true
def aee:=@List.map_nil
def aef:=@List.mem_of_mem_take
def aeg:=@List.map_toArray
def aeh:=@Nat.zero_add
def aei:=@List.mem_flatMap
def aej:=@beq_iff_eq
def aek:=@List.append_assoc
def ael:=@List.length_drop
def aem:=@List.eq_nil_of_length_eq_zero
def aen:=@Int.tmod_eq_emod_of_nonneg
def aeo:=@beq_eq_false_iff_ne
def aep:=@Bool.eq_iff_iff
def aeq:=@Ne.symm
def aer:=@List.getElem_of_mem
def aes:=@Int.mul_nonneg
def aet:=@Nat.lt_of_lt_of_le
def aeu:=@Nat.zero_le
def aev:=@Int.tdiv_eq_ediv_of_nonneg
def aew:=@Go.World.alloc_heap_new
def aex:=@Int.mul_le_mul
def aey:=@List.not_mem_nil
def aez:=@List.map_congr_left
def aeA:=@Go.Addr.add_lit
def aeB:=@Go.wpIn_cond
def aeC:=@Go.RowKit.Below.refl
def aeD:=@List.getD_eq_getElem?_getD
def aeE:=@List.any_eq_false
def aeF:=@Bool.not_eq_true'
def aeG:=@Array.getElem?_setIfInBounds
def aeH:=@List.getElem?_append_left
def aeI:=@List.append_nil
def aeJ:=@List.foldl_append
def aeK:=@Array.mem_of_getElem?
def aeL:=@Nat.le_trans
def aeM:=@List.length_set
def aeN:=@List.mem_of_getElem?
def aeO:=@Go.setRow_other
def aeP:=@Array.all_eq_true'
def aeQ:=@Array.getElem?_toList
def aeR:=@List.length_pos_iff
def aeS:=@List.getElem?_append_right
def aeT:=@List.map_map
def aeU:=@List.drop_eq_nil_of_le
def aeV:=@List.range_succ
def aeW:=@List.take_length
def aeX:=@List.take_append_drop
def aeY:=@List.flatMap_cons
def aeZ:=@Bool.or_eq_true
def ae0:=@Nat.mul_le_mul_right
def ae1:=@List.cons.injEq
def ae2:=@List.mem_or_eq_of_mem_set
def ae3:=@List.getElem_drop
def ae4:=@not_true_eq_false
def ae5:=@List.ext_getElem?
def ae6:=@Nat.lt_or_ge
def ae7:=@Option.bind_eq_some_iff
def ae8:=@List.any_eq_true
def ae9:=@Go.wpIn_block
def ae_:=@Go.Oper.semAt_eq
def afa:=@Array.getElem?_eq_none
def afb:=@Go.wpIn_skip
def afc:=@Array.ext
def afd:=@Array.eq_empty_of_size_eq_zero
def afe:=@List.sum_append
def aff:=@List.range'_succ
def afg:=@Nat.add_mul
def afh:=@List.length_eq_zero_iff
def afi:=@Go.wpIn_region_any
def afj:=@List.flatMap_append
def afk:=@Nat.mul_one
def afl:=@List.all_map
def afm:=@Array.getElem?_extract
def afn:=@Bool.not_eq_true
def afo:=@Go.wpIn_mono
def afp:=@List.pairwise_iff_getElem
def afq:=@Go.setRow_heap
def afr:=@Go.World.cell?_of_block
def afs:=@Nat.mul_comm
def aft:=@List.range_eq_range'
def afu:=@List.nodup_cons
def afv:=@List.map_take
def afw:=@List.drop_append_of_le_length
def afx:=@Int.le_refl
def afy:=@Nat.eq_zero_or_pos
def afz:=@List.mem_filterMap
def afA:=@Go.mem_ready
def afB:=@Array.getElem?_append
def afC:=@Go.wpIn_ret
def afD:=@of_decide_eq_true
def afE:=@List.drop_eq_getElem_cons
def afF:=@Array.getElem_append_left
def afG:=@Go.ready_mono
def afH:=@List.mem_append_left
def afI:=@List.getLast?_eq_none_iff
def afJ:=@Go.calls_of_wp
def afK:=@Array.setIfInBounds_comm
def afL:=@Array.getElem?_replicate
def afM:=@List.mem_map_of_mem
def afN:=@Nat.mul_le_mul_left
def afO:=@Go.World.block_lt_of_cell?
def afP:=@decide_eq_false_iff_not
def afQ:=@Nat.add_assoc
def afR:=@List.getElem?_drop
def afS:=@Go.wpIn_exit
def afT:=@List.mem_filter
def afU:=@Go.MapKept.run_getObj_map
def afV:=@Go.getD_set_ne
def afW:=@Go.fenced_calm
def afX:=@List.flatMap_singleton
def afY:=@List.getElem_take
def afZ:=@List.size_toArray
def af0:=@List.mem_range'_1
def af1:=@List.drop_drop
def af2:=@List.mem_append_right
def af3:=@Nat.mod_lt
def af4:=@List.getElem_set
def af5:=@List.contains_eq_mem
def af6:=@List.mem_of_mem_drop
def af7:=@List.pairwise_append
def af8:=@Prod.mk.injEq
def af9:=@Array.getElem_append_right
def af_:=@Go.callsD_of_wpS
def aga:=@Int.toNat_of_nonneg
def agb:=@Option.isSome_iff_exists
def agc:=@Array.any_eq_true'
def agd:=@and_true
def age:=@List.getElem?_take
def agf:=@Nat.add_sub_cancel
def agh:=@List.range'_concat
def agi:=@List.getElem?_take_of_lt
def agj:=@List.pairwise_cons
def agk:=@Nat.lt_trans
def agl:=@List.find?_eq_none
def agm:=@List.take_left
def agn:=@bne_iff_ne
def ago:=@eq_iff_iff
def agp:=@Go.Oper.wpIn_mono
def agq:=@decide_eq_true
def agr:=@List.take_succ
def ags:=@List.pairwise_singleton
def agt:=@Go.run_storeCells_at
def agu:=@Classical.not_not
def agv:=@Bool.eq_false_iff
def agw:=@Array.toList_map
def agx:=@List.ext_getElem
def agy:=@Nat.succ_lt_succ
def agz:=@or_false
def agA:=@List.getElem?_toArray
def agB:=@List.length_filter_le
def agC:=@Bool.and_eq_false_iff
def agD:=@Nat.div_add_mod
def agE:=@Bool.or_eq_false_iff
def agF:=@Go.CallsIn.mono
def agG:=@Go.RoundIn.mono
def agH:=@Nat.min_eq_left
def agI:=@List.range'_append_1
def agJ:=@Array.mem_toList_iff
def agK:=@Go.wpS_region
def agL:=@Nat.sub_self
def agM:=@Nat.le_of_lt
def agN:=@Nat.zero_lt_one
def agO:=@Nat.not_lt_zero
def agP:=@decide_false
def agQ:=@decide_eq_false
def agR:=@String.toList_ofList
def agS:=@Go.heap_alloc_new
def agT:=@Nat.mul_le_mul
def agU:=@Bool.not_false
def agV:=@Go.RowsIn.mono
def agW:=@Int.add_mul
def agX:=@decide_true
def agY:=@Array.ext_getElem?
def agZ:=@Go.wpS_of_wp
def ag0:=@List.map_drop
def ag1:=@Go.StepsIn.trans
def ag2:=@Go.callsIn_of_wp
def ag3:=@Bool.true_and
def ag4:=@List.all_eq_false
def ag5:=@List.getElem?_set
def ag6:=@List.mem_of_find?_eq_some
def ag7:=@Go.MakeChecks.laidMetH_plain
def ag8:=@Go.wp_mono
def ag9:=@Nat.succ_mul
def ag_:=@Nat.div_eq_of_lt
def aha:=@true_and
def ahb:=@false_or
def ahc:=@Go.RowKit.Below.heap_alloc
def ahd:=@List.drop_length
def ahe:=@List.length_erase_of_mem
def ahf:=@List.length_filterMap_le
def ahg:=@Go.World.putObj_heap_other
def ahh:=@List.flatMap_eq_nil_iff
def ahi:=@Go.wpIn_loop
def ahj:=@Go.World.putObj_heap_same
def ahk:=@Go.MapKept.run_setObj_map
def ahl:=@List.filter_eq_nil_iff
def ahm:=@Go.results_tmp
def ahn:=@Go.leaves_cons
def aho:=@List.pairwise_lt_range
def ahp:=@List.length_pos_of_mem
def ahq:=@List.getElem_set_self
def ahr:=@Go.wpS_seq
def ahs:=@List.getElem?_of_mem
def aht:=@List.getElem?_set_ne
def ahu:=@List.getLast?_append
def ahv:=@List.mem_of_getLast?
def ahw:=@List.mem_erase_of_ne
def ahx:=@Bool.not_true
def ahy:=@Nat.lt_irrefl
def ahz:=@Bool.and_true
def ahA:=@Array.toList_append
def ahC:=@List.getElem?_range
def ahD:=@List.getElem_set_ne
def ahE:=@List.drop_succ_cons
def ahF:=@List.filter_flatMap
def ahG:=@Go.run_build
def ahJ:=@Array.empty_append
def ahK:=@Array.append_empty
def ahL:=@Go.stepR_inLoop
def ahM:=@List.filter_append
def ahO:=@Go.decode_ascii
def ahQ:=@Nat.mul_add
end Go
namespace Go.Proofs.Tram
end Go.Proofs.Tram
namespace Go.AL
inductive Ow where
 |view|nil|own (e:Nat)
 deriving DecidableEq
inductive AV where
 |bool (b:Bool)
 |l7
 |int (k:IntKind) (n:Int)
 |str (l:List UInt8)
 |slice (o:Ow) (es:List AV)
 |agg (cs:List AV)
 |dY (vs:List AV)
 |ref (cs:List AV)
 |rA
 |iface (t:TypeId) (v:AV)
 |pS
 |map (ks vs:List AV)
 |box (i off:Nat)
 |func (fn:Fn) (first cap:List AV)
 |gY (fs:List AV)
 |val (c:Value)
 |bp
namespace AV
def cells:AV->List AV
 |.agg cs=>cs
 |v=>[v]
def aI:AV->AV
 |.slice (.own _) es=>.slice .view es
 |v=>v
def cI:AV->AV
 |.slice _ es=>.slice .view es
 |v=>v
def vw:AV->AV
 |.agg cs=>.agg (cs.map cI)
 |v=>v.cI
def b_:AV->Bool
 |.box ..|.func ..|.gY _|.bp=>false
 |_=>true
def one:AV->Bool
 |.agg _|.dY _=>false
 |_=>true
def storable:AV->Bool
 |.box ..|.func ..|.gY _|.bp|.dY _=>false
 |_=>true
end AV
inductive RD(Pr:Nat->Nat->Prop)(w:World):AV->Value->Prop
 |bool (b:Bool):RD Pr w (.bool b) (.bool b)
 |l7 (b:Bool):RD Pr w .l7 (.bool b)
 |int (k:IntKind) (n:Int):RD Pr w (.int k n) (.int k n)
 |str (l:List UInt8):RD Pr w (.str l) (.string ⟨l.toArray⟩)
 |iB (o:Ow):RD Pr w (.slice o []) (.slice none 0 0)
 |jz (o:Ow) (a:Addr):RD Pr w (.slice o []) (.slice (some a) 0 0)
 |slice (o:Ow) (es:List AV) (b off cap size:Nat) (cs:Nat→Value) (fl:es.length≤cap) (hn:o = .nil→cap=0)
   (bl:∀i (h:i<es.length),(es[i]).cells.length=size) (h1:∀i (h:i<es.length) j (hj:j<(es[i]).cells.length),((es[i]).cells[j]).one=true)
   (hc:∀k,k<es.length*size->Pr b (off+k)/\w.cell? ⟨b,off+k,none⟩=some (cs k))
   (hr:∀i (h:i<es.length) j (hj:j<(es[i]).cells.length),RD Pr w ((es[i]).cells[j]) (cs (i*size+j))):
   RD Pr w (.slice o es) (.slice (some ⟨b,off,none⟩) es.length cap)
 |agg (cs:List AV) (vs:Array Value) (hl:cs.length=vs.size) (h1:∀ i (h:i < cs.length),(cs[i]).one=true)
   (hr:∀i (h:i<cs.length)(h':i<vs.size),RD Pr w cs[i] vs[i]):RD Pr w (.agg cs) (.agg vs)
 |dY (cs:List AV) (vs:Array Value) (hl:cs.length=vs.size)
   (hr:∀i (h:i<cs.length)(h':i<vs.size),RD Pr w cs[i] vs[i]):RD Pr w (.dY cs) (.tuple vs)
 |ref (cs:List AV) (b off:Nat) (vs:Nat→Value) (h1:∀ i (h:i < cs.length),(cs[i]).one=true)
   (hc:∀k,k<cs.length->Pr b (off+k)/\w.cell? ⟨b,off+k,none⟩=some (vs k))
   (hr:∀k (h:k<cs.length),RD Pr w cs[k] (vs k)):RD Pr w (.ref cs) (.pointer (some ⟨b,off,none⟩))
 |map (ks vs:List AV) (b:Nat) (es:Array MapEntry) (clock:Nat) (hb:Pr b 0) (hm:w.heap[b]? = some (.map es clock)) (hk:ks.length=es.size) (hv:vs.length=es.size)
   (hr:∀i (h:i<ks.length)(h':i<es.size),RD Pr w ks[i] (es[i]).key) (ir:∀i (h:i<vs.length)(h':i<es.size),RD Pr w vs[i] (es[i]).val):RD Pr w (.map ks vs) (.map (some b))
 |ui:RD Pr w (.map [] []) (.map none)
 |rA:RD Pr w .rA (.pointer none)
 |iface (t:TypeId) (v:AV) (c:Value) (h:RD Pr w v c):RD Pr w (.iface t v) (.iface t c)
 |pS:RD Pr w .pS .nilIface
 |val (c:Value) (h:c.oneCell'=true):RD Pr w (.val c) c
inductive RV(Pr:Nat->Nat->Prop)(al:Nat->Option Nat)(w:World):AV->Value->Prop
 |data (v:AV) (c:Value) (h:RD Pr w v c):RV Pr al w v c
 |box (i off b:Nat) (h:al i=some b):RV Pr al w (.box i off) (.pointer (some ⟨b,off,none⟩))
 |func (fn:Fn) (first cap:List AV) (vs us:Array Value) (h1:first.length=vs.size) (h2:cap.length=us.size)
   (Ly:∀i (h:i<first.length)(h':i<vs.size),RV Pr al w first[i] vs[i])
   (RX:∀i (h:i<cap.length)(h':i<us.size),RV Pr al w cap[i] us[i]):RV Pr al w (.func fn first cap) (.func fn vs us)
 |gY (fs:List AV) (vs:Array Value) (h1:fs.length=vs.size) (hr:∀i (h:i<fs.length)(h':i<vs.size),RV Pr al w fs[i] vs[i]):RV Pr al w (.gY fs) (.agg vs)
 |bp (c:Value):RV Pr al w .bp c
structure bg(Pr e_:Nat->Nat->Prop)(w w':World):Prop where
 cell:∀b k,Pr b k->∀u,w.cell? ⟨b,k,none⟩=some u->e_ b k/\w'.cell? ⟨b,k,none⟩=some u
 map:∀b,Pr b 0->∀es c,w.heap[b]?=some (.map es c)->e_ b 0/\w'.heap[b]?=some (.map es c)
def bg.ja{Pr e_:Nat->Nat->Prop}{w w':World}(h:∀b,b<w.heap.size->w'.heap[b]?=w.heap[b]?)(hp:∀b k,b<w.heap.size->Pr b k->e_ b k):bg Pr e_ w w':={
 cell b k hb u hu:=by
  have aq:=afO _ _ hu;exact⟨hp b k aq hb,by rw[afr (w:=w) (h b aq)];exact hu⟩
 map b hb es c hm:=by
  have aq:=(adD.1 hm).1
  exact⟨hp b 0 aq hb,by rw[h b aq];exact hm⟩ }
def bg.trans{Pr e_ WX:Nat->Nat->Prop}{w w' jv:World}(h:bg Pr e_ w w')(h':bg e_ WX w' jv):bg Pr WX w jv:={
 cell b k hp u hu:=h'.cell b k (h.cell b k hp u hu).1 u (h.cell b k hp u hu).2
 map b hp es c hm:=h'.map b (h.map b hp es c hm).1 es c (h.map b hp es c hm).2 }
def bg.qq{Pr:Nat->Nat->Prop}{w w':World}(h:∀b k,b<w.heap.size->Pr b k->w'.heap[b]?=w.heap[b]?):bg Pr Pr w w':={
 cell b k hb u hu:=⟨hb,by rw[afr (w:=w) (h b k (afO _ _ hu) hb)];exact hu⟩
 map b hb es c hm:=⟨hb,by rw[h b 0 (adD.1 hm).1 hb];exact hm⟩ }
def bg.same{Pr e_:Nat->Nat->Prop}{w:World}(hp:∀b k,b<w.heap.size->Pr b k->e_ b k):bg Pr e_ w w:=bg.ja (λ_ _=>rfl) hp
def RD.mono {Pr e_:Nat→Nat→Prop} {w w':World} {v:AV} {c:Value} (h:RD Pr w v c)
  (hp:bg Pr e_ w w'):RD e_ w' v c:=by
 induction h with
 |bool b=>exact .bool b
 |l7 b=>exact .l7 b
 |int k n=>exact .int k n
 |str l=>exact .str l
 |iB o=>exact .iB o
 |jz o a=>exact .jz o a
 |slice o es b off cap size cs fl hn bl h1 hc _ ih=>
  exact .slice o es b off cap size cs fl hn bl h1 (λk hk=>hp.cell _ _ (hc k hk).1 _ (hc k hk).2) ih
 |agg cs vs hl h1 _ ih=>exact .agg cs vs hl h1 ih
 |dY cs vs hl _ ih=>exact .dY cs vs hl ih
 |ref cs b off vs h1 hc _ ih=>exact .ref cs b off vs h1 (λk hk=>hp.cell _ _ (hc k hk).1 _ (hc k hk).2) ih
 |map ks vs b es clock hb hm hk hv _ _ ih ih'=>exact .map ks vs b es clock (hp.map b hb es clock hm).1 (hp.map b hb es clock hm).2 hk hv ih ih'
 |ui=>exact .ui
 |rA=>exact .rA
 |iface t v c _ ih=>exact .iface t v c ih
 |pS=>exact .pS
 |val c h=>exact .val c h
def RV.mono {Pr e_:Nat→Nat→Prop} {al Jr:Nat→Option Nat} {w w':World} {v:AV} {c:Value} (h:RV Pr al w v c)
  (hp:bg Pr e_ w w')
  (ha:∀i b,al i=some b->Jr i=some b):RV e_ Jr w' v c:=by
 induction h with
 |data v c h=>exact .data v c (h.mono hp)
 |box i off b h=>exact .box i off b (ha i b h)
 |func fn first cap vs us h1 h2 _ _ ih1 ih2=>exact .func fn first cap vs us h1 h2 ih1 ih2
 |gY fs vs h1 _ ih=>exact .gY fs vs h1 ih
 |bp c=>exact .bp c
def RD.b_{Pr:Nat->Nat->Prop}{w:World}{v:AV}{c:Value}(h:RD Pr w v c):v.b_=true:=by
 cases h<;>rfl
def RV.dX{Pr:Nat->Nat->Prop}{al:Nat->Option Nat}{w:World}{v:AV}{c:Value}(h:RV Pr al w v c)(hd:v.b_=true):RD Pr w v c:=by
 cases h with
 |data v c h=>exact h
 |box i off b h=>cases hd
 |func=>cases hd
 |gY=>cases hd
 |bp c=>cases hd
def RD.aI{Pr:Nat->Nat->Prop}{w:World}{v:AV}{c:Value}(h:RD Pr w v c):RD Pr w v.aI c:=by
 cases h with
 |iB o=>cases o<;>exact .iB _
 |jz o a=>cases o<;>exact .jz _ a
 |slice o es b off cap size cs fl hn bl h1 hc hr=>
  cases o with
  |own e=>exact .slice _ es b off cap size cs fl (λh=>by cases h) bl h1 hc hr
  |view=>exact .slice _ es b off cap size cs fl hn bl h1 hc hr
  |nil=>exact .slice _ es b off cap size cs fl hn bl h1 hc hr
 |bool b=>exact .bool b
 |l7 b=>exact .l7 b
 |int k n=>exact .int k n
 |str l=>exact .str l
 |agg cs vs hl h1 hr=>exact .agg cs vs hl h1 hr
 |dY cs vs hl hr=>exact .dY cs vs hl hr
 |ref cs b off vs h1 hc hr=>exact .ref cs b off vs h1 hc hr
 |map ks vs b es clock hb hm hk hv hr ir=>exact .map ks vs b es clock hb hm hk hv hr ir
 |ui=>exact .ui
 |rA=>exact .rA
 |iface t v c h=>exact .iface t v c h
 |pS=>exact .pS
 |val c h=>exact .val c h
def RV.aI{Pr:Nat->Nat->Prop}{al:Nat->Option Nat}{w:World}{v:AV}{c:Value}(h:RV Pr al w v c):RV Pr al w v.aI c:=by
 cases h with
 |data v c h=>exact .data _ _ h.aI
 |box i off b h=>exact .box i off b h
 |func fn first cap vs us h1 h2 r1 r2=>exact .func fn first cap vs us h1 h2 r1 r2
 |gY fs vs h1 hr=>exact .gY fs vs h1 hr
 |bp c=>exact .bp c
def RD.cells {Pr:Nat→Nat→Prop} {w:World} {v:AV} {c:Value} (h:RD Pr w v c) :
  v.cells.length=c.cells.size/\∀i (h:i<v.cells.length)(h':i<c.cells.size),RD Pr w v.cells[i] c.cells[i]:=by
 cases h with
 |agg cs vs hl h1 hr=>exact⟨hl,hr⟩
 |bool b=>exact⟨rfl,λi h _=>by simp[AV.cells]at h;subst h;exact .bool b⟩
 |l7 b=>exact⟨rfl,λi h _=>by simp[AV.cells]at h;subst h;exact .l7 b⟩
 |int k n=>exact⟨rfl,λi h _=>by simp[AV.cells]at h;subst h;exact .int k n⟩
 |str l=>exact⟨rfl,λi h _=>by simp[AV.cells]at h;subst h;exact .str l⟩
 |iB o=>exact⟨rfl,λi h _=>by simp[AV.cells]at h;subst h;exact .iB o⟩
 |jz o a=>exact⟨rfl,λi h _=>by simp[AV.cells]at h;subst h;exact .jz o a⟩
 |slice o es b off cap size cs fl hn bl h1 hc hr=>exact⟨rfl,λi h _=>by simp[AV.cells]at h;subst h;exact .slice o es b off cap size cs fl hn bl h1 hc hr⟩
 |dY cs vs hl hr=>exact⟨rfl,λi h _=>by simp[AV.cells]at h;subst h;exact .dY cs vs hl hr⟩
 |ref cs b off vs h1 hc hr=>exact⟨rfl,λi h _=>by simp[AV.cells]at h;subst h;exact .ref cs b off vs h1 hc hr⟩
 |map ks vs b es clock hb hm hk hv hr ir=>exact⟨rfl,λi h _=>by simp[AV.cells]at h;subst h;exact .map ks vs b es clock hb hm hk hv hr ir⟩
 |ui=>exact⟨rfl,λi h _=>by simp[AV.cells]at h;subst h;exact .ui⟩
 |rA=>exact⟨rfl,λi h _=>by simp[AV.cells]at h;subst h;exact .rA⟩
 |iface t v c hh=>exact⟨rfl,λi h _=>by simp[AV.cells]at h;subst h;exact .iface t v c hh⟩
 |pS=>exact⟨rfl,λi h _=>by simp[AV.cells]at h;subst h;exact .pS⟩
 |val c hc=>
  have j5:c.cells=#[c]:=by cases c<;>first|rfl|cases hc
  exact⟨by rw[j5];rfl,λi h h'=>by simp[AV.cells]at h;subst h;simp only[j5];exact .val c hc⟩
def RD.one{Pr:Nat->Nat->Prop}{w:World}{v:AV}{c:Value}(h:RD Pr w v c)(h1:v.one=true):c.oneCell'=true:=by
 cases h<;>first|rfl|(cases h1;done)|assumption
def RD.cells_one{Pr:Nat->Nat->Prop}{w:World}{v:AV}{c:Value}(h:RD Pr w v c)(h1:v.storable=true):∀i (h:i<v.cells.length),(v.cells[i]).one=true:=by
 cases h with
 |agg cs vs hl ho hr=>exact ho
 |dY=>cases h1
 |_=>intro i hi;simp[AV.cells]at hi;subst hi;rfl
def AV.pc(v:AV):v.aI.one=v.one:=by
 cases v<;>try rfl
 rename_i o es;cases o<;>rfl
def AV.Sh(v:AV):v.cI.one=v.one:=by cases v<;>rfl
def AV.idem(v:AV):v.aI.aI=v.aI:=by
 cases v<;>try rfl
 rename_i o es;cases o<;>rfl
def RD.cI{Pr:Nat->Nat->Prop}{w:World}{v:AV}{c:Value}(h:RD Pr w v c):RD Pr w v.cI c:=by
 cases h with
 |iB o=>exact .iB _
 |jz o a=>exact .jz _ a
 |slice o es b off cap size cs fl hn bl h1 hc hr=>exact .slice _ es b off cap size cs fl (λh=>by cases h) bl h1 hc hr
 |bool b=>exact .bool b
 |l7 b=>exact .l7 b
 |int k n=>exact .int k n
 |str l=>exact .str l
 |agg cs vs hl h1 hr=>exact .agg cs vs hl h1 hr
 |dY cs vs hl hr=>exact .dY cs vs hl hr
 |ref cs b off vs h1 hc hr=>exact .ref cs b off vs h1 hc hr
 |map ks vs b es clock hb hm hk hv hr ir=>exact .map ks vs b es clock hb hm hk hv hr ir
 |ui=>exact .ui
 |rA=>exact .rA
 |iface t v c h=>exact .iface t v c h
 |pS=>exact .pS
 |val c h=>exact .val c h
def RD.vw{Pr:Nat->Nat->Prop}{w:World}{v:AV}{c:Value}(h:RD Pr w v c):RD Pr w v.vw c:=by
 cases h with
 |agg cs vs hl h1 hr=>
  refine .agg _ vs (by simpa using hl) (λi hi=>?_) (λi hi du=>?_)
  .simp only[adH]at hi;have:=h1 i hi;simp only[adR];generalize cs[i]=u at this
   cases u<;>first|rfl|cases this
  .simp only[adH]at hi;simp only[adR];exact(hr i hi du).cI
 |iB o=>exact .iB _
 |jz o a=>exact .jz _ a
 |slice o es b off cap size cs fl hn bl h1 hc hr=>exact .slice _ es b off cap size cs fl (λh=>by cases h) bl h1 hc hr
 |bool b=>exact .bool b
 |l7 b=>exact .l7 b
 |int k n=>exact .int k n
 |str l=>exact .str l
 |dY cs vs hl hr=>exact .dY cs vs hl hr
 |ref cs b off vs h1 hc hr=>exact .ref cs b off vs h1 hc hr
 |map ks vs b es clock hb hm hk hv hr ir=>exact .map ks vs b es clock hb hm hk hv hr ir
 |ui=>exact .ui
 |rA=>exact .rA
 |iface t v c h=>exact .iface t v c h
 |pS=>exact .pS
 |val c h=>exact .val c h
def AV.kg{v:AV}(h:v.storable=true):v.b_=true:=by cases v<;>first|rfl|cases h
end Go.AL
namespace Go.AL
open Go.RowKit
abbrev an:=Nat->AV
abbrev ao:=Nat->Option (List AV)
def au{α:Type}(f:Nat->α)(i:Nat)(x:α):Nat->α:=λj=>if j=i then x else f j
def aO{α:Type}(f:Nat->α)(i:Nat)(x:α):au f i x i=x:=by simp[au]
def aT{α:Type}(f:Nat->α){i j:Nat}(x:α)(h:j≠i):au f i x j=f j:=by simp[au,h]
inductive Loc where
 |slot (t:Nat)|cell (i j:Nat)
 deriving DecidableEq
def kI(d:Nat):AV->Bool
 |.box i _=>i==d
 |.func ..|.gY _=>true
 |_=>false
def cb(d:Nat):AV->AV
 |.box i o=>if i=d then .bp else .box i o
 |.func fn first cap=>if first.any (kI d)||cap.any (kI d)then .bp else .func fn first cap
 |.gY _=>.bp
 |v=>v
def U_:AV->Bool
 |.func ..|.gY _=>false
 |_=>true
def flat:AV->Bool
 |.func _ first cap=>first.all U_&&cap.all U_
 |.gY _=>false
 |_=>true
structure Old where
 c:Nat->Nat->Prop
 facts:List (AV×Value)
 bx:Nat->Prop
 ds:List Deferred
 aU:Nat->Option Obj
 sp:Nat->Nat->Prop
 sw:World
 ok:∀p∈facts,flat p.1=true/\∀d,¬bx d->cb d p.1=p.1
def Old.plain(c:Nat->Nat->Prop)(w:World):Old:={ c:=c,facts:=[],bx:=λ_=>False,ds:=[],aU:=λ_=>none,sp:=λ_ _=>False,sw:=w,ok:=λ_ h=>by cases h }
structure Gh where
 base:Nat
 old:Old
 al:Nat->Option Nat
 hi:Nat->Nat
 owner:Nat->Option Loc
def Gh.Pr(g:Gh)(b k:Nat):Prop:=(b<g.base/\g.old.c b k)\/(g.base<=b/\k<g.hi b)
def eQ(P:Program)(w:World)(g:Gh)(loc:Loc):AV->Value->Prop
 |.slice (.own e) es,c=>∃i xs b,P.info? e=some i/\w.ownsRow g.base e i.size c es.length xs/\c.ownBlock=some b/\g.owner b=some loc/\g.hi b=es.length*i.size
 |_,_=>True
structure Rel(P:Program)(w0:World)(n:Nat)(U:Nat->Prop)(g:Gh)(S:an)(H:ao)(a:Act)(w:World):Prop where
 size:a.tmps.size=n
 defers:a.defers=g.old.ds
 facts:∀p∈g.old.facts,RV g.Pr g.al w p.1 p.2
 slot:∀t,t<n->¬U t->RV g.Pr g.al w (S t) (a.tmps.getD t undef)
 own:∀t,t<n->¬U t->eQ P w g (.slot t) (S t) (a.tmps.getD t undef)
 box:∀i b,g.al i=some b->∃cs vs ty,H i=some cs/\g.base<=b/\w.heap[b]?=some (.cells vs ty (0,0))/\g.hi b=0/\g.owner b=none/\cs.length=vs.size/\
  (∀j (h:j<cs.length)(h':j<vs.size),RD g.Pr w cs[j] vs[j])/\(∀j (h:j<cs.length)(h':j<vs.size),eQ P w g (.cell i j) cs[j] vs[j])/\∀j (h:j<cs.length),(cs[j]).one=true
 jU:∀i cs,H i=some cs->¬U i->(g.al i).isSome
 jR:∀i,U i->g.al i=none
 inj:∀i j b,g.al i=some b->g.al j=some b->i=j
 base:g.base=w0.heap.size
 below:Below g.base w0 w
 fresh:∀b,w.heap.size<=b->g.hi b=0/\g.owner b=none
 still:bg g.old.sp g.Pr g.old.sw w
 grown:g.old.sw.heap.size<=w.heap.size
 kept:∀b o,g.old.aU b=some o->g.base<=b/\w.heap[b]?=some o/\g.hi b=0/\g.owner b=none/\∀i,g.al i≠some b
def eQ.aU {P:Program} {w w':World} {g g':Gh} {loc:Loc} {v:AV} {c:Value} (h:eQ P w g loc v c) (hb:g'.base=g.base)
  (hk:∀b,g.owner b=some loc->w'.heap[b]?=w.heap[b]?/\g'.hi b=g.hi b/\g'.owner b=some loc):eQ P w' g' loc v c:=by
 unfold eQ at*
 split at h
 .obtain⟨i,xs,b,h1,h2,h3,h4,h5⟩:=h;obtain⟨k1,k2,k3⟩:=hk b h4;refine⟨i,xs,b,h1,?_,h3,k3,by rw[k2];exact h5⟩;rw[hb];refine⟨h2.1,?_⟩
  rcases h2.2 with hn|⟨gg,cap,cur,rfl,lX,FE,rest⟩
  .exact .inl hn
  .have:gg=b:=by simpa[Value.ownBlock]using h3
   subst this;exact .inr ⟨gg,cap,cur,rfl,lX,by rw[k1];exact FE,rest⟩
 .trivial
def eQ.aI{P:Program}{w:World}{g:Gh}{loc:Loc}{v:AV}{c:Value}:eQ P w g loc v.aI c:=by
 cases v<;>try trivial
 rename_i o es
 cases o<;>trivial
def Rel.ext {P:Program} {w0:World} {n:Nat} {U:Nat→Prop} {g g':Gh} {S:an} {H:ao} {a:Act} {w w':World} (R:Rel P w0 n U g S H a w)
  (gP:g'.base=g.base) (hold:g'.old=g.old) (jC:g'.al=g.al)
  (eO:bg g.Pr g'.Pr w w')
  (abH:∀i b,g.al i=some b->w'.heap[b]?=w.heap[b]?/\g'.hi b=g.hi b/\g'.owner b=g.owner b)
  (cZ:∀b loc,g.owner b=some loc->w'.heap[b]?=w.heap[b]?/\g'.hi b=g.hi b/\g'.owner b=some loc)
  (Vn:Below g.base w0 w') (o7:∀b,w'.heap.size<=b->g'.hi b=0/\g'.owner b=none)
  (n9:∀b o,g.old.aU b=some o->w.heap[b]?=some o->w'.heap[b]?=some o/\g'.hi b=g.hi b/\g'.owner b=g.owner b) (Zn:w.heap.size<=w'.heap.size):Rel P w0 n U g' S H a w':={
 size:=R.size
 defers:=by rw[hold];exact R.defers
 facts p hp:=(R.facts p (by rw[<-hold];exact hp)).mono eO (by rw[jC];exact λ_ _ h=>h)
 slot t ht hu:=(R.slot t ht hu).mono eO (by rw[jC];exact λ_ _ h=>h)
 own t ht hu:=(R.own t ht hu).aU gP λb hb=>cZ b _ hb
 box i b hi:=by
  rw[jC]at hi;obtain⟨cs,vs,ty,h1,h2,h3,h4,h5,h6,h7,h8,h9⟩:=R.box i b hi;obtain⟨k1,k2,k3⟩:=abH i b hi;refine⟨cs,vs,ty,h1,by rw[gP];exact h2,by rw[k1];exact h3,by rw[k2];exact h4,by rw[k3];exact h5,h6,?_,?_,h9⟩
  .exact λj hj dZ=>(h7 j hj dZ).mono eO
  .exact λj hj dZ=>(h8 j hj dZ).aU gP λb hb=>cZ b _ hb
 jU i cs h hu:=by rw[jC];exact R.jU i cs h hu
 jR i h:=by rw[jC];exact R.jR i h
 inj i j b h h':=by rw[jC]at h h';exact R.inj i j b h h'
 base:=by rw[gP];exact R.base
 below:=by rw[gP];exact Vn
 fresh:=o7
 still:=by rw[hold];exact R.still.trans eO
 grown:=by rw[hold];exact aeL R.grown Zn
 kept b o h:=by
  rw[hold]at h;obtain⟨k1,k2,k3,k4,k5⟩:=R.kept b o h;obtain⟨e1,e2,e3⟩:=n9 b o h k2
  exact⟨by rw[gP];exact k1,e1,by rw[e2];exact k3,by rw[e3];exact k4,by rw[jC];exact k5⟩ }
def Rel.grow {P:Program} {w0:World} {n:Nat} {U:Nat→Prop} {g g':Gh} {S:an} {H:ao} {a:Act} {w w':World} (R:Rel P w0 n U g S H a w)
  (hb:Below w.heap.size w w') (gP:g'.base=g.base) (hold:g'.old=g.old) (jC:g'.al=g.al)
  (hg:∀b,b<w.heap.size->g'.hi b=g.hi b/\g'.owner b=g.owner b) (o7:∀b,w'.heap.size<=b->g'.hi b=0/\g'.owner b=none):Rel P w0 n U g' S H a w':=by
 have hle:g.base<=w.heap.size:=by rw[R.base];exact R.below.size
 refine R.ext gP hold jC ?_ ?_ ?_ ?_ o7 ?_ hb.size
 .refine bg.ja (λb aq=>hb.block b aq) λb k aq hp=>?_
  unfold Gh.Pr at*
  rw[gP,hold,(hg b aq).1];exact hp
 .intro i b hi;obtain⟨cs,vs,ty,h1,h2,h3,_⟩:=R.box i b hi;have aq:b<w.heap.size:=(adD.1 h3).1;exact⟨hb.block b aq,hg b aq⟩
 .intro b loc ho
  have aq:b<w.heap.size:=by
   rcases ae6 b w.heap.size with h|h
   .exact h
   .rw[(R.fresh b h).2]at ho;cases ho
  exact⟨hb.block b aq,(hg b aq).1,by rw[(hg b aq).2];exact ho⟩
 .exact R.below.trans (hb.mono hle)
 .intro b o _ ho;have aq:b<w.heap.size:=(adD.1 ho).1;exact⟨by rw[hb.block b aq];exact ho,hg b aq⟩
def Rel.jV {P:Program} {w0:World} {n:Nat} {U:Nat→Prop} {g:Gh} {S:an} {H:ao} {a:Act} {w w':World} (R:Rel P w0 n U g S H a w)
  (hb:Below w.heap.size w w'):Rel P w0 n U g S H a w':=
 R.grow hb rfl rfl rfl (λ_ _=>⟨rfl,rfl⟩) (λb h=>R.fresh b (aeL hb.size h))
def i_(a:Act)(d t:Nat)(c:Value)(hd:d<a.tmps.size):(a.put (some d) c).tmps.getD t undef=if t=d then c else a.tmps.getD t undef:=by
 simp only[Act.put]
 by_cases h:t=d
 .subst h;simp[hd]
 .simp[h,adN (aeq h)]
def Rel.put {P:Program} {w0:World} {n:Nat} {U:Nat→Prop} {g:Gh} {S:an} {H:ao} {a:Act} {w:World} (R:Rel P w0 n U g S H a w)
  (d:Nat) (v:AV) (c:Value) (hd:d<n) (hv:RV g.Pr g.al w v c) (ho:eQ P w g (.slot d) v c):Rel P w0 n U g (au S d v) H (a.put (some d) c) w:={
 size:=by simp[Act.put,R.size]
 defers:=R.defers
 facts:=R.facts
 slot t ht hu:=by
  rw[i_ a d t c (by rw[R.size];exact hd)]
  by_cases h:t=d
  .subst h;simp only[aO,aed];exact hv
  .rw[aT S v h,if_neg h];exact R.slot t ht hu
 own t ht hu:=by
  rw[i_ a d t c (by rw[R.size];exact hd)]
  by_cases h:t=d
  .subst h;simp only[aO,aed];exact ho
  .rw[aT S v h,if_neg h];exact R.own t ht hu
 box:=R.box
 jU:=R.jU
 jR:=R.jR
 inj:=R.inj
 base:=R.base
 below:=R.below
 fresh:=R.fresh
 still:=R.still
 grown:=R.grown
 kept:=R.kept }
def aW(S:an):Option Nat->AV->an
 |some d,v=>au S d v
 |none,_=>S
def Rel.aW {P:Program} {w0:World} {n:Nat} {U:Nat→Prop} {g:Gh} {S:an} {H:ao} {a:Act} {w:World} (R:Rel P w0 n U g S H a w)
  (d:Option Nat) (v:AV) (c:Value) (hd:∀t,d=some t->t<n) (hv:RV g.Pr g.al w v c) (ho:∀t,d=some t->eQ P w g (.slot t) v c):Rel P w0 n U g (aW S d v) H (a.put d c) w:=by
 cases d with
 |none=>exact R
 |some t=>exact R.put t v c (hd t rfl) hv (ho t rfl)
def Rel.weaken {P:Program} {w0:World} {n:Nat} {U:Nat→Prop} {g:Gh} {S:an} {H:ao} {a:Act} {w:World} (R:Rel P w0 n U g S H a w)
  (S':an) (h:∀t,t<n->¬U t->∀c,RV g.Pr g.al w (S t) c->eQ P w g (.slot t) (S t) c->RV g.Pr g.al w (S' t) c/\eQ P w g (.slot t) (S' t) c):Rel P w0 n U g S' H a w:={
 size:=R.size
 defers:=R.defers
 facts:=R.facts
 slot t ht hu:=(h t ht hu _ (R.slot t ht hu) (R.own t ht hu)).1
 own t ht hu:=(h t ht hu _ (R.slot t ht hu) (R.own t ht hu)).2
 box:=R.box
 jU:=R.jU
 jR:=R.jR
 inj:=R.inj
 base:=R.base
 below:=R.below
 fresh:=R.fresh
 still:=R.still
 grown:=R.grown
 kept:=R.kept }
def AV.my:AV->Prop
 |.slice (.own _) _=>False
 |_=>True
instance(v:AV):Decidable v.my:=by unfold AV.my;split<;>infer_instance
def AV.qD(v:AV):v.aI.my:=by
 cases v<;>try trivial
 rename_i o es
 cases o<;>trivial
def eQ.my{P:Program}{w w':World}{g g':Gh}{loc Bz:Loc}{v:AV}{c:Value}(h:eQ P w g loc v c)(hn:v.my):eQ P w' g' Bz v c:=by
 cases v<;>try trivial
 rename_i o es
 cases o with
 |view=>trivial
 |nil=>trivial
 |own e=>simp[AV.my]at hn
def Rel.Hm {P:Program} {w0:World} {n:Nat} {U:Nat→Prop} {g:Gh} {S:an} {H:ao} {a:Act} {w:World} (R:Rel P w0 n U g S H a w)
  (loc:Loc) (Bz:Option Loc) (hS:∀t,loc=.slot t->t<n->¬U t->(S t).my)
  (hH:∀i j cs,loc=.cell i j->H i=some cs->∀h:j<cs.length,(cs[j]).my):
  Rel P w0 n U { g with owner:=λb=>if g.owner b=some loc then Bz else g.owner b } S H a w:={
 size:=R.size
 defers:=R.defers
 facts:=R.facts
 slot:=R.slot
 own t ht hu:=by
  by_cases h:loc=.slot t
  .exact(R.own t ht hu).my (hS t h ht hu)
  .refine(R.own t ht hu).aU rfl λb hb=>⟨rfl,rfl,?_⟩
   show(if g.owner b=some loc then Bz else g.owner b)=_;rw[if_neg (by rw[hb];intro e;exact h (ad7 e).symm)];exact hb
 box i b hi:=by
  obtain⟨cs,vs,ty,h1,h2,h3,h4,h5,h6,h7,h8,h9⟩:=R.box i b hi;refine⟨cs,vs,ty,h1,h2,h3,h4,?_,h6,h7,?_,h9⟩
  .show(if g.owner b=some loc then Bz else g.owner b)=none;rw[h5];simp
  .intro j hj dZ
   by_cases h:loc=.cell i j
   .exact(h8 j hj dZ).my (hH i j cs h h1 hj)
   .refine(h8 j hj dZ).aU rfl λb hb=>⟨rfl,rfl,?_⟩
    show(if g.owner b=some loc then Bz else g.owner b)=_;rw[if_neg (by rw[hb];intro e;exact h (ad7 e).symm)];exact hb
 jU:=R.jU
 jR:=R.jR
 inj:=R.inj
 base:=R.base
 below:=R.below
 fresh b hb:=by
  refine⟨(R.fresh b hb).1,?_⟩;show(if g.owner b=some loc then Bz else g.owner b)=none;rw[(R.fresh b hb).2];simp
 still:=R.still
 grown:=R.grown
 kept b o h:=by
  obtain⟨k1,k2,k3,k4,k5⟩:=R.kept b o h;refine⟨k1,k2,k3,?_,k5⟩;show(if g.owner b=some loc then Bz else g.owner b)=none
  rw[k4];simp }
def RV.kI {Pr:Nat→Nat→Prop} {al Jr:Nat→Option Nat} {w:World} {v:AV} {c:Value} {d:Nat} (h:RV Pr al w v c) (hs:kI d v=false)
  (ha:∀i b,i≠d->al i=some b->Jr i=some b):RV Pr Jr w v c:=by
 cases h with
 |data v c h=>exact .data _ _ h
 |box i off b h=>exact .box i off b (ha i b (by simpa[Go.AL.kI]using hs) h)
 |func=>simp[Go.AL.kI]at hs
 |gY=>simp[Go.AL.kI]at hs
 |bp c=>exact .bp c
def RV.cb {Pr:Nat→Nat→Prop} {al Jr:Nat→Option Nat} {w:World} {v:AV} {c:Value} (d:Nat) (h:RV Pr al w v c)
  (ha:∀i b,i≠d->al i=some b->Jr i=some b):RV Pr Jr w (cb d v) c:=by
 cases h with
 |data v c h=>
  have:Go.AL.cb d v=v:=by cases h<;>rfl
  rw[this];exact .data _ _ h
 |box i off b h=>
  simp only[Go.AL.cb];split
  .exact .bp _
  .rename_i hi;exact .box i off b (ha i b hi h)
 |func fn first cap vs us h1 h2 r1 r2=>
  simp only[Go.AL.cb];split
  .exact .bp _
  .rename_i hn;simp only[aeZ,not_or,afn,aeE]at hn;exact .func fn first cap vs us h1 h2 (λi h h'=>(r1 i h h').kI (by simpa using hn.1 _ (adC h)) ha) (λi h h'=>(r2 i h h').kI (by simpa using hn.2 _ (adC h)) ha)
 |gY=>exact .bp _
 |bp c=>exact .bp c
def DQ(P:Program)(w:World)(g:Gh)(loc:Loc)(d:Nat)(v:AV)(c:Value)(h:eQ P w g loc v c):eQ P w g loc (cb d v) c:=by
 cases v<;>try exact h
 .simp only[cb];split<;>trivial
 .simp only[cb];split<;>trivial
def Rel.suspend {P:Program} {w0:World} {n:Nat} {U:Nat→Prop} {g:Gh} {S:an} {H:ao} {a:Act} {w:World} (R:Rel P w0 n U g S H a w)
  (d:Nat) (bK:¬g.old.bx d) (v:AV) (cs:List AV):
  Rel P w0 n (λt=>U t\/t=d) { g with al:=au g.al d none } (au (λt=>cb d (S t)) d v) (au H d (some cs)) a w:={
 size:=R.size
 defers:=R.defers
 facts p hp:=by
  have h:=(R.facts p hp).cb (Jr:=au g.al d none) d λi b hi h=>by rw[aT _ _ hi];exact h
  rw[(g.old.ok p hp).2 d bK]at h;exact h
 slot t ht hu:=by
  simp only[not_or]at hu;rw[aT _ _ hu.2]
  refine(R.slot t ht hu.1).cb d λi b hi h=>?_
  show au g.al d none i=some b;rw[aT _ _ hi];exact h
 own t ht hu:=by
  simp only[not_or]at hu;rw[aT _ _ hu.2];exact DQ _ _ _ _ _ _ _ (R.own t ht hu.1)
 box i b hi:=by
  by_cases h:i=d
  .subst h;simp[au]at hi
  .simp only[aT _ _ h]at hi;obtain⟨fX,vs,ty,h1,rest⟩:=R.box i b hi;exact⟨fX,vs,ty,by rw[aT _ _ h];exact h1,rest⟩
 jU i fX h hu:=by
  simp only[not_or]at hu;rw[aT _ _ hu.2]at h;simp only[aT _ _ hu.2];exact R.jU i fX h hu.1
 jR i h:=by
  show au g.al d none i=none
  by_cases hi:i=d
  .subst hi;simp[au]
  .rw[aT _ _ hi];exact R.jR i (h.resolve_right hi)
 inj i j b h h':=by
  have e:∀k,(au g.al d none) k=some b->g.al k=some b:=by
   intro k hk
   by_cases JN:k=d
   .subst JN;simp[au]at hk
   .rwa [aT _ _ JN]at hk
  exact R.inj i j b (e i h) (e j h')
 base:=R.base
 below:=R.below
 fresh:=R.fresh
 still:=R.still
 grown:=R.grown
 kept b o h:=by
  obtain⟨k1,k2,k3,k4,k5⟩:=R.kept b o h;refine⟨k1,k2,k3,k4,λi=>?_⟩;show au g.al d none i≠some b
  by_cases hi:i=d
  .subst hi;simp[au]
  .rw[aT _ _ hi];exact k5 i }
def Rel.Jb {P:Program} {w0:World} {n:Nat} {U:Nat→Prop} {g:Gh} {S:an} {H:ao} {a:Act} {w:World} (R:Rel P w0 n U g S H a w)
  (d:Nat) (hU:U d) (hd:d<n) (cs:List AV) (vs:Array Value) (ty:TypeId) (hS:S d=.box d 0) (hH:H d=some cs) (hl:cs.length=vs.size)
  (hr:∀j (h:j<cs.length)(h':j<vs.size),RD g.Pr w cs[j] vs[j])
  (ho:∀j (h:j<cs.length)(h':j<vs.size),(cs[j]).my/\eQ P w g (.cell d j) cs[j] vs[j]) (h1:∀j (h:j<cs.length),(cs[j]).one=true):
  Rel P w0 n (λt=>U t/\t≠d) { g with al:=au g.al d (some w.heap.size) } S H (a.put (some d) (.pointer (some ⟨w.heap.size,0,none⟩))) (w.alloc (.cells vs ty)):=by
 have hb:Below w.heap.size w (w.alloc (.cells vs ty)):=(aeC _ _).alloc (adF _) _;have R':=R.jV hb
 have hle:g.base<=w.heap.size:=by rw[R.base];exact R.below.size
 have jC:∀i b,g.al i=some b->au g.al d (some w.heap.size) i=some b:=by
  intro i b h;rw[aT _ _ (by rintro rfl;rw[R.jR _ hU]at h;cases h)];exact h
 have hRD:∀{v:AV}{c:Value},RD g.Pr w v c->RD g.Pr (w.alloc (.cells vs ty)) v c:=λh=>h.mono (bg.ja (λb aq=>hb.block b aq) λ_ _ _ h=>h)
 refine{ size:=by simp[Act.put,R.size],defers:=R.defers,facts:=λp hp=>(R'.facts p hp).mono (bg.same λ_ _ _ h=>h) jC,slot:=?_,own:=?_,box:=?_,jU:=?_,jR:=?_,inj:=?_,base:=R.base,below:=R'.below,fresh:=R'.fresh,still:=R'.still,grown:=R'.grown,kept:=?_ }
 .intro t ht hu;rw[i_ a d t _ (by rw[R.size];exact hd)]
  by_cases h:t=d
  .subst h;rw[if_pos rfl,hS];exact .box _ _ _ (by simp[au])
  .rw[if_neg h];exact(R'.slot t ht (λSJ=>hu ⟨SJ,h⟩)).mono (bg.same λ_ _ _ h=>h) jC
 .intro t ht hu;rw[i_ a d t _ (by rw[R.size];exact hd)]
  by_cases h:t=d
  .subst h;rw[hS];simp[eQ]
  .rw[if_neg h]
   exact(R'.own t ht (λSJ=>hu ⟨SJ,h⟩)).aU rfl λb hb=>⟨rfl,rfl,hb⟩
 .intro i b hi
  by_cases h:i=d
  .subst h
   have lX:b=w.heap.size:=by simpa[au]using hi.symm
   subst lX;refine⟨cs,vs,ty,hH,hle,agS w _,(R.fresh _ (adF _)).1,(R.fresh _ (adF _)).2,hl,λj h h'=>hRD (hr j h h'),λj h h'=>(ho j h h').2.my (ho j h h').1,h1⟩
  .simp only[aT _ _ h]at hi;obtain⟨fX,lu,Cj,h1,h2,h3,h4,h5,h6,h7,h8,h9⟩:=R'.box i b hi;exact⟨fX,lu,Cj,h1,h2,h3,h4,h5,h6,h7,λj hj dZ=>(h8 j hj dZ).aU rfl λb hb=>⟨rfl,rfl,hb⟩,h9⟩
 .intro i fX h hu
  by_cases hi:i=d
  .subst hi;simp[au]
  .simp only[aT _ _ hi];exact R.jU i fX h (λSJ=>hu ⟨SJ,hi⟩)
 .intro i h;show au g.al d (some w.heap.size) i=none;rw[aT _ _ h.2];exact R.jR i h.1
 .intro i j b h h'
  have key:∀k,au g.al d (some w.heap.size) k=some b->(k=d/\b=w.heap.size)\/(k≠d/\g.al k=some b):=by
   intro k hk
   by_cases JN:k=d
   .subst JN;exact .inl ⟨rfl,by simpa[au]using hk.symm⟩
   .rw[aT _ _ JN]at hk;exact .inr ⟨JN,hk⟩
  have aq:∀k,g.al k=some b->b<w.heap.size:=by
   intro k hk;obtain⟨_,_,_,_,_,h3,_⟩:=R.box k b hk;exact(adD.1 h3).1
  rcases key i h with⟨rfl,e⟩|⟨hi,h1⟩<;>rcases key j h' with⟨rfl,e'⟩|⟨hj,h2⟩
  .rfl
  .have:=aq j h2;omega
  .have:=aq i h1;omega
  .exact R.inj i j b h1 h2
 .intro b o h;obtain⟨k1,k2,k3,k4,k5⟩:=R'.kept b o h;refine⟨k1,k2,k3,k4,λi=>?_⟩;show au g.al d (some w.heap.size) i≠some b
  by_cases hi:i=d
  .subst hi;rw[aO];have:=(adD.1 (R.kept b o h).2.1).1;intro e;have:=ad7 e;omega
  .rw[aT _ _ hi];exact k5 i
def Rel.Io {P:Program} {w0:World} {n:Nat} {U:Nat→Prop} {g:Gh} {S:an} {H:ao} {a:Act} {w:World} (R:Rel P w0 n U g S H a w)
  (i b:Nat) (hi:g.al i=some b) (vs lu:Array Value) (ty:TypeId) (hh:w.heap[b]?=some (.cells vs ty (0,0))) (fX:List AV) (hl:fX.length=lu.size)
  (hr:∀j (h:j<fX.length)(h':j<lu.size),RD g.Pr w fX[j] lu[j])
  (ho:∀j (h:j<fX.length)(h':j<lu.size),eQ P w g (.cell i j) fX[j] lu[j]) (Hi:∀j (h:j<fX.length),(fX[j]).one=true):
  Rel P w0 n U g S (au H i (some fX)) a (w.setRow b lu):=by
 obtain⟨cs,Tk,ty0,h1,h2,h3,h4,h5,h6,h7,h8,h9⟩:=R.box i b hi
 have cD:∀b' k,g.Pr b' k->b'≠b:=by
  rintro b' k hp rfl;unfold Gh.Pr at hp;rw[h4]at hp;omega
 have eO:bg g.Pr g.Pr w (w.setRow b lu):={
  cell:=λb' k hp u hu=>⟨hp,by rw[afr (w:=w) (aeO w b b' lu (cD b' k hp))];exact hu⟩
  map:=λb' hp es c hm=>⟨hp,by rw[aeO w b b' lu (cD b' 0 hp)];exact hm⟩ }
 have cZ:∀b' loc,g.owner b'=some loc->(w.setRow b lu).heap[b']?=w.heap[b']?/\g.hi b'=g.hi b'/\g.owner b'=some loc:=by
  intro b' loc il;refine⟨aeO w b b' lu ?_,rfl,il⟩;rintro rfl;rw[h5]at il;cases il
 refine{ size:=R.size,defers:=R.defers,facts:=λp hp=>(R.facts p hp).mono eO λ_ _ h=>h,slot:=?_,own:=?_,box:=?_,jU:=?_,jR:=R.jR,inj:=R.inj,base:=R.base,below:=?_,fresh:=?_,still:=R.still.trans eO,grown:=by simpa using R.grown,kept:=?_ }
 .exact λt ht hu=>(R.slot t ht hu).mono eO λ_ _ h=>h
 .exact λt ht hu=>(R.own t ht hu).aU rfl λb' il=>cZ b' _ il
 .intro k b' hk
  by_cases AN:k=i
  .subst AN
   have:b'=b:=by rw[hi]at hk;exact(ad7 hk).symm
   subst this;exact⟨fX,lu,ty,aO _ _ _,h2,afq w b' vs lu ty (0,0) hh,h4,h5,hl,λj h h'=>(hr j h h').mono eO,λj h h'=>(ho j h h').aU rfl λb' il=>cZ b' _ il,Hi⟩
  .obtain⟨c1,v1,t1,k1,k2,k3,k4,k5,k6,k7,k8,k9⟩:=R.box k b' hk
   have cD:b'≠b:=by rintro rfl;exact AN (R.inj k i b' hk hi)
   exact⟨c1,v1,t1,by rw[aT _ _ AN];exact k1,k2,by rw[aeO w b b' lu cD];exact k3,k4,k5,k6,λj h h'=>(k7 j h h').mono eO,λj h h'=>(k8 j h h').aU rfl λb' il=>cZ b' _ il,k9⟩
 .intro k cs1 hk hu
  by_cases AN:k=i
  .subst AN;rw[hi];rfl
  .rw[aT _ _ AN]at hk;exact R.jU k cs1 hk hu
 .exact R.below.trans ⟨rfl,rfl,rfl,ahB,λk hk=>aeO w b k lu zo⟩
 .intro b' il;exact R.fresh b' (by simpa using il)
 .intro b' o h;obtain⟨k1,k2,k3,k4,k5⟩:=R.kept b' o h;refine⟨k1,?_,k3,k4,k5⟩;rw[aeO w b b' lu (by rintro rfl;exact k5 i hi)];exact k2
inductive cT where
 |t (n:Nat)|c (v:AV)|f (n:Nat)|m (n:Nat) (ON:List (TypeId×Nat))
def nS:Value->Option AV
 |.bool b=>some (.bool b)
 |.int k n=>some (.int k n)
 |.string s=>some (.str s.data.toList)
 |.slice none 0 0=>some (.slice .nil [])
 |.pointer none=>some .rA
 |.map none=>some (.map [] [])
 |.nilIface=>some .pS
 |.nilFunc=>some (.val .nilFunc)
 |_=>none
def iW:List Value->Option (List AV)
 |[]=>some []
 |v::vs=>match nS v,iW vs with
  |some x,some xs=>if x.storable then some (x::xs)else none
  |_,_=>none
def ev(S:an):cT->AV
 |.t n=>S n
 |.c v=>v
 |.f n=>.func (.func n) [] []
 |.m n ON=>match S n with
  |.iface t v=>match ON.lookup t with
   |some k=>.func (.func k) [v] []
   |none=>.bp
  |_=>.bp
inductive HR where
 |any|ref|box (r:Nat)
def HR.okB:HR->Nat->Bool
 |.any,_=>true
 |.ref,_=>false
 |.box r,i=>i==r
inductive eG where
 |mv (take:Bool) (x:cT)
 |pick (c a b:cT)
 |alloc (t:TypeId) (zero:List AV)
 |box (t:TypeId) (size:Nat) (x:cT)
 |build (zero:List AV) (parts:List (Nat×Nat×cT))
 |buildSlice (t e:TypeId) (size:Nat) (parts:List cT)
 |load (hr:HR) (agg:Bool) (size:Nat) (a:cT)
 |loadT (hr:HR) (a:cT)
 |store (hr:HR) (size:Nat) (a x:cT)
 |bin (op:BinOp) (x y:cT)
 |EA (neg:Bool) (x y:cT)
 |eqs (neg:Bool) (k:Nat) (x y:cT)
 |mN (ag:Bool) (len size:Nat) (x i:cT)
 |zm (x:cT)
 |oV (xs:List cT)
 |oZ (len:Nat) (x i:cT)
 |lookup (k:Nat) (z:AV) (x i:cT)
 |not (x:cT)
 |conv (k:IntKind) (x:cT)
 |iface (t:TypeId) (x:cT)
 |Fa (fn:Fn) (first cap:List cT)
 |oX (x:cT) (lo hi:Option cT)
 |od (size:Nat) (x:cT) (lo hi:Option cT)
 |p8 (len:Nat) (x:cT)
 |fieldAddr (off:Nat) (x:cT)
 |indexAddr (size:Nat) (x i:cT)
 |oU (x i:cT)
 |extract (x:cT) (i:Nat)
 |zI (x:cT)
 |kN (x:cT)
 |isNil (neg:Bool) (x:cT)
 |empty (e:TypeId)
 |append (t e:TypeId) (size bytes:Nat) (x y:cT)
 |max (x y:cT)
 |min (x y:cT)
 |assert (t:TypeId) (zero:AV) (x:cT)
 |panic (x:cT)
 |call (f:Nat) (args:List cT)
 |gy (f:cT) (args:List cT)
 |other
structure aP where
 v:AV
 dm:Option Nat:=none
 hw:Option (Nat×List AV):=none
def aP.S(e:aP)(S:an)(dst:Option Nat):an:=
 aW (match e.dm with|some t=>au S t (S t).aI|none=>S) dst e.v
def aP.H(e:aP)(H:ao):ao:=
 match e.hw with|some (i,cs)=>au H i (some cs)|none=>H
def cy:AV:=.dY []
def dU(op:BinOp):AV->AV->Option AV
 |.int k a,.int k' b=>
  if k≠k' then none else
  match op with
  |.add=>some (.int k (k.wrap (a+b)))
  |.sub=>some (.int k (k.wrap (a-b)))
  |.mul=>some (.int k (k.wrap (a*b)))
  |.quo=>if b=0 then none else some (.int k (k.wrap (a.tdiv b)))
  |.rem=>if b=0 then none else some (.int k (a.tmod b))
  |.eql=>some (.bool (a==b))
  |.neq=>some (.bool (a !=b))
  |.lss=>some (.bool (decide (a<b)))
  |.leq=>some (.bool (decide (a<=b)))
  |.gtr=>some (.bool (decide (a>b)))
  |.geq=>some (.bool (decide (a>=b)))
  |_=>none
 |.str a,.str b=>
  match op with
  |.eql=>some (.bool (a==b))
  |.neq=>some (.bool (a !=b))
  |.add=>if a.length+b.length<1073741824 then some (.str (a++b))else none
  |_=>none
 |_,_=>none
def kC:List AV->Option (List Int)
 |[]=>some []
 |.int .i64 n::cs=>(kC cs).map (n::·)
 |_=>none
def bytesOf:List AV->Option (List UInt8)
 |[]=>some []
 |.int .u8 n::cs=>if 0<=n/\n<256 then(bytesOf cs).map (UInt8.ofNat n.toNat::·)else none
 |_=>none
def oT(key:List Int):List AV->List AV->Option (Option AV)
 |[],_=>some none
 |.agg c::ks,v::vs=>match kC c with
  |some m=>if m.length≠key.length then none else if key==m then some (some v)else oT key ks vs
  |none=>none
 |_,_=>none
def Be:AV->Bool
 |.func ..|.val .nilFunc=>true
 |_=>false
def bC(cs:List AV)(off:Nat)(vs:List AV):List AV:=cs.take off++vs++cs.drop (off+vs.length)
def bH(cells:List AV):List (Nat×Nat×AV)->Option (List AV)
 |[]=>some cells
 |(off,size,v)::rest=>if v.cells.length=size/\off+size<=cells.length/\v.storable=true then bH (bC cells off (v.aI.cells)) rest else none
def cd(agg:Bool)(size:Nat)(cs:List AV):Option AV:=
 if agg then(if size<=cs.length then some (.agg ((cs.take size).map AV.aI))else none)
 else(cs[0]?).map AV.aI
def bound(x:Option AV)(d:Nat):Option Int:=
 match x with
 |none=>some d
 |some (.int .i64 n)=>some n
 |_=>none
def AV.ct:AV->List AV
 |.agg cs=>cs.map AV.aI
 |v=>[v]
def bt:cT->Option Nat
 |.t n=>some n
 |_=>none
def aG(size:Nat)(es:List AV):Bool:=es.all λv=>v.storable&&v.cells.length==size
def aD(S:an)(H:ao):eG->Option aP
 |.mv take x=>if take then some { v:=ev S x,dm:=bt x }else some { v:=(ev S x).aI }
 |.pick c a b=>match ev S c with
  |.bool t=>some { v:=(if t then ev S a else ev S b).aI }
  |_=>none
 |.build zero parts=>(bH zero (parts.map λ(o,s,x)=>(o,s,ev S x))).map λcs=>{ v:=.agg cs }
 |.buildSlice _ e size parts=>
  if aG size (parts.map (ev S))&&parts.length*size<=16777216 then some { v:=.slice (.own e) ((parts.map (ev S)).map AV.vw) }else none
 |.load hr agg size x=>match ev S x with
  |.box i off=>if hr.okB i then match H i with
   |some cs=>(cd agg size (cs.drop off)).map λv=>{ v:=v }
   |none=>none
   else none
  |.ref cs=>(cd agg size cs).map λv=>{ v:=v }
  |_=>none
 |.loadT hr x=>match ev S x with
  |.box i off=>if hr.okB i then match H i with
   |some cs=>match cs[off]? with
    |some v=>some { v:=v,hw:=some (i,cs.set off v.aI) }
    |none=>none
   |none=>none
   else none
  |_=>none
 |.store hr size x y=>match ev S x with
  |.box i off=>if hr.okB i then match H i with
   |some cs=>if (ev S y).cells.length=size∧off+size≤cs.length∧(ev S y).storable=true then
     some { v:=cy,dm:=bt y,hw:=some (i,bC cs off (ev S y).ct) }else none
   |none=>none
   else none
  |_=>none
 |.bin op x y=>(dU op (ev S x) (ev S y)).map λv=>{ v:=v }
 |.EA neg x y=>match ev S x,ev S y with
  |.bool a,.bool b=>some { v:=.bool (if neg then a !=b else a==b) }
  |_,_=>none
 |.eqs neg k x y=>match ev S x,ev S y with
  |.agg xs,.agg ys=>match kC xs,kC ys with
   |some a,some b=>if a.length=k/\b.length=k then some { v:=.bool (if neg then a !=b else a==b) }else none
   |_,_=>none
  |_,_=>none
 |.mN ag len size x i=>match ev S x,ev S i with
  |.agg cs,.int .i64 k=>if 0<=k/\k<len then(cd ag size (cs.drop (k.toNat*size))).map λv=>{ v:=v }else none
  |_,_=>none
 |.oV xs=>if(xs.map (ev S)).all Be then some { v:=.gY (xs.map (ev S)) }else none
 |.oZ len x i=>match ev S x,ev S i with
  |.gY fs,.int .i64 k=>if 0≤k∧k < len then match fs[k.toNat]? with
    |some v=>if Be v then some { v:=v }else none
    |none=>none
   else none
  |_,_=>none
 |.zm x=>match ev S x with
  |.slice _ es=>(bytesOf es).map λl=>{ v:=.str l }
  |_=>none
 |.lookup k z x i=>match ev S x,ev S i with
  |.map ks vs,.agg c=>match kC c with
   |some key=>if key.length=k then match oT key ks vs with
     |some (some v)=>some { v:=.dY [v.aI,.bool true] }
     |some none=>some { v:=.dY [z,.bool false] }
     |none=>none
    else none
   |none=>none
  |_,_=>none
 |.not x=>match ev S x with
  |.bool b=>some { v:=.bool !b }
  |_=>none
 |.conv k x=>match ev S x with
  |.int _ n=>some { v:=.int k (k.wrap n) }
  |_=>none
 |.iface t x=>if(ev S x).storable then some { v:=.iface t (ev S x).vw }else none
 |.Fa fn first cap=>some { v:=.func fn (first.map λx=>(ev S x).aI) (cap.map λx=>(ev S x).aI) }
 |.oX x lo hi=>match ev S x with
  |.str l=>match bound (lo.map (ev S)) 0,bound (hi.map (ev S)) l.length with
   |some a,some b=>if 0<=a/\a<=b/\b<=l.length then some { v:=.str ((l.take b.toNat).drop a.toNat) }else none
   |_,_=>none
  |_=>none
 |.p8 len x=>match ev S x with
  |.ref cs=>if cs.length=len then some { v:=.slice .view cs }else none
  |_=>none
 |.od size x lo hi=>match ev S x with
  |.slice _ es=>match bound (lo.map (ev S)) 0,bound (hi.map (ev S)) es.length with
   |some a,some b=>if 0<=a/\a<=b/\b<=es.length/\aG size es=true then some { v:=.slice .view ((es.take b.toNat).drop a.toNat) }else none
   |_,_=>none
  |_=>none
 |.fieldAddr off x=>match ev S x with
  |.box i o=>some { v:=.box i (o+off) }
  |.ref cs=>some { v:=.ref (cs.drop off) }
  |_=>none
 |.indexAddr size x i=>match ev S x,ev S i with
  |.slice _ es,.int .i64 k=>if 0≤k then match es[k.toNat]? with
    |some v=>if v.cells.length=size then some { v:=.ref v.cells }else none
    |none=>none
   else none
  |_,_=>none
 |.oU x i=>match ev S x,ev S i with
  |.str l,.int .i64 k=>if 0≤k then match l[k.toNat]? with
    |some b=>some { v:=.int .u8 b.toNat }
    |none=>none
   else none
  |_,_=>none
 |.extract x i=>match ev S x with
  |.dY vs=>(vs[i]?).map λv=>{ v:=v.aI }
  |_=>none
 |.zI x=>match ev S x with
  |.str l=>some { v:=.int .i64 l.length }
  |_=>none
 |.kN x=>match ev S x with
  |.slice _ es=>some { v:=.int .i64 es.length }
  |_=>none
 |.isNil neg x=>match ev S x with
  |.slice _ es=>some { v:=if es.isEmpty then .l7 else .bool neg }
  |_=>none
 |.empty _=>some { v:=.slice .nil [] }
 |.append _ e size _ x y=>match ev S x,ev S y with
  |.slice .nil [],.slice _ ys=>if aG size ys&&ys.length<1048576 then some { v:=.slice (if ys.isEmpty then .nil else .own e) ys }else none
  |.slice (.own e') xs,.slice _ ys=>if e'=e/\(aG size ys&&aG size xs&&(xs.length+ys.length<1048576))=true then some { v:=.slice (.own e) (xs++ys),dm:=bt x }else none
  |_,_=>none
 |.max x y=>match ev S x,ev S y with
  |.int .i64 a,.int .i64 b=>some { v:=.int .i64 (max a b) }
  |_,_=>none
 |.min x y=>match ev S x,ev S y with
  |.int .i64 a,.int .i64 b=>some { v:=.int .i64 (min a b) }
  |_,_=>none
 |.assert t zero x=>match ev S x with
  |.iface t' v=>some { v:=if t'=t then .dY [v,.bool true]else .dY [zero,.bool false] }
  |.pS=>some { v:=.dY [zero,.bool false] }
  |_=>none
 |_=>none
def cT.tmps:cT->List Nat
 |.t n=>[n]
 |.m n _=>[n]
 |_=>[]
def eG.rd:eG->List Nat
 |.mv _ x|.p8 _ x|.box _ _ x|.load _ _ _ x|.loadT _ x|.not x|.zm x|.conv _ x|.iface _ x|.fieldAddr _ x|.extract x _|.zI x|.kN x|.isNil _ x|.assert _ _ x|.panic x=>x.tmps
 |.pick a b c=>a.tmps++b.tmps++c.tmps
 |.alloc ..|.other|.empty _=>[]
 |.build _ ps=>ps.flatMap λp=>p.2.2.tmps
 |.buildSlice _ _ _ ps=>ps.flatMap cT.tmps
 |.store _ _ a x|.bin _ a x|.EA _ a x|.eqs _ _ a x|.indexAddr _ a x|.oU a x|.mN _ _ _ a x|.lookup _ _ a x|.append _ _ _ _ a x|.max a x|.min a x=>a.tmps++x.tmps
 |.oV xs=>xs.flatMap cT.tmps
 |.oZ _ a x=>a.tmps++x.tmps
 |.Fa _ f c=>f.flatMap cT.tmps++c.flatMap cT.tmps
 |.oX x l h|.od _ x l h=>x.tmps++(l.toList++h.toList).flatMap cT.tmps
 |.call _ Ck=>Ck.flatMap cT.tmps
 |.gy f Ck=>f.tmps++Ck.flatMap cT.tmps
def dz(n:Nat):Operand->Option cT
 |.tmp t=>if t<n then some (.t t)else none
 |.const c=>(nS c).map .c
 |.func f=>some (.f f)
 |.global _=>none
def pR(n:Nat):List Operand->Option (List cT)
 |[]=>some []
 |x::xs=>match dz n x,pR n xs with
  |some y,some ys=>some (y::ys)
  |_,_=>none
def mM(n:Nat):Option Operand->Option (Option cT)
 |none=>some none
 |some x=>(dz n x).map some
def Lg(Pr:Nat->Nat->Prop)(al:Nat->Option Nat)(w:World){c:Value}{v:AV}(h:nS c=some v):RV Pr al w v c:=by
 unfold nS at h
 split at h<;>first|cases h|skip
 .exact .data _ _ (.bool _)
 .exact .data _ _ (.int _ _)
 .rename_i s
  have:s=⟨s.data.toList.toArray⟩:=ahB
  rw(occs:=.pos [2]) [this];exact .data _ _ (.str _)
 .exact .data _ _ (.iB _)
 .exact .data _ _ .rA
 .exact .data _ _ .ui
 .exact .data _ _ .pS
 .exact .data _ _ (.val _ rfl)
def zW{c:Value}{v:AV}(h:nS c=some v)(P:Program)(w:World)(g:Gh)(loc:Loc):eQ P w g loc v c:=by
 unfold nS at h
 split at h<;>first|cases h|skip
 all_goals first|trivial|exact⟨none,rfl⟩
def BV{c:Value}{v:AV}(h:nS c=some v):v.my:=by
 unfold nS at h
 split at h<;>first|cases h|skip
 all_goals trivial
section
variable{P:Program}{w0:World}{n:Nat}{U:Nat->Prop}{g:Gh}{S:an}{H:ao}{a:Act}{w:World}
def Rel.ev(R:Rel P w0 n U g S H a w){x:Operand}{y:cT}(h:dz n x=some y)(hu:∀t∈y.tmps,¬U t):RV g.Pr g.al w (ev S y) (a.eval x):=by
 cases x with
 |tmp t=>
  simp only[dz]at h;split at h
  .rename_i ht;cases h;exact R.slot t ht (hu t (by simp[cT.tmps]))
  .cases h
 |const c=>
  simp only[dz,adP]at h;obtain⟨v,hv,rfl⟩:=h;exact Lg _ _ _ hv
 |global k=>cases h
 |func f=>
  cases h;exact .func _ [] [] #[] #[] rfl rfl (λi h=>by simp at h) (λi h=>by simp at h)
def Rel.Ls (R:Rel P w0 n U g S H a w):∀ {xs:List Operand} {ys:List cT},pR n xs=some ys→(∀ y∈ys,∀ t∈y.tmps,¬ U t) →
  ys.length=xs.length/\∀i (h:i<ys.length)(h':i<xs.length),RV g.Pr g.al w (AL.ev S ys[i]) (a.eval xs[i])
 |[],ys,h,_=>by cases h;exact⟨rfl,λi h=>by simp at h⟩
 |x::xs,ys,h,hu=>by
  simp only[pR]at h;split at h
  .rename_i y ys' h1 h2;cases h;obtain⟨e,hh⟩:=R.Ls h2 (λy hy=>hu y (by simp[hy]));refine⟨by simp[e],λi hi du=>?_⟩
   cases i with
   |zero=>exact R.ev h1 (hu y ahB)
   |succ i=>exact hh i (by simpa using hi) (by simpa using du)
  .cases h
def dc(P:Program)(w0:World)(n:Nat)(U:Nat->Prop)(g:Gh)(S:an)(H:ao)(a:Act)(w:World)(o:Oper)(e:aP):Prop:=
 ∃c w' g',((execOp a.eval o).run P w=.ok (.value c) w'\/((execOp a.eval o).run P w=.ok .skip w'/\c=undef))/\
  g'.base=g.base/\g'.old=g.old/\Rel P w0 n U g' (e.S S o.dst) (e.H H) (a.put o.dst c) w'
def dc.val (R:Rel P w0 n U g S H a w) {o:Oper} {v:AV} {c:Value} (hd:∀ t,o.dst=some t→t < n) (hr:(execOp a.eval o).run P w = .ok (.value c) w)
  (hv:RV g.Pr g.al w v c) (ho:∀loc,eQ P w g loc v c):dc P w0 n U g S H a w o { v:=v }:=
 ⟨c,w,g,.inl hr,rfl,rfl,R.aW o.dst v c hd hv λ_ _=>ho _⟩
def h_(v:AV)(c:Value)(loc:Loc):eQ P w g loc v.aI c:=eQ.aI
def JF (R:Rel P w0 n U g S H a w) {o:Oper} {x:Operand} {y:cT} {tk:Bool} {e:aP} (hd:∀ t,o.dst=some t→t < n∧¬ U t) (hx:dz n x=some y) (hu:∀ t∈y.tmps,¬ U t)
  (hr:(execOp a.eval o).run P w=.ok (.value (a.eval x)) w) (eR:∀t,o.dst=some t->t∉y.tmps) (he:aD S H (.mv tk y)=some e):dc P w0 n U g S H a w o e:=by
 have hv:=R.ev hx hu
 cases tk with
 |false=>
  simp only[aD,adM,ad1,ad8]at he;subst he
  exact dc.val R (λt h=>(hd t h).1) hr hv.aI λloc=>h_ _ _ _
 |true=>
  simp only[aD,aed,ad8]at he;subst he
  cases x with
  |const c=>
   simp only[dz,adP]at hx;obtain⟨v,hc,rfl⟩:=hx
   exact dc.val R (λt h=>(hd t h).1) hr hv λloc=>zW hc _ _ _ _
  |global k=>cases hx
  |func f=>cases hx;exact dc.val R (λt h=>(hd t h).1) hr hv λloc=>trivial
  |tmp t=>
   simp only[dz]at hx;split at hx
   case isFalse=>cases hx
   rename_i ht;cases hx;have Rp:=hu t (by simp[cT.tmps]);have ho:=R.own t ht Rp
   have R1:Rel P w0 n U g (au S t (S t).aI) H a w:=R.weaken _ λk hk huk c pP ho=>by
    by_cases h:k=t
    .subst h;rw[aO];exact⟨pP.aI,h_ _ _ _⟩
    .rw[aT _ _ h];exact⟨pP,ho⟩
   cases iD:o.dst with
   |none=>
    refine⟨_,w,g,.inl hr,rfl,rfl,?_⟩;simpa[aP.S,aP.H,aW,bt,iD,Act.put]using R1
   |some d=>
    have hdt:d≠t:=λh=>eR d iD (by simp[cT.tmps,h])
    have R2:=R1.Hm (.slot t) (some (.slot d)) (λk hk _ _=>by cases hk;rw[aO];exact AV.qD _) (λi j cs h=>by cases h);have R3:=R2.put d (S t) (a.tmps.getD t undef) (hd d iD).1 (R.slot t ht Rp) ?own
    case own=>
     show eQ P w _ (.slot d) (S t) (a.tmps.getD t undef);generalize S t=v at ho;generalize a.tmps.getD t undef=c at ho
     cases v<;>try trivial
     rename_i oo es
     cases oo with
     |view=>trivial
     |nil=>exact ho
     |own e=>
      obtain⟨i,xs,b,h1,h2,h3,h4,h5⟩:=ho;refine⟨i,xs,b,h1,h2,h3,?_,h5⟩;show(if g.owner b=some (.slot t)then some (.slot d)else g.owner b)=_;rw[if_pos h4]
    rw[<-iD]at R3;exact⟨_,w,{ g with owner:=λb=>if g.owner b=some (.slot t)then some (.slot d)else g.owner b },.inl hr,rfl,rfl,by rw[iD]at R3⊢;exact R3⟩
def eh:TypeDesc->Bool
 |.struct _|.array _ _=>true
 |_=>false
def tE {Pr:Nat→Nat→Prop} {al:Nat→Option Nat} {ty:TypeId} {i:TypeInfo} {pQ:TypeDesc} (hi:P.info? ty=some i) (hu:P.underlying ty=some pQ) {b off:Nat} {cs:List AV} {vs:Nat→Value} {v:AV}
  (hc:∀k,k<cs.length->w.cell? ⟨b,off+k,none⟩=some (vs k)) (h1:∀k (h:k<cs.length),(cs[k]).one=true) (hr:∀k (h:k<cs.length),RD Pr w cs[k] (vs k))
  (he:cd (eh pQ) i.size cs=some v):
  ∃c,(loadVar ty ⟨b,off,none⟩).run P w=.ok c w/\RD Pr w v c/\v.aI=v:=by
 have kR:(isAgg ty).run P w=.ok (eh pQ) w:=by
  unfold isAgg;rw[adK,adW hu w]
  cases pQ<;>simp[eh]
 generalize eh pQ=q at he kR
 cases q with
 |true=>
  simp only[cd,aed]at he;split at he
  case isFalse=>cases he
  rename_i hl;cases he
  have N5:(loadCells ⟨b,off,none⟩ i.size).run P w=.ok ((List.range i.size).map vs).toArray w:=
   run_loadCells (P:=P) w _ _ vs λj hj=>by rw[aeA];exact hc j zo
  refine⟨.agg ((List.range i.size).map vs).toArray,by simp[loadVar,adK,kR,sizeOf,typeInfo,hi,N5],?_,rfl⟩
  refine .agg _ _ (by simp;omega) (λk hk=>?_) λk hk cz=>?_
  .simp only[adH,adS]at hk;simp only[adR,afY];rw[AV.pc];exact h1 k zo
  .simp only[adH,adS]at hk;have:=(hr k zo).aI;simpa using this
 |false=>
  simp only[cd,adM,ad1,adP]at he;obtain⟨v0,WG,rfl⟩:=he;obtain⟨h0,rfl⟩:=ad0.1 WG;have:=hc 0 h0;simp only[Nat.add_zero]at this;exact⟨vs 0,by simp[loadVar,adK,kR,this],(hr 0 h0).aI,AV.idem _⟩
set_option linter.unusedVariables false in
def C2 (R:Rel P w0 n U g S H a w) {o:Oper} {hr:HR} {ty:TypeId} {i:TypeInfo} {pQ:TypeDesc} {x:Operand} {y:cT} {e:aP} (ho:o.op = .load ty x) (hd:∀ t,o.dst=some t→t < n∧¬ U t)
  (hi:P.info? ty=some i) (fB:P.underlying ty=some pQ) (hx:dz n x=some y) (hu:∀t∈y.tmps,¬U t)
  (he:aD S H (.load hr (eh pQ) i.size y)=some e):dc P w0 n U g S H a w o e:=by
 have hv:=R.ev hx hu
 have fin:∀{v:AV}{b off:Nat},a.eval x=.pointer (some ⟨b,off,none⟩)->(∃c,(loadVar ty ⟨b,off,none⟩).run P w=.ok c w/\RD g.Pr w v c/\v.aI=v)->dc P w0 n U g S H a w o { v:=v }:=by
  rintro v b off hx ⟨c,h1,h2,h3⟩
  refine dc.val R (λt h=>(hd t h).1) (c:=c) ?_ (.data _ _ h2) λloc=>by rw[<-h3];exact h_ _ _ _
  unfold execOp;simp[ho,hx,Instr.loadAt,Instr.sureAddr,h1]
 simp only[aD]at he;generalize sB:AL.ev S y=q at he hv;generalize lE:a.eval x=c at hv fin
 cases hv with
 |box j off b jC=>
  simp only at he;split at he
  case isFalse=>cases he
  obtain⟨cs,vs,Cj,k1,k2,k3,k4,k5,k6,k7,k8,k9⟩:=R.box j b jC;simp only[k1,adP]at he;obtain⟨v,hv,rfl⟩:=he;refine fin rfl (tE (Pr:=g.Pr) (al:=g.al) hi fB (vs:=λk=>vs.getD (off+k) undef) (λk hk=>?_) (λk hk=>?_) (λk hk=>?_) hv)
  .simp only[ael]at hk
   have:off+k<vs.size:=zo
   simp[World.cell?,k3,this]
  .simp only[ael]at hk;simp only[ae3];exact k9 (off+k) zo
  .simp only[ael]at hk;simp only[ae3];have hh:=k7 (off+k) zo zo
   have:off+k<vs.size:=zo
   simpa[this]using hh
 |data v c h=>
  cases h<;>simp only at he<;>try cases he
  rename_i cs b off vs h1 hc hr;simp only[adP]at he;obtain⟨v,hv,rfl⟩:=he;exact fin rfl (tE (Pr:=g.Pr) (al:=g.al) hi fB (vs:=vs) (λk hk=>(hc k hk).2) h1 hr hv)
 |func=>cases he
 |gY=>cases he
 |bp c=>cases he
end
section
variable{P:Program}{w0:World}{n:Nat}{U:Nat->Prop}{g:Gh}{S:an}{H:ao}{a:Act}{w:World}
def NM (R:Rel P w0 n U g S H a w) {o:Oper} {x x1 x2:Operand} {y y1 y2:cT} {e:aP} (ho:o.op = .pick x x1 x2) (hd:∀ t,o.dst=some t→t < n∧¬ U t)
  (hx:dz n x=some y) (oy:dz n x1=some y1) (mJ:dz n x2=some y2) (hu:∀t∈y.tmps,¬U t) (pW:∀t∈y1.tmps,¬U t) (qe:∀t∈y2.tmps,¬U t)
  (he:aD S H (.pick y y1 y2)=some e):dc P w0 n U g S H a w o e:=by
 have hv:=R.ev hx hu;have fD:=R.ev oy pW;have fh:=R.ev mJ qe;simp only[aD]at he;generalize sB:AL.ev S y=q at he hv;generalize lE:a.eval x=c at hv
 cases hv<;>(try cases he;done)
 rename_i h
 cases h<;>simp only at he<;>try cases he
 rename_i b
 refine dc.val R (λt h=>(hd t h).1) (c:=if b then a.eval x1 else a.eval x2) ?_ ?_ λloc=>h_ _ _ _
 .simp[execOp,ho,lE,asBool]
 .cases b<;>simp only[adM,aed,ad1]
  .exact fh.aI
  .exact fD.aI
def Re (R:Rel P w0 n U g S H a w) {o:Oper} {t:TypeId} {x:Operand} {y:cT} {e:aP} (ho:o.op = .unOp .not t x) (hd:∀ t,o.dst=some t→t < n∧¬ U t)
  (hx:dz n x=some y) (hu:∀t∈y.tmps,¬U t) (he:aD S H (.not y)=some e):dc P w0 n U g S H a w o e:=by
 have hv:=R.ev hx hu;simp only[aD]at he;generalize sB:AL.ev S y=q at he hv;generalize lE:a.eval x=c at hv
 cases hv<;>(try cases he;done)
 rename_i h
 cases h<;>simp only at he<;>try cases he
 rename_i b
 refine dc.val R (λt h=>(hd t h).1) (c:=.bool !b) ?_ (.data _ _ (.bool _)) λloc=>trivial
 simp[execOp,ho,lE,Op.unary]
def Ox:Value->Bool
 |.nilIface|.agg _=>false
 |_=>true
def hZ (op:BinOp) (t:TypeId) (x y:Operand) (c d:Value) (h:Ox c=true) :
  (eqGuard op t x y c d).run P w=.ok () w:=by
 unfold eqGuard
 cases op<;>(try rfl)<;>cases c<;>first|rfl|cases h
def GO (R:Rel P w0 n U g S H a w) {o:Oper} {op:BinOp} {t t':TypeId} {x1 x2:Operand} {y1 y2:cT} {e:aP} (ho:o.op = .binOp op t x1 x2 t') (hd:∀ t,o.dst=some t→t < n∧¬ U t)
  (oy:dz n x1=some y1) (mJ:dz n x2=some y2) (pW:∀t∈y1.tmps,¬U t) (qe:∀t∈y2.tmps,¬U t)
  (he:aD S H (.bin op y1 y2)=some e):dc P w0 n U g S H a w o e:=by
 have fD:=R.ev oy pW;have fh:=R.ev mJ qe;simp only[aD,adP]at he;obtain⟨v,hb,rfl⟩:=he;generalize AL.ev S y1=q1 at hb fD;generalize AL.ev S y2=q2 at hb fh
 have fin:∀c,(eqGuard op t x1 x2 (a.eval x1) (a.eval x2)).run P w=.ok () w->(binOp op t (a.eval x1) (a.eval x2)).run P w=.ok c w->RD g.Pr w v c->(∀loc,eQ P w g loc v c)->dc P w0 n U g S H a w o { v:=v }:=by
  intro c h0 h1 h2 h3;refine dc.val R (λt h=>(hd t h).1) (c:=c) ?_ (.data _ _ h2) h3;simp[execOp,ho,h0,h1]
 generalize a.eval x1=c1 at fD fin;generalize a.eval x2=c2 at fh fin;unfold dU at hb;split at hb
 .rename_i k p k' q;cases fD;rename_i fD;cases fD;cases fh;rename_i fh;cases fh;split at hb
  .cases hb
  .rename_i hk
   have hk:k=k':=by simpa using hk
   subst hk;have hg:=hZ (P:=P) (w:=w) op t x1 x2 (.int k p) (.int k q) rfl
   split at hb<;>(try cases hb;done)<;>(try (split at hb;· cases hb))<;>cases hb
   case h_4.isFalse.refl h=>exact fin _ hg (by simp[binOp,Op.intDiv,h]) (.int _ _) λ_=>trivial
   case h_5.isFalse.refl h=>exact fin _ hg (by simp[binOp,Op.intDiv,h]) (.int _ _) λ_=>trivial
   case h_1.refl=>exact fin (.int k (k.wrap (p+q))) hg (by simp[binOp,Op.intArith]) (.int _ _) λ_=>trivial
   case h_2.refl=>exact fin (.int k (k.wrap (p-q))) hg (by simp[binOp,Op.intArith]) (.int _ _) λ_=>trivial
   case h_3.refl=>exact fin (.int k (k.wrap (p*q))) hg (by simp[binOp,Op.intArith]) (.int _ _) λ_=>trivial
   case h_6.refl=>exact fin (.bool (p==q)) hg (by simp[binOp,Op.intCmp]) (.bool _) λ_=>trivial
   case h_7.refl=>exact fin (.bool (p !=q)) hg (by simp[binOp,Op.intCmp]) (.bool _) λ_=>trivial
   all_goals exact fin (.bool _) hg (by simp[binOp,Op.intCmp]) (.bool _) λ_=>trivial
 .rename_i p q;cases fD;rename_i fD;cases fD;cases fh;rename_i fh;cases fh;have hg:=hZ (P:=P) (w:=w) op t x1 x2 (.string ⟨p.toArray⟩) (.string ⟨q.toArray⟩) rfl
  split at hb<;>(try cases hb;done)
  .cases hb;exact fin (.bool (p==q)) hg (by simp[binOp,Op.stringOp]) (.bool _) λ_=>trivial
  .cases hb;exact fin (.bool (p !=q)) hg (by simp[binOp,Op.stringOp,bne]) (.bool _) λ_=>trivial
  .split at hb
   case isFalse=>cases hb
   rename_i hl;cases hb
   refine fin (.string ⟨(p++q).toArray⟩) hg ?_ (.str _) λ_=>trivial
   rw[binOp_string_add,run_string_add_sum w _ _ (by show p.length+q.length<=_;omega),ByteArray.mk_append_mk]
 .cases hb
def GM (R:Rel P w0 n U g S H a w) {o:Oper} {neg:Bool} {t t':TypeId} {x1 x2:Operand} {y1 y2:cT} {e:aP} (ho:o.op = .binOp (if neg then .neq else .eql) t x1 x2 t') (hd:∀ t,o.dst=some t→t < n∧¬ U t)
  (ht:P.underlying t=some .bool) (oy:dz n x1=some y1) (mJ:dz n x2=some y2) (pW:∀t∈y1.tmps,¬U t) (qe:∀t∈y2.tmps,¬U t)
  (he:aD S H (.EA neg y1 y2)=some e):dc P w0 n U g S H a w o e:=by
 have fD:=R.ev oy pW;have fh:=R.ev mJ qe;simp only[aD]at he;generalize AL.ev S y1=q1 at he fD;generalize AL.ev S y2=q2 at he fh;generalize kc:a.eval x1=c1 at fD;generalize jS:a.eval x2=c2 at fh;split at he
 case h_2=>cases he
 rename_i p q;cases fD;rename_i fD;cases fD;cases fh;rename_i fh;cases fh;cases he;have hg:=hZ (P:=P) (w:=w) (if neg then .neq else .eql) t x1 x2 (.bool p) (.bool q) rfl;have hE:(Op.equal t (.bool p) (.bool q)).run P w=.ok (p==q) w:=run_equalIn_bool' w _ t p q ht
 refine dc.val R (λt h=>(hd t h).1) (c:=.bool (if neg then p !=q else p==q)) ?_ (.data _ _ (.bool _)) λ_=>trivial
 cases neg
 .simp only[adM,ad1]at ho hg⊢;simp[execOp,ho,kc,jS,hg,binOp,hE]
 .simp only[aed]at ho hg⊢;simp[execOp,ho,kc,jS,hg,binOp,hE,bne]
def Nc (R:Rel P w0 n U g S H a w) {o:Oper} {s d:TypeId} {ds:TypeDesc} {k:IntKind} {x:Operand} {y:cT} {e:aP} (ho:o.op = .convert s d x) (hd:∀ t,o.dst=some t→t < n∧¬ U t)
  (hs:P.underlying s=some ds) (hk:P.underlying d=some (.int k)) (hx:dz n x=some y) (hu:∀t∈y.tmps,¬U t) (he:aD S H (.conv k y)=some e):dc P w0 n U g S H a w o e:=by
 have hv:=R.ev hx hu;simp only[aD]at he;generalize sB:AL.ev S y=q at he hv;generalize lE:a.eval x=c at hv
 cases hv<;>(try cases he;done)
 rename_i h
 cases h<;>simp only at he<;>try cases he
 rename_i k' m
 refine dc.val R (λt h=>(hd t h).1) (c:=.int k (k.wrap m)) ?_ (.data _ _ (.int _ _)) λloc=>trivial
 simp[execOp,ho,lE,convert,adW hs,adW hk,Conv.intToInt]
def KQ (R:Rel P w0 n U g S H a w) {o:Oper} {t:TypeId} {dt:TypeDesc} {x:Operand} {y:cT} {e:aP} (ho:o.op = .makeInterface t x) (hd:∀ t,o.dst=some t→t < n∧¬ U t)
  (ht:P.underlying t=some dt) (Et:∀ms,dt≠.interface ms) (hx:dz n x=some y) (hu:∀t∈y.tmps,¬U t) (he:aD S H (.iface t y)=some e):dc P w0 n U g S H a w o e:=by
 have hv:=R.ev hx hu;simp only[aD]at he;split at he
 case isFalse=>cases he
 rename_i eJ;cases he
 refine dc.val R (λt h=>(hd t h).1) (c:=.iface t (a.eval x)) ?_ (.data _ _ (.iface _ _ _ (hv.dX (AV.kg eJ)).vw)) λloc=>trivial
 simp only[execOp,ho,Instr.makeInterface,adK,adW ht,Result.andThen_ok]
 cases dt<;>first|rfl|exact absurd rfl (Et _)
def Ca (R:Rel P w0 n U g S H a w) {o:Oper} {s:TypeId} {fs:Array Field} {f:Field} {i:TypeInfo} {j:Nat} {x:Operand} {y:cT} {e:aP} (ho:o.op = .fieldAddr s x j) (hd:∀ t,o.dst=some t→t < n∧¬ U t)
  (hs:P.underlying s=some (.struct fs)) (hf:fs[j]?=some f) (hi:P.info? f.type=some i) (hz:i.size≠0) (hx:dz n x=some y) (hu:∀t∈y.tmps,¬U t)
  (he:aD S H (.fieldAddr f.offset y)=some e):dc P w0 n U g S H a w o e:=by
 have hv:=R.ev hx hu;simp only[aD]at he;generalize sB:AL.ev S y=q at he hv;generalize lE:a.eval x=c at hv
 have run:∀b off,c=.pointer (some ⟨b,off,none⟩)->(execOp a.eval o).run P w=.ok (.value (.pointer (some ⟨b,off+f.offset,none⟩))) w:=by
  rintro b off rfl;simp[execOp,ho,lE,Instr.fieldAt,adW hs,hf,Instr.sureAddr,fieldPlace,sizeOf,typeInfo,hi,hz,aeA]
 cases hv with
 |box k off b jC=>
  cases he
  exact dc.val R (λt h=>(hd t h).1) (run _ _ rfl) (.box _ _ _ jC) λ_=>trivial
 |data v c h=>
  cases h<;>simp only at he<;>try cases he
  rename_i cs b off vs h1 hc hr
  refine dc.val R (λt h=>(hd t h).1) (run _ _ rfl) (.data _ _ (.ref _ _ _ (λk=>vs (f.offset+k)) (λk hk=>?_) (λk hk=>?_) λk hk=>?_)) λ_=>trivial
  .simp only[ael]at hk;simp only[ae3];exact h1 _ zo
  .simp only[ael]at hk;have:=hc (f.offset+k) zo;rwa [show off+f.offset+k=off+(f.offset+k) by omega]
  .simp only[ael]at hk;simp only[ae3];exact hr _ zo
 |func=>cases he
 |gY=>cases he
 |bp c=>cases he
def Ce (R:Rel P w0 n U g S H a w) {o:Oper} {s el:TypeId} {i:TypeInfo} {x1 x2:Operand} {y1 y2:cT} {e:aP} (ho:o.op = .indexAddr s x1 x2) (hd:∀ t,o.dst=some t→t < n∧¬ U t)
  (hs:P.underlying s=some (.slice el)) (hi:P.info? el=some i) (oy:dz n x1=some y1) (mJ:dz n x2=some y2) (pW:∀t∈y1.tmps,¬U t) (qe:∀t∈y2.tmps,¬U t)
  (he:aD S H (.indexAddr i.size y1 y2)=some e):dc P w0 n U g S H a w o e:=by
 have fD:=R.ev oy pW;have fh:=R.ev mJ qe;simp only[aD]at he;generalize AL.ev S y1=q1 at he fD;generalize AL.ev S y2=q2 at he fh;generalize kc:a.eval x1=c1 at fD;generalize jS:a.eval x2=c2 at fh;split at he
 case h_2=>cases he
 rename_i oo es k;cases fh;rename_i fh;cases fh;split at he
 case isFalse=>cases he
 rename_i hk;split at he
 case h_2=>cases he
 rename_i v hv;split at he
 case isFalse=>cases he
 rename_i bl;cases he;obtain⟨aq,rfl⟩:=ad0.1 hv;cases fD;rename_i fD
 cases fD with
 |iB=>simp at aq
 |jz=>simp at aq
 |slice _ _ b off cap size cs fl uN lC h1 hc hr=>
  have YV:size=i.size:=by rw[<-lC _ aq];exact bl
  subst YV
  have gE:k<(es.length:Int):=zo
  have mu:∀q,q<(es[k.toNat]).cells.length->k.toNat*i.size+q<es.length*i.size:=by
   intro q hq;rw[bl]at hq
   calc k.toNat*i.size+q<k.toNat*i.size+i.size:=by omega
    _=(k.toNat+1)*i.size:=by rw[ag9]
    _<=es.length*i.size:=ae0 _ zo
  refine dc.val R (λt h=>(hd t h).1) (c:=.pointer (some ⟨b,off+k.toNat*i.size,none⟩)) ?_ (.data _ _ (.ref _ _ _ (λq=>cs (k.toNat*i.size+q)) (λq hq=>h1 _ aq q hq) (λq hq=>?_) λq hq=>hr _ aq q hq)) λ_=>trivial
  .simp[execOp,ho,kc,jS,Instr.indexAt,asIntOf,adW hs,hk,gE,sizeOf,typeInfo,hi,aeA]
  .have:=hc (k.toNat*i.size+q) (mu q hq);rwa [<-afQ]at this
def Ie (R:Rel P w0 n U g S H a w) {o:Oper} {s:TypeId} {x1 x2:Operand} {y1 y2:cT} {e:aP} (ho:o.op = .index s x1 x2) (hd:∀ t,o.dst=some t→t < n∧¬ U t)
  (hs:P.underlying s=some .string) (oy:dz n x1=some y1) (mJ:dz n x2=some y2) (pW:∀t∈y1.tmps,¬U t) (qe:∀t∈y2.tmps,¬U t)
  (he:aD S H (.oU y1 y2)=some e):dc P w0 n U g S H a w o e:=by
 have fD:=R.ev oy pW;have fh:=R.ev mJ qe;simp only[aD]at he;generalize AL.ev S y1=q1 at he fD;generalize AL.ev S y2=q2 at he fh;generalize kc:a.eval x1=c1 at fD;generalize jS:a.eval x2=c2 at fh;split at he
 case h_2=>cases he
 rename_i l k;cases fh;rename_i fh;cases fh;split at he
 case isFalse=>cases he
 rename_i hk;split at he
 case h_2=>cases he
 rename_i v hv;cases he;cases fD;rename_i fD;cases fD
 have hb:(⟨l.toArray⟩:ByteArray)[k.toNat]?=some v:=by
  obtain⟨aq,rfl⟩:=ad0.1 hv;rw[ByteArray.getElem?_lt' _ _ (by simpa[ByteArray.size]using aq)]
  rfl
 refine dc.val R (λt h=>(hd t h).1) (c:=.int .u8 v.toNat) ?_ (.data _ _ (.int _ _)) λ_=>trivial
 simp[execOp,ho,kc,jS,Instr.index,asIntOf,adW hs,hk,hb]
def FF (R:Rel P w0 n U g S H a w) {o:Oper} {j:Nat} {x:Operand} {y:cT} {e:aP} (ho:o.op = .extract x j) (hd:∀ t,o.dst=some t→t < n∧¬ U t)
  (hx:dz n x=some y) (hu:∀t∈y.tmps,¬U t) (he:aD S H (.extract y j)=some e):dc P w0 n U g S H a w o e:=by
 have hv:=R.ev hx hu;simp only[aD]at he;generalize sB:AL.ev S y=q at he hv;generalize lE:a.eval x=c at hv
 cases hv<;>(try cases he;done)
 rename_i h
 cases h<;>simp only at he<;>try cases he
 rename_i cs vs hl hr;simp only[adP]at he;obtain⟨v,hv,rfl⟩:=he;obtain⟨aq,rfl⟩:=ad0.1 hv
 have nc:j<vs.size:=zo
 refine dc.val R (λt h=>(hd t h).1) (c:=vs[j]) ?_ (.data _ _ (hr j aq nc).aI) λloc=>h_ _ _ _
 simp[execOp,ho,lE,Instr.extract,nc]
def FP (R:Rel P w0 n U g S H a w) {o:Oper} {cl:Call} {s:TypeId} {ds:TypeDesc} {x:Operand} {y:cT} {e:aP} (ho:o.op = .call cl) (kH:cl.callee = .builtin .len) (Cd:cl.args = #[x]) (DB:cl.argTypes = #[s])
  (hd:∀t,o.dst=some t->t<n/\¬U t) (hs:P.underlying s=some ds) (hx:dz n x=some y) (hu:∀t∈y.tmps,¬U t)
  (he:(ds=.string/\aD S H (.zI y)=some e)\/((∃el,ds=.slice el)/\aD S H (.kN y)=some e)):dc P w0 n U g S H a w o e:=by
 have hv:=R.ev hx hu;simp only[aD]at he;generalize sB:AL.ev S y=q at he hv;generalize lE:a.eval x=c at hv
 have fin:∀(m:Nat),(Builtin.len_ #[s] o.type #[c]).run P w=.ok (.int .i64 m) w->dc P w0 n U g S H a w o { v:=.int .i64 m }:=by
  intro m hm
  refine dc.val R (λt h=>(hd t h).1) (c:=.int .i64 m) ?_ (.data _ _ (.int _ _)) λ_=>trivial
  unfold execOp;simp[ho,kH,Cd,DB,resolve,invoke,builtin,lE,hm]
 rcases he with⟨rfl,he⟩|⟨⟨el,rfl⟩,he⟩
 .cases hv<;>(try cases he;done)
  rename_i h
  cases h<;>simp only at he<;>try cases he
  exact fin _ (by simp[Builtin.len_,adW hs,goInt];rfl)
 .cases hv<;>(try cases he;done)
  rename_i h
  cases h<;>simp only at he<;>try cases he
  .exact fin 0 (by simp[Builtin.len_,adW hs,goInt])
  .exact fin 0 (by simp[Builtin.len_,adW hs,goInt])
  .exact fin _ (by simp[Builtin.len_,adW hs,goInt])
def zL (R:Rel P w0 n U g S H a w) {o:Oper} {cl:Call} {x1 x2:Operand} {y1 y2:cT} {e:aP} (ho:o.op = .call cl) (Cd:cl.args = #[x1,x2])
  (hd:∀t,o.dst=some t->t<n/\¬U t) (oy:dz n x1=some y1) (mJ:dz n x2=some y2) (pW:∀t∈y1.tmps,¬U t) (qe:∀t∈y2.tmps,¬U t)
  (he:(cl.callee=.builtin .max/\aD S H (.max y1 y2)=some e)\/(cl.callee=.builtin .min/\aD S H (.min y1 y2)=some e)):dc P w0 n U g S H a w o e:=by
 have fD:=R.ev oy pW;have fh:=R.ev mJ qe;simp only[aD]at he;generalize AL.ev S y1=q1 at he fD;generalize AL.ev S y2=q2 at he fh;generalize kc:a.eval x1=c1 at fD;generalize jS:a.eval x2=c2 at fh
 rcases he with⟨kH,he⟩|⟨kH,he⟩
 all_goals
  split at he
  case h_2=>cases he
  rename_i p q;cases fD;rename_i fD;cases fD;cases fh;rename_i fh;cases fh;cases he
 .refine dc.val R (λt h=>(hd t h).1) (c:=.int .i64 (max p q)) ?_ (.data _ _ (.int _ _)) λ_=>trivial
  have:(if q>p then q else p)=max p q:=by split<;>omega
  simp[execOp,ho,kH,Cd,resolve,invoke,builtin,kc,jS,Builtin.max_,Builtin.max2,this]
 .refine dc.val R (λt h=>(hd t h).1) (c:=.int .i64 (min p q)) ?_ (.data _ _ (.int _ _)) λ_=>trivial
  have:(if q<p then q else p)=min p q:=by split<;>omega
  simp[execOp,ho,kH,Cd,resolve,invoke,builtin,kc,jS,Builtin.min_,Builtin.min2,this]
end
def pE(Pr:Nat->Nat->Prop)(w:World)(cs:List AV)(vs:Array Value):Prop:=
 cs.length=vs.size/\(∀i (h:i<cs.length)(h':i<vs.size),RD Pr w cs[i] vs[i])/\∀i (h:i<cs.length),(cs[i]).one=true
def RD.Wh{Pr:Nat->Nat->Prop}{w:World}{v:AV}{c:Value}(h:RD Pr w v c)(hs:v.storable=true):pE Pr w v.cells c.cells:=
 ⟨h.cells.1,h.cells.2,h.cells_one hs⟩
def AV.xw{v:AV}:v.aI.storable=v.storable:=by
 cases v<;>try rfl
 rename_i o es;cases o<;>rfl
def AV.yF{v:AV}:v.aI.cells.length=v.cells.length:=by
 cases v<;>try rfl
 rename_i o es;cases o<;>rfl
def AV.II{v:AV}:v.vw.storable=v.storable:=by cases v<;>rfl
def AV.Ab{v:AV}:v.vw.cells.length=v.cells.length:=by cases v<;>simp[AV.vw,AV.cI,AV.cells]
def iG (Pr:Nat→Nat→Prop) (w:World):∀ {vs:List Value} {cs:List AV},iW vs=some cs→pE Pr w cs vs.toArray∧(∀ v∈cs,v.my) ∧
  ∀(P:Program)(g:Gh)(f:Nat->Loc) i (h:i<cs.length)(h':i<vs.length),eQ P w g (f i) cs[i] vs[i]
 |[],cs,h=>by cases h;exact⟨⟨rfl,λi h=>by simp at h,λi h=>by simp at h⟩,λv h=>by simp at h,λP g f i h=>by simp at h⟩
 |v::vs,cs,h=>by
  simp only[iW]at h;split at h
  .rename_i x xs hx qU;split at h
   case isFalse=>cases h
   rename_i eJ;cases h;obtain⟨⟨h1,h2,h3⟩,h4,h5⟩:=iG Pr w qU;have hd:RD Pr w x v:=(Lg Pr (λ_=>none) w hx).dX (AV.kg eJ);refine⟨⟨by simp at h1⊢;exact h1,λi hi du=>?_,λi hi=>?_⟩,λy hy=>?_,λP g f i hi du=>?_⟩
   .cases i with
    |zero=>exact hd
    |succ i=>exact h2 i (by simpa using hi) (by simpa using du)
   .cases i with
    |zero=>
     show x.one=true;unfold nS at hx
     split at hx<;>first|cases hx|skip
     all_goals rfl
    |succ i=>exact h3 i (by simpa using hi)
   .simp at hy;rcases hy with rfl|hy
    .exact BV hx
    .exact h4 y hy
   .cases i with
    |zero=>exact zW hx _ _ _ _
    |succ i=>exact h5 P g (λi=>f (i+1)) i (by simpa using hi) (by simpa using du)
  .cases h
def ER{cs vs:List AV}{off:Nat}(h:off+vs.length<=cs.length):(bC cs off vs).length=cs.length:=by
 simp[bC];omega
def tt {cs vs:List AV} {off:Nat} (h:off+vs.length≤cs.length) (i:Nat) :
  (bC cs off vs)[i]?=if off<=i/\i<off+vs.length then vs[i-off]? else cs[i]?:=by
 unfold bC
 by_cases h1:i<off
 .rw[if_neg zo,aek,aeH (by simp;omega)];simp[h1]
 .by_cases h2:i<off+vs.length
  .rw[if_pos ⟨zo,h2⟩,aeH (by simp;omega),aeS (by simp;omega)]
   congr 1
   simp;omega
  .rw[if_neg zo,aeS (by simp;omega)];simp only[afR]
   congr 1
   simp;omega
def pE.get{Pr:Nat->Nat->Prop}{w:World}{cs:List AV}{vs:Array Value}(h:pE Pr w cs vs){i:Nat}{v:AV}{c:Value}(hv:cs[i]?=some v)(hc:vs[i]?=some c):RD Pr w v c:=by
 obtain⟨h1,rfl⟩:=ad0.1 hv;obtain⟨h2,rfl⟩:=adD.1 hc;exact h.2.1 i h1 h2
def pE.one{Pr:Nat->Nat->Prop}{w:World}{cs:List AV}{vs:Array Value}(h:pE Pr w cs vs){i:Nat}{v:AV}(hv:cs[i]?=some v):v.one=true:=by
 obtain⟨h1,rfl⟩:=ad0.1 hv;exact h.2.2 i h1
def pE.mk'{Pr:Nat->Nat->Prop}{w:World}{cs:List AV}{vs:Array Value}(h:cs.length=vs.size)(hr:∀(i:Nat)(v:AV)(c:Value),cs[i]?=some v->vs[i]?=some c->RD Pr w v c)(h1:∀(i:Nat)(v:AV),cs[i]?=some v->v.one=true):pE Pr w cs vs:=
 ⟨h,λi hi du=>hr i _ _ (adB hi) (ad4 du),λi hi=>h1 i _ (adB hi)⟩
def pE.bC {Pr:Nat→Nat→Prop} {w:World} {cs vs:List AV} {xs ys:Array Value} {off:Nat} (h:pE Pr w cs xs) (hv:pE Pr w vs ys) (hl:off+vs.length≤cs.length)
  (zs:Array Value) (hz:zs.size=xs.size) (im:∀k,zs[k]?=if off<=k/\k<off+ys.size then ys[k-off]? else xs[k]?):pE Pr w (bC cs off vs) zs:=by
 have fD:=hv.1;have h1:=h.1;refine pE.mk' (by rw[ER hl,hz];exact h.1) (λi v c e1 e2=>?_) (λi v e1=>?_)
 .rw[tt hl]at e1;rw[im]at e2;rw[<-fD]at e2;split at e1
  .rename_i hh;rw[if_pos hh]at e2;exact hv.get e1 e2
  .rename_i hh;rw[if_neg hh]at e2;exact h.get e1 e2
 .rw[tt hl]at e1;split at e1
  .exact hv.one e1
  .exact h.one e1
def s_(n:Nat)(place:Nat->Option (Nat×Nat)):List (Nat×Operand)->Option (List (Nat×Nat×cT))
 |[]=>some []
 |(i,x)::rest=>match place i,dz n x,s_ n place rest with
  |some (off,size),some y,some r=>some ((off,size,y)::r)
  |_,_,_=>none
section
variable{P:Program}{w0:World}{n:Nat}{U:Nat->Prop}{g:Gh}{S:an}{H:ao}{a:Act}{w:World}
def vz (R:Rel P w0 n U g S H a w) {place:Nat→Option (Nat×Nat)}:∀ {ps:List (Nat×Operand)} {qs:List (Nat×Nat×cT)},s_ n place ps=some qs →
  (∀q∈qs,∀t∈q.2.2.tmps,¬U t)->∀{cs fX:List AV}{vs:Array Value},pE g.Pr w cs vs->bH cs (qs.map λ(o,s,x)=>(o,s,ev S x))=some fX->
  ∃lu,Instr.fill place vs (ps.map λ(i,x)=>(i,a.eval x))=some lu/\pE g.Pr w fX lu
 |[],qs,h,_,cs,fX,vs,hr,he=>by
  cases h;simp only[aee,bH,ad8]at he;subst he;exact⟨vs,rfl,hr⟩
 |(i,x)::ps,qs,h,hu,cs,fX,vs,hr,he=>by
  simp only[s_]at h;split at h
  case h_2=>cases h
  rename_i off size y r hp hx kn;cases h;simp only[adU,bH]at he;split at he
  case isFalse=>cases he
  rename_i hc;obtain⟨kc,jS,Wt⟩:=hc;have hv:=(R.ev hx (hu _ adX)).dX (AV.kg Wt);have hvd:=hv.aI.Wh (by rw[AV.xw];exact Wt)
  have bl:(a.eval x).cells.size=size:=by rw[<-hv.cells.1];exact kc
  have kH:cs.length=vs.size:=hr.1;obtain⟨k1,k2⟩:=Great.foldl_set off (a.eval x).cells.toList 0 vs
  have ir:=hr.bC (off:=off) hvd (by rw[AV.yF,kc];exact jS)
   (((a.eval x).cells.toList.zipIdx 0).foldl (λcs (x:Value×Nat)=>cs.setIfInBounds (off+x.2) x.1) vs) k1 (λk=>by
    rw[k2 k];simp only[Nat.add_zero,Array.length_toList,aeQ]
    by_cases mu:off<=k/\k<off+(a.eval x).cells.size
    .rw[if_pos mu,if_pos ⟨mu.1,mu.2,zo⟩]
    .rw[if_neg mu,if_neg zo])
  obtain⟨lu,e1,e2⟩:=vz R kn (λq hq=>hu q (adO _ hq)) ir he;refine⟨lu,?_,e2⟩;simp only[adU,Instr.fill,hp];rw[if_neg (by simp;omega)];rw[<-e1]
  congr 1
  rw[<-Array.foldl_toList,Array.toList_zipIdx]
def Mt (R:Rel P w0 n U g S H a w) {o:Oper} {t:TypeId} {it:TypeInfo} {fs:Array Field} {z:Value} {places:List (Nat×Nat)} {zs:List AV} {ps:Array (Nat×Operand)} {qs:List (Nat×Nat×cT)} {e:aP}
  (ho:o.op=.build t ps) (hd:∀t,o.dst=some t->t<n/\¬U t) (hi:P.info? t=some it) (fB:P.underlying t=some (.struct fs)) (hz:it.zero=some z)
  (E5:fs.toList.mapM (λf=>(P.info? f.type).map λi=>(f.offset,i.size))=some places) (pY:iW z.cells.toList=some zs) (hq:s_ n (places[·]?) ps.toList=some qs)
  (hu:∀q∈qs,∀t∈q.2.2.tmps,¬U t) (he:aD S H (.build (zs.map AV.aI) qs)=some e):dc P w0 n U g S H a w o e:=by
 simp only[aD,adP]at he;obtain⟨fX,hc,rfl⟩:=he;have Ol:=(iG g.Pr w pY).1
 have Tj:pE g.Pr w (zs.map AV.aI) z.cells:=by
  refine⟨by simpa using Ol.1,λi h h'=>?_,λi h=>?_⟩
  .simp only[adH]at h;have:=(Ol.2.1 i h (by simpa using h')).aI;simpa using this
  .simp only[adH]at h;have:=Ol.2.2 i h;simp only[adR];exact(AV.pc _).trans this
 obtain⟨lu,h1,h2⟩:=vz R hq hu Tj hc
 have hb:P.built t (ps.map λ(i,x)=>(i,a.eval x)).toList=some lu:=by
  unfold Program.built;simp only[hi,fB,hz,E5,agw];rw[<-h1]
  congr 1
  funext i
  simp
 refine dc.val R (λt h=>(hd t h).1) (c:=.agg lu) ?_ (.data _ _ (.agg _ _ h2.1 h2.2.2 h2.2.1)) λ_=>trivial
 unfold execOp;simp only[ho,adK,ahG w t _ lu hb,Result.andThen_ok]
 rfl
def P9 (R:Rel P w0 n U g S H a w) {o:Oper} {fn:Fn} {f1 c1:Array Operand} {f2 c2:List cT} {e:aP} (ho:o.op = .makeFunc fn f1 c1) (hd:∀ t,o.dst=some t→t < n∧¬ U t)
  (hf:pR n f1.toList=some f2) (hc:pR n c1.toList=some c2) (huf:∀y∈f2,∀t∈y.tmps,¬U t) (huc:∀y∈c2,∀t∈y.tmps,¬U t) (he:aD S H (.Fa fn f2 c2)=some e):dc P w0 n U g S H a w o e:=by
 simp only[aD,ad8]at he;subst he;obtain⟨l1,r1⟩:=R.Ls hf huf;obtain⟨l2,r2⟩:=R.Ls hc huc
 refine dc.val R (λt h=>(hd t h).1) (c:=.func fn (f1.map a.eval) (c1.map a.eval)) ?_ ?_ λ_=>trivial
 .simp[execOp,ho,Instr.makeFunc]
 .refine .func fn _ _ _ _ (by simpa using l1) (by simpa using l2) (λi h h'=>?_) (λi h h'=>?_)
  .simp only[adH,Array.size_map]at h h';have:=(r1 i h (by simpa using h')).aI;simpa using this
  .simp only[adH,Array.size_map]at h h';have:=(r2 i h (by simpa using h')).aI;simpa using this
def Rel.newRow (R:Rel P w0 n U g S H a w) (d:Option Nat) (hd:∀ t,d=some t→t < n∧¬ U t) (el:TypeId) (i:TypeInfo) (hi:P.info? el=some i) (es:List AV) (cells:Array Value)
  (bl:∀j (h:j<es.length),(es[j]).cells.length=i.size) (eJ:∀j (h:j<es.length),(es[j]).storable=true) (hl:cells.size=es.length*i.size) (hlen:es.length<=maxLen)
  (hr:∀j (h:j<es.length),∃c,RD g.Pr w es[j] c/\∀k u,c.cells[k]?=some u->cells[j*i.size+k]?=some u):
  ∃g',g'.base=g.base/\g'.old=g.old/\Rel P w0 n U g' (Go.AL.aW S d (.slice (.own el) es)) H (a.put d (.slice (some ⟨w.heap.size,0,none⟩) es.length es.length)) (w.alloc (.cells cells el)):=by
 have hb:Below w.heap.size w (w.alloc (.cells cells el)):=(aeC _ _).alloc (adF _) _
 have hle:g.base<=w.heap.size:=by rw[R.base];exact R.below.size
 let g':Gh:={ g with hi:=au g.hi w.heap.size (es.length*i.size),owner:=au g.owner w.heap.size (d.map .slot) }
 have R':Rel P w0 n U g' S H a (w.alloc (.cells cells el)):=R.grow (g':=g') hb rfl rfl rfl
  (λb hb=>⟨aT _ _ zo,aT _ _ zo⟩)
  (λb hb=>by
   have il:w.heap.size+1<=b:=by simpa using hb
   exact⟨(aT _ _ zo).trans (R.fresh b zo).1,(aT _ _ zo).trans (R.fresh b zo).2⟩)
 have qJ:∀k,k<es.length*i.size->g'.Pr w.heap.size k:=λk hk=>.inr ⟨hle,by show k<au g.hi _ _ _;rw[aO];exact hk⟩
 have acb:bg g.Pr g'.Pr w (w.alloc (.cells cells el)):=by
  refine bg.ja (λb aq=>hb.block b aq) λb k aq hp=>?_
  unfold Gh.Pr at*
  show(b<g.base/\g.old.c b k)\/(g.base<=b/\k<au g.hi _ _ b)
  rw[aT _ _ zo];exact hp
 refine⟨g',rfl,rfl,R'.aW d _ _ (λt h=>(hd t h).1) (.data _ _ ?_) ?_⟩
 .refine .slice _ es w.heap.size 0 es.length i.size (λk=>cells.getD k undef) (adF _) (λh=>by cases h) bl (λj h k hk=>?_) (λk hk=>⟨by rw[aeh];exact qJ k hk,?_⟩) (λj h k hk=>?_)
  .obtain⟨c,h1,h2⟩:=hr j h;exact h1.cells_one (eJ j h) k hk
  .simp[hl,hk]
  .obtain⟨c,h1,h2⟩:=hr j h
   have cz:k<c.cells.size:=by rw[<-h1.cells.1];exact hk
   have:cells.getD (j*i.size+k) undef=c.cells[k]:=by simp[h2 k _ (ad4 cz)]
   rw[this];exact(h1.cells.2 k hk cz).mono acb
 .intro t ht;subst ht;refine⟨i,cells.toList,w.heap.size,hi,⟨by simp[hl],.inr ⟨w.heap.size,es.length,cells,rfl,hle,agS w _,adF _,hlen,hl,?_⟩⟩,rfl,?_,?_⟩
  .exact adI (by simp[hl])
  .show au g.owner _ _ _=_;rw[aO];rfl
  .show au g.hi _ _ _=_;rw[aO]
def zZ (R:Rel P w0 n U g S H a w) {o:Oper} {t el:TypeId} {i:TypeInfo} {z:Value} {len:Nat} {ps:Array (Nat×Operand)} {xs:List Operand} {ys:List cT} {e:aP}
  (ho:o.op=.buildSlice t len ps) (hd:∀t,o.dst=some t->t<n/\¬U t) (fB:P.underlying t=some (.slice el)) (hi:P.info? el=some i) (hz:i.zero=some z) (iJ:0<i.size)
  (kn:ps.toList=(xs.zipIdx 0).map λx=>(x.2,x.1)) (hlen:xs.length=len) (hlz:0<len) (hx:pR n xs=some ys) (hu:∀y∈ys,∀t∈y.tmps,¬U t)
  (he:aD S H (.buildSlice t el i.size ys)=some e):dc P w0 n U g S H a w o e:=by
 simp only[aD]at he;split at he
 case isFalse=>cases he
 rename_i hc;cases he;simp only[adE,adL]at hc;obtain⟨kc,jS⟩:=hc;simp only[aG,adQ,adE,aej]at kc;obtain⟨l1,r1⟩:=R.Ls hx hu
 have yl:ys.length=len:=zo
 have hR:∀j (h:j<ys.length),RD g.Pr w (AL.ev S ys[j]) ((xs.map a.eval)[j]'(by simp;omega))/\(AL.ev S ys[j]).cells.length=i.size/\(AL.ev S ys[j]).storable=true:=by
  intro j h;have hm:=kc (AL.ev S ys[j]) (adZ.2 ⟨_,adC h,rfl⟩);refine⟨?_,hm.2,hm.1⟩;have:=(r1 j h zo).dX (AV.kg hm.1);simpa using this
 have qM:∀v∈xs.map a.eval,v.cells.size=i.size:=by
  intro v hv;obtain⟨j,hj,rfl⟩:=aer hv;simp only[adH]at hj;obtain⟨h1,h2,h3⟩:=hR j zo;rw[<-h1.cells.1];exact h2
 have aaN:((Array.range (len*i.size)).map (z.cells[· % z.cells.size]!)).size=len*i.size:=ahB
 have NO:=Great.fill_whole iJ (xs.map a.eval) ((Array.range (len*i.size)).map (z.cells[· % z.cells.size]!)) qM (by rw[aaN];simp[hlen])
 have HU:(ps.map λ(i,x)=>(i,a.eval x)).toList=((xs.map a.eval).zipIdx 0).map λx=>(x.2,x.1):=by
  rw[agw,kn];simp[List.zipIdx_map]
 have dE:=run_buildSlice (P:=P) w t el len (ps.map λ(i,x)=>(i,a.eval x)) ((xs.map a.eval).flatMap λv=>v.cells.toList).toArray i z fB hi hz (by rw[yl]at jS;omega)
  (by have:=Nat.mul_pos hlz iJ;omega) (by rw[HU];exact NO)
 have Nz:=Great.flat_get iJ (xs.map a.eval) qM
 obtain⟨g',e1,e2,R'⟩:=R.newRow o.dst hd el i hi ((ys.map (AL.ev S)).map AV.vw) ((xs.map a.eval).flatMap λv=>v.cells.toList).toArray
  (λj h=>by simp only[adH]at h;simp only[adR,AV.Ab];exact(hR j h).2.1)
  (λj h=>by simp only[adH]at h;simp only[adR,AV.II];exact(hR j h).2.2)
  (by
   simp only[afZ,adH]
   have hh:∀(l:List Value),(∀v∈l,v.cells.size=i.size)->(l.flatMap λv=>v.cells.toList).length=l.length*i.size:=by
    intro l
    induction l with
    |nil=>simp
    |cons v l ih=>intro h;simp only[aeY,adV,List.length_cons,Array.length_toList,h v adX,ih (λu hu=>h u (adO _ hu)),ag9];omega
   rw[hh _ qM,adH,l1])
  (by simp only[adH];have:=Nat.le_mul_of_pos_right ys.length iJ;unfold maxLen;omega)
  (λj h=>by
   simp only[adH]at h;obtain⟨h1,h2,h3⟩:=hR j h
   have dZ:j<(xs.map a.eval).length:=by simp;omega
   refine⟨(xs.map a.eval)[j],by simpa using h1.vw,λk u hk=>?_⟩
   have cz:k<i.size:=by
    rw[<-qM _ (adC dZ)];exact(adD.1 hk).1
   simp only[agA];rw[Nz,show(j*i.size+k)/i.size=j by rw[afs,Nat.mul_add_div iJ,ag_ cz,Nat.add_zero],show(j*i.size+k) % i.size=k by rw[afs,Nat.mul_add_mod,Nat.mod_eq_of_lt cz],adB dZ]
   exact hk)
 refine⟨.slice (some ⟨w.heap.size,0,none⟩) len len,w.alloc (.cells ((xs.map a.eval).flatMap λv=>v.cells.toList).toArray el),g',.inl ?_,e1,e2,?_⟩
 .unfold execOp;simp only[ho,adK,dE,Result.andThen_ok]
  rfl
 .have:((ys.map (AL.ev S)).map AV.vw).length=len:=by simp[yl]
  rw[this]at R';exact R'
end
section
variable{P:Program}{w0:World}{n:Nat}{U:Nat->Prop}{g:Gh}{S:an}{H:ao}{a:Act}{w:World}
def S_(S:an)(y:cT):an:=match bt y with|some t=>au S t (S t).aI|none=>S
def Rel.take (R:Rel P w0 n U g S H a w) {x:Operand} {y:cT} (hx:dz n x=some y) (hu:∀ t∈y.tmps,¬ U t) (loc:Loc) :
  ∃g1,g1.base=g.base/\g1.old=g.old/\g1.al=g.al/\g1.hi=g.hi/\Rel P w0 n U g1 (S_ S y) H a w/\eQ P w g1 loc (AL.ev S y) (a.eval x):=by
 cases x with
 |const c=>
  simp only[dz,adP]at hx;obtain⟨v,hc,rfl⟩:=hx;exact⟨g,rfl,rfl,rfl,rfl,R,zW hc _ _ _ _⟩
 |global k=>cases hx
 |func f=>cases hx;exact⟨g,rfl,rfl,rfl,rfl,R,trivial⟩
 |tmp t=>
  simp only[dz]at hx;split at hx
  case isFalse=>cases hx
  rename_i ht;cases hx;have Rp:=hu t (by simp[cT.tmps]);have ho:=R.own t ht Rp
  have R1:Rel P w0 n U g (au S t (S t).aI) H a w:=R.weaken _ λk hk huk c pP ho=>by
   by_cases h:k=t
   .subst h;rw[aO];exact⟨pP.aI,h_ _ _ _⟩
   .rw[aT _ _ h];exact⟨pP,ho⟩
  have R2:=R1.Hm (.slot t) (some loc) (λk hk _ _=>by cases hk;rw[aO];exact AV.qD _) (λi j cs h=>by cases h);refine⟨{ g with owner:=λb=>if g.owner b=some (.slot t)then some loc else g.owner b },rfl,rfl,rfl,rfl,R2,?_⟩;show eQ P w _ loc (S t) (a.tmps.getD t undef);generalize S t=v at ho;generalize a.tmps.getD t undef=c at ho
  cases v<;>try trivial
  rename_i oo es
  cases oo with
  |view=>trivial
  |nil=>exact ho
  |own e=>
   obtain⟨i,xs,b,h1,h2,h3,h4,h5⟩:=ho;refine⟨i,xs,b,h1,h2,h3,?_,h5⟩;show(if g.owner b=some (.slot t)then some loc else g.owner b)=_;rw[if_pos h4]
def Rel.P3 (R:Rel P w0 n U g S H a w) {x:Operand} {y:cT} (hx:dz n x=some y) (hu:∀ t∈y.tmps,¬ U t) {e:TypeId} {es:List AV} (hy:AL.ev S y = .slice (.own e) es) :
  ∃g1 i xs b,g1.base=g.base/\g1.old=g.old/\g1.al=g.al/\g1.hi=g.hi/\Rel P w0 n U g1 (S_ S y) H a w/\
   P.info? e=some i/\w.ownsRow g.base e i.size (a.eval x) es.length xs/\(a.eval x).ownBlock=some b/\g1.owner b=none/\g.hi b=es.length*i.size/\(∀j,g.al j≠some b)/\(∀o,g.old.aU b≠some o):=by
 cases x with
 |const c=>
  simp only[dz,adP]at hx;obtain⟨v,hc,rfl⟩:=hx;have:=BV hc;rw[show v=AL.ev S (.c v)from rfl,hy]at this;cases this
 |global k=>cases hx
 |func f=>cases hx;cases hy
 |tmp t=>
  simp only[dz]at hx;split at hx
  case isFalse=>cases hx
  rename_i ht;cases hx;have Rp:=hu t (by simp[cT.tmps]);have ho:=R.own t ht Rp
  change S t=_ at hy
  have R1:Rel P w0 n U g (au S t (S t).aI) H a w:=R.weaken _ λk hk huk c pP ho=>by
   by_cases h:k=t
   .subst h;rw[aO];exact⟨pP.aI,h_ _ _ _⟩
   .rw[aT _ _ h];exact⟨pP,ho⟩
  have R2:=R1.Hm (.slot t) none (λk hk _ _=>by cases hk;rw[aO];exact AV.qD _) (λi j cs h=>by cases h);rw[hy]at ho;obtain⟨i,xs,b,h1,h2,h3,h4,h5⟩:=ho;refine⟨{ g with owner:=λb=>if g.owner b=some (.slot t)then none else g.owner b },i,xs,b,rfl,rfl,rfl,rfl,R2,h1,h2,h3,?_,h5,λj hj=>?_,λo hk=>?_⟩
  .show(if g.owner b=some (.slot t)then none else g.owner b)=none;rw[if_pos h4]
  .obtain⟨_,_,_,_,_,_,_,k5,_⟩:=R.box j b hj;rw[h4]at k5;cases k5
  .obtain⟨_,_,_,k4,_⟩:=R.kept b o hk;rw[h4]at k4;cases k4
def CT(v:AV):v.ct.length=v.cells.length:=by cases v<;>simp[AV.ct,AV.cells]
def RD.ct{Pr:Nat->Nat->Prop}{v:AV}{c:Value}(h:RD Pr w v c)(hs:v.storable=true):pE Pr w v.ct c.cells:=by
 cases v<;>try exact h.Wh hs
 rename_i cs;have hh:=h.Wh hs;refine pE.mk' (by simpa[AV.ct,AV.cells]using hh.1) (λi v c e1 e2=>?_) (λi v e1=>?_)
 .simp only[AV.ct,ad9,adP]at e1;obtain⟨u,h1,rfl⟩:=e1;exact(hh.get h1 e2).aI
 .simp only[AV.ct,ad9,adP]at e1;obtain⟨u,h1,rfl⟩:=e1;exact(AV.pc _).trans (hh.one h1)
def nn (R:Rel P w0 n U g S H a w) {o:Oper} {hr:HR} {t:TypeId} {i:TypeInfo} {x1 x2:Operand} {y1 y2:cT} {e:aP} (ho:o.op = .store t x1 x2) (iD:o.dst=none)
  (hi:P.info? t=some i) (oy:dz n x1=some y1) (mJ:dz n x2=some y2) (pW:∀t∈y1.tmps,¬U t) (qe:∀t∈y2.tmps,¬U t)
  (he:aD S H (.store hr i.size y1 y2)=some e):dc P w0 n U g S H a w o e:=by
 have fD:=R.ev oy pW;have fh:=R.ev mJ qe;simp only[aD]at he;generalize adz:AL.ev S y1=q1 at he fD;generalize kc:a.eval x1=c1 at fD
 cases fD<;>(try cases he;done)
 case data h=>cases h<;>cases he
 rename_i k off b jC;simp only at he;split at he
 case isFalse=>cases he
 obtain⟨cs,vs,ty,k1,k2,k3,k4,k5,k6,k7,k8,k9⟩:=R.box k b jC;simp only[k1]at he;split at he
 case isFalse=>cases he
 rename_i hc;obtain⟨kH,PT,eJ⟩:=hc;cases he;have vA:=fh.dX (AV.kg eJ);obtain⟨g1,e1,e2,e3,e4,R1,Uu⟩:=R.take mJ qe (.cell k off)
 have qJ:g1.Pr=g.Pr:=by unfold Gh.Pr;rw[e1,e2,e4]
 obtain⟨cs0,Tk,ty0,m1,m2,m3,m4,m5,m6,m7,m8,m9⟩:=R1.box k b (by rw[e3];exact jC);rw[k1]at m1;cases m1;rw[k3]at m3;cases m3
 have bl:(a.eval x2).cells.size=i.size:=by rw[<-vA.cells.1];exact kH
 have hlen:off+(a.eval x2).cells.size<=vs.size:=zo
 have oB:∀u∈(a.eval x2).cells.toList,u.oneCell'=true:=by
  intro u hu;obtain⟨j,hj,rfl⟩:=aer hu
  have dZ:j<(AL.ev S y2).cells.length:=by rw[vA.cells.1];simpa using hj
  have:=(vA.cells.2 j dZ (by simpa using hj)).one (vA.cells_one eJ j dZ);simpa using this
 have dE:=agt P b off ty (a.eval x2).cells.toList 0 vs w k3 (by simpa using hlen) oB;simp only[Nat.add_zero]at dE;have D2:=CT (AL.ev S y2)
 have im:∀j,(vs.toList.take off++(a.eval x2).cells.toList++vs.toList.drop (off+(a.eval x2).cells.toList.length)).toArray[j]?=if off<=j/\j<off+(a.eval x2).cells.size then(a.eval x2).cells[j-off]? else vs[j]?:=by
  intro j;simp only[agA,Array.length_toList]
  by_cases h1:j<off
  .rw[if_neg zo,aek,aeH (by simp;omega)];simp[h1]
  .by_cases h2:j<off+(a.eval x2).cells.size
   .rw[if_pos ⟨zo,h2⟩,aeH (by simp;omega),aeS (by simp;omega)];rw[aeQ]
    congr 1
    simp;omega
   .rw[if_neg zo,aeS (by simp;omega)];simp only[afR,aeQ]
    congr 1
    simp;omega
 have eR:pE g1.Pr w (bC cs off (AL.ev S y2).ct) (vs.toList.take off++(a.eval x2).cells.toList++vs.toList.drop (off+(a.eval x2).cells.toList.length)).toArray:=
  pE.bC (cs:=cs) (xs:=vs) ⟨m6,m7,m9⟩ (ys:=(a.eval x2).cells) (by rw[qJ];exact vA.ct eJ) zo _ (by simp;omega) im
 have cZ:∀j v c,(bC cs off (AL.ev S y2).ct)[j]?=some v->(vs.toList.take off++(a.eval x2).cells.toList++vs.toList.drop (off+(a.eval x2).cells.toList.length)).toArray[j]?=some c->eQ P w g1 (.cell k j) v c:=by
  intro j v c h1 h2;rw[tt zo]at h1;rw[im]at h2;rw[D2,vA.cells.1]at h1;split at h1
  .rename_i mu;rw[if_pos mu]at h2;have OO:=vA;generalize AL.ev S y2=q at h1 Uu OO eJ;generalize a.eval x2=c2 at h2 Uu OO
   have single:q.ct=[q]->c2.cells=#[c2]->eQ P w g1 (.cell k j) v c:=by
    intro h3 h4;rw[h3]at h1;rw[h4]at h2
    have h0:j-off=0:=by simpa using(ad0.1 h1).1
    rw[h0]at h1 h2;simp at h1 h2;subst h1;subst h2;rw[show j=off by omega];exact Uu
   cases OO with
   |agg fX lu hl oB hr=>
    simp only[AV.ct,ad9,adP]at h1;obtain⟨u,_,rfl⟩:=h1;exact h_ _ _ _
   |dY=>cases eJ
   |val _ hc=>exact single rfl (by cases c2<;>first|rfl|cases hc)
   |_=>exact single rfl rfl
  .rename_i mu;rw[if_neg mu]at h2;obtain⟨l1,rfl⟩:=ad0.1 h1;obtain⟨l2,rfl⟩:=adD.1 h2;exact m8 j l1 l2
 have R2:=R1.Io k b (by rw[e3];exact jC) vs _ ty k3 _ eR.1 eR.2.1 (λj hj dZ=>cZ j _ _ (adB hj) (ad4 dZ)) eR.2.2;refine⟨undef,w.setRow b (vs.toList.take off++(a.eval x2).cells.toList++vs.toList.drop (off+(a.eval x2).cells.toList.length)).toArray,g1,.inr ⟨?_,rfl⟩,e1,e2,?_⟩
 .unfold execOp;simp only[ho,kc,Instr.storeAt,Instr.sureAddr,storeVar,sizeOf,typeInfo,adK,Sem.run_pure,Result.andThen_ok,run_program,hi,bl,ne_eq,ae4,ad1];rw[show storeCells ⟨b,off,none⟩ (a.eval x2).cells.toList=storeCells ⟨b,off,none⟩ (a.eval x2).cells.toList 0 from rfl,dE]
  rfl
 .rw[iD];exact R2
end
def rK {P:Program} {w:World} (base:Nat) (t ty e:TypeId) (i:TypeInfo) (z:Value) (ht:P.underlying t=some (.slice e)) (hi:P.info? e=some i) (hz:i.zero=some z)
  (pY:z.cells.size=i.size) (v:Value) (n:Nat) (xs:List Value) (b:Nat) (cZ:w.ownsRow base e i.size v n xs) (pL:v.ownBlock=some b)
  (ad:Addr) (m c:Nat) (news:List Value) (hl:news.length=m*i.size) (tg:∀j u,news[j]?=some u->w.cell? (ad.add j)=some u) (h1:∀u∈news,u.oneCell'=true)
  (h63:n+m<=2097152) (Il:(n+m)*i.bytes<=140737488355328) (gP:base<=w.heap.size):
  ∃v' w' b',(Builtin.append_ #[t,t] ty #[v,.slice (some ad) m c]).run P w=.ok v' w'/\w'.ownsRow base e i.size v' (n+m) (xs++news)/\v'.ownBlock=some b'/\
   ((b'=b/\w.grownBy w' (some b))\/(b'=w.heap.size/\w.grownBy w' none/\w'.heap.size=w.heap.size+1)):=by
 have abD:n+m<=maxLen:=by unfold maxLen;omega
 have hlen:(xs++news).length=(n+m)*i.size:=by rw[adV,cZ.1,hl,afg]
 rcases cZ.2 with⟨rfl,rfl⟩|⟨g,cap,cur,rfl,r_,hg,As,wP,qM,AA⟩
 .cases pL
 .have mT:g=b:=by simpa[Value.ownBlock]using pL
  subst mT
  by_cases iQ:n+m<=cap
  .have acT:n*i.size+news.length<=cur.size:=by rw[hl,qM,<-afg];exact ae0 _ iQ
   have hr:=run_append_room (P:=P) w t ty e i ht hi g n cap cur hg ad m c news hl tg h1 iQ acT;refine⟨_,_,g,hr,⟨hlen,.inr ⟨g,cap,_,rfl,r_,afq w g cur _ e _ hg,iQ,wP,?_,?_⟩⟩,rfl,.inl ⟨rfl,⟨rfl,rfl,rfl,ahB,λk _ hk=>aeO w g k _ (λe=>hk (by simp[e]))⟩⟩⟩
   .simp only[afZ,adV,adS,ael,Array.length_toList];omega
   .rw[AA,<-hlen];exact agm
  .have holds:∀j u,xs[j]?=some u->w.cell? ((⟨g,0,none⟩:Addr).add j)=some u:=cZ.cells (g:=g) rfl;have hr:=run_append_grow (P:=P) w t ty e i z ht hi hz ⟨g,0,none⟩ n cap xs cZ.1 holds ad m c news hl tg zo zo (growslice_fits zo Il);have zU:=grownCap_ge w (n+m) cap e;have Te:grownCap w (n+m) cap e<=maxLen:=grownCap_le_maxLen w (n+m) cap e abD;refine⟨_,_,w.heap.size,hr,⟨hlen,.inr ⟨w.heap.size,_,_,rfl,gP,agS w.drew _,zU,Te,?_,?_⟩⟩,rfl,.inr ⟨rfl,⟨rfl,rfl,rfl,ahB,λk hk _=>heap_alloc_old w.drew _ k hk⟩,ahB⟩⟩
   .simp only[Array.size_append,afZ,size_zeroCells,pY,cZ.1,hl,<-afg]
    congr 1
    omega
   .simp only[ahA,aek];rw[<-aek,<-hlen];exact agm
def sX {P:Program} {w:World} (base:Nat) (t ty e:TypeId) (i:TypeInfo) (z:Value) (ht:P.underlying t=some (.slice e)) (hi:P.info? e=some i) (hz:i.zero=some z)
  (pY:z.cells.size=i.size) (a0:Option Addr)
  (ad:Addr) (m c:Nat) (news:List Value) (hl:news.length=m*i.size) (tg:∀j u,news[j]?=some u->w.cell? (ad.add j)=some u)
  (hm:0<m) (h63:m<=2097152) (Il:m*i.bytes<=140737488355328) (gP:base<=w.heap.size):
  ∃v' w',(Builtin.append_ #[t,t] ty #[.slice a0 0 0,.slice (some ad) m c]).run P w=.ok v' w'/\w'.ownsRow base e i.size v' m news/\v'.ownBlock=some w.heap.size/\w.grownBy w' none/\w'.heap.size=w.heap.size+1:=by
 have zU:=grownCap_ge w m 0 e;have Te:grownCap w m 0 e<=maxLen:=grownCap_le_maxLen w m 0 e (by unfold maxLen;omega)
 have dE:(Builtin.append_ #[t,t] ty #[.slice a0 0 0,.slice (some ad) m c]).run P w=.ok (.slice (some ⟨w.heap.size,0,none⟩) m (grownCap w m 0 e)) (w.drew.alloc (.cells (news.toArray++Builtin.zeroCells z.cells (grownCap w m 0 e-m)) e)):=by
  cases a0 with
  |none=>exact run_append_nil (P:=P) w t ty e i z ht hi hz ad m c news hl tg hm zo zo
  |some b=>
   have:=run_append_grow (P:=P) w t ty e i z ht hi hz b 0 0 [] ahB ahB ad m c news hl tg zo zo (growslice_fits zo (by simpa using Il));simpa using this
 refine⟨_,_,dE,⟨hl,.inr ⟨w.heap.size,_,_,rfl,gP,agS w.drew _,zU,Te,?_,?_⟩⟩,rfl,⟨rfl,rfl,rfl,ahB,λk hk _=>heap_alloc_old w.drew _ k hk⟩,ahB⟩
 .simp only[Array.size_append,afZ,size_zeroCells,pY,hl,<-afg]
  congr 1
  omega
 .rw[<-hl];simp only[ahA];exact agm
def uP {P:Program} {w:World} (base:Nat) (t ty e:TypeId) (i:TypeInfo) (size:Nat) (ht:P.underlying t=some (.slice e)) (hi:P.info? e=some i)
  (v:Value) (n:Nat) (xs:List Value) (cZ:w.ownsRow base e size v n xs) (ad:Option Addr):
  (Builtin.append_ #[t,t] ty #[v,.slice ad 0 0]).run P w=.ok v w:=by
 have Vs:(Builtin.firstCells i.size 0 (.slice ad 0 0)).run P w=.ok #[] w:=by
  rcases ad with _|ad
  .rfl
  .simp[Builtin.firstCells,loadCells,loadCellsFrom]
 rcases cZ.2 with⟨rfl,rfl⟩|⟨g,cap,cur,rfl,_,_,As,_⟩
 .simp[Builtin.append_,adW ht,sizeOf,typeInfo,hi,Builtin.lenOf,Vs]
 .simp[Builtin.append_,adW ht,sizeOf,typeInfo,hi,Builtin.lenOf,Vs,As,storeCells]
def RD.nf {Pr:Nat→Nat→Prop} {w:World} {o:Ow} {es:List AV} {c:Value} (h:RD Pr w (.slice o es) c) (size:Nat) (hs:aG size es=true) :
  (es=[]/\∃ad,c=.slice ad 0 0)\/∃(b off cap:Nat)(news:List Value),c=.slice (some ⟨b,off,none⟩) es.length cap/\news.length=es.length*size/\
   (∀j u,news[j]?=some u->w.cell? ⟨b,off+j,none⟩=some u)/\(∀u∈news,u.oneCell'=true)/\
   ∀j (h:j<es.length) k (hk:k<(es[j]).cells.length),∃u,news[j*size+k]?=some u/\RD Pr w ((es[j]).cells[k]) u:=by
 simp only[aG,adQ,adE,aej]at hs
 cases h with
 |iB=>exact .inl ⟨rfl,_,rfl⟩
 |jz _ a=>exact .inl ⟨rfl,_,rfl⟩
 |slice _ _ b off cap sz cs fl uN bl h1 hc hr=>
  refine .inr ⟨b,off,cap,(List.range (es.length*size)).map cs,rfl,ahB,?_,?_,?_⟩
  .intro j u hu;simp only[ad9,adP]at hu;obtain⟨j',h1,rfl⟩:=hu;obtain⟨aq,rfl⟩:=ad0.1 h1;simp only[List.length_range]at aq;simp only[List.getElem_range]
   have iJ:0<es.length:=by
    rcases afy es.length with h0|h0
    .rw[h0]at aq;omega
    .exact h0
   have:sz=size:=by rw[<-bl 0 iJ];exact(hs _ (adC iJ)).2
   subst this;exact(hc j aq).2
  .intro u hu;simp only[adZ,aeb]at hu;obtain⟨j,aq,rfl⟩:=hu
   have iJ:0<es.length:=by
    rcases afy es.length with h0|h0
    .rw[h0]at aq;omega
    .exact h0
   have:sz=size:=by rw[<-bl 0 iJ];exact(hs _ (adC iJ)).2
   subst this
   have kV:0<sz:=by
    rcases afy sz with h0|h0
    .rw[h0]at aq;omega
    .exact h0
   have hj:j/sz<es.length:=(Nat.div_lt_iff_lt_mul kV).2 aq
   have hk:j % sz<(es[j/sz]).cells.length:=by rw[bl _ hj];exact af3 _ kV
   have e:j/sz*sz+j % sz=j:=by rw[afs];exact agD j sz
   have:=(hr _ hj _ hk).one (h1 _ hj _ hk);rwa [e]at this
  .intro j hj k hk
   have:sz=size:=by rw[<-bl j hj];exact(hs _ (adC hj)).2
   subst this;refine⟨cs (j*sz+k),?_,hr j hj k hk⟩;rw[bl j hj]at hk
   have:j*sz+k<es.length*sz:=by
    calc j*sz+k<j*sz+sz:=by omega
     _=(j+1)*sz:=by rw[ag9]
     _<=es.length*sz:=ae0 _ zo
   simp[this]
def RD.NC{Pr:Nat->Nat->Prop}{w:World}{o:Ow}{es:List AV}{c:Value}(h:RD Pr w (.slice o es) c):∀j (h:j<es.length) k (hk:k<(es[j]).cells.length),((es[j]).cells[k]).one=true:=by
 intro j hj k hk
 cases h with
 |iB=>simp at hj
 |jz=>simp at hj
 |slice _ _ _ _ _ _ _ _ _ _ h1 _ _=>exact h1 j hj k hk
section
variable{P:Program}{w0:World}{n:Nat}{U:Nat->Prop}{g:Gh}{S:an}{H:ao}{a:Act}{w:World}
def Rel.ownRow (R:Rel P w0 n U g S H a w) {w':World} {b':Nat} (d:Option Nat) (hd:∀ t,d=some t→t < n∧¬ U t) {el:TypeId} {i:TypeInfo} (hi:P.info? el=some i) {es:List AV} {news:List Value} {v':Value}
  (cZ:w'.ownsRow g.base el i.size v' es.length news) (pL:v'.ownBlock=some b')
  (Cm:∀es c,w.heap[b']?≠some (.map es c))
  (hb:(b'<w.heap.size/\w.grownBy w' (some b')/\g.owner b'=none/\(∀j,g.al j≠some b')/\g.hi b'<=es.length*i.size/\(∀k u,k<g.hi b'->w.cell? ⟨b',k,none⟩=some u->news[k]?=some u)/\∀o,g.old.aU b'≠some o)\/
   (b'=w.heap.size/\w.grownBy w' none/\w'.heap.size=w.heap.size+1))
  (eJ:aG i.size es=true)
  (hr:∀j (h:j<es.length) k (hk:k<(es[j]).cells.length),∃u,news[j*i.size+k]?=some u/\RD g.Pr w ((es[j]).cells[k]) u/\((es[j]).cells[k]).one=true):
  ∃g',g'.base=g.base/\g'.old=g.old/\Rel P w0 n U g' (Go.AL.aW S d (.slice (.own el) es)) H (a.put d v') w':=by
 have hle:g.base<=w.heap.size:=by rw[R.base];exact R.below.size
 simp only[aG,adQ,adE,aej]at eJ
 let g':Gh:={ g with hi:=au g.hi b' (es.length*i.size),owner:=au g.owner b' (d.map .slot) }
 have iH:∀k,k<w.heap.size->k≠b'->w'.heap[k]?=w.heap[k]?:=by
  intro k hk cD
  rcases hb with⟨_,h,_⟩|⟨_,h,_⟩
  .exact h.block k hk (by simp[cD])
  .exact h.block k hk ahB
 have lC:w.heap.size<=w'.heap.size:=by rcases hb with⟨_,h,_⟩|⟨_,h,_⟩<;>exact h.size
 rcases cZ.2 with⟨rfl,_⟩|⟨gg,cap,cur,rfl,r_,hg,As,wP,qM,AA⟩
 .cases pL
 have mT:gg=b':=by simpa[Value.ownBlock]using pL
 subst mT
 have eO:∀k u,news[k]?=some u->w'.cell? ⟨gg,k,none⟩=some u:=by
  intro k u hu;have:=cZ.cells (g:=gg) rfl k u hu;rwa [aeA,aeh]at this
 have VX:∀b k,g.Pr b k->∀u,w.cell? ⟨b,k,none⟩=some u->g'.Pr b k/\w'.cell? ⟨b,k,none⟩=some u:=by
  intro b k hp u hu;have aq:b<w.heap.size:=afO _ _ hu
  by_cases lX:b=gg
  .subst lX
   rcases hb with⟨h1,h2,h3,h4,h5,h6,_⟩|⟨h1,_⟩
   .rcases hp with hp|hp
    .omega
    .exact⟨.inr ⟨hp.1,by show k<au g.hi _ _ _;rw[aO];omega⟩,eO k u (h6 k u hp.2 hu)⟩
   .omega
  .refine⟨?_,by rw[afr (w:=w) (iH b aq lX)];exact hu⟩;rcases hp with hp|hp
   .exact .inl hp
   .exact .inr ⟨hp.1,by show k<au g.hi _ _ b;rw[aT _ _ lX];exact hp.2⟩
 have rW:bg g.Pr g'.Pr w w':={
  cell:=VX
  map:=λb hp es c hm=>by
   have aq:b<w.heap.size:=(adD.1 hm).1
   have lX:b≠gg:=by
    rintro rfl;exact Cm _ _ hm
   refine⟨?_,by rw[iH b aq lX];exact hm⟩;rcases hp with hp|hp
   .exact .inl hp
   .exact .inr ⟨hp.1,by show 0<au g.hi _ _ b;rw[aT _ _ lX];exact hp.2⟩ }
 have R':Rel P w0 n U g' S H a w':=by
  refine R.ext (g':=g') rfl rfl rfl rW ?_ ?_ ?_ ?_ ?_ lC
  .intro j b hj;obtain⟨_,_,_,_,_,k3,_⟩:=R.box j b hj;have aq:b<w.heap.size:=(adD.1 k3).1
   have cD:b≠gg:=by
    rintro rfl
    rcases hb with⟨_,_,_,h4,_⟩|⟨h1,_⟩
    .exact h4 j hj
    .omega
   exact⟨iH b aq cD,aT _ _ cD,aT _ _ cD⟩
  .intro b loc ho
   have aq:b<w.heap.size:=by
    rcases ae6 b w.heap.size with h|h
    .exact h
    .rw[(R.fresh b h).2]at ho;cases ho
   have cD:b≠gg:=by
    rintro rfl
    rcases hb with⟨_,_,h3,_⟩|⟨h1,_⟩
    .rw[h3]at ho;cases ho
    .omega
   exact⟨iH b aq cD,aT _ _ cD,(aT _ _ cD).trans ho⟩
  .refine R.below.trans ?_
   rcases hb with⟨_,h,_⟩|⟨_,h,_⟩
   .exact⟨h.os,h.tape,h.output,h.size,λk hk=>iH k zo zo⟩
   .exact⟨h.os,h.tape,h.output,h.size,λk hk=>iH k zo zo⟩
  .intro b lX
   have cD:b≠gg:=by
    have:=(adD.1 hg).1;omega
   exact⟨(aT _ _ cD).trans (R.fresh b zo).1,(aT _ _ cD).trans (R.fresh b zo).2⟩
  .intro b o hk ho;have aq:b<w.heap.size:=(adD.1 ho).1
   have cD:b≠gg:=by
    rintro rfl
    rcases hb with⟨_,_,_,_,_,_,h7⟩|⟨h1,_⟩
    .exact h7 o hk
    .omega
   exact⟨by rw[iH b aq cD];exact ho,aT _ _ cD,aT _ _ cD⟩
 refine⟨g',rfl,rfl,R'.aW d _ _ (λt h=>(hd t h).1) (.data _ _ ?_) ?_⟩
 .refine .slice _ es gg 0 cap i.size (λk=>news.getD k undef) As (λh=>by cases h) (λj h=>(eJ _ (adC h)).2) (λj h k hk=>(hr j h k hk).choose_spec.2.2) (λk hk=>⟨?_,?_⟩) (λj h k hk=>?_)
  .exact .inr ⟨r_,by show 0+k<au g.hi _ _ _;rw[aO];omega⟩
  .rw[aeh];refine eO k _ ?_
   have:k<news.length:=by rw[cZ.1];exact hk
   simp[this]
  .obtain⟨u,h1,h2,_⟩:=hr j h k hk
   have:news.getD (j*i.size+k) undef=u:=by simp[h1]
   rw[this];exact h2.mono rW
 .intro t ht;subst ht;exact⟨i,news,gg,hi,cZ,rfl,by show au g.owner _ _ _=_;rw[aO];rfl,by show au g.hi _ _ _=_;rw[aO]⟩
def nW{size:Nat}{es:List AV}:aG size es=true↔∀v∈es,v.storable=true/\v.cells.length=size:=by
 simp[aG]
def Jg (R:Rel P w0 n U g S H a w) {o:Oper} {cl:Call} {t el:TypeId} {i:TypeInfo} {z:Value} {x1 x2:Operand} {y1 y2:cT} {e:aP} (ho:o.op = .call cl) (kH:cl.callee = .builtin .append) (Cd:cl.args = #[x1,x2]) (DB:cl.argTypes = #[t,t])
  (hd:∀t,o.dst=some t->t<n/\¬U t) (fB:P.underlying t=some (.slice el)) (hi:P.info? el=some i) (hz:i.zero=some z) (pY:z.cells.size=i.size) (E1:i.bytes<=65536)
  (oy:dz n x1=some y1) (mJ:dz n x2=some y2) (pW:∀t∈y1.tmps,¬U t) (qe:∀t∈y2.tmps,¬U t) (eR:∀t,o.dst=some t->t∉y1.tmps)
  (he:aD S H (.append t el i.size i.bytes y1 y2)=some e):dc P w0 n U g S H a w o e:=by
 have hle:g.base<=w.heap.size:=by rw[R.base];exact R.below.size
 have fD:=R.ev oy pW;have fh:=R.ev mJ qe
 have run:∀v' w',(Builtin.append_ #[t,t] o.type #[a.eval x1,a.eval x2]).run P w=.ok v' w'->(execOp a.eval o).run P w=.ok (.value v') w':=by
  intro v' w' h;unfold execOp;simp[ho,kH,Cd,DB,resolve,invoke,builtin,h]
 have bytes:∀m,m<=2097152->m*i.bytes<=140737488355328:=λm hm=>aeL (agT hm E1) zd
 simp only[aD]at he;split at he
 .
  rename_i oo ys RH Ul;split at he
  case isFalse=>cases he
  rename_i hc;simp only[adE,adL]at hc;cases he;rw[RH]at fD;rw[Ul]at fh
  obtain⟨ZO,kc⟩:∃ad,a.eval x1=.slice ad 0 0:=by
   have hq:=fD.dX rfl;generalize a.eval x1=c at hq
   cases hq with
   |iB=>exact⟨_,rfl⟩
   |jz=>exact⟨_,rfl⟩
   |slice _ _ b off cap size cs fl uN=>rw[uN rfl];exact⟨_,rfl⟩
  have vA:=fh.dX rfl
  rcases vA.nf i.size hc.1 with⟨rfl,T2,jS⟩|⟨b,off,cap,news,jS,hl,hn,h1,hr⟩
  .refine⟨a.eval x1,w,g,.inl (run _ _ ?_),rfl,rfl,R.aW o.dst _ _ (λt h=>(hd t h).1) (.data _ _ (fD.dX rfl)) λ_ _=>trivial⟩;rw[kc,jS]
   have Vs:(Builtin.firstCells i.size 0 (.slice T2 0 0)).run P w=.ok #[] w:=by
    rcases T2 with _|T2
    .rfl
    .simp[Builtin.firstCells,loadCells,loadCellsFrom]
   simp[Builtin.append_,adW fB,sizeOf,typeInfo,hi,Builtin.lenOf,Vs,storeCells]
   cases ZO<;>simp[storeCells]
  .by_cases Zt:ys=[]
   .subst Zt;have tg:news=[]:=aem (by simpa using hl);refine⟨a.eval x1,w,g,.inl (run _ _ ?_),rfl,rfl,R.aW o.dst _ _ (λt h=>(hd t h).1) (.data _ _ (fD.dX rfl)) λ_ _=>trivial⟩;rw[kc,jS];simp[Builtin.append_,adW fB,sizeOf,typeInfo,hi,Builtin.lenOf,Builtin.firstCells,loadCells,loadCellsFrom]
    cases ZO<;>simp[storeCells]
   .have iJ:0<ys.length:=aeR.2 Zt;obtain⟨v',w',r1,r2,r3,r4,r5⟩:=sX (P:=P) (w:=w) g.base t o.type el i z fB hi hz pY ZO ⟨b,off,none⟩ ys.length cap news hl (λj u hu=>by rw[aeA];exact hn j u hu) iJ zo (bytes _ zo) hle
    obtain⟨g',e1,e2,R'⟩:=R.ownRow o.dst hd hi (es:=ys) r2 r3 (λes c hm=>by have:=(adD.1 hm).1;omega) (.inr ⟨rfl,r4,r5⟩) hc.1 (λj h k hk=>by
     obtain⟨u,u1,u2⟩:=hr j h k hk
     exact⟨u,u1,u2,vA.NC j h k hk⟩)
    refine⟨v',w',g',.inl (run _ _ (by rw[kc,jS];exact r1)),e1,e2,?_⟩
    have:ys.isEmpty=false:=by cases ys with|nil=>exact absurd rfl Zt|cons=>rfl
    simp only[this];exact R'
 .rename_i e' xs oo ys RH Ul;split at he
  case isFalse=>cases he
  rename_i hc;simp only[adE,adL]at hc;obtain⟨rfl,⟨kc,jS⟩,Wt⟩:=hc;cases he;rw[RH]at fD;rw[Ul]at fh;obtain⟨g1,i',xv,b,b1,b2,b3,b4,R1,du,cZ,pL,gQ,Ah,XT,R_⟩:=R.P3 oy pW RH;rw[hi]at du;cases du
  have qJ:g1.Pr=g.Pr:=by unfold Gh.Pr;rw[b1,b2,b4]
  have E_:=fD.dX rfl;have vA:=fh.dX rfl;have lr:b<w.heap.size:=(cZ.lt b pL).2
  have AE:aG i.size (xs++ys)=true:=by
   rw[nW];intro v hv;rcases adG.1 hv with h|h
   .exact nW.1 jS v h
   .exact nW.1 kc v h
  have hS:S_ S y1=(match(bt y1)with|some t=>au S t (S t).aI|none=>S):=rfl
  have oB:∀(o:Ow)(es:List AV)(c:Value),RD g.Pr w (.slice o es) c->∀j (h:j<es.length) k (hk:k<(es[j]).cells.length),((es[j]).cells[k]).one=true:=by
   intro o es c h j hj k hk
   cases h with
   |iB=>simp at hj
   |jz=>simp at hj
   |slice _ _ _ _ _ _ _ _ _ _ h1 _ _=>exact h1 j hj k hk
  have Zj:∀j (h:j<xs.length) k (hk:k<(xs[j]).cells.length),∃u,xv[j*i.size+k]?=some u/\RD g.Pr w ((xs[j]).cells[k]) u:=by
   intro j hj k hk
   rcases E_.nf i.size jS with⟨rfl,j5⟩|⟨b',off,cap,ads,j5,hl,hn,h1,hr⟩
   .simp at hj
   .obtain⟨u,u1,u2⟩:=hr j hj k hk;refine⟨u,?_,u2⟩
    have aq:j*i.size+k<xv.length:=by
     rw[cZ.1,<-hl];exact(ad0.1 u1).1
    have e1:=cZ.cells pL _ _ (adB aq);have e2:=hn _ _ u1
    rcases cZ.2 with⟨uC,_⟩|⟨gg,L8,cur,E6,_⟩
    .rw[uC]at pL;cases pL
    .rw[E6]at j5 pL
     have mT:gg=b:=by simpa[Value.ownBlock]using pL
     subst mT;cases j5;rw[aeA,aeh]at e1;rw[aeh]at e2;rw[e2]at e1;rw[adB aq,ad7 e1]
  have Yu:∀k u,k<g1.hi b->w.cell? ⟨b,k,none⟩=some u->∀news,(xv++news)[k]?=some u:=by
   intro k u hk hu news;rw[b4,Ah]at hk
   have aq:k<xv.length:=by rw[cZ.1];exact hk
   have e1:=cZ.cells pL _ _ (adB aq);rw[aeA,aeh,hu]at e1;rw[aeH aq,adB aq,<-ad7 e1]
  have fin:∀ v' w' b' news,(Builtin.append_ #[t,t] o.type #[a.eval x1,a.eval x2]).run P w = .ok v' w'→w'.ownsRow g.base e' i.size v' (xs.length+ys.length) (xv++news)→v'.ownBlock=some b' →
    ((b'=b/\w.grownBy w' (some b))\/(b'=w.heap.size/\w.grownBy w' none/\w'.heap.size=w.heap.size+1))->news.length=ys.length*i.size->
    (∀j (h:j<ys.length) k (hk:k<(ys[j]).cells.length),∃u,news[j*i.size+k]?=some u/\RD g.Pr w ((ys[j]).cells[k]) u)->
    dc P w0 n U g S H a w o { v:=.slice (.own e') (xs++ys),dm:=bt y1 }:=by
   intro v' w' b' news r1 r2 r3 r4 hl hr
   obtain⟨g',e1,e2,R'⟩:=R1.ownRow o.dst hd hi (es:=xs++ys) (by rw[b1,adV];exact r2) r3 (by
    rcases r4 with⟨rfl,_⟩|⟨rfl,_⟩
    .intro es c hm
     rcases cZ.2 with⟨uC,_⟩|⟨gg,L8,cur,E6,_,aaU,_⟩
     .rw[uC]at pL;cases pL
     .rw[E6]at pL
      have mT:gg=b':=by simpa[Value.ownBlock]using pL
      subst mT;rw[aaU]at hm;cases hm
    .intro es c hm;have:=(adD.1 hm).1
     omega) (by
    rcases r4 with⟨rfl,hg⟩|h
    .refine .inl ⟨lr,hg,gQ,by rw[b3];exact XT,by rw[b4,Ah,adV,afg];omega,λk u hk hu=>Yu k u hk hu news,by rw[b2];exact R_⟩
    .exact .inr h) AE (λj h k hk=>by
     rw[qJ]
     by_cases hj:j<xs.length
     .have ej:(xs++ys)[j]=xs[j]:=ad5 hj
      have cz:k<(xs[j]).cells.length:=by rw[<-ej];exact hk
      obtain⟨u,u1,u2⟩:=Zj j hj k cz;refine⟨u,?_,?_,?_⟩
      .rw[aeH (ad0.1 u1).1];exact u1
      .simp only[ej];exact u2
      .simp only[ej];exact oB _ _ _ E_ j hj k cz
     .have hj2:j-xs.length<ys.length:=by simp only[adV]at h;omega
      have ej:(xs++ys)[j]=ys[j-xs.length]:=aec zo
      have cz:k<(ys[j-xs.length]).cells.length:=by rw[<-ej];exact hk
      obtain⟨u,u1,u2⟩:=hr _ hj2 k cz;refine⟨u,?_,?_,?_⟩
      .have e3:j * i.size+k=xv.length+((j - xs.length) * i.size+k):=by
        rw[cZ.1,<-afQ,<-afg];congr 2;omega
       rw[e3,aeS zo,Nat.add_sub_cancel_left];exact u1
      .simp only[ej];exact u2
      .simp only[ej];exact oB _ _ _ vA _ hj2 k cz)
   exact⟨v',w',g',.inl (run _ _ r1),e1.trans b1,e2.trans b2,R'⟩
  rcases vA.nf i.size kc with⟨rfl,T2,j5⟩|⟨b',off,cap,news,j5,hl,hn,h1,hr⟩
  .refine fin (a.eval x1) w b [] (by rw[j5];exact uP (P:=P) (w:=w) g.base t o.type e' i i.size fB hi _ _ _ cZ T2) (by simpa using cZ) pL (.inl ⟨rfl,⟨rfl,rfl,rfl,adF _,λ_ _ _=>rfl⟩⟩) ahB (λj h=>by simp at h)
  .obtain⟨v',w',b'',r1,r2,r3,r4⟩:=rK (P:=P) (w:=w) g.base t o.type e' i z fB hi hz pY (a.eval x1) xs.length xv b cZ pL ⟨b',off,none⟩ ys.length cap news hl (λj u hu=>by rw[aeA];exact hn j u hu) h1 zo (bytes _ zo) hle;exact fin v' w' b'' news (by rw[j5];exact r1) r2 r3 r4 hl hr
 .cases he
end
section
variable{P:Program}{w0:World}{n:Nat}{U:Nat->Prop}{g:Gh}{S:an}{H:ao}{a:Act}{w:World}
def K0 (R:Rel P w0 n U g S H a w) {o:Oper} {hr:HR} {t:TypeId} {pQ:TypeDesc} {x:Operand} {y:cT} {e:aP} {d:Nat} (ho:o.op = .load t x) (iD:o.dst=some d) (hd:d < n∧¬ U d)
  (fB:P.underlying t=some pQ) (kR:eh pQ=false) (hx:dz n x=some y) (hu:∀t∈y.tmps,¬U t) (he:aD S H (.loadT hr y)=some e):dc P w0 n U g S H a w o e:=by
 have hv:=R.ev hx hu;simp only[aD]at he;generalize sB:AL.ev S y=q at he hv;generalize lE:a.eval x=c at hv
 cases hv<;>(try cases he;done)
 case data h=>cases h<;>cases he
 rename_i k off b jC;simp only at he;split at he
 case isFalse=>cases he
 obtain⟨cs,vs,ty,k1,k2,k3,k4,k5,k6,k7,k8,k9⟩:=R.box k b jC;simp only[k1]at he;split at he
 case h_2=>cases he
 rename_i v hv;cases he;obtain⟨aq,rfl⟩:=ad0.1 hv
 have nc:off<vs.size:=zo
 have dE:(loadVar t ⟨b,off,none⟩).run P w=.ok vs[off] w:=by
  have aaj:(isAgg t).run P w=.ok false w:=by
   unfold isAgg;rw[adK,adW fB w,<-kR]
   cases pQ<;>simp[eh]
  have hc:w.cell? ⟨b,off,none⟩=some vs[off]:=by simp[World.cell?,k3,nc]
  simp[loadVar,adK,aaj,hc]
 have R1:=R.Io k b jC vs vs ty k3 (cs.set off (cs[off]).aI) (by simpa using k6) (fun j h h'=>by
   simp only[aeM]at h;rw[af4];split
   .rename_i hj;subst hj;exact(k7 _ aq nc).aI
   .exact k7 j h h') (λj h h'=>by
   simp only[aeM]at h;rw[af4];split
   .exact h_ _ _ _
   .exact k8 j h h') (λj h=>by
   simp only[aeM]at h;rw[af4];split
   .have:=k9 off aq;exact(AV.pc _).trans this
   .exact k9 j h)
 rw[setRow_self w b vs ty (0,0) k3]at R1
 have R2:=R1.Hm (.cell k off) (some (.slot d)) (λt h=>by cases h) (λi j fX h hH hj=>by
  cases h;rw[aO]at hH;cases hH;simp only[ahq]
  exact AV.qD _)
 refine⟨vs[off],w,{ g with owner:=λb=>if g.owner b=some (.cell k off)then some (.slot d)else g.owner b },.inl ?_,rfl,rfl,?_⟩
 .unfold execOp;simp[ho,lE,Instr.loadAt,Instr.sureAddr,dE]
 .rw[iD];refine R2.put d _ _ hd.1 (.data _ _ (k7 _ aq nc)) ?_;have hh:=k8 off aq nc;generalize cs[off]=v at hh;generalize vs[off]=c at hh
  cases v<;>try trivial
  rename_i oo es
  cases oo with
  |view=>trivial
  |nil=>exact hh
  |own e=>
   obtain⟨i,xs,b,h1,h2,h3,h4,h5⟩:=hh;refine⟨i,xs,b,h1,h2,h3,?_,h5⟩;show(if g.owner b=some (.cell k off)then some (.slot d)else g.owner b)=_;rw[if_pos h4]
def run_sliceBound{x:Value}{i:Int}{y:Nat}{code:BoundsCode}(hx:x=.int .i64 i)(h0:0<=i)(h1:i<=y):(Instr.sliceBound x y code).run P w=.ok i.toNat w:=by
 subst hx;simp[Instr.sliceBound,asIntOf,h0,h1]
def Bb (R:Rel P w0 n U g S H a w) {lo hi:Option Operand} {zn du:Option cT} (uG:mM n lo=some zn) (Ah:mM n hi=some du) (Hr:∀ y∈zn,∀ t∈y.tmps,¬ U t) (U3:∀ y∈du,∀ t∈y.tmps,¬ U t)
  {len cap:Nat} (hlc:len<=cap) {p q:Int} (hp:bound (zn.map (AL.ev S)) 0=some p) (hq:bound (du.map (AL.ev S)) len=some q) (h0:0<=p) (h1:p<=q) (h2:q<=len) (sl:Bool):
  (Instr.sliceBounds sl len cap (lo.map a.eval) (hi.map a.eval) none).run P w=.ok (p.toNat,q.toNat,cap) w:=by
 have hh:∀code,(match hi.map a.eval with|some v=>Instr.sliceBound v cap code|none=>(pure len:Sem Nat)).run P w=.ok q.toNat w:=by
  intro code
  cases hi with
  |none=>
   cases Ah;simp only[Option.map_none,bound,ad8]at hq;subst hq;simp
  |some x=>
   simp only[mM,adP]at Ah;obtain⟨y,hy,rfl⟩:=Ah;have hv:=R.ev hy (U3 y rfl);simp only[Option.map_some,bound]at hq;generalize AL.ev S y=v at hq hv
   split at hq<;>simp only[ad8,reduceCtorEq]at hq
   .simp_all
   .rename_i m hm;simp only[ad8]at hm;subst hm;subst hq;simp only[Option.map_some];refine run_sliceBound ?_ zo zo;generalize a.eval x=cx at hv;cases hv;rename_i hv;cases hv;rfl
 have hl:∀code,(match lo.map a.eval with|some v=>Instr.sliceBound v q.toNat code|none=>(pure 0:Sem Nat)).run P w=.ok p.toNat w:=by
  intro code
  cases lo with
  |none=>
   cases uG;simp only[Option.map_none,bound,ad8]at hp;subst hp;simp
  |some x=>
   simp only[mM,adP]at uG;obtain⟨y,hy,rfl⟩:=uG;have hv:=R.ev hy (Hr y rfl);simp only[Option.map_some,bound]at hp;generalize AL.ev S y=v at hp hv
   split at hp<;>simp only[ad8,reduceCtorEq]at hp
   .simp_all
   .rename_i m hm;simp only[ad8]at hm;subst hm;subst hp;simp only[Option.map_some];refine run_sliceBound ?_ zo zo;generalize a.eval x=cx at hv;cases hv;rename_i hv;cases hv;rfl
 unfold Instr.sliceBounds
 cases hi with
 |none=>
  have h3:=hh .sliceB;simp only[Option.map_none]at h3⊢
  cases lo with
  |none=>have h4:=hl .sliceB;simp only[Option.map_none]at h4⊢;simp at h3 h4;simp[h3,h4]
  |some x=>have h4:=hl .sliceB;simp only[Option.map_some]at h4⊢;simp at h3;simp[h3,h4]
 |some y=>
  have h3:=λc=>hh c
  simp only[Option.map_some]at h3⊢
  cases lo with
  |none=>have h4:=hl .sliceB;simp only[Option.map_none]at h4⊢;simp at h4;simp[h3,h4]
  |some x=>have h4:=hl .sliceB;simp only[Option.map_some]at h4⊢;simp[h3,h4]
def G2 (R:Rel P w0 n U g S H a w) {o:Oper} {t:TypeId} {x:Operand} {lo hi:Option Operand} {y:cT} {zn du:Option cT} {e:aP} (ho:o.op = .slice t x lo hi none) (hd:∀ t,o.dst=some t→t < n∧¬ U t)
  (fB:P.underlying t=some .string) (hx:dz n x=some y) (hu:∀t∈y.tmps,¬U t) (uG:mM n lo=some zn) (Ah:mM n hi=some du) (Hr:∀y∈zn,∀t∈y.tmps,¬U t) (U3:∀y∈du,∀t∈y.tmps,¬U t)
  (he:aD S H (.oX y zn du)=some e):dc P w0 n U g S H a w o e:=by
 have hv:=R.ev hx hu;simp only[aD]at he;generalize sB:AL.ev S y=q at he hv;generalize lE:a.eval x=c at hv
 cases hv<;>(try cases he;done)
 rename_i h
 cases h<;>simp only at he<;>try cases he
 rename_i l;split at he
 case h_2=>cases he
 rename_i p q hp hq;split at he
 case isFalse=>cases he
 rename_i hc;cases he;have hb:=Bb R uG Ah Hr U3 (len:=l.length) (adF _) hp hq hc.1 hc.2.1 hc.2.2 false
 refine dc.val R (λt h=>(hd t h).1) (c:=.string ⟨((l.take q.toNat).drop p.toNat).toArray⟩) ?_ (.data _ _ (.str _)) λ_=>trivial
 have il:(Instr.sliceBounds false (⟨l.toArray⟩:ByteArray).size (⟨l.toArray⟩:ByteArray).size (lo.map a.eval) (hi.map a.eval) none).run P w=.ok (p.toNat,q.toNat,l.length) w:=hb;unfold execOp;simp only[ho,lE,Instr.sliceAt,adK,adW fB,Result.andThen_ok,Option.map_none,Instr.slice,Option.isSome_none,adM,ad1,Sem.run_pure,il];rw[ByteArray.extract_mk,List.drop_take]
def HC (R:Rel P w0 n U g S H a w) {o:Oper} {t el:TypeId} {i:TypeInfo} {x:Operand} {lo hi:Option Operand} {y:cT} {zn du:Option cT} {e:aP} (ho:o.op = .slice t x lo hi none) (hd:∀ t,o.dst=some t→t < n∧¬ U t)
  (fB:P.underlying t=some (.slice el)) (J':P.info? el=some i) (hx:dz n x=some y) (hu:∀t∈y.tmps,¬U t) (uG:mM n lo=some zn) (Ah:mM n hi=some du) (Hr:∀y∈zn,∀t∈y.tmps,¬U t) (U3:∀y∈du,∀t∈y.tmps,¬U t)
  (he:aD S H (.od i.size y zn du)=some e):dc P w0 n U g S H a w o e:=by
 have hv:=R.ev hx hu;simp only[aD]at he;generalize sB:AL.ev S y=q at he hv;generalize lE:a.eval x=c at hv
 cases hv<;>(try cases he;done)
 rename_i h
 have key:∀ (es:List AV) (ad:Option Addr) (cap:Nat),es.length≤cap→c = .slice ad es.length cap→∀ p q:Int,bound (zn.map (AL.ev S)) 0=some p→bound (du.map (AL.ev S)) es.length=some q→0≤p→p≤q→q≤es.length →
   (execOp a.eval o).run P w=.ok (.value (.slice (if cap=p.toNat then ad else ad.map (·.add (p.toNat*i.size))) (q.toNat-p.toNat) (cap-p.toNat))) w:=by
  rintro es ad cap fl rfl p q hp hq h0 h1 h2;have hb:=Bb R uG Ah Hr U3 fl hp hq h0 h1 h2 true;unfold execOp;simp[ho,lE,Instr.sliceAt,adK,adW fB,Instr.slice,hb,sizeOf,typeInfo,J']
 cases h with
 |iB oo=>
  simp only at he;split at he
  case h_2=>cases he
  rename_i p q hp hq;split at he
  case isFalse=>cases he
  rename_i hc;cases he;have hk:=key [] none 0 (adF _) rfl p q hp hq hc.1 hc.2.1 hc.2.2.1
  have Jx:q.toNat=0:=by have:=hc.2.2.1;simp at this;omega
  have CI:p.toNat=0:=by have:=hc.2.1;omega
  refine dc.val R (λt h=>(hd t h).1) hk (.data _ _ ?_) λ_=>trivial
  simp[Jx,CI];exact .iB _
 |jz oo a0=>
  simp only at he;split at he
  case h_2=>cases he
  rename_i p q hp hq;split at he
  case isFalse=>cases he
  rename_i hc;cases he;have hk:=key [] (some a0) 0 (adF _) rfl p q hp hq hc.1 hc.2.1 hc.2.2.1
  have Jx:q.toNat=0:=by have:=hc.2.2.1;simp at this;omega
  have CI:p.toNat=0:=by have:=hc.2.1;omega
  refine dc.val R (λt h=>(hd t h).1) hk (.data _ _ ?_) λ_=>trivial
  simp[Jx,CI];exact .jz _ _
 |slice oo es b off cap size cs fl uN bl h1 j5 hr=>
  simp only at he;split at he
  case h_2=>cases he
  rename_i p q hp hq;split at he
  case isFalse=>cases he
  rename_i hc;cases he;have hk:=key es (some ⟨b,off,none⟩) cap fl rfl p q hp hq hc.1 hc.2.1 hc.2.2.1;have bV:=nW.1 hc.2.2.2
  have hlq:q.toNat<=es.length:=by have:=hc.2.2.1;omega
  have hpq:p.toNat<=q.toNat:=by have:=hc.2.1;omega
  have hlen:((es.take q.toNat).drop p.toNat).length=q.toNat-p.toNat:=by simp;omega
  refine dc.val R (λt h=>(hd t h).1) hk (.data _ _ ?_) λ_=>trivial
  by_cases hm:cap=p.toNat
  .rw[if_pos hm];have uC:(es.take q.toNat).drop p.toNat=[]:=aem zo;rw[uC,show q.toNat-p.toNat=([]:List AV).length by simp;omega];exact .slice _ [] b off _ 0 cs (aeu _) (λh=>by cases h) (λi h=>by simp at h) (λi h=>by simp at h) (λk hk=>by simp at hk) (λi h=>by simp at h)
  .rw[if_neg hm];simp only[Option.map_some,aeA];rw[<-hlen]
   have im:∀j (h:j<((es.take q.toNat).drop p.toNat).length),((es.take q.toNat).drop p.toNat)[j]=es[p.toNat+j]'(by rw[hlen]at h;omega):=by intro j h;simp
   by_cases nB:es=[]
   .subst nB
    have uC:(([]:List AV).take q.toNat).drop p.toNat=[]:=ahB
    rw[uC];exact .slice _ [] b _ _ 0 cs (aeu _) (λh=>by cases h) (λi h=>by simp at h) (λi h=>by simp at h) (λk hk=>by simp at hk) (λi h=>by simp at h)
   .have iJ:0<es.length:=aeR.2 nB
    have YV:size=i.size:=by rw[<-bl 0 iJ];exact(bV _ (adC iJ)).2
    subst YV;refine .slice _ _ b _ _ i.size (λk=>cs (p.toNat*i.size+k)) zo (λh=>by cases h) (λj h=>by rw[im j h];exact bl _ _) (λj h k hk=>by have:=im j h;simp only[this]at hk⊢;exact h1 _ _ k hk) (λk hk=>?_) (λj h k hk=>?_)
    .rw[hlen]at hk
     have:p.toNat*i.size+k<es.length*i.size:=by
      calc p.toNat*i.size+k<p.toNat*i.size+(q.toNat-p.toNat)*i.size:=by omega
       _=q.toNat*i.size:=by rw[<-afg];congr 1;omega
       _<=es.length*i.size:=ae0 _ hlq
     have:=j5 _ this;rwa [<-afQ]at this
    .have e:=im j h;simp only[e]at hk⊢;have:=hr (p.toNat+j) (by rw[hlen]at h;omega) k hk;rwa [afg,afQ]at this
 |_=>cases he
def A3 (R:Rel P w0 n U g S H a w) {o:Oper} {neg:Bool} {t t' el:TypeId} {x:Operand} {y:cT} {e:aP} (ho:o.op = .binOp (if neg then .neq else .eql) t x (.const (.slice none 0 0)) t') (hd:∀ t,o.dst=some t→t < n∧¬ U t)
  (ht:P.underlying t=some (.slice el)) (hx:dz n x=some y) (hu:∀t∈y.tmps,¬U t) (he:aD S H (.isNil neg y)=some e):dc P w0 n U g S H a w o e:=by
 have hv:=R.ev hx hu;simp only[aD]at he;generalize sB:AL.ev S y=q at he hv;generalize lE:a.eval x=c at hv
 have run:∀ad l k,c=.slice ad l k->(execOp a.eval o).run P w=.ok (.value (.bool (if neg then !ad.isNone else ad.isNone))) w:=by
  rintro ad l k rfl;have hg:=hZ (P:=P) (w:=w) (if neg then .neq else .eql) t x (.const (.slice none 0 0)) (.slice ad l k) (.slice none 0 0) rfl
  have hE:(Op.equal t (.slice ad l k) (.slice none 0 0)).run P w=.ok ad.isNone w:=by
   unfold Op.equal Op.maxDepth Op.equalIn
   cases ad<;>simp[adW ht]
  have Xr:a.eval (.const (.slice none 0 0))=.slice none 0 0:=rfl;cases neg
  .simp only[adM,ad1]at ho hg⊢;simp[execOp,ho,lE,Xr,hg,binOp,hE]
  .simp only[aed]at ho hg⊢;simp[execOp,ho,lE,Xr,hg,binOp,hE]
 cases hv<;>(try cases he;done)
 rename_i h
 cases h<;>simp only at he<;>try cases he
 .exact dc.val R (λt h=>(hd t h).1) (run _ _ _ rfl) (.data _ _ (.l7 _)) λ_=>trivial
 .exact dc.val R (λt h=>(hd t h).1) (run _ _ _ rfl) (.data _ _ (.l7 _)) λ_=>trivial
 .rename_i oo es b off cap sz cs fl uN bl h1 hc hr
  refine dc.val R (λt h=>(hd t h).1) (run _ _ _ rfl) (.data _ _ ?_) λ_=>by cases es<;>trivial
  cases es
  .exact .l7 _
  .simp only[List.isEmpty_cons,adM,ad1,Option.isNone_some,agU]
   cases neg<;>exact .bool _
def Jt (R:Rel P w0 n U g S H a w) {o:Oper} {t el:TypeId} {i:TypeInfo} {e:aP} (ho:o.op = .buildSlice t 0 #[]) (hd:∀ t,o.dst=some t→t < n∧¬ U t)
  (fB:P.underlying t=some (.slice el)) (hi:P.info? el=some i) (he:aD S H (.empty el)=some e):dc P w0 n U g S H a w o e:=by
 cases he;have hb:Below w.heap.size w (w.alloc (.cells #[] el)):=(aeC _ _).alloc (adF _) _;refine⟨.slice (some ⟨w.heap.size,0,none⟩) 0 0,w.alloc (.cells #[] el),g,.inl ?_,rfl,rfl,(R.jV hb).aW o.dst _ _ (λt h=>(hd t h).1) (.data _ _ ?_) λ_ _=>trivial⟩
 .unfold execOp;have hz:(Array.map (λ_:Nat=>(default:Value)) (Array.range 0))=#[]:=afd ahB;simp[ho,Instr.buildSlice,adW fB,sizeOf,typeInfo,hi,Instr.fill,newRow,hz]
 .exact .slice _ [] _ 0 0 0 (λ_=>undef) (aeu _) (λ_=>rfl) (λi h=>by simp at h) (λi h=>by simp at h) (λk hk=>by simp at hk) (λi h=>by simp at h)
def IJ (R:Rel P w0 n U g S H a w) {o:Oper} {xt t:TypeId} {dt:TypeDesc} {i:TypeInfo} {z:Value} {zs:List AV} {x:Operand} {y:cT} {e:aP} (ho:o.op = .typeAssert x xt t true) (hd:∀ t,o.dst=some t→t < n∧¬ U t)
  (ht:P.underlying t=some dt) (Et:∀ms,dt≠.interface ms) (hi:P.info? t=some i) (hz:i.zero=some (.agg z.cells)) (pY:iW z.cells.toList=some zs) (hx:dz n x=some y) (hu:∀t∈y.tmps,¬U t)
  (he:aD S H (.assert t (.agg zs) y)=some e):dc P w0 n U g S H a w o e:=by
 have hv:=R.ev hx hu;simp only[aD]at he;generalize sB:AL.ev S y=q at he hv;generalize lE:a.eval x=c at hv;have M1:=(iG g.Pr w pY).1;have VU:RD g.Pr w (.agg zs) (.agg z.cells):=.agg _ _ (by simpa using M1.1) M1.2.2 (λi h h'=>by simpa using M1.2.1 i h (by simpa using h'))
 have two:∀(v:AV)(c:Value)(b:Bool),RD g.Pr w v c->RD g.Pr w (.dY [v,.bool b]) (.tuple #[c,.bool b]):=by
  intro v c b h
  refine .dY _ _ rfl λi hi du=>?_
  match i,hi with
  |0,_=>exact h
  |1,_=>exact .bool b
 cases hv<;>(try cases he;done)
 rename_i h
 cases h<;>simp only at he<;>try cases he
 .rename_i t' v c' h
  refine dc.val R (λt h=>(hd t h).1) (c:=if t'=t then .tuple #[c',.bool true]else .tuple #[.agg z.cells,.bool false]) ?_ (.data _ _ ?_) λ_=>by split<;>trivial
  .unfold execOp;simp only[ho,lE,Instr.typeAssert,adK,adW ht,Result.andThen_ok]
   cases dt<;>first|exact absurd rfl (Et _)|skip
   all_goals (split<;>simp[zeroValue,typeInfo,hi,hz])
  .split
   .exact two _ _ _ h
   .exact two _ _ _ VU
 .refine dc.val R (λt h=>(hd t h).1) (c:=.tuple #[.agg z.cells,.bool false]) ?_ (.data _ _ (two _ _ _ VU)) λ_=>trivial
  unfold execOp;simp only[ho,lE,Instr.typeAssert,adK,adW ht,Result.andThen_ok]
  cases dt<;>first|exact absurd rfl (Et _)|skip
  all_goals simp[zeroValue,typeInfo,hi,hz]
end
def vV(k:TypeId->Option Nat):List Field->Nat->Option Nat
 |[],acc=>some acc
 |f::fs,acc=>if f.name = "_" \/ f.offset≠acc then none else
  match k f.type with
  |some m=>vV k fs (acc+m)
  |none=>none
def mm(P:Program):Nat->TypeId->Option Nat
 |0,_=>none
 |d+1,t=>match P.underlying t,P.info? t with
  |some (.int .i64),some i=>if i.size=1 then some 1 else none
  |some (.struct fs),some i=>if P.stoodInHeld t=false/\vV (mm P d) fs.toList 0=some i.size then some i.size else none
  |_,_=>none
def gu(l:List Int):Array Value:=(l.map (Value.int .i64)).toArray
def oA(P:Program)(t:TypeId)(l:List Int):Value:=
 match P.underlying t with
 |some (.int _)=>.int .i64 (l.headD 0)
 |_=>.agg (gu l)
section
variable{P:Program}{w:World}
def Aa {d:Nat} {t:TypeId} {k:Nat} (h:mm P d t=some k) (l:List Int) (off:Nat) (hl:off+k≤l.length) :
  (part t (gu l) off).run P w=.ok (oA P t ((l.drop off).take k)) w:=by
 cases d with
 |zero=>cases h
 |succ d=>
  simp only[mm]at h;split at h
  .rename_i i hu hi
   split at h<;>cases h
   rename_i hs
   have kR:(isAgg t).run P w=.ok false w:=by
    unfold isAgg;rw[adK,adW hu w];simp
   have aq:off<l.length:=zo
   have B':((l.drop off).take 1).headD 0=l[off]:=by
    rw[afE aq];rfl
   simp only[part,adK,kR,Result.andThen_ok,adM,ad1,oA,hu,B'];simp[gu,aq]
  .rename_i fs i hu hi
   split at h<;>cases h
   have kR:(isAgg t).run P w=.ok true w:=by
    unfold isAgg;rw[adK,adW hu w];simp
   simp only[part,adK,kR,Result.andThen_ok,aed,oA,hu];simp only[sizeOf,typeInfo,adK];simp[gu,afv,ag0,hi]
  .cases h
def Nb(a b:List Int)(k:Nat)(h:a.length=b.length):(a==b)=((a.take k==b.take k)&&(a.drop k==b.drop k)):=by
 rw[aep];simp only[adE,aej]
 constructor
 .rintro rfl;exact⟨rfl,rfl⟩
 .rintro⟨h1,h2⟩;rw[<-aeX k a,<-aeX k b,h1,h2]
def yV {d:Nat} (ih:∀ t k,mm P d t=some k→∀ a b:List Int,a.length=k→b.length=k→(Op.equalIn d t (oA P t a) (oA P t b)).run P w = .ok (a==b) w) :
  ∀(fs:List Field)(acc po:Nat),vV (mm P d) fs acc=some po->∀l m:List Int,l.length=po->m.length=po->
   acc<=po/\(Op.eqFields d (gu l) (gu m) fs).run P w=.ok (l.drop acc==m.drop acc) w
 |[],acc,po,h,l,m,hl,hm=>by
  cases h;refine⟨adF _,?_⟩;have e1:l.drop acc=[]:=aeU zo;have e2:m.drop acc=[]:=aeU zo;rw[e1,e2];simp[Op.eqFields]
 |f::fs,acc,po,h,l,m,hl,hm=>by
  simp only[vV]at h;split at h
  case isTrue=>cases h
  rename_i hn;simp only[not_or,ne_eq,agu]at hn;split at h
  case h_2=>cases h
  rename_i k hk;obtain⟨hle,yM⟩:=yV ih fs (acc+k) po h l m hl hm;refine⟨zo,?_⟩;have e1:=Aa (w:=w) hk l acc zo;have e2:=Aa (w:=w) hk m acc zo;have e3:=ih f.type k hk ((l.drop acc).take k) ((m.drop acc).take k) (by simp;omega) (by simp;omega);simp only[Op.eqFields,ne_eq,hn.1,not_false_eq_true,aed,hn.2,adK,e1,e2,Result.andThen_ok,e3];rw[Nb (l.drop acc) (m.drop acc) k (by simp;omega)];rw[af1,af1];generalize((l.drop acc).take k==(m.drop acc).take k)=q
  cases q with
  |false=>simp
  |true=>simpa using yM
def rB:∀(d:Nat)(t:TypeId)(k:Nat),mm P d t=some k->∀a b:List Int,a.length=k->b.length=k->(Op.equalIn d t (oA P t a) (oA P t b)).run P w=.ok (a==b) w
 |0,t,k,h,a,b,ha,hb=>by cases h
 |d+1,t,k,h,a,b,ha,hb=>by
  simp only[mm]at h;split at h
  .rename_i i hu hi
   split at h<;>cases h
   match a,ha,b,hb with
   |[x],_,[y],_=>
    simp only[oA,hu];rw[run_equalIn_int w d t .i64 .i64 _ _ hu];simp
  .rename_i fs i hu hi
   split at h<;>cases h
   rename_i hc
   have hf:P.fieldsOf t=fs:=by simp[Program.fieldsOf,hu]
   simp only[oA,hu];rw[run_equalIn_struct w d t _ _ (by rw[hf];exact hu) hc.1,hf];exact(yV (rB d) fs.toList 0 i.size hc.2 a b ha hb).2
  .cases h
def qE {Pr:Nat→Nat→Prop}:∀ {xs:List AV} {a:List Int},kC xs=some a→∀ {vs:List Value},xs.length=vs.length →
  (∀i (h:i<xs.length)(h':i<vs.length),RD Pr w xs[i] vs[i])->vs=a.map (Value.int .i64)/\a.length=xs.length
 |[],a,h,vs,hl,hr=>by
  cases h;have:vs=[]:=afh.1 hl.symm;subst this;exact⟨rfl,rfl⟩
 |x::xs,a,h,vs,hl,hr=>by
  cases vs with
  |nil=>simp at hl
  |cons v vs=>
   unfold kC at h;split at h
   .rename_i e;cases e
   .rename_i n cs e;cases e;simp only[adP]at h;obtain⟨a',ha,rfl⟩:=h;have h0:=hr 0 ahB ahB;simp only[List.getElem_cons_zero]at h0;cases h0;obtain⟨h1,h2⟩:=qE ha (by simpa using hl) (λi h h'=>hr (i+1) (by simpa using h) (by simpa using h'));rw[h1];exact⟨rfl,by simp[h2]⟩
   .cases h
variable{w0:World}{n:Nat}{U:Nat->Prop}{g:Gh}{S:an}{H:ao}{a:Act}
def GP (R:Rel P w0 n U g S H a w) {o:Oper} {neg:Bool} {k:Nat} {t t':TypeId} {fs:Array Field} {x1 x2:Operand} {y1 y2:cT} {e:aP} (ho:o.op = .binOp (if neg then .neq else .eql) t x1 x2 t') (hd:∀ t,o.dst=some t→t < n∧¬ U t)
  (fB:P.underlying t=some (.struct fs)) (hk:mm P 10000 t=some k) (Dj:P.eqGuardType P.depth t=false) (oy:dz n x1=some y1) (mJ:dz n x2=some y2) (pW:∀t∈y1.tmps,¬U t) (qe:∀t∈y2.tmps,¬U t)
  (he:aD S H (.eqs neg k y1 y2)=some e):dc P w0 n U g S H a w o e:=by
 have fD:=R.ev oy pW;have fh:=R.ev mJ qe;simp only[aD]at he;generalize AL.ev S y1=p1 at he fD;generalize AL.ev S y2=p2 at he fh;generalize kc:a.eval x1=c1 at fD;generalize jS:a.eval x2=c2 at fh;split at he
 case h_2=>cases he
 rename_i xs ys;split at he
 case h_2=>cases he
 rename_i Ck bs ha hb
 split at he<;>cases he
 rename_i hlen;have q1:=fD.dX rfl;have q2:=fh.dX rfl;cases q1;rename_i vs hl h1 hr;cases q2;rename_i us o_ Hi ir;obtain⟨e1,_⟩:=qE (vs:=vs.toList) ha (by simpa using hl) (λi h h'=>by simpa using hr i h (by simpa using h'));obtain⟨e2,_⟩:=qE (vs:=us.toList) hb (by simpa using o_) (λi h h'=>by simpa using ir i h (by simpa using h'))
 have f1:vs=gu Ck:=by rw[gu,<-e1]
 have f2:us=gu bs:=by rw[gu,<-e2]
 subst f1 f2;have hE:=rB (P:=P) (w:=w) 10000 t k hk Ck bs hlen.1 hlen.2;simp only[oA,fB]at hE;have hg:=run_eqGuard_agg w (if neg then .neq else .eql) t x1 x2 (gu Ck) (gu bs) Dj
 refine dc.val R (λt h=>(hd t h).1) (c:=.bool (if neg then Ck !=bs else Ck==bs)) ?_ (.data _ _ (.bool _)) λ_=>trivial
 cases neg with
 |true=>
  simp only[aed]at ho hg⊢;simp[execOp,ho,kc,jS,hg,run_neq_struct,hE,bne,adK]
 |false=>
  simp only[adM,ad1]at ho hg⊢;simp[execOp,ho,kc,jS,hg,run_eql_struct,hE,adK]
end
section
variable{P:Program}{w0:World}{n:Nat}{U:Nat->Prop}{g:Gh}{S:an}{H:ao}{a:Act}{w:World}
def GU (R:Rel P w0 n U g S H a w) {o:Oper} {t el:TypeId} {len:Nat} {it ie:TypeInfo} {z:Value} {ps:Array (Nat×Operand)} {zs:List AV} {qs:List (Nat×Nat×cT)} {e:aP} (ho:o.op = .build t ps) (hd:∀ t,o.dst=some t→t < n∧¬ U t)
  (hi:P.info? t=some it) (fB:P.underlying t=some (.array len el)) (hz:it.zero=some z) (IK:P.info? el=some ie) (pY:iW z.cells.toList=some zs) (hq:s_ n (λi=>some (i*ie.size,ie.size)) ps.toList=some qs)
  (hu:∀q∈qs,∀t∈q.2.2.tmps,¬U t) (he:aD S H (.build (zs.map AV.aI) qs)=some e):dc P w0 n U g S H a w o e:=by
 simp only[aD,adP]at he;obtain⟨fX,hc,rfl⟩:=he;have Ol:=(iG g.Pr w pY).1
 have Tj:pE g.Pr w (zs.map AV.aI) z.cells:=by
  refine⟨by simpa using Ol.1,λi h h'=>?_,λi h=>?_⟩
  .simp only[adH]at h;have:=(Ol.2.1 i h (by simpa using h')).aI;simpa using this
  .simp only[adH]at h;have:=Ol.2.2 i h;simp only[adR];exact(AV.pc _).trans this
 obtain⟨lu,h1,h2⟩:=vz R hq hu Tj hc
 have hb:P.built t (ps.map λ(i,x)=>(i,a.eval x)).toList=some lu:=by
  unfold Program.built;simp only[hi,fB,hz,IK,agw];exact h1
 refine dc.val R (λt h=>(hd t h).1) (c:=.agg lu) ?_ (.data _ _ (.agg _ _ h2.1 h2.2.2 h2.2.1)) λ_=>trivial
 unfold execOp;simp only[ho,adK,ahG w t _ lu hb,Result.andThen_ok]
 rfl
def Kt {Pr:Nat→Nat→Prop} {ty:TypeId} {i:TypeInfo} {pQ:TypeDesc} (hi:P.info? ty=some i) (hu:P.underlying ty=some pQ) {cs:List AV} {vs:Array Value} {off:Nat} {v:AV}
  (hr:RD Pr w (.agg cs) (.agg vs)) (he:cd (eh pQ) i.size (cs.drop off)=some v):∃c,(part ty vs off).run P w=.ok c w/\RD Pr w v c:=by
 cases hr;rename_i h1 hl hr
 have kR:(isAgg ty).run P w=.ok (eh pQ) w:=by
  unfold isAgg;rw[adK,adW hu w]
  cases pQ<;>simp[eh]
 generalize eh pQ=q at he kR
 cases q with
 |true=>
  simp only[cd,aed,ael]at he;split at he
  case isFalse=>cases he
  rename_i hle;cases he;refine⟨.agg (vs.extract off (off+i.size)),by simp[part,adK,kR,sizeOf,typeInfo,hi],?_⟩
  refine .agg _ _ (by simp;omega) (λk hk=>?_) λk hk cz=>?_
  .simp only[adH,adS,ael]at hk;simp only[adR,afY,ae3];have:=h1 (off+k) zo;exact(AV.pc _).trans this
  .simp only[adH,adS,ael]at hk;have:=(hr (off+k) zo zo).aI;simpa using this
 |false=>
  simp only[cd,adM,ad1,adP]at he;obtain⟨v0,WG,rfl⟩:=he;simp only[afR,Nat.add_zero]at WG;obtain⟨h0,rfl⟩:=ad0.1 WG
  have hv:off<vs.size:=zo
  exact⟨vs[off],by simp[part,adK,kR,hv],(hr off h0 hv).aI⟩
def Hh (R:Rel P w0 n U g S H a w) {o:Oper} {t el:TypeId} {len:Nat} {ie:TypeInfo} {pQ:TypeDesc} {x1 x2:Operand} {y1 y2:cT} {e:aP} (ho:o.op = .index t x1 x2) (hd:∀ t,o.dst=some t→t < n∧¬ U t)
  (fB:P.underlying t=some (.array len el)) (hi:P.info? el=some ie) (YX:P.underlying el=some pQ) (oy:dz n x1=some y1) (mJ:dz n x2=some y2) (pW:∀t∈y1.tmps,¬U t) (qe:∀t∈y2.tmps,¬U t)
  (he:aD S H (.mN (eh pQ) len ie.size y1 y2)=some e):dc P w0 n U g S H a w o e:=by
 have fD:=R.ev oy pW;have fh:=R.ev mJ qe;simp only[aD]at he;generalize AL.ev S y1=p1 at he fD;generalize AL.ev S y2=p2 at he fh;generalize kc:a.eval x1=c1 at fD;generalize jS:a.eval x2=c2 at fh;split at he
 case h_2=>cases he
 rename_i cs k;split at he
 case isFalse=>cases he
 rename_i hk;simp only[adP]at he;obtain⟨v,hv,rfl⟩:=he;have q1:=fD.dX rfl;have q2:=fh.dX rfl;cases q2;have q1':=q1;cases q1;obtain⟨c,h1,h2⟩:=Kt (P:=P) hi YX q1' hv
 refine dc.val R (λt h=>(hd t h).1) (c:=c) ?_ (.data _ _ h2) λ_=>?_
 .simp only[execOp,ho,kc,jS,Instr.index,adK];simp[asIntOf,adW fB,hk,sizeOf,typeInfo,hi,adK,h1]
 .simp only[cd]at hv;split at hv
  .split at hv<;>cases hv;trivial
  .simp only[adP]at hv;obtain⟨u,_,rfl⟩:=hv;exact h_ _ _ _
def BR{Pr:Nat->Nat->Prop}:∀{es:List AV}{l:List UInt8},bytesOf es=some l->l.length=es.length/\∀j (h:j<es.length)(h':j<l.length),es[j]=.int .u8 (l[j].toNat:Int)
 |[],l,h=>by cases h;exact⟨rfl,λj h=>by simp at h⟩
 |x::es,l,h=>by
  unfold bytesOf at h;split at h
  .rename_i e;cases e
  .rename_i m cs e;cases e;split at h
   case isFalse=>cases h
   rename_i hm;simp only[adP]at h;obtain⟨l',hl,rfl⟩:=h;obtain⟨h1,h2⟩:=BR (Pr:=Pr) hl;refine⟨by simp[h1],λj hj dZ=>?_⟩
   cases j with
   |zero=>
    simp only[List.getElem_cons_zero]
    have:((UInt8.ofNat m.toNat).toNat:Int)=m:=by
     have h3:m.toNat<256:=zo
     simp[UInt8.toNat_ofNat',Nat.mod_eq_of_lt h3];omega
    rw[this]
   |succ j=>simpa using h2 j (by simpa using hj) (by simpa using dZ)
  .cases h
def NI (R:Rel P w0 n U g S H a w) {o:Oper} {s d el:TypeId} {x:Operand} {y:cT} {e:aP} (ho:o.op = .convert s d x) (hd:∀ t,o.dst=some t→t < n∧¬ U t)
  (hs:P.underlying s=some (.slice el)) (Es:P.underlying el=some (.int .u8)) (Dp:P.underlying d=some .string) (hx:dz n x=some y) (hu:∀t∈y.tmps,¬U t)
  (he:aD S H (.zm y)=some e):dc P w0 n U g S H a w o e:=by
 have hv:=R.ev hx hu;simp only[aD]at he;generalize AL.ev S y=p at he hv;generalize hc:a.eval x=c at hv;split at he
 case h_2=>cases he
 rename_i ow es;simp only[adP]at he;obtain⟨l,hl,rfl⟩:=he;obtain⟨hlen,im⟩:=BR (Pr:=g.Pr) hl;have q:=hv.dX rfl
 cases q with
 |iB=>
  have:l=[]:=afh.1 (by simpa using hlen);subst this
  refine dc.val R (λt h=>(hd t h).1) (c:=.string ByteArray.empty) ?_ (.data _ _ (.str [])) λ_=>trivial
  simp[execOp,ho,hc,run_convert_bytes_nil w s el hs Es 0 0 d Dp]
 |jz _ a0=>
  have:l=[]:=afh.1 (by simpa using hlen);subst this
  refine dc.val R (λt h=>(hd t h).1) (c:=.string ByteArray.empty) ?_ (.data _ _ (.str [])) λ_=>trivial
  have Qb:(convert s d (.slice (some a0) 0 0)).run P w=.ok (.string ByteArray.empty) w:=by
   rw[run_convert_bytes_string w s d el _ 0 0 hs Es Dp];simp[Conv.bytesToString,loadCells,loadCellsFrom]
  simp[execOp,ho,hc,Qb]
 |slice _ _ b off cap size cs fl uN bl h1 eO hr=>
  refine dc.val R (λt h=>(hd t h).1) (c:=.string ⟨l.toArray⟩) ?_ (.data _ _ (.str l)) λ_=>trivial
  have Qb:=run_convert_bytes_back (P:=P) w s d el ⟨b,off,none⟩ cap l hs Es Dp (λj hj=>by
   have dZ:j<es.length:=zo
   have e1:=im j dZ hj;have yb:=bl j dZ
   have kH:(es[j]).cells.length=1:=by rw[e1];rfl
   have XC:size=1:=by rw[<-yb,kH]
   subst XC;have h2:=eO j zo;have h3:=hr j dZ 0 (by rw[kH];omega)
   have h4:(es[j]).cells[0]'(by rw[kH];omega)=.int .u8 (l[j].toNat:Int):=by
    have:∀(v:AV)(hh:0<v.cells.length)(q:AV),v=q->(h':0<q.cells.length)->v.cells[0]=q.cells[0]:=by rintro v hh q rfl _;rfl
    rw[this _ _ _ e1 (by simp[AV.cells])]
    rfl
   rw[h4]at h3;simp only[afk,Nat.add_zero]at h3;rw[aeA,h2.2];generalize cs j=u at h3;cases h3
   rfl)
  rw[hlen]at Qb;simp[execOp,ho,hc,Qb]
end
section
variable{P:Program}{w:World}
def ux{α:Type}(f:α->PUnit->Sem (ForInStep PUnit)):∀(l:List α),(∀x∈l,(f x PUnit.unit).run P w=.ok (ForInStep.yield PUnit.unit) w)->(forIn l PUnit.unit f:Sem PUnit).run P w=.ok PUnit.unit w
 |[],_=>ahB
 |x::l,h=>by
  simp only[List.forIn_cons,adK,h x adX,Result.andThen_ok]
  exact ux f l λy hy=>h y (adO _ hy)
def BX{k:TypeId->Option Nat}:∀{fs:List Field}{acc po:Nat},vV k fs acc=some po->acc<=po/\∀f∈fs,∃m,k f.type=some m/\f.offset+m<=po
 |[],acc,po,h=>by cases h;exact⟨adF _,λ_ h=>by cases h⟩
 |f::fs,acc,po,h=>by
  simp only[vV]at h;split at h
  case isTrue=>cases h
  rename_i hn;simp only[not_or,ne_eq,agu]at hn;split at h
  case h_2=>cases h
  rename_i m hm;obtain⟨h1,h2⟩:=BX h;refine⟨zo,λf' uJ=>?_⟩;rcases ad_.1 uJ with rfl|uJ
  .exact⟨m,hm,zo⟩
  .exact h2 f' uJ
def vD(b:Bool):∀(d:Nat)(t:TypeId)(k:Nat),mm P d t=some k->∀a:List Int,a.length=k->(Instr.checkKey b d t (oA P t a)).run P w=.ok () w
 |0,t,k,h,a,ha=>by cases h
 |d+1,t,k,h,a,ha=>by
  simp only[mm]at h;split at h
  .rename_i i hu hi;simp[Instr.checkKey,adW hu,oA,hu]
  .rename_i fs i hu hi
   split at h<;>cases h
   rename_i hc;obtain⟨_,hm⟩:=BX hc.2;simp only[Instr.checkKey,adK,adW hu,Result.andThen_ok,oA,hu];rw[<-Array.forIn_toList];rw[ux (P:=P) (w:=w)]
   .simp
   .intro f hf;obtain⟨m,h1,h2⟩:=hm f hf;rw[Sem.run_ite];split
    .simp only[adK,Aa (w:=w) h1 a f.offset zo,Result.andThen_ok,vD b d f.type m h1 ((a.drop f.offset).take m) (by simp;omega),Sem.run_pure]
    .simp
  .cases h
def lJ {kt:TypeId} {fs:Array Field} {k:Nat} (hu:P.underlying kt=some (.struct fs)) (hk:mm P 10000 kt=some k) {Pr:Nat→Nat→Prop} (key:List Int) (hl:key.length=k) :
  ∀(ks vs:List AV)(es:List MapEntry)(i:Nat)(r:Option AV),ks.length=es.length->vs.length=es.length->(∀j (h:j<ks.length)(h':j<es.length),RD Pr w ks[j] (es[j]).key)->(∀j (h:j<vs.length)(h':j<es.length),RD Pr w vs[j] (es[j]).val)->
   oT key ks vs=some r->∃q,(Instr.findAsking kt (.agg (gu key)) es i).run P w=.ok q w/\(match r,q with
    |none,none=>True
    |some v,some (_,c)=>RD Pr w v c
    |_,_=>False)
 |[],vs,es,i,r,h1,h2,_,_,h=>by
  have:es=[]:=afh.1 h1.symm;subst this;cases h;exact⟨none,by simp[Instr.findAsking],trivial⟩
 |kk::ks,vs,[],i,r,h1,_,_,_,_=>by simp at h1
 |kk::ks,[],e::es,i,r,_,h2,_,_,_=>by simp at h2
 |kk::ks,v::vs,e::es,i,r,h1,h2,hr,ir,h=>by
  unfold oT at h;split at h
  .rename_i e1;cases e1
  .rename_i c ks' v' lu e1 e2;cases e1;cases e2;split at h
   case h_2=>cases h
   rename_i m hm;split at h
   case isTrue=>cases h
   rename_i SA;simp only[ne_eq,agu]at SA;have h0:=hr 0 ahB ahB;simp only[List.getElem_cons_zero]at h0;have M0:=h0;generalize hek:e.key=ek at h0;cases h0;rename_i us h3 h4 h5;obtain⟨e3,_⟩:=qE (vs:=us.toList) hm (by simpa using h3) (λi h h'=>by simpa using h5 i h (by simpa using h'))
   have f1:us=gu m:=by rw[gu,<-e3]
   have hE:=rB (P:=P) (w:=w) 10000 kt k hk key m hl zo;simp only[oA,hu]at hE;rw[<-f1]at hE
   have hE':(Op.equal kt (.agg (gu key)) e.key).run P w=.ok (key==m) w:=by rw[hek];exact hE
   split at h
   .rename_i hb;cases h;exact⟨some (i,e.val),by simp[Instr.findAsking,hE',hb],ir 0 ahB ahB⟩
   .rename_i hb;obtain⟨q,q1,q2⟩:=lJ hu hk key hl ks vs es (i+1) r (by simpa using h1) (by simpa using h2) (λj h h'=>hr (j+1) (by simpa using h) (by simpa using h')) (λj h h'=>ir (j+1) (by simpa using h) (by simpa using h')) h;exact⟨q,by simp[Instr.findAsking,hE',hb,q1],q2⟩
  .cases h
variable{w0:World}{n:Nat}{U:Nat->Prop}{g:Gh}{S:an}{H:ao}{a:Act}
def Iw (R:Rel P w0 n U g S H a w) {o:Oper} {t kt el:TypeId} {fs:Array Field} {k:Nat} {ie:TypeInfo} {z:Value} {zs:List AV} {x1 x2:Operand} {y1 y2:cT} {e:aP} (ho:o.op = .lookup t x1 x2 true) (hd:∀ t,o.dst=some t→t < n∧¬ U t)
  (fB:P.underlying t=some (.map kt el)) (hu:P.underlying kt=some (.struct fs)) (hk:mm P 10000 kt=some k) (hi:P.info? el=some ie) (hz:ie.zero=some (.agg z.cells)) (pY:iW z.cells.toList=some zs)
  (oy:dz n x1=some y1) (mJ:dz n x2=some y2) (pW:∀t∈y1.tmps,¬U t) (qe:∀t∈y2.tmps,¬U t)
  (he:aD S H (.lookup k (.agg zs) y1 y2)=some e):dc P w0 n U g S H a w o e:=by
 have fD:=R.ev oy pW;have fh:=R.ev mJ qe;simp only[aD]at he;generalize AL.ev S y1=p1 at he fD;generalize AL.ev S y2=p2 at he fh;generalize kc:a.eval x1=c1 at fD;generalize jS:a.eval x2=c2 at fh;have M1:=(iG g.Pr w pY).1;have VU:RD g.Pr w (.agg zs) (.agg z.cells):=.agg _ _ (by simpa using M1.1) M1.2.2 (λi h h'=>by simpa using M1.2.1 i h (by simpa using h'))
 have two:∀(v:AV)(c:Value)(b:Bool),RD g.Pr w v c->RD g.Pr w (.dY [v,.bool b]) (.tuple #[c,.bool b]):=by
  intro v c b h
  refine .dY _ _ rfl λi hi du=>?_
  match i,hi with
  |0,_=>exact h
  |1,_=>exact .bool b
 split at he
 case h_2=>cases he
 rename_i ks vs c;split at he
 case h_2=>cases he
 rename_i key ab8;split at he
 case isFalse=>cases he
 rename_i hl;have q2:=fh.dX rfl;cases q2;rename_i us h3 h4 h5;obtain⟨e3,_⟩:=qE (vs:=us.toList) ab8 (by simpa using h3) (λi h h'=>by simpa using h5 i h (by simpa using h'))
 have f1:us=gu key:=by rw[gu,<-e3]
 subst f1
 have xK:(match P.underlying kt with|some (.array _ _)|some (.struct _)=>true|_=>false)=true:=by rw[hu]
 have q1:=fD.dX rfl
 obtain ⟨es,nB,TD,ky,Du,hk4⟩:∃ es:Array MapEntry,(∀ K:Array MapEntry→Sem Value,((do
    let es<-match c1 with
     |.map none=>pure #[]
     |.map (some r)=>do
      let .map es _ <-getObj r | stuck "Lookup: map expected"
      pure es
     |_=>stuck "Lookup: map expected"
    K es):Sem Value).run P w=(K es).run P w)/\ks.length=es.size/\vs.length=es.size/\(∀j (h:j<ks.length)(h':j<es.size),RD g.Pr w ks[j] (es[j]).key)/\(∀j (h:j<vs.length)(h':j<es.size),RD g.Pr w vs[j] (es[j]).val):=by
  cases q1 with
  |map _ _ b es clock hb hm hk hv hr ir=>
   exact⟨es,λK=>by simp[adK,afU hm],hk,hv,hr,ir⟩
  |ui=>exact⟨#[],λK=>ahB,rfl,rfl,λj h=>by simp at h,λj h=>by simp at h⟩
 have zq:=vD (P:=P) (w:=w) es.isEmpty 10000 kt k hk key hl;simp only[oA,hu]at zq
 have main:∀ r,oT key ks vs=some r→(execOp a.eval o).run P w = .ok (.value (match r with | some _ => .tuple #[(match (Instr.findAsking kt (.agg (gu key)) es.toList 0).run P w with | .ok (some (_,c)) _=>c | _=>undef),.bool true] | none => .tuple #[.agg z.cells,.bool false])) w ∧
   (∀v,r=some v->RD g.Pr w v (match(Instr.findAsking kt (.agg (gu key)) es.toList 0).run P w with|.ok (some (_,c)) _=>c|_=>undef)):=by
  intro r hr;obtain⟨q,q1,q2⟩:=lJ (w:=w) (Pr:=g.Pr) hu hk key hl ks vs es.toList 0 r (by simpa using TD) (by simpa using ky) (λj h h'=>by simpa using Du j h (by simpa using h')) (λj h h'=>by simpa using hk4 j h (by simpa using h')) hr;have yf:=(run_findKey_eq (P:=P) (w:=w) xK (.agg (gu key)) es.toList).trans q1
  have dE:(Instr.lookup t c1 (.agg (gu key)) true).run P w=.ok (match q with|some (_,v)=>.tuple #[v,.bool true]|none=>.tuple #[.agg z.cells,.bool false]) w:=by
   unfold Instr.lookup;simp only[adK,adW fB,Result.andThen_ok]
   have:=nB (λes=>do
    Instr.checkKey es.isEmpty 10000 kt (.agg (gu key))
    let(v,ok)<-match<-Instr.findKey kt (.agg (gu key)) es.toList with
     |some (_,v)=>pure (v,true)
     |none=>pure (<-zeroValue el,false)
    pure (if true=true then .tuple #[v,.bool ok]else v))
   simp only[adK]at this;refine this.trans ?_;simp only[zq,Result.andThen_ok,yf]
   cases q with
   |none=>simp[zeroValue,typeInfo,hi,hz]
   |some p=>simp
  refine⟨?_,?_⟩
  .unfold execOp;simp only[ho,kc,jS,adK,dE,Result.andThen_ok,q1]
   cases r<;>cases q<;>first|exact q2.elim|rfl
  .rintro v rfl;rw[q1]
   cases q with
   |none=>exact q2.elim
   |some p=>exact q2
 split at he
 .rename_i v hv;cases he;obtain⟨m1,m2⟩:=main _ hv
  exact dc.val R (λt h=>(hd t h).1) m1 (.data _ _ (two _ _ _ (m2 v rfl).aI)) λ_=>trivial
 .rename_i hv;cases he;obtain⟨m1,m2⟩:=main _ hv
  exact dc.val R (λt h=>(hd t h).1) m1 (.data _ _ (two _ _ _ VU)) λ_=>trivial
 .cases he
end
section
variable{P:Program}{w0:World}{n:Nat}{U:Nat->Prop}{g:Gh}{S:an}{H:ao}{a:Act}{w:World}
def Ru{Pr:Nat->Nat->Prop}{al:Nat->Option Nat}{v:AV}{c:Value}(h:RV Pr al w v c)(hf:Be v=true):c.cells=#[c]:=by
 cases h with
 |data v c h=>
  cases h with
  |val c hc=>cases c<;>first|rfl|cases hc
  |_=>cases hf
 |func=>rfl
 |box=>cases hf
 |gY=>cases hf
 |bp=>cases hf
def Jk (R:Rel P w0 n U g S H a w) {o:Oper} {t el:TypeId} {len:Nat} {it ie:TypeInfo} {z:Value} {ps:Array (Nat×Operand)} {xs:List Operand} {ys:List cT} {e:aP} (ho:o.op = .build t ps) (hd:∀ t,o.dst=some t→t < n∧¬ U t)
  (hi:P.info? t=some it) (fB:P.underlying t=some (.array len el)) (hz:it.zero=some z) (IK:P.info? el=some ie) (hs:ie.size=1) (pY:z.cells.size=xs.length)
  (kn:ps.toList=(xs.zipIdx 0).map λx=>(x.2,x.1)) (hx:pR n xs=some ys) (hu:∀y∈ys,∀t∈y.tmps,¬U t) (he:aD S H (.oV ys)=some e):dc P w0 n U g S H a w o e:=by
 simp only[aD]at he;split at he
 case isFalse=>cases he
 rename_i eH;cases he;simp only[adQ]at eH;obtain⟨l1,r1⟩:=R.Ls hx hu
 have eO:∀j (h:j<xs.length),(a.eval xs[j]).cells=#[a.eval xs[j]]:=λj h=>
  Ru (r1 j zo h) (eH _ (adZ.2 ⟨_,adC zo,rfl⟩))
 have NO:=Great.fill_whole (s:=1) zo (xs.map a.eval) z.cells (λv hv=>by
  obtain⟨x,hx,rfl⟩:=adZ.1 hv;obtain⟨j,hj,rfl⟩:=aer hx
  rw[eO j hj];rfl) (by simp[pY])
 have HU:(ps.map λ(i,x)=>(i,a.eval x)).toList=((xs.map a.eval).zipIdx 0).map λx=>(x.2,x.1):=by
  rw[agw,kn];simp[List.zipIdx_map]
 have Nz:((xs.map a.eval).flatMap λv=>v.cells.toList)=xs.map a.eval:=by
  have:∀l:List Operand,(∀x∈l,(a.eval x).cells=#[a.eval x])->((l.map a.eval).flatMap λv=>v.cells.toList)=l.map a.eval:=by
   intro l
   induction l with
   |nil=>intro _;rfl
   |cons x l ih=>intro h;simp only[adU,aeY,h x adX,ih λy hy=>h y (adO _ hy)];rfl
  exact this xs λx hx=>by obtain⟨j,hj,rfl⟩:=aer hx;exact eO j hj
 have hb:P.built t (ps.map λ(i,x)=>(i,a.eval x)).toList=some (xs.map a.eval).toArray:=by
  unfold Program.built;simp only[hi,fB,hz,IK,hs];rw[HU,NO,Nz]
 refine dc.val R (λt h=>(hd t h).1) (c:=.agg (xs.map a.eval).toArray) ?_ (.gY _ _ (by simp[l1]) (λi h h'=>?_)) λ_=>trivial
 .unfold execOp;simp only[ho,adK,ahG w t _ _ hb,Result.andThen_ok]
  rfl
 .simp only[adH]at h;have:=r1 i h (by simpa using h');simpa using this
def HF (R:Rel P w0 n U g S H a w) {o:Oper} {t el:TypeId} {len:Nat} {ie:TypeInfo} {pQ:TypeDesc} {x1 x2:Operand} {y1 y2:cT} {e:aP} (ho:o.op = .index t x1 x2) (hd:∀ t,o.dst=some t→t < n∧¬ U t)
  (fB:P.underlying t=some (.array len el)) (hi:P.info? el=some ie) (hs:ie.size=1) (YX:P.underlying el=some pQ) (YD:eh pQ=false) (oy:dz n x1=some y1) (mJ:dz n x2=some y2) (pW:∀t∈y1.tmps,¬U t) (qe:∀t∈y2.tmps,¬U t)
  (he:aD S H (.oZ len y1 y2)=some e):dc P w0 n U g S H a w o e:=by
 have fD:=R.ev oy pW;have fh:=R.ev mJ qe;simp only[aD]at he;generalize AL.ev S y1=p1 at he fD;generalize AL.ev S y2=p2 at he fh;generalize kc:a.eval x1=c1 at fD;generalize jS:a.eval x2=c2 at fh;split at he
 case h_2=>cases he
 rename_i fs k;split at he
 case isFalse=>cases he
 rename_i hk;split at he
 case h_2=>cases he
 rename_i v hv;split at he
 case isFalse=>cases he
 rename_i hf;cases he;obtain⟨h0,rfl⟩:=ad0.1 hv;have q2:=fh.dX rfl;cases q2
 cases fD with
 |data _ _ hh=>cases hh
 |gY _ vs h1 hr=>
  have aq:k.toNat<vs.size:=zo
  have kR:(isAgg el).run P w=.ok false w:=by
   unfold isAgg;rw[adK,adW YX w]
   cases pQ<;>simp[eh]at YD⊢
  refine dc.val R (λt h=>(hd t h).1) (c:=vs[k.toNat]) ?_ (hr _ h0 aq) λ_=>?_
  .simp only[execOp,ho,kc,jS,Instr.index,adK];simp[asIntOf,adW fB,hk,sizeOf,typeInfo,hi,hs,adK,part,kR,aq]
  .generalize fs[k.toNat]=u at hf
   cases u<;>first|trivial|cases hf
def xG{v:AV}(h:v.one=true):v.cells=[v]:=by
 cases v<;>first|rfl|cases h
def H_ (R:Rel P w0 n U g S H a w) {o:Oper} {t el:TypeId} {len:Nat} {i:TypeInfo} {x:Operand} {y:cT} {e:aP} (ho:o.op = .slice t x none none none) (hd:∀ t,o.dst=some t→t < n∧¬ U t)
  (fB:P.underlying t=some (.array len el)) (J':P.info? el=some i) (hx:dz n x=some y) (hu:∀t∈y.tmps,¬U t)
  (he:aD S H (.p8 len y)=some e):dc P w0 n U g S H a w o e:=by
 have hv:=R.ev hx hu;simp only[aD]at he;generalize sB:AL.ev S y=q at he hv;generalize lE:a.eval x=c at hv;split at he
 case h_2=>cases he
 rename_i cs;split at he
 case isFalse=>cases he
 rename_i hlen;cases he;have q2:=hv.dX rfl
 cases q2 with
 |ref _ b off vs h1 hc hr=>
  have hk:(execOp a.eval o).run P w=.ok (.value (.slice (some ⟨b,off,none⟩) len len)) w:=by
   unfold execOp;simp only[ho,lE,Option.map_none,Instr.sliceAt,adK,adW fB]
   by_cases h0:len=0
   .subst h0;simp[Instr.sureAddr,Instr.sliceBounds,adK,sizeOf,typeInfo,J']
   .simp[Instr.sureAddr,Instr.sliceBounds,adK,sizeOf,typeInfo,J',Addr.add]
  refine dc.val R (λt h=>(hd t h).1) hk (.data _ _ ?_) λ_=>trivial
  rw[<-hlen];refine .slice .view cs b off cs.length 1 vs (adF _) (λh=>by cases h) (λi h=>by rw[xG (h1 i h)];rfl) (λi h j hj=>?_) (λk hk=>hc k zo) (λi h j hj=>?_)
  .have e:=xG (h1 i h)
   have:((cs[i]).cells[j])=cs[i]:=by
    have dZ:j<[cs[i]].length:=by rw[<-e];exact hj
    have:j=0:=by simp at dZ;omega
    subst this;simp only[e];rfl
   rw[this];exact h1 i h
  .have e:=xG (h1 i h)
   have dZ:j<[cs[i]].length:=by rw[<-e];exact hj
   have ET:j=0:=by simp at dZ;omega
   subst ET
   have:((cs[i]).cells[0])=cs[i]:=by simp only[e];rfl
   rw[this,afk,Nat.add_zero];exact hr i h
def Nn(P:Program)(name:String)(t:TypeId):Option Nat:=
 match P.info? t with
 |some i=>match P.underlying t with
  |some (.struct _)=>match i.methods.find? (·.name==name)with
   |some m=>if m.path.isEmpty=true then match m.func with
    |some (f,false)=>some f
    |_=>none
    else none
   |none=>none
  |_=>none
 |none=>none
def JA(P:Program)(name:String):List (TypeId×Nat):=(List.range P.types.size).filterMap λt=>(Nn P name t).map λk=>(t,k)
def Bn{t k:Nat}:∀{l:List (Nat×Nat)},l.lookup t=some k->(t,k)∈l
 |[],h=>by cases h
 |(a,b)::l,h=>by
  rw[List.lookup_cons]at h;split at h
  .rename_i he;cases h;simp only[aej]at he;subst he;exact adX
  .exact adO _ (Bn h)
def NH{P:Program}{name:String}{t k:Nat}(h:(JA P name).lookup t=some k):Nn P name t=some k:=by
 have h1:=Bn h;simp only[JA,afz,adP,af8]at h1;obtain⟨a,_,b,h2,rfl,rfl⟩:=h1;exact h2
def Mk{P:Program}{name:String}{t k:Nat}{v:Value}{w:World}(h:(JA P name).lookup t=some k):(method (P.types.size+Made.depth) t v name).run P w=.ok (k,v) w:=by
 have h:=NH h;unfold Nn at h;split at h
 case h_2=>cases h
 rename_i i hi;split at h
 case h_2=>cases h
 rename_i fs fB;split at h
 case h_2=>cases h
 rename_i m hm;split at h
 case isFalse=>cases h
 rename_i hp;split at h
 case h_2=>cases h
 rename_i f hf;cases h;show(method (P.types.size+99+1) t v name).run P w=_
 have u9:m.path.toList=[]:=by simpa using hp
 generalize P.types.size+99=d;simp[method,typeInfo,hi,hm,u9,hf,follow,receiverAt,adW fB,Place.get,adK]
end
inductive iK where
 |ret (v:AV)|panic (v:AV)
def pU(base:Nat)(old:Nat->Nat->Prop)(hi:Nat->Nat)(b k:Nat):Prop:=(b<base/\old b k)\/(base<=b/\k<hi b)
def zM(P:Program)(base:Nat)(hi:Nat->Nat)(w:World):AV->Value->Prop
 |.slice (.own e) es,c=>∃i xs b,P.info? e=some i/\w.ownsRow base e i.size c es.length xs/\c.ownBlock=some b/\hi b=es.length*i.size
 |_,_=>True
def Ends(P:Program)(old:Nat->Nat->Prop)(w:World)(out:iK)(e:Ending)(w':World):Prop:=
 Below w.heap.size w w'/\∃hi:Nat->Nat,(∀b,w'.heap.size<=b->hi b=0)/\
  match out with
  |.ret v=>∃c,e=.returned c/\RV (pU w.heap.size old hi) (λ_=>none) w' v c/\zM P w.heap.size hi w' v c
  |.panic v=>∃c,e=.panicked [{ v:=c,recovered:=false }]/\RD (pU w.heap.size old hi) w' v c
def AC(P:Program)(GI:World->Prop)(f:Nat)(args:List AV)(out:iK):Prop:=
 ∀(w:World)(old:Nat->Nat->Prop)(bT:Array Value),GI w->args.length=bT.size->
  (∀i (h:i<args.length)(h':i<bT.size),RV old (λ_=>none) w args[i] bT[i])->Calls P f bT w (Ends P old w out)
def ia(H:ao):AV->AV
 |.box i off=>match H i with|some cs=>.ref ((cs.drop off).map AV.cI)|none=>.bp
 |.func ..|.gY _=>.bp
 |v=>v.vw
def fz(H:ao):AV->AV
 |.func fn first cap=>.func fn (first.map (ia H)) (cap.map (ia H))
 |v=>ia H v
def rO:AV->Bool
 |.box ..=>true
 |_=>false
def cW:AV->Bool
 |.box ..=>true
 |.func _ first cap=>first.any rO||cap.any rO
 |_=>false
def iF:AV->Bool
 |.bool _|.l7|.int ..|.str _=>true
 |_=>false
def wV:AV->Bool
 |.dY vs=>vs.all iF
 |v=>iF v
def iK.wV:iK->Bool
 |.ret v=>Go.AL.wV v
 |.panic _=>false
def OR{v:AV}(h:wV v=true):v.b_=true:=by cases v<;>first|rfl|cases h
def RD.iF{Pr e_:Nat->Nat->Prop}{w w':World}{v:AV}{c:Value}(h:RD Pr w v c)(hs:Go.AL.iF v=true):RD e_ w' v c:=by
 cases h<;>first|(cases hs;done)|constructor
def RD.wV{Pr e_:Nat->Nat->Prop}{w w':World}{v:AV}{c:Value}(h:RD Pr w v c)(hs:Go.AL.wV v=true):RD e_ w' v c:=by
 cases h with
 |dY cs vs hl hr=>exact .dY cs vs hl λi h h'=>(hr i h h').iF (by simp only[Go.AL.wV,adQ]at hs;exact hs _ (adC h))
 |bool b=>exact .bool b
 |l7 b=>exact .l7 b
 |int k n=>exact .int k n
 |str l=>exact .str l
 |_=>cases hs
section
variable{P:Program}{w0:World}{n:Nat}{U:Nat->Prop}{g:Gh}{S:an}{H:ao}{a:Act}{w:World}
def fI(g:Gh)(bx:Bool)(b k:Nat):Prop:=g.Pr b k\/(bx=true/\∃i,g.al i=some b)
def Rel.ia(R:Rel P w0 n U g S H a w){v:AV}{c:Value}(h:RV g.Pr g.al w v c)(bx:Bool)(hb:rO v=true->bx=true):RV (fI g bx) (λ_=>none) w (Go.AL.ia H v) c:=by
 have rW:∀{v c},RD g.Pr w v c->RD (fI g bx) w v c:=λh=>h.mono (bg.same λb k _ hp=>.inl hp)
 cases h with
 |data v c h=>
  have hd:=(rW h).vw
  have:Go.AL.ia H v=v.vw:=by cases h<;>rfl
  rw[this];exact .data _ _ hd
 |box i off b jC=>
  obtain⟨cs,vs,ty,k1,k2,k3,k4,k5,k6,k7,k8,k9⟩:=R.box i b jC;simp only[Go.AL.ia,k1];have bK:bx=true:=hb rfl;refine .data _ _ (.ref _ _ _ (λk=>vs.getD (off+k) undef) (λk hk=>?_) (λk hk=>?_) λk hk=>?_)
  .simp only[adH,ael]at hk;simp only[adR,ae3];have:=k9 (off+k) zo;exact(AV.Sh _).trans this
  .simp only[adH,ael]at hk
   have:off+k<vs.size:=zo
   exact⟨.inr ⟨bK,i,jC⟩,by simp[World.cell?,k3,this]⟩
  .simp only[adH,ael]at hk
   have aq:off+k<vs.size:=zo
   have:=(rW (k7 (off+k) zo aq)).cI;simpa[aq]using this
 |func=>exact .bp _
 |gY=>exact .bp _
 |bp c=>exact .bp c
def Rel.fz(R:Rel P w0 n U g S H a w){v:AV}{c:Value}(h:RV g.Pr g.al w v c)(bx:Bool)(hb:cW v=true->bx=true):RV (fI g bx) (λ_=>none) w (Go.AL.fz H v) c:=by
 have h0:=h
 cases h with
 |func fn first cap vs us h1 h2 r1 r2=>
  simp only[cW,aeZ,ae8]at hb;refine .func fn _ _ _ _ (by simpa using h1) (by simpa using h2) (λi hi du=>?_) (λi hi du=>?_)
  .simp only[adH]at hi;simp only[adR]
   exact R.ia (r1 i hi du) bx λhx=>hb (.inl ⟨_,adC hi,hx⟩)
  .simp only[adH]at hi;simp only[adR]
   exact R.ia (r2 i hi du) bx λhx=>hb (.inr ⟨_,adC hi,hx⟩)
 |data v c h=>
  have:Go.AL.fz H v=Go.AL.ia H v:=by cases h<;>rfl
  rw[this];exact R.ia h0 bx λhx=>hb (by cases v<;>first|rfl|cases hx)
 |box=>exact R.ia h0 bx hb
 |gY=>exact .bp _
 |bp c=>exact .bp c
def Rel.call (R:Rel P w0 n U g S H a w) (d:Option Nat) (hd:∀ t,d=some t→t < n∧¬ U t) (bx:Bool) {v:AV} {c:Value} {w':World} {hi:Nat→Nat} (hb:Below w.heap.size w w')
  (o7:∀b,w'.heap.size<=b->hi b=0) (hr:RV (pU w.heap.size (fI g bx) hi) (λ_=>none) w' v c) (cZ:zM P w.heap.size hi w' v c) (bK:bx=true->wV v=true):
  ∃g',g'.base=g.base/\g'.old=g.old/\Rel P w0 n U g' (Go.AL.aW S d v) H (a.put d c) w':=by
 have hle:g.base<=w.heap.size:=by rw[R.base];exact R.below.size
 let own:Nat->Option Loc:=λb=>match c.ownBlock,d with
  |some b',some t=>if b=b' then some (.slot t)else none
  |_,_=>none
 let g':Gh:={ g with hi:=λb=>if b<w.heap.size then g.hi b else hi b,owner:=λb=>if b<w.heap.size then g.owner b else if b<w'.heap.size then own b else none }
 have R':Rel P w0 n U g' S H a w':=R.grow (g':=g') hb rfl rfl rfl
  (λb hb=>⟨if_pos hb,if_pos hb⟩)
  (λb lX=>by
   have:=hb.size
   exact⟨(if_neg zo).trans (o7 b lX),(if_neg zo).trans (if_neg zo)⟩)
 refine⟨g',rfl,rfl,R'.aW d v c (λt h=>(hd t h).1) ?_ ?_⟩
 .cases bx with
  |true=>exact .data _ _ ((hr.dX (OR (bK rfl))).wV (bK rfl))
  |false=>
   refine hr.mono (bg.same λb k _ hp=>?_) (λi b h=>by cases h)
   rcases hp with⟨h1,h2⟩|⟨h1,h2⟩
   .rcases h2 with h2|⟨h2,_⟩
    .rcases h2 with h2|h2
     .exact .inl h2
     .exact .inr ⟨h2.1,by show k<(if b<w.heap.size then g.hi b else hi b);rw[if_pos h1];exact h2.2⟩
    .cases h2
   .exact .inr ⟨by show g.base<=b;omega,by show k<(if b<w.heap.size then g.hi b else hi b);rw[if_neg zo];exact h2⟩
 .intro t ht;subst ht
  cases v<;>try trivial
  rename_i oo es
  cases oo with
  |view=>trivial
  |nil=>trivial
  |own e=>
   obtain⟨i,xs,b,h1,h2,h3,h4⟩:=cZ;have aq:=h2.lt b h3;refine⟨i,xs,b,h1,⟨h2.1,?_⟩,h3,?_,?_⟩
   .rcases h2.2 with hn|⟨gg,cap,cur,e1,r_,rest⟩
    .exact .inl hn
    .exact .inr ⟨gg,cap,cur,e1,aeL hle r_,rest⟩
   .show(if b<w.heap.size then g.owner b else if b<w'.heap.size then own b else none)=_;rw[if_neg zo,if_pos aq.2];simp[own,h3]
   .show(if b<w.heap.size then g.hi b else hi b)=_;rw[if_neg zo];exact h4
end
def zeroCells(P:Program)(t:TypeId):Option (List AV):=
 match P.info? t with
 |some i=>match i.zero with
  |some z=>iW z.cells.toList
  |none=>none
 |none=>none
def isVal:AV->Bool
 |.val _=>true
 |_=>false
def vN(P:Program)(t:TypeId):Option (List AV):=
 match zeroCells P t with
 |some zs=>if zs.any isVal then none else some zs
 |none=>none
def si{P:Program}{t:TypeId}{zs:List AV}(h:vN P t=some zs):zeroCells P t=some zs:=by
 unfold vN at h;split at h
 .rename_i h'
  split at h<;>cases h
  exact h'
 .cases h
def comp(P:Program)(n:Nat)(tk:Bool)(hr:HR)(o:Oper):eG:=
 match o.op with
 |.move x=>match dz n x with
  |some y=>.mv tk y
  |none=>.other
 |.assign x=>match dz n x with
  |some y=>.mv true y
  |none=>.other
 |.pick c a b=>match dz n c,dz n a,dz n b with
  |some c,some a,some b=>.pick c a b
  |_,_,_=>.other
 |.alloc t=>match zeroCells P t with
  |some cs=>.alloc t cs
  |none=>.other
 |.box t x=>match P.info? t,dz n x with
  |some i,some y=>.box t i.size y
  |_,_=>.other
 |.build t ps=>match P.underlying t,vN P t with
  |some (.struct fs),some zs=>match fs.toList.mapM (λf=>(P.info? f.type).map λi=>(f.offset,i.size))with
   |some places=>match s_ n (places[·]?) ps.toList with
    |some qs=>.build (zs.map AV.aI) qs
    |none=>.other
   |none=>.other
  |some (.array _ el),some zs=>match P.info? el with
   |some ie=>match s_ n (λi=>some (i*ie.size,ie.size)) ps.toList with
    |some qs=>.build (zs.map AV.aI) qs
    |none=>.other
   |none=>.other
  |some (.array _ el),none=>match P.info? t,P.info? el,pR n (ps.toList.map (·.2))with
   |some it,some ie,some ys=>match it.zero with
    |some z=>if ie.size=1/\z.cells.size=ps.toList.length/\ps.toList.map (·.1)=List.range ps.toList.length then .oV ys else .other
    |none=>.other
   |_,_,_=>.other
  |_,_=>.other
 |.buildSlice t len ps=>match P.underlying t with
  |some (.slice el)=>match P.info? el with
   |some i=>if len=0/\ps.toList.isEmpty=true then .empty el else
    match i.zero,pR n (ps.toList.map (·.2))with
    |some _,some ys=>if 0<i.size/\0<len/\ps.toList.map (·.1)=List.range len then .buildSlice t el i.size ys else .other
    |_,_=>.other
   |none=>.other
  |_=>.other
 |.load t a=>match P.info? t,P.underlying t,dz n a with
  |some i,some d,some y=>if tk=true/\eh d=false/\o.dst.isSome=true then .loadT hr y else .load hr (eh d) i.size y
  |_,_,_=>.other
 |.store t a x=>match P.info? t,dz n a,dz n x with
  |some i,some y,some z=>if o.dst.isNone then .store hr i.size y z else .other
  |_,_,_=>.other
 |.binOp op t x y _=>match P.underlying t,dz n x,dz n y with
  |some (.int _),some x,some y|some .string,some x,some y=>.bin op x y
  |some .bool,some x,some y=>match op with
   |.eql=>.EA false x y
   |.neq=>.EA true x y
   |_=>.other
  |some (.struct _),some x,some y=>if P.eqGuardType P.depth t=false then
    match op,mm P 10000 t with
    |.eql,some k=>.eqs false k x y
    |.neq,some k=>.eqs true k x y
    |_,_=>.other
   else .other
  |some (.slice _),some x',some _=>match op,y with
   |.eql,.const (.slice none 0 0)=>.isNil false x'
   |.neq,.const (.slice none 0 0)=>.isNil true x'
   |_,_=>.other
  |_,_,_=>.other
 |.unOp .not _ x=>match dz n x with
  |some y=>.not y
  |none=>.other
 |.convert s d x=>match P.underlying s,P.underlying d,dz n x with
  |some _,some (.int k),some y=>.conv k y
  |some (.slice el),some .string,some y=>match P.underlying el with
   |some (.int .u8)=>.zm y
   |_=>.other
  |_,_,_=>.other
 |.makeInterface t x=>match P.underlying t,dz n x with
  |some (.interface _),_=>.other
  |some _,some y=>.iface t y
  |_,_=>.other
 |.makeFunc fn f c=>match pR n f.toList,pR n c.toList with
  |some f,some c=>.Fa fn f c
  |_,_=>.other
 |.slice t x lo hi none=>match P.underlying t,dz n x,mM n lo,mM n hi with
  |some .string,some y,some lo,some hi=>.oX y lo hi
  |some (.slice el),some y,some lo,some hi=>match P.info? el with
   |some i=>.od i.size y lo hi
   |none=>.other
  |some (.array len el),some y,some none,some none=>match P.info? el with
   |some _=>.p8 len y
   |none=>.other
  |_,_,_,_=>.other
 |.fieldAddr s x j=>match P.underlying s,dz n x with
  |some (.struct fs),some y=>match fs[j]? with
   |some f=>match P.info? f.type with
    |some i=>if i.size≠0 then .fieldAddr f.offset y else .other
    |none=>.other
   |none=>.other
  |_,_=>.other
 |.indexAddr t x i=>match P.underlying t,dz n x,dz n i with
  |some (.slice el),some y,some z=>match P.info? el with
   |some i=>.indexAddr i.size y z
   |none=>.other
  |_,_,_=>.other
 |.index t x i=>match P.underlying t,dz n x,dz n i with
  |some .string,some y,some z=>.oU y z
  |some (.array len el),some y,some z=>match P.info? el,P.underlying el with
   |some i,some (.func a b c)=>if i.size=1 then .oZ len y z else .other
   |some i,some d=>.mN (eh d) len i.size y z
   |_,_=>.other
  |_,_,_=>.other
 |.lookup t x i true=>match P.underlying t,dz n x,dz n i with
  |some (.map kt el),some y,some z=>match P.underlying kt,mm P 10000 kt,P.info? el with
   |some (.struct _),some k,some ie=>match ie.zero with
    |some (.agg v)=>match iW v.toList with
     |some zs=>.lookup k (.agg zs) y z
     |none=>.other
    |_=>.other
   |_,_,_=>.other
  |_,_,_=>.other
 |.extract x j=>match dz n x with
  |some y=>.extract y j
  |none=>.other
 |.typeAssert x _ t true=>match P.underlying t,P.info? t,dz n x with
  |some (.interface _),_,_=>.other
  |some _,some i,some y=>match i.zero with
   |some (.agg z)=>match iW z.toList with
    |some zs=>.assert t (.agg zs) y
    |none=>.other
   |_=>.other
  |_,_,_=>.other
 |.panic x=>match dz n x with
  |some y=>.panic y
  |none=>.other
 |.call cl=>match cl.callee,cl.args.toList,cl.argTypes.toList with
  |.builtin .len,[x],[s]=>match P.underlying s,dz n x with
   |some .string,some y=>.zI y
   |some (.slice _),some y=>.kN y
   |_,_=>.other
  |.builtin .append,[x1,x2],[t,t']=>match P.underlying t,dz n x1,dz n x2 with
   |some (.slice el),some y1,some y2=>match P.info? el with
    |some i=>match i.zero with
     |some z=>if t=t'/\z.cells.size=i.size/\i.bytes<=65536 then .append t el i.size i.bytes y1 y2 else .other
     |none=>.other
    |none=>.other
   |_,_,_=>.other
  |.builtin .max,[x1,x2],_=>match dz n x1,dz n x2 with
   |some y1,some y2=>.max y1 y2
   |_,_=>.other
  |.builtin .min,[x1,x2],_=>match dz n x1,dz n x2 with
   |some y1,some y2=>.min y1 y2
   |_,_=>.other
  |.value f,args,_=>match dz n f,pR n args with
   |some (.f k),some ys=>.call k ys
   |some y,some ys=>.gy y ys
   |_,_=>.other
  |.invoke r name,args,_=>match dz n r,pR n args with
   |some (.t t),some ys=>.gy (.m t (JA P name)) ys
   |_,_=>.other
  |_,_,_=>.other
 |_=>.other
structure bI where
 dst:Option Nat
 guard:Option (Nat×Bool)
 op:eG
def ee(P:Program)(f:Nat):Bool:=
 match P.funcs[f]? with
 |some fn=>fn.name != "runtime.NumGoroutine" && fn.body.isSome
 |none=>false
def gp{P:Program}{w:World}{f:Nat}{args:Array Value}(h:ee P f=true):(callFunc f args).run P w=.ok (.enter f args) w:=by
 unfold ee at h
 cases hf:P.funcs[f]? with
 |none=>simp[hf]at h
 |some fn=>
  simp only[hf,adE,agn]at h;unfold callFunc;obtain⟨c,hc⟩:=agb.1 h.2;simp[hf,h.1,hc]
section
variable{P:Program}{GI:World->Prop}
def eY(out:iK)(K:AV->Prop)(Qp:AV->Prop):Prop:=
 match out with
 |.ret v=>K v
 |.panic v=>Qp v
def lx(P:Program)(GI:World->Prop)(f:Nat)(args:List AV)(bx:Bool)(K:AV->Prop)(Qp:AV->Prop):Prop:=
 ∃out,ee P f=true/\AC P GI f args out/\(bx=true->out.wV=true)/\eY out K Qp
def ba(P:Program)(GI:World->Prop)(op:eG)(dst:Option Nat)(K:an->ao->Prop)(Qp:AV->Prop)(S:an)(H:ao):Prop:=
 match op with
 |.alloc _ zero=>match dst with
  |some d=>K (au (λt=>cb d (S t)) d (.box d 0)) (au H d (some zero))
  |none=>False
 |.box _ size x=>match dst with
  |some d=>(ev S x).cells.length=size/\(ev S x).storable=true/\K (au (λt=>cb d (S t)) d (.box d 0)) (au H d (some ((ev S x).cells.map AV.aI)))
  |none=>False
 |.call f args=>lx P GI f (args.map λy=>fz H (ev S y)) (args.any λy=>cW (ev S y)) (λv=>K (aW S dst v) H) Qp
 |.gy f args=>match ev S f with
  |.func (.func k) first cap=>lx P GI k ((first++args.map (ev S)++cap).map (fz H)) ((first++args.map (ev S)++cap).any cW) (λv=>K (aW S dst v) H) Qp
  |_=>False
 |.panic x=>match ev S x with
  |.iface t v=>Qp (.iface t v)
  |_=>False
 |op=>match aD S H op with
  |some e=>K (e.S S dst) (e.H H)
  |none=>False
def eG.calm:eG->Bool
 |.alloc ..|.box ..|.call ..|.gy ..|.panic _|.other=>false
 |_=>true
def Bu {op:eG} (h:op.calm=true) (dst:Option Nat) (K:an→ao→Prop) (Qp:AV→Prop) (S:an) (H:ao) :
  ba P GI op dst K Qp S H=(match aD S H op with|some e=>K (e.S S dst) (e.H H)|none=>False):=by
 cases op<;>first|rfl|cases h
variable{w0:World}{n:Nat}{U:Nat->Prop}{g:Gh}{S:an}{H:ao}{a:Act}{w:World}
def yr:∀(ps:List (Nat×Operand))(k:Nat),ps.map (·.1)=(List.range' k ps.length)->ps=((ps.map (·.2)).zipIdx k).map λx=>(x.2,x.1)
 |[],_,_=>rfl
 |(i,x)::ps,k,h=>by
  simp only[adU,List.length_cons,aff,ae1]at h;obtain⟨rfl,h⟩:=h;simp only[adU,List.zipIdx_cons,ae1,aha];exact yr ps (i+1) h
def yL{x:Option Operand}(h:mM n x=some none):x=none:=by
 cases x with
 |none=>rfl
 |some y=>simp[mM]at h
def yn (R:Rel P w0 n U g S H a w) {o:Oper} {tk:Bool} {hr:HR} {op:eG} {e:aP} (hc:comp P n tk hr o=op) (bU:op.calm=true) (hd:∀ t,o.dst=some t→t < n∧¬ U t) (dh:∀ t∈op.rd,¬ U t) (eR:∀ t,o.dst=some t→t∉op.rd)
  (he:aD S H op=some e):dc P w0 n U g S H a w o e:=by
 unfold comp at hc;cases dn:o.op
 case move x=>
  simp only[dn]at hc
  split at hc<;>subst hc
  case h_2=>cases bU
  rename_i y hx;exact JF R hd hx dh (by unfold execOp;simp only[dn];rfl) eR he
 case assign x=>
  simp only[dn]at hc
  split at hc<;>subst hc
  case h_2=>cases bU
  rename_i y hx;exact JF R hd hx dh (by unfold execOp;simp only[dn];rfl) eR he
 case pick x x1 x2=>
  simp only[dn]at hc
  split at hc<;>subst hc
  case h_2=>cases bU
  rename_i c a' b h1 h2 h3;simp only[eG.rd,adG]at dh;exact NM R dn hd h1 h2 h3 (λt h=>dh t (.inl (.inl h))) (λt h=>dh t (.inl (.inr h))) (λt h=>dh t (.inr h)) he
 case alloc t=>simp only[dn]at hc;split at hc<;>subst hc<;>cases bU
 case box t x=>simp only[dn]at hc;split at hc<;>subst hc<;>cases bU
 case build t ps=>
  simp only[dn]at hc;split at hc
  .rename_i fs zs h1 h2;split at hc
   case h_2=>subst hc;cases bU
   rename_i places h3
   split at hc<;>subst hc
   case h_2=>cases bU
   rename_i qs h4;have h2:=si h2;unfold zeroCells at h2;split at h2
   case h_2=>cases h2
   rename_i it hi;split at h2
   case h_2=>cases h2
   rename_i z hz;exact Mt R dn hd hi h1 hz h3 h2 h4 (λq hq t ht=>dh t (aei.2 ⟨q,hq,ht⟩)) he
  .rename_i len el zs h1 h2;split at hc
   case h_2=>subst hc;cases bU
   rename_i ie h3
   split at hc<;>subst hc
   case h_2=>cases bU
   rename_i qs h4;have h2:=si h2;unfold zeroCells at h2;split at h2
   case h_2=>cases h2
   rename_i it hi;split at h2
   case h_2=>cases h2
   rename_i z hz;exact GU R dn hd hi h1 hz h3 h2 h4 (λq hq t ht=>dh t (aei.2 ⟨q,hq,ht⟩)) he
  .rename_i len el h1 h2;split at hc
   case h_2=>subst hc;cases bU
   rename_i it ie ys h3 h4 h5;split at hc
   case h_2=>subst hc;cases bU
   rename_i z hz
   split at hc<;>subst hc
   case isFalse=>cases bU
   rename_i j5;exact Jk R dn hd h3 h1 hz h4 j5.1 (by simpa using j5.2.1) (yr _ 0 (by rw[j5.2.2,aft])) h5 (λy hy t ht=>dh t (aei.2 ⟨y,hy,ht⟩)) he
  .subst hc;cases bU
 case buildSlice t len ps=>
  simp only[dn]at hc;split at hc
  case h_2=>subst hc;cases bU
  rename_i el h1;split at hc
  case h_2=>subst hc;cases bU
  rename_i i h2;split at hc
  case isTrue=>
   rename_i j5;subst hc
   have kn:ps=#[]:=by
    have:=j5.2;simp only[List.isEmpty_iff]at this;exact Array.toList_eq_nil_iff.1 this
   rw[j5.1,kn]at dn;exact Jt R dn hd h1 h2 he
  case isFalse=>
   split at hc
   case h_2=>subst hc;cases bU
   rename_i z ys h3 h4
   split at hc<;>subst hc
   case isFalse=>cases bU
   rename_i jS
   have hlen:ps.toList.length=len:=by have:=congrArg List.length jS.2.2;simpa using this
   exact zZ R dn hd h1 h2 h3 jS.1 (yr _ 0 (by rw[jS.2.2,hlen,aft])) (by simpa using hlen) jS.2.1 h4 (λy hy t ht=>dh t (aei.2 ⟨y,hy,ht⟩)) he
 case load t x=>
  simp only[dn]at hc;split at hc
  case h_2=>subst hc;cases bU
  rename_i i d y h1 h2 h3
  split at hc<;>subst hc
  case isTrue j5=>
   obtain⟨dd,Dp⟩:=agb.1 j5.2.2;exact K0 R dn Dp (hd dd Dp) h2 j5.2.1 h3 dh he
  case isFalse j5=>exact C2 R dn hd h1 h2 h3 dh he
 case store t x1 x2=>
  simp only[dn]at hc;split at hc
  case h_2=>subst hc;cases bU
  rename_i i y z h1 h2 h3
  split at hc<;>subst hc
  case isFalse=>cases bU
  rename_i j5;simp only[eG.rd,adG]at dh;exact nn R dn (by simpa using j5) h1 h2 h3 (λt h=>dh t (.inl h)) (λt h=>dh t (.inr h)) he
 case binOp op t x1 x2 t'=>
  simp only[dn]at hc;split at hc
  .subst hc;rename_i k y1 y2 h1 h2 h3;simp only[eG.rd,adG]at dh;exact GO R dn hd h2 h3 (λt h=>dh t (.inl h)) (λt h=>dh t (.inr h)) he
  .subst hc;rename_i y1 y2 h1 h2 h3;simp only[eG.rd,adG]at dh;exact GO R dn hd h2 h3 (λt h=>dh t (.inl h)) (λt h=>dh t (.inr h)) he
  .rename_i y1 y2 h1 h2 h3
   split at hc<;>subst hc
   .simp only[eG.rd,adG]at dh;exact GM (neg:=false) R dn hd h1 h2 h3 (λt h=>dh t (.inl h)) (λt h=>dh t (.inr h)) he
   .simp only[eG.rd,adG]at dh;exact GM (neg:=true) R dn hd h1 h2 h3 (λt h=>dh t (.inl h)) (λt h=>dh t (.inr h)) he
   .cases bU
  .rename_i fs y1 y2 h1 h2 h3;split at hc
   case isFalse=>subst hc;cases bU
   rename_i Dj
   split at hc<;>subst hc
   .simp only[eG.rd,adG]at dh;exact GP (neg:=false) R dn hd h1 (by assumption) Dj h2 h3 (λt h=>dh t (.inl h)) (λt h=>dh t (.inr h)) he
   .simp only[eG.rd,adG]at dh;exact GP (neg:=true) R dn hd h1 (by assumption) Dj h2 h3 (λt h=>dh t (.inl h)) (λt h=>dh t (.inr h)) he
   .cases bU
  .rename_i el y1 y2 h1 h2 h3
   split at hc<;>subst hc
   .exact A3 (neg:=false) R dn hd h1 h2 dh he
   .exact A3 (neg:=true) R dn hd h1 h2 dh he
   .cases bU
  .subst hc;cases bU
 case unOp u t x=>
  cases u<;>simp only[dn]at hc
  case not=>
   split at hc<;>subst hc
   case h_2=>cases bU
   rename_i y h1;exact Re R dn hd h1 dh he
  all_goals (subst hc;cases bU)
 case convert s d x=>
  simp only[dn]at hc;split at hc
  .subst hc;rename_i ds k y h1 h2 h3;exact Nc R dn hd h1 h2 h3 dh he
  .rename_i el y h1 h2 h3
   split at hc<;>subst hc
   case h_2=>cases bU
   rename_i h4;exact NI R dn hd h1 h4 h2 h3 dh he
  .subst hc;cases bU
 case makeInterface t x=>
  simp only[dn]at hc
  split at hc<;>subst hc
  case h_1=>cases bU
  case h_3=>cases bU
  rename_i d y Et h1 h2;exact KQ R dn hd h1 Et h2 dh he
 case makeFunc fn f c=>
  simp only[dn]at hc
  split at hc<;>subst hc
  case h_2=>cases bU
  rename_i f2 c2 h1 h2;simp only[eG.rd,adG,aei]at dh;exact P9 R dn hd h1 h2 (λy hy t ht=>dh t (.inl ⟨y,hy,ht⟩)) (λy hy t ht=>dh t (.inr ⟨y,hy,ht⟩)) he
 case slice t x lo hi mx=>
  cases mx with
  |some m=>simp only[dn]at hc;subst hc;cases bU
  |none=>
   simp only[dn]at hc;split at hc
   .subst hc;rename_i y zn du h1 h2 h3 h4;simp only[eG.rd,adG,aei]at dh;exact G2 R dn hd h1 h2 (λt h=>dh t (.inl h)) h3 h4 (λy hy t ht=>dh t (.inr ⟨y,.inl (by simpa using hy),ht⟩)) (λy hy t ht=>dh t (.inr ⟨y,.inr (by simpa using hy),ht⟩)) he
   .rename_i el y zn du h1 h2 h3 h4
    split at hc<;>subst hc
    case h_2=>cases bU
    rename_i i h5;simp only[eG.rd,adG,aei]at dh;exact HC R dn hd h1 h5 h2 (λt h=>dh t (.inl h)) h3 h4 (λy hy t ht=>dh t (.inr ⟨y,.inl (by simpa using hy),ht⟩)) (λy hy t ht=>dh t (.inr ⟨y,.inr (by simpa using hy),ht⟩)) he
   .rename_i len el y h1 h2 h3 h4
    split at hc<;>subst hc
    case h_2=>cases bU
    rename_i i h5;have e3:=yL h3;have e4:=yL h4;subst e3;subst e4;exact H_ R dn hd h1 h5 h2 dh he
   .subst hc;cases bU
 case fieldAddr s x j=>
  simp only[dn]at hc;split at hc
  case h_2=>subst hc;cases bU
  rename_i fs y h1 h2;split at hc
  case h_2=>subst hc;cases bU
  rename_i f h3;split at hc
  case h_2=>subst hc;cases bU
  rename_i i h4
  split at hc<;>subst hc
  case isFalse=>cases bU
  rename_i j5;exact Ca R dn hd h1 h3 h4 j5 h2 dh he
 case indexAddr t x1 x2=>
  simp only[dn]at hc;split at hc
  case h_2=>subst hc;cases bU
  rename_i el y z h1 h2 h3
  split at hc<;>subst hc
  case h_2=>cases bU
  rename_i i h4;simp only[eG.rd,adG]at dh;exact Ce R dn hd h1 h4 h2 h3 (λt h=>dh t (.inl h)) (λt h=>dh t (.inr h)) he
 case index t x1 x2=>
  simp only[dn]at hc;split at hc
  .subst hc;rename_i y z h1 h2 h3;simp only[eG.rd,adG]at dh;exact Ie R dn hd h1 h2 h3 (λt h=>dh t (.inl h)) (λt h=>dh t (.inr h)) he
  .rename_i len el y z h1 h2 h3;split at hc
   .rename_i i a1 a2 a3 h4 h5
    split at hc<;>subst hc
    case isFalse=>cases bU
    rename_i hs;simp only[eG.rd,adG]at dh;exact HF R dn hd h1 h4 hs h5 rfl h2 h3 (λt h=>dh t (.inl h)) (λt h=>dh t (.inr h)) he
   case h_3=>subst hc;cases bU
   subst hc;rename_i i d _ h4 h5;simp only[eG.rd,adG]at dh;exact Hh R dn hd h1 h4 h5 h2 h3 (λt h=>dh t (.inl h)) (λt h=>dh t (.inr h)) he
  .subst hc;cases bU
 case lookup t x1 x2 ok=>
  cases ok with
  |false=>simp only[dn]at hc;subst hc;cases bU
  |true=>
   simp only[dn]at hc;split at hc
   case h_2=>subst hc;cases bU
   rename_i kt el y z h1 h2 h3;split at hc
   case h_2=>subst hc;cases bU
   rename_i fs k ie h4 h5 h6;split at hc
   case h_2=>subst hc;cases bU
   rename_i v h7
   split at hc<;>subst hc
   case h_2=>cases bU
   rename_i zs h8;simp only[eG.rd,adG]at dh;exact Iw (z:=.agg v) R dn hd h1 h4 h5 h6 h7 h8 h2 h3 (λt h=>dh t (.inl h)) (λt h=>dh t (.inr h)) he
 case extract x j=>
  simp only[dn]at hc
  split at hc<;>subst hc
  case h_2=>cases bU
  rename_i y h1;exact FF R dn hd h1 dh he
 case typeAssert x xt t ok=>
  cases ok with
  |false=>simp only[dn]at hc;subst hc;cases bU
  |true=>
   simp only[dn]at hc;split at hc
   case h_1=>subst hc;cases bU
   case h_3=>subst hc;cases bU
   rename_i d i y Et h1 h2 h3;split at hc
   case h_2=>subst hc;cases bU
   rename_i z hz
   split at hc<;>subst hc
   case h_2=>cases bU
   rename_i zs pY;exact IJ (z:=.agg z) R dn hd h1 Et h2 hz pY h3 dh he
 case panic x=>simp only[dn]at hc;split at hc<;>subst hc<;>cases bU
 case call cl=>
  simp only[dn]at hc;split at hc
  .rename_i x s kH ha ht
   have Ic:cl.args=#[x]:=by rw[<-Array.toArray_toList (xs:=cl.args),ha]
   have uR:cl.argTypes=#[s]:=by rw[<-Array.toArray_toList (xs:=cl.argTypes),ht]
   split at hc<;>subst hc
   .rename_i y h1 h2;exact FP R dn kH Ic uR hd h1 h2 dh (.inl ⟨rfl,he⟩)
   .rename_i el y h1 h2;exact FP R dn kH Ic uR hd h1 h2 dh (.inr ⟨⟨el,rfl⟩,he⟩)
   .cases bU
  .rename_i x1 x2 t t' kH ha ht
   have Ic:cl.args=#[x1,x2]:=by rw[<-Array.toArray_toList (xs:=cl.args),ha]
   have uR:cl.argTypes=#[t,t']:=by rw[<-Array.toArray_toList (xs:=cl.argTypes),ht]
   split at hc
   case h_2=>subst hc;cases bU
   rename_i el y1 y2 h1 h2 h3;split at hc
   case h_2=>subst hc;cases bU
   rename_i i h4;split at hc
   case h_2=>subst hc;cases bU
   rename_i z h5
   split at hc<;>subst hc
   case isFalse=>cases bU
   rename_i j5;obtain⟨rfl,k1,k2⟩:=j5;simp only[eG.rd,adG]at dh eR;exact Jg R dn kH Ic uR hd h1 h4 h5 k1 k2 h2 h3 (λt h=>dh t (.inl h)) (λt h=>dh t (.inr h)) (λt ht h=>eR t ht (.inl h)) he
  .rename_i x1 x2 kH ha
   have Ic:cl.args=#[x1,x2]:=by rw[<-Array.toArray_toList (xs:=cl.args),ha]
   split at hc<;>subst hc
   case h_2=>cases bU
   rename_i y1 y2 h1 h2;simp only[eG.rd,adG]at dh;exact zL R dn Ic hd h1 h2 (λt h=>dh t (.inl h)) (λt h=>dh t (.inr h)) (.inl ⟨kH,he⟩)
  .rename_i x1 x2 kH ha
   have Ic:cl.args=#[x1,x2]:=by rw[<-Array.toArray_toList (xs:=cl.args),ha]
   split at hc<;>subst hc
   case h_2=>cases bU
   rename_i y1 y2 h1 h2;simp only[eG.rd,adG]at dh;exact zL R dn Ic hd h1 h2 (λt h=>dh t (.inl h)) (λt h=>dh t (.inr h)) (.inr ⟨kH,he⟩)
  .split at hc<;>subst hc<;>cases bU
  .split at hc<;>subst hc<;>cases bU
  .subst hc;cases bU
 all_goals (simp only[dn]at hc;subst hc;cases bU)
end
def bP:Nat->Prop:=λ_=>False
def ar(GI:World->Prop):Prop:=∀w w',GI w->Below w.heap.size w w'->GI w'
def bI.ok(n:Nat)(o:bI):Bool:=
 (match o.dst with|some d=>decide (d<n)&&!o.op.rd.contains d|none=>true)&&
 (match o.guard with|some (t,_)=>decide (t<n)|none=>true)
def eG.jx:eG->Bool
 |.alloc ..|.box ..=>true
 |_=>false
def bI.jx(o:bI):List Nat:=if o.op.jx then o.dst.toList else[]
def C6(ops:Array Oper)(j:Nat):Option Nat:=(ops[j]?).bind (·.dst)
def taken(ops:Array Oper)(d:Nat):Bool:=
 ops.any λo=>match o.op with
  |.call { callee:=.builtin .append,args,.. }=>match args.toList with
   |.tmp t::_=>t==d
   |_=>false
  |_=>false
def rootOf(ops:Array Oper):Nat->Operand->HR
 |k+1,.tmp t=>match ops.toList.find? (λo=>o.dst==some t)with
  |some o=>match o.op with
   |.fieldAddr _ x _=>rootOf ops k x
   |.indexAddr ..=>.ref
   |.alloc _=>.box t
   |_=>.any
  |none=>.box t
 |_,_=>.any
def PN(ops:Array Oper)(o:Oper):HR:=
 match o.op with
 |.load _ x|.store _ x _=>rootOf ops 10 x
 |_=>.any
def bu(P:Program)(n:Nat)(dr:Bool)(ops:Array Oper)(o:Oper):bI:={
 dst:=o.dst
 guard:=match o.guard with
  |some (j,b)=>match C6 ops j with
   |some t=>some (t,b)
   |none=>some (n,b)
  |none=>none
 op:=comp P n (match o.dst with|some d=>taken ops d|none=>false) (if dr then PN ops o else .any) o }
def bh(P:Program)(n:Nat)(dr:Bool)(ops:Array Oper):List bI:=ops.toList.map (bu P n dr ops)
def aF(S:an):Option (Nat×Bool)->Option Bool
 |none=>some true
 |some (t,b)=>match S t with
  |.bool c=>some (c==b)
  |.dY []=>some false
  |_=>none
def bq(P:Program)(GI:World->Prop):List bI->(an->ao->Prop)->(AV->Prop)->an->ao->Prop
 |[],K,_,S,H=>K S H
 |o::rest,K,Qp,S,H=>match aF S o.guard with
  |some true=>ba P GI o.op o.dst (bq P GI rest K Qp) Qp S H
  |some false=>bq P GI rest K Qp (aW S o.dst cy) H
  |none=>False
section
variable{P:Program}{GI:World->Prop}{w0:World}{n:Nat}{U:Nat->Prop}{g:Gh}{S:an}{H:ao}{a:Act}{w:World}
def dc.wp {o:Oper} {e:aP} (h:dc P w0 n U g S H a w o e) {K:Act→World→Prop} {Q:Exit→Act→World→Prop}
  (hK:∀g' a' w',g'.base=g.base->g'.old=g.old->Rel P w0 n U g' (e.S S o.dst) (e.H H) a' w'->K a' w'):o.wp P a w K Q:=by
 obtain⟨c,w',g',hr,h1,h2,R⟩:=h;unfold Oper.wp
 rcases hr with hr|⟨hr,rfl⟩
 .rw[hr];exact hK g' _ _ h1 h2 R
 .rw[hr];exact hK g' _ _ h1 h2 R
def fk{a:Act}{cl:Call}{f:Operand}{t:TypeId}(hc:cl.callee=.value f):resolve a.eval cl t=Deferred.ofValue (a.eval f) (cl.args.map a.eval):=by
 unfold resolve;rw[hc]
def zQ (R:Rel P w0 n U g S H a w) (hG:ar GI) (cm:GI w0) {f:Nat} {args:List AV} {bT:Array Value} {bx:Bool} {KA:AV→Prop} {Qp:AV→Prop}
  (hl:args.length=bT.size) (hr:∀i (h:i<args.length)(h':i<bT.size),RV (fI g bx) (λ_=>none) w args[i] bT[i])
  (h:lx P GI f args bx KA Qp) (dst:Option Nat) (hd:∀t,dst=some t->t<n/\¬U t) {Kc:Act->World->Prop} {Qc:Exit->Act->World->Prop}
  (hK:∀v g' a' w',g'.base=g.base->g'.old=g.old->Rel P w0 n U g' (aW S dst v) H a' w'->KA v->Kc a' w')
  (hP:∀v c hi w',Below w0.heap.size w0 w'->(∀b,w'.heap.size<=b->hi b=0)->RD (pU w0.heap.size g.old.c hi) w' v c->Qp v->Qc (.panic [{ v:=c,recovered:=false }]) a w'):
  ee P f=true/\Calls P f bT w (λ|.returned v,jv=>Kc (a.put dst v) jv|.panicked chain,jv=>Qc (.panic chain) a jv|.outgrown,_=>LetsOut Qc):=by
 obtain⟨out,jJ,oL,bK,ku⟩:=h
 have hle:g.base<=w.heap.size:=by rw[R.base];exact R.below.size
 have gD:GI w:=by
  have hb:=R.below;rw[R.base]at hb;exact hG w0 w cm hb
 refine⟨jJ,(oL w (fI g bx) bT gD hl hr).mono ?_⟩;rintro e w' ⟨hb,hi,o7,hh⟩
 cases out with
 |ret v=>
  obtain⟨c,rfl,h1,h2⟩:=hh;obtain⟨g',e1,e2,R'⟩:=R.call dst hd bx hb o7 h1 h2 (λhx=>bK hx);exact hK v g' _ _ e1 e2 R' ku
 |panic v=>
  obtain⟨c,rfl,h1⟩:=hh
  have acy:bx=false:=by
   cases bx with
   |false=>rfl
   |true=>have:=bK rfl;cases this
  subst acy;have uQ:=R.below;rw[R.base]at uQ hle;refine hP v c (λb=>if b<w.heap.size then g.hi b else hi b) w' (uQ.trans (hb.mono hle)) (λb lX=>?_) ?_ ku
  .have:=hb.size;show(if b<w.heap.size then g.hi b else hi b)=0;rw[if_neg zo];exact o7 b lX
  .refine h1.mono (bg.same λb k _ hp=>?_)
   rcases hp with⟨k1,k2⟩|⟨k1,k2⟩
   .rcases k2 with k2|⟨k2,_⟩
    .rcases k2 with k2|k2
     .exact .inl (by rw[<-R.base];exact k2)
     .exact .inr ⟨by rw[<-R.base];exact k2.1,by show k<(if b<w.heap.size then g.hi b else hi b);rw[if_pos k1];exact k2.2⟩
    .cases k2
   .exact .inr ⟨zo,by show k<(if b<w.heap.size then g.hi b else hi b);rw[if_neg zo];exact k2⟩
def FO(d:Nat):(λt=>(bP t\/t=d)/\t≠d)=bP:=by
 funext t
 simp only[bP,ahb,ago,iff_false,not_and,agu];exact id
def EF (R:Rel P w0 n bP g S H a w) {o:Oper} {d:Nat} (iD:o.dst=some d) (hd:d < n) (bK:¬ g.old.bx d) {ty:TypeId} {vs:Array Value} {cs:List AV}
  (dE:(execOp a.eval o).run P w=.ok (.value (.pointer (some ⟨w.heap.size,0,none⟩))) (w.alloc (.cells vs ty))) (hr:pE g.Pr w cs vs)
  (ho:∀(g':Gh) j (h:j<cs.length)(h':j<vs.size),(cs[j]).my/\eQ P w g' (.cell d j) cs[j] vs[j])
  {Kc:Act->World->Prop} {Qc:Exit->Act->World->Prop}
  (hK:∀g' a' w',g'.base=g.base->g'.old=g.old->Rel P w0 n bP g' (au (λt=>cb d (S t)) d (.box d 0)) (au H d (some cs)) a' w'->Kc a' w'):o.wp P a w Kc Qc:=by
 have R1:=R.suspend d bK (.box d 0) cs;have R2:=R1.Jb d (.inr rfl) hd cs vs ty (aO _ _ _) (aO _ _ _) hr.1 hr.2.1 (λj h h'=>ho _ j h h') hr.2.2;unfold Oper.wp;rw[dE];show Kc _ _;rw[iD];rw[FO]at R2;exact hK { g with al:=au (au g.al d none) d (some w.heap.size) } _ _ rfl rfl R2
def BE{o:Oper}{tk:Bool}{hr:HR}{t:TypeId}{cs:List AV}(h:comp P n tk hr o=.alloc t cs):o.op=.alloc t/\zeroCells P t=some cs:=by
 unfold comp at h
 repeat' split at h
 all_goals first
  |(cases h;done)
  |(cases h;exact⟨by assumption,by assumption⟩)
def Qu{o:Oper}{tk:Bool}{hr:HR}{t:TypeId}{size:Nat}{x:cT}(h:comp P n tk hr o=.box t size x):∃x',o.op=.box t x'/\dz n x'=some x:=by
 unfold comp at h
 repeat' split at h
 all_goals first
  |(cases h;done)
  |(cases h;exact⟨_,by assumption,by assumption⟩)
def KT{o:Oper}{tk:Bool}{hr:HR}{x:cT}(h:comp P n tk hr o=.panic x):∃x',o.op=.panic x'/\dz n x'=some x:=by
 unfold comp at h
 repeat' split at h
 all_goals first
  |(cases h;done)
  |(cases h;exact⟨_,by assumption,by assumption⟩)
def Yx{x:Operand}{f:Nat}(h:dz n x=some (.f f)):x=.func f:=by
 cases x<;>simp only[dz]at h
 .split at h<;>cases h
 .simp only[adP]at h;obtain⟨_,_,h⟩:=h;cases h
 .cases h
 .cases h;rfl
def MY{o:Oper}{tk:Bool}{hr:HR}{f:Nat}{args:List cT}(h:comp P n tk hr o=.call f args):∃cl,o.op=.call cl/\cl.callee=.value (.func f)/\pR n cl.args.toList=some args:=by
 unfold comp at h
 repeat' split at h
 all_goals first
  |(cases h;done)
  |skip
 cases h;rename_i h1 h2;have e:=Yx h1;subst e;exact⟨_,by assumption,by assumption,h2⟩
def KN {o:Oper} {tk:Bool} {hr:HR} {f:cT} {args:List cT} (h:comp P n tk hr o = .gy f args) :
  (∃cl f',o.op=.call cl/\cl.callee=.value f'/\dz n f'=some f/\pR n cl.args.toList=some args)\/
  ∃cl r name t,o.op=.call cl/\cl.callee=.invoke r name/\dz n r=some (.t t)/\f=.m t (JA P name)/\pR n cl.args.toList=some args:=by
 unfold comp at h
 repeat' split at h
 all_goals first
  |(cases h;done)
  |skip
 .cases h;exact .inl ⟨_,_,by assumption,by assumption,by assumption,by assumption⟩
 .cases h;exact .inr ⟨_,_,_,_,by assumption,by assumption,by assumption,rfl,by assumption⟩
def O4(x:Value)(l:Array Value):(#[x]++l)[0]?=some x:=by
 rw[Array.getElem?_append_left ahB];rfl
def QO(x:Value)(l:Array Value):(#[x]++l).extract 1 (#[x]++l).size=l:=by
 apply Array.ext';simp
def t_ (R:Rel P w0 n U g S H a w) (hG:ar GI) (cm:GI w0) {o:Oper} {tk:Bool} {hr:HR} {f:Nat} {args:List cT} (hc:comp P n tk hr o = .call f args) (hd:∀ t,o.dst=some t→t < n∧¬ U t) (hu:∀ t∈(eG.call f args).rd,¬ U t)
  {KA:AV->Prop} {Qp:AV->Prop} (h:lx P GI f (args.map λy=>fz H (AL.ev S y)) (args.any λy=>cW (AL.ev S y)) KA Qp) {Kc:Act->World->Prop} {Qc:Exit->Act->World->Prop}
  (hK:∀v g' a' w',g'.base=g.base->g'.old=g.old->Rel P w0 n U g' (aW S o.dst v) H a' w'->KA v->Kc a' w')
  (hP:∀v c hi w',Below w0.heap.size w0 w'->(∀b,w'.heap.size<=b->hi b=0)->RD (pU w0.heap.size g.old.c hi) w' v c->Qp v->Qc (.panic [{ v:=c,recovered:=false }]) a w'):o.wp P a w Kc Qc:=by
 obtain⟨cl,dn,Mb,yi⟩:=MY hc;obtain⟨l1,r1⟩:=R.Ls yi (λy hy t ht=>hu t (aei.2 ⟨y,hy,ht⟩))
 obtain⟨jJ,og⟩:=zQ R hG cm (bT:=cl.args.map a.eval) (by simpa using l1) (λi hi du=>by
  simp only[adH]at hi;simp only[adR,Array.getElem_map];have:=r1 i hi (by simpa using du)
  refine R.fz (by simpa using this) _ λhb=>?_
  exact ae8.2 ⟨_,adC hi,hb⟩) h o.dst hd (Kc:=Kc) (Qc:=Qc) hK hP
 have acW:a.eval (.func f)=.func (.func f) #[] #[]:=rfl;unfold Oper.wp execOp;simp only[dn,fk Mb,acW,Deferred.ofValue,adK,Sem.run_pure,Result.andThen_ok,invoke,ahJ,ahK];rw[gp jJ];exact og
def vF (R:Rel P w0 n U g S H a w) (hG:ar GI) (cm:GI w0) {o:Oper} {tk:Bool} {hr:HR} {f:cT} {args:List cT} (hc:comp P n tk hr o = .gy f args) (hd:∀ t,o.dst=some t→t < n∧¬ U t) (hu:∀ t∈(eG.gy f args).rd,¬ U t)
  {k:Nat} {first cap:List AV} (zw:AL.ev S f=.func (.func k) first cap)
  {KA:AV->Prop} {Qp:AV->Prop} (h:lx P GI k ((first++args.map (AL.ev S)++cap).map (fz H)) ((first++args.map (AL.ev S)++cap).any cW) KA Qp) {Kc:Act->World->Prop} {Qc:Exit->Act->World->Prop}
  (hK:∀v g' a' w',g'.base=g.base->g'.old=g.old->Rel P w0 n U g' (aW S o.dst v) H a' w'->KA v->Kc a' w')
  (hP:∀v c hi w',Below w0.heap.size w0 w'->(∀b,w'.heap.size<=b->hi b=0)->RD (pU w0.heap.size g.old.c hi) w' v c->Qp v->Qc (.panic [{ v:=c,recovered:=false }]) a w'):o.wp P a w Kc Qc:=by
 simp only[eG.rd,adG,aei]at hu
 rcases KN hc with⟨cl,f',dn,Mb,hf,yi⟩|⟨cl,r,name,t,dn,Mb,ir,rfl,yi⟩
 case inr=>
  obtain⟨l1,r1⟩:=R.Ls yi (λy hy t ht=>hu t (.inr ⟨y,hy,ht⟩));have Q_:=R.ev ir (λt' ht=>hu t' (.inl (by simpa[cT.tmps]using ht)));simp only[AL.ev]at zw Q_;generalize hS:S t=sv at zw Q_;split at zw
  case h_2=>cases zw
  rename_i ty v;split at zw
  case h_2=>cases zw
  rename_i k' hk;cases zw;generalize Fq:a.eval r=cr at Q_;have Q_:=Q_.dX rfl
  cases Q_ with
  |iface _ _ cv hv=>
  simp only[List.singleton_append,aeI]at h
  obtain⟨jJ,og⟩:=zQ R hG cm (bT:=#[cv]++cl.args.map a.eval) (by simp at l1⊢;omega) (λi hi du=>by
   simp only[adH]at hi;simp only[adR]
   refine R.fz ?_ _ λhb=>?_
   .cases i with
    |zero=>
     have e2:(#[cv]++cl.args.map a.eval)[0]=cv:=by rw[afF ahB];rfl
     simp only[List.getElem_cons_zero];rw[e2];exact .data _ _ hv
    |succ i=>
     have e2:(#[cv]++cl.args.map a.eval)[i+1]=a.eval (cl.args.toList[i]'(by simp at du l1⊢;omega)):=by
      rw[af9 ahB];simp
     simp only[List.getElem_cons_succ,adR];rw[e2];exact r1 i (by simpa using hi) (by simp at du l1⊢;omega)
   .exact ae8.2 ⟨_,adC hi,hb⟩) h o.dst hd (Kc:=Kc) (Qc:=Qc) hK hP
  have hm:=Mk (v:=cv) (w:=w) hk;unfold Oper.wp execOp;simp only[dn]
  have LH:(resolve a.eval cl o.type).run P w=.ok { target:=.fn (.method name) #[],args:=#[.iface ty cv]++cl.args.map a.eval } w:=by
   unfold resolve;rw[Mb];simp[Fq]
  simp only[adK,LH,Result.andThen_ok,invoke,O4,callMethod,QO,hm,run_program];rw[gp jJ];simp only[Oper.upon];exact og
 obtain⟨l1,r1⟩:=R.Ls yi (λy hy t ht=>hu t (.inr ⟨y,hy,ht⟩));have YB:=R.ev hf (λt ht=>hu t (.inl ht));rw[zw]at YB;generalize hcf:a.eval f'=cf at YB
 cases YB with
 |data _ _ hh=>cases hh
 |func _ _ _ vs us q1 q2 q3 q4=>
  have eH:∀i (hi:i<(first++args.map (AL.ev S)++cap).length)(du:i<(vs++cl.args.map a.eval++us).size),RV g.Pr g.al w (first++args.map (AL.ev S)++cap)[i] (vs++cl.args.map a.eval++us)[i]:=by
   intro i hi du;simp only[adV,adH]at hi;simp only[Array.length_toList]at l1
   by_cases c1:i<first.length
   .have e1:(first++args.map (AL.ev S)++cap)[i]=first[i]:=by rw[ad5 (by simp;omega),ad5 c1]
    have e2:(vs++cl.args.map a.eval++us)[i]=vs[i]:=by rw[afF (by simp;omega),afF zo]
    rw[e1,e2];exact q3 i c1 zo
   .by_cases c2:i<first.length+args.length
    .have e1:(first++args.map (AL.ev S)++cap)[i]=AL.ev S (args[i-first.length]):=by rw[ad5 (by simp;omega),aec zo];simp
     have e2:(vs++cl.args.map a.eval++us)[i]=a.eval (cl.args.toList[i-first.length]'(by simp;omega)):=by
      rw[afF (by simp;omega),af9 zo];simp[q1]
     rw[e1,e2];exact r1 _ zo (by simp;omega)
    .have e1:(first++args.map (AL.ev S)++cap)[i]=cap[i-(first.length+args.length)]' zo:=by rw[aec (by simp;omega)];simp
     have e2:(vs++cl.args.map a.eval++us)[i]=us[i-(first.length+args.length)]' zo:=by
      rw[af9 (by simp;omega)];simp[q1,l1]
     rw[e1,e2];exact q4 _ zo zo
  obtain⟨jJ,og⟩:=zQ R hG cm (bT:=vs++cl.args.map a.eval++us) (by simp at l1⊢;omega) (λi hi du=>by
   simp only[adH]at hi;simp only[adR]
   refine R.fz (eH i hi du) _ λhb=>?_
   exact ae8.2 ⟨_,adC hi,hb⟩) h o.dst hd (Kc:=Kc) (Qc:=Qc) hK hP
  unfold Oper.wp execOp;simp only[dn,fk Mb,hcf,Deferred.ofValue,adK,Sem.run_pure,Result.andThen_ok,invoke];rw[gp jJ];simp only[Oper.upon];exact og
def QV (R:Rel P w0 n bP g S H a w) (hG:ar GI) (cm:GI w0) {o:Oper} {tk:Bool} {hr:HR} (hd:∀ t,o.dst=some t→t < n) (eR:∀ t,o.dst=some t→t∉(comp P n tk hr o).rd) (bK:∀ d,o.dst=some d→(comp P n tk hr o).jx=true→¬ g.old.bx d)
  {K:an->ao->Prop} {Qp:AV->Prop} (h:ba P GI (comp P n tk hr o) o.dst K Qp S H) {Kc:Act->World->Prop} {Qc:Exit->Act->World->Prop}
  (hK:∀g' S' H' a' w',g'.base=g.base->g'.old=g.old->Rel P w0 n bP g' S' H' a' w'->K S' H'->Kc a' w')
  (hP:∀v c hi w',Below w0.heap.size w0 w'->(∀b,w'.heap.size<=b->hi b=0)->RD (pU w0.heap.size g.old.c hi) w' v c->Qp v->Qc (.panic [{ v:=c,recovered:=false }]) a w'):
  o.wp P a w Kc Qc:=by
 by_cases bU:(comp P n tk hr o).calm=true
 .rw[Bu bU]at h;split at h
  case h_2=>exact h.elim
  rename_i e he
  exact(yn R rfl bU (λt ht=>⟨hd t ht,id⟩) (λ_ _=>id) eR he).wp λg' a' w' h1 h2 R'=>hK g' _ _ _ _ h1 h2 R' h
 .generalize hc:comp P n tk hr o=op at h bU eR bK
  cases op<;>try (exact absurd rfl bU)
  case alloc t cs=>
   simp only[ba]at h
   cases iD:o.dst with
   |none=>rw[iD]at h;exact h.elim
   |some d=>
    rw[iD]at h;obtain⟨dn,hz⟩:=BE hc;unfold zeroCells at hz;split at hz
    case h_2=>cases hz
    rename_i it hi;split at hz
    case h_2=>cases hz
    rename_i z ZS;obtain⟨h1,h2,h3⟩:=iG g.Pr w hz
    refine EF R iD (hd d iD) (bK d iD rfl) (vs:=z.cells) (ty:=t) (cs:=cs) ?_ (by simpa using h1) (λg' j hj dZ=>⟨h2 _ (adC hj),by have:=h3 P g' (.cell d) j hj (by simpa using dZ);rwa [Array.getElem_toList]at this⟩) λg' a' w' e1 e2 R'=>hK g' _ _ _ _ e1 e2 R' h
    unfold execOp;simp[dn,Instr.alloc,zeroValue,typeInfo,hi,ZS,newVar,newRow]
  case box t size x=>
   simp only[ba]at h
   cases iD:o.dst with
   |none=>rw[iD]at h;exact h.elim
   |some d=>
    rw[iD]at h;obtain⟨yb,yH,hk⟩:=h;obtain⟨x',dn,hx⟩:=Qu hc;have hv:=(R.ev hx (λ_ _=>id)).dX (AV.kg yH);have dh:=hv.Wh yH
    have aaH:pE g.Pr w ((AL.ev S x).cells.map AV.aI) (a.eval x').cells:=by
     refine pE.mk' (by simpa using dh.1) (λi v c e1 e2=>?_) (λi v e1=>?_)
     .simp only[ad9,adP]at e1;obtain⟨u,h1,rfl⟩:=e1;exact(dh.get h1 e2).aI
     .simp only[ad9,adP]at e1;obtain⟨u,h1,rfl⟩:=e1;exact(AV.pc _).trans (dh.one h1)
    refine EF R iD (hd d iD) (bK d iD rfl) (vs:=(a.eval x').cells) (ty:=t) ?_ aaH (λg' j hj dZ=>⟨by simp only[adR];exact AV.qD _,by simp only[adR];exact h_ _ _ _⟩) λg' a' w' e1 e2 R'=>hK g' _ _ _ _ e1 e2 R' hk
    unfold execOp;simp[dn,Instr.box,newVar,newRow]
  case panic x=>
   simp only[ba]at h;obtain⟨x',dn,hx⟩:=KT hc;have hv:=R.ev hx (λ_ _=>id);generalize AL.ev S x=v at h hv;generalize lE:a.eval x'=c at hv
   cases v<;>try exact h.elim
   rename_i t v;cases hv;rename_i hv;have pP:=hv;cases pP;rename_i c' pP;unfold Oper.wp execOp;simp only[dn,lE,Instr.panic,adK,run_goPanic,Result.andThen_halt];have uQ:=R.below;rw[R.base]at uQ;refine hP (.iface t v) (.iface t c') g.hi w uQ (λb hb=>(R.fresh b hb).1) ?_ h;rw[<-R.base];exact hv
  case call f args=>
   exact t_ R hG cm hc (λt ht=>⟨hd t ht,id⟩) (λ_ _=>id) h (λv g' a' w' e1 e2 R' hk=>hK g' _ _ _ _ e1 e2 R' hk) hP
  case gy f args=>
   simp only[ba]at h;split at h
   case h_2=>exact h.elim
   rename_i k first cap zw;exact vF R hG cm hc (λt ht=>⟨hd t ht,id⟩) (λ_ _=>id) zw h (λv g' a' w' e1 e2 R' hk=>hK g' _ _ _ _ e1 e2 R' hk) hP
  case other=>exact h.elim
end
section
variable{P:Program}{GI:World->Prop}{w0:World}{n:Nat}{U:Nat->Prop}{g:Gh}{S:an}{H:ao}{a:Act}{w:World}
inductive dV where
 |normal|exit (id:Nat)|ret|panic (v:AV)
def QQ(P:Program)(w0:World)(n:Nat)(old:Old)(Q:dV->an->ao->Prop):Exit->Act->World->Prop
 |.normal,a,w=>∃g S H,g.old=old/\Rel P w0 n bP g S H a w/\Q .normal S H
 |.exit id,a,w=>∃g S H,g.old=old/\Rel P w0 n bP g S H a w/\Q (.exit id) S H
 |.ret,a,w=>∃g S H,g.old=old/\Rel P w0 n bP g S H a w/\Q .ret S H
 |.panic chain,a,w=>a.defers=old.ds/\∃v c hi S H,chain=[{ v:=c,recovered:=false }]/\Below w0.heap.size w0 w/\(∀b,w.heap.size<=b->hi b=0)/\RD (pU w0.heap.size old.c hi) w v c/\Q (.panic v) S H
 |_,_,_=>False
def uV(Pr:Nat->Nat->Prop)(w:World):RD Pr w cy undef:=.dY [] #[] rfl λi h=>by simp at h
def Rel.UZ(R:Rel P w0 n U g S H a w)(dst:Option Nat)(hd:∀t,dst=some t->t<n):Rel P w0 n U g (Go.AL.aW S dst cy) H (a.put dst undef) w:=
 R.aW dst _ _ hd (.data _ _ (uV _ _)) λ_ _=>trivial
def tf (R:Rel P w0 n U g S H a w) {dr:Bool} {ops:Array Oper} {o:Oper} {b:Bool} (hu:∀ t b,(bu P n dr ops o).guard=some (t,b)→¬ U t)
  (bV:(bu P n dr ops o).ok n=true) (h:aF S (bu P n dr ops o).guard=some b):Region.wanted o (yielded ops a.tmps)=b:=by
 unfold Region.wanted;simp only[bu]at bV h hu
 cases hg:o.guard with
 |none=>
  rw[hg]at h;simp only[aF,ad8]at h;exact h
 |some p=>
  obtain⟨j,want⟩:=p;rw[hg]at h bV hu;simp only at h bV hu⊢
  cases hj:C6 ops j with
  |none=>
   rw[hj]at bV;simp only[bI.ok,adE,adL]at bV;omega
  |some t=>
   rw[hj]at h bV hu;simp only[bI.ok,adE,adL]at bV;have ht:t<n:=bV.2;have hs:=R.slot t ht (hu t want rfl)
   have hy:yielded ops a.tmps j=(match a.tmps.getD t undef with|.bool b=>some b|_=>none):=by
    unfold yielded;unfold C6 at hj;rw[hj]
    have:t<a.tmps.size:=by rw[R.size];exact ht
    simp[this]
    split<;>simp_all
   rw[hy];simp only[aF]at h;generalize S t=v at h hs;generalize a.tmps.getD t undef=c at hs;split at h
   .cases h;cases hs;rename_i hs;cases hs;rename_i c'
    cases c'<;>cases want<;>rfl
   .cases h;cases hs;rename_i hs;cases hs
    simp_all
   .cases h
def rY (hG:ar GI) (cm:GI w0) {old:Old} {ops:Array Oper} {Q:dV→an→ao→Prop} {S0:an} {H0:ao} :
  ∀(l:List Nat)(os:List Oper)(g:Gh)(S:an)(H:ao)(a:Act)(w:World),l.map (ops[·]?)=os.map some->(∀o∈os,(bu P n false ops o).ok n=true)->(∀o∈os,∀d∈(bu P n false ops o).jx,¬old.bx d)->g.old=old->Rel P w0 n bP g S H a w->
   bq P GI (os.map (bu P n false ops)) (Q .normal) (λv=>Q (.panic v) S0 H0) S H->wpOps P ops (QQ P w0 n old Q) l a w
 |[],os,g,S,H,a,w,hl,_,_,ho,R,h=>by
  have:os=[]:=by cases os with|nil=>rfl|cons=>simp at hl
  subst this;exact⟨g,S,H,ho,R,h⟩
 |i::l,os,g,S,H,a,w,hl,bV,bK,ho,R,h=>by
  cases os with
  |nil=>simp at hl
  |cons o os=>
   simp only[adU,ae1]at hl;obtain⟨hi,hl⟩:=hl;have uB:=bV o adX;simp only[adU,bq]at h;simp only[wpOps,hi]
   have tB:∀t,o.dst=some t->t<n/\t∉(bu P n false ops o).op.rd:=by
    intro t ht;simp only[bI.ok,adE]at uB;have h1:=uB.1;rw[show(bu P n false ops o).dst=o.dst from rfl,ht]at h1;simpa using h1
   cases hw:aF S (bu P n false ops o).guard with
   |none=>rw[hw]at h;exact h.elim
   |some b=>
    rw[hw]at h;rw[tf R (λ_ _ _=>id) uB hw]
    cases b with
    |true=>
     simp only[aed];refine .inl (QV R hG cm (λt ht=>(tB t ht).1) (λt ht=>(tB t ht).2) (λd hd hl=>by rw[ho];exact bK o adX d (by have:(bu P n false ops o).op.jx=true:=hl;simp only[bI.jx,this,aed];rw[show(bu P n false ops o).dst=o.dst from rfl,hd];simp)) h (λg' S' H' a' w' e1 e2 R' hk=>rY hG cm l os g' S' H' a' w' hl (λo ho=>bV o (adO _ ho)) (λo ho=>bK o (adO _ ho)) (e2.trans ho) R' hk) ?_);intro v c hi w' k1 k2 k3 k4;exact⟨by rw[<-ho];exact R.defers,v,c,hi,S0,H0,rfl,k1,k2,by rw[<-ho];exact k3,k4⟩
    |false=>
     simp only[adM,ad1];exact rY hG cm l os g _ H _ w hl (λo ho=>bV o (adO _ ho)) (λo ho=>bK o (adO _ ho)) ho (R.UZ o.dst λt ht=>(tB t ht).1) h
def MN (hG:ar GI) (cm:GI w0) {old:Old} {id:Nat} {ops:Array Oper} {Q:dV→an→ao→Prop} (bV:(bh P n false ops).all (·.ok n)=true) (bK:∀ o∈bh P n false ops,∀ d∈o.jx,¬ old.bx d) (ho:g.old=old) (R:Rel P w0 n bP g S H a w)
  (h:bq P GI (bh P n false ops) (Q .normal) (λv=>Q (.panic v) S H) S H):(Code.region id ops false).wp P (QQ P w0 n old Q) a w:=by
 refine wp_region (rY hG cm (S0:=S) (H0:=H) (List.range ops.size) ops.toList g S H a w ?_ (λo kE=>?_) (λo kE=>bK _ (afM kE)) ho R h)
 .apply ae5;intro i;simp only[ad9]
  by_cases hi:i<ops.size
  .simp[hi]
  .simp[hi]
 .simp only[bh,afl,adQ,Function.comp]at bV;exact bV o kE
end
inductive Acc where
 |no|rd (r:Option Nat)|soft (r:Option Nat)|wr (r:Option Nat)
def HR.one:HR->Option Nat
 |.box r=>some r
 |_=>none
def eG.acc:eG->Acc
 |.load .ref ..=>.no
 |.load hr ..=>.rd hr.one
 |.loadT hr _=>.soft hr.one
 |.store hr ..=>.wr hr.one
 |_=>.no
def meets:Option Nat->Option Nat->Bool
 |some a,some b=>a==b
 |_,_=>true
def Acc.conflict:Acc->Acc->Bool
 |.no,_|_,.no=>false
 |.rd _,.rd _|.rd _,.soft _|.soft _,.rd _=>false
 |.rd a,.wr b|.wr a,.rd b|.soft a,.soft b|.soft a,.wr b|.wr a,.soft b|.wr a,.wr b=>meets a b
def eG.wr:eG->List Nat
 |.mv true x=>x.tmps
 |.store _ _ _ x=>x.tmps
 |.append _ _ _ _ x _=>x.tmps
 |_=>[]
def bI.reads(o:bI):List Nat:=o.op.rd++(match o.guard with|some (t,_)=>[t]|none=>[])
def bI.writes(o:bI):List Nat:=o.dst.toList++o.op.wr
def bI.apart(x y:bI):Bool:=
 x.writes.all (λt=>!y.reads.contains t&&!y.writes.contains t)&&y.writes.all (λt=>!x.reads.contains t)&&!x.op.acc.conflict y.op.acc
section
variable{P:Program}{GI:World->Prop}
def ln(P:Program)(GI:World->Prop)(op:eG)(dst:Option Nat)(S:an)(H:ao)(e:aP):Prop:=
 match op with
 |.alloc _ _=>match dst with
  |some d=>e={ v:=.box d 0 }
  |none=>False
 |.call f args=>(args.any λy=>cW (ev S y))=false/\lx P GI f (args.map λy=>fz H (ev S y)) (args.any λy=>cW (ev S y)) (λv=>e={ v:=v }) (λ_=>False)
 |.gy f args=>match ev S f with
  |.func (.func k) first cap=>((first++args.map (ev S)++cap).any cW)=false/\lx P GI k ((first++args.map (ev S)++cap).map (fz H)) ((first++args.map (ev S)++cap).any cW) (λv=>e={ v:=v }) (λ_=>False)
  |_=>False
 |.box ..|.panic _|.other=>False
 |op=>aD S H op=some e
def jB(P:Program)(GI:World->Prop)(op:eG)(dst:Option Nat)(K:an->ao->Prop)(S:an)(H:ao):Prop:=
 match op with
 |.alloc _ _=>match dst with
  |some d=>K (au S d (.box d 0)) H
  |none=>False
 |.box ..|.panic _|.other=>False
 |.call f args=>(args.any λy=>cW (ev S y))=false/\ba P GI (.call f args) dst K (λ_=>False) S H
 |.gy f args=>(match ev S f with|.func _ first cap=>(first++args.map (ev S)++cap).any cW|_=>true)=false/\ba P GI (.gy f args) dst K (λ_=>False) S H
 |op=>ba P GI op dst K (λ_=>False) S H
def uS{op:eG}{dst:Option Nat}{K:an->ao->Prop}{S:an}{H:ao}(h:jB P GI op dst K S H):∃e,ln P GI op dst S H e/\K (e.S S dst) (e.H H):=by
 cases op
 case alloc t z=>
  cases dst with
  |none=>exact h.elim
  |some d=>exact⟨_,rfl,h⟩
 case call f args=>
  obtain⟨hb,out,h1,h2,h3,h4⟩:=h
  cases out with
  |ret v=>exact⟨{ v:=v },⟨hb,.ret v,h1,h2,h3,rfl⟩,h4⟩
  |panic v=>exact h4.elim
 case gy f args=>
  simp only[jB,ba]at h;simp only[ln];obtain⟨hb,h⟩:=h;split at h
  .rename_i k first cap hf;rw[hf]at hb;obtain⟨out,h1,h2,h3,h4⟩:=h
   cases out with
   |ret v=>exact⟨{ v:=v },by(try simp only[hf]);exact⟨hb,.ret v,h1,h2,h3,rfl⟩,h4⟩
   |panic v=>exact h4.elim
  .exact h.elim
 case box=>exact h.elim
 case panic=>exact h.elim
 case other=>exact h.elim
 all_goals
  simp only[jB,ba]at h;split at h
  case h_2=>exact h.elim
  rename_i e he;exact⟨e,he,h⟩
def cV(P:Program)(GI:World->Prop):List bI->(an->ao->Prop)->an->ao->Prop
 |[],K,S,H=>K S H
 |o::rest,K,S,H=>match aF S o.guard with
  |some true=>jB P GI o.op o.dst (cV P GI rest K) S H
  |some false=>cV P GI rest K (aW S o.dst cy) H
  |none=>False
def eA(P:Program)(GI:World->Prop)(o:bI)(S:an)(H:ao)(e:aP):Prop:=
 match aF S o.guard with
 |some true=>ln P GI o.op o.dst S H e
 |some false=>e={ v:=cy }
 |none=>False
def uq {o:bI} {rest:List bI} {K:an→ao→Prop} {S:an} {H:ao} (h:cV P GI (o::rest) K S H) :
  ∃e,eA P GI o S H e/\cV P GI rest K (e.S S o.dst) (e.H H):=by
 simp only[cV]at h;unfold eA;split at h
 .exact uS h
 .exact⟨_,rfl,h⟩
 .exact h.elim
def bL{S S':an}{y:cT}(h:∀t∈y.tmps,S t=S' t):ev S y=ev S' y:=by
 cases y with
 |t k=>exact h k (by simp[cT.tmps])
 |c v=>rfl
 |f k=>rfl
 |m k ON=>simp only[ev,h k (by simp[cT.tmps])]
def xC{S S':an}{ys:List cT}(h:∀y∈ys,∀t∈y.tmps,S t=S' t):ys.map (ev S)=ys.map (ev S'):=
 aez λy hy=>bL (h y hy)
def wH:Acc->ao->ao->Prop
 |.no,_,_=>True
 |.rd none,H,H'=>∀i,(H i).map (·.map AV.aI)=(H' i).map (·.map AV.aI)
 |.rd (some r),H,H'=>(H r).map (·.map AV.aI)=(H' r).map (·.map AV.aI)
 |.soft none,H,H'|.wr none,H,H'=>H=H'
 |.soft (some r),H,H'|.wr (some r),H,H'=>H r=H' r
def N4{ag:Bool}{size off:Nat}{cs fX:List AV}(h:cs.map AV.aI=fX.map AV.aI):cd ag size (cs.drop off)=cd ag size (fX.drop off):=by
 have hl:cs.length=fX.length:=by have:=congrArg List.length h;simpa using this
 have hd:(cs.drop off).map AV.aI=(fX.drop off).map AV.aI:=by rw[ag0,ag0,h]
 generalize hx:cs.drop off=xs at hd;generalize hy:fX.drop off=ys at hd
 have uO:xs.length=ys.length:=by have:=congrArg List.length hd;simpa using this
 unfold cd
 have e1:(xs.take size).map AV.aI=(ys.take size).map AV.aI:=by rw[afv,afv,hd]
 have e2:(xs[0]?).map AV.aI=(ys[0]?).map AV.aI:=by
  have:=congrArg (·[0]?) hd;simpa using this
 rw[e1,e2,uO]
def IQ{S S':an}{H H':ao}{op:eG}(hS:∀t∈op.rd,S t=S' t)(hH:wH op.acc H H'):aD S H op=aD S' H' op:=by
 cases op
 case build z ps=>
  have:(ps.map λ(o,s,x)=>(o,s,ev S x))=(ps.map λ(o,s,x)=>(o,s,ev S' x)):=
   aez λq hq=>by
    have:=bL (S:=S) (S':=S') (y:=q.2.2) λt ht=>hS t (aei.2 ⟨q,hq,ht⟩)
    simp[this]
  simp only[aD,this]
 case buildSlice t e s ps=>
  have:=xC (S:=S) (S':=S') (ys:=ps) λy hy t ht=>hS t (aei.2 ⟨y,hy,ht⟩)
  simp only[aD,this]
 case Fa fn f c=>
  simp only[eG.rd,adG,aei]at hS
  have h1:(f.map λx=>(ev S x).aI)=(f.map λx=>(ev S' x).aI):=aez λy hy=>by rw[bL λt ht=>hS t (.inl ⟨y,hy,ht⟩)]
  have h2:(c.map λx=>(ev S x).aI)=(c.map λx=>(ev S' x).aI):=aez λy hy=>by rw[bL λt ht=>hS t (.inr ⟨y,hy,ht⟩)]
  simp only[aD,h1,h2]
 case oX x lo hi=>
  simp only[eG.rd,adG,aei]at hS
  have h0:=bL (S:=S) (S':=S') (y:=x) λt ht=>hS t (.inl ht)
  have h1:lo.map (ev S)=lo.map (ev S'):=by cases lo with|none=>rfl|some y=>simp only[Option.map_some,ad8];exact bL λt ht=>hS t (.inr ⟨y,.inl ahB,ht⟩)
  have h2:hi.map (ev S)=hi.map (ev S'):=by cases hi with|none=>rfl|some y=>simp only[Option.map_some,ad8];exact bL λt ht=>hS t (.inr ⟨y,.inr ahB,ht⟩)
  simp only[aD,h0,h1,h2]
 case od s x lo hi=>
  simp only[eG.rd,adG,aei]at hS
  have h0:=bL (S:=S) (S':=S') (y:=x) λt ht=>hS t (.inl ht)
  have h1:lo.map (ev S)=lo.map (ev S'):=by cases lo with|none=>rfl|some y=>simp only[Option.map_some,ad8];exact bL λt ht=>hS t (.inr ⟨y,.inl ahB,ht⟩)
  have h2:hi.map (ev S)=hi.map (ev S'):=by cases hi with|none=>rfl|some y=>simp only[Option.map_some,ad8];exact bL λt ht=>hS t (.inr ⟨y,.inr ahB,ht⟩)
  simp only[aD,h0,h1,h2]
 case load hr ag s x=>
  have e:=bL (S:=S) (S':=S') (y:=x) hS;simp only[aD,e];split
  .rename_i i off he;split
   case isFalse=>rfl
   rename_i bV
   have hd:(H i).map (·.map AV.aI)=(H' i).map (·.map AV.aI):=by
    cases hr with
    |any=>exact hH i
    |ref=>cases bV
    |box r=>
     have:i=r:=by simpa[HR.okB]using bV
     subst this;exact hH
   cases h1:H i<;>cases h2:H' i<;>rw[h1,h2]at hd<;>simp only[Option.map_none,Option.map_some,reduceCtorEq,ad8]at hd
   .simp only[N4 hd]
  .rfl
  .rfl
 case loadT hr x=>
  have e:=bL (S:=S) (S':=S') (y:=x) hS;simp only[aD,e];split
  .rename_i i off he;split
   case isFalse=>rfl
   rename_i bV
   have hd:H i=H' i:=by
    cases hr with
    |any=>cases(show H=H' from hH);rfl
    |ref=>cases bV
    |box r=>
     have:i=r:=by simpa[HR.okB]using bV
     subst this;exact hH
   rw[hd]
  .rfl
 case store hr s x y=>
  simp only[eG.rd,adG]at hS
  have e1:=bL (S:=S) (S':=S') (y:=x) λt ht=>hS t (.inl ht)
  have e2:=bL (S:=S) (S':=S') (y:=y) λt ht=>hS t (.inr ht)
  simp only[aD,e1,e2];split
  .rename_i i off he;split
   case isFalse=>rfl
   rename_i bV
   have hd:H i=H' i:=by
    cases hr with
    |any=>cases(show H=H' from hH);rfl
    |ref=>cases bV
    |box r=>
     have:i=r:=by simpa[HR.okB]using bV
     subst this;exact hH
   rw[hd]
  .rfl
 case pick x y z=>
  simp only[eG.rd,adG]at hS;simp only[aD,bL λt ht=>hS t (.inl (.inl ht)),bL λt ht=>hS t (.inl (.inr ht)),bL λt ht=>hS t (.inr ht)]
 case bin=>simp only[eG.rd,adG]at hS;simp only[aD,bL λt ht=>hS t (.inl ht),bL λt ht=>hS t (.inr ht)]
 case EA=>simp only[eG.rd,adG]at hS;simp only[aD,bL λt ht=>hS t (.inl ht),bL λt ht=>hS t (.inr ht)]
 case eqs=>simp only[eG.rd,adG]at hS;simp only[aD,bL λt ht=>hS t (.inl ht),bL λt ht=>hS t (.inr ht)]
 case oV xs=>
  have:=xC (S:=S) (S':=S') (ys:=xs) λy hy t ht=>hS t (aei.2 ⟨y,hy,ht⟩)
  simp only[aD,this]
 case oZ=>simp only[eG.rd,adG]at hS;simp only[aD,bL λt ht=>hS t (.inl ht),bL λt ht=>hS t (.inr ht)]
 case mN=>simp only[eG.rd,adG]at hS;simp only[aD,bL λt ht=>hS t (.inl ht),bL λt ht=>hS t (.inr ht)]
 case lookup=>simp only[eG.rd,adG]at hS;simp only[aD,bL λt ht=>hS t (.inl ht),bL λt ht=>hS t (.inr ht)]
 case indexAddr=>simp only[eG.rd,adG]at hS;simp only[aD,bL λt ht=>hS t (.inl ht),bL λt ht=>hS t (.inr ht)]
 case oU=>simp only[eG.rd,adG]at hS;simp only[aD,bL λt ht=>hS t (.inl ht),bL λt ht=>hS t (.inr ht)]
 case append=>simp only[eG.rd,adG]at hS;simp only[aD,bL λt ht=>hS t (.inl ht),bL λt ht=>hS t (.inr ht)]
 case max=>simp only[eG.rd,adG]at hS;simp only[aD,bL λt ht=>hS t (.inl ht),bL λt ht=>hS t (.inr ht)]
 case min=>simp only[eG.rd,adG]at hS;simp only[aD,bL λt ht=>hS t (.inl ht),bL λt ht=>hS t (.inr ht)]
 all_goals first
  |rfl
  |simp only[aD,bL hS]
def Dm{H H':ao}{v:AV}(h:rO v=false):ia H v=ia H' v:=by cases v<;>first|rfl|cases h
def An{H H':ao}{v:AV}(h:cW v=false):fz H v=fz H' v:=by
 cases v<;>first|rfl|skip
 case box=>cases h
 case func fn first cap=>
  simp only[cW,agE,aeE,afn]at h;simp only[fz]
  congr 1
  .exact aez λy hy=>Dm (h.1 y hy)
  .exact aez λy hy=>Dm (h.2 y hy)
def LF{S S':an}{H H':ao}{op:eG}{dst:Option Nat}{e:aP}(hS:∀t∈op.rd,S t=S' t)(hH:wH op.acc H H')(h:ln P GI op dst S H e):ln P GI op dst S' H' e:=by
 cases op
 case alloc=>exact h
 case box=>exact h
 case panic=>exact h
 case other=>exact h
 case call f args=>
  simp only[eG.rd,aei]at hS;simp only[ln]at h⊢;obtain⟨hb,h⟩:=h
  have h2:(args.any λy=>cW (ev S y))=(args.any λy=>cW (ev S' y)):=by
   rw[aep];simp only[ae8]
   constructor
   .rintro⟨y,hy,hb⟩;exact⟨y,hy,by rw[<-bL λt ht=>hS t ⟨y,hy,ht⟩];exact hb⟩
   .rintro⟨y,hy,hb⟩;exact⟨y,hy,by rw[bL λt ht=>hS t ⟨y,hy,ht⟩];exact hb⟩
  have h1:(args.map λy=>fz H (ev S y))=(args.map λy=>fz H' (ev S' y)):=aez λy hy=>by
   rw[<-bL λt ht=>hS t ⟨y,hy,ht⟩];simp only[aeE,afn]at hb;exact An (hb y hy)
  rw[<-h1,<-h2];exact⟨hb,h⟩
 case gy f args=>
  simp only[eG.rd,adG,aei]at hS;simp only[ln]at h⊢
  have h1:=xC (S:=S) (S':=S') (ys:=args) λy hy t ht=>hS t (.inr ⟨y,hy,ht⟩)
  rw[<-bL λt ht=>hS t (.inl ht)];split at h
  case h_2=>exact h.elim
  obtain⟨hb,h⟩:=h;rw[<-h1];refine⟨hb,?_⟩
  have h3:∀l:List AV,l.any cW=false->l.map (fz H)=l.map (fz H'):=λl hl=>aez λy hy=>by
   simp only[aeE,afn]at hl;exact An (hl y hy)
  rw[<-h3 _ hb];exact h
 all_goals
  simp only[ln]at h⊢;rw[<-IQ hS hH];exact h
def aP.vP{e:aP}{S:an}{dst:Option Nat}{t:Nat}(h1:dst≠some t)(h2:e.dm≠some t):e.S S dst t=S t:=by
 unfold aP.S
 cases dst with
 |none=>
  cases hd:e.dm with
  |none=>rfl
  |some k=>simp only[aW];exact aT _ _ (λh=>h2 (by rw[hd,h]))
 |some d=>
  simp only[aW];rw[aT _ _ (λh=>h1 (by rw[h]))]
  cases hd:e.dm with
  |none=>rfl
  |some k=>exact aT _ _ (λh=>h2 (by rw[hd,h]))
def EK(acc:Acc)(H:ao):Option (Nat×List AV)->Prop
 |none=>True
 |some (i,cs)=>match acc with
  |.soft r=>meets r (some i)=true/\∃old,H i=some old/\old.map AV.aI=cs.map AV.aI
  |.wr r=>meets r (some i)=true
  |_=>False
def Dx{hr:HR}{i:Nat}(h:hr.okB i=true):meets hr.one (some i)=true:=by
 cases hr with
 |any=>rfl
 |ref=>cases h
 |box r=>simp only[HR.okB]at h;simp only[HR.one,meets];rw[aej]at h⊢;exact h.symm
def iM(v:AV):v.aI=v.aI.aI:=(AV.idem v).symm
def RF{S:an}{H:ao}{op:eG}{e:aP}(h:aD S H op=some e):(∀t,e.dm=some t->t∈op.wr)/\EK op.acc H e.hw:=by
 cases op
 case mv tk x=>
  simp only[aD]at h
  split at h<;>cases h
  .rename_i qQ;subst qQ;refine⟨λt ht=>?_,trivial⟩
   cases x<;>simp only[bt]at ht<;>cases ht
   simp[eG.wr,cT.tmps]
  .exact⟨λt ht=>(by cases ht),trivial⟩
 case store hr s x y=>
  simp only[aD]at h
  split at h<;>try cases h
  split at h<;>try cases h
  split at h<;>try cases h
  split at h<;>cases h
  rename_i bV _ _ _ _;refine⟨λt ht=>?_,Dx (by assumption)⟩
  cases y<;>simp only[bt]at ht<;>cases ht
  simp[eG.wr,cT.tmps]
 case loadT hr x=>
  simp only[aD]at h
  split at h<;>try cases h
  split at h<;>try cases h
  split at h<;>try cases h
  split at h<;>cases h
  refine⟨λt ht=>(by cases ht),Dx (by assumption),_,by assumption,?_⟩;rename_i cs qM _ v hv;rw[List.map_set];obtain⟨aq,rfl⟩:=ad0.1 hv;apply agx ahB;intro j h1 h2;rw[af4];split
  .rename_i hj;subst hj;simp only[adR];exact iM _
  .rfl
 case append t e s b x y=>
  simp only[aD]at h;split at h
  .split at h<;>cases h
   exact⟨λt ht=>(by cases ht),trivial⟩
  .split at h<;>cases h
   refine⟨λt ht=>?_,trivial⟩
   cases x<;>simp only[bt]at ht<;>cases ht
   simp[eG.wr,cT.tmps]
  .cases h
 all_goals
  simp only[aD]at h
  first
   |(cases h;done)
   |(simp only[adP]at h;obtain⟨_,_,rfl⟩:=h;exact⟨λt ht=>(by cases ht),trivial⟩)
   |((repeat' split at h)<;>first|(cases h;done)|(cases h;exact⟨λt ht=>(by cases ht),trivial⟩)|(simp only[adP]at h;obtain⟨_,_,rfl⟩:=h;exact⟨λt ht=>(by cases ht),trivial⟩))
def JV{S:an}{H:ao}{op:eG}{dst:Option Nat}{e:aP}(h:ln P GI op dst S H e):(∀t,e.dm=some t->t∈op.wr)/\EK op.acc H e.hw:=by
 cases op
 case alloc=>
  simp only[ln]at h;split at h
  .subst h;exact⟨λt ht=>(by cases ht),trivial⟩
  .exact h.elim
 case box=>exact h.elim
 case panic=>exact h.elim
 case other=>exact h.elim
 case call f args=>
  obtain⟨_,out,_,_,_,h4⟩:=h
  cases out with
  |ret v=>cases(show e=_ from h4);exact⟨λt ht=>(by cases ht),trivial⟩
  |panic v=>exact h4.elim
 case gy f args=>
  simp only[ln]at h;split at h
  .obtain⟨_,out,_,_,_,h4⟩:=h
   cases out with
   |ret v=>cases(show e=_ from h4);exact⟨λt ht=>(by cases ht),trivial⟩
   |panic v=>exact h4.elim
  .exact h.elim
 all_goals exact RF h
def fw{S:an}{H:ao}{o:bI}{e:aP}(h:eA P GI o S H e):(∀t,e.dm=some t->t∈o.op.wr)/\EK o.op.acc H e.hw:=by
 unfold eA at h;split at h
 .exact JV h
 .subst h;exact⟨λt ht=>(by cases ht),trivial⟩
 .exact h.elim
def uW{S S':an}{gd:Option (Nat×Bool)}(h:∀t b,gd=some (t,b)->S t=S' t):aF S gd=aF S' gd:=by
 cases gd with
 |none=>rfl
 |some p=>obtain⟨t,b⟩:=p;simp only[aF,h t b rfl]
def wS{S S':an}{H H':ao}{o:bI}{e:aP}(hS:∀t∈o.reads,S t=S' t)(hH:wH o.op.acc H H')(h:eA P GI o S H e):eA P GI o S' H' e:=by
 unfold eA at*
 have hg:aF S o.guard=aF S' o.guard:=uW λt b Dj=>hS t (by simp[bI.reads,Dj])
 rw[<-hg];split at h
 .exact LF (λt ht=>hS t (by simp[bI.reads,ht])) hH h
 .exact h
 .exact h
def DV(a b:Acc):a.conflict b=b.conflict a:=by
 cases a<;>cases b<;>simp only[Acc.conflict]<;>(rename_i x y;cases x<;>cases y<;>simp only[meets];rw[aep,aej,aej];exact eq_comm)
def apart_spec {x y:bI} (h:x.apart y=true) :
  (∀t∈x.writes,t∉y.reads/\t∉y.writes)/\(∀t∈y.writes,t∉x.reads)/\x.op.acc.conflict y.op.acc=false:=by
 simp only[bI.apart,adE,adQ,aeF]at h;obtain⟨⟨h1,h2⟩,h3⟩:=h;refine⟨λt ht=>?_,λt ht=>?_,h3⟩
 .have:=h1 t ht;simpa using this
 .have:=h2 t ht;simpa using this
def C3{x y:Acc}(hc:x.conflict y=false){e:aP}{H:ao}(hw:EK y H e.hw):wH x H (e.H H):=by
 have refl:∀{H':ao},H=H'->wH x H H':=by
  rintro _ rfl
  cases x with
  |no=>trivial
  |rd r=>cases r<;>simp[wH]
  |soft r=>cases r<;>simp[wH]
  |wr r=>cases r<;>simp[wH]
 unfold aP.H
 cases hh:e.hw with
 |none=>exact refl rfl
 |some p=>
  obtain⟨i,cs⟩:=p;rw[hh]at hw;simp only
  cases x with
  |no=>trivial
  |rd r=>
   cases y with
   |no=>exact hw.elim
   |rd=>exact hw.elim
   |soft q=>
    obtain⟨_,old,h1,h2⟩:=hw
    have key:∀j,(H j).map (·.map AV.aI)=(au H i (some cs) j).map (·.map AV.aI):=by
     intro j
     by_cases hj:j=i
     .subst hj;rw[aO,h1];simp[h2]
     .rw[aT _ _ hj]
    cases r with
    |none=>exact key
    |some r=>exact key r
   |wr q=>
    cases r with
    |none=>cases q<;>simp[Acc.conflict,meets]at hc
    |some r=>
     cases q with
     |none=>simp[Acc.conflict,meets]at hc
     |some q=>
      simp only[Acc.conflict,meets,aeo]at hc
      have hq:q=i:=by simpa[EK,meets]using hw
      subst hq;simp only[wH];rw[aT _ _ hc]
  |soft r=>
   have cD:∀q,meets q (some i)=true->meets r q=false->∃r',r=some r'/\r'≠i:=by
    intro q h1 h2
    cases r with
    |none=>cases q<;>simp[meets]at h2
    |some r=>
     cases q with
     |none=>simp[meets]at h2
     |some q=>
      simp only[meets,aej,aeo]at h1 h2;exact⟨r,rfl,by rw[<-h1];exact h2⟩
   cases y with
   |no=>exact hw.elim
   |rd=>exact hw.elim
   |soft q=>
    obtain⟨r',rfl,hn⟩:=cD q hw.1 hc;simp only[wH];rw[aT _ _ hn]
   |wr q=>
    obtain⟨r',rfl,hn⟩:=cD q hw hc;simp only[wH];rw[aT _ _ hn]
  |wr r=>
   have cD:∀q,meets q (some i)=true->meets r q=false->∃r',r=some r'/\r'≠i:=by
    intro q h1 h2
    cases r with
    |none=>cases q<;>simp[meets]at h2
    |some r=>
     cases q with
     |none=>simp[meets]at h2
     |some q=>
      simp only[meets,aej,aeo]at h1 h2;exact⟨r,rfl,by rw[<-h1];exact h2⟩
   cases y with
   |no=>exact hw.elim
   |rd=>exact hw.elim
   |soft q=>
    obtain⟨r',rfl,hn⟩:=cD q hw.1 hc;simp only[wH];rw[aT _ _ hn]
   |wr q=>
    obtain⟨r',rfl,hn⟩:=cD q hw hc;simp only[wH];rw[aT _ _ hn]
def wH.symm{x:Acc}{H H':ao}(h:wH x H H'):wH x H' H:=by
 cases x with
 |no=>trivial
 |rd r=>cases r with
  |none=>exact λi=>(h i).symm
  |some r=>exact Eq.symm h
 |soft r=>cases r<;>exact Eq.symm h
 |wr r=>cases r<;>exact Eq.symm h
def ft{o:bI}{t:Nat}(h:o.dst=some t\/t∈o.op.wr):t∈o.writes:=by
 rcases h with h|h<;>simp[bI.writes,h]
def te{x y:bI}{S:an}{H:ao}{ex ey:aP}(ha:x.apart y=true)(hy:eA P GI y S H ey)(hx:eA P GI x S H ex):eA P GI x (ey.S S y.dst) (ey.H H) ex:=by
 obtain⟨h1,h2,h3⟩:=apart_spec ha;obtain⟨d1,d2⟩:=fw hy;refine wS (λt ht=>?_) (C3 h3 d2) hx;rw[aP.vP (λh=>h2 t (ft (.inl h)) ht) (λh=>h2 t (ft (.inr (d1 t h))) ht)]
def tV{x y:bI}{S:an}{H:ao}{ex ey:aP}(ha:x.apart y=true)(hx:eA P GI x S H ex)(hy:eA P GI y (ex.S S x.dst) (ex.H H) ey):eA P GI y S H ey:=by
 obtain⟨h1,h2,h3⟩:=apart_spec ha;obtain⟨d1,d2⟩:=fw hx;refine wS (λt ht=>?_) (C3 (by rw[DV];exact h3) d2).symm hy;rw[aP.vP (λh=>(h1 t (ft (.inl h))).1 ht) (λh=>(h1 t (ft (.inr (d1 t h)))).1 ht)]
def aP.aa2(e:aP)(S:an)(dst:Option Nat)(t:Nat):e.S S dst t=if dst=some t then e.v else if e.dm=some t then(S t).aI else S t:=by
 unfold aP.S
 cases dst with
 |none=>
  rw[if_neg ahB]
  cases e.dm with
  |none=>rfl
  |some k=>
   simp only[aW,ad8]
   by_cases h:k=t
   .subst h;simp[aO]
   .rw[if_neg h];exact aT _ _ (λhh=>h hh.symm)
 |some d=>
  simp only[aW,ad8]
  by_cases hd:d=t
  .subst hd;simp[aO]
  .rw[if_neg hd,aT _ _ (λhh=>hd hh.symm)]
   cases e.dm with
   |none=>rfl
   |some k=>
    simp only[ad8]
    by_cases h:k=t
    .subst h;simp[aO]
    .rw[if_neg h];exact aT _ _ (λhh=>h hh.symm)
def xE {x y:bI} {S:an} {ex ey:aP} (ha:x.apart y=true) (dx:∀ t,ex.dm=some t→t∈x.op.wr) (dy:∀ t,ey.dm=some t→t∈y.op.wr) :
  ey.S (ex.S S x.dst) y.dst=ex.S (ey.S S y.dst) x.dst:=by
 obtain⟨h1,h2,h3⟩:=apart_spec ha
 funext t
 simp only[aP.aa2]
 by_cases hx:x.dst=some t\/ex.dm=some t
 .have hxw:t∈x.writes:=ft (hx.imp id (dx t))
  have Jn:y.dst≠some t:=λh=>(h1 t hxw).2 (ft (.inl h))
  have hy2:ey.dm≠some t:=λh=>(h1 t hxw).2 (ft (.inr (dy t h)))
  simp only[if_neg Jn,if_neg hy2]
 .simp only[not_or]at hx;simp only[if_neg hx.1,if_neg hx.2]
def xX {x y:bI} {H:ao} {ex ey:aP} (ha:x.apart y=true) (dx:EK x.op.acc H ex.hw) (dy:EK y.op.acc H ey.hw) :
  ey.H (ex.H H)=ex.H (ey.H H):=by
 obtain⟨_,_,h3⟩:=apart_spec ha;unfold aP.H
 cases hx:ex.hw with
 |none=>rfl
 |some p=>
  cases hy:ey.hw with
  |none=>rfl
  |some q=>
   obtain⟨i,cs⟩:=p;obtain⟨j,ds⟩:=q;rw[hx]at dx;rw[hy]at dy;simp only
   have cD:i≠j:=by
    have key:∀a b:Option Nat,meets a (some i)=true->meets b (some j)=true->meets a b=false->i≠j:=by
     intro a b h1 h2 h3
     cases a with
     |none=>cases b<;>simp[meets]at h3
     |some a=>
      cases b with
      |none=>simp[meets]at h3
      |some b=>
       simp only[meets,aej,aeo]at h1 h2 h3;rw[<-h1,<-h2];exact h3
    generalize x.op.acc=ax at dx h3;generalize y.op.acc=ay at dy h3
    cases ax<;>cases ay<;>first|(exact dx.elim)|(exact dy.elim)|skip
    .exact key _ _ dx.1 dy.1 h3
    .exact key _ _ dx.1 dy h3
    .exact key _ _ dx dy.1 h3
    .exact key _ _ dx dy h3
   funext k
   by_cases h1:k=i
   .subst h1;rw[aT _ _ cD,aO,aO]
   .by_cases h2:k=j
    .subst h2;rw[aO,aT _ _ h1,aO]
    .rw[aT _ _ h2,aT _ _ h1,aT _ _ h1,aT _ _ h2]
end
section
variable{P:Program}{GI:World->Prop}{md:Region.Mode}{ops:Array Oper}{n:Nat}
def ju(P:Program)(n:Nat)(ops:Array Oper)(i:Nat):Option bI:=(ops[i]?).map (bu P n true ops)
def Le(P:Program)(GI:World->Prop)(n:Nat)(ops:Array Oper)(i:Nat)(K:an->ao->Prop)(S:an)(H:ao):Prop:=
 match ju P n ops i with
 |none=>False
 |some o=>∃e,eA P GI o S H e/\K (e.S S o.dst) (e.H H)
def y3(P:Program)(GI:World->Prop)(n:Nat)(md:Region.Mode)(ops:Array Oper)(QA:an->ao->Prop):Nat->Array Bool->an->ao->Prop
 |0,listed,S,H=>Region.ready md ops listed=[]/\QA S H
 |fuel+1,listed,S,H=>(Region.ready md ops listed=[]->QA S H)/\∀i∈Region.ready md ops listed,Le P GI n ops i (y3 P GI n md ops QA fuel (listed.setIfInBounds i true)) S H
def wZ{listed:Array Bool}{i:Nat}(h:i∈Region.ready md ops listed):∃o,ops[i]?=some o/\ju P n ops i=some (bu P n true ops o):=by
 obtain⟨_,o,ho,_⟩:=afA.1 h;exact⟨o,ho,by simp[ju,ho]⟩
def JB {QA:an→ao→Prop} {i:Nat} {oi:bI} {e:aP} (hi:ju P n ops i=some oi) :
  ∀(fuel:Nat)(listed:Array Bool)(S:an)(H:ao),
   (∀j o aj,ops[j]?=some o->ju P n ops j=some aj->j≠i->listed.getD j true=false->(∀ed∈o.after,Region.binds md ed=true->ed.on≠i)->oi.apart aj=true)->
   i∈Region.ready md ops listed->eA P GI oi S H e->
   y3 P GI n md ops QA fuel (listed.setIfInBounds i true) (e.S S oi.dst) (e.H H)->y3 P GI n md ops QA (fuel+1) listed S H:=by
 intro fuel
 induction fuel with
 |zero=>
  intro listed S H _ hr hy hK;refine⟨λh=>(by rw[h]at hr;cases hr),λj hj=>?_⟩
  by_cases fK:j=i
  .subst fK;unfold Le;rw[hi];exact⟨e,hy,hK⟩
  .have:=afG hj fK;rw[hK.1]at this;cases this
 |succ fuel ih=>
  intro listed S H mX hr hy hK;refine⟨λh=>(by rw[h]at hr;cases hr),λj hj=>?_⟩
  by_cases fK:j=i
  .subst fK;unfold Le;rw[hi];exact⟨e,hy,hK⟩
  .have h1:=hK.2 j (afG hj fK);obtain⟨y6,o,ho,eH⟩:=afA.1 hj
   have sf:ju P n ops j=some (bu P n true ops o):=by simp[ju,ho]
   have L6:∀ed∈o.after,Region.binds md ed=true->ed.on≠i:=λed Tz hb heq=>by
    have h1:=eH ed Tz hb;have h0:=(afA.1 hr).1;rw[heq]at h1;rcases ae6 i listed.size with h'|h'
    .simp[h']at h0 h1;rw[h0]at h1;cases h1
    .simp[afa h']at h1
   have j3:=mX j o _ ho sf fK y6 L6;unfold Le at h1⊢;rw[sf]at h1⊢;obtain⟨ej,Fh,Ry⟩:=h1;have vM:=tV j3 hy Fh;refine⟨ej,vM,?_⟩
   have vU:∀k o' ak,ops[k]?=some o'->ju P n ops k=some ak->k≠i->(listed.setIfInBounds j true).getD k true=false->(∀ed∈o'.after,Region.binds md ed=true->ed.on≠i)->oi.apart ak=true:=by
    intro k o' ak hk Na AN fB gQ;refine mX k o' ak hk Na AN ?_ gQ
    by_cases tN:j=k
    .subst tN;exact y6
    .rw[afV true tN]at fB;exact fB
   refine ih (listed.setIfInBounds j true) _ _ vU (afG hr (aeq fK)) (te j3 vM hy) ?_;rw[afK _ _ fK];rw[<-xE j3 (fw hy).1 (fw Fh).1,<-xX j3 (fw hy).2 (fw vM).2];exact Ry
def I3(md:Region.Mode)(ops:Array Oper)(al:List bI)(listed:Array Bool)(i:Nat):Bool:=
 match al[i]? with
 |none=>false
 |some oi=>(List.range ops.size).all fun j=>j==i || listed.getD j true || match ops[j]?,al[j]? with
   |some oj,some aj=>oj.after.any (λe=>Region.binds md e&&e.on==i)||oi.apart aj
   |_,_=>true
def J9(md:Region.Mode)(ops:Array Oper)(al:List bI):Nat->Nat->Array Bool->Bool
 |0,_,listed=>(Region.ready md ops listed).isEmpty
 |fuel+1,k,listed=>(Region.ready md ops listed).contains k&&I3 md ops al listed k&&J9 md ops al fuel (k+1) (listed.setIfInBounds k true)
def fG(i:Nat):(bh P n true ops)[i]?=ju P n ops i:=by simp[bh,ju]
def B9 {i:Nat} {oi:bI} {listed:Array Bool} (hi:ju P n ops i=some oi) (h:I3 md ops (bh P n true ops) listed i=true) (j:Nat) (o:Oper) (aj:bI)
  (hj:ops[j]?=some o) (sf:ju P n ops j=some aj) (cD:j≠i) (fB:listed.getD j true=false) (gQ:∀e∈o.after,Region.binds md e=true->e.on≠i):oi.apart aj=true:=by
 simp only[I3,fG,hi,adQ,aeb]at h;have h1:=h j (adD.1 hj).1;simp only[hj,sf,aeZ,aej,cD,ahb,fB,adM]at h1;rcases h1 with h1|h1
 .obtain⟨e,he,hb⟩:=agc.1 h1;simp only[adE,aej]at hb;exact absurd hb.2 (gQ e he hb.1)
 .exact h1
def Au {QA:an→ao→Prop}:∀ (l:List Oper) (k:Nat) (listed:Array Bool) (S:an) (H:ao),(∀ j,l[j]? = ops[k+j]?) →
  J9 md ops (bh P n true ops) l.length k listed=true->cV P GI (l.map (bu P n true ops)) QA S H->y3 P GI n md ops QA l.length listed S H
 |[],_,_,_,_,_,hB,h=>⟨by simpa[J9]using hB,h⟩
 |o::l,k,listed,S,H,hl,hB,h=>by
  have h0:ops[k]?=some o:=by simpa using(hl 0).symm
  have ha:ju P n ops k=some (bu P n true ops o):=by simp[ju,h0]
  simp only[List.length_cons,J9,adE]at hB;obtain⟨⟨hr,hf⟩,NX⟩:=hB;obtain⟨e,hy,hK⟩:=uq h
  exact JB ha l.length listed S H (B9 ha hf) (by simpa using hr) hy
   (Au l (k+1) _ _ _ (λj=>by have:=hl (j+1);simpa[afQ,Nat.add_comm 1 j]using this) NX hK)
def bD(o:bI):Option (Nat×List AV):=
 match o.op,o.dst with
 |.alloc _ z,some d=>some (d,z)
 |_,_=>none
def UU(P:Program)(n:Nat)(ops:Array Oper)(listed:Array Bool)(t:Nat):Prop:=
 ∃j o z,ju P n ops j=some o/\bD o=some (t,z)/\listed.getD j true=false
def oQ(md:Region.Mode)(ops:Array Oper)(al:List bI):Bool:=
 (List.range ops.size).all λj=>match ops[j]?,al[j]? with
  |some oj,some aj=>match bD aj with
   |some (d,_)=>oj.after.isEmpty && aj.guard.isNone && (List.range ops.size).all fun k=>k==j || match ops[k]?,al[k]? with
     |some ok,some ak=>!ak.writes.contains d&&(!ak.reads.contains d||ok.after.any (λe=>Region.binds md e&&e.on==j))
     |_,_=>false
   |none=>true
  |_,_=>false
def lB (h:oQ md ops (bh P n true ops)=true) {j:Nat} {oj:Oper} {aj:bI} {d:Nat} {z:List AV} (hj:ops[j]? = some oj) (sf:ju P n ops j=some aj) (hd:bD aj=some (d,z)) :
  oj.after=#[]/\aj.guard=none/\∀k ok ak,ops[k]?=some ok->ju P n ops k=some ak->k≠j->d∉ak.writes/\(d∈ak.reads->∃e∈ok.after,Region.binds md e=true/\e.on=j):=by
 simp only[oQ,adQ,aeb]at h;have h1:=h j (adD.1 hj).1;simp only[hj,fG,sf,hd,adE,adQ,aeb]at h1;obtain⟨⟨h2,h3⟩,h4⟩:=h1;refine⟨by simpa using h2,by simpa using h3,λk ok ak hk Na cD=>?_⟩;have h5:=h4 k (adD.1 hk).1;simp only[hk,Na,aeZ,aej,cD,ahb,adE,aeF]at h5;refine⟨by simpa using h5.1,λhd=>?_⟩;rcases h5.2 with h6|h6
 .simp at h6;exact absurd hd h6
 .obtain⟨e,he,hb⟩:=agc.1 h6;simp only[adE,aej]at hb;exact⟨e,he,hb⟩
def LQ(hA:oQ md ops (bh P n true ops)=true){listed:Array Bool}(hr:Region.ready md ops listed=[]):UU P n ops listed=bP:=by
 funext t
 simp only[bP,ago,iff_false];rintro⟨j,o,z,h1,h2,h3⟩;unfold ju at h1
 cases hj:ops[j]? with
 |none=>simp[hj]at h1
 |some oj=>
  have sf:ju P n ops j=some o:=by unfold ju;exact h1
  obtain⟨ha,_,_⟩:=lB hA hj sf h2;have:j∈Region.ready md ops listed:=afA.2 ⟨h3,oj,hj,λe he=>by rw[ha]at he;simp at he⟩;rw[hr]at this;cases this
def Gc{listed:Array Bool}{i:Nat}{oi:bI}(hi:ju P n ops i=some oi)(gQ:bD oi=none):UU P n ops (listed.setIfInBounds i true)=UU P n ops listed:=by
 funext t
 simp only[UU,ago]
 constructor
 .rintro⟨j,o,z,h1,h2,h3⟩;refine⟨j,o,z,h1,h2,?_⟩
  by_cases fK:i=j
  .subst fK;rw[hi]at h1;cases h1;rw[gQ]at h2;cases h2
  .rwa [afV true fK]at h3
 .rintro⟨j,o,z,h1,h2,h3⟩;refine⟨j,o,z,h1,h2,?_⟩
  by_cases fK:i=j
  .subst fK;rw[hi]at h1;cases h1;rw[gQ]at h2;cases h2
  .rwa [afV true fK]
def QK (hA:oQ md ops (bh P n true ops)=true) {listed:Array Bool} {i d:Nat} {o:Oper} {oi:bI} {z:List AV} (ho:ops[i]? = some o) (hi:ju P n ops i=some oi) (hd:bD oi=some (d,z)) (aq:i < listed.size) :
  UU P n ops (listed.setIfInBounds i true)=λt=>UU P n ops listed t/\t≠d:=by
 obtain⟨_,_,kV⟩:=lB hA ho hi hd
 funext t
 simp only[UU,ago]
 constructor
 .rintro⟨j,oj,z',h1,h2,h3⟩
  have fK:i≠j:=by rintro rfl;simp[aq]at h3
  refine⟨⟨j,oj,z',h1,h2,by rwa [afV true fK]at h3⟩,?_⟩;rintro rfl
  have hj:∃o',ops[j]?=some o':=by
   unfold ju at h1
   cases hj:ops[j]? with
   |none=>simp[hj]at h1
   |some o'=>exact⟨o',rfl⟩
  obtain⟨o',hj⟩:=hj;have:=(kV j o' oj hj h1 (aeq fK)).1;apply this;unfold bD at h2;split at h2
  .rename_i iD;simp only[ad8,af8]at h2;rw[h2.1]at iD;exact ft (.inl iD)
  .cases h2
 .rintro⟨⟨j,oj,z',h1,h2,h3⟩,cD⟩
  have fK:i≠j:=by
   rintro rfl;rw[hi]at h1;cases h1;rw[hd]at h2;simp only[ad8,af8]at h2;exact cD h2.1.symm
  exact⟨j,oj,z',h1,h2,by rwa [afV true fK]⟩
end
section
variable{P:Program}{GI:World->Prop}{w0:World}{n:Nat}{U:Nat->Prop}{g:Gh}{S:an}{H:ao}{a:Act}{w:World}{ops:Array Oper}
def KY{dr:Bool}{o:bI}{x:Oper}{hr:HR}{size:Nat}{y z:cT}(hc:bu P n dr ops x=o)(h:o.op=.store hr size y z):∃x',dz n x'=some y:=by
 subst hc;unfold bu at h;revert h;generalize(match x.dst with|some d=>taken ops d|none=>false)=tk;intro h;simp only at h;unfold comp at h
 repeat' split at h
 all_goals first
  |(cases h;done)
  |(cases h;exact⟨_,by assumption⟩)
def Lj{dr:Bool}{o:bI}{x:Oper}{hr:HR}{y:cT}(hc:bu P n dr ops x=o)(h:o.op=.loadT hr y):∃x',dz n x'=some y:=by
 subst hc;unfold bu at h;revert h;generalize(match x.dst with|some d=>taken ops d|none=>false)=tk;intro h;simp only at h;unfold comp at h
 repeat' split at h
 all_goals first
  |(cases h;done)
  |(cases h;exact⟨_,by assumption⟩)
def aaq(R:Rel P w0 n U g S H a w){o:Oper}{dst:Option Nat}{e:aP}(dh:∀t∈(bu P n true ops o).op.rd,¬U t)(h:ln P GI (bu P n true ops o).op dst S H e){i:Nat}{cs:List AV}(hw:e.hw=some (i,cs)):(g.al i).isSome=true:=by
 have Ky:=(JV h).2;rw[hw]at Ky
 have box:∀{y:cT}{x':Operand}{off:Nat},dz n x'=some y->(∀t∈y.tmps,¬U t)->AL.ev S y=.box i off->(g.al i).isSome=true:=by
  intro y x' off hx hu he;have:=R.ev hx hu;rw[he]at this;generalize a.eval x'=c at this
  cases this with
  |data _ _ h=>cases h
  |box _ _ b h=>simp[h]
 generalize hc:(bu P n true ops o).op=op at dh h Ky
 cases op<;>try (exact Ky.elim)
 case load hr _ _ _=>cases hr<;>exact Ky.elim
 case loadT hr y=>
  obtain⟨x',hx⟩:=Lj rfl hc;simp only[ln,aD]at h
  cases sB:AL.ev S y<;>rw[sB]at h<;>simp only at h<;>try cases h
  rename_i k off;split at h
  case isFalse=>cases h
  split at h
  case h_2=>cases h
  split at h
  case h_2=>cases h
  cases h;cases hw;exact box hx dh sB
 case store hr s y z=>
  obtain⟨x',hx⟩:=KY rfl hc;simp only[eG.rd,adG]at dh;simp only[ln,aD]at h
  cases sB:AL.ev S y<;>rw[sB]at h<;>simp only at h<;>try cases h
  rename_i k off;split at h
  case isFalse=>cases h
  split at h
  case h_2=>cases h
  split at h
  case isFalse=>cases h
  cases h;cases hw;exact box hx (λt ht=>dh t (.inl ht)) sB
def C1{op:eG}(h:op.calm=true){dst:Option Nat}{e:aP}(hd:ln P GI op dst S H e):aD S H op=some e:=by
 cases op<;>first|exact hd|cases h
def HH (hG:ar GI) (cm:GI w0) {old:Old} {Q:dV→an→ao→Prop} (hA:oQ .any ops (bh P n true ops)=true) (bV:∀ o∈ops,(bu P n true ops o).ok n=true) :
  ∀(fuel:Nat)(listed:Array Bool)(g:Gh)(S:an)(H:ao)(a:Act)(w:World),listed.size=ops.size->g.old=old->Rel P w0 n (UU P n ops listed) g S H a w->
   (∀j o d z,ju P n ops j=some o->bD o=some (d,z)->listed.getD j true=false->S d=.box d 0/\H d=some z)->
   y3 P GI n .any ops (Q .normal) fuel listed S H->wpAny P .any ops (QQ P w0 n old Q) fuel listed a w:=by
 intro fuel
 induction fuel with
 |zero=>
  intro listed g S H a w _ ho R _ h;have hU:=LQ hA h.1;rw[hU]at R;exact⟨h.1,g,S,H,ho,R,h.2⟩
 |succ fuel ih=>
  intro listed g S H a w Wn ho R hinv h;refine⟨λhr=>?_,λi hi=>?_⟩
  .have hU:=LQ hA hr;rw[hU]at R;exact⟨g,S,H,ho,R,h.1 hr⟩
  .have hd:=h.2 i hi;obtain⟨o,jZ,zR⟩:=wZ (P:=P) (n:=n) hi;obtain⟨Xj,o',nM,eH⟩:=afA.1 hi;rw[jZ]at nM;cases nM
   have Uz:i<listed.size:=by rw[Wn];exact(adD.1 jZ).1
   unfold Le at hd;rw[zR]at hd;obtain⟨e,hy,hK⟩:=hd;have uB:=bV o (aeK jZ)
   have IW:∀t∈(bu P n true ops o).reads,¬UU P n ops listed t:=by
    rintro t ht ⟨j,aj,z,h1,h2,h3⟩
    have hj:∃oj,ops[j]?=some oj:=by
     unfold ju at h1
     cases hj:ops[j]? with
     |none=>simp[hj]at h1
     |some oj=>exact⟨oj,rfl⟩
    obtain⟨oj,hj⟩:=hj;obtain⟨k1,k2,k3⟩:=lB hA hj h1 h2
    by_cases fK:i=j
    .subst fK;rw[zR]at h1;cases h1;unfold bD at h2;split at h2
     .rename_i dn _;simp only[bI.reads,dn,k2,eG.rd,aeI]at ht;cases ht
     .cases h2
    .obtain⟨ed,Z1,G9,he3⟩:=(k3 i o _ jZ zR fK).2 ht;have:=eH ed Z1 G9;rw[he3]at this;rcases ae6 j listed.size with h'|h'
     .simp[h']at h3 this;rw[h3]at this;cases this
     .simp[afa h']at this
   have pZ:∀j aj d z,ju P n ops j=some aj->bD aj=some (d,z)->j≠i->d∉(bu P n true ops o).writes:=by
    intro j aj d z h1 h2 cD
    have hj:∃oj,ops[j]?=some oj:=by
     unfold ju at h1
     cases hj:ops[j]? with
     |none=>simp[hj]at h1
     |some oj=>exact⟨oj,rfl⟩
    obtain⟨oj,hj⟩:=hj;exact((lB hA hj h1 h2).2.2 i o _ jZ zR (aeq cD)).1
   have tB:∀t,o.dst=some t->t<n/\t∉(bu P n true ops o).op.rd:=by
    intro t ht;simp only[bI.ok,adE]at uB;have h1:=uB.1;rw[show(bu P n true ops o).dst=o.dst from rfl,ht]at h1;simpa using h1
   have XV:bD (bu P n true ops o)=none->∀t,o.dst=some t->¬UU P n ops listed t:=by
    rintro gQ t ht ⟨j,aj,z,h1,h2,h3⟩
    have cD:j≠i:=by rintro rfl;rw[zR]at h1;cases h1;rw[gQ]at h2;cases h2
    exact pZ j aj t z h1 h2 cD (ft (.inl ht))
   have Sg:(∀ k cs,e.hw=some (k,cs)→(g.al k).isSome=true)→∀ j aj d z,ju P n ops j=some aj→bD aj=some (d,z)→(listed.setIfInBounds i true).getD j true=false →
     e.S S o.dst d=.box d 0/\e.H H d=some z:=by
    intro Ky j aj d z h1 h2 h3
    have cD:j≠i:=by rintro rfl;simp[Uz]at h3
    have SX:listed.getD j true=false:=by rwa [afV true (aeq cD)]at h3
    obtain⟨k1,k2⟩:=hinv j aj d z h1 h2 SX;have hw:=pZ j aj d z h1 h2 cD;refine⟨?_,?_⟩
    .show e.S S (bu P n true ops o).dst d=_;rw[aP.vP (λhh=>hw (ft (.inl hh))) (λhh=>hw (ft (.inr ((fw hy).1 d hh))))];exact k1
    .unfold aP.H
     cases hh:e.hw with
     |none=>exact k2
     |some p=>
      obtain⟨k,cs⟩:=p
      have JN:d≠k:=by
       rintro rfl;have:=Ky d cs hh;rw[R.jR d ⟨j,aj,z,h1,h2,SX⟩]at this;cases this
      simp only[aT _ _ JN];exact k2
   have bl:(listed.setIfInBounds i true).size=ops.size:=by simpa using Wn
   unfold wpOp;simp only[jZ];unfold eA at hy
   cases Aj:aF S (bu P n true ops o).guard with
   |none=>rw[Aj]at hy;exact hy.elim
   |some b=>
    rw[tf R (λt b hg=>IW t (by simp[bI.reads,hg])) uB Aj];rw[Aj]at hy
    cases b with
    |false=>
     simp only at hy;subst hy;simp only[adM,ad1]
     have gQ:bD (bu P n true ops o)=none:=by
      cases hh:bD (bu P n true ops o)with
      |none=>rfl
      |some p=>
       obtain⟨d,z⟩:=p;have:=(lB hA jZ zR hh).2.1;rw[this]at Aj;cases Aj
     have hU:=Gc zR gQ (listed:=listed);refine ih _ g _ _ _ _ bl ho ?_ (Sg λ_ _ hh=>by cases hh) hK;rw[hU]
     exact R.aW o.dst _ _ (λt ht=>(tB t ht).1) (.data _ _ (uV _ _)) λ_ _=>trivial
    |true=>
     simp only at hy;simp only[aed];refine .inl ?_
     have Ky:∀k cs,e.hw=some (k,cs)->(g.al k).isSome=true:=λk cs hh=>aaq R (λt ht=>IW t (by simp only[bI.reads,adG];exact .inl ht)) hy hh
     have Ua:=Sg Ky
     have next:bD (bu P n true ops o)=none->∀(g':Gh)(a':Act)(w':World),g'.old=g.old->Rel P w0 n (UU P n ops listed) g' (e.S S o.dst) (e.H H) a' w'->wpAny P .any ops (QQ P w0 n old Q) fuel (listed.setIfInBounds i true) a' w':=by
      intro gQ g' a' w' h2 R';refine ih _ g' _ _ _ _ bl (h2.trans ho) ?_ Ua hK;rw[Gc zR gQ];exact R'
     have dh:∀t∈(bu P n true ops o).op.rd,¬UU P n ops listed t:=λt ht=>IW t (by simp only[bI.reads,adG];exact .inl ht)
     by_cases bU:(bu P n true ops o).op.calm=true
     .have gQ:bD (bu P n true ops o)=none:=by
       unfold bD;split
       .rename_i dn _;rw[dn]at bU;cases bU
       .rfl
      refine(yn R rfl bU (λt ht=>⟨(tB t ht).1,XV gQ t ht⟩) dh (λt ht=>(tB t ht).2) (C1 bU hy)).wp λg' a' w' e1 e2 R'=>next gQ g' a' w' e2 R'
     .generalize dn:(bu P n true ops o).op=op at bU hy dh;have vq:comp P n (match o.dst with|some d=>taken ops d|none=>false) (PN ops o) o=op:=dn
      cases op<;>try (exact absurd rfl bU)
      case alloc t cs=>
       simp only[ln]at hy
       cases iD:o.dst with
       |none=>rw[show(bu P n true ops o).dst=o.dst from rfl,iD]at hy;exact hy.elim
       |some d=>
        rw[show(bu P n true ops o).dst=o.dst from rfl,iD]at hy;simp only at hy;subst hy
        have jC:bD (bu P n true ops o)=some (d,cs):=by
         unfold bD;rw[dn,show(bu P n true ops o).dst=o.dst from rfl,iD]
        obtain⟨k1,k2⟩:=hinv i _ d cs zR jC Xj;obtain⟨acY,hz⟩:=BE vq;unfold zeroCells at hz;split at hz
        case h_2=>cases hz
        rename_i it hit;split at hz
        case h_2=>cases hz
        rename_i z ZS;obtain⟨h1,h2,h3⟩:=iG g.Pr w hz
        have R2:=R.Jb d ⟨i,_,cs,zR,jC,Xj⟩ (tB d iD).1 cs z.cells t k1 k2 (by simpa using h1.1) (λj h h'=>by have:=h1.2.1 j h (by simpa using h');simpa using this)
         (λj hj dZ=>⟨h2 _ (adC hj),by have:=h3 P g (.cell d) j hj (by simpa using dZ);rwa [Array.getElem_toList]at this⟩) h1.2.2
        have dE:(execOp a.eval o).run P w=.ok (.value (.pointer (some ⟨w.heap.size,0,none⟩))) (w.alloc (.cells z.cells t)):=by
         unfold execOp;simp[acY,Instr.alloc,zeroValue,typeInfo,hit,ZS,newVar,newRow]
        unfold Oper.wp;rw[dE];show wpAny P .any ops (QQ P w0 n old Q) fuel (listed.setIfInBounds i true) _ _;rw[iD];rw[<-QK hA jZ zR jC Uz]at R2
        have hS:au S d (.box d 0)=S:=by
         funext t
         by_cases ht:t=d
         .subst ht;rw[aO,k1]
         .rw[aT _ _ ht]
        have Z9:y3 P GI n .any ops (Q .normal) fuel (listed.setIfInBounds i true) S H:=by
         have:({ v:=.box d 0 }:aP).S S (bu P n true ops o).dst=S:=by
          rw[show(bu P n true ops o).dst=o.dst from rfl,iD];exact hS
         rw[this]at hK;exact hK
        refine ih _ { g with al:=au g.al d (some w.heap.size) } S H _ _ bl ho R2 (λj aj d' z' h1 h2 h3=>?_) Z9;have:=Ua j aj d' z' h1 h2 h3
        have hSS:({ v:=.box d 0 }:aP).S S o.dst=S:=by rw[iD];exact hS
        rw[hSS]at this;exact this
      case call f args=>
       have gQ:bD (bu P n true ops o)=none:=by unfold bD;rw[dn]
       exact t_ R hG cm vq (λt ht=>⟨(tB t ht).1,XV gQ t ht⟩) dh hy.2 (λv g' a' w' e1 e2 R' hk=>by subst hk;exact next gQ g' a' w' e2 R') (λ_ _ _ _ _ _ _ hf=>hf.elim)
      case gy f args=>
       have gQ:bD (bu P n true ops o)=none:=by unfold bD;rw[dn]
       simp only[ln]at hy;split at hy
       case h_2=>exact hy.elim
       rename_i k first cap zw;exact vF R hG cm vq (λt ht=>⟨(tB t ht).1,XV gQ t ht⟩) dh zw hy.2 (λv g' a' w' e1 e2 R' hk=>by subst hk;exact next gQ g' a' w' e2 R') (λ_ _ _ _ _ _ _ hf=>hf.elim)
      case box=>exact hy.elim
      case panic=>exact hy.elim
      case other=>exact hy.elim
def eP:List bI->an->an
 |[],S=>S
 |o::l,S=>match bD o with
  |some (d,_)=>eP l (au (λt=>cb d (S t)) d (.box d 0))
  |none=>eP l S
def dW:List bI->ao->ao
 |[],H=>H
 |o::l,H=>match bD o with
  |some (d,z)=>dW l (au H d (some z))
  |none=>dW l H
def dw(l:List bI):List Nat:=l.filterMap λo=>(bD o).map (·.1)
def Rel.eP:∀ (l:List bI) {U:Nat→Prop} {g:Gh} {S:an} {H:ao},Rel P w0 n U g S H a w→(dw l).Nodup→(∀ d∈dw l,¬ g.old.bx d) →
  ∃g',g'.base=g.base/\g'.old=g.old/\Rel P w0 n (λt=>U t\/t∈dw l) g' (Go.AL.eP l S) (dW l H) a w
 |[],U,g,S,H,R,_,_=>⟨g,rfl,rfl,by simpa[dw,Go.AL.eP,dW]using R⟩
 |o::l,U,g,S,H,R,hn,bK=>by
  cases ha:bD o with
  |none=>
   have e:dw (o::l)=dw l:=by simp[dw,ha]
   rw[e]at hn bK⊢;simp only[Go.AL.eP,dW,ha];exact Rel.eP l R hn bK
  |some p=>
   obtain⟨d,z⟩:=p
   have e:dw (o::l)=d::dw l:=by simp[dw,ha]
   rw[e]at hn bK⊢;simp only[Go.AL.eP,dW,ha];obtain⟨g',e1,e2,R'⟩:=Rel.eP l (R.suspend d (bK d adX) (.box d 0) z) (afu.1 hn).2 (λk hk=>bK k (adO _ hk));refine⟨g',e1,e2,?_⟩
   have:(λt=>U t\/t∈d::dw l)=(λt=>(U t\/t=d)\/t∈dw l):=by
    funext t;simp[or_assoc]
   rw[this];exact R'
def uX:∀(l:List bI)(S:an)(d:Nat),d∉dw l->S d=.box d 0->Go.AL.eP l S d=.box d 0
 |[],S,d,_,h=>h
 |o::l,S,d,hn,h=>by
  cases ha:bD o with
  |none=>simp only[Go.AL.eP,ha];exact uX l S d (by simpa[dw,ha]using hn) h
  |some p=>
   obtain⟨k,z⟩:=p;simp only[Go.AL.eP,ha]
   have yR:d≠k/\d∉dw l:=by simpa[dw,ha]using hn
   refine uX l _ d yR.2 ?_;rw[aT _ _ yR.1,h];simp[cb,yR.1]
def sR:∀(l:List bI)(H:ao)(d:Nat)(z:List AV),d∉dw l->H d=some z->dW l H d=some z
 |[],H,d,z,_,h=>h
 |o::l,H,d,z,hn,h=>by
  cases ha:bD o with
  |none=>simp only[dW,ha];exact sR l H d z (by simpa[dw,ha]using hn) h
  |some p=>
   obtain⟨k,z'⟩:=p;simp only[dW,ha]
   have yR:d≠k/\d∉dw l:=by simpa[dw,ha]using hn
   exact sR l _ d z yR.2 (by rw[aT _ _ yR.1,h])
def zz:∀(l:List bI)(S:an)(H:ao),(dw l).Nodup->∀o∈l,∀d z,bD o=some (d,z)->Go.AL.eP l S d=.box d 0/\dW l H d=some z
 |[],S,H,_,o,ho,_,_,_=>by cases ho
 |o'::l,S,H,hn,o,ho,d,z,hd=>by
  rcases ad_.1 ho with rfl|ho
  .have e:dw (o::l)=d::dw l:=by simp[dw,hd]
   rw[e]at hn;simp only[Go.AL.eP,dW,hd];exact⟨uX l _ d (afu.1 hn).1 (aO _ _ _),sR l _ d z (afu.1 hn).1 (aO _ _ _)⟩
  .cases ha:bD o' with
   |none=>
    have e:dw (o'::l)=dw l:=by simp[dw,ha]
    rw[e]at hn;simp only[Go.AL.eP,dW,ha];exact zz l S H hn o ho d z hd
   |some p=>
    obtain⟨k,z'⟩:=p
    have e:dw (o'::l)=k::dw l:=by simp[dw,ha]
    rw[e]at hn;simp only[Go.AL.eP,dW,ha];exact zz l _ _ (afu.1 hn).2 o ho d z hd
def LU(P:Program)(n:Nat)(ops:Array Oper):Bool:=
 (bh P n true ops).all (·.ok n)&&oQ .any ops (bh P n true ops)&&decide ((dw (bh P n true ops)).Nodup)&&J9 .any ops (bh P n true ops) ops.size 0 (Array.replicate ops.size false)
def Lo (hG:ar GI) (cm:GI w0) (hm:P.follows .mixedOrders=true) {old:Old} {id:Nat} {Q:dV→an→ao→Prop} (bV:LU P n ops=true) (bK:∀ o∈bh P n true ops,∀ d∈o.jx,¬ old.bx d) (ho:g.old=old) (R:Rel P w0 n bP g S H a w)
  (h:cV P GI (bh P n true ops) (Q .normal) (eP (bh P n true ops) S) (dW (bh P n true ops) H)):(Code.region id ops true).wp P (QQ P w0 n old Q) a w:=by
 simp only[LU,adE,adL]at bV;obtain⟨⟨⟨h1,h2⟩,h3⟩,h4⟩:=bV;refine wp_region_any hm ?_;have R0:Rel P w0 n bP g S H a { w with drawn:=w.drawn+1 }:=R.jV ((aeC _ w).drew)
 obtain⟨g',e1,e2,R'⟩:=Rel.eP (bh P n true ops) R0 h3 (λd hd=>by
  simp only[dw,afz,adP]at hd;obtain⟨o,kE,⟨d',z⟩,k1,rfl⟩:=hd;rw[ho];refine bK o kE d' ?_;unfold bD at k1;split at k1
  .rename_i h1 h2;cases k1;simp[bI.jx,h1,h2,eG.jx]
  .cases k1)
 have hU:UU P n ops (Array.replicate ops.size false)=(λt=>bP t\/t∈dw (bh P n true ops)):=by
  funext t
  simp only[UU,bP,ahb,ago,dw,afz,adP]
  constructor
  .rintro⟨j,o,z,k1,k2,k3⟩;rw[<-fG]at k1;exact⟨o,aeN k1,(t,z),k2,rfl⟩
  .rintro⟨o,ho,⟨d,z⟩,k1,rfl⟩;obtain⟨j,hj⟩:=ahs ho;refine⟨j,o,z,by rw[<-fG];exact hj,k1,?_⟩
   have:j<ops.size:=by
    have:=(ad0.1 hj).1;simpa[bh]using this
   simp[this]
 refine HH hG cm h2 (λo kE=>?_) ops.size (Array.replicate ops.size false) g' _ _ a _ ahB (e2.trans ho) (by rw[hU];exact R') (λj o d z k1 k2 k3=>?_) ?_
 .simp only[bh,afl,adQ,Function.comp]at h1;exact h1 o (by simpa using kE)
 .rw[<-fG]at k1;exact zz _ S H h3 o (aeN k1) d z k2
 .have:=Au (QA:=Q .normal) ops.toList 0 (Array.replicate ops.size false) _ _ ahB (by simpa using h4) h;simpa using this
end
end Go.AL
