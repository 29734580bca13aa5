/- A part of the proof. -/
import Derived.Still
import Derived.Laws.Concat
import Derived.Laws.Strings2
import Derived.Great.BuildSlice
import Derived.Laws.BytesArg
import Derived.Maps.Own
import Derived.OrdersIn
import Derived.RangeFuncRecord
import Derived.Laws.RangeString
import Derived.Recover
import Derived.Laws.Pointers
import Derived.Lib.AppendIntMem
import Derived.Deep.OwnRows
import Derived.Shelf.Vars
import Derived.ProofKit
import Derived.OpenShut
import Derived.LaidMore
import Derived.Lay
import Derived.SevenTiedAt
set_option maxRecDepth 100000
set_option maxHeartbeats 8000000
set_option linter.all false
namespace Go
theorem zo{a:Prop}(h:a:=by omega):a:=h
theorem zk{a:Prop}(h:a:=by kernel_rfl):a:=h
theorem zd{a:Prop}(h:a:=by decide):a:=h
theorem ah7{a:Prop}(h:a:=by simp):a:=h
theorem zr{a:Prop}(h:a:=by rfl):a:=h
end Go
namespace Go
def ad2:=@List.getElem_mem
def ad_:=@List.getElem?_eq_getElem
def aea:=@Array.getElem?_eq_some_iff
def aeb:=@Bool.and_eq_true
def aec:=@List.take_succ_eq_append_getElem
def aed:=@Nat.le_refl
def aee:=@List.take_of_length_le
def aef:=@List.length_map
def aeg:=@List.mem_append
def aeh:=@List.all_eq_true
def aei:=@List.mem_cons_of_mem
def aej:=@decide_eq_true_eq
def aek:=@Bool.false_eq_true
def ael:=@Go.Sem.run_bind
def aem:=@Array.getElem?_setIfInBounds_ne
def aen:=@List.mem_cons_self
def aeo:=@Option.map_eq_some_iff
def aep:=@List.getElem_map
def aeq:=@Go.wpIn_seq
def aer:=@List.map_cons
def aes:=@List.length_take
def aet:=@Go.run_underlying
def aeu:=@List.length_append
def aev:=@List.mem_singleton
def aew:=@List.mem_map
def aex:=@Array.getD_eq_getD_getElem?
def aey:=@List.getElem?_eq_some_iff
def aez:=@List.getElem?_eq_none
def aeA:=@if_false
def aeB:=@List.map_append
def aeC:=@Array.getElem?_eq_getElem
def aeD:=@List.mem_cons
def aeE:=@Option.some.inj
def aeF:=@List.map_nil
def aeG:=@Go.wpIn_region
def aeH:=@if_true
def aeI:=@List.mem_range
def aeJ:=@Option.some.injEq
def aeK:=@List.getElem?_map
def aeL:=@List.mem_of_mem_take
def aeM:=@List.length_drop
def aeN:=@List.map_toArray
def aeO:=@beq_eq_false_iff_ne
def aeP:=@Nat.zero_add
def aeQ:=@List.mem_flatMap
def aeR:=@Int.tmod_eq_emod_of_nonneg
def aeS:=@beq_iff_eq
def aeT:=@List.eq_nil_of_length_eq_zero
def aeU:=@List.append_assoc
def aeV:=@List.getElem_append_left
def aeW:=@Bool.eq_iff_iff
def aeX:=@List.map_congr_left
def aeY:=@List.getD_eq_getElem?_getD
def aeZ:=@Int.tdiv_eq_ediv_of_nonneg
def ae0:=@Ne.symm
def ae1:=@List.not_mem_nil
def ae2:=@Nat.zero_le
def ae3:=@Int.mul_nonneg
def ae4:=@Nat.lt_of_lt_of_le
def ae5:=@List.getElem_of_mem
def ae6:=@Int.mul_le_mul
def ae7:=@Go.wpIn_cond
def ae8:=@Go.World.alloc_heap_new
def ae9:=@List.any_eq_false
def ae_:=@Bool.not_eq_true'
def afa:=@List.take_append_drop
def afb:=@Go.RowKit.Below.refl
def afc:=@List.getElem?_append_left
def afd:=@Bool.not_eq_true
def afe:=@List.append_nil
def aff:=@List.foldl_append
def afg:=@Array.mem_of_getElem?
def afh:=@Go.Addr.add_lit
def afi:=@List.length_pos_iff
def afj:=@List.drop_eq_nil_of_le
def afk:=@List.mem_of_getElem?
def afl:=@Nat.le_trans
def afm:=@Go.setRow_other
def afn:=@Array.all_eq_true'
def afo:=@Bool.or_eq_true
def afp:=@List.getElem?_append_right
def afq:=@List.getElem_append_right
def afr:=@Array.getElem?_setIfInBounds
def afs:=@List.range_succ
def aft:=@List.map_map
def afu:=@List.take_length
def afv:=@Array.getElem?_toList
def afw:=@List.getElem_drop
def afx:=@List.flatMap_cons
def afy:=@Nat.mul_le_mul_right
def afz:=@List.sum_append
def afA:=@List.ext_getElem?
def afB:=@Nat.lt_or_ge
def afC:=@List.any_eq_true
def afD:=@Go.wpIn_block
def afE:=@Go.Oper.semAt_eq
def afF:=@Array.getElem?_eq_none
def afG:=@Go.wpIn_skip
def afH:=@Array.ext
def afI:=@Array.eq_empty_of_size_eq_zero
def afJ:=@List.range'_succ
def afK:=@Nat.add_mul
def afL:=@List.length_eq_zero_iff
def afM:=@not_true_eq_false
def afN:=@Go.wpIn_region_any
def afO:=@List.flatMap_append
def afP:=@List.all_map
def afQ:=@Array.getElem?_extract
def afR:=@Go.wpIn_mono
def afS:=@Nat.add_sub_cancel
def afT:=@List.drop_eq_getElem_cons
def afU:=@List.pairwise_iff_getElem
def afV:=@Go.setRow_heap
def afW:=@Nat.mul_one
def afX:=@Go.World.cell?_of_block
def afY:=@List.cons.injEq
def afZ:=@List.range_eq_range'
def af0:=@List.nodup_cons
def af1:=@List.map_take
def af2:=@List.drop_append_of_le_length
def af3:=@Option.bind_eq_some_iff
def af4:=@List.mem_map_of_mem
def af5:=@Int.le_refl
def af6:=@Nat.eq_zero_or_pos
def af7:=@List.mem_filterMap
def af8:=@Go.mem_ready
def af9:=@List.length_set
def af_:=@Array.getElem?_append
def aga:=@Go.wpIn_ret
def agb:=@of_decide_eq_true
def agc:=@Array.getElem_append_left
def agd:=@Go.ready_mono
def age:=@List.mem_append_left
def agf:=@List.mem_of_mem_drop
def agh:=@List.getLast?_eq_none_iff
def agi:=@Go.calls_of_wp
def agj:=@List.take_left
def agk:=@Nat.mul_comm
def agl:=@Array.setIfInBounds_comm
def agm:=@Array.getElem?_replicate
def agn:=@Nat.mul_le_mul_left
def ago:=@Go.World.block_lt_of_cell?
def agp:=@decide_eq_false_iff_not
def agq:=@Bool.true_and
def agr:=@List.getElem?_drop
def ags:=@Go.wpIn_exit
def agt:=@List.mem_filter
def agu:=@Go.MapKept.run_getObj_map
def agv:=@Go.getD_set_ne
def agw:=@Go.fenced_calm
def agx:=@List.flatMap_singleton
def agy:=@List.size_toArray
def agz:=@List.mem_range'_1
def agA:=@List.drop_drop
def agB:=@List.mem_append_right
def agC:=@decide_false
def agD:=@List.contains_eq_mem
def agE:=@List.pairwise_append
def agF:=@or_false
def agG:=@Nat.add_assoc
def agH:=@Prod.mk.injEq
def agI:=@Array.getElem_append_right
def agJ:=@Go.callsD_of_wpS
def agK:=@decide_true
def agL:=@Option.isSome_iff_exists
def agM:=@Array.any_eq_true'
def agN:=@List.getElem?_take
def agO:=@List.range'_concat
def agP:=@List.getElem?_take_of_lt
def agQ:=@List.pairwise_cons
def agR:=@Nat.lt_trans
def agS:=@List.find?_eq_none
def agT:=@Nat.mod_lt
def agU:=@bne_iff_ne
def agV:=@eq_iff_iff
def agW:=@Go.Oper.wpIn_mono
def agX:=@decide_eq_true
def agY:=@List.take_succ
def agZ:=@List.pairwise_singleton
def ag0:=@List.getElem_take
def ag1:=@Go.run_storeCells_at
def ag2:=@Classical.not_not
def ag3:=@Bool.eq_false_iff
def ag4:=@Array.toList_map
def ag5:=@List.getElem_set
def ag6:=@List.ext_getElem
def ag7:=@Nat.succ_lt_succ
def ag8:=@List.getElem?_toArray
def ag9:=@List.length_filter_le
def ag_:=@Bool.and_eq_false_iff
def aha:=@Bool.or_eq_false_iff
def ahb:=@Go.CallsIn.mono
def ahc:=@Go.RoundIn.mono
def ahd:=@Nat.min_eq_left
def ahe:=@List.range'_append_1
def ahf:=@Array.mem_toList_iff
def ahg:=@Go.wpS_region
def ahh:=@Nat.le_of_lt
def ahi:=@Nat.not_lt_zero
def ahj:=@decide_eq_false
def ahk:=@String.toList_ofList
def ahl:=@Go.heap_alloc_new
def ahm:=@Nat.mul_le_mul
def ahn:=@Bool.not_false
def aho:=@Go.RowsIn.mono
def ahp:=@Int.add_mul
def ahq:=@Go.wpS_of_wp
def ahr:=@List.map_drop
def ahs:=@Go.StepsIn.trans
def aht:=@Go.callsIn_of_wp
def ahu:=@List.all_eq_false
def ahv:=@List.getElem?_set
def ahw:=@List.mem_or_eq_of_mem_set
def ahx:=@List.mem_of_find?_eq_some
def ahy:=@Go.MakeChecks.laidMetH_plain
def ahz:=@Go.wp_mono
def ahA:=@Nat.succ_mul
def ahB:=@Nat.div_eq_of_lt
def ahC:=@false_or
def ahD:=@Go.RowKit.Below.heap_alloc
def ahE:=@and_true
def ahF:=@List.drop_length
def ahG:=@Nat.sub_self
def ahH:=@List.length_erase_of_mem
def ahI:=@List.length_filterMap_le
def ahJ:=@Go.World.putObj_heap_other
def ahK:=@List.flatMap_eq_nil_iff
def ahL:=@Nat.div_add_mod
def ahM:=@Go.wpIn_loop
def ahN:=@Nat.zero_lt_one
def ahO:=@Go.World.putObj_heap_same
def ahP:=@Go.MapKept.run_setObj_map
def ahQ:=@List.filter_eq_nil_iff
def ahR:=@Go.results_tmp
def ahS:=@Go.leaves_cons
def ahT:=@List.pairwise_lt_range
def ahU:=@List.length_pos_of_mem
def ahV:=@List.getElem_set_self
def ahW:=@Go.wpS_seq
def ahX:=@true_and
def ahY:=@List.getElem?_of_mem
def ahZ:=@List.getElem?_set_ne
def ah0:=@List.getLast?_append
def ah1:=@List.mem_of_getLast?
def ah2:=@List.mem_erase_of_ne
def ah3:=@Bool.not_true
def ah4:=@Nat.lt_irrefl
def ah5:=@Bool.and_true
def ah6:=@Array.toList_append
def ah8:=@List.getElem?_range
def ah9:=@List.getElem_set_ne
def ah_:=@List.drop_succ_cons
def aia:=@Int.toNat_of_nonneg
def aib:=@List.filter_flatMap
def aic:=@Go.run_build
def aif:=@Array.empty_append
def aih:=@Array.append_empty
def aii:=@Go.stepR_inLoop
def aij:=@Array.ext_getElem?
def aik:=@List.filter_append
def aim:=@Go.decode_ascii
def aio:=@Nat.mul_add
end Go
namespace Go.Proofs.Tram
end Go.Proofs.Tram
namespace Go.AL
inductive Ow where
 |view|nil|own (e:Nat)
 deriving DecidableEq
inductive AV where
 |bool (b:Bool)
 |mW
 |int (k:IntKind) (n:Int)
 |str (l:List UInt8)
 |slice (o:Ow) (es:List AV)
 |agg (cs:List AV)
 |ea (vs:List AV)
 |ref (cs:List AV)
 |sh
 |iface (t:TypeId) (v:AV)
 |qF
 |map (ks vs:List AV)
 |box (i off:Nat)
 |func (fn:Fn) (first cap:List AV)
 |iH (fs:List AV)
 |val (c:Value)
 |cT
namespace AV
def cells:AV->List AV
 |.agg cs=>cs
 |v=>[v]
def bC:AV->AV
 |.slice (.own _) es=>.slice .view es
 |v=>v
def dE:AV->AV
 |.slice _ es=>.slice .view es
 |v=>v
def vw:AV->AV
 |.agg cs=>.agg (cs.map dE)
 |v=>v.dE
def aX:AV->Bool
 |.box ..|.func ..|.iH _|.cT=>false
 |_=>true
def one:AV->Bool
 |.agg _|.ea _=>false
 |_=>true
def storable:AV->Bool
 |.box ..|.func ..|.iH _|.cT|.ea _=>false
 |_=>true
end AV
inductive RD(Pr:Nat->Nat->Prop)(w:World):AV->Value->Prop
 |bool (b:Bool):RD Pr w (.bool b) (.bool b)
 |mW (b:Bool):RD Pr w .mW (.bool b)
 |int (k:IntKind) (n:Int):RD Pr w (.int k n) (.int k n)
 |str (l:List UInt8):RD Pr w (.str l) (.string ⟨l.toArray⟩)
 |jm (o:Ow):RD Pr w (.slice o []) (.slice none 0 0)
 |kj (o:Ow) (a:Addr):RD Pr w (.slice o []) (.slice (some a) 0 0)
 |slice (o:Ow) (es:List AV) (b off cap size:Nat) (cs:Nat→Value) (gq:es.length≤cap) (hn:o = .nil→cap=0)
   (cM:∀i (h:i<es.length),(es[i]).cells.length=size) (h1:∀i (h:i<es.length) j (hj:j<(es[i]).cells.length),((es[i]).cells[j]).one=true)
   (hc:∀k,k<es.length*size->Pr b (off+k)/\w.cell? ⟨b,off+k,none⟩=some (cs k))
   (hr:∀i (h:i<es.length) j (hj:j<(es[i]).cells.length),RD Pr w ((es[i]).cells[j]) (cs (i*size+j))):
   RD Pr w (.slice o es) (.slice (some ⟨b,off,none⟩) es.length cap)
 |agg (cs:List AV) (vs:Array Value) (hl:cs.length=vs.size) (h1:∀ i (h:i < cs.length),(cs[i]).one=true)
   (hr:∀i (h:i<cs.length)(h':i<vs.size),RD Pr w cs[i] vs[i]):RD Pr w (.agg cs) (.agg vs)
 |ea (cs:List AV) (vs:Array Value) (hl:cs.length=vs.size)
   (hr:∀i (h:i<cs.length)(h':i<vs.size),RD Pr w cs[i] vs[i]):RD Pr w (.ea cs) (.tuple vs)
 |ref (cs:List AV) (b off:Nat) (vs:Nat→Value) (h1:∀ i (h:i < cs.length),(cs[i]).one=true)
   (hc:∀k,k<cs.length->Pr b (off+k)/\w.cell? ⟨b,off+k,none⟩=some (vs k))
   (hr:∀k (h:k<cs.length),RD Pr w cs[k] (vs k)):RD Pr w (.ref cs) (.pointer (some ⟨b,off,none⟩))
 |map (ks vs:List AV) (b:Nat) (es:Array MapEntry) (clock:Nat) (hb:Pr b 0) (hm:w.heap[b]? = some (.map es clock)) (hk:ks.length=es.size) (hv:vs.length=es.size)
   (hr:∀i (h:i<ks.length)(h':i<es.size),RD Pr w ks[i] (es[i]).key) (jV:∀i (h:i<vs.length)(h':i<es.size),RD Pr w vs[i] (es[i]).val):RD Pr w (.map ks vs) (.map (some b))
 |vg:RD Pr w (.map [] []) (.map none)
 |sh:RD Pr w .sh (.pointer none)
 |iface (t:TypeId) (v:AV) (c:Value) (h:RD Pr w v c):RD Pr w (.iface t v) (.iface t c)
 |qF:RD Pr w .qF .nilIface
 |val (c:Value) (h:c.oneCell'=true):RD Pr w (.val c) c
inductive RV(Pr:Nat->Nat->Prop)(al:Nat->Option Nat)(w:World):AV->Value->Prop
 |data (v:AV) (c:Value) (h:RD Pr w v c):RV Pr al w v c
 |box (i off b:Nat) (h:al i=some b):RV Pr al w (.box i off) (.pointer (some ⟨b,off,none⟩))
 |func (fn:Fn) (first cap:List AV) (vs us:Array Value) (h1:first.length=vs.size) (h2:cap.length=us.size)
   (No:∀i (h:i<first.length)(h':i<vs.size),RV Pr al w first[i] vs[i])
   (hr2:∀i (h:i<cap.length)(h':i<us.size),RV Pr al w cap[i] us[i]):RV Pr al w (.func fn first cap) (.func fn vs us)
 |iH (fs:List AV) (vs:Array Value) (h1:fs.length=vs.size) (hr:∀i (h:i<fs.length)(h':i<vs.size),RV Pr al w fs[i] vs[i]):RV Pr al w (.iH fs) (.agg vs)
 |cT (c:Value):RV Pr al w .cT c
structure cC(Pr fE:Nat->Nat->Prop)(w w':World):Prop where
 cell:∀b k,Pr b k->∀u,w.cell? ⟨b,k,none⟩=some u->fE b k/\w'.cell? ⟨b,k,none⟩=some u
 map:∀b,Pr b 0->∀es c,w.heap[b]?=some (.map es c)->fE b 0/\w'.heap[b]?=some (.map es c)
def cC.jK{Pr fE:Nat->Nat->Prop}{w w':World}(h:∀b,b<w.heap.size->w'.heap[b]?=w.heap[b]?)(hp:∀b k,b<w.heap.size->Pr b k->fE b k):cC Pr fE w w':={
 cell b k hb u hu:=by
  have aN:=ago _ _ hu;exact⟨hp b k aN hb,by rw[afX (w:=w) (h b aN)];exact hu⟩
 map b hb es c hm:=by
  have aN:=(aea.1 hm).1
  exact⟨hp b 0 aN hb,by rw[h b aN];exact hm⟩ }
def cC.trans{Pr fE X':Nat->Nat->Prop}{w w' j0:World}(h:cC Pr fE w w')(h':cC fE X' w' j0):cC Pr X' w j0:={
 cell b k hp u hu:=h'.cell b k (h.cell b k hp u hu).1 u (h.cell b k hp u hu).2
 map b hp es c hm:=h'.map b (h.map b hp es c hm).1 es c (h.map b hp es c hm).2 }
def cC.rA{Pr:Nat->Nat->Prop}{w w':World}(h:∀b k,b<w.heap.size->Pr b k->w'.heap[b]?=w.heap[b]?):cC Pr Pr w w':={
 cell b k hb u hu:=⟨hb,by rw[afX (w:=w) (h b k (ago _ _ hu) hb)];exact hu⟩
 map b hb es c hm:=⟨hb,by rw[h b 0 (aea.1 hm).1 hb];exact hm⟩ }
def cC.same{Pr fE:Nat->Nat->Prop}{w:World}(hp:∀b k,b<w.heap.size->Pr b k->fE b k):cC Pr fE w w:=cC.jK (λ_ _=>rfl) hp
def RD.mono {Pr fE:Nat→Nat→Prop} {w w':World} {v:AV} {c:Value} (h:RD Pr w v c)
  (hp:cC Pr fE w w'):RD fE w' v c:=by
 induction h with
 |bool b=>exact .bool b
 |mW b=>exact .mW b
 |int k n=>exact .int k n
 |str l=>exact .str l
 |jm o=>exact .jm o
 |kj o a=>exact .kj o a
 |slice o es b off cap size cs gq hn cM h1 hc _ ih=>
  exact .slice o es b off cap size cs gq hn cM h1 (λk hk=>hp.cell _ _ (hc k hk).1 _ (hc k hk).2) ih
 |agg cs vs hl h1 _ ih=>exact .agg cs vs hl h1 ih
 |ea cs vs hl _ ih=>exact .ea cs vs hl ih
 |ref cs b off vs h1 hc _ ih=>exact .ref cs b off vs h1 (λk hk=>hp.cell _ _ (hc k hk).1 _ (hc k hk).2) ih
 |map ks vs b es clock hb hm hk hv _ _ ih ih'=>exact .map ks vs b es clock (hp.map b hb es clock hm).1 (hp.map b hb es clock hm).2 hk hv ih ih'
 |vg=>exact .vg
 |sh=>exact .sh
 |iface t v c _ ih=>exact .iface t v c ih
 |qF=>exact .qF
 |val c h=>exact .val c h
def RV.mono {Pr fE:Nat→Nat→Prop} {al I5:Nat→Option Nat} {w w':World} {v:AV} {c:Value} (h:RV Pr al w v c)
  (hp:cC Pr fE w w')
  (ha:∀i b,al i=some b->I5 i=some b):RV fE I5 w' v c:=by
 induction h with
 |data v c h=>exact .data v c (h.mono hp)
 |box i off b h=>exact .box i off b (ha i b h)
 |func fn first cap vs us h1 h2 _ _ ih1 ih2=>exact .func fn first cap vs us h1 h2 ih1 ih2
 |iH fs vs h1 _ ih=>exact .iH fs vs h1 ih
 |cT c=>exact .cT c
def RD.aX{Pr:Nat->Nat->Prop}{w:World}{v:AV}{c:Value}(h:RD Pr w v c):v.aX=true:=by
 cases h<;>rfl
def RV.eP{Pr:Nat->Nat->Prop}{al:Nat->Option Nat}{w:World}{v:AV}{c:Value}(h:RV Pr al w v c)(hd:v.aX=true):RD Pr w v c:=by
 cases h with
 |data v c h=>exact h
 |box i off b h=>cases hd
 |func=>cases hd
 |iH=>cases hd
 |cT c=>cases hd
def RD.bC{Pr:Nat->Nat->Prop}{w:World}{v:AV}{c:Value}(h:RD Pr w v c):RD Pr w v.bC c:=by
 cases h with
 |jm o=>cases o<;>exact .jm _
 |kj o a=>cases o<;>exact .kj _ a
 |slice o es b off cap size cs gq hn cM h1 hc hr=>
  cases o with
  |own e=>exact .slice _ es b off cap size cs gq (λh=>by cases h) cM h1 hc hr
  |view=>exact .slice _ es b off cap size cs gq hn cM h1 hc hr
  |nil=>exact .slice _ es b off cap size cs gq hn cM h1 hc hr
 |bool b=>exact .bool b
 |mW b=>exact .mW b
 |int k n=>exact .int k n
 |str l=>exact .str l
 |agg cs vs hl h1 hr=>exact .agg cs vs hl h1 hr
 |ea cs vs hl hr=>exact .ea cs vs hl hr
 |ref cs b off vs h1 hc hr=>exact .ref cs b off vs h1 hc hr
 |map ks vs b es clock hb hm hk hv hr jV=>exact .map ks vs b es clock hb hm hk hv hr jV
 |vg=>exact .vg
 |sh=>exact .sh
 |iface t v c h=>exact .iface t v c h
 |qF=>exact .qF
 |val c h=>exact .val c h
def RV.bC{Pr:Nat->Nat->Prop}{al:Nat->Option Nat}{w:World}{v:AV}{c:Value}(h:RV Pr al w v c):RV Pr al w v.bC c:=by
 cases h with
 |data v c h=>exact .data _ _ h.bC
 |box i off b h=>exact .box i off b h
 |func fn first cap vs us h1 h2 r1 r2=>exact .func fn first cap vs us h1 h2 r1 r2
 |iH fs vs h1 hr=>exact .iH fs vs h1 hr
 |cT c=>exact .cT c
def RD.cells {Pr:Nat→Nat→Prop} {w:World} {v:AV} {c:Value} (h:RD Pr w v c) :
  v.cells.length=c.cells.size/\∀i (h:i<v.cells.length)(h':i<c.cells.size),RD Pr w v.cells[i] c.cells[i]:=by
 cases h with
 |agg cs vs hl h1 hr=>exact⟨hl,hr⟩
 |bool b=>exact⟨rfl,λi h _=>by simp[AV.cells]at h;subst h;exact .bool b⟩
 |mW b=>exact⟨rfl,λi h _=>by simp[AV.cells]at h;subst h;exact .mW b⟩
 |int k n=>exact⟨rfl,λi h _=>by simp[AV.cells]at h;subst h;exact .int k n⟩
 |str l=>exact⟨rfl,λi h _=>by simp[AV.cells]at h;subst h;exact .str l⟩
 |jm o=>exact⟨rfl,λi h _=>by simp[AV.cells]at h;subst h;exact .jm o⟩
 |kj o a=>exact⟨rfl,λi h _=>by simp[AV.cells]at h;subst h;exact .kj o a⟩
 |slice o es b off cap size cs gq hn cM h1 hc hr=>exact⟨rfl,λi h _=>by simp[AV.cells]at h;subst h;exact .slice o es b off cap size cs gq hn cM h1 hc hr⟩
 |ea cs vs hl hr=>exact⟨rfl,λi h _=>by simp[AV.cells]at h;subst h;exact .ea cs vs hl hr⟩
 |ref cs b off vs h1 hc hr=>exact⟨rfl,λi h _=>by simp[AV.cells]at h;subst h;exact .ref cs b off vs h1 hc hr⟩
 |map ks vs b es clock hb hm hk hv hr jV=>exact⟨rfl,λi h _=>by simp[AV.cells]at h;subst h;exact .map ks vs b es clock hb hm hk hv hr jV⟩
 |vg=>exact⟨rfl,λi h _=>by simp[AV.cells]at h;subst h;exact .vg⟩
 |sh=>exact⟨rfl,λi h _=>by simp[AV.cells]at h;subst h;exact .sh⟩
 |iface t v c hh=>exact⟨rfl,λi h _=>by simp[AV.cells]at h;subst h;exact .iface t v c hh⟩
 |qF=>exact⟨rfl,λi h _=>by simp[AV.cells]at h;subst h;exact .qF⟩
 |val c hc=>
  have ln:c.cells=#[c]:=by cases c<;>first|rfl|cases hc
  exact⟨by rw[ln];rfl,λi h h'=>by simp[AV.cells]at h;subst h;simp only[ln];exact .val c hc⟩
def RD.one{Pr:Nat->Nat->Prop}{w:World}{v:AV}{c:Value}(h:RD Pr w v c)(h1:v.one=true):c.oneCell'=true:=by
 cases h<;>first|rfl|(cases h1;done)|assumption
def RD.cells_one{Pr:Nat->Nat->Prop}{w:World}{v:AV}{c:Value}(h:RD Pr w v c)(h1:v.storable=true):∀i (h:i<v.cells.length),(v.cells[i]).one=true:=by
 cases h with
 |agg cs vs hl ho hr=>exact ho
 |ea=>cases h1
 |_=>intro i hi;simp[AV.cells]at hi;subst hi;rfl
def AV.pW(v:AV):v.bC.one=v.one:=by
 cases v<;>try rfl
 rename_i o es;cases o<;>rfl
def AV.TA(v:AV):v.dE.one=v.one:=by cases v<;>rfl
def AV.idem(v:AV):v.bC.bC=v.bC:=by
 cases v<;>try rfl
 rename_i o es;cases o<;>rfl
def RD.dE{Pr:Nat->Nat->Prop}{w:World}{v:AV}{c:Value}(h:RD Pr w v c):RD Pr w v.dE c:=by
 cases h with
 |jm o=>exact .jm _
 |kj o a=>exact .kj _ a
 |slice o es b off cap size cs gq hn cM h1 hc hr=>exact .slice _ es b off cap size cs gq (λh=>by cases h) cM h1 hc hr
 |bool b=>exact .bool b
 |mW b=>exact .mW b
 |int k n=>exact .int k n
 |str l=>exact .str l
 |agg cs vs hl h1 hr=>exact .agg cs vs hl h1 hr
 |ea cs vs hl hr=>exact .ea cs vs hl hr
 |ref cs b off vs h1 hc hr=>exact .ref cs b off vs h1 hc hr
 |map ks vs b es clock hb hm hk hv hr jV=>exact .map ks vs b es clock hb hm hk hv hr jV
 |vg=>exact .vg
 |sh=>exact .sh
 |iface t v c h=>exact .iface t v c h
 |qF=>exact .qF
 |val c h=>exact .val c h
def RD.vw{Pr:Nat->Nat->Prop}{w:World}{v:AV}{c:Value}(h:RD Pr w v c):RD Pr w v.vw c:=by
 cases h with
 |agg cs vs hl h1 hr=>
  refine .agg _ vs (by simpa using hl) (λi hi=>?_) (λi hi eJ=>?_)
  .simp only[aef]at hi;have:=h1 i hi;simp only[aep];generalize cs[i]=u at this
   cases u<;>first|rfl|cases this
  .simp only[aef]at hi;simp only[aep];exact(hr i hi eJ).dE
 |jm o=>exact .jm _
 |kj o a=>exact .kj _ a
 |slice o es b off cap size cs gq hn cM h1 hc hr=>exact .slice _ es b off cap size cs gq (λh=>by cases h) cM h1 hc hr
 |bool b=>exact .bool b
 |mW b=>exact .mW b
 |int k n=>exact .int k n
 |str l=>exact .str l
 |ea cs vs hl hr=>exact .ea cs vs hl hr
 |ref cs b off vs h1 hc hr=>exact .ref cs b off vs h1 hc hr
 |map ks vs b es clock hb hm hk hv hr jV=>exact .map ks vs b es clock hb hm hk hv hr jV
 |vg=>exact .vg
 |sh=>exact .sh
 |iface t v c h=>exact .iface t v c h
 |qF=>exact .qF
 |val c h=>exact .val c h
def AV.kM{v:AV}(h:v.storable=true):v.aX=true:=by cases v<;>first|rfl|cases h
end Go.AL
namespace Go.AL
open Go.RowKit
abbrev au:=Nat->AV
abbrev aD:=Nat->Option (List AV)
def aF{α:Type}(f:Nat->α)(i:Nat)(x:α):Nat->α:=λj=>if j=i then x else f j
def bX{α:Type}(f:Nat->α)(i:Nat)(x:α):aF f i x i=x:=by simp[aF]
def b_{α:Type}(f:Nat->α){i j:Nat}(x:α)(h:j≠i):aF f i x j=f j:=by simp[aF,h]
inductive Loc where
 |slot (t:Nat)|cell (i j:Nat)
 deriving DecidableEq
def lD(d:Nat):AV->Bool
 |.box i _=>i==d
 |.func ..|.iH _=>true
 |_=>false
def bt(d:Nat):AV->AV
 |.box i o=>if i=d then .cT else .box i o
 |.func fn first cap=>if first.any (lD d)||cap.any (lD d)then .cT else .func fn first cap
 |.iH _=>.cT
 |v=>v
def VR:AV->Bool
 |.func ..|.iH _=>false
 |_=>true
def flat:AV->Bool
 |.func _ first cap=>first.all VR&&cap.all VR
 |.iH _=>false
 |_=>true
structure Old where
 c:Nat->Nat->Prop
 facts:List (AV×Value)
 bx:Nat->Prop
 ds:List Deferred
 cg:Nat->Option Obj
 sp:Nat->Nat->Prop
 sw:World
 ok:∀p∈facts,flat p.1=true/\∀d,¬bx d->bt d p.1=p.1
def Old.plain(c:Nat->Nat->Prop)(w:World):Old:={ c:=c,facts:=[],bx:=λ_=>False,ds:=[],cg:=λ_=>none,sp:=λ_ _=>False,sw:=w,ok:=λ_ h=>by cases h }
structure Gh where
 base:Nat
 old:Old
 al:Nat->Option Nat
 hi:Nat->Nat
 owner:Nat->Option Loc
def Gh.Pr(g:Gh)(b k:Nat):Prop:=(b<g.base/\g.old.c b k)\/(g.base<=b/\k<g.hi b)
def fp(P:Program)(w:World)(g:Gh)(loc:Loc):AV->Value->Prop
 |.slice (.own e) es,c=>∃i xs b,P.info? e=some i/\w.ownsRow g.base e i.size c es.length xs/\c.ownBlock=some b/\g.owner b=some loc/\g.hi b=es.length*i.size
 |_,_=>True
structure Rel(P:Program)(w0:World)(n:Nat)(U:Nat->Prop)(g:Gh)(S:au)(H:aD)(a:Act)(w:World):Prop where
 size:a.tmps.size=n
 defers:a.defers=g.old.ds
 facts:∀p∈g.old.facts,RV g.Pr g.al w p.1 p.2
 slot:∀t,t<n->¬U t->RV g.Pr g.al w (S t) (a.tmps.getD t undef)
 own:∀t,t<n->¬U t->fp P w g (.slot t) (S t) (a.tmps.getD t undef)
 box:∀i b,g.al i=some b->∃cs vs ty,H i=some cs/\g.base<=b/\w.heap[b]?=some (.cells vs ty (0,0))/\g.hi b=0/\g.owner b=none/\cs.length=vs.size/\
  (∀j (h:j<cs.length)(h':j<vs.size),RD g.Pr w cs[j] vs[j])/\(∀j (h:j<cs.length)(h':j<vs.size),fp P w g (.cell i j) cs[j] vs[j])/\∀j (h:j<cs.length),(cs[j]).one=true
 kF:∀i cs,H i=some cs->¬U i->(g.al i).isSome
 kE:∀i,U i->g.al i=none
 inj:∀i j b,g.al i=some b->g.al j=some b->i=j
 base:g.base=w0.heap.size
 below:Below g.base w0 w
 fresh:∀b,w.heap.size<=b->g.hi b=0/\g.owner b=none
 still:cC g.old.sp g.Pr g.old.sw w
 grown:g.old.sw.heap.size<=w.heap.size
 kept:∀b o,g.old.cg b=some o->g.base<=b/\w.heap[b]?=some o/\g.hi b=0/\g.owner b=none/\∀i,g.al i≠some b
def fp.cg {P:Program} {w w':World} {g g':Gh} {loc:Loc} {v:AV} {c:Value} (h:fp P w g loc v c) (hb:g'.base=g.base)
  (hk:∀b,g.owner b=some loc->w'.heap[b]?=w.heap[b]?/\g'.hi b=g.hi b/\g'.owner b=some loc):fp P w' g' loc v c:=by
 unfold fp at*
 split at h
 .obtain⟨i,xs,b,h1,h2,h3,h4,h5⟩:=h;obtain⟨k1,k2,k3⟩:=hk b h4;refine⟨i,xs,b,h1,?_,h3,k3,by rw[k2];exact h5⟩;rw[hb];refine⟨h2.1,?_⟩
  rcases h2.2 with hn|⟨gg,cap,cur,rfl,mM,Gm,rest⟩
  .exact .inl hn
  .have:gg=b:=by simpa[Value.ownBlock]using h3
   subst this;exact .inr ⟨gg,cap,cur,rfl,mM,by rw[k1];exact Gm,rest⟩
 .trivial
def fp.bC{P:Program}{w:World}{g:Gh}{loc:Loc}{v:AV}{c:Value}:fp P w g loc v.bC c:=by
 cases v<;>try trivial
 rename_i o es
 cases o<;>trivial
def Rel.ext {P:Program} {w0:World} {n:Nat} {U:Nat→Prop} {g g':Gh} {S:au} {H:aD} {a:Act} {w w':World} (R:Rel P w0 n U g S H a w)
  (iA:g'.base=g.base) (hold:g'.old=g.old) (j9:g'.al=g.al)
  (gr:cC g.Pr g'.Pr w w')
  (acy:∀i b,g.al i=some b->w'.heap[b]?=w.heap[b]?/\g'.hi b=g.hi b/\g'.owner b=g.owner b)
  (dX:∀b loc,g.owner b=some loc->w'.heap[b]?=w.heap[b]?/\g'.hi b=g.hi b/\g'.owner b=some loc)
  (Xn:Below g.base w0 w') (pT:∀b,w'.heap.size<=b->g'.hi b=0/\g'.owner b=none)
  (y7:∀b o,g.old.cg b=some o->w.heap[b]?=some o->w'.heap[b]?=some o/\g'.hi b=g.hi b/\g'.owner b=g.owner b) (Za:w.heap.size<=w'.heap.size):Rel P w0 n U g' S H a w':={
 size:=R.size
 defers:=by rw[hold];exact R.defers
 facts p hp:=(R.facts p (by rw[<-hold];exact hp)).mono gr (by rw[j9];exact λ_ _ h=>h)
 slot t ht hu:=(R.slot t ht hu).mono gr (by rw[j9];exact λ_ _ h=>h)
 own t ht hu:=(R.own t ht hu).cg iA λb hb=>dX b _ hb
 box i b hi:=by
  rw[j9]at hi;obtain⟨cs,vs,ty,h1,h2,h3,h4,h5,h6,h7,h8,h9⟩:=R.box i b hi;obtain⟨k1,k2,k3⟩:=acy i b hi;refine⟨cs,vs,ty,h1,by rw[iA];exact h2,by rw[k1];exact h3,by rw[k2];exact h4,by rw[k3];exact h5,h6,?_,?_,h9⟩
  .exact λj hj eX=>(h7 j hj eX).mono gr
  .exact λj hj eX=>(h8 j hj eX).cg iA λb hb=>dX b _ hb
 kF i cs h hu:=by rw[j9];exact R.kF i cs h hu
 kE i h:=by rw[j9];exact R.kE i h
 inj i j b h h':=by rw[j9]at h h';exact R.inj i j b h h'
 base:=by rw[iA];exact R.base
 below:=by rw[iA];exact Xn
 fresh:=pT
 still:=by rw[hold];exact R.still.trans gr
 grown:=by rw[hold];exact afl R.grown Za
 kept b o h:=by
  rw[hold]at h;obtain⟨k1,k2,k3,k4,k5⟩:=R.kept b o h;obtain⟨e1,e2,e3⟩:=y7 b o h k2
  exact⟨by rw[iA];exact k1,e1,by rw[e2];exact k3,by rw[e3];exact k4,by rw[j9];exact k5⟩ }
def Rel.grow {P:Program} {w0:World} {n:Nat} {U:Nat→Prop} {g g':Gh} {S:au} {H:aD} {a:Act} {w w':World} (R:Rel P w0 n U g S H a w)
  (hb:Below w.heap.size w w') (iA:g'.base=g.base) (hold:g'.old=g.old) (j9:g'.al=g.al)
  (hg:∀b,b<w.heap.size->g'.hi b=g.hi b/\g'.owner b=g.owner b) (pT:∀b,w'.heap.size<=b->g'.hi b=0/\g'.owner b=none):Rel P w0 n U g' S H a w':=by
 have hle:g.base<=w.heap.size:=by rw[R.base];exact R.below.size
 refine R.ext iA hold j9 ?_ ?_ ?_ ?_ pT ?_ hb.size
 .refine cC.jK (λb aN=>hb.block b aN) λb k aN hp=>?_
  unfold Gh.Pr at*
  rw[iA,hold,(hg b aN).1];exact hp
 .intro i b hi;obtain⟨cs,vs,ty,h1,h2,h3,_⟩:=R.box i b hi;have aN:b<w.heap.size:=(aea.1 h3).1;exact⟨hb.block b aN,hg b aN⟩
 .intro b loc ho
  have aN:b<w.heap.size:=by
   rcases afB b w.heap.size with h|h
   .exact h
   .rw[(R.fresh b h).2]at ho;cases ho
  exact⟨hb.block b aN,(hg b aN).1,by rw[(hg b aN).2];exact ho⟩
 .exact R.below.trans (hb.mono hle)
 .intro b o _ ho;have aN:b<w.heap.size:=(aea.1 ho).1;exact⟨by rw[hb.block b aN];exact ho,hg b aN⟩
def Rel.kG {P:Program} {w0:World} {n:Nat} {U:Nat→Prop} {g:Gh} {S:au} {H:aD} {a:Act} {w w':World} (R:Rel P w0 n U g S H a w)
  (hb:Below w.heap.size w w'):Rel P w0 n U g S H a w':=
 R.grow hb rfl rfl rfl (λ_ _=>⟨rfl,rfl⟩) (λb h=>R.fresh b (afl hb.size h))
def jF(a:Act)(d t:Nat)(c:Value)(hd:d<a.tmps.size):(a.put (some d) c).tmps.getD t undef=if t=d then c else a.tmps.getD t undef:=by
 simp only[Act.put]
 by_cases h:t=d
 .subst h;simp[hd]
 .simp[h,aem (ae0 h)]
def Rel.put {P:Program} {w0:World} {n:Nat} {U:Nat→Prop} {g:Gh} {S:au} {H:aD} {a:Act} {w:World} (R:Rel P w0 n U g S H a w)
  (d:Nat) (v:AV) (c:Value) (hd:d<n) (hv:RV g.Pr g.al w v c) (ho:fp P w g (.slot d) v c):Rel P w0 n U g (aF S d v) H (a.put (some d) c) w:={
 size:=by simp[Act.put,R.size]
 defers:=R.defers
 facts:=R.facts
 slot t ht hu:=by
  rw[jF a d t c (by rw[R.size];exact hd)]
  by_cases h:t=d
  .subst h;simp only[bX,aeH];exact hv
  .rw[b_ S v h,if_neg h];exact R.slot t ht hu
 own t ht hu:=by
  rw[jF a d t c (by rw[R.size];exact hd)]
  by_cases h:t=d
  .subst h;simp only[bX,aeH];exact ho
  .rw[b_ S v h,if_neg h];exact R.own t ht hu
 box:=R.box
 kF:=R.kF
 kE:=R.kE
 inj:=R.inj
 base:=R.base
 below:=R.below
 fresh:=R.fresh
 still:=R.still
 grown:=R.grown
 kept:=R.kept }
def bl(S:au):Option Nat->AV->au
 |some d,v=>aF S d v
 |none,_=>S
def Rel.bl {P:Program} {w0:World} {n:Nat} {U:Nat→Prop} {g:Gh} {S:au} {H:aD} {a:Act} {w:World} (R:Rel P w0 n U g S H a w)
  (d:Option Nat) (v:AV) (c:Value) (hd:∀t,d=some t->t<n) (hv:RV g.Pr g.al w v c) (ho:∀t,d=some t->fp P w g (.slot t) v c):Rel P w0 n U g (bl S d v) H (a.put d c) w:=by
 cases d with
 |none=>exact R
 |some t=>exact R.put t v c (hd t rfl) hv (ho t rfl)
def Rel.weaken {P:Program} {w0:World} {n:Nat} {U:Nat→Prop} {g:Gh} {S:au} {H:aD} {a:Act} {w:World} (R:Rel P w0 n U g S H a w)
  (S':au) (h:∀t,t<n->¬U t->∀c,RV g.Pr g.al w (S t) c->fp P w g (.slot t) (S t) c->RV g.Pr g.al w (S' t) c/\fp P w g (.slot t) (S' t) c):Rel P w0 n U g S' H a w:={
 size:=R.size
 defers:=R.defers
 facts:=R.facts
 slot t ht hu:=(h t ht hu _ (R.slot t ht hu) (R.own t ht hu)).1
 own t ht hu:=(h t ht hu _ (R.slot t ht hu) (R.own t ht hu)).2
 box:=R.box
 kF:=R.kF
 kE:=R.kE
 inj:=R.inj
 base:=R.base
 below:=R.below
 fresh:=R.fresh
 still:=R.still
 grown:=R.grown
 kept:=R.kept }
def AV.ng:AV->Prop
 |.slice (.own _) _=>False
 |_=>True
instance(v:AV):Decidable v.ng:=by unfold AV.ng;split<;>infer_instance
def AV.rV(v:AV):v.bC.ng:=by
 cases v<;>try trivial
 rename_i o es
 cases o<;>trivial
def fp.ng{P:Program}{w w':World}{g g':Gh}{loc Ch:Loc}{v:AV}{c:Value}(h:fp P w g loc v c)(hn:v.ng):fp P w' g' Ch v c:=by
 cases v<;>try trivial
 rename_i o es
 cases o with
 |view=>trivial
 |nil=>trivial
 |own e=>simp[AV.ng]at hn
def Rel.Ja {P:Program} {w0:World} {n:Nat} {U:Nat→Prop} {g:Gh} {S:au} {H:aD} {a:Act} {w:World} (R:Rel P w0 n U g S H a w)
  (loc:Loc) (Ch:Option Loc) (hS:∀t,loc=.slot t->t<n->¬U t->(S t).ng)
  (hH:∀i j cs,loc=.cell i j->H i=some cs->∀h:j<cs.length,(cs[j]).ng):
  Rel P w0 n U { g with owner:=λb=>if g.owner b=some loc then Ch else g.owner b } S H a w:={
 size:=R.size
 defers:=R.defers
 facts:=R.facts
 slot:=R.slot
 own t ht hu:=by
  by_cases h:loc=.slot t
  .exact(R.own t ht hu).ng (hS t h ht hu)
  .refine(R.own t ht hu).cg rfl λb hb=>⟨rfl,rfl,?_⟩
   show(if g.owner b=some loc then Ch else g.owner b)=_;rw[if_neg (by rw[hb];intro e;exact h (aeE e).symm)];exact hb
 box i b hi:=by
  obtain⟨cs,vs,ty,h1,h2,h3,h4,h5,h6,h7,h8,h9⟩:=R.box i b hi;refine⟨cs,vs,ty,h1,h2,h3,h4,?_,h6,h7,?_,h9⟩
  .show(if g.owner b=some loc then Ch else g.owner b)=none;rw[h5];simp
  .intro j hj eX
   by_cases h:loc=.cell i j
   .exact(h8 j hj eX).ng (hH i j cs h h1 hj)
   .refine(h8 j hj eX).cg rfl λb hb=>⟨rfl,rfl,?_⟩
    show(if g.owner b=some loc then Ch else g.owner b)=_;rw[if_neg (by rw[hb];intro e;exact h (aeE e).symm)];exact hb
 kF:=R.kF
 kE:=R.kE
 inj:=R.inj
 base:=R.base
 below:=R.below
 fresh b hb:=by
  refine⟨(R.fresh b hb).1,?_⟩;show(if g.owner b=some loc then Ch else g.owner b)=none;rw[(R.fresh b hb).2];simp
 still:=R.still
 grown:=R.grown
 kept b o h:=by
  obtain⟨k1,k2,k3,k4,k5⟩:=R.kept b o h;refine⟨k1,k2,k3,?_,k5⟩;show(if g.owner b=some loc then Ch else g.owner b)=none
  rw[k4];simp }
def RV.lD {Pr:Nat→Nat→Prop} {al I5:Nat→Option Nat} {w:World} {v:AV} {c:Value} {d:Nat} (h:RV Pr al w v c) (hs:lD d v=false)
  (ha:∀i b,i≠d->al i=some b->I5 i=some b):RV Pr I5 w v c:=by
 cases h with
 |data v c h=>exact .data _ _ h
 |box i off b h=>exact .box i off b (ha i b (by simpa[Go.AL.lD]using hs) h)
 |func=>simp[Go.AL.lD]at hs
 |iH=>simp[Go.AL.lD]at hs
 |cT c=>exact .cT c
def RV.bt {Pr:Nat→Nat→Prop} {al I5:Nat→Option Nat} {w:World} {v:AV} {c:Value} (d:Nat) (h:RV Pr al w v c)
  (ha:∀i b,i≠d->al i=some b->I5 i=some b):RV Pr I5 w (bt d v) c:=by
 cases h with
 |data v c h=>
  have:Go.AL.bt d v=v:=by cases h<;>rfl
  rw[this];exact .data _ _ h
 |box i off b h=>
  simp only[Go.AL.bt];split
  .exact .cT _
  .rename_i hi;exact .box i off b (ha i b hi h)
 |func fn first cap vs us h1 h2 r1 r2=>
  simp only[Go.AL.bt];split
  .exact .cT _
  .rename_i hn;simp only[afo,not_or,afd,ae9]at hn;exact .func fn first cap vs us h1 h2 (λi h h'=>(r1 i h h').lD (by simpa using hn.1 _ (ad2 h)) ha) (λi h h'=>(r2 i h h').lD (by simpa using hn.2 _ (ad2 h)) ha)
 |iH=>exact .cT _
 |cT c=>exact .cT c
def EO(P:Program)(w:World)(g:Gh)(loc:Loc)(d:Nat)(v:AV)(c:Value)(h:fp P w g loc v c):fp P w g loc (bt d v) c:=by
 cases v<;>try exact h
 .simp only[bt];split<;>trivial
 .simp only[bt];split<;>trivial
def Rel.suspend {P:Program} {w0:World} {n:Nat} {U:Nat→Prop} {g:Gh} {S:au} {H:aD} {a:Act} {w:World} (R:Rel P w0 n U g S H a w)
  (d:Nat) (du:¬g.old.bx d) (v:AV) (cs:List AV):
  Rel P w0 n (λt=>U t\/t=d) { g with al:=aF g.al d none } (aF (λt=>bt d (S t)) d v) (aF H d (some cs)) a w:={
 size:=R.size
 defers:=R.defers
 facts p hp:=by
  have h:=(R.facts p hp).bt (I5:=aF g.al d none) d λi b hi h=>by rw[b_ _ _ hi];exact h
  rw[(g.old.ok p hp).2 d du]at h;exact h
 slot t ht hu:=by
  simp only[not_or]at hu;rw[b_ _ _ hu.2]
  refine(R.slot t ht hu.1).bt d λi b hi h=>?_
  show aF g.al d none i=some b;rw[b_ _ _ hi];exact h
 own t ht hu:=by
  simp only[not_or]at hu;rw[b_ _ _ hu.2];exact EO _ _ _ _ _ _ _ (R.own t ht hu.1)
 box i b hi:=by
  by_cases h:i=d
  .subst h;simp[aF]at hi
  .simp only[b_ _ _ h]at hi;obtain⟨jX,vs,ty,h1,rest⟩:=R.box i b hi;exact⟨jX,vs,ty,by rw[b_ _ _ h];exact h1,rest⟩
 kF i jX h hu:=by
  simp only[not_or]at hu;rw[b_ _ _ hu.2]at h;simp only[b_ _ _ hu.2];exact R.kF i jX h hu.1
 kE i h:=by
  show aF g.al d none i=none
  by_cases hi:i=d
  .subst hi;simp[aF]
  .rw[b_ _ _ hi];exact R.kE i (h.resolve_right hi)
 inj i j b h h':=by
  have e:∀k,(aF g.al d none) k=some b->g.al k=some b:=by
   intro k hk
   by_cases KB:k=d
   .subst KB;simp[aF]at hk
   .rwa [b_ _ _ KB]at hk
  exact R.inj i j b (e i h) (e j h')
 base:=R.base
 below:=R.below
 fresh:=R.fresh
 still:=R.still
 grown:=R.grown
 kept b o h:=by
  obtain⟨k1,k2,k3,k4,k5⟩:=R.kept b o h;refine⟨k1,k2,k3,k4,λi=>?_⟩;show aF g.al d none i≠some b
  by_cases hi:i=d
  .subst hi;simp[aF]
  .rw[b_ _ _ hi];exact k5 i }
def Rel.Ju {P:Program} {w0:World} {n:Nat} {U:Nat→Prop} {g:Gh} {S:au} {H:aD} {a:Act} {w:World} (R:Rel P w0 n U g S H a w)
  (d:Nat) (hU:U d) (hd:d<n) (cs:List AV) (vs:Array Value) (ty:TypeId) (hS:S d=.box d 0) (hH:H d=some cs) (hl:cs.length=vs.size)
  (hr:∀j (h:j<cs.length)(h':j<vs.size),RD g.Pr w cs[j] vs[j])
  (ho:∀j (h:j<cs.length)(h':j<vs.size),(cs[j]).ng/\fp P w g (.cell d j) cs[j] vs[j]) (h1:∀j (h:j<cs.length),(cs[j]).one=true):
  Rel P w0 n (λt=>U t/\t≠d) { g with al:=aF g.al d (some w.heap.size) } S H (a.put (some d) (.pointer (some ⟨w.heap.size,0,none⟩))) (w.alloc (.cells vs ty)):=by
 have hb:Below w.heap.size w (w.alloc (.cells vs ty)):=(afb _ _).alloc (aed _) _;have R':=R.kG hb
 have hle:g.base<=w.heap.size:=by rw[R.base];exact R.below.size
 have j9:∀i b,g.al i=some b->aF g.al d (some w.heap.size) i=some b:=by
  intro i b h;rw[b_ _ _ (by rintro rfl;rw[R.kE _ hU]at h;cases h)];exact h
 have hRD:∀{v:AV}{c:Value},RD g.Pr w v c->RD g.Pr (w.alloc (.cells vs ty)) v c:=λh=>h.mono (cC.jK (λb aN=>hb.block b aN) λ_ _ _ h=>h)
 refine{ size:=by simp[Act.put,R.size],defers:=R.defers,facts:=λp hp=>(R'.facts p hp).mono (cC.same λ_ _ _ h=>h) j9,slot:=?_,own:=?_,box:=?_,kF:=?_,kE:=?_,inj:=?_,base:=R.base,below:=R'.below,fresh:=R'.fresh,still:=R'.still,grown:=R'.grown,kept:=?_ }
 .intro t ht hu;rw[jF a d t _ (by rw[R.size];exact hd)]
  by_cases h:t=d
  .subst h;rw[if_pos rfl,hS];exact .box _ _ _ (by simp[aF])
  .rw[if_neg h];exact(R'.slot t ht (λVO=>hu ⟨VO,h⟩)).mono (cC.same λ_ _ _ h=>h) j9
 .intro t ht hu;rw[jF a d t _ (by rw[R.size];exact hd)]
  by_cases h:t=d
  .subst h;rw[hS];simp[fp]
  .rw[if_neg h]
   exact(R'.own t ht (λVO=>hu ⟨VO,h⟩)).cg rfl λb hb=>⟨rfl,rfl,hb⟩
 .intro i b hi
  by_cases h:i=d
  .subst h
   have mM:b=w.heap.size:=by simpa[aF]using hi.symm
   subst mM;refine⟨cs,vs,ty,hH,hle,ahl w _,(R.fresh _ (aed _)).1,(R.fresh _ (aed _)).2,hl,λj h h'=>hRD (hr j h h'),λj h h'=>(ho j h h').2.ng (ho j h h').1,h1⟩
  .simp only[b_ _ _ h]at hi;obtain⟨jX,mh,Dc,h1,h2,h3,h4,h5,h6,h7,h8,h9⟩:=R'.box i b hi;exact⟨jX,mh,Dc,h1,h2,h3,h4,h5,h6,h7,λj hj eX=>(h8 j hj eX).cg rfl λb hb=>⟨rfl,rfl,hb⟩,h9⟩
 .intro i jX h hu
  by_cases hi:i=d
  .subst hi;simp[aF]
  .simp only[b_ _ _ hi];exact R.kF i jX h (λVO=>hu ⟨VO,hi⟩)
 .intro i h;show aF g.al d (some w.heap.size) i=none;rw[b_ _ _ h.2];exact R.kE i h.1
 .intro i j b h h'
  have key:∀k,aF g.al d (some w.heap.size) k=some b->(k=d/\b=w.heap.size)\/(k≠d/\g.al k=some b):=by
   intro k hk
   by_cases KB:k=d
   .subst KB;exact .inl ⟨rfl,by simpa[aF]using hk.symm⟩
   .rw[b_ _ _ KB]at hk;exact .inr ⟨KB,hk⟩
  have aN:∀k,g.al k=some b->b<w.heap.size:=by
   intro k hk;obtain⟨_,_,_,_,_,h3,_⟩:=R.box k b hk;exact(aea.1 h3).1
  rcases key i h with⟨rfl,e⟩|⟨hi,h1⟩<;>rcases key j h' with⟨rfl,e'⟩|⟨hj,h2⟩
  .rfl
  .have:=aN j h2;omega
  .have:=aN i h1;omega
  .exact R.inj i j b h1 h2
 .intro b o h;obtain⟨k1,k2,k3,k4,k5⟩:=R'.kept b o h;refine⟨k1,k2,k3,k4,λi=>?_⟩;show aF g.al d (some w.heap.size) i≠some b
  by_cases hi:i=d
  .subst hi;rw[bX];have:=(aea.1 (R.kept b o h).2.1).1;intro e;have:=aeE e;omega
  .rw[b_ _ _ hi];exact k5 i
def Rel.Jz {P:Program} {w0:World} {n:Nat} {U:Nat→Prop} {g:Gh} {S:au} {H:aD} {a:Act} {w:World} (R:Rel P w0 n U g S H a w)
  (i b:Nat) (hi:g.al i=some b) (vs mh:Array Value) (ty:TypeId) (hh:w.heap[b]?=some (.cells vs ty (0,0))) (jX:List AV) (hl:jX.length=mh.size)
  (hr:∀j (h:j<jX.length)(h':j<mh.size),RD g.Pr w jX[j] mh[j])
  (ho:∀j (h:j<jX.length)(h':j<mh.size),fp P w g (.cell i j) jX[j] mh[j]) (Lp:∀j (h:j<jX.length),(jX[j]).one=true):
  Rel P w0 n U g S (aF H i (some jX)) a (w.setRow b mh):=by
 obtain⟨cs,T',ty0,h1,h2,h3,h4,h5,h6,h7,h8,h9⟩:=R.box i b hi
 have dR:∀b' k,g.Pr b' k->b'≠b:=by
  rintro b' k hp rfl;unfold Gh.Pr at hp;rw[h4]at hp;omega
 have gr:cC g.Pr g.Pr w (w.setRow b mh):={
  cell:=λb' k hp u hu=>⟨hp,by rw[afX (w:=w) (afm w b b' mh (dR b' k hp))];exact hu⟩
  map:=λb' hp es c hm=>⟨hp,by rw[afm w b b' mh (dR b' 0 hp)];exact hm⟩ }
 have dX:∀b' loc,g.owner b'=some loc->(w.setRow b mh).heap[b']?=w.heap[b']?/\g.hi b'=g.hi b'/\g.owner b'=some loc:=by
  intro b' loc iY;refine⟨afm w b b' mh ?_,rfl,iY⟩;rintro rfl;rw[h5]at iY;cases iY
 refine{ size:=R.size,defers:=R.defers,facts:=λp hp=>(R.facts p hp).mono gr λ_ _ h=>h,slot:=?_,own:=?_,box:=?_,kF:=?_,kE:=R.kE,inj:=R.inj,base:=R.base,below:=?_,fresh:=?_,still:=R.still.trans gr,grown:=by simpa using R.grown,kept:=?_ }
 .exact λt ht hu=>(R.slot t ht hu).mono gr λ_ _ h=>h
 .exact λt ht hu=>(R.own t ht hu).cg rfl λb' iY=>dX b' _ iY
 .intro k b' hk
  by_cases Di:k=i
  .subst Di
   have:b'=b:=by rw[hi]at hk;exact(aeE hk).symm
   subst this;exact⟨jX,mh,ty,bX _ _ _,h2,afV w b' vs mh ty (0,0) hh,h4,h5,hl,λj h h'=>(hr j h h').mono gr,λj h h'=>(ho j h h').cg rfl λb' iY=>dX b' _ iY,Lp⟩
  .obtain⟨c1,v1,t1,k1,k2,k3,k4,k5,k6,k7,k8,k9⟩:=R.box k b' hk
   have dR:b'≠b:=by rintro rfl;exact Di (R.inj k i b' hk hi)
   exact⟨c1,v1,t1,by rw[b_ _ _ Di];exact k1,k2,by rw[afm w b b' mh dR];exact k3,k4,k5,k6,λj h h'=>(k7 j h h').mono gr,λj h h'=>(k8 j h h').cg rfl λb' iY=>dX b' _ iY,k9⟩
 .intro k cs1 hk hu
  by_cases Di:k=i
  .subst Di;rw[hi];rfl
  .rw[b_ _ _ Di]at hk;exact R.kF k cs1 hk hu
 .exact R.below.trans ⟨rfl,rfl,rfl,ah7,λk hk=>afm w b k mh zo⟩
 .intro b' iY;exact R.fresh b' (by simpa using iY)
 .intro b' o h;obtain⟨k1,k2,k3,k4,k5⟩:=R.kept b' o h;refine⟨k1,?_,k3,k4,k5⟩;rw[afm w b b' mh (by rintro rfl;exact k5 i hi)];exact k2
inductive dU where
 |t (n:Nat)|c (v:AV)|f (n:Nat)|m (n:Nat) (Qt:List (TypeId×Nat))
def oW:Value->Option AV
 |.bool b=>some (.bool b)
 |.int k n=>some (.int k n)
 |.string s=>some (.str s.data.toList)
 |.slice none 0 0=>some (.slice .nil [])
 |.pointer none=>some .sh
 |.map none=>some (.map [] [])
 |.nilIface=>some .qF
 |.nilFunc=>some (.val .nilFunc)
 |_=>none
def jB:List Value->Option (List AV)
 |[]=>some []
 |v::vs=>match oW v,jB vs with
  |some x,some xs=>if x.storable then some (x::xs)else none
  |_,_=>none
def ev(S:au):dU->AV
 |.t n=>S n
 |.c v=>v
 |.f n=>.func (.func n) [] []
 |.m n Qt=>match S n with
  |.iface t v=>match Qt.lookup t with
   |some k=>.func (.func k) [v] []
   |none=>.cT
  |_=>.cT
inductive HR where
 |any|ref|box (r:Nat)
def HR.okB:HR->Nat->Bool
 |.any,_=>true
 |.ref,_=>false
 |.box r,i=>i==r
inductive fg where
 |mv (take:Bool) (x:dU)
 |pick (c a b:dU)
 |alloc (t:TypeId) (zero:List AV)
 |box (t:TypeId) (size:Nat) (x:dU)
 |build (zero:List AV) (parts:List (Nat×Nat×dU))
 |buildSlice (t e:TypeId) (size:Nat) (parts:List dU)
 |load (hr:HR) (agg:Bool) (size:Nat) (a:dU)
 |loadT (hr:HR) (a:dU)
 |store (hr:HR) (size:Nat) (a x:dU)
 |bin (op:BinOp) (x y:dU)
 |DD (neg:Bool) (x y:dU)
 |eqs (neg:Bool) (k:Nat) (x y:dU)
 |nJ (ag:Bool) (len size:Nat) (x i:dU)
 |Aw (x:dU)
 |pO (xs:List dU)
 |pV (len:Nat) (x i:dU)
 |lookup (k:Nat) (z:AV) (x i:dU)
 |not (x:dU)
 |conv (k:IntKind) (x:dU)
 |iface (t:TypeId) (x:dU)
 |F0 (fn:Fn) (first cap:List dU)
 |pR (x:dU) (lo hi:Option dU)
 |oR (size:Nat) (x:dU) (lo hi:Option dU)
 |qM (len:Nat) (x:dU)
 |fieldAddr (off:Nat) (x:dU)
 |indexAddr (size:Nat) (x i:dU)
 |pS (x i:dU)
 |extract (x:dU) (i:Nat)
 |AD (x:dU)
 |lK (x:dU)
 |isNil (neg:Bool) (x:dU)
 |empty (e:TypeId)
 |append (t e:TypeId) (size bytes:Nat) (x y:dU)
 |max (x y:dU)
 |min (x y:dU)
 |assert (t:TypeId) (zero:AV) (x:dU)
 |panic (x:dU)
 |call (f:Nat) (args:List dU)
 |ig (f:dU) (args:List dU)
 |other
structure aM where
 v:AV
 dm:Option Nat:=none
 hw:Option (Nat×List AV):=none
def aM.S(e:aM)(S:au)(dst:Option Nat):au:=
 bl (match e.dm with|some t=>aF S t (S t).bC|none=>S) dst e.v
def aM.H(e:aM)(H:aD):aD:=
 match e.hw with|some (i,cs)=>aF H i (some cs)|none=>H
def a_:AV:=.ea []
def bV(op:BinOp):AV->AV->Option AV
 |.int k a,.int k' b=>
  if k≠k' then none else
  match op with
  |.add=>some (.int k (k.wrap (a+b)))
  |.sub=>some (.int k (k.wrap (a-b)))
  |.mul=>some (.int k (k.wrap (a*b)))
  |.quo=>if b=0 then none else some (.int k (k.wrap (a.tdiv b)))
  |.rem=>if b=0 then none else some (.int k (a.tmod b))
  |.eql=>some (.bool (a==b))
  |.neq=>some (.bool (a !=b))
  |.lss=>some (.bool (decide (a<b)))
  |.leq=>some (.bool (decide (a<=b)))
  |.gtr=>some (.bool (decide (a>b)))
  |.geq=>some (.bool (decide (a>=b)))
  |_=>none
 |.str a,.str b=>
  match op with
  |.eql=>some (.bool (a==b))
  |.neq=>some (.bool (a !=b))
  |.add=>if a.length+b.length<1073741824 then some (.str (a++b))else none
  |_=>none
 |_,_=>none
def lv:List AV->Option (List Int)
 |[]=>some []
 |.int .i64 n::cs=>(lv cs).map (n::·)
 |_=>none
def bytesOf:List AV->Option (List UInt8)
 |[]=>some []
 |.int .u8 n::cs=>if 0<=n/\n<256 then(bytesOf cs).map (UInt8.ofNat n.toNat::·)else none
 |_=>none
def pM(key:List Int):List AV->List AV->Option (Option AV)
 |[],_=>some none
 |.agg c::ks,v::vs=>match lv c with
  |some m=>if m.length≠key.length then none else if key==m then some (some v)else pM key ks vs
  |none=>none
 |_,_=>none
def CX:AV->Bool
 |.func ..|.val .nilFunc=>true
 |_=>false
def aP(cs:List AV)(off:Nat)(vs:List AV):List AV:=cs.take off++vs++cs.drop (off+vs.length)
def cD(cells:List AV):List (Nat×Nat×AV)->Option (List AV)
 |[]=>some cells
 |(off,size,v)::rest=>if v.cells.length=size/\off+size<=cells.length/\v.storable=true then cD (aP cells off (v.bC.cells)) rest else none
def bu(agg:Bool)(size:Nat)(cs:List AV):Option AV:=
 if agg then(if size<=cs.length then some (.agg ((cs.take size).map AV.bC))else none)
 else(cs[0]?).map AV.bC
def bound(x:Option AV)(d:Nat):Option Int:=
 match x with
 |none=>some d
 |some (.int .i64 n)=>some n
 |_=>none
def AV.aZ:AV->List AV
 |.agg cs=>cs.map AV.bC
 |v=>[v]
def bj:dU->Option Nat
 |.t n=>some n
 |_=>none
def br(size:Nat)(es:List AV):Bool:=es.all λv=>v.storable&&v.cells.length==size
def ar(S:au)(H:aD):fg->Option aM
 |.mv take x=>if take then some { v:=ev S x,dm:=bj x }else some { v:=(ev S x).bC }
 |.pick c a b=>match ev S c with
  |.bool t=>some { v:=(if t then ev S a else ev S b).bC }
  |_=>none
 |.build zero parts=>(cD zero (parts.map λ(o,s,x)=>(o,s,ev S x))).map λcs=>{ v:=.agg cs }
 |.buildSlice _ e size parts=>
  if br size (parts.map (ev S))&&parts.length*size<=16777216 then some { v:=.slice (.own e) ((parts.map (ev S)).map AV.vw) }else none
 |.load hr agg size x=>match ev S x with
  |.box i off=>if hr.okB i then match H i with
   |some cs=>(bu agg size (cs.drop off)).map λv=>{ v:=v }
   |none=>none
   else none
  |.ref cs=>(bu agg size cs).map λv=>{ v:=v }
  |_=>none
 |.loadT hr x=>match ev S x with
  |.box i off=>if hr.okB i then match H i with
   |some cs=>match cs[off]? with
    |some v=>some { v:=v,hw:=some (i,cs.set off v.bC) }
    |none=>none
   |none=>none
   else none
  |_=>none
 |.store hr size x y=>match ev S x with
  |.box i off=>if hr.okB i then match H i with
   |some cs=>if (ev S y).cells.length=size∧off+size≤cs.length∧(ev S y).storable=true then
     some { v:=a_,dm:=bj y,hw:=some (i,aP cs off (ev S y).aZ) }else none
   |none=>none
   else none
  |_=>none
 |.bin op x y=>(bV op (ev S x) (ev S y)).map λv=>{ v:=v }
 |.DD neg x y=>match ev S x,ev S y with
  |.bool a,.bool b=>some { v:=.bool (if neg then a !=b else a==b) }
  |_,_=>none
 |.eqs neg k x y=>match ev S x,ev S y with
  |.agg xs,.agg ys=>match lv xs,lv ys with
   |some a,some b=>if a.length=k/\b.length=k then some { v:=.bool (if neg then a !=b else a==b) }else none
   |_,_=>none
  |_,_=>none
 |.nJ ag len size x i=>match ev S x,ev S i with
  |.agg cs,.int .i64 k=>if 0<=k/\k<len then(bu ag size (cs.drop (k.toNat*size))).map λv=>{ v:=v }else none
  |_,_=>none
 |.pO xs=>if(xs.map (ev S)).all CX then some { v:=.iH (xs.map (ev S)) }else none
 |.pV len x i=>match ev S x,ev S i with
  |.iH fs,.int .i64 k=>if 0≤k∧k < len then match fs[k.toNat]? with
    |some v=>if CX v then some { v:=v }else none
    |none=>none
   else none
  |_,_=>none
 |.Aw x=>match ev S x with
  |.slice _ es=>(bytesOf es).map λl=>{ v:=.str l }
  |_=>none
 |.lookup k z x i=>match ev S x,ev S i with
  |.map ks vs,.agg c=>match lv c with
   |some key=>if key.length=k then match pM key ks vs with
     |some (some v)=>some { v:=.ea [v.bC,.bool true] }
     |some none=>some { v:=.ea [z,.bool false] }
     |none=>none
    else none
   |none=>none
  |_,_=>none
 |.not x=>match ev S x with
  |.bool b=>some { v:=.bool !b }
  |_=>none
 |.conv k x=>match ev S x with
  |.int _ n=>some { v:=.int k (k.wrap n) }
  |_=>none
 |.iface t x=>if(ev S x).storable then some { v:=.iface t (ev S x).vw }else none
 |.F0 fn first cap=>some { v:=.func fn (first.map λx=>(ev S x).bC) (cap.map λx=>(ev S x).bC) }
 |.pR x lo hi=>match ev S x with
  |.str l=>match bound (lo.map (ev S)) 0,bound (hi.map (ev S)) l.length with
   |some a,some b=>if 0<=a/\a<=b/\b<=l.length then some { v:=.str ((l.take b.toNat).drop a.toNat) }else none
   |_,_=>none
  |_=>none
 |.qM len x=>match ev S x with
  |.ref cs=>if cs.length=len then some { v:=.slice .view cs }else none
  |_=>none
 |.oR size x lo hi=>match ev S x with
  |.slice _ es=>match bound (lo.map (ev S)) 0,bound (hi.map (ev S)) es.length with
   |some a,some b=>if 0<=a/\a<=b/\b<=es.length/\br size es=true then some { v:=.slice .view ((es.take b.toNat).drop a.toNat) }else none
   |_,_=>none
  |_=>none
 |.fieldAddr off x=>match ev S x with
  |.box i o=>some { v:=.box i (o+off) }
  |.ref cs=>some { v:=.ref (cs.drop off) }
  |_=>none
 |.indexAddr size x i=>match ev S x,ev S i with
  |.slice _ es,.int .i64 k=>if 0≤k then match es[k.toNat]? with
    |some v=>if v.cells.length=size then some { v:=.ref v.cells }else none
    |none=>none
   else none
  |_,_=>none
 |.pS x i=>match ev S x,ev S i with
  |.str l,.int .i64 k=>if 0≤k then match l[k.toNat]? with
    |some b=>some { v:=.int .u8 b.toNat }
    |none=>none
   else none
  |_,_=>none
 |.extract x i=>match ev S x with
  |.ea vs=>(vs[i]?).map λv=>{ v:=v.bC }
  |_=>none
 |.AD x=>match ev S x with
  |.str l=>some { v:=.int .i64 l.length }
  |_=>none
 |.lK x=>match ev S x with
  |.slice _ es=>some { v:=.int .i64 es.length }
  |_=>none
 |.isNil neg x=>match ev S x with
  |.slice _ es=>some { v:=if es.isEmpty then .mW else .bool neg }
  |_=>none
 |.empty _=>some { v:=.slice .nil [] }
 |.append _ e size _ x y=>match ev S x,ev S y with
  |.slice .nil [],.slice _ ys=>if br size ys&&ys.length<1048576 then some { v:=.slice (if ys.isEmpty then .nil else .own e) ys }else none
  |.slice (.own e') xs,.slice _ ys=>if e'=e/\(br size ys&&br size xs&&(xs.length+ys.length<1048576))=true then some { v:=.slice (.own e) (xs++ys),dm:=bj x }else none
  |_,_=>none
 |.max x y=>match ev S x,ev S y with
  |.int .i64 a,.int .i64 b=>some { v:=.int .i64 (max a b) }
  |_,_=>none
 |.min x y=>match ev S x,ev S y with
  |.int .i64 a,.int .i64 b=>some { v:=.int .i64 (min a b) }
  |_,_=>none
 |.assert t zero x=>match ev S x with
  |.iface t' v=>some { v:=if t'=t then .ea [v,.bool true]else .ea [zero,.bool false] }
  |.qF=>some { v:=.ea [zero,.bool false] }
  |_=>none
 |_=>none
def dU.tmps:dU->List Nat
 |.t n=>[n]
 |.m n _=>[n]
 |_=>[]
def fg.rd:fg->List Nat
 |.mv _ x|.qM _ x|.box _ _ x|.load _ _ _ x|.loadT _ x|.not x|.Aw x|.conv _ x|.iface _ x|.fieldAddr _ x|.extract x _|.AD x|.lK x|.isNil _ x|.assert _ _ x|.panic x=>x.tmps
 |.pick a b c=>a.tmps++b.tmps++c.tmps
 |.alloc ..|.other|.empty _=>[]
 |.build _ ps=>ps.flatMap λp=>p.2.2.tmps
 |.buildSlice _ _ _ ps=>ps.flatMap dU.tmps
 |.store _ _ a x|.bin _ a x|.DD _ a x|.eqs _ _ a x|.indexAddr _ a x|.pS a x|.nJ _ _ _ a x|.lookup _ _ a x|.append _ _ _ _ a x|.max a x|.min a x=>a.tmps++x.tmps
 |.pO xs=>xs.flatMap dU.tmps
 |.pV _ a x=>a.tmps++x.tmps
 |.F0 _ f c=>f.flatMap dU.tmps++c.flatMap dU.tmps
 |.pR x l h|.oR _ x l h=>x.tmps++(l.toList++h.toList).flatMap dU.tmps
 |.call _ C4=>C4.flatMap dU.tmps
 |.ig f C4=>f.tmps++C4.flatMap dU.tmps
def ep(n:Nat):Operand->Option dU
 |.tmp t=>if t<n then some (.t t)else none
 |.const c=>(oW c).map .c
 |.func f=>some (.f f)
 |.global _=>none
def qH(n:Nat):List Operand->Option (List dU)
 |[]=>some []
 |x::xs=>match ep n x,qH n xs with
  |some y,some ys=>some (y::ys)
  |_,_=>none
def nG(n:Nat):Option Operand->Option (Option dU)
 |none=>some none
 |some x=>(ep n x).map some
def Mp(Pr:Nat->Nat->Prop)(al:Nat->Option Nat)(w:World){c:Value}{v:AV}(h:oW c=some v):RV Pr al w v c:=by
 unfold oW at h
 split at h<;>first|cases h|skip
 .exact .data _ _ (.bool _)
 .exact .data _ _ (.int _ _)
 .rename_i s
  have:s=⟨s.data.toList.toArray⟩:=ah7
  rw(occs:=.pos [2]) [this];exact .data _ _ (.str _)
 .exact .data _ _ (.jm _)
 .exact .data _ _ .sh
 .exact .data _ _ .vg
 .exact .data _ _ .qF
 .exact .data _ _ (.val _ rfl)
def AY{c:Value}{v:AV}(h:oW c=some v)(P:Program)(w:World)(g:Gh)(loc:Loc):fp P w g loc v c:=by
 unfold oW at h
 split at h<;>first|cases h|skip
 all_goals first|trivial|exact⟨none,rfl⟩
def Cn{c:Value}{v:AV}(h:oW c=some v):v.ng:=by
 unfold oW at h
 split at h<;>first|cases h|skip
 all_goals trivial
section
variable{P:Program}{w0:World}{n:Nat}{U:Nat->Prop}{g:Gh}{S:au}{H:aD}{a:Act}{w:World}
def Rel.ev(R:Rel P w0 n U g S H a w){x:Operand}{y:dU}(h:ep n x=some y)(hu:∀t∈y.tmps,¬U t):RV g.Pr g.al w (ev S y) (a.eval x):=by
 cases x with
 |tmp t=>
  simp only[ep]at h;split at h
  .rename_i ht;cases h;exact R.slot t ht (hu t (by simp[dU.tmps]))
  .cases h
 |const c=>
  simp only[ep,aeo]at h;obtain⟨v,hv,rfl⟩:=h;exact Mp _ _ _ hv
 |global k=>cases h
 |func f=>
  cases h;exact .func _ [] [] #[] #[] rfl rfl (λi h=>by simp at h) (λi h=>by simp at h)
def Rel.Ma (R:Rel P w0 n U g S H a w):∀ {xs:List Operand} {ys:List dU},qH n xs=some ys→(∀ y∈ys,∀ t∈y.tmps,¬ U t) →
  ys.length=xs.length/\∀i (h:i<ys.length)(h':i<xs.length),RV g.Pr g.al w (AL.ev S ys[i]) (a.eval xs[i])
 |[],ys,h,_=>by cases h;exact⟨rfl,λi h=>by simp at h⟩
 |x::xs,ys,h,hu=>by
  simp only[qH]at h;split at h
  .rename_i y ys' h1 h2;cases h;obtain⟨e,hh⟩:=R.Ma h2 (λy hy=>hu y (by simp[hy]));refine⟨by simp[e],λi hi eJ=>?_⟩
   cases i with
   |zero=>exact R.ev h1 (hu y ah7)
   |succ i=>exact hh i (by simpa using hi) (by simpa using eJ)
  .cases h
def dZ(P:Program)(w0:World)(n:Nat)(U:Nat->Prop)(g:Gh)(S:au)(H:aD)(a:Act)(w:World)(o:Oper)(e:aM):Prop:=
 ∃c w' g',((execOp a.eval o).run P w=.ok (.value c) w'\/((execOp a.eval o).run P w=.ok .skip w'/\c=undef))/\
  g'.base=g.base/\g'.old=g.old/\Rel P w0 n U g' (e.S S o.dst) (e.H H) (a.put o.dst c) w'
def dZ.val (R:Rel P w0 n U g S H a w) {o:Oper} {v:AV} {c:Value} (hd:∀ t,o.dst=some t→t < n) (hr:(execOp a.eval o).run P w = .ok (.value c) w)
  (hv:RV g.Pr g.al w v c) (ho:∀loc,fp P w g loc v c):dZ P w0 n U g S H a w o { v:=v }:=
 ⟨c,w,g,.inl hr,rfl,rfl,R.bl o.dst v c hd hv λ_ _=>ho _⟩
def iO(v:AV)(c:Value)(loc:Loc):fp P w g loc v.bC c:=fp.bC
def MV (R:Rel P w0 n U g S H a w) {o:Oper} {x:Operand} {y:dU} {tk:Bool} {e:aM} (hd:∀ t,o.dst=some t→t < n∧¬ U t) (hx:ep n x=some y) (hu:∀ t∈y.tmps,¬ U t)
  (hr:(execOp a.eval o).run P w=.ok (.value (a.eval x)) w) (fq:∀t,o.dst=some t->t∉y.tmps) (he:ar S H (.mv tk y)=some e):dZ P w0 n U g S H a w o e:=by
 have hv:=R.ev hx hu
 cases tk with
 |false=>
  simp only[ar,aek,aeA,aeJ]at he;subst he
  exact dZ.val R (λt h=>(hd t h).1) hr hv.bC λloc=>iO _ _ _
 |true=>
  simp only[ar,aeH,aeJ]at he;subst he
  cases x with
  |const c=>
   simp only[ep,aeo]at hx;obtain⟨v,hc,rfl⟩:=hx
   exact dZ.val R (λt h=>(hd t h).1) hr hv λloc=>AY hc _ _ _ _
  |global k=>cases hx
  |func f=>cases hx;exact dZ.val R (λt h=>(hd t h).1) hr hv λloc=>trivial
  |tmp t=>
   simp only[ep]at hx;split at hx
   case isFalse=>cases hx
   rename_i ht;cases hx;have SV:=hu t (by simp[dU.tmps]);have ho:=R.own t ht SV
   have R1:Rel P w0 n U g (aF S t (S t).bC) H a w:=R.weaken _ λk hk huk c qy ho=>by
    by_cases h:k=t
    .subst h;rw[bX];exact⟨qy.bC,iO _ _ _⟩
    .rw[b_ _ _ h];exact⟨qy,ho⟩
   cases jb:o.dst with
   |none=>
    refine⟨_,w,g,.inl hr,rfl,rfl,?_⟩;simpa[aM.S,aM.H,bl,bj,jb,Act.put]using R1
   |some d=>
    have hdt:d≠t:=λh=>fq d jb (by simp[dU.tmps,h])
    have R2:=R1.Ja (.slot t) (some (.slot d)) (λk hk _ _=>by cases hk;rw[bX];exact AV.rV _) (λi j cs h=>by cases h);have R3:=R2.put d (S t) (a.tmps.getD t undef) (hd d jb).1 (R.slot t ht SV) ?own
    case own=>
     show fp P w _ (.slot d) (S t) (a.tmps.getD t undef);generalize S t=v at ho;generalize a.tmps.getD t undef=c at ho
     cases v<;>try trivial
     rename_i oo es
     cases oo with
     |view=>trivial
     |nil=>exact ho
     |own e=>
      obtain⟨i,xs,b,h1,h2,h3,h4,h5⟩:=ho;refine⟨i,xs,b,h1,h2,h3,?_,h5⟩;show(if g.owner b=some (.slot t)then some (.slot d)else g.owner b)=_;rw[if_pos h4]
    rw[<-jb]at R3;exact⟨_,w,{ g with owner:=λb=>if g.owner b=some (.slot t)then some (.slot d)else g.owner b },.inl hr,rfl,rfl,by rw[jb]at R3⊢;exact R3⟩
def ef:TypeDesc->Bool
 |.struct _|.array _ _=>true
 |_=>false
def tN {Pr:Nat→Nat→Prop} {al:Nat→Option Nat} {ty:TypeId} {i:TypeInfo} {qw:TypeDesc} (hi:P.info? ty=some i) (hu:P.underlying ty=some qw) {b off:Nat} {cs:List AV} {vs:Nat→Value} {v:AV}
  (hc:∀k,k<cs.length->w.cell? ⟨b,off+k,none⟩=some (vs k)) (h1:∀k (h:k<cs.length),(cs[k]).one=true) (hr:∀k (h:k<cs.length),RD Pr w cs[k] (vs k))
  (he:bu (ef qw) i.size cs=some v):
  ∃c,(loadVar ty ⟨b,off,none⟩).run P w=.ok c w/\RD Pr w v c/\v.bC=v:=by
 have lP:(isAgg ty).run P w=.ok (ef qw) w:=by
  unfold isAgg;rw[ael,aet hu w]
  cases qw<;>simp[ef]
 generalize ef qw=q at he lP
 cases q with
 |true=>
  simp only[bu,aeH]at he;split at he
  case isFalse=>cases he
  rename_i hl;cases he
  have ON:(loadCells ⟨b,off,none⟩ i.size).run P w=.ok ((List.range i.size).map vs).toArray w:=
   run_loadCells (P:=P) w _ _ vs λj hj=>by rw[afh];exact hc j zo
  refine⟨.agg ((List.range i.size).map vs).toArray,by simp[loadVar,ael,lP,sizeOf,typeInfo,hi,ON],?_,rfl⟩
  refine .agg _ _ (by simp;omega) (λk hk=>?_) λk hk dp=>?_
  .simp only[aef,aes]at hk;simp only[aep,ag0];rw[AV.pW];exact h1 k zo
  .simp only[aef,aes]at hk;have:=(hr k zo).bC;simpa using this
 |false=>
  simp only[bu,aek,aeA,aeo]at he;obtain⟨v0,Wt,rfl⟩:=he;obtain⟨h0,rfl⟩:=aey.1 Wt;have:=hc 0 h0;simp only[Nat.add_zero]at this;exact⟨vs 0,by simp[loadVar,ael,lP,this],(hr 0 h0).bC,AV.idem _⟩
set_option linter.unusedVariables false in
def EY (R:Rel P w0 n U g S H a w) {o:Oper} {hr:HR} {ty:TypeId} {i:TypeInfo} {qw:TypeDesc} {x:Operand} {y:dU} {e:aM} (ho:o.op = .load ty x) (hd:∀ t,o.dst=some t→t < n∧¬ U t)
  (hi:P.info? ty=some i) (gp:P.underlying ty=some qw) (hx:ep n x=some y) (hu:∀t∈y.tmps,¬U t)
  (he:ar S H (.load hr (ef qw) i.size y)=some e):dZ P w0 n U g S H a w o e:=by
 have hv:=R.ev hx hu
 have fin:∀{v:AV}{b off:Nat},a.eval x=.pointer (some ⟨b,off,none⟩)->(∃c,(loadVar ty ⟨b,off,none⟩).run P w=.ok c w/\RD g.Pr w v c/\v.bC=v)->dZ P w0 n U g S H a w o { v:=v }:=by
  rintro v b off hx ⟨c,h1,h2,h3⟩
  refine dZ.val R (λt h=>(hd t h).1) (c:=c) ?_ (.data _ _ h2) λloc=>by rw[<-h3];exact iO _ _ _
  unfold execOp;simp[ho,hx,Instr.loadAt,Instr.sureAddr,h1]
 simp only[ar]at he;generalize tI:AL.ev S y=q at he hv;generalize nu:a.eval x=c at hv fin
 cases hv with
 |box j off b j9=>
  simp only at he;split at he
  case isFalse=>cases he
  obtain⟨cs,vs,Dc,k1,k2,k3,k4,k5,k6,k7,k8,k9⟩:=R.box j b j9;simp only[k1,aeo]at he;obtain⟨v,hv,rfl⟩:=he;refine fin rfl (tN (Pr:=g.Pr) (al:=g.al) hi gp (vs:=λk=>vs.getD (off+k) undef) (λk hk=>?_) (λk hk=>?_) (λk hk=>?_) hv)
  .simp only[aeM]at hk
   have:off+k<vs.size:=zo
   simp[World.cell?,k3,this]
  .simp only[aeM]at hk;simp only[afw];exact k9 (off+k) zo
  .simp only[aeM]at hk;simp only[afw];have hh:=k7 (off+k) zo zo
   have:off+k<vs.size:=zo
   simpa[this]using hh
 |data v c h=>
  cases h<;>simp only at he<;>try cases he
  rename_i cs b off vs h1 hc hr;simp only[aeo]at he;obtain⟨v,hv,rfl⟩:=he;exact fin rfl (tN (Pr:=g.Pr) (al:=g.al) hi gp (vs:=vs) (λk hk=>(hc k hk).2) h1 hr hv)
 |func=>cases he
 |iH=>cases he
 |cT c=>cases he
end
section
variable{P:Program}{w0:World}{n:Nat}{U:Nat->Prop}{g:Gh}{S:au}{H:aD}{a:Act}{w:World}
def Pp (R:Rel P w0 n U g S H a w) {o:Oper} {x x1 x2:Operand} {y y1 y2:dU} {e:aM} (ho:o.op = .pick x x1 x2) (hd:∀ t,o.dst=some t→t < n∧¬ U t)
  (hx:ep n x=some y) (ph:ep n x1=some y1) (nx:ep n x2=some y2) (hu:∀t∈y.tmps,¬U t) (qS:∀t∈y1.tmps,¬U t) (q':∀t∈y2.tmps,¬U t)
  (he:ar S H (.pick y y1 y2)=some e):dZ P w0 n U g S H a w o e:=by
 have hv:=R.ev hx hu;have gm:=R.ev ph qS;have fM:=R.ev nx q';simp only[ar]at he;generalize tI:AL.ev S y=q at he hv;generalize nu:a.eval x=c at hv
 cases hv<;>(try cases he;done)
 rename_i h
 cases h<;>simp only at he<;>try cases he
 rename_i b
 refine dZ.val R (λt h=>(hd t h).1) (c:=if b then a.eval x1 else a.eval x2) ?_ ?_ λloc=>iO _ _ _
 .simp[execOp,ho,nu,asBool]
 .cases b<;>simp only[aek,aeH,aeA]
  .exact fM.bC
  .exact gm.bC
def RB (R:Rel P w0 n U g S H a w) {o:Oper} {t:TypeId} {x:Operand} {y:dU} {e:aM} (ho:o.op = .unOp .not t x) (hd:∀ t,o.dst=some t→t < n∧¬ U t)
  (hx:ep n x=some y) (hu:∀t∈y.tmps,¬U t) (he:ar S H (.not y)=some e):dZ P w0 n U g S H a w o e:=by
 have hv:=R.ev hx hu;simp only[ar]at he;generalize tI:AL.ev S y=q at he hv;generalize nu:a.eval x=c at hv
 cases hv<;>(try cases he;done)
 rename_i h
 cases h<;>simp only at he<;>try cases he
 rename_i b
 refine dZ.val R (λt h=>(hd t h).1) (c:=.bool !b) ?_ (.data _ _ (.bool _)) λloc=>trivial
 simp[execOp,ho,nu,Op.unary]
def O8:Value->Bool
 |.nilIface|.agg _=>false
 |_=>true
def iK (op:BinOp) (t:TypeId) (x y:Operand) (c d:Value) (h:O8 c=true) :
  (eqGuard op t x y c d).run P w=.ok () w:=by
 unfold eqGuard
 cases op<;>(try rfl)<;>cases c<;>first|rfl|cases h
def G5 (R:Rel P w0 n U g S H a w) {o:Oper} {op:BinOp} {t t':TypeId} {x1 x2:Operand} {y1 y2:dU} {e:aM} (ho:o.op = .binOp op t x1 x2 t') (hd:∀ t,o.dst=some t→t < n∧¬ U t)
  (ph:ep n x1=some y1) (nx:ep n x2=some y2) (qS:∀t∈y1.tmps,¬U t) (q':∀t∈y2.tmps,¬U t)
  (he:ar S H (.bin op y1 y2)=some e):dZ P w0 n U g S H a w o e:=by
 have gm:=R.ev ph qS;have fM:=R.ev nx q';simp only[ar,aeo]at he;obtain⟨v,hb,rfl⟩:=he;generalize AL.ev S y1=q1 at hb gm;generalize AL.ev S y2=q2 at hb fM
 have fin:∀c,(eqGuard op t x1 x2 (a.eval x1) (a.eval x2)).run P w=.ok () w->(binOp op t (a.eval x1) (a.eval x2)).run P w=.ok c w->RD g.Pr w v c->(∀loc,fp P w g loc v c)->dZ P w0 n U g S H a w o { v:=v }:=by
  intro c h0 h1 h2 h3;refine dZ.val R (λt h=>(hd t h).1) (c:=c) ?_ (.data _ _ h2) h3;simp[execOp,ho,h0,h1]
 generalize a.eval x1=c1 at gm fin;generalize a.eval x2=c2 at fM fin;unfold bV at hb;split at hb
 .rename_i k p k' q;cases gm;rename_i gm;cases gm;cases fM;rename_i fM;cases fM;split at hb
  .cases hb
  .rename_i hk
   have hk:k=k':=by simpa using hk
   subst hk;have hg:=iK (P:=P) (w:=w) op t x1 x2 (.int k p) (.int k q) rfl
   split at hb<;>(try cases hb;done)<;>(try (split at hb;· cases hb))<;>cases hb
   case h_4.isFalse.refl h=>exact fin _ hg (by simp[binOp,Op.intDiv,h]) (.int _ _) λ_=>trivial
   case h_5.isFalse.refl h=>exact fin _ hg (by simp[binOp,Op.intDiv,h]) (.int _ _) λ_=>trivial
   case h_1.refl=>exact fin (.int k (k.wrap (p+q))) hg (by simp[binOp,Op.intArith]) (.int _ _) λ_=>trivial
   case h_2.refl=>exact fin (.int k (k.wrap (p-q))) hg (by simp[binOp,Op.intArith]) (.int _ _) λ_=>trivial
   case h_3.refl=>exact fin (.int k (k.wrap (p*q))) hg (by simp[binOp,Op.intArith]) (.int _ _) λ_=>trivial
   case h_6.refl=>exact fin (.bool (p==q)) hg (by simp[binOp,Op.intCmp]) (.bool _) λ_=>trivial
   case h_7.refl=>exact fin (.bool (p !=q)) hg (by simp[binOp,Op.intCmp]) (.bool _) λ_=>trivial
   all_goals exact fin (.bool _) hg (by simp[binOp,Op.intCmp]) (.bool _) λ_=>trivial
 .rename_i p q;cases gm;rename_i gm;cases gm;cases fM;rename_i fM;cases fM;have hg:=iK (P:=P) (w:=w) op t x1 x2 (.string ⟨p.toArray⟩) (.string ⟨q.toArray⟩) rfl
  split at hb<;>(try cases hb;done)
  .cases hb;exact fin (.bool (p==q)) hg (by simp[binOp,Op.stringOp]) (.bool _) λ_=>trivial
  .cases hb;exact fin (.bool (p !=q)) hg (by simp[binOp,Op.stringOp,bne]) (.bool _) λ_=>trivial
  .split at hb
   case isFalse=>cases hb
   rename_i hl;cases hb
   refine fin (.string ⟨(p++q).toArray⟩) hg ?_ (.str _) λ_=>trivial
   rw[binOp_string_add,run_string_add_sum w _ _ (by show p.length+q.length<=_;omega),ByteArray.mk_append_mk]
 .cases hb
def G1 (R:Rel P w0 n U g S H a w) {o:Oper} {neg:Bool} {t t':TypeId} {x1 x2:Operand} {y1 y2:dU} {e:aM} (ho:o.op = .binOp (if neg then .neq else .eql) t x1 x2 t') (hd:∀ t,o.dst=some t→t < n∧¬ U t)
  (ht:P.underlying t=some .bool) (ph:ep n x1=some y1) (nx:ep n x2=some y2) (qS:∀t∈y1.tmps,¬U t) (q':∀t∈y2.tmps,¬U t)
  (he:ar S H (.DD neg y1 y2)=some e):dZ P w0 n U g S H a w o e:=by
 have gm:=R.ev ph qS;have fM:=R.ev nx q';simp only[ar]at he;generalize AL.ev S y1=q1 at he gm;generalize AL.ev S y2=q2 at he fM;generalize lE:a.eval x1=c1 at gm;generalize j6:a.eval x2=c2 at fM;split at he
 case h_2=>cases he
 rename_i p q;cases gm;rename_i gm;cases gm;cases fM;rename_i fM;cases fM;cases he;have hg:=iK (P:=P) (w:=w) (if neg then .neq else .eql) t x1 x2 (.bool p) (.bool q) rfl;have hE:(Op.equal t (.bool p) (.bool q)).run P w=.ok (p==q) w:=run_equalIn_bool' w _ t p q ht
 refine dZ.val R (λt h=>(hd t h).1) (c:=.bool (if neg then p !=q else p==q)) ?_ (.data _ _ (.bool _)) λ_=>trivial
 cases neg
 .simp only[aek,aeA]at ho hg⊢;simp[execOp,ho,lE,j6,hg,binOp,hE]
 .simp only[aeH]at ho hg⊢;simp[execOp,ho,lE,j6,hg,binOp,hE,bne]
def Ps (R:Rel P w0 n U g S H a w) {o:Oper} {s d:TypeId} {ds:TypeDesc} {k:IntKind} {x:Operand} {y:dU} {e:aM} (ho:o.op = .convert s d x) (hd:∀ t,o.dst=some t→t < n∧¬ U t)
  (hs:P.underlying s=some ds) (hk:P.underlying d=some (.int k)) (hx:ep n x=some y) (hu:∀t∈y.tmps,¬U t) (he:ar S H (.conv k y)=some e):dZ P w0 n U g S H a w o e:=by
 have hv:=R.ev hx hu;simp only[ar]at he;generalize tI:AL.ev S y=q at he hv;generalize nu:a.eval x=c at hv
 cases hv<;>(try cases he;done)
 rename_i h
 cases h<;>simp only at he<;>try cases he
 rename_i k' m
 refine dZ.val R (λt h=>(hd t h).1) (c:=.int k (k.wrap m)) ?_ (.data _ _ (.int _ _)) λloc=>trivial
 simp[execOp,ho,nu,convert,aet hs,aet hk,Conv.intToInt]
def LA (R:Rel P w0 n U g S H a w) {o:Oper} {t:TypeId} {dt:TypeDesc} {x:Operand} {y:dU} {e:aM} (ho:o.op = .makeInterface t x) (hd:∀ t,o.dst=some t→t < n∧¬ U t)
  (ht:P.underlying t=some dt) (DB:∀ms,dt≠.interface ms) (hx:ep n x=some y) (hu:∀t∈y.tmps,¬U t) (he:ar S H (.iface t y)=some e):dZ P w0 n U g S H a w o e:=by
 have hv:=R.ev hx hu;simp only[ar]at he;split at he
 case isFalse=>cases he
 rename_i eB;cases he
 refine dZ.val R (λt h=>(hd t h).1) (c:=.iface t (a.eval x)) ?_ (.data _ _ (.iface _ _ _ (hv.eP (AV.kM eB)).vw)) λloc=>trivial
 simp only[execOp,ho,Instr.makeInterface,ael,aet ht,Result.andThen_ok]
 cases dt<;>first|rfl|exact absurd rfl (DB _)
def Df (R:Rel P w0 n U g S H a w) {o:Oper} {s:TypeId} {fs:Array Field} {f:Field} {i:TypeInfo} {j:Nat} {x:Operand} {y:dU} {e:aM} (ho:o.op = .fieldAddr s x j) (hd:∀ t,o.dst=some t→t < n∧¬ U t)
  (hs:P.underlying s=some (.struct fs)) (hf:fs[j]?=some f) (hi:P.info? f.type=some i) (hz:i.size≠0) (hx:ep n x=some y) (hu:∀t∈y.tmps,¬U t)
  (he:ar S H (.fieldAddr f.offset y)=some e):dZ P w0 n U g S H a w o e:=by
 have hv:=R.ev hx hu;simp only[ar]at he;generalize tI:AL.ev S y=q at he hv;generalize nu:a.eval x=c at hv
 have run:∀b off,c=.pointer (some ⟨b,off,none⟩)->(execOp a.eval o).run P w=.ok (.value (.pointer (some ⟨b,off+f.offset,none⟩))) w:=by
  rintro b off rfl;simp[execOp,ho,nu,Instr.fieldAt,aet hs,hf,Instr.sureAddr,fieldPlace,sizeOf,typeInfo,hi,hz,afh]
 cases hv with
 |box k off b j9=>
  cases he
  exact dZ.val R (λt h=>(hd t h).1) (run _ _ rfl) (.box _ _ _ j9) λ_=>trivial
 |data v c h=>
  cases h<;>simp only at he<;>try cases he
  rename_i cs b off vs h1 hc hr
  refine dZ.val R (λt h=>(hd t h).1) (run _ _ rfl) (.data _ _ (.ref _ _ _ (λk=>vs (f.offset+k)) (λk hk=>?_) (λk hk=>?_) λk hk=>?_)) λ_=>trivial
  .simp only[aeM]at hk;simp only[afw];exact h1 _ zo
  .simp only[aeM]at hk;have:=hc (f.offset+k) zo;rwa [show off+f.offset+k=off+(f.offset+k) by omega]
  .simp only[aeM]at hk;simp only[afw];exact hr _ zo
 |func=>cases he
 |iH=>cases he
 |cT c=>cases he
def C_ (R:Rel P w0 n U g S H a w) {o:Oper} {s el:TypeId} {i:TypeInfo} {x1 x2:Operand} {y1 y2:dU} {e:aM} (ho:o.op = .indexAddr s x1 x2) (hd:∀ t,o.dst=some t→t < n∧¬ U t)
  (hs:P.underlying s=some (.slice el)) (hi:P.info? el=some i) (ph:ep n x1=some y1) (nx:ep n x2=some y2) (qS:∀t∈y1.tmps,¬U t) (q':∀t∈y2.tmps,¬U t)
  (he:ar S H (.indexAddr i.size y1 y2)=some e):dZ P w0 n U g S H a w o e:=by
 have gm:=R.ev ph qS;have fM:=R.ev nx q';simp only[ar]at he;generalize AL.ev S y1=q1 at he gm;generalize AL.ev S y2=q2 at he fM;generalize lE:a.eval x1=c1 at gm;generalize j6:a.eval x2=c2 at fM;split at he
 case h_2=>cases he
 rename_i oo es k;cases fM;rename_i fM;cases fM;split at he
 case isFalse=>cases he
 rename_i hk;split at he
 case h_2=>cases he
 rename_i v hv;split at he
 case isFalse=>cases he
 rename_i cM;cases he;obtain⟨aN,rfl⟩:=aey.1 hv;cases gm;rename_i gm
 cases gm with
 |jm=>simp at aN
 |kj=>simp at aN
 |slice _ _ b off cap size cs gq vC nO h1 hc hr=>
  have hss:size=i.size:=by rw[<-nO _ aN];exact cM
  subst hss
  have jW:k<(es.length:Int):=zo
  have oC:∀q,q<(es[k.toNat]).cells.length->k.toNat*i.size+q<es.length*i.size:=by
   intro q hq;rw[cM]at hq
   calc k.toNat*i.size+q<k.toNat*i.size+i.size:=by omega
    _=(k.toNat+1)*i.size:=by rw[ahA]
    _<=es.length*i.size:=afy _ zo
  refine dZ.val R (λt h=>(hd t h).1) (c:=.pointer (some ⟨b,off+k.toNat*i.size,none⟩)) ?_ (.data _ _ (.ref _ _ _ (λq=>cs (k.toNat*i.size+q)) (λq hq=>h1 _ aN q hq) (λq hq=>?_) λq hq=>hr _ aN q hq)) λ_=>trivial
  .simp[execOp,ho,lE,j6,Instr.indexAt,asIntOf,aet hs,hk,jW,sizeOf,typeInfo,hi,afh]
  .have:=hc (k.toNat*i.size+q) (oC q hq);rwa [<-agG]at this
def Jg (R:Rel P w0 n U g S H a w) {o:Oper} {s:TypeId} {x1 x2:Operand} {y1 y2:dU} {e:aM} (ho:o.op = .index s x1 x2) (hd:∀ t,o.dst=some t→t < n∧¬ U t)
  (hs:P.underlying s=some .string) (ph:ep n x1=some y1) (nx:ep n x2=some y2) (qS:∀t∈y1.tmps,¬U t) (q':∀t∈y2.tmps,¬U t)
  (he:ar S H (.pS y1 y2)=some e):dZ P w0 n U g S H a w o e:=by
 have gm:=R.ev ph qS;have fM:=R.ev nx q';simp only[ar]at he;generalize AL.ev S y1=q1 at he gm;generalize AL.ev S y2=q2 at he fM;generalize lE:a.eval x1=c1 at gm;generalize j6:a.eval x2=c2 at fM;split at he
 case h_2=>cases he
 rename_i l k;cases fM;rename_i fM;cases fM;split at he
 case isFalse=>cases he
 rename_i hk;split at he
 case h_2=>cases he
 rename_i v hv;cases he;cases gm;rename_i gm;cases gm
 have hb:(⟨l.toArray⟩:ByteArray)[k.toNat]?=some v:=by
  obtain⟨aN,rfl⟩:=aey.1 hv;rw[ByteArray.getElem?_lt' _ _ (by simpa[ByteArray.size]using aN)]
  rfl
 refine dZ.val R (λt h=>(hd t h).1) (c:=.int .u8 v.toNat) ?_ (.data _ _ (.int _ _)) λ_=>trivial
 simp[execOp,ho,lE,j6,Instr.index,asIntOf,aet hs,hk,hb]
def F4 (R:Rel P w0 n U g S H a w) {o:Oper} {j:Nat} {x:Operand} {y:dU} {e:aM} (ho:o.op = .extract x j) (hd:∀ t,o.dst=some t→t < n∧¬ U t)
  (hx:ep n x=some y) (hu:∀t∈y.tmps,¬U t) (he:ar S H (.extract y j)=some e):dZ P w0 n U g S H a w o e:=by
 have hv:=R.ev hx hu;simp only[ar]at he;generalize tI:AL.ev S y=q at he hv;generalize nu:a.eval x=c at hv
 cases hv<;>(try cases he;done)
 rename_i h
 cases h<;>simp only at he<;>try cases he
 rename_i cs vs hl hr;simp only[aeo]at he;obtain⟨v,hv,rfl⟩:=he;obtain⟨aN,rfl⟩:=aey.1 hv
 have od:j<vs.size:=zo
 refine dZ.val R (λt h=>(hd t h).1) (c:=vs[j]) ?_ (.data _ _ (hr j aN od).bC) λloc=>iO _ _ _
 simp[execOp,ho,nu,Instr.extract,od]
def G3 (R:Rel P w0 n U g S H a w) {o:Oper} {cl:Call} {s:TypeId} {ds:TypeDesc} {x:Operand} {y:dU} {e:aM} (ho:o.op = .call cl) (lL:cl.callee = .builtin .len) (Dd:cl.args = #[x]) (FJ:cl.argTypes = #[s])
  (hd:∀t,o.dst=some t->t<n/\¬U t) (hs:P.underlying s=some ds) (hx:ep n x=some y) (hu:∀t∈y.tmps,¬U t)
  (he:(ds=.string/\ar S H (.AD y)=some e)\/((∃el,ds=.slice el)/\ar S H (.lK y)=some e)):dZ P w0 n U g S H a w o e:=by
 have hv:=R.ev hx hu;simp only[ar]at he;generalize tI:AL.ev S y=q at he hv;generalize nu:a.eval x=c at hv
 have fin:∀(m:Nat),(Builtin.len_ #[s] o.type #[c]).run P w=.ok (.int .i64 m) w->dZ P w0 n U g S H a w o { v:=.int .i64 m }:=by
  intro m hm
  refine dZ.val R (λt h=>(hd t h).1) (c:=.int .i64 m) ?_ (.data _ _ (.int _ _)) λ_=>trivial
  unfold execOp;simp[ho,lL,Dd,FJ,resolve,invoke,builtin,nu,hm]
 rcases he with⟨rfl,he⟩|⟨⟨el,rfl⟩,he⟩
 .cases hv<;>(try cases he;done)
  rename_i h
  cases h<;>simp only at he<;>try cases he
  exact fin _ (by simp[Builtin.len_,aet hs,goInt];rfl)
 .cases hv<;>(try cases he;done)
  rename_i h
  cases h<;>simp only at he<;>try cases he
  .exact fin 0 (by simp[Builtin.len_,aet hs,goInt])
  .exact fin 0 (by simp[Builtin.len_,aet hs,goInt])
  .exact fin _ (by simp[Builtin.len_,aet hs,goInt])
def Ab (R:Rel P w0 n U g S H a w) {o:Oper} {cl:Call} {x1 x2:Operand} {y1 y2:dU} {e:aM} (ho:o.op = .call cl) (Dd:cl.args = #[x1,x2])
  (hd:∀t,o.dst=some t->t<n/\¬U t) (ph:ep n x1=some y1) (nx:ep n x2=some y2) (qS:∀t∈y1.tmps,¬U t) (q':∀t∈y2.tmps,¬U t)
  (he:(cl.callee=.builtin .max/\ar S H (.max y1 y2)=some e)\/(cl.callee=.builtin .min/\ar S H (.min y1 y2)=some e)):dZ P w0 n U g S H a w o e:=by
 have gm:=R.ev ph qS;have fM:=R.ev nx q';simp only[ar]at he;generalize AL.ev S y1=q1 at he gm;generalize AL.ev S y2=q2 at he fM;generalize lE:a.eval x1=c1 at gm;generalize j6:a.eval x2=c2 at fM
 rcases he with⟨lL,he⟩|⟨lL,he⟩
 all_goals
  split at he
  case h_2=>cases he
  rename_i p q;cases gm;rename_i gm;cases gm;cases fM;rename_i fM;cases fM;cases he
 .refine dZ.val R (λt h=>(hd t h).1) (c:=.int .i64 (max p q)) ?_ (.data _ _ (.int _ _)) λ_=>trivial
  have:(if q>p then q else p)=max p q:=by split<;>omega
  simp[execOp,ho,lL,Dd,resolve,invoke,builtin,lE,j6,Builtin.max_,Builtin.max2,this]
 .refine dZ.val R (λt h=>(hd t h).1) (c:=.int .i64 (min p q)) ?_ (.data _ _ (.int _ _)) λ_=>trivial
  have:(if q<p then q else p)=min p q:=by split<;>omega
  simp[execOp,ho,lL,Dd,resolve,invoke,builtin,lE,j6,Builtin.min_,Builtin.min2,this]
end
def qv(Pr:Nat->Nat->Prop)(w:World)(cs:List AV)(vs:Array Value):Prop:=
 cs.length=vs.size/\(∀i (h:i<cs.length)(h':i<vs.size),RD Pr w cs[i] vs[i])/\∀i (h:i<cs.length),(cs[i]).one=true
def RD.WT{Pr:Nat->Nat->Prop}{w:World}{v:AV}{c:Value}(h:RD Pr w v c)(hs:v.storable=true):qv Pr w v.cells c.cells:=
 ⟨h.cells.1,h.cells.2,h.cells_one hs⟩
def AV.xW{v:AV}:v.bC.storable=v.storable:=by
 cases v<;>try rfl
 rename_i o es;cases o<;>rfl
def AV.Az{v:AV}:v.bC.cells.length=v.cells.length:=by
 cases v<;>try rfl
 rename_i o es;cases o<;>rfl
def AV.Ii{v:AV}:v.vw.storable=v.storable:=by cases v<;>rfl
def AV.Bq{v:AV}:v.vw.cells.length=v.cells.length:=by cases v<;>simp[AV.vw,AV.dE,AV.cells]
def jg (Pr:Nat→Nat→Prop) (w:World):∀ {vs:List Value} {cs:List AV},jB vs=some cs→qv Pr w cs vs.toArray∧(∀ v∈cs,v.ng) ∧
  ∀(P:Program)(g:Gh)(f:Nat->Loc) i (h:i<cs.length)(h':i<vs.length),fp P w g (f i) cs[i] vs[i]
 |[],cs,h=>by cases h;exact⟨⟨rfl,λi h=>by simp at h,λi h=>by simp at h⟩,λv h=>by simp at h,λP g f i h=>by simp at h⟩
 |v::vs,cs,h=>by
  simp only[jB]at h;split at h
  .rename_i x xs hx rE;split at h
   case isFalse=>cases h
   rename_i eB;cases h;obtain⟨⟨h1,h2,h3⟩,h4,h5⟩:=jg Pr w rE;have hd:RD Pr w x v:=(Mp Pr (λ_=>none) w hx).eP (AV.kM eB);refine⟨⟨by simp at h1⊢;exact h1,λi hi eJ=>?_,λi hi=>?_⟩,λy hy=>?_,λP g f i hi eJ=>?_⟩
   .cases i with
    |zero=>exact hd
    |succ i=>exact h2 i (by simpa using hi) (by simpa using eJ)
   .cases i with
    |zero=>
     show x.one=true;unfold oW at hx
     split at hx<;>first|cases hx|skip
     all_goals rfl
    |succ i=>exact h3 i (by simpa using hi)
   .simp at hy;rcases hy with rfl|hy
    .exact Cn hx
    .exact h4 y hy
   .cases i with
    |zero=>exact AY hx _ _ _ _
    |succ i=>exact h5 P g (λi=>f (i+1)) i (by simpa using hi) (by simpa using eJ)
  .cases h
def D_{cs vs:List AV}{off:Nat}(h:off+vs.length<=cs.length):(aP cs off vs).length=cs.length:=by
 simp[aP];omega
def uP {cs vs:List AV} {off:Nat} (h:off+vs.length≤cs.length) (i:Nat) :
  (aP cs off vs)[i]?=if off<=i/\i<off+vs.length then vs[i-off]? else cs[i]?:=by
 unfold aP
 by_cases h1:i<off
 .rw[if_neg zo,aeU,afc (by simp;omega)];simp[h1]
 .by_cases h2:i<off+vs.length
  .rw[if_pos ⟨zo,h2⟩,afc (by simp;omega),afp (by simp;omega)]
   congr 1
   simp;omega
  .rw[if_neg zo,afp (by simp;omega)];simp only[agr]
   congr 1
   simp;omega
def qv.get{Pr:Nat->Nat->Prop}{w:World}{cs:List AV}{vs:Array Value}(h:qv Pr w cs vs){i:Nat}{v:AV}{c:Value}(hv:cs[i]?=some v)(hc:vs[i]?=some c):RD Pr w v c:=by
 obtain⟨h1,rfl⟩:=aey.1 hv;obtain⟨h2,rfl⟩:=aea.1 hc;exact h.2.1 i h1 h2
def qv.one{Pr:Nat->Nat->Prop}{w:World}{cs:List AV}{vs:Array Value}(h:qv Pr w cs vs){i:Nat}{v:AV}(hv:cs[i]?=some v):v.one=true:=by
 obtain⟨h1,rfl⟩:=aey.1 hv;exact h.2.2 i h1
def qv.mk'{Pr:Nat->Nat->Prop}{w:World}{cs:List AV}{vs:Array Value}(h:cs.length=vs.size)(hr:∀(i:Nat)(v:AV)(c:Value),cs[i]?=some v->vs[i]?=some c->RD Pr w v c)(h1:∀(i:Nat)(v:AV),cs[i]?=some v->v.one=true):qv Pr w cs vs:=
 ⟨h,λi hi eJ=>hr i _ _ (ad_ hi) (aeC eJ),λi hi=>h1 i _ (ad_ hi)⟩
def qv.aP {Pr:Nat→Nat→Prop} {w:World} {cs vs:List AV} {xs ys:Array Value} {off:Nat} (h:qv Pr w cs xs) (hv:qv Pr w vs ys) (hl:off+vs.length≤cs.length)
  (zs:Array Value) (hz:zs.size=xs.size) (jL:∀k,zs[k]?=if off<=k/\k<off+ys.size then ys[k-off]? else xs[k]?):qv Pr w (aP cs off vs) zs:=by
 have gm:=hv.1;have h1:=h.1;refine qv.mk' (by rw[D_ hl,hz];exact h.1) (λi v c e1 e2=>?_) (λi v e1=>?_)
 .rw[uP hl]at e1;rw[jL]at e2;rw[<-gm]at e2;split at e1
  .rename_i hh;rw[if_pos hh]at e2;exact hv.get e1 e2
  .rename_i hh;rw[if_neg hh]at e2;exact h.get e1 e2
 .rw[uP hl]at e1;split at e1
  .exact hv.one e1
  .exact h.one e1
def uK(n:Nat)(place:Nat->Option (Nat×Nat)):List (Nat×Operand)->Option (List (Nat×Nat×dU))
 |[]=>some []
 |(i,x)::rest=>match place i,ep n x,uK n place rest with
  |some (off,size),some y,some r=>some ((off,size,y)::r)
  |_,_,_=>none
section
variable{P:Program}{w0:World}{n:Nat}{U:Nat->Prop}{g:Gh}{S:au}{H:aD}{a:Act}{w:World}
def vN (R:Rel P w0 n U g S H a w) {place:Nat→Option (Nat×Nat)}:∀ {ps:List (Nat×Operand)} {qs:List (Nat×Nat×dU)},uK n place ps=some qs →
  (∀q∈qs,∀t∈q.2.2.tmps,¬U t)->∀{cs jX:List AV}{vs:Array Value},qv g.Pr w cs vs->cD cs (qs.map λ(o,s,x)=>(o,s,ev S x))=some jX->
  ∃mh,Instr.fill place vs (ps.map λ(i,x)=>(i,a.eval x))=some mh/\qv g.Pr w jX mh
 |[],qs,h,_,cs,jX,vs,hr,he=>by
  cases h;simp only[aeF,cD,aeJ]at he;subst he;exact⟨vs,rfl,hr⟩
 |(i,x)::ps,qs,h,hu,cs,jX,vs,hr,he=>by
  simp only[uK]at h;split at h
  case h_2=>cases h
  rename_i off size y r hp hx ld;cases h;simp only[aer,cD]at he;split at he
  case isFalse=>cases he
  rename_i hc;obtain⟨lE,j6,Wr⟩:=hc;have hv:=(R.ev hx (hu _ aen)).eP (AV.kM Wr);have hvd:=hv.bC.WT (by rw[AV.xW];exact Wr)
  have cM:(a.eval x).cells.size=size:=by rw[<-hv.cells.1];exact lE
  have lL:cs.length=vs.size:=hr.1;obtain⟨k1,k2⟩:=Great.foldl_set off (a.eval x).cells.toList 0 vs
  have jV:=hr.aP (off:=off) hvd (by rw[AV.Az,lE];exact j6)
   (((a.eval x).cells.toList.zipIdx 0).foldl (λcs (x:Value×Nat)=>cs.setIfInBounds (off+x.2) x.1) vs) k1 (λk=>by
    rw[k2 k];simp only[Nat.add_zero,Array.length_toList,afv]
    by_cases oC:off<=k/\k<off+(a.eval x).cells.size
    .rw[if_pos oC,if_pos ⟨oC.1,oC.2,zo⟩]
    .rw[if_neg oC,if_neg zo])
  obtain⟨mh,e1,e2⟩:=vN R ld (λq hq=>hu q (aei _ hq)) jV he;refine⟨mh,?_,e2⟩;simp only[aer,Instr.fill,hp];rw[if_neg (by simp;omega)];rw[<-e1]
  congr 1
  rw[<-Array.foldl_toList,Array.toList_zipIdx]
def Nl (R:Rel P w0 n U g S H a w) {o:Oper} {t:TypeId} {it:TypeInfo} {fs:Array Field} {z:Value} {places:List (Nat×Nat)} {zs:List AV} {ps:Array (Nat×Operand)} {qs:List (Nat×Nat×dU)} {e:aM}
  (ho:o.op=.build t ps) (hd:∀t,o.dst=some t->t<n/\¬U t) (hi:P.info? t=some it) (gp:P.underlying t=some (.struct fs)) (hz:it.zero=some z)
  (PC:fs.toList.mapM (λf=>(P.info? f.type).map λi=>(f.offset,i.size))=some places) (qP:jB z.cells.toList=some zs) (hq:uK n (places[·]?) ps.toList=some qs)
  (hu:∀q∈qs,∀t∈q.2.2.tmps,¬U t) (he:ar S H (.build (zs.map AV.bC) qs)=some e):dZ P w0 n U g S H a w o e:=by
 simp only[ar,aeo]at he;obtain⟨jX,hc,rfl⟩:=he;have O9:=(jg g.Pr w qP).1
 have I2:qv g.Pr w (zs.map AV.bC) z.cells:=by
  refine⟨by simpa using O9.1,λi h h'=>?_,λi h=>?_⟩
  .simp only[aef]at h;have:=(O9.2.1 i h (by simpa using h')).bC;simpa using this
  .simp only[aef]at h;have:=O9.2.2 i h;simp only[aep];exact(AV.pW _).trans this
 obtain⟨mh,h1,h2⟩:=vN R hq hu I2 hc
 have hb:P.built t (ps.map λ(i,x)=>(i,a.eval x)).toList=some mh:=by
  unfold Program.built;simp only[hi,gp,hz,PC,ag4];rw[<-h1]
  congr 1
  funext i
  simp
 refine dZ.val R (λt h=>(hd t h).1) (c:=.agg mh) ?_ (.data _ _ (.agg _ _ h2.1 h2.2.2 h2.2.1)) λ_=>trivial
 unfold execOp;simp only[ho,ael,aic w t _ mh hb,Result.andThen_ok]
 rfl
def RX (R:Rel P w0 n U g S H a w) {o:Oper} {fn:Fn} {f1 c1:Array Operand} {f2 c2:List dU} {e:aM} (ho:o.op = .makeFunc fn f1 c1) (hd:∀ t,o.dst=some t→t < n∧¬ U t)
  (hf:qH n f1.toList=some f2) (hc:qH n c1.toList=some c2) (huf:∀y∈f2,∀t∈y.tmps,¬U t) (huc:∀y∈c2,∀t∈y.tmps,¬U t) (he:ar S H (.F0 fn f2 c2)=some e):dZ P w0 n U g S H a w o e:=by
 simp only[ar,aeJ]at he;subst he;obtain⟨l1,r1⟩:=R.Ma hf huf;obtain⟨l2,r2⟩:=R.Ma hc huc
 refine dZ.val R (λt h=>(hd t h).1) (c:=.func fn (f1.map a.eval) (c1.map a.eval)) ?_ ?_ λ_=>trivial
 .simp[execOp,ho,Instr.makeFunc]
 .refine .func fn _ _ _ _ (by simpa using l1) (by simpa using l2) (λi h h'=>?_) (λi h h'=>?_)
  .simp only[aef,Array.size_map]at h h';have:=(r1 i h (by simpa using h')).bC;simpa using this
  .simp only[aef,Array.size_map]at h h';have:=(r2 i h (by simpa using h')).bC;simpa using this
def Rel.newRow (R:Rel P w0 n U g S H a w) (d:Option Nat) (hd:∀ t,d=some t→t < n∧¬ U t) (el:TypeId) (i:TypeInfo) (hi:P.info? el=some i) (es:List AV) (cells:Array Value)
  (cM:∀j (h:j<es.length),(es[j]).cells.length=i.size) (eB:∀j (h:j<es.length),(es[j]).storable=true) (hl:cells.size=es.length*i.size) (hlen:es.length<=maxLen)
  (hr:∀j (h:j<es.length),∃c,RD g.Pr w es[j] c/\∀k u,c.cells[k]?=some u->cells[j*i.size+k]?=some u):
  ∃g',g'.base=g.base/\g'.old=g.old/\Rel P w0 n U g' (Go.AL.bl S d (.slice (.own el) es)) H (a.put d (.slice (some ⟨w.heap.size,0,none⟩) es.length es.length)) (w.alloc (.cells cells el)):=by
 have hb:Below w.heap.size w (w.alloc (.cells cells el)):=(afb _ _).alloc (aed _) _
 have hle:g.base<=w.heap.size:=by rw[R.base];exact R.below.size
 let g':Gh:={ g with hi:=aF g.hi w.heap.size (es.length*i.size),owner:=aF g.owner w.heap.size (d.map .slot) }
 have R':Rel P w0 n U g' S H a (w.alloc (.cells cells el)):=R.grow (g':=g') hb rfl rfl rfl
  (λb hb=>⟨b_ _ _ zo,b_ _ _ zo⟩)
  (λb hb=>by
   have iY:w.heap.size+1<=b:=by simpa using hb
   exact⟨(b_ _ _ zo).trans (R.fresh b zo).1,(b_ _ _ zo).trans (R.fresh b zo).2⟩)
 have rQ:∀k,k<es.length*i.size->g'.Pr w.heap.size k:=λk hk=>.inr ⟨hle,by show k<aF g.hi _ _ _;rw[bX];exact hk⟩
 have ac8:cC g.Pr g'.Pr w (w.alloc (.cells cells el)):=by
  refine cC.jK (λb aN=>hb.block b aN) λb k aN hp=>?_
  unfold Gh.Pr at*
  show(b<g.base/\g.old.c b k)\/(g.base<=b/\k<aF g.hi _ _ b)
  rw[b_ _ _ zo];exact hp
 refine⟨g',rfl,rfl,R'.bl d _ _ (λt h=>(hd t h).1) (.data _ _ ?_) ?_⟩
 .refine .slice _ es w.heap.size 0 es.length i.size (λk=>cells.getD k undef) (aed _) (λh=>by cases h) cM (λj h k hk=>?_) (λk hk=>⟨by rw[aeP];exact rQ k hk,?_⟩) (λj h k hk=>?_)
  .obtain⟨c,h1,h2⟩:=hr j h;exact h1.cells_one (eB j h) k hk
  .simp[hl,hk]
  .obtain⟨c,h1,h2⟩:=hr j h
   have dp:k<c.cells.size:=by rw[<-h1.cells.1];exact hk
   have:cells.getD (j*i.size+k) undef=c.cells[k]:=by simp[h2 k _ (aeC dp)]
   rw[this];exact(h1.cells.2 k hk dp).mono ac8
 .intro t ht;subst ht;refine⟨i,cells.toList,w.heap.size,hi,⟨by simp[hl],.inr ⟨w.heap.size,es.length,cells,rfl,hle,ahl w _,aed _,hlen,hl,?_⟩⟩,rfl,?_,?_⟩
  .exact aee (by simp[hl])
  .show aF g.owner _ _ _=_;rw[bX];rfl
  .show aF g.hi _ _ _=_;rw[bX]
def A0 (R:Rel P w0 n U g S H a w) {o:Oper} {t el:TypeId} {i:TypeInfo} {z:Value} {len:Nat} {ps:Array (Nat×Operand)} {xs:List Operand} {ys:List dU} {e:aM}
  (ho:o.op=.buildSlice t len ps) (hd:∀t,o.dst=some t->t<n/\¬U t) (gp:P.underlying t=some (.slice el)) (hi:P.info? el=some i) (hz:i.zero=some z) (ky:0<i.size)
  (ld:ps.toList=(xs.zipIdx 0).map λx=>(x.2,x.1)) (hlen:xs.length=len) (hlz:0<len) (hx:qH n xs=some ys) (hu:∀y∈ys,∀t∈y.tmps,¬U t)
  (he:ar S H (.buildSlice t el i.size ys)=some e):dZ P w0 n U g S H a w o e:=by
 simp only[ar]at he;split at he
 case isFalse=>cases he
 rename_i hc;cases he;simp only[aeb,aej]at hc;obtain⟨lE,j6⟩:=hc;simp only[br,aeh,aeb,aeS]at lE;obtain⟨l1,r1⟩:=R.Ma hx hu
 have Ik:ys.length=len:=zo
 have hR:∀j (h:j<ys.length),RD g.Pr w (AL.ev S ys[j]) ((xs.map a.eval)[j]'(by simp;omega))/\(AL.ev S ys[j]).cells.length=i.size/\(AL.ev S ys[j]).storable=true:=by
  intro j h;have hm:=lE (AL.ev S ys[j]) (aew.2 ⟨_,ad2 h,rfl⟩);refine⟨?_,hm.2,hm.1⟩;have:=(r1 j h zo).eP (AV.kM hm.1);simpa using this
 have tZ:∀v∈xs.map a.eval,v.cells.size=i.size:=by
  intro v hv;obtain⟨j,hj,rfl⟩:=ae5 hv;simp only[aef]at hj;obtain⟨h1,h2,h3⟩:=hR j zo;rw[<-h1.cells.1];exact h2
 have acS:((Array.range (len*i.size)).map (z.cells[· % z.cells.size]!)).size=len*i.size:=ah7
 have Oh:=Great.fill_whole ky (xs.map a.eval) ((Array.range (len*i.size)).map (z.cells[· % z.cells.size]!)) tZ (by rw[acS];simp[hlen])
 have J5:(ps.map λ(i,x)=>(i,a.eval x)).toList=((xs.map a.eval).zipIdx 0).map λx=>(x.2,x.1):=by
  rw[ag4,ld];simp[List.zipIdx_map]
 have eA:=run_buildSlice (P:=P) w t el len (ps.map λ(i,x)=>(i,a.eval x)) ((xs.map a.eval).flatMap λv=>v.cells.toList).toArray i z gp hi hz (by rw[Ik]at j6;omega)
  (by have:=Nat.mul_pos hlz ky;omega) (by rw[J5];exact Oh)
 have Py:=Great.flat_get ky (xs.map a.eval) tZ
 obtain⟨g',e1,e2,R'⟩:=R.newRow o.dst hd el i hi ((ys.map (AL.ev S)).map AV.vw) ((xs.map a.eval).flatMap λv=>v.cells.toList).toArray
  (λj h=>by simp only[aef]at h;simp only[aep,AV.Bq];exact(hR j h).2.1)
  (λj h=>by simp only[aef]at h;simp only[aep,AV.Ii];exact(hR j h).2.2)
  (by
   simp only[agy,aef]
   have hh:∀(l:List Value),(∀v∈l,v.cells.size=i.size)->(l.flatMap λv=>v.cells.toList).length=l.length*i.size:=by
    intro l
    induction l with
    |nil=>simp
    |cons v l ih=>intro h;simp only[afx,aeu,List.length_cons,Array.length_toList,h v aen,ih (λu hu=>h u (aei _ hu)),ahA];omega
   rw[hh _ tZ,aef,l1])
  (by simp only[aef];have:=Nat.le_mul_of_pos_right ys.length ky;unfold maxLen;omega)
  (λj h=>by
   simp only[aef]at h;obtain⟨h1,h2,h3⟩:=hR j h
   have eX:j<(xs.map a.eval).length:=by simp;omega
   refine⟨(xs.map a.eval)[j],by simpa using h1.vw,λk u hk=>?_⟩
   have dp:k<i.size:=by
    rw[<-tZ _ (ad2 eX)];exact(aea.1 hk).1
   simp only[ag8];rw[Py,show(j*i.size+k)/i.size=j by rw[agk,Nat.mul_add_div ky,ahB dp,Nat.add_zero],show(j*i.size+k) % i.size=k by rw[agk,Nat.mul_add_mod,Nat.mod_eq_of_lt dp],ad_ eX]
   exact hk)
 refine⟨.slice (some ⟨w.heap.size,0,none⟩) len len,w.alloc (.cells ((xs.map a.eval).flatMap λv=>v.cells.toList).toArray el),g',.inl ?_,e1,e2,?_⟩
 .unfold execOp;simp only[ho,ael,eA,Result.andThen_ok]
  rfl
 .have:((ys.map (AL.ev S)).map AV.vw).length=len:=by simp[Ik]
  rw[this]at R';exact R'
end
section
variable{P:Program}{w0:World}{n:Nat}{U:Nat->Prop}{g:Gh}{S:au}{H:aD}{a:Act}{w:World}
def TR(S:au)(y:dU):au:=match bj y with|some t=>aF S t (S t).bC|none=>S
def Rel.take (R:Rel P w0 n U g S H a w) {x:Operand} {y:dU} (hx:ep n x=some y) (hu:∀ t∈y.tmps,¬ U t) (loc:Loc) :
  ∃g1,g1.base=g.base/\g1.old=g.old/\g1.al=g.al/\g1.hi=g.hi/\Rel P w0 n U g1 (TR S y) H a w/\fp P w g1 loc (AL.ev S y) (a.eval x):=by
 cases x with
 |const c=>
  simp only[ep,aeo]at hx;obtain⟨v,hc,rfl⟩:=hx;exact⟨g,rfl,rfl,rfl,rfl,R,AY hc _ _ _ _⟩
 |global k=>cases hx
 |func f=>cases hx;exact⟨g,rfl,rfl,rfl,rfl,R,trivial⟩
 |tmp t=>
  simp only[ep]at hx;split at hx
  case isFalse=>cases hx
  rename_i ht;cases hx;have SV:=hu t (by simp[dU.tmps]);have ho:=R.own t ht SV
  have R1:Rel P w0 n U g (aF S t (S t).bC) H a w:=R.weaken _ λk hk huk c qy ho=>by
   by_cases h:k=t
   .subst h;rw[bX];exact⟨qy.bC,iO _ _ _⟩
   .rw[b_ _ _ h];exact⟨qy,ho⟩
  have R2:=R1.Ja (.slot t) (some loc) (λk hk _ _=>by cases hk;rw[bX];exact AV.rV _) (λi j cs h=>by cases h);refine⟨{ g with owner:=λb=>if g.owner b=some (.slot t)then some loc else g.owner b },rfl,rfl,rfl,rfl,R2,?_⟩;show fp P w _ loc (S t) (a.tmps.getD t undef);generalize S t=v at ho;generalize a.tmps.getD t undef=c at ho
  cases v<;>try trivial
  rename_i oo es
  cases oo with
  |view=>trivial
  |nil=>exact ho
  |own e=>
   obtain⟨i,xs,b,h1,h2,h3,h4,h5⟩:=ho;refine⟨i,xs,b,h1,h2,h3,?_,h5⟩;show(if g.owner b=some (.slot t)then some loc else g.owner b)=_;rw[if_pos h4]
def Rel.Te (R:Rel P w0 n U g S H a w) {x:Operand} {y:dU} (hx:ep n x=some y) (hu:∀ t∈y.tmps,¬ U t) {e:TypeId} {es:List AV} (hy:AL.ev S y = .slice (.own e) es) :
  ∃g1 i xs b,g1.base=g.base/\g1.old=g.old/\g1.al=g.al/\g1.hi=g.hi/\Rel P w0 n U g1 (TR S y) H a w/\
   P.info? e=some i/\w.ownsRow g.base e i.size (a.eval x) es.length xs/\(a.eval x).ownBlock=some b/\g1.owner b=none/\g.hi b=es.length*i.size/\(∀j,g.al j≠some b)/\(∀o,g.old.cg b≠some o):=by
 cases x with
 |const c=>
  simp only[ep,aeo]at hx;obtain⟨v,hc,rfl⟩:=hx;have:=Cn hc;rw[show v=AL.ev S (.c v)from rfl,hy]at this;cases this
 |global k=>cases hx
 |func f=>cases hx;cases hy
 |tmp t=>
  simp only[ep]at hx;split at hx
  case isFalse=>cases hx
  rename_i ht;cases hx;have SV:=hu t (by simp[dU.tmps]);have ho:=R.own t ht SV
  change S t=_ at hy
  have R1:Rel P w0 n U g (aF S t (S t).bC) H a w:=R.weaken _ λk hk huk c qy ho=>by
   by_cases h:k=t
   .subst h;rw[bX];exact⟨qy.bC,iO _ _ _⟩
   .rw[b_ _ _ h];exact⟨qy,ho⟩
  have R2:=R1.Ja (.slot t) none (λk hk _ _=>by cases hk;rw[bX];exact AV.rV _) (λi j cs h=>by cases h);rw[hy]at ho;obtain⟨i,xs,b,h1,h2,h3,h4,h5⟩:=ho;refine⟨{ g with owner:=λb=>if g.owner b=some (.slot t)then none else g.owner b },i,xs,b,rfl,rfl,rfl,rfl,R2,h1,h2,h3,?_,h5,λj hj=>?_,λo hk=>?_⟩
  .show(if g.owner b=some (.slot t)then none else g.owner b)=none;rw[if_pos h4]
  .obtain⟨_,_,_,_,_,_,_,k5,_⟩:=R.box j b hj;rw[h4]at k5;cases k5
  .obtain⟨_,_,_,k4,_⟩:=R.kept b o hk;rw[h4]at k4;cases k4
def EC(v:AV):v.aZ.length=v.cells.length:=by cases v<;>simp[AV.aZ,AV.cells]
def RD.aZ{Pr:Nat->Nat->Prop}{v:AV}{c:Value}(h:RD Pr w v c)(hs:v.storable=true):qv Pr w v.aZ c.cells:=by
 cases v<;>try exact h.WT hs
 rename_i cs;have hh:=h.WT hs;refine qv.mk' (by simpa[AV.aZ,AV.cells]using hh.1) (λi v c e1 e2=>?_) (λi v e1=>?_)
 .simp only[AV.aZ,aeK,aeo]at e1;obtain⟨u,h1,rfl⟩:=e1;exact(hh.get h1 e2).bC
 .simp only[AV.aZ,aeK,aeo]at e1;obtain⟨u,h1,rfl⟩:=e1;exact(AV.pW _).trans (hh.one h1)
def nW (R:Rel P w0 n U g S H a w) {o:Oper} {hr:HR} {t:TypeId} {i:TypeInfo} {x1 x2:Operand} {y1 y2:dU} {e:aM} (ho:o.op = .store t x1 x2) (jb:o.dst=none)
  (hi:P.info? t=some i) (ph:ep n x1=some y1) (nx:ep n x2=some y2) (qS:∀t∈y1.tmps,¬U t) (q':∀t∈y2.tmps,¬U t)
  (he:ar S H (.store hr i.size y1 y2)=some e):dZ P w0 n U g S H a w o e:=by
 have gm:=R.ev ph qS;have fM:=R.ev nx q';simp only[ar]at he;generalize ad7:AL.ev S y1=q1 at he gm;generalize lE:a.eval x1=c1 at gm
 cases gm<;>(try cases he;done)
 case data h=>cases h<;>cases he
 rename_i k off b j9;simp only at he;split at he
 case isFalse=>cases he
 obtain⟨cs,vs,ty,k1,k2,k3,k4,k5,k6,k7,k8,k9⟩:=R.box k b j9;simp only[k1]at he;split at he
 case isFalse=>cases he
 rename_i hc;obtain⟨lL,T8,eB⟩:=hc;cases he;have vQ:=fM.eP (AV.kM eB);obtain⟨g1,e1,e2,e3,e4,R1,VE⟩:=R.take nx q' (.cell k off)
 have rQ:g1.Pr=g.Pr:=by unfold Gh.Pr;rw[e1,e2,e4]
 obtain⟨cs0,T',ty0,m1,m2,m3,m4,m5,m6,m7,m8,m9⟩:=R1.box k b (by rw[e3];exact j9);rw[k1]at m1;cases m1;rw[k3]at m3;cases m3
 have cM:(a.eval x2).cells.size=i.size:=by rw[<-vQ.cells.1];exact lL
 have hlen:off+(a.eval x2).cells.size<=vs.size:=zo
 have px:∀u∈(a.eval x2).cells.toList,u.oneCell'=true:=by
  intro u hu;obtain⟨j,hj,rfl⟩:=ae5 hu
  have eX:j<(AL.ev S y2).cells.length:=by rw[vQ.cells.1];simpa using hj
  have:=(vQ.cells.2 j eX (by simpa using hj)).one (vQ.cells_one eB j eX);simpa using this
 have eA:=ag1 P b off ty (a.eval x2).cells.toList 0 vs w k3 (by simpa using hlen) px;simp only[Nat.add_zero]at eA;have xw:=EC (AL.ev S y2)
 have jL:∀j,(vs.toList.take off++(a.eval x2).cells.toList++vs.toList.drop (off+(a.eval x2).cells.toList.length)).toArray[j]?=if off<=j/\j<off+(a.eval x2).cells.size then(a.eval x2).cells[j-off]? else vs[j]?:=by
  intro j;simp only[ag8,Array.length_toList]
  by_cases h1:j<off
  .rw[if_neg zo,aeU,afc (by simp;omega)];simp[h1]
  .by_cases h2:j<off+(a.eval x2).cells.size
   .rw[if_pos ⟨zo,h2⟩,afc (by simp;omega),afp (by simp;omega)];rw[afv]
    congr 1
    simp;omega
   .rw[if_neg zo,afp (by simp;omega)];simp only[agr,afv]
    congr 1
    simp;omega
 have fq:qv g1.Pr w (aP cs off (AL.ev S y2).aZ) (vs.toList.take off++(a.eval x2).cells.toList++vs.toList.drop (off+(a.eval x2).cells.toList.length)).toArray:=
  qv.aP (cs:=cs) (xs:=vs) ⟨m6,m7,m9⟩ (ys:=(a.eval x2).cells) (by rw[rQ];exact vQ.aZ eB) zo _ (by simp;omega) jL
 have dX:∀j v c,(aP cs off (AL.ev S y2).aZ)[j]?=some v->(vs.toList.take off++(a.eval x2).cells.toList++vs.toList.drop (off+(a.eval x2).cells.toList.length)).toArray[j]?=some c->fp P w g1 (.cell k j) v c:=by
  intro j v c h1 h2;rw[uP zo]at h1;rw[jL]at h2;rw[xw,vQ.cells.1]at h1;split at h1
  .rename_i oC;rw[if_pos oC]at h2;have O6:=vQ;generalize AL.ev S y2=q at h1 VE O6 eB;generalize a.eval x2=c2 at h2 VE O6
   have single:q.aZ=[q]->c2.cells=#[c2]->fp P w g1 (.cell k j) v c:=by
    intro h3 h4;rw[h3]at h1;rw[h4]at h2
    have h0:j-off=0:=by simpa using(aey.1 h1).1
    rw[h0]at h1 h2;simp at h1 h2;subst h1;subst h2;rw[show j=off by omega];exact VE
   cases O6 with
   |agg jX mh hl px hr=>
    simp only[AV.aZ,aeK,aeo]at h1;obtain⟨u,_,rfl⟩:=h1;exact iO _ _ _
   |ea=>cases eB
   |val _ hc=>exact single rfl (by cases c2<;>first|rfl|cases hc)
   |_=>exact single rfl rfl
  .rename_i oC;rw[if_neg oC]at h2;obtain⟨l1,rfl⟩:=aey.1 h1;obtain⟨l2,rfl⟩:=aea.1 h2;exact m8 j l1 l2
 have R2:=R1.Jz k b (by rw[e3];exact j9) vs _ ty k3 _ fq.1 fq.2.1 (λj hj eX=>dX j _ _ (ad_ hj) (aeC eX)) fq.2.2;refine⟨undef,w.setRow b (vs.toList.take off++(a.eval x2).cells.toList++vs.toList.drop (off+(a.eval x2).cells.toList.length)).toArray,g1,.inr ⟨?_,rfl⟩,e1,e2,?_⟩
 .unfold execOp;simp only[ho,lE,Instr.storeAt,Instr.sureAddr,storeVar,sizeOf,typeInfo,ael,Sem.run_pure,Result.andThen_ok,run_program,hi,cM,ne_eq,afM,aeA];rw[show storeCells ⟨b,off,none⟩ (a.eval x2).cells.toList=storeCells ⟨b,off,none⟩ (a.eval x2).cells.toList 0 from rfl,eA]
  rfl
 .rw[jb];exact R2
end
def sR {P:Program} {w:World} (base:Nat) (t ty e:TypeId) (i:TypeInfo) (z:Value) (ht:P.underlying t=some (.slice e)) (hi:P.info? e=some i) (hz:i.zero=some z)
  (qP:z.cells.size=i.size) (v:Value) (n:Nat) (xs:List Value) (b:Nat) (dX:w.ownsRow base e i.size v n xs) (qu:v.ownBlock=some b)
  (ad:Addr) (m c:Nat) (news:List Value) (hl:news.length=m*i.size) (uh:∀j u,news[j]?=some u->w.cell? (ad.add j)=some u) (h1:∀u∈news,u.oneCell'=true)
  (h63:n+m<=2097152) (Ji:(n+m)*i.bytes<=140737488355328) (iA:base<=w.heap.size):
  ∃v' w' b',(Builtin.append_ #[t,t] ty #[v,.slice (some ad) m c]).run P w=.ok v' w'/\w'.ownsRow base e i.size v' (n+m) (xs++news)/\v'.ownBlock=some b'/\
   ((b'=b/\w.grownBy w' (some b))\/(b'=w.heap.size/\w.grownBy w' none/\w'.heap.size=w.heap.size+1)):=by
 have ace:n+m<=maxLen:=by unfold maxLen;omega
 have hlen:(xs++news).length=(n+m)*i.size:=by rw[aeu,dX.1,hl,afK]
 rcases dX.2 with⟨rfl,rfl⟩|⟨g,cap,cur,rfl,pL,hg,Bs,A2,tZ,BG⟩
 .cases qu
 .have nL:g=b:=by simpa[Value.ownBlock]using qu
  subst nL
  by_cases jt:n+m<=cap
  .have ado:n*i.size+news.length<=cur.size:=by rw[hl,tZ,<-afK];exact afy _ jt
   have hr:=run_append_room (P:=P) w t ty e i ht hi g n cap cur hg ad m c news hl uh h1 jt ado;refine⟨_,_,g,hr,⟨hlen,.inr ⟨g,cap,_,rfl,pL,afV w g cur _ e _ hg,jt,A2,?_,?_⟩⟩,rfl,.inl ⟨rfl,⟨rfl,rfl,rfl,ah7,λk _ hk=>afm w g k _ (λe=>hk (by simp[e]))⟩⟩⟩
   .simp only[agy,aeu,aes,aeM,Array.length_toList];omega
   .rw[BG,<-hlen];exact agj
  .have holds:∀j u,xs[j]?=some u->w.cell? ((⟨g,0,none⟩:Addr).add j)=some u:=dX.cells (g:=g) rfl;have hr:=run_append_grow (P:=P) w t ty e i z ht hi hz ⟨g,0,none⟩ n cap xs dX.1 holds ad m c news hl uh zo zo (growslice_fits zo Ji);have Bw:=grownCap_ge w (n+m) cap e;have Ux:grownCap w (n+m) cap e<=maxLen:=grownCap_le_maxLen w (n+m) cap e ace;refine⟨_,_,w.heap.size,hr,⟨hlen,.inr ⟨w.heap.size,_,_,rfl,iA,ahl w.drew _,Bw,Ux,?_,?_⟩⟩,rfl,.inr ⟨rfl,⟨rfl,rfl,rfl,ah7,λk hk _=>heap_alloc_old w.drew _ k hk⟩,ah7⟩⟩
   .simp only[Array.size_append,agy,size_zeroCells,qP,dX.1,hl,<-afK]
    congr 1
    omega
   .simp only[ah6,aeU];rw[<-aeU,<-hlen];exact agj
def uo {P:Program} {w:World} (base:Nat) (t ty e:TypeId) (i:TypeInfo) (z:Value) (ht:P.underlying t=some (.slice e)) (hi:P.info? e=some i) (hz:i.zero=some z)
  (qP:z.cells.size=i.size) (a0:Option Addr)
  (ad:Addr) (m c:Nat) (news:List Value) (hl:news.length=m*i.size) (uh:∀j u,news[j]?=some u->w.cell? (ad.add j)=some u)
  (hm:0<m) (h63:m<=2097152) (Ji:m*i.bytes<=140737488355328) (iA:base<=w.heap.size):
  ∃v' w',(Builtin.append_ #[t,t] ty #[.slice a0 0 0,.slice (some ad) m c]).run P w=.ok v' w'/\w'.ownsRow base e i.size v' m news/\v'.ownBlock=some w.heap.size/\w.grownBy w' none/\w'.heap.size=w.heap.size+1:=by
 have Bw:=grownCap_ge w m 0 e;have Ux:grownCap w m 0 e<=maxLen:=grownCap_le_maxLen w m 0 e (by unfold maxLen;omega)
 have eA:(Builtin.append_ #[t,t] ty #[.slice a0 0 0,.slice (some ad) m c]).run P w=.ok (.slice (some ⟨w.heap.size,0,none⟩) m (grownCap w m 0 e)) (w.drew.alloc (.cells (news.toArray++Builtin.zeroCells z.cells (grownCap w m 0 e-m)) e)):=by
  cases a0 with
  |none=>exact run_append_nil (P:=P) w t ty e i z ht hi hz ad m c news hl uh hm zo zo
  |some b=>
   have:=run_append_grow (P:=P) w t ty e i z ht hi hz b 0 0 [] ah7 ah7 ad m c news hl uh zo zo (growslice_fits zo (by simpa using Ji));simpa using this
 refine⟨_,_,eA,⟨hl,.inr ⟨w.heap.size,_,_,rfl,iA,ahl w.drew _,Bw,Ux,?_,?_⟩⟩,rfl,⟨rfl,rfl,rfl,ah7,λk hk _=>heap_alloc_old w.drew _ k hk⟩,ah7⟩
 .simp only[Array.size_append,agy,size_zeroCells,qP,hl,<-afK]
  congr 1
  omega
 .rw[<-hl];simp only[ah6];exact agj
def vx {P:Program} {w:World} (base:Nat) (t ty e:TypeId) (i:TypeInfo) (size:Nat) (ht:P.underlying t=some (.slice e)) (hi:P.info? e=some i)
  (v:Value) (n:Nat) (xs:List Value) (dX:w.ownsRow base e size v n xs) (ad:Option Addr):
  (Builtin.append_ #[t,t] ty #[v,.slice ad 0 0]).run P w=.ok v w:=by
 have SE:(Builtin.firstCells i.size 0 (.slice ad 0 0)).run P w=.ok #[] w:=by
  rcases ad with _|ad
  .rfl
  .simp[Builtin.firstCells,loadCells,loadCellsFrom]
 rcases dX.2 with⟨rfl,rfl⟩|⟨g,cap,cur,rfl,_,_,Bs,_⟩
 .simp[Builtin.append_,aet ht,sizeOf,typeInfo,hi,Builtin.lenOf,SE]
 .simp[Builtin.append_,aet ht,sizeOf,typeInfo,hi,Builtin.lenOf,SE,Bs,storeCells]
def RD.nV {Pr:Nat→Nat→Prop} {w:World} {o:Ow} {es:List AV} {c:Value} (h:RD Pr w (.slice o es) c) (size:Nat) (hs:br size es=true) :
  (es=[]/\∃ad,c=.slice ad 0 0)\/∃(b off cap:Nat)(news:List Value),c=.slice (some ⟨b,off,none⟩) es.length cap/\news.length=es.length*size/\
   (∀j u,news[j]?=some u->w.cell? ⟨b,off+j,none⟩=some u)/\(∀u∈news,u.oneCell'=true)/\
   ∀j (h:j<es.length) k (hk:k<(es[j]).cells.length),∃u,news[j*size+k]?=some u/\RD Pr w ((es[j]).cells[k]) u:=by
 simp only[br,aeh,aeb,aeS]at hs
 cases h with
 |jm=>exact .inl ⟨rfl,_,rfl⟩
 |kj _ a=>exact .inl ⟨rfl,_,rfl⟩
 |slice _ _ b off cap sz cs gq vC cM h1 hc hr=>
  refine .inr ⟨b,off,cap,(List.range (es.length*size)).map cs,rfl,ah7,?_,?_,?_⟩
  .intro j u hu;simp only[aeK,aeo]at hu;obtain⟨j',h1,rfl⟩:=hu;obtain⟨aN,rfl⟩:=aey.1 h1;simp only[List.length_range]at aN;simp only[List.getElem_range]
   have ky:0<es.length:=by
    rcases af6 es.length with h0|h0
    .rw[h0]at aN;omega
    .exact h0
   have:sz=size:=by rw[<-cM 0 ky];exact(hs _ (ad2 ky)).2
   subst this;exact(hc j aN).2
  .intro u hu;simp only[aew,aeI]at hu;obtain⟨j,aN,rfl⟩:=hu
   have ky:0<es.length:=by
    rcases af6 es.length with h0|h0
    .rw[h0]at aN;omega
    .exact h0
   have:sz=size:=by rw[<-cM 0 ky];exact(hs _ (ad2 ky)).2
   subst this
   have pc:0<sz:=by
    rcases af6 sz with h0|h0
    .rw[h0]at aN;omega
    .exact h0
   have hj:j/sz<es.length:=(Nat.div_lt_iff_lt_mul pc).2 aN
   have hk:j % sz<(es[j/sz]).cells.length:=by rw[cM _ hj];exact agT _ pc
   have e:j/sz*sz+j % sz=j:=by rw[agk];exact ahL j sz
   have:=(hr _ hj _ hk).one (h1 _ hj _ hk);rwa [e]at this
  .intro j hj k hk
   have:sz=size:=by rw[<-cM j hj];exact(hs _ (ad2 hj)).2
   subst this;refine⟨cs (j*sz+k),?_,hr j hj k hk⟩;rw[cM j hj]at hk
   have:j*sz+k<es.length*sz:=by
    calc j*sz+k<j*sz+sz:=by omega
     _=(j+1)*sz:=by rw[ahA]
     _<=es.length*sz:=afy _ zo
   simp[this]
def RD.Qi{Pr:Nat->Nat->Prop}{w:World}{o:Ow}{es:List AV}{c:Value}(h:RD Pr w (.slice o es) c):∀j (h:j<es.length) k (hk:k<(es[j]).cells.length),((es[j]).cells[k]).one=true:=by
 intro j hj k hk
 cases h with
 |jm=>simp at hj
 |kj=>simp at hj
 |slice _ _ _ _ _ _ _ _ _ _ h1 _ _=>exact h1 j hj k hk
section
variable{P:Program}{w0:World}{n:Nat}{U:Nat->Prop}{g:Gh}{S:au}{H:aD}{a:Act}{w:World}
def Rel.ownRow (R:Rel P w0 n U g S H a w) {w':World} {b':Nat} (d:Option Nat) (hd:∀ t,d=some t→t < n∧¬ U t) {el:TypeId} {i:TypeInfo} (hi:P.info? el=some i) {es:List AV} {news:List Value} {v':Value}
  (dX:w'.ownsRow g.base el i.size v' es.length news) (qu:v'.ownBlock=some b')
  (Db:∀es c,w.heap[b']?≠some (.map es c))
  (hb:(b'<w.heap.size/\w.grownBy w' (some b')/\g.owner b'=none/\(∀j,g.al j≠some b')/\g.hi b'<=es.length*i.size/\(∀k u,k<g.hi b'->w.cell? ⟨b',k,none⟩=some u->news[k]?=some u)/\∀o,g.old.cg b'≠some o)\/
   (b'=w.heap.size/\w.grownBy w' none/\w'.heap.size=w.heap.size+1))
  (eB:br i.size es=true)
  (hr:∀j (h:j<es.length) k (hk:k<(es[j]).cells.length),∃u,news[j*i.size+k]?=some u/\RD g.Pr w ((es[j]).cells[k]) u/\((es[j]).cells[k]).one=true):
  ∃g',g'.base=g.base/\g'.old=g.old/\Rel P w0 n U g' (Go.AL.bl S d (.slice (.own el) es)) H (a.put d v') w':=by
 have hle:g.base<=w.heap.size:=by rw[R.base];exact R.below.size
 simp only[br,aeh,aeb,aeS]at eB
 let g':Gh:={ g with hi:=aF g.hi b' (es.length*i.size),owner:=aF g.owner b' (d.map .slot) }
 have iz:∀k,k<w.heap.size->k≠b'->w'.heap[k]?=w.heap[k]?:=by
  intro k hk dR
  rcases hb with⟨_,h,_⟩|⟨_,h,_⟩
  .exact h.block k hk (by simp[dR])
  .exact h.block k hk ah7
 have nO:w.heap.size<=w'.heap.size:=by rcases hb with⟨_,h,_⟩|⟨_,h,_⟩<;>exact h.size
 rcases dX.2 with⟨rfl,_⟩|⟨gg,cap,cur,rfl,pL,hg,Bs,A2,tZ,BG⟩
 .cases qu
 have nL:gg=b':=by simpa[Value.ownBlock]using qu
 subst nL
 have gr:∀k u,news[k]?=some u->w'.cell? ⟨gg,k,none⟩=some u:=by
  intro k u hu;have:=dX.cells (g:=gg) rfl k u hu;rwa [afh,aeP]at this
 have W9:∀b k,g.Pr b k->∀u,w.cell? ⟨b,k,none⟩=some u->g'.Pr b k/\w'.cell? ⟨b,k,none⟩=some u:=by
  intro b k hp u hu;have aN:b<w.heap.size:=ago _ _ hu
  by_cases mM:b=gg
  .subst mM
   rcases hb with⟨h1,h2,h3,h4,h5,h6,_⟩|⟨h1,_⟩
   .rcases hp with hp|hp
    .omega
    .exact⟨.inr ⟨hp.1,by show k<aF g.hi _ _ _;rw[bX];omega⟩,gr k u (h6 k u hp.2 hu)⟩
   .omega
  .refine⟨?_,by rw[afX (w:=w) (iz b aN mM)];exact hu⟩;rcases hp with hp|hp
   .exact .inl hp
   .exact .inr ⟨hp.1,by show k<aF g.hi _ _ b;rw[b_ _ _ mM];exact hp.2⟩
 have sS:cC g.Pr g'.Pr w w':={
  cell:=W9
  map:=λb hp es c hm=>by
   have aN:b<w.heap.size:=(aea.1 hm).1
   have mM:b≠gg:=by
    rintro rfl;exact Db _ _ hm
   refine⟨?_,by rw[iz b aN mM];exact hm⟩;rcases hp with hp|hp
   .exact .inl hp
   .exact .inr ⟨hp.1,by show 0<aF g.hi _ _ b;rw[b_ _ _ mM];exact hp.2⟩ }
 have R':Rel P w0 n U g' S H a w':=by
  refine R.ext (g':=g') rfl rfl rfl sS ?_ ?_ ?_ ?_ ?_ nO
  .intro j b hj;obtain⟨_,_,_,_,_,k3,_⟩:=R.box j b hj;have aN:b<w.heap.size:=(aea.1 k3).1
   have dR:b≠gg:=by
    rintro rfl
    rcases hb with⟨_,_,_,h4,_⟩|⟨h1,_⟩
    .exact h4 j hj
    .omega
   exact⟨iz b aN dR,b_ _ _ dR,b_ _ _ dR⟩
  .intro b loc ho
   have aN:b<w.heap.size:=by
    rcases afB b w.heap.size with h|h
    .exact h
    .rw[(R.fresh b h).2]at ho;cases ho
   have dR:b≠gg:=by
    rintro rfl
    rcases hb with⟨_,_,h3,_⟩|⟨h1,_⟩
    .rw[h3]at ho;cases ho
    .omega
   exact⟨iz b aN dR,b_ _ _ dR,(b_ _ _ dR).trans ho⟩
  .refine R.below.trans ?_
   rcases hb with⟨_,h,_⟩|⟨_,h,_⟩
   .exact⟨h.os,h.tape,h.output,h.size,λk hk=>iz k zo zo⟩
   .exact⟨h.os,h.tape,h.output,h.size,λk hk=>iz k zo zo⟩
  .intro b mM
   have dR:b≠gg:=by
    have:=(aea.1 hg).1;omega
   exact⟨(b_ _ _ dR).trans (R.fresh b zo).1,(b_ _ _ dR).trans (R.fresh b zo).2⟩
  .intro b o hk ho;have aN:b<w.heap.size:=(aea.1 ho).1
   have dR:b≠gg:=by
    rintro rfl
    rcases hb with⟨_,_,_,_,_,_,h7⟩|⟨h1,_⟩
    .exact h7 o hk
    .omega
   exact⟨by rw[iz b aN dR];exact ho,b_ _ _ dR,b_ _ _ dR⟩
 refine⟨g',rfl,rfl,R'.bl d _ _ (λt h=>(hd t h).1) (.data _ _ ?_) ?_⟩
 .refine .slice _ es gg 0 cap i.size (λk=>news.getD k undef) Bs (λh=>by cases h) (λj h=>(eB _ (ad2 h)).2) (λj h k hk=>(hr j h k hk).choose_spec.2.2) (λk hk=>⟨?_,?_⟩) (λj h k hk=>?_)
  .exact .inr ⟨pL,by show 0+k<aF g.hi _ _ _;rw[bX];omega⟩
  .rw[aeP];refine gr k _ ?_
   have:k<news.length:=by rw[dX.1];exact hk
   simp[this]
  .obtain⟨u,h1,h2,_⟩:=hr j h k hk
   have:news.getD (j*i.size+k) undef=u:=by simp[h1]
   rw[this];exact h2.mono sS
 .intro t ht;subst ht;exact⟨i,news,gg,hi,dX,rfl,by show aF g.owner _ _ _=_;rw[bX];rfl,by show aF g.hi _ _ _=_;rw[bX]⟩
def oP{size:Nat}{es:List AV}:br size es=true↔∀v∈es,v.storable=true/\v.cells.length=size:=by
 simp[br]
def Kr (R:Rel P w0 n U g S H a w) {o:Oper} {cl:Call} {t el:TypeId} {i:TypeInfo} {z:Value} {x1 x2:Operand} {y1 y2:dU} {e:aM} (ho:o.op = .call cl) (lL:cl.callee = .builtin .append) (Dd:cl.args = #[x1,x2]) (FJ:cl.argTypes = #[t,t])
  (hd:∀t,o.dst=some t->t<n/\¬U t) (gp:P.underlying t=some (.slice el)) (hi:P.info? el=some i) (hz:i.zero=some z) (qP:z.cells.size=i.size) (IE:i.bytes<=65536)
  (ph:ep n x1=some y1) (nx:ep n x2=some y2) (qS:∀t∈y1.tmps,¬U t) (q':∀t∈y2.tmps,¬U t) (fq:∀t,o.dst=some t->t∉y1.tmps)
  (he:ar S H (.append t el i.size i.bytes y1 y2)=some e):dZ P w0 n U g S H a w o e:=by
 have hle:g.base<=w.heap.size:=by rw[R.base];exact R.below.size
 have gm:=R.ev ph qS;have fM:=R.ev nx q'
 have run:∀v' w',(Builtin.append_ #[t,t] o.type #[a.eval x1,a.eval x2]).run P w=.ok v' w'->(execOp a.eval o).run P w=.ok (.value v') w':=by
  intro v' w' h;unfold execOp;simp[ho,lL,Dd,FJ,resolve,invoke,builtin,h]
 have bytes:∀m,m<=2097152->m*i.bytes<=140737488355328:=λm hm=>afl (ahm hm IE) zd
 simp only[ar]at he;split at he
 .
  rename_i oo ys V5 Jb;split at he
  case isFalse=>cases he
  rename_i hc;simp only[aeb,aej]at hc;cases he;rw[V5]at gm;rw[Jb]at fM
  obtain⟨ad0,lE⟩:∃ad,a.eval x1=.slice ad 0 0:=by
   have hq:=gm.eP rfl;generalize a.eval x1=c at hq
   cases hq with
   |jm=>exact⟨_,rfl⟩
   |kj=>exact⟨_,rfl⟩
   |slice _ _ b off cap size cs gq vC=>rw[vC rfl];exact⟨_,rfl⟩
  have vQ:=fM.eP rfl
  rcases vQ.nV i.size hc.1 with⟨rfl,Vj,j6⟩|⟨b,off,cap,news,j6,hl,hn,h1,hr⟩
  .refine⟨a.eval x1,w,g,.inl (run _ _ ?_),rfl,rfl,R.bl o.dst _ _ (λt h=>(hd t h).1) (.data _ _ (gm.eP rfl)) λ_ _=>trivial⟩;rw[lE,j6]
   have SE:(Builtin.firstCells i.size 0 (.slice Vj 0 0)).run P w=.ok #[] w:=by
    rcases Vj with _|Vj
    .rfl
    .simp[Builtin.firstCells,loadCells,loadCellsFrom]
   simp[Builtin.append_,aet gp,sizeOf,typeInfo,hi,Builtin.lenOf,SE,storeCells]
   cases ad0<;>simp[storeCells]
  .by_cases ZZ:ys=[]
   .subst ZZ;have uh:news=[]:=aeT (by simpa using hl);refine⟨a.eval x1,w,g,.inl (run _ _ ?_),rfl,rfl,R.bl o.dst _ _ (λt h=>(hd t h).1) (.data _ _ (gm.eP rfl)) λ_ _=>trivial⟩;rw[lE,j6];simp[Builtin.append_,aet gp,sizeOf,typeInfo,hi,Builtin.lenOf,Builtin.firstCells,loadCells,loadCellsFrom]
    cases ad0<;>simp[storeCells]
   .have ky:0<ys.length:=afi.2 ZZ;obtain⟨v',w',r1,r2,r3,r4,r5⟩:=uo (P:=P) (w:=w) g.base t o.type el i z gp hi hz qP ad0 ⟨b,off,none⟩ ys.length cap news hl (λj u hu=>by rw[afh];exact hn j u hu) ky zo (bytes _ zo) hle
    obtain⟨g',e1,e2,R'⟩:=R.ownRow o.dst hd hi (es:=ys) r2 r3 (λes c hm=>by have:=(aea.1 hm).1;omega) (.inr ⟨rfl,r4,r5⟩) hc.1 (λj h k hk=>by
     obtain⟨u,u1,u2⟩:=hr j h k hk
     exact⟨u,u1,u2,vQ.Qi j h k hk⟩)
    refine⟨v',w',g',.inl (run _ _ (by rw[lE,j6];exact r1)),e1,e2,?_⟩
    have:ys.isEmpty=false:=by cases ys with|nil=>exact absurd rfl ZZ|cons=>rfl
    simp only[this];exact R'
 .rename_i e' xs oo ys V5 Jb;split at he
  case isFalse=>cases he
  rename_i hc;simp only[aeb,aej]at hc;obtain⟨rfl,⟨lE,j6⟩,Wr⟩:=hc;cases he;rw[V5]at gm;rw[Jb]at fM;obtain⟨g1,i',xv,b,b1,b2,b3,b4,R1,eJ,dX,qu,iX,AU,Y_,VT⟩:=R.Te ph qS V5;rw[hi]at eJ;cases eJ
  have rQ:g1.Pr=g.Pr:=by unfold Gh.Pr;rw[b1,b2,b4]
  have Gd:=gm.eP rfl;have vQ:=fM.eP rfl;have nh:b<w.heap.size:=(dX.lt b qu).2
  have Bk:br i.size (xs++ys)=true:=by
   rw[oP];intro v hv;rcases aeg.1 hv with h|h
   .exact oP.1 j6 v h
   .exact oP.1 lE v h
  have hS:TR S y1=(match(bj y1)with|some t=>aF S t (S t).bC|none=>S):=rfl
  have px:∀(o:Ow)(es:List AV)(c:Value),RD g.Pr w (.slice o es) c->∀j (h:j<es.length) k (hk:k<(es[j]).cells.length),((es[j]).cells[k]).one=true:=by
   intro o es c h j hj k hk
   cases h with
   |jm=>simp at hj
   |kj=>simp at hj
   |slice _ _ _ _ _ _ _ _ _ _ h1 _ _=>exact h1 j hj k hk
  have Y4:∀j (h:j<xs.length) k (hk:k<(xs[j]).cells.length),∃u,xv[j*i.size+k]?=some u/\RD g.Pr w ((xs[j]).cells[k]) u:=by
   intro j hj k hk
   rcases Gd.nV i.size j6 with⟨rfl,ln⟩|⟨b',off,cap,adL,ln,hl,hn,h1,hr⟩
   .simp at hj
   .obtain⟨u,u1,u2⟩:=hr j hj k hk;refine⟨u,?_,u2⟩
    have aN:j*i.size+k<xv.length:=by
     rw[dX.1,<-hl];exact(aey.1 u1).1
    have e1:=dX.cells qu _ _ (ad_ aN);have e2:=hn _ _ u1
    rcases dX.2 with⟨vp,_⟩|⟨gg,MO,cur,FZ,_⟩
    .rw[vp]at qu;cases qu
    .rw[FZ]at ln qu
     have nL:gg=b:=by simpa[Value.ownBlock]using qu
     subst nL;cases ln;rw[afh,aeP]at e1;rw[aeP]at e2;rw[e2]at e1;rw[ad_ aN,aeE e1]
  have aaX:∀k u,k<g1.hi b->w.cell? ⟨b,k,none⟩=some u->∀news,(xv++news)[k]?=some u:=by
   intro k u hk hu news;rw[b4,AU]at hk
   have aN:k<xv.length:=by rw[dX.1];exact hk
   have e1:=dX.cells qu _ _ (ad_ aN);rw[afh,aeP,hu]at e1;rw[afc aN,ad_ aN,<-aeE e1]
  have fin:∀ v' w' b' news,(Builtin.append_ #[t,t] o.type #[a.eval x1,a.eval x2]).run P w = .ok v' w'→w'.ownsRow g.base e' i.size v' (xs.length+ys.length) (xv++news)→v'.ownBlock=some b' →
    ((b'=b/\w.grownBy w' (some b))\/(b'=w.heap.size/\w.grownBy w' none/\w'.heap.size=w.heap.size+1))->news.length=ys.length*i.size->
    (∀j (h:j<ys.length) k (hk:k<(ys[j]).cells.length),∃u,news[j*i.size+k]?=some u/\RD g.Pr w ((ys[j]).cells[k]) u)->
    dZ P w0 n U g S H a w o { v:=.slice (.own e') (xs++ys),dm:=bj y1 }:=by
   intro v' w' b' news r1 r2 r3 r4 hl hr
   obtain⟨g',e1,e2,R'⟩:=R1.ownRow o.dst hd hi (es:=xs++ys) (by rw[b1,aeu];exact r2) r3 (by
    rcases r4 with⟨rfl,_⟩|⟨rfl,_⟩
    .intro es c hm
     rcases dX.2 with⟨vp,_⟩|⟨gg,MO,cur,FZ,_,acb,_⟩
     .rw[vp]at qu;cases qu
     .rw[FZ]at qu
      have nL:gg=b':=by simpa[Value.ownBlock]using qu
      subst nL;rw[acb]at hm;cases hm
    .intro es c hm;have:=(aea.1 hm).1
     omega) (by
    rcases r4 with⟨rfl,hg⟩|h
    .refine .inl ⟨nh,hg,iX,by rw[b3];exact Y_,by rw[b4,AU,aeu,afK];omega,λk u hk hu=>aaX k u hk hu news,by rw[b2];exact VT⟩
    .exact .inr h) Bk (λj h k hk=>by
     rw[rQ]
     by_cases hj:j<xs.length
     .have ej:(xs++ys)[j]=xs[j]:=aeV hj
      have dp:k<(xs[j]).cells.length:=by rw[<-ej];exact hk
      obtain⟨u,u1,u2⟩:=Y4 j hj k dp;refine⟨u,?_,?_,?_⟩
      .rw[afc (aey.1 u1).1];exact u1
      .simp only[ej];exact u2
      .simp only[ej];exact px _ _ _ Gd j hj k dp
     .have hj2:j-xs.length<ys.length:=by simp only[aeu]at h;omega
      have ej:(xs++ys)[j]=ys[j-xs.length]:=afq zo
      have dp:k<(ys[j-xs.length]).cells.length:=by rw[<-ej];exact hk
      obtain⟨u,u1,u2⟩:=hr _ hj2 k dp;refine⟨u,?_,?_,?_⟩
      .have e3:j * i.size+k=xv.length+((j - xs.length) * i.size+k):=by
        rw[dX.1,<-agG,<-afK];congr 2;omega
       rw[e3,afp zo,Nat.add_sub_cancel_left];exact u1
      .simp only[ej];exact u2
      .simp only[ej];exact px _ _ _ vQ _ hj2 k dp)
   exact⟨v',w',g',.inl (run _ _ r1),e1.trans b1,e2.trans b2,R'⟩
  rcases vQ.nV i.size lE with⟨rfl,Vj,ln⟩|⟨b',off,cap,news,ln,hl,hn,h1,hr⟩
  .refine fin (a.eval x1) w b [] (by rw[ln];exact vx (P:=P) (w:=w) g.base t o.type e' i i.size gp hi _ _ _ dX Vj) (by simpa using dX) qu (.inl ⟨rfl,⟨rfl,rfl,rfl,aed _,λ_ _ _=>rfl⟩⟩) ah7 (λj h=>by simp at h)
  .obtain⟨v',w',b'',r1,r2,r3,r4⟩:=sR (P:=P) (w:=w) g.base t o.type e' i z gp hi hz qP (a.eval x1) xs.length xv b dX qu ⟨b',off,none⟩ ys.length cap news hl (λj u hu=>by rw[afh];exact hn j u hu) h1 zo (bytes _ zo) hle;exact fin v' w' b'' news (by rw[ln];exact r1) r2 r3 r4 hl hr
 .cases he
end
section
variable{P:Program}{w0:World}{n:Nat}{U:Nat->Prop}{g:Gh}{S:au}{H:aD}{a:Act}{w:World}
def M_ (R:Rel P w0 n U g S H a w) {o:Oper} {hr:HR} {t:TypeId} {qw:TypeDesc} {x:Operand} {y:dU} {e:aM} {d:Nat} (ho:o.op = .load t x) (jb:o.dst=some d) (hd:d < n∧¬ U d)
  (gp:P.underlying t=some qw) (lP:ef qw=false) (hx:ep n x=some y) (hu:∀t∈y.tmps,¬U t) (he:ar S H (.loadT hr y)=some e):dZ P w0 n U g S H a w o e:=by
 have hv:=R.ev hx hu;simp only[ar]at he;generalize tI:AL.ev S y=q at he hv;generalize nu:a.eval x=c at hv
 cases hv<;>(try cases he;done)
 case data h=>cases h<;>cases he
 rename_i k off b j9;simp only at he;split at he
 case isFalse=>cases he
 obtain⟨cs,vs,ty,k1,k2,k3,k4,k5,k6,k7,k8,k9⟩:=R.box k b j9;simp only[k1]at he;split at he
 case h_2=>cases he
 rename_i v hv;cases he;obtain⟨aN,rfl⟩:=aey.1 hv
 have od:off<vs.size:=zo
 have eA:(loadVar t ⟨b,off,none⟩).run P w=.ok vs[off] w:=by
  have Y0:(isAgg t).run P w=.ok false w:=by
   unfold isAgg;rw[ael,aet gp w,<-lP]
   cases qw<;>simp[ef]
  have hc:w.cell? ⟨b,off,none⟩=some vs[off]:=by simp[World.cell?,k3,od]
  simp[loadVar,ael,Y0,hc]
 have R1:=R.Jz k b j9 vs vs ty k3 (cs.set off (cs[off]).bC) (by simpa using k6) (fun j h h'=>by
   simp only[af9]at h;rw[ag5];split
   .rename_i hj;subst hj;exact(k7 _ aN od).bC
   .exact k7 j h h') (λj h h'=>by
   simp only[af9]at h;rw[ag5];split
   .exact iO _ _ _
   .exact k8 j h h') (λj h=>by
   simp only[af9]at h;rw[ag5];split
   .have:=k9 off aN;exact(AV.pW _).trans this
   .exact k9 j h)
 rw[setRow_self w b vs ty (0,0) k3]at R1
 have R2:=R1.Ja (.cell k off) (some (.slot d)) (λt h=>by cases h) (λi j jX h hH hj=>by
  cases h;rw[bX]at hH;cases hH;simp only[ahV]
  exact AV.rV _)
 refine⟨vs[off],w,{ g with owner:=λb=>if g.owner b=some (.cell k off)then some (.slot d)else g.owner b },.inl ?_,rfl,rfl,?_⟩
 .unfold execOp;simp[ho,nu,Instr.loadAt,Instr.sureAddr,eA]
 .rw[jb];refine R2.put d _ _ hd.1 (.data _ _ (k7 _ aN od)) ?_;have hh:=k8 off aN od;generalize cs[off]=v at hh;generalize vs[off]=c at hh
  cases v<;>try trivial
  rename_i oo es
  cases oo with
  |view=>trivial
  |nil=>exact hh
  |own e=>
   obtain⟨i,xs,b,h1,h2,h3,h4,h5⟩:=hh;refine⟨i,xs,b,h1,h2,h3,?_,h5⟩;show(if g.owner b=some (.cell k off)then some (.slot d)else g.owner b)=_;rw[if_pos h4]
def run_sliceBound{x:Value}{i:Int}{y:Nat}{code:BoundsCode}(hx:x=.int .i64 i)(h0:0<=i)(h1:i<=y):(Instr.sliceBound x y code).run P w=.ok i.toNat w:=by
 subst hx;simp[Instr.sliceBound,asIntOf,h0,h1]
def B3 (R:Rel P w0 n U g S H a w) {lo hi:Option Operand} {At eJ:Option dU} (vv:nG n lo=some At) (AU:nG n hi=some eJ) (Ek:∀ y∈At,∀ t∈y.tmps,¬ U t) (TI:∀ y∈eJ,∀ t∈y.tmps,¬ U t)
  {len cap:Nat} (hlc:len<=cap) {p q:Int} (hp:bound (At.map (AL.ev S)) 0=some p) (hq:bound (eJ.map (AL.ev S)) len=some q) (h0:0<=p) (h1:p<=q) (h2:q<=len) (sl:Bool):
  (Instr.sliceBounds sl len cap (lo.map a.eval) (hi.map a.eval) none).run P w=.ok (p.toNat,q.toNat,cap) w:=by
 have hh:∀code,(match hi.map a.eval with|some v=>Instr.sliceBound v cap code|none=>(pure len:Sem Nat)).run P w=.ok q.toNat w:=by
  intro code
  cases hi with
  |none=>
   cases AU;simp only[Option.map_none,bound,aeJ]at hq;subst hq;simp
  |some x=>
   simp only[nG,aeo]at AU;obtain⟨y,hy,rfl⟩:=AU;have hv:=R.ev hy (TI y rfl);simp only[Option.map_some,bound]at hq;generalize AL.ev S y=v at hq hv
   split at hq<;>simp only[aeJ,reduceCtorEq]at hq
   .simp_all
   .rename_i m hm;simp only[aeJ]at hm;subst hm;subst hq;simp only[Option.map_some];refine run_sliceBound ?_ zo zo;generalize a.eval x=cx at hv;cases hv;rename_i hv;cases hv;rfl
 have hl:∀code,(match lo.map a.eval with|some v=>Instr.sliceBound v q.toNat code|none=>(pure 0:Sem Nat)).run P w=.ok p.toNat w:=by
  intro code
  cases lo with
  |none=>
   cases vv;simp only[Option.map_none,bound,aeJ]at hp;subst hp;simp
  |some x=>
   simp only[nG,aeo]at vv;obtain⟨y,hy,rfl⟩:=vv;have hv:=R.ev hy (Ek y rfl);simp only[Option.map_some,bound]at hp;generalize AL.ev S y=v at hp hv
   split at hp<;>simp only[aeJ,reduceCtorEq]at hp
   .simp_all
   .rename_i m hm;simp only[aeJ]at hm;subst hm;subst hp;simp only[Option.map_some];refine run_sliceBound ?_ zo zo;generalize a.eval x=cx at hv;cases hv;rename_i hv;cases hv;rfl
 unfold Instr.sliceBounds
 cases hi with
 |none=>
  have h3:=hh .sliceB;simp only[Option.map_none]at h3⊢
  cases lo with
  |none=>have h4:=hl .sliceB;simp only[Option.map_none]at h4⊢;simp at h3 h4;simp[h3,h4]
  |some x=>have h4:=hl .sliceB;simp only[Option.map_some]at h4⊢;simp at h3;simp[h3,h4]
 |some y=>
  have h3:=λc=>hh c
  simp only[Option.map_some]at h3⊢
  cases lo with
  |none=>have h4:=hl .sliceB;simp only[Option.map_none]at h4⊢;simp at h4;simp[h3,h4]
  |some x=>have h4:=hl .sliceB;simp only[Option.map_some]at h4⊢;simp[h3,h4]
def Jm (R:Rel P w0 n U g S H a w) {o:Oper} {t:TypeId} {x:Operand} {lo hi:Option Operand} {y:dU} {At eJ:Option dU} {e:aM} (ho:o.op = .slice t x lo hi none) (hd:∀ t,o.dst=some t→t < n∧¬ U t)
  (gp:P.underlying t=some .string) (hx:ep n x=some y) (hu:∀t∈y.tmps,¬U t) (vv:nG n lo=some At) (AU:nG n hi=some eJ) (Ek:∀y∈At,∀t∈y.tmps,¬U t) (TI:∀y∈eJ,∀t∈y.tmps,¬U t)
  (he:ar S H (.pR y At eJ)=some e):dZ P w0 n U g S H a w o e:=by
 have hv:=R.ev hx hu;simp only[ar]at he;generalize tI:AL.ev S y=q at he hv;generalize nu:a.eval x=c at hv
 cases hv<;>(try cases he;done)
 rename_i h
 cases h<;>simp only at he<;>try cases he
 rename_i l;split at he
 case h_2=>cases he
 rename_i p q hp hq;split at he
 case isFalse=>cases he
 rename_i hc;cases he;have hb:=B3 R vv AU Ek TI (len:=l.length) (aed _) hp hq hc.1 hc.2.1 hc.2.2 false
 refine dZ.val R (λt h=>(hd t h).1) (c:=.string ⟨((l.take q.toNat).drop p.toNat).toArray⟩) ?_ (.data _ _ (.str _)) λ_=>trivial
 have iY:(Instr.sliceBounds false (⟨l.toArray⟩:ByteArray).size (⟨l.toArray⟩:ByteArray).size (lo.map a.eval) (hi.map a.eval) none).run P w=.ok (p.toNat,q.toNat,l.length) w:=hb;unfold execOp;simp only[ho,nu,Instr.sliceAt,ael,aet gp,Result.andThen_ok,Option.map_none,Instr.slice,Option.isSome_none,aek,aeA,Sem.run_pure,iY];rw[ByteArray.extract_mk,List.drop_take]
def Ig (R:Rel P w0 n U g S H a w) {o:Oper} {t el:TypeId} {i:TypeInfo} {x:Operand} {lo hi:Option Operand} {y:dU} {At eJ:Option dU} {e:aM} (ho:o.op = .slice t x lo hi none) (hd:∀ t,o.dst=some t→t < n∧¬ U t)
  (gp:P.underlying t=some (.slice el)) (Tg:P.info? el=some i) (hx:ep n x=some y) (hu:∀t∈y.tmps,¬U t) (vv:nG n lo=some At) (AU:nG n hi=some eJ) (Ek:∀y∈At,∀t∈y.tmps,¬U t) (TI:∀y∈eJ,∀t∈y.tmps,¬U t)
  (he:ar S H (.oR i.size y At eJ)=some e):dZ P w0 n U g S H a w o e:=by
 have hv:=R.ev hx hu;simp only[ar]at he;generalize tI:AL.ev S y=q at he hv;generalize nu:a.eval x=c at hv
 cases hv<;>(try cases he;done)
 rename_i h
 have key:∀ (es:List AV) (ad:Option Addr) (cap:Nat),es.length≤cap→c = .slice ad es.length cap→∀ p q:Int,bound (At.map (AL.ev S)) 0=some p→bound (eJ.map (AL.ev S)) es.length=some q→0≤p→p≤q→q≤es.length →
   (execOp a.eval o).run P w=.ok (.value (.slice (if cap=p.toNat then ad else ad.map (·.add (p.toNat*i.size))) (q.toNat-p.toNat) (cap-p.toNat))) w:=by
  rintro es ad cap gq rfl p q hp hq h0 h1 h2;have hb:=B3 R vv AU Ek TI gq hp hq h0 h1 h2 true;unfold execOp;simp[ho,nu,Instr.sliceAt,ael,aet gp,Instr.slice,hb,sizeOf,typeInfo,Tg]
 cases h with
 |jm oo=>
  simp only at he;split at he
  case h_2=>cases he
  rename_i p q hp hq;split at he
  case isFalse=>cases he
  rename_i hc;cases he;have hk:=key [] none 0 (aed _) rfl p q hp hq hc.1 hc.2.1 hc.2.2.1
  have XO:q.toNat=0:=by have:=hc.2.2.1;simp at this;omega
  have V9:p.toNat=0:=by have:=hc.2.1;omega
  refine dZ.val R (λt h=>(hd t h).1) hk (.data _ _ ?_) λ_=>trivial
  simp[XO,V9];exact .jm _
 |kj oo a0=>
  simp only at he;split at he
  case h_2=>cases he
  rename_i p q hp hq;split at he
  case isFalse=>cases he
  rename_i hc;cases he;have hk:=key [] (some a0) 0 (aed _) rfl p q hp hq hc.1 hc.2.1 hc.2.2.1
  have XO:q.toNat=0:=by have:=hc.2.2.1;simp at this;omega
  have V9:p.toNat=0:=by have:=hc.2.1;omega
  refine dZ.val R (λt h=>(hd t h).1) hk (.data _ _ ?_) λ_=>trivial
  simp[XO,V9];exact .kj _ _
 |slice oo es b off cap size cs gq vC cM h1 ln hr=>
  simp only at he;split at he
  case h_2=>cases he
  rename_i p q hp hq;split at he
  case isFalse=>cases he
  rename_i hc;cases he;have hk:=key es (some ⟨b,off,none⟩) cap gq rfl p q hp hq hc.1 hc.2.1 hc.2.2.1;have df:=oP.1 hc.2.2.2
  have hlq:q.toNat<=es.length:=by have:=hc.2.2.1;omega
  have hpq:p.toNat<=q.toNat:=by have:=hc.2.1;omega
  have hlen:((es.take q.toNat).drop p.toNat).length=q.toNat-p.toNat:=by simp;omega
  refine dZ.val R (λt h=>(hd t h).1) hk (.data _ _ ?_) λ_=>trivial
  by_cases hm:cap=p.toNat
  .rw[if_pos hm];have vp:(es.take q.toNat).drop p.toNat=[]:=aeT zo;rw[vp,show q.toNat-p.toNat=([]:List AV).length by simp;omega];exact .slice _ [] b off _ 0 cs (ae2 _) (λh=>by cases h) (λi h=>by simp at h) (λi h=>by simp at h) (λk hk=>by simp at hk) (λi h=>by simp at h)
  .rw[if_neg hm];simp only[Option.map_some,afh];rw[<-hlen]
   have jL:∀j (h:j<((es.take q.toNat).drop p.toNat).length),((es.take q.toNat).drop p.toNat)[j]=es[p.toNat+j]'(by rw[hlen]at h;omega):=by intro j h;simp
   by_cases oI:es=[]
   .subst oI
    have vp:(([]:List AV).take q.toNat).drop p.toNat=[]:=ah7
    rw[vp];exact .slice _ [] b _ _ 0 cs (ae2 _) (λh=>by cases h) (λi h=>by simp at h) (λi h=>by simp at h) (λk hk=>by simp at hk) (λi h=>by simp at h)
   .have ky:0<es.length:=afi.2 oI
    have hss:size=i.size:=by rw[<-cM 0 ky];exact(df _ (ad2 ky)).2
    subst hss;refine .slice _ _ b _ _ i.size (λk=>cs (p.toNat*i.size+k)) zo (λh=>by cases h) (λj h=>by rw[jL j h];exact cM _ _) (λj h k hk=>by have:=jL j h;simp only[this]at hk⊢;exact h1 _ _ k hk) (λk hk=>?_) (λj h k hk=>?_)
    .rw[hlen]at hk
     have:p.toNat*i.size+k<es.length*i.size:=by
      calc p.toNat*i.size+k<p.toNat*i.size+(q.toNat-p.toNat)*i.size:=by omega
       _=q.toNat*i.size:=by rw[<-afK];congr 1;omega
       _<=es.length*i.size:=afy _ hlq
     have:=ln _ this;rwa [<-agG]at this
    .have e:=jL j h;simp only[e]at hk⊢;have:=hr (p.toNat+j) (by rw[hlen]at h;omega) k hk;rwa [afK,agG]at this
 |_=>cases he
def CT (R:Rel P w0 n U g S H a w) {o:Oper} {neg:Bool} {t t' el:TypeId} {x:Operand} {y:dU} {e:aM} (ho:o.op = .binOp (if neg then .neq else .eql) t x (.const (.slice none 0 0)) t') (hd:∀ t,o.dst=some t→t < n∧¬ U t)
  (ht:P.underlying t=some (.slice el)) (hx:ep n x=some y) (hu:∀t∈y.tmps,¬U t) (he:ar S H (.isNil neg y)=some e):dZ P w0 n U g S H a w o e:=by
 have hv:=R.ev hx hu;simp only[ar]at he;generalize tI:AL.ev S y=q at he hv;generalize nu:a.eval x=c at hv
 have run:∀ad l k,c=.slice ad l k->(execOp a.eval o).run P w=.ok (.value (.bool (if neg then !ad.isNone else ad.isNone))) w:=by
  rintro ad l k rfl;have hg:=iK (P:=P) (w:=w) (if neg then .neq else .eql) t x (.const (.slice none 0 0)) (.slice ad l k) (.slice none 0 0) rfl
  have hE:(Op.equal t (.slice ad l k) (.slice none 0 0)).run P w=.ok ad.isNone w:=by
   unfold Op.equal Op.maxDepth Op.equalIn
   cases ad<;>simp[aet ht]
  have X5:a.eval (.const (.slice none 0 0))=.slice none 0 0:=rfl;cases neg
  .simp only[aek,aeA]at ho hg⊢;simp[execOp,ho,nu,X5,hg,binOp,hE]
  .simp only[aeH]at ho hg⊢;simp[execOp,ho,nu,X5,hg,binOp,hE]
 cases hv<;>(try cases he;done)
 rename_i h
 cases h<;>simp only at he<;>try cases he
 .exact dZ.val R (λt h=>(hd t h).1) (run _ _ _ rfl) (.data _ _ (.mW _)) λ_=>trivial
 .exact dZ.val R (λt h=>(hd t h).1) (run _ _ _ rfl) (.data _ _ (.mW _)) λ_=>trivial
 .rename_i oo es b off cap sz cs gq vC cM h1 hc hr
  refine dZ.val R (λt h=>(hd t h).1) (run _ _ _ rfl) (.data _ _ ?_) λ_=>by cases es<;>trivial
  cases es
  .exact .mW _
  .simp only[List.isEmpty_cons,aek,aeA,Option.isNone_some,ahn]
   cases neg<;>exact .bool _
def K_ (R:Rel P w0 n U g S H a w) {o:Oper} {t el:TypeId} {i:TypeInfo} {e:aM} (ho:o.op = .buildSlice t 0 #[]) (hd:∀ t,o.dst=some t→t < n∧¬ U t)
  (gp:P.underlying t=some (.slice el)) (hi:P.info? el=some i) (he:ar S H (.empty el)=some e):dZ P w0 n U g S H a w o e:=by
 cases he;have hb:Below w.heap.size w (w.alloc (.cells #[] el)):=(afb _ _).alloc (aed _) _;refine⟨.slice (some ⟨w.heap.size,0,none⟩) 0 0,w.alloc (.cells #[] el),g,.inl ?_,rfl,rfl,(R.kG hb).bl o.dst _ _ (λt h=>(hd t h).1) (.data _ _ ?_) λ_ _=>trivial⟩
 .unfold execOp;have hz:(Array.map (λ_:Nat=>(default:Value)) (Array.range 0))=#[]:=afI ah7;simp[ho,Instr.buildSlice,aet gp,sizeOf,typeInfo,hi,Instr.fill,newRow,hz]
 .exact .slice _ [] _ 0 0 0 (λ_=>undef) (ae2 _) (λ_=>rfl) (λi h=>by simp at h) (λi h=>by simp at h) (λk hk=>by simp at hk) (λi h=>by simp at h)
def J7 (R:Rel P w0 n U g S H a w) {o:Oper} {xt t:TypeId} {dt:TypeDesc} {i:TypeInfo} {z:Value} {zs:List AV} {x:Operand} {y:dU} {e:aM} (ho:o.op = .typeAssert x xt t true) (hd:∀ t,o.dst=some t→t < n∧¬ U t)
  (ht:P.underlying t=some dt) (DB:∀ms,dt≠.interface ms) (hi:P.info? t=some i) (hz:i.zero=some (.agg z.cells)) (qP:jB z.cells.toList=some zs) (hx:ep n x=some y) (hu:∀t∈y.tmps,¬U t)
  (he:ar S H (.assert t (.agg zs) y)=some e):dZ P w0 n U g S H a w o e:=by
 have hv:=R.ev hx hu;simp only[ar]at he;generalize tI:AL.ev S y=q at he hv;generalize nu:a.eval x=c at hv;have OM:=(jg g.Pr w qP).1;have XE:RD g.Pr w (.agg zs) (.agg z.cells):=.agg _ _ (by simpa using OM.1) OM.2.2 (λi h h'=>by simpa using OM.2.1 i h (by simpa using h'))
 have two:∀(v:AV)(c:Value)(b:Bool),RD g.Pr w v c->RD g.Pr w (.ea [v,.bool b]) (.tuple #[c,.bool b]):=by
  intro v c b h
  refine .ea _ _ rfl λi hi eJ=>?_
  match i,hi with
  |0,_=>exact h
  |1,_=>exact .bool b
 cases hv<;>(try cases he;done)
 rename_i h
 cases h<;>simp only at he<;>try cases he
 .rename_i t' v c' h
  refine dZ.val R (λt h=>(hd t h).1) (c:=if t'=t then .tuple #[c',.bool true]else .tuple #[.agg z.cells,.bool false]) ?_ (.data _ _ ?_) λ_=>by split<;>trivial
  .unfold execOp;simp only[ho,nu,Instr.typeAssert,ael,aet ht,Result.andThen_ok]
   cases dt<;>first|exact absurd rfl (DB _)|skip
   all_goals (split<;>simp[zeroValue,typeInfo,hi,hz])
  .split
   .exact two _ _ _ h
   .exact two _ _ _ XE
 .refine dZ.val R (λt h=>(hd t h).1) (c:=.tuple #[.agg z.cells,.bool false]) ?_ (.data _ _ (two _ _ _ XE)) λ_=>trivial
  unfold execOp;simp only[ho,nu,Instr.typeAssert,ael,aet ht,Result.andThen_ok]
  cases dt<;>first|exact absurd rfl (DB _)|skip
  all_goals simp[zeroValue,typeInfo,hi,hz]
end
def wS(k:TypeId->Option Nat):List Field->Nat->Option Nat
 |[],acc=>some acc
 |f::fs,acc=>if f.name = "_" \/ f.offset≠acc then none else
  match k f.type with
  |some m=>wS k fs (acc+m)
  |none=>none
def np(P:Program):Nat->TypeId->Option Nat
 |0,_=>none
 |d+1,t=>match P.underlying t,P.info? t with
  |some (.int .i64),some i=>if i.size=1 then some 1 else none
  |some (.struct fs),some i=>if P.stoodInHeld t=false/\wS (np P d) fs.toList 0=some i.size then some i.size else none
  |_,_=>none
def ik(l:List Int):Array Value:=(l.map (Value.int .i64)).toArray
def pv(P:Program)(t:TypeId)(l:List Int):Value:=
 match P.underlying t with
 |some (.int _)=>.int .i64 (l.headD 0)
 |_=>.agg (ik l)
section
variable{P:Program}{w:World}
def BA {d:Nat} {t:TypeId} {k:Nat} (h:np P d t=some k) (l:List Int) (off:Nat) (hl:off+k≤l.length) :
  (part t (ik l) off).run P w=.ok (pv P t ((l.drop off).take k)) w:=by
 cases d with
 |zero=>cases h
 |succ d=>
  simp only[np]at h;split at h
  .rename_i i hu hi
   split at h<;>cases h
   rename_i hs
   have lP:(isAgg t).run P w=.ok false w:=by
    unfold isAgg;rw[ael,aet hu w];simp
   have aN:off<l.length:=zo
   have xC:((l.drop off).take 1).headD 0=l[off]:=by
    rw[afT aN];rfl
   simp only[part,ael,lP,Result.andThen_ok,aek,aeA,pv,hu,xC];simp[ik,aN]
  .rename_i fs i hu hi
   split at h<;>cases h
   have lP:(isAgg t).run P w=.ok true w:=by
    unfold isAgg;rw[ael,aet hu w];simp
   simp only[part,ael,lP,Result.andThen_ok,aeH,pv,hu];simp only[sizeOf,typeInfo,ael];simp[ik,af1,ahr,hi]
  .cases h
def P3(a b:List Int)(k:Nat)(h:a.length=b.length):(a==b)=((a.take k==b.take k)&&(a.drop k==b.drop k)):=by
 rw[aeW];simp only[aeb,aeS]
 constructor
 .rintro rfl;exact⟨rfl,rfl⟩
 .rintro⟨h1,h2⟩;rw[<-afa k a,<-afa k b,h1,h2]
def ze {d:Nat} (ih:∀ t k,np P d t=some k→∀ a b:List Int,a.length=k→b.length=k→(Op.equalIn d t (pv P t a) (pv P t b)).run P w = .ok (a==b) w) :
  ∀(fs:List Field)(acc p_:Nat),wS (np P d) fs acc=some p_->∀l m:List Int,l.length=p_->m.length=p_->
   acc<=p_/\(Op.eqFields d (ik l) (ik m) fs).run P w=.ok (l.drop acc==m.drop acc) w
 |[],acc,p_,h,l,m,hl,hm=>by
  cases h;refine⟨aed _,?_⟩;have e1:l.drop acc=[]:=afj zo;have e2:m.drop acc=[]:=afj zo;rw[e1,e2];simp[Op.eqFields]
 |f::fs,acc,p_,h,l,m,hl,hm=>by
  simp only[wS]at h;split at h
  case isTrue=>cases h
  rename_i hn;simp only[not_or,ne_eq,ag2]at hn;split at h
  case h_2=>cases h
  rename_i k hk;obtain⟨hle,zQ⟩:=ze ih fs (acc+k) p_ h l m hl hm;refine⟨zo,?_⟩;have e1:=BA (w:=w) hk l acc zo;have e2:=BA (w:=w) hk m acc zo;have e3:=ih f.type k hk ((l.drop acc).take k) ((m.drop acc).take k) (by simp;omega) (by simp;omega);simp only[Op.eqFields,ne_eq,hn.1,not_false_eq_true,aeH,hn.2,ael,e1,e2,Result.andThen_ok,e3];rw[P3 (l.drop acc) (m.drop acc) k (by simp;omega)];rw[agA,agA];generalize((l.drop acc).take k==(m.drop acc).take k)=q
  cases q with
  |false=>simp
  |true=>simpa using zQ
def sj:∀(d:Nat)(t:TypeId)(k:Nat),np P d t=some k->∀a b:List Int,a.length=k->b.length=k->(Op.equalIn d t (pv P t a) (pv P t b)).run P w=.ok (a==b) w
 |0,t,k,h,a,b,ha,hb=>by cases h
 |d+1,t,k,h,a,b,ha,hb=>by
  simp only[np]at h;split at h
  .rename_i i hu hi
   split at h<;>cases h
   match a,ha,b,hb with
   |[x],_,[y],_=>
    simp only[pv,hu];rw[run_equalIn_int w d t .i64 .i64 _ _ hu];simp
  .rename_i fs i hu hi
   split at h<;>cases h
   rename_i hc
   have hf:P.fieldsOf t=fs:=by simp[Program.fieldsOf,hu]
   simp only[pv,hu];rw[run_equalIn_struct w d t _ _ (by rw[hf];exact hu) hc.1,hf];exact(ze (sj d) fs.toList 0 i.size hc.2 a b ha hb).2
  .cases h
def rP {Pr:Nat→Nat→Prop}:∀ {xs:List AV} {a:List Int},lv xs=some a→∀ {vs:List Value},xs.length=vs.length →
  (∀i (h:i<xs.length)(h':i<vs.length),RD Pr w xs[i] vs[i])->vs=a.map (Value.int .i64)/\a.length=xs.length
 |[],a,h,vs,hl,hr=>by
  cases h;have:vs=[]:=afL.1 hl.symm;subst this;exact⟨rfl,rfl⟩
 |x::xs,a,h,vs,hl,hr=>by
  cases vs with
  |nil=>simp at hl
  |cons v vs=>
   unfold lv at h;split at h
   .rename_i e;cases e
   .rename_i n cs e;cases e;simp only[aeo]at h;obtain⟨a',ha,rfl⟩:=h;have h0:=hr 0 ah7 ah7;simp only[List.getElem_cons_zero]at h0;cases h0;obtain⟨h1,h2⟩:=rP ha (by simpa using hl) (λi h h'=>hr (i+1) (by simpa using h) (by simpa using h'));rw[h1];exact⟨rfl,by simp[h2]⟩
   .cases h
variable{w0:World}{n:Nat}{U:Nat->Prop}{g:Gh}{S:au}{H:aD}{a:Act}
def GX (R:Rel P w0 n U g S H a w) {o:Oper} {neg:Bool} {k:Nat} {t t':TypeId} {fs:Array Field} {x1 x2:Operand} {y1 y2:dU} {e:aM} (ho:o.op = .binOp (if neg then .neq else .eql) t x1 x2 t') (hd:∀ t,o.dst=some t→t < n∧¬ U t)
  (gp:P.underlying t=some (.struct fs)) (hk:np P 10000 t=some k) (DL:P.eqGuardType P.depth t=false) (ph:ep n x1=some y1) (nx:ep n x2=some y2) (qS:∀t∈y1.tmps,¬U t) (q':∀t∈y2.tmps,¬U t)
  (he:ar S H (.eqs neg k y1 y2)=some e):dZ P w0 n U g S H a w o e:=by
 have gm:=R.ev ph qS;have fM:=R.ev nx q';simp only[ar]at he;generalize AL.ev S y1=p1 at he gm;generalize AL.ev S y2=p2 at he fM;generalize lE:a.eval x1=c1 at gm;generalize j6:a.eval x2=c2 at fM;split at he
 case h_2=>cases he
 rename_i xs ys;split at he
 case h_2=>cases he
 rename_i C4 bs ha hb
 split at he<;>cases he
 rename_i hlen;have q1:=gm.eP rfl;have q2:=fM.eP rfl;cases q1;rename_i vs hl h1 hr;cases q2;rename_i us pk Lp jV;obtain⟨e1,_⟩:=rP (vs:=vs.toList) ha (by simpa using hl) (λi h h'=>by simpa using hr i h (by simpa using h'));obtain⟨e2,_⟩:=rP (vs:=us.toList) hb (by simpa using pk) (λi h h'=>by simpa using jV i h (by simpa using h'))
 have f1:vs=ik C4:=by rw[ik,<-e1]
 have f2:us=ik bs:=by rw[ik,<-e2]
 subst f1 f2;have hE:=sj (P:=P) (w:=w) 10000 t k hk C4 bs hlen.1 hlen.2;simp only[pv,gp]at hE;have hg:=run_eqGuard_agg w (if neg then .neq else .eql) t x1 x2 (ik C4) (ik bs) DL
 refine dZ.val R (λt h=>(hd t h).1) (c:=.bool (if neg then C4 !=bs else C4==bs)) ?_ (.data _ _ (.bool _)) λ_=>trivial
 cases neg with
 |true=>
  simp only[aeH]at ho hg⊢;simp[execOp,ho,lE,j6,hg,run_neq_struct,hE,bne,ael]
 |false=>
  simp only[aek,aeA]at ho hg⊢;simp[execOp,ho,lE,j6,hg,run_eql_struct,hE,ael]
end
section
variable{P:Program}{w0:World}{n:Nat}{U:Nat->Prop}{g:Gh}{S:au}{H:aD}{a:Act}{w:World}
def ID (R:Rel P w0 n U g S H a w) {o:Oper} {t el:TypeId} {len:Nat} {it ie:TypeInfo} {z:Value} {ps:Array (Nat×Operand)} {zs:List AV} {qs:List (Nat×Nat×dU)} {e:aM} (ho:o.op = .build t ps) (hd:∀ t,o.dst=some t→t < n∧¬ U t)
  (hi:P.info? t=some it) (gp:P.underlying t=some (.array len el)) (hz:it.zero=some z) (Ka:P.info? el=some ie) (qP:jB z.cells.toList=some zs) (hq:uK n (λi=>some (i*ie.size,ie.size)) ps.toList=some qs)
  (hu:∀q∈qs,∀t∈q.2.2.tmps,¬U t) (he:ar S H (.build (zs.map AV.bC) qs)=some e):dZ P w0 n U g S H a w o e:=by
 simp only[ar,aeo]at he;obtain⟨jX,hc,rfl⟩:=he;have O9:=(jg g.Pr w qP).1
 have I2:qv g.Pr w (zs.map AV.bC) z.cells:=by
  refine⟨by simpa using O9.1,λi h h'=>?_,λi h=>?_⟩
  .simp only[aef]at h;have:=(O9.2.1 i h (by simpa using h')).bC;simpa using this
  .simp only[aef]at h;have:=O9.2.2 i h;simp only[aep];exact(AV.pW _).trans this
 obtain⟨mh,h1,h2⟩:=vN R hq hu I2 hc
 have hb:P.built t (ps.map λ(i,x)=>(i,a.eval x)).toList=some mh:=by
  unfold Program.built;simp only[hi,gp,hz,Ka,ag4];exact h1
 refine dZ.val R (λt h=>(hd t h).1) (c:=.agg mh) ?_ (.data _ _ (.agg _ _ h2.1 h2.2.2 h2.2.1)) λ_=>trivial
 unfold execOp;simp only[ho,ael,aic w t _ mh hb,Result.andThen_ok]
 rfl
def LG {Pr:Nat→Nat→Prop} {ty:TypeId} {i:TypeInfo} {qw:TypeDesc} (hi:P.info? ty=some i) (hu:P.underlying ty=some qw) {cs:List AV} {vs:Array Value} {off:Nat} {v:AV}
  (hr:RD Pr w (.agg cs) (.agg vs)) (he:bu (ef qw) i.size (cs.drop off)=some v):∃c,(part ty vs off).run P w=.ok c w/\RD Pr w v c:=by
 cases hr;rename_i h1 hl hr
 have lP:(isAgg ty).run P w=.ok (ef qw) w:=by
  unfold isAgg;rw[ael,aet hu w]
  cases qw<;>simp[ef]
 generalize ef qw=q at he lP
 cases q with
 |true=>
  simp only[bu,aeH,aeM]at he;split at he
  case isFalse=>cases he
  rename_i hle;cases he;refine⟨.agg (vs.extract off (off+i.size)),by simp[part,ael,lP,sizeOf,typeInfo,hi],?_⟩
  refine .agg _ _ (by simp;omega) (λk hk=>?_) λk hk dp=>?_
  .simp only[aef,aes,aeM]at hk;simp only[aep,ag0,afw];have:=h1 (off+k) zo;exact(AV.pW _).trans this
  .simp only[aef,aes,aeM]at hk;have:=(hr (off+k) zo zo).bC;simpa using this
 |false=>
  simp only[bu,aek,aeA,aeo]at he;obtain⟨v0,Wt,rfl⟩:=he;simp only[agr,Nat.add_zero]at Wt;obtain⟨h0,rfl⟩:=aey.1 Wt
  have hv:off<vs.size:=zo
  exact⟨vs[off],by simp[part,ael,lP,hv],(hr off h0 hv).bC⟩
def I7 (R:Rel P w0 n U g S H a w) {o:Oper} {t el:TypeId} {len:Nat} {ie:TypeInfo} {qw:TypeDesc} {x1 x2:Operand} {y1 y2:dU} {e:aM} (ho:o.op = .index t x1 x2) (hd:∀ t,o.dst=some t→t < n∧¬ U t)
  (gp:P.underlying t=some (.array len el)) (hi:P.info? el=some ie) (hue:P.underlying el=some qw) (ph:ep n x1=some y1) (nx:ep n x2=some y2) (qS:∀t∈y1.tmps,¬U t) (q':∀t∈y2.tmps,¬U t)
  (he:ar S H (.nJ (ef qw) len ie.size y1 y2)=some e):dZ P w0 n U g S H a w o e:=by
 have gm:=R.ev ph qS;have fM:=R.ev nx q';simp only[ar]at he;generalize AL.ev S y1=p1 at he gm;generalize AL.ev S y2=p2 at he fM;generalize lE:a.eval x1=c1 at gm;generalize j6:a.eval x2=c2 at fM;split at he
 case h_2=>cases he
 rename_i cs k;split at he
 case isFalse=>cases he
 rename_i hk;simp only[aeo]at he;obtain⟨v,hv,rfl⟩:=he;have q1:=gm.eP rfl;have q2:=fM.eP rfl;cases q2;have q1':=q1;cases q1;obtain⟨c,h1,h2⟩:=LG (P:=P) hi hue q1' hv
 refine dZ.val R (λt h=>(hd t h).1) (c:=c) ?_ (.data _ _ h2) λ_=>?_
 .simp only[execOp,ho,lE,j6,Instr.index,ael];simp[asIntOf,aet gp,hk,sizeOf,typeInfo,hi,ael,h1]
 .simp only[bu]at hv;split at hv
  .split at hv<;>cases hv;trivial
  .simp only[aeo]at hv;obtain⟨u,_,rfl⟩:=hv;exact iO _ _ _
def BQ{Pr:Nat->Nat->Prop}:∀{es:List AV}{l:List UInt8},bytesOf es=some l->l.length=es.length/\∀j (h:j<es.length)(h':j<l.length),es[j]=.int .u8 (l[j].toNat:Int)
 |[],l,h=>by cases h;exact⟨rfl,λj h=>by simp at h⟩
 |x::es,l,h=>by
  unfold bytesOf at h;split at h
  .rename_i e;cases e
  .rename_i m cs e;cases e;split at h
   case isFalse=>cases h
   rename_i hm;simp only[aeo]at h;obtain⟨l',hl,rfl⟩:=h;obtain⟨h1,h2⟩:=BQ (Pr:=Pr) hl;refine⟨by simp[h1],λj hj eX=>?_⟩
   cases j with
   |zero=>
    simp only[List.getElem_cons_zero]
    have:((UInt8.ofNat m.toNat).toNat:Int)=m:=by
     have h3:m.toNat<256:=zo
     simp[UInt8.toNat_ofNat',Nat.mod_eq_of_lt h3];omega
    rw[this]
   |succ j=>simpa using h2 j (by simpa using hj) (by simpa using eX)
  .cases h
def PJ (R:Rel P w0 n U g S H a w) {o:Oper} {s d el:TypeId} {x:Operand} {y:dU} {e:aM} (ho:o.op = .convert s d x) (hd:∀ t,o.dst=some t→t < n∧¬ U t)
  (hs:P.underlying s=some (.slice el)) (Pc:P.underlying el=some (.int .u8)) (yu:P.underlying d=some .string) (hx:ep n x=some y) (hu:∀t∈y.tmps,¬U t)
  (he:ar S H (.Aw y)=some e):dZ P w0 n U g S H a w o e:=by
 have hv:=R.ev hx hu;simp only[ar]at he;generalize AL.ev S y=p at he hv;generalize hc:a.eval x=c at hv;split at he
 case h_2=>cases he
 rename_i ow es;simp only[aeo]at he;obtain⟨l,hl,rfl⟩:=he;obtain⟨hlen,jL⟩:=BQ (Pr:=g.Pr) hl;have q:=hv.eP rfl
 cases q with
 |jm=>
  have:l=[]:=afL.1 (by simpa using hlen);subst this
  refine dZ.val R (λt h=>(hd t h).1) (c:=.string ByteArray.empty) ?_ (.data _ _ (.str [])) λ_=>trivial
  simp[execOp,ho,hc,run_convert_bytes_nil w s el hs Pc 0 0 d yu]
 |kj _ a0=>
  have:l=[]:=afL.1 (by simpa using hlen);subst this
  refine dZ.val R (λt h=>(hd t h).1) (c:=.string ByteArray.empty) ?_ (.data _ _ (.str [])) λ_=>trivial
  have RA:(convert s d (.slice (some a0) 0 0)).run P w=.ok (.string ByteArray.empty) w:=by
   rw[run_convert_bytes_string w s d el _ 0 0 hs Pc yu];simp[Conv.bytesToString,loadCells,loadCellsFrom]
  simp[execOp,ho,hc,RA]
 |slice _ _ b off cap size cs gq vC cM h1 gr hr=>
  refine dZ.val R (λt h=>(hd t h).1) (c:=.string ⟨l.toArray⟩) ?_ (.data _ _ (.str l)) λ_=>trivial
  have RA:=run_convert_bytes_back (P:=P) w s d el ⟨b,off,none⟩ cap l hs Pc yu (λj hj=>by
   have eX:j<es.length:=zo
   have e1:=jL j eX hj;have yf:=cM j eX
   have lL:(es[j]).cells.length=1:=by rw[e1];rfl
   have YG:size=1:=by rw[<-yf,lL]
   subst YG;have h2:=gr j zo;have h3:=hr j eX 0 (by rw[lL];omega)
   have h4:(es[j]).cells[0]'(by rw[lL];omega)=.int .u8 (l[j].toNat:Int):=by
    have:∀(v:AV)(hh:0<v.cells.length)(q:AV),v=q->(h':0<q.cells.length)->v.cells[0]=q.cells[0]:=by rintro v hh q rfl _;rfl
    rw[this _ _ _ e1 (by simp[AV.cells])]
    rfl
   rw[h4]at h3;simp only[afW,Nat.add_zero]at h3;rw[afh,h2.2];generalize cs j=u at h3;cases h3
   rfl)
  rw[hlen]at RA;simp[execOp,ho,hc,RA]
end
section
variable{P:Program}{w:World}
def vo{α:Type}(f:α->PUnit->Sem (ForInStep PUnit)):∀(l:List α),(∀x∈l,(f x PUnit.unit).run P w=.ok (ForInStep.yield PUnit.unit) w)->(forIn l PUnit.unit f:Sem PUnit).run P w=.ok PUnit.unit w
 |[],_=>ah7
 |x::l,h=>by
  simp only[List.forIn_cons,ael,h x aen,Result.andThen_ok]
  exact vo f l λy hy=>h y (aei _ hy)
def B'{k:TypeId->Option Nat}:∀{fs:List Field}{acc p_:Nat},wS k fs acc=some p_->acc<=p_/\∀f∈fs,∃m,k f.type=some m/\f.offset+m<=p_
 |[],acc,p_,h=>by cases h;exact⟨aed _,λ_ h=>by cases h⟩
 |f::fs,acc,p_,h=>by
  simp only[wS]at h;split at h
  case isTrue=>cases h
  rename_i hn;simp only[not_or,ne_eq,ag2]at hn;split at h
  case h_2=>cases h
  rename_i m hm;obtain⟨h1,h2⟩:=B' h;refine⟨zo,λf' rG=>?_⟩;rcases aeD.1 rG with rfl|rG
  .exact⟨m,hm,zo⟩
  .exact h2 f' rG
def vR(b:Bool):∀(d:Nat)(t:TypeId)(k:Nat),np P d t=some k->∀a:List Int,a.length=k->(Instr.checkKey b d t (pv P t a)).run P w=.ok () w
 |0,t,k,h,a,ha=>by cases h
 |d+1,t,k,h,a,ha=>by
  simp only[np]at h;split at h
  .rename_i i hu hi;simp[Instr.checkKey,aet hu,pv,hu]
  .rename_i fs i hu hi
   split at h<;>cases h
   rename_i hc;obtain⟨_,hm⟩:=B' hc.2;simp only[Instr.checkKey,ael,aet hu,Result.andThen_ok,pv,hu];rw[<-Array.forIn_toList];rw[vo (P:=P) (w:=w)]
   .simp
   .intro f hf;obtain⟨m,h1,h2⟩:=hm f hf;rw[Sem.run_ite];split
    .simp only[ael,BA (w:=w) h1 a f.offset zo,Result.andThen_ok,vR b d f.type m h1 ((a.drop f.offset).take m) (by simp;omega),Sem.run_pure]
    .simp
  .cases h
def mw {kt:TypeId} {fs:Array Field} {k:Nat} (hu:P.underlying kt=some (.struct fs)) (hk:np P 10000 kt=some k) {Pr:Nat→Nat→Prop} (key:List Int) (hl:key.length=k) :
  ∀(ks vs:List AV)(es:List MapEntry)(i:Nat)(r:Option AV),ks.length=es.length->vs.length=es.length->(∀j (h:j<ks.length)(h':j<es.length),RD Pr w ks[j] (es[j]).key)->(∀j (h:j<vs.length)(h':j<es.length),RD Pr w vs[j] (es[j]).val)->
   pM key ks vs=some r->∃q,(Instr.findAsking kt (.agg (ik key)) es i).run P w=.ok q w/\(match r,q with
    |none,none=>True
    |some v,some (_,c)=>RD Pr w v c
    |_,_=>False)
 |[],vs,es,i,r,h1,h2,_,_,h=>by
  have:es=[]:=afL.1 h1.symm;subst this;cases h;exact⟨none,by simp[Instr.findAsking],trivial⟩
 |kk::ks,vs,[],i,r,h1,_,_,_,_=>by simp at h1
 |kk::ks,[],e::es,i,r,_,h2,_,_,_=>by simp at h2
 |kk::ks,v::vs,e::es,i,r,h1,h2,hr,jV,h=>by
  unfold pM at h;split at h
  .rename_i e1;cases e1
  .rename_i c ks' v' mh e1 e2;cases e1;cases e2;split at h
   case h_2=>cases h
   rename_i m hm;split at h
   case isTrue=>cases h
   rename_i UF;simp only[ne_eq,ag2]at UF;have h0:=hr 0 ah7 ah7;simp only[List.getElem_cons_zero]at h0;have ES:=h0;generalize hek:e.key=ek at h0;cases h0;rename_i us h3 h4 h5;obtain⟨e3,_⟩:=rP (vs:=us.toList) hm (by simpa using h3) (λi h h'=>by simpa using h5 i h (by simpa using h'))
   have f1:us=ik m:=by rw[ik,<-e3]
   have hE:=sj (P:=P) (w:=w) 10000 kt k hk key m hl zo;simp only[pv,hu]at hE;rw[<-f1]at hE
   have hE':(Op.equal kt (.agg (ik key)) e.key).run P w=.ok (key==m) w:=by rw[hek];exact hE
   split at h
   .rename_i hb;cases h;exact⟨some (i,e.val),by simp[Instr.findAsking,hE',hb],jV 0 ah7 ah7⟩
   .rename_i hb;obtain⟨q,q1,q2⟩:=mw hu hk key hl ks vs es (i+1) r (by simpa using h1) (by simpa using h2) (λj h h'=>hr (j+1) (by simpa using h) (by simpa using h')) (λj h h'=>jV (j+1) (by simpa using h) (by simpa using h')) h;exact⟨q,by simp[Instr.findAsking,hE',hb,q1],q2⟩
  .cases h
variable{w0:World}{n:Nat}{U:Nat->Prop}{g:Gh}{S:au}{H:aD}{a:Act}
def IT (R:Rel P w0 n U g S H a w) {o:Oper} {t kt el:TypeId} {fs:Array Field} {k:Nat} {ie:TypeInfo} {z:Value} {zs:List AV} {x1 x2:Operand} {y1 y2:dU} {e:aM} (ho:o.op = .lookup t x1 x2 true) (hd:∀ t,o.dst=some t→t < n∧¬ U t)
  (gp:P.underlying t=some (.map kt el)) (hu:P.underlying kt=some (.struct fs)) (hk:np P 10000 kt=some k) (hi:P.info? el=some ie) (hz:ie.zero=some (.agg z.cells)) (qP:jB z.cells.toList=some zs)
  (ph:ep n x1=some y1) (nx:ep n x2=some y2) (qS:∀t∈y1.tmps,¬U t) (q':∀t∈y2.tmps,¬U t)
  (he:ar S H (.lookup k (.agg zs) y1 y2)=some e):dZ P w0 n U g S H a w o e:=by
 have gm:=R.ev ph qS;have fM:=R.ev nx q';simp only[ar]at he;generalize AL.ev S y1=p1 at he gm;generalize AL.ev S y2=p2 at he fM;generalize lE:a.eval x1=c1 at gm;generalize j6:a.eval x2=c2 at fM;have OM:=(jg g.Pr w qP).1;have XE:RD g.Pr w (.agg zs) (.agg z.cells):=.agg _ _ (by simpa using OM.1) OM.2.2 (λi h h'=>by simpa using OM.2.1 i h (by simpa using h'))
 have two:∀(v:AV)(c:Value)(b:Bool),RD g.Pr w v c->RD g.Pr w (.ea [v,.bool b]) (.tuple #[c,.bool b]):=by
  intro v c b h
  refine .ea _ _ rfl λi hi eJ=>?_
  match i,hi with
  |0,_=>exact h
  |1,_=>exact .bool b
 split at he
 case h_2=>cases he
 rename_i ks vs c;split at he
 case h_2=>cases he
 rename_i key adC;split at he
 case isFalse=>cases he
 rename_i hl;have q2:=fM.eP rfl;cases q2;rename_i us h3 h4 h5;obtain⟨e3,_⟩:=rP (vs:=us.toList) adC (by simpa using h3) (λi h h'=>by simpa using h5 i h (by simpa using h'))
 have f1:us=ik key:=by rw[ik,<-e3]
 subst f1
 have yc:(match P.underlying kt with|some (.array _ _)|some (.struct _)=>true|_=>false)=true:=by rw[hu]
 have q1:=gm.eP rfl
 obtain ⟨es,oI,T9,lI,DC,hk4⟩:∃ es:Array MapEntry,(∀ K:Array MapEntry→Sem Value,((do
    let es<-match c1 with
     |.map none=>pure #[]
     |.map (some r)=>do
      let .map es _ <-getObj r | stuck "Lookup: map expected"
      pure es
     |_=>stuck "Lookup: map expected"
    K es):Sem Value).run P w=(K es).run P w)/\ks.length=es.size/\vs.length=es.size/\(∀j (h:j<ks.length)(h':j<es.size),RD g.Pr w ks[j] (es[j]).key)/\(∀j (h:j<vs.length)(h':j<es.size),RD g.Pr w vs[j] (es[j]).val):=by
  cases q1 with
  |map _ _ b es clock hb hm hk hv hr jV=>
   exact⟨es,λK=>by simp[ael,agu hm],hk,hv,hr,jV⟩
  |vg=>exact⟨#[],λK=>ah7,rfl,rfl,λj h=>by simp at h,λj h=>by simp at h⟩
 have AB:=vR (P:=P) (w:=w) es.isEmpty 10000 kt k hk key hl;simp only[pv,hu]at AB
 have main:∀ r,pM key ks vs=some r→(execOp a.eval o).run P w = .ok (.value (match r with | some _ => .tuple #[(match (Instr.findAsking kt (.agg (ik key)) es.toList 0).run P w with | .ok (some (_,c)) _=>c | _=>undef),.bool true] | none => .tuple #[.agg z.cells,.bool false])) w ∧
   (∀v,r=some v->RD g.Pr w v (match(Instr.findAsking kt (.agg (ik key)) es.toList 0).run P w with|.ok (some (_,c)) _=>c|_=>undef)):=by
  intro r hr;obtain⟨q,q1,q2⟩:=mw (w:=w) (Pr:=g.Pr) hu hk key hl ks vs es.toList 0 r (by simpa using T9) (by simpa using lI) (λj h h'=>by simpa using DC j h (by simpa using h')) (λj h h'=>by simpa using hk4 j h (by simpa using h')) hr;have y3:=(run_findKey_eq (P:=P) (w:=w) yc (.agg (ik key)) es.toList).trans q1
  have eA:(Instr.lookup t c1 (.agg (ik key)) true).run P w=.ok (match q with|some (_,v)=>.tuple #[v,.bool true]|none=>.tuple #[.agg z.cells,.bool false]) w:=by
   unfold Instr.lookup;simp only[ael,aet gp,Result.andThen_ok]
   have:=oI (λes=>do
    Instr.checkKey es.isEmpty 10000 kt (.agg (ik key))
    let(v,ok)<-match<-Instr.findKey kt (.agg (ik key)) es.toList with
     |some (_,v)=>pure (v,true)
     |none=>pure (<-zeroValue el,false)
    pure (if true=true then .tuple #[v,.bool ok]else v))
   simp only[ael]at this;refine this.trans ?_;simp only[AB,Result.andThen_ok,y3]
   cases q with
   |none=>simp[zeroValue,typeInfo,hi,hz]
   |some p=>simp
  refine⟨?_,?_⟩
  .unfold execOp;simp only[ho,lE,j6,ael,eA,Result.andThen_ok,q1]
   cases r<;>cases q<;>first|exact q2.elim|rfl
  .rintro v rfl;rw[q1]
   cases q with
   |none=>exact q2.elim
   |some p=>exact q2
 split at he
 .rename_i v hv;cases he;obtain⟨m1,m2⟩:=main _ hv
  exact dZ.val R (λt h=>(hd t h).1) m1 (.data _ _ (two _ _ _ (m2 v rfl).bC)) λ_=>trivial
 .rename_i hv;cases he;obtain⟨m1,m2⟩:=main _ hv
  exact dZ.val R (λt h=>(hd t h).1) m1 (.data _ _ (two _ _ _ XE)) λ_=>trivial
 .cases he
end
section
variable{P:Program}{w0:World}{n:Nat}{U:Nat->Prop}{g:Gh}{S:au}{H:aD}{a:Act}{w:World}
def Sd{Pr:Nat->Nat->Prop}{al:Nat->Option Nat}{v:AV}{c:Value}(h:RV Pr al w v c)(hf:CX v=true):c.cells=#[c]:=by
 cases h with
 |data v c h=>
  cases h with
  |val c hc=>cases c<;>first|rfl|cases hc
  |_=>cases hf
 |func=>rfl
 |box=>cases hf
 |iH=>cases hf
 |cT=>cases hf
def JY (R:Rel P w0 n U g S H a w) {o:Oper} {t el:TypeId} {len:Nat} {it ie:TypeInfo} {z:Value} {ps:Array (Nat×Operand)} {xs:List Operand} {ys:List dU} {e:aM} (ho:o.op = .build t ps) (hd:∀ t,o.dst=some t→t < n∧¬ U t)
  (hi:P.info? t=some it) (gp:P.underlying t=some (.array len el)) (hz:it.zero=some z) (Ka:P.info? el=some ie) (hs:ie.size=1) (qP:z.cells.size=xs.length)
  (ld:ps.toList=(xs.zipIdx 0).map λx=>(x.2,x.1)) (hx:qH n xs=some ys) (hu:∀y∈ys,∀t∈y.tmps,¬U t) (he:ar S H (.pO ys)=some e):dZ P w0 n U g S H a w o e:=by
 simp only[ar]at he;split at he
 case isFalse=>cases he
 rename_i eu;cases he;simp only[aeh]at eu;obtain⟨l1,r1⟩:=R.Ma hx hu
 have gr:∀j (h:j<xs.length),(a.eval xs[j]).cells=#[a.eval xs[j]]:=λj h=>
  Sd (r1 j zo h) (eu _ (aew.2 ⟨_,ad2 zo,rfl⟩))
 have Oh:=Great.fill_whole (s:=1) zo (xs.map a.eval) z.cells (λv hv=>by
  obtain⟨x,hx,rfl⟩:=aew.1 hv;obtain⟨j,hj,rfl⟩:=ae5 hx
  rw[gr j hj];rfl) (by simp[qP])
 have J5:(ps.map λ(i,x)=>(i,a.eval x)).toList=((xs.map a.eval).zipIdx 0).map λx=>(x.2,x.1):=by
  rw[ag4,ld];simp[List.zipIdx_map]
 have Py:((xs.map a.eval).flatMap λv=>v.cells.toList)=xs.map a.eval:=by
  have:∀l:List Operand,(∀x∈l,(a.eval x).cells=#[a.eval x])->((l.map a.eval).flatMap λv=>v.cells.toList)=l.map a.eval:=by
   intro l
   induction l with
   |nil=>intro _;rfl
   |cons x l ih=>intro h;simp only[aer,afx,h x aen,ih λy hy=>h y (aei _ hy)];rfl
  exact this xs λx hx=>by obtain⟨j,hj,rfl⟩:=ae5 hx;exact gr j hj
 have hb:P.built t (ps.map λ(i,x)=>(i,a.eval x)).toList=some (xs.map a.eval).toArray:=by
  unfold Program.built;simp only[hi,gp,hz,Ka,hs];rw[J5,Oh,Py]
 refine dZ.val R (λt h=>(hd t h).1) (c:=.agg (xs.map a.eval).toArray) ?_ (.iH _ _ (by simp[l1]) (λi h h'=>?_)) λ_=>trivial
 .unfold execOp;simp only[ho,ael,aic w t _ _ hb,Result.andThen_ok]
  rfl
 .simp only[aef]at h;have:=r1 i h (by simpa using h');simpa using this
def Jo (R:Rel P w0 n U g S H a w) {o:Oper} {t el:TypeId} {len:Nat} {ie:TypeInfo} {qw:TypeDesc} {x1 x2:Operand} {y1 y2:dU} {e:aM} (ho:o.op = .index t x1 x2) (hd:∀ t,o.dst=some t→t < n∧¬ U t)
  (gp:P.underlying t=some (.array len el)) (hi:P.info? el=some ie) (hs:ie.size=1) (hue:P.underlying el=some qw) (hag:ef qw=false) (ph:ep n x1=some y1) (nx:ep n x2=some y2) (qS:∀t∈y1.tmps,¬U t) (q':∀t∈y2.tmps,¬U t)
  (he:ar S H (.pV len y1 y2)=some e):dZ P w0 n U g S H a w o e:=by
 have gm:=R.ev ph qS;have fM:=R.ev nx q';simp only[ar]at he;generalize AL.ev S y1=p1 at he gm;generalize AL.ev S y2=p2 at he fM;generalize lE:a.eval x1=c1 at gm;generalize j6:a.eval x2=c2 at fM;split at he
 case h_2=>cases he
 rename_i fs k;split at he
 case isFalse=>cases he
 rename_i hk;split at he
 case h_2=>cases he
 rename_i v hv;split at he
 case isFalse=>cases he
 rename_i hf;cases he;obtain⟨h0,rfl⟩:=aey.1 hv;have q2:=fM.eP rfl;cases q2
 cases gm with
 |data _ _ hh=>cases hh
 |iH _ vs h1 hr=>
  have aN:k.toNat<vs.size:=zo
  have lP:(isAgg el).run P w=.ok false w:=by
   unfold isAgg;rw[ael,aet hue w]
   cases qw<;>simp[ef]at hag⊢
  refine dZ.val R (λt h=>(hd t h).1) (c:=vs[k.toNat]) ?_ (hr _ h0 aN) λ_=>?_
  .simp only[execOp,ho,lE,j6,Instr.index,ael];simp[asIntOf,aet gp,hk,sizeOf,typeInfo,hi,hs,ael,part,lP,aN]
  .generalize fs[k.toNat]=u at hf
   cases u<;>first|trivial|cases hf
def yA{v:AV}(h:v.one=true):v.cells=[v]:=by
 cases v<;>first|rfl|cases h
def Kk (R:Rel P w0 n U g S H a w) {o:Oper} {t el:TypeId} {len:Nat} {i:TypeInfo} {x:Operand} {y:dU} {e:aM} (ho:o.op = .slice t x none none none) (hd:∀ t,o.dst=some t→t < n∧¬ U t)
  (gp:P.underlying t=some (.array len el)) (Tg:P.info? el=some i) (hx:ep n x=some y) (hu:∀t∈y.tmps,¬U t)
  (he:ar S H (.qM len y)=some e):dZ P w0 n U g S H a w o e:=by
 have hv:=R.ev hx hu;simp only[ar]at he;generalize tI:AL.ev S y=q at he hv;generalize nu:a.eval x=c at hv;split at he
 case h_2=>cases he
 rename_i cs;split at he
 case isFalse=>cases he
 rename_i hlen;cases he;have q2:=hv.eP rfl
 cases q2 with
 |ref _ b off vs h1 hc hr=>
  have hk:(execOp a.eval o).run P w=.ok (.value (.slice (some ⟨b,off,none⟩) len len)) w:=by
   unfold execOp;simp only[ho,nu,Option.map_none,Instr.sliceAt,ael,aet gp]
   by_cases h0:len=0
   .subst h0;simp[Instr.sureAddr,Instr.sliceBounds,ael,sizeOf,typeInfo,Tg]
   .simp[Instr.sureAddr,Instr.sliceBounds,ael,sizeOf,typeInfo,Tg,Addr.add]
  refine dZ.val R (λt h=>(hd t h).1) hk (.data _ _ ?_) λ_=>trivial
  rw[<-hlen];refine .slice .view cs b off cs.length 1 vs (aed _) (λh=>by cases h) (λi h=>by rw[yA (h1 i h)];rfl) (λi h j hj=>?_) (λk hk=>hc k zo) (λi h j hj=>?_)
  .have e:=yA (h1 i h)
   have:((cs[i]).cells[j])=cs[i]:=by
    have eX:j<[cs[i]].length:=by rw[<-e];exact hj
    have:j=0:=by simp at eX;omega
    subst this;simp only[e];rfl
   rw[this];exact h1 i h
  .have e:=yA (h1 i h)
   have eX:j<[cs[i]].length:=by rw[<-e];exact hj
   have DH:j=0:=by simp at eX;omega
   subst DH
   have:((cs[i]).cells[0])=cs[i]:=by simp only[e];rfl
   rw[this,afW,Nat.add_zero];exact hr i h
def OY(P:Program)(name:String)(t:TypeId):Option Nat:=
 match P.info? t with
 |some i=>match P.underlying t with
  |some (.struct _)=>match i.methods.find? (·.name==name)with
   |some m=>if m.path.isEmpty=true then match m.func with
    |some (f,false)=>some f
    |_=>none
    else none
   |none=>none
  |_=>none
 |none=>none
def MW(P:Program)(name:String):List (TypeId×Nat):=(List.range P.types.size).filterMap λt=>(OY P name t).map λk=>(t,k)
def B2{t k:Nat}:∀{l:List (Nat×Nat)},l.lookup t=some k->(t,k)∈l
 |[],h=>by cases h
 |(a,b)::l,h=>by
  rw[List.lookup_cons]at h;split at h
  .rename_i he;cases h;simp only[aeS]at he;subst he;exact aen
  .exact aei _ (B2 h)
def P9{P:Program}{name:String}{t k:Nat}(h:(MW P name).lookup t=some k):OY P name t=some k:=by
 have h1:=B2 h;simp only[MW,af7,aeo,agH]at h1;obtain⟨a,_,b,h2,rfl,rfl⟩:=h1;exact h2
def Le{P:Program}{name:String}{t k:Nat}{v:Value}{w:World}(h:(MW P name).lookup t=some k):(method (P.types.size+Made.depth) t v name).run P w=.ok (k,v) w:=by
 have h:=P9 h;unfold OY at h;split at h
 case h_2=>cases h
 rename_i i hi;split at h
 case h_2=>cases h
 rename_i fs gp;split at h
 case h_2=>cases h
 rename_i m hm;split at h
 case isFalse=>cases h
 rename_i hp;split at h
 case h_2=>cases h
 rename_i f hf;cases h;show(method (P.types.size+99+1) t v name).run P w=_
 have wu:m.path.toList=[]:=by simpa using hp
 generalize P.types.size+99=d;simp[method,typeInfo,hi,hm,wu,hf,follow,receiverAt,aet gp,Place.get,ael]
end
inductive jr where
 |ret (v:AV)|panic (v:AV)
def qG(base:Nat)(old:Nat->Nat->Prop)(hi:Nat->Nat)(b k:Nat):Prop:=(b<base/\old b k)\/(base<=b/\k<hi b)
def zS(P:Program)(base:Nat)(hi:Nat->Nat)(w:World):AV->Value->Prop
 |.slice (.own e) es,c=>∃i xs b,P.info? e=some i/\w.ownsRow base e i.size c es.length xs/\c.ownBlock=some b/\hi b=es.length*i.size
 |_,_=>True
def Ends(P:Program)(old:Nat->Nat->Prop)(w:World)(out:jr)(e:Ending)(w':World):Prop:=
 Below w.heap.size w w'/\∃hi:Nat->Nat,(∀b,w'.heap.size<=b->hi b=0)/\
  match out with
  |.ret v=>∃c,e=.returned c/\RV (qG w.heap.size old hi) (λ_=>none) w' v c/\zS P w.heap.size hi w' v c
  |.panic v=>∃c,e=.panicked [{ v:=c,recovered:=false }]/\RD (qG w.heap.size old hi) w' v c
def AC(P:Program)(GI:World->Prop)(f:Nat)(args:List AV)(out:jr):Prop:=
 ∀(w:World)(old:Nat->Nat->Prop)(dn:Array Value),GI w->args.length=dn.size->
  (∀i (h:i<args.length)(h':i<dn.size),RV old (λ_=>none) w args[i] dn[i])->Calls P f dn w (Ends P old w out)
def cL(H:aD):AV->AV
 |.box i off=>match H i with|some cs=>.ref ((cs.drop off).map AV.dE)|none=>.cT
 |.func ..|.iH _=>.cT
 |v=>v.vw
def fz(H:aD):AV->AV
 |.func fn first cap=>.func fn (first.map (cL H)) (cap.map (cL H))
 |v=>cL H v
def sW:AV->Bool
 |.box ..=>true
 |_=>false
def bT:AV->Bool
 |.box ..=>true
 |.func _ first cap=>first.any sW||cap.any sW
 |_=>false
def jl:AV->Bool
 |.bool _|.mW|.int ..|.str _=>true
 |_=>false
def xR:AV->Bool
 |.ea vs=>vs.all jl
 |v=>jl v
def jr.xR:jr->Bool
 |.ret v=>Go.AL.xR v
 |.panic _=>false
def Oq{v:AV}(h:xR v=true):v.aX=true:=by cases v<;>first|rfl|cases h
def RD.jl{Pr fE:Nat->Nat->Prop}{w w':World}{v:AV}{c:Value}(h:RD Pr w v c)(hs:Go.AL.jl v=true):RD fE w' v c:=by
 cases h<;>first|(cases hs;done)|constructor
def RD.xR{Pr fE:Nat->Nat->Prop}{w w':World}{v:AV}{c:Value}(h:RD Pr w v c)(hs:Go.AL.xR v=true):RD fE w' v c:=by
 cases h with
 |ea cs vs hl hr=>exact .ea cs vs hl λi h h'=>(hr i h h').jl (by simp only[Go.AL.xR,aeh]at hs;exact hs _ (ad2 h))
 |bool b=>exact .bool b
 |mW b=>exact .mW b
 |int k n=>exact .int k n
 |str l=>exact .str l
 |_=>cases hs
section
variable{P:Program}{w0:World}{n:Nat}{U:Nat->Prop}{g:Gh}{S:au}{H:aD}{a:Act}{w:World}
def gz(g:Gh)(bx:Bool)(b k:Nat):Prop:=g.Pr b k\/(bx=true/\∃i,g.al i=some b)
def Rel.cL(R:Rel P w0 n U g S H a w){v:AV}{c:Value}(h:RV g.Pr g.al w v c)(bx:Bool)(hb:sW v=true->bx=true):RV (gz g bx) (λ_=>none) w (Go.AL.cL H v) c:=by
 have sS:∀{v c},RD g.Pr w v c->RD (gz g bx) w v c:=λh=>h.mono (cC.same λb k _ hp=>.inl hp)
 cases h with
 |data v c h=>
  have hd:=(sS h).vw
  have:Go.AL.cL H v=v.vw:=by cases h<;>rfl
  rw[this];exact .data _ _ hd
 |box i off b j9=>
  obtain⟨cs,vs,ty,k1,k2,k3,k4,k5,k6,k7,k8,k9⟩:=R.box i b j9;simp only[Go.AL.cL,k1];have du:bx=true:=hb rfl;refine .data _ _ (.ref _ _ _ (λk=>vs.getD (off+k) undef) (λk hk=>?_) (λk hk=>?_) λk hk=>?_)
  .simp only[aef,aeM]at hk;simp only[aep,afw];have:=k9 (off+k) zo;exact(AV.TA _).trans this
  .simp only[aef,aeM]at hk
   have:off+k<vs.size:=zo
   exact⟨.inr ⟨du,i,j9⟩,by simp[World.cell?,k3,this]⟩
  .simp only[aef,aeM]at hk
   have aN:off+k<vs.size:=zo
   have:=(sS (k7 (off+k) zo aN)).dE;simpa[aN]using this
 |func=>exact .cT _
 |iH=>exact .cT _
 |cT c=>exact .cT c
def Rel.fz(R:Rel P w0 n U g S H a w){v:AV}{c:Value}(h:RV g.Pr g.al w v c)(bx:Bool)(hb:bT v=true->bx=true):RV (gz g bx) (λ_=>none) w (Go.AL.fz H v) c:=by
 have h0:=h
 cases h with
 |func fn first cap vs us h1 h2 r1 r2=>
  simp only[bT,afo,afC]at hb;refine .func fn _ _ _ _ (by simpa using h1) (by simpa using h2) (λi hi eJ=>?_) (λi hi eJ=>?_)
  .simp only[aef]at hi;simp only[aep]
   exact R.cL (r1 i hi eJ) bx λhx=>hb (.inl ⟨_,ad2 hi,hx⟩)
  .simp only[aef]at hi;simp only[aep]
   exact R.cL (r2 i hi eJ) bx λhx=>hb (.inr ⟨_,ad2 hi,hx⟩)
 |data v c h=>
  have:Go.AL.fz H v=Go.AL.cL H v:=by cases h<;>rfl
  rw[this];exact R.cL h0 bx λhx=>hb (by cases v<;>first|rfl|cases hx)
 |box=>exact R.cL h0 bx hb
 |iH=>exact .cT _
 |cT c=>exact .cT c
def Rel.call (R:Rel P w0 n U g S H a w) (d:Option Nat) (hd:∀ t,d=some t→t < n∧¬ U t) (bx:Bool) {v:AV} {c:Value} {w':World} {hi:Nat→Nat} (hb:Below w.heap.size w w')
  (pT:∀b,w'.heap.size<=b->hi b=0) (hr:RV (qG w.heap.size (gz g bx) hi) (λ_=>none) w' v c) (dX:zS P w.heap.size hi w' v c) (du:bx=true->xR v=true):
  ∃g',g'.base=g.base/\g'.old=g.old/\Rel P w0 n U g' (Go.AL.bl S d v) H (a.put d c) w':=by
 have hle:g.base<=w.heap.size:=by rw[R.base];exact R.below.size
 let own:Nat->Option Loc:=λb=>match c.ownBlock,d with
  |some b',some t=>if b=b' then some (.slot t)else none
  |_,_=>none
 let g':Gh:={ g with hi:=λb=>if b<w.heap.size then g.hi b else hi b,owner:=λb=>if b<w.heap.size then g.owner b else if b<w'.heap.size then own b else none }
 have R':Rel P w0 n U g' S H a w':=R.grow (g':=g') hb rfl rfl rfl
  (λb hb=>⟨if_pos hb,if_pos hb⟩)
  (λb mM=>by
   have:=hb.size
   exact⟨(if_neg zo).trans (pT b mM),(if_neg zo).trans (if_neg zo)⟩)
 refine⟨g',rfl,rfl,R'.bl d v c (λt h=>(hd t h).1) ?_ ?_⟩
 .cases bx with
  |true=>exact .data _ _ ((hr.eP (Oq (du rfl))).xR (du rfl))
  |false=>
   refine hr.mono (cC.same λb k _ hp=>?_) (λi b h=>by cases h)
   rcases hp with⟨h1,h2⟩|⟨h1,h2⟩
   .rcases h2 with h2|⟨h2,_⟩
    .rcases h2 with h2|h2
     .exact .inl h2
     .exact .inr ⟨h2.1,by show k<(if b<w.heap.size then g.hi b else hi b);rw[if_pos h1];exact h2.2⟩
    .cases h2
   .exact .inr ⟨by show g.base<=b;omega,by show k<(if b<w.heap.size then g.hi b else hi b);rw[if_neg zo];exact h2⟩
 .intro t ht;subst ht
  cases v<;>try trivial
  rename_i oo es
  cases oo with
  |view=>trivial
  |nil=>trivial
  |own e=>
   obtain⟨i,xs,b,h1,h2,h3,h4⟩:=dX;have aN:=h2.lt b h3;refine⟨i,xs,b,h1,⟨h2.1,?_⟩,h3,?_,?_⟩
   .rcases h2.2 with hn|⟨gg,cap,cur,e1,pL,rest⟩
    .exact .inl hn
    .exact .inr ⟨gg,cap,cur,e1,afl hle pL,rest⟩
   .show(if b<w.heap.size then g.owner b else if b<w'.heap.size then own b else none)=_;rw[if_neg zo,if_pos aN.2];simp[own,h3]
   .show(if b<w.heap.size then g.hi b else hi b)=_;rw[if_neg zo];exact h4
end
def zeroCells(P:Program)(t:TypeId):Option (List AV):=
 match P.info? t with
 |some i=>match i.zero with
  |some z=>jB z.cells.toList
  |none=>none
 |none=>none
def isVal:AV->Bool
 |.val _=>true
 |_=>false
def wz(P:Program)(t:TypeId):Option (List AV):=
 match zeroCells P t with
 |some zs=>if zs.any isVal then none else some zs
 |none=>none
def tj{P:Program}{t:TypeId}{zs:List AV}(h:wz P t=some zs):zeroCells P t=some zs:=by
 unfold wz at h;split at h
 .rename_i h'
  split at h<;>cases h
  exact h'
 .cases h
def comp(P:Program)(n:Nat)(tk:Bool)(hr:HR)(o:Oper):fg:=
 match o.op with
 |.move x=>match ep n x with
  |some y=>.mv tk y
  |none=>.other
 |.assign x=>match ep n x with
  |some y=>.mv true y
  |none=>.other
 |.pick c a b=>match ep n c,ep n a,ep n b with
  |some c,some a,some b=>.pick c a b
  |_,_,_=>.other
 |.alloc t=>match zeroCells P t with
  |some cs=>.alloc t cs
  |none=>.other
 |.box t x=>match P.info? t,ep n x with
  |some i,some y=>.box t i.size y
  |_,_=>.other
 |.build t ps=>match P.underlying t,wz P t with
  |some (.struct fs),some zs=>match fs.toList.mapM (λf=>(P.info? f.type).map λi=>(f.offset,i.size))with
   |some places=>match uK n (places[·]?) ps.toList with
    |some qs=>.build (zs.map AV.bC) qs
    |none=>.other
   |none=>.other
  |some (.array _ el),some zs=>match P.info? el with
   |some ie=>match uK n (λi=>some (i*ie.size,ie.size)) ps.toList with
    |some qs=>.build (zs.map AV.bC) qs
    |none=>.other
   |none=>.other
  |some (.array _ el),none=>match P.info? t,P.info? el,qH n (ps.toList.map (·.2))with
   |some it,some ie,some ys=>match it.zero with
    |some z=>if ie.size=1/\z.cells.size=ps.toList.length/\ps.toList.map (·.1)=List.range ps.toList.length then .pO ys else .other
    |none=>.other
   |_,_,_=>.other
  |_,_=>.other
 |.buildSlice t len ps=>match P.underlying t with
  |some (.slice el)=>match P.info? el with
   |some i=>if len=0/\ps.toList.isEmpty=true then .empty el else
    match i.zero,qH n (ps.toList.map (·.2))with
    |some _,some ys=>if 0<i.size/\0<len/\ps.toList.map (·.1)=List.range len then .buildSlice t el i.size ys else .other
    |_,_=>.other
   |none=>.other
  |_=>.other
 |.load t a=>match P.info? t,P.underlying t,ep n a with
  |some i,some d,some y=>if tk=true/\ef d=false/\o.dst.isSome=true then .loadT hr y else .load hr (ef d) i.size y
  |_,_,_=>.other
 |.store t a x=>match P.info? t,ep n a,ep n x with
  |some i,some y,some z=>if o.dst.isNone then .store hr i.size y z else .other
  |_,_,_=>.other
 |.binOp op t x y _=>match P.underlying t,ep n x,ep n y with
  |some (.int _),some x,some y|some .string,some x,some y=>.bin op x y
  |some .bool,some x,some y=>match op with
   |.eql=>.DD false x y
   |.neq=>.DD true x y
   |_=>.other
  |some (.struct _),some x,some y=>if P.eqGuardType P.depth t=false then
    match op,np P 10000 t with
    |.eql,some k=>.eqs false k x y
    |.neq,some k=>.eqs true k x y
    |_,_=>.other
   else .other
  |some (.slice _),some x',some _=>match op,y with
   |.eql,.const (.slice none 0 0)=>.isNil false x'
   |.neq,.const (.slice none 0 0)=>.isNil true x'
   |_,_=>.other
  |_,_,_=>.other
 |.unOp .not _ x=>match ep n x with
  |some y=>.not y
  |none=>.other
 |.convert s d x=>match P.underlying s,P.underlying d,ep n x with
  |some _,some (.int k),some y=>.conv k y
  |some (.slice el),some .string,some y=>match P.underlying el with
   |some (.int .u8)=>.Aw y
   |_=>.other
  |_,_,_=>.other
 |.makeInterface t x=>match P.underlying t,ep n x with
  |some (.interface _),_=>.other
  |some _,some y=>.iface t y
  |_,_=>.other
 |.makeFunc fn f c=>match qH n f.toList,qH n c.toList with
  |some f,some c=>.F0 fn f c
  |_,_=>.other
 |.slice t x lo hi none=>match P.underlying t,ep n x,nG n lo,nG n hi with
  |some .string,some y,some lo,some hi=>.pR y lo hi
  |some (.slice el),some y,some lo,some hi=>match P.info? el with
   |some i=>.oR i.size y lo hi
   |none=>.other
  |some (.array len el),some y,some none,some none=>match P.info? el with
   |some _=>.qM len y
   |none=>.other
  |_,_,_,_=>.other
 |.fieldAddr s x j=>match P.underlying s,ep n x with
  |some (.struct fs),some y=>match fs[j]? with
   |some f=>match P.info? f.type with
    |some i=>if i.size≠0 then .fieldAddr f.offset y else .other
    |none=>.other
   |none=>.other
  |_,_=>.other
 |.indexAddr t x i=>match P.underlying t,ep n x,ep n i with
  |some (.slice el),some y,some z=>match P.info? el with
   |some i=>.indexAddr i.size y z
   |none=>.other
  |_,_,_=>.other
 |.index t x i=>match P.underlying t,ep n x,ep n i with
  |some .string,some y,some z=>.pS y z
  |some (.array len el),some y,some z=>match P.info? el,P.underlying el with
   |some i,some (.func a b c)=>if i.size=1 then .pV len y z else .other
   |some i,some d=>.nJ (ef d) len i.size y z
   |_,_=>.other
  |_,_,_=>.other
 |.lookup t x i true=>match P.underlying t,ep n x,ep n i with
  |some (.map kt el),some y,some z=>match P.underlying kt,np P 10000 kt,P.info? el with
   |some (.struct _),some k,some ie=>match ie.zero with
    |some (.agg v)=>match jB v.toList with
     |some zs=>.lookup k (.agg zs) y z
     |none=>.other
    |_=>.other
   |_,_,_=>.other
  |_,_,_=>.other
 |.extract x j=>match ep n x with
  |some y=>.extract y j
  |none=>.other
 |.typeAssert x _ t true=>match P.underlying t,P.info? t,ep n x with
  |some (.interface _),_,_=>.other
  |some _,some i,some y=>match i.zero with
   |some (.agg z)=>match jB z.toList with
    |some zs=>.assert t (.agg zs) y
    |none=>.other
   |_=>.other
  |_,_,_=>.other
 |.panic x=>match ep n x with
  |some y=>.panic y
  |none=>.other
 |.call cl=>match cl.callee,cl.args.toList,cl.argTypes.toList with
  |.builtin .len,[x],[s]=>match P.underlying s,ep n x with
   |some .string,some y=>.AD y
   |some (.slice _),some y=>.lK y
   |_,_=>.other
  |.builtin .append,[x1,x2],[t,t']=>match P.underlying t,ep n x1,ep n x2 with
   |some (.slice el),some y1,some y2=>match P.info? el with
    |some i=>match i.zero with
     |some z=>if t=t'/\z.cells.size=i.size/\i.bytes<=65536 then .append t el i.size i.bytes y1 y2 else .other
     |none=>.other
    |none=>.other
   |_,_,_=>.other
  |.builtin .max,[x1,x2],_=>match ep n x1,ep n x2 with
   |some y1,some y2=>.max y1 y2
   |_,_=>.other
  |.builtin .min,[x1,x2],_=>match ep n x1,ep n x2 with
   |some y1,some y2=>.min y1 y2
   |_,_=>.other
  |.value f,args,_=>match ep n f,qH n args with
   |some (.f k),some ys=>.call k ys
   |some y,some ys=>.ig y ys
   |_,_=>.other
  |.invoke r name,args,_=>match ep n r,qH n args with
   |some (.t t),some ys=>.ig (.m t (MW P name)) ys
   |_,_=>.other
  |_,_,_=>.other
 |_=>.other
structure db where
 dst:Option Nat
 guard:Option (Nat×Bool)
 op:fg
def eU(P:Program)(f:Nat):Bool:=
 match P.funcs[f]? with
 |some fn=>fn.name != "runtime.NumGoroutine" && fn.body.isSome
 |none=>false
def hZ{P:Program}{w:World}{f:Nat}{args:Array Value}(h:eU P f=true):(callFunc f args).run P w=.ok (.enter f args) w:=by
 unfold eU at h
 cases hf:P.funcs[f]? with
 |none=>simp[hf]at h
 |some fn=>
  simp only[hf,aeb,agU]at h;unfold callFunc;obtain⟨c,hc⟩:=agL.1 h.2;simp[hf,h.1,hc]
section
variable{P:Program}{GI:World->Prop}
def fB(out:jr)(K:AV->Prop)(Qp:AV->Prop):Prop:=
 match out with
 |.ret v=>K v
 |.panic v=>Qp v
def mB(P:Program)(GI:World->Prop)(f:Nat)(args:List AV)(bx:Bool)(K:AV->Prop)(Qp:AV->Prop):Prop:=
 ∃out,eU P f=true/\AC P GI f args out/\(bx=true->out.xR=true)/\fB out K Qp
def cy(P:Program)(GI:World->Prop)(op:fg)(dst:Option Nat)(K:au->aD->Prop)(Qp:AV->Prop)(S:au)(H:aD):Prop:=
 match op with
 |.alloc _ zero=>match dst with
  |some d=>K (aF (λt=>bt d (S t)) d (.box d 0)) (aF H d (some zero))
  |none=>False
 |.box _ size x=>match dst with
  |some d=>(ev S x).cells.length=size/\(ev S x).storable=true/\K (aF (λt=>bt d (S t)) d (.box d 0)) (aF H d (some ((ev S x).cells.map AV.bC)))
  |none=>False
 |.call f args=>mB P GI f (args.map λy=>fz H (ev S y)) (args.any λy=>bT (ev S y)) (λv=>K (bl S dst v) H) Qp
 |.ig f args=>match ev S f with
  |.func (.func k) first cap=>mB P GI k ((first++args.map (ev S)++cap).map (fz H)) ((first++args.map (ev S)++cap).any bT) (λv=>K (bl S dst v) H) Qp
  |_=>False
 |.panic x=>match ev S x with
  |.iface t v=>Qp (.iface t v)
  |_=>False
 |op=>match ar S H op with
  |some e=>K (e.S S dst) (e.H H)
  |none=>False
def fg.calm:fg->Bool
 |.alloc ..|.box ..|.call ..|.ig ..|.panic _|.other=>false
 |_=>true
def CJ {op:fg} (h:op.calm=true) (dst:Option Nat) (K:au→aD→Prop) (Qp:AV→Prop) (S:au) (H:aD) :
  cy P GI op dst K Qp S H=(match ar S H op with|some e=>K (e.S S dst) (e.H H)|none=>False):=by
 cases op<;>first|rfl|cases h
variable{w0:World}{n:Nat}{U:Nat->Prop}{g:Gh}{S:au}{H:aD}{a:Act}{w:World}
def yp:∀(ps:List (Nat×Operand))(k:Nat),ps.map (·.1)=(List.range' k ps.length)->ps=((ps.map (·.2)).zipIdx k).map λx=>(x.2,x.1)
 |[],_,_=>rfl
 |(i,x)::ps,k,h=>by
  simp only[aer,List.length_cons,afJ,afY]at h;obtain⟨rfl,h⟩:=h;simp only[aer,List.zipIdx_cons,afY,ahX];exact yp ps (i+1) h
def zJ{x:Option Operand}(h:nG n x=some none):x=none:=by
 cases x with
 |none=>rfl
 |some y=>simp[nG]at h
def yn (R:Rel P w0 n U g S H a w) {o:Oper} {tk:Bool} {hr:HR} {op:fg} {e:aM} (hc:comp P n tk hr o=op) (dv:op.calm=true) (hd:∀ t,o.dst=some t→t < n∧¬ U t) (ec:∀ t∈op.rd,¬ U t) (fq:∀ t,o.dst=some t→t∉op.rd)
  (he:ar S H op=some e):dZ P w0 n U g S H a w o e:=by
 unfold comp at hc;cases eg:o.op
 case move x=>
  simp only[eg]at hc
  split at hc<;>subst hc
  case h_2=>cases dv
  rename_i y hx;exact MV R hd hx ec (by unfold execOp;simp only[eg];rfl) fq he
 case assign x=>
  simp only[eg]at hc
  split at hc<;>subst hc
  case h_2=>cases dv
  rename_i y hx;exact MV R hd hx ec (by unfold execOp;simp only[eg];rfl) fq he
 case pick x x1 x2=>
  simp only[eg]at hc
  split at hc<;>subst hc
  case h_2=>cases dv
  rename_i c a' b h1 h2 h3;simp only[fg.rd,aeg]at ec;exact Pp R eg hd h1 h2 h3 (λt h=>ec t (.inl (.inl h))) (λt h=>ec t (.inl (.inr h))) (λt h=>ec t (.inr h)) he
 case alloc t=>simp only[eg]at hc;split at hc<;>subst hc<;>cases dv
 case box t x=>simp only[eg]at hc;split at hc<;>subst hc<;>cases dv
 case build t ps=>
  simp only[eg]at hc;split at hc
  .rename_i fs zs h1 h2;split at hc
   case h_2=>subst hc;cases dv
   rename_i places h3
   split at hc<;>subst hc
   case h_2=>cases dv
   rename_i qs h4;have h2:=tj h2;unfold zeroCells at h2;split at h2
   case h_2=>cases h2
   rename_i it hi;split at h2
   case h_2=>cases h2
   rename_i z hz;exact Nl R eg hd hi h1 hz h3 h2 h4 (λq hq t ht=>ec t (aeQ.2 ⟨q,hq,ht⟩)) he
  .rename_i len el zs h1 h2;split at hc
   case h_2=>subst hc;cases dv
   rename_i ie h3
   split at hc<;>subst hc
   case h_2=>cases dv
   rename_i qs h4;have h2:=tj h2;unfold zeroCells at h2;split at h2
   case h_2=>cases h2
   rename_i it hi;split at h2
   case h_2=>cases h2
   rename_i z hz;exact ID R eg hd hi h1 hz h3 h2 h4 (λq hq t ht=>ec t (aeQ.2 ⟨q,hq,ht⟩)) he
  .rename_i len el h1 h2;split at hc
   case h_2=>subst hc;cases dv
   rename_i it ie ys h3 h4 h5;split at hc
   case h_2=>subst hc;cases dv
   rename_i z hz
   split at hc<;>subst hc
   case isFalse=>cases dv
   rename_i ln;exact JY R eg hd h3 h1 hz h4 ln.1 (by simpa using ln.2.1) (yp _ 0 (by rw[ln.2.2,afZ])) h5 (λy hy t ht=>ec t (aeQ.2 ⟨y,hy,ht⟩)) he
  .subst hc;cases dv
 case buildSlice t len ps=>
  simp only[eg]at hc;split at hc
  case h_2=>subst hc;cases dv
  rename_i el h1;split at hc
  case h_2=>subst hc;cases dv
  rename_i i h2;split at hc
  case isTrue=>
   rename_i ln;subst hc
   have ld:ps=#[]:=by
    have:=ln.2;simp only[List.isEmpty_iff]at this;exact Array.toList_eq_nil_iff.1 this
   rw[ln.1,ld]at eg;exact K_ R eg hd h1 h2 he
  case isFalse=>
   split at hc
   case h_2=>subst hc;cases dv
   rename_i z ys h3 h4
   split at hc<;>subst hc
   case isFalse=>cases dv
   rename_i j6
   have hlen:ps.toList.length=len:=by have:=congrArg List.length j6.2.2;simpa using this
   exact A0 R eg hd h1 h2 h3 j6.1 (yp _ 0 (by rw[j6.2.2,hlen,afZ])) (by simpa using hlen) j6.2.1 h4 (λy hy t ht=>ec t (aeQ.2 ⟨y,hy,ht⟩)) he
 case load t x=>
  simp only[eg]at hc;split at hc
  case h_2=>subst hc;cases dv
  rename_i i d y h1 h2 h3
  split at hc<;>subst hc
  case isTrue ln=>
   obtain⟨dd,yu⟩:=agL.1 ln.2.2;exact M_ R eg yu (hd dd yu) h2 ln.2.1 h3 ec he
  case isFalse ln=>exact EY R eg hd h1 h2 h3 ec he
 case store t x1 x2=>
  simp only[eg]at hc;split at hc
  case h_2=>subst hc;cases dv
  rename_i i y z h1 h2 h3
  split at hc<;>subst hc
  case isFalse=>cases dv
  rename_i ln;simp only[fg.rd,aeg]at ec;exact nW R eg (by simpa using ln) h1 h2 h3 (λt h=>ec t (.inl h)) (λt h=>ec t (.inr h)) he
 case binOp op t x1 x2 t'=>
  simp only[eg]at hc;split at hc
  .subst hc;rename_i k y1 y2 h1 h2 h3;simp only[fg.rd,aeg]at ec;exact G5 R eg hd h2 h3 (λt h=>ec t (.inl h)) (λt h=>ec t (.inr h)) he
  .subst hc;rename_i y1 y2 h1 h2 h3;simp only[fg.rd,aeg]at ec;exact G5 R eg hd h2 h3 (λt h=>ec t (.inl h)) (λt h=>ec t (.inr h)) he
  .rename_i y1 y2 h1 h2 h3
   split at hc<;>subst hc
   .simp only[fg.rd,aeg]at ec;exact G1 (neg:=false) R eg hd h1 h2 h3 (λt h=>ec t (.inl h)) (λt h=>ec t (.inr h)) he
   .simp only[fg.rd,aeg]at ec;exact G1 (neg:=true) R eg hd h1 h2 h3 (λt h=>ec t (.inl h)) (λt h=>ec t (.inr h)) he
   .cases dv
  .rename_i fs y1 y2 h1 h2 h3;split at hc
   case isFalse=>subst hc;cases dv
   rename_i DL
   split at hc<;>subst hc
   .simp only[fg.rd,aeg]at ec;exact GX (neg:=false) R eg hd h1 (by assumption) DL h2 h3 (λt h=>ec t (.inl h)) (λt h=>ec t (.inr h)) he
   .simp only[fg.rd,aeg]at ec;exact GX (neg:=true) R eg hd h1 (by assumption) DL h2 h3 (λt h=>ec t (.inl h)) (λt h=>ec t (.inr h)) he
   .cases dv
  .rename_i el y1 y2 h1 h2 h3
   split at hc<;>subst hc
   .exact CT (neg:=false) R eg hd h1 h2 ec he
   .exact CT (neg:=true) R eg hd h1 h2 ec he
   .cases dv
  .subst hc;cases dv
 case unOp u t x=>
  cases u<;>simp only[eg]at hc
  case not=>
   split at hc<;>subst hc
   case h_2=>cases dv
   rename_i y h1;exact RB R eg hd h1 ec he
  all_goals (subst hc;cases dv)
 case convert s d x=>
  simp only[eg]at hc;split at hc
  .subst hc;rename_i ds k y h1 h2 h3;exact Ps R eg hd h1 h2 h3 ec he
  .rename_i el y h1 h2 h3
   split at hc<;>subst hc
   case h_2=>cases dv
   rename_i h4;exact PJ R eg hd h1 h4 h2 h3 ec he
  .subst hc;cases dv
 case makeInterface t x=>
  simp only[eg]at hc
  split at hc<;>subst hc
  case h_1=>cases dv
  case h_3=>cases dv
  rename_i d y DB h1 h2;exact LA R eg hd h1 DB h2 ec he
 case makeFunc fn f c=>
  simp only[eg]at hc
  split at hc<;>subst hc
  case h_2=>cases dv
  rename_i f2 c2 h1 h2;simp only[fg.rd,aeg,aeQ]at ec;exact RX R eg hd h1 h2 (λy hy t ht=>ec t (.inl ⟨y,hy,ht⟩)) (λy hy t ht=>ec t (.inr ⟨y,hy,ht⟩)) he
 case slice t x lo hi mx=>
  cases mx with
  |some m=>simp only[eg]at hc;subst hc;cases dv
  |none=>
   simp only[eg]at hc;split at hc
   .subst hc;rename_i y At eJ h1 h2 h3 h4;simp only[fg.rd,aeg,aeQ]at ec;exact Jm R eg hd h1 h2 (λt h=>ec t (.inl h)) h3 h4 (λy hy t ht=>ec t (.inr ⟨y,.inl (by simpa using hy),ht⟩)) (λy hy t ht=>ec t (.inr ⟨y,.inr (by simpa using hy),ht⟩)) he
   .rename_i el y At eJ h1 h2 h3 h4
    split at hc<;>subst hc
    case h_2=>cases dv
    rename_i i h5;simp only[fg.rd,aeg,aeQ]at ec;exact Ig R eg hd h1 h5 h2 (λt h=>ec t (.inl h)) h3 h4 (λy hy t ht=>ec t (.inr ⟨y,.inl (by simpa using hy),ht⟩)) (λy hy t ht=>ec t (.inr ⟨y,.inr (by simpa using hy),ht⟩)) he
   .rename_i len el y h1 h2 h3 h4
    split at hc<;>subst hc
    case h_2=>cases dv
    rename_i i h5;have e3:=zJ h3;have e4:=zJ h4;subst e3;subst e4;exact Kk R eg hd h1 h5 h2 ec he
   .subst hc;cases dv
 case fieldAddr s x j=>
  simp only[eg]at hc;split at hc
  case h_2=>subst hc;cases dv
  rename_i fs y h1 h2;split at hc
  case h_2=>subst hc;cases dv
  rename_i f h3;split at hc
  case h_2=>subst hc;cases dv
  rename_i i h4
  split at hc<;>subst hc
  case isFalse=>cases dv
  rename_i ln;exact Df R eg hd h1 h3 h4 ln h2 ec he
 case indexAddr t x1 x2=>
  simp only[eg]at hc;split at hc
  case h_2=>subst hc;cases dv
  rename_i el y z h1 h2 h3
  split at hc<;>subst hc
  case h_2=>cases dv
  rename_i i h4;simp only[fg.rd,aeg]at ec;exact C_ R eg hd h1 h4 h2 h3 (λt h=>ec t (.inl h)) (λt h=>ec t (.inr h)) he
 case index t x1 x2=>
  simp only[eg]at hc;split at hc
  .subst hc;rename_i y z h1 h2 h3;simp only[fg.rd,aeg]at ec;exact Jg R eg hd h1 h2 h3 (λt h=>ec t (.inl h)) (λt h=>ec t (.inr h)) he
  .rename_i len el y z h1 h2 h3;split at hc
   .rename_i i a1 a2 a3 h4 h5
    split at hc<;>subst hc
    case isFalse=>cases dv
    rename_i hs;simp only[fg.rd,aeg]at ec;exact Jo R eg hd h1 h4 hs h5 rfl h2 h3 (λt h=>ec t (.inl h)) (λt h=>ec t (.inr h)) he
   case h_3=>subst hc;cases dv
   subst hc;rename_i i d _ h4 h5;simp only[fg.rd,aeg]at ec;exact I7 R eg hd h1 h4 h5 h2 h3 (λt h=>ec t (.inl h)) (λt h=>ec t (.inr h)) he
  .subst hc;cases dv
 case lookup t x1 x2 ok=>
  cases ok with
  |false=>simp only[eg]at hc;subst hc;cases dv
  |true=>
   simp only[eg]at hc;split at hc
   case h_2=>subst hc;cases dv
   rename_i kt el y z h1 h2 h3;split at hc
   case h_2=>subst hc;cases dv
   rename_i fs k ie h4 h5 h6;split at hc
   case h_2=>subst hc;cases dv
   rename_i v h7
   split at hc<;>subst hc
   case h_2=>cases dv
   rename_i zs h8;simp only[fg.rd,aeg]at ec;exact IT (z:=.agg v) R eg hd h1 h4 h5 h6 h7 h8 h2 h3 (λt h=>ec t (.inl h)) (λt h=>ec t (.inr h)) he
 case extract x j=>
  simp only[eg]at hc
  split at hc<;>subst hc
  case h_2=>cases dv
  rename_i y h1;exact F4 R eg hd h1 ec he
 case typeAssert x xt t ok=>
  cases ok with
  |false=>simp only[eg]at hc;subst hc;cases dv
  |true=>
   simp only[eg]at hc;split at hc
   case h_1=>subst hc;cases dv
   case h_3=>subst hc;cases dv
   rename_i d i y DB h1 h2 h3;split at hc
   case h_2=>subst hc;cases dv
   rename_i z hz
   split at hc<;>subst hc
   case h_2=>cases dv
   rename_i zs qP;exact J7 (z:=.agg z) R eg hd h1 DB h2 hz qP h3 ec he
 case panic x=>simp only[eg]at hc;split at hc<;>subst hc<;>cases dv
 case call cl=>
  simp only[eg]at hc;split at hc
  .rename_i x s lL ha ht
   have Mx:cl.args=#[x]:=by rw[<-Array.toArray_toList (xs:=cl.args),ha]
   have vt:cl.argTypes=#[s]:=by rw[<-Array.toArray_toList (xs:=cl.argTypes),ht]
   split at hc<;>subst hc
   .rename_i y h1 h2;exact G3 R eg lL Mx vt hd h1 h2 ec (.inl ⟨rfl,he⟩)
   .rename_i el y h1 h2;exact G3 R eg lL Mx vt hd h1 h2 ec (.inr ⟨⟨el,rfl⟩,he⟩)
   .cases dv
  .rename_i x1 x2 t t' lL ha ht
   have Mx:cl.args=#[x1,x2]:=by rw[<-Array.toArray_toList (xs:=cl.args),ha]
   have vt:cl.argTypes=#[t,t']:=by rw[<-Array.toArray_toList (xs:=cl.argTypes),ht]
   split at hc
   case h_2=>subst hc;cases dv
   rename_i el y1 y2 h1 h2 h3;split at hc
   case h_2=>subst hc;cases dv
   rename_i i h4;split at hc
   case h_2=>subst hc;cases dv
   rename_i z h5
   split at hc<;>subst hc
   case isFalse=>cases dv
   rename_i ln;obtain⟨rfl,k1,k2⟩:=ln;simp only[fg.rd,aeg]at ec fq;exact Kr R eg lL Mx vt hd h1 h4 h5 k1 k2 h2 h3 (λt h=>ec t (.inl h)) (λt h=>ec t (.inr h)) (λt ht h=>fq t ht (.inl h)) he
  .rename_i x1 x2 lL ha
   have Mx:cl.args=#[x1,x2]:=by rw[<-Array.toArray_toList (xs:=cl.args),ha]
   split at hc<;>subst hc
   case h_2=>cases dv
   rename_i y1 y2 h1 h2;simp only[fg.rd,aeg]at ec;exact Ab R eg Mx hd h1 h2 (λt h=>ec t (.inl h)) (λt h=>ec t (.inr h)) (.inl ⟨lL,he⟩)
  .rename_i x1 x2 lL ha
   have Mx:cl.args=#[x1,x2]:=by rw[<-Array.toArray_toList (xs:=cl.args),ha]
   split at hc<;>subst hc
   case h_2=>cases dv
   rename_i y1 y2 h1 h2;simp only[fg.rd,aeg]at ec;exact Ab R eg Mx hd h1 h2 (λt h=>ec t (.inl h)) (λt h=>ec t (.inr h)) (.inr ⟨lL,he⟩)
  .split at hc<;>subst hc<;>cases dv
  .split at hc<;>subst hc<;>cases dv
  .subst hc;cases dv
 all_goals (simp only[eg]at hc;subst hc;cases dv)
end
def dh:Nat->Prop:=λ_=>False
def aQ(GI:World->Prop):Prop:=∀w w',GI w->Below w.heap.size w w'->GI w'
def db.ok(n:Nat)(o:db):Bool:=
 (match o.dst with|some d=>decide (d<n)&&!o.op.rd.contains d|none=>true)&&
 (match o.guard with|some (t,_)=>decide (t<n)|none=>true)
def fg.j5:fg->Bool
 |.alloc ..|.box ..=>true
 |_=>false
def db.j5(o:db):List Nat:=if o.op.j5 then o.dst.toList else[]
def Et(ops:Array Oper)(j:Nat):Option Nat:=(ops[j]?).bind (·.dst)
def taken(ops:Array Oper)(d:Nat):Bool:=
 ops.any λo=>match o.op with
  |.call { callee:=.builtin .append,args,.. }=>match args.toList with
   |.tmp t::_=>t==d
   |_=>false
  |_=>false
def rootOf(ops:Array Oper):Nat->Operand->HR
 |k+1,.tmp t=>match ops.toList.find? (λo=>o.dst==some t)with
  |some o=>match o.op with
   |.fieldAddr _ x _=>rootOf ops k x
   |.indexAddr ..=>.ref
   |.alloc _=>.box t
   |_=>.any
  |none=>.box t
 |_,_=>.any
def Q2(ops:Array Oper)(o:Oper):HR:=
 match o.op with
 |.load _ x|.store _ x _=>rootOf ops 10 x
 |_=>.any
def cZ(P:Program)(n:Nat)(dr:Bool)(ops:Array Oper)(o:Oper):db:={
 dst:=o.dst
 guard:=match o.guard with
  |some (j,b)=>match Et ops j with
   |some t=>some (t,b)
   |none=>some (n,b)
  |none=>none
 op:=comp P n (match o.dst with|some d=>taken ops d|none=>false) (if dr then Q2 ops o else .any) o }
def cJ(P:Program)(n:Nat)(dr:Bool)(ops:Array Oper):List db:=ops.toList.map (cZ P n dr ops)
def an(S:au):Option (Nat×Bool)->Option Bool
 |none=>some true
 |some (t,b)=>match S t with
  |.bool c=>some (c==b)
  |.ea []=>some false
  |_=>none
def cQ(P:Program)(GI:World->Prop):List db->(au->aD->Prop)->(AV->Prop)->au->aD->Prop
 |[],K,_,S,H=>K S H
 |o::rest,K,Qp,S,H=>match an S o.guard with
  |some true=>cy P GI o.op o.dst (cQ P GI rest K Qp) Qp S H
  |some false=>cQ P GI rest K Qp (bl S o.dst a_) H
  |none=>False
section
variable{P:Program}{GI:World->Prop}{w0:World}{n:Nat}{U:Nat->Prop}{g:Gh}{S:au}{H:aD}{a:Act}{w:World}
def dZ.wp {o:Oper} {e:aM} (h:dZ P w0 n U g S H a w o e) {K:Act→World→Prop} {Q:Exit→Act→World→Prop}
  (hK:∀g' a' w',g'.base=g.base->g'.old=g.old->Rel P w0 n U g' (e.S S o.dst) (e.H H) a' w'->K a' w'):o.wp P a w K Q:=by
 obtain⟨c,w',g',hr,h1,h2,R⟩:=h;unfold Oper.wp
 rcases hr with hr|⟨hr,rfl⟩
 .rw[hr];exact hK g' _ _ h1 h2 R
 .rw[hr];exact hK g' _ _ h1 h2 R
def fQ{a:Act}{cl:Call}{f:Operand}{t:TypeId}(hc:cl.callee=.value f):resolve a.eval cl t=Deferred.ofValue (a.eval f) (cl.args.map a.eval):=by
 unfold resolve;rw[hc]
def Ba (R:Rel P w0 n U g S H a w) (hG:aQ GI) (dI:GI w0) {f:Nat} {args:List AV} {dn:Array Value} {bx:Bool} {KA:AV→Prop} {Qp:AV→Prop}
  (hl:args.length=dn.size) (hr:∀i (h:i<args.length)(h':i<dn.size),RV (gz g bx) (λ_=>none) w args[i] dn[i])
  (h:mB P GI f args bx KA Qp) (dst:Option Nat) (hd:∀t,dst=some t->t<n/\¬U t) {Kc:Act->World->Prop} {Qc:Exit->Act->World->Prop}
  (hK:∀v g' a' w',g'.base=g.base->g'.old=g.old->Rel P w0 n U g' (bl S dst v) H a' w'->KA v->Kc a' w')
  (hP:∀v c hi w',Below w0.heap.size w0 w'->(∀b,w'.heap.size<=b->hi b=0)->RD (qG w0.heap.size g.old.c hi) w' v c->Qp v->Qc (.panic [{ v:=c,recovered:=false }]) a w'):
  eU P f=true/\Calls P f dn w (λ|.returned v,j0=>Kc (a.put dst v) j0|.panicked chain,j0=>Qc (.panic chain) a j0|.outgrown,_=>LetsOut Qc):=by
 obtain⟨out,km,pA,du,kl⟩:=h
 have hle:g.base<=w.heap.size:=by rw[R.base];exact R.below.size
 have ib:GI w:=by
  have hb:=R.below;rw[R.base]at hb;exact hG w0 w dI hb
 refine⟨km,(pA w (gz g bx) dn ib hl hr).mono ?_⟩;rintro e w' ⟨hb,hi,pT,hh⟩
 cases out with
 |ret v=>
  obtain⟨c,rfl,h1,h2⟩:=hh;obtain⟨g',e1,e2,R'⟩:=R.call dst hd bx hb pT h1 h2 (λhx=>du hx);exact hK v g' _ _ e1 e2 R' kl
 |panic v=>
  obtain⟨c,rfl,h1⟩:=hh
  have acn:bx=false:=by
   cases bx with
   |false=>rfl
   |true=>have:=du rfl;cases this
  subst acn;have vB:=R.below;rw[R.base]at vB hle;refine hP v c (λb=>if b<w.heap.size then g.hi b else hi b) w' (vB.trans (hb.mono hle)) (λb mM=>?_) ?_ kl
  .have:=hb.size;show(if b<w.heap.size then g.hi b else hi b)=0;rw[if_neg zo];exact pT b mM
  .refine h1.mono (cC.same λb k _ hp=>?_)
   rcases hp with⟨k1,k2⟩|⟨k1,k2⟩
   .rcases k2 with k2|⟨k2,_⟩
    .rcases k2 with k2|k2
     .exact .inl (by rw[<-R.base];exact k2)
     .exact .inr ⟨by rw[<-R.base];exact k2.1,by show k<(if b<w.heap.size then g.hi b else hi b);rw[if_pos k1];exact k2.2⟩
    .cases k2
   .exact .inr ⟨zo,by show k<(if b<w.heap.size then g.hi b else hi b);rw[if_neg zo];exact k2⟩
def Hv(d:Nat):(λt=>(dh t\/t=d)/\t≠d)=dh:=by
 funext t
 simp only[dh,ahC,agV,iff_false,not_and,ag2];exact id
def Fq (R:Rel P w0 n dh g S H a w) {o:Oper} {d:Nat} (jb:o.dst=some d) (hd:d < n) (du:¬ g.old.bx d) {ty:TypeId} {vs:Array Value} {cs:List AV}
  (eA:(execOp a.eval o).run P w=.ok (.value (.pointer (some ⟨w.heap.size,0,none⟩))) (w.alloc (.cells vs ty))) (hr:qv g.Pr w cs vs)
  (ho:∀(g':Gh) j (h:j<cs.length)(h':j<vs.size),(cs[j]).ng/\fp P w g' (.cell d j) cs[j] vs[j])
  {Kc:Act->World->Prop} {Qc:Exit->Act->World->Prop}
  (hK:∀g' a' w',g'.base=g.base->g'.old=g.old->Rel P w0 n dh g' (aF (λt=>bt d (S t)) d (.box d 0)) (aF H d (some cs)) a' w'->Kc a' w'):o.wp P a w Kc Qc:=by
 have R1:=R.suspend d du (.box d 0) cs;have R2:=R1.Ju d (.inr rfl) hd cs vs ty (bX _ _ _) (bX _ _ _) hr.1 hr.2.1 (λj h h'=>ho _ j h h') hr.2.2;unfold Oper.wp;rw[eA];show Kc _ _;rw[jb];rw[Hv]at R2;exact hK { g with al:=aF (aF g.al d none) d (some w.heap.size) } _ _ rfl rfl R2
def CF{o:Oper}{tk:Bool}{hr:HR}{t:TypeId}{cs:List AV}(h:comp P n tk hr o=.alloc t cs):o.op=.alloc t/\zeroCells P t=some cs:=by
 unfold comp at h
 repeat' split at h
 all_goals first
  |(cases h;done)
  |(cases h;exact⟨by assumption,by assumption⟩)
def SA{o:Oper}{tk:Bool}{hr:HR}{t:TypeId}{size:Nat}{x:dU}(h:comp P n tk hr o=.box t size x):∃x',o.op=.box t x'/\ep n x'=some x:=by
 unfold comp at h
 repeat' split at h
 all_goals first
  |(cases h;done)
  |(cases h;exact⟨_,by assumption,by assumption⟩)
def Ml{o:Oper}{tk:Bool}{hr:HR}{x:dU}(h:comp P n tk hr o=.panic x):∃x',o.op=.panic x'/\ep n x'=some x:=by
 unfold comp at h
 repeat' split at h
 all_goals first
  |(cases h;done)
  |(cases h;exact⟨_,by assumption,by assumption⟩)
def aap{x:Operand}{f:Nat}(h:ep n x=some (.f f)):x=.func f:=by
 cases x<;>simp only[ep]at h
 .split at h<;>cases h
 .simp only[aeo]at h;obtain⟨_,_,h⟩:=h;cases h
 .cases h
 .cases h;rfl
def PD{o:Oper}{tk:Bool}{hr:HR}{f:Nat}{args:List dU}(h:comp P n tk hr o=.call f args):∃cl,o.op=.call cl/\cl.callee=.value (.func f)/\qH n cl.args.toList=some args:=by
 unfold comp at h
 repeat' split at h
 all_goals first
  |(cases h;done)
  |skip
 cases h;rename_i h1 h2;have e:=aap h1;subst e;exact⟨_,by assumption,by assumption,h2⟩
def KS {o:Oper} {tk:Bool} {hr:HR} {f:dU} {args:List dU} (h:comp P n tk hr o = .ig f args) :
  (∃cl f',o.op=.call cl/\cl.callee=.value f'/\ep n f'=some f/\qH n cl.args.toList=some args)\/
  ∃cl r name t,o.op=.call cl/\cl.callee=.invoke r name/\ep n r=some (.t t)/\f=.m t (MW P name)/\qH n cl.args.toList=some args:=by
 unfold comp at h
 repeat' split at h
 all_goals first
  |(cases h;done)
  |skip
 .cases h;exact .inl ⟨_,_,by assumption,by assumption,by assumption,by assumption⟩
 .cases h;exact .inr ⟨_,_,_,_,by assumption,by assumption,by assumption,rfl,by assumption⟩
def OX(x:Value)(l:Array Value):(#[x]++l)[0]?=some x:=by
 rw[Array.getElem?_append_left ah7];rfl
def SI(x:Value)(l:Array Value):(#[x]++l).extract 1 (#[x]++l).size=l:=by
 apply Array.ext';simp
def uv (R:Rel P w0 n U g S H a w) (hG:aQ GI) (dI:GI w0) {o:Oper} {tk:Bool} {hr:HR} {f:Nat} {args:List dU} (hc:comp P n tk hr o = .call f args) (hd:∀ t,o.dst=some t→t < n∧¬ U t) (hu:∀ t∈(fg.call f args).rd,¬ U t)
  {KA:AV->Prop} {Qp:AV->Prop} (h:mB P GI f (args.map λy=>fz H (AL.ev S y)) (args.any λy=>bT (AL.ev S y)) KA Qp) {Kc:Act->World->Prop} {Qc:Exit->Act->World->Prop}
  (hK:∀v g' a' w',g'.base=g.base->g'.old=g.old->Rel P w0 n U g' (bl S o.dst v) H a' w'->KA v->Kc a' w')
  (hP:∀v c hi w',Below w0.heap.size w0 w'->(∀b,w'.heap.size<=b->hi b=0)->RD (qG w0.heap.size g.old.c hi) w' v c->Qp v->Qc (.panic [{ v:=c,recovered:=false }]) a w'):o.wp P a w Kc Qc:=by
 obtain⟨cl,eg,Nw,za⟩:=PD hc;obtain⟨l1,r1⟩:=R.Ma za (λy hy t ht=>hu t (aeQ.2 ⟨y,hy,ht⟩))
 obtain⟨km,oJ⟩:=Ba R hG dI (dn:=cl.args.map a.eval) (by simpa using l1) (λi hi eJ=>by
  simp only[aef]at hi;simp only[aep,Array.getElem_map];have:=r1 i hi (by simpa using eJ)
  refine R.fz (by simpa using this) _ λhb=>?_
  exact afC.2 ⟨_,ad2 hi,hb⟩) h o.dst hd (Kc:=Kc) (Qc:=Qc) hK hP
 have acz:a.eval (.func f)=.func (.func f) #[] #[]:=rfl;unfold Oper.wp execOp;simp only[eg,fQ Nw,acz,Deferred.ofValue,ael,Sem.run_pure,Result.andThen_ok,invoke,aif,aih];rw[hZ km];exact oJ
def we (R:Rel P w0 n U g S H a w) (hG:aQ GI) (dI:GI w0) {o:Oper} {tk:Bool} {hr:HR} {f:dU} {args:List dU} (hc:comp P n tk hr o = .ig f args) (hd:∀ t,o.dst=some t→t < n∧¬ U t) (hu:∀ t∈(fg.ig f args).rd,¬ U t)
  {k:Nat} {first cap:List AV} (Ay:AL.ev S f=.func (.func k) first cap)
  {KA:AV->Prop} {Qp:AV->Prop} (h:mB P GI k ((first++args.map (AL.ev S)++cap).map (fz H)) ((first++args.map (AL.ev S)++cap).any bT) KA Qp) {Kc:Act->World->Prop} {Qc:Exit->Act->World->Prop}
  (hK:∀v g' a' w',g'.base=g.base->g'.old=g.old->Rel P w0 n U g' (bl S o.dst v) H a' w'->KA v->Kc a' w')
  (hP:∀v c hi w',Below w0.heap.size w0 w'->(∀b,w'.heap.size<=b->hi b=0)->RD (qG w0.heap.size g.old.c hi) w' v c->Qp v->Qc (.panic [{ v:=c,recovered:=false }]) a w'):o.wp P a w Kc Qc:=by
 simp only[fg.rd,aeg,aeQ]at hu
 rcases KS hc with⟨cl,f',eg,Nw,hf,za⟩|⟨cl,r,name,t,eg,Nw,jV,rfl,za⟩
 case inr=>
  obtain⟨l1,r1⟩:=R.Ma za (λy hy t ht=>hu t (.inr ⟨y,hy,ht⟩));have RN:=R.ev jV (λt' ht=>hu t' (.inl (by simpa[dU.tmps]using ht)));simp only[AL.ev]at Ay RN;generalize hS:S t=sv at Ay RN;split at Ay
  case h_2=>cases Ay
  rename_i ty v;split at Ay
  case h_2=>cases Ay
  rename_i k' hk;cases Ay;generalize Wc:a.eval r=cr at RN;have RN:=RN.eP rfl
  cases RN with
  |iface _ _ cv hv=>
  simp only[List.singleton_append,afe]at h
  obtain⟨km,oJ⟩:=Ba R hG dI (dn:=#[cv]++cl.args.map a.eval) (by simp at l1⊢;omega) (λi hi eJ=>by
   simp only[aef]at hi;simp only[aep]
   refine R.fz ?_ _ λhb=>?_
   .cases i with
    |zero=>
     have e2:(#[cv]++cl.args.map a.eval)[0]=cv:=by rw[agc ah7];rfl
     simp only[List.getElem_cons_zero];rw[e2];exact .data _ _ hv
    |succ i=>
     have e2:(#[cv]++cl.args.map a.eval)[i+1]=a.eval (cl.args.toList[i]'(by simp at eJ l1⊢;omega)):=by
      rw[agI ah7];simp
     simp only[List.getElem_cons_succ,aep];rw[e2];exact r1 i (by simpa using hi) (by simp at eJ l1⊢;omega)
   .exact afC.2 ⟨_,ad2 hi,hb⟩) h o.dst hd (Kc:=Kc) (Qc:=Qc) hK hP
  have hm:=Le (v:=cv) (w:=w) hk;unfold Oper.wp execOp;simp only[eg]
  have LW:(resolve a.eval cl o.type).run P w=.ok { target:=.fn (.method name) #[],args:=#[.iface ty cv]++cl.args.map a.eval } w:=by
   unfold resolve;rw[Nw];simp[Wc]
  simp only[ael,LW,Result.andThen_ok,invoke,OX,callMethod,SI,hm,run_program];rw[hZ km];simp only[Oper.upon];exact oJ
 obtain⟨l1,r1⟩:=R.Ma za (λy hy t ht=>hu t (.inr ⟨y,hy,ht⟩));have Zh:=R.ev hf (λt ht=>hu t (.inl ht));rw[Ay]at Zh;generalize hcf:a.eval f'=cf at Zh
 cases Zh with
 |data _ _ hh=>cases hh
 |func _ _ _ vs us q1 q2 q3 q4=>
  have eu:∀i (hi:i<(first++args.map (AL.ev S)++cap).length)(eJ:i<(vs++cl.args.map a.eval++us).size),RV g.Pr g.al w (first++args.map (AL.ev S)++cap)[i] (vs++cl.args.map a.eval++us)[i]:=by
   intro i hi eJ;simp only[aeu,aef]at hi;simp only[Array.length_toList]at l1
   by_cases c1:i<first.length
   .have e1:(first++args.map (AL.ev S)++cap)[i]=first[i]:=by rw[aeV (by simp;omega),aeV c1]
    have e2:(vs++cl.args.map a.eval++us)[i]=vs[i]:=by rw[agc (by simp;omega),agc zo]
    rw[e1,e2];exact q3 i c1 zo
   .by_cases c2:i<first.length+args.length
    .have e1:(first++args.map (AL.ev S)++cap)[i]=AL.ev S (args[i-first.length]):=by rw[aeV (by simp;omega),afq zo];simp
     have e2:(vs++cl.args.map a.eval++us)[i]=a.eval (cl.args.toList[i-first.length]'(by simp;omega)):=by
      rw[agc (by simp;omega),agI zo];simp[q1]
     rw[e1,e2];exact r1 _ zo (by simp;omega)
    .have e1:(first++args.map (AL.ev S)++cap)[i]=cap[i-(first.length+args.length)]' zo:=by rw[afq (by simp;omega)];simp
     have e2:(vs++cl.args.map a.eval++us)[i]=us[i-(first.length+args.length)]' zo:=by
      rw[agI (by simp;omega)];simp[q1,l1]
     rw[e1,e2];exact q4 _ zo zo
  obtain⟨km,oJ⟩:=Ba R hG dI (dn:=vs++cl.args.map a.eval++us) (by simp at l1⊢;omega) (λi hi eJ=>by
   simp only[aef]at hi;simp only[aep]
   refine R.fz (eu i hi eJ) _ λhb=>?_
   exact afC.2 ⟨_,ad2 hi,hb⟩) h o.dst hd (Kc:=Kc) (Qc:=Qc) hK hP
  unfold Oper.wp execOp;simp only[eg,fQ Nw,hcf,Deferred.ofValue,ael,Sem.run_pure,Result.andThen_ok,invoke];rw[hZ km];simp only[Oper.upon];exact oJ
def Rj (R:Rel P w0 n dh g S H a w) (hG:aQ GI) (dI:GI w0) {o:Oper} {tk:Bool} {hr:HR} (hd:∀ t,o.dst=some t→t < n) (fq:∀ t,o.dst=some t→t∉(comp P n tk hr o).rd) (du:∀ d,o.dst=some d→(comp P n tk hr o).j5=true→¬ g.old.bx d)
  {K:au->aD->Prop} {Qp:AV->Prop} (h:cy P GI (comp P n tk hr o) o.dst K Qp S H) {Kc:Act->World->Prop} {Qc:Exit->Act->World->Prop}
  (hK:∀g' S' H' a' w',g'.base=g.base->g'.old=g.old->Rel P w0 n dh g' S' H' a' w'->K S' H'->Kc a' w')
  (hP:∀v c hi w',Below w0.heap.size w0 w'->(∀b,w'.heap.size<=b->hi b=0)->RD (qG w0.heap.size g.old.c hi) w' v c->Qp v->Qc (.panic [{ v:=c,recovered:=false }]) a w'):
  o.wp P a w Kc Qc:=by
 by_cases dv:(comp P n tk hr o).calm=true
 .rw[CJ dv]at h;split at h
  case h_2=>exact h.elim
  rename_i e he
  exact(yn R rfl dv (λt ht=>⟨hd t ht,id⟩) (λ_ _=>id) fq he).wp λg' a' w' h1 h2 R'=>hK g' _ _ _ _ h1 h2 R' h
 .generalize hc:comp P n tk hr o=op at h dv fq du
  cases op<;>try (exact absurd rfl dv)
  case alloc t cs=>
   simp only[cy]at h
   cases jb:o.dst with
   |none=>rw[jb]at h;exact h.elim
   |some d=>
    rw[jb]at h;obtain⟨eg,hz⟩:=CF hc;unfold zeroCells at hz;split at hz
    case h_2=>cases hz
    rename_i it hi;split at hz
    case h_2=>cases hz
    rename_i z Xl;obtain⟨h1,h2,h3⟩:=jg g.Pr w hz
    refine Fq R jb (hd d jb) (du d jb rfl) (vs:=z.cells) (ty:=t) (cs:=cs) ?_ (by simpa using h1) (λg' j hj eX=>⟨h2 _ (ad2 hj),by have:=h3 P g' (.cell d) j hj (by simpa using eX);rwa [Array.getElem_toList]at this⟩) λg' a' w' e1 e2 R'=>hK g' _ _ _ _ e1 e2 R' h
    unfold execOp;simp[eg,Instr.alloc,zeroValue,typeInfo,hi,Xl,newVar,newRow]
  case box t size x=>
   simp only[cy]at h
   cases jb:o.dst with
   |none=>rw[jb]at h;exact h.elim
   |some d=>
    rw[jb]at h;obtain⟨yf,zc,hk⟩:=h;obtain⟨x',eg,hx⟩:=SA hc;have hv:=(R.ev hx (λ_ _=>id)).eP (AV.kM zc);have ec:=hv.WT zc
    have abN:qv g.Pr w ((AL.ev S x).cells.map AV.bC) (a.eval x').cells:=by
     refine qv.mk' (by simpa using ec.1) (λi v c e1 e2=>?_) (λi v e1=>?_)
     .simp only[aeK,aeo]at e1;obtain⟨u,h1,rfl⟩:=e1;exact(ec.get h1 e2).bC
     .simp only[aeK,aeo]at e1;obtain⟨u,h1,rfl⟩:=e1;exact(AV.pW _).trans (ec.one h1)
    refine Fq R jb (hd d jb) (du d jb rfl) (vs:=(a.eval x').cells) (ty:=t) ?_ abN (λg' j hj eX=>⟨by simp only[aep];exact AV.rV _,by simp only[aep];exact iO _ _ _⟩) λg' a' w' e1 e2 R'=>hK g' _ _ _ _ e1 e2 R' hk
    unfold execOp;simp[eg,Instr.box,newVar,newRow]
  case panic x=>
   simp only[cy]at h;obtain⟨x',eg,hx⟩:=Ml hc;have hv:=R.ev hx (λ_ _=>id);generalize AL.ev S x=v at h hv;generalize nu:a.eval x'=c at hv
   cases v<;>try exact h.elim
   rename_i t v;cases hv;rename_i hv;have qy:=hv;cases qy;rename_i c' qy;unfold Oper.wp execOp;simp only[eg,nu,Instr.panic,ael,run_goPanic,Result.andThen_halt];have vB:=R.below;rw[R.base]at vB;refine hP (.iface t v) (.iface t c') g.hi w vB (λb hb=>(R.fresh b hb).1) ?_ h;rw[<-R.base];exact hv
  case call f args=>
   exact uv R hG dI hc (λt ht=>⟨hd t ht,id⟩) (λ_ _=>id) h (λv g' a' w' e1 e2 R' hk=>hK g' _ _ _ _ e1 e2 R' hk) hP
  case ig f args=>
   simp only[cy]at h;split at h
   case h_2=>exact h.elim
   rename_i k first cap Ay;exact we R hG dI hc (λt ht=>⟨hd t ht,id⟩) (λ_ _=>id) Ay h (λv g' a' w' e1 e2 R' hk=>hK g' _ _ _ _ e1 e2 R' hk) hP
  case other=>exact h.elim
end
section
variable{P:Program}{GI:World->Prop}{w0:World}{n:Nat}{U:Nat->Prop}{g:Gh}{S:au}{H:aD}{a:Act}{w:World}
inductive eh where
 |normal|exit (id:Nat)|ret|panic (v:AV)
def QQ(P:Program)(w0:World)(n:Nat)(old:Old)(Q:eh->au->aD->Prop):Exit->Act->World->Prop
 |.normal,a,w=>∃g S H,g.old=old/\Rel P w0 n dh g S H a w/\Q .normal S H
 |.exit id,a,w=>∃g S H,g.old=old/\Rel P w0 n dh g S H a w/\Q (.exit id) S H
 |.ret,a,w=>∃g S H,g.old=old/\Rel P w0 n dh g S H a w/\Q .ret S H
 |.panic chain,a,w=>a.defers=old.ds/\∃v c hi S H,chain=[{ v:=c,recovered:=false }]/\Below w0.heap.size w0 w/\(∀b,w.heap.size<=b->hi b=0)/\RD (qG w0.heap.size old.c hi) w v c/\Q (.panic v) S H
 |_,_,_=>False
def vD(Pr:Nat->Nat->Prop)(w:World):RD Pr w a_ undef:=.ea [] #[] rfl λi h=>by simp at h
def Rel.Uz(R:Rel P w0 n U g S H a w)(dst:Option Nat)(hd:∀t,dst=some t->t<n):Rel P w0 n U g (Go.AL.bl S dst a_) H (a.put dst undef) w:=
 R.bl dst _ _ hd (.data _ _ (vD _ _)) λ_ _=>trivial
def uk (R:Rel P w0 n U g S H a w) {dr:Bool} {ops:Array Oper} {o:Oper} {b:Bool} (hu:∀ t b,(cZ P n dr ops o).guard=some (t,b)→¬ U t)
  (df:(cZ P n dr ops o).ok n=true) (h:an S (cZ P n dr ops o).guard=some b):Region.wanted o (yielded ops a.tmps)=b:=by
 unfold Region.wanted;simp only[cZ]at df h hu
 cases hg:o.guard with
 |none=>
  rw[hg]at h;simp only[an,aeJ]at h;exact h
 |some p=>
  obtain⟨j,want⟩:=p;rw[hg]at h df hu;simp only at h df hu⊢
  cases hj:Et ops j with
  |none=>
   rw[hj]at df;simp only[db.ok,aeb,aej]at df;omega
  |some t=>
   rw[hj]at h df hu;simp only[db.ok,aeb,aej]at df;have ht:t<n:=df.2;have hs:=R.slot t ht (hu t want rfl)
   have hy:yielded ops a.tmps j=(match a.tmps.getD t undef with|.bool b=>some b|_=>none):=by
    unfold yielded;unfold Et at hj;rw[hj]
    have:t<a.tmps.size:=by rw[R.size];exact ht
    simp[this]
    split<;>simp_all
   rw[hy];simp only[an]at h;generalize S t=v at h hs;generalize a.tmps.getD t undef=c at hs;split at h
   .cases h;cases hs;rename_i hs;cases hs;rename_i c'
    cases c'<;>cases want<;>rfl
   .cases h;cases hs;rename_i hs;cases hs
    simp_all
   .cases h
def s_ (hG:aQ GI) (dI:GI w0) {old:Old} {ops:Array Oper} {Q:eh→au→aD→Prop} {S0:au} {H0:aD} :
  ∀(l:List Nat)(os:List Oper)(g:Gh)(S:au)(H:aD)(a:Act)(w:World),l.map (ops[·]?)=os.map some->(∀o∈os,(cZ P n false ops o).ok n=true)->(∀o∈os,∀d∈(cZ P n false ops o).j5,¬old.bx d)->g.old=old->Rel P w0 n dh g S H a w->
   cQ P GI (os.map (cZ P n false ops)) (Q .normal) (λv=>Q (.panic v) S0 H0) S H->wpOps P ops (QQ P w0 n old Q) l a w
 |[],os,g,S,H,a,w,hl,_,_,ho,R,h=>by
  have:os=[]:=by cases os with|nil=>rfl|cons=>simp at hl
  subst this;exact⟨g,S,H,ho,R,h⟩
 |i::l,os,g,S,H,a,w,hl,df,du,ho,R,h=>by
  cases os with
  |nil=>simp at hl
  |cons o os=>
   simp only[aer,afY]at hl;obtain⟨hi,hl⟩:=hl;have vd:=df o aen;simp only[aer,cQ]at h;simp only[wpOps,hi]
   have wK:∀t,o.dst=some t->t<n/\t∉(cZ P n false ops o).op.rd:=by
    intro t ht;simp only[db.ok,aeb]at vd;have h1:=vd.1;rw[show(cZ P n false ops o).dst=o.dst from rfl,ht]at h1;simpa using h1
   cases hw:an S (cZ P n false ops o).guard with
   |none=>rw[hw]at h;exact h.elim
   |some b=>
    rw[hw]at h;rw[uk R (λ_ _ _=>id) vd hw]
    cases b with
    |true=>
     simp only[aeH];refine .inl (Rj R hG dI (λt ht=>(wK t ht).1) (λt ht=>(wK t ht).2) (λd hd hl=>by rw[ho];exact du o aen d (by have:(cZ P n false ops o).op.j5=true:=hl;simp only[db.j5,this,aeH];rw[show(cZ P n false ops o).dst=o.dst from rfl,hd];simp)) h (λg' S' H' a' w' e1 e2 R' hk=>s_ hG dI l os g' S' H' a' w' hl (λo ho=>df o (aei _ ho)) (λo ho=>du o (aei _ ho)) (e2.trans ho) R' hk) ?_);intro v c hi w' k1 k2 k3 k4;exact⟨by rw[<-ho];exact R.defers,v,c,hi,S0,H0,rfl,k1,k2,by rw[<-ho];exact k3,k4⟩
    |false=>
     simp only[aek,aeA];exact s_ hG dI l os g _ H _ w hl (λo ho=>df o (aei _ ho)) (λo ho=>du o (aei _ ho)) ho (R.Uz o.dst λt ht=>(wK t ht).1) h
def Om (hG:aQ GI) (dI:GI w0) {old:Old} {id:Nat} {ops:Array Oper} {Q:eh→au→aD→Prop} (df:(cJ P n false ops).all (·.ok n)=true) (du:∀ o∈cJ P n false ops,∀ d∈o.j5,¬ old.bx d) (ho:g.old=old) (R:Rel P w0 n dh g S H a w)
  (h:cQ P GI (cJ P n false ops) (Q .normal) (λv=>Q (.panic v) S H) S H):(Code.region id ops false).wp P (QQ P w0 n old Q) a w:=by
 refine wp_region (s_ hG dI (S0:=S) (H0:=H) (List.range ops.size) ops.toList g S H a w ?_ (λo lz=>?_) (λo lz=>du _ (af4 lz)) ho R h)
 .apply afA;intro i;simp only[aeK]
  by_cases hi:i<ops.size
  .simp[hi]
  .simp[hi]
 .simp only[cJ,afP,aeh,Function.comp]at df;exact df o lz
end
inductive Acc where
 |no|rd (r:Option Nat)|soft (r:Option Nat)|wr (r:Option Nat)
def HR.one:HR->Option Nat
 |.box r=>some r
 |_=>none
def fg.acc:fg->Acc
 |.load .ref ..=>.no
 |.load hr ..=>.rd hr.one
 |.loadT hr _=>.soft hr.one
 |.store hr ..=>.wr hr.one
 |_=>.no
def meets:Option Nat->Option Nat->Bool
 |some a,some b=>a==b
 |_,_=>true
def Acc.conflict:Acc->Acc->Bool
 |.no,_|_,.no=>false
 |.rd _,.rd _|.rd _,.soft _|.soft _,.rd _=>false
 |.rd a,.wr b|.wr a,.rd b|.soft a,.soft b|.soft a,.wr b|.wr a,.soft b|.wr a,.wr b=>meets a b
def fg.wr:fg->List Nat
 |.mv true x=>x.tmps
 |.store _ _ _ x=>x.tmps
 |.append _ _ _ _ x _=>x.tmps
 |_=>[]
def db.reads(o:db):List Nat:=o.op.rd++(match o.guard with|some (t,_)=>[t]|none=>[])
def db.writes(o:db):List Nat:=o.dst.toList++o.op.wr
def db.apart(x y:db):Bool:=
 x.writes.all (λt=>!y.reads.contains t&&!y.writes.contains t)&&y.writes.all (λt=>!x.reads.contains t)&&!x.op.acc.conflict y.op.acc
section
variable{P:Program}{GI:World->Prop}
def l_(P:Program)(GI:World->Prop)(op:fg)(dst:Option Nat)(S:au)(H:aD)(e:aM):Prop:=
 match op with
 |.alloc _ _=>match dst with
  |some d=>e={ v:=.box d 0 }
  |none=>False
 |.call f args=>(args.any λy=>bT (ev S y))=false/\mB P GI f (args.map λy=>fz H (ev S y)) (args.any λy=>bT (ev S y)) (λv=>e={ v:=v }) (λ_=>False)
 |.ig f args=>match ev S f with
  |.func (.func k) first cap=>((first++args.map (ev S)++cap).any bT)=false/\mB P GI k ((first++args.map (ev S)++cap).map (fz H)) ((first++args.map (ev S)++cap).any bT) (λv=>e={ v:=v }) (λ_=>False)
  |_=>False
 |.box ..|.panic _|.other=>False
 |op=>ar S H op=some e
def j8(P:Program)(GI:World->Prop)(op:fg)(dst:Option Nat)(K:au->aD->Prop)(S:au)(H:aD):Prop:=
 match op with
 |.alloc _ _=>match dst with
  |some d=>K (aF S d (.box d 0)) H
  |none=>False
 |.box ..|.panic _|.other=>False
 |.call f args=>(args.any λy=>bT (ev S y))=false/\cy P GI (.call f args) dst K (λ_=>False) S H
 |.ig f args=>(match ev S f with|.func _ first cap=>(first++args.map (ev S)++cap).any bT|_=>true)=false/\cy P GI (.ig f args) dst K (λ_=>False) S H
 |op=>cy P GI op dst K (λ_=>False) S H
def wo{op:fg}{dst:Option Nat}{K:au->aD->Prop}{S:au}{H:aD}(h:j8 P GI op dst K S H):∃e,l_ P GI op dst S H e/\K (e.S S dst) (e.H H):=by
 cases op
 case alloc t z=>
  cases dst with
  |none=>exact h.elim
  |some d=>exact⟨_,rfl,h⟩
 case call f args=>
  obtain⟨hb,out,h1,h2,h3,h4⟩:=h
  cases out with
  |ret v=>exact⟨{ v:=v },⟨hb,.ret v,h1,h2,h3,rfl⟩,h4⟩
  |panic v=>exact h4.elim
 case ig f args=>
  simp only[j8,cy]at h;simp only[l_];obtain⟨hb,h⟩:=h;split at h
  .rename_i k first cap hf;rw[hf]at hb;obtain⟨out,h1,h2,h3,h4⟩:=h
   cases out with
   |ret v=>exact⟨{ v:=v },by(try simp only[hf]);exact⟨hb,.ret v,h1,h2,h3,rfl⟩,h4⟩
   |panic v=>exact h4.elim
  .exact h.elim
 case box=>exact h.elim
 case panic=>exact h.elim
 case other=>exact h.elim
 all_goals
  simp only[j8,cy]at h;split at h
  case h_2=>exact h.elim
  rename_i e he;exact⟨e,he,h⟩
def dT(P:Program)(GI:World->Prop):List db->(au->aD->Prop)->au->aD->Prop
 |[],K,S,H=>K S H
 |o::rest,K,S,H=>match an S o.guard with
  |some true=>j8 P GI o.op o.dst (dT P GI rest K) S H
  |some false=>dT P GI rest K (bl S o.dst a_) H
  |none=>False
def fa(P:Program)(GI:World->Prop)(o:db)(S:au)(H:aD)(e:aM):Prop:=
 match an S o.guard with
 |some true=>l_ P GI o.op o.dst S H e
 |some false=>e={ v:=a_ }
 |none=>False
def vf {o:db} {rest:List db} {K:au→aD→Prop} {S:au} {H:aD} (h:dT P GI (o::rest) K S H) :
  ∃e,fa P GI o S H e/\dT P GI rest K (e.S S o.dst) (e.H H):=by
 simp only[dT]at h;unfold fa;split at h
 .exact wo h
 .exact⟨_,rfl,h⟩
 .exact h.elim
def de{S S':au}{y:dU}(h:∀t∈y.tmps,S t=S' t):ev S y=ev S' y:=by
 cases y with
 |t k=>exact h k (by simp[dU.tmps])
 |c v=>rfl
 |f k=>rfl
 |m k Qt=>simp only[ev,h k (by simp[dU.tmps])]
def yy{S S':au}{ys:List dU}(h:∀y∈ys,∀t∈y.tmps,S t=S' t):ys.map (ev S)=ys.map (ev S'):=
 aeX λy hy=>de (h y hy)
def xD:Acc->aD->aD->Prop
 |.no,_,_=>True
 |.rd none,H,H'=>∀i,(H i).map (·.map AV.bC)=(H' i).map (·.map AV.bC)
 |.rd (some r),H,H'=>(H r).map (·.map AV.bC)=(H' r).map (·.map AV.bC)
 |.soft none,H,H'|.wr none,H,H'=>H=H'
 |.soft (some r),H,H'|.wr (some r),H,H'=>H r=H' r
def Ql{ag:Bool}{size off:Nat}{cs jX:List AV}(h:cs.map AV.bC=jX.map AV.bC):bu ag size (cs.drop off)=bu ag size (jX.drop off):=by
 have hl:cs.length=jX.length:=by have:=congrArg List.length h;simpa using this
 have hd:(cs.drop off).map AV.bC=(jX.drop off).map AV.bC:=by rw[ahr,ahr,h]
 generalize hx:cs.drop off=xs at hd;generalize hy:jX.drop off=ys at hd
 have tq:xs.length=ys.length:=by have:=congrArg List.length hd;simpa using this
 unfold bu
 have e1:(xs.take size).map AV.bC=(ys.take size).map AV.bC:=by rw[af1,af1,hd]
 have e2:(xs[0]?).map AV.bC=(ys[0]?).map AV.bC:=by
  have:=congrArg (·[0]?) hd;simpa using this
 rw[e1,e2,tq]
def Iv{S S':au}{H H':aD}{op:fg}(hS:∀t∈op.rd,S t=S' t)(hH:xD op.acc H H'):ar S H op=ar S' H' op:=by
 cases op
 case build z ps=>
  have:(ps.map λ(o,s,x)=>(o,s,ev S x))=(ps.map λ(o,s,x)=>(o,s,ev S' x)):=
   aeX λq hq=>by
    have:=de (S:=S) (S':=S') (y:=q.2.2) λt ht=>hS t (aeQ.2 ⟨q,hq,ht⟩)
    simp[this]
  simp only[ar,this]
 case buildSlice t e s ps=>
  have:=yy (S:=S) (S':=S') (ys:=ps) λy hy t ht=>hS t (aeQ.2 ⟨y,hy,ht⟩)
  simp only[ar,this]
 case F0 fn f c=>
  simp only[fg.rd,aeg,aeQ]at hS
  have h1:(f.map λx=>(ev S x).bC)=(f.map λx=>(ev S' x).bC):=aeX λy hy=>by rw[de λt ht=>hS t (.inl ⟨y,hy,ht⟩)]
  have h2:(c.map λx=>(ev S x).bC)=(c.map λx=>(ev S' x).bC):=aeX λy hy=>by rw[de λt ht=>hS t (.inr ⟨y,hy,ht⟩)]
  simp only[ar,h1,h2]
 case pR x lo hi=>
  simp only[fg.rd,aeg,aeQ]at hS
  have h0:=de (S:=S) (S':=S') (y:=x) λt ht=>hS t (.inl ht)
  have h1:lo.map (ev S)=lo.map (ev S'):=by cases lo with|none=>rfl|some y=>simp only[Option.map_some,aeJ];exact de λt ht=>hS t (.inr ⟨y,.inl ah7,ht⟩)
  have h2:hi.map (ev S)=hi.map (ev S'):=by cases hi with|none=>rfl|some y=>simp only[Option.map_some,aeJ];exact de λt ht=>hS t (.inr ⟨y,.inr ah7,ht⟩)
  simp only[ar,h0,h1,h2]
 case oR s x lo hi=>
  simp only[fg.rd,aeg,aeQ]at hS
  have h0:=de (S:=S) (S':=S') (y:=x) λt ht=>hS t (.inl ht)
  have h1:lo.map (ev S)=lo.map (ev S'):=by cases lo with|none=>rfl|some y=>simp only[Option.map_some,aeJ];exact de λt ht=>hS t (.inr ⟨y,.inl ah7,ht⟩)
  have h2:hi.map (ev S)=hi.map (ev S'):=by cases hi with|none=>rfl|some y=>simp only[Option.map_some,aeJ];exact de λt ht=>hS t (.inr ⟨y,.inr ah7,ht⟩)
  simp only[ar,h0,h1,h2]
 case load hr ag s x=>
  have e:=de (S:=S) (S':=S') (y:=x) hS;simp only[ar,e];split
  .rename_i i off he;split
   case isFalse=>rfl
   rename_i df
   have hd:(H i).map (·.map AV.bC)=(H' i).map (·.map AV.bC):=by
    cases hr with
    |any=>exact hH i
    |ref=>cases df
    |box r=>
     have:i=r:=by simpa[HR.okB]using df
     subst this;exact hH
   cases h1:H i<;>cases h2:H' i<;>rw[h1,h2]at hd<;>simp only[Option.map_none,Option.map_some,reduceCtorEq,aeJ]at hd
   .simp only[Ql hd]
  .rfl
  .rfl
 case loadT hr x=>
  have e:=de (S:=S) (S':=S') (y:=x) hS;simp only[ar,e];split
  .rename_i i off he;split
   case isFalse=>rfl
   rename_i df
   have hd:H i=H' i:=by
    cases hr with
    |any=>cases(show H=H' from hH);rfl
    |ref=>cases df
    |box r=>
     have:i=r:=by simpa[HR.okB]using df
     subst this;exact hH
   rw[hd]
  .rfl
 case store hr s x y=>
  simp only[fg.rd,aeg]at hS
  have e1:=de (S:=S) (S':=S') (y:=x) λt ht=>hS t (.inl ht)
  have e2:=de (S:=S) (S':=S') (y:=y) λt ht=>hS t (.inr ht)
  simp only[ar,e1,e2];split
  .rename_i i off he;split
   case isFalse=>rfl
   rename_i df
   have hd:H i=H' i:=by
    cases hr with
    |any=>cases(show H=H' from hH);rfl
    |ref=>cases df
    |box r=>
     have:i=r:=by simpa[HR.okB]using df
     subst this;exact hH
   rw[hd]
  .rfl
 case pick x y z=>
  simp only[fg.rd,aeg]at hS;simp only[ar,de λt ht=>hS t (.inl (.inl ht)),de λt ht=>hS t (.inl (.inr ht)),de λt ht=>hS t (.inr ht)]
 case bin=>simp only[fg.rd,aeg]at hS;simp only[ar,de λt ht=>hS t (.inl ht),de λt ht=>hS t (.inr ht)]
 case DD=>simp only[fg.rd,aeg]at hS;simp only[ar,de λt ht=>hS t (.inl ht),de λt ht=>hS t (.inr ht)]
 case eqs=>simp only[fg.rd,aeg]at hS;simp only[ar,de λt ht=>hS t (.inl ht),de λt ht=>hS t (.inr ht)]
 case pO xs=>
  have:=yy (S:=S) (S':=S') (ys:=xs) λy hy t ht=>hS t (aeQ.2 ⟨y,hy,ht⟩)
  simp only[ar,this]
 case pV=>simp only[fg.rd,aeg]at hS;simp only[ar,de λt ht=>hS t (.inl ht),de λt ht=>hS t (.inr ht)]
 case nJ=>simp only[fg.rd,aeg]at hS;simp only[ar,de λt ht=>hS t (.inl ht),de λt ht=>hS t (.inr ht)]
 case lookup=>simp only[fg.rd,aeg]at hS;simp only[ar,de λt ht=>hS t (.inl ht),de λt ht=>hS t (.inr ht)]
 case indexAddr=>simp only[fg.rd,aeg]at hS;simp only[ar,de λt ht=>hS t (.inl ht),de λt ht=>hS t (.inr ht)]
 case pS=>simp only[fg.rd,aeg]at hS;simp only[ar,de λt ht=>hS t (.inl ht),de λt ht=>hS t (.inr ht)]
 case append=>simp only[fg.rd,aeg]at hS;simp only[ar,de λt ht=>hS t (.inl ht),de λt ht=>hS t (.inr ht)]
 case max=>simp only[fg.rd,aeg]at hS;simp only[ar,de λt ht=>hS t (.inl ht),de λt ht=>hS t (.inr ht)]
 case min=>simp only[fg.rd,aeg]at hS;simp only[ar,de λt ht=>hS t (.inl ht),de λt ht=>hS t (.inr ht)]
 all_goals first
  |rfl
  |simp only[ar,de hS]
def DT{H H':aD}{v:AV}(h:sW v=false):cL H v=cL H' v:=by cases v<;>first|rfl|cases h
def AR{H H':aD}{v:AV}(h:bT v=false):fz H v=fz H' v:=by
 cases v<;>first|rfl|skip
 case box=>cases h
 case func fn first cap=>
  simp only[bT,aha,ae9,afd]at h;simp only[fz]
  congr 1
  .exact aeX λy hy=>DT (h.1 y hy)
  .exact aeX λy hy=>DT (h.2 y hy)
def Ld{S S':au}{H H':aD}{op:fg}{dst:Option Nat}{e:aM}(hS:∀t∈op.rd,S t=S' t)(hH:xD op.acc H H')(h:l_ P GI op dst S H e):l_ P GI op dst S' H' e:=by
 cases op
 case alloc=>exact h
 case box=>exact h
 case panic=>exact h
 case other=>exact h
 case call f args=>
  simp only[fg.rd,aeQ]at hS;simp only[l_]at h⊢;obtain⟨hb,h⟩:=h
  have h2:(args.any λy=>bT (ev S y))=(args.any λy=>bT (ev S' y)):=by
   rw[aeW];simp only[afC]
   constructor
   .rintro⟨y,hy,hb⟩;exact⟨y,hy,by rw[<-de λt ht=>hS t ⟨y,hy,ht⟩];exact hb⟩
   .rintro⟨y,hy,hb⟩;exact⟨y,hy,by rw[de λt ht=>hS t ⟨y,hy,ht⟩];exact hb⟩
  have h1:(args.map λy=>fz H (ev S y))=(args.map λy=>fz H' (ev S' y)):=aeX λy hy=>by
   rw[<-de λt ht=>hS t ⟨y,hy,ht⟩];simp only[ae9,afd]at hb;exact AR (hb y hy)
  rw[<-h1,<-h2];exact⟨hb,h⟩
 case ig f args=>
  simp only[fg.rd,aeg,aeQ]at hS;simp only[l_]at h⊢
  have h1:=yy (S:=S) (S':=S') (ys:=args) λy hy t ht=>hS t (.inr ⟨y,hy,ht⟩)
  rw[<-de λt ht=>hS t (.inl ht)];split at h
  case h_2=>exact h.elim
  obtain⟨hb,h⟩:=h;rw[<-h1];refine⟨hb,?_⟩
  have h3:∀l:List AV,l.any bT=false->l.map (fz H)=l.map (fz H'):=λl hl=>aeX λy hy=>by
   simp only[ae9,afd]at hl;exact AR (hl y hy)
  rw[<-h3 _ hb];exact h
 all_goals
  simp only[l_]at h⊢;rw[<-Iv hS hH];exact h
def aM.wN{e:aM}{S:au}{dst:Option Nat}{t:Nat}(h1:dst≠some t)(h2:e.dm≠some t):e.S S dst t=S t:=by
 unfold aM.S
 cases dst with
 |none=>
  cases hd:e.dm with
  |none=>rfl
  |some k=>simp only[bl];exact b_ _ _ (λh=>h2 (by rw[hd,h]))
 |some d=>
  simp only[bl];rw[b_ _ _ (λh=>h1 (by rw[h]))]
  cases hd:e.dm with
  |none=>rfl
  |some k=>exact b_ _ _ (λh=>h2 (by rw[hd,h]))
def DX(acc:Acc)(H:aD):Option (Nat×List AV)->Prop
 |none=>True
 |some (i,cs)=>match acc with
  |.soft r=>meets r (some i)=true/\∃old,H i=some old/\old.map AV.bC=cs.map AV.bC
  |.wr r=>meets r (some i)=true
  |_=>False
def EU{hr:HR}{i:Nat}(h:hr.okB i=true):meets hr.one (some i)=true:=by
 cases hr with
 |any=>rfl
 |ref=>cases h
 |box r=>simp only[HR.okB]at h;simp only[HR.one,meets];rw[aeS]at h⊢;exact h.symm
def js(v:AV):v.bC=v.bC.bC:=(AV.idem v).symm
def Sl{S:au}{H:aD}{op:fg}{e:aM}(h:ar S H op=some e):(∀t,e.dm=some t->t∈op.wr)/\DX op.acc H e.hw:=by
 cases op
 case mv tk x=>
  simp only[ar]at h
  split at h<;>cases h
  .rename_i qp;subst qp;refine⟨λt ht=>?_,trivial⟩
   cases x<;>simp only[bj]at ht<;>cases ht
   simp[fg.wr,dU.tmps]
  .exact⟨λt ht=>(by cases ht),trivial⟩
 case store hr s x y=>
  simp only[ar]at h
  split at h<;>try cases h
  split at h<;>try cases h
  split at h<;>try cases h
  split at h<;>cases h
  rename_i df _ _ _ _;refine⟨λt ht=>?_,EU (by assumption)⟩
  cases y<;>simp only[bj]at ht<;>cases ht
  simp[fg.wr,dU.tmps]
 case loadT hr x=>
  simp only[ar]at h
  split at h<;>try cases h
  split at h<;>try cases h
  split at h<;>try cases h
  split at h<;>cases h
  refine⟨λt ht=>(by cases ht),EU (by assumption),_,by assumption,?_⟩;rename_i cs tZ _ v hv;rw[List.map_set];obtain⟨aN,rfl⟩:=aey.1 hv;apply ag6 ah7;intro j h1 h2;rw[ag5];split
  .rename_i hj;subst hj;simp only[aep];exact js _
  .rfl
 case append t e s b x y=>
  simp only[ar]at h;split at h
  .split at h<;>cases h
   exact⟨λt ht=>(by cases ht),trivial⟩
  .split at h<;>cases h
   refine⟨λt ht=>?_,trivial⟩
   cases x<;>simp only[bj]at ht<;>cases ht
   simp[fg.wr,dU.tmps]
  .cases h
 all_goals
  simp only[ar]at h
  first
   |(cases h;done)
   |(simp only[aeo]at h;obtain⟨_,_,rfl⟩:=h;exact⟨λt ht=>(by cases ht),trivial⟩)
   |((repeat' split at h)<;>first|(cases h;done)|(cases h;exact⟨λt ht=>(by cases ht),trivial⟩)|(simp only[aeo]at h;obtain⟨_,_,rfl⟩:=h;exact⟨λt ht=>(by cases ht),trivial⟩))
def Mw{S:au}{H:aD}{op:fg}{dst:Option Nat}{e:aM}(h:l_ P GI op dst S H e):(∀t,e.dm=some t->t∈op.wr)/\DX op.acc H e.hw:=by
 cases op
 case alloc=>
  simp only[l_]at h;split at h
  .subst h;exact⟨λt ht=>(by cases ht),trivial⟩
  .exact h.elim
 case box=>exact h.elim
 case panic=>exact h.elim
 case other=>exact h.elim
 case call f args=>
  obtain⟨_,out,_,_,_,h4⟩:=h
  cases out with
  |ret v=>cases(show e=_ from h4);exact⟨λt ht=>(by cases ht),trivial⟩
  |panic v=>exact h4.elim
 case ig f args=>
  simp only[l_]at h;split at h
  .obtain⟨_,out,_,_,_,h4⟩:=h
   cases out with
   |ret v=>cases(show e=_ from h4);exact⟨λt ht=>(by cases ht),trivial⟩
   |panic v=>exact h4.elim
  .exact h.elim
 all_goals exact Sl h
def gf{S:au}{H:aD}{o:db}{e:aM}(h:fa P GI o S H e):(∀t,e.dm=some t->t∈o.op.wr)/\DX o.op.acc H e.hw:=by
 unfold fa at h;split at h
 .exact Mw h
 .subst h;exact⟨λt ht=>(by cases ht),trivial⟩
 .exact h.elim
def vJ{S S':au}{gd:Option (Nat×Bool)}(h:∀t b,gd=some (t,b)->S t=S' t):an S gd=an S' gd:=by
 cases gd with
 |none=>rfl
 |some p=>obtain⟨t,b⟩:=p;simp only[an,h t b rfl]
def xZ{S S':au}{H H':aD}{o:db}{e:aM}(hS:∀t∈o.reads,S t=S' t)(hH:xD o.op.acc H H')(h:fa P GI o S H e):fa P GI o S' H' e:=by
 unfold fa at*
 have hg:an S o.guard=an S' o.guard:=vJ λt b DL=>hS t (by simp[db.reads,DL])
 rw[<-hg];split at h
 .exact Ld (λt ht=>hS t (by simp[db.reads,ht])) hH h
 .exact h
 .exact h
def EZ(a b:Acc):a.conflict b=b.conflict a:=by
 cases a<;>cases b<;>simp only[Acc.conflict]<;>(rename_i x y;cases x<;>cases y<;>simp only[meets];rw[aeW,aeS,aeS];exact eq_comm)
def apart_spec {x y:db} (h:x.apart y=true) :
  (∀t∈x.writes,t∉y.reads/\t∉y.writes)/\(∀t∈y.writes,t∉x.reads)/\x.op.acc.conflict y.op.acc=false:=by
 simp only[db.apart,aeb,aeh,ae_]at h;obtain⟨⟨h1,h2⟩,h3⟩:=h;refine⟨λt ht=>?_,λt ht=>?_,h3⟩
 .have:=h1 t ht;simpa using this
 .have:=h2 t ht;simpa using this
def D9{x y:Acc}(hc:x.conflict y=false){e:aM}{H:aD}(hw:DX y H e.hw):xD x H (e.H H):=by
 have refl:∀{H':aD},H=H'->xD x H H':=by
  rintro _ rfl
  cases x with
  |no=>trivial
  |rd r=>cases r<;>simp[xD]
  |soft r=>cases r<;>simp[xD]
  |wr r=>cases r<;>simp[xD]
 unfold aM.H
 cases hh:e.hw with
 |none=>exact refl rfl
 |some p=>
  obtain⟨i,cs⟩:=p;rw[hh]at hw;simp only
  cases x with
  |no=>trivial
  |rd r=>
   cases y with
   |no=>exact hw.elim
   |rd=>exact hw.elim
   |soft q=>
    obtain⟨_,old,h1,h2⟩:=hw
    have key:∀j,(H j).map (·.map AV.bC)=(aF H i (some cs) j).map (·.map AV.bC):=by
     intro j
     by_cases hj:j=i
     .subst hj;rw[bX,h1];simp[h2]
     .rw[b_ _ _ hj]
    cases r with
    |none=>exact key
    |some r=>exact key r
   |wr q=>
    cases r with
    |none=>cases q<;>simp[Acc.conflict,meets]at hc
    |some r=>
     cases q with
     |none=>simp[Acc.conflict,meets]at hc
     |some q=>
      simp only[Acc.conflict,meets,aeO]at hc
      have hq:q=i:=by simpa[DX,meets]using hw
      subst hq;simp only[xD];rw[b_ _ _ hc]
  |soft r=>
   have dR:∀q,meets q (some i)=true->meets r q=false->∃r',r=some r'/\r'≠i:=by
    intro q h1 h2
    cases r with
    |none=>cases q<;>simp[meets]at h2
    |some r=>
     cases q with
     |none=>simp[meets]at h2
     |some q=>
      simp only[meets,aeS,aeO]at h1 h2;exact⟨r,rfl,by rw[<-h1];exact h2⟩
   cases y with
   |no=>exact hw.elim
   |rd=>exact hw.elim
   |soft q=>
    obtain⟨r',rfl,hn⟩:=dR q hw.1 hc;simp only[xD];rw[b_ _ _ hn]
   |wr q=>
    obtain⟨r',rfl,hn⟩:=dR q hw hc;simp only[xD];rw[b_ _ _ hn]
  |wr r=>
   have dR:∀q,meets q (some i)=true->meets r q=false->∃r',r=some r'/\r'≠i:=by
    intro q h1 h2
    cases r with
    |none=>cases q<;>simp[meets]at h2
    |some r=>
     cases q with
     |none=>simp[meets]at h2
     |some q=>
      simp only[meets,aeS,aeO]at h1 h2;exact⟨r,rfl,by rw[<-h1];exact h2⟩
   cases y with
   |no=>exact hw.elim
   |rd=>exact hw.elim
   |soft q=>
    obtain⟨r',rfl,hn⟩:=dR q hw.1 hc;simp only[xD];rw[b_ _ _ hn]
   |wr q=>
    obtain⟨r',rfl,hn⟩:=dR q hw hc;simp only[xD];rw[b_ _ _ hn]
def xD.symm{x:Acc}{H H':aD}(h:xD x H H'):xD x H' H:=by
 cases x with
 |no=>trivial
 |rd r=>cases r with
  |none=>exact λi=>(h i).symm
  |some r=>exact Eq.symm h
 |soft r=>cases r<;>exact Eq.symm h
 |wr r=>cases r<;>exact Eq.symm h
def fX{o:db}{t:Nat}(h:o.dst=some t\/t∈o.op.wr):t∈o.writes:=by
 rcases h with h|h<;>simp[db.writes,h]
def uq{x y:db}{S:au}{H:aD}{ex ey:aM}(ha:x.apart y=true)(hy:fa P GI y S H ey)(hx:fa P GI x S H ex):fa P GI x (ey.S S y.dst) (ey.H H) ex:=by
 obtain⟨h1,h2,h3⟩:=apart_spec ha;obtain⟨d1,d2⟩:=gf hy;refine xZ (λt ht=>?_) (D9 h3 d2) hx;rw[aM.wN (λh=>h2 t (fX (.inl h)) ht) (λh=>h2 t (fX (.inr (d1 t h))) ht)]
def tQ{x y:db}{S:au}{H:aD}{ex ey:aM}(ha:x.apart y=true)(hx:fa P GI x S H ex)(hy:fa P GI y (ex.S S x.dst) (ex.H H) ey):fa P GI y S H ey:=by
 obtain⟨h1,h2,h3⟩:=apart_spec ha;obtain⟨d1,d2⟩:=gf hx;refine xZ (λt ht=>?_) (D9 (by rw[EZ];exact h3) d2).symm hy;rw[aM.wN (λh=>(h1 t (fX (.inl h))).1 ht) (λh=>(h1 t (fX (.inr (d1 t h)))).1 ht)]
def aM.abe(e:aM)(S:au)(dst:Option Nat)(t:Nat):e.S S dst t=if dst=some t then e.v else if e.dm=some t then(S t).bC else S t:=by
 unfold aM.S
 cases dst with
 |none=>
  rw[if_neg ah7]
  cases e.dm with
  |none=>rfl
  |some k=>
   simp only[bl,aeJ]
   by_cases h:k=t
   .subst h;simp[bX]
   .rw[if_neg h];exact b_ _ _ (λhh=>h hh.symm)
 |some d=>
  simp only[bl,aeJ]
  by_cases hd:d=t
  .subst hd;simp[bX]
  .rw[if_neg hd,b_ _ _ (λhh=>hd hh.symm)]
   cases e.dm with
   |none=>rfl
   |some k=>
    simp only[aeJ]
    by_cases h:k=t
    .subst h;simp[bX]
    .rw[if_neg h];exact b_ _ _ (λhh=>h hh.symm)
def yI {x y:db} {S:au} {ex ey:aM} (ha:x.apart y=true) (dx:∀ t,ex.dm=some t→t∈x.op.wr) (dy:∀ t,ey.dm=some t→t∈y.op.wr) :
  ey.S (ex.S S x.dst) y.dst=ex.S (ey.S S y.dst) x.dst:=by
 obtain⟨h1,h2,h3⟩:=apart_spec ha
 funext t
 simp only[aM.abe]
 by_cases hx:x.dst=some t\/ex.dm=some t
 .have hxw:t∈x.writes:=fX (hx.imp id (dx t))
  have JZ:y.dst≠some t:=λh=>(h1 t hxw).2 (fX (.inl h))
  have hy2:ey.dm≠some t:=λh=>(h1 t hxw).2 (fX (.inr (dy t h)))
  simp only[if_neg JZ,if_neg hy2]
 .simp only[not_or]at hx;simp only[if_neg hx.1,if_neg hx.2]
def yl {x y:db} {H:aD} {ex ey:aM} (ha:x.apart y=true) (dx:DX x.op.acc H ex.hw) (dy:DX y.op.acc H ey.hw) :
  ey.H (ex.H H)=ex.H (ey.H H):=by
 obtain⟨_,_,h3⟩:=apart_spec ha;unfold aM.H
 cases hx:ex.hw with
 |none=>rfl
 |some p=>
  cases hy:ey.hw with
  |none=>rfl
  |some q=>
   obtain⟨i,cs⟩:=p;obtain⟨j,ds⟩:=q;rw[hx]at dx;rw[hy]at dy;simp only
   have dR:i≠j:=by
    have key:∀a b:Option Nat,meets a (some i)=true->meets b (some j)=true->meets a b=false->i≠j:=by
     intro a b h1 h2 h3
     cases a with
     |none=>cases b<;>simp[meets]at h3
     |some a=>
      cases b with
      |none=>simp[meets]at h3
      |some b=>
       simp only[meets,aeS,aeO]at h1 h2 h3;rw[<-h1,<-h2];exact h3
    generalize x.op.acc=ax at dx h3;generalize y.op.acc=ay at dy h3
    cases ax<;>cases ay<;>first|(exact dx.elim)|(exact dy.elim)|skip
    .exact key _ _ dx.1 dy.1 h3
    .exact key _ _ dx.1 dy h3
    .exact key _ _ dx dy.1 h3
    .exact key _ _ dx dy h3
   funext k
   by_cases h1:k=i
   .subst h1;rw[b_ _ _ dR,bX,bX]
   .by_cases h2:k=j
    .subst h2;rw[bX,b_ _ _ h1,bX]
    .rw[b_ _ _ h2,b_ _ _ h1,b_ _ _ h1,b_ _ _ h2]
end
section
variable{P:Program}{GI:World->Prop}{md:Region.Mode}{ops:Array Oper}{n:Nat}
def jY(P:Program)(n:Nat)(ops:Array Oper)(i:Nat):Option db:=(ops[i]?).map (cZ P n true ops)
def LD(P:Program)(GI:World->Prop)(n:Nat)(ops:Array Oper)(i:Nat)(K:au->aD->Prop)(S:au)(H:aD):Prop:=
 match jY P n ops i with
 |none=>False
 |some o=>∃e,fa P GI o S H e/\K (e.S S o.dst) (e.H H)
def An(P:Program)(GI:World->Prop)(n:Nat)(md:Region.Mode)(ops:Array Oper)(QA:au->aD->Prop):Nat->Array Bool->au->aD->Prop
 |0,listed,S,H=>Region.ready md ops listed=[]/\QA S H
 |fuel+1,listed,S,H=>(Region.ready md ops listed=[]->QA S H)/\∀i∈Region.ready md ops listed,LD P GI n ops i (An P GI n md ops QA fuel (listed.setIfInBounds i true)) S H
def xX{listed:Array Bool}{i:Nat}(h:i∈Region.ready md ops listed):∃o,ops[i]?=some o/\jY P n ops i=some (cZ P n true ops o):=by
 obtain⟨_,o,ho,_⟩:=af8.1 h;exact⟨o,ho,by simp[jY,ho]⟩
def Ns {QA:au→aD→Prop} {i:Nat} {oi:db} {e:aM} (hi:jY P n ops i=some oi) :
  ∀(fuel:Nat)(listed:Array Bool)(S:au)(H:aD),
   (∀j o aj,ops[j]?=some o->jY P n ops j=some aj->j≠i->listed.getD j true=false->(∀ed∈o.after,Region.binds md ed=true->ed.on≠i)->oi.apart aj=true)->
   i∈Region.ready md ops listed->fa P GI oi S H e->
   An P GI n md ops QA fuel (listed.setIfInBounds i true) (e.S S oi.dst) (e.H H)->An P GI n md ops QA (fuel+1) listed S H:=by
 intro fuel
 induction fuel with
 |zero=>
  intro listed S H _ hr hy hK;refine⟨λh=>(by rw[h]at hr;cases hr),λj hj=>?_⟩
  by_cases gL:j=i
  .subst gL;unfold LD;rw[hi];exact⟨e,hy,hK⟩
  .have:=agd hj gL;rw[hK.1]at this;cases this
 |succ fuel ih=>
  intro listed S H nR hr hy hK;refine⟨λh=>(by rw[h]at hr;cases hr),λj hj=>?_⟩
  by_cases gL:j=i
  .subst gL;unfold LD;rw[hi];exact⟨e,hy,hK⟩
  .have h1:=hK.2 j (agd hj gL);obtain⟨zw,o,ho,eu⟩:=af8.1 hj
   have tB:jY P n ops j=some (cZ P n true ops o):=by simp[jY,ho]
   have MA:∀ed∈o.after,Region.binds md ed=true->ed.on≠i:=λed U3 hb heq=>by
    have h1:=eu ed U3 hb;have h0:=(af8.1 hr).1;rw[heq]at h1;rcases afB i listed.size with h'|h'
    .simp[h']at h0 h1;rw[h0]at h1;cases h1
    .simp[afF h']at h1
   have kI:=nR j o _ ho tB gL zw MA;unfold LD at h1⊢;rw[tB]at h1⊢;obtain⟨ej,Gw,RU⟩:=h1;have wH:=tQ kI hy Gw;refine⟨ej,wH,?_⟩
   have xj:∀k o' ak,ops[k]?=some o'->jY P n ops k=some ak->k≠i->(listed.setIfInBounds j true).getD k true=false->(∀ed∈o'.after,Region.binds md ed=true->ed.on≠i)->oi.apart ak=true:=by
    intro k o' ak hk PB Di gp iX;refine nR k o' ak hk PB Di ?_ iX
    by_cases yv:j=k
    .subst yv;exact zw
    .rw[agv true yv]at gp;exact gp
   refine ih (listed.setIfInBounds j true) _ _ xj (agd hr (ae0 gL)) (uq kI wH hy) ?_;rw[agl _ _ gL];rw[<-yI kI (gf hy).1 (gf Gw).1,<-yl kI (gf hy).2 (gf wH).2];exact RU
def Jw(md:Region.Mode)(ops:Array Oper)(al:List db)(listed:Array Bool)(i:Nat):Bool:=
 match al[i]? with
 |none=>false
 |some oi=>(List.range ops.size).all fun j=>j==i || listed.getD j true || match ops[j]?,al[j]? with
   |some oj,some aj=>oj.after.any (λe=>Region.binds md e&&e.on==i)||oi.apart aj
   |_,_=>true
def MC(md:Region.Mode)(ops:Array Oper)(al:List db):Nat->Nat->Array Bool->Bool
 |0,_,listed=>(Region.ready md ops listed).isEmpty
 |fuel+1,k,listed=>(Region.ready md ops listed).contains k&&Jw md ops al listed k&&MC md ops al fuel (k+1) (listed.setIfInBounds k true)
def gw(i:Nat):(cJ P n true ops)[i]?=jY P n ops i:=by simp[cJ,jY]
def Ce {i:Nat} {oi:db} {listed:Array Bool} (hi:jY P n ops i=some oi) (h:Jw md ops (cJ P n true ops) listed i=true) (j:Nat) (o:Oper) (aj:db)
  (hj:ops[j]?=some o) (tB:jY P n ops j=some aj) (dR:j≠i) (gp:listed.getD j true=false) (iX:∀e∈o.after,Region.binds md e=true->e.on≠i):oi.apart aj=true:=by
 simp only[Jw,gw,hi,aeh,aeI]at h;have h1:=h j (aea.1 hj).1;simp only[hj,tB,afo,aeS,dR,ahC,gp,aek]at h1;rcases h1 with h1|h1
 .obtain⟨e,he,hb⟩:=agM.1 h1;simp only[aeb,aeS]at hb;exact absurd hb.2 (iX e he hb.1)
 .exact h1
def A_ {QA:au→aD→Prop}:∀ (l:List Oper) (k:Nat) (listed:Array Bool) (S:au) (H:aD),(∀ j,l[j]? = ops[k+j]?) →
  MC md ops (cJ P n true ops) l.length k listed=true->dT P GI (l.map (cZ P n true ops)) QA S H->An P GI n md ops QA l.length listed S H
 |[],_,_,_,_,_,hB,h=>⟨by simpa[MC]using hB,h⟩
 |o::l,k,listed,S,H,hl,hB,h=>by
  have h0:ops[k]?=some o:=by simpa using(hl 0).symm
  have ha:jY P n ops k=some (cZ P n true ops o):=by simp[jY,h0]
  simp only[List.length_cons,MC,aeb]at hB;obtain⟨⟨hr,hf⟩,N5⟩:=hB;obtain⟨e,hy,hK⟩:=vf h
  exact Ns ha l.length listed S H (Ce ha hf) (by simpa using hr) hy
   (A_ l (k+1) _ _ _ (λj=>by have:=hl (j+1);simpa[agG,Nat.add_comm 1 j]using this) N5 hK)
def aI(o:db):Option (Nat×List AV):=
 match o.op,o.dst with
 |.alloc _ z,some d=>some (d,z)
 |_,_=>none
def UU(P:Program)(n:Nat)(ops:Array Oper)(listed:Array Bool)(t:Nat):Prop:=
 ∃j o z,jY P n ops j=some o/\aI o=some (t,z)/\listed.getD j true=false
def pC(md:Region.Mode)(ops:Array Oper)(al:List db):Bool:=
 (List.range ops.size).all λj=>match ops[j]?,al[j]? with
  |some oj,some aj=>match aI aj with
   |some (d,_)=>oj.after.isEmpty && aj.guard.isNone && (List.range ops.size).all fun k=>k==j || match ops[k]?,al[k]? with
     |some ok,some ak=>!ak.writes.contains d&&(!ak.reads.contains d||ok.after.any (λe=>Region.binds md e&&e.on==j))
     |_,_=>false
   |none=>true
  |_,_=>false
def mm (h:pC md ops (cJ P n true ops)=true) {j:Nat} {oj:Oper} {aj:db} {d:Nat} {z:List AV} (hj:ops[j]? = some oj) (tB:jY P n ops j=some aj) (hd:aI aj=some (d,z)) :
  oj.after=#[]/\aj.guard=none/\∀k ok ak,ops[k]?=some ok->jY P n ops k=some ak->k≠j->d∉ak.writes/\(d∈ak.reads->∃e∈ok.after,Region.binds md e=true/\e.on=j):=by
 simp only[pC,aeh,aeI]at h;have h1:=h j (aea.1 hj).1;simp only[hj,gw,tB,hd,aeb,aeh,aeI]at h1;obtain⟨⟨h2,h3⟩,h4⟩:=h1;refine⟨by simpa using h2,by simpa using h3,λk ok ak hk PB dR=>?_⟩;have h5:=h4 k (aea.1 hk).1;simp only[hk,PB,afo,aeS,dR,ahC,aeb,ae_]at h5;refine⟨by simpa using h5.1,λhd=>?_⟩;rcases h5.2 with h6|h6
 .simp at h6;exact absurd hd h6
 .obtain⟨e,he,hb⟩:=agM.1 h6;simp only[aeb,aeS]at hb;exact⟨e,he,hb⟩
def Ll(hA:pC md ops (cJ P n true ops)=true){listed:Array Bool}(hr:Region.ready md ops listed=[]):UU P n ops listed=dh:=by
 funext t
 simp only[dh,agV,iff_false];rintro⟨j,o,z,h1,h2,h3⟩;unfold jY at h1
 cases hj:ops[j]? with
 |none=>simp[hj]at h1
 |some oj=>
  have tB:jY P n ops j=some o:=by unfold jY;exact h1
  obtain⟨ha,_,_⟩:=mm hA hj tB h2;have:j∈Region.ready md ops listed:=af8.2 ⟨h3,oj,hj,λe he=>by rw[ha]at he;simp at he⟩;rw[hr]at this;cases this
def GV{listed:Array Bool}{i:Nat}{oi:db}(hi:jY P n ops i=some oi)(iX:aI oi=none):UU P n ops (listed.setIfInBounds i true)=UU P n ops listed:=by
 funext t
 simp only[UU,agV]
 constructor
 .rintro⟨j,o,z,h1,h2,h3⟩;refine⟨j,o,z,h1,h2,?_⟩
  by_cases gL:i=j
  .subst gL;rw[hi]at h1;cases h1;rw[iX]at h2;cases h2
  .rwa [agv true gL]at h3
 .rintro⟨j,o,z,h1,h2,h3⟩;refine⟨j,o,z,h1,h2,?_⟩
  by_cases gL:i=j
  .subst gL;rw[hi]at h1;cases h1;rw[iX]at h2;cases h2
  .rwa [agv true gL]
def SJ (hA:pC md ops (cJ P n true ops)=true) {listed:Array Bool} {i d:Nat} {o:Oper} {oi:db} {z:List AV} (ho:ops[i]? = some o) (hi:jY P n ops i=some oi) (hd:aI oi=some (d,z)) (aN:i < listed.size) :
  UU P n ops (listed.setIfInBounds i true)=λt=>UU P n ops listed t/\t≠d:=by
 obtain⟨_,_,pc⟩:=mm hA ho hi hd
 funext t
 simp only[UU,agV]
 constructor
 .rintro⟨j,oj,z',h1,h2,h3⟩
  have gL:i≠j:=by rintro rfl;simp[aN]at h3
  refine⟨⟨j,oj,z',h1,h2,by rwa [agv true gL]at h3⟩,?_⟩;rintro rfl
  have hj:∃o',ops[j]?=some o':=by
   unfold jY at h1
   cases hj:ops[j]? with
   |none=>simp[hj]at h1
   |some o'=>exact⟨o',rfl⟩
  obtain⟨o',hj⟩:=hj;have:=(pc j o' oj hj h1 (ae0 gL)).1;apply this;unfold aI at h2;split at h2
  .rename_i jb;simp only[aeJ,agH]at h2;rw[h2.1]at jb;exact fX (.inl jb)
  .cases h2
 .rintro⟨⟨j,oj,z',h1,h2,h3⟩,dR⟩
  have gL:i≠j:=by
   rintro rfl;rw[hi]at h1;cases h1;rw[hd]at h2;simp only[aeJ,agH]at h2;exact dR h2.1.symm
  exact⟨j,oj,z',h1,h2,by rwa [agv true gL]⟩
end
section
variable{P:Program}{GI:World->Prop}{w0:World}{n:Nat}{U:Nat->Prop}{g:Gh}{S:au}{H:aD}{a:Act}{w:World}{ops:Array Oper}
def Lq{dr:Bool}{o:db}{x:Oper}{hr:HR}{size:Nat}{y z:dU}(hc:cZ P n dr ops x=o)(h:o.op=.store hr size y z):∃x',ep n x'=some y:=by
 subst hc;unfold cZ at h;revert h;generalize(match x.dst with|some d=>taken ops d|none=>false)=tk;intro h;simp only at h;unfold comp at h
 repeat' split at h
 all_goals first
  |(cases h;done)
  |(cases h;exact⟨_,by assumption⟩)
def ND{dr:Bool}{o:db}{x:Oper}{hr:HR}{y:dU}(hc:cZ P n dr ops x=o)(h:o.op=.loadT hr y):∃x',ep n x'=some y:=by
 subst hc;unfold cZ at h;revert h;generalize(match x.dst with|some d=>taken ops d|none=>false)=tk;intro h;simp only at h;unfold comp at h
 repeat' split at h
 all_goals first
  |(cases h;done)
  |(cases h;exact⟨_,by assumption⟩)
def aas(R:Rel P w0 n U g S H a w){o:Oper}{dst:Option Nat}{e:aM}(ec:∀t∈(cZ P n true ops o).op.rd,¬U t)(h:l_ P GI (cZ P n true ops o).op dst S H e){i:Nat}{cs:List AV}(hw:e.hw=some (i,cs)):(g.al i).isSome=true:=by
 have Ln:=(Mw h).2;rw[hw]at Ln
 have box:∀{y:dU}{x':Operand}{off:Nat},ep n x'=some y->(∀t∈y.tmps,¬U t)->AL.ev S y=.box i off->(g.al i).isSome=true:=by
  intro y x' off hx hu he;have:=R.ev hx hu;rw[he]at this;generalize a.eval x'=c at this
  cases this with
  |data _ _ h=>cases h
  |box _ _ b h=>simp[h]
 generalize hc:(cZ P n true ops o).op=op at ec h Ln
 cases op<;>try (exact Ln.elim)
 case load hr _ _ _=>cases hr<;>exact Ln.elim
 case loadT hr y=>
  obtain⟨x',hx⟩:=ND rfl hc;simp only[l_,ar]at h
  cases tI:AL.ev S y<;>rw[tI]at h<;>simp only at h<;>try cases h
  rename_i k off;split at h
  case isFalse=>cases h
  split at h
  case h_2=>cases h
  split at h
  case h_2=>cases h
  cases h;cases hw;exact box hx ec tI
 case store hr s y z=>
  obtain⟨x',hx⟩:=Lq rfl hc;simp only[fg.rd,aeg]at ec;simp only[l_,ar]at h
  cases tI:AL.ev S y<;>rw[tI]at h<;>simp only at h<;>try cases h
  rename_i k off;split at h
  case isFalse=>cases h
  split at h
  case h_2=>cases h
  split at h
  case isFalse=>cases h
  cases h;cases hw;exact box hx (λt ht=>ec t (.inl ht)) tI
def Ej{op:fg}(h:op.calm=true){dst:Option Nat}{e:aM}(hd:l_ P GI op dst S H e):ar S H op=some e:=by
 cases op<;>first|exact hd|cases h
def H_ (hG:aQ GI) (dI:GI w0) {old:Old} {Q:eh→au→aD→Prop} (hA:pC .any ops (cJ P n true ops)=true) (df:∀ o∈ops,(cZ P n true ops o).ok n=true) :
  ∀(fuel:Nat)(listed:Array Bool)(g:Gh)(S:au)(H:aD)(a:Act)(w:World),listed.size=ops.size->g.old=old->Rel P w0 n (UU P n ops listed) g S H a w->
   (∀j o d z,jY P n ops j=some o->aI o=some (d,z)->listed.getD j true=false->S d=.box d 0/\H d=some z)->
   An P GI n .any ops (Q .normal) fuel listed S H->wpAny P .any ops (QQ P w0 n old Q) fuel listed a w:=by
 intro fuel
 induction fuel with
 |zero=>
  intro listed g S H a w _ ho R _ h;have hU:=Ll hA h.1;rw[hU]at R;exact⟨h.1,g,S,H,ho,R,h.2⟩
 |succ fuel ih=>
  intro listed g S H a w Xm ho R hinv h;refine⟨λhr=>?_,λi hi=>?_⟩
  .have hU:=Ll hA hr;rw[hU]at R;exact⟨g,S,H,ho,R,h.1 hr⟩
  .have hd:=h.2 i hi;obtain⟨o,kz,Bg⟩:=xX (P:=P) (n:=n) hi;obtain⟨Yd,o',qh,eu⟩:=af8.1 hi;rw[kz]at qh;cases qh
   have DR:i<listed.size:=by rw[Xm];exact(aea.1 kz).1
   unfold LD at hd;rw[Bg]at hd;obtain⟨e,hy,hK⟩:=hd;have vd:=df o (afg kz)
   have HW:∀t∈(cZ P n true ops o).reads,¬UU P n ops listed t:=by
    rintro t ht ⟨j,aj,z,h1,h2,h3⟩
    have hj:∃oj,ops[j]?=some oj:=by
     unfold jY at h1
     cases hj:ops[j]? with
     |none=>simp[hj]at h1
     |some oj=>exact⟨oj,rfl⟩
    obtain⟨oj,hj⟩:=hj;obtain⟨k1,k2,k3⟩:=mm hA hj h1 h2
    by_cases gL:i=j
    .subst gL;rw[Bg]at h1;cases h1;unfold aI at h2;split at h2
     .rename_i eg _;simp only[db.reads,eg,k2,fg.rd,afe]at ht;cases ht
     .cases h2
    .obtain⟨ed,he1,IM,he3⟩:=(k3 i o _ kz Bg gL).2 ht;have:=eu ed he1 IM;rw[he3]at this;rcases afB j listed.size with h'|h'
     .simp[h']at h3 this;rw[h3]at this;cases this
     .simp[afF h']at this
   have qU:∀j aj d z,jY P n ops j=some aj->aI aj=some (d,z)->j≠i->d∉(cZ P n true ops o).writes:=by
    intro j aj d z h1 h2 dR
    have hj:∃oj,ops[j]?=some oj:=by
     unfold jY at h1
     cases hj:ops[j]? with
     |none=>simp[hj]at h1
     |some oj=>exact⟨oj,rfl⟩
    obtain⟨oj,hj⟩:=hj;exact((mm hA hj h1 h2).2.2 i o _ kz Bg (ae0 dR)).1
   have wK:∀t,o.dst=some t->t<n/\t∉(cZ P n true ops o).op.rd:=by
    intro t ht;simp only[db.ok,aeb]at vd;have h1:=vd.1;rw[show(cZ P n true ops o).dst=o.dst from rfl,ht]at h1;simpa using h1
   have ZW:aI (cZ P n true ops o)=none->∀t,o.dst=some t->¬UU P n ops listed t:=by
    rintro iX t ht ⟨j,aj,z,h1,h2,h3⟩
    have dR:j≠i:=by rintro rfl;rw[Bg]at h1;cases h1;rw[iX]at h2;cases h2
    exact qU j aj t z h1 h2 dR (fX (.inl ht))
   have Vt:(∀ k cs,e.hw=some (k,cs)→(g.al k).isSome=true)→∀ j aj d z,jY P n ops j=some aj→aI aj=some (d,z)→(listed.setIfInBounds i true).getD j true=false →
     e.S S o.dst d=.box d 0/\e.H H d=some z:=by
    intro Ln j aj d z h1 h2 h3
    have dR:j≠i:=by rintro rfl;simp[DR]at h3
    have Pg:listed.getD j true=false:=by rwa [agv true (ae0 dR)]at h3
    obtain⟨k1,k2⟩:=hinv j aj d z h1 h2 Pg;have hw:=qU j aj d z h1 h2 dR;refine⟨?_,?_⟩
    .show e.S S (cZ P n true ops o).dst d=_;rw[aM.wN (λhh=>hw (fX (.inl hh))) (λhh=>hw (fX (.inr ((gf hy).1 d hh))))];exact k1
    .unfold aM.H
     cases hh:e.hw with
     |none=>exact k2
     |some p=>
      obtain⟨k,cs⟩:=p
      have KB:d≠k:=by
       rintro rfl;have:=Ln d cs hh;rw[R.kE d ⟨j,aj,z,h1,h2,Pg⟩]at this;cases this
      simp only[b_ _ _ KB];exact k2
   have cM:(listed.setIfInBounds i true).size=ops.size:=by simpa using Xm
   unfold wpOp;simp only[kz];unfold fa at hy
   cases BE:an S (cZ P n true ops o).guard with
   |none=>rw[BE]at hy;exact hy.elim
   |some b=>
    rw[uk R (λt b hg=>HW t (by simp[db.reads,hg])) vd BE];rw[BE]at hy
    cases b with
    |false=>
     simp only at hy;subst hy;simp only[aek,aeA]
     have iX:aI (cZ P n true ops o)=none:=by
      cases hh:aI (cZ P n true ops o)with
      |none=>rfl
      |some p=>
       obtain⟨d,z⟩:=p;have:=(mm hA kz Bg hh).2.1;rw[this]at BE;cases BE
     have hU:=GV Bg iX (listed:=listed);refine ih _ g _ _ _ _ cM ho ?_ (Vt λ_ _ hh=>by cases hh) hK;rw[hU]
     exact R.bl o.dst _ _ (λt ht=>(wK t ht).1) (.data _ _ (vD _ _)) λ_ _=>trivial
    |true=>
     simp only at hy;simp only[aeH];refine .inl ?_
     have Ln:∀k cs,e.hw=some (k,cs)->(g.al k).isSome=true:=λk cs hh=>aas R (λt ht=>HW t (by simp only[db.reads,aeg];exact .inl ht)) hy hh
     have U_:=Vt Ln
     have next:aI (cZ P n true ops o)=none->∀(g':Gh)(a':Act)(w':World),g'.old=g.old->Rel P w0 n (UU P n ops listed) g' (e.S S o.dst) (e.H H) a' w'->wpAny P .any ops (QQ P w0 n old Q) fuel (listed.setIfInBounds i true) a' w':=by
      intro iX g' a' w' h2 R';refine ih _ g' _ _ _ _ cM (h2.trans ho) ?_ U_ hK;rw[GV Bg iX];exact R'
     have ec:∀t∈(cZ P n true ops o).op.rd,¬UU P n ops listed t:=λt ht=>HW t (by simp only[db.reads,aeg];exact .inl ht)
     by_cases dv:(cZ P n true ops o).op.calm=true
     .have iX:aI (cZ P n true ops o)=none:=by
       unfold aI;split
       .rename_i eg _;rw[eg]at dv;cases dv
       .rfl
      refine(yn R rfl dv (λt ht=>⟨(wK t ht).1,ZW iX t ht⟩) ec (λt ht=>(wK t ht).2) (Ej dv hy)).wp λg' a' w' e1 e2 R'=>next iX g' a' w' e2 R'
     .generalize eg:(cZ P n true ops o).op=op at dv hy ec;have wL:comp P n (match o.dst with|some d=>taken ops d|none=>false) (Q2 ops o) o=op:=eg
      cases op<;>try (exact absurd rfl dv)
      case alloc t cs=>
       simp only[l_]at hy
       cases jb:o.dst with
       |none=>rw[show(cZ P n true ops o).dst=o.dst from rfl,jb]at hy;exact hy.elim
       |some d=>
        rw[show(cZ P n true ops o).dst=o.dst from rfl,jb]at hy;simp only at hy;subst hy
        have j9:aI (cZ P n true ops o)=some (d,cs):=by
         unfold aI;rw[eg,show(cZ P n true ops o).dst=o.dst from rfl,jb]
        obtain⟨k1,k2⟩:=hinv i _ d cs Bg j9 Yd;obtain⟨acZ,hz⟩:=CF wL;unfold zeroCells at hz;split at hz
        case h_2=>cases hz
        rename_i it hit;split at hz
        case h_2=>cases hz
        rename_i z Xl;obtain⟨h1,h2,h3⟩:=jg g.Pr w hz
        have R2:=R.Ju d ⟨i,_,cs,Bg,j9,Yd⟩ (wK d jb).1 cs z.cells t k1 k2 (by simpa using h1.1) (λj h h'=>by have:=h1.2.1 j h (by simpa using h');simpa using this)
         (λj hj eX=>⟨h2 _ (ad2 hj),by have:=h3 P g (.cell d) j hj (by simpa using eX);rwa [Array.getElem_toList]at this⟩) h1.2.2
        have eA:(execOp a.eval o).run P w=.ok (.value (.pointer (some ⟨w.heap.size,0,none⟩))) (w.alloc (.cells z.cells t)):=by
         unfold execOp;simp[acZ,Instr.alloc,zeroValue,typeInfo,hit,Xl,newVar,newRow]
        unfold Oper.wp;rw[eA];show wpAny P .any ops (QQ P w0 n old Q) fuel (listed.setIfInBounds i true) _ _;rw[jb];rw[<-SJ hA kz Bg j9 DR]at R2
        have hS:aF S d (.box d 0)=S:=by
         funext t
         by_cases ht:t=d
         .subst ht;rw[bX,k1]
         .rw[b_ _ _ ht]
        have Zu:An P GI n .any ops (Q .normal) fuel (listed.setIfInBounds i true) S H:=by
         have:({ v:=.box d 0 }:aM).S S (cZ P n true ops o).dst=S:=by
          rw[show(cZ P n true ops o).dst=o.dst from rfl,jb];exact hS
         rw[this]at hK;exact hK
        refine ih _ { g with al:=aF g.al d (some w.heap.size) } S H _ _ cM ho R2 (λj aj d' z' h1 h2 h3=>?_) Zu;have:=U_ j aj d' z' h1 h2 h3
        have hSS:({ v:=.box d 0 }:aM).S S o.dst=S:=by rw[jb];exact hS
        rw[hSS]at this;exact this
      case call f args=>
       have iX:aI (cZ P n true ops o)=none:=by unfold aI;rw[eg]
       exact uv R hG dI wL (λt ht=>⟨(wK t ht).1,ZW iX t ht⟩) ec hy.2 (λv g' a' w' e1 e2 R' hk=>by subst hk;exact next iX g' a' w' e2 R') (λ_ _ _ _ _ _ _ hf=>hf.elim)
      case ig f args=>
       have iX:aI (cZ P n true ops o)=none:=by unfold aI;rw[eg]
       simp only[l_]at hy;split at hy
       case h_2=>exact hy.elim
       rename_i k first cap Ay;exact we R hG dI wL (λt ht=>⟨(wK t ht).1,ZW iX t ht⟩) ec Ay hy.2 (λv g' a' w' e1 e2 R' hk=>by subst hk;exact next iX g' a' w' e2 R') (λ_ _ _ _ _ _ _ hf=>hf.elim)
      case box=>exact hy.elim
      case panic=>exact hy.elim
      case other=>exact hy.elim
def bZ:List db->au->au
 |[],S=>S
 |o::l,S=>match aI o with
  |some (d,_)=>bZ l (aF (λt=>bt d (S t)) d (.box d 0))
  |none=>bZ l S
def bI:List db->aD->aD
 |[],H=>H
 |o::l,H=>match aI o with
  |some (d,z)=>bI l (aF H d (some z))
  |none=>bI l H
def eo(l:List db):List Nat:=l.filterMap λo=>(aI o).map (·.1)
def Rel.bZ:∀ (l:List db) {U:Nat→Prop} {g:Gh} {S:au} {H:aD},Rel P w0 n U g S H a w→(eo l).Nodup→(∀ d∈eo l,¬ g.old.bx d) →
  ∃g',g'.base=g.base/\g'.old=g.old/\Rel P w0 n (λt=>U t\/t∈eo l) g' (Go.AL.bZ l S) (bI l H) a w
 |[],U,g,S,H,R,_,_=>⟨g,rfl,rfl,by simpa[eo,Go.AL.bZ,bI]using R⟩
 |o::l,U,g,S,H,R,hn,du=>by
  cases ha:aI o with
  |none=>
   have e:eo (o::l)=eo l:=by simp[eo,ha]
   rw[e]at hn du⊢;simp only[Go.AL.bZ,bI,ha];exact Rel.bZ l R hn du
  |some p=>
   obtain⟨d,z⟩:=p
   have e:eo (o::l)=d::eo l:=by simp[eo,ha]
   rw[e]at hn du⊢;simp only[Go.AL.bZ,bI,ha];obtain⟨g',e1,e2,R'⟩:=Rel.bZ l (R.suspend d (du d aen) (.box d 0) z) (af0.1 hn).2 (λk hk=>du k (aei _ hk));refine⟨g',e1,e2,?_⟩
   have:(λt=>U t\/t∈d::eo l)=(λt=>(U t\/t=d)\/t∈eo l):=by
    funext t;simp[or_assoc]
   rw[this];exact R'
def wC:∀(l:List db)(S:au)(d:Nat),d∉eo l->S d=.box d 0->Go.AL.bZ l S d=.box d 0
 |[],S,d,_,h=>h
 |o::l,S,d,hn,h=>by
  cases ha:aI o with
  |none=>simp only[Go.AL.bZ,ha];exact wC l S d (by simpa[eo,ha]using hn) h
  |some p=>
   obtain⟨k,z⟩:=p;simp only[Go.AL.bZ,ha]
   have zh:d≠k/\d∉eo l:=by simpa[eo,ha]using hn
   refine wC l _ d zh.2 ?_;rw[b_ _ _ zh.1,h];simp[bt,zh.1]
def tY:∀(l:List db)(H:aD)(d:Nat)(z:List AV),d∉eo l->H d=some z->bI l H d=some z
 |[],H,d,z,_,h=>h
 |o::l,H,d,z,hn,h=>by
  cases ha:aI o with
  |none=>simp only[bI,ha];exact tY l H d z (by simpa[eo,ha]using hn) h
  |some p=>
   obtain⟨k,z'⟩:=p;simp only[bI,ha]
   have zh:d≠k/\d∉eo l:=by simpa[eo,ha]using hn
   exact tY l _ d z zh.2 (by rw[b_ _ _ zh.1,h])
def AO:∀(l:List db)(S:au)(H:aD),(eo l).Nodup->∀o∈l,∀d z,aI o=some (d,z)->Go.AL.bZ l S d=.box d 0/\bI l H d=some z
 |[],S,H,_,o,ho,_,_,_=>by cases ho
 |o'::l,S,H,hn,o,ho,d,z,hd=>by
  rcases aeD.1 ho with rfl|ho
  .have e:eo (o::l)=d::eo l:=by simp[eo,hd]
   rw[e]at hn;simp only[Go.AL.bZ,bI,hd];exact⟨wC l _ d (af0.1 hn).1 (bX _ _ _),tY l _ d z (af0.1 hn).1 (bX _ _ _)⟩
  .cases ha:aI o' with
   |none=>
    have e:eo (o'::l)=eo l:=by simp[eo,ha]
    rw[e]at hn;simp only[Go.AL.bZ,bI,ha];exact AO l S H hn o ho d z hd
   |some p=>
    obtain⟨k,z'⟩:=p
    have e:eo (o'::l)=k::eo l:=by simp[eo,ha]
    rw[e]at hn;simp only[Go.AL.bZ,bI,ha];exact AO l _ _ (af0.1 hn).2 o ho d z hd
def M7(P:Program)(n:Nat)(ops:Array Oper):Bool:=
 (cJ P n true ops).all (·.ok n)&&pC .any ops (cJ P n true ops)&&decide ((eo (cJ P n true ops)).Nodup)&&MC .any ops (cJ P n true ops) ops.size 0 (Array.replicate ops.size false)
def Li (hG:aQ GI) (dI:GI w0) (hm:P.follows .mixedOrders=true) {old:Old} {id:Nat} {Q:eh→au→aD→Prop} (df:M7 P n ops=true) (du:∀ o∈cJ P n true ops,∀ d∈o.j5,¬ old.bx d) (ho:g.old=old) (R:Rel P w0 n dh g S H a w)
  (h:dT P GI (cJ P n true ops) (Q .normal) (bZ (cJ P n true ops) S) (bI (cJ P n true ops) H)):(Code.region id ops true).wp P (QQ P w0 n old Q) a w:=by
 simp only[M7,aeb,aej]at df;obtain⟨⟨⟨h1,h2⟩,h3⟩,h4⟩:=df;refine wp_region_any hm ?_;have R0:Rel P w0 n dh g S H a { w with drawn:=w.drawn+1 }:=R.kG ((afb _ w).drew)
 obtain⟨g',e1,e2,R'⟩:=Rel.bZ (cJ P n true ops) R0 h3 (λd hd=>by
  simp only[eo,af7,aeo]at hd;obtain⟨o,lz,⟨d',z⟩,k1,rfl⟩:=hd;rw[ho];refine du o lz d' ?_;unfold aI at k1;split at k1
  .rename_i h1 h2;cases k1;simp[db.j5,h1,h2,fg.j5]
  .cases k1)
 have hU:UU P n ops (Array.replicate ops.size false)=(λt=>dh t\/t∈eo (cJ P n true ops)):=by
  funext t
  simp only[UU,dh,ahC,agV,eo,af7,aeo]
  constructor
  .rintro⟨j,o,z,k1,k2,k3⟩;rw[<-gw]at k1;exact⟨o,afk k1,(t,z),k2,rfl⟩
  .rintro⟨o,ho,⟨d,z⟩,k1,rfl⟩;obtain⟨j,hj⟩:=ahY ho;refine⟨j,o,z,by rw[<-gw];exact hj,k1,?_⟩
   have:j<ops.size:=by
    have:=(aey.1 hj).1;simpa[cJ]using this
   simp[this]
 refine H_ hG dI h2 (λo lz=>?_) ops.size (Array.replicate ops.size false) g' _ _ a _ ah7 (e2.trans ho) (by rw[hU];exact R') (λj o d z k1 k2 k3=>?_) ?_
 .simp only[cJ,afP,aeh,Function.comp]at h1;exact h1 o (by simpa using lz)
 .rw[<-gw]at k1;exact AO _ S H h3 o (afk k1) d z k2
 .have:=A_ (QA:=Q .normal) ops.toList 0 (Array.replicate ops.size false) _ _ ah7 (by simpa using h4) h;simpa using this
end
end Go.AL
