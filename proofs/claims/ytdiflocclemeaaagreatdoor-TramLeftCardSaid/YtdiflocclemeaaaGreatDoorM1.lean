/-
  A part of the proof.
-/
import Derived.Below
import Derived.Orders
import Derived.Still
import Derived.KernelRfl
import Derived.Laws.AppendOwn
import Derived.ChangeKeysEq
import Derived.Laws.StructEq
import Derived.Laws.Concat
import Derived.Laws.Strings2
import Derived.Great.BuildSlice
import Derived.Great.FillDense
import Derived.Laws.OwnMore
import Derived.Laws.IdiomStrings
import Derived.Laws.BytesArg
import Derived.WideKeyRuns
import Derived.Maps.Own
import Derived.ControlIn
import Derived.OrdersIn
import Derived.RangeFuncRecord
import Derived.RangeFuncIn
import Derived.RangeFuncLeaves
import Derived.Laws.RangeString
import Derived.Defers
import Derived.Recover
import Derived.Tactics
import Derived.Tactics2
import Derived.Laws.Pointers
import Derived.Deep.OwnRows
import Derived.Lib.AppendIntMem
import Derived.ChangeSlices
import Derived.ChangeArms
import Derived.ChangeShapes
import Derived.WideShapes
import Derived.Shelf.Vars
import Derived.ProofKit
import Derived.OpenShut
import Derived.LaidMore
import Derived.Lay
import Derived.SevenTiedAt
import Derived.Stop.Joined
import Derived.MakeChecks
set_option maxRecDepth 100000
set_option maxHeartbeats 8000000
set_option linter.all false
set_option linter.unusedVariables false
set_option linter.unusedSimpArgs false
set_option linter.deprecated false
namespace Go
def ac_:=@List.getElem?_eq_getElem
def ada:=@List.getElem_mem
def adb:=@Bool.and_eq_true
def ade:=@Array.getElem?_eq_some_iff
def adf:=@decide_eq_true_eq
def adg:=@Array.getElem?_setIfInBounds_ne
def adh:=@Nat.le_refl
def adi:=@List.length_map
def adj:=@List.take_succ_eq_append_getElem
def adk:=@Go.wpIn_seq
def adl:=@Bool.false_eq_true
def adm:=@List.mem_append
def adn:=@List.take_of_length_le
def ado:=@List.mem_cons_of_mem
def adp:=@List.getElem_map
def adq:=@List.length_append
def adr:=@Option.map_eq_some_iff
def ads:=@Go.Sem.run_bind
def adt:=@List.mem_cons_self
def adu:=@List.all_eq_true
def adv:=@List.getElem?_eq_none
def adw:=@Option.some.inj
def adx:=@List.mem_map
def ady:=@List.mem_singleton
def adz:=@if_false
def adA:=@List.getElem_append_left
def adB:=@Go.wpIn_region
def adC:=@List.map_cons
def adD:=@List.map_append
def adE:=@List.getElem?_eq_some_iff
def adF:=@List.mem_range
def adG:=@List.getElem_of_mem
def adH:=@Go.run_underlying
def adI:=@List.getElem?_map
def adJ:=@if_true
def adK:=@List.map_toArray
def adL:=@List.foldl_append
def adM:=@List.length_take
def adN:=@List.getD_eq_getElem?_getD
def adO:=@List.map_nil
def adP:=@Bool.not_eq_true'
def adQ:=@List.eq_nil_of_length_eq_zero
def adR:=@List.mem_flatMap
def adS:=@Option.some.injEq
def adT:=@List.append_nil
def adU:=@Nat.lt_of_lt_of_le
def adV:=@List.length_pos_iff
def adW:=@beq_eq_false_iff_ne
def adX:=@beq_iff_eq
def adY:=@List.range_succ
def adZ:=@Nat.zero_le
def ad1:=@Go.wpIn_cond
def ad2:=@Ne.symm
def ad3:=@Nat.zero_add
def ad4:=@Go.World.alloc_heap_new
def ad5:=@List.any_eq_false
def ad6:=@List.mem_cons
def ad7:=@Bool.eq_iff_iff
def ad8:=@List.length_drop
def ad9:=@Array.getD_eq_getD_getElem?
def ad_:=@List.getElem_append_right
def aea:=@List.take_length
def aeb:=@Go.RowKit.Below.refl
def aec:=@Go.setRow_other
def aed:=@List.map_congr_left
def aee:=@List.flatMap_append
def aef:=@List.append_assoc
def aeg:=@List.mem_of_mem_take
def aeh:=@List.map_map
def aei:=@Bool.or_eq_true
def aej:=@Array.getElem?_eq_getElem
def aek:=@List.drop_eq_getElem_cons
def ael:=@Nat.le_trans
def aem:=@List.getElem?_append_left
def aen:=@Go.wpIn_block
def aeo:=@List.pairwise_iff_getElem
def aep:=@Option.bind_eq_some_iff
def aeq:=@List.take_append_drop
def aer:=@Go.wpIn_skip
def aes:=@List.drop_eq_nil_of_le
def aet:=@List.mem_of_getElem?
def aeu:=@List.mem_append_left
def aev:=@Go.Addr.add_lit
def aew:=@decide_eq_false_iff_not
def aex:=@List.flatMap_cons
def aey:=@List.find?_eq_none
def aez:=@List.flatMap_singleton
def aeA:=@List.getElem?_append_right
def aeB:=@List.range'_succ
def aeC:=@List.sum_append
def aeD:=@Nat.mul_one
def aeE:=@Int.le_refl
def aeF:=@Int.mul_nonneg
def aeG:=@Array.eq_empty_of_size_eq_zero
def aeH:=@Array.getElem?_toList
def aeI:=@Array.ext
def aeJ:=@Go.setRow_heap
def aeK:=@Nat.mul_le_mul_right
def aeL:=@Nat.add_sub_cancel
def aeM:=@Array.mem_of_getElem?
def aeN:=@decide_eq_true
def aeO:=@Int.mul_le_mul
def aeP:=@List.length_eq_zero_iff
def aeQ:=@of_decide_eq_true
def aeR:=@List.range_eq_range'
def aeS:=@List.getLast?_eq_none_iff
def aeT:=@List.pairwise_cons
def aeU:=@List.any_eq_true
def aeV:=@List.length_filter_le
def aeW:=@List.getElem_drop
def aeX:=@List.ext_getElem?
def aeY:=@List.mem_range'_1
def aeZ:=@Go.wpIn_ret
def ae0:=@List.pairwise_singleton
def ae1:=@Nat.lt_or_ge
def ae2:=@List.range'_concat
def ae3:=@List.mem_of_mem_drop
def ae4:=@List.pairwise_append
def ae5:=@not_true_eq_false
def ae6:=@Go.Oper.semAt_eq
def ae7:=@Nat.mul_comm
def ae8:=@Bool.and_eq_false_iff
def ae9:=@Nat.add_mul
def ae_:=@decide_eq_false
def afa:=@Go.callsD_of_wpS
def afb:=@List.drop_drop
def afc:=@Go.wpIn_exit
def afd:=@List.filter_flatMap
def afe:=@List.cons.injEq
def aff:=@List.nodup_cons
def afg:=@List.ext_getElem
def afh:=@List.getElem?_take_of_lt
def afi:=@Go.World.cell?_of_block
def afj:=@List.take_succ
def afk:=@List.getElem_take
def afl:=@Go.wpIn_mono
def afm:=@Nat.not_lt_zero
def afn:=@List.pairwise_lt_range
def afo:=@Bool.true_and
def afp:=@Bool.not_eq_true
def afq:=@List.drop_length
def afr:=@List.getElem?_drop
def afs:=@Nat.eq_zero_or_pos
def aft:=@List.mem_filterMap
def afu:=@Array.getElem?_append
def afv:=@Array.all_eq_true'
def afw:=@Nat.le_of_ble_eq_true
def afx:=@List.mem_of_find?_eq_some
def afy:=@Go.calls_of_wp
def afz:=@decide_true
def afA:=@List.all_map
def afB:=@Bool.or_eq_false_iff
def afC:=@Go.wpIn_region_any
def afD:=@List.contains_eq_mem
def afE:=@Go.wpS_region
def afF:=@List.mem_of_getLast?
def afG:=@decide_false
def afH:=@List.range'_append_1
def afI:=@String.toList_ofList
def afJ:=@Nat.add_assoc
def afK:=@List.map_take
def afL:=@List.drop_append_of_le_length
def afM:=@Go.World.block_lt_of_cell?
def afN:=@Int.toNat_of_nonneg
def afO:=@List.length_pos_of_mem
def afP:=@Go.wpS_of_wp
def afQ:=@Nat.sub_self
def afR:=@List.length_set
def afS:=@Go.callsIn_of_wp
def afT:=@List.all_eq_false
def afU:=@Go.World.cells?_some
def afV:=@List.getElem?_set
def afW:=@Array.getElem_append_left
def afX:=@Nat.succ_lt_succ
def afY:=@List.length_erase_of_mem
def afZ:=@List.length_filterMap_le
def af0:=@List.flatMap_eq_nil_iff
def af1:=@List.map_drop
def af2:=@bne_iff_ne
def af3:=@Array.any_eq_true'
def af4:=@Go.wpIn_loop
def af5:=@Go.MapKept.run_getObj_map
def af6:=@Go.fenced_calm
def af7:=@Go.results_tmp
def af8:=@Go.leaves_cons
def af9:=@List.size_toArray
def af_:=@List.mem_append_right
def aga:=@Go.wpS_seq
def agb:=@Nat.eq_of_beq_eq_true
def agc:=@Go.mem_ready
def agd:=@List.getElem_set
def age:=@Go.RowKit.Below.heap_alloc
def agf:=@List.getLast?_append
def agh:=@List.mem_erase_of_ne
def agi:=@Nat.div_lt_of_lt_mul
def agj:=@Prod.mk.injEq
def agk:=@Array.getElem_append_right
def agl:=@Nat.lt_irrefl
def agm:=@Bool.and_true
def agn:=@Go.getD_set_ne
def ago:=@List.mem_map_of_mem
def agp:=@List.drop_succ_cons
def agq:=@Nat.div_add_mod
def agr:=@List.mem_or_eq_of_mem_set
def ags:=@Option.isSome_iff_exists
def agt:=@Array.setIfInBounds_comm
def agu:=@and_true
def agv:=@List.getElem?_take
def agw:=@Go.calls_of_wp_defers
def agx:=@Nat.le_of_lt
def agy:=@Nat.mul_le_mul
def agz:=@Bool.not_false
def agA:=@eq_iff_iff
def agB:=@Go.ready_mono
def agC:=@Go.World.putObj_heap_other
def agD:=@Go.run_storeCells_at
def agE:=@Classical.not_not
def agF:=@Array.getElem?_eq_none
def agG:=@Go.World.putObj_heap_same
def agH:=@Array.getElem?_extract
def agI:=@Array.toList_map
def agJ:=@Nat.succ_mul
def agK:=@Go.CallsIn.mono
def agL:=@Go.RoundIn.mono
def agM:=@Go.heap_alloc_new
def agN:=@List.take_left
def agO:=@Go.Oper.wpIn_mono
def agP:=@Array.getElem?_setIfInBounds
def agQ:=@Go.RowsIn.mono
def agR:=@Go.StepsIn.trans
def agS:=@Nat.mod_lt
def agT:=@Go.wp_mono
def agU:=@Nat.div_eq_of_lt
def agV:=@true_and
def agW:=@false_or
def agX:=@Nat.zero_mul
def agY:=@decide_eq_decide
def agZ:=@Go.run_build
def ag0:=@Go.MapKept.run_setObj_map
def ag1:=@List.getElem?_toArray
def ag2:=@List.getElem_set_self
def ag3:=@Nat.ble_eq_true_of_le
def ag4:=@List.getElem?_of_mem
def ag5:=@List.getElem?_set_ne
def ag6:=@Array.toList_append
def ag8:=@List.getElem_set_ne
def ag_:=@Array.empty_append
def aha:=@Array.append_empty
def ahb:=@Go.stepR_inLoop
end Go
namespace Go.Proofs.Tram
end Go.Proofs.Tram
namespace Go.AL
inductive Ow where
 |view|nil|own (e:Nat)
 deriving DecidableEq
inductive AV where
 |bool (b:Bool)
 |pX
 |int (k:IntKind) (n:Int)
 |str (l:List UInt8)
 |slice (o:Ow) (es:List AV)
 |agg (cs:List AV)
 |dN (vs:List AV)
 |ref (cs:List AV)
 |xI
 |iface (t:TypeId) (v:AV)
 |vu
 |map (ks vs:List AV)
 |box (i off:Nat)
 |func (fn:Fn) (first cap:List AV)
 |j0 (fs:List AV)
 |val (c:Value)
 |br
namespace AV
def cells:AV->List AV
 |.agg cs=>cs
 |v=>[v]
def aG:AV->AV
 |.slice (.own _) es=>.slice .view es
 |v=>v
def bH:AV->AV
 |.slice _ es=>.slice .view es
 |v=>v
def vw:AV->AV
 |.agg cs=>.agg (cs.map bH)
 |v=>v.bH
def bT:AV->Bool
 |.box ..|.func ..|.j0 _|.br=>false
 |_=>true
def one:AV->Bool
 |.agg _|.dN _=>false
 |_=>true
def storable:AV->Bool
 |.box ..|.func ..|.j0 _|.br|.dN _=>false
 |_=>true
end AV
inductive RD(Pr:Nat->Nat->Prop)(w:World):AV->Value->Prop
 |bool (b:Bool):RD Pr w (.bool b) (.bool b)
 |pX (b:Bool):RD Pr w .pX (.bool b)
 |int (k:IntKind) (n:Int):RD Pr w (.int k n) (.int k n)
 |str (l:List UInt8):RD Pr w (.str l) (.string ⟨l.toArray⟩)
 |jU (o:Ow):RD Pr w (.slice o []) (.slice none 0 0)
 |kV (o:Ow) (a:Addr):RD Pr w (.slice o []) (.slice (some a) 0 0)
 |slice (o:Ow) (es:List AV) (b off cap size:Nat) (cs:Nat→Value) (fF:es.length≤cap) (hn:o = .nil→cap=0)
   (bq:∀i (h:i<es.length),(es[i]).cells.length=size) (h1:∀i (h:i<es.length) j (hj:j<(es[i]).cells.length),((es[i]).cells[j]).one=true)
   (hc:∀k,k<es.length*size->Pr b (off+k)/\w.cell? ⟨b,off+k,none⟩=some (cs k))
   (hr:∀i (h:i<es.length) j (hj:j<(es[i]).cells.length),RD Pr w ((es[i]).cells[j]) (cs (i*size+j))):
   RD Pr w (.slice o es) (.slice (some ⟨b,off,none⟩) es.length cap)
 |agg (cs:List AV) (vs:Array Value) (hl:cs.length=vs.size) (h1:∀ i (h:i < cs.length),(cs[i]).one=true)
   (hr:∀i (h:i<cs.length)(h':i<vs.size),RD Pr w cs[i] vs[i]):RD Pr w (.agg cs) (.agg vs)
 |dN (cs:List AV) (vs:Array Value) (hl:cs.length=vs.size)
   (hr:∀i (h:i<cs.length)(h':i<vs.size),RD Pr w cs[i] vs[i]):RD Pr w (.dN cs) (.tuple vs)
 |ref (cs:List AV) (b off:Nat) (vs:Nat→Value) (h1:∀ i (h:i < cs.length),(cs[i]).one=true)
   (hc:∀k,k<cs.length->Pr b (off+k)/\w.cell? ⟨b,off+k,none⟩=some (vs k))
   (hr:∀k (h:k<cs.length),RD Pr w cs[k] (vs k)):RD Pr w (.ref cs) (.pointer (some ⟨b,off,none⟩))
 |map (ks vs:List AV) (b:Nat) (es:Array MapEntry) (clock:Nat) (hb:Pr b 0) (hm:w.heap[b]? = some (.map es clock)) (hk:ks.length=es.size) (hv:vs.length=es.size)
   (hr:∀i (h:i<ks.length)(h':i<es.size),RD Pr w ks[i] (es[i]).key) (jE:∀i (h:i<vs.length)(h':i<es.size),RD Pr w vs[i] (es[i]).val):RD Pr w (.map ks vs) (.map (some b))
 |By:RD Pr w (.map [] []) (.map none)
 |xI:RD Pr w .xI (.pointer none)
 |iface (t:TypeId) (v:AV) (c:Value) (h:RD Pr w v c):RD Pr w (.iface t v) (.iface t c)
 |vu:RD Pr w .vu .nilIface
 |val (c:Value) (h:c.oneCell'=true):RD Pr w (.val c) c
inductive RV(Pr:Nat->Nat->Prop)(al:Nat->Option Nat)(w:World):AV->Value->Prop
 |data (v:AV) (c:Value) (h:RD Pr w v c):RV Pr al w v c
 |box (i off b:Nat) (h:al i=some b):RV Pr al w (.box i off) (.pointer (some ⟨b,off,none⟩))
 |func (fn:Fn) (first cap:List AV) (vs us:Array Value) (h1:first.length=vs.size) (h2:cap.length=us.size)
   (DZ:∀i (h:i<first.length)(h':i<vs.size),RV Pr al w first[i] vs[i])
   (hr2:∀i (h:i<cap.length)(h':i<us.size),RV Pr al w cap[i] us[i]):RV Pr al w (.func fn first cap) (.func fn vs us)
 |j0 (fs:List AV) (vs:Array Value) (h1:fs.length=vs.size) (hr:∀i (h:i<fs.length)(h':i<vs.size),RV Pr al w fs[i] vs[i]):RV Pr al w (.j0 fs) (.agg vs)
 |br (c:Value):RV Pr al w .br c
structure bl(Pr eR:Nat->Nat->Prop)(w w':World):Prop where
 cell:∀b k,Pr b k->∀u,w.cell? ⟨b,k,none⟩=some u->eR b k/\w'.cell? ⟨b,k,none⟩=some u
 map:∀b,Pr b 0->∀es c,w.heap[b]?=some (.map es c)->eR b 0/\w'.heap[b]?=some (.map es c)
theorem bl.iY{Pr eR:Nat->Nat->Prop}{w w':World}(h:∀b,b<w.heap.size->w'.heap[b]?=w.heap[b]?)(hp:∀b k,b<w.heap.size->Pr b k->eR b k):bl Pr eR w w':={
 cell b k hb u hu:=by
  have au:=afM _ _ hu;exact⟨hp b k au hb,by rw[afi (w:=w) (h b au)];exact hu⟩
 map b hb es c hm:=by
  have au:=(ade.1 hm).1
  exact⟨hp b 0 au hb,by rw[h b au];exact hm⟩ }
theorem bl.trans{Pr eR abi:Nat->Nat->Prop}{w w' lu:World}(h:bl Pr eR w w')(h':bl eR abi w' lu):bl Pr abi w lu:={
 cell b k hp u hu:=h'.cell b k (h.cell b k hp u hu).1 u (h.cell b k hp u hu).2
 map b hp es c hm:=h'.map b (h.map b hp es c hm).1 es c (h.map b hp es c hm).2 }
theorem bl.pk{Pr:Nat->Nat->Prop}{w w':World}(h:∀b k,b<w.heap.size->Pr b k->w'.heap[b]?=w.heap[b]?):bl Pr Pr w w':={
 cell b k hb u hu:=⟨hb,by rw[afi (w:=w) (h b k (afM _ _ hu) hb)];exact hu⟩
 map b hb es c hm:=⟨hb,by rw[h b 0 (ade.1 hm).1 hb];exact hm⟩ }
theorem bl.same{Pr eR:Nat->Nat->Prop}{w:World}(hp:∀b k,b<w.heap.size->Pr b k->eR b k):bl Pr eR w w:=bl.iY (λ_ _=>rfl) hp
theorem RD.mono {Pr eR:Nat→Nat→Prop} {w w':World} {v:AV} {c:Value} (h:RD Pr w v c)
  (hp:bl Pr eR w w'):RD eR w' v c:=by
 induction h with
 |bool b=>exact .bool b
 |pX b=>exact .pX b
 |int k n=>exact .int k n
 |str l=>exact .str l
 |jU o=>exact .jU o
 |kV o a=>exact .kV o a
 |slice o es b off cap size cs fF hn bq h1 hc _ ih=>
  exact .slice o es b off cap size cs fF hn bq h1 (λk hk=>hp.cell _ _ (hc k hk).1 _ (hc k hk).2) ih
 |agg cs vs hl h1 _ ih=>exact .agg cs vs hl h1 ih
 |dN cs vs hl _ ih=>exact .dN cs vs hl ih
 |ref cs b off vs h1 hc _ ih=>exact .ref cs b off vs h1 (λk hk=>hp.cell _ _ (hc k hk).1 _ (hc k hk).2) ih
 |map ks vs b es clock hb hm hk hv _ _ ih ih'=>exact .map ks vs b es clock (hp.map b hb es clock hm).1 (hp.map b hb es clock hm).2 hk hv ih ih'
 |By=>exact .By
 |xI=>exact .xI
 |iface t v c _ ih=>exact .iface t v c ih
 |vu=>exact .vu
 |val c h=>exact .val c h
theorem RV.mono {Pr eR:Nat→Nat→Prop} {al Pa:Nat→Option Nat} {w w':World} {v:AV} {c:Value} (h:RV Pr al w v c)
  (hp:bl Pr eR w w')
  (ha:∀i b,al i=some b->Pa i=some b):RV eR Pa w' v c:=by
 induction h with
 |data v c h=>exact .data v c (h.mono hp)
 |box i off b h=>exact .box i off b (ha i b h)
 |func fn first cap vs us h1 h2 _ _ ih1 ih2=>exact .func fn first cap vs us h1 h2 ih1 ih2
 |j0 fs vs h1 _ ih=>exact .j0 fs vs h1 ih
 |br c=>exact .br c
theorem RD.bT{Pr:Nat->Nat->Prop}{w:World}{v:AV}{c:Value}(h:RD Pr w v c):v.bT=true:=by
 cases h<;>rfl
theorem RV.fj{Pr:Nat->Nat->Prop}{al:Nat->Option Nat}{w:World}{v:AV}{c:Value}(h:RV Pr al w v c)(hd:v.bT=true):RD Pr w v c:=by
 cases h with
 |data v c h=>exact h
 |box i off b h=>cases hd
 |func=>cases hd
 |j0=>cases hd
 |br c=>cases hd
theorem RD.aG{Pr:Nat->Nat->Prop}{w:World}{v:AV}{c:Value}(h:RD Pr w v c):RD Pr w v.aG c:=by
 cases h with
 |jU o=>cases o<;>exact .jU _
 |kV o a=>cases o<;>exact .kV _ a
 |slice o es b off cap size cs fF hn bq h1 hc hr=>
  cases o with
  |own e=>exact .slice _ es b off cap size cs fF (λh=>by cases h) bq h1 hc hr
  |view=>exact .slice _ es b off cap size cs fF hn bq h1 hc hr
  |nil=>exact .slice _ es b off cap size cs fF hn bq h1 hc hr
 |bool b=>exact .bool b
 |pX b=>exact .pX b
 |int k n=>exact .int k n
 |str l=>exact .str l
 |agg cs vs hl h1 hr=>exact .agg cs vs hl h1 hr
 |dN cs vs hl hr=>exact .dN cs vs hl hr
 |ref cs b off vs h1 hc hr=>exact .ref cs b off vs h1 hc hr
 |map ks vs b es clock hb hm hk hv hr jE=>exact .map ks vs b es clock hb hm hk hv hr jE
 |By=>exact .By
 |xI=>exact .xI
 |iface t v c h=>exact .iface t v c h
 |vu=>exact .vu
 |val c h=>exact .val c h
theorem RV.aG{Pr:Nat->Nat->Prop}{al:Nat->Option Nat}{w:World}{v:AV}{c:Value}(h:RV Pr al w v c):RV Pr al w v.aG c:=by
 cases h with
 |data v c h=>exact .data _ _ h.aG
 |box i off b h=>exact .box i off b h
 |func fn first cap vs us h1 h2 r1 r2=>exact .func fn first cap vs us h1 h2 r1 r2
 |j0 fs vs h1 hr=>exact .j0 fs vs h1 hr
 |br c=>exact .br c
theorem RD.cells {Pr:Nat→Nat→Prop} {w:World} {v:AV} {c:Value} (h:RD Pr w v c) :
  v.cells.length=c.cells.size/\∀i (h:i<v.cells.length)(h':i<c.cells.size),RD Pr w v.cells[i] c.cells[i]:=by
 cases h with
 |agg cs vs hl h1 hr=>exact⟨hl,hr⟩
 |bool b=>exact⟨rfl,λi h _=>by simp[AV.cells]at h;subst h;exact .bool b⟩
 |pX b=>exact⟨rfl,λi h _=>by simp[AV.cells]at h;subst h;exact .pX b⟩
 |int k n=>exact⟨rfl,λi h _=>by simp[AV.cells]at h;subst h;exact .int k n⟩
 |str l=>exact⟨rfl,λi h _=>by simp[AV.cells]at h;subst h;exact .str l⟩
 |jU o=>exact⟨rfl,λi h _=>by simp[AV.cells]at h;subst h;exact .jU o⟩
 |kV o a=>exact⟨rfl,λi h _=>by simp[AV.cells]at h;subst h;exact .kV o a⟩
 |slice o es b off cap size cs fF hn bq h1 hc hr=>exact⟨rfl,λi h _=>by simp[AV.cells]at h;subst h;exact .slice o es b off cap size cs fF hn bq h1 hc hr⟩
 |dN cs vs hl hr=>exact⟨rfl,λi h _=>by simp[AV.cells]at h;subst h;exact .dN cs vs hl hr⟩
 |ref cs b off vs h1 hc hr=>exact⟨rfl,λi h _=>by simp[AV.cells]at h;subst h;exact .ref cs b off vs h1 hc hr⟩
 |map ks vs b es clock hb hm hk hv hr jE=>exact⟨rfl,λi h _=>by simp[AV.cells]at h;subst h;exact .map ks vs b es clock hb hm hk hv hr jE⟩
 |By=>exact⟨rfl,λi h _=>by simp[AV.cells]at h;subst h;exact .By⟩
 |xI=>exact⟨rfl,λi h _=>by simp[AV.cells]at h;subst h;exact .xI⟩
 |iface t v c hh=>exact⟨rfl,λi h _=>by simp[AV.cells]at h;subst h;exact .iface t v c hh⟩
 |vu=>exact⟨rfl,λi h _=>by simp[AV.cells]at h;subst h;exact .vu⟩
 |val c hc=>
  have nw:c.cells=#[c]:=by cases c<;>first|rfl|cases hc
  exact⟨by rw[nw];rfl,λi h h'=>by simp[AV.cells]at h;subst h;simp only[nw];exact .val c hc⟩
theorem RD.one{Pr:Nat->Nat->Prop}{w:World}{v:AV}{c:Value}(h:RD Pr w v c)(h1:v.one=true):c.oneCell'=true:=by
 cases h<;>first|rfl|(cases h1;done)|assumption
theorem RD.cells_one{Pr:Nat->Nat->Prop}{w:World}{v:AV}{c:Value}(h:RD Pr w v c)(h1:v.storable=true):∀i (h:i<v.cells.length),(v.cells[i]).one=true:=by
 cases h with
 |agg cs vs hl ho hr=>exact ho
 |dN=>cases h1
 |_=>intro i hi;simp[AV.cells]at hi;subst hi;rfl
theorem AV.uV(v:AV):v.aG.one=v.one:=by
 cases v<;>try rfl
 rename_i o es;cases o<;>rfl
theorem AV.X7(v:AV):v.bH.one=v.one:=by cases v<;>rfl
theorem AV.idem(v:AV):v.aG.aG=v.aG:=by
 cases v<;>try rfl
 rename_i o es;cases o<;>rfl
theorem RD.bH{Pr:Nat->Nat->Prop}{w:World}{v:AV}{c:Value}(h:RD Pr w v c):RD Pr w v.bH c:=by
 cases h with
 |jU o=>exact .jU _
 |kV o a=>exact .kV _ a
 |slice o es b off cap size cs fF hn bq h1 hc hr=>exact .slice _ es b off cap size cs fF (λh=>by cases h) bq h1 hc hr
 |bool b=>exact .bool b
 |pX b=>exact .pX b
 |int k n=>exact .int k n
 |str l=>exact .str l
 |agg cs vs hl h1 hr=>exact .agg cs vs hl h1 hr
 |dN cs vs hl hr=>exact .dN cs vs hl hr
 |ref cs b off vs h1 hc hr=>exact .ref cs b off vs h1 hc hr
 |map ks vs b es clock hb hm hk hv hr jE=>exact .map ks vs b es clock hb hm hk hv hr jE
 |By=>exact .By
 |xI=>exact .xI
 |iface t v c h=>exact .iface t v c h
 |vu=>exact .vu
 |val c h=>exact .val c h
theorem RD.vw{Pr:Nat->Nat->Prop}{w:World}{v:AV}{c:Value}(h:RD Pr w v c):RD Pr w v.vw c:=by
 cases h with
 |agg cs vs hl h1 hr=>
  refine .agg _ vs (by simpa using hl) (λi hi=>?_) (λi hi eb=>?_)
  .simp only[adi]at hi;have:=h1 i hi;simp only[adp];generalize cs[i]=u at this
   cases u<;>first|rfl|cases this
  .simp only[adi]at hi;simp only[adp];exact(hr i hi eb).bH
 |jU o=>exact .jU _
 |kV o a=>exact .kV _ a
 |slice o es b off cap size cs fF hn bq h1 hc hr=>exact .slice _ es b off cap size cs fF (λh=>by cases h) bq h1 hc hr
 |bool b=>exact .bool b
 |pX b=>exact .pX b
 |int k n=>exact .int k n
 |str l=>exact .str l
 |dN cs vs hl hr=>exact .dN cs vs hl hr
 |ref cs b off vs h1 hc hr=>exact .ref cs b off vs h1 hc hr
 |map ks vs b es clock hb hm hk hv hr jE=>exact .map ks vs b es clock hb hm hk hv hr jE
 |By=>exact .By
 |xI=>exact .xI
 |iface t v c h=>exact .iface t v c h
 |vu=>exact .vu
 |val c h=>exact .val c h
theorem AV.nP{v:AV}(h:v.storable=true):v.bT=true:=by cases v<;>first|rfl|cases h
end Go.AL
namespace Go.AL
open Go.RowKit
abbrev av:=Nat->AV
abbrev aD:=Nat->Option (List AV)
def ar{α:Type}(f:Nat->α)(i:Nat)(x:α):Nat->α:=λj=>if j=i then x else f j
theorem aS{α:Type}(f:Nat->α)(i:Nat)(x:α):ar f i x i=x:=by simp[ar]
theorem bj{α:Type}(f:Nat->α){i j:Nat}(x:α)(h:j≠i):ar f i x j=f j:=by simp[ar,h]
inductive Loc where
 |slot (t:Nat)|cell (i j:Nat)
 deriving DecidableEq
def l6(d:Nat):AV->Bool
 |.box i _=>i==d
 |.func ..|.j0 _=>true
 |_=>false
def bX(d:Nat):AV->AV
 |.box i o=>if i=d then .br else .box i o
 |.func fn first cap=>if first.any (l6 d)||cap.any (l6 d)then .br else .func fn first cap
 |.j0 _=>.br
 |v=>v
def XD:AV->Bool
 |.func ..|.j0 _=>false
 |_=>true
def flat:AV->Bool
 |.func _ first cap=>first.all XD&&cap.all XD
 |.j0 _=>false
 |_=>true
structure Old where
 c:Nat->Nat->Prop
 facts:List (AV×Value)
 bx:Nat->Prop
 ds:List Deferred
 bf:Nat->Option Obj
 sp:Nat->Nat->Prop
 sw:World
 ok:∀p∈facts,flat p.1=true/\∀d,¬bx d->bX d p.1=p.1
def Old.plain(c:Nat->Nat->Prop)(w:World):Old:={ c:=c,facts:=[],bx:=λ_=>False,ds:=[],bf:=λ_=>none,sp:=λ_ _=>False,sw:=w,ok:=λ_ h=>by cases h }
structure Gh where
 base:Nat
 old:Old
 al:Nat->Option Nat
 hi:Nat->Nat
 owner:Nat->Option Loc
def Gh.Pr(g:Gh)(b k:Nat):Prop:=(b<g.base/\g.old.c b k)\/(g.base<=b/\k<g.hi b)
def gR(P:Program)(w:World)(g:Gh)(loc:Loc):AV->Value->Prop
 |.slice (.own e) es,c=>∃i xs b,P.info? e=some i/\w.ownsRow g.base e i.size c es.length xs/\c.ownBlock=some b/\g.owner b=some loc/\g.hi b=es.length*i.size
 |_,_=>True
structure Rel(P:Program)(w0:World)(n:Nat)(U:Nat->Prop)(g:Gh)(S:av)(H:aD)(a:Act)(w:World):Prop where
 size:a.tmps.size=n
 defers:a.defers=g.old.ds
 facts:∀p∈g.old.facts,RV g.Pr g.al w p.1 p.2
 slot:∀t,t<n->¬U t->RV g.Pr g.al w (S t) (a.tmps.getD t undef)
 own:∀t,t<n->¬U t->gR P w g (.slot t) (S t) (a.tmps.getD t undef)
 box:∀i b,g.al i=some b->∃cs vs ty,H i=some cs/\g.base<=b/\w.heap[b]?=some (.cells vs ty (0,0))/\g.hi b=0/\g.owner b=none/\cs.length=vs.size/\
  (∀j (h:j<cs.length)(h':j<vs.size),RD g.Pr w cs[j] vs[j])/\(∀j (h:j<cs.length)(h':j<vs.size),gR P w g (.cell i j) cs[j] vs[j])/\∀j (h:j<cs.length),(cs[j]).one=true
 mB:∀i cs,H i=some cs->¬U i->(g.al i).isSome
 mr:∀i,U i->g.al i=none
 inj:∀i j b,g.al i=some b->g.al j=some b->i=j
 base:g.base=w0.heap.size
 below:Below g.base w0 w
 fresh:∀b,w.heap.size<=b->g.hi b=0/\g.owner b=none
 still:bl g.old.sp g.Pr g.old.sw w
 grown:g.old.sw.heap.size<=w.heap.size
 kept:∀b o,g.old.bf b=some o->g.base<=b/\w.heap[b]?=some o/\g.hi b=0/\g.owner b=none/\∀i,g.al i≠some b
theorem gR.bf {P:Program} {w w':World} {g g':Gh} {loc:Loc} {v:AV} {c:Value} (h:gR P w g loc v c) (hb:g'.base=g.base)
  (hk:∀b,g.owner b=some loc->w'.heap[b]?=w.heap[b]?/\g'.hi b=g.hi b/\g'.owner b=some loc):gR P w' g' loc v c:=by
 unfold gR at*
 split at h
 .obtain⟨i,xs,b,h1,h2,h3,h4,h5⟩:=h;obtain⟨k1,k2,k3⟩:=hk b h4;refine⟨i,xs,b,h1,?_,h3,k3,by rw[k2];exact h5⟩;rw[hb];refine⟨h2.1,?_⟩
  rcases h2.2 with hn|⟨gg,cap,cur,rfl,qG,Ah,rest⟩
  .exact .inl hn
  .have:gg=b:=by simpa[Value.ownBlock]using h3
   subst this;exact .inr ⟨gg,cap,cur,rfl,qG,by rw[k1];exact Ah,rest⟩
 .trivial
theorem gR.aG{P:Program}{w:World}{g:Gh}{loc:Loc}{v:AV}{c:Value}:gR P w g loc v.aG c:=by
 cases v<;>try trivial
 rename_i o es
 cases o<;>trivial
theorem Rel.ext {P:Program} {w0:World} {n:Nat} {U:Nat→Prop} {g g':Gh} {S:av} {H:aD} {a:Act} {w w':World} (R:Rel P w0 n U g S H a w)
  (jq:g'.base=g.base) (hold:g'.old=g.old) (kK:g'.al=g.al)
  (fo:bl g.Pr g'.Pr w w')
  (acC:∀i b,g.al i=some b->w'.heap[b]?=w.heap[b]?/\g'.hi b=g.hi b/\g'.owner b=g.owner b)
  (dO:∀b loc,g.owner b=some loc->w'.heap[b]?=w.heap[b]?/\g'.hi b=g.hi b/\g'.owner b=some loc)
  (aaW:Below g.base w0 w') (qZ:∀b,w'.heap.size<=b->g'.hi b=0/\g'.owner b=none)
  (n9:∀b o,g.old.bf b=some o->w.heap[b]?=some o->w'.heap[b]?=some o/\g'.hi b=g.hi b/\g'.owner b=g.owner b) (abw:w.heap.size<=w'.heap.size):Rel P w0 n U g' S H a w':={
 size:=R.size
 defers:=by rw[hold];exact R.defers
 facts p hp:=(R.facts p (by rw[<-hold];exact hp)).mono fo (by rw[kK];exact λ_ _ h=>h)
 slot t ht hu:=(R.slot t ht hu).mono fo (by rw[kK];exact λ_ _ h=>h)
 own t ht hu:=(R.own t ht hu).bf jq λb hb=>dO b _ hb
 box i b hi:=by
  rw[kK]at hi;obtain⟨cs,vs,ty,h1,h2,h3,h4,h5,h6,h7,h8,h9⟩:=R.box i b hi;obtain⟨k1,k2,k3⟩:=acC i b hi;refine⟨cs,vs,ty,h1,by rw[jq];exact h2,by rw[k1];exact h3,by rw[k2];exact h4,by rw[k3];exact h5,h6,?_,?_,h9⟩
  .exact λj hj dY=>(h7 j hj dY).mono fo
  .exact λj hj dY=>(h8 j hj dY).bf jq λb hb=>dO b _ hb
 mB i cs h hu:=by rw[kK];exact R.mB i cs h hu
 mr i h:=by rw[kK];exact R.mr i h
 inj i j b h h':=by rw[kK]at h h';exact R.inj i j b h h'
 base:=by rw[jq];exact R.base
 below:=by rw[jq];exact aaW
 fresh:=qZ
 still:=by rw[hold];exact R.still.trans fo
 grown:=by rw[hold];exact ael R.grown abw
 kept b o h:=by
  rw[hold]at h;obtain⟨k1,k2,k3,k4,k5⟩:=R.kept b o h;obtain⟨e1,e2,e3⟩:=n9 b o h k2
  exact⟨by rw[jq];exact k1,e1,by rw[e2];exact k3,by rw[e3];exact k4,by rw[kK];exact k5⟩ }
theorem Rel.grow {P:Program} {w0:World} {n:Nat} {U:Nat→Prop} {g g':Gh} {S:av} {H:aD} {a:Act} {w w':World} (R:Rel P w0 n U g S H a w)
  (hb:Below w.heap.size w w') (jq:g'.base=g.base) (hold:g'.old=g.old) (kK:g'.al=g.al)
  (hg:∀b,b<w.heap.size->g'.hi b=g.hi b/\g'.owner b=g.owner b) (qZ:∀b,w'.heap.size<=b->g'.hi b=0/\g'.owner b=none):Rel P w0 n U g' S H a w':=by
 have hle:g.base<=w.heap.size:=by rw[R.base];exact R.below.size
 refine R.ext jq hold kK ?_ ?_ ?_ ?_ qZ ?_ hb.size
 .refine bl.iY (λb au=>hb.block b au) λb k au hp=>?_
  unfold Gh.Pr at*
  rw[jq,hold,(hg b au).1];exact hp
 .intro i b hi;obtain⟨cs,vs,ty,h1,h2,h3,_⟩:=R.box i b hi;have au:b<w.heap.size:=(ade.1 h3).1;exact⟨hb.block b au,hg b au⟩
 .intro b loc ho
  have au:b<w.heap.size:=by
   rcases ae1 b w.heap.size with h|h
   .exact h
   .rw[(R.fresh b h).2]at ho;cases ho
  exact⟨hb.block b au,(hg b au).1,by rw[(hg b au).2];exact ho⟩
 .exact R.below.trans (hb.mono hle)
 .intro b o _ ho;have au:b<w.heap.size:=(ade.1 ho).1;exact⟨by rw[hb.block b au];exact ho,hg b au⟩
theorem Rel.kS {P:Program} {w0:World} {n:Nat} {U:Nat→Prop} {g:Gh} {S:av} {H:aD} {a:Act} {w w':World} (R:Rel P w0 n U g S H a w)
  (hb:Below w.heap.size w w'):Rel P w0 n U g S H a w':=
 R.grow hb rfl rfl rfl (λ_ _=>⟨rfl,rfl⟩) (λb h=>R.fresh b (ael hb.size h))
theorem iH(a:Act)(d t:Nat)(c:Value)(hd:d<a.tmps.size):(a.put (some d) c).tmps.getD t undef=if t=d then c else a.tmps.getD t undef:=by
 simp only[Act.put]
 by_cases h:t=d
 .subst h;simp[hd]
 .simp[h,adg (ad2 h)]
theorem Rel.put {P:Program} {w0:World} {n:Nat} {U:Nat→Prop} {g:Gh} {S:av} {H:aD} {a:Act} {w:World} (R:Rel P w0 n U g S H a w)
  (d:Nat) (v:AV) (c:Value) (hd:d<n) (hv:RV g.Pr g.al w v c) (ho:gR P w g (.slot d) v c):Rel P w0 n U g (ar S d v) H (a.put (some d) c) w:={
 size:=by simp[Act.put,R.size]
 defers:=R.defers
 facts:=R.facts
 slot t ht hu:=by
  rw[iH a d t c (by rw[R.size];exact hd)]
  by_cases h:t=d
  .subst h;simp only[aS,adJ];exact hv
  .rw[bj S v h,if_neg h];exact R.slot t ht hu
 own t ht hu:=by
  rw[iH a d t c (by rw[R.size];exact hd)]
  by_cases h:t=d
  .subst h;simp only[aS,adJ];exact ho
  .rw[bj S v h,if_neg h];exact R.own t ht hu
 box:=R.box
 mB:=R.mB
 mr:=R.mr
 inj:=R.inj
 base:=R.base
 below:=R.below
 fresh:=R.fresh
 still:=R.still
 grown:=R.grown
 kept:=R.kept }
def aT(S:av):Option Nat->AV->av
 |some d,v=>ar S d v
 |none,_=>S
theorem Rel.aT {P:Program} {w0:World} {n:Nat} {U:Nat→Prop} {g:Gh} {S:av} {H:aD} {a:Act} {w:World} (R:Rel P w0 n U g S H a w)
  (d:Option Nat) (v:AV) (c:Value) (hd:∀t,d=some t->t<n) (hv:RV g.Pr g.al w v c) (ho:∀t,d=some t->gR P w g (.slot t) v c):Rel P w0 n U g (aT S d v) H (a.put d c) w:=by
 cases d with
 |none=>exact R
 |some t=>exact R.put t v c (hd t rfl) hv (ho t rfl)
theorem Rel.weaken {P:Program} {w0:World} {n:Nat} {U:Nat→Prop} {g:Gh} {S:av} {H:aD} {a:Act} {w:World} (R:Rel P w0 n U g S H a w)
  (S':av) (h:∀t,t<n->¬U t->∀c,RV g.Pr g.al w (S t) c->gR P w g (.slot t) (S t) c->RV g.Pr g.al w (S' t) c/\gR P w g (.slot t) (S' t) c):Rel P w0 n U g S' H a w:={
 size:=R.size
 defers:=R.defers
 facts:=R.facts
 slot t ht hu:=(h t ht hu _ (R.slot t ht hu) (R.own t ht hu)).1
 own t ht hu:=(h t ht hu _ (R.slot t ht hu) (R.own t ht hu)).2
 box:=R.box
 mB:=R.mB
 mr:=R.mr
 inj:=R.inj
 base:=R.base
 below:=R.below
 fresh:=R.fresh
 still:=R.still
 grown:=R.grown
 kept:=R.kept }
def AV.qQ:AV->Prop
 |.slice (.own _) _=>False
 |_=>True
instance(v:AV):Decidable v.qQ:=by unfold AV.qQ;split<;>infer_instance
theorem AV.we(v:AV):v.aG.qQ:=by
 cases v<;>try trivial
 rename_i o es
 cases o<;>trivial
theorem gR.qQ{P:Program}{w w':World}{g g':Gh}{loc I':Loc}{v:AV}{c:Value}(h:gR P w g loc v c)(hn:v.qQ):gR P w' g' I' v c:=by
 cases v<;>try trivial
 rename_i o es
 cases o with
 |view=>trivial
 |nil=>trivial
 |own e=>simp[AV.qQ]at hn
theorem Rel.P9 {P:Program} {w0:World} {n:Nat} {U:Nat→Prop} {g:Gh} {S:av} {H:aD} {a:Act} {w:World} (R:Rel P w0 n U g S H a w)
  (loc:Loc) (I':Option Loc) (hS:∀t,loc=.slot t->t<n->¬U t->(S t).qQ)
  (hH:∀i j cs,loc=.cell i j->H i=some cs->∀h:j<cs.length,(cs[j]).qQ):
  Rel P w0 n U { g with owner:=λb=>if g.owner b=some loc then I' else g.owner b } S H a w:={
 size:=R.size
 defers:=R.defers
 facts:=R.facts
 slot:=R.slot
 own t ht hu:=by
  by_cases h:loc=.slot t
  .exact(R.own t ht hu).qQ (hS t h ht hu)
  .refine(R.own t ht hu).bf rfl λb hb=>⟨rfl,rfl,?_⟩
   show(if g.owner b=some loc then I' else g.owner b)=_;rw[if_neg (by rw[hb];intro e;exact h (adw e).symm)];exact hb
 box i b hi:=by
  obtain⟨cs,vs,ty,h1,h2,h3,h4,h5,h6,h7,h8,h9⟩:=R.box i b hi;refine⟨cs,vs,ty,h1,h2,h3,h4,?_,h6,h7,?_,h9⟩
  .show(if g.owner b=some loc then I' else g.owner b)=none;rw[h5];simp
  .intro j hj dY
   by_cases h:loc=.cell i j
   .exact(h8 j hj dY).qQ (hH i j cs h h1 hj)
   .refine(h8 j hj dY).bf rfl λb hb=>⟨rfl,rfl,?_⟩
    show(if g.owner b=some loc then I' else g.owner b)=_;rw[if_neg (by rw[hb];intro e;exact h (adw e).symm)];exact hb
 mB:=R.mB
 mr:=R.mr
 inj:=R.inj
 base:=R.base
 below:=R.below
 fresh b hb:=by
  refine⟨(R.fresh b hb).1,?_⟩;show(if g.owner b=some loc then I' else g.owner b)=none;rw[(R.fresh b hb).2];simp
 still:=R.still
 grown:=R.grown
 kept b o h:=by
  obtain⟨k1,k2,k3,k4,k5⟩:=R.kept b o h;refine⟨k1,k2,k3,?_,k5⟩;show(if g.owner b=some loc then I' else g.owner b)=none
  rw[k4];simp }
theorem RV.l6 {Pr:Nat→Nat→Prop} {al Pa:Nat→Option Nat} {w:World} {v:AV} {c:Value} {d:Nat} (h:RV Pr al w v c) (hs:l6 d v=false)
  (ha:∀i b,i≠d->al i=some b->Pa i=some b):RV Pr Pa w v c:=by
 cases h with
 |data v c h=>exact .data _ _ h
 |box i off b h=>exact .box i off b (ha i b (by simpa[Go.AL.l6]using hs) h)
 |func=>simp[Go.AL.l6]at hs
 |j0=>simp[Go.AL.l6]at hs
 |br c=>exact .br c
theorem RV.bX {Pr:Nat→Nat→Prop} {al Pa:Nat→Option Nat} {w:World} {v:AV} {c:Value} (d:Nat) (h:RV Pr al w v c)
  (ha:∀i b,i≠d->al i=some b->Pa i=some b):RV Pr Pa w (bX d v) c:=by
 cases h with
 |data v c h=>
  have:Go.AL.bX d v=v:=by cases h<;>rfl
  rw[this];exact .data _ _ h
 |box i off b h=>
  simp only[Go.AL.bX];split
  .exact .br _
  .rename_i hi;exact .box i off b (ha i b hi h)
 |func fn first cap vs us h1 h2 r1 r2=>
  simp only[Go.AL.bX];split
  .exact .br _
  .rename_i hn;simp only[aei,not_or,afp,ad5]at hn;exact .func fn first cap vs us h1 h2 (λi h h'=>(r1 i h h').l6 (by simpa using hn.1 _ (ada h)) ha) (λi h h'=>(r2 i h h').l6 (by simpa using hn.2 _ (ada h)) ha)
 |j0=>exact .br _
 |br c=>exact .br c
theorem Mr(P:Program)(w:World)(g:Gh)(loc:Loc)(d:Nat)(v:AV)(c:Value)(h:gR P w g loc v c):gR P w g loc (bX d v) c:=by
 cases v<;>try exact h
 .simp only[bX];split<;>trivial
 .simp only[bX];split<;>trivial
theorem Rel.suspend {P:Program} {w0:World} {n:Nat} {U:Nat→Prop} {g:Gh} {S:av} {H:aD} {a:Act} {w:World} (R:Rel P w0 n U g S H a w)
  (d:Nat) (dH:¬g.old.bx d) (v:AV) (cs:List AV):
  Rel P w0 n (λt=>U t\/t=d) { g with al:=ar g.al d none } (ar (λt=>bX d (S t)) d v) (ar H d (some cs)) a w:={
 size:=R.size
 defers:=R.defers
 facts p hp:=by
  have h:=(R.facts p hp).bX (Pa:=ar g.al d none) d λi b hi h=>by rw[bj _ _ hi];exact h
  rw[(g.old.ok p hp).2 d dH]at h;exact h
 slot t ht hu:=by
  simp only[not_or]at hu;rw[bj _ _ hu.2]
  refine(R.slot t ht hu.1).bX d λi b hi h=>?_
  show ar g.al d none i=some b;rw[bj _ _ hi];exact h
 own t ht hu:=by
  simp only[not_or]at hu;rw[bj _ _ hu.2];exact Mr _ _ _ _ _ _ _ (R.own t ht hu.1)
 box i b hi:=by
  by_cases h:i=d
  .subst h;simp[ar]at hi
  .simp only[bj _ _ h]at hi;obtain⟨gM,vs,ty,h1,rest⟩:=R.box i b hi;exact⟨gM,vs,ty,by rw[bj _ _ h];exact h1,rest⟩
 mB i gM h hu:=by
  simp only[not_or]at hu;rw[bj _ _ hu.2]at h;simp only[bj _ _ hu.2];exact R.mB i gM h hu.1
 mr i h:=by
  show ar g.al d none i=none
  by_cases hi:i=d
  .subst hi;simp[ar]
  .rw[bj _ _ hi];exact R.mr i (h.resolve_right hi)
 inj i j b h h':=by
  have e:∀k,(ar g.al d none) k=some b->g.al k=some b:=by
   intro k hk
   by_cases Sb:k=d
   .subst Sb;simp[ar]at hk
   .rwa [bj _ _ Sb]at hk
  exact R.inj i j b (e i h) (e j h')
 base:=R.base
 below:=R.below
 fresh:=R.fresh
 still:=R.still
 grown:=R.grown
 kept b o h:=by
  obtain⟨k1,k2,k3,k4,k5⟩:=R.kept b o h;refine⟨k1,k2,k3,k4,λi=>?_⟩;show ar g.al d none i≠some b
  by_cases hi:i=d
  .subst hi;simp[ar]
  .rw[bj _ _ hi];exact k5 i }
theorem Rel.Oz {P:Program} {w0:World} {n:Nat} {U:Nat→Prop} {g:Gh} {S:av} {H:aD} {a:Act} {w:World} (R:Rel P w0 n U g S H a w)
  (d:Nat) (hU:U d) (hd:d<n) (cs:List AV) (vs:Array Value) (ty:TypeId) (hS:S d=.box d 0) (hH:H d=some cs) (hl:cs.length=vs.size)
  (hr:∀j (h:j<cs.length)(h':j<vs.size),RD g.Pr w cs[j] vs[j])
  (ho:∀j (h:j<cs.length)(h':j<vs.size),(cs[j]).qQ/\gR P w g (.cell d j) cs[j] vs[j]) (h1:∀j (h:j<cs.length),(cs[j]).one=true):
  Rel P w0 n (λt=>U t/\t≠d) { g with al:=ar g.al d (some w.heap.size) } S H (a.put (some d) (.pointer (some ⟨w.heap.size,0,none⟩))) (w.alloc (.cells vs ty)):=by
 have hb:Below w.heap.size w (w.alloc (.cells vs ty)):=(aeb _ _).alloc (adh _) _;have R':=R.kS hb
 have hle:g.base<=w.heap.size:=by rw[R.base];exact R.below.size
 have kK:∀i b,g.al i=some b->ar g.al d (some w.heap.size) i=some b:=by
  intro i b h;rw[bj _ _ (by rintro rfl;rw[R.mr _ hU]at h;cases h)];exact h
 have hRD:∀{v:AV}{c:Value},RD g.Pr w v c->RD g.Pr (w.alloc (.cells vs ty)) v c:=λh=>h.mono (bl.iY (λb au=>hb.block b au) λ_ _ _ h=>h)
 refine{ size:=by simp[Act.put,R.size],defers:=R.defers,facts:=λp hp=>(R'.facts p hp).mono (bl.same λ_ _ _ h=>h) kK,slot:=?_,own:=?_,box:=?_,mB:=?_,mr:=?_,inj:=?_,base:=R.base,below:=R'.below,fresh:=R'.fresh,still:=R'.still,grown:=R'.grown,kept:=?_ }
 .intro t ht hu;rw[iH a d t _ (by rw[R.size];exact hd)]
  by_cases h:t=d
  .subst h;rw[if_pos rfl,hS];exact .box _ _ _ (by simp[ar])
  .rw[if_neg h];exact(R'.slot t ht (λZn=>hu ⟨Zn,h⟩)).mono (bl.same λ_ _ _ h=>h) kK
 .intro t ht hu;rw[iH a d t _ (by rw[R.size];exact hd)]
  by_cases h:t=d
  .subst h;rw[hS];simp[gR]
  .rw[if_neg h]
   exact(R'.own t ht (λZn=>hu ⟨Zn,h⟩)).bf rfl λb hb=>⟨rfl,rfl,hb⟩
 .intro i b hi
  by_cases h:i=d
  .subst h
   have qG:b=w.heap.size:=by simpa[ar]using hi.symm
   subst qG;refine⟨cs,vs,ty,hH,hle,agM w _,(R.fresh _ (adh _)).1,(R.fresh _ (adh _)).2,hl,λj h h'=>hRD (hr j h h'),λj h h'=>(ho j h h').2.qQ (ho j h h').1,h1⟩
  .simp only[bj _ _ h]at hi;obtain⟨gM,pJ,FY,h1,h2,h3,h4,h5,h6,h7,h8,h9⟩:=R'.box i b hi;exact⟨gM,pJ,FY,h1,h2,h3,h4,h5,h6,h7,λj hj dY=>(h8 j hj dY).bf rfl λb hb=>⟨rfl,rfl,hb⟩,h9⟩
 .intro i gM h hu
  by_cases hi:i=d
  .subst hi;simp[ar]
  .simp only[bj _ _ hi];exact R.mB i gM h (λZn=>hu ⟨Zn,hi⟩)
 .intro i h;show ar g.al d (some w.heap.size) i=none;rw[bj _ _ h.2];exact R.mr i h.1
 .intro i j b h h'
  have key:∀k,ar g.al d (some w.heap.size) k=some b->(k=d/\b=w.heap.size)\/(k≠d/\g.al k=some b):=by
   intro k hk
   by_cases Sb:k=d
   .subst Sb;exact .inl ⟨rfl,by simpa[ar]using hk.symm⟩
   .rw[bj _ _ Sb]at hk;exact .inr ⟨Sb,hk⟩
  have au:∀k,g.al k=some b->b<w.heap.size:=by
   intro k hk;obtain⟨_,_,_,_,_,h3,_⟩:=R.box k b hk;exact(ade.1 h3).1
  rcases key i h with⟨rfl,e⟩|⟨hi,h1⟩<;>rcases key j h' with⟨rfl,e'⟩|⟨hj,h2⟩
  .rfl
  .have:=au j h2;omega
  .have:=au i h1;omega
  .exact R.inj i j b h1 h2
 .intro b o h;obtain⟨k1,k2,k3,k4,k5⟩:=R'.kept b o h;refine⟨k1,k2,k3,k4,λi=>?_⟩;show ar g.al d (some w.heap.size) i≠some b
  by_cases hi:i=d
  .subst hi;rw[aS];have:=(ade.1 (R.kept b o h).2.1).1;intro e;have:=adw e;omega
  .rw[bj _ _ hi];exact k5 i
theorem Rel.JI {P:Program} {w0:World} {n:Nat} {U:Nat→Prop} {g:Gh} {S:av} {H:aD} {a:Act} {w:World} (R:Rel P w0 n U g S H a w)
  (i b:Nat) (hi:g.al i=some b) (vs pJ:Array Value) (ty:TypeId) (hh:w.heap[b]?=some (.cells vs ty (0,0))) (gM:List AV) (hl:gM.length=pJ.size)
  (hr:∀j (h:j<gM.length)(h':j<pJ.size),RD g.Pr w gM[j] pJ[j])
  (ho:∀j (h:j<gM.length)(h':j<pJ.size),gR P w g (.cell i j) gM[j] pJ[j]) (DY:∀j (h:j<gM.length),(gM[j]).one=true):
  Rel P w0 n U g S (ar H i (some gM)) a (w.setRow b pJ):=by
 obtain⟨cs,OL,ty0,h1,h2,h3,h4,h5,h6,h7,h8,h9⟩:=R.box i b hi
 have cI:∀b' k,g.Pr b' k->b'≠b:=by
  rintro b' k hp rfl;unfold Gh.Pr at hp;rw[h4]at hp;omega
 have fo:bl g.Pr g.Pr w (w.setRow b pJ):={
  cell:=λb' k hp u hu=>⟨hp,by rw[afi (w:=w) (aec w b b' pJ (cI b' k hp))];exact hu⟩
  map:=λb' hp es c hm=>⟨hp,by rw[aec w b b' pJ (cI b' 0 hp)];exact hm⟩ }
 have dO:∀b' loc,g.owner b'=some loc->(w.setRow b pJ).heap[b']?=w.heap[b']?/\g.hi b'=g.hi b'/\g.owner b'=some loc:=by
  intro b' loc kg;refine⟨aec w b b' pJ ?_,rfl,kg⟩;rintro rfl;rw[h5]at kg;cases kg
 refine{ size:=R.size,defers:=R.defers,facts:=λp hp=>(R.facts p hp).mono fo λ_ _ h=>h,slot:=?_,own:=?_,box:=?_,mB:=?_,mr:=R.mr,inj:=R.inj,base:=R.base,below:=?_,fresh:=?_,still:=R.still.trans fo,grown:=by simpa using R.grown,kept:=?_ }
 .exact λt ht hu=>(R.slot t ht hu).mono fo λ_ _ h=>h
 .exact λt ht hu=>(R.own t ht hu).bf rfl λb' kg=>dO b' _ kg
 .intro k b' hk
  by_cases Nh:k=i
  .subst Nh
   have:b'=b:=by rw[hi]at hk;exact(adw hk).symm
   subst this;exact⟨gM,pJ,ty,aS _ _ _,h2,aeJ w b' vs pJ ty (0,0) hh,h4,h5,hl,λj h h'=>(hr j h h').mono fo,λj h h'=>(ho j h h').bf rfl λb' kg=>dO b' _ kg,DY⟩
  .obtain⟨c1,v1,t1,k1,k2,k3,k4,k5,k6,k7,k8,k9⟩:=R.box k b' hk
   have cI:b'≠b:=by rintro rfl;exact Nh (R.inj k i b' hk hi)
   exact⟨c1,v1,t1,by rw[bj _ _ Nh];exact k1,k2,by rw[aec w b b' pJ cI];exact k3,k4,k5,k6,λj h h'=>(k7 j h h').mono fo,λj h h'=>(k8 j h h').bf rfl λb' kg=>dO b' _ kg,k9⟩
 .intro k cs1 hk hu
  by_cases Nh:k=i
  .subst Nh;rw[hi];rfl
  .rw[bj _ _ Nh]at hk;exact R.mB k cs1 hk hu
 .exact R.below.trans ⟨rfl,rfl,rfl,by simp,λk hk=>aec w b k pJ (by omega)⟩
 .intro b' kg;exact R.fresh b' (by simpa using kg)
 .intro b' o h;obtain⟨k1,k2,k3,k4,k5⟩:=R.kept b' o h;refine⟨k1,?_,k3,k4,k5⟩;rw[aec w b b' pJ (by rintro rfl;exact k5 i hi)];exact k2
inductive eA where
 |t (n:Nat)|c (v:AV)|f (n:Nat)|m (n:Nat) (tab:List (TypeId×Nat))
def sG:Value->Option AV
 |.bool b=>some (.bool b)
 |.int k n=>some (.int k n)
 |.string s=>some (.str s.data.toList)
 |.slice none 0 0=>some (.slice .nil [])
 |.pointer none=>some .xI
 |.map none=>some (.map [] [])
 |.nilIface=>some .vu
 |.nilFunc=>some (.val .nilFunc)
 |_=>none
def l7:List Value->Option (List AV)
 |[]=>some []
 |v::vs=>match sG v,l7 vs with
  |some x,some xs=>if x.storable then some (x::xs)else none
  |_,_=>none
def ev(S:av):eA->AV
 |.t n=>S n
 |.c v=>v
 |.f n=>.func (.func n) [] []
 |.m n tab=>match S n with
  |.iface t v=>match tab.lookup t with
   |some k=>.func (.func k) [v] []
   |none=>.br
  |_=>.br
inductive HR where
 |any|ref|box (r:Nat)
def HR.okB:HR->Nat->Bool
 |.any,_=>true
 |.ref,_=>false
 |.box r,i=>i==r
inductive fw where
 |mv (take:Bool) (x:eA)
 |pick (c a b:eA)
 |alloc (t:TypeId) (zero:List AV)
 |box (t:TypeId) (size:Nat) (x:eA)
 |build (zero:List AV) (parts:List (Nat×Nat×eA))
 |buildSlice (t e:TypeId) (size:Nat) (parts:List eA)
 |load (hr:HR) (agg:Bool) (size:Nat) (a:eA)
 |loadT (hr:HR) (a:eA)
 |store (hr:HR) (size:Nat) (a x:eA)
 |bin (op:BinOp) (x y:eA)
 |F2 (neg:Bool) (x y:eA)
 |eqs (neg:Bool) (k:Nat) (x y:eA)
 |nx (ag:Bool) (len size:Nat) (x i:eA)
 |zr (x:eA)
 |pC (xs:List eA)
 |pE (len:Nat) (x i:eA)
 |lookup (k:Nat) (z:AV) (x i:eA)
 |not (x:eA)
 |conv (k:IntKind) (x:eA)
 |iface (t:TypeId) (x:eA)
 |GO (fn:Fn) (first cap:List eA)
 |pG (x:eA) (lo hi:Option eA)
 |mS (size:Nat) (x:eA) (lo hi:Option eA)
 |qq (len:Nat) (x:eA)
 |fieldAddr (off:Nat) (x:eA)
 |indexAddr (size:Nat) (x i:eA)
 |pF (x i:eA)
 |extract (x:eA) (i:Nat)
 |yK (x:eA)
 |j6 (x:eA)
 |isNil (neg:Bool) (x:eA)
 |empty (e:TypeId)
 |append (t e:TypeId) (size bytes:Nat) (x y:eA)
 |max (x y:eA)
 |min (x y:eA)
 |assert (t:TypeId) (zero:AV) (x:eA)
 |panic (x:eA)
 |call (f:Nat) (args:List eA)
 |ik (f:eA) (args:List eA)
 |other
structure aQ where
 v:AV
 dm:Option Nat:=none
 hw:Option (Nat×List AV):=none
def aQ.S(e:aQ)(S:av)(dst:Option Nat):av:=
 aT (match e.dm with|some t=>ar S t (S t).aG|none=>S) dst e.v
def aQ.H(e:aQ)(H:aD):aD:=
 match e.hw with|some (i,cs)=>ar H i (some cs)|none=>H
def b_:AV:=.dN []
def dS(op:BinOp):AV->AV->Option AV
 |.int k a,.int k' b=>
  if k≠k' then none else
  match op with
  |.add=>some (.int k (k.wrap (a+b)))
  |.sub=>some (.int k (k.wrap (a-b)))
  |.mul=>some (.int k (k.wrap (a*b)))
  |.quo=>if b=0 then none else some (.int k (k.wrap (a.tdiv b)))
  |.rem=>if b=0 then none else some (.int k (a.tmod b))
  |.eql=>some (.bool (a==b))
  |.neq=>some (.bool (a !=b))
  |.lss=>some (.bool (decide (a<b)))
  |.leq=>some (.bool (decide (a<=b)))
  |.gtr=>some (.bool (decide (a>b)))
  |.geq=>some (.bool (decide (a>=b)))
  |_=>none
 |.str a,.str b=>
  match op with
  |.eql=>some (.bool (a==b))
  |.neq=>some (.bool (a !=b))
  |.add=>if a.length+b.length<1073741824 then some (.str (a++b))else none
  |_=>none
 |_,_=>none
def ny:List AV->Option (List Int)
 |[]=>some []
 |.int .i64 n::cs=>(ny cs).map (n::·)
 |_=>none
def bytesOf:List AV->Option (List UInt8)
 |[]=>some []
 |.int .u8 n::cs=>if 0<=n/\n<256 then(bytesOf cs).map (UInt8.ofNat n.toNat::·)else none
 |_=>none
def oF(key:List Int):List AV->List AV->Option (Option AV)
 |[],_=>some none
 |.agg c::ks,v::vs=>match ny c with
  |some m=>if m.length≠key.length then none else if key==m then some (some v)else oF key ks vs
  |none=>none
 |_,_=>none
def Cg:AV->Bool
 |.func ..|.val .nilFunc=>true
 |_=>false
def bo(cs:List AV)(off:Nat)(vs:List AV):List AV:=cs.take off++vs++cs.drop (off+vs.length)
def bI(cells:List AV):List (Nat×Nat×AV)->Option (List AV)
 |[]=>some cells
 |(off,size,v)::rest=>if v.cells.length=size/\off+size<=cells.length/\v.storable=true then bI (bo cells off (v.aG.cells)) rest else none
def b0(agg:Bool)(size:Nat)(cs:List AV):Option AV:=
 if agg then(if size<=cs.length then some (.agg ((cs.take size).map AV.aG))else none)
 else(cs[0]?).map AV.aG
def bound(x:Option AV)(d:Nat):Option Int:=
 match x with
 |none=>some d
 |some (.int .i64 n)=>some n
 |_=>none
def AV.bZ:AV->List AV
 |.agg cs=>cs.map AV.aG
 |v=>[v]
def bz:eA->Option Nat
 |.t n=>some n
 |_=>none
def aJ(size:Nat)(es:List AV):Bool:=es.all λv=>v.storable&&v.cells.length==size
def aH(S:av)(H:aD):fw->Option aQ
 |.mv take x=>if take then some { v:=ev S x,dm:=bz x }else some { v:=(ev S x).aG }
 |.pick c a b=>match ev S c with
  |.bool t=>some { v:=(if t then ev S a else ev S b).aG }
  |_=>none
 |.build zero parts=>(bI zero (parts.map λ(o,s,x)=>(o,s,ev S x))).map λcs=>{ v:=.agg cs }
 |.buildSlice _ e size parts=>
  if aJ size (parts.map (ev S))&&parts.length*size<=16777216 then some { v:=.slice (.own e) ((parts.map (ev S)).map AV.vw) }else none
 |.load hr agg size x=>match ev S x with
  |.box i off=>if hr.okB i then match H i with
   |some cs=>(b0 agg size (cs.drop off)).map λv=>{ v:=v }
   |none=>none
   else none
  |.ref cs=>(b0 agg size cs).map λv=>{ v:=v }
  |_=>none
 |.loadT hr x=>match ev S x with
  |.box i off=>if hr.okB i then match H i with
   |some cs=>match cs[off]? with
    |some v=>some { v:=v,hw:=some (i,cs.set off v.aG) }
    |none=>none
   |none=>none
   else none
  |_=>none
 |.store hr size x y=>match ev S x with
  |.box i off=>if hr.okB i then match H i with
   |some cs=>if (ev S y).cells.length=size∧off+size≤cs.length∧(ev S y).storable=true then
     some { v:=b_,dm:=bz y,hw:=some (i,bo cs off (ev S y).bZ) }else none
   |none=>none
   else none
  |_=>none
 |.bin op x y=>(dS op (ev S x) (ev S y)).map λv=>{ v:=v }
 |.F2 neg x y=>match ev S x,ev S y with
  |.bool a,.bool b=>some { v:=.bool (if neg then a !=b else a==b) }
  |_,_=>none
 |.eqs neg k x y=>match ev S x,ev S y with
  |.agg xs,.agg ys=>match ny xs,ny ys with
   |some a,some b=>if a.length=k/\b.length=k then some { v:=.bool (if neg then a !=b else a==b) }else none
   |_,_=>none
  |_,_=>none
 |.nx ag len size x i=>match ev S x,ev S i with
  |.agg cs,.int .i64 k=>if 0<=k/\k<len then(b0 ag size (cs.drop (k.toNat*size))).map λv=>{ v:=v }else none
  |_,_=>none
 |.pC xs=>if(xs.map (ev S)).all Cg then some { v:=.j0 (xs.map (ev S)) }else none
 |.pE len x i=>match ev S x,ev S i with
  |.j0 fs,.int .i64 k=>if 0≤k∧k < len then match fs[k.toNat]? with
    |some v=>if Cg v then some { v:=v }else none
    |none=>none
   else none
  |_,_=>none
 |.zr x=>match ev S x with
  |.slice _ es=>(bytesOf es).map λl=>{ v:=.str l }
  |_=>none
 |.lookup k z x i=>match ev S x,ev S i with
  |.map ks vs,.agg c=>match ny c with
   |some key=>if key.length=k then match oF key ks vs with
     |some (some v)=>some { v:=.dN [v.aG,.bool true] }
     |some none=>some { v:=.dN [z,.bool false] }
     |none=>none
    else none
   |none=>none
  |_,_=>none
 |.not x=>match ev S x with
  |.bool b=>some { v:=.bool !b }
  |_=>none
 |.conv k x=>match ev S x with
  |.int _ n=>some { v:=.int k (k.wrap n) }
  |_=>none
 |.iface t x=>if(ev S x).storable then some { v:=.iface t (ev S x).vw }else none
 |.GO fn first cap=>some { v:=.func fn (first.map λx=>(ev S x).aG) (cap.map λx=>(ev S x).aG) }
 |.pG x lo hi=>match ev S x with
  |.str l=>match bound (lo.map (ev S)) 0,bound (hi.map (ev S)) l.length with
   |some a,some b=>if 0<=a/\a<=b/\b<=l.length then some { v:=.str ((l.take b.toNat).drop a.toNat) }else none
   |_,_=>none
  |_=>none
 |.qq len x=>match ev S x with
  |.ref cs=>if cs.length=len then some { v:=.slice .view cs }else none
  |_=>none
 |.mS size x lo hi=>match ev S x with
  |.slice _ es=>match bound (lo.map (ev S)) 0,bound (hi.map (ev S)) es.length with
   |some a,some b=>if 0<=a/\a<=b/\b<=es.length/\aJ size es=true then some { v:=.slice .view ((es.take b.toNat).drop a.toNat) }else none
   |_,_=>none
  |_=>none
 |.fieldAddr off x=>match ev S x with
  |.box i o=>some { v:=.box i (o+off) }
  |.ref cs=>some { v:=.ref (cs.drop off) }
  |_=>none
 |.indexAddr size x i=>match ev S x,ev S i with
  |.slice _ es,.int .i64 k=>if 0≤k then match es[k.toNat]? with
    |some v=>if v.cells.length=size then some { v:=.ref v.cells }else none
    |none=>none
   else none
  |_,_=>none
 |.pF x i=>match ev S x,ev S i with
  |.str l,.int .i64 k=>if 0≤k then match l[k.toNat]? with
    |some b=>some { v:=.int .u8 b.toNat }
    |none=>none
   else none
  |_,_=>none
 |.extract x i=>match ev S x with
  |.dN vs=>(vs[i]?).map λv=>{ v:=v.aG }
  |_=>none
 |.yK x=>match ev S x with
  |.str l=>some { v:=.int .i64 l.length }
  |_=>none
 |.j6 x=>match ev S x with
  |.slice _ es=>some { v:=.int .i64 es.length }
  |_=>none
 |.isNil neg x=>match ev S x with
  |.slice _ es=>some { v:=if es.isEmpty then .pX else .bool neg }
  |_=>none
 |.empty _=>some { v:=.slice .nil [] }
 |.append _ e size _ x y=>match ev S x,ev S y with
  |.slice .nil [],.slice _ ys=>if aJ size ys&&ys.length<1048576 then some { v:=.slice (if ys.isEmpty then .nil else .own e) ys }else none
  |.slice (.own e') xs,.slice _ ys=>if e'=e/\(aJ size ys&&aJ size xs&&(xs.length+ys.length<1048576))=true then some { v:=.slice (.own e) (xs++ys),dm:=bz x }else none
  |_,_=>none
 |.max x y=>match ev S x,ev S y with
  |.int .i64 a,.int .i64 b=>some { v:=.int .i64 (max a b) }
  |_,_=>none
 |.min x y=>match ev S x,ev S y with
  |.int .i64 a,.int .i64 b=>some { v:=.int .i64 (min a b) }
  |_,_=>none
 |.assert t zero x=>match ev S x with
  |.iface t' v=>some { v:=if t'=t then .dN [v,.bool true]else .dN [zero,.bool false] }
  |.vu=>some { v:=.dN [zero,.bool false] }
  |_=>none
 |_=>none
def eA.tmps:eA->List Nat
 |.t n=>[n]
 |.m n _=>[n]
 |_=>[]
def fw.rd:fw->List Nat
 |.mv _ x|.qq _ x|.box _ _ x|.load _ _ _ x|.loadT _ x|.not x|.zr x|.conv _ x|.iface _ x|.fieldAddr _ x|.extract x _|.yK x|.j6 x|.isNil _ x|.assert _ _ x|.panic x=>x.tmps
 |.pick a b c=>a.tmps++b.tmps++c.tmps
 |.alloc ..|.other|.empty _=>[]
 |.build _ ps=>ps.flatMap λp=>p.2.2.tmps
 |.buildSlice _ _ _ ps=>ps.flatMap eA.tmps
 |.store _ _ a x|.bin _ a x|.F2 _ a x|.eqs _ _ a x|.indexAddr _ a x|.pF a x|.nx _ _ _ a x|.lookup _ _ a x|.append _ _ _ _ a x|.max a x|.min a x=>a.tmps++x.tmps
 |.pC xs=>xs.flatMap eA.tmps
 |.pE _ a x=>a.tmps++x.tmps
 |.GO _ f c=>f.flatMap eA.tmps++c.flatMap eA.tmps
 |.pG x l h|.mS _ x l h=>x.tmps++(l.toList++h.toList).flatMap eA.tmps
 |.call _ Jz=>Jz.flatMap eA.tmps
 |.ik f Jz=>f.tmps++Jz.flatMap eA.tmps
def eO(n:Nat):Operand->Option eA
 |.tmp t=>if t<n then some (.t t)else none
 |.const c=>(sG c).map .c
 |.func f=>some (.f f)
 |.global _=>none
def vx(n:Nat):List Operand->Option (List eA)
 |[]=>some []
 |x::xs=>match eO n x,vx n xs with
  |some y,some ys=>some (y::ys)
  |_,_=>none
def rk(n:Nat):Option Operand->Option (Option eA)
 |none=>some none
 |some x=>(eO n x).map some
theorem RN(Pr:Nat->Nat->Prop)(al:Nat->Option Nat)(w:World){c:Value}{v:AV}(h:sG c=some v):RV Pr al w v c:=by
 unfold sG at h
 split at h<;>first|cases h|skip
 .exact .data _ _ (.bool _)
 .exact .data _ _ (.int _ _)
 .rename_i s
  have:s=⟨s.data.toList.toArray⟩:=by simp
  rw(occs:=.pos [2]) [this];exact .data _ _ (.str _)
 .exact .data _ _ (.jU _)
 .exact .data _ _ .xI
 .exact .data _ _ .By
 .exact .data _ _ .vu
 .exact .data _ _ (.val _ rfl)
theorem HD{c:Value}{v:AV}(h:sG c=some v)(P:Program)(w:World)(g:Gh)(loc:Loc):gR P w g loc v c:=by
 unfold sG at h
 split at h<;>first|cases h|skip
 all_goals first|trivial|exact⟨none,rfl⟩
theorem IW{c:Value}{v:AV}(h:sG c=some v):v.qQ:=by
 unfold sG at h
 split at h<;>first|cases h|skip
 all_goals trivial
section
variable{P:Program}{w0:World}{n:Nat}{U:Nat->Prop}{g:Gh}{S:av}{H:aD}{a:Act}{w:World}
theorem Rel.ev(R:Rel P w0 n U g S H a w){x:Operand}{y:eA}(h:eO n x=some y)(hu:∀t∈y.tmps,¬U t):RV g.Pr g.al w (ev S y) (a.eval x):=by
 cases x with
 |tmp t=>
  simp only[eO]at h;split at h
  .rename_i ht;cases h;exact R.slot t ht (hu t (by simp[eA.tmps]))
  .cases h
 |const c=>
  simp only[eO,adr]at h;obtain⟨v,hv,rfl⟩:=h;exact RN _ _ _ hv
 |global k=>cases h
 |func f=>
  cases h;exact .func _ [] [] #[] #[] rfl rfl (λi h=>by simp at h) (λi h=>by simp at h)
theorem Rel.Sm (R:Rel P w0 n U g S H a w):∀ {xs:List Operand} {ys:List eA},vx n xs=some ys→(∀ y∈ys,∀ t∈y.tmps,¬ U t) →
  ys.length=xs.length/\∀i (h:i<ys.length)(h':i<xs.length),RV g.Pr g.al w (AL.ev S ys[i]) (a.eval xs[i])
 |[],ys,h,_=>by cases h;exact⟨rfl,λi h=>by simp at h⟩
 |x::xs,ys,h,hu=>by
  simp only[vx]at h;split at h
  .rename_i y ys' h1 h2;cases h;obtain⟨e,hh⟩:=R.Sm h2 (λy hy=>hu y (by simp[hy]));refine⟨by simp[e],λi hi eb=>?_⟩
   cases i with
   |zero=>exact R.ev h1 (hu y (by simp))
   |succ i=>exact hh i (by simpa using hi) (by simpa using eb)
  .cases h
def eK(P:Program)(w0:World)(n:Nat)(U:Nat->Prop)(g:Gh)(S:av)(H:aD)(a:Act)(w:World)(o:Oper)(e:aQ):Prop:=
 ∃c w' g',((execOp a.eval o).run P w=.ok (.value c) w'\/((execOp a.eval o).run P w=.ok .skip w'/\c=undef))/\
  g'.base=g.base/\g'.old=g.old/\Rel P w0 n U g' (e.S S o.dst) (e.H H) (a.put o.dst c) w'
theorem eK.val (R:Rel P w0 n U g S H a w) {o:Oper} {v:AV} {c:Value} (hd:∀ t,o.dst=some t→t < n) (hr:(execOp a.eval o).run P w = .ok (.value c) w)
  (hv:RV g.Pr g.al w v c) (ho:∀loc,gR P w g loc v c):eK P w0 n U g S H a w o { v:=v }:=
 ⟨c,w,g,.inl hr,rfl,rfl,R.aT o.dst v c hd hv λ_ _=>ho _⟩
theorem kP(v:AV)(c:Value)(loc:Loc):gR P w g loc v.aG c:=gR.aG
theorem Si (R:Rel P w0 n U g S H a w) {o:Oper} {x:Operand} {y:eA} {tk:Bool} {e:aQ} (hd:∀ t,o.dst=some t→t < n∧¬ U t) (hx:eO n x=some y) (hu:∀ t∈y.tmps,¬ U t)
  (hr:(execOp a.eval o).run P w=.ok (.value (a.eval x)) w) (dZ:∀t,o.dst=some t->t∉y.tmps) (he:aH S H (.mv tk y)=some e):eK P w0 n U g S H a w o e:=by
 have hv:=R.ev hx hu
 cases tk with
 |false=>
  simp only[aH,adl,adz,adS]at he;subst he
  exact eK.val R (λt h=>(hd t h).1) hr hv.aG λloc=>kP _ _ _
 |true=>
  simp only[aH,adJ,adS]at he;subst he
  cases x with
  |const c=>
   simp only[eO,adr]at hx;obtain⟨v,hc,rfl⟩:=hx
   exact eK.val R (λt h=>(hd t h).1) hr hv λloc=>HD hc _ _ _ _
  |global k=>cases hx
  |func f=>cases hx;exact eK.val R (λt h=>(hd t h).1) hr hv λloc=>trivial
  |tmp t=>
   simp only[eO]at hx;split at hx
   case isFalse=>cases hx
   rename_i ht;cases hx;have Wl:=hu t (by simp[eA.tmps]);have ho:=R.own t ht Wl
   have R1:Rel P w0 n U g (ar S t (S t).aG) H a w:=R.weaken _ λk hk huk c si ho=>by
    by_cases h:k=t
    .subst h;rw[aS];exact⟨si.aG,kP _ _ _⟩
    .rw[bj _ _ h];exact⟨si,ho⟩
   cases lr:o.dst with
   |none=>
    refine⟨_,w,g,.inl hr,rfl,rfl,?_⟩;simpa[aQ.S,aQ.H,aT,bz,lr,Act.put]using R1
   |some d=>
    have hdt:d≠t:=λh=>dZ d lr (by simp[eA.tmps,h])
    have R2:=R1.P9 (.slot t) (some (.slot d)) (λk hk _ _=>by cases hk;rw[aS];exact AV.we _) (λi j cs h=>by cases h);have R3:=R2.put d (S t) (a.tmps.getD t undef) (hd d lr).1 (R.slot t ht Wl) ?own
    case own=>
     show gR P w _ (.slot d) (S t) (a.tmps.getD t undef);generalize S t=v at ho;generalize a.tmps.getD t undef=c at ho
     cases v<;>try trivial
     rename_i oo es
     cases oo with
     |view=>trivial
     |nil=>exact ho
     |own e=>
      obtain⟨i,xs,b,h1,h2,h3,h4,h5⟩:=ho;refine⟨i,xs,b,h1,h2,h3,?_,h5⟩;show(if g.owner b=some (.slot t)then some (.slot d)else g.owner b)=_;rw[if_pos h4]
    rw[<-lr]at R3;exact⟨_,w,{ g with owner:=λb=>if g.owner b=some (.slot t)then some (.slot d)else g.owner b },.inl hr,rfl,rfl,by rw[lr]at R3⊢;exact R3⟩
def eS:TypeDesc->Bool
 |.struct _|.array _ _=>true
 |_=>false
theorem Bg {Pr:Nat→Nat→Prop} {al:Nat→Option Nat} {ty:TypeId} {i:TypeInfo} {va:TypeDesc} (hi:P.info? ty=some i) (hu:P.underlying ty=some va) {b off:Nat} {cs:List AV} {vs:Nat→Value} {v:AV}
  (hc:∀k,k<cs.length->w.cell? ⟨b,off+k,none⟩=some (vs k)) (h1:∀k (h:k<cs.length),(cs[k]).one=true) (hr:∀k (h:k<cs.length),RD Pr w cs[k] (vs k))
  (he:b0 (eS va) i.size cs=some v):
  ∃c,(loadVar ty ⟨b,off,none⟩).run P w=.ok c w/\RD Pr w v c/\v.aG=v:=by
 have oU:(isAgg ty).run P w=.ok (eS va) w:=by
  unfold isAgg;rw[ads,adH hu w]
  cases va<;>simp[eS]
 generalize eS va=q at he oU
 cases q with
 |true=>
  simp only[b0,adJ]at he;split at he
  case isFalse=>cases he
  rename_i hl;cases he
  have MA:(loadCells ⟨b,off,none⟩ i.size).run P w=.ok ((List.range i.size).map vs).toArray w:=
   run_loadCells (P:=P) w _ _ vs λj hj=>by rw[aev];exact hc j (by omega)
  refine⟨.agg ((List.range i.size).map vs).toArray,by simp[loadVar,ads,oU,sizeOf,typeInfo,hi,MA],?_,rfl⟩
  refine .agg _ _ (by simp;omega) (λk hk=>?_) λk hk dP=>?_
  .simp only[adi,adM]at hk;simp only[adp,afk];rw[AV.uV];exact h1 k (by omega)
  .simp only[adi,adM]at hk;have:=(hr k (by omega)).aG;simpa using this
 |false=>
  simp only[b0,adl,adz,adr]at he;obtain⟨v0,hv0,rfl⟩:=he;obtain⟨h0,rfl⟩:=adE.1 hv0;have:=hc 0 h0;simp only[Nat.add_zero]at this;exact⟨vs 0,by simp[loadVar,ads,oU,this],(hr 0 h0).aG,AV.idem _⟩
set_option linter.unusedVariables false in
theorem FB (R:Rel P w0 n U g S H a w) {o:Oper} {hr:HR} {ty:TypeId} {i:TypeInfo} {va:TypeDesc} {x:Operand} {y:eA} {e:aQ} (ho:o.op = .load ty x) (hd:∀ t,o.dst=some t→t < n∧¬ U t)
  (hi:P.info? ty=some i) (gE:P.underlying ty=some va) (hx:eO n x=some y) (hu:∀t∈y.tmps,¬U t)
  (he:aH S H (.load hr (eS va) i.size y)=some e):eK P w0 n U g S H a w o e:=by
 have hv:=R.ev hx hu
 have fin:∀{v:AV}{b off:Nat},a.eval x=.pointer (some ⟨b,off,none⟩)->(∃c,(loadVar ty ⟨b,off,none⟩).run P w=.ok c w/\RD g.Pr w v c/\v.aG=v)->eK P w0 n U g S H a w o { v:=v }:=by
  rintro v b off hx ⟨c,h1,h2,h3⟩
  refine eK.val R (λt h=>(hd t h).1) (c:=c) ?_ (.data _ _ h2) λloc=>by rw[<-h3];exact kP _ _ _
  unfold execOp;simp[ho,hx,Instr.loadAt,Instr.sureAddr,h1]
 simp only[aH]at he;generalize y9:AL.ev S y=q at he hv;generalize sk:a.eval x=c at hv fin
 cases hv with
 |box j off b kK=>
  simp only at he;split at he
  case isFalse=>cases he
  obtain⟨cs,vs,FY,k1,k2,k3,k4,k5,k6,k7,k8,k9⟩:=R.box j b kK;simp only[k1,adr]at he;obtain⟨v,hv,rfl⟩:=he;refine fin rfl (Bg (Pr:=g.Pr) (al:=g.al) hi gE (vs:=λk=>vs.getD (off+k) undef) (λk hk=>?_) (λk hk=>?_) (λk hk=>?_) hv)
  .simp only[ad8]at hk
   have:off+k<vs.size:=by omega
   simp[World.cell?,k3,this]
  .simp only[ad8]at hk;simp only[aeW];exact k9 (off+k) (by omega)
  .simp only[ad8]at hk;simp only[aeW];have hh:=k7 (off+k) (by omega) (by omega)
   have:off+k<vs.size:=by omega
   simpa[this]using hh
 |data v c h=>
  cases h<;>simp only at he<;>try cases he
  rename_i cs b off vs h1 hc hr;simp only[adr]at he;obtain⟨v,hv,rfl⟩:=he;exact fin rfl (Bg (Pr:=g.Pr) (al:=g.al) hi gE (vs:=vs) (λk hk=>(hc k hk).2) h1 hr hv)
 |func=>cases he
 |j0=>cases he
 |br c=>cases he
end
section
variable{P:Program}{w0:World}{n:Nat}{U:Nat->Prop}{g:Gh}{S:av}{H:aD}{a:Act}{w:World}
theorem UG (R:Rel P w0 n U g S H a w) {o:Oper} {x x1 x2:Operand} {y y1 y2:eA} {e:aQ} (ho:o.op = .pick x x1 x2) (hd:∀ t,o.dst=some t→t < n∧¬ U t)
  (hx:eO n x=some y) (qU:eO n x1=some y1) (pc:eO n x2=some y2) (hu:∀t∈y.tmps,¬U t) (vD:∀t∈y1.tmps,¬U t) (vN:∀t∈y2.tmps,¬U t)
  (he:aH S H (.pick y y1 y2)=some e):eK P w0 n U g S H a w o e:=by
 have hv:=R.ev hx hu;have iS:=R.ev qU vD;have ic:=R.ev pc vN;simp only[aH]at he;generalize y9:AL.ev S y=q at he hv;generalize sk:a.eval x=c at hv
 cases hv<;>(try cases he;done)
 rename_i h
 cases h<;>simp only at he<;>try cases he
 rename_i b
 refine eK.val R (λt h=>(hd t h).1) (c:=if b then a.eval x1 else a.eval x2) ?_ ?_ λloc=>kP _ _ _
 .simp[execOp,ho,sk,asBool]
 .cases b<;>simp only[adl,adJ,adz]
  .exact ic.aG
  .exact iS.aG
theorem WW (R:Rel P w0 n U g S H a w) {o:Oper} {t:TypeId} {x:Operand} {y:eA} {e:aQ} (ho:o.op = .unOp .not t x) (hd:∀ t,o.dst=some t→t < n∧¬ U t)
  (hx:eO n x=some y) (hu:∀t∈y.tmps,¬U t) (he:aH S H (.not y)=some e):eK P w0 n U g S H a w o e:=by
 have hv:=R.ev hx hu;simp only[aH]at he;generalize y9:AL.ev S y=q at he hv;generalize sk:a.eval x=c at hv
 cases hv<;>(try cases he;done)
 rename_i h
 cases h<;>simp only at he<;>try cases he
 rename_i b
 refine eK.val R (λt h=>(hd t h).1) (c:=.bool !b) ?_ (.data _ _ (.bool _)) λloc=>trivial
 simp[execOp,ho,sk,Op.unary]
def U8:Value->Bool
 |.nilIface|.agg _=>false
 |_=>true
theorem jR (op:BinOp) (t:TypeId) (x y:Operand) (c d:Value) (h:U8 c=true) :
  (eqGuard op t x y c d).run P w=.ok () w:=by
 unfold eqGuard
 cases op<;>(try rfl)<;>cases c<;>first|rfl|cases h
theorem NG (R:Rel P w0 n U g S H a w) {o:Oper} {op:BinOp} {t t':TypeId} {x1 x2:Operand} {y1 y2:eA} {e:aQ} (ho:o.op = .binOp op t x1 x2 t') (hd:∀ t,o.dst=some t→t < n∧¬ U t)
  (qU:eO n x1=some y1) (pc:eO n x2=some y2) (vD:∀t∈y1.tmps,¬U t) (vN:∀t∈y2.tmps,¬U t)
  (he:aH S H (.bin op y1 y2)=some e):eK P w0 n U g S H a w o e:=by
 have iS:=R.ev qU vD;have ic:=R.ev pc vN;simp only[aH,adr]at he;obtain⟨v,hb,rfl⟩:=he;generalize AL.ev S y1=q1 at hb iS;generalize AL.ev S y2=q2 at hb ic
 have fin:∀c,(eqGuard op t x1 x2 (a.eval x1) (a.eval x2)).run P w=.ok () w->(binOp op t (a.eval x1) (a.eval x2)).run P w=.ok c w->RD g.Pr w v c->(∀loc,gR P w g loc v c)->eK P w0 n U g S H a w o { v:=v }:=by
  intro c h0 h1 h2 h3;refine eK.val R (λt h=>(hd t h).1) (c:=c) ?_ (.data _ _ h2) h3;simp[execOp,ho,h0,h1]
 generalize a.eval x1=c1 at iS fin;generalize a.eval x2=c2 at ic fin;unfold dS at hb;split at hb
 .rename_i k p k' q;cases iS;rename_i iS;cases iS;cases ic;rename_i ic;cases ic;split at hb
  .cases hb
  .rename_i hk
   have hk:k=k':=by simpa using hk
   subst hk;have hg:=jR (P:=P) (w:=w) op t x1 x2 (.int k p) (.int k q) rfl
   split at hb<;>(try cases hb;done)<;>(try (split at hb;· cases hb))<;>cases hb
   case h_4.isFalse.refl h=>exact fin _ hg (by simp[binOp,Op.intDiv,h]) (.int _ _) λ_=>trivial
   case h_5.isFalse.refl h=>exact fin _ hg (by simp[binOp,Op.intDiv,h]) (.int _ _) λ_=>trivial
   case h_1.refl=>exact fin (.int k (k.wrap (p+q))) hg (by simp[binOp,Op.intArith]) (.int _ _) λ_=>trivial
   case h_2.refl=>exact fin (.int k (k.wrap (p-q))) hg (by simp[binOp,Op.intArith]) (.int _ _) λ_=>trivial
   case h_3.refl=>exact fin (.int k (k.wrap (p*q))) hg (by simp[binOp,Op.intArith]) (.int _ _) λ_=>trivial
   case h_6.refl=>exact fin (.bool (p==q)) hg (by simp[binOp,Op.intCmp]) (.bool _) λ_=>trivial
   case h_7.refl=>exact fin (.bool (p !=q)) hg (by simp[binOp,Op.intCmp]) (.bool _) λ_=>trivial
   all_goals exact fin (.bool _) hg (by simp[binOp,Op.intCmp]) (.bool _) λ_=>trivial
 .rename_i p q;cases iS;rename_i iS;cases iS;cases ic;rename_i ic;cases ic;have hg:=jR (P:=P) (w:=w) op t x1 x2 (.string ⟨p.toArray⟩) (.string ⟨q.toArray⟩) rfl
  split at hb<;>(try cases hb;done)
  .cases hb;exact fin (.bool (p==q)) hg (by simp[binOp,Op.stringOp]) (.bool _) λ_=>trivial
  .cases hb;exact fin (.bool (p !=q)) hg (by simp[binOp,Op.stringOp,bne]) (.bool _) λ_=>trivial
  .split at hb
   case isFalse=>cases hb
   rename_i hl;cases hb
   refine fin (.string ⟨(p++q).toArray⟩) hg ?_ (.str _) λ_=>trivial
   rw[binOp_string_add,run_string_add_sum w _ _ (by show p.length+q.length<=_;omega),ByteArray.mk_append_mk]
 .cases hb
theorem Nv (R:Rel P w0 n U g S H a w) {o:Oper} {neg:Bool} {t t':TypeId} {x1 x2:Operand} {y1 y2:eA} {e:aQ} (ho:o.op = .binOp (if neg then .neq else .eql) t x1 x2 t') (hd:∀ t,o.dst=some t→t < n∧¬ U t)
  (ht:P.underlying t=some .bool) (qU:eO n x1=some y1) (pc:eO n x2=some y2) (vD:∀t∈y1.tmps,¬U t) (vN:∀t∈y2.tmps,¬U t)
  (he:aH S H (.F2 neg y1 y2)=some e):eK P w0 n U g S H a w o e:=by
 have iS:=R.ev qU vD;have ic:=R.ev pc vN;simp only[aH]at he;generalize AL.ev S y1=q1 at he iS;generalize AL.ev S y2=q2 at he ic;generalize mO:a.eval x1=c1 at iS;generalize nF:a.eval x2=c2 at ic;split at he
 case h_2=>cases he
 rename_i p q;cases iS;rename_i iS;cases iS;cases ic;rename_i ic;cases ic;cases he;have hg:=jR (P:=P) (w:=w) (if neg then .neq else .eql) t x1 x2 (.bool p) (.bool q) rfl;have hE:(Op.equal t (.bool p) (.bool q)).run P w=.ok (p==q) w:=run_equalIn_bool' w _ t p q ht
 refine eK.val R (λt h=>(hd t h).1) (c:=.bool (if neg then p !=q else p==q)) ?_ (.data _ _ (.bool _)) λ_=>trivial
 cases neg
 .simp only[adl,adz]at ho hg⊢;simp[execOp,ho,mO,nF,hg,binOp,hE]
 .simp only[adJ]at ho hg⊢;simp[execOp,ho,mO,nF,hg,binOp,hE,bne]
theorem Tu (R:Rel P w0 n U g S H a w) {o:Oper} {s d:TypeId} {ds:TypeDesc} {k:IntKind} {x:Operand} {y:eA} {e:aQ} (ho:o.op = .convert s d x) (hd:∀ t,o.dst=some t→t < n∧¬ U t)
  (hs:P.underlying s=some ds) (hk:P.underlying d=some (.int k)) (hx:eO n x=some y) (hu:∀t∈y.tmps,¬U t) (he:aH S H (.conv k y)=some e):eK P w0 n U g S H a w o e:=by
 have hv:=R.ev hx hu;simp only[aH]at he;generalize y9:AL.ev S y=q at he hv;generalize sk:a.eval x=c at hv
 cases hv<;>(try cases he;done)
 rename_i h
 cases h<;>simp only at he<;>try cases he
 rename_i k' m
 refine eK.val R (λt h=>(hd t h).1) (c:=.int k (k.wrap m)) ?_ (.data _ _ (.int _ _)) λloc=>trivial
 simp[execOp,ho,sk,convert,adH hs,adH hk,Conv.intToInt]
theorem Rp (R:Rel P w0 n U g S H a w) {o:Oper} {t:TypeId} {dt:TypeDesc} {x:Operand} {y:eA} {e:aQ} (ho:o.op = .makeInterface t x) (hd:∀ t,o.dst=some t→t < n∧¬ U t)
  (ht:P.underlying t=some dt) (GU:∀ms,dt≠.interface ms) (hx:eO n x=some y) (hu:∀t∈y.tmps,¬U t) (he:aH S H (.iface t y)=some e):eK P w0 n U g S H a w o e:=by
 have hv:=R.ev hx hu;simp only[aH]at he;split at he
 case isFalse=>cases he
 rename_i jC;cases he
 refine eK.val R (λt h=>(hd t h).1) (c:=.iface t (a.eval x)) ?_ (.data _ _ (.iface _ _ _ (hv.fj (AV.nP jC)).vw)) λloc=>trivial
 simp only[execOp,ho,Instr.makeInterface,ads,adH ht,Result.andThen_ok]
 cases dt<;>first|rfl|exact absurd rfl (GU _)
theorem Js (R:Rel P w0 n U g S H a w) {o:Oper} {s:TypeId} {fs:Array Field} {f:Field} {i:TypeInfo} {j:Nat} {x:Operand} {y:eA} {e:aQ} (ho:o.op = .fieldAddr s x j) (hd:∀ t,o.dst=some t→t < n∧¬ U t)
  (hs:P.underlying s=some (.struct fs)) (hf:fs[j]?=some f) (hi:P.info? f.type=some i) (hz:i.size≠0) (hx:eO n x=some y) (hu:∀t∈y.tmps,¬U t)
  (he:aH S H (.fieldAddr f.offset y)=some e):eK P w0 n U g S H a w o e:=by
 have hv:=R.ev hx hu;simp only[aH]at he;generalize y9:AL.ev S y=q at he hv;generalize sk:a.eval x=c at hv
 have run:∀b off,c=.pointer (some ⟨b,off,none⟩)->(execOp a.eval o).run P w=.ok (.value (.pointer (some ⟨b,off+f.offset,none⟩))) w:=by
  rintro b off rfl;simp[execOp,ho,sk,Instr.fieldAt,adH hs,hf,Instr.sureAddr,fieldPlace,sizeOf,typeInfo,hi,hz,aev]
 cases hv with
 |box k off b kK=>
  cases he
  exact eK.val R (λt h=>(hd t h).1) (run _ _ rfl) (.box _ _ _ kK) λ_=>trivial
 |data v c h=>
  cases h<;>simp only at he<;>try cases he
  rename_i cs b off vs h1 hc hr
  refine eK.val R (λt h=>(hd t h).1) (run _ _ rfl) (.data _ _ (.ref _ _ _ (λk=>vs (f.offset+k)) (λk hk=>?_) (λk hk=>?_) λk hk=>?_)) λ_=>trivial
  .simp only[ad8]at hk;simp only[aeW];exact h1 _ (by omega)
  .simp only[ad8]at hk;have:=hc (f.offset+k) (by omega);rwa [show off+f.offset+k=off+(f.offset+k) by omega]
  .simp only[ad8]at hk;simp only[aeW];exact hr _ (by omega)
 |func=>cases he
 |j0=>cases he
 |br c=>cases he
theorem Jq (R:Rel P w0 n U g S H a w) {o:Oper} {s el:TypeId} {i:TypeInfo} {x1 x2:Operand} {y1 y2:eA} {e:aQ} (ho:o.op = .indexAddr s x1 x2) (hd:∀ t,o.dst=some t→t < n∧¬ U t)
  (hs:P.underlying s=some (.slice el)) (hi:P.info? el=some i) (qU:eO n x1=some y1) (pc:eO n x2=some y2) (vD:∀t∈y1.tmps,¬U t) (vN:∀t∈y2.tmps,¬U t)
  (he:aH S H (.indexAddr i.size y1 y2)=some e):eK P w0 n U g S H a w o e:=by
 have iS:=R.ev qU vD;have ic:=R.ev pc vN;simp only[aH]at he;generalize AL.ev S y1=q1 at he iS;generalize AL.ev S y2=q2 at he ic;generalize mO:a.eval x1=c1 at iS;generalize nF:a.eval x2=c2 at ic;split at he
 case h_2=>cases he
 rename_i oo es k;cases ic;rename_i ic;cases ic;split at he
 case isFalse=>cases he
 rename_i hk;split at he
 case h_2=>cases he
 rename_i v hv;split at he
 case isFalse=>cases he
 rename_i bq;cases he;obtain⟨au,rfl⟩:=adE.1 hv;cases iS;rename_i iS
 cases iS with
 |jU=>simp at au
 |kV=>simp at au
 |slice _ _ b off cap size cs fF tC oq h1 hc hr=>
  have hss:size=i.size:=by rw[<-oq _ au];exact bq
  subst hss
  have iQ:k<(es.length:Int):=by omega
  have jJ:∀q,q<(es[k.toNat]).cells.length->k.toNat*i.size+q<es.length*i.size:=by
   intro q hq;rw[bq]at hq
   calc k.toNat*i.size+q<k.toNat*i.size+i.size:=by omega
    _=(k.toNat+1)*i.size:=by rw[agJ]
    _<=es.length*i.size:=aeK _ (by omega)
  refine eK.val R (λt h=>(hd t h).1) (c:=.pointer (some ⟨b,off+k.toNat*i.size,none⟩)) ?_ (.data _ _ (.ref _ _ _ (λq=>cs (k.toNat*i.size+q)) (λq hq=>h1 _ au q hq) (λq hq=>?_) λq hq=>hr _ au q hq)) λ_=>trivial
  .simp[execOp,ho,mO,nF,Instr.indexAt,asIntOf,adH hs,hk,iQ,sizeOf,typeInfo,hi,aev]
  .have:=hc (k.toNat*i.size+q) (jJ q hq);rwa [<-afJ]at this
theorem PQ (R:Rel P w0 n U g S H a w) {o:Oper} {s:TypeId} {x1 x2:Operand} {y1 y2:eA} {e:aQ} (ho:o.op = .index s x1 x2) (hd:∀ t,o.dst=some t→t < n∧¬ U t)
  (hs:P.underlying s=some .string) (qU:eO n x1=some y1) (pc:eO n x2=some y2) (vD:∀t∈y1.tmps,¬U t) (vN:∀t∈y2.tmps,¬U t)
  (he:aH S H (.pF y1 y2)=some e):eK P w0 n U g S H a w o e:=by
 have iS:=R.ev qU vD;have ic:=R.ev pc vN;simp only[aH]at he;generalize AL.ev S y1=q1 at he iS;generalize AL.ev S y2=q2 at he ic;generalize mO:a.eval x1=c1 at iS;generalize nF:a.eval x2=c2 at ic;split at he
 case h_2=>cases he
 rename_i l k;cases ic;rename_i ic;cases ic;split at he
 case isFalse=>cases he
 rename_i hk;split at he
 case h_2=>cases he
 rename_i v hv;cases he;cases iS;rename_i iS;cases iS
 have hb:(⟨l.toArray⟩:ByteArray)[k.toNat]?=some v:=by
  obtain⟨au,rfl⟩:=adE.1 hv;rw[ByteArray.getElem?_lt' _ _ (by simpa[ByteArray.size]using au)]
  rfl
 refine eK.val R (λt h=>(hd t h).1) (c:=.int .u8 v.toNat) ?_ (.data _ _ (.int _ _)) λ_=>trivial
 simp[execOp,ho,mO,nF,Instr.index,asIntOf,adH hs,hk,hb]
theorem Na (R:Rel P w0 n U g S H a w) {o:Oper} {j:Nat} {x:Operand} {y:eA} {e:aQ} (ho:o.op = .extract x j) (hd:∀ t,o.dst=some t→t < n∧¬ U t)
  (hx:eO n x=some y) (hu:∀t∈y.tmps,¬U t) (he:aH S H (.extract y j)=some e):eK P w0 n U g S H a w o e:=by
 have hv:=R.ev hx hu;simp only[aH]at he;generalize y9:AL.ev S y=q at he hv;generalize sk:a.eval x=c at hv
 cases hv<;>(try cases he;done)
 rename_i h
 cases h<;>simp only at he<;>try cases he
 rename_i cs vs hl hr;simp only[adr]at he;obtain⟨v,hv,rfl⟩:=he;obtain⟨au,rfl⟩:=adE.1 hv
 have jN:j<vs.size:=by omega
 refine eK.val R (λt h=>(hd t h).1) (c:=vs[j]) ?_ (.data _ _ (hr j au jN).aG) λloc=>kP _ _ _
 simp[execOp,ho,sk,Instr.extract,jN]
theorem NH (R:Rel P w0 n U g S H a w) {o:Oper} {cl:Call} {s:TypeId} {ds:TypeDesc} {x:Operand} {y:eA} {e:aQ} (ho:o.op = .call cl) (ni:cl.callee = .builtin .len) (Jj:cl.args = #[x]) (vH:cl.argTypes = #[s])
  (hd:∀t,o.dst=some t->t<n/\¬U t) (hs:P.underlying s=some ds) (hx:eO n x=some y) (hu:∀t∈y.tmps,¬U t)
  (he:(ds=.string/\aH S H (.yK y)=some e)\/((∃el,ds=.slice el)/\aH S H (.j6 y)=some e)):eK P w0 n U g S H a w o e:=by
 have hv:=R.ev hx hu;simp only[aH]at he;generalize y9:AL.ev S y=q at he hv;generalize sk:a.eval x=c at hv
 have fin:∀(m:Nat),(Builtin.len_ #[s] o.type #[c]).run P w=.ok (.int .i64 m) w->eK P w0 n U g S H a w o { v:=.int .i64 m }:=by
  intro m hm
  refine eK.val R (λt h=>(hd t h).1) (c:=.int .i64 m) ?_ (.data _ _ (.int _ _)) λ_=>trivial
  unfold execOp;simp[ho,ni,Jj,vH,resolve,invoke,builtin,sk,hm]
 rcases he with⟨rfl,he⟩|⟨⟨el,rfl⟩,he⟩
 .cases hv<;>(try cases he;done)
  rename_i h
  cases h<;>simp only at he<;>try cases he
  exact fin _ (by simp[Builtin.len_,adH hs,goInt];rfl)
 .cases hv<;>(try cases he;done)
  rename_i h
  cases h<;>simp only at he<;>try cases he
  .exact fin 0 (by simp[Builtin.len_,adH hs,goInt])
  .exact fin 0 (by simp[Builtin.len_,adH hs,goInt])
  .exact fin _ (by simp[Builtin.len_,adH hs,goInt])
theorem Gd (R:Rel P w0 n U g S H a w) {o:Oper} {cl:Call} {x1 x2:Operand} {y1 y2:eA} {e:aQ} (ho:o.op = .call cl) (Jj:cl.args = #[x1,x2])
  (hd:∀t,o.dst=some t->t<n/\¬U t) (qU:eO n x1=some y1) (pc:eO n x2=some y2) (vD:∀t∈y1.tmps,¬U t) (vN:∀t∈y2.tmps,¬U t)
  (he:(cl.callee=.builtin .max/\aH S H (.max y1 y2)=some e)\/(cl.callee=.builtin .min/\aH S H (.min y1 y2)=some e)):eK P w0 n U g S H a w o e:=by
 have iS:=R.ev qU vD;have ic:=R.ev pc vN;simp only[aH]at he;generalize AL.ev S y1=q1 at he iS;generalize AL.ev S y2=q2 at he ic;generalize mO:a.eval x1=c1 at iS;generalize nF:a.eval x2=c2 at ic
 rcases he with⟨ni,he⟩|⟨ni,he⟩
 all_goals
  split at he
  case h_2=>cases he
  rename_i p q;cases iS;rename_i iS;cases iS;cases ic;rename_i ic;cases ic;cases he
 .refine eK.val R (λt h=>(hd t h).1) (c:=.int .i64 (max p q)) ?_ (.data _ _ (.int _ _)) λ_=>trivial
  have:(if q>p then q else p)=max p q:=by split<;>omega
  simp[execOp,ho,ni,Jj,resolve,invoke,builtin,mO,nF,Builtin.max_,Builtin.max2,this]
 .refine eK.val R (λt h=>(hd t h).1) (c:=.int .i64 (min p q)) ?_ (.data _ _ (.int _ _)) λ_=>trivial
  have:(if q<p then q else p)=min p q:=by split<;>omega
  simp[execOp,ho,ni,Jj,resolve,invoke,builtin,mO,nF,Builtin.min_,Builtin.min2,this]
end
def vh(Pr:Nat->Nat->Prop)(w:World)(cs:List AV)(vs:Array Value):Prop:=
 cs.length=vs.size/\(∀i (h:i<cs.length)(h':i<vs.size),RD Pr w cs[i] vs[i])/\∀i (h:i<cs.length),(cs[i]).one=true
theorem RD.rds{Pr:Nat->Nat->Prop}{w:World}{v:AV}{c:Value}(h:RD Pr w v c)(hs:v.storable=true):vh Pr w v.cells c.cells:=
 ⟨h.cells.1,h.cells.2,h.cells_one hs⟩
theorem AV.yl{v:AV}:v.aG.storable=v.storable:=by
 cases v<;>try rfl
 rename_i o es;cases o<;>rfl
theorem AV.Gv{v:AV}:v.aG.cells.length=v.cells.length:=by
 cases v<;>try rfl
 rename_i o es;cases o<;>rfl
theorem AV.P6{v:AV}:v.vw.storable=v.storable:=by cases v<;>rfl
theorem AV.It{v:AV}:v.vw.cells.length=v.cells.length:=by cases v<;>simp[AV.vw,AV.bH,AV.cells]
theorem lA (Pr:Nat→Nat→Prop) (w:World):∀ {vs:List Value} {cs:List AV},l7 vs=some cs→vh Pr w cs vs.toArray∧(∀ v∈cs,v.qQ) ∧
  ∀(P:Program)(g:Gh)(f:Nat->Loc) i (h:i<cs.length)(h':i<vs.length),gR P w g (f i) cs[i] vs[i]
 |[],cs,h=>by cases h;exact⟨⟨rfl,λi h=>by simp at h,λi h=>by simp at h⟩,λv h=>by simp at h,λP g f i h=>by simp at h⟩
 |v::vs,cs,h=>by
  simp only[l7]at h;split at h
  .rename_i x xs hx o_;split at h
   case isFalse=>cases h
   rename_i jC;cases h;obtain⟨⟨h1,h2,h3⟩,h4,h5⟩:=lA Pr w o_;have hd:RD Pr w x v:=(RN Pr (λ_=>none) w hx).fj (AV.nP jC);refine⟨⟨by simp at h1⊢;exact h1,λi hi eb=>?_,λi hi=>?_⟩,λy hy=>?_,λP g f i hi eb=>?_⟩
   .cases i with
    |zero=>exact hd
    |succ i=>exact h2 i (by simpa using hi) (by simpa using eb)
   .cases i with
    |zero=>
     show x.one=true;unfold sG at hx
     split at hx<;>first|cases hx|skip
     all_goals rfl
    |succ i=>exact h3 i (by simpa using hi)
   .simp at hy;rcases hy with rfl|hy
    .exact IW hx
    .exact h4 y hy
   .cases i with
    |zero=>exact HD hx _ _ _ _
    |succ i=>exact h5 P g (λi=>f (i+1)) i (by simpa using hi) (by simpa using eb)
  .cases h
theorem Ma{cs vs:List AV}{off:Nat}(h:off+vs.length<=cs.length):(bo cs off vs).length=cs.length:=by
 simp[bo];omega
theorem Bs {cs vs:List AV} {off:Nat} (h:off+vs.length≤cs.length) (i:Nat) :
  (bo cs off vs)[i]?=if off<=i/\i<off+vs.length then vs[i-off]? else cs[i]?:=by
 unfold bo
 by_cases h1:i<off
 .rw[if_neg (by omega),aef,aem (by simp;omega)];simp[h1]
 .by_cases h2:i<off+vs.length
  .rw[if_pos ⟨by omega,h2⟩,aem (by simp;omega),aeA (by simp;omega)]
   congr 1
   simp;omega
  .rw[if_neg (by omega),aeA (by simp;omega)];simp only[afr]
   congr 1
   simp;omega
theorem vh.get{Pr:Nat->Nat->Prop}{w:World}{cs:List AV}{vs:Array Value}(h:vh Pr w cs vs){i:Nat}{v:AV}{c:Value}(hv:cs[i]?=some v)(hc:vs[i]?=some c):RD Pr w v c:=by
 obtain⟨h1,rfl⟩:=adE.1 hv;obtain⟨h2,rfl⟩:=ade.1 hc;exact h.2.1 i h1 h2
theorem vh.one{Pr:Nat->Nat->Prop}{w:World}{cs:List AV}{vs:Array Value}(h:vh Pr w cs vs){i:Nat}{v:AV}(hv:cs[i]?=some v):v.one=true:=by
 obtain⟨h1,rfl⟩:=adE.1 hv;exact h.2.2 i h1
theorem vh.mk'{Pr:Nat->Nat->Prop}{w:World}{cs:List AV}{vs:Array Value}(h:cs.length=vs.size)(hr:∀(i:Nat)(v:AV)(c:Value),cs[i]?=some v->vs[i]?=some c->RD Pr w v c)(h1:∀(i:Nat)(v:AV),cs[i]?=some v->v.one=true):vh Pr w cs vs:=
 ⟨h,λi hi eb=>hr i _ _ (ac_ hi) (aej eb),λi hi=>h1 i _ (ac_ hi)⟩
theorem vh.bo {Pr:Nat→Nat→Prop} {w:World} {cs vs:List AV} {xs ys:Array Value} {off:Nat} (h:vh Pr w cs xs) (hv:vh Pr w vs ys) (hl:off+vs.length≤cs.length)
  (zs:Array Value) (hz:zs.size=xs.size) (iJ:∀k,zs[k]?=if off<=k/\k<off+ys.size then ys[k-off]? else xs[k]?):vh Pr w (bo cs off vs) zs:=by
 have iS:=hv.1;have h1:=h.1;refine vh.mk' (by rw[Ma hl,hz];exact h.1) (λi v c e1 e2=>?_) (λi v e1=>?_)
 .rw[Bs hl]at e1;rw[iJ]at e2;rw[<-iS]at e2;split at e1
  .rename_i hh;rw[if_pos hh]at e2;exact hv.get e1 e2
  .rename_i hh;rw[if_neg hh]at e2;exact h.get e1 e2
 .rw[Bs hl]at e1;split at e1
  .exact hv.one e1
  .exact h.one e1
def AB(n:Nat)(place:Nat->Option (Nat×Nat)):List (Nat×Operand)->Option (List (Nat×Nat×eA))
 |[]=>some []
 |(i,x)::rest=>match place i,eO n x,AB n place rest with
  |some (off,size),some y,some r=>some ((off,size,y)::r)
  |_,_,_=>none
section
variable{P:Program}{w0:World}{n:Nat}{U:Nat->Prop}{g:Gh}{S:av}{H:aD}{a:Act}{w:World}
theorem Dt (R:Rel P w0 n U g S H a w) {place:Nat→Option (Nat×Nat)}:∀ {ps:List (Nat×Operand)} {qs:List (Nat×Nat×eA)},AB n place ps=some qs →
  (∀q∈qs,∀t∈q.2.2.tmps,¬U t)->∀{cs gM:List AV}{vs:Array Value},vh g.Pr w cs vs->bI cs (qs.map λ(o,s,x)=>(o,s,ev S x))=some gM->
  ∃pJ,Instr.fill place vs (ps.map λ(i,x)=>(i,a.eval x))=some pJ/\vh g.Pr w gM pJ
 |[],qs,h,_,cs,gM,vs,hr,he=>by
  cases h;simp only[adO,bI,adS]at he;subst he;exact⟨vs,rfl,hr⟩
 |(i,x)::ps,qs,h,hu,cs,gM,vs,hr,he=>by
  simp only[AB]at h;split at h
  case h_2=>cases h
  rename_i off size y r hp hx jm;cases h;simp only[adC,bI]at he;split at he
  case isFalse=>cases he
  rename_i hc;obtain⟨mO,nF,hc3⟩:=hc;have hv:=(R.ev hx (hu _ adt)).fj (AV.nP hc3);have hvd:=hv.aG.rds (by rw[AV.yl];exact hc3)
  have bq:(a.eval x).cells.size=size:=by rw[<-hv.cells.1];exact mO
  have ni:cs.length=vs.size:=hr.1;obtain⟨k1,k2⟩:=Great.foldl_set off (a.eval x).cells.toList 0 vs
  have jE:=hr.bo (off:=off) hvd (by rw[AV.Gv,mO];exact nF)
   (((a.eval x).cells.toList.zipIdx 0).foldl (λcs (x:Value×Nat)=>cs.setIfInBounds (off+x.2) x.1) vs) k1 (λk=>by
    rw[k2 k];simp only[Nat.add_zero,Array.length_toList,aeH]
    by_cases jJ:off<=k/\k<off+(a.eval x).cells.size
    .rw[if_pos jJ,if_pos ⟨jJ.1,jJ.2,by omega⟩]
    .rw[if_neg jJ,if_neg (by omega)])
  obtain⟨pJ,e1,e2⟩:=Dt R jm (λq hq=>hu q (ado _ hq)) jE he;refine⟨pJ,?_,e2⟩;simp only[adC,Instr.fill,hp];rw[if_neg (by simp;omega)];rw[<-e1]
  congr 1
  rw[<-Array.foldl_toList,Array.toList_zipIdx]
theorem Qw (R:Rel P w0 n U g S H a w) {o:Oper} {t:TypeId} {it:TypeInfo} {fs:Array Field} {z:Value} {places:List (Nat×Nat)} {zs:List AV} {ps:Array (Nat×Operand)} {qs:List (Nat×Nat×eA)} {e:aQ}
  (ho:o.op=.build t ps) (hd:∀t,o.dst=some t->t<n/\¬U t) (hi:P.info? t=some it) (gE:P.underlying t=some (.struct fs)) (hz:it.zero=some z)
  (Nd:fs.toList.mapM (λf=>(P.info? f.type).map λi=>(f.offset,i.size))=some places) (vS:l7 z.cells.toList=some zs) (hq:AB n (places[·]?) ps.toList=some qs)
  (hu:∀q∈qs,∀t∈q.2.2.tmps,¬U t) (he:aH S H (.build (zs.map AV.aG) qs)=some e):eK P w0 n U g S H a w o e:=by
 simp only[aH,adr]at he;obtain⟨gM,hc,rfl⟩:=he;have TR:=(lA g.Pr w vS).1
 have SM:vh g.Pr w (zs.map AV.aG) z.cells:=by
  refine⟨by simpa using TR.1,λi h h'=>?_,λi h=>?_⟩
  .simp only[adi]at h;have:=(TR.2.1 i h (by simpa using h')).aG;simpa using this
  .simp only[adi]at h;have:=TR.2.2 i h;simp only[adp];exact(AV.uV _).trans this
 obtain⟨pJ,h1,h2⟩:=Dt R hq hu SM hc
 have hb:P.built t (ps.map λ(i,x)=>(i,a.eval x)).toList=some pJ:=by
  unfold Program.built;simp only[hi,gE,hz,Nd,agI];rw[<-h1]
  congr 1
  funext i
  simp
 refine eK.val R (λt h=>(hd t h).1) (c:=.agg pJ) ?_ (.data _ _ (.agg _ _ h2.1 h2.2.2 h2.2.1)) λ_=>trivial
 unfold execOp;simp only[ho,ads,agZ w t _ pJ hb,Result.andThen_ok]
 rfl
theorem WD (R:Rel P w0 n U g S H a w) {o:Oper} {fn:Fn} {f1 c1:Array Operand} {f2 c2:List eA} {e:aQ} (ho:o.op = .makeFunc fn f1 c1) (hd:∀ t,o.dst=some t→t < n∧¬ U t)
  (hf:vx n f1.toList=some f2) (hc:vx n c1.toList=some c2) (huf:∀y∈f2,∀t∈y.tmps,¬U t) (huc:∀y∈c2,∀t∈y.tmps,¬U t) (he:aH S H (.GO fn f2 c2)=some e):eK P w0 n U g S H a w o e:=by
 simp only[aH,adS]at he;subst he;obtain⟨l1,r1⟩:=R.Sm hf huf;obtain⟨l2,r2⟩:=R.Sm hc huc
 refine eK.val R (λt h=>(hd t h).1) (c:=.func fn (f1.map a.eval) (c1.map a.eval)) ?_ ?_ λ_=>trivial
 .simp[execOp,ho,Instr.makeFunc]
 .refine .func fn _ _ _ _ (by simpa using l1) (by simpa using l2) (λi h h'=>?_) (λi h h'=>?_)
  .simp only[adi,Array.size_map]at h h';have:=(r1 i h (by simpa using h')).aG;simpa using this
  .simp only[adi,Array.size_map]at h h';have:=(r2 i h (by simpa using h')).aG;simpa using this
theorem Rel.newRow (R:Rel P w0 n U g S H a w) (d:Option Nat) (hd:∀ t,d=some t→t < n∧¬ U t) (el:TypeId) (i:TypeInfo) (hi:P.info? el=some i) (es:List AV) (cells:Array Value)
  (bq:∀j (h:j<es.length),(es[j]).cells.length=i.size) (jC:∀j (h:j<es.length),(es[j]).storable=true) (hl:cells.size=es.length*i.size) (hlen:es.length<=maxLen)
  (hr:∀j (h:j<es.length),∃c,RD g.Pr w es[j] c/\∀k u,c.cells[k]?=some u->cells[j*i.size+k]?=some u):
  ∃g',g'.base=g.base/\g'.old=g.old/\Rel P w0 n U g' (Go.AL.aT S d (.slice (.own el) es)) H (a.put d (.slice (some ⟨w.heap.size,0,none⟩) es.length es.length)) (w.alloc (.cells cells el)):=by
 have hb:Below w.heap.size w (w.alloc (.cells cells el)):=(aeb _ _).alloc (adh _) _
 have hle:g.base<=w.heap.size:=by rw[R.base];exact R.below.size
 let g':Gh:={ g with hi:=ar g.hi w.heap.size (es.length*i.size),owner:=ar g.owner w.heap.size (d.map .slot) }
 have R':Rel P w0 n U g' S H a (w.alloc (.cells cells el)):=R.grow (g':=g') hb rfl rfl rfl
  (λb hb=>⟨bj _ _ (by omega),bj _ _ (by omega)⟩)
  (λb hb=>by
   have kg:w.heap.size+1<=b:=by simpa using hb
   exact⟨(bj _ _ (by omega)).trans (R.fresh b (by omega)).1,(bj _ _ (by omega)).trans (R.fresh b (by omega)).2⟩)
 have wO:∀k,k<es.length*i.size->g'.Pr w.heap.size k:=λk hk=>.inr ⟨hle,by show k<ar g.hi _ _ _;rw[aS];exact hk⟩
 have acy:bl g.Pr g'.Pr w (w.alloc (.cells cells el)):=by
  refine bl.iY (λb au=>hb.block b au) λb k au hp=>?_
  unfold Gh.Pr at*
  show(b<g.base/\g.old.c b k)\/(g.base<=b/\k<ar g.hi _ _ b)
  rw[bj _ _ (by omega)];exact hp
 refine⟨g',rfl,rfl,R'.aT d _ _ (λt h=>(hd t h).1) (.data _ _ ?_) ?_⟩
 .refine .slice _ es w.heap.size 0 es.length i.size (λk=>cells.getD k undef) (adh _) (λh=>by cases h) bq (λj h k hk=>?_) (λk hk=>⟨by rw[ad3];exact wO k hk,?_⟩) (λj h k hk=>?_)
  .obtain⟨c,h1,h2⟩:=hr j h;exact h1.cells_one (jC j h) k hk
  .simp[hl,hk]
  .obtain⟨c,h1,h2⟩:=hr j h
   have dP:k<c.cells.size:=by rw[<-h1.cells.1];exact hk
   have:cells.getD (j*i.size+k) undef=c.cells[k]:=by simp[h2 k _ (aej dP)]
   rw[this];exact(h1.cells.2 k hk dP).mono acy
 .intro t ht;subst ht;refine⟨i,cells.toList,w.heap.size,hi,⟨by simp[hl],.inr ⟨w.heap.size,es.length,cells,rfl,hle,agM w _,adh _,hlen,hl,?_⟩⟩,rfl,?_,?_⟩
  .exact adn (by simp[hl])
  .show ar g.owner _ _ _=_;rw[aS];rfl
  .show ar g.hi _ _ _=_;rw[aS]
theorem HP (R:Rel P w0 n U g S H a w) {o:Oper} {t el:TypeId} {i:TypeInfo} {z:Value} {len:Nat} {ps:Array (Nat×Operand)} {xs:List Operand} {ys:List eA} {e:aQ}
  (ho:o.op=.buildSlice t len ps) (hd:∀t,o.dst=some t->t<n/\¬U t) (gE:P.underlying t=some (.slice el)) (hi:P.info? el=some i) (hz:i.zero=some z) (gf:0<i.size)
  (jm:ps.toList=(xs.zipIdx 0).map λx=>(x.2,x.1)) (hlen:xs.length=len) (hlz:0<len) (hx:vx n xs=some ys) (hu:∀y∈ys,∀t∈y.tmps,¬U t)
  (he:aH S H (.buildSlice t el i.size ys)=some e):eK P w0 n U g S H a w o e:=by
 simp only[aH]at he;split at he
 case isFalse=>cases he
 rename_i hc;cases he;simp only[adb,adf]at hc;obtain⟨mO,nF⟩:=hc;simp only[aJ,adu,adb,adX]at mO;obtain⟨l1,r1⟩:=R.Sm hx hu
 have sV:ys.length=len:=by omega
 have hR:∀j (h:j<ys.length),RD g.Pr w (AL.ev S ys[j]) ((xs.map a.eval)[j]'(by simp;omega))/\(AL.ev S ys[j]).cells.length=i.size/\(AL.ev S ys[j]).storable=true:=by
  intro j h;have hm:=mO (AL.ev S ys[j]) (adx.2 ⟨_,ada h,rfl⟩);refine⟨?_,hm.2,hm.1⟩;have:=(r1 j h (by omega)).fj (AV.nP hm.1);simpa using this
 have vi:∀v∈xs.map a.eval,v.cells.size=i.size:=by
  intro v hv;obtain⟨j,hj,rfl⟩:=adG hv;simp only[adi]at hj;obtain⟨h1,h2,h3⟩:=hR j (by omega);rw[<-h1.cells.1];exact h2
 have acZ:((Array.range (len*i.size)).map (z.cells[· % z.cells.size]!)).size=len*i.size:=by simp
 have TA:=Great.fill_whole gf (xs.map a.eval) ((Array.range (len*i.size)).map (z.cells[· % z.cells.size]!)) vi (by rw[acZ];simp[hlen])
 have O0:(ps.map λ(i,x)=>(i,a.eval x)).toList=((xs.map a.eval).zipIdx 0).map λx=>(x.2,x.1):=by
  rw[agI,jm];simp[List.zipIdx_map]
 have dv:=run_buildSlice (P:=P) w t el len (ps.map λ(i,x)=>(i,a.eval x)) ((xs.map a.eval).flatMap λv=>v.cells.toList).toArray i z gE hi hz (by rw[sV]at nF;omega)
  (by have:=Nat.mul_pos hlz gf;omega) (by rw[O0];exact TA)
 have Vp:=Great.flat_get gf (xs.map a.eval) vi
 obtain⟨g',e1,e2,R'⟩:=R.newRow o.dst hd el i hi ((ys.map (AL.ev S)).map AV.vw) ((xs.map a.eval).flatMap λv=>v.cells.toList).toArray
  (λj h=>by simp only[adi]at h;simp only[adp,AV.It];exact(hR j h).2.1)
  (λj h=>by simp only[adi]at h;simp only[adp,AV.P6];exact(hR j h).2.2)
  (by
   simp only[af9,adi]
   have hh:∀(l:List Value),(∀v∈l,v.cells.size=i.size)->(l.flatMap λv=>v.cells.toList).length=l.length*i.size:=by
    intro l
    induction l with
    |nil=>simp
    |cons v l ih=>intro h;simp only[aex,adq,List.length_cons,Array.length_toList,h v adt,ih (λu hu=>h u (ado _ hu)),agJ];omega
   rw[hh _ vi,adi,l1])
  (by simp only[adi];have:=Nat.le_mul_of_pos_right ys.length gf;unfold maxLen;omega)
  (λj h=>by
   simp only[adi]at h;obtain⟨h1,h2,h3⟩:=hR j h
   have dY:j<(xs.map a.eval).length:=by simp;omega
   refine⟨(xs.map a.eval)[j],by simpa using h1.vw,λk u hk=>?_⟩
   have dP:k<i.size:=by
    rw[<-vi _ (ada dY)];exact(ade.1 hk).1
   simp only[ag1];rw[Vp,show(j*i.size+k)/i.size=j by rw[ae7,Nat.mul_add_div gf,agU dP,Nat.add_zero],show(j*i.size+k) % i.size=k by rw[ae7,Nat.mul_add_mod,Nat.mod_eq_of_lt dP],ac_ dY]
   exact hk)
 refine⟨.slice (some ⟨w.heap.size,0,none⟩) len len,w.alloc (.cells ((xs.map a.eval).flatMap λv=>v.cells.toList).toArray el),g',.inl ?_,e1,e2,?_⟩
 .unfold execOp;simp only[ho,ads,dv,Result.andThen_ok]
  rfl
 .have:((ys.map (AL.ev S)).map AV.vw).length=len:=by simp[sV]
  rw[this]at R';exact R'
end
section
variable{P:Program}{w0:World}{n:Nat}{U:Nat->Prop}{g:Gh}{S:av}{H:aD}{a:Act}{w:World}
def Yf(S:av)(y:eA):av:=match bz y with|some t=>ar S t (S t).aG|none=>S
theorem Rel.take (R:Rel P w0 n U g S H a w) {x:Operand} {y:eA} (hx:eO n x=some y) (hu:∀ t∈y.tmps,¬ U t) (loc:Loc) :
  ∃g1,g1.base=g.base/\g1.old=g.old/\g1.al=g.al/\g1.hi=g.hi/\Rel P w0 n U g1 (Yf S y) H a w/\gR P w g1 loc (AL.ev S y) (a.eval x):=by
 cases x with
 |const c=>
  simp only[eO,adr]at hx;obtain⟨v,hc,rfl⟩:=hx;exact⟨g,rfl,rfl,rfl,rfl,R,HD hc _ _ _ _⟩
 |global k=>cases hx
 |func f=>cases hx;exact⟨g,rfl,rfl,rfl,rfl,R,trivial⟩
 |tmp t=>
  simp only[eO]at hx;split at hx
  case isFalse=>cases hx
  rename_i ht;cases hx;have Wl:=hu t (by simp[eA.tmps]);have ho:=R.own t ht Wl
  have R1:Rel P w0 n U g (ar S t (S t).aG) H a w:=R.weaken _ λk hk huk c si ho=>by
   by_cases h:k=t
   .subst h;rw[aS];exact⟨si.aG,kP _ _ _⟩
   .rw[bj _ _ h];exact⟨si,ho⟩
  have R2:=R1.P9 (.slot t) (some loc) (λk hk _ _=>by cases hk;rw[aS];exact AV.we _) (λi j cs h=>by cases h);refine⟨{ g with owner:=λb=>if g.owner b=some (.slot t)then some loc else g.owner b },rfl,rfl,rfl,rfl,R2,?_⟩;show gR P w _ loc (S t) (a.tmps.getD t undef);generalize S t=v at ho;generalize a.tmps.getD t undef=c at ho
  cases v<;>try trivial
  rename_i oo es
  cases oo with
  |view=>trivial
  |nil=>exact ho
  |own e=>
   obtain⟨i,xs,b,h1,h2,h3,h4,h5⟩:=ho;refine⟨i,xs,b,h1,h2,h3,?_,h5⟩;show(if g.owner b=some (.slot t)then some loc else g.owner b)=_;rw[if_pos h4]
theorem Rel.Wv (R:Rel P w0 n U g S H a w) {x:Operand} {y:eA} (hx:eO n x=some y) (hu:∀ t∈y.tmps,¬ U t) {e:TypeId} {es:List AV} (hy:AL.ev S y = .slice (.own e) es) :
  ∃g1 i xs b,g1.base=g.base/\g1.old=g.old/\g1.al=g.al/\g1.hi=g.hi/\Rel P w0 n U g1 (Yf S y) H a w/\
   P.info? e=some i/\w.ownsRow g.base e i.size (a.eval x) es.length xs/\(a.eval x).ownBlock=some b/\g1.owner b=none/\g.hi b=es.length*i.size/\(∀j,g.al j≠some b)/\(∀o,g.old.bf b≠some o):=by
 cases x with
 |const c=>
  simp only[eO,adr]at hx;obtain⟨v,hc,rfl⟩:=hx;have:=IW hc;rw[show v=AL.ev S (.c v)from rfl,hy]at this;cases this
 |global k=>cases hx
 |func f=>cases hx;cases hy
 |tmp t=>
  simp only[eO]at hx;split at hx
  case isFalse=>cases hx
  rename_i ht;cases hx;have Wl:=hu t (by simp[eA.tmps]);have ho:=R.own t ht Wl
  change S t=_ at hy
  have R1:Rel P w0 n U g (ar S t (S t).aG) H a w:=R.weaken _ λk hk huk c si ho=>by
   by_cases h:k=t
   .subst h;rw[aS];exact⟨si.aG,kP _ _ _⟩
   .rw[bj _ _ h];exact⟨si,ho⟩
  have R2:=R1.P9 (.slot t) none (λk hk _ _=>by cases hk;rw[aS];exact AV.we _) (λi j cs h=>by cases h);rw[hy]at ho;obtain⟨i,xs,b,h1,h2,h3,h4,h5⟩:=ho;refine⟨{ g with owner:=λb=>if g.owner b=some (.slot t)then none else g.owner b },i,xs,b,rfl,rfl,rfl,rfl,R2,h1,h2,h3,?_,h5,λj hj=>?_,λo hk=>?_⟩
  .show(if g.owner b=some (.slot t)then none else g.owner b)=none;rw[if_pos h4]
  .obtain⟨_,_,_,_,_,_,_,k5,_⟩:=R.box j b hj;rw[h4]at k5;cases k5
  .obtain⟨_,_,_,k4,_⟩:=R.kept b o hk;rw[h4]at k4;cases k4
theorem J4(v:AV):v.bZ.length=v.cells.length:=by cases v<;>simp[AV.bZ,AV.cells]
theorem RD.bZ{Pr:Nat->Nat->Prop}{v:AV}{c:Value}(h:RD Pr w v c)(hs:v.storable=true):vh Pr w v.bZ c.cells:=by
 cases v<;>try exact h.rds hs
 rename_i cs;have hh:=h.rds hs;refine vh.mk' (by simpa[AV.bZ,AV.cells]using hh.1) (λi v c e1 e2=>?_) (λi v e1=>?_)
 .simp only[AV.bZ,adI,adr]at e1;obtain⟨u,h1,rfl⟩:=e1;exact(hh.get h1 e2).aG
 .simp only[AV.bZ,adI,adr]at e1;obtain⟨u,h1,rfl⟩:=e1;exact(AV.uV _).trans (hh.one h1)
theorem kX (R:Rel P w0 n U g S H a w) {o:Oper} {hr:HR} {t:TypeId} {i:TypeInfo} {x1 x2:Operand} {y1 y2:eA} {e:aQ} (ho:o.op = .store t x1 x2) (lr:o.dst=none)
  (hi:P.info? t=some i) (qU:eO n x1=some y1) (pc:eO n x2=some y2) (vD:∀t∈y1.tmps,¬U t) (vN:∀t∈y2.tmps,¬U t)
  (he:aH S H (.store hr i.size y1 y2)=some e):eK P w0 n U g S H a w o e:=by
 have iS:=R.ev qU vD;have ic:=R.ev pc vN;simp only[aH]at he;generalize ac5:AL.ev S y1=q1 at he iS;generalize mO:a.eval x1=c1 at iS
 cases iS<;>(try cases he;done)
 case data h=>cases h<;>cases he
 rename_i k off b kK;simp only at he;split at he
 case isFalse=>cases he
 obtain⟨cs,vs,ty,k1,k2,k3,k4,k5,k6,k7,k8,k9⟩:=R.box k b kK;simp only[k1]at he;split at he
 case isFalse=>cases he
 rename_i hc;obtain⟨ni,Yg,jC⟩:=hc;cases he;have zi:=ic.fj (AV.nP jC);obtain⟨g1,e1,e2,e3,e4,R1,Z5⟩:=R.take pc vN (.cell k off)
 have wO:g1.Pr=g.Pr:=by unfold Gh.Pr;rw[e1,e2,e4]
 obtain⟨cs0,OL,ty0,m1,m2,m3,m4,m5,m6,m7,m8,m9⟩:=R1.box k b (by rw[e3];exact kK);rw[k1]at m1;cases m1;rw[k3]at m3;cases m3
 have bq:(a.eval x2).cells.size=i.size:=by rw[<-zi.cells.1];exact ni
 have hlen:off+(a.eval x2).cells.size<=vs.size:=by omega
 have nu:∀u∈(a.eval x2).cells.toList,u.oneCell'=true:=by
  intro u hu;obtain⟨j,hj,rfl⟩:=adG hu
  have dY:j<(AL.ev S y2).cells.length:=by rw[zi.cells.1];simpa using hj
  have:=(zi.cells.2 j dY (by simpa using hj)).one (zi.cells_one jC j dY);simpa using this
 have dv:=agD P b off ty (a.eval x2).cells.toList 0 vs w k3 (by simpa using hlen) nu;simp only[Nat.add_zero]at dv;have Bm:=J4 (AL.ev S y2)
 have iJ:∀j,(vs.toList.take off++(a.eval x2).cells.toList++vs.toList.drop (off+(a.eval x2).cells.toList.length)).toArray[j]?=if off<=j/\j<off+(a.eval x2).cells.size then(a.eval x2).cells[j-off]? else vs[j]?:=by
  intro j;simp only[ag1,Array.length_toList]
  by_cases h1:j<off
  .rw[if_neg (by omega),aef,aem (by simp;omega)];simp[h1]
  .by_cases h2:j<off+(a.eval x2).cells.size
   .rw[if_pos ⟨by omega,h2⟩,aem (by simp;omega),aeA (by simp;omega)];rw[aeH]
    congr 1
    simp;omega
   .rw[if_neg (by omega),aeA (by simp;omega)];simp only[afr,aeH]
    congr 1
    simp;omega
 have dZ:vh g1.Pr w (bo cs off (AL.ev S y2).bZ) (vs.toList.take off++(a.eval x2).cells.toList++vs.toList.drop (off+(a.eval x2).cells.toList.length)).toArray:=
  vh.bo (cs:=cs) (xs:=vs) ⟨m6,m7,m9⟩ (ys:=(a.eval x2).cells) (by rw[wO];exact zi.bZ jC) (by omega) _ (by simp;omega) iJ
 have dO:∀j v c,(bo cs off (AL.ev S y2).bZ)[j]?=some v->(vs.toList.take off++(a.eval x2).cells.toList++vs.toList.drop (off+(a.eval x2).cells.toList.length)).toArray[j]?=some c->gR P w g1 (.cell k j) v c:=by
  intro j v c h1 h2;rw[Bs (by omega)]at h1;rw[iJ]at h2;rw[Bm,zi.cells.1]at h1;split at h1
  .rename_i jJ;rw[if_pos jJ]at h2;have O9:=zi;generalize AL.ev S y2=q at h1 Z5 O9 jC;generalize a.eval x2=c2 at h2 Z5 O9
   have single:q.bZ=[q]->c2.cells=#[c2]->gR P w g1 (.cell k j) v c:=by
    intro h3 h4;rw[h3]at h1;rw[h4]at h2
    have h0:j-off=0:=by simpa using(adE.1 h1).1
    rw[h0]at h1 h2;simp at h1 h2;subst h1;subst h2;rw[show j=off by omega];exact Z5
   cases O9 with
   |agg gM pJ hl nu hr=>
    simp only[AV.bZ,adI,adr]at h1;obtain⟨u,_,rfl⟩:=h1;exact kP _ _ _
   |dN=>cases jC
   |val _ hc=>exact single rfl (by cases c2<;>first|rfl|cases hc)
   |_=>exact single rfl rfl
  .rename_i jJ;rw[if_neg jJ]at h2;obtain⟨l1,rfl⟩:=adE.1 h1;obtain⟨l2,rfl⟩:=ade.1 h2;exact m8 j l1 l2
 have R2:=R1.JI k b (by rw[e3];exact kK) vs _ ty k3 _ dZ.1 dZ.2.1 (λj hj dY=>dO j _ _ (ac_ hj) (aej dY)) dZ.2.2;refine⟨undef,w.setRow b (vs.toList.take off++(a.eval x2).cells.toList++vs.toList.drop (off+(a.eval x2).cells.toList.length)).toArray,g1,.inr ⟨?_,rfl⟩,e1,e2,?_⟩
 .unfold execOp;simp only[ho,mO,Instr.storeAt,Instr.sureAddr,storeVar,sizeOf,typeInfo,ads,Sem.run_pure,Result.andThen_ok,run_program,hi,bq,ne_eq,ae5,adz];rw[show storeCells ⟨b,off,none⟩ (a.eval x2).cells.toList=storeCells ⟨b,off,none⟩ (a.eval x2).cells.toList 0 from rfl,dv]
  rfl
 .rw[lr];exact R2
end
theorem yx {P:Program} {w:World} (base:Nat) (t ty e:TypeId) (i:TypeInfo) (z:Value) (ht:P.underlying t=some (.slice e)) (hi:P.info? e=some i) (hz:i.zero=some z)
  (vS:z.cells.size=i.size) (v:Value) (n:Nat) (xs:List Value) (b:Nat) (dO:w.ownsRow base e i.size v n xs) (u9:v.ownBlock=some b)
  (ad:Addr) (m c:Nat) (news:List Value) (hl:news.length=m*i.size) (Aa:∀j u,news[j]?=some u->w.cell? (ad.add j)=some u) (h1:∀u∈news,u.oneCell'=true)
  (h63:n+m<=2097152) (O8:(n+m)*i.bytes<=140737488355328) (jq:base<=w.heap.size):
  ∃v' w' b',(Builtin.append_ #[t,t] ty #[v,.slice (some ad) m c]).run P w=.ok v' w'/\w'.ownsRow base e i.size v' (n+m) (xs++news)/\v'.ownBlock=some b'/\
   ((b'=b/\w.grownBy w' (some b))\/(b'=w.heap.size/\w.grownBy w' none/\w'.heap.size=w.heap.size+1)):=by
 have acQ:n+m<=maxLen:=by unfold maxLen;omega
 have hlen:(xs++news).length=(n+m)*i.size:=by rw[adq,dO.1,hl,ae9]
 rcases dO.2 with⟨rfl,rfl⟩|⟨g,cap,cur,rfl,qL,hg,Qs,yp,vi,IG⟩
 .cases u9
 .have xu:g=b:=by simpa[Value.ownBlock]using u9
  subst xu
  by_cases l5:n+m<=cap
  .have acj:n*i.size+news.length<=cur.size:=by rw[hl,vi,<-ae9];exact aeK _ l5
   have hr:=run_append_room (P:=P) w t ty e i ht hi g n cap cur hg ad m c news hl Aa h1 l5 acj;refine⟨_,_,g,hr,⟨hlen,.inr ⟨g,cap,_,rfl,qL,aeJ w g cur _ e _ hg,l5,yp,?_,?_⟩⟩,rfl,.inl ⟨rfl,⟨rfl,rfl,rfl,by simp,λk _ hk=>aec w g k _ (λe=>hk (by simp[e]))⟩⟩⟩
   .simp only[af9,adq,adM,ad8,Array.length_toList];omega
   .rw[IG,<-hlen];exact agN
  .have holds:∀j u,xs[j]?=some u->w.cell? ((⟨g,0,none⟩:Addr).add j)=some u:=dO.cells (g:=g) rfl;have hr:=run_append_grow (P:=P) w t ty e i z ht hi hz ⟨g,0,none⟩ n cap xs dO.1 holds ad m c news hl Aa (by omega) (by omega) (growslice_fits (by omega) O8);have D2:=grownCap_ge w (n+m) cap e;have aaQ:grownCap w (n+m) cap e<=maxLen:=grownCap_le_maxLen w (n+m) cap e acQ;refine⟨_,_,w.heap.size,hr,⟨hlen,.inr ⟨w.heap.size,_,_,rfl,jq,agM w.drew _,D2,aaQ,?_,?_⟩⟩,rfl,.inr ⟨rfl,⟨rfl,rfl,rfl,by simp,λk hk _=>heap_alloc_old w.drew _ k hk⟩,by simp⟩⟩
   .simp only[Array.size_append,af9,size_zeroCells,vS,dO.1,hl,<-ae9]
    congr 1
    omega
   .simp only[ag6,aef];rw[<-aef,<-hlen];exact agN
theorem A3 {P:Program} {w:World} (base:Nat) (t ty e:TypeId) (i:TypeInfo) (z:Value) (ht:P.underlying t=some (.slice e)) (hi:P.info? e=some i) (hz:i.zero=some z)
  (vS:z.cells.size=i.size) (a0:Option Addr)
  (ad:Addr) (m c:Nat) (news:List Value) (hl:news.length=m*i.size) (Aa:∀j u,news[j]?=some u->w.cell? (ad.add j)=some u)
  (hm:0<m) (h63:m<=2097152) (O8:m*i.bytes<=140737488355328) (jq:base<=w.heap.size):
  ∃v' w',(Builtin.append_ #[t,t] ty #[.slice a0 0 0,.slice (some ad) m c]).run P w=.ok v' w'/\w'.ownsRow base e i.size v' m news/\v'.ownBlock=some w.heap.size/\w.grownBy w' none/\w'.heap.size=w.heap.size+1:=by
 have D2:=grownCap_ge w m 0 e;have aaQ:grownCap w m 0 e<=maxLen:=grownCap_le_maxLen w m 0 e (by unfold maxLen;omega)
 have dv:(Builtin.append_ #[t,t] ty #[.slice a0 0 0,.slice (some ad) m c]).run P w=.ok (.slice (some ⟨w.heap.size,0,none⟩) m (grownCap w m 0 e)) (w.drew.alloc (.cells (news.toArray++Builtin.zeroCells z.cells (grownCap w m 0 e-m)) e)):=by
  cases a0 with
  |none=>exact run_append_nil (P:=P) w t ty e i z ht hi hz ad m c news hl Aa hm (by omega) (by omega)
  |some b=>
   have:=run_append_grow (P:=P) w t ty e i z ht hi hz b 0 0 [] (by simp) (by simp) ad m c news hl Aa (by omega) (by omega) (growslice_fits (by omega) (by simpa using O8));simpa using this
 refine⟨_,_,dv,⟨hl,.inr ⟨w.heap.size,_,_,rfl,jq,agM w.drew _,D2,aaQ,?_,?_⟩⟩,rfl,⟨rfl,rfl,rfl,by simp,λk hk _=>heap_alloc_old w.drew _ k hk⟩,by simp⟩
 .simp only[Array.size_append,af9,size_zeroCells,vS,hl,<-ae9]
  congr 1
  omega
 .rw[<-hl];simp only[ag6];exact agN
theorem BH {P:Program} {w:World} (base:Nat) (t ty e:TypeId) (i:TypeInfo) (size:Nat) (ht:P.underlying t=some (.slice e)) (hi:P.info? e=some i)
  (v:Value) (n:Nat) (xs:List Value) (dO:w.ownsRow base e size v n xs) (ad:Option Addr):
  (Builtin.append_ #[t,t] ty #[v,.slice ad 0 0]).run P w=.ok v w:=by
 have hfc:(Builtin.firstCells i.size 0 (.slice ad 0 0)).run P w=.ok #[] w:=by
  rcases ad with _|ad
  .rfl
  .simp[Builtin.firstCells,loadCells,loadCellsFrom]
 rcases dO.2 with⟨rfl,rfl⟩|⟨g,cap,cur,rfl,_,_,Qs,_⟩
 .simp[Builtin.append_,adH ht,sizeOf,typeInfo,hi,Builtin.lenOf,hfc]
 .simp[Builtin.append_,adH ht,sizeOf,typeInfo,hi,Builtin.lenOf,hfc,Qs,storeCells]
theorem RD.rU {Pr:Nat→Nat→Prop} {w:World} {o:Ow} {es:List AV} {c:Value} (h:RD Pr w (.slice o es) c) (size:Nat) (hs:aJ size es=true) :
  (es=[]/\∃ad,c=.slice ad 0 0)\/∃(b off cap:Nat)(news:List Value),c=.slice (some ⟨b,off,none⟩) es.length cap/\news.length=es.length*size/\
   (∀j u,news[j]?=some u->w.cell? ⟨b,off+j,none⟩=some u)/\(∀u∈news,u.oneCell'=true)/\
   ∀j (h:j<es.length) k (hk:k<(es[j]).cells.length),∃u,news[j*size+k]?=some u/\RD Pr w ((es[j]).cells[k]) u:=by
 simp only[aJ,adu,adb,adX]at hs
 cases h with
 |jU=>exact .inl ⟨rfl,_,rfl⟩
 |kV _ a=>exact .inl ⟨rfl,_,rfl⟩
 |slice _ _ b off cap sz cs fF tC bq h1 hc hr=>
  refine .inr ⟨b,off,cap,(List.range (es.length*size)).map cs,rfl,by simp,?_,?_,?_⟩
  .intro j u hu;simp only[adI,adr]at hu;obtain⟨j',h1,rfl⟩:=hu;obtain⟨au,rfl⟩:=adE.1 h1;simp only[List.length_range]at au;simp only[List.getElem_range]
   have gf:0<es.length:=by
    rcases afs es.length with h0|h0
    .rw[h0]at au;omega
    .exact h0
   have:sz=size:=by rw[<-bq 0 gf];exact(hs _ (ada gf)).2
   subst this;exact(hc j au).2
  .intro u hu;simp only[adx,adF]at hu;obtain⟨j,au,rfl⟩:=hu
   have gf:0<es.length:=by
    rcases afs es.length with h0|h0
    .rw[h0]at au;omega
    .exact h0
   have:sz=size:=by rw[<-bq 0 gf];exact(hs _ (ada gf)).2
   subst this
   have jB:0<sz:=by
    rcases afs sz with h0|h0
    .rw[h0]at au;omega
    .exact h0
   have hj:j/sz<es.length:=(Nat.div_lt_iff_lt_mul jB).2 au
   have hk:j % sz<(es[j/sz]).cells.length:=by rw[bq _ hj];exact agS _ jB
   have e:j/sz*sz+j % sz=j:=by rw[ae7];exact agq j sz
   have:=(hr _ hj _ hk).one (h1 _ hj _ hk);rwa [e]at this
  .intro j hj k hk
   have:sz=size:=by rw[<-bq j hj];exact(hs _ (ada hj)).2
   subst this;refine⟨cs (j*sz+k),?_,hr j hj k hk⟩;rw[bq j hj]at hk
   have:j*sz+k<es.length*sz:=by
    calc j*sz+k<j*sz+sz:=by omega
     _=(j+1)*sz:=by rw[agJ]
     _<=es.length*sz:=aeK _ (by omega)
   simp[this]
theorem RD.TY{Pr:Nat->Nat->Prop}{w:World}{o:Ow}{es:List AV}{c:Value}(h:RD Pr w (.slice o es) c):∀j (h:j<es.length) k (hk:k<(es[j]).cells.length),((es[j]).cells[k]).one=true:=by
 intro j hj k hk
 cases h with
 |jU=>simp at hj
 |kV=>simp at hj
 |slice _ _ _ _ _ _ _ _ _ _ h1 _ _=>exact h1 j hj k hk
section
variable{P:Program}{w0:World}{n:Nat}{U:Nat->Prop}{g:Gh}{S:av}{H:aD}{a:Act}{w:World}
theorem Rel.ownRow (R:Rel P w0 n U g S H a w) {w':World} {b':Nat} (d:Option Nat) (hd:∀ t,d=some t→t < n∧¬ U t) {el:TypeId} {i:TypeInfo} (hi:P.info? el=some i) {es:List AV} {news:List Value} {v':Value}
  (dO:w'.ownsRow g.base el i.size v' es.length news) (u9:v'.ownBlock=some b')
  (xU:∀es c,w.heap[b']?≠some (.map es c))
  (hb:(b'<w.heap.size/\w.grownBy w' (some b')/\g.owner b'=none/\(∀j,g.al j≠some b')/\g.hi b'<=es.length*i.size/\(∀k u,k<g.hi b'->w.cell? ⟨b',k,none⟩=some u->news[k]?=some u)/\∀o,g.old.bf b'≠some o)\/
   (b'=w.heap.size/\w.grownBy w' none/\w'.heap.size=w.heap.size+1))
  (jC:aJ i.size es=true)
  (hr:∀j (h:j<es.length) k (hk:k<(es[j]).cells.length),∃u,news[j*i.size+k]?=some u/\RD g.Pr w ((es[j]).cells[k]) u/\((es[j]).cells[k]).one=true):
  ∃g',g'.base=g.base/\g'.old=g.old/\Rel P w0 n U g' (Go.AL.aT S d (.slice (.own el) es)) H (a.put d v') w':=by
 have hle:g.base<=w.heap.size:=by rw[R.base];exact R.below.size
 simp only[aJ,adu,adb,adX]at jC
 let g':Gh:={ g with hi:=ar g.hi b' (es.length*i.size),owner:=ar g.owner b' (d.map .slot) }
 have kL:∀k,k<w.heap.size->k≠b'->w'.heap[k]?=w.heap[k]?:=by
  intro k hk cI
  rcases hb with⟨_,h,_⟩|⟨_,h,_⟩
  .exact h.block k hk (by simp[cI])
  .exact h.block k hk (by simp)
 have oq:w.heap.size<=w'.heap.size:=by rcases hb with⟨_,h,_⟩|⟨_,h,_⟩<;>exact h.size
 rcases dO.2 with⟨rfl,_⟩|⟨gg,cap,cur,rfl,qL,hg,Qs,yp,vi,IG⟩
 .cases u9
 have xu:gg=b':=by simpa[Value.ownBlock]using u9
 subst xu
 have fo:∀k u,news[k]?=some u->w'.cell? ⟨gg,k,none⟩=some u:=by
  intro k u hu;have:=dO.cells (g:=gg) rfl k u hu;rwa [aev,ad3]at this
 have aaX:∀b k,g.Pr b k->∀u,w.cell? ⟨b,k,none⟩=some u->g'.Pr b k/\w'.cell? ⟨b,k,none⟩=some u:=by
  intro b k hp u hu;have au:b<w.heap.size:=afM _ _ hu
  by_cases qG:b=gg
  .subst qG
   rcases hb with⟨h1,h2,h3,h4,h5,h6,_⟩|⟨h1,_⟩
   .rcases hp with hp|hp
    .omega
    .exact⟨.inr ⟨hp.1,by show k<ar g.hi _ _ _;rw[aS];omega⟩,fo k u (h6 k u hp.2 hu)⟩
   .omega
  .refine⟨?_,by rw[afi (w:=w) (kL b au qG)];exact hu⟩;rcases hp with hp|hp
   .exact .inl hp
   .exact .inr ⟨hp.1,by show k<ar g.hi _ _ b;rw[bj _ _ qG];exact hp.2⟩
 have FI:bl g.Pr g'.Pr w w':={
  cell:=aaX
  map:=λb hp es c hm=>by
   have au:b<w.heap.size:=(ade.1 hm).1
   have qG:b≠gg:=by
    rintro rfl;exact xU _ _ hm
   refine⟨?_,by rw[kL b au qG];exact hm⟩;rcases hp with hp|hp
   .exact .inl hp
   .exact .inr ⟨hp.1,by show 0<ar g.hi _ _ b;rw[bj _ _ qG];exact hp.2⟩ }
 have R':Rel P w0 n U g' S H a w':=by
  refine R.ext (g':=g') rfl rfl rfl FI ?_ ?_ ?_ ?_ ?_ oq
  .intro j b hj;obtain⟨_,_,_,_,_,k3,_⟩:=R.box j b hj;have au:b<w.heap.size:=(ade.1 k3).1
   have cI:b≠gg:=by
    rintro rfl
    rcases hb with⟨_,_,_,h4,_⟩|⟨h1,_⟩
    .exact h4 j hj
    .omega
   exact⟨kL b au cI,bj _ _ cI,bj _ _ cI⟩
  .intro b loc ho
   have au:b<w.heap.size:=by
    rcases ae1 b w.heap.size with h|h
    .exact h
    .rw[(R.fresh b h).2]at ho;cases ho
   have cI:b≠gg:=by
    rintro rfl
    rcases hb with⟨_,_,h3,_⟩|⟨h1,_⟩
    .rw[h3]at ho;cases ho
    .omega
   exact⟨kL b au cI,bj _ _ cI,(bj _ _ cI).trans ho⟩
  .refine R.below.trans ?_
   rcases hb with⟨_,h,_⟩|⟨_,h,_⟩
   .exact⟨h.os,h.tape,h.output,h.size,λk hk=>kL k (by omega) (by omega)⟩
   .exact⟨h.os,h.tape,h.output,h.size,λk hk=>kL k (by omega) (by omega)⟩
  .intro b qG
   have cI:b≠gg:=by
    have:=(ade.1 hg).1;omega
   exact⟨(bj _ _ cI).trans (R.fresh b (by omega)).1,(bj _ _ cI).trans (R.fresh b (by omega)).2⟩
  .intro b o hk ho;have au:b<w.heap.size:=(ade.1 ho).1
   have cI:b≠gg:=by
    rintro rfl
    rcases hb with⟨_,_,_,_,_,_,h7⟩|⟨h1,_⟩
    .exact h7 o hk
    .omega
   exact⟨by rw[kL b au cI];exact ho,bj _ _ cI,bj _ _ cI⟩
 refine⟨g',rfl,rfl,R'.aT d _ _ (λt h=>(hd t h).1) (.data _ _ ?_) ?_⟩
 .refine .slice _ es gg 0 cap i.size (λk=>news.getD k undef) Qs (λh=>by cases h) (λj h=>(jC _ (ada h)).2) (λj h k hk=>(hr j h k hk).choose_spec.2.2) (λk hk=>⟨?_,?_⟩) (λj h k hk=>?_)
  .exact .inr ⟨qL,by show 0+k<ar g.hi _ _ _;rw[aS];omega⟩
  .rw[ad3];refine fo k _ ?_
   have:k<news.length:=by rw[dO.1];exact hk
   simp[this]
  .obtain⟨u,h1,h2,_⟩:=hr j h k hk
   have:news.getD (j*i.size+k) undef=u:=by simp[h1]
   rw[this];exact h2.mono FI
 .intro t ht;subst ht;exact⟨i,news,gg,hi,dO,rfl,by show ar g.owner _ _ _=_;rw[aS];rfl,by show ar g.hi _ _ _=_;rw[aS]⟩
theorem sM{size:Nat}{es:List AV}:aJ size es=true↔∀v∈es,v.storable=true/\v.cells.length=size:=by
 simp[aJ]
theorem OQ (R:Rel P w0 n U g S H a w) {o:Oper} {cl:Call} {t el:TypeId} {i:TypeInfo} {z:Value} {x1 x2:Operand} {y1 y2:eA} {e:aQ} (ho:o.op = .call cl) (ni:cl.callee = .builtin .append) (Jj:cl.args = #[x1,x2]) (vH:cl.argTypes = #[t,t])
  (hd:∀t,o.dst=some t->t<n/\¬U t) (gE:P.underlying t=some (.slice el)) (hi:P.info? el=some i) (hz:i.zero=some z) (vS:z.cells.size=i.size) (YV:i.bytes<=65536)
  (qU:eO n x1=some y1) (pc:eO n x2=some y2) (vD:∀t∈y1.tmps,¬U t) (vN:∀t∈y2.tmps,¬U t) (dZ:∀t,o.dst=some t->t∉y1.tmps)
  (he:aH S H (.append t el i.size i.bytes y1 y2)=some e):eK P w0 n U g S H a w o e:=by
 have hle:g.base<=w.heap.size:=by rw[R.base];exact R.below.size
 have iS:=R.ev qU vD;have ic:=R.ev pc vN
 have run:∀v' w',(Builtin.append_ #[t,t] o.type #[a.eval x1,a.eval x2]).run P w=.ok v' w'->(execOp a.eval o).run P w=.ok (.value v') w':=by
  intro v' w' h;unfold execOp;simp[ho,ni,Jj,vH,resolve,invoke,builtin,h]
 have bytes:∀m,m<=2097152->m*i.bytes<=140737488355328:=λm hm=>ael (agy hm YV) (by decide)
 simp only[aH]at he;split at he
 .
  rename_i oo ys WC hq2;split at he
  case isFalse=>cases he
  rename_i hc;simp only[adb,adf]at hc;cases he;rw[WC]at iS;rw[hq2]at ic
  obtain⟨ad0,mO⟩:∃ad,a.eval x1=.slice ad 0 0:=by
   have hq:=iS.fj rfl;generalize a.eval x1=c at hq
   cases hq with
   |jU=>exact⟨_,rfl⟩
   |kV=>exact⟨_,rfl⟩
   |slice _ _ b off cap size cs fF tC=>rw[tC rfl];exact⟨_,rfl⟩
  have zi:=ic.fj rfl
  rcases zi.rU i.size hc.1 with⟨rfl,Yo,nF⟩|⟨b,off,cap,news,nF,hl,hn,h1,hr⟩
  .refine⟨a.eval x1,w,g,.inl (run _ _ ?_),rfl,rfl,R.aT o.dst _ _ (λt h=>(hd t h).1) (.data _ _ (iS.fj rfl)) λ_ _=>trivial⟩;rw[mO,nF]
   have hfc:(Builtin.firstCells i.size 0 (.slice Yo 0 0)).run P w=.ok #[] w:=by
    rcases Yo with _|Yo
    .rfl
    .simp[Builtin.firstCells,loadCells,loadCellsFrom]
   simp[Builtin.append_,adH gE,sizeOf,typeInfo,hi,Builtin.lenOf,hfc,storeCells]
   cases ad0<;>simp[storeCells]
  .by_cases hys:ys=[]
   .subst hys;have Aa:news=[]:=adQ (by simpa using hl);refine⟨a.eval x1,w,g,.inl (run _ _ ?_),rfl,rfl,R.aT o.dst _ _ (λt h=>(hd t h).1) (.data _ _ (iS.fj rfl)) λ_ _=>trivial⟩;rw[mO,nF];simp[Builtin.append_,adH gE,sizeOf,typeInfo,hi,Builtin.lenOf,Builtin.firstCells,loadCells,loadCellsFrom]
    cases ad0<;>simp[storeCells]
   .have gf:0<ys.length:=adV.2 hys;obtain⟨v',w',r1,r2,r3,r4,r5⟩:=A3 (P:=P) (w:=w) g.base t o.type el i z gE hi hz vS ad0 ⟨b,off,none⟩ ys.length cap news hl (λj u hu=>by rw[aev];exact hn j u hu) gf (by omega) (bytes _ (by omega)) hle
    obtain⟨g',e1,e2,R'⟩:=R.ownRow o.dst hd hi (es:=ys) r2 r3 (λes c hm=>by have:=(ade.1 hm).1;omega) (.inr ⟨rfl,r4,r5⟩) hc.1 (λj h k hk=>by
     obtain⟨u,u1,u2⟩:=hr j h k hk
     exact⟨u,u1,u2,zi.TY j h k hk⟩)
    refine⟨v',w',g',.inl (run _ _ (by rw[mO,nF];exact r1)),e1,e2,?_⟩
    have:ys.isEmpty=false:=by cases ys with|nil=>exact absurd rfl hys|cons=>rfl
    simp only[this];exact R'
 .rename_i e' xs oo ys WC hq2;split at he
  case isFalse=>cases he
  rename_i hc;simp only[adb,adf]at hc;obtain⟨rfl,⟨mO,nF⟩,hc3⟩:=hc;cases he;rw[WC]at iS;rw[hq2]at ic;obtain⟨g1,i',xv,b,b1,b2,b3,b4,R1,eb,dO,u9,ji,DU,hnb,G0⟩:=R.Wv qU vD WC;rw[hi]at eb;cases eb
  have wO:g1.Pr=g.Pr:=by unfold Gh.Pr;rw[b1,b2,b4]
  have Ap:=iS.fj rfl;have zi:=ic.fj rfl;have kW:b<w.heap.size:=(dO.lt b u9).2
  have DX:aJ i.size (xs++ys)=true:=by
   rw[sM];intro v hv;rcases adm.1 hv with h|h
   .exact sM.1 nF v h
   .exact sM.1 mO v h
  have hS:Yf S y1=(match(bz y1)with|some t=>ar S t (S t).aG|none=>S):=rfl
  have nu:∀(o:Ow)(es:List AV)(c:Value),RD g.Pr w (.slice o es) c->∀j (h:j<es.length) k (hk:k<(es[j]).cells.length),((es[j]).cells[k]).one=true:=by
   intro o es c h j hj k hk
   cases h with
   |jU=>simp at hj
   |kV=>simp at hj
   |slice _ _ _ _ _ _ _ _ _ _ h1 _ _=>exact h1 j hj k hk
  have abG:∀j (h:j<xs.length) k (hk:k<(xs[j]).cells.length),∃u,xv[j*i.size+k]?=some u/\RD g.Pr w ((xs[j]).cells[k]) u:=by
   intro j hj k hk
   rcases Ap.rU i.size nF with⟨rfl,nw⟩|⟨b',off,cap,ac9,nw,hl,hn,h1,hr⟩
   .simp at hj
   .obtain⟨u,u1,u2⟩:=hr j hj k hk;refine⟨u,?_,u2⟩
    have au:j*i.size+k<xv.length:=by
     rw[dO.1,<-hl];exact(adE.1 u1).1
    have e1:=dO.cells u9 _ _ (ac_ au);have e2:=hn _ _ u1
    rcases dO.2 with⟨Ed,_⟩|⟨gg,Rq,cur,Jo,_⟩
    .rw[Ed]at u9;cases u9
    .rw[Jo]at nw u9
     have xu:gg=b:=by simpa[Value.ownBlock]using u9
     subst xu;cases nw;rw[aev,ad3]at e1;rw[ad3]at e2;rw[e2]at e1;rw[ac_ au,adw e1]
  have abP:∀k u,k<g1.hi b->w.cell? ⟨b,k,none⟩=some u->∀news,(xv++news)[k]?=some u:=by
   intro k u hk hu news;rw[b4,DU]at hk
   have au:k<xv.length:=by rw[dO.1];exact hk
   have e1:=dO.cells u9 _ _ (ac_ au);rw[aev,ad3,hu]at e1;rw[aem au,ac_ au,<-adw e1]
  have fin:∀ v' w' b' news,(Builtin.append_ #[t,t] o.type #[a.eval x1,a.eval x2]).run P w = .ok v' w'→w'.ownsRow g.base e' i.size v' (xs.length+ys.length) (xv++news)→v'.ownBlock=some b' →
    ((b'=b/\w.grownBy w' (some b))\/(b'=w.heap.size/\w.grownBy w' none/\w'.heap.size=w.heap.size+1))->news.length=ys.length*i.size->
    (∀j (h:j<ys.length) k (hk:k<(ys[j]).cells.length),∃u,news[j*i.size+k]?=some u/\RD g.Pr w ((ys[j]).cells[k]) u)->
    eK P w0 n U g S H a w o { v:=.slice (.own e') (xs++ys),dm:=bz y1 }:=by
   intro v' w' b' news r1 r2 r3 r4 hl hr
   obtain⟨g',e1,e2,R'⟩:=R1.ownRow o.dst hd hi (es:=xs++ys) (by rw[b1,adq];exact r2) r3 (by
    rcases r4 with⟨rfl,_⟩|⟨rfl,_⟩
    .intro es c hm
     rcases dO.2 with⟨Ed,_⟩|⟨gg,Rq,cur,Jo,_,ab1,_⟩
     .rw[Ed]at u9;cases u9
     .rw[Jo]at u9
      have xu:gg=b':=by simpa[Value.ownBlock]using u9
      subst xu;rw[ab1]at hm;cases hm
    .intro es c hm;have:=(ade.1 hm).1
     omega) (by
    rcases r4 with⟨rfl,hg⟩|h
    .refine .inl ⟨kW,hg,ji,by rw[b3];exact hnb,by rw[b4,DU,adq,ae9];omega,λk u hk hu=>abP k u hk hu news,by rw[b2];exact G0⟩
    .exact .inr h) DX (λj h k hk=>by
     rw[wO]
     by_cases hj:j<xs.length
     .have ej:(xs++ys)[j]=xs[j]:=adA hj
      have dP:k<(xs[j]).cells.length:=by rw[<-ej];exact hk
      obtain⟨u,u1,u2⟩:=abG j hj k dP;refine⟨u,?_,?_,?_⟩
      .rw[aem (adE.1 u1).1];exact u1
      .simp only[ej];exact u2
      .simp only[ej];exact nu _ _ _ Ap j hj k dP
     .have R9:j-xs.length<ys.length:=by simp only[adq]at h;omega
      have ej:(xs++ys)[j]=ys[j-xs.length]:=ad_ (by omega)
      have dP:k<(ys[j-xs.length]).cells.length:=by rw[<-ej];exact hk
      obtain⟨u,u1,u2⟩:=hr _ R9 k dP;refine⟨u,?_,?_,?_⟩
      .have e3:j * i.size+k=xv.length+((j - xs.length) * i.size+k):=by
        rw[dO.1,<-afJ,<-ae9];congr 2;omega
       rw[e3,aeA (by omega),Nat.add_sub_cancel_left];exact u1
      .simp only[ej];exact u2
      .simp only[ej];exact nu _ _ _ zi _ R9 k dP)
   exact⟨v',w',g',.inl (run _ _ r1),e1.trans b1,e2.trans b2,R'⟩
  rcases zi.rU i.size mO with⟨rfl,Yo,nw⟩|⟨b',off,cap,news,nw,hl,hn,h1,hr⟩
  .refine fin (a.eval x1) w b [] (by rw[nw];exact BH (P:=P) (w:=w) g.base t o.type e' i i.size gE hi _ _ _ dO Yo) (by simpa using dO) u9 (.inl ⟨rfl,⟨rfl,rfl,rfl,adh _,λ_ _ _=>rfl⟩⟩) (by simp) (λj h=>by simp at h)
  .obtain⟨v',w',b'',r1,r2,r3,r4⟩:=yx (P:=P) (w:=w) g.base t o.type e' i z gE hi hz vS (a.eval x1) xs.length xv b dO u9 ⟨b',off,none⟩ ys.length cap news hl (λj u hu=>by rw[aev];exact hn j u hu) h1 (by omega) (bytes _ (by omega)) hle;exact fin v' w' b'' news (by rw[nw];exact r1) r2 r3 r4 hl hr
 .cases he
end
section
variable{P:Program}{w0:World}{n:Nat}{U:Nat->Prop}{g:Gh}{S:av}{H:aD}{a:Act}{w:World}
theorem QV (R:Rel P w0 n U g S H a w) {o:Oper} {hr:HR} {t:TypeId} {va:TypeDesc} {x:Operand} {y:eA} {e:aQ} {d:Nat} (ho:o.op = .load t x) (lr:o.dst=some d) (hd:d < n∧¬ U d)
  (gE:P.underlying t=some va) (oU:eS va=false) (hx:eO n x=some y) (hu:∀t∈y.tmps,¬U t) (he:aH S H (.loadT hr y)=some e):eK P w0 n U g S H a w o e:=by
 have hv:=R.ev hx hu;simp only[aH]at he;generalize y9:AL.ev S y=q at he hv;generalize sk:a.eval x=c at hv
 cases hv<;>(try cases he;done)
 case data h=>cases h<;>cases he
 rename_i k off b kK;simp only at he;split at he
 case isFalse=>cases he
 obtain⟨cs,vs,ty,k1,k2,k3,k4,k5,k6,k7,k8,k9⟩:=R.box k b kK;simp only[k1]at he;split at he
 case h_2=>cases he
 rename_i v hv;cases he;obtain⟨au,rfl⟩:=adE.1 hv
 have jN:off<vs.size:=by omega
 have dv:(loadVar t ⟨b,off,none⟩).run P w=.ok vs[off] w:=by
  have abz:(isAgg t).run P w=.ok false w:=by
   unfold isAgg;rw[ads,adH gE w,<-oU]
   cases va<;>simp[eS]
  have hc:w.cell? ⟨b,off,none⟩=some vs[off]:=by simp[World.cell?,k3,jN]
  simp[loadVar,ads,abz,hc]
 have R1:=R.JI k b kK vs vs ty k3 (cs.set off (cs[off]).aG) (by simpa using k6) (fun j h h'=>by
   simp only[afR]at h;rw[agd];split
   .rename_i hj;subst hj;exact(k7 _ au jN).aG
   .exact k7 j h h') (λj h h'=>by
   simp only[afR]at h;rw[agd];split
   .exact kP _ _ _
   .exact k8 j h h') (λj h=>by
   simp only[afR]at h;rw[agd];split
   .have:=k9 off au;exact(AV.uV _).trans this
   .exact k9 j h)
 rw[setRow_self w b vs ty (0,0) k3]at R1
 have R2:=R1.P9 (.cell k off) (some (.slot d)) (λt h=>by cases h) (λi j gM h hH hj=>by
  cases h;rw[aS]at hH;cases hH;simp only[ag2]
  exact AV.we _)
 refine⟨vs[off],w,{ g with owner:=λb=>if g.owner b=some (.cell k off)then some (.slot d)else g.owner b },.inl ?_,rfl,rfl,?_⟩
 .unfold execOp;simp[ho,sk,Instr.loadAt,Instr.sureAddr,dv]
 .rw[lr];refine R2.put d _ _ hd.1 (.data _ _ (k7 _ au jN)) ?_;have hh:=k8 off au jN;generalize cs[off]=v at hh;generalize vs[off]=c at hh
  cases v<;>try trivial
  rename_i oo es
  cases oo with
  |view=>trivial
  |nil=>exact hh
  |own e=>
   obtain⟨i,xs,b,h1,h2,h3,h4,h5⟩:=hh;refine⟨i,xs,b,h1,h2,h3,?_,h5⟩;show(if g.owner b=some (.cell k off)then some (.slot d)else g.owner b)=_;rw[if_pos h4]
theorem run_sliceBound{x:Value}{i:Int}{y:Nat}{code:BoundsCode}(hx:x=.int .i64 i)(h0:0<=i)(h1:i<=y):(Instr.sliceBound x y code).run P w=.ok i.toNat w:=by
 subst hx;simp[Instr.sliceBound,asIntOf,h0,h1]
theorem IM (R:Rel P w0 n U g S H a w) {lo hi:Option Operand} {Gn eb:Option eA} (sj:rk n lo=some Gn) (DU:rk n hi=some eb) (Y0:∀ y∈Gn,∀ t∈y.tmps,¬ U t) (YA:∀ y∈eb,∀ t∈y.tmps,¬ U t)
  {len cap:Nat} (hlc:len<=cap) {p q:Int} (hp:bound (Gn.map (AL.ev S)) 0=some p) (hq:bound (eb.map (AL.ev S)) len=some q) (h0:0<=p) (h1:p<=q) (h2:q<=len) (sl:Bool):
  (Instr.sliceBounds sl len cap (lo.map a.eval) (hi.map a.eval) none).run P w=.ok (p.toNat,q.toNat,cap) w:=by
 have hh:∀code,(match hi.map a.eval with|some v=>Instr.sliceBound v cap code|none=>(pure len:Sem Nat)).run P w=.ok q.toNat w:=by
  intro code
  cases hi with
  |none=>
   cases DU;simp only[Option.map_none,bound,adS]at hq;subst hq;simp
  |some x=>
   simp only[rk,adr]at DU;obtain⟨y,hy,rfl⟩:=DU;have hv:=R.ev hy (YA y rfl);simp only[Option.map_some,bound]at hq;generalize AL.ev S y=v at hq hv
   split at hq<;>simp only[adS,reduceCtorEq]at hq
   .simp_all
   .rename_i m hm;simp only[adS]at hm;subst hm;subst hq;simp only[Option.map_some];refine run_sliceBound ?_ (by omega) (by omega);generalize a.eval x=cx at hv;cases hv;rename_i hv;cases hv;rfl
 have hl:∀code,(match lo.map a.eval with|some v=>Instr.sliceBound v q.toNat code|none=>(pure 0:Sem Nat)).run P w=.ok p.toNat w:=by
  intro code
  cases lo with
  |none=>
   cases sj;simp only[Option.map_none,bound,adS]at hp;subst hp;simp
  |some x=>
   simp only[rk,adr]at sj;obtain⟨y,hy,rfl⟩:=sj;have hv:=R.ev hy (Y0 y rfl);simp only[Option.map_some,bound]at hp;generalize AL.ev S y=v at hp hv
   split at hp<;>simp only[adS,reduceCtorEq]at hp
   .simp_all
   .rename_i m hm;simp only[adS]at hm;subst hm;subst hp;simp only[Option.map_some];refine run_sliceBound ?_ (by omega) (by omega);generalize a.eval x=cx at hv;cases hv;rename_i hv;cases hv;rfl
 unfold Instr.sliceBounds
 cases hi with
 |none=>
  have h3:=hh .sliceB;simp only[Option.map_none]at h3⊢
  cases lo with
  |none=>have h4:=hl .sliceB;simp only[Option.map_none]at h4⊢;simp at h3 h4;simp[h3,h4]
  |some x=>have h4:=hl .sliceB;simp only[Option.map_some]at h4⊢;simp at h3;simp[h3,h4]
 |some y=>
  have h3:=λc=>hh c
  simp only[Option.map_some]at h3⊢
  cases lo with
  |none=>have h4:=hl .sliceB;simp only[Option.map_none]at h4⊢;simp at h4;simp[h3,h4]
  |some x=>have h4:=hl .sliceB;simp only[Option.map_some]at h4⊢;simp[h3,h4]
theorem OW (R:Rel P w0 n U g S H a w) {o:Oper} {t:TypeId} {x:Operand} {lo hi:Option Operand} {y:eA} {Gn eb:Option eA} {e:aQ} (ho:o.op = .slice t x lo hi none) (hd:∀ t,o.dst=some t→t < n∧¬ U t)
  (gE:P.underlying t=some .string) (hx:eO n x=some y) (hu:∀t∈y.tmps,¬U t) (sj:rk n lo=some Gn) (DU:rk n hi=some eb) (Y0:∀y∈Gn,∀t∈y.tmps,¬U t) (YA:∀y∈eb,∀t∈y.tmps,¬U t)
  (he:aH S H (.pG y Gn eb)=some e):eK P w0 n U g S H a w o e:=by
 have hv:=R.ev hx hu;simp only[aH]at he;generalize y9:AL.ev S y=q at he hv;generalize sk:a.eval x=c at hv
 cases hv<;>(try cases he;done)
 rename_i h
 cases h<;>simp only at he<;>try cases he
 rename_i l;split at he
 case h_2=>cases he
 rename_i p q hp hq;split at he
 case isFalse=>cases he
 rename_i hc;cases he;have hb:=IM R sj DU Y0 YA (len:=l.length) (adh _) hp hq hc.1 hc.2.1 hc.2.2 false
 refine eK.val R (λt h=>(hd t h).1) (c:=.string ⟨((l.take q.toNat).drop p.toNat).toArray⟩) ?_ (.data _ _ (.str _)) λ_=>trivial
 have kg:(Instr.sliceBounds false (⟨l.toArray⟩:ByteArray).size (⟨l.toArray⟩:ByteArray).size (lo.map a.eval) (hi.map a.eval) none).run P w=.ok (p.toNat,q.toNat,l.length) w:=hb;unfold execOp;simp only[ho,sk,Instr.sliceAt,ads,adH gE,Result.andThen_ok,Option.map_none,Instr.slice,Option.isSome_none,adl,adz,Sem.run_pure,kg];rw[ByteArray.extract_mk,List.drop_take]
theorem OB (R:Rel P w0 n U g S H a w) {o:Oper} {t el:TypeId} {i:TypeInfo} {x:Operand} {lo hi:Option Operand} {y:eA} {Gn eb:Option eA} {e:aQ} (ho:o.op = .slice t x lo hi none) (hd:∀ t,o.dst=some t→t < n∧¬ U t)
  (gE:P.underlying t=some (.slice el)) (Jr:P.info? el=some i) (hx:eO n x=some y) (hu:∀t∈y.tmps,¬U t) (sj:rk n lo=some Gn) (DU:rk n hi=some eb) (Y0:∀y∈Gn,∀t∈y.tmps,¬U t) (YA:∀y∈eb,∀t∈y.tmps,¬U t)
  (he:aH S H (.mS i.size y Gn eb)=some e):eK P w0 n U g S H a w o e:=by
 have hv:=R.ev hx hu;simp only[aH]at he;generalize y9:AL.ev S y=q at he hv;generalize sk:a.eval x=c at hv
 cases hv<;>(try cases he;done)
 rename_i h
 have key:∀ (es:List AV) (ad:Option Addr) (cap:Nat),es.length≤cap→c = .slice ad es.length cap→∀ p q:Int,bound (Gn.map (AL.ev S)) 0=some p→bound (eb.map (AL.ev S)) es.length=some q→0≤p→p≤q→q≤es.length →
   (execOp a.eval o).run P w=.ok (.value (.slice (if cap=p.toNat then ad else ad.map (·.add (p.toNat*i.size))) (q.toNat-p.toNat) (cap-p.toNat))) w:=by
  rintro es ad cap fF rfl p q hp hq h0 h1 h2;have hb:=IM R sj DU Y0 YA fF hp hq h0 h1 h2 true;unfold execOp;simp[ho,sk,Instr.sliceAt,ads,adH gE,Instr.slice,hb,sizeOf,typeInfo,Jr]
 cases h with
 |jU oo=>
  simp only at he;split at he
  case h_2=>cases he
  rename_i p q hp hq;split at he
  case isFalse=>cases he
  rename_i hc;cases he;have hk:=key [] none 0 (adh _) rfl p q hp hq hc.1 hc.2.1 hc.2.2.1
  have U_:q.toNat=0:=by have:=hc.2.2.1;simp at this;omega
  have Py:p.toNat=0:=by have:=hc.2.1;omega
  refine eK.val R (λt h=>(hd t h).1) hk (.data _ _ ?_) λ_=>trivial
  simp[U_,Py];exact .jU _
 |kV oo a0=>
  simp only at he;split at he
  case h_2=>cases he
  rename_i p q hp hq;split at he
  case isFalse=>cases he
  rename_i hc;cases he;have hk:=key [] (some a0) 0 (adh _) rfl p q hp hq hc.1 hc.2.1 hc.2.2.1
  have U_:q.toNat=0:=by have:=hc.2.2.1;simp at this;omega
  have Py:p.toNat=0:=by have:=hc.2.1;omega
  refine eK.val R (λt h=>(hd t h).1) hk (.data _ _ ?_) λ_=>trivial
  simp[U_,Py];exact .kV _ _
 |slice oo es b off cap size cs fF tC bq h1 nw hr=>
  simp only at he;split at he
  case h_2=>cases he
  rename_i p q hp hq;split at he
  case isFalse=>cases he
  rename_i hc;cases he;have hk:=key es (some ⟨b,off,none⟩) cap fF rfl p q hp hq hc.1 hc.2.1 hc.2.2.1;have cP:=sM.1 hc.2.2.2
  have hlq:q.toNat<=es.length:=by have:=hc.2.2.1;omega
  have hpq:p.toNat<=q.toNat:=by have:=hc.2.1;omega
  have hlen:((es.take q.toNat).drop p.toNat).length=q.toNat-p.toNat:=by simp;omega
  refine eK.val R (λt h=>(hd t h).1) hk (.data _ _ ?_) λ_=>trivial
  by_cases hm:cap=p.toNat
  .rw[if_pos hm];have Ed:(es.take q.toNat).drop p.toNat=[]:=adQ (by omega);rw[Ed,show q.toNat-p.toNat=([]:List AV).length by simp;omega];exact .slice _ [] b off _ 0 cs (adZ _) (λh=>by cases h) (λi h=>by simp at h) (λi h=>by simp at h) (λk hk=>by simp at hk) (λi h=>by simp at h)
  .rw[if_neg hm];simp only[Option.map_some,aev];rw[<-hlen]
   have iJ:∀j (h:j<((es.take q.toNat).drop p.toNat).length),((es.take q.toNat).drop p.toNat)[j]=es[p.toNat+j]'(by rw[hlen]at h;omega):=by intro j h;simp
   by_cases nU:es=[]
   .subst nU
    have Ed:(([]:List AV).take q.toNat).drop p.toNat=[]:=by simp
    rw[Ed];exact .slice _ [] b _ _ 0 cs (adZ _) (λh=>by cases h) (λi h=>by simp at h) (λi h=>by simp at h) (λk hk=>by simp at hk) (λi h=>by simp at h)
   .have gf:0<es.length:=adV.2 nU
    have hss:size=i.size:=by rw[<-bq 0 gf];exact(cP _ (ada gf)).2
    subst hss;refine .slice _ _ b _ _ i.size (λk=>cs (p.toNat*i.size+k)) (by omega) (λh=>by cases h) (λj h=>by rw[iJ j h];exact bq _ _) (λj h k hk=>by have:=iJ j h;simp only[this]at hk⊢;exact h1 _ _ k hk) (λk hk=>?_) (λj h k hk=>?_)
    .rw[hlen]at hk
     have:p.toNat*i.size+k<es.length*i.size:=by
      calc p.toNat*i.size+k<p.toNat*i.size+(q.toNat-p.toNat)*i.size:=by omega
       _=q.toNat*i.size:=by rw[<-ae9];congr 1;omega
       _<=es.length*i.size:=aeK _ hlq
     have:=nw _ this;rwa [<-afJ]at this
    .have e:=iJ j h;simp only[e]at hk⊢;have:=hr (p.toNat+j) (by rw[hlen]at h;omega) k hk;rwa [ae9,afJ]at this
 |_=>cases he
theorem IY (R:Rel P w0 n U g S H a w) {o:Oper} {neg:Bool} {t t' el:TypeId} {x:Operand} {y:eA} {e:aQ} (ho:o.op = .binOp (if neg then .neq else .eql) t x (.const (.slice none 0 0)) t') (hd:∀ t,o.dst=some t→t < n∧¬ U t)
  (ht:P.underlying t=some (.slice el)) (hx:eO n x=some y) (hu:∀t∈y.tmps,¬U t) (he:aH S H (.isNil neg y)=some e):eK P w0 n U g S H a w o e:=by
 have hv:=R.ev hx hu;simp only[aH]at he;generalize y9:AL.ev S y=q at he hv;generalize sk:a.eval x=c at hv
 have run:∀ad l k,c=.slice ad l k->(execOp a.eval o).run P w=.ok (.value (.bool (if neg then !ad.isNone else ad.isNone))) w:=by
  rintro ad l k rfl;have hg:=jR (P:=P) (w:=w) (if neg then .neq else .eql) t x (.const (.slice none 0 0)) (.slice ad l k) (.slice none 0 0) rfl
  have hE:(Op.equal t (.slice ad l k) (.slice none 0 0)).run P w=.ok ad.isNone w:=by
   unfold Op.equal Op.maxDepth Op.equalIn
   cases ad<;>simp[adH ht]
  have abd:a.eval (.const (.slice none 0 0))=.slice none 0 0:=rfl;cases neg
  .simp only[adl,adz]at ho hg⊢;simp[execOp,ho,sk,abd,hg,binOp,hE]
  .simp only[adJ]at ho hg⊢;simp[execOp,ho,sk,abd,hg,binOp,hE]
 cases hv<;>(try cases he;done)
 rename_i h
 cases h<;>simp only at he<;>try cases he
 .exact eK.val R (λt h=>(hd t h).1) (run _ _ _ rfl) (.data _ _ (.pX _)) λ_=>trivial
 .exact eK.val R (λt h=>(hd t h).1) (run _ _ _ rfl) (.data _ _ (.pX _)) λ_=>trivial
 .rename_i oo es b off cap sz cs fF tC bq h1 hc hr
  refine eK.val R (λt h=>(hd t h).1) (run _ _ _ rfl) (.data _ _ ?_) λ_=>by cases es<;>trivial
  cases es
  .exact .pX _
  .simp only[List.isEmpty_cons,adl,adz,Option.isNone_some,agz]
   cases neg<;>exact .bool _
theorem Q0 (R:Rel P w0 n U g S H a w) {o:Oper} {t el:TypeId} {i:TypeInfo} {e:aQ} (ho:o.op = .buildSlice t 0 #[]) (hd:∀ t,o.dst=some t→t < n∧¬ U t)
  (gE:P.underlying t=some (.slice el)) (hi:P.info? el=some i) (he:aH S H (.empty el)=some e):eK P w0 n U g S H a w o e:=by
 cases he;have hb:Below w.heap.size w (w.alloc (.cells #[] el)):=(aeb _ _).alloc (adh _) _;refine⟨.slice (some ⟨w.heap.size,0,none⟩) 0 0,w.alloc (.cells #[] el),g,.inl ?_,rfl,rfl,(R.kS hb).aT o.dst _ _ (λt h=>(hd t h).1) (.data _ _ ?_) λ_ _=>trivial⟩
 .unfold execOp;have hz:(Array.map (λ_:Nat=>(default:Value)) (Array.range 0))=#[]:=aeG (by simp);simp[ho,Instr.buildSlice,adH gE,sizeOf,typeInfo,hi,Instr.fill,newRow,hz]
 .exact .slice _ [] _ 0 0 0 (λ_=>undef) (adZ _) (λ_=>rfl) (λi h=>by simp at h) (λi h=>by simp at h) (λk hk=>by simp at hk) (λi h=>by simp at h)
theorem Qg (R:Rel P w0 n U g S H a w) {o:Oper} {xt t:TypeId} {dt:TypeDesc} {i:TypeInfo} {z:Value} {zs:List AV} {x:Operand} {y:eA} {e:aQ} (ho:o.op = .typeAssert x xt t true) (hd:∀ t,o.dst=some t→t < n∧¬ U t)
  (ht:P.underlying t=some dt) (GU:∀ms,dt≠.interface ms) (hi:P.info? t=some i) (hz:i.zero=some (.agg z.cells)) (vS:l7 z.cells.toList=some zs) (hx:eO n x=some y) (hu:∀t∈y.tmps,¬U t)
  (he:aH S H (.assert t (.agg zs) y)=some e):eK P w0 n U g S H a w o e:=by
 have hv:=R.ev hx hu;simp only[aH]at he;generalize y9:AL.ev S y=q at he hv;generalize sk:a.eval x=c at hv;have Sx:=(lA g.Pr w vS).1;have hzd:RD g.Pr w (.agg zs) (.agg z.cells):=.agg _ _ (by simpa using Sx.1) Sx.2.2 (λi h h'=>by simpa using Sx.2.1 i h (by simpa using h'))
 have two:∀(v:AV)(c:Value)(b:Bool),RD g.Pr w v c->RD g.Pr w (.dN [v,.bool b]) (.tuple #[c,.bool b]):=by
  intro v c b h
  refine .dN _ _ rfl λi hi eb=>?_
  match i,hi with
  |0,_=>exact h
  |1,_=>exact .bool b
 cases hv<;>(try cases he;done)
 rename_i h
 cases h<;>simp only at he<;>try cases he
 .rename_i t' v c' h
  refine eK.val R (λt h=>(hd t h).1) (c:=if t'=t then .tuple #[c',.bool true]else .tuple #[.agg z.cells,.bool false]) ?_ (.data _ _ ?_) λ_=>by split<;>trivial
  .unfold execOp;simp only[ho,sk,Instr.typeAssert,ads,adH ht,Result.andThen_ok]
   cases dt<;>first|exact absurd rfl (GU _)|skip
   all_goals (split<;>simp[zeroValue,typeInfo,hi,hz])
  .split
   .exact two _ _ _ h
   .exact two _ _ _ hzd
 .refine eK.val R (λt h=>(hd t h).1) (c:=.tuple #[.agg z.cells,.bool false]) ?_ (.data _ _ (two _ _ _ hzd)) λ_=>trivial
  unfold execOp;simp only[ho,sk,Instr.typeAssert,ads,adH ht,Result.andThen_ok]
  cases dt<;>first|exact absurd rfl (GU _)|skip
  all_goals simp[zeroValue,typeInfo,hi,hz]
end
def DO(k:TypeId->Option Nat):List Field->Nat->Option Nat
 |[],acc=>some acc
 |f::fs,acc=>if f.name = "_" \/ f.offset≠acc then none else
  match k f.type with
  |some m=>DO k fs (acc+m)
  |none=>none
def rC(P:Program):Nat->TypeId->Option Nat
 |0,_=>none
 |d+1,t=>match P.underlying t,P.info? t with
  |some (.int .i64),some i=>if i.size=1 then some 1 else none
  |some (.struct fs),some i=>if P.stoodInHeld t=false/\DO (rC P d) fs.toList 0=some i.size then some i.size else none
  |_,_=>none
def kv(l:List Int):Array Value:=(l.map (Value.int .i64)).toArray
def vq(P:Program)(t:TypeId)(l:List Int):Value:=
 match P.underlying t with
 |some (.int _)=>.int .i64 (l.headD 0)
 |_=>.agg (kv l)
section
variable{P:Program}{w:World}
theorem Hf {d:Nat} {t:TypeId} {k:Nat} (h:rC P d t=some k) (l:List Int) (off:Nat) (hl:off+k≤l.length) :
  (part t (kv l) off).run P w=.ok (vq P t ((l.drop off).take k)) w:=by
 cases d with
 |zero=>cases h
 |succ d=>
  simp only[rC]at h;split at h
  .rename_i i hu hi
   split at h<;>cases h
   rename_i hs
   have oU:(isAgg t).run P w=.ok false w:=by
    unfold isAgg;rw[ads,adH hu w];simp
   have au:off<l.length:=by omega
   have hhd:((l.drop off).take 1).headD 0=l[off]:=by
    rw[aek au];rfl
   simp only[part,ads,oU,Result.andThen_ok,adl,adz,vq,hu,hhd];simp[kv,au]
  .rename_i fs i hu hi
   split at h<;>cases h
   have oU:(isAgg t).run P w=.ok true w:=by
    unfold isAgg;rw[ads,adH hu w];simp
   simp only[part,ads,oU,Result.andThen_ok,adJ,vq,hu];simp only[sizeOf,typeInfo,ads];simp[kv,afK,af1,hi]
  .cases h
theorem SS(a b:List Int)(k:Nat)(h:a.length=b.length):(a==b)=((a.take k==b.take k)&&(a.drop k==b.drop k)):=by
 rw[ad7];simp only[adb,adX]
 constructor
 .rintro rfl;exact⟨rfl,rfl⟩
 .rintro⟨h1,h2⟩;rw[<-aeq k a,<-aeq k b,h1,h2]
theorem F9 {d:Nat} (ih:∀ t k,rC P d t=some k→∀ a b:List Int,a.length=k→b.length=k→(Op.equalIn d t (vq P t a) (vq P t b)).run P w = .ok (a==b) w) :
  ∀(fs:List Field)(acc mc:Nat),DO (rC P d) fs acc=some mc->∀l m:List Int,l.length=mc->m.length=mc->
   acc<=mc/\(Op.eqFields d (kv l) (kv m) fs).run P w=.ok (l.drop acc==m.drop acc) w
 |[],acc,mc,h,l,m,hl,hm=>by
  cases h;refine⟨adh _,?_⟩;have e1:l.drop acc=[]:=aes (by omega);have e2:m.drop acc=[]:=aes (by omega);rw[e1,e2];simp[Op.eqFields]
 |f::fs,acc,mc,h,l,m,hl,hm=>by
  simp only[DO]at h;split at h
  case isTrue=>cases h
  rename_i hn;simp only[not_or,ne_eq,agE]at hn;split at h
  case h_2=>cases h
  rename_i k hk;obtain⟨hle,F'⟩:=F9 ih fs (acc+k) mc h l m hl hm;refine⟨by omega,?_⟩;have e1:=Hf (w:=w) hk l acc (by omega);have e2:=Hf (w:=w) hk m acc (by omega);have e3:=ih f.type k hk ((l.drop acc).take k) ((m.drop acc).take k) (by simp;omega) (by simp;omega);simp only[Op.eqFields,ne_eq,hn.1,not_false_eq_true,adJ,hn.2,ads,e1,e2,Result.andThen_ok,e3];rw[SS (l.drop acc) (m.drop acc) k (by simp;omega)];rw[afb,afb];generalize((l.drop acc).take k==(m.drop acc).take k)=q
  cases q with
  |false=>simp
  |true=>simpa using F'
theorem Co:∀(d:Nat)(t:TypeId)(k:Nat),rC P d t=some k->∀a b:List Int,a.length=k->b.length=k->(Op.equalIn d t (vq P t a) (vq P t b)).run P w=.ok (a==b) w
 |0,t,k,h,a,b,ha,hb=>by cases h
 |d+1,t,k,h,a,b,ha,hb=>by
  simp only[rC]at h;split at h
  .rename_i i hu hi
   split at h<;>cases h
   match a,ha,b,hb with
   |[x],_,[y],_=>
    simp only[vq,hu];rw[run_equalIn_int w d t .i64 .i64 _ _ hu];simp
  .rename_i fs i hu hi
   split at h<;>cases h
   rename_i hc
   have hf:P.fieldsOf t=fs:=by simp[Program.fieldsOf,hu]
   simp only[vq,hu];rw[run_equalIn_struct w d t _ _ (by rw[hf];exact hu) hc.1,hf];exact(F9 (Co d) fs.toList 0 i.size hc.2 a b ha hb).2
  .cases h
theorem xx {Pr:Nat→Nat→Prop}:∀ {xs:List AV} {a:List Int},ny xs=some a→∀ {vs:List Value},xs.length=vs.length →
  (∀i (h:i<xs.length)(h':i<vs.length),RD Pr w xs[i] vs[i])->vs=a.map (Value.int .i64)/\a.length=xs.length
 |[],a,h,vs,hl,hr=>by
  cases h;have:vs=[]:=aeP.1 hl.symm;subst this;exact⟨rfl,rfl⟩
 |x::xs,a,h,vs,hl,hr=>by
  cases vs with
  |nil=>simp at hl
  |cons v vs=>
   unfold ny at h;split at h
   .rename_i e;cases e
   .rename_i n cs e;cases e;simp only[adr]at h;obtain⟨a',ha,rfl⟩:=h;have h0:=hr 0 (by simp) (by simp);simp only[List.getElem_cons_zero]at h0;cases h0;obtain⟨h1,h2⟩:=xx ha (by simpa using hl) (λi h h'=>hr (i+1) (by simpa using h) (by simpa using h'));rw[h1];exact⟨rfl,by simp[h2]⟩
   .cases h
variable{w0:World}{n:Nat}{U:Nat->Prop}{g:Gh}{S:av}{H:aD}{a:Act}
theorem N6 (R:Rel P w0 n U g S H a w) {o:Oper} {neg:Bool} {k:Nat} {t t':TypeId} {fs:Array Field} {x1 x2:Operand} {y1 y2:eA} {e:aQ} (ho:o.op = .binOp (if neg then .neq else .eql) t x1 x2 t') (hd:∀ t,o.dst=some t→t < n∧¬ U t)
  (gE:P.underlying t=some (.struct fs)) (hk:rC P 10000 t=some k) (Gy:P.eqGuardType P.depth t=false) (qU:eO n x1=some y1) (pc:eO n x2=some y2) (vD:∀t∈y1.tmps,¬U t) (vN:∀t∈y2.tmps,¬U t)
  (he:aH S H (.eqs neg k y1 y2)=some e):eK P w0 n U g S H a w o e:=by
 have iS:=R.ev qU vD;have ic:=R.ev pc vN;simp only[aH]at he;generalize AL.ev S y1=p1 at he iS;generalize AL.ev S y2=p2 at he ic;generalize mO:a.eval x1=c1 at iS;generalize nF:a.eval x2=c2 at ic;split at he
 case h_2=>cases he
 rename_i xs ys;split at he
 case h_2=>cases he
 rename_i Jz bs ha hb
 split at he<;>cases he
 rename_i hlen;have q1:=iS.fj rfl;have q2:=ic.fj rfl;cases q1;rename_i vs hl h1 hr;cases q2;rename_i us pz DY jE;obtain⟨e1,_⟩:=xx (vs:=vs.toList) ha (by simpa using hl) (λi h h'=>by simpa using hr i h (by simpa using h'));obtain⟨e2,_⟩:=xx (vs:=us.toList) hb (by simpa using pz) (λi h h'=>by simpa using jE i h (by simpa using h'))
 have f1:vs=kv Jz:=by rw[kv,<-e1]
 have f2:us=kv bs:=by rw[kv,<-e2]
 subst f1 f2;have hE:=Co (P:=P) (w:=w) 10000 t k hk Jz bs hlen.1 hlen.2;simp only[vq,gE]at hE;have hg:=run_eqGuard_agg w (if neg then .neq else .eql) t x1 x2 (kv Jz) (kv bs) Gy
 refine eK.val R (λt h=>(hd t h).1) (c:=.bool (if neg then Jz !=bs else Jz==bs)) ?_ (.data _ _ (.bool _)) λ_=>trivial
 cases neg with
 |true=>
  simp only[adJ]at ho hg⊢;simp[execOp,ho,mO,nF,hg,run_neq_struct,hE,bne,ads]
 |false=>
  simp only[adl,adz]at ho hg⊢;simp[execOp,ho,mO,nF,hg,run_eql_struct,hE,ads]
end
section
variable{P:Program}{w0:World}{n:Nat}{U:Nat->Prop}{g:Gh}{S:av}{H:aD}{a:Act}{w:World}
theorem PG (R:Rel P w0 n U g S H a w) {o:Oper} {t el:TypeId} {len:Nat} {it ie:TypeInfo} {z:Value} {ps:Array (Nat×Operand)} {zs:List AV} {qs:List (Nat×Nat×eA)} {e:aQ} (ho:o.op = .build t ps) (hd:∀ t,o.dst=some t→t < n∧¬ U t)
  (hi:P.info? t=some it) (gE:P.underlying t=some (.array len el)) (hz:it.zero=some z) (Ir:P.info? el=some ie) (vS:l7 z.cells.toList=some zs) (hq:AB n (λi=>some (i*ie.size,ie.size)) ps.toList=some qs)
  (hu:∀q∈qs,∀t∈q.2.2.tmps,¬U t) (he:aH S H (.build (zs.map AV.aG) qs)=some e):eK P w0 n U g S H a w o e:=by
 simp only[aH,adr]at he;obtain⟨gM,hc,rfl⟩:=he;have TR:=(lA g.Pr w vS).1
 have SM:vh g.Pr w (zs.map AV.aG) z.cells:=by
  refine⟨by simpa using TR.1,λi h h'=>?_,λi h=>?_⟩
  .simp only[adi]at h;have:=(TR.2.1 i h (by simpa using h')).aG;simpa using this
  .simp only[adi]at h;have:=TR.2.2 i h;simp only[adp];exact(AV.uV _).trans this
 obtain⟨pJ,h1,h2⟩:=Dt R hq hu SM hc
 have hb:P.built t (ps.map λ(i,x)=>(i,a.eval x)).toList=some pJ:=by
  unfold Program.built;simp only[hi,gE,hz,Ir,agI];exact h1
 refine eK.val R (λt h=>(hd t h).1) (c:=.agg pJ) ?_ (.data _ _ (.agg _ _ h2.1 h2.2.2 h2.2.1)) λ_=>trivial
 unfold execOp;simp only[ho,ads,agZ w t _ pJ hb,Result.andThen_ok]
 rfl
theorem RS {Pr:Nat→Nat→Prop} {ty:TypeId} {i:TypeInfo} {va:TypeDesc} (hi:P.info? ty=some i) (hu:P.underlying ty=some va) {cs:List AV} {vs:Array Value} {off:Nat} {v:AV}
  (hr:RD Pr w (.agg cs) (.agg vs)) (he:b0 (eS va) i.size (cs.drop off)=some v):∃c,(part ty vs off).run P w=.ok c w/\RD Pr w v c:=by
 cases hr;rename_i h1 hl hr
 have oU:(isAgg ty).run P w=.ok (eS va) w:=by
  unfold isAgg;rw[ads,adH hu w]
  cases va<;>simp[eS]
 generalize eS va=q at he oU
 cases q with
 |true=>
  simp only[b0,adJ,ad8]at he;split at he
  case isFalse=>cases he
  rename_i hle;cases he;refine⟨.agg (vs.extract off (off+i.size)),by simp[part,ads,oU,sizeOf,typeInfo,hi],?_⟩
  refine .agg _ _ (by simp;omega) (λk hk=>?_) λk hk dP=>?_
  .simp only[adi,adM,ad8]at hk;simp only[adp,afk,aeW];have:=h1 (off+k) (by omega);exact(AV.uV _).trans this
  .simp only[adi,adM,ad8]at hk;have:=(hr (off+k) (by omega) (by omega)).aG;simpa using this
 |false=>
  simp only[b0,adl,adz,adr]at he;obtain⟨v0,hv0,rfl⟩:=he;simp only[afr,Nat.add_zero]at hv0;obtain⟨h0,rfl⟩:=adE.1 hv0
  have hv:off<vs.size:=by omega
  exact⟨vs[off],by simp[part,ads,oU,hv],(hr off h0 hv).aG⟩
theorem PL (R:Rel P w0 n U g S H a w) {o:Oper} {t el:TypeId} {len:Nat} {ie:TypeInfo} {va:TypeDesc} {x1 x2:Operand} {y1 y2:eA} {e:aQ} (ho:o.op = .index t x1 x2) (hd:∀ t,o.dst=some t→t < n∧¬ U t)
  (gE:P.underlying t=some (.array len el)) (hi:P.info? el=some ie) (hue:P.underlying el=some va) (qU:eO n x1=some y1) (pc:eO n x2=some y2) (vD:∀t∈y1.tmps,¬U t) (vN:∀t∈y2.tmps,¬U t)
  (he:aH S H (.nx (eS va) len ie.size y1 y2)=some e):eK P w0 n U g S H a w o e:=by
 have iS:=R.ev qU vD;have ic:=R.ev pc vN;simp only[aH]at he;generalize AL.ev S y1=p1 at he iS;generalize AL.ev S y2=p2 at he ic;generalize mO:a.eval x1=c1 at iS;generalize nF:a.eval x2=c2 at ic;split at he
 case h_2=>cases he
 rename_i cs k;split at he
 case isFalse=>cases he
 rename_i hk;simp only[adr]at he;obtain⟨v,hv,rfl⟩:=he;have q1:=iS.fj rfl;have q2:=ic.fj rfl;cases q2;have q1':=q1;cases q1;obtain⟨c,h1,h2⟩:=RS (P:=P) hi hue q1' hv
 refine eK.val R (λt h=>(hd t h).1) (c:=c) ?_ (.data _ _ h2) λ_=>?_
 .simp only[execOp,ho,mO,nF,Instr.index,ads];simp[asIntOf,adH gE,hk,sizeOf,typeInfo,hi,ads,h1]
 .simp only[b0]at hv;split at hv
  .split at hv<;>cases hv;trivial
  .simp only[adr]at hv;obtain⟨u,_,rfl⟩:=hv;exact kP _ _ _
theorem Jf{Pr:Nat->Nat->Prop}:∀{es:List AV}{l:List UInt8},bytesOf es=some l->l.length=es.length/\∀j (h:j<es.length)(h':j<l.length),es[j]=.int .u8 (l[j].toNat:Int)
 |[],l,h=>by cases h;exact⟨rfl,λj h=>by simp at h⟩
 |x::es,l,h=>by
  unfold bytesOf at h;split at h
  .rename_i e;cases e
  .rename_i m cs e;cases e;split at h
   case isFalse=>cases h
   rename_i hm;simp only[adr]at h;obtain⟨l',hl,rfl⟩:=h;obtain⟨h1,h2⟩:=Jf (Pr:=Pr) hl;refine⟨by simp[h1],λj hj dY=>?_⟩
   cases j with
   |zero=>
    simp only[List.getElem_cons_zero]
    have:((UInt8.ofNat m.toNat).toNat:Int)=m:=by
     have h3:m.toNat<256:=by omega
     simp[UInt8.toNat_ofNat',Nat.mod_eq_of_lt h3];omega
    rw[this]
   |succ j=>simpa using h2 j (by simpa using hj) (by simpa using dY)
  .cases h
theorem UM (R:Rel P w0 n U g S H a w) {o:Oper} {s d el:TypeId} {x:Operand} {y:eA} {e:aQ} (ho:o.op = .convert s d x) (hd:∀ t,o.dst=some t→t < n∧¬ U t)
  (hs:P.underlying s=some (.slice el)) (Au:P.underlying el=some (.int .u8)) (Hj:P.underlying d=some .string) (hx:eO n x=some y) (hu:∀t∈y.tmps,¬U t)
  (he:aH S H (.zr y)=some e):eK P w0 n U g S H a w o e:=by
 have hv:=R.ev hx hu;simp only[aH]at he;generalize AL.ev S y=p at he hv;generalize hc:a.eval x=c at hv;split at he
 case h_2=>cases he
 rename_i ow es;simp only[adr]at he;obtain⟨l,hl,rfl⟩:=he;obtain⟨hlen,iJ⟩:=Jf (Pr:=g.Pr) hl;have q:=hv.fj rfl
 cases q with
 |jU=>
  have:l=[]:=aeP.1 (by simpa using hlen);subst this
  refine eK.val R (λt h=>(hd t h).1) (c:=.string ByteArray.empty) ?_ (.data _ _ (.str [])) λ_=>trivial
  simp[execOp,ho,hc,run_convert_bytes_nil w s el hs Au 0 0 d Hj]
 |kV _ a0=>
  have:l=[]:=aeP.1 (by simpa using hlen);subst this
  refine eK.val R (λt h=>(hd t h).1) (c:=.string ByteArray.empty) ?_ (.data _ _ (.str [])) λ_=>trivial
  have No:(convert s d (.slice (some a0) 0 0)).run P w=.ok (.string ByteArray.empty) w:=by
   rw[run_convert_bytes_string w s d el _ 0 0 hs Au Hj];simp[Conv.bytesToString,loadCells,loadCellsFrom]
  simp[execOp,ho,hc,No]
 |slice _ _ b off cap size cs fF tC bq h1 fo hr=>
  refine eK.val R (λt h=>(hd t h).1) (c:=.string ⟨l.toArray⟩) ?_ (.data _ _ (.str l)) λ_=>trivial
  have No:=run_convert_bytes_back (P:=P) w s d el ⟨b,off,none⟩ cap l hs Au Hj (λj hj=>by
   have dY:j<es.length:=by omega
   have e1:=iJ j dY hj;have vR:=bq j dY
   have ni:(es[j]).cells.length=1:=by rw[e1];rfl
   have RF:size=1:=by rw[<-vR,ni]
   subst RF;have h2:=fo j (by omega);have h3:=hr j dY 0 (by rw[ni];omega)
   have h4:(es[j]).cells[0]'(by rw[ni];omega)=.int .u8 (l[j].toNat:Int):=by
    have:∀(v:AV)(hh:0<v.cells.length)(q:AV),v=q->(h':0<q.cells.length)->v.cells[0]=q.cells[0]:=by rintro v hh q rfl _;rfl
    rw[this _ _ _ e1 (by simp[AV.cells])]
    rfl
   rw[h4]at h3;simp only[aeD,Nat.add_zero]at h3;rw[aev,h2.2];generalize cs j=u at h3;cases h3
   rfl)
  rw[hlen]at No;simp[execOp,ho,hc,No]
end
section
variable{P:Program}{w:World}
theorem BA{α:Type}(f:α->PUnit->Sem (ForInStep PUnit)):∀(l:List α),(∀x∈l,(f x PUnit.unit).run P w=.ok (ForInStep.yield PUnit.unit) w)->(forIn l PUnit.unit f:Sem PUnit).run P w=.ok PUnit.unit w
 |[],_=>by simp
 |x::l,h=>by
  simp only[List.forIn_cons,ads,h x adt,Result.andThen_ok]
  exact BA f l λy hy=>h y (ado _ hy)
theorem IL{k:TypeId->Option Nat}:∀{fs:List Field}{acc mc:Nat},DO k fs acc=some mc->acc<=mc/\∀f∈fs,∃m,k f.type=some m/\f.offset+m<=mc
 |[],acc,mc,h=>by cases h;exact⟨adh _,λ_ h=>by cases h⟩
 |f::fs,acc,mc,h=>by
  simp only[DO]at h;split at h
  case isTrue=>cases h
  rename_i hn;simp only[not_or,ne_eq,agE]at hn;split at h
  case h_2=>cases h
  rename_i m hm;obtain⟨h1,h2⟩:=IL h;refine⟨by omega,λf' yH=>?_⟩;rcases ad6.1 yH with rfl|yH
  .exact⟨m,hm,by omega⟩
  .exact h2 f' yH
theorem CX(b:Bool):∀(d:Nat)(t:TypeId)(k:Nat),rC P d t=some k->∀a:List Int,a.length=k->(Instr.checkKey b d t (vq P t a)).run P w=.ok () w
 |0,t,k,h,a,ha=>by cases h
 |d+1,t,k,h,a,ha=>by
  simp only[rC]at h;split at h
  .rename_i i hu hi;simp[Instr.checkKey,adH hu,vq,hu]
  .rename_i fs i hu hi
   split at h<;>cases h
   rename_i hc;obtain⟨_,hm⟩:=IL hc.2;simp only[Instr.checkKey,ads,adH hu,Result.andThen_ok,vq,hu];rw[<-Array.forIn_toList];rw[BA (P:=P) (w:=w)]
   .simp
   .intro f hf;obtain⟨m,h1,h2⟩:=hm f hf;rw[Sem.run_ite];split
    .simp only[ads,Hf (w:=w) h1 a f.offset (by omega),Result.andThen_ok,CX b d f.type m h1 ((a.drop f.offset).take m) (by simp;omega),Sem.run_pure]
    .simp
  .cases h
theorem qk {kt:TypeId} {fs:Array Field} {k:Nat} (hu:P.underlying kt=some (.struct fs)) (hk:rC P 10000 kt=some k) {Pr:Nat→Nat→Prop} (key:List Int) (hl:key.length=k) :
  ∀(ks vs:List AV)(es:List MapEntry)(i:Nat)(r:Option AV),ks.length=es.length->vs.length=es.length->(∀j (h:j<ks.length)(h':j<es.length),RD Pr w ks[j] (es[j]).key)->(∀j (h:j<vs.length)(h':j<es.length),RD Pr w vs[j] (es[j]).val)->
   oF key ks vs=some r->∃q,(Instr.findAsking kt (.agg (kv key)) es i).run P w=.ok q w/\(match r,q with
    |none,none=>True
    |some v,some (_,c)=>RD Pr w v c
    |_,_=>False)
 |[],vs,es,i,r,h1,h2,_,_,h=>by
  have:es=[]:=aeP.1 h1.symm;subst this;cases h;exact⟨none,by simp[Instr.findAsking],trivial⟩
 |kk::ks,vs,[],i,r,h1,_,_,_,_=>by simp at h1
 |kk::ks,[],e::es,i,r,_,h2,_,_,_=>by simp at h2
 |kk::ks,v::vs,e::es,i,r,h1,h2,hr,jE,h=>by
  unfold oF at h;split at h
  .rename_i e1;cases e1
  .rename_i c ks' v' pJ e1 e2;cases e1;cases e2;split at h
   case h_2=>cases h
   rename_i m hm;split at h
   case isTrue=>cases h
   rename_i vK;simp only[ne_eq,agE]at vK;have h0:=hr 0 (by simp) (by simp);simp only[List.getElem_cons_zero]at h0;have BL:=h0;generalize hek:e.key=ek at h0;cases h0;rename_i us h3 h4 h5;obtain⟨e3,_⟩:=xx (vs:=us.toList) hm (by simpa using h3) (λi h h'=>by simpa using h5 i h (by simpa using h'))
   have f1:us=kv m:=by rw[kv,<-e3]
   have hE:=Co (P:=P) (w:=w) 10000 kt k hk key m hl (by omega);simp only[vq,hu]at hE;rw[<-f1]at hE
   have hE':(Op.equal kt (.agg (kv key)) e.key).run P w=.ok (key==m) w:=by rw[hek];exact hE
   split at h
   .rename_i hb;cases h;exact⟨some (i,e.val),by simp[Instr.findAsking,hE',hb],jE 0 (by simp) (by simp)⟩
   .rename_i hb;obtain⟨q,q1,q2⟩:=qk hu hk key hl ks vs es (i+1) r (by simpa using h1) (by simpa using h2) (λj h h'=>hr (j+1) (by simpa using h) (by simpa using h')) (λj h h'=>jE (j+1) (by simpa using h) (by simpa using h')) h;exact⟨q,by simp[Instr.findAsking,hE',hb,q1],q2⟩
  .cases h
variable{w0:World}{n:Nat}{U:Nat->Prop}{g:Gh}{S:av}{H:aD}{a:Act}
theorem OP (R:Rel P w0 n U g S H a w) {o:Oper} {t kt el:TypeId} {fs:Array Field} {k:Nat} {ie:TypeInfo} {z:Value} {zs:List AV} {x1 x2:Operand} {y1 y2:eA} {e:aQ} (ho:o.op = .lookup t x1 x2 true) (hd:∀ t,o.dst=some t→t < n∧¬ U t)
  (gE:P.underlying t=some (.map kt el)) (hu:P.underlying kt=some (.struct fs)) (hk:rC P 10000 kt=some k) (hi:P.info? el=some ie) (hz:ie.zero=some (.agg z.cells)) (vS:l7 z.cells.toList=some zs)
  (qU:eO n x1=some y1) (pc:eO n x2=some y2) (vD:∀t∈y1.tmps,¬U t) (vN:∀t∈y2.tmps,¬U t)
  (he:aH S H (.lookup k (.agg zs) y1 y2)=some e):eK P w0 n U g S H a w o e:=by
 have iS:=R.ev qU vD;have ic:=R.ev pc vN;simp only[aH]at he;generalize AL.ev S y1=p1 at he iS;generalize AL.ev S y2=p2 at he ic;generalize mO:a.eval x1=c1 at iS;generalize nF:a.eval x2=c2 at ic;have Sx:=(lA g.Pr w vS).1;have hzd:RD g.Pr w (.agg zs) (.agg z.cells):=.agg _ _ (by simpa using Sx.1) Sx.2.2 (λi h h'=>by simpa using Sx.2.1 i h (by simpa using h'))
 have two:∀(v:AV)(c:Value)(b:Bool),RD g.Pr w v c->RD g.Pr w (.dN [v,.bool b]) (.tuple #[c,.bool b]):=by
  intro v c b h
  refine .dN _ _ rfl λi hi eb=>?_
  match i,hi with
  |0,_=>exact h
  |1,_=>exact .bool b
 split at he
 case h_2=>cases he
 rename_i ks vs c;split at he
 case h_2=>cases he
 rename_i key acH;split at he
 case isFalse=>cases he
 rename_i hl;have q2:=ic.fj rfl;cases q2;rename_i us h3 h4 h5;obtain⟨e3,_⟩:=xx (vs:=us.toList) acH (by simpa using h3) (λi h h'=>by simpa using h5 i h (by simpa using h'))
 have f1:us=kv key:=by rw[kv,<-e3]
 subst f1
 have xB:(match P.underlying kt with|some (.array _ _)|some (.struct _)=>true|_=>false)=true:=by rw[hu]
 have q1:=iS.fj rfl
 obtain ⟨es,nU,Uh,ju,Hz,hk4⟩:∃ es:Array MapEntry,(∀ K:Array MapEntry→Sem Value,((do
    let es<-match c1 with
     |.map none=>pure #[]
     |.map (some r)=>do
      let .map es _ <-getObj r | stuck "Lookup: map expected"
      pure es
     |_=>stuck "Lookup: map expected"
    K es):Sem Value).run P w=(K es).run P w)/\ks.length=es.size/\vs.length=es.size/\(∀j (h:j<ks.length)(h':j<es.size),RD g.Pr w ks[j] (es[j]).key)/\(∀j (h:j<vs.length)(h':j<es.size),RD g.Pr w vs[j] (es[j]).val):=by
  cases q1 with
  |map _ _ b es clock hb hm hk hv hr jE=>
   exact⟨es,λK=>by simp[ads,af5 hm],hk,hv,hr,jE⟩
  |By=>exact⟨#[],λK=>by simp,rfl,rfl,λj h=>by simp at h,λj h=>by simp at h⟩
 have G1:=CX (P:=P) (w:=w) es.isEmpty 10000 kt k hk key hl;simp only[vq,hu]at G1
 have main:∀ r,oF key ks vs=some r→(execOp a.eval o).run P w = .ok (.value (match r with | some _ => .tuple #[(match (Instr.findAsking kt (.agg (kv key)) es.toList 0).run P w with | .ok (some (_,c)) _=>c | _=>undef),.bool true] | none => .tuple #[.agg z.cells,.bool false])) w ∧
   (∀v,r=some v->RD g.Pr w v (match(Instr.findAsking kt (.agg (kv key)) es.toList 0).run P w with|.ok (some (_,c)) _=>c|_=>undef)):=by
  intro r hr;obtain⟨q,q1,q2⟩:=qk (w:=w) (Pr:=g.Pr) hu hk key hl ks vs es.toList 0 r (by simpa using Uh) (by simpa using ju) (λj h h'=>by simpa using Hz j h (by simpa using h')) (λj h h'=>by simpa using hk4 j h (by simpa using h')) hr;have qH:=(run_findKey_eq (P:=P) (w:=w) xB (.agg (kv key)) es.toList).trans q1
  have dv:(Instr.lookup t c1 (.agg (kv key)) true).run P w=.ok (match q with|some (_,v)=>.tuple #[v,.bool true]|none=>.tuple #[.agg z.cells,.bool false]) w:=by
   unfold Instr.lookup;simp only[ads,adH gE,Result.andThen_ok]
   have:=nU (λes=>do
    Instr.checkKey es.isEmpty 10000 kt (.agg (kv key))
    let(v,ok)<-match<-Instr.findKey kt (.agg (kv key)) es.toList with
     |some (_,v)=>pure (v,true)
     |none=>pure (<-zeroValue el,false)
    pure (if true=true then .tuple #[v,.bool ok]else v))
   simp only[ads]at this;refine this.trans ?_;simp only[G1,Result.andThen_ok,qH]
   cases q with
   |none=>simp[zeroValue,typeInfo,hi,hz]
   |some p=>simp
  refine⟨?_,?_⟩
  .unfold execOp;simp only[ho,mO,nF,ads,dv,Result.andThen_ok,q1]
   cases r<;>cases q<;>first|exact q2.elim|rfl
  .rintro v rfl;rw[q1]
   cases q with
   |none=>exact q2.elim
   |some p=>exact q2
 split at he
 .rename_i v hv;cases he;obtain⟨m1,m2⟩:=main _ hv
  exact eK.val R (λt h=>(hd t h).1) m1 (.data _ _ (two _ _ _ (m2 v rfl).aG)) λ_=>trivial
 .rename_i hv;cases he;obtain⟨m1,m2⟩:=main _ hv
  exact eK.val R (λt h=>(hd t h).1) m1 (.data _ _ (two _ _ _ hzd)) λ_=>trivial
 .cases he
end
section
variable{P:Program}{w0:World}{n:Nat}{U:Nat->Prop}{g:Gh}{S:av}{H:aD}{a:Act}{w:World}
theorem Wg{Pr:Nat->Nat->Prop}{al:Nat->Option Nat}{v:AV}{c:Value}(h:RV Pr al w v c)(hf:Cg v=true):c.cells=#[c]:=by
 cases h with
 |data v c h=>
  cases h with
  |val c hc=>cases c<;>first|rfl|cases hc
  |_=>cases hf
 |func=>rfl
 |box=>cases hf
 |j0=>cases hf
 |br=>cases hf
theorem Qm (R:Rel P w0 n U g S H a w) {o:Oper} {t el:TypeId} {len:Nat} {it ie:TypeInfo} {z:Value} {ps:Array (Nat×Operand)} {xs:List Operand} {ys:List eA} {e:aQ} (ho:o.op = .build t ps) (hd:∀ t,o.dst=some t→t < n∧¬ U t)
  (hi:P.info? t=some it) (gE:P.underlying t=some (.array len el)) (hz:it.zero=some z) (Ir:P.info? el=some ie) (hs:ie.size=1) (vS:z.cells.size=xs.length)
  (jm:ps.toList=(xs.zipIdx 0).map λx=>(x.2,x.1)) (hx:vx n xs=some ys) (hu:∀y∈ys,∀t∈y.tmps,¬U t) (he:aH S H (.pC ys)=some e):eK P w0 n U g S H a w o e:=by
 simp only[aH]at he;split at he
 case isFalse=>cases he
 rename_i fQ;cases he;simp only[adu]at fQ;obtain⟨l1,r1⟩:=R.Sm hx hu
 have fo:∀j (h:j<xs.length),(a.eval xs[j]).cells=#[a.eval xs[j]]:=λj h=>
  Wg (r1 j (by omega) h) (fQ _ (adx.2 ⟨_,ada (by omega),rfl⟩))
 have TA:=Great.fill_whole (s:=1) (by omega) (xs.map a.eval) z.cells (λv hv=>by
  obtain⟨x,hx,rfl⟩:=adx.1 hv;obtain⟨j,hj,rfl⟩:=adG hx
  rw[fo j hj];rfl) (by simp[vS])
 have O0:(ps.map λ(i,x)=>(i,a.eval x)).toList=((xs.map a.eval).zipIdx 0).map λx=>(x.2,x.1):=by
  rw[agI,jm];simp[List.zipIdx_map]
 have Vp:((xs.map a.eval).flatMap λv=>v.cells.toList)=xs.map a.eval:=by
  have:∀l:List Operand,(∀x∈l,(a.eval x).cells=#[a.eval x])->((l.map a.eval).flatMap λv=>v.cells.toList)=l.map a.eval:=by
   intro l
   induction l with
   |nil=>intro _;rfl
   |cons x l ih=>intro h;simp only[adC,aex,h x adt,ih λy hy=>h y (ado _ hy)];rfl
  exact this xs λx hx=>by obtain⟨j,hj,rfl⟩:=adG hx;exact fo j hj
 have hb:P.built t (ps.map λ(i,x)=>(i,a.eval x)).toList=some (xs.map a.eval).toArray:=by
  unfold Program.built;simp only[hi,gE,hz,Ir,hs];rw[O0,TA,Vp]
 refine eK.val R (λt h=>(hd t h).1) (c:=.agg (xs.map a.eval).toArray) ?_ (.j0 _ _ (by simp[l1]) (λi h h'=>?_)) λ_=>trivial
 .unfold execOp;simp only[ho,ads,agZ w t _ _ hb,Result.andThen_ok]
  rfl
 .simp only[adi]at h;have:=r1 i h (by simpa using h');simpa using this
theorem O3 (R:Rel P w0 n U g S H a w) {o:Oper} {t el:TypeId} {len:Nat} {ie:TypeInfo} {va:TypeDesc} {x1 x2:Operand} {y1 y2:eA} {e:aQ} (ho:o.op = .index t x1 x2) (hd:∀ t,o.dst=some t→t < n∧¬ U t)
  (gE:P.underlying t=some (.array len el)) (hi:P.info? el=some ie) (hs:ie.size=1) (hue:P.underlying el=some va) (hag:eS va=false) (qU:eO n x1=some y1) (pc:eO n x2=some y2) (vD:∀t∈y1.tmps,¬U t) (vN:∀t∈y2.tmps,¬U t)
  (he:aH S H (.pE len y1 y2)=some e):eK P w0 n U g S H a w o e:=by
 have iS:=R.ev qU vD;have ic:=R.ev pc vN;simp only[aH]at he;generalize AL.ev S y1=p1 at he iS;generalize AL.ev S y2=p2 at he ic;generalize mO:a.eval x1=c1 at iS;generalize nF:a.eval x2=c2 at ic;split at he
 case h_2=>cases he
 rename_i fs k;split at he
 case isFalse=>cases he
 rename_i hk;split at he
 case h_2=>cases he
 rename_i v hv;split at he
 case isFalse=>cases he
 rename_i hf;cases he;obtain⟨h0,rfl⟩:=adE.1 hv;have q2:=ic.fj rfl;cases q2
 cases iS with
 |data _ _ hh=>cases hh
 |j0 _ vs h1 hr=>
  have au:k.toNat<vs.size:=by omega
  have oU:(isAgg el).run P w=.ok false w:=by
   unfold isAgg;rw[ads,adH hue w]
   cases va<;>simp[eS]at hag⊢
  refine eK.val R (λt h=>(hd t h).1) (c:=vs[k.toNat]) ?_ (hr _ h0 au) λ_=>?_
  .simp only[execOp,ho,mO,nF,Instr.index,ads];simp[asIntOf,adH gE,hk,sizeOf,typeInfo,hi,hs,ads,part,oU,au]
  .generalize fs[k.toNat]=u at hf
   cases u<;>first|trivial|cases hf
theorem Ej{v:AV}(h:v.one=true):v.cells=[v]:=by
 cases v<;>first|rfl|cases h
theorem O6 (R:Rel P w0 n U g S H a w) {o:Oper} {t el:TypeId} {len:Nat} {i:TypeInfo} {x:Operand} {y:eA} {e:aQ} (ho:o.op = .slice t x none none none) (hd:∀ t,o.dst=some t→t < n∧¬ U t)
  (gE:P.underlying t=some (.array len el)) (Jr:P.info? el=some i) (hx:eO n x=some y) (hu:∀t∈y.tmps,¬U t)
  (he:aH S H (.qq len y)=some e):eK P w0 n U g S H a w o e:=by
 have hv:=R.ev hx hu;simp only[aH]at he;generalize y9:AL.ev S y=q at he hv;generalize sk:a.eval x=c at hv;split at he
 case h_2=>cases he
 rename_i cs;split at he
 case isFalse=>cases he
 rename_i hlen;cases he;have q2:=hv.fj rfl
 cases q2 with
 |ref _ b off vs h1 hc hr=>
  have hk:(execOp a.eval o).run P w=.ok (.value (.slice (some ⟨b,off,none⟩) len len)) w:=by
   unfold execOp;simp only[ho,sk,Option.map_none,Instr.sliceAt,ads,adH gE]
   by_cases h0:len=0
   .subst h0;simp[Instr.sureAddr,Instr.sliceBounds,ads,sizeOf,typeInfo,Jr]
   .simp[Instr.sureAddr,Instr.sliceBounds,ads,sizeOf,typeInfo,Jr,Addr.add]
  refine eK.val R (λt h=>(hd t h).1) hk (.data _ _ ?_) λ_=>trivial
  rw[<-hlen];refine .slice .view cs b off cs.length 1 vs (adh _) (λh=>by cases h) (λi h=>by rw[Ej (h1 i h)];rfl) (λi h j hj=>?_) (λk hk=>hc k (by omega)) (λi h j hj=>?_)
  .have e:=Ej (h1 i h)
   have:((cs[i]).cells[j])=cs[i]:=by
    have dY:j<[cs[i]].length:=by rw[<-e];exact hj
    have:j=0:=by simp at dY;omega
    subst this;simp only[e];rfl
   rw[this];exact h1 i h
  .have e:=Ej (h1 i h)
   have dY:j<[cs[i]].length:=by rw[<-e];exact hj
   have ve:j=0:=by simp at dY;omega
   subst ve
   have:((cs[i]).cells[0])=cs[i]:=by simp only[e];rfl
   rw[this,aeD,Nat.add_zero];exact hr i h
def TP(P:Program)(name:String)(t:TypeId):Option Nat:=
 match P.info? t with
 |some i=>match P.underlying t with
  |some (.struct _)=>match i.methods.find? (·.name==name)with
   |some m=>if m.path.isEmpty=true then match m.func with
    |some (f,false)=>some f
    |_=>none
    else none
   |none=>none
  |_=>none
 |none=>none
def Rj(P:Program)(name:String):List (TypeId×Nat):=(List.range P.types.size).filterMap λt=>(TP P name t).map λk=>(t,k)
theorem IJ{t k:Nat}:∀{l:List (Nat×Nat)},l.lookup t=some k->(t,k)∈l
 |[],h=>by cases h
 |(a,b)::l,h=>by
  rw[List.lookup_cons]at h;split at h
  .rename_i he;cases h;simp only[adX]at he;subst he;exact adt
  .exact ado _ (IJ h)
theorem T6{P:Program}{name:String}{t k:Nat}(h:(Rj P name).lookup t=some k):TP P name t=some k:=by
 have h1:=IJ h;simp only[Rj,aft,adr,agj]at h1;obtain⟨a,_,b,h2,rfl,rfl⟩:=h1;exact h2
theorem RZ{P:Program}{name:String}{t k:Nat}{v:Value}{w:World}(h:(Rj P name).lookup t=some k):(method (P.types.size+Made.depth) t v name).run P w=.ok (k,v) w:=by
 have h:=T6 h;unfold TP at h;split at h
 case h_2=>cases h
 rename_i i hi;split at h
 case h_2=>cases h
 rename_i fs gE;split at h
 case h_2=>cases h
 rename_i m hm;split at h
 case isFalse=>cases h
 rename_i hp;split at h
 case h_2=>cases h
 rename_i f hf;cases h;show(method (P.types.size+99+1) t v name).run P w=_
 have xW:m.path.toList=[]:=by simpa using hp
 generalize P.types.size+99=d;simp[method,typeInfo,hi,hm,xW,hf,follow,receiverAt,adH gE,Place.get,ads]
end
inductive eP where
 |ret (v:AV)|panic (v:AV)
def vv(base:Nat)(old:Nat->Nat->Prop)(hi:Nat->Nat)(b k:Nat):Prop:=(b<base/\old b k)\/(base<=b/\k<hi b)
def G'(P:Program)(base:Nat)(hi:Nat->Nat)(w:World):AV->Value->Prop
 |.slice (.own e) es,c=>∃i xs b,P.info? e=some i/\w.ownsRow base e i.size c es.length xs/\c.ownBlock=some b/\hi b=es.length*i.size
 |_,_=>True
def Ends(P:Program)(old:Nat->Nat->Prop)(w:World)(out:eP)(e:Ending)(w':World):Prop:=
 Below w.heap.size w w'/\∃hi:Nat->Nat,(∀b,w'.heap.size<=b->hi b=0)/\
  match out with
  |.ret v=>∃c,e=.returned c/\RV (vv w.heap.size old hi) (λ_=>none) w' v c/\G' P w.heap.size hi w' v c
  |.panic v=>∃c,e=.panicked [{ v:=c,recovered:=false }]/\RD (vv w.heap.size old hi) w' v c
def AC(P:Program)(GI:World->Prop)(f:Nat)(args:List AV)(out:eP):Prop:=
 ∀(w:World)(old:Nat->Nat->Prop)(ck:Array Value),GI w->args.length=ck.size->
  (∀i (h:i<args.length)(h':i<ck.size),RV old (λ_=>none) w args[i] ck[i])->Calls P f ck w (Ends P old w out)
def gI(H:aD):AV->AV
 |.box i off=>match H i with|some cs=>.ref ((cs.drop off).map AV.bH)|none=>.br
 |.func ..|.j0 _=>.br
 |v=>v.vw
def fz(H:aD):AV->AV
 |.func fn first cap=>.func fn (first.map (gI H)) (cap.map (gI H))
 |v=>gI H v
def qS:AV->Bool
 |.box ..=>true
 |_=>false
def df:AV->Bool
 |.box ..=>true
 |.func _ first cap=>first.any qS||cap.any qS
 |_=>false
def iC:AV->Bool
 |.bool _|.pX|.int ..|.str _=>true
 |_=>false
def D3:AV->Bool
 |.dN vs=>vs.all iC
 |v=>iC v
def eP.D3:eP->Bool
 |.ret v=>Go.AL.D3 v
 |.panic _=>false
theorem Ua{v:AV}(h:D3 v=true):v.bT=true:=by cases v<;>first|rfl|cases h
theorem RD.iC{Pr eR:Nat->Nat->Prop}{w w':World}{v:AV}{c:Value}(h:RD Pr w v c)(hs:Go.AL.iC v=true):RD eR w' v c:=by
 cases h<;>first|(cases hs;done)|constructor
theorem RD.D3{Pr eR:Nat->Nat->Prop}{w w':World}{v:AV}{c:Value}(h:RD Pr w v c)(hs:Go.AL.D3 v=true):RD eR w' v c:=by
 cases h with
 |dN cs vs hl hr=>exact .dN cs vs hl λi h h'=>(hr i h h').iC (by simp only[Go.AL.D3,adu]at hs;exact hs _ (ada h))
 |bool b=>exact .bool b
 |pX b=>exact .pX b
 |int k n=>exact .int k n
 |str l=>exact .str l
 |_=>cases hs
section
variable{P:Program}{w0:World}{n:Nat}{U:Nat->Prop}{g:Gh}{S:av}{H:aD}{a:Act}{w:World}
def fy(g:Gh)(bx:Bool)(b k:Nat):Prop:=g.Pr b k\/(bx=true/\∃i,g.al i=some b)
theorem Rel.gI(R:Rel P w0 n U g S H a w){v:AV}{c:Value}(h:RV g.Pr g.al w v c)(bx:Bool)(hb:qS v=true->bx=true):RV (fy g bx) (λ_=>none) w (Go.AL.gI H v) c:=by
 have FI:∀{v c},RD g.Pr w v c->RD (fy g bx) w v c:=λh=>h.mono (bl.same λb k _ hp=>.inl hp)
 cases h with
 |data v c h=>
  have hd:=(FI h).vw
  have:Go.AL.gI H v=v.vw:=by cases h<;>rfl
  rw[this];exact .data _ _ hd
 |box i off b kK=>
  obtain⟨cs,vs,ty,k1,k2,k3,k4,k5,k6,k7,k8,k9⟩:=R.box i b kK;simp only[Go.AL.gI,k1];have dH:bx=true:=hb rfl;refine .data _ _ (.ref _ _ _ (λk=>vs.getD (off+k) undef) (λk hk=>?_) (λk hk=>?_) λk hk=>?_)
  .simp only[adi,ad8]at hk;simp only[adp,aeW];have:=k9 (off+k) (by omega);exact(AV.X7 _).trans this
  .simp only[adi,ad8]at hk
   have:off+k<vs.size:=by omega
   exact⟨.inr ⟨dH,i,kK⟩,by simp[World.cell?,k3,this]⟩
  .simp only[adi,ad8]at hk
   have au:off+k<vs.size:=by omega
   have:=(FI (k7 (off+k) (by omega) au)).bH;simpa[au]using this
 |func=>exact .br _
 |j0=>exact .br _
 |br c=>exact .br c
theorem Rel.fz(R:Rel P w0 n U g S H a w){v:AV}{c:Value}(h:RV g.Pr g.al w v c)(bx:Bool)(hb:df v=true->bx=true):RV (fy g bx) (λ_=>none) w (Go.AL.fz H v) c:=by
 have h0:=h
 cases h with
 |func fn first cap vs us h1 h2 r1 r2=>
  simp only[df,aei,aeU]at hb;refine .func fn _ _ _ _ (by simpa using h1) (by simpa using h2) (λi hi eb=>?_) (λi hi eb=>?_)
  .simp only[adi]at hi;simp only[adp]
   exact R.gI (r1 i hi eb) bx λhx=>hb (.inl ⟨_,ada hi,hx⟩)
  .simp only[adi]at hi;simp only[adp]
   exact R.gI (r2 i hi eb) bx λhx=>hb (.inr ⟨_,ada hi,hx⟩)
 |data v c h=>
  have:Go.AL.fz H v=Go.AL.gI H v:=by cases h<;>rfl
  rw[this];exact R.gI h0 bx λhx=>hb (by cases v<;>first|rfl|cases hx)
 |box=>exact R.gI h0 bx hb
 |j0=>exact .br _
 |br c=>exact .br c
theorem Rel.call (R:Rel P w0 n U g S H a w) (d:Option Nat) (hd:∀ t,d=some t→t < n∧¬ U t) (bx:Bool) {v:AV} {c:Value} {w':World} {hi:Nat→Nat} (hb:Below w.heap.size w w')
  (qZ:∀b,w'.heap.size<=b->hi b=0) (hr:RV (vv w.heap.size (fy g bx) hi) (λ_=>none) w' v c) (dO:G' P w.heap.size hi w' v c) (dH:bx=true->D3 v=true):
  ∃g',g'.base=g.base/\g'.old=g.old/\Rel P w0 n U g' (Go.AL.aT S d v) H (a.put d c) w':=by
 have hle:g.base<=w.heap.size:=by rw[R.base];exact R.below.size
 let own:Nat->Option Loc:=λb=>match c.ownBlock,d with
  |some b',some t=>if b=b' then some (.slot t)else none
  |_,_=>none
 let g':Gh:={ g with hi:=λb=>if b<w.heap.size then g.hi b else hi b,owner:=λb=>if b<w.heap.size then g.owner b else if b<w'.heap.size then own b else none }
 have R':Rel P w0 n U g' S H a w':=R.grow (g':=g') hb rfl rfl rfl
  (λb hb=>⟨if_pos hb,if_pos hb⟩)
  (λb qG=>by
   have:=hb.size
   exact⟨(if_neg (by omega)).trans (qZ b qG),(if_neg (by omega)).trans (if_neg (by omega))⟩)
 refine⟨g',rfl,rfl,R'.aT d v c (λt h=>(hd t h).1) ?_ ?_⟩
 .cases bx with
  |true=>exact .data _ _ ((hr.fj (Ua (dH rfl))).D3 (dH rfl))
  |false=>
   refine hr.mono (bl.same λb k _ hp=>?_) (λi b h=>by cases h)
   rcases hp with⟨h1,h2⟩|⟨h1,h2⟩
   .rcases h2 with h2|⟨h2,_⟩
    .rcases h2 with h2|h2
     .exact .inl h2
     .exact .inr ⟨h2.1,by show k<(if b<w.heap.size then g.hi b else hi b);rw[if_pos h1];exact h2.2⟩
    .cases h2
   .exact .inr ⟨by show g.base<=b;omega,by show k<(if b<w.heap.size then g.hi b else hi b);rw[if_neg (by omega)];exact h2⟩
 .intro t ht;subst ht
  cases v<;>try trivial
  rename_i oo es
  cases oo with
  |view=>trivial
  |nil=>trivial
  |own e=>
   obtain⟨i,xs,b,h1,h2,h3,h4⟩:=dO;have au:=h2.lt b h3;refine⟨i,xs,b,h1,⟨h2.1,?_⟩,h3,?_,?_⟩
   .rcases h2.2 with hn|⟨gg,cap,cur,e1,qL,rest⟩
    .exact .inl hn
    .exact .inr ⟨gg,cap,cur,e1,ael hle qL,rest⟩
   .show(if b<w.heap.size then g.owner b else if b<w'.heap.size then own b else none)=_;rw[if_neg (by omega),if_pos au.2];simp[own,h3]
   .show(if b<w.heap.size then g.hi b else hi b)=_;rw[if_neg (by omega)];exact h4
end
def zeroCells(P:Program)(t:TypeId):Option (List AV):=
 match P.info? t with
 |some i=>match i.zero with
  |some z=>l7 z.cells.toList
  |none=>none
 |none=>none
def isVal:AV->Bool
 |.val _=>true
 |_=>false
def BN(P:Program)(t:TypeId):Option (List AV):=
 match zeroCells P t with
 |some zs=>if zs.any isVal then none else some zs
 |none=>none
theorem yZ{P:Program}{t:TypeId}{zs:List AV}(h:BN P t=some zs):zeroCells P t=some zs:=by
 unfold BN at h;split at h
 .rename_i h'
  split at h<;>cases h
  exact h'
 .cases h
def comp(P:Program)(n:Nat)(tk:Bool)(hr:HR)(o:Oper):fw:=
 match o.op with
 |.move x=>match eO n x with
  |some y=>.mv tk y
  |none=>.other
 |.assign x=>match eO n x with
  |some y=>.mv true y
  |none=>.other
 |.pick c a b=>match eO n c,eO n a,eO n b with
  |some c,some a,some b=>.pick c a b
  |_,_,_=>.other
 |.alloc t=>match zeroCells P t with
  |some cs=>.alloc t cs
  |none=>.other
 |.box t x=>match P.info? t,eO n x with
  |some i,some y=>.box t i.size y
  |_,_=>.other
 |.build t ps=>match P.underlying t,BN P t with
  |some (.struct fs),some zs=>match fs.toList.mapM (λf=>(P.info? f.type).map λi=>(f.offset,i.size))with
   |some places=>match AB n (places[·]?) ps.toList with
    |some qs=>.build (zs.map AV.aG) qs
    |none=>.other
   |none=>.other
  |some (.array _ el),some zs=>match P.info? el with
   |some ie=>match AB n (λi=>some (i*ie.size,ie.size)) ps.toList with
    |some qs=>.build (zs.map AV.aG) qs
    |none=>.other
   |none=>.other
  |some (.array _ el),none=>match P.info? t,P.info? el,vx n (ps.toList.map (·.2))with
   |some it,some ie,some ys=>match it.zero with
    |some z=>if ie.size=1/\z.cells.size=ps.toList.length/\ps.toList.map (·.1)=List.range ps.toList.length then .pC ys else .other
    |none=>.other
   |_,_,_=>.other
  |_,_=>.other
 |.buildSlice t len ps=>match P.underlying t with
  |some (.slice el)=>match P.info? el with
   |some i=>if len=0/\ps.toList.isEmpty=true then .empty el else
    match i.zero,vx n (ps.toList.map (·.2))with
    |some _,some ys=>if 0<i.size/\0<len/\ps.toList.map (·.1)=List.range len then .buildSlice t el i.size ys else .other
    |_,_=>.other
   |none=>.other
  |_=>.other
 |.load t a=>match P.info? t,P.underlying t,eO n a with
  |some i,some d,some y=>if tk=true/\eS d=false/\o.dst.isSome=true then .loadT hr y else .load hr (eS d) i.size y
  |_,_,_=>.other
 |.store t a x=>match P.info? t,eO n a,eO n x with
  |some i,some y,some z=>if o.dst.isNone then .store hr i.size y z else .other
  |_,_,_=>.other
 |.binOp op t x y _=>match P.underlying t,eO n x,eO n y with
  |some (.int _),some x,some y|some .string,some x,some y=>.bin op x y
  |some .bool,some x,some y=>match op with
   |.eql=>.F2 false x y
   |.neq=>.F2 true x y
   |_=>.other
  |some (.struct _),some x,some y=>if P.eqGuardType P.depth t=false then
    match op,rC P 10000 t with
    |.eql,some k=>.eqs false k x y
    |.neq,some k=>.eqs true k x y
    |_,_=>.other
   else .other
  |some (.slice _),some x',some _=>match op,y with
   |.eql,.const (.slice none 0 0)=>.isNil false x'
   |.neq,.const (.slice none 0 0)=>.isNil true x'
   |_,_=>.other
  |_,_,_=>.other
 |.unOp .not _ x=>match eO n x with
  |some y=>.not y
  |none=>.other
 |.convert s d x=>match P.underlying s,P.underlying d,eO n x with
  |some _,some (.int k),some y=>.conv k y
  |some (.slice el),some .string,some y=>match P.underlying el with
   |some (.int .u8)=>.zr y
   |_=>.other
  |_,_,_=>.other
 |.makeInterface t x=>match P.underlying t,eO n x with
  |some (.interface _),_=>.other
  |some _,some y=>.iface t y
  |_,_=>.other
 |.makeFunc fn f c=>match vx n f.toList,vx n c.toList with
  |some f,some c=>.GO fn f c
  |_,_=>.other
 |.slice t x lo hi none=>match P.underlying t,eO n x,rk n lo,rk n hi with
  |some .string,some y,some lo,some hi=>.pG y lo hi
  |some (.slice el),some y,some lo,some hi=>match P.info? el with
   |some i=>.mS i.size y lo hi
   |none=>.other
  |some (.array len el),some y,some none,some none=>match P.info? el with
   |some _=>.qq len y
   |none=>.other
  |_,_,_,_=>.other
 |.fieldAddr s x j=>match P.underlying s,eO n x with
  |some (.struct fs),some y=>match fs[j]? with
   |some f=>match P.info? f.type with
    |some i=>if i.size≠0 then .fieldAddr f.offset y else .other
    |none=>.other
   |none=>.other
  |_,_=>.other
 |.indexAddr t x i=>match P.underlying t,eO n x,eO n i with
  |some (.slice el),some y,some z=>match P.info? el with
   |some i=>.indexAddr i.size y z
   |none=>.other
  |_,_,_=>.other
 |.index t x i=>match P.underlying t,eO n x,eO n i with
  |some .string,some y,some z=>.pF y z
  |some (.array len el),some y,some z=>match P.info? el,P.underlying el with
   |some i,some (.func a b c)=>if i.size=1 then .pE len y z else .other
   |some i,some d=>.nx (eS d) len i.size y z
   |_,_=>.other
  |_,_,_=>.other
 |.lookup t x i true=>match P.underlying t,eO n x,eO n i with
  |some (.map kt el),some y,some z=>match P.underlying kt,rC P 10000 kt,P.info? el with
   |some (.struct _),some k,some ie=>match ie.zero with
    |some (.agg v)=>match l7 v.toList with
     |some zs=>.lookup k (.agg zs) y z
     |none=>.other
    |_=>.other
   |_,_,_=>.other
  |_,_,_=>.other
 |.extract x j=>match eO n x with
  |some y=>.extract y j
  |none=>.other
 |.typeAssert x _ t true=>match P.underlying t,P.info? t,eO n x with
  |some (.interface _),_,_=>.other
  |some _,some i,some y=>match i.zero with
   |some (.agg z)=>match l7 z.toList with
    |some zs=>.assert t (.agg zs) y
    |none=>.other
   |_=>.other
  |_,_,_=>.other
 |.panic x=>match eO n x with
  |some y=>.panic y
  |none=>.other
 |.call cl=>match cl.callee,cl.args.toList,cl.argTypes.toList with
  |.builtin .len,[x],[s]=>match P.underlying s,eO n x with
   |some .string,some y=>.yK y
   |some (.slice _),some y=>.j6 y
   |_,_=>.other
  |.builtin .append,[x1,x2],[t,t']=>match P.underlying t,eO n x1,eO n x2 with
   |some (.slice el),some y1,some y2=>match P.info? el with
    |some i=>match i.zero with
     |some z=>if t=t'/\z.cells.size=i.size/\i.bytes<=65536 then .append t el i.size i.bytes y1 y2 else .other
     |none=>.other
    |none=>.other
   |_,_,_=>.other
  |.builtin .max,[x1,x2],_=>match eO n x1,eO n x2 with
   |some y1,some y2=>.max y1 y2
   |_,_=>.other
  |.builtin .min,[x1,x2],_=>match eO n x1,eO n x2 with
   |some y1,some y2=>.min y1 y2
   |_,_=>.other
  |.value f,args,_=>match eO n f,vx n args with
   |some (.f k),some ys=>.call k ys
   |some y,some ys=>.ik y ys
   |_,_=>.other
  |.invoke r name,args,_=>match eO n r,vx n args with
   |some (.t t),some ys=>.ik (.m t (Rj P name)) ys
   |_,_=>.other
  |_,_,_=>.other
 |_=>.other
structure cC where
 dst:Option Nat
 guard:Option (Nat×Bool)
 op:fw
def dX(P:Program)(f:Nat):Bool:=
 match P.funcs[f]? with
 |some fn=>fn.name != "runtime.NumGoroutine" && fn.body.isSome
 |none=>false
theorem gy{P:Program}{w:World}{f:Nat}{args:Array Value}(h:dX P f=true):(callFunc f args).run P w=.ok (.enter f args) w:=by
 unfold dX at h
 cases hf:P.funcs[f]? with
 |none=>simp[hf]at h
 |some fn=>
  simp only[hf,adb,af2]at h;unfold callFunc;obtain⟨c,hc⟩:=ags.1 h.2;simp[hf,h.1,hc]
section
variable{P:Program}{GI:World->Prop}
def iD(out:eP)(K:AV->Prop)(Qp:AV->Prop):Prop:=
 match out with
 |.ret v=>K v
 |.panic v=>Qp v
def kE(P:Program)(GI:World->Prop)(f:Nat)(args:List AV)(bx:Bool)(K:AV->Prop)(Qp:AV->Prop):Prop:=
 ∃out,dX P f=true/\AC P GI f args out/\(bx=true->out.D3=true)/\iD out K Qp
def bg(P:Program)(GI:World->Prop)(op:fw)(dst:Option Nat)(K:av->aD->Prop)(Qp:AV->Prop)(S:av)(H:aD):Prop:=
 match op with
 |.alloc _ zero=>match dst with
  |some d=>K (ar (λt=>bX d (S t)) d (.box d 0)) (ar H d (some zero))
  |none=>False
 |.box _ size x=>match dst with
  |some d=>(ev S x).cells.length=size/\(ev S x).storable=true/\K (ar (λt=>bX d (S t)) d (.box d 0)) (ar H d (some ((ev S x).cells.map AV.aG)))
  |none=>False
 |.call f args=>kE P GI f (args.map λy=>fz H (ev S y)) (args.any λy=>df (ev S y)) (λv=>K (aT S dst v) H) Qp
 |.ik f args=>match ev S f with
  |.func (.func k) first cap=>kE P GI k ((first++args.map (ev S)++cap).map (fz H)) ((first++args.map (ev S)++cap).any df) (λv=>K (aT S dst v) H) Qp
  |_=>False
 |.panic x=>match ev S x with
  |.iface t v=>Qp (.iface t v)
  |_=>False
 |op=>match aH S H op with
  |some e=>K (e.S S dst) (e.H H)
  |none=>False
def fw.calm:fw->Bool
 |.alloc ..|.box ..|.call ..|.ik ..|.panic _|.other=>false
 |_=>true
theorem C6 {op:fw} (h:op.calm=true) (dst:Option Nat) (K:av→aD→Prop) (Qp:AV→Prop) (S:av) (H:aD) :
  bg P GI op dst K Qp S H=(match aH S H op with|some e=>K (e.S S dst) (e.H H)|none=>False):=by
 cases op<;>first|rfl|cases h
variable{w0:World}{n:Nat}{U:Nat->Prop}{g:Gh}{S:av}{H:aD}{a:Act}{w:World}
theorem Fe:∀(ps:List (Nat×Operand))(k:Nat),ps.map (·.1)=(List.range' k ps.length)->ps=((ps.map (·.2)).zipIdx k).map λx=>(x.2,x.1)
 |[],_,_=>rfl
 |(i,x)::ps,k,h=>by
  simp only[adC,List.length_cons,aeB,afe]at h;obtain⟨rfl,h⟩:=h;simp only[adC,List.zipIdx_cons,afe,agV];exact Fe ps (i+1) h
theorem GR{x:Option Operand}(h:rk n x=some none):x=none:=by
 cases x with
 |none=>rfl
 |some y=>simp[rk]at h
theorem Md (R:Rel P w0 n U g S H a w) {o:Oper} {tk:Bool} {hr:HR} {op:fw} {e:aQ} (hc:comp P n tk hr o=op) (dG:op.calm=true) (hd:∀ t,o.dst=some t→t < n∧¬ U t) (ez:∀ t∈op.rd,¬ U t) (dZ:∀ t,o.dst=some t→t∉op.rd)
  (he:aH S H op=some e):eK P w0 n U g S H a w o e:=by
 unfold comp at hc;cases eI:o.op
 case move x=>
  simp only[eI]at hc
  split at hc<;>subst hc
  case h_2=>cases dG
  rename_i y hx;exact Si R hd hx ez (by unfold execOp;simp only[eI];rfl) dZ he
 case assign x=>
  simp only[eI]at hc
  split at hc<;>subst hc
  case h_2=>cases dG
  rename_i y hx;exact Si R hd hx ez (by unfold execOp;simp only[eI];rfl) dZ he
 case pick x x1 x2=>
  simp only[eI]at hc
  split at hc<;>subst hc
  case h_2=>cases dG
  rename_i c a' b h1 h2 h3;simp only[fw.rd,adm]at ez;exact UG R eI hd h1 h2 h3 (λt h=>ez t (.inl (.inl h))) (λt h=>ez t (.inl (.inr h))) (λt h=>ez t (.inr h)) he
 case alloc t=>simp only[eI]at hc;split at hc<;>subst hc<;>cases dG
 case box t x=>simp only[eI]at hc;split at hc<;>subst hc<;>cases dG
 case build t ps=>
  simp only[eI]at hc;split at hc
  .rename_i fs zs h1 h2;split at hc
   case h_2=>subst hc;cases dG
   rename_i places h3
   split at hc<;>subst hc
   case h_2=>cases dG
   rename_i qs h4;have h2:=yZ h2;unfold zeroCells at h2;split at h2
   case h_2=>cases h2
   rename_i it hi;split at h2
   case h_2=>cases h2
   rename_i z hz;exact Qw R eI hd hi h1 hz h3 h2 h4 (λq hq t ht=>ez t (adR.2 ⟨q,hq,ht⟩)) he
  .rename_i len el zs h1 h2;split at hc
   case h_2=>subst hc;cases dG
   rename_i ie h3
   split at hc<;>subst hc
   case h_2=>cases dG
   rename_i qs h4;have h2:=yZ h2;unfold zeroCells at h2;split at h2
   case h_2=>cases h2
   rename_i it hi;split at h2
   case h_2=>cases h2
   rename_i z hz;exact PG R eI hd hi h1 hz h3 h2 h4 (λq hq t ht=>ez t (adR.2 ⟨q,hq,ht⟩)) he
  .rename_i len el h1 h2;split at hc
   case h_2=>subst hc;cases dG
   rename_i it ie ys h3 h4 h5;split at hc
   case h_2=>subst hc;cases dG
   rename_i z hz
   split at hc<;>subst hc
   case isFalse=>cases dG
   rename_i nw;exact Qm R eI hd h3 h1 hz h4 nw.1 (by simpa using nw.2.1) (Fe _ 0 (by rw[nw.2.2,aeR])) h5 (λy hy t ht=>ez t (adR.2 ⟨y,hy,ht⟩)) he
  .subst hc;cases dG
 case buildSlice t len ps=>
  simp only[eI]at hc;split at hc
  case h_2=>subst hc;cases dG
  rename_i el h1;split at hc
  case h_2=>subst hc;cases dG
  rename_i i h2;split at hc
  case isTrue=>
   rename_i nw;subst hc
   have jm:ps=#[]:=by
    have:=nw.2;simp only[List.isEmpty_iff]at this;exact Array.toList_eq_nil_iff.1 this
   rw[nw.1,jm]at eI;exact Q0 R eI hd h1 h2 he
  case isFalse=>
   split at hc
   case h_2=>subst hc;cases dG
   rename_i z ys h3 h4
   split at hc<;>subst hc
   case isFalse=>cases dG
   rename_i nF
   have hlen:ps.toList.length=len:=by have:=congrArg List.length nF.2.2;simpa using this
   exact HP R eI hd h1 h2 h3 nF.1 (Fe _ 0 (by rw[nF.2.2,hlen,aeR])) (by simpa using hlen) nF.2.1 h4 (λy hy t ht=>ez t (adR.2 ⟨y,hy,ht⟩)) he
 case load t x=>
  simp only[eI]at hc;split at hc
  case h_2=>subst hc;cases dG
  rename_i i d y h1 h2 h3
  split at hc<;>subst hc
  case isTrue nw=>
   obtain⟨dd,Hj⟩:=ags.1 nw.2.2;exact QV R eI Hj (hd dd Hj) h2 nw.2.1 h3 ez he
  case isFalse nw=>exact FB R eI hd h1 h2 h3 ez he
 case store t x1 x2=>
  simp only[eI]at hc;split at hc
  case h_2=>subst hc;cases dG
  rename_i i y z h1 h2 h3
  split at hc<;>subst hc
  case isFalse=>cases dG
  rename_i nw;simp only[fw.rd,adm]at ez;exact kX R eI (by simpa using nw) h1 h2 h3 (λt h=>ez t (.inl h)) (λt h=>ez t (.inr h)) he
 case binOp op t x1 x2 t'=>
  simp only[eI]at hc;split at hc
  .subst hc;rename_i k y1 y2 h1 h2 h3;simp only[fw.rd,adm]at ez;exact NG R eI hd h2 h3 (λt h=>ez t (.inl h)) (λt h=>ez t (.inr h)) he
  .subst hc;rename_i y1 y2 h1 h2 h3;simp only[fw.rd,adm]at ez;exact NG R eI hd h2 h3 (λt h=>ez t (.inl h)) (λt h=>ez t (.inr h)) he
  .rename_i y1 y2 h1 h2 h3
   split at hc<;>subst hc
   .simp only[fw.rd,adm]at ez;exact Nv (neg:=false) R eI hd h1 h2 h3 (λt h=>ez t (.inl h)) (λt h=>ez t (.inr h)) he
   .simp only[fw.rd,adm]at ez;exact Nv (neg:=true) R eI hd h1 h2 h3 (λt h=>ez t (.inl h)) (λt h=>ez t (.inr h)) he
   .cases dG
  .rename_i fs y1 y2 h1 h2 h3;split at hc
   case isFalse=>subst hc;cases dG
   rename_i Gy
   split at hc<;>subst hc
   .simp only[fw.rd,adm]at ez;exact N6 (neg:=false) R eI hd h1 (by assumption) Gy h2 h3 (λt h=>ez t (.inl h)) (λt h=>ez t (.inr h)) he
   .simp only[fw.rd,adm]at ez;exact N6 (neg:=true) R eI hd h1 (by assumption) Gy h2 h3 (λt h=>ez t (.inl h)) (λt h=>ez t (.inr h)) he
   .cases dG
  .rename_i el y1 y2 h1 h2 h3
   split at hc<;>subst hc
   .exact IY (neg:=false) R eI hd h1 h2 ez he
   .exact IY (neg:=true) R eI hd h1 h2 ez he
   .cases dG
  .subst hc;cases dG
 case unOp u t x=>
  cases u<;>simp only[eI]at hc
  case not=>
   split at hc<;>subst hc
   case h_2=>cases dG
   rename_i y h1;exact WW R eI hd h1 ez he
  all_goals (subst hc;cases dG)
 case convert s d x=>
  simp only[eI]at hc;split at hc
  .subst hc;rename_i ds k y h1 h2 h3;exact Tu R eI hd h1 h2 h3 ez he
  .rename_i el y h1 h2 h3
   split at hc<;>subst hc
   case h_2=>cases dG
   rename_i h4;exact UM R eI hd h1 h4 h2 h3 ez he
  .subst hc;cases dG
 case makeInterface t x=>
  simp only[eI]at hc
  split at hc<;>subst hc
  case h_1=>cases dG
  case h_3=>cases dG
  rename_i d y GU h1 h2;exact Rp R eI hd h1 GU h2 ez he
 case makeFunc fn f c=>
  simp only[eI]at hc
  split at hc<;>subst hc
  case h_2=>cases dG
  rename_i f2 c2 h1 h2;simp only[fw.rd,adm,adR]at ez;exact WD R eI hd h1 h2 (λy hy t ht=>ez t (.inl ⟨y,hy,ht⟩)) (λy hy t ht=>ez t (.inr ⟨y,hy,ht⟩)) he
 case slice t x lo hi mx=>
  cases mx with
  |some m=>simp only[eI]at hc;subst hc;cases dG
  |none=>
   simp only[eI]at hc;split at hc
   .subst hc;rename_i y Gn eb h1 h2 h3 h4;simp only[fw.rd,adm,adR]at ez;exact OW R eI hd h1 h2 (λt h=>ez t (.inl h)) h3 h4 (λy hy t ht=>ez t (.inr ⟨y,.inl (by simpa using hy),ht⟩)) (λy hy t ht=>ez t (.inr ⟨y,.inr (by simpa using hy),ht⟩)) he
   .rename_i el y Gn eb h1 h2 h3 h4
    split at hc<;>subst hc
    case h_2=>cases dG
    rename_i i h5;simp only[fw.rd,adm,adR]at ez;exact OB R eI hd h1 h5 h2 (λt h=>ez t (.inl h)) h3 h4 (λy hy t ht=>ez t (.inr ⟨y,.inl (by simpa using hy),ht⟩)) (λy hy t ht=>ez t (.inr ⟨y,.inr (by simpa using hy),ht⟩)) he
   .rename_i len el y h1 h2 h3 h4
    split at hc<;>subst hc
    case h_2=>cases dG
    rename_i i h5;have e3:=GR h3;have e4:=GR h4;subst e3;subst e4;exact O6 R eI hd h1 h5 h2 ez he
   .subst hc;cases dG
 case fieldAddr s x j=>
  simp only[eI]at hc;split at hc
  case h_2=>subst hc;cases dG
  rename_i fs y h1 h2;split at hc
  case h_2=>subst hc;cases dG
  rename_i f h3;split at hc
  case h_2=>subst hc;cases dG
  rename_i i h4
  split at hc<;>subst hc
  case isFalse=>cases dG
  rename_i nw;exact Js R eI hd h1 h3 h4 nw h2 ez he
 case indexAddr t x1 x2=>
  simp only[eI]at hc;split at hc
  case h_2=>subst hc;cases dG
  rename_i el y z h1 h2 h3
  split at hc<;>subst hc
  case h_2=>cases dG
  rename_i i h4;simp only[fw.rd,adm]at ez;exact Jq R eI hd h1 h4 h2 h3 (λt h=>ez t (.inl h)) (λt h=>ez t (.inr h)) he
 case index t x1 x2=>
  simp only[eI]at hc;split at hc
  .subst hc;rename_i y z h1 h2 h3;simp only[fw.rd,adm]at ez;exact PQ R eI hd h1 h2 h3 (λt h=>ez t (.inl h)) (λt h=>ez t (.inr h)) he
  .rename_i len el y z h1 h2 h3;split at hc
   .rename_i i a1 a2 a3 h4 h5
    split at hc<;>subst hc
    case isFalse=>cases dG
    rename_i hs;simp only[fw.rd,adm]at ez;exact O3 R eI hd h1 h4 hs h5 rfl h2 h3 (λt h=>ez t (.inl h)) (λt h=>ez t (.inr h)) he
   case h_3=>subst hc;cases dG
   subst hc;rename_i i d _ h4 h5;simp only[fw.rd,adm]at ez;exact PL R eI hd h1 h4 h5 h2 h3 (λt h=>ez t (.inl h)) (λt h=>ez t (.inr h)) he
  .subst hc;cases dG
 case lookup t x1 x2 ok=>
  cases ok with
  |false=>simp only[eI]at hc;subst hc;cases dG
  |true=>
   simp only[eI]at hc;split at hc
   case h_2=>subst hc;cases dG
   rename_i kt el y z h1 h2 h3;split at hc
   case h_2=>subst hc;cases dG
   rename_i fs k ie h4 h5 h6;split at hc
   case h_2=>subst hc;cases dG
   rename_i v h7
   split at hc<;>subst hc
   case h_2=>cases dG
   rename_i zs h8;simp only[fw.rd,adm]at ez;exact OP (z:=.agg v) R eI hd h1 h4 h5 h6 h7 h8 h2 h3 (λt h=>ez t (.inl h)) (λt h=>ez t (.inr h)) he
 case extract x j=>
  simp only[eI]at hc
  split at hc<;>subst hc
  case h_2=>cases dG
  rename_i y h1;exact Na R eI hd h1 ez he
 case typeAssert x xt t ok=>
  cases ok with
  |false=>simp only[eI]at hc;subst hc;cases dG
  |true=>
   simp only[eI]at hc;split at hc
   case h_1=>subst hc;cases dG
   case h_3=>subst hc;cases dG
   rename_i d i y GU h1 h2 h3;split at hc
   case h_2=>subst hc;cases dG
   rename_i z hz
   split at hc<;>subst hc
   case h_2=>cases dG
   rename_i zs vS;exact Qg (z:=.agg z) R eI hd h1 GU h2 hz vS h3 ez he
 case panic x=>simp only[eI]at hc;split at hc<;>subst hc<;>cases dG
 case call cl=>
  simp only[eI]at hc;split at hc
  .rename_i x s ni ha ht
   have Pj:cl.args=#[x]:=by rw[<-Array.toArray_toList (xs:=cl.args),ha]
   have tf:cl.argTypes=#[s]:=by rw[<-Array.toArray_toList (xs:=cl.argTypes),ht]
   split at hc<;>subst hc
   .rename_i y h1 h2;exact NH R eI ni Pj tf hd h1 h2 ez (.inl ⟨rfl,he⟩)
   .rename_i el y h1 h2;exact NH R eI ni Pj tf hd h1 h2 ez (.inr ⟨⟨el,rfl⟩,he⟩)
   .cases dG
  .rename_i x1 x2 t t' ni ha ht
   have Pj:cl.args=#[x1,x2]:=by rw[<-Array.toArray_toList (xs:=cl.args),ha]
   have tf:cl.argTypes=#[t,t']:=by rw[<-Array.toArray_toList (xs:=cl.argTypes),ht]
   split at hc
   case h_2=>subst hc;cases dG
   rename_i el y1 y2 h1 h2 h3;split at hc
   case h_2=>subst hc;cases dG
   rename_i i h4;split at hc
   case h_2=>subst hc;cases dG
   rename_i z h5
   split at hc<;>subst hc
   case isFalse=>cases dG
   rename_i nw;obtain⟨rfl,k1,k2⟩:=nw;simp only[fw.rd,adm]at ez dZ;exact OQ R eI ni Pj tf hd h1 h4 h5 k1 k2 h2 h3 (λt h=>ez t (.inl h)) (λt h=>ez t (.inr h)) (λt ht h=>dZ t ht (.inl h)) he
  .rename_i x1 x2 ni ha
   have Pj:cl.args=#[x1,x2]:=by rw[<-Array.toArray_toList (xs:=cl.args),ha]
   split at hc<;>subst hc
   case h_2=>cases dG
   rename_i y1 y2 h1 h2;simp only[fw.rd,adm]at ez;exact Gd R eI Pj hd h1 h2 (λt h=>ez t (.inl h)) (λt h=>ez t (.inr h)) (.inl ⟨ni,he⟩)
  .rename_i x1 x2 ni ha
   have Pj:cl.args=#[x1,x2]:=by rw[<-Array.toArray_toList (xs:=cl.args),ha]
   split at hc<;>subst hc
   case h_2=>cases dG
   rename_i y1 y2 h1 h2;simp only[fw.rd,adm]at ez;exact Gd R eI Pj hd h1 h2 (λt h=>ez t (.inl h)) (λt h=>ez t (.inr h)) (.inr ⟨ni,he⟩)
  .split at hc<;>subst hc<;>cases dG
  .split at hc<;>subst hc<;>cases dG
  .subst hc;cases dG
 all_goals (simp only[eI]at hc;subst hc;cases dG)
end
def cm:Nat->Prop:=λ_=>False
def aw(GI:World->Prop):Prop:=∀w w',GI w->Below w.heap.size w w'->GI w'
def cC.ok(n:Nat)(o:cC):Bool:=
 (match o.dst with|some d=>decide (d<n)&&!o.op.rd.contains d|none=>true)&&
 (match o.guard with|some (t,_)=>decide (t<n)|none=>true)
def fw.je:fw->Bool
 |.alloc ..|.box ..=>true
 |_=>false
def cC.je(o:cC):List Nat:=if o.op.je then o.dst.toList else[]
def EL(ops:Array Oper)(j:Nat):Option Nat:=(ops[j]?).bind (·.dst)
def taken(ops:Array Oper)(d:Nat):Bool:=
 ops.any λo=>match o.op with
  |.call { callee:=.builtin .append,args,.. }=>match args.toList with
   |.tmp t::_=>t==d
   |_=>false
  |_=>false
def rootOf(ops:Array Oper):Nat->Operand->HR
 |k+1,.tmp t=>match ops.toList.find? (λo=>o.dst==some t)with
  |some o=>match o.op with
   |.fieldAddr _ x _=>rootOf ops k x
   |.indexAddr ..=>.ref
   |.alloc _=>.box t
   |_=>.any
  |none=>.box t
 |_,_=>.any
def aa6(ops:Array Oper)(o:Oper):HR:=
 match o.op with
 |.load _ x|.store _ x _=>rootOf ops 10 x
 |_=>.any
def dh(P:Program)(n:Nat)(dr:Bool)(ops:Array Oper)(o:Oper):cC:={
 dst:=o.dst
 guard:=match o.guard with
  |some (j,b)=>match EL ops j with
   |some t=>some (t,b)
   |none=>some (n,b)
  |none=>none
 op:=comp P n (match o.dst with|some d=>taken ops d|none=>false) (if dr then aa6 ops o else .any) o }
def cN(P:Program)(n:Nat)(dr:Bool)(ops:Array Oper):List cC:=ops.toList.map (dh P n dr ops)
def aF(S:av):Option (Nat×Bool)->Option Bool
 |none=>some true
 |some (t,b)=>match S t with
  |.bool c=>some (c==b)
  |.dN []=>some false
  |_=>none
def bn(P:Program)(GI:World->Prop):List cC->(av->aD->Prop)->(AV->Prop)->av->aD->Prop
 |[],K,_,S,H=>K S H
 |o::rest,K,Qp,S,H=>match aF S o.guard with
  |some true=>bg P GI o.op o.dst (bn P GI rest K Qp) Qp S H
  |some false=>bn P GI rest K Qp (aT S o.dst b_) H
  |none=>False
section
variable{P:Program}{GI:World->Prop}{w0:World}{n:Nat}{U:Nat->Prop}{g:Gh}{S:av}{H:aD}{a:Act}{w:World}
theorem eK.wp {o:Oper} {e:aQ} (h:eK P w0 n U g S H a w o e) {K:Act→World→Prop} {Q:Exit→Act→World→Prop}
  (hK:∀g' a' w',g'.base=g.base->g'.old=g.old->Rel P w0 n U g' (e.S S o.dst) (e.H H) a' w'->K a' w'):o.wp P a w K Q:=by
 obtain⟨c,w',g',hr,h1,h2,R⟩:=h;unfold Oper.wp
 rcases hr with hr|⟨hr,rfl⟩
 .rw[hr];exact hK g' _ _ h1 h2 R
 .rw[hr];exact hK g' _ _ h1 h2 R
theorem eU{a:Act}{cl:Call}{f:Operand}{t:TypeId}(hc:cl.callee=.value f):resolve a.eval cl t=Deferred.ofValue (a.eval f) (cl.args.map a.eval):=by
 unfold resolve;rw[hc]
theorem He (R:Rel P w0 n U g S H a w) (hG:aw GI) (cT:GI w0) {f:Nat} {args:List AV} {ck:Array Value} {bx:Bool} {KA:AV→Prop} {Qp:AV→Prop}
  (hl:args.length=ck.size) (hr:∀i (h:i<args.length)(h':i<ck.size),RV (fy g bx) (λ_=>none) w args[i] ck[i])
  (h:kE P GI f args bx KA Qp) (dst:Option Nat) (hd:∀t,dst=some t->t<n/\¬U t) {Kc:Act->World->Prop} {Qc:Exit->Act->World->Prop}
  (hK:∀v g' a' w',g'.base=g.base->g'.old=g.old->Rel P w0 n U g' (aT S dst v) H a' w'->KA v->Kc a' w')
  (hP:∀v c hi w',Below w0.heap.size w0 w'->(∀b,w'.heap.size<=b->hi b=0)->RD (vv w0.heap.size g.old.c hi) w' v c->Qp v->Qc (.panic [{ v:=c,recovered:=false }]) a w'):
  dX P f=true/\Calls P f ck w (λ|.returned v,lu=>Kc (a.put dst v) lu|.panicked chain,lu=>Qc (.panic chain) a lu|.outgrown,_=>LetsOut Qc):=by
 obtain⟨out,nv,pU,dH,fV⟩:=h
 have hle:g.base<=w.heap.size:=by rw[R.base];exact R.below.size
 have fU:GI w:=by
  have hb:=R.below;rw[R.base]at hb;exact hG w0 w cT hb
 refine⟨nv,(pU w (fy g bx) ck fU hl hr).mono ?_⟩;rintro e w' ⟨hb,hi,qZ,hh⟩
 cases out with
 |ret v=>
  obtain⟨c,rfl,h1,h2⟩:=hh;obtain⟨g',e1,e2,R'⟩:=R.call dst hd bx hb qZ h1 h2 (λhx=>dH hx);exact hK v g' _ _ e1 e2 R' fV
 |panic v=>
  obtain⟨c,rfl,h1⟩:=hh
  have acr:bx=false:=by
   cases bx with
   |false=>rfl
   |true=>have:=dH rfl;cases this
  subst acr;have wh:=R.below;rw[R.base]at wh hle;refine hP v c (λb=>if b<w.heap.size then g.hi b else hi b) w' (wh.trans (hb.mono hle)) (λb qG=>?_) ?_ fV
  .have:=hb.size;show(if b<w.heap.size then g.hi b else hi b)=0;rw[if_neg (by omega)];exact qZ b qG
  .refine h1.mono (bl.same λb k _ hp=>?_)
   rcases hp with⟨k1,k2⟩|⟨k1,k2⟩
   .rcases k2 with k2|⟨k2,_⟩
    .rcases k2 with k2|k2
     .exact .inl (by rw[<-R.base];exact k2)
     .exact .inr ⟨by rw[<-R.base];exact k2.1,by show k<(if b<w.heap.size then g.hi b else hi b);rw[if_pos k1];exact k2.2⟩
    .cases k2
   .exact .inr ⟨by omega,by show k<(if b<w.heap.size then g.hi b else hi b);rw[if_neg (by omega)];exact k2⟩
theorem Nx(d:Nat):(λt=>(cm t\/t=d)/\t≠d)=cm:=by
 funext t
 simp only[cm,agW,agA,iff_false,not_and,agE];exact id
theorem JR (R:Rel P w0 n cm g S H a w) {o:Oper} {d:Nat} (lr:o.dst=some d) (hd:d < n) (dH:¬ g.old.bx d) {ty:TypeId} {vs:Array Value} {cs:List AV}
  (dv:(execOp a.eval o).run P w=.ok (.value (.pointer (some ⟨w.heap.size,0,none⟩))) (w.alloc (.cells vs ty))) (hr:vh g.Pr w cs vs)
  (ho:∀(g':Gh) j (h:j<cs.length)(h':j<vs.size),(cs[j]).qQ/\gR P w g' (.cell d j) cs[j] vs[j])
  {Kc:Act->World->Prop} {Qc:Exit->Act->World->Prop}
  (hK:∀g' a' w',g'.base=g.base->g'.old=g.old->Rel P w0 n cm g' (ar (λt=>bX d (S t)) d (.box d 0)) (ar H d (some cs)) a' w'->Kc a' w'):o.wp P a w Kc Qc:=by
 have R1:=R.suspend d dH (.box d 0) cs;have R2:=R1.Oz d (.inr rfl) hd cs vs ty (aS _ _ _) (aS _ _ _) hr.1 hr.2.1 (λj h h'=>ho _ j h h') hr.2.2;unfold Oper.wp;rw[dv];show Kc _ _;rw[lr];rw[Nx]at R2;exact hK { g with al:=ar (ar g.al d none) d (some w.heap.size) } _ _ rfl rfl R2
theorem I7{o:Oper}{tk:Bool}{hr:HR}{t:TypeId}{cs:List AV}(h:comp P n tk hr o=.alloc t cs):o.op=.alloc t/\zeroCells P t=some cs:=by
 unfold comp at h
 repeat' split at h
 all_goals first
  |(cases h;done)
  |(cases h;exact⟨by assumption,by assumption⟩)
theorem Wi{o:Oper}{tk:Bool}{hr:HR}{t:TypeId}{size:Nat}{x:eA}(h:comp P n tk hr o=.box t size x):∃x',o.op=.box t x'/\eO n x'=some x:=by
 unfold comp at h
 repeat' split at h
 all_goals first
  |(cases h;done)
  |(cases h;exact⟨_,by assumption,by assumption⟩)
theorem QE{o:Oper}{tk:Bool}{hr:HR}{x:eA}(h:comp P n tk hr o=.panic x):∃x',o.op=.panic x'/\eO n x'=some x:=by
 unfold comp at h
 repeat' split at h
 all_goals first
  |(cases h;done)
  |(cases h;exact⟨_,by assumption,by assumption⟩)
theorem abW{x:Operand}{f:Nat}(h:eO n x=some (.f f)):x=.func f:=by
 cases x<;>simp only[eO]at h
 .split at h<;>cases h
 .simp only[adr]at h;obtain⟨_,_,h⟩:=h;cases h
 .cases h
 .cases h;rfl
theorem UO{o:Oper}{tk:Bool}{hr:HR}{f:Nat}{args:List eA}(h:comp P n tk hr o=.call f args):∃cl,o.op=.call cl/\cl.callee=.value (.func f)/\vx n cl.args.toList=some args:=by
 unfold comp at h
 repeat' split at h
 all_goals first
  |(cases h;done)
  |skip
 cases h;rename_i h1 h2;have e:=abW h1;subst e;exact⟨_,by assumption,by assumption,h2⟩
theorem QY {o:Oper} {tk:Bool} {hr:HR} {f:eA} {args:List eA} (h:comp P n tk hr o = .ik f args) :
  (∃cl f',o.op=.call cl/\cl.callee=.value f'/\eO n f'=some f/\vx n cl.args.toList=some args)\/
  ∃cl r name t,o.op=.call cl/\cl.callee=.invoke r name/\eO n r=some (.t t)/\f=.m t (Rj P name)/\vx n cl.args.toList=some args:=by
 unfold comp at h
 repeat' split at h
 all_goals first
  |(cases h;done)
  |skip
 .cases h;exact .inl ⟨_,_,by assumption,by assumption,by assumption,by assumption⟩
 .cases h;exact .inr ⟨_,_,_,_,by assumption,by assumption,by assumption,rfl,by assumption⟩
theorem SR(x:Value)(l:Array Value):(#[x]++l)[0]?=some x:=by
 rw[Array.getElem?_append_left (by simp)];rfl
theorem WU(x:Value)(l:Array Value):(#[x]++l).extract 1 (#[x]++l).size=l:=by
 apply Array.ext';simp
theorem LP (R:Rel P w0 n U g S H a w) (hG:aw GI) (cT:GI w0) {o:Oper} {tk:Bool} {hr:HR} {f:Nat} {args:List eA} (hc:comp P n tk hr o = .call f args) (hd:∀ t,o.dst=some t→t < n∧¬ U t) (hu:∀ t∈(fw.call f args).rd,¬ U t)
  {KA:AV->Prop} {Qp:AV->Prop} (h:kE P GI f (args.map λy=>fz H (AL.ev S y)) (args.any λy=>df (AL.ev S y)) KA Qp) {Kc:Act->World->Prop} {Qc:Exit->Act->World->Prop}
  (hK:∀v g' a' w',g'.base=g.base->g'.old=g.old->Rel P w0 n U g' (aT S o.dst v) H a' w'->KA v->Kc a' w')
  (hP:∀v c hi w',Below w0.heap.size w0 w'->(∀b,w'.heap.size<=b->hi b=0)->RD (vv w0.heap.size g.old.c hi) w' v c->Qp v->Qc (.panic [{ v:=c,recovered:=false }]) a w'):o.wp P a w Kc Qc:=by
 obtain⟨cl,eI,Sn,Aq⟩:=UO hc;obtain⟨l1,r1⟩:=R.Sm Aq (λy hy t ht=>hu t (adR.2 ⟨y,hy,ht⟩))
 obtain⟨nv,mQ⟩:=He R hG cT (ck:=cl.args.map a.eval) (by simpa using l1) (λi hi eb=>by
  simp only[adi]at hi;simp only[adp,Array.getElem_map];have:=r1 i hi (by simpa using eb)
  refine R.fz (by simpa using this) _ λhb=>?_
  exact aeU.2 ⟨_,ada hi,hb⟩) h o.dst hd (Kc:=Kc) (Qc:=Qc) hK hP
 have ab_:a.eval (.func f)=.func (.func f) #[] #[]:=rfl;unfold Oper.wp execOp;simp only[eI,eU Sn,ab_,Deferred.ofValue,ads,Sem.run_pure,Result.andThen_ok,invoke,ag_,aha];rw[gy nv];exact mQ
theorem IK (R:Rel P w0 n U g S H a w) (hG:aw GI) (cT:GI w0) {o:Oper} {tk:Bool} {hr:HR} {f:eA} {args:List eA} (hc:comp P n tk hr o = .ik f args) (hd:∀ t,o.dst=some t→t < n∧¬ U t) (hu:∀ t∈(fw.ik f args).rd,¬ U t)
  {k:Nat} {first cap:List AV} (Jw:AL.ev S f=.func (.func k) first cap)
  {KA:AV->Prop} {Qp:AV->Prop} (h:kE P GI k ((first++args.map (AL.ev S)++cap).map (fz H)) ((first++args.map (AL.ev S)++cap).any df) KA Qp) {Kc:Act->World->Prop} {Qc:Exit->Act->World->Prop}
  (hK:∀v g' a' w',g'.base=g.base->g'.old=g.old->Rel P w0 n U g' (aT S o.dst v) H a' w'->KA v->Kc a' w')
  (hP:∀v c hi w',Below w0.heap.size w0 w'->(∀b,w'.heap.size<=b->hi b=0)->RD (vv w0.heap.size g.old.c hi) w' v c->Qp v->Qc (.panic [{ v:=c,recovered:=false }]) a w'):o.wp P a w Kc Qc:=by
 simp only[fw.rd,adm,adR]at hu
 rcases QY hc with⟨cl,f',eI,Sn,hf,Aq⟩|⟨cl,r,name,t,eI,Sn,jE,rfl,Aq⟩
 case inr=>
  obtain⟨l1,r1⟩:=R.Sm Aq (λy hy t ht=>hu t (.inr ⟨y,hy,ht⟩));have Ws:=R.ev jE (λt' ht=>hu t' (.inl (by simpa[eA.tmps]using ht)));simp only[AL.ev]at Jw Ws;generalize hS:S t=sv at Jw Ws;split at Jw
  case h_2=>cases Jw
  rename_i ty v;split at Jw
  case h_2=>cases Jw
  rename_i k' hk;cases Jw;generalize hcr:a.eval r=cr at Ws;have Ws:=Ws.fj rfl
  cases Ws with
  |iface _ _ cv hv=>
  simp only[List.singleton_append,adT]at h
  obtain⟨nv,mQ⟩:=He R hG cT (ck:=#[cv]++cl.args.map a.eval) (by simp at l1⊢;omega) (λi hi eb=>by
   simp only[adi]at hi;simp only[adp]
   refine R.fz ?_ _ λhb=>?_
   .cases i with
    |zero=>
     have e2:(#[cv]++cl.args.map a.eval)[0]=cv:=by rw[afW (by simp)];rfl
     simp only[List.getElem_cons_zero];rw[e2];exact .data _ _ hv
    |succ i=>
     have e2:(#[cv]++cl.args.map a.eval)[i+1]=a.eval (cl.args.toList[i]'(by simp at eb l1⊢;omega)):=by
      rw[agk (by simp)];simp
     simp only[List.getElem_cons_succ,adp];rw[e2];exact r1 i (by simpa using hi) (by simp at eb l1⊢;omega)
   .exact aeU.2 ⟨_,ada hi,hb⟩) h o.dst hd (Kc:=Kc) (Qc:=Qc) hK hP
  have hm:=RZ (v:=cv) (w:=w) hk;unfold Oper.wp execOp;simp only[eI]
  have R8:(resolve a.eval cl o.type).run P w=.ok { target:=.fn (.method name) #[],args:=#[.iface ty cv]++cl.args.map a.eval } w:=by
   unfold resolve;rw[Sn];simp[hcr]
  simp only[ads,R8,Result.andThen_ok,invoke,SR,callMethod,WU,hm,run_program];rw[gy nv];simp only[Oper.upon];exact mQ
 obtain⟨l1,r1⟩:=R.Sm Aq (λy hy t ht=>hu t (.inr ⟨y,hy,ht⟩));have hvf:=R.ev hf (λt ht=>hu t (.inl ht));rw[Jw]at hvf;generalize hcf:a.eval f'=cf at hvf
 cases hvf with
 |data _ _ hh=>cases hh
 |func _ _ _ vs us q1 q2 q3 q4=>
  have fQ:∀i (hi:i<(first++args.map (AL.ev S)++cap).length)(eb:i<(vs++cl.args.map a.eval++us).size),RV g.Pr g.al w (first++args.map (AL.ev S)++cap)[i] (vs++cl.args.map a.eval++us)[i]:=by
   intro i hi eb;simp only[adq,adi]at hi;simp only[Array.length_toList]at l1
   by_cases c1:i<first.length
   .have e1:(first++args.map (AL.ev S)++cap)[i]=first[i]:=by rw[adA (by simp;omega),adA c1]
    have e2:(vs++cl.args.map a.eval++us)[i]=vs[i]:=by rw[afW (by simp;omega),afW (by omega)]
    rw[e1,e2];exact q3 i c1 (by omega)
   .by_cases c2:i<first.length+args.length
    .have e1:(first++args.map (AL.ev S)++cap)[i]=AL.ev S (args[i-first.length]):=by rw[adA (by simp;omega),ad_ (by omega)];simp
     have e2:(vs++cl.args.map a.eval++us)[i]=a.eval (cl.args.toList[i-first.length]'(by simp;omega)):=by
      rw[afW (by simp;omega),agk (by omega)];simp[q1]
     rw[e1,e2];exact r1 _ (by omega) (by simp;omega)
    .have e1:(first++args.map (AL.ev S)++cap)[i]=cap[i-(first.length+args.length)]'(by omega):=by rw[ad_ (by simp;omega)];simp
     have e2:(vs++cl.args.map a.eval++us)[i]=us[i-(first.length+args.length)]'(by omega):=by
      rw[agk (by simp;omega)];simp[q1,l1]
     rw[e1,e2];exact q4 _ (by omega) (by omega)
  obtain⟨nv,mQ⟩:=He R hG cT (ck:=vs++cl.args.map a.eval++us) (by simp at l1⊢;omega) (λi hi eb=>by
   simp only[adi]at hi;simp only[adp]
   refine R.fz (fQ i hi eb) _ λhb=>?_
   exact aeU.2 ⟨_,ada hi,hb⟩) h o.dst hd (Kc:=Kc) (Qc:=Qc) hK hP
  unfold Oper.wp execOp;simp only[eI,eU Sn,hcf,Deferred.ofValue,ads,Sem.run_pure,Result.andThen_ok,invoke];rw[gy nv];simp only[Oper.upon];exact mQ
theorem W2 (R:Rel P w0 n cm g S H a w) (hG:aw GI) (cT:GI w0) {o:Oper} {tk:Bool} {hr:HR} (hd:∀ t,o.dst=some t→t < n) (dZ:∀ t,o.dst=some t→t∉(comp P n tk hr o).rd) (dH:∀ d,o.dst=some d→(comp P n tk hr o).je=true→¬ g.old.bx d)
  {K:av->aD->Prop} {Qp:AV->Prop} (h:bg P GI (comp P n tk hr o) o.dst K Qp S H) {Kc:Act->World->Prop} {Qc:Exit->Act->World->Prop}
  (hK:∀g' S' H' a' w',g'.base=g.base->g'.old=g.old->Rel P w0 n cm g' S' H' a' w'->K S' H'->Kc a' w')
  (hP:∀v c hi w',Below w0.heap.size w0 w'->(∀b,w'.heap.size<=b->hi b=0)->RD (vv w0.heap.size g.old.c hi) w' v c->Qp v->Qc (.panic [{ v:=c,recovered:=false }]) a w'):
  o.wp P a w Kc Qc:=by
 by_cases dG:(comp P n tk hr o).calm=true
 .rw[C6 dG]at h;split at h
  case h_2=>exact h.elim
  rename_i e he
  exact(Md R rfl dG (λt ht=>⟨hd t ht,id⟩) (λ_ _=>id) dZ he).wp λg' a' w' h1 h2 R'=>hK g' _ _ _ _ h1 h2 R' h
 .generalize hc:comp P n tk hr o=op at h dG dZ dH
  cases op<;>try (exact absurd rfl dG)
  case alloc t cs=>
   simp only[bg]at h
   cases lr:o.dst with
   |none=>rw[lr]at h;exact h.elim
   |some d=>
    rw[lr]at h;obtain⟨eI,hz⟩:=I7 hc;unfold zeroCells at hz;split at hz
    case h_2=>cases hz
    rename_i it hi;split at hz
    case h_2=>cases hz
    rename_i z PU;obtain⟨h1,h2,h3⟩:=lA g.Pr w hz
    refine JR R lr (hd d lr) (dH d lr rfl) (vs:=z.cells) (ty:=t) (cs:=cs) ?_ (by simpa using h1) (λg' j hj dY=>⟨h2 _ (ada hj),by have:=h3 P g' (.cell d) j hj (by simpa using dY);rwa [Array.getElem_toList]at this⟩) λg' a' w' e1 e2 R'=>hK g' _ _ _ _ e1 e2 R' h
    unfold execOp;simp[eI,Instr.alloc,zeroValue,typeInfo,hi,PU,newVar,newRow]
  case box t size x=>
   simp only[bg]at h
   cases lr:o.dst with
   |none=>rw[lr]at h;exact h.elim
   |some d=>
    rw[lr]at h;obtain⟨vR,uu,hk⟩:=h;obtain⟨x',eI,hx⟩:=Wi hc;have hv:=(R.ev hx (λ_ _=>id)).fj (AV.nP uu);have ez:=hv.rds uu
    have acX:vh g.Pr w ((AL.ev S x).cells.map AV.aG) (a.eval x').cells:=by
     refine vh.mk' (by simpa using ez.1) (λi v c e1 e2=>?_) (λi v e1=>?_)
     .simp only[adI,adr]at e1;obtain⟨u,h1,rfl⟩:=e1;exact(ez.get h1 e2).aG
     .simp only[adI,adr]at e1;obtain⟨u,h1,rfl⟩:=e1;exact(AV.uV _).trans (ez.one h1)
    refine JR R lr (hd d lr) (dH d lr rfl) (vs:=(a.eval x').cells) (ty:=t) ?_ acX (λg' j hj dY=>⟨by simp only[adp];exact AV.we _,by simp only[adp];exact kP _ _ _⟩) λg' a' w' e1 e2 R'=>hK g' _ _ _ _ e1 e2 R' hk
    unfold execOp;simp[eI,Instr.box,newVar,newRow]
  case panic x=>
   simp only[bg]at h;obtain⟨x',eI,hx⟩:=QE hc;have hv:=R.ev hx (λ_ _=>id);generalize AL.ev S x=v at h hv;generalize sk:a.eval x'=c at hv
   cases v<;>try exact h.elim
   rename_i t v;cases hv;rename_i hv;have si:=hv;cases si;rename_i c' si;unfold Oper.wp execOp;simp only[eI,sk,Instr.panic,ads,run_goPanic,Result.andThen_halt];have wh:=R.below;rw[R.base]at wh;refine hP (.iface t v) (.iface t c') g.hi w wh (λb hb=>(R.fresh b hb).1) ?_ h;rw[<-R.base];exact hv
  case call f args=>
   exact LP R hG cT hc (λt ht=>⟨hd t ht,id⟩) (λ_ _=>id) h (λv g' a' w' e1 e2 R' hk=>hK g' _ _ _ _ e1 e2 R' hk) hP
  case ik f args=>
   simp only[bg]at h;split at h
   case h_2=>exact h.elim
   rename_i k first cap Jw;exact IK R hG cT hc (λt ht=>⟨hd t ht,id⟩) (λ_ _=>id) Jw h (λv g' a' w' e1 e2 R' hk=>hK g' _ _ _ _ e1 e2 R' hk) hP
  case other=>exact h.elim
end
section
variable{P:Program}{GI:World->Prop}{w0:World}{n:Nat}{U:Nat->Prop}{g:Gh}{S:av}{H:aD}{a:Act}{w:World}
inductive dp where
 |normal|exit (id:Nat)|ret|panic (v:AV)
def QQ(P:Program)(w0:World)(n:Nat)(old:Old)(Q:dp->av->aD->Prop):Exit->Act->World->Prop
 |.normal,a,w=>∃g S H,g.old=old/\Rel P w0 n cm g S H a w/\Q .normal S H
 |.exit id,a,w=>∃g S H,g.old=old/\Rel P w0 n cm g S H a w/\Q (.exit id) S H
 |.ret,a,w=>∃g S H,g.old=old/\Rel P w0 n cm g S H a w/\Q .ret S H
 |.panic chain,a,w=>a.defers=old.ds/\∃v c hi S H,chain=[{ v:=c,recovered:=false }]/\Below w0.heap.size w0 w/\(∀b,w.heap.size<=b->hi b=0)/\RD (vv w0.heap.size old.c hi) w v c/\Q (.panic v) S H
 |_,_,_=>False
theorem F8(Pr:Nat->Nat->Prop)(w:World):RD Pr w b_ undef:=.dN [] #[] rfl λi h=>by simp at h
theorem Rel.Yu(R:Rel P w0 n U g S H a w)(dst:Option Nat)(hd:∀t,dst=some t->t<n):Rel P w0 n U g (Go.AL.aT S dst b_) H (a.put dst undef) w:=
 R.aT dst _ _ hd (.data _ _ (F8 _ _)) λ_ _=>trivial
theorem Lj (R:Rel P w0 n U g S H a w) {dr:Bool} {ops:Array Oper} {o:Oper} {b:Bool} (hu:∀ t b,(dh P n dr ops o).guard=some (t,b)→¬ U t)
  (cP:(dh P n dr ops o).ok n=true) (h:aF S (dh P n dr ops o).guard=some b):Region.wanted o (yielded ops a.tmps)=b:=by
 unfold Region.wanted;simp only[dh]at cP h hu
 cases hg:o.guard with
 |none=>
  rw[hg]at h;simp only[aF,adS]at h;exact h
 |some p=>
  obtain⟨j,want⟩:=p;rw[hg]at h cP hu;simp only at h cP hu⊢
  cases hj:EL ops j with
  |none=>
   rw[hj]at cP;simp only[cC.ok,adb,adf]at cP;omega
  |some t=>
   rw[hj]at h cP hu;simp only[cC.ok,adb,adf]at cP;have ht:t<n:=cP.2;have hs:=R.slot t ht (hu t want rfl)
   have hy:yielded ops a.tmps j=(match a.tmps.getD t undef with|.bool b=>some b|_=>none):=by
    unfold yielded;unfold EL at hj;rw[hj]
    have:t<a.tmps.size:=by rw[R.size];exact ht
    simp[this]
    split<;>simp_all
   rw[hy];simp only[aF]at h;generalize S t=v at h hs;generalize a.tmps.getD t undef=c at hs;split at h
   .cases h;cases hs;rename_i hs;cases hs;rename_i c'
    cases c'<;>cases want<;>rfl
   .cases h;cases hs;rename_i hs;cases hs
    simp_all
   .cases h
theorem y5 (hG:aw GI) (cT:GI w0) {old:Old} {ops:Array Oper} {Q:dp→av→aD→Prop} {S0:av} {H0:aD} :
  ∀(l:List Nat)(os:List Oper)(g:Gh)(S:av)(H:aD)(a:Act)(w:World),l.map (ops[·]?)=os.map some->(∀o∈os,(dh P n false ops o).ok n=true)->(∀o∈os,∀d∈(dh P n false ops o).je,¬old.bx d)->g.old=old->Rel P w0 n cm g S H a w->
   bn P GI (os.map (dh P n false ops)) (Q .normal) (λv=>Q (.panic v) S0 H0) S H->wpOps P ops (QQ P w0 n old Q) l a w
 |[],os,g,S,H,a,w,hl,_,_,ho,R,h=>by
  have:os=[]:=by cases os with|nil=>rfl|cons=>simp at hl
  subst this;exact⟨g,S,H,ho,R,h⟩
 |i::l,os,g,S,H,a,w,hl,cP,dH,ho,R,h=>by
  cases os with
  |nil=>simp at hl
  |cons o os=>
   simp only[adC,afe]at hl;obtain⟨hi,hl⟩:=hl;have J6:=cP o adt;simp only[adC,bn]at h;simp only[wpOps,hi]
   have Ns:∀t,o.dst=some t->t<n/\t∉(dh P n false ops o).op.rd:=by
    intro t ht;simp only[cC.ok,adb]at J6;have h1:=J6.1;rw[show(dh P n false ops o).dst=o.dst from rfl,ht]at h1;simpa using h1
   cases hw:aF S (dh P n false ops o).guard with
   |none=>rw[hw]at h;exact h.elim
   |some b=>
    rw[hw]at h;rw[Lj R (λ_ _ _=>id) J6 hw]
    cases b with
    |true=>
     simp only[adJ];refine .inl (W2 R hG cT (λt ht=>(Ns t ht).1) (λt ht=>(Ns t ht).2) (λd hd hl=>by rw[ho];exact dH o adt d (by have:(dh P n false ops o).op.je=true:=hl;simp only[cC.je,this,adJ];rw[show(dh P n false ops o).dst=o.dst from rfl,hd];simp)) h (λg' S' H' a' w' e1 e2 R' hk=>y5 hG cT l os g' S' H' a' w' hl (λo ho=>cP o (ado _ ho)) (λo ho=>dH o (ado _ ho)) (e2.trans ho) R' hk) ?_);intro v c hi w' k1 k2 k3 k4;exact⟨by rw[<-ho];exact R.defers,v,c,hi,S0,H0,rfl,k1,k2,by rw[<-ho];exact k3,k4⟩
    |false=>
     simp only[adl,adz];exact y5 hG cT l os g _ H _ w hl (λo ho=>cP o (ado _ ho)) (λo ho=>dH o (ado _ ho)) ho (R.Yu o.dst λt ht=>(Ns t ht).1) h
theorem Uw (hG:aw GI) (cT:GI w0) {old:Old} {id:Nat} {ops:Array Oper} {Q:dp→av→aD→Prop} (cP:(cN P n false ops).all (·.ok n)=true) (dH:∀ o∈cN P n false ops,∀ d∈o.je,¬ old.bx d) (ho:g.old=old) (R:Rel P w0 n cm g S H a w)
  (h:bn P GI (cN P n false ops) (Q .normal) (λv=>Q (.panic v) S H) S H):(Code.region id ops false).wp P (QQ P w0 n old Q) a w:=by
 refine wp_region (y5 hG cT (S0:=S) (H0:=H) (List.range ops.size) ops.toList g S H a w ?_ (λo qf=>?_) (λo qf=>dH _ (ago qf)) ho R h)
 .apply aeX;intro i;simp only[adI]
  by_cases hi:i<ops.size
  .simp[hi]
  .simp[hi]
 .simp only[cN,afA,adu,Function.comp]at cP;exact cP o qf
end
inductive Acc where
 |no|rd (r:Option Nat)|soft (r:Option Nat)|wr (r:Option Nat)
def HR.one:HR->Option Nat
 |.box r=>some r
 |_=>none
def fw.acc:fw->Acc
 |.load .ref ..=>.no
 |.load hr ..=>.rd hr.one
 |.loadT hr _=>.soft hr.one
 |.store hr ..=>.wr hr.one
 |_=>.no
def meets:Option Nat->Option Nat->Bool
 |some a,some b=>a==b
 |_,_=>true
def Acc.conflict:Acc->Acc->Bool
 |.no,_|_,.no=>false
 |.rd _,.rd _|.rd _,.soft _|.soft _,.rd _=>false
 |.rd a,.wr b|.wr a,.rd b|.soft a,.soft b|.soft a,.wr b|.wr a,.soft b|.wr a,.wr b=>meets a b
def fw.wr:fw->List Nat
 |.mv true x=>x.tmps
 |.store _ _ _ x=>x.tmps
 |.append _ _ _ _ x _=>x.tmps
 |_=>[]
def cC.reads(o:cC):List Nat:=o.op.rd++(match o.guard with|some (t,_)=>[t]|none=>[])
def cC.writes(o:cC):List Nat:=o.dst.toList++o.op.wr
def cC.apart(x y:cC):Bool:=
 x.writes.all (λt=>!y.reads.contains t&&!y.writes.contains t)&&y.writes.all (λt=>!x.reads.contains t)&&!x.op.acc.conflict y.op.acc
section
variable{P:Program}{GI:World->Prop}
def qm(P:Program)(GI:World->Prop)(op:fw)(dst:Option Nat)(S:av)(H:aD)(e:aQ):Prop:=
 match op with
 |.alloc _ _=>match dst with
  |some d=>e={ v:=.box d 0 }
  |none=>False
 |.call f args=>(args.any λy=>df (ev S y))=false/\kE P GI f (args.map λy=>fz H (ev S y)) (args.any λy=>df (ev S y)) (λv=>e={ v:=v }) (λ_=>False)
 |.ik f args=>match ev S f with
  |.func (.func k) first cap=>((first++args.map (ev S)++cap).any df)=false/\kE P GI k ((first++args.map (ev S)++cap).map (fz H)) ((first++args.map (ev S)++cap).any df) (λv=>e={ v:=v }) (λ_=>False)
  |_=>False
 |.box ..|.panic _|.other=>False
 |op=>aH S H op=some e
def i_(P:Program)(GI:World->Prop)(op:fw)(dst:Option Nat)(K:av->aD->Prop)(S:av)(H:aD):Prop:=
 match op with
 |.alloc _ _=>match dst with
  |some d=>K (ar S d (.box d 0)) H
  |none=>False
 |.box ..|.panic _|.other=>False
 |.call f args=>(args.any λy=>df (ev S y))=false/\bg P GI (.call f args) dst K (λ_=>False) S H
 |.ik f args=>(match ev S f with|.func _ first cap=>(first++args.map (ev S)++cap).any df|_=>true)=false/\bg P GI (.ik f args) dst K (λ_=>False) S H
 |op=>bg P GI op dst K (λ_=>False) S H
theorem J'{op:fw}{dst:Option Nat}{K:av->aD->Prop}{S:av}{H:aD}(h:i_ P GI op dst K S H):∃e,qm P GI op dst S H e/\K (e.S S dst) (e.H H):=by
 cases op
 case alloc t z=>
  cases dst with
  |none=>exact h.elim
  |some d=>exact⟨_,rfl,h⟩
 case call f args=>
  obtain⟨hb,out,h1,h2,h3,h4⟩:=h
  cases out with
  |ret v=>exact⟨{ v:=v },⟨hb,.ret v,h1,h2,h3,rfl⟩,h4⟩
  |panic v=>exact h4.elim
 case ik f args=>
  simp only[i_,bg]at h;simp only[qm];obtain⟨hb,h⟩:=h;split at h
  .rename_i k first cap hf;rw[hf]at hb;obtain⟨out,h1,h2,h3,h4⟩:=h
   cases out with
   |ret v=>exact⟨{ v:=v },by(try simp only[hf]);exact⟨hb,.ret v,h1,h2,h3,rfl⟩,h4⟩
   |panic v=>exact h4.elim
  .exact h.elim
 case box=>exact h.elim
 case panic=>exact h.elim
 case other=>exact h.elim
 all_goals
  simp only[i_,bg]at h;split at h
  case h_2=>exact h.elim
  rename_i e he;exact⟨e,he,h⟩
def dc(P:Program)(GI:World->Prop):List cC->(av->aD->Prop)->av->aD->Prop
 |[],K,S,H=>K S H
 |o::rest,K,S,H=>match aF S o.guard with
  |some true=>i_ P GI o.op o.dst (dc P GI rest K) S H
  |some false=>dc P GI rest K (aT S o.dst b_) H
  |none=>False
def jg(P:Program)(GI:World->Prop)(o:cC)(S:av)(H:aD)(e:aQ):Prop:=
 match aF S o.guard with
 |some true=>qm P GI o.op o.dst S H e
 |some false=>e={ v:=b_ }
 |none=>False
theorem BB {o:cC} {rest:List cC} {K:av→aD→Prop} {S:av} {H:aD} (h:dc P GI (o::rest) K S H) :
  ∃e,jg P GI o S H e/\dc P GI rest K (e.S S o.dst) (e.H H):=by
 simp only[dc]at h;unfold jg;split at h
 .exact J' h
 .exact⟨_,rfl,h⟩
 .exact h.elim
theorem dj{S S':av}{y:eA}(h:∀t∈y.tmps,S t=S' t):ev S y=ev S' y:=by
 cases y with
 |t k=>exact h k (by simp[eA.tmps])
 |c v=>rfl
 |f k=>rfl
 |m k tab=>simp only[ev,h k (by simp[eA.tmps])]
theorem FG{S S':av}{ys:List eA}(h:∀y∈ys,∀t∈y.tmps,S t=S' t):ys.map (ev S)=ys.map (ev S'):=
 aed λy hy=>dj (h y hy)
def DV:Acc->aD->aD->Prop
 |.no,_,_=>True
 |.rd none,H,H'=>∀i,(H i).map (·.map AV.aG)=(H' i).map (·.map AV.aG)
 |.rd (some r),H,H'=>(H r).map (·.map AV.aG)=(H' r).map (·.map AV.aG)
 |.soft none,H,H'|.wr none,H,H'=>H=H'
 |.soft (some r),H,H'|.wr (some r),H,H'=>H r=H' r
theorem Vu{ag:Bool}{size off:Nat}{cs gM:List AV}(h:cs.map AV.aG=gM.map AV.aG):b0 ag size (cs.drop off)=b0 ag size (gM.drop off):=by
 have hl:cs.length=gM.length:=by have:=congrArg List.length h;simpa using this
 have hd:(cs.drop off).map AV.aG=(gM.drop off).map AV.aG:=by rw[af1,af1,h]
 generalize hx:cs.drop off=xs at hd;generalize hy:gM.drop off=ys at hd
 have qN:xs.length=ys.length:=by have:=congrArg List.length hd;simpa using this
 unfold b0
 have e1:(xs.take size).map AV.aG=(ys.take size).map AV.aG:=by rw[afK,afK,hd]
 have e2:(xs[0]?).map AV.aG=(ys[0]?).map AV.aG:=by
  have:=congrArg (·[0]?) hd;simpa using this
 rw[e1,e2,qN]
theorem Pl{S S':av}{H H':aD}{op:fw}(hS:∀t∈op.rd,S t=S' t)(hH:DV op.acc H H'):aH S H op=aH S' H' op:=by
 cases op
 case build z ps=>
  have:(ps.map λ(o,s,x)=>(o,s,ev S x))=(ps.map λ(o,s,x)=>(o,s,ev S' x)):=
   aed λq hq=>by
    have:=dj (S:=S) (S':=S') (y:=q.2.2) λt ht=>hS t (adR.2 ⟨q,hq,ht⟩)
    simp[this]
  simp only[aH,this]
 case buildSlice t e s ps=>
  have:=FG (S:=S) (S':=S') (ys:=ps) λy hy t ht=>hS t (adR.2 ⟨y,hy,ht⟩)
  simp only[aH,this]
 case GO fn f c=>
  simp only[fw.rd,adm,adR]at hS
  have h1:(f.map λx=>(ev S x).aG)=(f.map λx=>(ev S' x).aG):=aed λy hy=>by rw[dj λt ht=>hS t (.inl ⟨y,hy,ht⟩)]
  have h2:(c.map λx=>(ev S x).aG)=(c.map λx=>(ev S' x).aG):=aed λy hy=>by rw[dj λt ht=>hS t (.inr ⟨y,hy,ht⟩)]
  simp only[aH,h1,h2]
 case pG x lo hi=>
  simp only[fw.rd,adm,adR]at hS
  have h0:=dj (S:=S) (S':=S') (y:=x) λt ht=>hS t (.inl ht)
  have h1:lo.map (ev S)=lo.map (ev S'):=by cases lo with|none=>rfl|some y=>simp only[Option.map_some,adS];exact dj λt ht=>hS t (.inr ⟨y,.inl (by simp),ht⟩)
  have h2:hi.map (ev S)=hi.map (ev S'):=by cases hi with|none=>rfl|some y=>simp only[Option.map_some,adS];exact dj λt ht=>hS t (.inr ⟨y,.inr (by simp),ht⟩)
  simp only[aH,h0,h1,h2]
 case mS s x lo hi=>
  simp only[fw.rd,adm,adR]at hS
  have h0:=dj (S:=S) (S':=S') (y:=x) λt ht=>hS t (.inl ht)
  have h1:lo.map (ev S)=lo.map (ev S'):=by cases lo with|none=>rfl|some y=>simp only[Option.map_some,adS];exact dj λt ht=>hS t (.inr ⟨y,.inl (by simp),ht⟩)
  have h2:hi.map (ev S)=hi.map (ev S'):=by cases hi with|none=>rfl|some y=>simp only[Option.map_some,adS];exact dj λt ht=>hS t (.inr ⟨y,.inr (by simp),ht⟩)
  simp only[aH,h0,h1,h2]
 case load hr ag s x=>
  have e:=dj (S:=S) (S':=S') (y:=x) hS;simp only[aH,e];split
  .rename_i i off he;split
   case isFalse=>rfl
   rename_i cP
   have hd:(H i).map (·.map AV.aG)=(H' i).map (·.map AV.aG):=by
    cases hr with
    |any=>exact hH i
    |ref=>cases cP
    |box r=>
     have:i=r:=by simpa[HR.okB]using cP
     subst this;exact hH
   cases h1:H i<;>cases h2:H' i<;>rw[h1,h2]at hd<;>simp only[Option.map_none,Option.map_some,reduceCtorEq,adS]at hd
   .simp only[Vu hd]
  .rfl
  .rfl
 case loadT hr x=>
  have e:=dj (S:=S) (S':=S') (y:=x) hS;simp only[aH,e];split
  .rename_i i off he;split
   case isFalse=>rfl
   rename_i cP
   have hd:H i=H' i:=by
    cases hr with
    |any=>cases(show H=H' from hH);rfl
    |ref=>cases cP
    |box r=>
     have:i=r:=by simpa[HR.okB]using cP
     subst this;exact hH
   rw[hd]
  .rfl
 case store hr s x y=>
  simp only[fw.rd,adm]at hS
  have e1:=dj (S:=S) (S':=S') (y:=x) λt ht=>hS t (.inl ht)
  have e2:=dj (S:=S) (S':=S') (y:=y) λt ht=>hS t (.inr ht)
  simp only[aH,e1,e2];split
  .rename_i i off he;split
   case isFalse=>rfl
   rename_i cP
   have hd:H i=H' i:=by
    cases hr with
    |any=>cases(show H=H' from hH);rfl
    |ref=>cases cP
    |box r=>
     have:i=r:=by simpa[HR.okB]using cP
     subst this;exact hH
   rw[hd]
  .rfl
 case pick x y z=>
  simp only[fw.rd,adm]at hS;simp only[aH,dj λt ht=>hS t (.inl (.inl ht)),dj λt ht=>hS t (.inl (.inr ht)),dj λt ht=>hS t (.inr ht)]
 case bin=>simp only[fw.rd,adm]at hS;simp only[aH,dj λt ht=>hS t (.inl ht),dj λt ht=>hS t (.inr ht)]
 case F2=>simp only[fw.rd,adm]at hS;simp only[aH,dj λt ht=>hS t (.inl ht),dj λt ht=>hS t (.inr ht)]
 case eqs=>simp only[fw.rd,adm]at hS;simp only[aH,dj λt ht=>hS t (.inl ht),dj λt ht=>hS t (.inr ht)]
 case pC xs=>
  have:=FG (S:=S) (S':=S') (ys:=xs) λy hy t ht=>hS t (adR.2 ⟨y,hy,ht⟩)
  simp only[aH,this]
 case pE=>simp only[fw.rd,adm]at hS;simp only[aH,dj λt ht=>hS t (.inl ht),dj λt ht=>hS t (.inr ht)]
 case nx=>simp only[fw.rd,adm]at hS;simp only[aH,dj λt ht=>hS t (.inl ht),dj λt ht=>hS t (.inr ht)]
 case lookup=>simp only[fw.rd,adm]at hS;simp only[aH,dj λt ht=>hS t (.inl ht),dj λt ht=>hS t (.inr ht)]
 case indexAddr=>simp only[fw.rd,adm]at hS;simp only[aH,dj λt ht=>hS t (.inl ht),dj λt ht=>hS t (.inr ht)]
 case pF=>simp only[fw.rd,adm]at hS;simp only[aH,dj λt ht=>hS t (.inl ht),dj λt ht=>hS t (.inr ht)]
 case append=>simp only[fw.rd,adm]at hS;simp only[aH,dj λt ht=>hS t (.inl ht),dj λt ht=>hS t (.inr ht)]
 case max=>simp only[fw.rd,adm]at hS;simp only[aH,dj λt ht=>hS t (.inl ht),dj λt ht=>hS t (.inr ht)]
 case min=>simp only[fw.rd,adm]at hS;simp only[aH,dj λt ht=>hS t (.inl ht),dj λt ht=>hS t (.inr ht)]
 all_goals first
  |rfl
  |simp only[aH,dj hS]
theorem KL{H H':aD}{v:AV}(h:qS v=false):gI H v=gI H' v:=by cases v<;>first|rfl|cases h
theorem NL{H H':aD}{v:AV}(h:df v=false):fz H v=fz H' v:=by
 cases v<;>first|rfl|skip
 case box=>cases h
 case func fn first cap=>
  simp only[df,afB,ad5,afp]at h;simp only[fz]
  congr 1
  .exact aed λy hy=>KL (h.1 y hy)
  .exact aed λy hy=>KL (h.2 y hy)
theorem RB{S S':av}{H H':aD}{op:fw}{dst:Option Nat}{e:aQ}(hS:∀t∈op.rd,S t=S' t)(hH:DV op.acc H H')(h:qm P GI op dst S H e):qm P GI op dst S' H' e:=by
 cases op
 case alloc=>exact h
 case box=>exact h
 case panic=>exact h
 case other=>exact h
 case call f args=>
  simp only[fw.rd,adR]at hS;simp only[qm]at h⊢;obtain⟨hb,h⟩:=h
  have h2:(args.any λy=>df (ev S y))=(args.any λy=>df (ev S' y)):=by
   rw[ad7];simp only[aeU]
   constructor
   .rintro⟨y,hy,hb⟩;exact⟨y,hy,by rw[<-dj λt ht=>hS t ⟨y,hy,ht⟩];exact hb⟩
   .rintro⟨y,hy,hb⟩;exact⟨y,hy,by rw[dj λt ht=>hS t ⟨y,hy,ht⟩];exact hb⟩
  have h1:(args.map λy=>fz H (ev S y))=(args.map λy=>fz H' (ev S' y)):=aed λy hy=>by
   rw[<-dj λt ht=>hS t ⟨y,hy,ht⟩];simp only[ad5,afp]at hb;exact NL (hb y hy)
  rw[<-h1,<-h2];exact⟨hb,h⟩
 case ik f args=>
  simp only[fw.rd,adm,adR]at hS;simp only[qm]at h⊢
  have h1:=FG (S:=S) (S':=S') (ys:=args) λy hy t ht=>hS t (.inr ⟨y,hy,ht⟩)
  rw[<-dj λt ht=>hS t (.inl ht)];split at h
  case h_2=>exact h.elim
  obtain⟨hb,h⟩:=h;rw[<-h1];refine⟨hb,?_⟩
  have h3:∀l:List AV,l.any df=false->l.map (fz H)=l.map (fz H'):=λl hl=>aed λy hy=>by
   simp only[ad5,afp]at hl;exact NL (hl y hy)
  rw[<-h3 _ hb];exact h
 all_goals
  simp only[qm]at h⊢;rw[<-Pl hS hH];exact h
theorem aQ.G_{e:aQ}{S:av}{dst:Option Nat}{t:Nat}(h1:dst≠some t)(h2:e.dm≠some t):e.S S dst t=S t:=by
 unfold aQ.S
 cases dst with
 |none=>
  cases hd:e.dm with
  |none=>rfl
  |some k=>simp only[aT];exact bj _ _ (λh=>h2 (by rw[hd,h]))
 |some d=>
  simp only[aT];rw[bj _ _ (λh=>h1 (by rw[h]))]
  cases hd:e.dm with
  |none=>rfl
  |some k=>exact bj _ _ (λh=>h2 (by rw[hd,h]))
def KI(acc:Acc)(H:aD):Option (Nat×List AV)->Prop
 |none=>True
 |some (i,cs)=>match acc with
  |.soft r=>meets r (some i)=true/\∃old,H i=some old/\old.map AV.aG=cs.map AV.aG
  |.wr r=>meets r (some i)=true
  |_=>False
theorem LN{hr:HR}{i:Nat}(h:hr.okB i=true):meets hr.one (some i)=true:=by
 cases hr with
 |any=>rfl
 |ref=>cases h
 |box r=>simp only[HR.okB]at h;simp only[HR.one,meets];rw[adX]at h⊢;exact h.symm
theorem fS(v:AV):v.aG=v.aG.aG:=(AV.idem v).symm
theorem Ww{S:av}{H:aD}{op:fw}{e:aQ}(h:aH S H op=some e):(∀t,e.dm=some t->t∈op.wr)/\KI op.acc H e.hw:=by
 cases op
 case mv tk x=>
  simp only[aH]at h
  split at h<;>cases h
  .rename_i lT;subst lT;refine⟨λt ht=>?_,trivial⟩
   cases x<;>simp only[bz]at ht<;>cases ht
   simp[fw.wr,eA.tmps]
  .exact⟨λt ht=>(by cases ht),trivial⟩
 case store hr s x y=>
  simp only[aH]at h
  split at h<;>try cases h
  split at h<;>try cases h
  split at h<;>try cases h
  split at h<;>cases h
  rename_i cP _ _ _ _;refine⟨λt ht=>?_,LN (by assumption)⟩
  cases y<;>simp only[bz]at ht<;>cases ht
  simp[fw.wr,eA.tmps]
 case loadT hr x=>
  simp only[aH]at h
  split at h<;>try cases h
  split at h<;>try cases h
  split at h<;>try cases h
  split at h<;>cases h
  refine⟨λt ht=>(by cases ht),LN (by assumption),_,by assumption,?_⟩;rename_i cs vi _ v hv;rw[List.map_set];obtain⟨au,rfl⟩:=adE.1 hv;apply afg (by simp);intro j h1 h2;rw[agd];split
  .rename_i hj;subst hj;simp only[adp];exact fS _
  .rfl
 case append t e s b x y=>
  simp only[aH]at h;split at h
  .split at h<;>cases h
   exact⟨λt ht=>(by cases ht),trivial⟩
  .split at h<;>cases h
   refine⟨λt ht=>?_,trivial⟩
   cases x<;>simp only[bz]at ht<;>cases ht
   simp[fw.wr,eA.tmps]
  .cases h
 all_goals
  simp only[aH]at h
  first
   |(cases h;done)
   |(simp only[adr]at h;obtain⟨_,_,rfl⟩:=h;exact⟨λt ht=>(by cases ht),trivial⟩)
   |((repeat' split at h)<;>first|(cases h;done)|(cases h;exact⟨λt ht=>(by cases ht),trivial⟩)|(simp only[adr]at h;obtain⟨_,_,rfl⟩:=h;exact⟨λt ht=>(by cases ht),trivial⟩))
theorem Ss{S:av}{H:aD}{op:fw}{dst:Option Nat}{e:aQ}(h:qm P GI op dst S H e):(∀t,e.dm=some t->t∈op.wr)/\KI op.acc H e.hw:=by
 cases op
 case alloc=>
  simp only[qm]at h;split at h
  .subst h;exact⟨λt ht=>(by cases ht),trivial⟩
  .exact h.elim
 case box=>exact h.elim
 case panic=>exact h.elim
 case other=>exact h.elim
 case call f args=>
  obtain⟨_,out,_,_,_,h4⟩:=h
  cases out with
  |ret v=>cases(show e=_ from h4);exact⟨λt ht=>(by cases ht),trivial⟩
  |panic v=>exact h4.elim
 case ik f args=>
  simp only[qm]at h;split at h
  .obtain⟨_,out,_,_,_,h4⟩:=h
   cases out with
   |ret v=>cases(show e=_ from h4);exact⟨λt ht=>(by cases ht),trivial⟩
   |panic v=>exact h4.elim
  .exact h.elim
 all_goals exact Ww h
theorem lC{S:av}{H:aD}{o:cC}{e:aQ}(h:jg P GI o S H e):(∀t,e.dm=some t->t∈o.op.wr)/\KI o.op.acc H e.hw:=by
 unfold jg at h;split at h
 .exact Ss h
 .subst h;exact⟨λt ht=>(by cases ht),trivial⟩
 .exact h.elim
theorem MF{S S':av}{gd:Option (Nat×Bool)}(h:∀t b,gd=some (t,b)->S t=S' t):aF S gd=aF S' gd:=by
 cases gd with
 |none=>rfl
 |some p=>obtain⟨t,b⟩:=p;simp only[aF,h t b rfl]
theorem D6{S S':av}{H H':aD}{o:cC}{e:aQ}(hS:∀t∈o.reads,S t=S' t)(hH:DV o.op.acc H H')(h:jg P GI o S H e):jg P GI o S' H' e:=by
 unfold jg at*
 have hg:aF S o.guard=aF S' o.guard:=MF λt b Gy=>hS t (by simp[cC.reads,Gy])
 rw[<-hg];split at h
 .exact RB (λt ht=>hS t (by simp[cC.reads,ht])) hH h
 .exact h
 .exact h
theorem KT(a b:Acc):a.conflict b=b.conflict a:=by
 cases a<;>cases b<;>simp only[Acc.conflict]<;>(rename_i x y;cases x<;>cases y<;>simp only[meets];rw[ad7,adX,adX];exact eq_comm)
theorem apart_spec {x y:cC} (h:x.apart y=true) :
  (∀t∈x.writes,t∉y.reads/\t∉y.writes)/\(∀t∈y.writes,t∉x.reads)/\x.op.acc.conflict y.op.acc=false:=by
 simp only[cC.apart,adb,adu,adP]at h;obtain⟨⟨h1,h2⟩,h3⟩:=h;refine⟨λt ht=>?_,λt ht=>?_,h3⟩
 .have:=h1 t ht;simpa using this
 .have:=h2 t ht;simpa using this
theorem KK{x y:Acc}(hc:x.conflict y=false){e:aQ}{H:aD}(hw:KI y H e.hw):DV x H (e.H H):=by
 have refl:∀{H':aD},H=H'->DV x H H':=by
  rintro _ rfl
  cases x with
  |no=>trivial
  |rd r=>cases r<;>simp[DV]
  |soft r=>cases r<;>simp[DV]
  |wr r=>cases r<;>simp[DV]
 unfold aQ.H
 cases hh:e.hw with
 |none=>exact refl rfl
 |some p=>
  obtain⟨i,cs⟩:=p;rw[hh]at hw;simp only
  cases x with
  |no=>trivial
  |rd r=>
   cases y with
   |no=>exact hw.elim
   |rd=>exact hw.elim
   |soft q=>
    obtain⟨_,old,h1,h2⟩:=hw
    have key:∀j,(H j).map (·.map AV.aG)=(ar H i (some cs) j).map (·.map AV.aG):=by
     intro j
     by_cases hj:j=i
     .subst hj;rw[aS,h1];simp[h2]
     .rw[bj _ _ hj]
    cases r with
    |none=>exact key
    |some r=>exact key r
   |wr q=>
    cases r with
    |none=>cases q<;>simp[Acc.conflict,meets]at hc
    |some r=>
     cases q with
     |none=>simp[Acc.conflict,meets]at hc
     |some q=>
      simp only[Acc.conflict,meets,adW]at hc
      have hq:q=i:=by simpa[KI,meets]using hw
      subst hq;simp only[DV];rw[bj _ _ hc]
  |soft r=>
   have cI:∀q,meets q (some i)=true->meets r q=false->∃r',r=some r'/\r'≠i:=by
    intro q h1 h2
    cases r with
    |none=>cases q<;>simp[meets]at h2
    |some r=>
     cases q with
     |none=>simp[meets]at h2
     |some q=>
      simp only[meets,adX,adW]at h1 h2;exact⟨r,rfl,by rw[<-h1];exact h2⟩
   cases y with
   |no=>exact hw.elim
   |rd=>exact hw.elim
   |soft q=>
    obtain⟨r',rfl,hn⟩:=cI q hw.1 hc;simp only[DV];rw[bj _ _ hn]
   |wr q=>
    obtain⟨r',rfl,hn⟩:=cI q hw hc;simp only[DV];rw[bj _ _ hn]
  |wr r=>
   have cI:∀q,meets q (some i)=true->meets r q=false->∃r',r=some r'/\r'≠i:=by
    intro q h1 h2
    cases r with
    |none=>cases q<;>simp[meets]at h2
    |some r=>
     cases q with
     |none=>simp[meets]at h2
     |some q=>
      simp only[meets,adX,adW]at h1 h2;exact⟨r,rfl,by rw[<-h1];exact h2⟩
   cases y with
   |no=>exact hw.elim
   |rd=>exact hw.elim
   |soft q=>
    obtain⟨r',rfl,hn⟩:=cI q hw.1 hc;simp only[DV];rw[bj _ _ hn]
   |wr q=>
    obtain⟨r',rfl,hn⟩:=cI q hw hc;simp only[DV];rw[bj _ _ hn]
theorem DV.symm{x:Acc}{H H':aD}(h:DV x H H'):DV x H' H:=by
 cases x with
 |no=>trivial
 |rd r=>cases r with
  |none=>exact λi=>(h i).symm
  |some r=>exact Eq.symm h
 |soft r=>cases r<;>exact Eq.symm h
 |wr r=>cases r<;>exact Eq.symm h
theorem j5{o:cC}{t:Nat}(h:o.dst=some t\/t∈o.op.wr):t∈o.writes:=by
 rcases h with h|h<;>simp[cC.writes,h]
theorem GC{x y:cC}{S:av}{H:aD}{ex ey:aQ}(ha:x.apart y=true)(hy:jg P GI y S H ey)(hx:jg P GI x S H ex):jg P GI x (ey.S S y.dst) (ey.H H) ex:=by
 obtain⟨h1,h2,h3⟩:=apart_spec ha;obtain⟨d1,d2⟩:=lC hy;refine D6 (λt ht=>?_) (KK h3 d2) hx;rw[aQ.G_ (λh=>h2 t (j5 (.inl h)) ht) (λh=>h2 t (j5 (.inr (d1 t h))) ht)]
theorem Gp{x y:cC}{S:av}{H:aD}{ex ey:aQ}(ha:x.apart y=true)(hx:jg P GI x S H ex)(hy:jg P GI y (ex.S S x.dst) (ex.H H) ey):jg P GI y S H ey:=by
 obtain⟨h1,h2,h3⟩:=apart_spec ha;obtain⟨d1,d2⟩:=lC hx;refine D6 (λt ht=>?_) (KK (by rw[KT];exact h3) d2).symm hy;rw[aQ.G_ (λh=>(h1 t (j5 (.inl h))).1 ht) (λh=>(h1 t (j5 (.inr (d1 t h)))).1 ht)]
theorem aQ.acD(e:aQ)(S:av)(dst:Option Nat)(t:Nat):e.S S dst t=if dst=some t then e.v else if e.dm=some t then(S t).aG else S t:=by
 unfold aQ.S
 cases dst with
 |none=>
  rw[if_neg (by simp)]
  cases e.dm with
  |none=>rfl
  |some k=>
   simp only[aT,adS]
   by_cases h:k=t
   .subst h;simp[aS]
   .rw[if_neg h];exact bj _ _ (λhh=>h hh.symm)
 |some d=>
  simp only[aT,adS]
  by_cases hd:d=t
  .subst hd;simp[aS]
  .rw[if_neg hd,bj _ _ (λhh=>hd hh.symm)]
   cases e.dm with
   |none=>rfl
   |some k=>
    simp only[adS]
    by_cases h:k=t
    .subst h;simp[aS]
    .rw[if_neg h];exact bj _ _ (λhh=>h hh.symm)
theorem Lg {x y:cC} {S:av} {ex ey:aQ} (ha:x.apart y=true) (dx:∀ t,ex.dm=some t→t∈x.op.wr) (dy:∀ t,ey.dm=some t→t∈y.op.wr) :
  ey.S (ex.S S x.dst) y.dst=ex.S (ey.S S y.dst) x.dst:=by
 obtain⟨h1,h2,h3⟩:=apart_spec ha
 funext t
 simp only[aQ.acD]
 by_cases hx:x.dst=some t\/ex.dm=some t
 .have hxw:t∈x.writes:=j5 (hx.imp id (dx t))
  have Dl:y.dst≠some t:=λh=>(h1 t hxw).2 (j5 (.inl h))
  have hy2:ey.dm≠some t:=λh=>(h1 t hxw).2 (j5 (.inr (dy t h)))
  simp only[if_neg Dl,if_neg hy2]
 .simp only[not_or]at hx;simp only[if_neg hx.1,if_neg hx.2]
theorem Kn {x y:cC} {H:aD} {ex ey:aQ} (ha:x.apart y=true) (dx:KI x.op.acc H ex.hw) (dy:KI y.op.acc H ey.hw) :
  ey.H (ex.H H)=ex.H (ey.H H):=by
 obtain⟨_,_,h3⟩:=apart_spec ha;unfold aQ.H
 cases hx:ex.hw with
 |none=>rfl
 |some p=>
  cases hy:ey.hw with
  |none=>rfl
  |some q=>
   obtain⟨i,cs⟩:=p;obtain⟨j,ds⟩:=q;rw[hx]at dx;rw[hy]at dy;simp only
   have cI:i≠j:=by
    have key:∀a b:Option Nat,meets a (some i)=true->meets b (some j)=true->meets a b=false->i≠j:=by
     intro a b h1 h2 h3
     cases a with
     |none=>cases b<;>simp[meets]at h3
     |some a=>
      cases b with
      |none=>simp[meets]at h3
      |some b=>
       simp only[meets,adX,adW]at h1 h2 h3;rw[<-h1,<-h2];exact h3
    generalize x.op.acc=ax at dx h3;generalize y.op.acc=ay at dy h3
    cases ax<;>cases ay<;>first|(exact dx.elim)|(exact dy.elim)|skip
    .exact key _ _ dx.1 dy.1 h3
    .exact key _ _ dx.1 dy h3
    .exact key _ _ dx dy.1 h3
    .exact key _ _ dx dy h3
   funext k
   by_cases h1:k=i
   .subst h1;rw[bj _ _ cI,aS,aS]
   .by_cases h2:k=j
    .subst h2;rw[aS,bj _ _ h1,aS]
    .rw[bj _ _ h2,bj _ _ h1,bj _ _ h1,bj _ _ h2]
end
section
variable{P:Program}{GI:World->Prop}{md:Region.Mode}{ops:Array Oper}{n:Nat}
def ox(P:Program)(n:Nat)(ops:Array Oper)(i:Nat):Option cC:=(ops[i]?).map (dh P n true ops)
def Rn(P:Program)(GI:World->Prop)(n:Nat)(ops:Array Oper)(i:Nat)(K:av->aD->Prop)(S:av)(H:aD):Prop:=
 match ox P n ops i with
 |none=>False
 |some o=>∃e,jg P GI o S H e/\K (e.S S o.dst) (e.H H)
def Gx(P:Program)(GI:World->Prop)(n:Nat)(md:Region.Mode)(ops:Array Oper)(QA:av->aD->Prop):Nat->Array Bool->av->aD->Prop
 |0,listed,S,H=>Region.ready md ops listed=[]/\QA S H
 |fuel+1,listed,S,H=>(Region.ready md ops listed=[]->QA S H)/\∀i∈Region.ready md ops listed,Rn P GI n ops i (Gx P GI n md ops QA fuel (listed.setIfInBounds i true)) S H
theorem Nl{listed:Array Bool}{i:Nat}(h:i∈Region.ready md ops listed):∃o,ops[i]?=some o/\ox P n ops i=some (dh P n true ops o):=by
 obtain⟨_,o,ho,_⟩:=agc.1 h;exact⟨o,ho,by simp[ox,ho]⟩
theorem Qu {QA:av→aD→Prop} {i:Nat} {oi:cC} {e:aQ} (hi:ox P n ops i=some oi) :
  ∀(fuel:Nat)(listed:Array Bool)(S:av)(H:aD),
   (∀j o aj,ops[j]?=some o->ox P n ops j=some aj->j≠i->listed.getD j true=false->(∀ed∈o.after,Region.binds md ed=true->ed.on≠i)->oi.apart aj=true)->
   i∈Region.ready md ops listed->jg P GI oi S H e->
   Gx P GI n md ops QA fuel (listed.setIfInBounds i true) (e.S S oi.dst) (e.H H)->Gx P GI n md ops QA (fuel+1) listed S H:=by
 intro fuel
 induction fuel with
 |zero=>
  intro listed S H _ hr hy hK;refine⟨λh=>(by rw[h]at hr;cases hr),λj hj=>?_⟩
  by_cases gw:j=i
  .subst gw;unfold Rn;rw[hi];exact⟨e,hy,hK⟩
  .have:=agB hj gw;rw[hK.1]at this;cases this
 |succ fuel ih=>
  intro listed S H vj hr hy hK;refine⟨λh=>(by rw[h]at hr;cases hr),λj hj=>?_⟩
  by_cases gw:j=i
  .subst gw;unfold Rn;rw[hi];exact⟨e,hy,hK⟩
  .have h1:=hK.2 j (agB hj gw);obtain⟨NX,o,ho,fQ⟩:=agc.1 hj
   have Ce:ox P n ops j=some (dh P n true ops o):=by simp[ox,ho]
   have YP:∀ed∈o.after,Region.binds md ed=true->ed.on≠i:=λed hed hb heq=>by
    have h1:=fQ ed hed hb;have h0:=(agc.1 hr).1;rw[heq]at h1;rcases ae1 i listed.size with h'|h'
    .simp[h']at h0 h1;rw[h0]at h1;cases h1
    .simp[agF h']at h1
   have ke:=vj j o _ ho Ce gw NX YP;unfold Rn at h1⊢;rw[Ce]at h1⊢;obtain⟨ej,TM,hKj⟩:=h1;have Mk:=Gp ke hy TM;refine⟨ej,Mk,?_⟩
   have JF:∀k o' ak,ops[k]?=some o'->ox P n ops k=some ak->k≠i->(listed.setIfInBounds j true).getD k true=false->(∀ed∈o'.after,Region.binds md ed=true->ed.on≠i)->oi.apart ak=true:=by
    intro k o' ak hk XN Nh gE ji;refine vj k o' ak hk XN Nh ?_ ji
    by_cases ye:j=k
    .subst ye;exact NX
    .rw[agn true ye]at gE;exact gE
   refine ih (listed.setIfInBounds j true) _ _ JF (agB hr (ad2 gw)) (GC ke Mk hy) ?_;rw[agt _ _ gw];rw[<-Lg ke (lC hy).1 (lC TM).1,<-Kn ke (lC hy).2 (lC Mk).2];exact hKj
def Ux(md:Region.Mode)(ops:Array Oper)(al:List cC)(listed:Array Bool)(i:Nat):Bool:=
 match al[i]? with
 |none=>false
 |some oi=>(List.range ops.size).all fun j=>j==i || listed.getD j true || match ops[j]?,al[j]? with
   |some oj,some aj=>oj.after.any (λe=>Region.binds md e&&e.on==i)||oi.apart aj
   |_,_=>true
def QI(md:Region.Mode)(ops:Array Oper)(al:List cC):Nat->Nat->Array Bool->Bool
 |0,_,listed=>(Region.ready md ops listed).isEmpty
 |fuel+1,k,listed=>(Region.ready md ops listed).contains k&&Ux md ops al listed k&&QI md ops al fuel (k+1) (listed.setIfInBounds k true)
theorem jK(i:Nat):(cN P n true ops)[i]?=ox P n ops i:=by simp[cN,ox]
theorem Q6 {i:Nat} {oi:cC} {listed:Array Bool} (hi:ox P n ops i=some oi) (h:Ux md ops (cN P n true ops) listed i=true) (j:Nat) (o:Oper) (aj:cC)
  (hj:ops[j]?=some o) (Ce:ox P n ops j=some aj) (cI:j≠i) (gE:listed.getD j true=false) (ji:∀e∈o.after,Region.binds md e=true->e.on≠i):oi.apart aj=true:=by
 simp only[Ux,jK,hi,adu,adF]at h;have h1:=h j (ade.1 hj).1;simp only[hj,Ce,aei,adX,cI,agW,gE,adl]at h1;rcases h1 with h1|h1
 .obtain⟨e,he,hb⟩:=af3.1 h1;simp only[adb,adX]at hb;exact absurd hb.2 (ji e he hb.1)
 .exact h1
theorem Ig {QA:av→aD→Prop}:∀ (l:List Oper) (k:Nat) (listed:Array Bool) (S:av) (H:aD),(∀ j,l[j]? = ops[k+j]?) →
  QI md ops (cN P n true ops) l.length k listed=true->dc P GI (l.map (dh P n true ops)) QA S H->Gx P GI n md ops QA l.length listed S H
 |[],_,_,_,_,_,hB,h=>⟨by simpa[QI]using hB,h⟩
 |o::l,k,listed,S,H,hl,hB,h=>by
  have h0:ops[k]?=some o:=by simpa using(hl 0).symm
  have ha:ox P n ops k=some (dh P n true ops o):=by simp[ox,h0]
  simp only[List.length_cons,QI,adb]at hB;obtain⟨⟨hr,hf⟩,TQ⟩:=hB;obtain⟨e,hy,hK⟩:=BB h
  exact Qu ha l.length listed S H (Q6 ha hf) (by simpa using hr) hy
   (Ig l (k+1) _ _ _ (λj=>by have:=hl (j+1);simpa[afJ,Nat.add_comm 1 j]using this) TQ hK)
def bQ(o:cC):Option (Nat×List AV):=
 match o.op,o.dst with
 |.alloc _ z,some d=>some (d,z)
 |_,_=>none
def UU(P:Program)(n:Nat)(ops:Array Oper)(listed:Array Bool)(t:Nat):Prop:=
 ∃j o z,ox P n ops j=some o/\bQ o=some (t,z)/\listed.getD j true=false
def tW(md:Region.Mode)(ops:Array Oper)(al:List cC):Bool:=
 (List.range ops.size).all λj=>match ops[j]?,al[j]? with
  |some oj,some aj=>match bQ aj with
   |some (d,_)=>oj.after.isEmpty && aj.guard.isNone && (List.range ops.size).all fun k=>k==j || match ops[k]?,al[k]? with
     |some ok,some ak=>!ak.writes.contains d&&(!ak.reads.contains d||ok.after.any (λe=>Region.binds md e&&e.on==j))
     |_,_=>false
   |none=>true
  |_,_=>false
theorem p8 (h:tW md ops (cN P n true ops)=true) {j:Nat} {oj:Oper} {aj:cC} {d:Nat} {z:List AV} (hj:ops[j]? = some oj) (Ce:ox P n ops j=some aj) (hd:bQ aj=some (d,z)) :
  oj.after=#[]/\aj.guard=none/\∀k ok ak,ops[k]?=some ok->ox P n ops k=some ak->k≠j->d∉ak.writes/\(d∈ak.reads->∃e∈ok.after,Region.binds md e=true/\e.on=j):=by
 simp only[tW,adu,adF]at h;have h1:=h j (ade.1 hj).1;simp only[hj,jK,Ce,hd,adb,adu,adF]at h1;obtain⟨⟨h2,h3⟩,h4⟩:=h1;refine⟨by simpa using h2,by simpa using h3,λk ok ak hk XN cI=>?_⟩;have h5:=h4 k (ade.1 hk).1;simp only[hk,XN,aei,adX,cI,agW,adb,adP]at h5;refine⟨by simpa using h5.1,λhd=>?_⟩;rcases h5.2 with h6|h6
 .simp at h6;exact absurd hd h6
 .obtain⟨e,he,hb⟩:=af3.1 h6;simp only[adb,adX]at hb;exact⟨e,he,hb⟩
theorem QX(hA:tW md ops (cN P n true ops)=true){listed:Array Bool}(hr:Region.ready md ops listed=[]):UU P n ops listed=cm:=by
 funext t
 simp only[cm,agA,iff_false];rintro⟨j,o,z,h1,h2,h3⟩;unfold ox at h1
 cases hj:ops[j]? with
 |none=>simp[hj]at h1
 |some oj=>
  have Ce:ox P n ops j=some o:=by unfold ox;exact h1
  obtain⟨ha,_,_⟩:=p8 hA hj Ce h2;have:j∈Region.ready md ops listed:=agc.2 ⟨h3,oj,hj,λe he=>by rw[ha]at he;simp at he⟩;rw[hr]at this;cases this
theorem NA{listed:Array Bool}{i:Nat}{oi:cC}(hi:ox P n ops i=some oi)(ji:bQ oi=none):UU P n ops (listed.setIfInBounds i true)=UU P n ops listed:=by
 funext t
 simp only[UU,agA]
 constructor
 .rintro⟨j,o,z,h1,h2,h3⟩;refine⟨j,o,z,h1,h2,?_⟩
  by_cases gw:i=j
  .subst gw;rw[hi]at h1;cases h1;rw[ji]at h2;cases h2
  .rwa [agn true gw]at h3
 .rintro⟨j,o,z,h1,h2,h3⟩;refine⟨j,o,z,h1,h2,?_⟩
  by_cases gw:i=j
  .subst gw;rw[hi]at h1;cases h1;rw[ji]at h2;cases h2
  .rwa [agn true gw]
theorem WQ (hA:tW md ops (cN P n true ops)=true) {listed:Array Bool} {i d:Nat} {o:Oper} {oi:cC} {z:List AV} (ho:ops[i]? = some o) (hi:ox P n ops i=some oi) (hd:bQ oi=some (d,z)) (au:i < listed.size) :
  UU P n ops (listed.setIfInBounds i true)=λt=>UU P n ops listed t/\t≠d:=by
 obtain⟨_,_,jB⟩:=p8 hA ho hi hd
 funext t
 simp only[UU,agA]
 constructor
 .rintro⟨j,oj,z',h1,h2,h3⟩
  have gw:i≠j:=by rintro rfl;simp[au]at h3
  refine⟨⟨j,oj,z',h1,h2,by rwa [agn true gw]at h3⟩,?_⟩;rintro rfl
  have hj:∃o',ops[j]?=some o':=by
   unfold ox at h1
   cases hj:ops[j]? with
   |none=>simp[hj]at h1
   |some o'=>exact⟨o',rfl⟩
  obtain⟨o',hj⟩:=hj;have:=(jB j o' oj hj h1 (ad2 gw)).1;apply this;unfold bQ at h2;split at h2
  .rename_i lr;simp only[adS,agj]at h2;rw[h2.1]at lr;exact j5 (.inl lr)
  .cases h2
 .rintro⟨⟨j,oj,z',h1,h2,h3⟩,cI⟩
  have gw:i≠j:=by
   rintro rfl;rw[hi]at h1;cases h1;rw[hd]at h2;simp only[adS,agj]at h2;exact cI h2.1.symm
  exact⟨j,oj,z',h1,h2,by rwa [agn true gw]⟩
end
section
variable{P:Program}{GI:World->Prop}{w0:World}{n:Nat}{U:Nat->Prop}{g:Gh}{S:av}{H:aD}{a:Act}{w:World}{ops:Array Oper}
theorem QZ{dr:Bool}{o:cC}{x:Oper}{hr:HR}{size:Nat}{y z:eA}(hc:dh P n dr ops x=o)(h:o.op=.store hr size y z):∃x',eO n x'=some y:=by
 subst hc;unfold dh at h;revert h;generalize(match x.dst with|some d=>taken ops d|none=>false)=tk;intro h;simp only at h;unfold comp at h
 repeat' split at h
 all_goals first
  |(cases h;done)
  |(cases h;exact⟨_,by assumption⟩)
theorem RA{dr:Bool}{o:cC}{x:Oper}{hr:HR}{y:eA}(hc:dh P n dr ops x=o)(h:o.op=.loadT hr y):∃x',eO n x'=some y:=by
 subst hc;unfold dh at h;revert h;generalize(match x.dst with|some d=>taken ops d|none=>false)=tk;intro h;simp only at h;unfold comp at h
 repeat' split at h
 all_goals first
  |(cases h;done)
  |(cases h;exact⟨_,by assumption⟩)
theorem abm(R:Rel P w0 n U g S H a w){o:Oper}{dst:Option Nat}{e:aQ}(ez:∀t∈(dh P n true ops o).op.rd,¬U t)(h:qm P GI (dh P n true ops o).op dst S H e){i:Nat}{cs:List AV}(hw:e.hw=some (i,cs)):(g.al i).isSome=true:=by
 have Rg:=(Ss h).2;rw[hw]at Rg
 have box:∀{y:eA}{x':Operand}{off:Nat},eO n x'=some y->(∀t∈y.tmps,¬U t)->AL.ev S y=.box i off->(g.al i).isSome=true:=by
  intro y x' off hx hu he;have:=R.ev hx hu;rw[he]at this;generalize a.eval x'=c at this
  cases this with
  |data _ _ h=>cases h
  |box _ _ b h=>simp[h]
 generalize hc:(dh P n true ops o).op=op at ez h Rg
 cases op<;>try (exact Rg.elim)
 case load hr _ _ _=>cases hr<;>exact Rg.elim
 case loadT hr y=>
  obtain⟨x',hx⟩:=RA rfl hc;simp only[qm,aH]at h
  cases y9:AL.ev S y<;>rw[y9]at h<;>simp only at h<;>try cases h
  rename_i k off;split at h
  case isFalse=>cases h
  split at h
  case h_2=>cases h
  split at h
  case h_2=>cases h
  cases h;cases hw;exact box hx ez y9
 case store hr s y z=>
  obtain⟨x',hx⟩:=QZ rfl hc;simp only[fw.rd,adm]at ez;simp only[qm,aH]at h
  cases y9:AL.ev S y<;>rw[y9]at h<;>simp only at h<;>try cases h
  rename_i k off;split at h
  case isFalse=>cases h
  split at h
  case h_2=>cases h
  split at h
  case isFalse=>cases h
  cases h;cases hw;exact box hx (λt ht=>ez t (.inl ht)) y9
theorem T4{op:fw}(h:op.calm=true){dst:Option Nat}{e:aQ}(hd:qm P GI op dst S H e):aH S H op=some e:=by
 cases op<;>first|exact hd|cases h
theorem P3 (hG:aw GI) (cT:GI w0) {old:Old} {Q:dp→av→aD→Prop} (hA:tW .any ops (cN P n true ops)=true) (cP:∀ o∈ops,(dh P n true ops o).ok n=true) :
  ∀(fuel:Nat)(listed:Array Bool)(g:Gh)(S:av)(H:aD)(a:Act)(w:World),listed.size=ops.size->g.old=old->Rel P w0 n (UU P n ops listed) g S H a w->
   (∀j o d z,ox P n ops j=some o->bQ o=some (d,z)->listed.getD j true=false->S d=.box d 0/\H d=some z)->
   Gx P GI n .any ops (Q .normal) fuel listed S H->wpAny P .any ops (QQ P w0 n old Q) fuel listed a w:=by
 intro fuel
 induction fuel with
 |zero=>
  intro listed g S H a w _ ho R _ h;have hU:=QX hA h.1;rw[hU]at R;exact⟨h.1,g,S,H,ho,R,h.2⟩
 |succ fuel ih=>
  intro listed g S H a w Th ho R hinv h;refine⟨λhr=>?_,λi hi=>?_⟩
  .have hU:=QX hA hr;rw[hU]at R;exact⟨g,S,H,ho,R,h.1 hr⟩
  .have hd:=h.2 i hi;obtain⟨o,iX,JL⟩:=Nl (P:=P) (n:=n) hi;obtain⟨aa7,o',ru,fQ⟩:=agc.1 hi;rw[iX]at ru;cases ru
   have aaf:i<listed.size:=by rw[Th];exact(ade.1 iX).1
   unfold Rn at hd;rw[JL]at hd;obtain⟨e,hy,hK⟩:=hd;have J6:=cP o (aeM iX)
   have Ob:∀t∈(dh P n true ops o).reads,¬UU P n ops listed t:=by
    rintro t ht ⟨j,aj,z,h1,h2,h3⟩
    have hj:∃oj,ops[j]?=some oj:=by
     unfold ox at h1
     cases hj:ops[j]? with
     |none=>simp[hj]at h1
     |some oj=>exact⟨oj,rfl⟩
    obtain⟨oj,hj⟩:=hj;obtain⟨k1,k2,k3⟩:=p8 hA hj h1 h2
    by_cases gw:i=j
    .subst gw;rw[JL]at h1;cases h1;unfold bQ at h2;split at h2
     .rename_i eI _;simp only[cC.reads,eI,k2,fw.rd,adT]at ht;cases ht
     .cases h2
    .obtain⟨ed,Yq,xC,he3⟩:=(k3 i o _ iX JL gw).2 ht;have:=fQ ed Yq xC;rw[he3]at this;rcases ae1 j listed.size with h'|h'
     .simp[h']at h3 this;rw[h3]at this;cases this
     .simp[agF h']at this
   have oW:∀j aj d z,ox P n ops j=some aj->bQ aj=some (d,z)->j≠i->d∉(dh P n true ops o).writes:=by
    intro j aj d z h1 h2 cI
    have hj:∃oj,ops[j]?=some oj:=by
     unfold ox at h1
     cases hj:ops[j]? with
     |none=>simp[hj]at h1
     |some oj=>exact⟨oj,rfl⟩
    obtain⟨oj,hj⟩:=hj;exact((p8 hA hj h1 h2).2.2 i o _ iX JL (ad2 cI)).1
   have Ns:∀t,o.dst=some t->t<n/\t∉(dh P n true ops o).op.rd:=by
    intro t ht;simp only[cC.ok,adb]at J6;have h1:=J6.1;rw[show(dh P n true ops o).dst=o.dst from rfl,ht]at h1;simpa using h1
   have hdU:bQ (dh P n true ops o)=none->∀t,o.dst=some t->¬UU P n ops listed t:=by
    rintro ji t ht ⟨j,aj,z,h1,h2,h3⟩
    have cI:j≠i:=by rintro rfl;rw[JL]at h1;cases h1;rw[ji]at h2;cases h2
    exact oW j aj t z h1 h2 cI (j5 (.inl ht))
   have XM:(∀ k cs,e.hw=some (k,cs)→(g.al k).isSome=true)→∀ j aj d z,ox P n ops j=some aj→bQ aj=some (d,z)→(listed.setIfInBounds i true).getD j true=false →
     e.S S o.dst d=.box d 0/\e.H H d=some z:=by
    intro Rg j aj d z h1 h2 h3
    have cI:j≠i:=by rintro rfl;simp[aaf]at h3
    have QP:listed.getD j true=false:=by rwa [agn true (ad2 cI)]at h3
    obtain⟨k1,k2⟩:=hinv j aj d z h1 h2 QP;have hw:=oW j aj d z h1 h2 cI;refine⟨?_,?_⟩
    .show e.S S (dh P n true ops o).dst d=_;rw[aQ.G_ (λhh=>hw (j5 (.inl hh))) (λhh=>hw (j5 (.inr ((lC hy).1 d hh))))];exact k1
    .unfold aQ.H
     cases hh:e.hw with
     |none=>exact k2
     |some p=>
      obtain⟨k,cs⟩:=p
      have Sb:d≠k:=by
       rintro rfl;have:=Rg d cs hh;rw[R.mr d ⟨j,aj,z,h1,h2,QP⟩]at this;cases this
      simp only[bj _ _ Sb];exact k2
   have bq:(listed.setIfInBounds i true).size=ops.size:=by simpa using Th
   unfold wpOp;simp only[iX];unfold jg at hy
   cases Qb:aF S (dh P n true ops o).guard with
   |none=>rw[Qb]at hy;exact hy.elim
   |some b=>
    rw[Lj R (λt b hg=>Ob t (by simp[cC.reads,hg])) J6 Qb];rw[Qb]at hy
    cases b with
    |false=>
     simp only at hy;subst hy;simp only[adl,adz]
     have ji:bQ (dh P n true ops o)=none:=by
      cases hh:bQ (dh P n true ops o)with
      |none=>rfl
      |some p=>
       obtain⟨d,z⟩:=p;have:=(p8 hA iX JL hh).2.1;rw[this]at Qb;cases Qb
     have hU:=NA JL ji (listed:=listed);refine ih _ g _ _ _ _ bq ho ?_ (XM λ_ _ hh=>by cases hh) hK;rw[hU]
     exact R.aT o.dst _ _ (λt ht=>(Ns t ht).1) (.data _ _ (F8 _ _)) λ_ _=>trivial
    |true=>
     simp only at hy;simp only[adJ];refine .inl ?_
     have Rg:∀k cs,e.hw=some (k,cs)->(g.al k).isSome=true:=λk cs hh=>abm R (λt ht=>Ob t (by simp only[cC.reads,adm];exact .inl ht)) hy hh
     have ZS:=XM Rg
     have next:bQ (dh P n true ops o)=none->∀(g':Gh)(a':Act)(w':World),g'.old=g.old->Rel P w0 n (UU P n ops listed) g' (e.S S o.dst) (e.H H) a' w'->wpAny P .any ops (QQ P w0 n old Q) fuel (listed.setIfInBounds i true) a' w':=by
      intro ji g' a' w' h2 R';refine ih _ g' _ _ _ _ bq (h2.trans ho) ?_ ZS hK;rw[NA JL ji];exact R'
     have ez:∀t∈(dh P n true ops o).op.rd,¬UU P n ops listed t:=λt ht=>Ob t (by simp only[cC.reads,adm];exact .inl ht)
     by_cases dG:(dh P n true ops o).op.calm=true
     .have ji:bQ (dh P n true ops o)=none:=by
       unfold bQ;split
       .rename_i eI _;rw[eI]at dG;cases dG
       .rfl
      refine(Md R rfl dG (λt ht=>⟨(Ns t ht).1,hdU ji t ht⟩) ez (λt ht=>(Ns t ht).2) (T4 dG hy)).wp λg' a' w' e1 e2 R'=>next ji g' a' w' e2 R'
     .generalize eI:(dh P n true ops o).op=op at dG hy ez;have TB:comp P n (match o.dst with|some d=>taken ops d|none=>false) (aa6 ops o) o=op:=eI
      cases op<;>try (exact absurd rfl dG)
      case alloc t cs=>
       simp only[qm]at hy
       cases lr:o.dst with
       |none=>rw[show(dh P n true ops o).dst=o.dst from rfl,lr]at hy;exact hy.elim
       |some d=>
        rw[show(dh P n true ops o).dst=o.dst from rfl,lr]at hy;simp only at hy;subst hy
        have kK:bQ (dh P n true ops o)=some (d,cs):=by
         unfold bQ;rw[eI,show(dh P n true ops o).dst=o.dst from rfl,lr]
        obtain⟨k1,k2⟩:=hinv i _ d cs JL kK aa7;obtain⟨acS,hz⟩:=I7 TB;unfold zeroCells at hz;split at hz
        case h_2=>cases hz
        rename_i it hit;split at hz
        case h_2=>cases hz
        rename_i z PU;obtain⟨h1,h2,h3⟩:=lA g.Pr w hz
        have R2:=R.Oz d ⟨i,_,cs,JL,kK,aa7⟩ (Ns d lr).1 cs z.cells t k1 k2 (by simpa using h1.1) (λj h h'=>by have:=h1.2.1 j h (by simpa using h');simpa using this)
         (λj hj dY=>⟨h2 _ (ada hj),by have:=h3 P g (.cell d) j hj (by simpa using dY);rwa [Array.getElem_toList]at this⟩) h1.2.2
        have dv:(execOp a.eval o).run P w=.ok (.value (.pointer (some ⟨w.heap.size,0,none⟩))) (w.alloc (.cells z.cells t)):=by
         unfold execOp;simp[acS,Instr.alloc,zeroValue,typeInfo,hit,PU,newVar,newRow]
        unfold Oper.wp;rw[dv];show wpAny P .any ops (QQ P w0 n old Q) fuel (listed.setIfInBounds i true) _ _;rw[lr];rw[<-WQ hA iX JL kK aaf]at R2
        have hS:ar S d (.box d 0)=S:=by
         funext t
         by_cases ht:t=d
         .subst ht;rw[aS,k1]
         .rw[bj _ _ ht]
        have hK':Gx P GI n .any ops (Q .normal) fuel (listed.setIfInBounds i true) S H:=by
         have:({ v:=.box d 0 }:aQ).S S (dh P n true ops o).dst=S:=by
          rw[show(dh P n true ops o).dst=o.dst from rfl,lr];exact hS
         rw[this]at hK;exact hK
        refine ih _ { g with al:=ar g.al d (some w.heap.size) } S H _ _ bq ho R2 (λj aj d' z' h1 h2 h3=>?_) hK';have:=ZS j aj d' z' h1 h2 h3
        have hSS:({ v:=.box d 0 }:aQ).S S o.dst=S:=by rw[lr];exact hS
        rw[hSS]at this;exact this
      case call f args=>
       have ji:bQ (dh P n true ops o)=none:=by unfold bQ;rw[eI]
       exact LP R hG cT TB (λt ht=>⟨(Ns t ht).1,hdU ji t ht⟩) ez hy.2 (λv g' a' w' e1 e2 R' hk=>by subst hk;exact next ji g' a' w' e2 R') (λ_ _ _ _ _ _ _ hf=>hf.elim)
      case ik f args=>
       have ji:bQ (dh P n true ops o)=none:=by unfold bQ;rw[eI]
       simp only[qm]at hy;split at hy
       case h_2=>exact hy.elim
       rename_i k first cap Jw;exact IK R hG cT TB (λt ht=>⟨(Ns t ht).1,hdU ji t ht⟩) ez Jw hy.2 (λv g' a' w' e1 e2 R' hk=>by subst hk;exact next ji g' a' w' e2 R') (λ_ _ _ _ _ _ _ hf=>hf.elim)
      case box=>exact hy.elim
      case panic=>exact hy.elim
      case other=>exact hy.elim
def eY:List cC->av->av
 |[],S=>S
 |o::l,S=>match bQ o with
  |some (d,_)=>eY l (ar (λt=>bX d (S t)) d (.box d 0))
  |none=>eY l S
def dQ:List cC->aD->aD
 |[],H=>H
 |o::l,H=>match bQ o with
  |some (d,z)=>dQ l (ar H d (some z))
  |none=>dQ l H
def fh(l:List cC):List Nat:=l.filterMap λo=>(bQ o).map (·.1)
theorem Rel.eY:∀ (l:List cC) {U:Nat→Prop} {g:Gh} {S:av} {H:aD},Rel P w0 n U g S H a w→(fh l).Nodup→(∀ d∈fh l,¬ g.old.bx d) →
  ∃g',g'.base=g.base/\g'.old=g.old/\Rel P w0 n (λt=>U t\/t∈fh l) g' (Go.AL.eY l S) (dQ l H) a w
 |[],U,g,S,H,R,_,_=>⟨g,rfl,rfl,by simpa[fh,Go.AL.eY,dQ]using R⟩
 |o::l,U,g,S,H,R,hn,dH=>by
  cases ha:bQ o with
  |none=>
   have e:fh (o::l)=fh l:=by simp[fh,ha]
   rw[e]at hn dH⊢;simp only[Go.AL.eY,dQ,ha];exact Rel.eY l R hn dH
  |some p=>
   obtain⟨d,z⟩:=p
   have e:fh (o::l)=d::fh l:=by simp[fh,ha]
   rw[e]at hn dH⊢;simp only[Go.AL.eY,dQ,ha];obtain⟨g',e1,e2,R'⟩:=Rel.eY l (R.suspend d (dH d adt) (.box d 0) z) (aff.1 hn).2 (λk hk=>dH k (ado _ hk));refine⟨g',e1,e2,?_⟩
   have:(λt=>U t\/t∈d::fh l)=(λt=>(U t\/t=d)\/t∈fh l):=by
    funext t;simp[or_assoc]
   rw[this];exact R'
theorem Dw:∀(l:List cC)(S:av)(d:Nat),d∉fh l->S d=.box d 0->Go.AL.eY l S d=.box d 0
 |[],S,d,_,h=>h
 |o::l,S,d,hn,h=>by
  cases ha:bQ o with
  |none=>simp only[Go.AL.eY,ha];exact Dw l S d (by simpa[fh,ha]using hn) h
  |some p=>
   obtain⟨k,z⟩:=p;simp only[Go.AL.eY,ha]
   have BF:d≠k/\d∉fh l:=by simpa[fh,ha]using hn
   refine Dw l _ d BF.2 ?_;rw[bj _ _ BF.1,h];simp[bX,BF.1]
theorem Bq:∀(l:List cC)(H:aD)(d:Nat)(z:List AV),d∉fh l->H d=some z->dQ l H d=some z
 |[],H,d,z,_,h=>h
 |o::l,H,d,z,hn,h=>by
  cases ha:bQ o with
  |none=>simp only[dQ,ha];exact Bq l H d z (by simpa[fh,ha]using hn) h
  |some p=>
   obtain⟨k,z'⟩:=p;simp only[dQ,ha]
   have BF:d≠k/\d∉fh l:=by simpa[fh,ha]using hn
   exact Bq l _ d z BF.2 (by rw[bj _ _ BF.1,h])
theorem F6:∀(l:List cC)(S:av)(H:aD),(fh l).Nodup->∀o∈l,∀d z,bQ o=some (d,z)->Go.AL.eY l S d=.box d 0/\dQ l H d=some z
 |[],S,H,_,o,ho,_,_,_=>by cases ho
 |o'::l,S,H,hn,o,ho,d,z,hd=>by
  rcases ad6.1 ho with rfl|ho
  .have e:fh (o::l)=d::fh l:=by simp[fh,hd]
   rw[e]at hn;simp only[Go.AL.eY,dQ,hd];exact⟨Dw l _ d (aff.1 hn).1 (aS _ _ _),Bq l _ d z (aff.1 hn).1 (aS _ _ _)⟩
  .cases ha:bQ o' with
   |none=>
    have e:fh (o'::l)=fh l:=by simp[fh,ha]
    rw[e]at hn;simp only[Go.AL.eY,dQ,ha];exact F6 l S H hn o ho d z hd
   |some p=>
    obtain⟨k,z'⟩:=p
    have e:fh (o'::l)=k::fh l:=by simp[fh,ha]
    rw[e]at hn;simp only[Go.AL.eY,dQ,ha];exact F6 l _ _ (aff.1 hn).2 o ho d z hd
def UA(P:Program)(n:Nat)(ops:Array Oper):Bool:=
 (cN P n true ops).all (·.ok n)&&tW .any ops (cN P n true ops)&&decide ((fh (cN P n true ops)).Nodup)&&QI .any ops (cN P n true ops) ops.size 0 (Array.replicate ops.size false)
theorem Rt (hG:aw GI) (cT:GI w0) (hm:P.follows .mixedOrders=true) {old:Old} {id:Nat} {Q:dp→av→aD→Prop} (cP:UA P n ops=true) (dH:∀ o∈cN P n true ops,∀ d∈o.je,¬ old.bx d) (ho:g.old=old) (R:Rel P w0 n cm g S H a w)
  (h:dc P GI (cN P n true ops) (Q .normal) (eY (cN P n true ops) S) (dQ (cN P n true ops) H)):(Code.region id ops true).wp P (QQ P w0 n old Q) a w:=by
 simp only[UA,adb,adf]at cP;obtain⟨⟨⟨h1,h2⟩,h3⟩,h4⟩:=cP;refine wp_region_any hm ?_;have R0:Rel P w0 n cm g S H a { w with drawn:=w.drawn+1 }:=R.kS ((aeb _ w).drew)
 obtain⟨g',e1,e2,R'⟩:=Rel.eY (cN P n true ops) R0 h3 (λd hd=>by
  simp only[fh,aft,adr]at hd;obtain⟨o,qf,⟨d',z⟩,k1,rfl⟩:=hd;rw[ho];refine dH o qf d' ?_;unfold bQ at k1;split at k1
  .rename_i h1 h2;cases k1;simp[cC.je,h1,h2,fw.je]
  .cases k1)
 have hU:UU P n ops (Array.replicate ops.size false)=(λt=>cm t\/t∈fh (cN P n true ops)):=by
  funext t
  simp only[UU,cm,agW,agA,fh,aft,adr]
  constructor
  .rintro⟨j,o,z,k1,k2,k3⟩;rw[<-jK]at k1;exact⟨o,aet k1,(t,z),k2,rfl⟩
  .rintro⟨o,ho,⟨d,z⟩,k1,rfl⟩;obtain⟨j,hj⟩:=ag4 ho;refine⟨j,o,z,by rw[<-jK];exact hj,k1,?_⟩
   have:j<ops.size:=by
    have:=(adE.1 hj).1;simpa[cN]using this
   simp[this]
 refine P3 hG cT h2 (λo qf=>?_) ops.size (Array.replicate ops.size false) g' _ _ a _ (by simp) (e2.trans ho) (by rw[hU];exact R') (λj o d z k1 k2 k3=>?_) ?_
 .simp only[cN,afA,adu,Function.comp]at h1;exact h1 o (by simpa using qf)
 .rw[<-jK]at k1;exact F6 _ S H h3 o (aet k1) d z k2
 .have:=Ig (QA:=Q .normal) ops.toList 0 (Array.replicate ops.size false) _ _ (by simp) (by simpa using h4) h;simpa using this
end
end Go.AL
