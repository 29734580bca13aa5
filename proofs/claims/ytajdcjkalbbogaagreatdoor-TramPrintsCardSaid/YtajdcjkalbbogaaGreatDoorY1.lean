/- A part of the proof. -/
import Derived.Still
import Derived.Laws.Concat
import Derived.Laws.Strings2
import Derived.Great.BuildSlice
import Derived.Laws.BytesArg
import Derived.Maps.Own
import Derived.OrdersIn
import Derived.RangeFuncRecord
import Derived.Laws.RangeString
import Derived.Recover
import Derived.Laws.Pointers
import Derived.Deep.OwnRows
import Derived.Lib.AppendIntMem
import Derived.Shelf.Vars
import Derived.ProofKit
import Derived.OpenShut
import Derived.LaidMore
import Derived.Lay
import Derived.SevenTiedAt
set_option maxRecDepth 100000
set_option maxHeartbeats 8000000
set_option linter.all false
namespace Go
theorem zo{a:Prop}(h:a:=by omega):a:=h
theorem zk{a:Prop}(h:a:=by kernel_rfl):a:=h
theorem zd{a:Prop}(h:a:=by decide):a:=h
theorem ahi{a:Prop}(h:a:=by simp):a:=h
theorem zr{a:Prop}(h:a:=by rfl):a:=h
end Go
namespace Go
def adh:=@List.getElem?_eq_getElem
def adi:=@List.getElem_mem
def adj:=@Array.getElem?_eq_some_iff
def adk:=@Bool.and_eq_true
def adl:=@Nat.le_refl
def adm:=@List.mem_append
def adn:=@List.length_map
def ado:=@List.take_of_length_le
def adp:=@List.take_succ_eq_append_getElem
def adq:=@Go.Sem.run_bind
def adr:=@decide_eq_true_eq
def ads:=@Bool.false_eq_true
def adt:=@Array.getElem?_setIfInBounds_ne
def adu:=@List.mem_cons_of_mem
def adv:=@Option.map_eq_some_iff
def adw:=@List.all_eq_true
def adx:=@List.mem_cons_self
def ady:=@List.map_cons
def adz:=@List.getElem_map
def adA:=@List.length_take
def adB:=@Go.wpIn_seq
def adC:=@List.length_append
def adD:=@Go.run_underlying
def adE:=@Array.getD_eq_getD_getElem?
def adF:=@List.mem_map
def adG:=@List.getElem?_eq_some_iff
def adH:=@if_false
def adI:=@List.getElem?_eq_none
def adJ:=@List.mem_singleton
def adK:=@Array.getElem?_eq_getElem
def adL:=@List.map_append
def adM:=@Option.some.inj
def adN:=@Option.some.injEq
def adO:=@List.getElem?_map
def adP:=@Go.wpIn_region
def adQ:=@List.mem_range
def adR:=@List.map_nil
def adS:=@if_true
def adT:=@List.mem_cons
def adU:=@List.mem_of_mem_take
def adV:=@List.map_toArray
def adW:=@Nat.zero_add
def adX:=@List.mem_flatMap
def adY:=@beq_iff_eq
def adZ:=@List.getElem_append_left
def ad0:=@List.length_drop
def ad1:=@List.eq_nil_of_length_eq_zero
def ad2:=@List.append_assoc
def ad3:=@Int.tmod_eq_emod_of_nonneg
def ad4:=@beq_eq_false_iff_ne
def ad5:=@Bool.eq_iff_iff
def ad6:=@Ne.symm
def ad7:=@List.getElem_of_mem
def ad8:=@Int.mul_nonneg
def ad9:=@Nat.lt_of_lt_of_le
def ad_:=@Nat.zero_le
def aea:=@Int.tdiv_eq_ediv_of_nonneg
def aeb:=@List.map_congr_left
def aec:=@Int.mul_le_mul
def aed:=@Go.wpIn_cond
def aee:=@Go.World.alloc_heap_new
def aef:=@List.getD_eq_getElem?_getD
def aeg:=@List.any_eq_false
def aeh:=@Bool.not_eq_true'
def aei:=@Go.Addr.add_lit
def aej:=@Go.RowKit.Below.refl
def aek:=@List.getElem?_append_left
def ael:=@List.append_nil
def aem:=@List.foldl_append
def aen:=@Array.mem_of_getElem?
def aeo:=@Nat.le_trans
def aep:=@List.getElem_append_right
def aeq:=@List.not_mem_nil
def aer:=@List.mem_of_getElem?
def aes:=@Go.setRow_other
def aet:=@Array.all_eq_true'
def aeu:=@List.map_map
def aev:=@Array.getElem?_toList
def aew:=@List.length_pos_iff
def aex:=@List.getElem?_append_right
def aey:=@List.drop_eq_nil_of_le
def aez:=@Array.getElem?_setIfInBounds
def aeA:=@List.range_succ
def aeB:=@List.take_length
def aeC:=@List.take_append_drop
def aeD:=@List.flatMap_cons
def aeE:=@Bool.or_eq_true
def aeF:=@Nat.mul_le_mul_right
def aeG:=@List.getElem_drop
def aeH:=@List.ext_getElem?
def aeI:=@Nat.lt_or_ge
def aeJ:=@Option.bind_eq_some_iff
def aeK:=@List.any_eq_true
def aeL:=@Go.wpIn_block
def aeM:=@Go.Oper.semAt_eq
def aeN:=@Array.getElem?_eq_none
def aeO:=@Go.wpIn_skip
def aeP:=@Array.ext
def aeQ:=@Array.eq_empty_of_size_eq_zero
def aeR:=@List.sum_append
def aeS:=@List.range'_succ
def aeT:=@Nat.add_mul
def aeU:=@List.length_eq_zero_iff
def aeV:=@not_true_eq_false
def aeW:=@Go.wpIn_region_any
def aeX:=@List.flatMap_append
def aeY:=@List.all_map
def aeZ:=@Array.getElem?_extract
def ae0:=@Bool.not_eq_true
def ae1:=@Go.wpIn_mono
def ae2:=@List.pairwise_iff_getElem
def ae3:=@Go.setRow_heap
def ae4:=@Nat.mul_one
def ae5:=@Go.World.cell?_of_block
def ae6:=@Nat.mul_comm
def ae7:=@List.cons.injEq
def ae8:=@List.range_eq_range'
def ae9:=@List.nodup_cons
def ae_:=@List.map_take
def afa:=@List.drop_append_of_le_length
def afb:=@Int.le_refl
def afc:=@Nat.eq_zero_or_pos
def afd:=@List.mem_filterMap
def afe:=@Go.mem_ready
def aff:=@List.length_set
def afg:=@Array.getElem?_append
def afh:=@Go.wpIn_ret
def afi:=@of_decide_eq_true
def afj:=@List.drop_eq_getElem_cons
def afk:=@Array.getElem_append_left
def afl:=@Go.ready_mono
def afm:=@List.mem_append_left
def afn:=@List.getLast?_eq_none_iff
def afo:=@Go.calls_of_wp
def afp:=@Array.setIfInBounds_comm
def afq:=@Array.getElem?_replicate
def afr:=@List.mem_map_of_mem
def afs:=@Nat.mul_le_mul_left
def aft:=@Go.World.block_lt_of_cell?
def afu:=@decide_eq_false_iff_not
def afv:=@Nat.add_assoc
def afw:=@List.getElem?_drop
def afx:=@Go.wpIn_exit
def afy:=@List.mem_filter
def afz:=@Nat.add_sub_cancel
def afA:=@Go.MapKept.run_getObj_map
def afB:=@Go.getD_set_ne
def afC:=@Go.fenced_calm
def afD:=@List.flatMap_singleton
def afE:=@List.getElem_take
def afF:=@List.size_toArray
def afG:=@List.mem_range'_1
def afH:=@List.take_left
def afI:=@List.drop_drop
def afJ:=@List.mem_append_right
def afK:=@Nat.mod_lt
def afL:=@List.contains_eq_mem
def afM:=@List.mem_of_mem_drop
def afN:=@List.pairwise_append
def afO:=@Prod.mk.injEq
def afP:=@Array.getElem_append_right
def afQ:=@Go.callsD_of_wpS
def afR:=@Option.isSome_iff_exists
def afS:=@Array.any_eq_true'
def afT:=@List.getElem?_take
def afU:=@List.range'_concat
def afV:=@List.getElem?_take_of_lt
def afW:=@List.pairwise_cons
def afX:=@Nat.lt_trans
def afY:=@List.find?_eq_none
def afZ:=@bne_iff_ne
def af0:=@eq_iff_iff
def af1:=@Go.Oper.wpIn_mono
def af2:=@decide_eq_true
def af3:=@List.take_succ
def af4:=@List.pairwise_singleton
def af5:=@Go.run_storeCells_at
def af6:=@Classical.not_not
def af7:=@Bool.eq_false_iff
def af8:=@Array.toList_map
def af9:=@List.getElem_set
def af_:=@List.ext_getElem
def aga:=@Nat.succ_lt_succ
def agb:=@List.getElem?_toArray
def agc:=@List.length_filter_le
def agd:=@Bool.and_eq_false_iff
def age:=@Nat.div_add_mod
def agf:=@Bool.or_eq_false_iff
def agh:=@Go.CallsIn.mono
def agi:=@Go.RoundIn.mono
def agj:=@Nat.min_eq_left
def agk:=@List.range'_append_1
def agl:=@Array.mem_toList_iff
def agm:=@Go.wpS_region
def agn:=@Nat.le_of_lt
def ago:=@Nat.not_lt_zero
def agp:=@decide_false
def agq:=@decide_eq_false
def agr:=@String.toList_ofList
def ags:=@Go.heap_alloc_new
def agt:=@Nat.mul_le_mul
def agu:=@Bool.not_false
def agv:=@or_false
def agw:=@Go.RowsIn.mono
def agx:=@Int.add_mul
def agy:=@decide_true
def agz:=@Go.wpS_of_wp
def agA:=@List.map_drop
def agB:=@Go.StepsIn.trans
def agC:=@Go.callsIn_of_wp
def agD:=@Bool.true_and
def agE:=@List.all_eq_false
def agF:=@List.getElem?_set
def agG:=@Go.World.cells?_some
def agH:=@List.mem_or_eq_of_mem_set
def agI:=@List.mem_of_find?_eq_some
def agJ:=@Go.MakeChecks.laidMetH_plain
def agK:=@Go.wp_mono
def agL:=@Nat.succ_mul
def agM:=@Nat.div_eq_of_lt
def agN:=@false_or
def agO:=@Go.RowKit.Below.heap_alloc
def agP:=@and_true
def agQ:=@List.drop_length
def agR:=@Nat.sub_self
def agS:=@List.length_erase_of_mem
def agT:=@Nat.succ_le_succ
def agU:=@List.length_filterMap_le
def agV:=@Go.World.putObj_heap_other
def agW:=@List.flatMap_eq_nil_iff
def agX:=@Go.wpIn_loop
def agY:=@Nat.zero_lt_one
def agZ:=@Go.World.putObj_heap_same
def ag0:=@Go.MapKept.run_setObj_map
def ag1:=@List.filter_eq_nil_iff
def ag2:=@Go.results_tmp
def ag3:=@Go.leaves_cons
def ag4:=@List.pairwise_lt_range
def ag5:=@List.length_pos_of_mem
def ag6:=@List.getElem_set_self
def ag7:=@Go.wpS_seq
def ag8:=@true_and
def ag9:=@List.getElem?_of_mem
def ag_:=@List.getElem?_set_ne
def aha:=@List.getLast?_append
def ahb:=@List.mem_of_getLast?
def ahc:=@List.mem_erase_of_ne
def ahd:=@Nat.div_lt_of_lt_mul
def ahe:=@Bool.not_true
def ahf:=@Nat.lt_irrefl
def ahg:=@Bool.and_true
def ahh:=@Array.toList_append
def ahj:=@List.getElem?_range
def ahk:=@List.getElem_set_ne
def ahl:=@List.drop_succ_cons
def ahm:=@Int.toNat_of_nonneg
def ahn:=@List.filter_flatMap
def aho:=@Go.run_build
def ahr:=@Array.empty_append
def ahs:=@Array.append_empty
def aht:=@Go.stepR_inLoop
def ahu:=@Array.ext_getElem?
def ahv:=@List.filter_append
def ahw:=@Nat.zero_mul
def ahy:=@Go.decode_ascii
def ahA:=@Nat.mul_add
end Go
namespace Go.Proofs.Tram
end Go.Proofs.Tram
namespace Go.AL
inductive Ow where
 |view|nil|own (e:Nat)
 deriving DecidableEq
inductive AV where
 |bool (b:Bool)
 |l4
 |int (k:IntKind) (n:Int)
 |str (l:List UInt8)
 |slice (o:Ow) (es:List AV)
 |agg (cs:List AV)
 |dR (vs:List AV)
 |ref (cs:List AV)
 |qQ
 |iface (t:TypeId) (v:AV)
 |pJ
 |map (ks vs:List AV)
 |box (i off:Nat)
 |func (fn:Fn) (first cap:List AV)
 |gJ (fs:List AV)
 |val (c:Value)
 |bo
namespace AV
def cells:AV->List AV
 |.agg cs=>cs
 |v=>[v]
def aJ:AV->AV
 |.slice (.own _) es=>.slice .view es
 |v=>v
def cI:AV->AV
 |.slice _ es=>.slice .view es
 |v=>v
def vw:AV->AV
 |.agg cs=>.agg (cs.map cI)
 |v=>v.cI
def cg:AV->Bool
 |.box ..|.func ..|.gJ _|.bo=>false
 |_=>true
def one:AV->Bool
 |.agg _|.dR _=>false
 |_=>true
def storable:AV->Bool
 |.box ..|.func ..|.gJ _|.bo|.dR _=>false
 |_=>true
end AV
inductive RD(Pr:Nat->Nat->Prop)(w:World):AV->Value->Prop
 |bool (b:Bool):RD Pr w (.bool b) (.bool b)
 |l4 (b:Bool):RD Pr w .l4 (.bool b)
 |int (k:IntKind) (n:Int):RD Pr w (.int k n) (.int k n)
 |str (l:List UInt8):RD Pr w (.str l) (.string ⟨l.toArray⟩)
 |iB (o:Ow):RD Pr w (.slice o []) (.slice none 0 0)
 |jx (o:Ow) (a:Addr):RD Pr w (.slice o []) (.slice (some a) 0 0)
 |slice (o:Ow) (es:List AV) (b off cap size:Nat) (cs:Nat→Value) (fh:es.length≤cap) (hn:o = .nil→cap=0)
   (bj:∀i (h:i<es.length),(es[i]).cells.length=size) (h1:∀i (h:i<es.length) j (hj:j<(es[i]).cells.length),((es[i]).cells[j]).one=true)
   (hc:∀k,k<es.length*size->Pr b (off+k)/\w.cell? ⟨b,off+k,none⟩=some (cs k))
   (hr:∀i (h:i<es.length) j (hj:j<(es[i]).cells.length),RD Pr w ((es[i]).cells[j]) (cs (i*size+j))):
   RD Pr w (.slice o es) (.slice (some ⟨b,off,none⟩) es.length cap)
 |agg (cs:List AV) (vs:Array Value) (hl:cs.length=vs.size) (h1:∀ i (h:i < cs.length),(cs[i]).one=true)
   (hr:∀i (h:i<cs.length)(h':i<vs.size),RD Pr w cs[i] vs[i]):RD Pr w (.agg cs) (.agg vs)
 |dR (cs:List AV) (vs:Array Value) (hl:cs.length=vs.size)
   (hr:∀i (h:i<cs.length)(h':i<vs.size),RD Pr w cs[i] vs[i]):RD Pr w (.dR cs) (.tuple vs)
 |ref (cs:List AV) (b off:Nat) (vs:Nat→Value) (h1:∀ i (h:i < cs.length),(cs[i]).one=true)
   (hc:∀k,k<cs.length->Pr b (off+k)/\w.cell? ⟨b,off+k,none⟩=some (vs k))
   (hr:∀k (h:k<cs.length),RD Pr w cs[k] (vs k)):RD Pr w (.ref cs) (.pointer (some ⟨b,off,none⟩))
 |map (ks vs:List AV) (b:Nat) (es:Array MapEntry) (clock:Nat) (hb:Pr b 0) (hm:w.heap[b]? = some (.map es clock)) (hk:ks.length=es.size) (hv:vs.length=es.size)
   (hr:∀i (h:i<ks.length)(h':i<es.size),RD Pr w ks[i] (es[i]).key) (js:∀i (h:i<vs.length)(h':i<es.size),RD Pr w vs[i] (es[i]).val):RD Pr w (.map ks vs) (.map (some b))
 |ui:RD Pr w (.map [] []) (.map none)
 |qQ:RD Pr w .qQ (.pointer none)
 |iface (t:TypeId) (v:AV) (c:Value) (h:RD Pr w v c):RD Pr w (.iface t v) (.iface t c)
 |pJ:RD Pr w .pJ .nilIface
 |val (c:Value) (h:c.oneCell'=true):RD Pr w (.val c) c
inductive RV(Pr:Nat->Nat->Prop)(al:Nat->Option Nat)(w:World):AV->Value->Prop
 |data (v:AV) (c:Value) (h:RD Pr w v c):RV Pr al w v c
 |box (i off b:Nat) (h:al i=some b):RV Pr al w (.box i off) (.pointer (some ⟨b,off,none⟩))
 |func (fn:Fn) (first cap:List AV) (vs us:Array Value) (h1:first.length=vs.size) (h2:cap.length=us.size)
   (LF:∀i (h:i<first.length)(h':i<vs.size),RV Pr al w first[i] vs[i])
   (Zg:∀i (h:i<cap.length)(h':i<us.size),RV Pr al w cap[i] us[i]):RV Pr al w (.func fn first cap) (.func fn vs us)
 |gJ (fs:List AV) (vs:Array Value) (h1:fs.length=vs.size) (hr:∀i (h:i<fs.length)(h':i<vs.size),RV Pr al w fs[i] vs[i]):RV Pr al w (.gJ fs) (.agg vs)
 |bo (c:Value):RV Pr al w .bo c
structure bf(Pr eS:Nat->Nat->Prop)(w w':World):Prop where
 cell:∀b k,Pr b k->∀u,w.cell? ⟨b,k,none⟩=some u->eS b k/\w'.cell? ⟨b,k,none⟩=some u
 map:∀b,Pr b 0->∀es c,w.heap[b]?=some (.map es c)->eS b 0/\w'.heap[b]?=some (.map es c)
def bf.jm{Pr eS:Nat->Nat->Prop}{w w':World}(h:∀b,b<w.heap.size->w'.heap[b]?=w.heap[b]?)(hp:∀b k,b<w.heap.size->Pr b k->eS b k):bf Pr eS w w':={
 cell b k hb u hu:=by
  have aq:=aft _ _ hu;exact⟨hp b k aq hb,by rw[ae5 (w:=w) (h b aq)];exact hu⟩
 map b hb es c hm:=by
  have aq:=(adj.1 hm).1
  exact⟨hp b 0 aq hb,by rw[h b aq];exact hm⟩ }
def bf.trans{Pr eS Wh:Nat->Nat->Prop}{w w' ju:World}(h:bf Pr eS w w')(h':bf eS Wh w' ju):bf Pr Wh w ju:={
 cell b k hp u hu:=h'.cell b k (h.cell b k hp u hu).1 u (h.cell b k hp u hu).2
 map b hp es c hm:=h'.map b (h.map b hp es c hm).1 es c (h.map b hp es c hm).2 }
def bf.qg{Pr:Nat->Nat->Prop}{w w':World}(h:∀b k,b<w.heap.size->Pr b k->w'.heap[b]?=w.heap[b]?):bf Pr Pr w w':={
 cell b k hb u hu:=⟨hb,by rw[ae5 (w:=w) (h b k (aft _ _ hu) hb)];exact hu⟩
 map b hb es c hm:=⟨hb,by rw[h b 0 (adj.1 hm).1 hb];exact hm⟩ }
def bf.same{Pr eS:Nat->Nat->Prop}{w:World}(hp:∀b k,b<w.heap.size->Pr b k->eS b k):bf Pr eS w w:=bf.jm (λ_ _=>rfl) hp
def RD.mono {Pr eS:Nat→Nat→Prop} {w w':World} {v:AV} {c:Value} (h:RD Pr w v c)
  (hp:bf Pr eS w w'):RD eS w' v c:=by
 induction h with
 |bool b=>exact .bool b
 |l4 b=>exact .l4 b
 |int k n=>exact .int k n
 |str l=>exact .str l
 |iB o=>exact .iB o
 |jx o a=>exact .jx o a
 |slice o es b off cap size cs fh hn bj h1 hc _ ih=>
  exact .slice o es b off cap size cs fh hn bj h1 (λk hk=>hp.cell _ _ (hc k hk).1 _ (hc k hk).2) ih
 |agg cs vs hl h1 _ ih=>exact .agg cs vs hl h1 ih
 |dR cs vs hl _ ih=>exact .dR cs vs hl ih
 |ref cs b off vs h1 hc _ ih=>exact .ref cs b off vs h1 (λk hk=>hp.cell _ _ (hc k hk).1 _ (hc k hk).2) ih
 |map ks vs b es clock hb hm hk hv _ _ ih ih'=>exact .map ks vs b es clock (hp.map b hb es clock hm).1 (hp.map b hb es clock hm).2 hk hv ih ih'
 |ui=>exact .ui
 |qQ=>exact .qQ
 |iface t v c _ ih=>exact .iface t v c ih
 |pJ=>exact .pJ
 |val c h=>exact .val c h
def RV.mono {Pr eS:Nat→Nat→Prop} {al Il:Nat→Option Nat} {w w':World} {v:AV} {c:Value} (h:RV Pr al w v c)
  (hp:bf Pr eS w w')
  (ha:∀i b,al i=some b->Il i=some b):RV eS Il w' v c:=by
 induction h with
 |data v c h=>exact .data v c (h.mono hp)
 |box i off b h=>exact .box i off b (ha i b h)
 |func fn first cap vs us h1 h2 _ _ ih1 ih2=>exact .func fn first cap vs us h1 h2 ih1 ih2
 |gJ fs vs h1 _ ih=>exact .gJ fs vs h1 ih
 |bo c=>exact .bo c
def RD.cg{Pr:Nat->Nat->Prop}{w:World}{v:AV}{c:Value}(h:RD Pr w v c):v.cg=true:=by
 cases h<;>rfl
def RV.dW{Pr:Nat->Nat->Prop}{al:Nat->Option Nat}{w:World}{v:AV}{c:Value}(h:RV Pr al w v c)(hd:v.cg=true):RD Pr w v c:=by
 cases h with
 |data v c h=>exact h
 |box i off b h=>cases hd
 |func=>cases hd
 |gJ=>cases hd
 |bo c=>cases hd
def RD.aJ{Pr:Nat->Nat->Prop}{w:World}{v:AV}{c:Value}(h:RD Pr w v c):RD Pr w v.aJ c:=by
 cases h with
 |iB o=>cases o<;>exact .iB _
 |jx o a=>cases o<;>exact .jx _ a
 |slice o es b off cap size cs fh hn bj h1 hc hr=>
  cases o with
  |own e=>exact .slice _ es b off cap size cs fh (λh=>by cases h) bj h1 hc hr
  |view=>exact .slice _ es b off cap size cs fh hn bj h1 hc hr
  |nil=>exact .slice _ es b off cap size cs fh hn bj h1 hc hr
 |bool b=>exact .bool b
 |l4 b=>exact .l4 b
 |int k n=>exact .int k n
 |str l=>exact .str l
 |agg cs vs hl h1 hr=>exact .agg cs vs hl h1 hr
 |dR cs vs hl hr=>exact .dR cs vs hl hr
 |ref cs b off vs h1 hc hr=>exact .ref cs b off vs h1 hc hr
 |map ks vs b es clock hb hm hk hv hr js=>exact .map ks vs b es clock hb hm hk hv hr js
 |ui=>exact .ui
 |qQ=>exact .qQ
 |iface t v c h=>exact .iface t v c h
 |pJ=>exact .pJ
 |val c h=>exact .val c h
def RV.aJ{Pr:Nat->Nat->Prop}{al:Nat->Option Nat}{w:World}{v:AV}{c:Value}(h:RV Pr al w v c):RV Pr al w v.aJ c:=by
 cases h with
 |data v c h=>exact .data _ _ h.aJ
 |box i off b h=>exact .box i off b h
 |func fn first cap vs us h1 h2 r1 r2=>exact .func fn first cap vs us h1 h2 r1 r2
 |gJ fs vs h1 hr=>exact .gJ fs vs h1 hr
 |bo c=>exact .bo c
def RD.cells {Pr:Nat→Nat→Prop} {w:World} {v:AV} {c:Value} (h:RD Pr w v c) :
  v.cells.length=c.cells.size/\∀i (h:i<v.cells.length)(h':i<c.cells.size),RD Pr w v.cells[i] c.cells[i]:=by
 cases h with
 |agg cs vs hl h1 hr=>exact⟨hl,hr⟩
 |bool b=>exact⟨rfl,λi h _=>by simp[AV.cells]at h;subst h;exact .bool b⟩
 |l4 b=>exact⟨rfl,λi h _=>by simp[AV.cells]at h;subst h;exact .l4 b⟩
 |int k n=>exact⟨rfl,λi h _=>by simp[AV.cells]at h;subst h;exact .int k n⟩
 |str l=>exact⟨rfl,λi h _=>by simp[AV.cells]at h;subst h;exact .str l⟩
 |iB o=>exact⟨rfl,λi h _=>by simp[AV.cells]at h;subst h;exact .iB o⟩
 |jx o a=>exact⟨rfl,λi h _=>by simp[AV.cells]at h;subst h;exact .jx o a⟩
 |slice o es b off cap size cs fh hn bj h1 hc hr=>exact⟨rfl,λi h _=>by simp[AV.cells]at h;subst h;exact .slice o es b off cap size cs fh hn bj h1 hc hr⟩
 |dR cs vs hl hr=>exact⟨rfl,λi h _=>by simp[AV.cells]at h;subst h;exact .dR cs vs hl hr⟩
 |ref cs b off vs h1 hc hr=>exact⟨rfl,λi h _=>by simp[AV.cells]at h;subst h;exact .ref cs b off vs h1 hc hr⟩
 |map ks vs b es clock hb hm hk hv hr js=>exact⟨rfl,λi h _=>by simp[AV.cells]at h;subst h;exact .map ks vs b es clock hb hm hk hv hr js⟩
 |ui=>exact⟨rfl,λi h _=>by simp[AV.cells]at h;subst h;exact .ui⟩
 |qQ=>exact⟨rfl,λi h _=>by simp[AV.cells]at h;subst h;exact .qQ⟩
 |iface t v c hh=>exact⟨rfl,λi h _=>by simp[AV.cells]at h;subst h;exact .iface t v c hh⟩
 |pJ=>exact⟨rfl,λi h _=>by simp[AV.cells]at h;subst h;exact .pJ⟩
 |val c hc=>
  have ko:c.cells=#[c]:=by cases c<;>first|rfl|cases hc
  exact⟨by rw[ko];rfl,λi h h'=>by simp[AV.cells]at h;subst h;simp only[ko];exact .val c hc⟩
def RD.one{Pr:Nat->Nat->Prop}{w:World}{v:AV}{c:Value}(h:RD Pr w v c)(h1:v.one=true):c.oneCell'=true:=by
 cases h<;>first|rfl|(cases h1;done)|assumption
def RD.cells_one{Pr:Nat->Nat->Prop}{w:World}{v:AV}{c:Value}(h:RD Pr w v c)(h1:v.storable=true):∀i (h:i<v.cells.length),(v.cells[i]).one=true:=by
 cases h with
 |agg cs vs hl ho hr=>exact ho
 |dR=>cases h1
 |_=>intro i hi;simp[AV.cells]at hi;subst hi;rfl
def AV.pc(v:AV):v.aJ.one=v.one:=by
 cases v<;>try rfl
 rename_i o es;cases o<;>rfl
def AV.SB(v:AV):v.cI.one=v.one:=by cases v<;>rfl
def AV.idem(v:AV):v.aJ.aJ=v.aJ:=by
 cases v<;>try rfl
 rename_i o es;cases o<;>rfl
def RD.cI{Pr:Nat->Nat->Prop}{w:World}{v:AV}{c:Value}(h:RD Pr w v c):RD Pr w v.cI c:=by
 cases h with
 |iB o=>exact .iB _
 |jx o a=>exact .jx _ a
 |slice o es b off cap size cs fh hn bj h1 hc hr=>exact .slice _ es b off cap size cs fh (λh=>by cases h) bj h1 hc hr
 |bool b=>exact .bool b
 |l4 b=>exact .l4 b
 |int k n=>exact .int k n
 |str l=>exact .str l
 |agg cs vs hl h1 hr=>exact .agg cs vs hl h1 hr
 |dR cs vs hl hr=>exact .dR cs vs hl hr
 |ref cs b off vs h1 hc hr=>exact .ref cs b off vs h1 hc hr
 |map ks vs b es clock hb hm hk hv hr js=>exact .map ks vs b es clock hb hm hk hv hr js
 |ui=>exact .ui
 |qQ=>exact .qQ
 |iface t v c h=>exact .iface t v c h
 |pJ=>exact .pJ
 |val c h=>exact .val c h
def RD.vw{Pr:Nat->Nat->Prop}{w:World}{v:AV}{c:Value}(h:RD Pr w v c):RD Pr w v.vw c:=by
 cases h with
 |agg cs vs hl h1 hr=>
  refine .agg _ vs (by simpa using hl) (λi hi=>?_) (λi hi dv=>?_)
  .simp only[adn]at hi;have:=h1 i hi;simp only[adz];generalize cs[i]=u at this
   cases u<;>first|rfl|cases this
  .simp only[adn]at hi;simp only[adz];exact(hr i hi dv).cI
 |iB o=>exact .iB _
 |jx o a=>exact .jx _ a
 |slice o es b off cap size cs fh hn bj h1 hc hr=>exact .slice _ es b off cap size cs fh (λh=>by cases h) bj h1 hc hr
 |bool b=>exact .bool b
 |l4 b=>exact .l4 b
 |int k n=>exact .int k n
 |str l=>exact .str l
 |dR cs vs hl hr=>exact .dR cs vs hl hr
 |ref cs b off vs h1 hc hr=>exact .ref cs b off vs h1 hc hr
 |map ks vs b es clock hb hm hk hv hr js=>exact .map ks vs b es clock hb hm hk hv hr js
 |ui=>exact .ui
 |qQ=>exact .qQ
 |iface t v c h=>exact .iface t v c h
 |pJ=>exact .pJ
 |val c h=>exact .val c h
def AV.j_{v:AV}(h:v.storable=true):v.cg=true:=by cases v<;>first|rfl|cases h
end Go.AL
namespace Go.AL
open Go.RowKit
abbrev an:=Nat->AV
abbrev ao:=Nat->Option (List AV)
def au{α:Type}(f:Nat->α)(i:Nat)(x:α):Nat->α:=λj=>if j=i then x else f j
def aO{α:Type}(f:Nat->α)(i:Nat)(x:α):au f i x i=x:=by simp[au]
def aQ{α:Type}(f:Nat->α){i j:Nat}(x:α)(h:j≠i):au f i x j=f j:=by simp[au,h]
inductive Loc where
 |slot (t:Nat)|cell (i j:Nat)
 deriving DecidableEq
def kE(d:Nat):AV->Bool
 |.box i _=>i==d
 |.func ..|.gJ _=>true
 |_=>false
def cd(d:Nat):AV->AV
 |.box i o=>if i=d then .bo else .box i o
 |.func fn first cap=>if first.any (kE d)||cap.any (kE d)then .bo else .func fn first cap
 |.gJ _=>.bo
 |v=>v
def RU:AV->Bool
 |.func ..|.gJ _=>false
 |_=>true
def flat:AV->Bool
 |.func _ first cap=>first.all RU&&cap.all RU
 |.gJ _=>false
 |_=>true
structure Old where
 c:Nat->Nat->Prop
 facts:List (AV×Value)
 bx:Nat->Prop
 ds:List Deferred
 aV:Nat->Option Obj
 sp:Nat->Nat->Prop
 sw:World
 ok:∀p∈facts,flat p.1=true/\∀d,¬bx d->cd d p.1=p.1
def Old.plain(c:Nat->Nat->Prop)(w:World):Old:={ c:=c,facts:=[],bx:=λ_=>False,ds:=[],aV:=λ_=>none,sp:=λ_ _=>False,sw:=w,ok:=λ_ h=>by cases h }
structure Gh where
 base:Nat
 old:Old
 al:Nat->Option Nat
 hi:Nat->Nat
 owner:Nat->Option Loc
def Gh.Pr(g:Gh)(b k:Nat):Prop:=(b<g.base/\g.old.c b k)\/(g.base<=b/\k<g.hi b)
def eK(P:Program)(w:World)(g:Gh)(loc:Loc):AV->Value->Prop
 |.slice (.own e) es,c=>∃i xs b,P.info? e=some i/\w.ownsRow g.base e i.size c es.length xs/\c.ownBlock=some b/\g.owner b=some loc/\g.hi b=es.length*i.size
 |_,_=>True
structure Rel(P:Program)(w0:World)(n:Nat)(U:Nat->Prop)(g:Gh)(S:an)(H:ao)(a:Act)(w:World):Prop where
 size:a.tmps.size=n
 defers:a.defers=g.old.ds
 facts:∀p∈g.old.facts,RV g.Pr g.al w p.1 p.2
 slot:∀t,t<n->¬U t->RV g.Pr g.al w (S t) (a.tmps.getD t undef)
 own:∀t,t<n->¬U t->eK P w g (.slot t) (S t) (a.tmps.getD t undef)
 box:∀i b,g.al i=some b->∃cs vs ty,H i=some cs/\g.base<=b/\w.heap[b]?=some (.cells vs ty (0,0))/\g.hi b=0/\g.owner b=none/\cs.length=vs.size/\
  (∀j (h:j<cs.length)(h':j<vs.size),RD g.Pr w cs[j] vs[j])/\(∀j (h:j<cs.length)(h':j<vs.size),eK P w g (.cell i j) cs[j] vs[j])/\∀j (h:j<cs.length),(cs[j]).one=true
 jQ:∀i cs,H i=some cs->¬U i->(g.al i).isSome
 jX:∀i,U i->g.al i=none
 inj:∀i j b,g.al i=some b->g.al j=some b->i=j
 base:g.base=w0.heap.size
 below:Below g.base w0 w
 fresh:∀b,w.heap.size<=b->g.hi b=0/\g.owner b=none
 still:bf g.old.sp g.Pr g.old.sw w
 grown:g.old.sw.heap.size<=w.heap.size
 kept:∀b o,g.old.aV b=some o->g.base<=b/\w.heap[b]?=some o/\g.hi b=0/\g.owner b=none/\∀i,g.al i≠some b
def eK.aV {P:Program} {w w':World} {g g':Gh} {loc:Loc} {v:AV} {c:Value} (h:eK P w g loc v c) (hb:g'.base=g.base)
  (hk:∀b,g.owner b=some loc->w'.heap[b]?=w.heap[b]?/\g'.hi b=g.hi b/\g'.owner b=some loc):eK P w' g' loc v c:=by
 unfold eK at*
 split at h
 .obtain⟨i,xs,b,h1,h2,h3,h4,h5⟩:=h;obtain⟨k1,k2,k3⟩:=hk b h4;refine⟨i,xs,b,h1,?_,h3,k3,by rw[k2];exact h5⟩;rw[hb];refine⟨h2.1,?_⟩
  rcases h2.2 with hn|⟨gg,cap,cur,rfl,lS,Ey,rest⟩
  .exact .inl hn
  .have:gg=b:=by simpa[Value.ownBlock]using h3
   subst this;exact .inr ⟨gg,cap,cur,rfl,lS,by rw[k1];exact Ey,rest⟩
 .trivial
def eK.aJ{P:Program}{w:World}{g:Gh}{loc:Loc}{v:AV}{c:Value}:eK P w g loc v.aJ c:=by
 cases v<;>try trivial
 rename_i o es
 cases o<;>trivial
def Rel.ext {P:Program} {w0:World} {n:Nat} {U:Nat→Prop} {g g':Gh} {S:an} {H:ao} {a:Act} {w w':World} (R:Rel P w0 n U g S H a w)
  (gy:g'.base=g.base) (hold:g'.old=g.old) (jC:g'.al=g.al)
  (eV:bf g.Pr g'.Pr w w')
  (acq:∀i b,g.al i=some b->w'.heap[b]?=w.heap[b]?/\g'.hi b=g.hi b/\g'.owner b=g.owner b)
  (cV:∀b loc,g.owner b=some loc->w'.heap[b]?=w.heap[b]?/\g'.hi b=g.hi b/\g'.owner b=some loc)
  (UK:Below g.base w0 w') (oL:∀b,w'.heap.size<=b->g'.hi b=0/\g'.owner b=none)
  (xP:∀b o,g.old.aV b=some o->w.heap[b]?=some o->w'.heap[b]?=some o/\g'.hi b=g.hi b/\g'.owner b=g.owner b) (XK:w.heap.size<=w'.heap.size):Rel P w0 n U g' S H a w':={
 size:=R.size
 defers:=by rw[hold];exact R.defers
 facts p hp:=(R.facts p (by rw[<-hold];exact hp)).mono eV (by rw[jC];exact λ_ _ h=>h)
 slot t ht hu:=(R.slot t ht hu).mono eV (by rw[jC];exact λ_ _ h=>h)
 own t ht hu:=(R.own t ht hu).aV gy λb hb=>cV b _ hb
 box i b hi:=by
  rw[jC]at hi;obtain⟨cs,vs,ty,h1,h2,h3,h4,h5,h6,h7,h8,h9⟩:=R.box i b hi;obtain⟨k1,k2,k3⟩:=acq i b hi;refine⟨cs,vs,ty,h1,by rw[gy];exact h2,by rw[k1];exact h3,by rw[k2];exact h4,by rw[k3];exact h5,h6,?_,?_,h9⟩
  .exact λj hj dU=>(h7 j hj dU).mono eV
  .exact λj hj dU=>(h8 j hj dU).aV gy λb hb=>cV b _ hb
 jQ i cs h hu:=by rw[jC];exact R.jQ i cs h hu
 jX i h:=by rw[jC];exact R.jX i h
 inj i j b h h':=by rw[jC]at h h';exact R.inj i j b h h'
 base:=by rw[gy];exact R.base
 below:=by rw[gy];exact UK
 fresh:=oL
 still:=by rw[hold];exact R.still.trans eV
 grown:=by rw[hold];exact aeo R.grown XK
 kept b o h:=by
  rw[hold]at h;obtain⟨k1,k2,k3,k4,k5⟩:=R.kept b o h;obtain⟨e1,e2,e3⟩:=xP b o h k2
  exact⟨by rw[gy];exact k1,e1,by rw[e2];exact k3,by rw[e3];exact k4,by rw[jC];exact k5⟩ }
def Rel.grow {P:Program} {w0:World} {n:Nat} {U:Nat→Prop} {g g':Gh} {S:an} {H:ao} {a:Act} {w w':World} (R:Rel P w0 n U g S H a w)
  (hb:Below w.heap.size w w') (gy:g'.base=g.base) (hold:g'.old=g.old) (jC:g'.al=g.al)
  (hg:∀b,b<w.heap.size->g'.hi b=g.hi b/\g'.owner b=g.owner b) (oL:∀b,w'.heap.size<=b->g'.hi b=0/\g'.owner b=none):Rel P w0 n U g' S H a w':=by
 have hle:g.base<=w.heap.size:=by rw[R.base];exact R.below.size
 refine R.ext gy hold jC ?_ ?_ ?_ ?_ oL ?_ hb.size
 .refine bf.jm (λb aq=>hb.block b aq) λb k aq hp=>?_
  unfold Gh.Pr at*
  rw[gy,hold,(hg b aq).1];exact hp
 .intro i b hi;obtain⟨cs,vs,ty,h1,h2,h3,_⟩:=R.box i b hi;have aq:b<w.heap.size:=(adj.1 h3).1;exact⟨hb.block b aq,hg b aq⟩
 .intro b loc ho
  have aq:b<w.heap.size:=by
   rcases aeI b w.heap.size with h|h
   .exact h
   .rw[(R.fresh b h).2]at ho;cases ho
  exact⟨hb.block b aq,(hg b aq).1,by rw[(hg b aq).2];exact ho⟩
 .exact R.below.trans (hb.mono hle)
 .intro b o _ ho;have aq:b<w.heap.size:=(adj.1 ho).1;exact⟨by rw[hb.block b aq];exact ho,hg b aq⟩
def Rel.jU {P:Program} {w0:World} {n:Nat} {U:Nat→Prop} {g:Gh} {S:an} {H:ao} {a:Act} {w w':World} (R:Rel P w0 n U g S H a w)
  (hb:Below w.heap.size w w'):Rel P w0 n U g S H a w':=
 R.grow hb rfl rfl rfl (λ_ _=>⟨rfl,rfl⟩) (λb h=>R.fresh b (aeo hb.size h))
def i_(a:Act)(d t:Nat)(c:Value)(hd:d<a.tmps.size):(a.put (some d) c).tmps.getD t undef=if t=d then c else a.tmps.getD t undef:=by
 simp only[Act.put]
 by_cases h:t=d
 .subst h;simp[hd]
 .simp[h,adt (ad6 h)]
def Rel.put {P:Program} {w0:World} {n:Nat} {U:Nat→Prop} {g:Gh} {S:an} {H:ao} {a:Act} {w:World} (R:Rel P w0 n U g S H a w)
  (d:Nat) (v:AV) (c:Value) (hd:d<n) (hv:RV g.Pr g.al w v c) (ho:eK P w g (.slot d) v c):Rel P w0 n U g (au S d v) H (a.put (some d) c) w:={
 size:=by simp[Act.put,R.size]
 defers:=R.defers
 facts:=R.facts
 slot t ht hu:=by
  rw[i_ a d t c (by rw[R.size];exact hd)]
  by_cases h:t=d
  .subst h;simp only[aO,adS];exact hv
  .rw[aQ S v h,if_neg h];exact R.slot t ht hu
 own t ht hu:=by
  rw[i_ a d t c (by rw[R.size];exact hd)]
  by_cases h:t=d
  .subst h;simp only[aO,adS];exact ho
  .rw[aQ S v h,if_neg h];exact R.own t ht hu
 box:=R.box
 jQ:=R.jQ
 jX:=R.jX
 inj:=R.inj
 base:=R.base
 below:=R.below
 fresh:=R.fresh
 still:=R.still
 grown:=R.grown
 kept:=R.kept }
def aX(S:an):Option Nat->AV->an
 |some d,v=>au S d v
 |none,_=>S
def Rel.aX {P:Program} {w0:World} {n:Nat} {U:Nat→Prop} {g:Gh} {S:an} {H:ao} {a:Act} {w:World} (R:Rel P w0 n U g S H a w)
  (d:Option Nat) (v:AV) (c:Value) (hd:∀t,d=some t->t<n) (hv:RV g.Pr g.al w v c) (ho:∀t,d=some t->eK P w g (.slot t) v c):Rel P w0 n U g (aX S d v) H (a.put d c) w:=by
 cases d with
 |none=>exact R
 |some t=>exact R.put t v c (hd t rfl) hv (ho t rfl)
def Rel.weaken {P:Program} {w0:World} {n:Nat} {U:Nat→Prop} {g:Gh} {S:an} {H:ao} {a:Act} {w:World} (R:Rel P w0 n U g S H a w)
  (S':an) (h:∀t,t<n->¬U t->∀c,RV g.Pr g.al w (S t) c->eK P w g (.slot t) (S t) c->RV g.Pr g.al w (S' t) c/\eK P w g (.slot t) (S' t) c):Rel P w0 n U g S' H a w:={
 size:=R.size
 defers:=R.defers
 facts:=R.facts
 slot t ht hu:=(h t ht hu _ (R.slot t ht hu) (R.own t ht hu)).1
 own t ht hu:=(h t ht hu _ (R.slot t ht hu) (R.own t ht hu)).2
 box:=R.box
 jQ:=R.jQ
 jX:=R.jX
 inj:=R.inj
 base:=R.base
 below:=R.below
 fresh:=R.fresh
 still:=R.still
 grown:=R.grown
 kept:=R.kept }
def AV.mf:AV->Prop
 |.slice (.own _) _=>False
 |_=>True
instance(v:AV):Decidable v.mf:=by unfold AV.mf;split<;>infer_instance
def AV.qJ(v:AV):v.aJ.mf:=by
 cases v<;>try trivial
 rename_i o es
 cases o<;>trivial
def eK.mf{P:Program}{w w':World}{g g':Gh}{loc AW:Loc}{v:AV}{c:Value}(h:eK P w g loc v c)(hn:v.mf):eK P w' g' AW v c:=by
 cases v<;>try trivial
 rename_i o es
 cases o with
 |view=>trivial
 |nil=>trivial
 |own e=>simp[AV.mf]at hn
def Rel.GK {P:Program} {w0:World} {n:Nat} {U:Nat→Prop} {g:Gh} {S:an} {H:ao} {a:Act} {w:World} (R:Rel P w0 n U g S H a w)
  (loc:Loc) (AW:Option Loc) (hS:∀t,loc=.slot t->t<n->¬U t->(S t).mf)
  (hH:∀i j cs,loc=.cell i j->H i=some cs->∀h:j<cs.length,(cs[j]).mf):
  Rel P w0 n U { g with owner:=λb=>if g.owner b=some loc then AW else g.owner b } S H a w:={
 size:=R.size
 defers:=R.defers
 facts:=R.facts
 slot:=R.slot
 own t ht hu:=by
  by_cases h:loc=.slot t
  .exact(R.own t ht hu).mf (hS t h ht hu)
  .refine(R.own t ht hu).aV rfl λb hb=>⟨rfl,rfl,?_⟩
   show(if g.owner b=some loc then AW else g.owner b)=_;rw[if_neg (by rw[hb];intro e;exact h (adM e).symm)];exact hb
 box i b hi:=by
  obtain⟨cs,vs,ty,h1,h2,h3,h4,h5,h6,h7,h8,h9⟩:=R.box i b hi;refine⟨cs,vs,ty,h1,h2,h3,h4,?_,h6,h7,?_,h9⟩
  .show(if g.owner b=some loc then AW else g.owner b)=none;rw[h5];simp
  .intro j hj dU
   by_cases h:loc=.cell i j
   .exact(h8 j hj dU).mf (hH i j cs h h1 hj)
   .refine(h8 j hj dU).aV rfl λb hb=>⟨rfl,rfl,?_⟩
    show(if g.owner b=some loc then AW else g.owner b)=_;rw[if_neg (by rw[hb];intro e;exact h (adM e).symm)];exact hb
 jQ:=R.jQ
 jX:=R.jX
 inj:=R.inj
 base:=R.base
 below:=R.below
 fresh b hb:=by
  refine⟨(R.fresh b hb).1,?_⟩;show(if g.owner b=some loc then AW else g.owner b)=none;rw[(R.fresh b hb).2];simp
 still:=R.still
 grown:=R.grown
 kept b o h:=by
  obtain⟨k1,k2,k3,k4,k5⟩:=R.kept b o h;refine⟨k1,k2,k3,?_,k5⟩;show(if g.owner b=some loc then AW else g.owner b)=none
  rw[k4];simp }
def RV.kE {Pr:Nat→Nat→Prop} {al Il:Nat→Option Nat} {w:World} {v:AV} {c:Value} {d:Nat} (h:RV Pr al w v c) (hs:kE d v=false)
  (ha:∀i b,i≠d->al i=some b->Il i=some b):RV Pr Il w v c:=by
 cases h with
 |data v c h=>exact .data _ _ h
 |box i off b h=>exact .box i off b (ha i b (by simpa[Go.AL.kE]using hs) h)
 |func=>simp[Go.AL.kE]at hs
 |gJ=>simp[Go.AL.kE]at hs
 |bo c=>exact .bo c
def RV.cd {Pr:Nat→Nat→Prop} {al Il:Nat→Option Nat} {w:World} {v:AV} {c:Value} (d:Nat) (h:RV Pr al w v c)
  (ha:∀i b,i≠d->al i=some b->Il i=some b):RV Pr Il w (cd d v) c:=by
 cases h with
 |data v c h=>
  have:Go.AL.cd d v=v:=by cases h<;>rfl
  rw[this];exact .data _ _ h
 |box i off b h=>
  simp only[Go.AL.cd];split
  .exact .bo _
  .rename_i hi;exact .box i off b (ha i b hi h)
 |func fn first cap vs us h1 h2 r1 r2=>
  simp only[Go.AL.cd];split
  .exact .bo _
  .rename_i hn;simp only[aeE,not_or,ae0,aeg]at hn;exact .func fn first cap vs us h1 h2 (λi h h'=>(r1 i h h').kE (by simpa using hn.1 _ (adi h)) ha) (λi h h'=>(r2 i h h').kE (by simpa using hn.2 _ (adi h)) ha)
 |gJ=>exact .bo _
 |bo c=>exact .bo c
def Dw(P:Program)(w:World)(g:Gh)(loc:Loc)(d:Nat)(v:AV)(c:Value)(h:eK P w g loc v c):eK P w g loc (cd d v) c:=by
 cases v<;>try exact h
 .simp only[cd];split<;>trivial
 .simp only[cd];split<;>trivial
def Rel.suspend {P:Program} {w0:World} {n:Nat} {U:Nat→Prop} {g:Gh} {S:an} {H:ao} {a:Act} {w:World} (R:Rel P w0 n U g S H a w)
  (d:Nat) (bW:¬g.old.bx d) (v:AV) (cs:List AV):
  Rel P w0 n (λt=>U t\/t=d) { g with al:=au g.al d none } (au (λt=>cd d (S t)) d v) (au H d (some cs)) a w:={
 size:=R.size
 defers:=R.defers
 facts p hp:=by
  have h:=(R.facts p hp).cd (Il:=au g.al d none) d λi b hi h=>by rw[aQ _ _ hi];exact h
  rw[(g.old.ok p hp).2 d bW]at h;exact h
 slot t ht hu:=by
  simp only[not_or]at hu;rw[aQ _ _ hu.2]
  refine(R.slot t ht hu.1).cd d λi b hi h=>?_
  show au g.al d none i=some b;rw[aQ _ _ hi];exact h
 own t ht hu:=by
  simp only[not_or]at hu;rw[aQ _ _ hu.2];exact Dw _ _ _ _ _ _ _ (R.own t ht hu.1)
 box i b hi:=by
  by_cases h:i=d
  .subst h;simp[au]at hi
  .simp only[aQ _ _ h]at hi;obtain⟨fU,vs,ty,h1,rest⟩:=R.box i b hi;exact⟨fU,vs,ty,by rw[aQ _ _ h];exact h1,rest⟩
 jQ i fU h hu:=by
  simp only[not_or]at hu;rw[aQ _ _ hu.2]at h;simp only[aQ _ _ hu.2];exact R.jQ i fU h hu.1
 jX i h:=by
  show au g.al d none i=none
  by_cases hi:i=d
  .subst hi;simp[au]
  .rw[aQ _ _ hi];exact R.jX i (h.resolve_right hi)
 inj i j b h h':=by
  have e:∀k,(au g.al d none) k=some b->g.al k=some b:=by
   intro k hk
   by_cases Lc:k=d
   .subst Lc;simp[au]at hk
   .rwa [aQ _ _ Lc]at hk
  exact R.inj i j b (e i h) (e j h')
 base:=R.base
 below:=R.below
 fresh:=R.fresh
 still:=R.still
 grown:=R.grown
 kept b o h:=by
  obtain⟨k1,k2,k3,k4,k5⟩:=R.kept b o h;refine⟨k1,k2,k3,k4,λi=>?_⟩;show au g.al d none i≠some b
  by_cases hi:i=d
  .subst hi;simp[au]
  .rw[aQ _ _ hi];exact k5 i }
def Rel.G8 {P:Program} {w0:World} {n:Nat} {U:Nat→Prop} {g:Gh} {S:an} {H:ao} {a:Act} {w:World} (R:Rel P w0 n U g S H a w)
  (d:Nat) (hU:U d) (hd:d<n) (cs:List AV) (vs:Array Value) (ty:TypeId) (hS:S d=.box d 0) (hH:H d=some cs) (hl:cs.length=vs.size)
  (hr:∀j (h:j<cs.length)(h':j<vs.size),RD g.Pr w cs[j] vs[j])
  (ho:∀j (h:j<cs.length)(h':j<vs.size),(cs[j]).mf/\eK P w g (.cell d j) cs[j] vs[j]) (h1:∀j (h:j<cs.length),(cs[j]).one=true):
  Rel P w0 n (λt=>U t/\t≠d) { g with al:=au g.al d (some w.heap.size) } S H (a.put (some d) (.pointer (some ⟨w.heap.size,0,none⟩))) (w.alloc (.cells vs ty)):=by
 have hb:Below w.heap.size w (w.alloc (.cells vs ty)):=(aej _ _).alloc (adl _) _;have R':=R.jU hb
 have hle:g.base<=w.heap.size:=by rw[R.base];exact R.below.size
 have jC:∀i b,g.al i=some b->au g.al d (some w.heap.size) i=some b:=by
  intro i b h;rw[aQ _ _ (by rintro rfl;rw[R.jX _ hU]at h;cases h)];exact h
 have hRD:∀{v:AV}{c:Value},RD g.Pr w v c->RD g.Pr (w.alloc (.cells vs ty)) v c:=λh=>h.mono (bf.jm (λb aq=>hb.block b aq) λ_ _ _ h=>h)
 refine{ size:=by simp[Act.put,R.size],defers:=R.defers,facts:=λp hp=>(R'.facts p hp).mono (bf.same λ_ _ _ h=>h) jC,slot:=?_,own:=?_,box:=?_,jQ:=?_,jX:=?_,inj:=?_,base:=R.base,below:=R'.below,fresh:=R'.fresh,still:=R'.still,grown:=R'.grown,kept:=?_ }
 .intro t ht hu;rw[i_ a d t _ (by rw[R.size];exact hd)]
  by_cases h:t=d
  .subst h;rw[if_pos rfl,hS];exact .box _ _ _ (by simp[au])
  .rw[if_neg h];exact(R'.slot t ht (λUC=>hu ⟨UC,h⟩)).mono (bf.same λ_ _ _ h=>h) jC
 .intro t ht hu;rw[i_ a d t _ (by rw[R.size];exact hd)]
  by_cases h:t=d
  .subst h;rw[hS];simp[eK]
  .rw[if_neg h]
   exact(R'.own t ht (λUC=>hu ⟨UC,h⟩)).aV rfl λb hb=>⟨rfl,rfl,hb⟩
 .intro i b hi
  by_cases h:i=d
  .subst h
   have lS:b=w.heap.size:=by simpa[au]using hi.symm
   subst lS;refine⟨cs,vs,ty,hH,hle,ags w _,(R.fresh _ (adl _)).1,(R.fresh _ (adl _)).2,hl,λj h h'=>hRD (hr j h h'),λj h h'=>(ho j h h').2.mf (ho j h h').1,h1⟩
  .simp only[aQ _ _ h]at hi;obtain⟨fU,ll,BX,h1,h2,h3,h4,h5,h6,h7,h8,h9⟩:=R'.box i b hi;exact⟨fU,ll,BX,h1,h2,h3,h4,h5,h6,h7,λj hj dU=>(h8 j hj dU).aV rfl λb hb=>⟨rfl,rfl,hb⟩,h9⟩
 .intro i fU h hu
  by_cases hi:i=d
  .subst hi;simp[au]
  .simp only[aQ _ _ hi];exact R.jQ i fU h (λUC=>hu ⟨UC,hi⟩)
 .intro i h;show au g.al d (some w.heap.size) i=none;rw[aQ _ _ h.2];exact R.jX i h.1
 .intro i j b h h'
  have key:∀k,au g.al d (some w.heap.size) k=some b->(k=d/\b=w.heap.size)\/(k≠d/\g.al k=some b):=by
   intro k hk
   by_cases Lc:k=d
   .subst Lc;exact .inl ⟨rfl,by simpa[au]using hk.symm⟩
   .rw[aQ _ _ Lc]at hk;exact .inr ⟨Lc,hk⟩
  have aq:∀k,g.al k=some b->b<w.heap.size:=by
   intro k hk;obtain⟨_,_,_,_,_,h3,_⟩:=R.box k b hk;exact(adj.1 h3).1
  rcases key i h with⟨rfl,e⟩|⟨hi,h1⟩<;>rcases key j h' with⟨rfl,e'⟩|⟨hj,h2⟩
  .rfl
  .have:=aq j h2;omega
  .have:=aq i h1;omega
  .exact R.inj i j b h1 h2
 .intro b o h;obtain⟨k1,k2,k3,k4,k5⟩:=R'.kept b o h;refine⟨k1,k2,k3,k4,λi=>?_⟩;show au g.al d (some w.heap.size) i≠some b
  by_cases hi:i=d
  .subst hi;rw[aO];have:=(adj.1 (R.kept b o h).2.1).1;intro e;have:=adM e;omega
  .rw[aQ _ _ hi];exact k5 i
def Rel.IF {P:Program} {w0:World} {n:Nat} {U:Nat→Prop} {g:Gh} {S:an} {H:ao} {a:Act} {w:World} (R:Rel P w0 n U g S H a w)
  (i b:Nat) (hi:g.al i=some b) (vs ll:Array Value) (ty:TypeId) (hh:w.heap[b]?=some (.cells vs ty (0,0))) (fU:List AV) (hl:fU.length=ll.size)
  (hr:∀j (h:j<fU.length)(h':j<ll.size),RD g.Pr w fU[j] ll[j])
  (ho:∀j (h:j<fU.length)(h':j<ll.size),eK P w g (.cell i j) fU[j] ll[j]) (Ii:∀j (h:j<fU.length),(fU[j]).one=true):
  Rel P w0 n U g S (au H i (some fU)) a (w.setRow b ll):=by
 obtain⟨cs,RN,ty0,h1,h2,h3,h4,h5,h6,h7,h8,h9⟩:=R.box i b hi
 have cP:∀b' k,g.Pr b' k->b'≠b:=by
  rintro b' k hp rfl;unfold Gh.Pr at hp;rw[h4]at hp;omega
 have eV:bf g.Pr g.Pr w (w.setRow b ll):={
  cell:=λb' k hp u hu=>⟨hp,by rw[ae5 (w:=w) (aes w b b' ll (cP b' k hp))];exact hu⟩
  map:=λb' hp es c hm=>⟨hp,by rw[aes w b b' ll (cP b' 0 hp)];exact hm⟩ }
 have cV:∀b' loc,g.owner b'=some loc->(w.setRow b ll).heap[b']?=w.heap[b']?/\g.hi b'=g.hi b'/\g.owner b'=some loc:=by
  intro b' loc im;refine⟨aes w b b' ll ?_,rfl,im⟩;rintro rfl;rw[h5]at im;cases im
 refine{ size:=R.size,defers:=R.defers,facts:=λp hp=>(R.facts p hp).mono eV λ_ _ h=>h,slot:=?_,own:=?_,box:=?_,jQ:=?_,jX:=R.jX,inj:=R.inj,base:=R.base,below:=?_,fresh:=?_,still:=R.still.trans eV,grown:=by simpa using R.grown,kept:=?_ }
 .exact λt ht hu=>(R.slot t ht hu).mono eV λ_ _ h=>h
 .exact λt ht hu=>(R.own t ht hu).aV rfl λb' im=>cV b' _ im
 .intro k b' hk
  by_cases BR:k=i
  .subst BR
   have:b'=b:=by rw[hi]at hk;exact(adM hk).symm
   subst this;exact⟨fU,ll,ty,aO _ _ _,h2,ae3 w b' vs ll ty (0,0) hh,h4,h5,hl,λj h h'=>(hr j h h').mono eV,λj h h'=>(ho j h h').aV rfl λb' im=>cV b' _ im,Ii⟩
  .obtain⟨c1,v1,t1,k1,k2,k3,k4,k5,k6,k7,k8,k9⟩:=R.box k b' hk
   have cP:b'≠b:=by rintro rfl;exact BR (R.inj k i b' hk hi)
   exact⟨c1,v1,t1,by rw[aQ _ _ BR];exact k1,k2,by rw[aes w b b' ll cP];exact k3,k4,k5,k6,λj h h'=>(k7 j h h').mono eV,λj h h'=>(k8 j h h').aV rfl λb' im=>cV b' _ im,k9⟩
 .intro k cs1 hk hu
  by_cases BR:k=i
  .subst BR;rw[hi];rfl
  .rw[aQ _ _ BR]at hk;exact R.jQ k cs1 hk hu
 .exact R.below.trans ⟨rfl,rfl,rfl,ahi,λk hk=>aes w b k ll zo⟩
 .intro b' im;exact R.fresh b' (by simpa using im)
 .intro b' o h;obtain⟨k1,k2,k3,k4,k5⟩:=R.kept b' o h;refine⟨k1,?_,k3,k4,k5⟩;rw[aes w b b' ll (by rintro rfl;exact k5 i hi)];exact k2
inductive cT where
 |t (n:Nat)|c (v:AV)|f (n:Nat)|m (n:Nat) (Nv:List (TypeId×Nat))
def nF:Value->Option AV
 |.bool b=>some (.bool b)
 |.int k n=>some (.int k n)
 |.string s=>some (.str s.data.toList)
 |.slice none 0 0=>some (.slice .nil [])
 |.pointer none=>some .qQ
 |.map none=>some (.map [] [])
 |.nilIface=>some .pJ
 |.nilFunc=>some (.val .nilFunc)
 |_=>none
def iW:List Value->Option (List AV)
 |[]=>some []
 |v::vs=>match nF v,iW vs with
  |some x,some xs=>if x.storable then some (x::xs)else none
  |_,_=>none
def ev(S:an):cT->AV
 |.t n=>S n
 |.c v=>v
 |.f n=>.func (.func n) [] []
 |.m n Nv=>match S n with
  |.iface t v=>match Nv.lookup t with
   |some k=>.func (.func k) [v] []
   |none=>.bo
  |_=>.bo
inductive HR where
 |any|ref|box (r:Nat)
def HR.okB:HR->Nat->Bool
 |.any,_=>true
 |.ref,_=>false
 |.box r,i=>i==r
inductive eC where
 |mv (take:Bool) (x:cT)
 |pick (c a b:cT)
 |alloc (t:TypeId) (zero:List AV)
 |box (t:TypeId) (size:Nat) (x:cT)
 |build (zero:List AV) (parts:List (Nat×Nat×cT))
 |buildSlice (t e:TypeId) (size:Nat) (parts:List cT)
 |load (hr:HR) (agg:Bool) (size:Nat) (a:cT)
 |loadT (hr:HR) (a:cT)
 |store (hr:HR) (size:Nat) (a x:cT)
 |bin (op:BinOp) (x y:cT)
 |Eo (neg:Bool) (x y:cT)
 |eqs (neg:Bool) (k:Nat) (x y:cT)
 |mK (ag:Bool) (len size:Nat) (x i:cT)
 |yJ (x:cT)
 |oQ (xs:List cT)
 |oP (len:Nat) (x i:cT)
 |lookup (k:Nat) (z:AV) (x i:cT)
 |not (x:cT)
 |conv (k:IntKind) (x:cT)
 |iface (t:TypeId) (x:cT)
 |EK (fn:Fn) (first cap:List cT)
 |oN (x:cT) (lo hi:Option cT)
 |nC (size:Nat) (x:cT) (lo hi:Option cT)
 |pP (len:Nat) (x:cT)
 |fieldAddr (off:Nat) (x:cT)
 |indexAddr (size:Nat) (x i:cT)
 |oT (x i:cT)
 |extract (x:cT) (i:Nat)
 |yV (x:cT)
 |kM (x:cT)
 |isNil (neg:Bool) (x:cT)
 |empty (e:TypeId)
 |append (t e:TypeId) (size bytes:Nat) (x y:cT)
 |max (x y:cT)
 |min (x y:cT)
 |assert (t:TypeId) (zero:AV) (x:cT)
 |panic (x:cT)
 |call (f:Nat) (args:List cT)
 |gr (f:cT) (args:List cT)
 |other
structure aP where
 v:AV
 dm:Option Nat:=none
 hw:Option (Nat×List AV):=none
def aP.S(e:aP)(S:an)(dst:Option Nat):an:=
 aX (match e.dm with|some t=>au S t (S t).aJ|none=>S) dst e.v
def aP.H(e:aP)(H:ao):ao:=
 match e.hw with|some (i,cs)=>au H i (some cs)|none=>H
def cz:AV:=.dR []
def dS(op:BinOp):AV->AV->Option AV
 |.int k a,.int k' b=>
  if k≠k' then none else
  match op with
  |.add=>some (.int k (k.wrap (a+b)))
  |.sub=>some (.int k (k.wrap (a-b)))
  |.mul=>some (.int k (k.wrap (a*b)))
  |.quo=>if b=0 then none else some (.int k (k.wrap (a.tdiv b)))
  |.rem=>if b=0 then none else some (.int k (a.tmod b))
  |.eql=>some (.bool (a==b))
  |.neq=>some (.bool (a !=b))
  |.lss=>some (.bool (decide (a<b)))
  |.leq=>some (.bool (decide (a<=b)))
  |.gtr=>some (.bool (decide (a>b)))
  |.geq=>some (.bool (decide (a>=b)))
  |_=>none
 |.str a,.str b=>
  match op with
  |.eql=>some (.bool (a==b))
  |.neq=>some (.bool (a !=b))
  |.add=>if a.length+b.length<1073741824 then some (.str (a++b))else none
  |_=>none
 |_,_=>none
def ku:List AV->Option (List Int)
 |[]=>some []
 |.int .i64 n::cs=>(ku cs).map (n::·)
 |_=>none
def bytesOf:List AV->Option (List UInt8)
 |[]=>some []
 |.int .u8 n::cs=>if 0<=n/\n<256 then(bytesOf cs).map (UInt8.ofNat n.toNat::·)else none
 |_=>none
def oD(key:List Int):List AV->List AV->Option (Option AV)
 |[],_=>some none
 |.agg c::ks,v::vs=>match ku c with
  |some m=>if m.length≠key.length then none else if key==m then some (some v)else oD key ks vs
  |none=>none
 |_,_=>none
def Bg:AV->Bool
 |.func ..|.val .nilFunc=>true
 |_=>false
def bB(cs:List AV)(off:Nat)(vs:List AV):List AV:=cs.take off++vs++cs.drop (off+vs.length)
def bI(cells:List AV):List (Nat×Nat×AV)->Option (List AV)
 |[]=>some cells
 |(off,size,v)::rest=>if v.cells.length=size/\off+size<=cells.length/\v.storable=true then bI (bB cells off (v.aJ.cells)) rest else none
def cb(agg:Bool)(size:Nat)(cs:List AV):Option AV:=
 if agg then(if size<=cs.length then some (.agg ((cs.take size).map AV.aJ))else none)
 else(cs[0]?).map AV.aJ
def bound(x:Option AV)(d:Nat):Option Int:=
 match x with
 |none=>some d
 |some (.int .i64 n)=>some n
 |_=>none
def AV.cy:AV->List AV
 |.agg cs=>cs.map AV.aJ
 |v=>[v]
def bw:cT->Option Nat
 |.t n=>some n
 |_=>none
def aG(size:Nat)(es:List AV):Bool:=es.all λv=>v.storable&&v.cells.length==size
def aD(S:an)(H:ao):eC->Option aP
 |.mv take x=>if take then some { v:=ev S x,dm:=bw x }else some { v:=(ev S x).aJ }
 |.pick c a b=>match ev S c with
  |.bool t=>some { v:=(if t then ev S a else ev S b).aJ }
  |_=>none
 |.build zero parts=>(bI zero (parts.map λ(o,s,x)=>(o,s,ev S x))).map λcs=>{ v:=.agg cs }
 |.buildSlice _ e size parts=>
  if aG size (parts.map (ev S))&&parts.length*size<=16777216 then some { v:=.slice (.own e) ((parts.map (ev S)).map AV.vw) }else none
 |.load hr agg size x=>match ev S x with
  |.box i off=>if hr.okB i then match H i with
   |some cs=>(cb agg size (cs.drop off)).map λv=>{ v:=v }
   |none=>none
   else none
  |.ref cs=>(cb agg size cs).map λv=>{ v:=v }
  |_=>none
 |.loadT hr x=>match ev S x with
  |.box i off=>if hr.okB i then match H i with
   |some cs=>match cs[off]? with
    |some v=>some { v:=v,hw:=some (i,cs.set off v.aJ) }
    |none=>none
   |none=>none
   else none
  |_=>none
 |.store hr size x y=>match ev S x with
  |.box i off=>if hr.okB i then match H i with
   |some cs=>if (ev S y).cells.length=size∧off+size≤cs.length∧(ev S y).storable=true then
     some { v:=cz,dm:=bw y,hw:=some (i,bB cs off (ev S y).cy) }else none
   |none=>none
   else none
  |_=>none
 |.bin op x y=>(dS op (ev S x) (ev S y)).map λv=>{ v:=v }
 |.Eo neg x y=>match ev S x,ev S y with
  |.bool a,.bool b=>some { v:=.bool (if neg then a !=b else a==b) }
  |_,_=>none
 |.eqs neg k x y=>match ev S x,ev S y with
  |.agg xs,.agg ys=>match ku xs,ku ys with
   |some a,some b=>if a.length=k/\b.length=k then some { v:=.bool (if neg then a !=b else a==b) }else none
   |_,_=>none
  |_,_=>none
 |.mK ag len size x i=>match ev S x,ev S i with
  |.agg cs,.int .i64 k=>if 0<=k/\k<len then(cb ag size (cs.drop (k.toNat*size))).map λv=>{ v:=v }else none
  |_,_=>none
 |.oQ xs=>if(xs.map (ev S)).all Bg then some { v:=.gJ (xs.map (ev S)) }else none
 |.oP len x i=>match ev S x,ev S i with
  |.gJ fs,.int .i64 k=>if 0≤k∧k < len then match fs[k.toNat]? with
    |some v=>if Bg v then some { v:=v }else none
    |none=>none
   else none
  |_,_=>none
 |.yJ x=>match ev S x with
  |.slice _ es=>(bytesOf es).map λl=>{ v:=.str l }
  |_=>none
 |.lookup k z x i=>match ev S x,ev S i with
  |.map ks vs,.agg c=>match ku c with
   |some key=>if key.length=k then match oD key ks vs with
     |some (some v)=>some { v:=.dR [v.aJ,.bool true] }
     |some none=>some { v:=.dR [z,.bool false] }
     |none=>none
    else none
   |none=>none
  |_,_=>none
 |.not x=>match ev S x with
  |.bool b=>some { v:=.bool !b }
  |_=>none
 |.conv k x=>match ev S x with
  |.int _ n=>some { v:=.int k (k.wrap n) }
  |_=>none
 |.iface t x=>if(ev S x).storable then some { v:=.iface t (ev S x).vw }else none
 |.EK fn first cap=>some { v:=.func fn (first.map λx=>(ev S x).aJ) (cap.map λx=>(ev S x).aJ) }
 |.oN x lo hi=>match ev S x with
  |.str l=>match bound (lo.map (ev S)) 0,bound (hi.map (ev S)) l.length with
   |some a,some b=>if 0<=a/\a<=b/\b<=l.length then some { v:=.str ((l.take b.toNat).drop a.toNat) }else none
   |_,_=>none
  |_=>none
 |.pP len x=>match ev S x with
  |.ref cs=>if cs.length=len then some { v:=.slice .view cs }else none
  |_=>none
 |.nC size x lo hi=>match ev S x with
  |.slice _ es=>match bound (lo.map (ev S)) 0,bound (hi.map (ev S)) es.length with
   |some a,some b=>if 0<=a/\a<=b/\b<=es.length/\aG size es=true then some { v:=.slice .view ((es.take b.toNat).drop a.toNat) }else none
   |_,_=>none
  |_=>none
 |.fieldAddr off x=>match ev S x with
  |.box i o=>some { v:=.box i (o+off) }
  |.ref cs=>some { v:=.ref (cs.drop off) }
  |_=>none
 |.indexAddr size x i=>match ev S x,ev S i with
  |.slice _ es,.int .i64 k=>if 0≤k then match es[k.toNat]? with
    |some v=>if v.cells.length=size then some { v:=.ref v.cells }else none
    |none=>none
   else none
  |_,_=>none
 |.oT x i=>match ev S x,ev S i with
  |.str l,.int .i64 k=>if 0≤k then match l[k.toNat]? with
    |some b=>some { v:=.int .u8 b.toNat }
    |none=>none
   else none
  |_,_=>none
 |.extract x i=>match ev S x with
  |.dR vs=>(vs[i]?).map λv=>{ v:=v.aJ }
  |_=>none
 |.yV x=>match ev S x with
  |.str l=>some { v:=.int .i64 l.length }
  |_=>none
 |.kM x=>match ev S x with
  |.slice _ es=>some { v:=.int .i64 es.length }
  |_=>none
 |.isNil neg x=>match ev S x with
  |.slice _ es=>some { v:=if es.isEmpty then .l4 else .bool neg }
  |_=>none
 |.empty _=>some { v:=.slice .nil [] }
 |.append _ e size _ x y=>match ev S x,ev S y with
  |.slice .nil [],.slice _ ys=>if aG size ys&&ys.length<1048576 then some { v:=.slice (if ys.isEmpty then .nil else .own e) ys }else none
  |.slice (.own e') xs,.slice _ ys=>if e'=e/\(aG size ys&&aG size xs&&(xs.length+ys.length<1048576))=true then some { v:=.slice (.own e) (xs++ys),dm:=bw x }else none
  |_,_=>none
 |.max x y=>match ev S x,ev S y with
  |.int .i64 a,.int .i64 b=>some { v:=.int .i64 (max a b) }
  |_,_=>none
 |.min x y=>match ev S x,ev S y with
  |.int .i64 a,.int .i64 b=>some { v:=.int .i64 (min a b) }
  |_,_=>none
 |.assert t zero x=>match ev S x with
  |.iface t' v=>some { v:=if t'=t then .dR [v,.bool true]else .dR [zero,.bool false] }
  |.pJ=>some { v:=.dR [zero,.bool false] }
  |_=>none
 |_=>none
def cT.tmps:cT->List Nat
 |.t n=>[n]
 |.m n _=>[n]
 |_=>[]
def eC.rd:eC->List Nat
 |.mv _ x|.pP _ x|.box _ _ x|.load _ _ _ x|.loadT _ x|.not x|.yJ x|.conv _ x|.iface _ x|.fieldAddr _ x|.extract x _|.yV x|.kM x|.isNil _ x|.assert _ _ x|.panic x=>x.tmps
 |.pick a b c=>a.tmps++b.tmps++c.tmps
 |.alloc ..|.other|.empty _=>[]
 |.build _ ps=>ps.flatMap λp=>p.2.2.tmps
 |.buildSlice _ _ _ ps=>ps.flatMap cT.tmps
 |.store _ _ a x|.bin _ a x|.Eo _ a x|.eqs _ _ a x|.indexAddr _ a x|.oT a x|.mK _ _ _ a x|.lookup _ _ a x|.append _ _ _ _ a x|.max a x|.min a x=>a.tmps++x.tmps
 |.oQ xs=>xs.flatMap cT.tmps
 |.oP _ a x=>a.tmps++x.tmps
 |.EK _ f c=>f.flatMap cT.tmps++c.flatMap cT.tmps
 |.oN x l h|.nC _ x l h=>x.tmps++(l.toList++h.toList).flatMap cT.tmps
 |.call _ BU=>BU.flatMap cT.tmps
 |.gr f BU=>f.tmps++BU.flatMap cT.tmps
def du(n:Nat):Operand->Option cT
 |.tmp t=>if t<n then some (.t t)else none
 |.const c=>(nF c).map .c
 |.func f=>some (.f f)
 |.global _=>none
def pL(n:Nat):List Operand->Option (List cT)
 |[]=>some []
 |x::xs=>match du n x,pL n xs with
  |some y,some ys=>some (y::ys)
  |_,_=>none
def mH(n:Nat):Option Operand->Option (Option cT)
 |none=>some none
 |some x=>(du n x).map some
def JR(Pr:Nat->Nat->Prop)(al:Nat->Option Nat)(w:World){c:Value}{v:AV}(h:nF c=some v):RV Pr al w v c:=by
 unfold nF at h
 split at h<;>first|cases h|skip
 .exact .data _ _ (.bool _)
 .exact .data _ _ (.int _ _)
 .rename_i s
  have:s=⟨s.data.toList.toArray⟩:=ahi
  rw(occs:=.pos [2]) [this];exact .data _ _ (.str _)
 .exact .data _ _ (.iB _)
 .exact .data _ _ .qQ
 .exact .data _ _ .ui
 .exact .data _ _ .pJ
 .exact .data _ _ (.val _ rfl)
def Au{c:Value}{v:AV}(h:nF c=some v)(P:Program)(w:World)(g:Gh)(loc:Loc):eK P w g loc v c:=by
 unfold nF at h
 split at h<;>first|cases h|skip
 all_goals first|trivial|exact⟨none,rfl⟩
def A1{c:Value}{v:AV}(h:nF c=some v):v.mf:=by
 unfold nF at h
 split at h<;>first|cases h|skip
 all_goals trivial
section
variable{P:Program}{w0:World}{n:Nat}{U:Nat->Prop}{g:Gh}{S:an}{H:ao}{a:Act}{w:World}
def Rel.ev(R:Rel P w0 n U g S H a w){x:Operand}{y:cT}(h:du n x=some y)(hu:∀t∈y.tmps,¬U t):RV g.Pr g.al w (ev S y) (a.eval x):=by
 cases x with
 |tmp t=>
  simp only[du]at h;split at h
  .rename_i ht;cases h;exact R.slot t ht (hu t (by simp[cT.tmps]))
  .cases h
 |const c=>
  simp only[du,adv]at h;obtain⟨v,hv,rfl⟩:=h;exact JR _ _ _ hv
 |global k=>cases h
 |func f=>
  cases h;exact .func _ [] [] #[] #[] rfl rfl (λi h=>by simp at h) (λi h=>by simp at h)
def Rel.JM (R:Rel P w0 n U g S H a w):∀ {xs:List Operand} {ys:List cT},pL n xs=some ys→(∀ y∈ys,∀ t∈y.tmps,¬ U t) →
  ys.length=xs.length/\∀i (h:i<ys.length)(h':i<xs.length),RV g.Pr g.al w (AL.ev S ys[i]) (a.eval xs[i])
 |[],ys,h,_=>by cases h;exact⟨rfl,λi h=>by simp at h⟩
 |x::xs,ys,h,hu=>by
  simp only[pL]at h;split at h
  .rename_i y ys' h1 h2;cases h;obtain⟨e,hh⟩:=R.JM h2 (λy hy=>hu y (by simp[hy]));refine⟨by simp[e],λi hi dv=>?_⟩
   cases i with
   |zero=>exact R.ev h1 (hu y ahi)
   |succ i=>exact hh i (by simpa using hi) (by simpa using dv)
  .cases h
def c_(P:Program)(w0:World)(n:Nat)(U:Nat->Prop)(g:Gh)(S:an)(H:ao)(a:Act)(w:World)(o:Oper)(e:aP):Prop:=
 ∃c w' g',((execOp a.eval o).run P w=.ok (.value c) w'\/((execOp a.eval o).run P w=.ok .skip w'/\c=undef))/\
  g'.base=g.base/\g'.old=g.old/\Rel P w0 n U g' (e.S S o.dst) (e.H H) (a.put o.dst c) w'
def c_.val (R:Rel P w0 n U g S H a w) {o:Oper} {v:AV} {c:Value} (hd:∀ t,o.dst=some t→t < n) (hr:(execOp a.eval o).run P w = .ok (.value c) w)
  (hv:RV g.Pr g.al w v c) (ho:∀loc,eK P w g loc v c):c_ P w0 n U g S H a w o { v:=v }:=
 ⟨c,w,g,.inl hr,rfl,rfl,R.aX o.dst v c hd hv λ_ _=>ho _⟩
def gW(v:AV)(c:Value)(loc:Loc):eK P w g loc v.aJ c:=eK.aJ
def KM (R:Rel P w0 n U g S H a w) {o:Oper} {x:Operand} {y:cT} {tk:Bool} {e:aP} (hd:∀ t,o.dst=some t→t < n∧¬ U t) (hx:du n x=some y) (hu:∀ t∈y.tmps,¬ U t)
  (hr:(execOp a.eval o).run P w=.ok (.value (a.eval x)) w) (eI:∀t,o.dst=some t->t∉y.tmps) (he:aD S H (.mv tk y)=some e):c_ P w0 n U g S H a w o e:=by
 have hv:=R.ev hx hu
 cases tk with
 |false=>
  simp only[aD,ads,adH,adN]at he;subst he
  exact c_.val R (λt h=>(hd t h).1) hr hv.aJ λloc=>gW _ _ _
 |true=>
  simp only[aD,adS,adN]at he;subst he
  cases x with
  |const c=>
   simp only[du,adv]at hx;obtain⟨v,hc,rfl⟩:=hx
   exact c_.val R (λt h=>(hd t h).1) hr hv λloc=>Au hc _ _ _ _
  |global k=>cases hx
  |func f=>cases hx;exact c_.val R (λt h=>(hd t h).1) hr hv λloc=>trivial
  |tmp t=>
   simp only[du]at hx;split at hx
   case isFalse=>cases hx
   rename_i ht;cases hx;have QW:=hu t (by simp[cT.tmps]);have ho:=R.own t ht QW
   have R1:Rel P w0 n U g (au S t (S t).aJ) H a w:=R.weaken _ λk hk huk c pE ho=>by
    by_cases h:k=t
    .subst h;rw[aO];exact⟨pE.aJ,gW _ _ _⟩
    .rw[aQ _ _ h];exact⟨pE,ho⟩
   cases iu:o.dst with
   |none=>
    refine⟨_,w,g,.inl hr,rfl,rfl,?_⟩;simpa[aP.S,aP.H,aX,bw,iu,Act.put]using R1
   |some d=>
    have hdt:d≠t:=λh=>eI d iu (by simp[cT.tmps,h])
    have R2:=R1.GK (.slot t) (some (.slot d)) (λk hk _ _=>by cases hk;rw[aO];exact AV.qJ _) (λi j cs h=>by cases h);have R3:=R2.put d (S t) (a.tmps.getD t undef) (hd d iu).1 (R.slot t ht QW) ?own
    case own=>
     show eK P w _ (.slot d) (S t) (a.tmps.getD t undef);generalize S t=v at ho;generalize a.tmps.getD t undef=c at ho
     cases v<;>try trivial
     rename_i oo es
     cases oo with
     |view=>trivial
     |nil=>exact ho
     |own e=>
      obtain⟨i,xs,b,h1,h2,h3,h4,h5⟩:=ho;refine⟨i,xs,b,h1,h2,h3,?_,h5⟩;show(if g.owner b=some (.slot t)then some (.slot d)else g.owner b)=_;rw[if_pos h4]
    rw[<-iu]at R3;exact⟨_,w,{ g with owner:=λb=>if g.owner b=some (.slot t)then some (.slot d)else g.owner b },.inl hr,rfl,rfl,by rw[iu]at R3⊢;exact R3⟩
def ef:TypeDesc->Bool
 |.struct _|.array _ _=>true
 |_=>false
def tg {Pr:Nat→Nat→Prop} {al:Nat→Option Nat} {ty:TypeId} {i:TypeInfo} {pn:TypeDesc} (hi:P.info? ty=some i) (hu:P.underlying ty=some pn) {b off:Nat} {cs:List AV} {vs:Nat→Value} {v:AV}
  (hc:∀k,k<cs.length->w.cell? ⟨b,off+k,none⟩=some (vs k)) (h1:∀k (h:k<cs.length),(cs[k]).one=true) (hr:∀k (h:k<cs.length),RD Pr w cs[k] (vs k))
  (he:cb (ef pn) i.size cs=some v):
  ∃c,(loadVar ty ⟨b,off,none⟩).run P w=.ok c w/\RD Pr w v c/\v.aJ=v:=by
 have kN:(isAgg ty).run P w=.ok (ef pn) w:=by
  unfold isAgg;rw[adq,adD hu w]
  cases pn<;>simp[ef]
 generalize ef pn=q at he kN
 cases q with
 |true=>
  simp only[cb,adS]at he;split at he
  case isFalse=>cases he
  rename_i hl;cases he
  have Mg:(loadCells ⟨b,off,none⟩ i.size).run P w=.ok ((List.range i.size).map vs).toArray w:=
   run_loadCells (P:=P) w _ _ vs λj hj=>by rw[aei];exact hc j zo
  refine⟨.agg ((List.range i.size).map vs).toArray,by simp[loadVar,adq,kN,sizeOf,typeInfo,hi,Mg],?_,rfl⟩
  refine .agg _ _ (by simp;omega) (λk hk=>?_) λk hk cE=>?_
  .simp only[adn,adA]at hk;simp only[adz,afE];rw[AV.pc];exact h1 k zo
  .simp only[adn,adA]at hk;have:=(hr k zo).aJ;simpa using this
 |false=>
  simp only[cb,ads,adH,adv]at he;obtain⟨v0,Va,rfl⟩:=he;obtain⟨h0,rfl⟩:=adG.1 Va;have:=hc 0 h0;simp only[Nat.add_zero]at this;exact⟨vs 0,by simp[loadVar,adq,kN,this],(hr 0 h0).aJ,AV.idem _⟩
set_option linter.unusedVariables false in
def DC (R:Rel P w0 n U g S H a w) {o:Oper} {hr:HR} {ty:TypeId} {i:TypeInfo} {pn:TypeDesc} {x:Operand} {y:cT} {e:aP} (ho:o.op = .load ty x) (hd:∀ t,o.dst=some t→t < n∧¬ U t)
  (hi:P.info? ty=some i) (fq:P.underlying ty=some pn) (hx:du n x=some y) (hu:∀t∈y.tmps,¬U t)
  (he:aD S H (.load hr (ef pn) i.size y)=some e):c_ P w0 n U g S H a w o e:=by
 have hv:=R.ev hx hu
 have fin:∀{v:AV}{b off:Nat},a.eval x=.pointer (some ⟨b,off,none⟩)->(∃c,(loadVar ty ⟨b,off,none⟩).run P w=.ok c w/\RD g.Pr w v c/\v.aJ=v)->c_ P w0 n U g S H a w o { v:=v }:=by
  rintro v b off hx ⟨c,h1,h2,h3⟩
  refine c_.val R (λt h=>(hd t h).1) (c:=c) ?_ (.data _ _ h2) λloc=>by rw[<-h3];exact gW _ _ _
  unfold execOp;simp[ho,hx,Instr.loadAt,Instr.sureAddr,h1]
 simp only[aD]at he;generalize sD:AL.ev S y=q at he hv;generalize mz:a.eval x=c at hv fin
 cases hv with
 |box j off b jC=>
  simp only at he;split at he
  case isFalse=>cases he
  obtain⟨cs,vs,BX,k1,k2,k3,k4,k5,k6,k7,k8,k9⟩:=R.box j b jC;simp only[k1,adv]at he;obtain⟨v,hv,rfl⟩:=he;refine fin rfl (tg (Pr:=g.Pr) (al:=g.al) hi fq (vs:=λk=>vs.getD (off+k) undef) (λk hk=>?_) (λk hk=>?_) (λk hk=>?_) hv)
  .simp only[ad0]at hk
   have:off+k<vs.size:=zo
   simp[World.cell?,k3,this]
  .simp only[ad0]at hk;simp only[aeG];exact k9 (off+k) zo
  .simp only[ad0]at hk;simp only[aeG];have hh:=k7 (off+k) zo zo
   have:off+k<vs.size:=zo
   simpa[this]using hh
 |data v c h=>
  cases h<;>simp only at he<;>try cases he
  rename_i cs b off vs h1 hc hr;simp only[adv]at he;obtain⟨v,hv,rfl⟩:=he;exact fin rfl (tg (Pr:=g.Pr) (al:=g.al) hi fq (vs:=vs) (λk hk=>(hc k hk).2) h1 hr hv)
 |func=>cases he
 |gJ=>cases he
 |bo c=>cases he
end
section
variable{P:Program}{w0:World}{n:Nat}{U:Nat->Prop}{g:Gh}{S:an}{H:ao}{a:Act}{w:World}
def NT (R:Rel P w0 n U g S H a w) {o:Oper} {x x1 x2:Operand} {y y1 y2:cT} {e:aP} (ho:o.op = .pick x x1 x2) (hd:∀ t,o.dst=some t→t < n∧¬ U t)
  (hx:du n x=some y) (n_:du n x1=some y1) (mC:du n x2=some y2) (hu:∀t∈y.tmps,¬U t) (pQ:∀t∈y1.tmps,¬U t) (pS:∀t∈y2.tmps,¬U t)
  (he:aD S H (.pick y y1 y2)=some e):c_ P w0 n U g S H a w o e:=by
 have hv:=R.ev hx hu;have fp:=R.ev n_ pQ;have fc:=R.ev mC pS;simp only[aD]at he;generalize sD:AL.ev S y=q at he hv;generalize mz:a.eval x=c at hv
 cases hv<;>(try cases he;done)
 rename_i h
 cases h<;>simp only at he<;>try cases he
 rename_i b
 refine c_.val R (λt h=>(hd t h).1) (c:=if b then a.eval x1 else a.eval x2) ?_ ?_ λloc=>gW _ _ _
 .simp[execOp,ho,mz,asBool]
 .cases b<;>simp only[ads,adS,adH]
  .exact fc.aJ
  .exact fp.aJ
def P2 (R:Rel P w0 n U g S H a w) {o:Oper} {t:TypeId} {x:Operand} {y:cT} {e:aP} (ho:o.op = .unOp .not t x) (hd:∀ t,o.dst=some t→t < n∧¬ U t)
  (hx:du n x=some y) (hu:∀t∈y.tmps,¬U t) (he:aD S H (.not y)=some e):c_ P w0 n U g S H a w o e:=by
 have hv:=R.ev hx hu;simp only[aD]at he;generalize sD:AL.ev S y=q at he hv;generalize mz:a.eval x=c at hv
 cases hv<;>(try cases he;done)
 rename_i h
 cases h<;>simp only at he<;>try cases he
 rename_i b
 refine c_.val R (λt h=>(hd t h).1) (c:=.bool !b) ?_ (.data _ _ (.bool _)) λloc=>trivial
 simp[execOp,ho,mz,Op.unary]
def NM:Value->Bool
 |.nilIface|.agg _=>false
 |_=>true
def gO (op:BinOp) (t:TypeId) (x y:Operand) (c d:Value) (h:NM c=true) :
  (eqGuard op t x y c d).run P w=.ok () w:=by
 unfold eqGuard
 cases op<;>(try rfl)<;>cases c<;>first|rfl|cases h
def Gb (R:Rel P w0 n U g S H a w) {o:Oper} {op:BinOp} {t t':TypeId} {x1 x2:Operand} {y1 y2:cT} {e:aP} (ho:o.op = .binOp op t x1 x2 t') (hd:∀ t,o.dst=some t→t < n∧¬ U t)
  (n_:du n x1=some y1) (mC:du n x2=some y2) (pQ:∀t∈y1.tmps,¬U t) (pS:∀t∈y2.tmps,¬U t)
  (he:aD S H (.bin op y1 y2)=some e):c_ P w0 n U g S H a w o e:=by
 have fp:=R.ev n_ pQ;have fc:=R.ev mC pS;simp only[aD,adv]at he;obtain⟨v,hb,rfl⟩:=he;generalize AL.ev S y1=q1 at hb fp;generalize AL.ev S y2=q2 at hb fc
 have fin:∀c,(eqGuard op t x1 x2 (a.eval x1) (a.eval x2)).run P w=.ok () w->(binOp op t (a.eval x1) (a.eval x2)).run P w=.ok c w->RD g.Pr w v c->(∀loc,eK P w g loc v c)->c_ P w0 n U g S H a w o { v:=v }:=by
  intro c h0 h1 h2 h3;refine c_.val R (λt h=>(hd t h).1) (c:=c) ?_ (.data _ _ h2) h3;simp[execOp,ho,h0,h1]
 generalize a.eval x1=c1 at fp fin;generalize a.eval x2=c2 at fc fin;unfold dS at hb;split at hb
 .rename_i k p k' q;cases fp;rename_i fp;cases fp;cases fc;rename_i fc;cases fc;split at hb
  .cases hb
  .rename_i hk
   have hk:k=k':=by simpa using hk
   subst hk;have hg:=gO (P:=P) (w:=w) op t x1 x2 (.int k p) (.int k q) rfl
   split at hb<;>(try cases hb;done)<;>(try (split at hb;· cases hb))<;>cases hb
   case h_4.isFalse.refl h=>exact fin _ hg (by simp[binOp,Op.intDiv,h]) (.int _ _) λ_=>trivial
   case h_5.isFalse.refl h=>exact fin _ hg (by simp[binOp,Op.intDiv,h]) (.int _ _) λ_=>trivial
   case h_1.refl=>exact fin (.int k (k.wrap (p+q))) hg (by simp[binOp,Op.intArith]) (.int _ _) λ_=>trivial
   case h_2.refl=>exact fin (.int k (k.wrap (p-q))) hg (by simp[binOp,Op.intArith]) (.int _ _) λ_=>trivial
   case h_3.refl=>exact fin (.int k (k.wrap (p*q))) hg (by simp[binOp,Op.intArith]) (.int _ _) λ_=>trivial
   case h_6.refl=>exact fin (.bool (p==q)) hg (by simp[binOp,Op.intCmp]) (.bool _) λ_=>trivial
   case h_7.refl=>exact fin (.bool (p !=q)) hg (by simp[binOp,Op.intCmp]) (.bool _) λ_=>trivial
   all_goals exact fin (.bool _) hg (by simp[binOp,Op.intCmp]) (.bool _) λ_=>trivial
 .rename_i p q;cases fp;rename_i fp;cases fp;cases fc;rename_i fc;cases fc;have hg:=gO (P:=P) (w:=w) op t x1 x2 (.string ⟨p.toArray⟩) (.string ⟨q.toArray⟩) rfl
  split at hb<;>(try cases hb;done)
  .cases hb;exact fin (.bool (p==q)) hg (by simp[binOp,Op.stringOp]) (.bool _) λ_=>trivial
  .cases hb;exact fin (.bool (p !=q)) hg (by simp[binOp,Op.stringOp,bne]) (.bool _) λ_=>trivial
  .split at hb
   case isFalse=>cases hb
   rename_i hl;cases hb
   refine fin (.string ⟨(p++q).toArray⟩) hg ?_ (.str _) λ_=>trivial
   rw[binOp_string_add,run_string_add_sum w _ _ (by show p.length+q.length<=_;omega),ByteArray.mk_append_mk]
 .cases hb
def FC (R:Rel P w0 n U g S H a w) {o:Oper} {neg:Bool} {t t':TypeId} {x1 x2:Operand} {y1 y2:cT} {e:aP} (ho:o.op = .binOp (if neg then .neq else .eql) t x1 x2 t') (hd:∀ t,o.dst=some t→t < n∧¬ U t)
  (ht:P.underlying t=some .bool) (n_:du n x1=some y1) (mC:du n x2=some y2) (pQ:∀t∈y1.tmps,¬U t) (pS:∀t∈y2.tmps,¬U t)
  (he:aD S H (.Eo neg y1 y2)=some e):c_ P w0 n U g S H a w o e:=by
 have fp:=R.ev n_ pQ;have fc:=R.ev mC pS;simp only[aD]at he;generalize AL.ev S y1=q1 at he fp;generalize AL.ev S y2=q2 at he fc;generalize kg:a.eval x1=c1 at fp;generalize jB:a.eval x2=c2 at fc;split at he
 case h_2=>cases he
 rename_i p q;cases fp;rename_i fp;cases fp;cases fc;rename_i fc;cases fc;cases he;have hg:=gO (P:=P) (w:=w) (if neg then .neq else .eql) t x1 x2 (.bool p) (.bool q) rfl;have hE:(Op.equal t (.bool p) (.bool q)).run P w=.ok (p==q) w:=run_equalIn_bool' w _ t p q ht
 refine c_.val R (λt h=>(hd t h).1) (c:=.bool (if neg then p !=q else p==q)) ?_ (.data _ _ (.bool _)) λ_=>trivial
 cases neg
 .simp only[ads,adH]at ho hg⊢;simp[execOp,ho,kg,jB,hg,binOp,hE]
 .simp only[adS]at ho hg⊢;simp[execOp,ho,kg,jB,hg,binOp,hE,bne]
def MU (R:Rel P w0 n U g S H a w) {o:Oper} {s d:TypeId} {ds:TypeDesc} {k:IntKind} {x:Operand} {y:cT} {e:aP} (ho:o.op = .convert s d x) (hd:∀ t,o.dst=some t→t < n∧¬ U t)
  (hs:P.underlying s=some ds) (hk:P.underlying d=some (.int k)) (hx:du n x=some y) (hu:∀t∈y.tmps,¬U t) (he:aD S H (.conv k y)=some e):c_ P w0 n U g S H a w o e:=by
 have hv:=R.ev hx hu;simp only[aD]at he;generalize sD:AL.ev S y=q at he hv;generalize mz:a.eval x=c at hv
 cases hv<;>(try cases he;done)
 rename_i h
 cases h<;>simp only at he<;>try cases he
 rename_i k' m
 refine c_.val R (λt h=>(hd t h).1) (c:=.int k (k.wrap m)) ?_ (.data _ _ (.int _ _)) λloc=>trivial
 simp[execOp,ho,mz,convert,adD hs,adD hk,Conv.intToInt]
def Jv (R:Rel P w0 n U g S H a w) {o:Oper} {t:TypeId} {dt:TypeDesc} {x:Operand} {y:cT} {e:aP} (ho:o.op = .makeInterface t x) (hd:∀ t,o.dst=some t→t < n∧¬ U t)
  (ht:P.underlying t=some dt) (Co:∀ms,dt≠.interface ms) (hx:du n x=some y) (hu:∀t∈y.tmps,¬U t) (he:aD S H (.iface t y)=some e):c_ P w0 n U g S H a w o e:=by
 have hv:=R.ev hx hu;simp only[aD]at he;split at he
 case isFalse=>cases he
 rename_i eL;cases he
 refine c_.val R (λt h=>(hd t h).1) (c:=.iface t (a.eval x)) ?_ (.data _ _ (.iface _ _ _ (hv.dW (AV.j_ eL)).vw)) λloc=>trivial
 simp only[execOp,ho,Instr.makeInterface,adq,adD ht,Result.andThen_ok]
 cases dt<;>first|rfl|exact absurd rfl (Co _)
def B6 (R:Rel P w0 n U g S H a w) {o:Oper} {s:TypeId} {fs:Array Field} {f:Field} {i:TypeInfo} {j:Nat} {x:Operand} {y:cT} {e:aP} (ho:o.op = .fieldAddr s x j) (hd:∀ t,o.dst=some t→t < n∧¬ U t)
  (hs:P.underlying s=some (.struct fs)) (hf:fs[j]?=some f) (hi:P.info? f.type=some i) (hz:i.size≠0) (hx:du n x=some y) (hu:∀t∈y.tmps,¬U t)
  (he:aD S H (.fieldAddr f.offset y)=some e):c_ P w0 n U g S H a w o e:=by
 have hv:=R.ev hx hu;simp only[aD]at he;generalize sD:AL.ev S y=q at he hv;generalize mz:a.eval x=c at hv
 have run:∀b off,c=.pointer (some ⟨b,off,none⟩)->(execOp a.eval o).run P w=.ok (.value (.pointer (some ⟨b,off+f.offset,none⟩))) w:=by
  rintro b off rfl;simp[execOp,ho,mz,Instr.fieldAt,adD hs,hf,Instr.sureAddr,fieldPlace,sizeOf,typeInfo,hi,hz,aei]
 cases hv with
 |box k off b jC=>
  cases he
  exact c_.val R (λt h=>(hd t h).1) (run _ _ rfl) (.box _ _ _ jC) λ_=>trivial
 |data v c h=>
  cases h<;>simp only at he<;>try cases he
  rename_i cs b off vs h1 hc hr
  refine c_.val R (λt h=>(hd t h).1) (run _ _ rfl) (.data _ _ (.ref _ _ _ (λk=>vs (f.offset+k)) (λk hk=>?_) (λk hk=>?_) λk hk=>?_)) λ_=>trivial
  .simp only[ad0]at hk;simp only[aeG];exact h1 _ zo
  .simp only[ad0]at hk;have:=hc (f.offset+k) zo;rwa [show off+f.offset+k=off+(f.offset+k) by omega]
  .simp only[ad0]at hk;simp only[aeG];exact hr _ zo
 |func=>cases he
 |gJ=>cases he
 |bo c=>cases he
def BO (R:Rel P w0 n U g S H a w) {o:Oper} {s el:TypeId} {i:TypeInfo} {x1 x2:Operand} {y1 y2:cT} {e:aP} (ho:o.op = .indexAddr s x1 x2) (hd:∀ t,o.dst=some t→t < n∧¬ U t)
  (hs:P.underlying s=some (.slice el)) (hi:P.info? el=some i) (n_:du n x1=some y1) (mC:du n x2=some y2) (pQ:∀t∈y1.tmps,¬U t) (pS:∀t∈y2.tmps,¬U t)
  (he:aD S H (.indexAddr i.size y1 y2)=some e):c_ P w0 n U g S H a w o e:=by
 have fp:=R.ev n_ pQ;have fc:=R.ev mC pS;simp only[aD]at he;generalize AL.ev S y1=q1 at he fp;generalize AL.ev S y2=q2 at he fc;generalize kg:a.eval x1=c1 at fp;generalize jB:a.eval x2=c2 at fc;split at he
 case h_2=>cases he
 rename_i oo es k;cases fc;rename_i fc;cases fc;split at he
 case isFalse=>cases he
 rename_i hk;split at he
 case h_2=>cases he
 rename_i v hv;split at he
 case isFalse=>cases he
 rename_i bj;cases he;obtain⟨aq,rfl⟩:=adG.1 hv;cases fp;rename_i fp
 cases fp with
 |iB=>simp at aq
 |jx=>simp at aq
 |slice _ _ b off cap size cs fh uv lL h1 hc hr=>
  have ZS:size=i.size:=by rw[<-lL _ aq];exact bj
  subst ZS
  have jv:k<(es.length:Int):=zo
  have mj:∀q,q<(es[k.toNat]).cells.length->k.toNat*i.size+q<es.length*i.size:=by
   intro q hq;rw[bj]at hq
   calc k.toNat*i.size+q<k.toNat*i.size+i.size:=by omega
    _=(k.toNat+1)*i.size:=by rw[agL]
    _<=es.length*i.size:=aeF _ zo
  refine c_.val R (λt h=>(hd t h).1) (c:=.pointer (some ⟨b,off+k.toNat*i.size,none⟩)) ?_ (.data _ _ (.ref _ _ _ (λq=>cs (k.toNat*i.size+q)) (λq hq=>h1 _ aq q hq) (λq hq=>?_) λq hq=>hr _ aq q hq)) λ_=>trivial
  .simp[execOp,ho,kg,jB,Instr.indexAt,asIntOf,adD hs,hk,jv,sizeOf,typeInfo,hi,aei]
  .have:=hc (k.toNat*i.size+q) (mj q hq);rwa [<-afv]at this
def G_ (R:Rel P w0 n U g S H a w) {o:Oper} {s:TypeId} {x1 x2:Operand} {y1 y2:cT} {e:aP} (ho:o.op = .index s x1 x2) (hd:∀ t,o.dst=some t→t < n∧¬ U t)
  (hs:P.underlying s=some .string) (n_:du n x1=some y1) (mC:du n x2=some y2) (pQ:∀t∈y1.tmps,¬U t) (pS:∀t∈y2.tmps,¬U t)
  (he:aD S H (.oT y1 y2)=some e):c_ P w0 n U g S H a w o e:=by
 have fp:=R.ev n_ pQ;have fc:=R.ev mC pS;simp only[aD]at he;generalize AL.ev S y1=q1 at he fp;generalize AL.ev S y2=q2 at he fc;generalize kg:a.eval x1=c1 at fp;generalize jB:a.eval x2=c2 at fc;split at he
 case h_2=>cases he
 rename_i l k;cases fc;rename_i fc;cases fc;split at he
 case isFalse=>cases he
 rename_i hk;split at he
 case h_2=>cases he
 rename_i v hv;cases he;cases fp;rename_i fp;cases fp
 have hb:(⟨l.toArray⟩:ByteArray)[k.toNat]?=some v:=by
  obtain⟨aq,rfl⟩:=adG.1 hv;rw[ByteArray.getElem?_lt' _ _ (by simpa[ByteArray.size]using aq)]
  rfl
 refine c_.val R (λt h=>(hd t h).1) (c:=.int .u8 v.toNat) ?_ (.data _ _ (.int _ _)) λ_=>trivial
 simp[execOp,ho,kg,jB,Instr.index,asIntOf,adD hs,hk,hb]
def EO (R:Rel P w0 n U g S H a w) {o:Oper} {j:Nat} {x:Operand} {y:cT} {e:aP} (ho:o.op = .extract x j) (hd:∀ t,o.dst=some t→t < n∧¬ U t)
  (hx:du n x=some y) (hu:∀t∈y.tmps,¬U t) (he:aD S H (.extract y j)=some e):c_ P w0 n U g S H a w o e:=by
 have hv:=R.ev hx hu;simp only[aD]at he;generalize sD:AL.ev S y=q at he hv;generalize mz:a.eval x=c at hv
 cases hv<;>(try cases he;done)
 rename_i h
 cases h<;>simp only at he<;>try cases he
 rename_i cs vs hl hr;simp only[adv]at he;obtain⟨v,hv,rfl⟩:=he;obtain⟨aq,rfl⟩:=adG.1 hv
 have ng:j<vs.size:=zo
 refine c_.val R (λt h=>(hd t h).1) (c:=vs[j]) ?_ (.data _ _ (hr j aq ng).aJ) λloc=>gW _ _ _
 simp[execOp,ho,mz,Instr.extract,ng]
def Gm (R:Rel P w0 n U g S H a w) {o:Oper} {cl:Call} {s:TypeId} {ds:TypeDesc} {x:Operand} {y:cT} {e:aP} (ho:o.op = .call cl) (kJ:cl.callee = .builtin .len) (BS:cl.args = #[x]) (Cq:cl.argTypes = #[s])
  (hd:∀t,o.dst=some t->t<n/\¬U t) (hs:P.underlying s=some ds) (hx:du n x=some y) (hu:∀t∈y.tmps,¬U t)
  (he:(ds=.string/\aD S H (.yV y)=some e)\/((∃el,ds=.slice el)/\aD S H (.kM y)=some e)):c_ P w0 n U g S H a w o e:=by
 have hv:=R.ev hx hu;simp only[aD]at he;generalize sD:AL.ev S y=q at he hv;generalize mz:a.eval x=c at hv
 have fin:∀(m:Nat),(Builtin.len_ #[s] o.type #[c]).run P w=.ok (.int .i64 m) w->c_ P w0 n U g S H a w o { v:=.int .i64 m }:=by
  intro m hm
  refine c_.val R (λt h=>(hd t h).1) (c:=.int .i64 m) ?_ (.data _ _ (.int _ _)) λ_=>trivial
  unfold execOp;simp[ho,kJ,BS,Cq,resolve,invoke,builtin,mz,hm]
 rcases he with⟨rfl,he⟩|⟨⟨el,rfl⟩,he⟩
 .cases hv<;>(try cases he;done)
  rename_i h
  cases h<;>simp only at he<;>try cases he
  exact fin _ (by simp[Builtin.len_,adD hs,goInt];rfl)
 .cases hv<;>(try cases he;done)
  rename_i h
  cases h<;>simp only at he<;>try cases he
  .exact fin 0 (by simp[Builtin.len_,adD hs,goInt])
  .exact fin 0 (by simp[Builtin.len_,adD hs,goInt])
  .exact fin _ (by simp[Builtin.len_,adD hs,goInt])
def yS (R:Rel P w0 n U g S H a w) {o:Oper} {cl:Call} {x1 x2:Operand} {y1 y2:cT} {e:aP} (ho:o.op = .call cl) (BS:cl.args = #[x1,x2])
  (hd:∀t,o.dst=some t->t<n/\¬U t) (n_:du n x1=some y1) (mC:du n x2=some y2) (pQ:∀t∈y1.tmps,¬U t) (pS:∀t∈y2.tmps,¬U t)
  (he:(cl.callee=.builtin .max/\aD S H (.max y1 y2)=some e)\/(cl.callee=.builtin .min/\aD S H (.min y1 y2)=some e)):c_ P w0 n U g S H a w o e:=by
 have fp:=R.ev n_ pQ;have fc:=R.ev mC pS;simp only[aD]at he;generalize AL.ev S y1=q1 at he fp;generalize AL.ev S y2=q2 at he fc;generalize kg:a.eval x1=c1 at fp;generalize jB:a.eval x2=c2 at fc
 rcases he with⟨kJ,he⟩|⟨kJ,he⟩
 all_goals
  split at he
  case h_2=>cases he
  rename_i p q;cases fp;rename_i fp;cases fp;cases fc;rename_i fc;cases fc;cases he
 .refine c_.val R (λt h=>(hd t h).1) (c:=.int .i64 (max p q)) ?_ (.data _ _ (.int _ _)) λ_=>trivial
  have:(if q>p then q else p)=max p q:=by split<;>omega
  simp[execOp,ho,kJ,BS,resolve,invoke,builtin,kg,jB,Builtin.max_,Builtin.max2,this]
 .refine c_.val R (λt h=>(hd t h).1) (c:=.int .i64 (min p q)) ?_ (.data _ _ (.int _ _)) λ_=>trivial
  have:(if q<p then q else p)=min p q:=by split<;>omega
  simp[execOp,ho,kJ,BS,resolve,invoke,builtin,kg,jB,Builtin.min_,Builtin.min2,this]
end
def py(Pr:Nat->Nat->Prop)(w:World)(cs:List AV)(vs:Array Value):Prop:=
 cs.length=vs.size/\(∀i (h:i<cs.length)(h':i<vs.size),RD Pr w cs[i] vs[i])/\∀i (h:i<cs.length),(cs[i]).one=true
def RD.Vq{Pr:Nat->Nat->Prop}{w:World}{v:AV}{c:Value}(h:RD Pr w v c)(hs:v.storable=true):py Pr w v.cells c.cells:=
 ⟨h.cells.1,h.cells.2,h.cells_one hs⟩
def AV.wz{v:AV}:v.aJ.storable=v.storable:=by
 cases v<;>try rfl
 rename_i o es;cases o<;>rfl
def AV.yx{v:AV}:v.aJ.cells.length=v.cells.length:=by
 cases v<;>try rfl
 rename_i o es;cases o<;>rfl
def AV.Ip{v:AV}:v.vw.storable=v.storable:=by cases v<;>rfl
def AV.Ao{v:AV}:v.vw.cells.length=v.cells.length:=by cases v<;>simp[AV.vw,AV.cI,AV.cells]
def iE (Pr:Nat→Nat→Prop) (w:World):∀ {vs:List Value} {cs:List AV},iW vs=some cs→py Pr w cs vs.toArray∧(∀ v∈cs,v.mf) ∧
  ∀(P:Program)(g:Gh)(f:Nat->Loc) i (h:i<cs.length)(h':i<vs.length),eK P w g (f i) cs[i] vs[i]
 |[],cs,h=>by cases h;exact⟨⟨rfl,λi h=>by simp at h,λi h=>by simp at h⟩,λv h=>by simp at h,λP g f i h=>by simp at h⟩
 |v::vs,cs,h=>by
  simp only[iW]at h;split at h
  .rename_i x xs hx qK;split at h
   case isFalse=>cases h
   rename_i eL;cases h;obtain⟨⟨h1,h2,h3⟩,h4,h5⟩:=iE Pr w qK;have hd:RD Pr w x v:=(JR Pr (λ_=>none) w hx).dW (AV.j_ eL);refine⟨⟨by simp at h1⊢;exact h1,λi hi dv=>?_,λi hi=>?_⟩,λy hy=>?_,λP g f i hi dv=>?_⟩
   .cases i with
    |zero=>exact hd
    |succ i=>exact h2 i (by simpa using hi) (by simpa using dv)
   .cases i with
    |zero=>
     show x.one=true;unfold nF at hx
     split at hx<;>first|cases hx|skip
     all_goals rfl
    |succ i=>exact h3 i (by simpa using hi)
   .simp at hy;rcases hy with rfl|hy
    .exact A1 hx
    .exact h4 y hy
   .cases i with
    |zero=>exact Au hx _ _ _ _
    |succ i=>exact h5 P g (λi=>f (i+1)) i (by simpa using hi) (by simpa using dv)
  .cases h
def Ec{cs vs:List AV}{off:Nat}(h:off+vs.length<=cs.length):(bB cs off vs).length=cs.length:=by
 simp[bB];omega
def tE {cs vs:List AV} {off:Nat} (h:off+vs.length≤cs.length) (i:Nat) :
  (bB cs off vs)[i]?=if off<=i/\i<off+vs.length then vs[i-off]? else cs[i]?:=by
 unfold bB
 by_cases h1:i<off
 .rw[if_neg zo,ad2,aek (by simp;omega)];simp[h1]
 .by_cases h2:i<off+vs.length
  .rw[if_pos ⟨zo,h2⟩,aek (by simp;omega),aex (by simp;omega)]
   congr 1
   simp;omega
  .rw[if_neg zo,aex (by simp;omega)];simp only[afw]
   congr 1
   simp;omega
def py.get{Pr:Nat->Nat->Prop}{w:World}{cs:List AV}{vs:Array Value}(h:py Pr w cs vs){i:Nat}{v:AV}{c:Value}(hv:cs[i]?=some v)(hc:vs[i]?=some c):RD Pr w v c:=by
 obtain⟨h1,rfl⟩:=adG.1 hv;obtain⟨h2,rfl⟩:=adj.1 hc;exact h.2.1 i h1 h2
def py.one{Pr:Nat->Nat->Prop}{w:World}{cs:List AV}{vs:Array Value}(h:py Pr w cs vs){i:Nat}{v:AV}(hv:cs[i]?=some v):v.one=true:=by
 obtain⟨h1,rfl⟩:=adG.1 hv;exact h.2.2 i h1
def py.mk'{Pr:Nat->Nat->Prop}{w:World}{cs:List AV}{vs:Array Value}(h:cs.length=vs.size)(hr:∀(i:Nat)(v:AV)(c:Value),cs[i]?=some v->vs[i]?=some c->RD Pr w v c)(h1:∀(i:Nat)(v:AV),cs[i]?=some v->v.one=true):py Pr w cs vs:=
 ⟨h,λi hi dv=>hr i _ _ (adh hi) (adK dv),λi hi=>h1 i _ (adh hi)⟩
def py.bB {Pr:Nat→Nat→Prop} {w:World} {cs vs:List AV} {xs ys:Array Value} {off:Nat} (h:py Pr w cs xs) (hv:py Pr w vs ys) (hl:off+vs.length≤cs.length)
  (zs:Array Value) (hz:zs.size=xs.size) (ib:∀k,zs[k]?=if off<=k/\k<off+ys.size then ys[k-off]? else xs[k]?):py Pr w (bB cs off vs) zs:=by
 have fp:=hv.1;have h1:=h.1;refine py.mk' (by rw[Ec hl,hz];exact h.1) (λi v c e1 e2=>?_) (λi v e1=>?_)
 .rw[tE hl]at e1;rw[ib]at e2;rw[<-fp]at e2;split at e1
  .rename_i hh;rw[if_pos hh]at e2;exact hv.get e1 e2
  .rename_i hh;rw[if_neg hh]at e2;exact h.get e1 e2
 .rw[tE hl]at e1;split at e1
  .exact hv.one e1
  .exact h.one e1
def tu(n:Nat)(place:Nat->Option (Nat×Nat)):List (Nat×Operand)->Option (List (Nat×Nat×cT))
 |[]=>some []
 |(i,x)::rest=>match place i,du n x,tu n place rest with
  |some (off,size),some y,some r=>some ((off,size,y)::r)
  |_,_,_=>none
section
variable{P:Program}{w0:World}{n:Nat}{U:Nat->Prop}{g:Gh}{S:an}{H:ao}{a:Act}{w:World}
def vp (R:Rel P w0 n U g S H a w) {place:Nat→Option (Nat×Nat)}:∀ {ps:List (Nat×Operand)} {qs:List (Nat×Nat×cT)},tu n place ps=some qs →
  (∀q∈qs,∀t∈q.2.2.tmps,¬U t)->∀{cs fU:List AV}{vs:Array Value},py g.Pr w cs vs->bI cs (qs.map λ(o,s,x)=>(o,s,ev S x))=some fU->
  ∃ll,Instr.fill place vs (ps.map λ(i,x)=>(i,a.eval x))=some ll/\py g.Pr w fU ll
 |[],qs,h,_,cs,fU,vs,hr,he=>by
  cases h;simp only[adR,bI,adN]at he;subst he;exact⟨vs,rfl,hr⟩
 |(i,x)::ps,qs,h,hu,cs,fU,vs,hr,he=>by
  simp only[tu]at h;split at h
  case h_2=>cases h
  rename_i off size y r hp hx kh;cases h;simp only[ady,bI]at he;split at he
  case isFalse=>cases he
  rename_i hc;obtain⟨kg,jB,P4⟩:=hc;have hv:=(R.ev hx (hu _ adx)).dW (AV.j_ P4);have hvd:=hv.aJ.Vq (by rw[AV.wz];exact P4)
  have bj:(a.eval x).cells.size=size:=by rw[<-hv.cells.1];exact kg
  have kJ:cs.length=vs.size:=hr.1;obtain⟨k1,k2⟩:=Great.foldl_set off (a.eval x).cells.toList 0 vs
  have js:=hr.bB (off:=off) hvd (by rw[AV.yx,kg];exact jB)
   (((a.eval x).cells.toList.zipIdx 0).foldl (λcs (x:Value×Nat)=>cs.setIfInBounds (off+x.2) x.1) vs) k1 (λk=>by
    rw[k2 k];simp only[Nat.add_zero,Array.length_toList,aev]
    by_cases mj:off<=k/\k<off+(a.eval x).cells.size
    .rw[if_pos mj,if_pos ⟨mj.1,mj.2,zo⟩]
    .rw[if_neg mj,if_neg zo])
  obtain⟨ll,e1,e2⟩:=vp R kh (λq hq=>hu q (adu _ hq)) js he;refine⟨ll,?_,e2⟩;simp only[ady,Instr.fill,hp];rw[if_neg (by simp;omega)];rw[<-e1]
  congr 1
  rw[<-Array.foldl_toList,Array.toList_zipIdx]
def L6 (R:Rel P w0 n U g S H a w) {o:Oper} {t:TypeId} {it:TypeInfo} {fs:Array Field} {z:Value} {places:List (Nat×Nat)} {zs:List AV} {ps:Array (Nat×Operand)} {qs:List (Nat×Nat×cT)} {e:aP}
  (ho:o.op=.build t ps) (hd:∀t,o.dst=some t->t<n/\¬U t) (hi:P.info? t=some it) (fq:P.underlying t=some (.struct fs)) (hz:it.zero=some z)
  (TZ:fs.toList.mapM (λf=>(P.info? f.type).map λi=>(f.offset,i.size))=some places) (pT:iW z.cells.toList=some zs) (hq:tu n (places[·]?) ps.toList=some qs)
  (hu:∀q∈qs,∀t∈q.2.2.tmps,¬U t) (he:aD S H (.build (zs.map AV.aJ) qs)=some e):c_ P w0 n U g S H a w o e:=by
 simp only[aD,adv]at he;obtain⟨fU,hc,rfl⟩:=he;have Mh:=(iE g.Pr w pT).1
 have T2:py g.Pr w (zs.map AV.aJ) z.cells:=by
  refine⟨by simpa using Mh.1,λi h h'=>?_,λi h=>?_⟩
  .simp only[adn]at h;have:=(Mh.2.1 i h (by simpa using h')).aJ;simpa using this
  .simp only[adn]at h;have:=Mh.2.2 i h;simp only[adz];exact(AV.pc _).trans this
 obtain⟨ll,h1,h2⟩:=vp R hq hu T2 hc
 have hb:P.built t (ps.map λ(i,x)=>(i,a.eval x)).toList=some ll:=by
  unfold Program.built;simp only[hi,fq,hz,TZ,af8];rw[<-h1]
  congr 1
  funext i
  simp
 refine c_.val R (λt h=>(hd t h).1) (c:=.agg ll) ?_ (.data _ _ (.agg _ _ h2.1 h2.2.2 h2.2.1)) λ_=>trivial
 unfold execOp;simp only[ho,adq,aho w t _ ll hb,Result.andThen_ok]
 rfl
def Q8 (R:Rel P w0 n U g S H a w) {o:Oper} {fn:Fn} {f1 c1:Array Operand} {f2 c2:List cT} {e:aP} (ho:o.op = .makeFunc fn f1 c1) (hd:∀ t,o.dst=some t→t < n∧¬ U t)
  (hf:pL n f1.toList=some f2) (hc:pL n c1.toList=some c2) (huf:∀y∈f2,∀t∈y.tmps,¬U t) (huc:∀y∈c2,∀t∈y.tmps,¬U t) (he:aD S H (.EK fn f2 c2)=some e):c_ P w0 n U g S H a w o e:=by
 simp only[aD,adN]at he;subst he;obtain⟨l1,r1⟩:=R.JM hf huf;obtain⟨l2,r2⟩:=R.JM hc huc
 refine c_.val R (λt h=>(hd t h).1) (c:=.func fn (f1.map a.eval) (c1.map a.eval)) ?_ ?_ λ_=>trivial
 .simp[execOp,ho,Instr.makeFunc]
 .refine .func fn _ _ _ _ (by simpa using l1) (by simpa using l2) (λi h h'=>?_) (λi h h'=>?_)
  .simp only[adn,Array.size_map]at h h';have:=(r1 i h (by simpa using h')).aJ;simpa using this
  .simp only[adn,Array.size_map]at h h';have:=(r2 i h (by simpa using h')).aJ;simpa using this
def Rel.newRow (R:Rel P w0 n U g S H a w) (d:Option Nat) (hd:∀ t,d=some t→t < n∧¬ U t) (el:TypeId) (i:TypeInfo) (hi:P.info? el=some i) (es:List AV) (cells:Array Value)
  (bj:∀j (h:j<es.length),(es[j]).cells.length=i.size) (eL:∀j (h:j<es.length),(es[j]).storable=true) (hl:cells.size=es.length*i.size) (hlen:es.length<=maxLen)
  (hr:∀j (h:j<es.length),∃c,RD g.Pr w es[j] c/\∀k u,c.cells[k]?=some u->cells[j*i.size+k]?=some u):
  ∃g',g'.base=g.base/\g'.old=g.old/\Rel P w0 n U g' (Go.AL.aX S d (.slice (.own el) es)) H (a.put d (.slice (some ⟨w.heap.size,0,none⟩) es.length es.length)) (w.alloc (.cells cells el)):=by
 have hb:Below w.heap.size w (w.alloc (.cells cells el)):=(aej _ _).alloc (adl _) _
 have hle:g.base<=w.heap.size:=by rw[R.base];exact R.below.size
 let g':Gh:={ g with hi:=au g.hi w.heap.size (es.length*i.size),owner:=au g.owner w.heap.size (d.map .slot) }
 have R':Rel P w0 n U g' S H a (w.alloc (.cells cells el)):=R.grow (g':=g') hb rfl rfl rfl
  (λb hb=>⟨aQ _ _ zo,aQ _ _ zo⟩)
  (λb hb=>by
   have im:w.heap.size+1<=b:=by simpa using hb
   exact⟨(aQ _ _ zo).trans (R.fresh b zo).1,(aQ _ _ zo).trans (R.fresh b zo).2⟩)
 have qo:∀k,k<es.length*i.size->g'.Pr w.heap.size k:=λk hk=>.inr ⟨hle,by show k<au g.hi _ _ _;rw[aO];exact hk⟩
 have aaQ:bf g.Pr g'.Pr w (w.alloc (.cells cells el)):=by
  refine bf.jm (λb aq=>hb.block b aq) λb k aq hp=>?_
  unfold Gh.Pr at*
  show(b<g.base/\g.old.c b k)\/(g.base<=b/\k<au g.hi _ _ b)
  rw[aQ _ _ zo];exact hp
 refine⟨g',rfl,rfl,R'.aX d _ _ (λt h=>(hd t h).1) (.data _ _ ?_) ?_⟩
 .refine .slice _ es w.heap.size 0 es.length i.size (λk=>cells.getD k undef) (adl _) (λh=>by cases h) bj (λj h k hk=>?_) (λk hk=>⟨by rw[adW];exact qo k hk,?_⟩) (λj h k hk=>?_)
  .obtain⟨c,h1,h2⟩:=hr j h;exact h1.cells_one (eL j h) k hk
  .simp[hl,hk]
  .obtain⟨c,h1,h2⟩:=hr j h
   have cE:k<c.cells.size:=by rw[<-h1.cells.1];exact hk
   have:cells.getD (j*i.size+k) undef=c.cells[k]:=by simp[h2 k _ (adK cE)]
   rw[this];exact(h1.cells.2 k hk cE).mono aaQ
 .intro t ht;subst ht;refine⟨i,cells.toList,w.heap.size,hi,⟨by simp[hl],.inr ⟨w.heap.size,es.length,cells,rfl,hle,ags w _,adl _,hlen,hl,?_⟩⟩,rfl,?_,?_⟩
  .exact ado (by simp[hl])
  .show au g.owner _ _ _=_;rw[aO];rfl
  .show au g.hi _ _ _=_;rw[aO]
def zR (R:Rel P w0 n U g S H a w) {o:Oper} {t el:TypeId} {i:TypeInfo} {z:Value} {len:Nat} {ps:Array (Nat×Operand)} {xs:List Operand} {ys:List cT} {e:aP}
  (ho:o.op=.buildSlice t len ps) (hd:∀t,o.dst=some t->t<n/\¬U t) (fq:P.underlying t=some (.slice el)) (hi:P.info? el=some i) (hz:i.zero=some z) (iK:0<i.size)
  (kh:ps.toList=(xs.zipIdx 0).map λx=>(x.2,x.1)) (hlen:xs.length=len) (hlz:0<len) (hx:pL n xs=some ys) (hu:∀y∈ys,∀t∈y.tmps,¬U t)
  (he:aD S H (.buildSlice t el i.size ys)=some e):c_ P w0 n U g S H a w o e:=by
 simp only[aD]at he;split at he
 case isFalse=>cases he
 rename_i hc;cases he;simp only[adk,adr]at hc;obtain⟨kg,jB⟩:=hc;simp only[aG,adw,adk,adY]at kg;obtain⟨l1,r1⟩:=R.JM hx hu
 have xG:ys.length=len:=zo
 have hR:∀j (h:j<ys.length),RD g.Pr w (AL.ev S ys[j]) ((xs.map a.eval)[j]'(by simp;omega))/\(AL.ev S ys[j]).cells.length=i.size/\(AL.ev S ys[j]).storable=true:=by
  intro j h;have hm:=kg (AL.ev S ys[j]) (adF.2 ⟨_,adi h,rfl⟩);refine⟨?_,hm.2,hm.1⟩;have:=(r1 j h zo).dW (AV.j_ hm.1);simpa using this
 have rW:∀v∈xs.map a.eval,v.cells.size=i.size:=by
  intro v hv;obtain⟨j,hj,rfl⟩:=ad7 hv;simp only[adn]at hj;obtain⟨h1,h2,h3⟩:=hR j zo;rw[<-h1.cells.1];exact h2
 have aag:((Array.range (len*i.size)).map (z.cells[· % z.cells.size]!)).size=len*i.size:=ahi
 have Nh:=Great.fill_whole iK (xs.map a.eval) ((Array.range (len*i.size)).map (z.cells[· % z.cells.size]!)) rW (by rw[aag];simp[hlen])
 have Gt:(ps.map λ(i,x)=>(i,a.eval x)).toList=((xs.map a.eval).zipIdx 0).map λx=>(x.2,x.1):=by
  rw[af8,kh];simp[List.zipIdx_map]
 have dz:=run_buildSlice (P:=P) w t el len (ps.map λ(i,x)=>(i,a.eval x)) ((xs.map a.eval).flatMap λv=>v.cells.toList).toArray i z fq hi hz (by rw[xG]at jB;omega)
  (by have:=Nat.mul_pos hlz iK;omega) (by rw[Gt];exact Nh)
 have OG:=Great.flat_get iK (xs.map a.eval) rW
 obtain⟨g',e1,e2,R'⟩:=R.newRow o.dst hd el i hi ((ys.map (AL.ev S)).map AV.vw) ((xs.map a.eval).flatMap λv=>v.cells.toList).toArray
  (λj h=>by simp only[adn]at h;simp only[adz,AV.Ao];exact(hR j h).2.1)
  (λj h=>by simp only[adn]at h;simp only[adz,AV.Ip];exact(hR j h).2.2)
  (by
   simp only[afF,adn]
   have hh:∀(l:List Value),(∀v∈l,v.cells.size=i.size)->(l.flatMap λv=>v.cells.toList).length=l.length*i.size:=by
    intro l
    induction l with
    |nil=>simp
    |cons v l ih=>intro h;simp only[aeD,adC,List.length_cons,Array.length_toList,h v adx,ih (λu hu=>h u (adu _ hu)),agL];omega
   rw[hh _ rW,adn,l1])
  (by simp only[adn];have:=Nat.le_mul_of_pos_right ys.length iK;unfold maxLen;omega)
  (λj h=>by
   simp only[adn]at h;obtain⟨h1,h2,h3⟩:=hR j h
   have dU:j<(xs.map a.eval).length:=by simp;omega
   refine⟨(xs.map a.eval)[j],by simpa using h1.vw,λk u hk=>?_⟩
   have cE:k<i.size:=by
    rw[<-rW _ (adi dU)];exact(adj.1 hk).1
   simp only[agb];rw[OG,show(j*i.size+k)/i.size=j by rw[ae6,Nat.mul_add_div iK,agM cE,Nat.add_zero],show(j*i.size+k) % i.size=k by rw[ae6,Nat.mul_add_mod,Nat.mod_eq_of_lt cE],adh dU]
   exact hk)
 refine⟨.slice (some ⟨w.heap.size,0,none⟩) len len,w.alloc (.cells ((xs.map a.eval).flatMap λv=>v.cells.toList).toArray el),g',.inl ?_,e1,e2,?_⟩
 .unfold execOp;simp only[ho,adq,dz,Result.andThen_ok]
  rfl
 .have:((ys.map (AL.ev S)).map AV.vw).length=len:=by simp[xG]
  rw[this]at R';exact R'
end
section
variable{P:Program}{w0:World}{n:Nat}{U:Nat->Prop}{g:Gh}{S:an}{H:ao}{a:Act}{w:World}
def SC(S:an)(y:cT):an:=match bw y with|some t=>au S t (S t).aJ|none=>S
def Rel.take (R:Rel P w0 n U g S H a w) {x:Operand} {y:cT} (hx:du n x=some y) (hu:∀ t∈y.tmps,¬ U t) (loc:Loc) :
  ∃g1,g1.base=g.base/\g1.old=g.old/\g1.al=g.al/\g1.hi=g.hi/\Rel P w0 n U g1 (SC S y) H a w/\eK P w g1 loc (AL.ev S y) (a.eval x):=by
 cases x with
 |const c=>
  simp only[du,adv]at hx;obtain⟨v,hc,rfl⟩:=hx;exact⟨g,rfl,rfl,rfl,rfl,R,Au hc _ _ _ _⟩
 |global k=>cases hx
 |func f=>cases hx;exact⟨g,rfl,rfl,rfl,rfl,R,trivial⟩
 |tmp t=>
  simp only[du]at hx;split at hx
  case isFalse=>cases hx
  rename_i ht;cases hx;have QW:=hu t (by simp[cT.tmps]);have ho:=R.own t ht QW
  have R1:Rel P w0 n U g (au S t (S t).aJ) H a w:=R.weaken _ λk hk huk c pE ho=>by
   by_cases h:k=t
   .subst h;rw[aO];exact⟨pE.aJ,gW _ _ _⟩
   .rw[aQ _ _ h];exact⟨pE,ho⟩
  have R2:=R1.GK (.slot t) (some loc) (λk hk _ _=>by cases hk;rw[aO];exact AV.qJ _) (λi j cs h=>by cases h);refine⟨{ g with owner:=λb=>if g.owner b=some (.slot t)then some loc else g.owner b },rfl,rfl,rfl,rfl,R2,?_⟩;show eK P w _ loc (S t) (a.tmps.getD t undef);generalize S t=v at ho;generalize a.tmps.getD t undef=c at ho
  cases v<;>try trivial
  rename_i oo es
  cases oo with
  |view=>trivial
  |nil=>exact ho
  |own e=>
   obtain⟨i,xs,b,h1,h2,h3,h4,h5⟩:=ho;refine⟨i,xs,b,h1,h2,h3,?_,h5⟩;show(if g.owner b=some (.slot t)then some loc else g.owner b)=_;rw[if_pos h4]
def Rel.PJ (R:Rel P w0 n U g S H a w) {x:Operand} {y:cT} (hx:du n x=some y) (hu:∀ t∈y.tmps,¬ U t) {e:TypeId} {es:List AV} (hy:AL.ev S y = .slice (.own e) es) :
  ∃g1 i xs b,g1.base=g.base/\g1.old=g.old/\g1.al=g.al/\g1.hi=g.hi/\Rel P w0 n U g1 (SC S y) H a w/\
   P.info? e=some i/\w.ownsRow g.base e i.size (a.eval x) es.length xs/\(a.eval x).ownBlock=some b/\g1.owner b=none/\g.hi b=es.length*i.size/\(∀j,g.al j≠some b)/\(∀o,g.old.aV b≠some o):=by
 cases x with
 |const c=>
  simp only[du,adv]at hx;obtain⟨v,hc,rfl⟩:=hx;have:=A1 hc;rw[show v=AL.ev S (.c v)from rfl,hy]at this;cases this
 |global k=>cases hx
 |func f=>cases hx;cases hy
 |tmp t=>
  simp only[du]at hx;split at hx
  case isFalse=>cases hx
  rename_i ht;cases hx;have QW:=hu t (by simp[cT.tmps]);have ho:=R.own t ht QW
  change S t=_ at hy
  have R1:Rel P w0 n U g (au S t (S t).aJ) H a w:=R.weaken _ λk hk huk c pE ho=>by
   by_cases h:k=t
   .subst h;rw[aO];exact⟨pE.aJ,gW _ _ _⟩
   .rw[aQ _ _ h];exact⟨pE,ho⟩
  have R2:=R1.GK (.slot t) none (λk hk _ _=>by cases hk;rw[aO];exact AV.qJ _) (λi j cs h=>by cases h);rw[hy]at ho;obtain⟨i,xs,b,h1,h2,h3,h4,h5⟩:=ho;refine⟨{ g with owner:=λb=>if g.owner b=some (.slot t)then none else g.owner b },i,xs,b,rfl,rfl,rfl,rfl,R2,h1,h2,h3,?_,h5,λj hj=>?_,λo hk=>?_⟩
  .show(if g.owner b=some (.slot t)then none else g.owner b)=none;rw[if_pos h4]
  .obtain⟨_,_,_,_,_,_,_,k5,_⟩:=R.box j b hj;rw[h4]at k5;cases k5
  .obtain⟨_,_,_,k4,_⟩:=R.kept b o hk;rw[h4]at k4;cases k4
def Dm(v:AV):v.cy.length=v.cells.length:=by cases v<;>simp[AV.cy,AV.cells]
def RD.cy{Pr:Nat->Nat->Prop}{v:AV}{c:Value}(h:RD Pr w v c)(hs:v.storable=true):py Pr w v.cy c.cells:=by
 cases v<;>try exact h.Vq hs
 rename_i cs;have hh:=h.Vq hs;refine py.mk' (by simpa[AV.cy,AV.cells]using hh.1) (λi v c e1 e2=>?_) (λi v e1=>?_)
 .simp only[AV.cy,adO,adv]at e1;obtain⟨u,h1,rfl⟩:=e1;exact(hh.get h1 e2).aJ
 .simp only[AV.cy,adO,adv]at e1;obtain⟨u,h1,rfl⟩:=e1;exact(AV.pc _).trans (hh.one h1)
def mZ (R:Rel P w0 n U g S H a w) {o:Oper} {hr:HR} {t:TypeId} {i:TypeInfo} {x1 x2:Operand} {y1 y2:cT} {e:aP} (ho:o.op = .store t x1 x2) (iu:o.dst=none)
  (hi:P.info? t=some i) (n_:du n x1=some y1) (mC:du n x2=some y2) (pQ:∀t∈y1.tmps,¬U t) (pS:∀t∈y2.tmps,¬U t)
  (he:aD S H (.store hr i.size y1 y2)=some e):c_ P w0 n U g S H a w o e:=by
 have fp:=R.ev n_ pQ;have fc:=R.ev mC pS;simp only[aD]at he;generalize ac0:AL.ev S y1=q1 at he fp;generalize kg:a.eval x1=c1 at fp
 cases fp<;>(try cases he;done)
 case data h=>cases h<;>cases he
 rename_i k off b jC;simp only at he;split at he
 case isFalse=>cases he
 obtain⟨cs,vs,ty,k1,k2,k3,k4,k5,k6,k7,k8,k9⟩:=R.box k b jC;simp only[k1]at he;split at he
 case isFalse=>cases he
 rename_i hc;obtain⟨kJ,Rn,eL⟩:=hc;cases he;have uK:=fc.dW (AV.j_ eL);obtain⟨g1,e1,e2,e3,e4,R1,Sl⟩:=R.take mC pS (.cell k off)
 have qo:g1.Pr=g.Pr:=by unfold Gh.Pr;rw[e1,e2,e4]
 obtain⟨cs0,RN,ty0,m1,m2,m3,m4,m5,m6,m7,m8,m9⟩:=R1.box k b (by rw[e3];exact jC);rw[k1]at m1;cases m1;rw[k3]at m3;cases m3
 have bj:(a.eval x2).cells.size=i.size:=by rw[<-uK.cells.1];exact kJ
 have hlen:off+(a.eval x2).cells.size<=vs.size:=zo
 have og:∀u∈(a.eval x2).cells.toList,u.oneCell'=true:=by
  intro u hu;obtain⟨j,hj,rfl⟩:=ad7 hu
  have dU:j<(AL.ev S y2).cells.length:=by rw[uK.cells.1];simpa using hj
  have:=(uK.cells.2 j dU (by simpa using hj)).one (uK.cells_one eL j dU);simpa using this
 have dz:=af5 P b off ty (a.eval x2).cells.toList 0 vs w k3 (by simpa using hlen) og;simp only[Nat.add_zero]at dz;have DT:=Dm (AL.ev S y2)
 have ib:∀j,(vs.toList.take off++(a.eval x2).cells.toList++vs.toList.drop (off+(a.eval x2).cells.toList.length)).toArray[j]?=if off<=j/\j<off+(a.eval x2).cells.size then(a.eval x2).cells[j-off]? else vs[j]?:=by
  intro j;simp only[agb,Array.length_toList]
  by_cases h1:j<off
  .rw[if_neg zo,ad2,aek (by simp;omega)];simp[h1]
  .by_cases h2:j<off+(a.eval x2).cells.size
   .rw[if_pos ⟨zo,h2⟩,aek (by simp;omega),aex (by simp;omega)];rw[aev]
    congr 1
    simp;omega
   .rw[if_neg zo,aex (by simp;omega)];simp only[afw,aev]
    congr 1
    simp;omega
 have eI:py g1.Pr w (bB cs off (AL.ev S y2).cy) (vs.toList.take off++(a.eval x2).cells.toList++vs.toList.drop (off+(a.eval x2).cells.toList.length)).toArray:=
  py.bB (cs:=cs) (xs:=vs) ⟨m6,m7,m9⟩ (ys:=(a.eval x2).cells) (by rw[qo];exact uK.cy eL) zo _ (by simp;omega) ib
 have cV:∀j v c,(bB cs off (AL.ev S y2).cy)[j]?=some v->(vs.toList.take off++(a.eval x2).cells.toList++vs.toList.drop (off+(a.eval x2).cells.toList.length)).toArray[j]?=some c->eK P w g1 (.cell k j) v c:=by
  intro j v c h1 h2;rw[tE zo]at h1;rw[ib]at h2;rw[DT,uK.cells.1]at h1;split at h1
  .rename_i mj;rw[if_pos mj]at h2;have Mj:=uK;generalize AL.ev S y2=q at h1 Sl Mj eL;generalize a.eval x2=c2 at h2 Sl Mj
   have single:q.cy=[q]->c2.cells=#[c2]->eK P w g1 (.cell k j) v c:=by
    intro h3 h4;rw[h3]at h1;rw[h4]at h2
    have h0:j-off=0:=by simpa using(adG.1 h1).1
    rw[h0]at h1 h2;simp at h1 h2;subst h1;subst h2;rw[show j=off by omega];exact Sl
   cases Mj with
   |agg fU ll hl og hr=>
    simp only[AV.cy,adO,adv]at h1;obtain⟨u,_,rfl⟩:=h1;exact gW _ _ _
   |dR=>cases eL
   |val _ hc=>exact single rfl (by cases c2<;>first|rfl|cases hc)
   |_=>exact single rfl rfl
  .rename_i mj;rw[if_neg mj]at h2;obtain⟨l1,rfl⟩:=adG.1 h1;obtain⟨l2,rfl⟩:=adj.1 h2;exact m8 j l1 l2
 have R2:=R1.IF k b (by rw[e3];exact jC) vs _ ty k3 _ eI.1 eI.2.1 (λj hj dU=>cV j _ _ (adh hj) (adK dU)) eI.2.2;refine⟨undef,w.setRow b (vs.toList.take off++(a.eval x2).cells.toList++vs.toList.drop (off+(a.eval x2).cells.toList.length)).toArray,g1,.inr ⟨?_,rfl⟩,e1,e2,?_⟩
 .unfold execOp;simp only[ho,kg,Instr.storeAt,Instr.sureAddr,storeVar,sizeOf,typeInfo,adq,Sem.run_pure,Result.andThen_ok,run_program,hi,bj,ne_eq,aeV,adH];rw[show storeCells ⟨b,off,none⟩ (a.eval x2).cells.toList=storeCells ⟨b,off,none⟩ (a.eval x2).cells.toList 0 from rfl,dz]
  rfl
 .rw[iu];exact R2
end
def rQ {P:Program} {w:World} (base:Nat) (t ty e:TypeId) (i:TypeInfo) (z:Value) (ht:P.underlying t=some (.slice e)) (hi:P.info? e=some i) (hz:i.zero=some z)
  (pT:z.cells.size=i.size) (v:Value) (n:Nat) (xs:List Value) (b:Nat) (cV:w.ownsRow base e i.size v n xs) (pt:v.ownBlock=some b)
  (ad:Addr) (m c:Nat) (news:List Value) (hl:news.length=m*i.size) (sR:∀j u,news[j]?=some u->w.cell? (ad.add j)=some u) (h1:∀u∈news,u.oneCell'=true)
  (h63:n+m<=2097152) (Gn:(n+m)*i.bytes<=140737488355328) (gy:base<=w.heap.size):
  ∃v' w' b',(Builtin.append_ #[t,t] ty #[v,.slice (some ad) m c]).run P w=.ok v' w'/\w'.ownsRow base e i.size v' (n+m) (xs++news)/\v'.ownBlock=some b'/\
   ((b'=b/\w.grownBy w' (some b))\/(b'=w.heap.size/\w.grownBy w' none/\w'.heap.size=w.heap.size+1)):=by
 have abj:n+m<=maxLen:=by unfold maxLen;omega
 have hlen:(xs++news).length=(n+m)*i.size:=by rw[adC,cV.1,hl,aeT]
 rcases cV.2 with⟨rfl,rfl⟩|⟨g,cap,cur,rfl,rR,hg,Ay,wj,rW,zF⟩
 .cases pt
 .have mL:g=b:=by simpa[Value.ownBlock]using pt
  subst mL
  by_cases iQ:n+m<=cap
  .have abE:n*i.size+news.length<=cur.size:=by rw[hl,rW,<-aeT];exact aeF _ iQ
   have hr:=run_append_room (P:=P) w t ty e i ht hi g n cap cur hg ad m c news hl sR h1 iQ abE;refine⟨_,_,g,hr,⟨hlen,.inr ⟨g,cap,_,rfl,rR,ae3 w g cur _ e _ hg,iQ,wj,?_,?_⟩⟩,rfl,.inl ⟨rfl,⟨rfl,rfl,rfl,ahi,λk _ hk=>aes w g k _ (λe=>hk (by simp[e]))⟩⟩⟩
   .simp only[afF,adC,adA,ad0,Array.length_toList];omega
   .rw[zF,<-hlen];exact afH
  .have holds:∀j u,xs[j]?=some u->w.cell? ((⟨g,0,none⟩:Addr).add j)=some u:=cV.cells (g:=g) rfl;have hr:=run_append_grow (P:=P) w t ty e i z ht hi hz ⟨g,0,none⟩ n cap xs cV.1 holds ad m c news hl sR zo zo (growslice_fits zo Gn);have Ae:=grownCap_ge w (n+m) cap e;have SR:grownCap w (n+m) cap e<=maxLen:=grownCap_le_maxLen w (n+m) cap e abj;refine⟨_,_,w.heap.size,hr,⟨hlen,.inr ⟨w.heap.size,_,_,rfl,gy,ags w.drew _,Ae,SR,?_,?_⟩⟩,rfl,.inr ⟨rfl,⟨rfl,rfl,rfl,ahi,λk hk _=>heap_alloc_old w.drew _ k hk⟩,ahi⟩⟩
   .simp only[Array.size_append,afF,size_zeroCells,pT,cV.1,hl,<-aeT]
    congr 1
    omega
   .simp only[ahh,ad2];rw[<-ad2,<-hlen];exact afH
def tP {P:Program} {w:World} (base:Nat) (t ty e:TypeId) (i:TypeInfo) (z:Value) (ht:P.underlying t=some (.slice e)) (hi:P.info? e=some i) (hz:i.zero=some z)
  (pT:z.cells.size=i.size) (a0:Option Addr)
  (ad:Addr) (m c:Nat) (news:List Value) (hl:news.length=m*i.size) (sR:∀j u,news[j]?=some u->w.cell? (ad.add j)=some u)
  (hm:0<m) (h63:m<=2097152) (Gn:m*i.bytes<=140737488355328) (gy:base<=w.heap.size):
  ∃v' w',(Builtin.append_ #[t,t] ty #[.slice a0 0 0,.slice (some ad) m c]).run P w=.ok v' w'/\w'.ownsRow base e i.size v' m news/\v'.ownBlock=some w.heap.size/\w.grownBy w' none/\w'.heap.size=w.heap.size+1:=by
 have Ae:=grownCap_ge w m 0 e;have SR:grownCap w m 0 e<=maxLen:=grownCap_le_maxLen w m 0 e (by unfold maxLen;omega)
 have dz:(Builtin.append_ #[t,t] ty #[.slice a0 0 0,.slice (some ad) m c]).run P w=.ok (.slice (some ⟨w.heap.size,0,none⟩) m (grownCap w m 0 e)) (w.drew.alloc (.cells (news.toArray++Builtin.zeroCells z.cells (grownCap w m 0 e-m)) e)):=by
  cases a0 with
  |none=>exact run_append_nil (P:=P) w t ty e i z ht hi hz ad m c news hl sR hm zo zo
  |some b=>
   have:=run_append_grow (P:=P) w t ty e i z ht hi hz b 0 0 [] ahi ahi ad m c news hl sR zo zo (growslice_fits zo (by simpa using Gn));simpa using this
 refine⟨_,_,dz,⟨hl,.inr ⟨w.heap.size,_,_,rfl,gy,ags w.drew _,Ae,SR,?_,?_⟩⟩,rfl,⟨rfl,rfl,rfl,ahi,λk hk _=>heap_alloc_old w.drew _ k hk⟩,ahi⟩
 .simp only[Array.size_append,afF,size_zeroCells,pT,hl,<-aeT]
  congr 1
  omega
 .rw[<-hl];simp only[ahh];exact afH
def uy {P:Program} {w:World} (base:Nat) (t ty e:TypeId) (i:TypeInfo) (size:Nat) (ht:P.underlying t=some (.slice e)) (hi:P.info? e=some i)
  (v:Value) (n:Nat) (xs:List Value) (cV:w.ownsRow base e size v n xs) (ad:Option Addr):
  (Builtin.append_ #[t,t] ty #[v,.slice ad 0 0]).run P w=.ok v w:=by
 have V9:(Builtin.firstCells i.size 0 (.slice ad 0 0)).run P w=.ok #[] w:=by
  rcases ad with _|ad
  .rfl
  .simp[Builtin.firstCells,loadCells,loadCellsFrom]
 rcases cV.2 with⟨rfl,rfl⟩|⟨g,cap,cur,rfl,_,_,Ay,_⟩
 .simp[Builtin.append_,adD ht,sizeOf,typeInfo,hi,Builtin.lenOf,V9]
 .simp[Builtin.append_,adD ht,sizeOf,typeInfo,hi,Builtin.lenOf,V9,Ay,storeCells]
def RD.nj {Pr:Nat→Nat→Prop} {w:World} {o:Ow} {es:List AV} {c:Value} (h:RD Pr w (.slice o es) c) (size:Nat) (hs:aG size es=true) :
  (es=[]/\∃ad,c=.slice ad 0 0)\/∃(b off cap:Nat)(news:List Value),c=.slice (some ⟨b,off,none⟩) es.length cap/\news.length=es.length*size/\
   (∀j u,news[j]?=some u->w.cell? ⟨b,off+j,none⟩=some u)/\(∀u∈news,u.oneCell'=true)/\
   ∀j (h:j<es.length) k (hk:k<(es[j]).cells.length),∃u,news[j*size+k]?=some u/\RD Pr w ((es[j]).cells[k]) u:=by
 simp only[aG,adw,adk,adY]at hs
 cases h with
 |iB=>exact .inl ⟨rfl,_,rfl⟩
 |jx _ a=>exact .inl ⟨rfl,_,rfl⟩
 |slice _ _ b off cap sz cs fh uv bj h1 hc hr=>
  refine .inr ⟨b,off,cap,(List.range (es.length*size)).map cs,rfl,ahi,?_,?_,?_⟩
  .intro j u hu;simp only[adO,adv]at hu;obtain⟨j',h1,rfl⟩:=hu;obtain⟨aq,rfl⟩:=adG.1 h1;simp only[List.length_range]at aq;simp only[List.getElem_range]
   have iK:0<es.length:=by
    rcases afc es.length with h0|h0
    .rw[h0]at aq;omega
    .exact h0
   have:sz=size:=by rw[<-bj 0 iK];exact(hs _ (adi iK)).2
   subst this;exact(hc j aq).2
  .intro u hu;simp only[adF,adQ]at hu;obtain⟨j,aq,rfl⟩:=hu
   have iK:0<es.length:=by
    rcases afc es.length with h0|h0
    .rw[h0]at aq;omega
    .exact h0
   have:sz=size:=by rw[<-bj 0 iK];exact(hs _ (adi iK)).2
   subst this
   have l8:0<sz:=by
    rcases afc sz with h0|h0
    .rw[h0]at aq;omega
    .exact h0
   have hj:j/sz<es.length:=(Nat.div_lt_iff_lt_mul l8).2 aq
   have hk:j % sz<(es[j/sz]).cells.length:=by rw[bj _ hj];exact afK _ l8
   have e:j/sz*sz+j % sz=j:=by rw[ae6];exact age j sz
   have:=(hr _ hj _ hk).one (h1 _ hj _ hk);rwa [e]at this
  .intro j hj k hk
   have:sz=size:=by rw[<-bj j hj];exact(hs _ (adi hj)).2
   subst this;refine⟨cs (j*sz+k),?_,hr j hj k hk⟩;rw[bj j hj]at hk
   have:j*sz+k<es.length*sz:=by
    calc j*sz+k<j*sz+sz:=by omega
     _=(j+1)*sz:=by rw[agL]
     _<=es.length*sz:=aeF _ zo
   simp[this]
def RD.OA{Pr:Nat->Nat->Prop}{w:World}{o:Ow}{es:List AV}{c:Value}(h:RD Pr w (.slice o es) c):∀j (h:j<es.length) k (hk:k<(es[j]).cells.length),((es[j]).cells[k]).one=true:=by
 intro j hj k hk
 cases h with
 |iB=>simp at hj
 |jx=>simp at hj
 |slice _ _ _ _ _ _ _ _ _ _ h1 _ _=>exact h1 j hj k hk
section
variable{P:Program}{w0:World}{n:Nat}{U:Nat->Prop}{g:Gh}{S:an}{H:ao}{a:Act}{w:World}
def Rel.ownRow (R:Rel P w0 n U g S H a w) {w':World} {b':Nat} (d:Option Nat) (hd:∀ t,d=some t→t < n∧¬ U t) {el:TypeId} {i:TypeInfo} (hi:P.info? el=some i) {es:List AV} {news:List Value} {v':Value}
  (cV:w'.ownsRow g.base el i.size v' es.length news) (pt:v'.ownBlock=some b')
  (BT:∀es c,w.heap[b']?≠some (.map es c))
  (hb:(b'<w.heap.size/\w.grownBy w' (some b')/\g.owner b'=none/\(∀j,g.al j≠some b')/\g.hi b'<=es.length*i.size/\(∀k u,k<g.hi b'->w.cell? ⟨b',k,none⟩=some u->news[k]?=some u)/\∀o,g.old.aV b'≠some o)\/
   (b'=w.heap.size/\w.grownBy w' none/\w'.heap.size=w.heap.size+1))
  (eL:aG i.size es=true)
  (hr:∀j (h:j<es.length) k (hk:k<(es[j]).cells.length),∃u,news[j*i.size+k]?=some u/\RD g.Pr w ((es[j]).cells[k]) u/\((es[j]).cells[k]).one=true):
  ∃g',g'.base=g.base/\g'.old=g.old/\Rel P w0 n U g' (Go.AL.aX S d (.slice (.own el) es)) H (a.put d v') w':=by
 have hle:g.base<=w.heap.size:=by rw[R.base];exact R.below.size
 simp only[aG,adw,adk,adY]at eL
 let g':Gh:={ g with hi:=au g.hi b' (es.length*i.size),owner:=au g.owner b' (d.map .slot) }
 have iD:∀k,k<w.heap.size->k≠b'->w'.heap[k]?=w.heap[k]?:=by
  intro k hk cP
  rcases hb with⟨_,h,_⟩|⟨_,h,_⟩
  .exact h.block k hk (by simp[cP])
  .exact h.block k hk ahi
 have lL:w.heap.size<=w'.heap.size:=by rcases hb with⟨_,h,_⟩|⟨_,h,_⟩<;>exact h.size
 rcases cV.2 with⟨rfl,_⟩|⟨gg,cap,cur,rfl,rR,hg,Ay,wj,rW,zF⟩
 .cases pt
 have mL:gg=b':=by simpa[Value.ownBlock]using pt
 subst mL
 have eV:∀k u,news[k]?=some u->w'.cell? ⟨gg,k,none⟩=some u:=by
  intro k u hu;have:=cV.cells (g:=gg) rfl k u hu;rwa [aei,adW]at this
 have Vt:∀b k,g.Pr b k->∀u,w.cell? ⟨b,k,none⟩=some u->g'.Pr b k/\w'.cell? ⟨b,k,none⟩=some u:=by
  intro b k hp u hu;have aq:b<w.heap.size:=aft _ _ hu
  by_cases lS:b=gg
  .subst lS
   rcases hb with⟨h1,h2,h3,h4,h5,h6,_⟩|⟨h1,_⟩
   .rcases hp with hp|hp
    .omega
    .exact⟨.inr ⟨hp.1,by show k<au g.hi _ _ _;rw[aO];omega⟩,eV k u (h6 k u hp.2 hu)⟩
   .omega
  .refine⟨?_,by rw[ae5 (w:=w) (iD b aq lS)];exact hu⟩;rcases hp with hp|hp
   .exact .inl hp
   .exact .inr ⟨hp.1,by show k<au g.hi _ _ b;rw[aQ _ _ lS];exact hp.2⟩
 have rA:bf g.Pr g'.Pr w w':={
  cell:=Vt
  map:=λb hp es c hm=>by
   have aq:b<w.heap.size:=(adj.1 hm).1
   have lS:b≠gg:=by
    rintro rfl;exact BT _ _ hm
   refine⟨?_,by rw[iD b aq lS];exact hm⟩;rcases hp with hp|hp
   .exact .inl hp
   .exact .inr ⟨hp.1,by show 0<au g.hi _ _ b;rw[aQ _ _ lS];exact hp.2⟩ }
 have R':Rel P w0 n U g' S H a w':=by
  refine R.ext (g':=g') rfl rfl rfl rA ?_ ?_ ?_ ?_ ?_ lL
  .intro j b hj;obtain⟨_,_,_,_,_,k3,_⟩:=R.box j b hj;have aq:b<w.heap.size:=(adj.1 k3).1
   have cP:b≠gg:=by
    rintro rfl
    rcases hb with⟨_,_,_,h4,_⟩|⟨h1,_⟩
    .exact h4 j hj
    .omega
   exact⟨iD b aq cP,aQ _ _ cP,aQ _ _ cP⟩
  .intro b loc ho
   have aq:b<w.heap.size:=by
    rcases aeI b w.heap.size with h|h
    .exact h
    .rw[(R.fresh b h).2]at ho;cases ho
   have cP:b≠gg:=by
    rintro rfl
    rcases hb with⟨_,_,h3,_⟩|⟨h1,_⟩
    .rw[h3]at ho;cases ho
    .omega
   exact⟨iD b aq cP,aQ _ _ cP,(aQ _ _ cP).trans ho⟩
  .refine R.below.trans ?_
   rcases hb with⟨_,h,_⟩|⟨_,h,_⟩
   .exact⟨h.os,h.tape,h.output,h.size,λk hk=>iD k zo zo⟩
   .exact⟨h.os,h.tape,h.output,h.size,λk hk=>iD k zo zo⟩
  .intro b lS
   have cP:b≠gg:=by
    have:=(adj.1 hg).1;omega
   exact⟨(aQ _ _ cP).trans (R.fresh b zo).1,(aQ _ _ cP).trans (R.fresh b zo).2⟩
  .intro b o hk ho;have aq:b<w.heap.size:=(adj.1 ho).1
   have cP:b≠gg:=by
    rintro rfl
    rcases hb with⟨_,_,_,_,_,_,h7⟩|⟨h1,_⟩
    .exact h7 o hk
    .omega
   exact⟨by rw[iD b aq cP];exact ho,aQ _ _ cP,aQ _ _ cP⟩
 refine⟨g',rfl,rfl,R'.aX d _ _ (λt h=>(hd t h).1) (.data _ _ ?_) ?_⟩
 .refine .slice _ es gg 0 cap i.size (λk=>news.getD k undef) Ay (λh=>by cases h) (λj h=>(eL _ (adi h)).2) (λj h k hk=>(hr j h k hk).choose_spec.2.2) (λk hk=>⟨?_,?_⟩) (λj h k hk=>?_)
  .exact .inr ⟨rR,by show 0+k<au g.hi _ _ _;rw[aO];omega⟩
  .rw[adW];refine eV k _ ?_
   have:k<news.length:=by rw[cV.1];exact hk
   simp[this]
  .obtain⟨u,h1,h2,_⟩:=hr j h k hk
   have:news.getD (j*i.size+k) undef=u:=by simp[h1]
   rw[this];exact h2.mono rA
 .intro t ht;subst ht;exact⟨i,news,gg,hi,cV,rfl,by show au g.owner _ _ _=_;rw[aO];rfl,by show au g.hi _ _ _=_;rw[aO]⟩
def nN{size:Nat}{es:List AV}:aG size es=true↔∀v∈es,v.storable=true/\v.cells.length=size:=by
 simp[aG]
def G6 (R:Rel P w0 n U g S H a w) {o:Oper} {cl:Call} {t el:TypeId} {i:TypeInfo} {z:Value} {x1 x2:Operand} {y1 y2:cT} {e:aP} (ho:o.op = .call cl) (kJ:cl.callee = .builtin .append) (BS:cl.args = #[x1,x2]) (Cq:cl.argTypes = #[t,t])
  (hd:∀t,o.dst=some t->t<n/\¬U t) (fq:P.underlying t=some (.slice el)) (hi:P.info? el=some i) (hz:i.zero=some z) (pT:z.cells.size=i.size) (HD:i.bytes<=65536)
  (n_:du n x1=some y1) (mC:du n x2=some y2) (pQ:∀t∈y1.tmps,¬U t) (pS:∀t∈y2.tmps,¬U t) (eI:∀t,o.dst=some t->t∉y1.tmps)
  (he:aD S H (.append t el i.size i.bytes y1 y2)=some e):c_ P w0 n U g S H a w o e:=by
 have hle:g.base<=w.heap.size:=by rw[R.base];exact R.below.size
 have fp:=R.ev n_ pQ;have fc:=R.ev mC pS
 have run:∀v' w',(Builtin.append_ #[t,t] o.type #[a.eval x1,a.eval x2]).run P w=.ok v' w'->(execOp a.eval o).run P w=.ok (.value v') w':=by
  intro v' w' h;unfold execOp;simp[ho,kJ,BS,Cq,resolve,invoke,builtin,h]
 have bytes:∀m,m<=2097152->m*i.bytes<=140737488355328:=λm hm=>aeo (agt hm HD) zd
 simp only[aD]at he;split at he
 .
  rename_i oo ys T7 Ua;split at he
  case isFalse=>cases he
  rename_i hc;simp only[adk,adr]at hc;cases he;rw[T7]at fp;rw[Ua]at fc
  obtain⟨Zk,kg⟩:∃ad,a.eval x1=.slice ad 0 0:=by
   have hq:=fp.dW rfl;generalize a.eval x1=c at hq
   cases hq with
   |iB=>exact⟨_,rfl⟩
   |jx=>exact⟨_,rfl⟩
   |slice _ _ b off cap size cs fh uv=>rw[uv rfl];exact⟨_,rfl⟩
  have uK:=fc.dW rfl
  rcases uK.nj i.size hc.1 with⟨rfl,Sb,jB⟩|⟨b,off,cap,news,jB,hl,hn,h1,hr⟩
  .refine⟨a.eval x1,w,g,.inl (run _ _ ?_),rfl,rfl,R.aX o.dst _ _ (λt h=>(hd t h).1) (.data _ _ (fp.dW rfl)) λ_ _=>trivial⟩;rw[kg,jB]
   have V9:(Builtin.firstCells i.size 0 (.slice Sb 0 0)).run P w=.ok #[] w:=by
    rcases Sb with _|Sb
    .rfl
    .simp[Builtin.firstCells,loadCells,loadCellsFrom]
   simp[Builtin.append_,adD fq,sizeOf,typeInfo,hi,Builtin.lenOf,V9,storeCells]
   cases Zk<;>simp[storeCells]
  .by_cases XL:ys=[]
   .subst XL;have sR:news=[]:=ad1 (by simpa using hl);refine⟨a.eval x1,w,g,.inl (run _ _ ?_),rfl,rfl,R.aX o.dst _ _ (λt h=>(hd t h).1) (.data _ _ (fp.dW rfl)) λ_ _=>trivial⟩;rw[kg,jB];simp[Builtin.append_,adD fq,sizeOf,typeInfo,hi,Builtin.lenOf,Builtin.firstCells,loadCells,loadCellsFrom]
    cases Zk<;>simp[storeCells]
   .have iK:0<ys.length:=aew.2 XL;obtain⟨v',w',r1,r2,r3,r4,r5⟩:=tP (P:=P) (w:=w) g.base t o.type el i z fq hi hz pT Zk ⟨b,off,none⟩ ys.length cap news hl (λj u hu=>by rw[aei];exact hn j u hu) iK zo (bytes _ zo) hle
    obtain⟨g',e1,e2,R'⟩:=R.ownRow o.dst hd hi (es:=ys) r2 r3 (λes c hm=>by have:=(adj.1 hm).1;omega) (.inr ⟨rfl,r4,r5⟩) hc.1 (λj h k hk=>by
     obtain⟨u,u1,u2⟩:=hr j h k hk
     exact⟨u,u1,u2,uK.OA j h k hk⟩)
    refine⟨v',w',g',.inl (run _ _ (by rw[kg,jB];exact r1)),e1,e2,?_⟩
    have:ys.isEmpty=false:=by cases ys with|nil=>exact absurd rfl XL|cons=>rfl
    simp only[this];exact R'
 .rename_i e' xs oo ys T7 Ua;split at he
  case isFalse=>cases he
  rename_i hc;simp only[adk,adr]at hc;obtain⟨rfl,⟨kg,jB⟩,P4⟩:=hc;cases he;rw[T7]at fp;rw[Ua]at fc;obtain⟨g1,i',xv,b,b1,b2,b3,b4,R1,dv,cV,pt,iq,An,ZI,Rt⟩:=R.PJ n_ pQ T7;rw[hi]at dv;cases dv
  have qo:g1.Pr=g.Pr:=by unfold Gh.Pr;rw[b1,b2,b4]
  have E2:=fp.dW rfl;have uK:=fc.dW rfl;have mm:b<w.heap.size:=(cV.lt b pt).2
  have zP:aG i.size (xs++ys)=true:=by
   rw[nN];intro v hv;rcases adm.1 hv with h|h
   .exact nN.1 jB v h
   .exact nN.1 kg v h
  have hS:SC S y1=(match(bw y1)with|some t=>au S t (S t).aJ|none=>S):=rfl
  have og:∀(o:Ow)(es:List AV)(c:Value),RD g.Pr w (.slice o es) c->∀j (h:j<es.length) k (hk:k<(es[j]).cells.length),((es[j]).cells[k]).one=true:=by
   intro o es c h j hj k hk
   cases h with
   |iB=>simp at hj
   |jx=>simp at hj
   |slice _ _ _ _ _ _ _ _ _ _ h1 _ _=>exact h1 j hj k hk
  have YA:∀j (h:j<xs.length) k (hk:k<(xs[j]).cells.length),∃u,xv[j*i.size+k]?=some u/\RD g.Pr w ((xs[j]).cells[k]) u:=by
   intro j hj k hk
   rcases E2.nj i.size jB with⟨rfl,ko⟩|⟨b',off,cap,adg,ko,hl,hn,h1,hr⟩
   .simp at hj
   .obtain⟨u,u1,u2⟩:=hr j hj k hk;refine⟨u,?_,u2⟩
    have aq:j*i.size+k<xv.length:=by
     rw[cV.1,<-hl];exact(adG.1 u1).1
    have e1:=cV.cells pt _ _ (adh aq);have e2:=hn _ _ u1
    rcases cV.2 with⟨uh,_⟩|⟨gg,Ke,cur,EX,_⟩
    .rw[uh]at pt;cases pt
    .rw[EX]at ko pt
     have mL:gg=b:=by simpa[Value.ownBlock]using pt
     subst mL;cases ko;rw[aei,adW]at e1;rw[adW]at e2;rw[e2]at e1;rw[adh aq,adM e1]
  have Yh:∀k u,k<g1.hi b->w.cell? ⟨b,k,none⟩=some u->∀news,(xv++news)[k]?=some u:=by
   intro k u hk hu news;rw[b4,An]at hk
   have aq:k<xv.length:=by rw[cV.1];exact hk
   have e1:=cV.cells pt _ _ (adh aq);rw[aei,adW,hu]at e1;rw[aek aq,adh aq,<-adM e1]
  have fin:∀ v' w' b' news,(Builtin.append_ #[t,t] o.type #[a.eval x1,a.eval x2]).run P w = .ok v' w'→w'.ownsRow g.base e' i.size v' (xs.length+ys.length) (xv++news)→v'.ownBlock=some b' →
    ((b'=b/\w.grownBy w' (some b))\/(b'=w.heap.size/\w.grownBy w' none/\w'.heap.size=w.heap.size+1))->news.length=ys.length*i.size->
    (∀j (h:j<ys.length) k (hk:k<(ys[j]).cells.length),∃u,news[j*i.size+k]?=some u/\RD g.Pr w ((ys[j]).cells[k]) u)->
    c_ P w0 n U g S H a w o { v:=.slice (.own e') (xs++ys),dm:=bw y1 }:=by
   intro v' w' b' news r1 r2 r3 r4 hl hr
   obtain⟨g',e1,e2,R'⟩:=R1.ownRow o.dst hd hi (es:=xs++ys) (by rw[b1,adC];exact r2) r3 (by
    rcases r4 with⟨rfl,_⟩|⟨rfl,_⟩
    .intro es c hm
     rcases cV.2 with⟨uh,_⟩|⟨gg,Ke,cur,EX,_,aas,_⟩
     .rw[uh]at pt;cases pt
     .rw[EX]at pt
      have mL:gg=b':=by simpa[Value.ownBlock]using pt
      subst mL;rw[aas]at hm;cases hm
    .intro es c hm;have:=(adj.1 hm).1
     omega) (by
    rcases r4 with⟨rfl,hg⟩|h
    .refine .inl ⟨mm,hg,iq,by rw[b3];exact ZI,by rw[b4,An,adC,aeT];omega,λk u hk hu=>Yh k u hk hu news,by rw[b2];exact Rt⟩
    .exact .inr h) zP (λj h k hk=>by
     rw[qo]
     by_cases hj:j<xs.length
     .have ej:(xs++ys)[j]=xs[j]:=adZ hj
      have cE:k<(xs[j]).cells.length:=by rw[<-ej];exact hk
      obtain⟨u,u1,u2⟩:=YA j hj k cE;refine⟨u,?_,?_,?_⟩
      .rw[aek (adG.1 u1).1];exact u1
      .simp only[ej];exact u2
      .simp only[ej];exact og _ _ _ E2 j hj k cE
     .have hj2:j-xs.length<ys.length:=by simp only[adC]at h;omega
      have ej:(xs++ys)[j]=ys[j-xs.length]:=aep zo
      have cE:k<(ys[j-xs.length]).cells.length:=by rw[<-ej];exact hk
      obtain⟨u,u1,u2⟩:=hr _ hj2 k cE;refine⟨u,?_,?_,?_⟩
      .have e3:j * i.size+k=xv.length+((j - xs.length) * i.size+k):=by
        rw[cV.1,<-afv,<-aeT];congr 2;omega
       rw[e3,aex zo,Nat.add_sub_cancel_left];exact u1
      .simp only[ej];exact u2
      .simp only[ej];exact og _ _ _ uK _ hj2 k cE)
   exact⟨v',w',g',.inl (run _ _ r1),e1.trans b1,e2.trans b2,R'⟩
  rcases uK.nj i.size kg with⟨rfl,Sb,ko⟩|⟨b',off,cap,news,ko,hl,hn,h1,hr⟩
  .refine fin (a.eval x1) w b [] (by rw[ko];exact uy (P:=P) (w:=w) g.base t o.type e' i i.size fq hi _ _ _ cV Sb) (by simpa using cV) pt (.inl ⟨rfl,⟨rfl,rfl,rfl,adl _,λ_ _ _=>rfl⟩⟩) ahi (λj h=>by simp at h)
  .obtain⟨v',w',b'',r1,r2,r3,r4⟩:=rQ (P:=P) (w:=w) g.base t o.type e' i z fq hi hz pT (a.eval x1) xs.length xv b cV pt ⟨b',off,none⟩ ys.length cap news hl (λj u hu=>by rw[aei];exact hn j u hu) h1 zo (bytes _ zo) hle;exact fin v' w' b'' news (by rw[ko];exact r1) r2 r3 r4 hl hr
 .cases he
end
section
variable{P:Program}{w0:World}{n:Nat}{U:Nat->Prop}{g:Gh}{S:an}{H:ao}{a:Act}{w:World}
def JP (R:Rel P w0 n U g S H a w) {o:Oper} {hr:HR} {t:TypeId} {pn:TypeDesc} {x:Operand} {y:cT} {e:aP} {d:Nat} (ho:o.op = .load t x) (iu:o.dst=some d) (hd:d < n∧¬ U d)
  (fq:P.underlying t=some pn) (kN:ef pn=false) (hx:du n x=some y) (hu:∀t∈y.tmps,¬U t) (he:aD S H (.loadT hr y)=some e):c_ P w0 n U g S H a w o e:=by
 have hv:=R.ev hx hu;simp only[aD]at he;generalize sD:AL.ev S y=q at he hv;generalize mz:a.eval x=c at hv
 cases hv<;>(try cases he;done)
 case data h=>cases h<;>cases he
 rename_i k off b jC;simp only at he;split at he
 case isFalse=>cases he
 obtain⟨cs,vs,ty,k1,k2,k3,k4,k5,k6,k7,k8,k9⟩:=R.box k b jC;simp only[k1]at he;split at he
 case h_2=>cases he
 rename_i v hv;cases he;obtain⟨aq,rfl⟩:=adG.1 hv
 have ng:off<vs.size:=zo
 have dz:(loadVar t ⟨b,off,none⟩).run P w=.ok vs[off] w:=by
  have Y_:(isAgg t).run P w=.ok false w:=by
   unfold isAgg;rw[adq,adD fq w,<-kN]
   cases pn<;>simp[ef]
  have hc:w.cell? ⟨b,off,none⟩=some vs[off]:=by simp[World.cell?,k3,ng]
  simp[loadVar,adq,Y_,hc]
 have R1:=R.IF k b jC vs vs ty k3 (cs.set off (cs[off]).aJ) (by simpa using k6) (fun j h h'=>by
   simp only[aff]at h;rw[af9];split
   .rename_i hj;subst hj;exact(k7 _ aq ng).aJ
   .exact k7 j h h') (λj h h'=>by
   simp only[aff]at h;rw[af9];split
   .exact gW _ _ _
   .exact k8 j h h') (λj h=>by
   simp only[aff]at h;rw[af9];split
   .have:=k9 off aq;exact(AV.pc _).trans this
   .exact k9 j h)
 rw[setRow_self w b vs ty (0,0) k3]at R1
 have R2:=R1.GK (.cell k off) (some (.slot d)) (λt h=>by cases h) (λi j fU h hH hj=>by
  cases h;rw[aO]at hH;cases hH;simp only[ag6]
  exact AV.qJ _)
 refine⟨vs[off],w,{ g with owner:=λb=>if g.owner b=some (.cell k off)then some (.slot d)else g.owner b },.inl ?_,rfl,rfl,?_⟩
 .unfold execOp;simp[ho,mz,Instr.loadAt,Instr.sureAddr,dz]
 .rw[iu];refine R2.put d _ _ hd.1 (.data _ _ (k7 _ aq ng)) ?_;have hh:=k8 off aq ng;generalize cs[off]=v at hh;generalize vs[off]=c at hh
  cases v<;>try trivial
  rename_i oo es
  cases oo with
  |view=>trivial
  |nil=>exact hh
  |own e=>
   obtain⟨i,xs,b,h1,h2,h3,h4,h5⟩:=hh;refine⟨i,xs,b,h1,h2,h3,?_,h5⟩;show(if g.owner b=some (.cell k off)then some (.slot d)else g.owner b)=_;rw[if_pos h4]
def run_sliceBound{x:Value}{i:Int}{y:Nat}{code:BoundsCode}(hx:x=.int .i64 i)(h0:0<=i)(h1:i<=y):(Instr.sliceBound x y code).run P w=.ok i.toNat w:=by
 subst hx;simp[Instr.sliceBound,asIntOf,h0,h1]
def A0 (R:Rel P w0 n U g S H a w) {lo hi:Option Operand} {yw dv:Option cT} (uo:mH n lo=some yw) (An:mH n hi=some dv) (IN:∀ y∈yw,∀ t∈y.tmps,¬ U t) (T_:∀ y∈dv,∀ t∈y.tmps,¬ U t)
  {len cap:Nat} (hlc:len<=cap) {p q:Int} (hp:bound (yw.map (AL.ev S)) 0=some p) (hq:bound (dv.map (AL.ev S)) len=some q) (h0:0<=p) (h1:p<=q) (h2:q<=len) (sl:Bool):
  (Instr.sliceBounds sl len cap (lo.map a.eval) (hi.map a.eval) none).run P w=.ok (p.toNat,q.toNat,cap) w:=by
 have hh:∀code,(match hi.map a.eval with|some v=>Instr.sliceBound v cap code|none=>(pure len:Sem Nat)).run P w=.ok q.toNat w:=by
  intro code
  cases hi with
  |none=>
   cases An;simp only[Option.map_none,bound,adN]at hq;subst hq;simp
  |some x=>
   simp only[mH,adv]at An;obtain⟨y,hy,rfl⟩:=An;have hv:=R.ev hy (T_ y rfl);simp only[Option.map_some,bound]at hq;generalize AL.ev S y=v at hq hv
   split at hq<;>simp only[adN,reduceCtorEq]at hq
   .simp_all
   .rename_i m hm;simp only[adN]at hm;subst hm;subst hq;simp only[Option.map_some];refine run_sliceBound ?_ zo zo;generalize a.eval x=cx at hv;cases hv;rename_i hv;cases hv;rfl
 have hl:∀code,(match lo.map a.eval with|some v=>Instr.sliceBound v q.toNat code|none=>(pure 0:Sem Nat)).run P w=.ok p.toNat w:=by
  intro code
  cases lo with
  |none=>
   cases uo;simp only[Option.map_none,bound,adN]at hp;subst hp;simp
  |some x=>
   simp only[mH,adv]at uo;obtain⟨y,hy,rfl⟩:=uo;have hv:=R.ev hy (IN y rfl);simp only[Option.map_some,bound]at hp;generalize AL.ev S y=v at hp hv
   split at hp<;>simp only[adN,reduceCtorEq]at hp
   .simp_all
   .rename_i m hm;simp only[adN]at hm;subst hm;subst hp;simp only[Option.map_some];refine run_sliceBound ?_ zo zo;generalize a.eval x=cx at hv;cases hv;rename_i hv;cases hv;rfl
 unfold Instr.sliceBounds
 cases hi with
 |none=>
  have h3:=hh .sliceB;simp only[Option.map_none]at h3⊢
  cases lo with
  |none=>have h4:=hl .sliceB;simp only[Option.map_none]at h4⊢;simp at h3 h4;simp[h3,h4]
  |some x=>have h4:=hl .sliceB;simp only[Option.map_some]at h4⊢;simp at h3;simp[h3,h4]
 |some y=>
  have h3:=λc=>hh c
  simp only[Option.map_some]at h3⊢
  cases lo with
  |none=>have h4:=hl .sliceB;simp only[Option.map_none]at h4⊢;simp at h4;simp[h3,h4]
  |some x=>have h4:=hl .sliceB;simp only[Option.map_some]at h4⊢;simp[h3,h4]
def GU (R:Rel P w0 n U g S H a w) {o:Oper} {t:TypeId} {x:Operand} {lo hi:Option Operand} {y:cT} {yw dv:Option cT} {e:aP} (ho:o.op = .slice t x lo hi none) (hd:∀ t,o.dst=some t→t < n∧¬ U t)
  (fq:P.underlying t=some .string) (hx:du n x=some y) (hu:∀t∈y.tmps,¬U t) (uo:mH n lo=some yw) (An:mH n hi=some dv) (IN:∀y∈yw,∀t∈y.tmps,¬U t) (T_:∀y∈dv,∀t∈y.tmps,¬U t)
  (he:aD S H (.oN y yw dv)=some e):c_ P w0 n U g S H a w o e:=by
 have hv:=R.ev hx hu;simp only[aD]at he;generalize sD:AL.ev S y=q at he hv;generalize mz:a.eval x=c at hv
 cases hv<;>(try cases he;done)
 rename_i h
 cases h<;>simp only at he<;>try cases he
 rename_i l;split at he
 case h_2=>cases he
 rename_i p q hp hq;split at he
 case isFalse=>cases he
 rename_i hc;cases he;have hb:=A0 R uo An IN T_ (len:=l.length) (adl _) hp hq hc.1 hc.2.1 hc.2.2 false
 refine c_.val R (λt h=>(hd t h).1) (c:=.string ⟨((l.take q.toNat).drop p.toNat).toArray⟩) ?_ (.data _ _ (.str _)) λ_=>trivial
 have im:(Instr.sliceBounds false (⟨l.toArray⟩:ByteArray).size (⟨l.toArray⟩:ByteArray).size (lo.map a.eval) (hi.map a.eval) none).run P w=.ok (p.toNat,q.toNat,l.length) w:=hb;unfold execOp;simp only[ho,mz,Instr.sliceAt,adq,adD fq,Result.andThen_ok,Option.map_none,Instr.slice,Option.isSome_none,ads,adH,Sem.run_pure,im];rw[ByteArray.extract_mk,List.drop_take]
def GJ (R:Rel P w0 n U g S H a w) {o:Oper} {t el:TypeId} {i:TypeInfo} {x:Operand} {lo hi:Option Operand} {y:cT} {yw dv:Option cT} {e:aP} (ho:o.op = .slice t x lo hi none) (hd:∀ t,o.dst=some t→t < n∧¬ U t)
  (fq:P.underlying t=some (.slice el)) (LS:P.info? el=some i) (hx:du n x=some y) (hu:∀t∈y.tmps,¬U t) (uo:mH n lo=some yw) (An:mH n hi=some dv) (IN:∀y∈yw,∀t∈y.tmps,¬U t) (T_:∀y∈dv,∀t∈y.tmps,¬U t)
  (he:aD S H (.nC i.size y yw dv)=some e):c_ P w0 n U g S H a w o e:=by
 have hv:=R.ev hx hu;simp only[aD]at he;generalize sD:AL.ev S y=q at he hv;generalize mz:a.eval x=c at hv
 cases hv<;>(try cases he;done)
 rename_i h
 have key:∀ (es:List AV) (ad:Option Addr) (cap:Nat),es.length≤cap→c = .slice ad es.length cap→∀ p q:Int,bound (yw.map (AL.ev S)) 0=some p→bound (dv.map (AL.ev S)) es.length=some q→0≤p→p≤q→q≤es.length →
   (execOp a.eval o).run P w=.ok (.value (.slice (if cap=p.toNat then ad else ad.map (·.add (p.toNat*i.size))) (q.toNat-p.toNat) (cap-p.toNat))) w:=by
  rintro es ad cap fh rfl p q hp hq h0 h1 h2;have hb:=A0 R uo An IN T_ fh hp hq h0 h1 h2 true;unfold execOp;simp[ho,mz,Instr.sliceAt,adq,adD fq,Instr.slice,hb,sizeOf,typeInfo,LS]
 cases h with
 |iB oo=>
  simp only at he;split at he
  case h_2=>cases he
  rename_i p q hp hq;split at he
  case isFalse=>cases he
  rename_i hc;cases he;have hk:=key [] none 0 (adl _) rfl p q hp hq hc.1 hc.2.1 hc.2.2.1
  have UJ:q.toNat=0:=by have:=hc.2.2.1;simp at this;omega
  have SP:p.toNat=0:=by have:=hc.2.1;omega
  refine c_.val R (λt h=>(hd t h).1) hk (.data _ _ ?_) λ_=>trivial
  simp[UJ,SP];exact .iB _
 |jx oo a0=>
  simp only at he;split at he
  case h_2=>cases he
  rename_i p q hp hq;split at he
  case isFalse=>cases he
  rename_i hc;cases he;have hk:=key [] (some a0) 0 (adl _) rfl p q hp hq hc.1 hc.2.1 hc.2.2.1
  have UJ:q.toNat=0:=by have:=hc.2.2.1;simp at this;omega
  have SP:p.toNat=0:=by have:=hc.2.1;omega
  refine c_.val R (λt h=>(hd t h).1) hk (.data _ _ ?_) λ_=>trivial
  simp[UJ,SP];exact .jx _ _
 |slice oo es b off cap size cs fh uv bj h1 ko hr=>
  simp only at he;split at he
  case h_2=>cases he
  rename_i p q hp hq;split at he
  case isFalse=>cases he
  rename_i hc;cases he;have hk:=key es (some ⟨b,off,none⟩) cap fh rfl p q hp hq hc.1 hc.2.1 hc.2.2.1;have bX:=nN.1 hc.2.2.2
  have hlq:q.toNat<=es.length:=by have:=hc.2.2.1;omega
  have hpq:p.toNat<=q.toNat:=by have:=hc.2.1;omega
  have hlen:((es.take q.toNat).drop p.toNat).length=q.toNat-p.toNat:=by simp;omega
  refine c_.val R (λt h=>(hd t h).1) hk (.data _ _ ?_) λ_=>trivial
  by_cases hm:cap=p.toNat
  .rw[if_pos hm];have uh:(es.take q.toNat).drop p.toNat=[]:=ad1 zo;rw[uh,show q.toNat-p.toNat=([]:List AV).length by simp;omega];exact .slice _ [] b off _ 0 cs (ad_ _) (λh=>by cases h) (λi h=>by simp at h) (λi h=>by simp at h) (λk hk=>by simp at hk) (λi h=>by simp at h)
  .rw[if_neg hm];simp only[Option.map_some,aei];rw[<-hlen]
   have ib:∀j (h:j<((es.take q.toNat).drop p.toNat).length),((es.take q.toNat).drop p.toNat)[j]=es[p.toNat+j]'(by rw[hlen]at h;omega):=by intro j h;simp
   by_cases nV:es=[]
   .subst nV
    have uh:(([]:List AV).take q.toNat).drop p.toNat=[]:=ahi
    rw[uh];exact .slice _ [] b _ _ 0 cs (ad_ _) (λh=>by cases h) (λi h=>by simp at h) (λi h=>by simp at h) (λk hk=>by simp at hk) (λi h=>by simp at h)
   .have iK:0<es.length:=aew.2 nV
    have ZS:size=i.size:=by rw[<-bj 0 iK];exact(bX _ (adi iK)).2
    subst ZS;refine .slice _ _ b _ _ i.size (λk=>cs (p.toNat*i.size+k)) zo (λh=>by cases h) (λj h=>by rw[ib j h];exact bj _ _) (λj h k hk=>by have:=ib j h;simp only[this]at hk⊢;exact h1 _ _ k hk) (λk hk=>?_) (λj h k hk=>?_)
    .rw[hlen]at hk
     have:p.toNat*i.size+k<es.length*i.size:=by
      calc p.toNat*i.size+k<p.toNat*i.size+(q.toNat-p.toNat)*i.size:=by omega
       _=q.toNat*i.size:=by rw[<-aeT];congr 1;omega
       _<=es.length*i.size:=aeF _ hlq
     have:=ko _ this;rwa [<-afv]at this
    .have e:=ib j h;simp only[e]at hk⊢;have:=hr (p.toNat+j) (by rw[hlen]at h;omega) k hk;rwa [aeT,afv]at this
 |_=>cases he
def Bu (R:Rel P w0 n U g S H a w) {o:Oper} {neg:Bool} {t t' el:TypeId} {x:Operand} {y:cT} {e:aP} (ho:o.op = .binOp (if neg then .neq else .eql) t x (.const (.slice none 0 0)) t') (hd:∀ t,o.dst=some t→t < n∧¬ U t)
  (ht:P.underlying t=some (.slice el)) (hx:du n x=some y) (hu:∀t∈y.tmps,¬U t) (he:aD S H (.isNil neg y)=some e):c_ P w0 n U g S H a w o e:=by
 have hv:=R.ev hx hu;simp only[aD]at he;generalize sD:AL.ev S y=q at he hv;generalize mz:a.eval x=c at hv
 have run:∀ad l k,c=.slice ad l k->(execOp a.eval o).run P w=.ok (.value (.bool (if neg then !ad.isNone else ad.isNone))) w:=by
  rintro ad l k rfl;have hg:=gO (P:=P) (w:=w) (if neg then .neq else .eql) t x (.const (.slice none 0 0)) (.slice ad l k) (.slice none 0 0) rfl
  have hE:(Op.equal t (.slice ad l k) (.slice none 0 0)).run P w=.ok ad.isNone w:=by
   unfold Op.equal Op.maxDepth Op.equalIn
   cases ad<;>simp[adD ht]
  have Ws:a.eval (.const (.slice none 0 0))=.slice none 0 0:=rfl;cases neg
  .simp only[ads,adH]at ho hg⊢;simp[execOp,ho,mz,Ws,hg,binOp,hE]
  .simp only[adS]at ho hg⊢;simp[execOp,ho,mz,Ws,hg,binOp,hE]
 cases hv<;>(try cases he;done)
 rename_i h
 cases h<;>simp only at he<;>try cases he
 .exact c_.val R (λt h=>(hd t h).1) (run _ _ _ rfl) (.data _ _ (.l4 _)) λ_=>trivial
 .exact c_.val R (λt h=>(hd t h).1) (run _ _ _ rfl) (.data _ _ (.l4 _)) λ_=>trivial
 .rename_i oo es b off cap sz cs fh uv bj h1 hc hr
  refine c_.val R (λt h=>(hd t h).1) (run _ _ _ rfl) (.data _ _ ?_) λ_=>by cases es<;>trivial
  cases es
  .exact .l4 _
  .simp only[List.isEmpty_cons,ads,adH,Option.isNone_some,agu]
   cases neg<;>exact .bool _
def Ln (R:Rel P w0 n U g S H a w) {o:Oper} {t el:TypeId} {i:TypeInfo} {e:aP} (ho:o.op = .buildSlice t 0 #[]) (hd:∀ t,o.dst=some t→t < n∧¬ U t)
  (fq:P.underlying t=some (.slice el)) (hi:P.info? el=some i) (he:aD S H (.empty el)=some e):c_ P w0 n U g S H a w o e:=by
 cases he;have hb:Below w.heap.size w (w.alloc (.cells #[] el)):=(aej _ _).alloc (adl _) _;refine⟨.slice (some ⟨w.heap.size,0,none⟩) 0 0,w.alloc (.cells #[] el),g,.inl ?_,rfl,rfl,(R.jU hb).aX o.dst _ _ (λt h=>(hd t h).1) (.data _ _ ?_) λ_ _=>trivial⟩
 .unfold execOp;have hz:(Array.map (λ_:Nat=>(default:Value)) (Array.range 0))=#[]:=aeQ ahi;simp[ho,Instr.buildSlice,adD fq,sizeOf,typeInfo,hi,Instr.fill,newRow,hz]
 .exact .slice _ [] _ 0 0 0 (λ_=>undef) (ad_ _) (λ_=>rfl) (λi h=>by simp at h) (λi h=>by simp at h) (λk hk=>by simp at hk) (λi h=>by simp at h)
def HO (R:Rel P w0 n U g S H a w) {o:Oper} {xt t:TypeId} {dt:TypeDesc} {i:TypeInfo} {z:Value} {zs:List AV} {x:Operand} {y:cT} {e:aP} (ho:o.op = .typeAssert x xt t true) (hd:∀ t,o.dst=some t→t < n∧¬ U t)
  (ht:P.underlying t=some dt) (Co:∀ms,dt≠.interface ms) (hi:P.info? t=some i) (hz:i.zero=some (.agg z.cells)) (pT:iW z.cells.toList=some zs) (hx:du n x=some y) (hu:∀t∈y.tmps,¬U t)
  (he:aD S H (.assert t (.agg zs) y)=some e):c_ P w0 n U g S H a w o e:=by
 have hv:=R.ev hx hu;simp only[aD]at he;generalize sD:AL.ev S y=q at he hv;generalize mz:a.eval x=c at hv;have Na:=(iE g.Pr w pT).1;have Wd:RD g.Pr w (.agg zs) (.agg z.cells):=.agg _ _ (by simpa using Na.1) Na.2.2 (λi h h'=>by simpa using Na.2.1 i h (by simpa using h'))
 have two:∀(v:AV)(c:Value)(b:Bool),RD g.Pr w v c->RD g.Pr w (.dR [v,.bool b]) (.tuple #[c,.bool b]):=by
  intro v c b h
  refine .dR _ _ rfl λi hi dv=>?_
  match i,hi with
  |0,_=>exact h
  |1,_=>exact .bool b
 cases hv<;>(try cases he;done)
 rename_i h
 cases h<;>simp only at he<;>try cases he
 .rename_i t' v c' h
  refine c_.val R (λt h=>(hd t h).1) (c:=if t'=t then .tuple #[c',.bool true]else .tuple #[.agg z.cells,.bool false]) ?_ (.data _ _ ?_) λ_=>by split<;>trivial
  .unfold execOp;simp only[ho,mz,Instr.typeAssert,adq,adD ht,Result.andThen_ok]
   cases dt<;>first|exact absurd rfl (Co _)|skip
   all_goals (split<;>simp[zeroValue,typeInfo,hi,hz])
  .split
   .exact two _ _ _ h
   .exact two _ _ _ Wd
 .refine c_.val R (λt h=>(hd t h).1) (c:=.tuple #[.agg z.cells,.bool false]) ?_ (.data _ _ (two _ _ _ Wd)) λ_=>trivial
  unfold execOp;simp only[ho,mz,Instr.typeAssert,adq,adD ht,Result.andThen_ok]
  cases dt<;>first|exact absurd rfl (Co _)|skip
  all_goals simp[zeroValue,typeInfo,hi,hz]
end
def vD(k:TypeId->Option Nat):List Field->Nat->Option Nat
 |[],acc=>some acc
 |f::fs,acc=>if f.name = "_" \/ f.offset≠acc then none else
  match k f.type with
  |some m=>vD k fs (acc+m)
  |none=>none
def l_(P:Program):Nat->TypeId->Option Nat
 |0,_=>none
 |d+1,t=>match P.underlying t,P.info? t with
  |some (.int .i64),some i=>if i.size=1 then some 1 else none
  |some (.struct fs),some i=>if P.stoodInHeld t=false/\vD (l_ P d) fs.toList 0=some i.size then some i.size else none
  |_,_=>none
def gm(l:List Int):Array Value:=(l.map (Value.int .i64)).toArray
def od(P:Program)(t:TypeId)(l:List Int):Value:=
 match P.underlying t with
 |some (.int _)=>.int .i64 (l.headD 0)
 |_=>.agg (gm l)
section
variable{P:Program}{w:World}
def Aa {d:Nat} {t:TypeId} {k:Nat} (h:l_ P d t=some k) (l:List Int) (off:Nat) (hl:off+k≤l.length) :
  (part t (gm l) off).run P w=.ok (od P t ((l.drop off).take k)) w:=by
 cases d with
 |zero=>cases h
 |succ d=>
  simp only[l_]at h;split at h
  .rename_i i hu hi
   split at h<;>cases h
   rename_i hs
   have kN:(isAgg t).run P w=.ok false w:=by
    unfold isAgg;rw[adq,adD hu w];simp
   have aq:off<l.length:=zo
   have BV:((l.drop off).take 1).headD 0=l[off]:=by
    rw[afj aq];rfl
   simp only[part,adq,kN,Result.andThen_ok,ads,adH,od,hu,BV];simp[gm,aq]
  .rename_i fs i hu hi
   split at h<;>cases h
   have kN:(isAgg t).run P w=.ok true w:=by
    unfold isAgg;rw[adq,adD hu w];simp
   simp only[part,adq,kN,Result.andThen_ok,adS,od,hu];simp only[sizeOf,typeInfo,adq];simp[gm,ae_,agA,hi]
  .cases h
def NF(a b:List Int)(k:Nat)(h:a.length=b.length):(a==b)=((a.take k==b.take k)&&(a.drop k==b.drop k)):=by
 rw[ad5];simp only[adk,adY]
 constructor
 .rintro rfl;exact⟨rfl,rfl⟩
 .rintro⟨h1,h2⟩;rw[<-aeC k a,<-aeC k b,h1,h2]
def yX {d:Nat} (ih:∀ t k,l_ P d t=some k→∀ a b:List Int,a.length=k→b.length=k→(Op.equalIn d t (od P t a) (od P t b)).run P w = .ok (a==b) w) :
  ∀(fs:List Field)(acc oU:Nat),vD (l_ P d) fs acc=some oU->∀l m:List Int,l.length=oU->m.length=oU->
   acc<=oU/\(Op.eqFields d (gm l) (gm m) fs).run P w=.ok (l.drop acc==m.drop acc) w
 |[],acc,oU,h,l,m,hl,hm=>by
  cases h;refine⟨adl _,?_⟩;have e1:l.drop acc=[]:=aey zo;have e2:m.drop acc=[]:=aey zo;rw[e1,e2];simp[Op.eqFields]
 |f::fs,acc,oU,h,l,m,hl,hm=>by
  simp only[vD]at h;split at h
  case isTrue=>cases h
  rename_i hn;simp only[not_or,ne_eq,af6]at hn;split at h
  case h_2=>cases h
  rename_i k hk;obtain⟨hle,zv⟩:=yX ih fs (acc+k) oU h l m hl hm;refine⟨zo,?_⟩;have e1:=Aa (w:=w) hk l acc zo;have e2:=Aa (w:=w) hk m acc zo;have e3:=ih f.type k hk ((l.drop acc).take k) ((m.drop acc).take k) (by simp;omega) (by simp;omega);simp only[Op.eqFields,ne_eq,hn.1,not_false_eq_true,adS,hn.2,adq,e1,e2,Result.andThen_ok,e3];rw[NF (l.drop acc) (m.drop acc) k (by simp;omega)];rw[afI,afI];generalize((l.drop acc).take k==(m.drop acc).take k)=q
  cases q with
  |false=>simp
  |true=>simpa using zv
def q_:∀(d:Nat)(t:TypeId)(k:Nat),l_ P d t=some k->∀a b:List Int,a.length=k->b.length=k->(Op.equalIn d t (od P t a) (od P t b)).run P w=.ok (a==b) w
 |0,t,k,h,a,b,ha,hb=>by cases h
 |d+1,t,k,h,a,b,ha,hb=>by
  simp only[l_]at h;split at h
  .rename_i i hu hi
   split at h<;>cases h
   match a,ha,b,hb with
   |[x],_,[y],_=>
    simp only[od,hu];rw[run_equalIn_int w d t .i64 .i64 _ _ hu];simp
  .rename_i fs i hu hi
   split at h<;>cases h
   rename_i hc
   have hf:P.fieldsOf t=fs:=by simp[Program.fieldsOf,hu]
   simp only[od,hu];rw[run_equalIn_struct w d t _ _ (by rw[hf];exact hu) hc.1,hf];exact(yX (q_ d) fs.toList 0 i.size hc.2 a b ha hb).2
  .cases h
def qu {Pr:Nat→Nat→Prop}:∀ {xs:List AV} {a:List Int},ku xs=some a→∀ {vs:List Value},xs.length=vs.length →
  (∀i (h:i<xs.length)(h':i<vs.length),RD Pr w xs[i] vs[i])->vs=a.map (Value.int .i64)/\a.length=xs.length
 |[],a,h,vs,hl,hr=>by
  cases h;have:vs=[]:=aeU.1 hl.symm;subst this;exact⟨rfl,rfl⟩
 |x::xs,a,h,vs,hl,hr=>by
  cases vs with
  |nil=>simp at hl
  |cons v vs=>
   unfold ku at h;split at h
   .rename_i e;cases e
   .rename_i n cs e;cases e;simp only[adv]at h;obtain⟨a',ha,rfl⟩:=h;have h0:=hr 0 ahi ahi;simp only[List.getElem_cons_zero]at h0;cases h0;obtain⟨h1,h2⟩:=qu ha (by simpa using hl) (λi h h'=>hr (i+1) (by simpa using h) (by simpa using h'));rw[h1];exact⟨rfl,by simp[h2]⟩
   .cases h
variable{w0:World}{n:Nat}{U:Nat->Prop}{g:Gh}{S:an}{H:ao}{a:Act}
def Fo (R:Rel P w0 n U g S H a w) {o:Oper} {neg:Bool} {k:Nat} {t t':TypeId} {fs:Array Field} {x1 x2:Operand} {y1 y2:cT} {e:aP} (ho:o.op = .binOp (if neg then .neq else .eql) t x1 x2 t') (hd:∀ t,o.dst=some t→t < n∧¬ U t)
  (fq:P.underlying t=some (.struct fs)) (hk:l_ P 10000 t=some k) (CH:P.eqGuardType P.depth t=false) (n_:du n x1=some y1) (mC:du n x2=some y2) (pQ:∀t∈y1.tmps,¬U t) (pS:∀t∈y2.tmps,¬U t)
  (he:aD S H (.eqs neg k y1 y2)=some e):c_ P w0 n U g S H a w o e:=by
 have fp:=R.ev n_ pQ;have fc:=R.ev mC pS;simp only[aD]at he;generalize AL.ev S y1=p1 at he fp;generalize AL.ev S y2=p2 at he fc;generalize kg:a.eval x1=c1 at fp;generalize jB:a.eval x2=c2 at fc;split at he
 case h_2=>cases he
 rename_i xs ys;split at he
 case h_2=>cases he
 rename_i BU bs ha hb
 split at he<;>cases he
 rename_i hlen;have q1:=fp.dW rfl;have q2:=fc.dW rfl;cases q1;rename_i vs hl h1 hr;cases q2;rename_i us rV Ii js;obtain⟨e1,_⟩:=qu (vs:=vs.toList) ha (by simpa using hl) (λi h h'=>by simpa using hr i h (by simpa using h'));obtain⟨e2,_⟩:=qu (vs:=us.toList) hb (by simpa using rV) (λi h h'=>by simpa using js i h (by simpa using h'))
 have f1:vs=gm BU:=by rw[gm,<-e1]
 have f2:us=gm bs:=by rw[gm,<-e2]
 subst f1 f2;have hE:=q_ (P:=P) (w:=w) 10000 t k hk BU bs hlen.1 hlen.2;simp only[od,fq]at hE;have hg:=run_eqGuard_agg w (if neg then .neq else .eql) t x1 x2 (gm BU) (gm bs) CH
 refine c_.val R (λt h=>(hd t h).1) (c:=.bool (if neg then BU !=bs else BU==bs)) ?_ (.data _ _ (.bool _)) λ_=>trivial
 cases neg with
 |true=>
  simp only[adS]at ho hg⊢;simp[execOp,ho,kg,jB,hg,run_neq_struct,hE,bne,adq]
 |false=>
  simp only[ads,adH]at ho hg⊢;simp[execOp,ho,kg,jB,hg,run_eql_struct,hE,adq]
end
section
variable{P:Program}{w0:World}{n:Nat}{U:Nat->Prop}{g:Gh}{S:an}{H:ao}{a:Act}{w:World}
def Im (R:Rel P w0 n U g S H a w) {o:Oper} {t el:TypeId} {len:Nat} {it ie:TypeInfo} {z:Value} {ps:Array (Nat×Operand)} {zs:List AV} {qs:List (Nat×Nat×cT)} {e:aP} (ho:o.op = .build t ps) (hd:∀ t,o.dst=some t→t < n∧¬ U t)
  (hi:P.info? t=some it) (fq:P.underlying t=some (.array len el)) (hz:it.zero=some z) (IK:P.info? el=some ie) (pT:iW z.cells.toList=some zs) (hq:tu n (λi=>some (i*ie.size,ie.size)) ps.toList=some qs)
  (hu:∀q∈qs,∀t∈q.2.2.tmps,¬U t) (he:aD S H (.build (zs.map AV.aJ) qs)=some e):c_ P w0 n U g S H a w o e:=by
 simp only[aD,adv]at he;obtain⟨fU,hc,rfl⟩:=he;have Mh:=(iE g.Pr w pT).1
 have T2:py g.Pr w (zs.map AV.aJ) z.cells:=by
  refine⟨by simpa using Mh.1,λi h h'=>?_,λi h=>?_⟩
  .simp only[adn]at h;have:=(Mh.2.1 i h (by simpa using h')).aJ;simpa using this
  .simp only[adn]at h;have:=Mh.2.2 i h;simp only[adz];exact(AV.pc _).trans this
 obtain⟨ll,h1,h2⟩:=vp R hq hu T2 hc
 have hb:P.built t (ps.map λ(i,x)=>(i,a.eval x)).toList=some ll:=by
  unfold Program.built;simp only[hi,fq,hz,IK,af8];exact h1
 refine c_.val R (λt h=>(hd t h).1) (c:=.agg ll) ?_ (.data _ _ (.agg _ _ h2.1 h2.2.2 h2.2.1)) λ_=>trivial
 unfold execOp;simp only[ho,adq,aho w t _ ll hb,Result.andThen_ok]
 rfl
def Ka {Pr:Nat→Nat→Prop} {ty:TypeId} {i:TypeInfo} {pn:TypeDesc} (hi:P.info? ty=some i) (hu:P.underlying ty=some pn) {cs:List AV} {vs:Array Value} {off:Nat} {v:AV}
  (hr:RD Pr w (.agg cs) (.agg vs)) (he:cb (ef pn) i.size (cs.drop off)=some v):∃c,(part ty vs off).run P w=.ok c w/\RD Pr w v c:=by
 cases hr;rename_i h1 hl hr
 have kN:(isAgg ty).run P w=.ok (ef pn) w:=by
  unfold isAgg;rw[adq,adD hu w]
  cases pn<;>simp[ef]
 generalize ef pn=q at he kN
 cases q with
 |true=>
  simp only[cb,adS,ad0]at he;split at he
  case isFalse=>cases he
  rename_i hle;cases he;refine⟨.agg (vs.extract off (off+i.size)),by simp[part,adq,kN,sizeOf,typeInfo,hi],?_⟩
  refine .agg _ _ (by simp;omega) (λk hk=>?_) λk hk cE=>?_
  .simp only[adn,adA,ad0]at hk;simp only[adz,afE,aeG];have:=h1 (off+k) zo;exact(AV.pc _).trans this
  .simp only[adn,adA,ad0]at hk;have:=(hr (off+k) zo zo).aJ;simpa using this
 |false=>
  simp only[cb,ads,adH,adv]at he;obtain⟨v0,Va,rfl⟩:=he;simp only[afw,Nat.add_zero]at Va;obtain⟨h0,rfl⟩:=adG.1 Va
  have hv:off<vs.size:=zo
  exact⟨vs[off],by simp[part,adq,kN,hv],(hr off h0 hv).aJ⟩
def Hg (R:Rel P w0 n U g S H a w) {o:Oper} {t el:TypeId} {len:Nat} {ie:TypeInfo} {pn:TypeDesc} {x1 x2:Operand} {y1 y2:cT} {e:aP} (ho:o.op = .index t x1 x2) (hd:∀ t,o.dst=some t→t < n∧¬ U t)
  (fq:P.underlying t=some (.array len el)) (hi:P.info? el=some ie) (Z9:P.underlying el=some pn) (n_:du n x1=some y1) (mC:du n x2=some y2) (pQ:∀t∈y1.tmps,¬U t) (pS:∀t∈y2.tmps,¬U t)
  (he:aD S H (.mK (ef pn) len ie.size y1 y2)=some e):c_ P w0 n U g S H a w o e:=by
 have fp:=R.ev n_ pQ;have fc:=R.ev mC pS;simp only[aD]at he;generalize AL.ev S y1=p1 at he fp;generalize AL.ev S y2=p2 at he fc;generalize kg:a.eval x1=c1 at fp;generalize jB:a.eval x2=c2 at fc;split at he
 case h_2=>cases he
 rename_i cs k;split at he
 case isFalse=>cases he
 rename_i hk;simp only[adv]at he;obtain⟨v,hv,rfl⟩:=he;have q1:=fp.dW rfl;have q2:=fc.dW rfl;cases q2;have q1':=q1;cases q1;obtain⟨c,h1,h2⟩:=Ka (P:=P) hi Z9 q1' hv
 refine c_.val R (λt h=>(hd t h).1) (c:=c) ?_ (.data _ _ h2) λ_=>?_
 .simp only[execOp,ho,kg,jB,Instr.index,adq];simp[asIntOf,adD fq,hk,sizeOf,typeInfo,hi,adq,h1]
 .simp only[cb]at hv;split at hv
  .split at hv<;>cases hv;trivial
  .simp only[adv]at hv;obtain⟨u,_,rfl⟩:=hv;exact gW _ _ _
def AN{Pr:Nat->Nat->Prop}:∀{es:List AV}{l:List UInt8},bytesOf es=some l->l.length=es.length/\∀j (h:j<es.length)(h':j<l.length),es[j]=.int .u8 (l[j].toNat:Int)
 |[],l,h=>by cases h;exact⟨rfl,λj h=>by simp at h⟩
 |x::es,l,h=>by
  unfold bytesOf at h;split at h
  .rename_i e;cases e
  .rename_i m cs e;cases e;split at h
   case isFalse=>cases h
   rename_i hm;simp only[adv]at h;obtain⟨l',hl,rfl⟩:=h;obtain⟨h1,h2⟩:=AN (Pr:=Pr) hl;refine⟨by simp[h1],λj hj dU=>?_⟩
   cases j with
   |zero=>
    simp only[List.getElem_cons_zero]
    have:((UInt8.ofNat m.toNat).toNat:Int)=m:=by
     have h3:m.toNat<256:=zo
     simp[UInt8.toNat_ofNat',Nat.mod_eq_of_lt h3];omega
    rw[this]
   |succ j=>simpa using h2 j (by simpa using hj) (by simpa using dU)
  .cases h
def NC (R:Rel P w0 n U g S H a w) {o:Oper} {s d el:TypeId} {x:Operand} {y:cT} {e:aP} (ho:o.op = .convert s d x) (hd:∀ t,o.dst=some t→t < n∧¬ U t)
  (hs:P.underlying s=some (.slice el)) (CY:P.underlying el=some (.int .u8)) (DK:P.underlying d=some .string) (hx:du n x=some y) (hu:∀t∈y.tmps,¬U t)
  (he:aD S H (.yJ y)=some e):c_ P w0 n U g S H a w o e:=by
 have hv:=R.ev hx hu;simp only[aD]at he;generalize AL.ev S y=p at he hv;generalize hc:a.eval x=c at hv;split at he
 case h_2=>cases he
 rename_i ow es;simp only[adv]at he;obtain⟨l,hl,rfl⟩:=he;obtain⟨hlen,ib⟩:=AN (Pr:=g.Pr) hl;have q:=hv.dW rfl
 cases q with
 |iB=>
  have:l=[]:=aeU.1 (by simpa using hlen);subst this
  refine c_.val R (λt h=>(hd t h).1) (c:=.string ByteArray.empty) ?_ (.data _ _ (.str [])) λ_=>trivial
  simp[execOp,ho,hc,run_convert_bytes_nil w s el hs CY 0 0 d DK]
 |jx _ a0=>
  have:l=[]:=aeU.1 (by simpa using hlen);subst this
  refine c_.val R (λt h=>(hd t h).1) (c:=.string ByteArray.empty) ?_ (.data _ _ (.str [])) λ_=>trivial
  have Qn:(convert s d (.slice (some a0) 0 0)).run P w=.ok (.string ByteArray.empty) w:=by
   rw[run_convert_bytes_string w s d el _ 0 0 hs CY DK];simp[Conv.bytesToString,loadCells,loadCellsFrom]
  simp[execOp,ho,hc,Qn]
 |slice _ _ b off cap size cs fh uv bj h1 eV hr=>
  refine c_.val R (λt h=>(hd t h).1) (c:=.string ⟨l.toArray⟩) ?_ (.data _ _ (.str l)) λ_=>trivial
  have Qn:=run_convert_bytes_back (P:=P) w s d el ⟨b,off,none⟩ cap l hs CY DK (λj hj=>by
   have dU:j<es.length:=zo
   have e1:=ib j dU hj;have xB:=bj j dU
   have kJ:(es[j]).cells.length=1:=by rw[e1];rfl
   have WL:size=1:=by rw[<-xB,kJ]
   subst WL;have h2:=eV j zo;have h3:=hr j dU 0 (by rw[kJ];omega)
   have h4:(es[j]).cells[0]'(by rw[kJ];omega)=.int .u8 (l[j].toNat:Int):=by
    have:∀(v:AV)(hh:0<v.cells.length)(q:AV),v=q->(h':0<q.cells.length)->v.cells[0]=q.cells[0]:=by rintro v hh q rfl _;rfl
    rw[this _ _ _ e1 (by simp[AV.cells])]
    rfl
   rw[h4]at h3;simp only[ae4,Nat.add_zero]at h3;rw[aei,h2.2];generalize cs j=u at h3;cases h3
   rfl)
  rw[hlen]at Qn;simp[execOp,ho,hc,Qn]
end
section
variable{P:Program}{w:World}
def ue{α:Type}(f:α->PUnit->Sem (ForInStep PUnit)):∀(l:List α),(∀x∈l,(f x PUnit.unit).run P w=.ok (ForInStep.yield PUnit.unit) w)->(forIn l PUnit.unit f:Sem PUnit).run P w=.ok PUnit.unit w
 |[],_=>ahi
 |x::l,h=>by
  simp only[List.forIn_cons,adq,h x adx,Result.andThen_ok]
  exact ue f l λy hy=>h y (adu _ hy)
def AM{k:TypeId->Option Nat}:∀{fs:List Field}{acc oU:Nat},vD k fs acc=some oU->acc<=oU/\∀f∈fs,∃m,k f.type=some m/\f.offset+m<=oU
 |[],acc,oU,h=>by cases h;exact⟨adl _,λ_ h=>by cases h⟩
 |f::fs,acc,oU,h=>by
  simp only[vD]at h;split at h
  case isTrue=>cases h
  rename_i hn;simp only[not_or,ne_eq,af6]at hn;split at h
  case h_2=>cases h
  rename_i m hm;obtain⟨h1,h2⟩:=AM h;refine⟨zo,λf' uA=>?_⟩;rcases adT.1 uA with rfl|uA
  .exact⟨m,hm,zo⟩
  .exact h2 f' uA
def vu(b:Bool):∀(d:Nat)(t:TypeId)(k:Nat),l_ P d t=some k->∀a:List Int,a.length=k->(Instr.checkKey b d t (od P t a)).run P w=.ok () w
 |0,t,k,h,a,ha=>by cases h
 |d+1,t,k,h,a,ha=>by
  simp only[l_]at h;split at h
  .rename_i i hu hi;simp[Instr.checkKey,adD hu,od,hu]
  .rename_i fs i hu hi
   split at h<;>cases h
   rename_i hc;obtain⟨_,hm⟩:=AM hc.2;simp only[Instr.checkKey,adq,adD hu,Result.andThen_ok,od,hu];rw[<-Array.forIn_toList];rw[ue (P:=P) (w:=w)]
   .simp
   .intro f hf;obtain⟨m,h1,h2⟩:=hm f hf;rw[Sem.run_ite];split
    .simp only[adq,Aa (w:=w) h1 a f.offset zo,Result.andThen_ok,vu b d f.type m h1 ((a.drop f.offset).take m) (by simp;omega),Sem.run_pure]
    .simp
  .cases h
def lM {kt:TypeId} {fs:Array Field} {k:Nat} (hu:P.underlying kt=some (.struct fs)) (hk:l_ P 10000 kt=some k) {Pr:Nat→Nat→Prop} (key:List Int) (hl:key.length=k) :
  ∀(ks vs:List AV)(es:List MapEntry)(i:Nat)(r:Option AV),ks.length=es.length->vs.length=es.length->(∀j (h:j<ks.length)(h':j<es.length),RD Pr w ks[j] (es[j]).key)->(∀j (h:j<vs.length)(h':j<es.length),RD Pr w vs[j] (es[j]).val)->
   oD key ks vs=some r->∃q,(Instr.findAsking kt (.agg (gm key)) es i).run P w=.ok q w/\(match r,q with
    |none,none=>True
    |some v,some (_,c)=>RD Pr w v c
    |_,_=>False)
 |[],vs,es,i,r,h1,h2,_,_,h=>by
  have:es=[]:=aeU.1 h1.symm;subst this;cases h;exact⟨none,by simp[Instr.findAsking],trivial⟩
 |kk::ks,vs,[],i,r,h1,_,_,_,_=>by simp at h1
 |kk::ks,[],e::es,i,r,_,h2,_,_,_=>by simp at h2
 |kk::ks,v::vs,e::es,i,r,h1,h2,hr,js,h=>by
  unfold oD at h;split at h
  .rename_i e1;cases e1
  .rename_i c ks' v' ll e1 e2;cases e1;cases e2;split at h
   case h_2=>cases h
   rename_i m hm;split at h
   case isTrue=>cases h
   rename_i Rh;simp only[ne_eq,af6]at Rh;have h0:=hr 0 ahi ahi;simp only[List.getElem_cons_zero]at h0;have MD:=h0;generalize hek:e.key=ek at h0;cases h0;rename_i us h3 h4 h5;obtain⟨e3,_⟩:=qu (vs:=us.toList) hm (by simpa using h3) (λi h h'=>by simpa using h5 i h (by simpa using h'))
   have f1:us=gm m:=by rw[gm,<-e3]
   have hE:=q_ (P:=P) (w:=w) 10000 kt k hk key m hl zo;simp only[od,hu]at hE;rw[<-f1]at hE
   have hE':(Op.equal kt (.agg (gm key)) e.key).run P w=.ok (key==m) w:=by rw[hek];exact hE
   split at h
   .rename_i hb;cases h;exact⟨some (i,e.val),by simp[Instr.findAsking,hE',hb],js 0 ahi ahi⟩
   .rename_i hb;obtain⟨q,q1,q2⟩:=lM hu hk key hl ks vs es (i+1) r (by simpa using h1) (by simpa using h2) (λj h h'=>hr (j+1) (by simpa using h) (by simpa using h')) (λj h h'=>js (j+1) (by simpa using h) (by simpa using h')) h;exact⟨q,by simp[Instr.findAsking,hE',hb,q1],q2⟩
  .cases h
variable{w0:World}{n:Nat}{U:Nat->Prop}{g:Gh}{S:an}{H:ao}{a:Act}
def Ha (R:Rel P w0 n U g S H a w) {o:Oper} {t kt el:TypeId} {fs:Array Field} {k:Nat} {ie:TypeInfo} {z:Value} {zs:List AV} {x1 x2:Operand} {y1 y2:cT} {e:aP} (ho:o.op = .lookup t x1 x2 true) (hd:∀ t,o.dst=some t→t < n∧¬ U t)
  (fq:P.underlying t=some (.map kt el)) (hu:P.underlying kt=some (.struct fs)) (hk:l_ P 10000 kt=some k) (hi:P.info? el=some ie) (hz:ie.zero=some (.agg z.cells)) (pT:iW z.cells.toList=some zs)
  (n_:du n x1=some y1) (mC:du n x2=some y2) (pQ:∀t∈y1.tmps,¬U t) (pS:∀t∈y2.tmps,¬U t)
  (he:aD S H (.lookup k (.agg zs) y1 y2)=some e):c_ P w0 n U g S H a w o e:=by
 have fp:=R.ev n_ pQ;have fc:=R.ev mC pS;simp only[aD]at he;generalize AL.ev S y1=p1 at he fp;generalize AL.ev S y2=p2 at he fc;generalize kg:a.eval x1=c1 at fp;generalize jB:a.eval x2=c2 at fc;have Na:=(iE g.Pr w pT).1;have Wd:RD g.Pr w (.agg zs) (.agg z.cells):=.agg _ _ (by simpa using Na.1) Na.2.2 (λi h h'=>by simpa using Na.2.1 i h (by simpa using h'))
 have two:∀(v:AV)(c:Value)(b:Bool),RD g.Pr w v c->RD g.Pr w (.dR [v,.bool b]) (.tuple #[c,.bool b]):=by
  intro v c b h
  refine .dR _ _ rfl λi hi dv=>?_
  match i,hi with
  |0,_=>exact h
  |1,_=>exact .bool b
 split at he
 case h_2=>cases he
 rename_i ks vs c;split at he
 case h_2=>cases he
 rename_i key aaK;split at he
 case isFalse=>cases he
 rename_i hl;have q2:=fc.dW rfl;cases q2;rename_i us h3 h4 h5;obtain⟨e3,_⟩:=qu (vs:=us.toList) aaK (by simpa using h3) (λi h h'=>by simpa using h5 i h (by simpa using h'))
 have f1:us=gm key:=by rw[gm,<-e3]
 subst f1
 have yk:(match P.underlying kt with|some (.array _ _)|some (.struct _)=>true|_=>false)=true:=by rw[hu]
 have q1:=fp.dW rfl
 obtain ⟨es,nV,Sp,kB,C3,hk4⟩:∃ es:Array MapEntry,(∀ K:Array MapEntry→Sem Value,((do
    let es<-match c1 with
     |.map none=>pure #[]
     |.map (some r)=>do
      let .map es _ <-getObj r | stuck "Lookup: map expected"
      pure es
     |_=>stuck "Lookup: map expected"
    K es):Sem Value).run P w=(K es).run P w)/\ks.length=es.size/\vs.length=es.size/\(∀j (h:j<ks.length)(h':j<es.size),RD g.Pr w ks[j] (es[j]).key)/\(∀j (h:j<vs.length)(h':j<es.size),RD g.Pr w vs[j] (es[j]).val):=by
  cases q1 with
  |map _ _ b es clock hb hm hk hv hr js=>
   exact⟨es,λK=>by simp[adq,afA hm],hk,hv,hr,js⟩
  |ui=>exact⟨#[],λK=>ahi,rfl,rfl,λj h=>by simp at h,λj h=>by simp at h⟩
 have y9:=vu (P:=P) (w:=w) es.isEmpty 10000 kt k hk key hl;simp only[od,hu]at y9
 have main:∀ r,oD key ks vs=some r→(execOp a.eval o).run P w = .ok (.value (match r with | some _ => .tuple #[(match (Instr.findAsking kt (.agg (gm key)) es.toList 0).run P w with | .ok (some (_,c)) _=>c | _=>undef),.bool true] | none => .tuple #[.agg z.cells,.bool false])) w ∧
   (∀v,r=some v->RD g.Pr w v (match(Instr.findAsking kt (.agg (gm key)) es.toList 0).run P w with|.ok (some (_,c)) _=>c|_=>undef)):=by
  intro r hr;obtain⟨q,q1,q2⟩:=lM (w:=w) (Pr:=g.Pr) hu hk key hl ks vs es.toList 0 r (by simpa using Sp) (by simpa using kB) (λj h h'=>by simpa using C3 j h (by simpa using h')) (λj h h'=>by simpa using hk4 j h (by simpa using h')) hr;have xp:=(run_findKey_eq (P:=P) (w:=w) yk (.agg (gm key)) es.toList).trans q1
  have dz:(Instr.lookup t c1 (.agg (gm key)) true).run P w=.ok (match q with|some (_,v)=>.tuple #[v,.bool true]|none=>.tuple #[.agg z.cells,.bool false]) w:=by
   unfold Instr.lookup;simp only[adq,adD fq,Result.andThen_ok]
   have:=nV (λes=>do
    Instr.checkKey es.isEmpty 10000 kt (.agg (gm key))
    let(v,ok)<-match<-Instr.findKey kt (.agg (gm key)) es.toList with
     |some (_,v)=>pure (v,true)
     |none=>pure (<-zeroValue el,false)
    pure (if true=true then .tuple #[v,.bool ok]else v))
   simp only[adq]at this;refine this.trans ?_;simp only[y9,Result.andThen_ok,xp]
   cases q with
   |none=>simp[zeroValue,typeInfo,hi,hz]
   |some p=>simp
  refine⟨?_,?_⟩
  .unfold execOp;simp only[ho,kg,jB,adq,dz,Result.andThen_ok,q1]
   cases r<;>cases q<;>first|exact q2.elim|rfl
  .rintro v rfl;rw[q1]
   cases q with
   |none=>exact q2.elim
   |some p=>exact q2
 split at he
 .rename_i v hv;cases he;obtain⟨m1,m2⟩:=main _ hv
  exact c_.val R (λt h=>(hd t h).1) m1 (.data _ _ (two _ _ _ (m2 v rfl).aJ)) λ_=>trivial
 .rename_i hv;cases he;obtain⟨m1,m2⟩:=main _ hv
  exact c_.val R (λt h=>(hd t h).1) m1 (.data _ _ (two _ _ _ Wd)) λ_=>trivial
 .cases he
end
section
variable{P:Program}{w0:World}{n:Nat}{U:Nat->Prop}{g:Gh}{S:an}{H:ao}{a:Act}{w:World}
def PZ{Pr:Nat->Nat->Prop}{al:Nat->Option Nat}{v:AV}{c:Value}(h:RV Pr al w v c)(hf:Bg v=true):c.cells=#[c]:=by
 cases h with
 |data v c h=>
  cases h with
  |val c hc=>cases c<;>first|rfl|cases hc
  |_=>cases hf
 |func=>rfl
 |box=>cases hf
 |gJ=>cases hf
 |bo=>cases hf
def ID (R:Rel P w0 n U g S H a w) {o:Oper} {t el:TypeId} {len:Nat} {it ie:TypeInfo} {z:Value} {ps:Array (Nat×Operand)} {xs:List Operand} {ys:List cT} {e:aP} (ho:o.op = .build t ps) (hd:∀ t,o.dst=some t→t < n∧¬ U t)
  (hi:P.info? t=some it) (fq:P.underlying t=some (.array len el)) (hz:it.zero=some z) (IK:P.info? el=some ie) (hs:ie.size=1) (pT:z.cells.size=xs.length)
  (kh:ps.toList=(xs.zipIdx 0).map λx=>(x.2,x.1)) (hx:pL n xs=some ys) (hu:∀y∈ys,∀t∈y.tmps,¬U t) (he:aD S H (.oQ ys)=some e):c_ P w0 n U g S H a w o e:=by
 simp only[aD]at he;split at he
 case isFalse=>cases he
 rename_i eF;cases he;simp only[adw]at eF;obtain⟨l1,r1⟩:=R.JM hx hu
 have eV:∀j (h:j<xs.length),(a.eval xs[j]).cells=#[a.eval xs[j]]:=λj h=>
  PZ (r1 j zo h) (eF _ (adF.2 ⟨_,adi zo,rfl⟩))
 have Nh:=Great.fill_whole (s:=1) zo (xs.map a.eval) z.cells (λv hv=>by
  obtain⟨x,hx,rfl⟩:=adF.1 hv;obtain⟨j,hj,rfl⟩:=ad7 hx
  rw[eV j hj];rfl) (by simp[pT])
 have Gt:(ps.map λ(i,x)=>(i,a.eval x)).toList=((xs.map a.eval).zipIdx 0).map λx=>(x.2,x.1):=by
  rw[af8,kh];simp[List.zipIdx_map]
 have OG:((xs.map a.eval).flatMap λv=>v.cells.toList)=xs.map a.eval:=by
  have:∀l:List Operand,(∀x∈l,(a.eval x).cells=#[a.eval x])->((l.map a.eval).flatMap λv=>v.cells.toList)=l.map a.eval:=by
   intro l
   induction l with
   |nil=>intro _;rfl
   |cons x l ih=>intro h;simp only[ady,aeD,h x adx,ih λy hy=>h y (adu _ hy)];rfl
  exact this xs λx hx=>by obtain⟨j,hj,rfl⟩:=ad7 hx;exact eV j hj
 have hb:P.built t (ps.map λ(i,x)=>(i,a.eval x)).toList=some (xs.map a.eval).toArray:=by
  unfold Program.built;simp only[hi,fq,hz,IK,hs];rw[Gt,Nh,OG]
 refine c_.val R (λt h=>(hd t h).1) (c:=.agg (xs.map a.eval).toArray) ?_ (.gJ _ _ (by simp[l1]) (λi h h'=>?_)) λ_=>trivial
 .unfold execOp;simp only[ho,adq,aho w t _ _ hb,Result.andThen_ok]
  rfl
 .simp only[adn]at h;have:=r1 i h (by simpa using h');simpa using this
def HJ (R:Rel P w0 n U g S H a w) {o:Oper} {t el:TypeId} {len:Nat} {ie:TypeInfo} {pn:TypeDesc} {x1 x2:Operand} {y1 y2:cT} {e:aP} (ho:o.op = .index t x1 x2) (hd:∀ t,o.dst=some t→t < n∧¬ U t)
  (fq:P.underlying t=some (.array len el)) (hi:P.info? el=some ie) (hs:ie.size=1) (Z9:P.underlying el=some pn) (ZW:ef pn=false) (n_:du n x1=some y1) (mC:du n x2=some y2) (pQ:∀t∈y1.tmps,¬U t) (pS:∀t∈y2.tmps,¬U t)
  (he:aD S H (.oP len y1 y2)=some e):c_ P w0 n U g S H a w o e:=by
 have fp:=R.ev n_ pQ;have fc:=R.ev mC pS;simp only[aD]at he;generalize AL.ev S y1=p1 at he fp;generalize AL.ev S y2=p2 at he fc;generalize kg:a.eval x1=c1 at fp;generalize jB:a.eval x2=c2 at fc;split at he
 case h_2=>cases he
 rename_i fs k;split at he
 case isFalse=>cases he
 rename_i hk;split at he
 case h_2=>cases he
 rename_i v hv;split at he
 case isFalse=>cases he
 rename_i hf;cases he;obtain⟨h0,rfl⟩:=adG.1 hv;have q2:=fc.dW rfl;cases q2
 cases fp with
 |data _ _ hh=>cases hh
 |gJ _ vs h1 hr=>
  have aq:k.toNat<vs.size:=zo
  have kN:(isAgg el).run P w=.ok false w:=by
   unfold isAgg;rw[adq,adD Z9 w]
   cases pn<;>simp[ef]at ZW⊢
  refine c_.val R (λt h=>(hd t h).1) (c:=vs[k.toNat]) ?_ (hr _ h0 aq) λ_=>?_
  .simp only[execOp,ho,kg,jB,Instr.index,adq];simp[asIntOf,adD fq,hk,sizeOf,typeInfo,hi,hs,adq,part,kN,aq]
  .generalize fs[k.toNat]=u at hf
   cases u<;>first|trivial|cases hf
def xH{v:AV}(h:v.one=true):v.cells=[v]:=by
 cases v<;>first|rfl|cases h
def GQ (R:Rel P w0 n U g S H a w) {o:Oper} {t el:TypeId} {len:Nat} {i:TypeInfo} {x:Operand} {y:cT} {e:aP} (ho:o.op = .slice t x none none none) (hd:∀ t,o.dst=some t→t < n∧¬ U t)
  (fq:P.underlying t=some (.array len el)) (LS:P.info? el=some i) (hx:du n x=some y) (hu:∀t∈y.tmps,¬U t)
  (he:aD S H (.pP len y)=some e):c_ P w0 n U g S H a w o e:=by
 have hv:=R.ev hx hu;simp only[aD]at he;generalize sD:AL.ev S y=q at he hv;generalize mz:a.eval x=c at hv;split at he
 case h_2=>cases he
 rename_i cs;split at he
 case isFalse=>cases he
 rename_i hlen;cases he;have q2:=hv.dW rfl
 cases q2 with
 |ref _ b off vs h1 hc hr=>
  have hk:(execOp a.eval o).run P w=.ok (.value (.slice (some ⟨b,off,none⟩) len len)) w:=by
   unfold execOp;simp only[ho,mz,Option.map_none,Instr.sliceAt,adq,adD fq]
   by_cases h0:len=0
   .subst h0;simp[Instr.sureAddr,Instr.sliceBounds,adq,sizeOf,typeInfo,LS]
   .simp[Instr.sureAddr,Instr.sliceBounds,adq,sizeOf,typeInfo,LS,Addr.add]
  refine c_.val R (λt h=>(hd t h).1) hk (.data _ _ ?_) λ_=>trivial
  rw[<-hlen];refine .slice .view cs b off cs.length 1 vs (adl _) (λh=>by cases h) (λi h=>by rw[xH (h1 i h)];rfl) (λi h j hj=>?_) (λk hk=>hc k zo) (λi h j hj=>?_)
  .have e:=xH (h1 i h)
   have:((cs[i]).cells[j])=cs[i]:=by
    have dU:j<[cs[i]].length:=by rw[<-e];exact hj
    have:j=0:=by simp at dU;omega
    subst this;simp only[e];rfl
   rw[this];exact h1 i h
  .have e:=xH (h1 i h)
   have dU:j<[cs[i]].length:=by rw[<-e];exact hj
   have CJ:j=0:=by simp at dU;omega
   subst CJ
   have:((cs[i]).cells[0])=cs[i]:=by simp only[e];rfl
   rw[this,ae4,Nat.add_zero];exact hr i h
def MH(P:Program)(name:String)(t:TypeId):Option Nat:=
 match P.info? t with
 |some i=>match P.underlying t with
  |some (.struct _)=>match i.methods.find? (·.name==name)with
   |some m=>if m.path.isEmpty=true then match m.func with
    |some (f,false)=>some f
    |_=>none
    else none
   |none=>none
  |_=>none
 |none=>none
def KY(P:Program)(name:String):List (TypeId×Nat):=(List.range P.types.size).filterMap λt=>(MH P name t).map λk=>(t,k)
def BJ{t k:Nat}:∀{l:List (Nat×Nat)},l.lookup t=some k->(t,k)∈l
 |[],h=>by cases h
 |(a,b)::l,h=>by
  rw[List.lookup_cons]at h;split at h
  .rename_i he;cases h;simp only[adY]at he;subst he;exact adx
  .exact adu _ (BJ h)
def OH{P:Program}{name:String}{t k:Nat}(h:(KY P name).lookup t=some k):MH P name t=some k:=by
 have h1:=BJ h;simp only[KY,afd,adv,afO]at h1;obtain⟨a,_,b,h2,rfl,rfl⟩:=h1;exact h2
def KI{P:Program}{name:String}{t k:Nat}{v:Value}{w:World}(h:(KY P name).lookup t=some k):(method (P.types.size+Made.depth) t v name).run P w=.ok (k,v) w:=by
 have h:=OH h;unfold MH at h;split at h
 case h_2=>cases h
 rename_i i hi;split at h
 case h_2=>cases h
 rename_i fs fq;split at h
 case h_2=>cases h
 rename_i m hm;split at h
 case isFalse=>cases h
 rename_i hp;split at h
 case h_2=>cases h
 rename_i f hf;cases h;show(method (P.types.size+99+1) t v name).run P w=_
 have vl:m.path.toList=[]:=by simpa using hp
 generalize P.types.size+99=d;simp[method,typeInfo,hi,hm,vl,hf,follow,receiverAt,adD fq,Place.get,adq]
end
inductive iJ where
 |ret (v:AV)|panic (v:AV)
def pK(base:Nat)(old:Nat->Nat->Prop)(hi:Nat->Nat)(b k:Nat):Prop:=(b<base/\old b k)\/(base<=b/\k<hi b)
def yl(P:Program)(base:Nat)(hi:Nat->Nat)(w:World):AV->Value->Prop
 |.slice (.own e) es,c=>∃i xs b,P.info? e=some i/\w.ownsRow base e i.size c es.length xs/\c.ownBlock=some b/\hi b=es.length*i.size
 |_,_=>True
def Ends(P:Program)(old:Nat->Nat->Prop)(w:World)(out:iJ)(e:Ending)(w':World):Prop:=
 Below w.heap.size w w'/\∃hi:Nat->Nat,(∀b,w'.heap.size<=b->hi b=0)/\
  match out with
  |.ret v=>∃c,e=.returned c/\RV (pK w.heap.size old hi) (λ_=>none) w' v c/\yl P w.heap.size hi w' v c
  |.panic v=>∃c,e=.panicked [{ v:=c,recovered:=false }]/\RD (pK w.heap.size old hi) w' v c
def AC(P:Program)(GI:World->Prop)(f:Nat)(args:List AV)(out:iJ):Prop:=
 ∀(w:World)(old:Nat->Nat->Prop)(bP:Array Value),GI w->args.length=bP.size->
  (∀i (h:i<args.length)(h':i<bP.size),RV old (λ_=>none) w args[i] bP[i])->Calls P f bP w (Ends P old w out)
def gZ(H:ao):AV->AV
 |.box i off=>match H i with|some cs=>.ref ((cs.drop off).map AV.cI)|none=>.bo
 |.func ..|.gJ _=>.bo
 |v=>v.vw
def fz(H:ao):AV->AV
 |.func fn first cap=>.func fn (first.map (gZ H)) (cap.map (gZ H))
 |v=>gZ H v
def rE:AV->Bool
 |.box ..=>true
 |_=>false
def cW:AV->Bool
 |.box ..=>true
 |.func _ first cap=>first.any rE||cap.any rE
 |_=>false
def iG:AV->Bool
 |.bool _|.l4|.int ..|.str _=>true
 |_=>false
def wO:AV->Bool
 |.dR vs=>vs.all iG
 |v=>iG v
def iJ.wO:iJ->Bool
 |.ret v=>Go.AL.wO v
 |.panic _=>false
def NA{v:AV}(h:wO v=true):v.cg=true:=by cases v<;>first|rfl|cases h
def RD.iG{Pr eS:Nat->Nat->Prop}{w w':World}{v:AV}{c:Value}(h:RD Pr w v c)(hs:Go.AL.iG v=true):RD eS w' v c:=by
 cases h<;>first|(cases hs;done)|constructor
def RD.wO{Pr eS:Nat->Nat->Prop}{w w':World}{v:AV}{c:Value}(h:RD Pr w v c)(hs:Go.AL.wO v=true):RD eS w' v c:=by
 cases h with
 |dR cs vs hl hr=>exact .dR cs vs hl λi h h'=>(hr i h h').iG (by simp only[Go.AL.wO,adw]at hs;exact hs _ (adi h))
 |bool b=>exact .bool b
 |l4 b=>exact .l4 b
 |int k n=>exact .int k n
 |str l=>exact .str l
 |_=>cases hs
section
variable{P:Program}{w0:World}{n:Nat}{U:Nat->Prop}{g:Gh}{S:an}{H:ao}{a:Act}{w:World}
def fC(g:Gh)(bx:Bool)(b k:Nat):Prop:=g.Pr b k\/(bx=true/\∃i,g.al i=some b)
def Rel.gZ(R:Rel P w0 n U g S H a w){v:AV}{c:Value}(h:RV g.Pr g.al w v c)(bx:Bool)(hb:rE v=true->bx=true):RV (fC g bx) (λ_=>none) w (Go.AL.gZ H v) c:=by
 have rA:∀{v c},RD g.Pr w v c->RD (fC g bx) w v c:=λh=>h.mono (bf.same λb k _ hp=>.inl hp)
 cases h with
 |data v c h=>
  have hd:=(rA h).vw
  have:Go.AL.gZ H v=v.vw:=by cases h<;>rfl
  rw[this];exact .data _ _ hd
 |box i off b jC=>
  obtain⟨cs,vs,ty,k1,k2,k3,k4,k5,k6,k7,k8,k9⟩:=R.box i b jC;simp only[Go.AL.gZ,k1];have bW:bx=true:=hb rfl;refine .data _ _ (.ref _ _ _ (λk=>vs.getD (off+k) undef) (λk hk=>?_) (λk hk=>?_) λk hk=>?_)
  .simp only[adn,ad0]at hk;simp only[adz,aeG];have:=k9 (off+k) zo;exact(AV.SB _).trans this
  .simp only[adn,ad0]at hk
   have:off+k<vs.size:=zo
   exact⟨.inr ⟨bW,i,jC⟩,by simp[World.cell?,k3,this]⟩
  .simp only[adn,ad0]at hk
   have aq:off+k<vs.size:=zo
   have:=(rA (k7 (off+k) zo aq)).cI;simpa[aq]using this
 |func=>exact .bo _
 |gJ=>exact .bo _
 |bo c=>exact .bo c
def Rel.fz(R:Rel P w0 n U g S H a w){v:AV}{c:Value}(h:RV g.Pr g.al w v c)(bx:Bool)(hb:cW v=true->bx=true):RV (fC g bx) (λ_=>none) w (Go.AL.fz H v) c:=by
 have h0:=h
 cases h with
 |func fn first cap vs us h1 h2 r1 r2=>
  simp only[cW,aeE,aeK]at hb;refine .func fn _ _ _ _ (by simpa using h1) (by simpa using h2) (λi hi dv=>?_) (λi hi dv=>?_)
  .simp only[adn]at hi;simp only[adz]
   exact R.gZ (r1 i hi dv) bx λhx=>hb (.inl ⟨_,adi hi,hx⟩)
  .simp only[adn]at hi;simp only[adz]
   exact R.gZ (r2 i hi dv) bx λhx=>hb (.inr ⟨_,adi hi,hx⟩)
 |data v c h=>
  have:Go.AL.fz H v=Go.AL.gZ H v:=by cases h<;>rfl
  rw[this];exact R.gZ h0 bx λhx=>hb (by cases v<;>first|rfl|cases hx)
 |box=>exact R.gZ h0 bx hb
 |gJ=>exact .bo _
 |bo c=>exact .bo c
def Rel.call (R:Rel P w0 n U g S H a w) (d:Option Nat) (hd:∀ t,d=some t→t < n∧¬ U t) (bx:Bool) {v:AV} {c:Value} {w':World} {hi:Nat→Nat} (hb:Below w.heap.size w w')
  (oL:∀b,w'.heap.size<=b->hi b=0) (hr:RV (pK w.heap.size (fC g bx) hi) (λ_=>none) w' v c) (cV:yl P w.heap.size hi w' v c) (bW:bx=true->wO v=true):
  ∃g',g'.base=g.base/\g'.old=g.old/\Rel P w0 n U g' (Go.AL.aX S d v) H (a.put d c) w':=by
 have hle:g.base<=w.heap.size:=by rw[R.base];exact R.below.size
 let own:Nat->Option Loc:=λb=>match c.ownBlock,d with
  |some b',some t=>if b=b' then some (.slot t)else none
  |_,_=>none
 let g':Gh:={ g with hi:=λb=>if b<w.heap.size then g.hi b else hi b,owner:=λb=>if b<w.heap.size then g.owner b else if b<w'.heap.size then own b else none }
 have R':Rel P w0 n U g' S H a w':=R.grow (g':=g') hb rfl rfl rfl
  (λb hb=>⟨if_pos hb,if_pos hb⟩)
  (λb lS=>by
   have:=hb.size
   exact⟨(if_neg zo).trans (oL b lS),(if_neg zo).trans (if_neg zo)⟩)
 refine⟨g',rfl,rfl,R'.aX d v c (λt h=>(hd t h).1) ?_ ?_⟩
 .cases bx with
  |true=>exact .data _ _ ((hr.dW (NA (bW rfl))).wO (bW rfl))
  |false=>
   refine hr.mono (bf.same λb k _ hp=>?_) (λi b h=>by cases h)
   rcases hp with⟨h1,h2⟩|⟨h1,h2⟩
   .rcases h2 with h2|⟨h2,_⟩
    .rcases h2 with h2|h2
     .exact .inl h2
     .exact .inr ⟨h2.1,by show k<(if b<w.heap.size then g.hi b else hi b);rw[if_pos h1];exact h2.2⟩
    .cases h2
   .exact .inr ⟨by show g.base<=b;omega,by show k<(if b<w.heap.size then g.hi b else hi b);rw[if_neg zo];exact h2⟩
 .intro t ht;subst ht
  cases v<;>try trivial
  rename_i oo es
  cases oo with
  |view=>trivial
  |nil=>trivial
  |own e=>
   obtain⟨i,xs,b,h1,h2,h3,h4⟩:=cV;have aq:=h2.lt b h3;refine⟨i,xs,b,h1,⟨h2.1,?_⟩,h3,?_,?_⟩
   .rcases h2.2 with hn|⟨gg,cap,cur,e1,rR,rest⟩
    .exact .inl hn
    .exact .inr ⟨gg,cap,cur,e1,aeo hle rR,rest⟩
   .show(if b<w.heap.size then g.owner b else if b<w'.heap.size then own b else none)=_;rw[if_neg zo,if_pos aq.2];simp[own,h3]
   .show(if b<w.heap.size then g.hi b else hi b)=_;rw[if_neg zo];exact h4
end
def zeroCells(P:Program)(t:TypeId):Option (List AV):=
 match P.info? t with
 |some i=>match i.zero with
  |some z=>iW z.cells.toList
  |none=>none
 |none=>none
def isVal:AV->Bool
 |.val _=>true
 |_=>false
def vh(P:Program)(t:TypeId):Option (List AV):=
 match zeroCells P t with
 |some zs=>if zs.any isVal then none else some zs
 |none=>none
def sq{P:Program}{t:TypeId}{zs:List AV}(h:vh P t=some zs):zeroCells P t=some zs:=by
 unfold vh at h;split at h
 .rename_i h'
  split at h<;>cases h
  exact h'
 .cases h
def comp(P:Program)(n:Nat)(tk:Bool)(hr:HR)(o:Oper):eC:=
 match o.op with
 |.move x=>match du n x with
  |some y=>.mv tk y
  |none=>.other
 |.assign x=>match du n x with
  |some y=>.mv true y
  |none=>.other
 |.pick c a b=>match du n c,du n a,du n b with
  |some c,some a,some b=>.pick c a b
  |_,_,_=>.other
 |.alloc t=>match zeroCells P t with
  |some cs=>.alloc t cs
  |none=>.other
 |.box t x=>match P.info? t,du n x with
  |some i,some y=>.box t i.size y
  |_,_=>.other
 |.build t ps=>match P.underlying t,vh P t with
  |some (.struct fs),some zs=>match fs.toList.mapM (λf=>(P.info? f.type).map λi=>(f.offset,i.size))with
   |some places=>match tu n (places[·]?) ps.toList with
    |some qs=>.build (zs.map AV.aJ) qs
    |none=>.other
   |none=>.other
  |some (.array _ el),some zs=>match P.info? el with
   |some ie=>match tu n (λi=>some (i*ie.size,ie.size)) ps.toList with
    |some qs=>.build (zs.map AV.aJ) qs
    |none=>.other
   |none=>.other
  |some (.array _ el),none=>match P.info? t,P.info? el,pL n (ps.toList.map (·.2))with
   |some it,some ie,some ys=>match it.zero with
    |some z=>if ie.size=1/\z.cells.size=ps.toList.length/\ps.toList.map (·.1)=List.range ps.toList.length then .oQ ys else .other
    |none=>.other
   |_,_,_=>.other
  |_,_=>.other
 |.buildSlice t len ps=>match P.underlying t with
  |some (.slice el)=>match P.info? el with
   |some i=>if len=0/\ps.toList.isEmpty=true then .empty el else
    match i.zero,pL n (ps.toList.map (·.2))with
    |some _,some ys=>if 0<i.size/\0<len/\ps.toList.map (·.1)=List.range len then .buildSlice t el i.size ys else .other
    |_,_=>.other
   |none=>.other
  |_=>.other
 |.load t a=>match P.info? t,P.underlying t,du n a with
  |some i,some d,some y=>if tk=true/\ef d=false/\o.dst.isSome=true then .loadT hr y else .load hr (ef d) i.size y
  |_,_,_=>.other
 |.store t a x=>match P.info? t,du n a,du n x with
  |some i,some y,some z=>if o.dst.isNone then .store hr i.size y z else .other
  |_,_,_=>.other
 |.binOp op t x y _=>match P.underlying t,du n x,du n y with
  |some (.int _),some x,some y|some .string,some x,some y=>.bin op x y
  |some .bool,some x,some y=>match op with
   |.eql=>.Eo false x y
   |.neq=>.Eo true x y
   |_=>.other
  |some (.struct _),some x,some y=>if P.eqGuardType P.depth t=false then
    match op,l_ P 10000 t with
    |.eql,some k=>.eqs false k x y
    |.neq,some k=>.eqs true k x y
    |_,_=>.other
   else .other
  |some (.slice _),some x',some _=>match op,y with
   |.eql,.const (.slice none 0 0)=>.isNil false x'
   |.neq,.const (.slice none 0 0)=>.isNil true x'
   |_,_=>.other
  |_,_,_=>.other
 |.unOp .not _ x=>match du n x with
  |some y=>.not y
  |none=>.other
 |.convert s d x=>match P.underlying s,P.underlying d,du n x with
  |some _,some (.int k),some y=>.conv k y
  |some (.slice el),some .string,some y=>match P.underlying el with
   |some (.int .u8)=>.yJ y
   |_=>.other
  |_,_,_=>.other
 |.makeInterface t x=>match P.underlying t,du n x with
  |some (.interface _),_=>.other
  |some _,some y=>.iface t y
  |_,_=>.other
 |.makeFunc fn f c=>match pL n f.toList,pL n c.toList with
  |some f,some c=>.EK fn f c
  |_,_=>.other
 |.slice t x lo hi none=>match P.underlying t,du n x,mH n lo,mH n hi with
  |some .string,some y,some lo,some hi=>.oN y lo hi
  |some (.slice el),some y,some lo,some hi=>match P.info? el with
   |some i=>.nC i.size y lo hi
   |none=>.other
  |some (.array len el),some y,some none,some none=>match P.info? el with
   |some _=>.pP len y
   |none=>.other
  |_,_,_,_=>.other
 |.fieldAddr s x j=>match P.underlying s,du n x with
  |some (.struct fs),some y=>match fs[j]? with
   |some f=>match P.info? f.type with
    |some i=>if i.size≠0 then .fieldAddr f.offset y else .other
    |none=>.other
   |none=>.other
  |_,_=>.other
 |.indexAddr t x i=>match P.underlying t,du n x,du n i with
  |some (.slice el),some y,some z=>match P.info? el with
   |some i=>.indexAddr i.size y z
   |none=>.other
  |_,_,_=>.other
 |.index t x i=>match P.underlying t,du n x,du n i with
  |some .string,some y,some z=>.oT y z
  |some (.array len el),some y,some z=>match P.info? el,P.underlying el with
   |some i,some (.func a b c)=>if i.size=1 then .oP len y z else .other
   |some i,some d=>.mK (ef d) len i.size y z
   |_,_=>.other
  |_,_,_=>.other
 |.lookup t x i true=>match P.underlying t,du n x,du n i with
  |some (.map kt el),some y,some z=>match P.underlying kt,l_ P 10000 kt,P.info? el with
   |some (.struct _),some k,some ie=>match ie.zero with
    |some (.agg v)=>match iW v.toList with
     |some zs=>.lookup k (.agg zs) y z
     |none=>.other
    |_=>.other
   |_,_,_=>.other
  |_,_,_=>.other
 |.extract x j=>match du n x with
  |some y=>.extract y j
  |none=>.other
 |.typeAssert x _ t true=>match P.underlying t,P.info? t,du n x with
  |some (.interface _),_,_=>.other
  |some _,some i,some y=>match i.zero with
   |some (.agg z)=>match iW z.toList with
    |some zs=>.assert t (.agg zs) y
    |none=>.other
   |_=>.other
  |_,_,_=>.other
 |.panic x=>match du n x with
  |some y=>.panic y
  |none=>.other
 |.call cl=>match cl.callee,cl.args.toList,cl.argTypes.toList with
  |.builtin .len,[x],[s]=>match P.underlying s,du n x with
   |some .string,some y=>.yV y
   |some (.slice _),some y=>.kM y
   |_,_=>.other
  |.builtin .append,[x1,x2],[t,t']=>match P.underlying t,du n x1,du n x2 with
   |some (.slice el),some y1,some y2=>match P.info? el with
    |some i=>match i.zero with
     |some z=>if t=t'/\z.cells.size=i.size/\i.bytes<=65536 then .append t el i.size i.bytes y1 y2 else .other
     |none=>.other
    |none=>.other
   |_,_,_=>.other
  |.builtin .max,[x1,x2],_=>match du n x1,du n x2 with
   |some y1,some y2=>.max y1 y2
   |_,_=>.other
  |.builtin .min,[x1,x2],_=>match du n x1,du n x2 with
   |some y1,some y2=>.min y1 y2
   |_,_=>.other
  |.value f,args,_=>match du n f,pL n args with
   |some (.f k),some ys=>.call k ys
   |some y,some ys=>.gr y ys
   |_,_=>.other
  |.invoke r name,args,_=>match du n r,pL n args with
   |some (.t t),some ys=>.gr (.m t (KY P name)) ys
   |_,_=>.other
  |_,_,_=>.other
 |_=>.other
structure bH where
 dst:Option Nat
 guard:Option (Nat×Bool)
 op:eC
def eb(P:Program)(f:Nat):Bool:=
 match P.funcs[f]? with
 |some fn=>fn.name != "runtime.NumGoroutine" && fn.body.isSome
 |none=>false
def f_{P:Program}{w:World}{f:Nat}{args:Array Value}(h:eb P f=true):(callFunc f args).run P w=.ok (.enter f args) w:=by
 unfold eb at h
 cases hf:P.funcs[f]? with
 |none=>simp[hf]at h
 |some fn=>
  simp only[hf,adk,afZ]at h;unfold callFunc;obtain⟨c,hc⟩:=afR.1 h.2;simp[hf,h.1,hc]
section
variable{P:Program}{GI:World->Prop}
def eN(out:iJ)(K:AV->Prop)(Qp:AV->Prop):Prop:=
 match out with
 |.ret v=>K v
 |.panic v=>Qp v
def lB(P:Program)(GI:World->Prop)(f:Nat)(args:List AV)(bx:Bool)(K:AV->Prop)(Qp:AV->Prop):Prop:=
 ∃out,eb P f=true/\AC P GI f args out/\(bx=true->out.wO=true)/\eN out K Qp
def ba(P:Program)(GI:World->Prop)(op:eC)(dst:Option Nat)(K:an->ao->Prop)(Qp:AV->Prop)(S:an)(H:ao):Prop:=
 match op with
 |.alloc _ zero=>match dst with
  |some d=>K (au (λt=>cd d (S t)) d (.box d 0)) (au H d (some zero))
  |none=>False
 |.box _ size x=>match dst with
  |some d=>(ev S x).cells.length=size/\(ev S x).storable=true/\K (au (λt=>cd d (S t)) d (.box d 0)) (au H d (some ((ev S x).cells.map AV.aJ)))
  |none=>False
 |.call f args=>lB P GI f (args.map λy=>fz H (ev S y)) (args.any λy=>cW (ev S y)) (λv=>K (aX S dst v) H) Qp
 |.gr f args=>match ev S f with
  |.func (.func k) first cap=>lB P GI k ((first++args.map (ev S)++cap).map (fz H)) ((first++args.map (ev S)++cap).any cW) (λv=>K (aX S dst v) H) Qp
  |_=>False
 |.panic x=>match ev S x with
  |.iface t v=>Qp (.iface t v)
  |_=>False
 |op=>match aD S H op with
  |some e=>K (e.S S dst) (e.H H)
  |none=>False
def eC.calm:eC->Bool
 |.alloc ..|.box ..|.call ..|.gr ..|.panic _|.other=>false
 |_=>true
def BB {op:eC} (h:op.calm=true) (dst:Option Nat) (K:an→ao→Prop) (Qp:AV→Prop) (S:an) (H:ao) :
  ba P GI op dst K Qp S H=(match aD S H op with|some e=>K (e.S S dst) (e.H H)|none=>False):=by
 cases op<;>first|rfl|cases h
variable{w0:World}{n:Nat}{U:Nat->Prop}{g:Gh}{S:an}{H:ao}{a:Act}{w:World}
def xR:∀(ps:List (Nat×Operand))(k:Nat),ps.map (·.1)=(List.range' k ps.length)->ps=((ps.map (·.2)).zipIdx k).map λx=>(x.2,x.1)
 |[],_,_=>rfl
 |(i,x)::ps,k,h=>by
  simp only[ady,List.length_cons,aeS,ae7]at h;obtain⟨rfl,h⟩:=h;simp only[ady,List.zipIdx_cons,ae7,ag8];exact xR ps (i+1) h
def yO{x:Option Operand}(h:mH n x=some none):x=none:=by
 cases x with
 |none=>rfl
 |some y=>simp[mH]at h
def yi (R:Rel P w0 n U g S H a w) {o:Oper} {tk:Bool} {hr:HR} {op:eC} {e:aP} (hc:comp P n tk hr o=op) (bV:op.calm=true) (hd:∀ t,o.dst=some t→t < n∧¬ U t) (dh:∀ t∈op.rd,¬ U t) (eI:∀ t,o.dst=some t→t∉op.rd)
  (he:aD S H op=some e):c_ P w0 n U g S H a w o e:=by
 unfold comp at hc;cases dj:o.op
 case move x=>
  simp only[dj]at hc
  split at hc<;>subst hc
  case h_2=>cases bV
  rename_i y hx;exact KM R hd hx dh (by unfold execOp;simp only[dj];rfl) eI he
 case assign x=>
  simp only[dj]at hc
  split at hc<;>subst hc
  case h_2=>cases bV
  rename_i y hx;exact KM R hd hx dh (by unfold execOp;simp only[dj];rfl) eI he
 case pick x x1 x2=>
  simp only[dj]at hc
  split at hc<;>subst hc
  case h_2=>cases bV
  rename_i c a' b h1 h2 h3;simp only[eC.rd,adm]at dh;exact NT R dj hd h1 h2 h3 (λt h=>dh t (.inl (.inl h))) (λt h=>dh t (.inl (.inr h))) (λt h=>dh t (.inr h)) he
 case alloc t=>simp only[dj]at hc;split at hc<;>subst hc<;>cases bV
 case box t x=>simp only[dj]at hc;split at hc<;>subst hc<;>cases bV
 case build t ps=>
  simp only[dj]at hc;split at hc
  .rename_i fs zs h1 h2;split at hc
   case h_2=>subst hc;cases bV
   rename_i places h3
   split at hc<;>subst hc
   case h_2=>cases bV
   rename_i qs h4;have h2:=sq h2;unfold zeroCells at h2;split at h2
   case h_2=>cases h2
   rename_i it hi;split at h2
   case h_2=>cases h2
   rename_i z hz;exact L6 R dj hd hi h1 hz h3 h2 h4 (λq hq t ht=>dh t (adX.2 ⟨q,hq,ht⟩)) he
  .rename_i len el zs h1 h2;split at hc
   case h_2=>subst hc;cases bV
   rename_i ie h3
   split at hc<;>subst hc
   case h_2=>cases bV
   rename_i qs h4;have h2:=sq h2;unfold zeroCells at h2;split at h2
   case h_2=>cases h2
   rename_i it hi;split at h2
   case h_2=>cases h2
   rename_i z hz;exact Im R dj hd hi h1 hz h3 h2 h4 (λq hq t ht=>dh t (adX.2 ⟨q,hq,ht⟩)) he
  .rename_i len el h1 h2;split at hc
   case h_2=>subst hc;cases bV
   rename_i it ie ys h3 h4 h5;split at hc
   case h_2=>subst hc;cases bV
   rename_i z hz
   split at hc<;>subst hc
   case isFalse=>cases bV
   rename_i ko;exact ID R dj hd h3 h1 hz h4 ko.1 (by simpa using ko.2.1) (xR _ 0 (by rw[ko.2.2,ae8])) h5 (λy hy t ht=>dh t (adX.2 ⟨y,hy,ht⟩)) he
  .subst hc;cases bV
 case buildSlice t len ps=>
  simp only[dj]at hc;split at hc
  case h_2=>subst hc;cases bV
  rename_i el h1;split at hc
  case h_2=>subst hc;cases bV
  rename_i i h2;split at hc
  case isTrue=>
   rename_i ko;subst hc
   have kh:ps=#[]:=by
    have:=ko.2;simp only[List.isEmpty_iff]at this;exact Array.toList_eq_nil_iff.1 this
   rw[ko.1,kh]at dj;exact Ln R dj hd h1 h2 he
  case isFalse=>
   split at hc
   case h_2=>subst hc;cases bV
   rename_i z ys h3 h4
   split at hc<;>subst hc
   case isFalse=>cases bV
   rename_i jB
   have hlen:ps.toList.length=len:=by have:=congrArg List.length jB.2.2;simpa using this
   exact zR R dj hd h1 h2 h3 jB.1 (xR _ 0 (by rw[jB.2.2,hlen,ae8])) (by simpa using hlen) jB.2.1 h4 (λy hy t ht=>dh t (adX.2 ⟨y,hy,ht⟩)) he
 case load t x=>
  simp only[dj]at hc;split at hc
  case h_2=>subst hc;cases bV
  rename_i i d y h1 h2 h3
  split at hc<;>subst hc
  case isTrue ko=>
   obtain⟨dd,DK⟩:=afR.1 ko.2.2;exact JP R dj DK (hd dd DK) h2 ko.2.1 h3 dh he
  case isFalse ko=>exact DC R dj hd h1 h2 h3 dh he
 case store t x1 x2=>
  simp only[dj]at hc;split at hc
  case h_2=>subst hc;cases bV
  rename_i i y z h1 h2 h3
  split at hc<;>subst hc
  case isFalse=>cases bV
  rename_i ko;simp only[eC.rd,adm]at dh;exact mZ R dj (by simpa using ko) h1 h2 h3 (λt h=>dh t (.inl h)) (λt h=>dh t (.inr h)) he
 case binOp op t x1 x2 t'=>
  simp only[dj]at hc;split at hc
  .subst hc;rename_i k y1 y2 h1 h2 h3;simp only[eC.rd,adm]at dh;exact Gb R dj hd h2 h3 (λt h=>dh t (.inl h)) (λt h=>dh t (.inr h)) he
  .subst hc;rename_i y1 y2 h1 h2 h3;simp only[eC.rd,adm]at dh;exact Gb R dj hd h2 h3 (λt h=>dh t (.inl h)) (λt h=>dh t (.inr h)) he
  .rename_i y1 y2 h1 h2 h3
   split at hc<;>subst hc
   .simp only[eC.rd,adm]at dh;exact FC (neg:=false) R dj hd h1 h2 h3 (λt h=>dh t (.inl h)) (λt h=>dh t (.inr h)) he
   .simp only[eC.rd,adm]at dh;exact FC (neg:=true) R dj hd h1 h2 h3 (λt h=>dh t (.inl h)) (λt h=>dh t (.inr h)) he
   .cases bV
  .rename_i fs y1 y2 h1 h2 h3;split at hc
   case isFalse=>subst hc;cases bV
   rename_i CH
   split at hc<;>subst hc
   .simp only[eC.rd,adm]at dh;exact Fo (neg:=false) R dj hd h1 (by assumption) CH h2 h3 (λt h=>dh t (.inl h)) (λt h=>dh t (.inr h)) he
   .simp only[eC.rd,adm]at dh;exact Fo (neg:=true) R dj hd h1 (by assumption) CH h2 h3 (λt h=>dh t (.inl h)) (λt h=>dh t (.inr h)) he
   .cases bV
  .rename_i el y1 y2 h1 h2 h3
   split at hc<;>subst hc
   .exact Bu (neg:=false) R dj hd h1 h2 dh he
   .exact Bu (neg:=true) R dj hd h1 h2 dh he
   .cases bV
  .subst hc;cases bV
 case unOp u t x=>
  cases u<;>simp only[dj]at hc
  case not=>
   split at hc<;>subst hc
   case h_2=>cases bV
   rename_i y h1;exact P2 R dj hd h1 dh he
  all_goals (subst hc;cases bV)
 case convert s d x=>
  simp only[dj]at hc;split at hc
  .subst hc;rename_i ds k y h1 h2 h3;exact MU R dj hd h1 h2 h3 dh he
  .rename_i el y h1 h2 h3
   split at hc<;>subst hc
   case h_2=>cases bV
   rename_i h4;exact NC R dj hd h1 h4 h2 h3 dh he
  .subst hc;cases bV
 case makeInterface t x=>
  simp only[dj]at hc
  split at hc<;>subst hc
  case h_1=>cases bV
  case h_3=>cases bV
  rename_i d y Co h1 h2;exact Jv R dj hd h1 Co h2 dh he
 case makeFunc fn f c=>
  simp only[dj]at hc
  split at hc<;>subst hc
  case h_2=>cases bV
  rename_i f2 c2 h1 h2;simp only[eC.rd,adm,adX]at dh;exact Q8 R dj hd h1 h2 (λy hy t ht=>dh t (.inl ⟨y,hy,ht⟩)) (λy hy t ht=>dh t (.inr ⟨y,hy,ht⟩)) he
 case slice t x lo hi mx=>
  cases mx with
  |some m=>simp only[dj]at hc;subst hc;cases bV
  |none=>
   simp only[dj]at hc;split at hc
   .subst hc;rename_i y yw dv h1 h2 h3 h4;simp only[eC.rd,adm,adX]at dh;exact GU R dj hd h1 h2 (λt h=>dh t (.inl h)) h3 h4 (λy hy t ht=>dh t (.inr ⟨y,.inl (by simpa using hy),ht⟩)) (λy hy t ht=>dh t (.inr ⟨y,.inr (by simpa using hy),ht⟩)) he
   .rename_i el y yw dv h1 h2 h3 h4
    split at hc<;>subst hc
    case h_2=>cases bV
    rename_i i h5;simp only[eC.rd,adm,adX]at dh;exact GJ R dj hd h1 h5 h2 (λt h=>dh t (.inl h)) h3 h4 (λy hy t ht=>dh t (.inr ⟨y,.inl (by simpa using hy),ht⟩)) (λy hy t ht=>dh t (.inr ⟨y,.inr (by simpa using hy),ht⟩)) he
   .rename_i len el y h1 h2 h3 h4
    split at hc<;>subst hc
    case h_2=>cases bV
    rename_i i h5;have e3:=yO h3;have e4:=yO h4;subst e3;subst e4;exact GQ R dj hd h1 h5 h2 dh he
   .subst hc;cases bV
 case fieldAddr s x j=>
  simp only[dj]at hc;split at hc
  case h_2=>subst hc;cases bV
  rename_i fs y h1 h2;split at hc
  case h_2=>subst hc;cases bV
  rename_i f h3;split at hc
  case h_2=>subst hc;cases bV
  rename_i i h4
  split at hc<;>subst hc
  case isFalse=>cases bV
  rename_i ko;exact B6 R dj hd h1 h3 h4 ko h2 dh he
 case indexAddr t x1 x2=>
  simp only[dj]at hc;split at hc
  case h_2=>subst hc;cases bV
  rename_i el y z h1 h2 h3
  split at hc<;>subst hc
  case h_2=>cases bV
  rename_i i h4;simp only[eC.rd,adm]at dh;exact BO R dj hd h1 h4 h2 h3 (λt h=>dh t (.inl h)) (λt h=>dh t (.inr h)) he
 case index t x1 x2=>
  simp only[dj]at hc;split at hc
  .subst hc;rename_i y z h1 h2 h3;simp only[eC.rd,adm]at dh;exact G_ R dj hd h1 h2 h3 (λt h=>dh t (.inl h)) (λt h=>dh t (.inr h)) he
  .rename_i len el y z h1 h2 h3;split at hc
   .rename_i i a1 a2 a3 h4 h5
    split at hc<;>subst hc
    case isFalse=>cases bV
    rename_i hs;simp only[eC.rd,adm]at dh;exact HJ R dj hd h1 h4 hs h5 rfl h2 h3 (λt h=>dh t (.inl h)) (λt h=>dh t (.inr h)) he
   case h_3=>subst hc;cases bV
   subst hc;rename_i i d _ h4 h5;simp only[eC.rd,adm]at dh;exact Hg R dj hd h1 h4 h5 h2 h3 (λt h=>dh t (.inl h)) (λt h=>dh t (.inr h)) he
  .subst hc;cases bV
 case lookup t x1 x2 ok=>
  cases ok with
  |false=>simp only[dj]at hc;subst hc;cases bV
  |true=>
   simp only[dj]at hc;split at hc
   case h_2=>subst hc;cases bV
   rename_i kt el y z h1 h2 h3;split at hc
   case h_2=>subst hc;cases bV
   rename_i fs k ie h4 h5 h6;split at hc
   case h_2=>subst hc;cases bV
   rename_i v h7
   split at hc<;>subst hc
   case h_2=>cases bV
   rename_i zs h8;simp only[eC.rd,adm]at dh;exact Ha (z:=.agg v) R dj hd h1 h4 h5 h6 h7 h8 h2 h3 (λt h=>dh t (.inl h)) (λt h=>dh t (.inr h)) he
 case extract x j=>
  simp only[dj]at hc
  split at hc<;>subst hc
  case h_2=>cases bV
  rename_i y h1;exact EO R dj hd h1 dh he
 case typeAssert x xt t ok=>
  cases ok with
  |false=>simp only[dj]at hc;subst hc;cases bV
  |true=>
   simp only[dj]at hc;split at hc
   case h_1=>subst hc;cases bV
   case h_3=>subst hc;cases bV
   rename_i d i y Co h1 h2 h3;split at hc
   case h_2=>subst hc;cases bV
   rename_i z hz
   split at hc<;>subst hc
   case h_2=>cases bV
   rename_i zs pT;exact HO (z:=.agg z) R dj hd h1 Co h2 hz pT h3 dh he
 case panic x=>simp only[dj]at hc;split at hc<;>subst hc<;>cases bV
 case call cl=>
  simp only[dj]at hc;split at hc
  .rename_i x s kJ ha ht
   have Ku:cl.args=#[x]:=by rw[<-Array.toArray_toList (xs:=cl.args),ha]
   have uz:cl.argTypes=#[s]:=by rw[<-Array.toArray_toList (xs:=cl.argTypes),ht]
   split at hc<;>subst hc
   .rename_i y h1 h2;exact Gm R dj kJ Ku uz hd h1 h2 dh (.inl ⟨rfl,he⟩)
   .rename_i el y h1 h2;exact Gm R dj kJ Ku uz hd h1 h2 dh (.inr ⟨⟨el,rfl⟩,he⟩)
   .cases bV
  .rename_i x1 x2 t t' kJ ha ht
   have Ku:cl.args=#[x1,x2]:=by rw[<-Array.toArray_toList (xs:=cl.args),ha]
   have uz:cl.argTypes=#[t,t']:=by rw[<-Array.toArray_toList (xs:=cl.argTypes),ht]
   split at hc
   case h_2=>subst hc;cases bV
   rename_i el y1 y2 h1 h2 h3;split at hc
   case h_2=>subst hc;cases bV
   rename_i i h4;split at hc
   case h_2=>subst hc;cases bV
   rename_i z h5
   split at hc<;>subst hc
   case isFalse=>cases bV
   rename_i ko;obtain⟨rfl,k1,k2⟩:=ko;simp only[eC.rd,adm]at dh eI;exact G6 R dj kJ Ku uz hd h1 h4 h5 k1 k2 h2 h3 (λt h=>dh t (.inl h)) (λt h=>dh t (.inr h)) (λt ht h=>eI t ht (.inl h)) he
  .rename_i x1 x2 kJ ha
   have Ku:cl.args=#[x1,x2]:=by rw[<-Array.toArray_toList (xs:=cl.args),ha]
   split at hc<;>subst hc
   case h_2=>cases bV
   rename_i y1 y2 h1 h2;simp only[eC.rd,adm]at dh;exact yS R dj Ku hd h1 h2 (λt h=>dh t (.inl h)) (λt h=>dh t (.inr h)) (.inl ⟨kJ,he⟩)
  .rename_i x1 x2 kJ ha
   have Ku:cl.args=#[x1,x2]:=by rw[<-Array.toArray_toList (xs:=cl.args),ha]
   split at hc<;>subst hc
   case h_2=>cases bV
   rename_i y1 y2 h1 h2;simp only[eC.rd,adm]at dh;exact yS R dj Ku hd h1 h2 (λt h=>dh t (.inl h)) (λt h=>dh t (.inr h)) (.inr ⟨kJ,he⟩)
  .split at hc<;>subst hc<;>cases bV
  .split at hc<;>subst hc<;>cases bV
  .subst hc;cases bV
 all_goals (simp only[dj]at hc;subst hc;cases bV)
end
def bL:Nat->Prop:=λ_=>False
def ar(GI:World->Prop):Prop:=∀w w',GI w->Below w.heap.size w w'->GI w'
def bH.ok(n:Nat)(o:bH):Bool:=
 (match o.dst with|some d=>decide (d<n)&&!o.op.rd.contains d|none=>true)&&
 (match o.guard with|some (t,_)=>decide (t<n)|none=>true)
def eC.jy:eC->Bool
 |.alloc ..|.box ..=>true
 |_=>false
def bH.jy(o:bH):List Nat:=if o.op.jy then o.dst.toList else[]
def Cw(ops:Array Oper)(j:Nat):Option Nat:=(ops[j]?).bind (·.dst)
def taken(ops:Array Oper)(d:Nat):Bool:=
 ops.any λo=>match o.op with
  |.call { callee:=.builtin .append,args,.. }=>match args.toList with
   |.tmp t::_=>t==d
   |_=>false
  |_=>false
def rootOf(ops:Array Oper):Nat->Operand->HR
 |k+1,.tmp t=>match ops.toList.find? (λo=>o.dst==some t)with
  |some o=>match o.op with
   |.fieldAddr _ x _=>rootOf ops k x
   |.indexAddr ..=>.ref
   |.alloc _=>.box t
   |_=>.any
  |none=>.box t
 |_,_=>.any
def Pe(ops:Array Oper)(o:Oper):HR:=
 match o.op with
 |.load _ x|.store _ x _=>rootOf ops 10 x
 |_=>.any
def bt(P:Program)(n:Nat)(dr:Bool)(ops:Array Oper)(o:Oper):bH:={
 dst:=o.dst
 guard:=match o.guard with
  |some (j,b)=>match Cw ops j with
   |some t=>some (t,b)
   |none=>some (n,b)
  |none=>none
 op:=comp P n (match o.dst with|some d=>taken ops d|none=>false) (if dr then Pe ops o else .any) o }
def bh(P:Program)(n:Nat)(dr:Bool)(ops:Array Oper):List bH:=ops.toList.map (bt P n dr ops)
def aF(S:an):Option (Nat×Bool)->Option Bool
 |none=>some true
 |some (t,b)=>match S t with
  |.bool c=>some (c==b)
  |.dR []=>some false
  |_=>none
def bp(P:Program)(GI:World->Prop):List bH->(an->ao->Prop)->(AV->Prop)->an->ao->Prop
 |[],K,_,S,H=>K S H
 |o::rest,K,Qp,S,H=>match aF S o.guard with
  |some true=>ba P GI o.op o.dst (bp P GI rest K Qp) Qp S H
  |some false=>bp P GI rest K Qp (aX S o.dst cz) H
  |none=>False
section
variable{P:Program}{GI:World->Prop}{w0:World}{n:Nat}{U:Nat->Prop}{g:Gh}{S:an}{H:ao}{a:Act}{w:World}
def c_.wp {o:Oper} {e:aP} (h:c_ P w0 n U g S H a w o e) {K:Act→World→Prop} {Q:Exit→Act→World→Prop}
  (hK:∀g' a' w',g'.base=g.base->g'.old=g.old->Rel P w0 n U g' (e.S S o.dst) (e.H H) a' w'->K a' w'):o.wp P a w K Q:=by
 obtain⟨c,w',g',hr,h1,h2,R⟩:=h;unfold Oper.wp
 rcases hr with hr|⟨hr,rfl⟩
 .rw[hr];exact hK g' _ _ h1 h2 R
 .rw[hr];exact hK g' _ _ h1 h2 R
def fe{a:Act}{cl:Call}{f:Operand}{t:TypeId}(hc:cl.callee=.value f):resolve a.eval cl t=Deferred.ofValue (a.eval f) (cl.args.map a.eval):=by
 unfold resolve;rw[hc]
def Ag (R:Rel P w0 n U g S H a w) (hG:ar GI) (cq:GI w0) {f:Nat} {args:List AV} {bP:Array Value} {bx:Bool} {KA:AV→Prop} {Qp:AV→Prop}
  (hl:args.length=bP.size) (hr:∀i (h:i<args.length)(h':i<bP.size),RV (fC g bx) (λ_=>none) w args[i] bP[i])
  (h:lB P GI f args bx KA Qp) (dst:Option Nat) (hd:∀t,dst=some t->t<n/\¬U t) {Kc:Act->World->Prop} {Qc:Exit->Act->World->Prop}
  (hK:∀v g' a' w',g'.base=g.base->g'.old=g.old->Rel P w0 n U g' (aX S dst v) H a' w'->KA v->Kc a' w')
  (hP:∀v c hi w',Below w0.heap.size w0 w'->(∀b,w'.heap.size<=b->hi b=0)->RD (pK w0.heap.size g.old.c hi) w' v c->Qp v->Qc (.panic [{ v:=c,recovered:=false }]) a w'):
  eb P f=true/\Calls P f bP w (λ|.returned v,ju=>Kc (a.put dst v) ju|.panicked chain,ju=>Qc (.panic chain) a ju|.outgrown,_=>LetsOut Qc):=by
 obtain⟨out,jP,oI,bW,kl⟩:=h
 have hle:g.base<=w.heap.size:=by rw[R.base];exact R.below.size
 have gj:GI w:=by
  have hb:=R.below;rw[R.base]at hb;exact hG w0 w cq hb
 refine⟨jP,(oI w (fC g bx) bP gj hl hr).mono ?_⟩;rintro e w' ⟨hb,hi,oL,hh⟩
 cases out with
 |ret v=>
  obtain⟨c,rfl,h1,h2⟩:=hh;obtain⟨g',e1,e2,R'⟩:=R.call dst hd bx hb oL h1 h2 (λhx=>bW hx);exact hK v g' _ _ e1 e2 R' kl
 |panic v=>
  obtain⟨c,rfl,h1⟩:=hh
  have abv:bx=false:=by
   cases bx with
   |false=>rfl
   |true=>have:=bW rfl;cases this
  subst abv;have uw:=R.below;rw[R.base]at uw hle;refine hP v c (λb=>if b<w.heap.size then g.hi b else hi b) w' (uw.trans (hb.mono hle)) (λb lS=>?_) ?_ kl
  .have:=hb.size;show(if b<w.heap.size then g.hi b else hi b)=0;rw[if_neg zo];exact oL b lS
  .refine h1.mono (bf.same λb k _ hp=>?_)
   rcases hp with⟨k1,k2⟩|⟨k1,k2⟩
   .rcases k2 with k2|⟨k2,_⟩
    .rcases k2 with k2|k2
     .exact .inl (by rw[<-R.base];exact k2)
     .exact .inr ⟨by rw[<-R.base];exact k2.1,by show k<(if b<w.heap.size then g.hi b else hi b);rw[if_pos k1];exact k2.2⟩
    .cases k2
   .exact .inr ⟨zo,by show k<(if b<w.heap.size then g.hi b else hi b);rw[if_neg zo];exact k2⟩
def Gg(d:Nat):(λt=>(bL t\/t=d)/\t≠d)=bL:=by
 funext t
 simp only[bL,agN,af0,iff_false,not_and,af6];exact id
def D6 (R:Rel P w0 n bL g S H a w) {o:Oper} {d:Nat} (iu:o.dst=some d) (hd:d < n) (bW:¬ g.old.bx d) {ty:TypeId} {vs:Array Value} {cs:List AV}
  (dz:(execOp a.eval o).run P w=.ok (.value (.pointer (some ⟨w.heap.size,0,none⟩))) (w.alloc (.cells vs ty))) (hr:py g.Pr w cs vs)
  (ho:∀(g':Gh) j (h:j<cs.length)(h':j<vs.size),(cs[j]).mf/\eK P w g' (.cell d j) cs[j] vs[j])
  {Kc:Act->World->Prop} {Qc:Exit->Act->World->Prop}
  (hK:∀g' a' w',g'.base=g.base->g'.old=g.old->Rel P w0 n bL g' (au (λt=>cd d (S t)) d (.box d 0)) (au H d (some cs)) a' w'->Kc a' w'):o.wp P a w Kc Qc:=by
 have R1:=R.suspend d bW (.box d 0) cs;have R2:=R1.G8 d (.inr rfl) hd cs vs ty (aO _ _ _) (aO _ _ _) hr.1 hr.2.1 (λj h h'=>ho _ j h h') hr.2.2;unfold Oper.wp;rw[dz];show Kc _ _;rw[iu];rw[Gg]at R2;exact hK { g with al:=au (au g.al d none) d (some w.heap.size) } _ _ rfl rfl R2
def Bw{o:Oper}{tk:Bool}{hr:HR}{t:TypeId}{cs:List AV}(h:comp P n tk hr o=.alloc t cs):o.op=.alloc t/\zeroCells P t=some cs:=by
 unfold comp at h
 repeat' split at h
 all_goals first
  |(cases h;done)
  |(cases h;exact⟨by assumption,by assumption⟩)
def QT{o:Oper}{tk:Bool}{hr:HR}{t:TypeId}{size:Nat}{x:cT}(h:comp P n tk hr o=.box t size x):∃x',o.op=.box t x'/\du n x'=some x:=by
 unfold comp at h
 repeat' split at h
 all_goals first
  |(cases h;done)
  |(cases h;exact⟨_,by assumption,by assumption⟩)
def Jo{o:Oper}{tk:Bool}{hr:HR}{x:cT}(h:comp P n tk hr o=.panic x):∃x',o.op=.panic x'/\du n x'=some x:=by
 unfold comp at h
 repeat' split at h
 all_goals first
  |(cases h;done)
  |(cases h;exact⟨_,by assumption,by assumption⟩)
def X8{x:Operand}{f:Nat}(h:du n x=some (.f f)):x=.func f:=by
 cases x<;>simp only[du]at h
 .split at h<;>cases h
 .simp only[adv]at h;obtain⟨_,_,h⟩:=h;cases h
 .cases h
 .cases h;rfl
def OL{o:Oper}{tk:Bool}{hr:HR}{f:Nat}{args:List cT}(h:comp P n tk hr o=.call f args):∃cl,o.op=.call cl/\cl.callee=.value (.func f)/\pL n cl.args.toList=some args:=by
 unfold comp at h
 repeat' split at h
 all_goals first
  |(cases h;done)
  |skip
 cases h;rename_i h1 h2;have e:=X8 h1;subst e;exact⟨_,by assumption,by assumption,h2⟩
def Js {o:Oper} {tk:Bool} {hr:HR} {f:cT} {args:List cT} (h:comp P n tk hr o = .gr f args) :
  (∃cl f',o.op=.call cl/\cl.callee=.value f'/\du n f'=some f/\pL n cl.args.toList=some args)\/
  ∃cl r name t,o.op=.call cl/\cl.callee=.invoke r name/\du n r=some (.t t)/\f=.m t (KY P name)/\pL n cl.args.toList=some args:=by
 unfold comp at h
 repeat' split at h
 all_goals first
  |(cases h;done)
  |skip
 .cases h;exact .inl ⟨_,_,by assumption,by assumption,by assumption,by assumption⟩
 .cases h;exact .inr ⟨_,_,_,_,by assumption,by assumption,by assumption,rfl,by assumption⟩
def NZ(x:Value)(l:Array Value):(#[x]++l)[0]?=some x:=by
 rw[Array.getElem?_append_left ahi];rfl
def PH(x:Value)(l:Array Value):(#[x]++l).extract 1 (#[x]++l).size=l:=by
 apply Array.ext';simp
def tG (R:Rel P w0 n U g S H a w) (hG:ar GI) (cq:GI w0) {o:Oper} {tk:Bool} {hr:HR} {f:Nat} {args:List cT} (hc:comp P n tk hr o = .call f args) (hd:∀ t,o.dst=some t→t < n∧¬ U t) (hu:∀ t∈(eC.call f args).rd,¬ U t)
  {KA:AV->Prop} {Qp:AV->Prop} (h:lB P GI f (args.map λy=>fz H (AL.ev S y)) (args.any λy=>cW (AL.ev S y)) KA Qp) {Kc:Act->World->Prop} {Qc:Exit->Act->World->Prop}
  (hK:∀v g' a' w',g'.base=g.base->g'.old=g.old->Rel P w0 n U g' (aX S o.dst v) H a' w'->KA v->Kc a' w')
  (hP:∀v c hi w',Below w0.heap.size w0 w'->(∀b,w'.heap.size<=b->hi b=0)->RD (pK w0.heap.size g.old.c hi) w' v c->Qp v->Qc (.panic [{ v:=c,recovered:=false }]) a w'):o.wp P a w Kc Qc:=by
 obtain⟨cl,dj,JI,xS⟩:=OL hc;obtain⟨l1,r1⟩:=R.JM xS (λy hy t ht=>hu t (adX.2 ⟨y,hy,ht⟩))
 obtain⟨jP,nB⟩:=Ag R hG cq (bP:=cl.args.map a.eval) (by simpa using l1) (λi hi dv=>by
  simp only[adn]at hi;simp only[adz,Array.getElem_map];have:=r1 i hi (by simpa using dv)
  refine R.fz (by simpa using this) _ λhb=>?_
  exact aeK.2 ⟨_,adi hi,hb⟩) h o.dst hd (Kc:=Kc) (Qc:=Qc) hK hP
 have abQ:a.eval (.func f)=.func (.func f) #[] #[]:=rfl;unfold Oper.wp execOp;simp only[dj,fe JI,abQ,Deferred.ofValue,adq,Sem.run_pure,Result.andThen_ok,invoke,ahr,ahs];rw[f_ jP];exact nB
def va (R:Rel P w0 n U g S H a w) (hG:ar GI) (cq:GI w0) {o:Oper} {tk:Bool} {hr:HR} {f:cT} {args:List cT} (hc:comp P n tk hr o = .gr f args) (hd:∀ t,o.dst=some t→t < n∧¬ U t) (hu:∀ t∈(eC.gr f args).rd,¬ U t)
  {k:Nat} {first cap:List AV} (zb:AL.ev S f=.func (.func k) first cap)
  {KA:AV->Prop} {Qp:AV->Prop} (h:lB P GI k ((first++args.map (AL.ev S)++cap).map (fz H)) ((first++args.map (AL.ev S)++cap).any cW) KA Qp) {Kc:Act->World->Prop} {Qc:Exit->Act->World->Prop}
  (hK:∀v g' a' w',g'.base=g.base->g'.old=g.old->Rel P w0 n U g' (aX S o.dst v) H a' w'->KA v->Kc a' w')
  (hP:∀v c hi w',Below w0.heap.size w0 w'->(∀b,w'.heap.size<=b->hi b=0)->RD (pK w0.heap.size g.old.c hi) w' v c->Qp v->Qc (.panic [{ v:=c,recovered:=false }]) a w'):o.wp P a w Kc Qc:=by
 simp only[eC.rd,adm,adX]at hu
 rcases Js hc with⟨cl,f',dj,JI,hf,xS⟩|⟨cl,r,name,t,dj,JI,js,rfl,xS⟩
 case inr=>
  obtain⟨l1,r1⟩:=R.JM xS (λy hy t ht=>hu t (.inr ⟨y,hy,ht⟩));have Q0:=R.ev js (λt' ht=>hu t' (.inl (by simpa[cT.tmps]using ht)));simp only[AL.ev]at zb Q0;generalize hS:S t=sv at zb Q0;split at zb
  case h_2=>cases zb
  rename_i ty v;split at zb
  case h_2=>cases zb
  rename_i k' hk;cases zb;generalize Sy:a.eval r=cr at Q0;have Q0:=Q0.dW rfl
  cases Q0 with
  |iface _ _ cv hv=>
  simp only[List.singleton_append,ael]at h
  obtain⟨jP,nB⟩:=Ag R hG cq (bP:=#[cv]++cl.args.map a.eval) (by simp at l1⊢;omega) (λi hi dv=>by
   simp only[adn]at hi;simp only[adz]
   refine R.fz ?_ _ λhb=>?_
   .cases i with
    |zero=>
     have e2:(#[cv]++cl.args.map a.eval)[0]=cv:=by rw[afk ahi];rfl
     simp only[List.getElem_cons_zero];rw[e2];exact .data _ _ hv
    |succ i=>
     have e2:(#[cv]++cl.args.map a.eval)[i+1]=a.eval (cl.args.toList[i]'(by simp at dv l1⊢;omega)):=by
      rw[afP ahi];simp
     simp only[List.getElem_cons_succ,adz];rw[e2];exact r1 i (by simpa using hi) (by simp at dv l1⊢;omega)
   .exact aeK.2 ⟨_,adi hi,hb⟩) h o.dst hd (Kc:=Kc) (Qc:=Qc) hK hP
  have hm:=KI (v:=cv) (w:=w) hk;unfold Oper.wp execOp;simp only[dj]
  have KF:(resolve a.eval cl o.type).run P w=.ok { target:=.fn (.method name) #[],args:=#[.iface ty cv]++cl.args.map a.eval } w:=by
   unfold resolve;rw[JI];simp[Sy]
  simp only[adq,KF,Result.andThen_ok,invoke,NZ,callMethod,PH,hm,run_program];rw[f_ jP];simp only[Oper.upon];exact nB
 obtain⟨l1,r1⟩:=R.JM xS (λy hy t ht=>hu t (.inr ⟨y,hy,ht⟩));have Xs:=R.ev hf (λt ht=>hu t (.inl ht));rw[zb]at Xs;generalize hcf:a.eval f'=cf at Xs
 cases Xs with
 |data _ _ hh=>cases hh
 |func _ _ _ vs us q1 q2 q3 q4=>
  have eF:∀i (hi:i<(first++args.map (AL.ev S)++cap).length)(dv:i<(vs++cl.args.map a.eval++us).size),RV g.Pr g.al w (first++args.map (AL.ev S)++cap)[i] (vs++cl.args.map a.eval++us)[i]:=by
   intro i hi dv;simp only[adC,adn]at hi;simp only[Array.length_toList]at l1
   by_cases c1:i<first.length
   .have e1:(first++args.map (AL.ev S)++cap)[i]=first[i]:=by rw[adZ (by simp;omega),adZ c1]
    have e2:(vs++cl.args.map a.eval++us)[i]=vs[i]:=by rw[afk (by simp;omega),afk zo]
    rw[e1,e2];exact q3 i c1 zo
   .by_cases c2:i<first.length+args.length
    .have e1:(first++args.map (AL.ev S)++cap)[i]=AL.ev S (args[i-first.length]):=by rw[adZ (by simp;omega),aep zo];simp
     have e2:(vs++cl.args.map a.eval++us)[i]=a.eval (cl.args.toList[i-first.length]'(by simp;omega)):=by
      rw[afk (by simp;omega),afP zo];simp[q1]
     rw[e1,e2];exact r1 _ zo (by simp;omega)
    .have e1:(first++args.map (AL.ev S)++cap)[i]=cap[i-(first.length+args.length)]' zo:=by rw[aep (by simp;omega)];simp
     have e2:(vs++cl.args.map a.eval++us)[i]=us[i-(first.length+args.length)]' zo:=by
      rw[afP (by simp;omega)];simp[q1,l1]
     rw[e1,e2];exact q4 _ zo zo
  obtain⟨jP,nB⟩:=Ag R hG cq (bP:=vs++cl.args.map a.eval++us) (by simp at l1⊢;omega) (λi hi dv=>by
   simp only[adn]at hi;simp only[adz]
   refine R.fz (eF i hi dv) _ λhb=>?_
   exact aeK.2 ⟨_,adi hi,hb⟩) h o.dst hd (Kc:=Kc) (Qc:=Qc) hK hP
  unfold Oper.wp execOp;simp only[dj,fe JI,hcf,Deferred.ofValue,adq,Sem.run_pure,Result.andThen_ok,invoke];rw[f_ jP];simp only[Oper.upon];exact nB
def PR (R:Rel P w0 n bL g S H a w) (hG:ar GI) (cq:GI w0) {o:Oper} {tk:Bool} {hr:HR} (hd:∀ t,o.dst=some t→t < n) (eI:∀ t,o.dst=some t→t∉(comp P n tk hr o).rd) (bW:∀ d,o.dst=some d→(comp P n tk hr o).jy=true→¬ g.old.bx d)
  {K:an->ao->Prop} {Qp:AV->Prop} (h:ba P GI (comp P n tk hr o) o.dst K Qp S H) {Kc:Act->World->Prop} {Qc:Exit->Act->World->Prop}
  (hK:∀g' S' H' a' w',g'.base=g.base->g'.old=g.old->Rel P w0 n bL g' S' H' a' w'->K S' H'->Kc a' w')
  (hP:∀v c hi w',Below w0.heap.size w0 w'->(∀b,w'.heap.size<=b->hi b=0)->RD (pK w0.heap.size g.old.c hi) w' v c->Qp v->Qc (.panic [{ v:=c,recovered:=false }]) a w'):
  o.wp P a w Kc Qc:=by
 by_cases bV:(comp P n tk hr o).calm=true
 .rw[BB bV]at h;split at h
  case h_2=>exact h.elim
  rename_i e he
  exact(yi R rfl bV (λt ht=>⟨hd t ht,id⟩) (λ_ _=>id) eI he).wp λg' a' w' h1 h2 R'=>hK g' _ _ _ _ h1 h2 R' h
 .generalize hc:comp P n tk hr o=op at h bV eI bW
  cases op<;>try (exact absurd rfl bV)
  case alloc t cs=>
   simp only[ba]at h
   cases iu:o.dst with
   |none=>rw[iu]at h;exact h.elim
   |some d=>
    rw[iu]at h;obtain⟨dj,hz⟩:=Bw hc;unfold zeroCells at hz;split at hz
    case h_2=>cases hz
    rename_i it hi;split at hz
    case h_2=>cases hz
    rename_i z YZ;obtain⟨h1,h2,h3⟩:=iE g.Pr w hz
    refine D6 R iu (hd d iu) (bW d iu rfl) (vs:=z.cells) (ty:=t) (cs:=cs) ?_ (by simpa using h1) (λg' j hj dU=>⟨h2 _ (adi hj),by have:=h3 P g' (.cell d) j hj (by simpa using dU);rwa [Array.getElem_toList]at this⟩) λg' a' w' e1 e2 R'=>hK g' _ _ _ _ e1 e2 R' h
    unfold execOp;simp[dj,Instr.alloc,zeroValue,typeInfo,hi,YZ,newVar,newRow]
  case box t size x=>
   simp only[ba]at h
   cases iu:o.dst with
   |none=>rw[iu]at h;exact h.elim
   |some d=>
    rw[iu]at h;obtain⟨xB,zc,hk⟩:=h;obtain⟨x',dj,hx⟩:=QT hc;have hv:=(R.ev hx (λ_ _=>id)).dW (AV.j_ zc);have dh:=hv.Vq zc
    have aaD:py g.Pr w ((AL.ev S x).cells.map AV.aJ) (a.eval x').cells:=by
     refine py.mk' (by simpa using dh.1) (λi v c e1 e2=>?_) (λi v e1=>?_)
     .simp only[adO,adv]at e1;obtain⟨u,h1,rfl⟩:=e1;exact(dh.get h1 e2).aJ
     .simp only[adO,adv]at e1;obtain⟨u,h1,rfl⟩:=e1;exact(AV.pc _).trans (dh.one h1)
    refine D6 R iu (hd d iu) (bW d iu rfl) (vs:=(a.eval x').cells) (ty:=t) ?_ aaD (λg' j hj dU=>⟨by simp only[adz];exact AV.qJ _,by simp only[adz];exact gW _ _ _⟩) λg' a' w' e1 e2 R'=>hK g' _ _ _ _ e1 e2 R' hk
    unfold execOp;simp[dj,Instr.box,newVar,newRow]
  case panic x=>
   simp only[ba]at h;obtain⟨x',dj,hx⟩:=Jo hc;have hv:=R.ev hx (λ_ _=>id);generalize AL.ev S x=v at h hv;generalize mz:a.eval x'=c at hv
   cases v<;>try exact h.elim
   rename_i t v;cases hv;rename_i hv;have pE:=hv;cases pE;rename_i c' pE;unfold Oper.wp execOp;simp only[dj,mz,Instr.panic,adq,run_goPanic,Result.andThen_halt];have uw:=R.below;rw[R.base]at uw;refine hP (.iface t v) (.iface t c') g.hi w uw (λb hb=>(R.fresh b hb).1) ?_ h;rw[<-R.base];exact hv
  case call f args=>
   exact tG R hG cq hc (λt ht=>⟨hd t ht,id⟩) (λ_ _=>id) h (λv g' a' w' e1 e2 R' hk=>hK g' _ _ _ _ e1 e2 R' hk) hP
  case gr f args=>
   simp only[ba]at h;split at h
   case h_2=>exact h.elim
   rename_i k first cap zb;exact va R hG cq hc (λt ht=>⟨hd t ht,id⟩) (λ_ _=>id) zb h (λv g' a' w' e1 e2 R' hk=>hK g' _ _ _ _ e1 e2 R' hk) hP
  case other=>exact h.elim
end
section
variable{P:Program}{GI:World->Prop}{w0:World}{n:Nat}{U:Nat->Prop}{g:Gh}{S:an}{H:ao}{a:Act}{w:World}
inductive dT where
 |normal|exit (id:Nat)|ret|panic (v:AV)
def QQ(P:Program)(w0:World)(n:Nat)(old:Old)(Q:dT->an->ao->Prop):Exit->Act->World->Prop
 |.normal,a,w=>∃g S H,g.old=old/\Rel P w0 n bL g S H a w/\Q .normal S H
 |.exit id,a,w=>∃g S H,g.old=old/\Rel P w0 n bL g S H a w/\Q (.exit id) S H
 |.ret,a,w=>∃g S H,g.old=old/\Rel P w0 n bL g S H a w/\Q .ret S H
 |.panic chain,a,w=>a.defers=old.ds/\∃v c hi S H,chain=[{ v:=c,recovered:=false }]/\Below w0.heap.size w0 w/\(∀b,w.heap.size<=b->hi b=0)/\RD (pK w0.heap.size old.c hi) w v c/\Q (.panic v) S H
 |_,_,_=>False
def vg(Pr:Nat->Nat->Prop)(w:World):RD Pr w cz undef:=.dR [] #[] rfl λi h=>by simp at h
def Rel.Sk(R:Rel P w0 n U g S H a w)(dst:Option Nat)(hd:∀t,dst=some t->t<n):Rel P w0 n U g (Go.AL.aX S dst cz) H (a.put dst undef) w:=
 R.aX dst _ _ hd (.data _ _ (vg _ _)) λ_ _=>trivial
def sM (R:Rel P w0 n U g S H a w) {dr:Bool} {ops:Array Oper} {o:Oper} {b:Bool} (hu:∀ t b,(bt P n dr ops o).guard=some (t,b)→¬ U t)
  (bX:(bt P n dr ops o).ok n=true) (h:aF S (bt P n dr ops o).guard=some b):Region.wanted o (yielded ops a.tmps)=b:=by
 unfold Region.wanted;simp only[bt]at bX h hu
 cases hg:o.guard with
 |none=>
  rw[hg]at h;simp only[aF,adN]at h;exact h
 |some p=>
  obtain⟨j,want⟩:=p;rw[hg]at h bX hu;simp only at h bX hu⊢
  cases hj:Cw ops j with
  |none=>
   rw[hj]at bX;simp only[bH.ok,adk,adr]at bX;omega
  |some t=>
   rw[hj]at h bX hu;simp only[bH.ok,adk,adr]at bX;have ht:t<n:=bX.2;have hs:=R.slot t ht (hu t want rfl)
   have hy:yielded ops a.tmps j=(match a.tmps.getD t undef with|.bool b=>some b|_=>none):=by
    unfold yielded;unfold Cw at hj;rw[hj]
    have:t<a.tmps.size:=by rw[R.size];exact ht
    simp[this]
    split<;>simp_all
   rw[hy];simp only[aF]at h;generalize S t=v at h hs;generalize a.tmps.getD t undef=c at hs;split at h
   .cases h;cases hs;rename_i hs;cases hs;rename_i c'
    cases c'<;>cases want<;>rfl
   .cases h;cases hs;rename_i hs;cases hs
    simp_all
   .cases h
def rU (hG:ar GI) (cq:GI w0) {old:Old} {ops:Array Oper} {Q:dT→an→ao→Prop} {S0:an} {H0:ao} :
  ∀(l:List Nat)(os:List Oper)(g:Gh)(S:an)(H:ao)(a:Act)(w:World),l.map (ops[·]?)=os.map some->(∀o∈os,(bt P n false ops o).ok n=true)->(∀o∈os,∀d∈(bt P n false ops o).jy,¬old.bx d)->g.old=old->Rel P w0 n bL g S H a w->
   bp P GI (os.map (bt P n false ops)) (Q .normal) (λv=>Q (.panic v) S0 H0) S H->wpOps P ops (QQ P w0 n old Q) l a w
 |[],os,g,S,H,a,w,hl,_,_,ho,R,h=>by
  have:os=[]:=by cases os with|nil=>rfl|cons=>simp at hl
  subst this;exact⟨g,S,H,ho,R,h⟩
 |i::l,os,g,S,H,a,w,hl,bX,bW,ho,R,h=>by
  cases os with
  |nil=>simp at hl
  |cons o os=>
   simp only[ady,ae7]at hl;obtain⟨hi,hl⟩:=hl;have tT:=bX o adx;simp only[ady,bp]at h;simp only[wpOps,hi]
   have uP:∀t,o.dst=some t->t<n/\t∉(bt P n false ops o).op.rd:=by
    intro t ht;simp only[bH.ok,adk]at tT;have h1:=tT.1;rw[show(bt P n false ops o).dst=o.dst from rfl,ht]at h1;simpa using h1
   cases hw:aF S (bt P n false ops o).guard with
   |none=>rw[hw]at h;exact h.elim
   |some b=>
    rw[hw]at h;rw[sM R (λ_ _ _=>id) tT hw]
    cases b with
    |true=>
     simp only[adS];refine .inl (PR R hG cq (λt ht=>(uP t ht).1) (λt ht=>(uP t ht).2) (λd hd hl=>by rw[ho];exact bW o adx d (by have:(bt P n false ops o).op.jy=true:=hl;simp only[bH.jy,this,adS];rw[show(bt P n false ops o).dst=o.dst from rfl,hd];simp)) h (λg' S' H' a' w' e1 e2 R' hk=>rU hG cq l os g' S' H' a' w' hl (λo ho=>bX o (adu _ ho)) (λo ho=>bW o (adu _ ho)) (e2.trans ho) R' hk) ?_);intro v c hi w' k1 k2 k3 k4;exact⟨by rw[<-ho];exact R.defers,v,c,hi,S0,H0,rfl,k1,k2,by rw[<-ho];exact k3,k4⟩
    |false=>
     simp only[ads,adH];exact rU hG cq l os g _ H _ w hl (λo ho=>bX o (adu _ ho)) (λo ho=>bW o (adu _ ho)) ho (R.Sk o.dst λt ht=>(uP t ht).1) h
def NN (hG:ar GI) (cq:GI w0) {old:Old} {id:Nat} {ops:Array Oper} {Q:dT→an→ao→Prop} (bX:(bh P n false ops).all (·.ok n)=true) (bW:∀ o∈bh P n false ops,∀ d∈o.jy,¬ old.bx d) (ho:g.old=old) (R:Rel P w0 n bL g S H a w)
  (h:bp P GI (bh P n false ops) (Q .normal) (λv=>Q (.panic v) S H) S H):(Code.region id ops false).wp P (QQ P w0 n old Q) a w:=by
 refine wp_region (rU hG cq (S0:=S) (H0:=H) (List.range ops.size) ops.toList g S H a w ?_ (λo kv=>?_) (λo kv=>bW _ (afr kv)) ho R h)
 .apply aeH;intro i;simp only[adO]
  by_cases hi:i<ops.size
  .simp[hi]
  .simp[hi]
 .simp only[bh,aeY,adw,Function.comp]at bX;exact bX o kv
end
inductive Acc where
 |no|rd (r:Option Nat)|soft (r:Option Nat)|wr (r:Option Nat)
def HR.one:HR->Option Nat
 |.box r=>some r
 |_=>none
def eC.acc:eC->Acc
 |.load .ref ..=>.no
 |.load hr ..=>.rd hr.one
 |.loadT hr _=>.soft hr.one
 |.store hr ..=>.wr hr.one
 |_=>.no
def meets:Option Nat->Option Nat->Bool
 |some a,some b=>a==b
 |_,_=>true
def Acc.conflict:Acc->Acc->Bool
 |.no,_|_,.no=>false
 |.rd _,.rd _|.rd _,.soft _|.soft _,.rd _=>false
 |.rd a,.wr b|.wr a,.rd b|.soft a,.soft b|.soft a,.wr b|.wr a,.soft b|.wr a,.wr b=>meets a b
def eC.wr:eC->List Nat
 |.mv true x=>x.tmps
 |.store _ _ _ x=>x.tmps
 |.append _ _ _ _ x _=>x.tmps
 |_=>[]
def bH.reads(o:bH):List Nat:=o.op.rd++(match o.guard with|some (t,_)=>[t]|none=>[])
def bH.writes(o:bH):List Nat:=o.dst.toList++o.op.wr
def bH.apart(x y:bH):Bool:=
 x.writes.all (λt=>!y.reads.contains t&&!y.writes.contains t)&&y.writes.all (λt=>!x.reads.contains t)&&!x.op.acc.conflict y.op.acc
section
variable{P:Program}{GI:World->Prop}
def lh(P:Program)(GI:World->Prop)(op:eC)(dst:Option Nat)(S:an)(H:ao)(e:aP):Prop:=
 match op with
 |.alloc _ _=>match dst with
  |some d=>e={ v:=.box d 0 }
  |none=>False
 |.call f args=>(args.any λy=>cW (ev S y))=false/\lB P GI f (args.map λy=>fz H (ev S y)) (args.any λy=>cW (ev S y)) (λv=>e={ v:=v }) (λ_=>False)
 |.gr f args=>match ev S f with
  |.func (.func k) first cap=>((first++args.map (ev S)++cap).any cW)=false/\lB P GI k ((first++args.map (ev S)++cap).map (fz H)) ((first++args.map (ev S)++cap).any cW) (λv=>e={ v:=v }) (λ_=>False)
  |_=>False
 |.box ..|.panic _|.other=>False
 |op=>aD S H op=some e
def jD(P:Program)(GI:World->Prop)(op:eC)(dst:Option Nat)(K:an->ao->Prop)(S:an)(H:ao):Prop:=
 match op with
 |.alloc _ _=>match dst with
  |some d=>K (au S d (.box d 0)) H
  |none=>False
 |.box ..|.panic _|.other=>False
 |.call f args=>(args.any λy=>cW (ev S y))=false/\ba P GI (.call f args) dst K (λ_=>False) S H
 |.gr f args=>(match ev S f with|.func _ first cap=>(first++args.map (ev S)++cap).any cW|_=>true)=false/\ba P GI (.gr f args) dst K (λ_=>False) S H
 |op=>ba P GI op dst K (λ_=>False) S H
def uJ{op:eC}{dst:Option Nat}{K:an->ao->Prop}{S:an}{H:ao}(h:jD P GI op dst K S H):∃e,lh P GI op dst S H e/\K (e.S S dst) (e.H H):=by
 cases op
 case alloc t z=>
  cases dst with
  |none=>exact h.elim
  |some d=>exact⟨_,rfl,h⟩
 case call f args=>
  obtain⟨hb,out,h1,h2,h3,h4⟩:=h
  cases out with
  |ret v=>exact⟨{ v:=v },⟨hb,.ret v,h1,h2,h3,rfl⟩,h4⟩
  |panic v=>exact h4.elim
 case gr f args=>
  simp only[jD,ba]at h;simp only[lh];obtain⟨hb,h⟩:=h;split at h
  .rename_i k first cap hf;rw[hf]at hb;obtain⟨out,h1,h2,h3,h4⟩:=h
   cases out with
   |ret v=>exact⟨{ v:=v },by(try simp only[hf]);exact⟨hb,.ret v,h1,h2,h3,rfl⟩,h4⟩
   |panic v=>exact h4.elim
  .exact h.elim
 case box=>exact h.elim
 case panic=>exact h.elim
 case other=>exact h.elim
 all_goals
  simp only[jD,ba]at h;split at h
  case h_2=>exact h.elim
  rename_i e he;exact⟨e,he,h⟩
def cU(P:Program)(GI:World->Prop):List bH->(an->ao->Prop)->an->ao->Prop
 |[],K,S,H=>K S H
 |o::rest,K,S,H=>match aF S o.guard with
  |some true=>jD P GI o.op o.dst (cU P GI rest K) S H
  |some false=>cU P GI rest K (aX S o.dst cz) H
  |none=>False
def eu(P:Program)(GI:World->Prop)(o:bH)(S:an)(H:ao)(e:aP):Prop:=
 match aF S o.guard with
 |some true=>lh P GI o.op o.dst S H e
 |some false=>e={ v:=cz }
 |none=>False
def tZ {o:bH} {rest:List bH} {K:an→ao→Prop} {S:an} {H:ao} (h:cU P GI (o::rest) K S H) :
  ∃e,eu P GI o S H e/\cU P GI rest K (e.S S o.dst) (e.H H):=by
 simp only[cU]at h;unfold eu;split at h
 .exact uJ h
 .exact⟨_,rfl,h⟩
 .exact h.elim
def bK{S S':an}{y:cT}(h:∀t∈y.tmps,S t=S' t):ev S y=ev S' y:=by
 cases y with
 |t k=>exact h k (by simp[cT.tmps])
 |c v=>rfl
 |f k=>rfl
 |m k Nv=>simp only[ev,h k (by simp[cT.tmps])]
def xA{S S':an}{ys:List cT}(h:∀y∈ys,∀t∈y.tmps,S t=S' t):ys.map (ev S)=ys.map (ev S'):=
 aeb λy hy=>bK (h y hy)
def vX:Acc->ao->ao->Prop
 |.no,_,_=>True
 |.rd none,H,H'=>∀i,(H i).map (·.map AV.aJ)=(H' i).map (·.map AV.aJ)
 |.rd (some r),H,H'=>(H r).map (·.map AV.aJ)=(H' r).map (·.map AV.aJ)
 |.soft none,H,H'|.wr none,H,H'=>H=H'
 |.soft (some r),H,H'|.wr (some r),H,H'=>H r=H' r
def N6{ag:Bool}{size off:Nat}{cs fU:List AV}(h:cs.map AV.aJ=fU.map AV.aJ):cb ag size (cs.drop off)=cb ag size (fU.drop off):=by
 have hl:cs.length=fU.length:=by have:=congrArg List.length h;simpa using this
 have hd:(cs.drop off).map AV.aJ=(fU.drop off).map AV.aJ:=by rw[agA,agA,h]
 generalize hx:cs.drop off=xs at hd;generalize hy:fU.drop off=ys at hd
 have ux:xs.length=ys.length:=by have:=congrArg List.length hd;simpa using this
 unfold cb
 have e1:(xs.take size).map AV.aJ=(ys.take size).map AV.aJ:=by rw[ae_,ae_,hd]
 have e2:(xs[0]?).map AV.aJ=(ys[0]?).map AV.aJ:=by
  have:=congrArg (·[0]?) hd;simpa using this
 rw[e1,e2,ux]
def HG{S S':an}{H H':ao}{op:eC}(hS:∀t∈op.rd,S t=S' t)(hH:vX op.acc H H'):aD S H op=aD S' H' op:=by
 cases op
 case build z ps=>
  have:(ps.map λ(o,s,x)=>(o,s,ev S x))=(ps.map λ(o,s,x)=>(o,s,ev S' x)):=
   aeb λq hq=>by
    have:=bK (S:=S) (S':=S') (y:=q.2.2) λt ht=>hS t (adX.2 ⟨q,hq,ht⟩)
    simp[this]
  simp only[aD,this]
 case buildSlice t e s ps=>
  have:=xA (S:=S) (S':=S') (ys:=ps) λy hy t ht=>hS t (adX.2 ⟨y,hy,ht⟩)
  simp only[aD,this]
 case EK fn f c=>
  simp only[eC.rd,adm,adX]at hS
  have h1:(f.map λx=>(ev S x).aJ)=(f.map λx=>(ev S' x).aJ):=aeb λy hy=>by rw[bK λt ht=>hS t (.inl ⟨y,hy,ht⟩)]
  have h2:(c.map λx=>(ev S x).aJ)=(c.map λx=>(ev S' x).aJ):=aeb λy hy=>by rw[bK λt ht=>hS t (.inr ⟨y,hy,ht⟩)]
  simp only[aD,h1,h2]
 case oN x lo hi=>
  simp only[eC.rd,adm,adX]at hS
  have h0:=bK (S:=S) (S':=S') (y:=x) λt ht=>hS t (.inl ht)
  have h1:lo.map (ev S)=lo.map (ev S'):=by cases lo with|none=>rfl|some y=>simp only[Option.map_some,adN];exact bK λt ht=>hS t (.inr ⟨y,.inl ahi,ht⟩)
  have h2:hi.map (ev S)=hi.map (ev S'):=by cases hi with|none=>rfl|some y=>simp only[Option.map_some,adN];exact bK λt ht=>hS t (.inr ⟨y,.inr ahi,ht⟩)
  simp only[aD,h0,h1,h2]
 case nC s x lo hi=>
  simp only[eC.rd,adm,adX]at hS
  have h0:=bK (S:=S) (S':=S') (y:=x) λt ht=>hS t (.inl ht)
  have h1:lo.map (ev S)=lo.map (ev S'):=by cases lo with|none=>rfl|some y=>simp only[Option.map_some,adN];exact bK λt ht=>hS t (.inr ⟨y,.inl ahi,ht⟩)
  have h2:hi.map (ev S)=hi.map (ev S'):=by cases hi with|none=>rfl|some y=>simp only[Option.map_some,adN];exact bK λt ht=>hS t (.inr ⟨y,.inr ahi,ht⟩)
  simp only[aD,h0,h1,h2]
 case load hr ag s x=>
  have e:=bK (S:=S) (S':=S') (y:=x) hS;simp only[aD,e];split
  .rename_i i off he;split
   case isFalse=>rfl
   rename_i bX
   have hd:(H i).map (·.map AV.aJ)=(H' i).map (·.map AV.aJ):=by
    cases hr with
    |any=>exact hH i
    |ref=>cases bX
    |box r=>
     have:i=r:=by simpa[HR.okB]using bX
     subst this;exact hH
   cases h1:H i<;>cases h2:H' i<;>rw[h1,h2]at hd<;>simp only[Option.map_none,Option.map_some,reduceCtorEq,adN]at hd
   .simp only[N6 hd]
  .rfl
  .rfl
 case loadT hr x=>
  have e:=bK (S:=S) (S':=S') (y:=x) hS;simp only[aD,e];split
  .rename_i i off he;split
   case isFalse=>rfl
   rename_i bX
   have hd:H i=H' i:=by
    cases hr with
    |any=>cases(show H=H' from hH);rfl
    |ref=>cases bX
    |box r=>
     have:i=r:=by simpa[HR.okB]using bX
     subst this;exact hH
   rw[hd]
  .rfl
 case store hr s x y=>
  simp only[eC.rd,adm]at hS
  have e1:=bK (S:=S) (S':=S') (y:=x) λt ht=>hS t (.inl ht)
  have e2:=bK (S:=S) (S':=S') (y:=y) λt ht=>hS t (.inr ht)
  simp only[aD,e1,e2];split
  .rename_i i off he;split
   case isFalse=>rfl
   rename_i bX
   have hd:H i=H' i:=by
    cases hr with
    |any=>cases(show H=H' from hH);rfl
    |ref=>cases bX
    |box r=>
     have:i=r:=by simpa[HR.okB]using bX
     subst this;exact hH
   rw[hd]
  .rfl
 case pick x y z=>
  simp only[eC.rd,adm]at hS;simp only[aD,bK λt ht=>hS t (.inl (.inl ht)),bK λt ht=>hS t (.inl (.inr ht)),bK λt ht=>hS t (.inr ht)]
 case bin=>simp only[eC.rd,adm]at hS;simp only[aD,bK λt ht=>hS t (.inl ht),bK λt ht=>hS t (.inr ht)]
 case Eo=>simp only[eC.rd,adm]at hS;simp only[aD,bK λt ht=>hS t (.inl ht),bK λt ht=>hS t (.inr ht)]
 case eqs=>simp only[eC.rd,adm]at hS;simp only[aD,bK λt ht=>hS t (.inl ht),bK λt ht=>hS t (.inr ht)]
 case oQ xs=>
  have:=xA (S:=S) (S':=S') (ys:=xs) λy hy t ht=>hS t (adX.2 ⟨y,hy,ht⟩)
  simp only[aD,this]
 case oP=>simp only[eC.rd,adm]at hS;simp only[aD,bK λt ht=>hS t (.inl ht),bK λt ht=>hS t (.inr ht)]
 case mK=>simp only[eC.rd,adm]at hS;simp only[aD,bK λt ht=>hS t (.inl ht),bK λt ht=>hS t (.inr ht)]
 case lookup=>simp only[eC.rd,adm]at hS;simp only[aD,bK λt ht=>hS t (.inl ht),bK λt ht=>hS t (.inr ht)]
 case indexAddr=>simp only[eC.rd,adm]at hS;simp only[aD,bK λt ht=>hS t (.inl ht),bK λt ht=>hS t (.inr ht)]
 case oT=>simp only[eC.rd,adm]at hS;simp only[aD,bK λt ht=>hS t (.inl ht),bK λt ht=>hS t (.inr ht)]
 case append=>simp only[eC.rd,adm]at hS;simp only[aD,bK λt ht=>hS t (.inl ht),bK λt ht=>hS t (.inr ht)]
 case max=>simp only[eC.rd,adm]at hS;simp only[aD,bK λt ht=>hS t (.inl ht),bK λt ht=>hS t (.inr ht)]
 case min=>simp only[eC.rd,adm]at hS;simp only[aD,bK λt ht=>hS t (.inl ht),bK λt ht=>hS t (.inr ht)]
 all_goals first
  |rfl
  |simp only[aD,bK hS]
def DU{H H':ao}{v:AV}(h:rE v=false):gZ H v=gZ H' v:=by cases v<;>first|rfl|cases h
def Ab{H H':ao}{v:AV}(h:cW v=false):fz H v=fz H' v:=by
 cases v<;>first|rfl|skip
 case box=>cases h
 case func fn first cap=>
  simp only[cW,agf,aeg,ae0]at h;simp only[fz]
  congr 1
  .exact aeb λy hy=>DU (h.1 y hy)
  .exact aeb λy hy=>DU (h.2 y hy)
def KD{S S':an}{H H':ao}{op:eC}{dst:Option Nat}{e:aP}(hS:∀t∈op.rd,S t=S' t)(hH:vX op.acc H H')(h:lh P GI op dst S H e):lh P GI op dst S' H' e:=by
 cases op
 case alloc=>exact h
 case box=>exact h
 case panic=>exact h
 case other=>exact h
 case call f args=>
  simp only[eC.rd,adX]at hS;simp only[lh]at h⊢;obtain⟨hb,h⟩:=h
  have h2:(args.any λy=>cW (ev S y))=(args.any λy=>cW (ev S' y)):=by
   rw[ad5];simp only[aeK]
   constructor
   .rintro⟨y,hy,hb⟩;exact⟨y,hy,by rw[<-bK λt ht=>hS t ⟨y,hy,ht⟩];exact hb⟩
   .rintro⟨y,hy,hb⟩;exact⟨y,hy,by rw[bK λt ht=>hS t ⟨y,hy,ht⟩];exact hb⟩
  have h1:(args.map λy=>fz H (ev S y))=(args.map λy=>fz H' (ev S' y)):=aeb λy hy=>by
   rw[<-bK λt ht=>hS t ⟨y,hy,ht⟩];simp only[aeg,ae0]at hb;exact Ab (hb y hy)
  rw[<-h1,<-h2];exact⟨hb,h⟩
 case gr f args=>
  simp only[eC.rd,adm,adX]at hS;simp only[lh]at h⊢
  have h1:=xA (S:=S) (S':=S') (ys:=args) λy hy t ht=>hS t (.inr ⟨y,hy,ht⟩)
  rw[<-bK λt ht=>hS t (.inl ht)];split at h
  case h_2=>exact h.elim
  obtain⟨hb,h⟩:=h;rw[<-h1];refine⟨hb,?_⟩
  have h3:∀l:List AV,l.any cW=false->l.map (fz H)=l.map (fz H'):=λl hl=>aeb λy hy=>by
   simp only[aeg,ae0]at hl;exact Ab (hl y hy)
  rw[<-h3 _ hb];exact h
 all_goals
  simp only[lh]at h⊢;rw[<-HG hS hH];exact h
def aP.uQ{e:aP}{S:an}{dst:Option Nat}{t:Nat}(h1:dst≠some t)(h2:e.dm≠some t):e.S S dst t=S t:=by
 unfold aP.S
 cases dst with
 |none=>
  cases hd:e.dm with
  |none=>rfl
  |some k=>simp only[aX];exact aQ _ _ (λh=>h2 (by rw[hd,h]))
 |some d=>
  simp only[aX];rw[aQ _ _ (λh=>h1 (by rw[h]))]
  cases hd:e.dm with
  |none=>rfl
  |some k=>exact aQ _ _ (λh=>h2 (by rw[hd,h]))
def DG(acc:Acc)(H:ao):Option (Nat×List AV)->Prop
 |none=>True
 |some (i,cs)=>match acc with
  |.soft r=>meets r (some i)=true/\∃old,H i=some old/\old.map AV.aJ=cs.map AV.aJ
  |.wr r=>meets r (some i)=true
  |_=>False
def CG{hr:HR}{i:Nat}(h:hr.okB i=true):meets hr.one (some i)=true:=by
 cases hr with
 |any=>rfl
 |ref=>cases h
 |box r=>simp only[HR.okB]at h;simp only[HR.one,meets];rw[adY]at h⊢;exact h.symm
def iH(v:AV):v.aJ=v.aJ.aJ:=(AV.idem v).symm
def Qe{S:an}{H:ao}{op:eC}{e:aP}(h:aD S H op=some e):(∀t,e.dm=some t->t∈op.wr)/\DG op.acc H e.hw:=by
 cases op
 case mv tk x=>
  simp only[aD]at h
  split at h<;>cases h
  .rename_i qn;subst qn;refine⟨λt ht=>?_,trivial⟩
   cases x<;>simp only[bw]at ht<;>cases ht
   simp[eC.wr,cT.tmps]
  .exact⟨λt ht=>(by cases ht),trivial⟩
 case store hr s x y=>
  simp only[aD]at h
  split at h<;>try cases h
  split at h<;>try cases h
  split at h<;>try cases h
  split at h<;>cases h
  rename_i bX _ _ _ _;refine⟨λt ht=>?_,CG (by assumption)⟩
  cases y<;>simp only[bw]at ht<;>cases ht
  simp[eC.wr,cT.tmps]
 case loadT hr x=>
  simp only[aD]at h
  split at h<;>try cases h
  split at h<;>try cases h
  split at h<;>try cases h
  split at h<;>cases h
  refine⟨λt ht=>(by cases ht),CG (by assumption),_,by assumption,?_⟩;rename_i cs rW _ v hv;rw[List.map_set];obtain⟨aq,rfl⟩:=adG.1 hv;apply af_ ahi;intro j h1 h2;rw[af9];split
  .rename_i hj;subst hj;simp only[adz];exact iH _
  .rfl
 case append t e s b x y=>
  simp only[aD]at h;split at h
  .split at h<;>cases h
   exact⟨λt ht=>(by cases ht),trivial⟩
  .split at h<;>cases h
   refine⟨λt ht=>?_,trivial⟩
   cases x<;>simp only[bw]at ht<;>cases ht
   simp[eC.wr,cT.tmps]
  .cases h
 all_goals
  simp only[aD]at h
  first
   |(cases h;done)
   |(simp only[adv]at h;obtain⟨_,_,rfl⟩:=h;exact⟨λt ht=>(by cases ht),trivial⟩)
   |((repeat' split at h)<;>first|(cases h;done)|(cases h;exact⟨λt ht=>(by cases ht),trivial⟩)|(simp only[adv]at h;obtain⟨_,_,rfl⟩:=h;exact⟨λt ht=>(by cases ht),trivial⟩))
def Mc{S:an}{H:ao}{op:eC}{dst:Option Nat}{e:aP}(h:lh P GI op dst S H e):(∀t,e.dm=some t->t∈op.wr)/\DG op.acc H e.hw:=by
 cases op
 case alloc=>
  simp only[lh]at h;split at h
  .subst h;exact⟨λt ht=>(by cases ht),trivial⟩
  .exact h.elim
 case box=>exact h.elim
 case panic=>exact h.elim
 case other=>exact h.elim
 case call f args=>
  obtain⟨_,out,_,_,_,h4⟩:=h
  cases out with
  |ret v=>cases(show e=_ from h4);exact⟨λt ht=>(by cases ht),trivial⟩
  |panic v=>exact h4.elim
 case gr f args=>
  simp only[lh]at h;split at h
  .obtain⟨_,out,_,_,_,h4⟩:=h
   cases out with
   |ret v=>cases(show e=_ from h4);exact⟨λt ht=>(by cases ht),trivial⟩
   |panic v=>exact h4.elim
  .exact h.elim
 all_goals exact Qe h
def fj{S:an}{H:ao}{o:bH}{e:aP}(h:eu P GI o S H e):(∀t,e.dm=some t->t∈o.op.wr)/\DG o.op.acc H e.hw:=by
 unfold eu at h;split at h
 .exact Mc h
 .subst h;exact⟨λt ht=>(by cases ht),trivial⟩
 .exact h.elim
def vi{S S':an}{gd:Option (Nat×Bool)}(h:∀t b,gd=some (t,b)->S t=S' t):aF S gd=aF S' gd:=by
 cases gd with
 |none=>rfl
 |some p=>obtain⟨t,b⟩:=p;simp only[aF,h t b rfl]
def wK{S S':an}{H H':ao}{o:bH}{e:aP}(hS:∀t∈o.reads,S t=S' t)(hH:vX o.op.acc H H')(h:eu P GI o S H e):eu P GI o S' H' e:=by
 unfold eu at*
 have hg:aF S o.guard=aF S' o.guard:=vi λt b CH=>hS t (by simp[bH.reads,CH])
 rw[<-hg];split at h
 .exact KD (λt ht=>hS t (by simp[bH.reads,ht])) hH h
 .exact h
 .exact h
def DZ(a b:Acc):a.conflict b=b.conflict a:=by
 cases a<;>cases b<;>simp only[Acc.conflict]<;>(rename_i x y;cases x<;>cases y<;>simp only[meets];rw[ad5,adY,adY];exact eq_comm)
def apart_spec {x y:bH} (h:x.apart y=true) :
  (∀t∈x.writes,t∉y.reads/\t∉y.writes)/\(∀t∈y.writes,t∉x.reads)/\x.op.acc.conflict y.op.acc=false:=by
 simp only[bH.apart,adk,adw,aeh]at h;obtain⟨⟨h1,h2⟩,h3⟩:=h;refine⟨λt ht=>?_,λt ht=>?_,h3⟩
 .have:=h1 t ht;simpa using this
 .have:=h2 t ht;simpa using this
def D_{x y:Acc}(hc:x.conflict y=false){e:aP}{H:ao}(hw:DG y H e.hw):vX x H (e.H H):=by
 have refl:∀{H':ao},H=H'->vX x H H':=by
  rintro _ rfl
  cases x with
  |no=>trivial
  |rd r=>cases r<;>simp[vX]
  |soft r=>cases r<;>simp[vX]
  |wr r=>cases r<;>simp[vX]
 unfold aP.H
 cases hh:e.hw with
 |none=>exact refl rfl
 |some p=>
  obtain⟨i,cs⟩:=p;rw[hh]at hw;simp only
  cases x with
  |no=>trivial
  |rd r=>
   cases y with
   |no=>exact hw.elim
   |rd=>exact hw.elim
   |soft q=>
    obtain⟨_,old,h1,h2⟩:=hw
    have key:∀j,(H j).map (·.map AV.aJ)=(au H i (some cs) j).map (·.map AV.aJ):=by
     intro j
     by_cases hj:j=i
     .subst hj;rw[aO,h1];simp[h2]
     .rw[aQ _ _ hj]
    cases r with
    |none=>exact key
    |some r=>exact key r
   |wr q=>
    cases r with
    |none=>cases q<;>simp[Acc.conflict,meets]at hc
    |some r=>
     cases q with
     |none=>simp[Acc.conflict,meets]at hc
     |some q=>
      simp only[Acc.conflict,meets,ad4]at hc
      have hq:q=i:=by simpa[DG,meets]using hw
      subst hq;simp only[vX];rw[aQ _ _ hc]
  |soft r=>
   have cP:∀q,meets q (some i)=true->meets r q=false->∃r',r=some r'/\r'≠i:=by
    intro q h1 h2
    cases r with
    |none=>cases q<;>simp[meets]at h2
    |some r=>
     cases q with
     |none=>simp[meets]at h2
     |some q=>
      simp only[meets,adY,ad4]at h1 h2;exact⟨r,rfl,by rw[<-h1];exact h2⟩
   cases y with
   |no=>exact hw.elim
   |rd=>exact hw.elim
   |soft q=>
    obtain⟨r',rfl,hn⟩:=cP q hw.1 hc;simp only[vX];rw[aQ _ _ hn]
   |wr q=>
    obtain⟨r',rfl,hn⟩:=cP q hw hc;simp only[vX];rw[aQ _ _ hn]
  |wr r=>
   have cP:∀q,meets q (some i)=true->meets r q=false->∃r',r=some r'/\r'≠i:=by
    intro q h1 h2
    cases r with
    |none=>cases q<;>simp[meets]at h2
    |some r=>
     cases q with
     |none=>simp[meets]at h2
     |some q=>
      simp only[meets,adY,ad4]at h1 h2;exact⟨r,rfl,by rw[<-h1];exact h2⟩
   cases y with
   |no=>exact hw.elim
   |rd=>exact hw.elim
   |soft q=>
    obtain⟨r',rfl,hn⟩:=cP q hw.1 hc;simp only[vX];rw[aQ _ _ hn]
   |wr q=>
    obtain⟨r',rfl,hn⟩:=cP q hw hc;simp only[vX];rw[aQ _ _ hn]
def vX.symm{x:Acc}{H H':ao}(h:vX x H H'):vX x H' H:=by
 cases x with
 |no=>trivial
 |rd r=>cases r with
  |none=>exact λi=>(h i).symm
  |some r=>exact Eq.symm h
 |soft r=>cases r<;>exact Eq.symm h
 |wr r=>cases r<;>exact Eq.symm h
def fk{o:bH}{t:Nat}(h:o.dst=some t\/t∈o.op.wr):t∈o.writes:=by
 rcases h with h|h<;>simp[bH.writes,h]
def tz{x y:bH}{S:an}{H:ao}{ex ey:aP}(ha:x.apart y=true)(hy:eu P GI y S H ey)(hx:eu P GI x S H ex):eu P GI x (ey.S S y.dst) (ey.H H) ex:=by
 obtain⟨h1,h2,h3⟩:=apart_spec ha;obtain⟨d1,d2⟩:=fj hy;refine wK (λt ht=>?_) (D_ h3 d2) hx;rw[aP.uQ (λh=>h2 t (fk (.inl h)) ht) (λh=>h2 t (fk (.inr (d1 t h))) ht)]
def tj{x y:bH}{S:an}{H:ao}{ex ey:aP}(ha:x.apart y=true)(hx:eu P GI x S H ex)(hy:eu P GI y (ex.S S x.dst) (ex.H H) ey):eu P GI y S H ey:=by
 obtain⟨h1,h2,h3⟩:=apart_spec ha;obtain⟨d1,d2⟩:=fj hx;refine wK (λt ht=>?_) (D_ (by rw[DZ];exact h3) d2).symm hy;rw[aP.uQ (λh=>(h1 t (fk (.inl h))).1 ht) (λh=>(h1 t (fk (.inr (d1 t h)))).1 ht)]
def aP.aaU(e:aP)(S:an)(dst:Option Nat)(t:Nat):e.S S dst t=if dst=some t then e.v else if e.dm=some t then(S t).aJ else S t:=by
 unfold aP.S
 cases dst with
 |none=>
  rw[if_neg ahi]
  cases e.dm with
  |none=>rfl
  |some k=>
   simp only[aX,adN]
   by_cases h:k=t
   .subst h;simp[aO]
   .rw[if_neg h];exact aQ _ _ (λhh=>h hh.symm)
 |some d=>
  simp only[aX,adN]
  by_cases hd:d=t
  .subst hd;simp[aO]
  .rw[if_neg hd,aQ _ _ (λhh=>hd hh.symm)]
   cases e.dm with
   |none=>rfl
   |some k=>
    simp only[adN]
    by_cases h:k=t
    .subst h;simp[aO]
    .rw[if_neg h];exact aQ _ _ (λhh=>h hh.symm)
def yj {x y:bH} {S:an} {ex ey:aP} (ha:x.apart y=true) (dx:∀ t,ex.dm=some t→t∈x.op.wr) (dy:∀ t,ey.dm=some t→t∈y.op.wr) :
  ey.S (ex.S S x.dst) y.dst=ex.S (ey.S S y.dst) x.dst:=by
 obtain⟨h1,h2,h3⟩:=apart_spec ha
 funext t
 simp only[aP.aaU]
 by_cases hx:x.dst=some t\/ex.dm=some t
 .have hxw:t∈x.writes:=fk (hx.imp id (dx t))
  have IQ:y.dst≠some t:=λh=>(h1 t hxw).2 (fk (.inl h))
  have hy2:ey.dm≠some t:=λh=>(h1 t hxw).2 (fk (.inr (dy t h)))
  simp only[if_neg IQ,if_neg hy2]
 .simp only[not_or]at hx;simp only[if_neg hx.1,if_neg hx.2]
def xw {x y:bH} {H:ao} {ex ey:aP} (ha:x.apart y=true) (dx:DG x.op.acc H ex.hw) (dy:DG y.op.acc H ey.hw) :
  ey.H (ex.H H)=ex.H (ey.H H):=by
 obtain⟨_,_,h3⟩:=apart_spec ha;unfold aP.H
 cases hx:ex.hw with
 |none=>rfl
 |some p=>
  cases hy:ey.hw with
  |none=>rfl
  |some q=>
   obtain⟨i,cs⟩:=p;obtain⟨j,ds⟩:=q;rw[hx]at dx;rw[hy]at dy;simp only
   have cP:i≠j:=by
    have key:∀a b:Option Nat,meets a (some i)=true->meets b (some j)=true->meets a b=false->i≠j:=by
     intro a b h1 h2 h3
     cases a with
     |none=>cases b<;>simp[meets]at h3
     |some a=>
      cases b with
      |none=>simp[meets]at h3
      |some b=>
       simp only[meets,adY,ad4]at h1 h2 h3;rw[<-h1,<-h2];exact h3
    generalize x.op.acc=ax at dx h3;generalize y.op.acc=ay at dy h3
    cases ax<;>cases ay<;>first|(exact dx.elim)|(exact dy.elim)|skip
    .exact key _ _ dx.1 dy.1 h3
    .exact key _ _ dx.1 dy h3
    .exact key _ _ dx dy.1 h3
    .exact key _ _ dx dy h3
   funext k
   by_cases h1:k=i
   .subst h1;rw[aQ _ _ cP,aO,aO]
   .by_cases h2:k=j
    .subst h2;rw[aO,aQ _ _ h1,aO]
    .rw[aQ _ _ h2,aQ _ _ h1,aQ _ _ h1,aQ _ _ h2]
end
section
variable{P:Program}{GI:World->Prop}{md:Region.Mode}{ops:Array Oper}{n:Nat}
def jq(P:Program)(n:Nat)(ops:Array Oper)(i:Nat):Option bH:=(ops[i]?).map (bt P n true ops)
def JA(P:Program)(GI:World->Prop)(n:Nat)(ops:Array Oper)(i:Nat)(K:an->ao->Prop)(S:an)(H:ao):Prop:=
 match jq P n ops i with
 |none=>False
 |some o=>∃e,eu P GI o S H e/\K (e.S S o.dst) (e.H H)
def yN(P:Program)(GI:World->Prop)(n:Nat)(md:Region.Mode)(ops:Array Oper)(QA:an->ao->Prop):Nat->Array Bool->an->ao->Prop
 |0,listed,S,H=>Region.ready md ops listed=[]/\QA S H
 |fuel+1,listed,S,H=>(Region.ready md ops listed=[]->QA S H)/\∀i∈Region.ready md ops listed,JA P GI n ops i (yN P GI n md ops QA fuel (listed.setIfInBounds i true)) S H
def wX{listed:Array Bool}{i:Nat}(h:i∈Region.ready md ops listed):∃o,ops[i]?=some o/\jq P n ops i=some (bt P n true ops o):=by
 obtain⟨_,o,ho,_⟩:=afe.1 h;exact⟨o,ho,by simp[jq,ho]⟩
def Kn {QA:an→ao→Prop} {i:Nat} {oi:bH} {e:aP} (hi:jq P n ops i=some oi) :
  ∀(fuel:Nat)(listed:Array Bool)(S:an)(H:ao),
   (∀j o aj,ops[j]?=some o->jq P n ops j=some aj->j≠i->listed.getD j true=false->(∀ed∈o.after,Region.binds md ed=true->ed.on≠i)->oi.apart aj=true)->
   i∈Region.ready md ops listed->eu P GI oi S H e->
   yN P GI n md ops QA fuel (listed.setIfInBounds i true) (e.S S oi.dst) (e.H H)->yN P GI n md ops QA (fuel+1) listed S H:=by
 intro fuel
 induction fuel with
 |zero=>
  intro listed S H _ hr hy hK;refine⟨λh=>(by rw[h]at hr;cases hr),λj hj=>?_⟩
  by_cases fD:j=i
  .subst fD;unfold JA;rw[hi];exact⟨e,hy,hK⟩
  .have:=afl hj fD;rw[hK.1]at this;cases this
 |succ fuel ih=>
  intro listed S H mR hr hy hK;refine⟨λh=>(by rw[h]at hr;cases hr),λj hj=>?_⟩
  by_cases fD:j=i
  .subst fD;unfold JA;rw[hi];exact⟨e,hy,hK⟩
  .have h1:=hK.2 j (afl hj fD);obtain⟨zf,o,ho,eF⟩:=afe.1 hj
   have sB:jq P n ops j=some (bt P n true ops o):=by simp[jq,ho]
   have JY:∀ed∈o.after,Region.binds md ed=true->ed.on≠i:=λed Uv hb heq=>by
    have h1:=eF ed Uv hb;have h0:=(afe.1 hr).1;rw[heq]at h1;rcases aeI i listed.size with h'|h'
    .simp[h']at h0 h1;rw[h0]at h1;cases h1
    .simp[aeN h']at h1
   have jZ:=mR j o _ ho sB fD zf JY;unfold JA at h1⊢;rw[sB]at h1⊢;obtain⟨ej,Ez,PK⟩:=h1;have uY:=tj jZ hy Ez;refine⟨ej,uY,?_⟩
   have vE:∀k o' ak,ops[k]?=some o'->jq P n ops k=some ak->k≠i->(listed.setIfInBounds j true).getD k true=false->(∀ed∈o'.after,Region.binds md ed=true->ed.on≠i)->oi.apart ak=true:=by
    intro k o' ak hk Om BR fq iq;refine mR k o' ak hk Om BR ?_ iq
    by_cases xK:j=k
    .subst xK;exact zf
    .rw[afB true xK]at fq;exact fq
   refine ih (listed.setIfInBounds j true) _ _ vE (afl hr (ad6 fD)) (tz jZ uY hy) ?_;rw[afp _ _ fD];rw[<-yj jZ (fj hy).1 (fj Ez).1,<-xw jZ (fj hy).2 (fj uY).2];exact PK
def Ik(md:Region.Mode)(ops:Array Oper)(al:List bH)(listed:Array Bool)(i:Nat):Bool:=
 match al[i]? with
 |none=>false
 |some oi=>(List.range ops.size).all fun j=>j==i || listed.getD j true || match ops[j]?,al[j]? with
   |some oj,some aj=>oj.after.any (λe=>Region.binds md e&&e.on==i)||oi.apart aj
   |_,_=>true
def JL(md:Region.Mode)(ops:Array Oper)(al:List bH):Nat->Nat->Array Bool->Bool
 |0,_,listed=>(Region.ready md ops listed).isEmpty
 |fuel+1,k,listed=>(Region.ready md ops listed).contains k&&Ik md ops al listed k&&JL md ops al fuel (k+1) (listed.setIfInBounds k true)
def fx(i:Nat):(bh P n true ops)[i]?=jq P n ops i:=by simp[bh,jq]
def Bl {i:Nat} {oi:bH} {listed:Array Bool} (hi:jq P n ops i=some oi) (h:Ik md ops (bh P n true ops) listed i=true) (j:Nat) (o:Oper) (aj:bH)
  (hj:ops[j]?=some o) (sB:jq P n ops j=some aj) (cP:j≠i) (fq:listed.getD j true=false) (iq:∀e∈o.after,Region.binds md e=true->e.on≠i):oi.apart aj=true:=by
 simp only[Ik,fx,hi,adw,adQ]at h;have h1:=h j (adj.1 hj).1;simp only[hj,sB,aeE,adY,cP,agN,fq,ads]at h1;rcases h1 with h1|h1
 .obtain⟨e,he,hb⟩:=afS.1 h1;simp only[adk,adY]at hb;exact absurd hb.2 (iq e he hb.1)
 .exact h1
def zQ {QA:an→ao→Prop}:∀ (l:List Oper) (k:Nat) (listed:Array Bool) (S:an) (H:ao),(∀ j,l[j]? = ops[k+j]?) →
  JL md ops (bh P n true ops) l.length k listed=true->cU P GI (l.map (bt P n true ops)) QA S H->yN P GI n md ops QA l.length listed S H
 |[],_,_,_,_,_,hB,h=>⟨by simpa[JL]using hB,h⟩
 |o::l,k,listed,S,H,hl,hB,h=>by
  have h0:ops[k]?=some o:=by simpa using(hl 0).symm
  have ha:jq P n ops k=some (bt P n true ops o):=by simp[jq,h0]
  simp only[List.length_cons,JL,adk]at hB;obtain⟨⟨hr,hf⟩,Nf⟩:=hB;obtain⟨e,hy,hK⟩:=tZ h
  exact Kn ha l.length listed S H (Bl ha hf) (by simpa using hr) hy
   (zQ l (k+1) _ _ _ (λj=>by have:=hl (j+1);simpa[afv,Nat.add_comm 1 j]using this) Nf hK)
def bG(o:bH):Option (Nat×List AV):=
 match o.op,o.dst with
 |.alloc _ z,some d=>some (d,z)
 |_,_=>none
def UU(P:Program)(n:Nat)(ops:Array Oper)(listed:Array Bool)(t:Nat):Prop:=
 ∃j o z,jq P n ops j=some o/\bG o=some (t,z)/\listed.getD j true=false
def ot(md:Region.Mode)(ops:Array Oper)(al:List bH):Bool:=
 (List.range ops.size).all λj=>match ops[j]?,al[j]? with
  |some oj,some aj=>match bG aj with
   |some (d,_)=>oj.after.isEmpty && aj.guard.isNone && (List.range ops.size).all fun k=>k==j || match ops[k]?,al[k]? with
     |some ok,some ak=>!ak.writes.contains d&&(!ak.reads.contains d||ok.after.any (λe=>Region.binds md e&&e.on==j))
     |_,_=>false
   |none=>true
  |_,_=>false
def lG (h:ot md ops (bh P n true ops)=true) {j:Nat} {oj:Oper} {aj:bH} {d:Nat} {z:List AV} (hj:ops[j]? = some oj) (sB:jq P n ops j=some aj) (hd:bG aj=some (d,z)) :
  oj.after=#[]/\aj.guard=none/\∀k ok ak,ops[k]?=some ok->jq P n ops k=some ak->k≠j->d∉ak.writes/\(d∈ak.reads->∃e∈ok.after,Region.binds md e=true/\e.on=j):=by
 simp only[ot,adw,adQ]at h;have h1:=h j (adj.1 hj).1;simp only[hj,fx,sB,hd,adk,adw,adQ]at h1;obtain⟨⟨h2,h3⟩,h4⟩:=h1;refine⟨by simpa using h2,by simpa using h3,λk ok ak hk Om cP=>?_⟩;have h5:=h4 k (adj.1 hk).1;simp only[hk,Om,aeE,adY,cP,agN,adk,aeh]at h5;refine⟨by simpa using h5.1,λhd=>?_⟩;rcases h5.2 with h6|h6
 .simp at h6;exact absurd hd h6
 .obtain⟨e,he,hb⟩:=afS.1 h6;simp only[adk,adY]at hb;exact⟨e,he,hb⟩
def Le(hA:ot md ops (bh P n true ops)=true){listed:Array Bool}(hr:Region.ready md ops listed=[]):UU P n ops listed=bL:=by
 funext t
 simp only[bL,af0,iff_false];rintro⟨j,o,z,h1,h2,h3⟩;unfold jq at h1
 cases hj:ops[j]? with
 |none=>simp[hj]at h1
 |some oj=>
  have sB:jq P n ops j=some o:=by unfold jq;exact h1
  obtain⟨ha,_,_⟩:=lG hA hj sB h2;have:j∈Region.ready md ops listed:=afe.2 ⟨h3,oj,hj,λe he=>by rw[ha]at he;simp at he⟩;rw[hr]at this;cases this
def F3{listed:Array Bool}{i:Nat}{oi:bH}(hi:jq P n ops i=some oi)(iq:bG oi=none):UU P n ops (listed.setIfInBounds i true)=UU P n ops listed:=by
 funext t
 simp only[UU,af0]
 constructor
 .rintro⟨j,o,z,h1,h2,h3⟩;refine⟨j,o,z,h1,h2,?_⟩
  by_cases fD:i=j
  .subst fD;rw[hi]at h1;cases h1;rw[iq]at h2;cases h2
  .rwa [afB true fD]at h3
 .rintro⟨j,o,z,h1,h2,h3⟩;refine⟨j,o,z,h1,h2,?_⟩
  by_cases fD:i=j
  .subst fD;rw[hi]at h1;cases h1;rw[iq]at h2;cases h2
  .rwa [afB true fD]
def Q3 (hA:ot md ops (bh P n true ops)=true) {listed:Array Bool} {i d:Nat} {o:Oper} {oi:bH} {z:List AV} (ho:ops[i]? = some o) (hi:jq P n ops i=some oi) (hd:bG oi=some (d,z)) (aq:i < listed.size) :
  UU P n ops (listed.setIfInBounds i true)=λt=>UU P n ops listed t/\t≠d:=by
 obtain⟨_,_,l8⟩:=lG hA ho hi hd
 funext t
 simp only[UU,af0]
 constructor
 .rintro⟨j,oj,z',h1,h2,h3⟩
  have fD:i≠j:=by rintro rfl;simp[aq]at h3
  refine⟨⟨j,oj,z',h1,h2,by rwa [afB true fD]at h3⟩,?_⟩;rintro rfl
  have hj:∃o',ops[j]?=some o':=by
   unfold jq at h1
   cases hj:ops[j]? with
   |none=>simp[hj]at h1
   |some o'=>exact⟨o',rfl⟩
  obtain⟨o',hj⟩:=hj;have:=(l8 j o' oj hj h1 (ad6 fD)).1;apply this;unfold bG at h2;split at h2
  .rename_i iu;simp only[adN,afO]at h2;rw[h2.1]at iu;exact fk (.inl iu)
  .cases h2
 .rintro⟨⟨j,oj,z',h1,h2,h3⟩,cP⟩
  have fD:i≠j:=by
   rintro rfl;rw[hi]at h1;cases h1;rw[hd]at h2;simp only[adN,afO]at h2;exact cP h2.1.symm
  exact⟨j,oj,z',h1,h2,by rwa [afB true fD]⟩
end
section
variable{P:Program}{GI:World->Prop}{w0:World}{n:Nat}{U:Nat->Prop}{g:Gh}{S:an}{H:ao}{a:Act}{w:World}{ops:Array Oper}
def LL{dr:Bool}{o:bH}{x:Oper}{hr:HR}{size:Nat}{y z:cT}(hc:bt P n dr ops x=o)(h:o.op=.store hr size y z):∃x',du n x'=some y:=by
 subst hc;unfold bt at h;revert h;generalize(match x.dst with|some d=>taken ops d|none=>false)=tk;intro h;simp only at h;unfold comp at h
 repeat' split at h
 all_goals first
  |(cases h;done)
  |(cases h;exact⟨_,by assumption⟩)
def JB{dr:Bool}{o:bH}{x:Oper}{hr:HR}{y:cT}(hc:bt P n dr ops x=o)(h:o.op=.loadT hr y):∃x',du n x'=some y:=by
 subst hc;unfold bt at h;revert h;generalize(match x.dst with|some d=>taken ops d|none=>false)=tk;intro h;simp only at h;unfold comp at h
 repeat' split at h
 all_goals first
  |(cases h;done)
  |(cases h;exact⟨_,by assumption⟩)
def XR(R:Rel P w0 n U g S H a w){o:Oper}{dst:Option Nat}{e:aP}(dh:∀t∈(bt P n true ops o).op.rd,¬U t)(h:lh P GI (bt P n true ops o).op dst S H e){i:Nat}{cs:List AV}(hw:e.hw=some (i,cs)):(g.al i).isSome=true:=by
 have Jn:=(Mc h).2;rw[hw]at Jn
 have box:∀{y:cT}{x':Operand}{off:Nat},du n x'=some y->(∀t∈y.tmps,¬U t)->AL.ev S y=.box i off->(g.al i).isSome=true:=by
  intro y x' off hx hu he;have:=R.ev hx hu;rw[he]at this;generalize a.eval x'=c at this
  cases this with
  |data _ _ h=>cases h
  |box _ _ b h=>simp[h]
 generalize hc:(bt P n true ops o).op=op at dh h Jn
 cases op<;>try (exact Jn.elim)
 case load hr _ _ _=>cases hr<;>exact Jn.elim
 case loadT hr y=>
  obtain⟨x',hx⟩:=JB rfl hc;simp only[lh,aD]at h
  cases sD:AL.ev S y<;>rw[sD]at h<;>simp only at h<;>try cases h
  rename_i k off;split at h
  case isFalse=>cases h
  split at h
  case h_2=>cases h
  split at h
  case h_2=>cases h
  cases h;cases hw;exact box hx dh sD
 case store hr s y z=>
  obtain⟨x',hx⟩:=LL rfl hc;simp only[eC.rd,adm]at dh;simp only[lh,aD]at h
  cases sD:AL.ev S y<;>rw[sD]at h<;>simp only at h<;>try cases h
  rename_i k off;split at h
  case isFalse=>cases h
  split at h
  case h_2=>cases h
  split at h
  case isFalse=>cases h
  cases h;cases hw;exact box hx (λt ht=>dh t (.inl ht)) sD
def DW{op:eC}(h:op.calm=true){dst:Option Nat}{e:aP}(hd:lh P GI op dst S H e):aD S H op=some e:=by
 cases op<;>first|exact hd|cases h
def Ht (hG:ar GI) (cq:GI w0) {old:Old} {Q:dT→an→ao→Prop} (hA:ot .any ops (bh P n true ops)=true) (bX:∀ o∈ops,(bt P n true ops o).ok n=true) :
  ∀(fuel:Nat)(listed:Array Bool)(g:Gh)(S:an)(H:ao)(a:Act)(w:World),listed.size=ops.size->g.old=old->Rel P w0 n (UU P n ops listed) g S H a w->
   (∀j o d z,jq P n ops j=some o->bG o=some (d,z)->listed.getD j true=false->S d=.box d 0/\H d=some z)->
   yN P GI n .any ops (Q .normal) fuel listed S H->wpAny P .any ops (QQ P w0 n old Q) fuel listed a w:=by
 intro fuel
 induction fuel with
 |zero=>
  intro listed g S H a w _ ho R _ h;have hU:=Le hA h.1;rw[hU]at R;exact⟨h.1,g,S,H,ho,R,h.2⟩
 |succ fuel ih=>
  intro listed g S H a w Vs ho R hinv h;refine⟨λhr=>?_,λi hi=>?_⟩
  .have hU:=Le hA hr;rw[hU]at R;exact⟨g,S,H,ho,R,h.1 hr⟩
  .have hd:=h.2 i hi;obtain⟨o,jW,AE⟩:=wX (P:=P) (n:=n) hi;obtain⟨WD,o',oV,eF⟩:=afe.1 hi;rw[jW]at oV;cases oV
   have Rx:i<listed.size:=by rw[Vs];exact(adj.1 jW).1
   unfold JA at hd;rw[AE]at hd;obtain⟨e,hy,hK⟩:=hd;have tT:=bX o (aen jW)
   have Ig:∀t∈(bt P n true ops o).reads,¬UU P n ops listed t:=by
    rintro t ht ⟨j,aj,z,h1,h2,h3⟩
    have hj:∃oj,ops[j]?=some oj:=by
     unfold jq at h1
     cases hj:ops[j]? with
     |none=>simp[hj]at h1
     |some oj=>exact⟨oj,rfl⟩
    obtain⟨oj,hj⟩:=hj;obtain⟨k1,k2,k3⟩:=lG hA hj h1 h2
    by_cases fD:i=j
    .subst fD;rw[AE]at h1;cases h1;unfold bG at h2;split at h2
     .rename_i dj _;simp only[bH.reads,dj,k2,eC.rd,ael]at ht;cases ht
     .cases h2
    .obtain⟨ed,XP,Io,he3⟩:=(k3 i o _ jW AE fD).2 ht;have:=eF ed XP Io;rw[he3]at this;rcases aeI j listed.size with h'|h'
     .simp[h']at h3 this;rw[h3]at this;cases this
     .simp[aeN h']at this
   have pW:∀j aj d z,jq P n ops j=some aj->bG aj=some (d,z)->j≠i->d∉(bt P n true ops o).writes:=by
    intro j aj d z h1 h2 cP
    have hj:∃oj,ops[j]?=some oj:=by
     unfold jq at h1
     cases hj:ops[j]? with
     |none=>simp[hj]at h1
     |some oj=>exact⟨oj,rfl⟩
    obtain⟨oj,hj⟩:=hj;exact((lG hA hj h1 h2).2.2 i o _ jW AE (ad6 cP)).1
   have uP:∀t,o.dst=some t->t<n/\t∉(bt P n true ops o).op.rd:=by
    intro t ht;simp only[bH.ok,adk]at tT;have h1:=tT.1;rw[show(bt P n true ops o).dst=o.dst from rfl,ht]at h1;simpa using h1
   have Zc:bG (bt P n true ops o)=none->∀t,o.dst=some t->¬UU P n ops listed t:=by
    rintro iq t ht ⟨j,aj,z,h1,h2,h3⟩
    have cP:j≠i:=by rintro rfl;rw[AE]at h1;cases h1;rw[iq]at h2;cases h2
    exact pW j aj t z h1 h2 cP (fk (.inl ht))
   have Sh:(∀ k cs,e.hw=some (k,cs)→(g.al k).isSome=true)→∀ j aj d z,jq P n ops j=some aj→bG aj=some (d,z)→(listed.setIfInBounds i true).getD j true=false →
     e.S S o.dst d=.box d 0/\e.H H d=some z:=by
    intro Jn j aj d z h1 h2 h3
    have cP:j≠i:=by rintro rfl;simp[Rx]at h3
    have TN:listed.getD j true=false:=by rwa [afB true (ad6 cP)]at h3
    obtain⟨k1,k2⟩:=hinv j aj d z h1 h2 TN;have hw:=pW j aj d z h1 h2 cP;refine⟨?_,?_⟩
    .show e.S S (bt P n true ops o).dst d=_;rw[aP.uQ (λhh=>hw (fk (.inl hh))) (λhh=>hw (fk (.inr ((fj hy).1 d hh))))];exact k1
    .unfold aP.H
     cases hh:e.hw with
     |none=>exact k2
     |some p=>
      obtain⟨k,cs⟩:=p
      have Lc:d≠k:=by
       rintro rfl;have:=Jn d cs hh;rw[R.jX d ⟨j,aj,z,h1,h2,TN⟩]at this;cases this
      simp only[aQ _ _ Lc];exact k2
   have bj:(listed.setIfInBounds i true).size=ops.size:=by simpa using Vs
   unfold wpOp;simp only[jW];unfold eu at hy
   cases zH:aF S (bt P n true ops o).guard with
   |none=>rw[zH]at hy;exact hy.elim
   |some b=>
    rw[sM R (λt b hg=>Ig t (by simp[bH.reads,hg])) tT zH];rw[zH]at hy
    cases b with
    |false=>
     simp only at hy;subst hy;simp only[ads,adH]
     have iq:bG (bt P n true ops o)=none:=by
      cases hh:bG (bt P n true ops o)with
      |none=>rfl
      |some p=>
       obtain⟨d,z⟩:=p;have:=(lG hA jW AE hh).2.1;rw[this]at zH;cases zH
     have hU:=F3 AE iq (listed:=listed);refine ih _ g _ _ _ _ bj ho ?_ (Sh λ_ _ hh=>by cases hh) hK;rw[hU]
     exact R.aX o.dst _ _ (λt ht=>(uP t ht).1) (.data _ _ (vg _ _)) λ_ _=>trivial
    |true=>
     simp only at hy;simp only[adS];refine .inl ?_
     have Jn:∀k cs,e.hw=some (k,cs)->(g.al k).isSome=true:=λk cs hh=>XR R (λt ht=>Ig t (by simp only[bH.reads,adm];exact .inl ht)) hy hh
     have S_:=Sh Jn
     have next:bG (bt P n true ops o)=none->∀(g':Gh)(a':Act)(w':World),g'.old=g.old->Rel P w0 n (UU P n ops listed) g' (e.S S o.dst) (e.H H) a' w'->wpAny P .any ops (QQ P w0 n old Q) fuel (listed.setIfInBounds i true) a' w':=by
      intro iq g' a' w' h2 R';refine ih _ g' _ _ _ _ bj (h2.trans ho) ?_ S_ hK;rw[F3 AE iq];exact R'
     have dh:∀t∈(bt P n true ops o).op.rd,¬UU P n ops listed t:=λt ht=>Ig t (by simp only[bH.reads,adm];exact .inl ht)
     by_cases bV:(bt P n true ops o).op.calm=true
     .have iq:bG (bt P n true ops o)=none:=by
       unfold bG;split
       .rename_i dj _;rw[dj]at bV;cases bV
       .rfl
      refine(yi R rfl bV (λt ht=>⟨(uP t ht).1,Zc iq t ht⟩) dh (λt ht=>(uP t ht).2) (DW bV hy)).wp λg' a' w' e1 e2 R'=>next iq g' a' w' e2 R'
     .generalize dj:(bt P n true ops o).op=op at bV hy dh;have ve:comp P n (match o.dst with|some d=>taken ops d|none=>false) (Pe ops o) o=op:=dj
      cases op<;>try (exact absurd rfl bV)
      case alloc t cs=>
       simp only[lh]at hy
       cases iu:o.dst with
       |none=>rw[show(bt P n true ops o).dst=o.dst from rfl,iu]at hy;exact hy.elim
       |some d=>
        rw[show(bt P n true ops o).dst=o.dst from rfl,iu]at hy;simp only at hy;subst hy
        have jC:bG (bt P n true ops o)=some (d,cs):=by
         unfold bG;rw[dj,show(bt P n true ops o).dst=o.dst from rfl,iu]
        obtain⟨k1,k2⟩:=hinv i _ d cs AE jC WD;obtain⟨aaI,hz⟩:=Bw ve;unfold zeroCells at hz;split at hz
        case h_2=>cases hz
        rename_i it hit;split at hz
        case h_2=>cases hz
        rename_i z YZ;obtain⟨h1,h2,h3⟩:=iE g.Pr w hz
        have R2:=R.G8 d ⟨i,_,cs,AE,jC,WD⟩ (uP d iu).1 cs z.cells t k1 k2 (by simpa using h1.1) (λj h h'=>by have:=h1.2.1 j h (by simpa using h');simpa using this)
         (λj hj dU=>⟨h2 _ (adi hj),by have:=h3 P g (.cell d) j hj (by simpa using dU);rwa [Array.getElem_toList]at this⟩) h1.2.2
        have dz:(execOp a.eval o).run P w=.ok (.value (.pointer (some ⟨w.heap.size,0,none⟩))) (w.alloc (.cells z.cells t)):=by
         unfold execOp;simp[aaI,Instr.alloc,zeroValue,typeInfo,hit,YZ,newVar,newRow]
        unfold Oper.wp;rw[dz];show wpAny P .any ops (QQ P w0 n old Q) fuel (listed.setIfInBounds i true) _ _;rw[iu];rw[<-Q3 hA jW AE jC Rx]at R2
        have hS:au S d (.box d 0)=S:=by
         funext t
         by_cases ht:t=d
         .subst ht;rw[aO,k1]
         .rw[aQ _ _ ht]
        have Zj:yN P GI n .any ops (Q .normal) fuel (listed.setIfInBounds i true) S H:=by
         have:({ v:=.box d 0 }:aP).S S (bt P n true ops o).dst=S:=by
          rw[show(bt P n true ops o).dst=o.dst from rfl,iu];exact hS
         rw[this]at hK;exact hK
        refine ih _ { g with al:=au g.al d (some w.heap.size) } S H _ _ bj ho R2 (λj aj d' z' h1 h2 h3=>?_) Zj;have:=S_ j aj d' z' h1 h2 h3
        have hSS:({ v:=.box d 0 }:aP).S S o.dst=S:=by rw[iu];exact hS
        rw[hSS]at this;exact this
      case call f args=>
       have iq:bG (bt P n true ops o)=none:=by unfold bG;rw[dj]
       exact tG R hG cq ve (λt ht=>⟨(uP t ht).1,Zc iq t ht⟩) dh hy.2 (λv g' a' w' e1 e2 R' hk=>by subst hk;exact next iq g' a' w' e2 R') (λ_ _ _ _ _ _ _ hf=>hf.elim)
      case gr f args=>
       have iq:bG (bt P n true ops o)=none:=by unfold bG;rw[dj]
       simp only[lh]at hy;split at hy
       case h_2=>exact hy.elim
       rename_i k first cap zb;exact va R hG cq ve (λt ht=>⟨(uP t ht).1,Zc iq t ht⟩) dh zb hy.2 (λv g' a' w' e1 e2 R' hk=>by subst hk;exact next iq g' a' w' e2 R') (λ_ _ _ _ _ _ _ hf=>hf.elim)
      case box=>exact hy.elim
      case panic=>exact hy.elim
      case other=>exact hy.elim
def eM:List bH->an->an
 |[],S=>S
 |o::l,S=>match bG o with
  |some (d,_)=>eM l (au (λt=>cd d (S t)) d (.box d 0))
  |none=>eM l S
def dV:List bH->ao->ao
 |[],H=>H
 |o::l,H=>match bG o with
  |some (d,z)=>dV l (au H d (some z))
  |none=>dV l H
def dq(l:List bH):List Nat:=l.filterMap λo=>(bG o).map (·.1)
def Rel.eM:∀ (l:List bH) {U:Nat→Prop} {g:Gh} {S:an} {H:ao},Rel P w0 n U g S H a w→(dq l).Nodup→(∀ d∈dq l,¬ g.old.bx d) →
  ∃g',g'.base=g.base/\g'.old=g.old/\Rel P w0 n (λt=>U t\/t∈dq l) g' (Go.AL.eM l S) (dV l H) a w
 |[],U,g,S,H,R,_,_=>⟨g,rfl,rfl,by simpa[dq,Go.AL.eM,dV]using R⟩
 |o::l,U,g,S,H,R,hn,bW=>by
  cases ha:bG o with
  |none=>
   have e:dq (o::l)=dq l:=by simp[dq,ha]
   rw[e]at hn bW⊢;simp only[Go.AL.eM,dV,ha];exact Rel.eM l R hn bW
  |some p=>
   obtain⟨d,z⟩:=p
   have e:dq (o::l)=d::dq l:=by simp[dq,ha]
   rw[e]at hn bW⊢;simp only[Go.AL.eM,dV,ha];obtain⟨g',e1,e2,R'⟩:=Rel.eM l (R.suspend d (bW d adx) (.box d 0) z) (ae9.1 hn).2 (λk hk=>bW k (adu _ hk));refine⟨g',e1,e2,?_⟩
   have:(λt=>U t\/t∈d::dq l)=(λt=>(U t\/t=d)\/t∈dq l):=by
    funext t;simp[or_assoc]
   rw[this];exact R'
def vx:∀(l:List bH)(S:an)(d:Nat),d∉dq l->S d=.box d 0->Go.AL.eM l S d=.box d 0
 |[],S,d,_,h=>h
 |o::l,S,d,hn,h=>by
  cases ha:bG o with
  |none=>simp only[Go.AL.eM,ha];exact vx l S d (by simpa[dq,ha]using hn) h
  |some p=>
   obtain⟨k,z⟩:=p;simp only[Go.AL.eM,ha]
   have zt:d≠k/\d∉dq l:=by simpa[dq,ha]using hn
   refine vx l _ d zt.2 ?_;rw[aQ _ _ zt.1,h];simp[cd,zt.1]
def tM:∀(l:List bH)(H:ao)(d:Nat)(z:List AV),d∉dq l->H d=some z->dV l H d=some z
 |[],H,d,z,_,h=>h
 |o::l,H,d,z,hn,h=>by
  cases ha:bG o with
  |none=>simp only[dV,ha];exact tM l H d z (by simpa[dq,ha]using hn) h
  |some p=>
   obtain⟨k,z'⟩:=p;simp only[dV,ha]
   have zt:d≠k/\d∉dq l:=by simpa[dq,ha]using hn
   exact tM l _ d z zt.2 (by rw[aQ _ _ zt.1,h])
def zy:∀(l:List bH)(S:an)(H:ao),(dq l).Nodup->∀o∈l,∀d z,bG o=some (d,z)->Go.AL.eM l S d=.box d 0/\dV l H d=some z
 |[],S,H,_,o,ho,_,_,_=>by cases ho
 |o'::l,S,H,hn,o,ho,d,z,hd=>by
  rcases adT.1 ho with rfl|ho
  .have e:dq (o::l)=d::dq l:=by simp[dq,hd]
   rw[e]at hn;simp only[Go.AL.eM,dV,hd];exact⟨vx l _ d (ae9.1 hn).1 (aO _ _ _),tM l _ d z (ae9.1 hn).1 (aO _ _ _)⟩
  .cases ha:bG o' with
   |none=>
    have e:dq (o'::l)=dq l:=by simp[dq,ha]
    rw[e]at hn;simp only[Go.AL.eM,dV,ha];exact zy l S H hn o ho d z hd
   |some p=>
    obtain⟨k,z'⟩:=p
    have e:dq (o'::l)=k::dq l:=by simp[dq,ha]
    rw[e]at hn;simp only[Go.AL.eM,dV,ha];exact zy l _ _ (ae9.1 hn).2 o ho d z hd
def LP(P:Program)(n:Nat)(ops:Array Oper):Bool:=
 (bh P n true ops).all (·.ok n)&&ot .any ops (bh P n true ops)&&decide ((dq (bh P n true ops)).Nodup)&&JL .any ops (bh P n true ops) ops.size 0 (Array.replicate ops.size false)
def JT (hG:ar GI) (cq:GI w0) (hm:P.follows .mixedOrders=true) {old:Old} {id:Nat} {Q:dT→an→ao→Prop} (bX:LP P n ops=true) (bW:∀ o∈bh P n true ops,∀ d∈o.jy,¬ old.bx d) (ho:g.old=old) (R:Rel P w0 n bL g S H a w)
  (h:cU P GI (bh P n true ops) (Q .normal) (eM (bh P n true ops) S) (dV (bh P n true ops) H)):(Code.region id ops true).wp P (QQ P w0 n old Q) a w:=by
 simp only[LP,adk,adr]at bX;obtain⟨⟨⟨h1,h2⟩,h3⟩,h4⟩:=bX;refine wp_region_any hm ?_;have R0:Rel P w0 n bL g S H a { w with drawn:=w.drawn+1 }:=R.jU ((aej _ w).drew)
 obtain⟨g',e1,e2,R'⟩:=Rel.eM (bh P n true ops) R0 h3 (λd hd=>by
  simp only[dq,afd,adv]at hd;obtain⟨o,kv,⟨d',z⟩,k1,rfl⟩:=hd;rw[ho];refine bW o kv d' ?_;unfold bG at k1;split at k1
  .rename_i h1 h2;cases k1;simp[bH.jy,h1,h2,eC.jy]
  .cases k1)
 have hU:UU P n ops (Array.replicate ops.size false)=(λt=>bL t\/t∈dq (bh P n true ops)):=by
  funext t
  simp only[UU,bL,agN,af0,dq,afd,adv]
  constructor
  .rintro⟨j,o,z,k1,k2,k3⟩;rw[<-fx]at k1;exact⟨o,aer k1,(t,z),k2,rfl⟩
  .rintro⟨o,ho,⟨d,z⟩,k1,rfl⟩;obtain⟨j,hj⟩:=ag9 ho;refine⟨j,o,z,by rw[<-fx];exact hj,k1,?_⟩
   have:j<ops.size:=by
    have:=(adG.1 hj).1;simpa[bh]using this
   simp[this]
 refine Ht hG cq h2 (λo kv=>?_) ops.size (Array.replicate ops.size false) g' _ _ a _ ahi (e2.trans ho) (by rw[hU];exact R') (λj o d z k1 k2 k3=>?_) ?_
 .simp only[bh,aeY,adw,Function.comp]at h1;exact h1 o (by simpa using kv)
 .rw[<-fx]at k1;exact zy _ S H h3 o (aer k1) d z k2
 .have:=zQ (QA:=Q .normal) ops.toList 0 (Array.replicate ops.size false) _ _ ahi (by simpa using h4) h;simpa using this
end
end Go.AL
