/- A part of the proof. -/
import Derived.Still
import Derived.Laws.Concat
import Derived.Laws.Strings2
import Derived.Great.BuildSlice
import Derived.Laws.BytesArg
import Derived.Maps.Own
import Derived.OrdersIn
import Derived.RangeFuncRecord
import Derived.Laws.RangeString
import Derived.Recover
import Derived.Laws.Pointers
import Derived.Deep.OwnRows
import Derived.Lib.AppendIntMem
import Derived.Shelf.Vars
import Derived.ProofKit
import Derived.OpenShut
import Derived.LaidMore
import Derived.Lay
import Derived.SevenTiedAt
set_option maxRecDepth 100000
set_option maxHeartbeats 8000000
set_option linter.all false
namespace Go
def acx:=@List.getElem?_eq_getElem
def acy:=@List.getElem_mem
def acz:=@Array.getElem?_eq_some_iff
def acA:=@Bool.and_eq_true
def acB:=@Array.getElem?_setIfInBounds_ne
def acC:=@List.length_map
def acD:=@Nat.le_refl
def acE:=@Option.map_eq_some_iff
def acF:=@List.mem_append
def acG:=@Array.getD_eq_getD_getElem?
def acH:=@List.mem_cons_of_mem
def acI:=@Bool.false_eq_true
def acJ:=@decide_eq_true_eq
def acK:=@Go.Sem.run_bind
def acL:=@List.take_succ_eq_append_getElem
def acM:=@List.getElem_map
def acN:=@List.all_eq_true
def acO:=@Go.wpIn_seq
def acP:=@Array.getElem?_eq_getElem
def acQ:=@List.take_of_length_le
def acR:=@Go.run_underlying
def acS:=@List.mem_cons_self
def acT:=@List.getElem?_eq_some_iff
def acU:=@List.getElem?_eq_none
def acV:=@List.length_append
def acW:=@if_false
def acX:=@Option.some.inj
def acY:=@List.mem_range
def acZ:=@List.mem_map
def ac0:=@Option.some.injEq
def ac1:=@List.getElem?_map
def ac2:=@List.getD_eq_getElem?_getD
def ac3:=@if_true
def ac4:=@List.mem_singleton
def ac5:=@List.map_cons
def ac6:=@Go.wpIn_region
def ac7:=@beq_iff_eq
def ac9:=@List.getElem_append_left
def ac_:=@Nat.zero_add
def ada:=@List.map_append
def adb:=@List.eq_nil_of_length_eq_zero
def ade:=@List.length_pos_iff
def adf:=@List.length_take
def adg:=@List.length_drop
def adh:=@List.mem_flatMap
def adi:=@Ne.symm
def adj:=@beq_eq_false_iff_ne
def adk:=@List.foldl_append
def adl:=@List.mem_cons
def adm:=@List.getElem_of_mem
def adn:=@List.append_nil
def ado:=@List.map_toArray
def adp:=@List.map_nil
def adq:=@Nat.lt_of_lt_of_le
def adr:=@Nat.zero_le
def ads:=@Array.all_eq_true'
def adt:=@Go.Addr.add_lit
def adu:=@Go.wpIn_cond
def adv:=@Go.World.alloc_heap_new
def adw:=@Bool.or_eq_true
def adx:=@Bool.not_eq_true'
def ady:=@List.range_succ
def adz:=@Array.mem_of_getElem?
def adA:=@Go.RowKit.Below.refl
def adB:=@List.getElem?_append_left
def adC:=@List.map_congr_left
def adD:=@Nat.le_trans
def adE:=@Bool.eq_iff_iff
def adF:=@List.getElem_append_right
def adG:=@List.take_length
def adH:=@List.any_eq_false
def adI:=@List.append_assoc
def adJ:=@Nat.mul_le_mul_right
def adK:=@Nat.lt_or_ge
def adL:=@Go.setRow_other
def adM:=@Array.getElem?_toList
def adN:=@List.getElem?_append_right
def adO:=@Array.getElem?_setIfInBounds
def adP:=@List.ext_getElem?
def adQ:=@decide_eq_false_iff_not
def adR:=@List.mem_of_getElem?
def adS:=@List.mem_of_mem_take
def adT:=@List.pairwise_cons
def adU:=@List.drop_eq_nil_of_le
def adV:=@List.getElem_drop
def adW:=@Go.Oper.semAt_eq
def adX:=@decide_eq_true
def adY:=@Nat.mul_one
def adZ:=@Option.bind_eq_some_iff
def ad0:=@List.range_eq_range'
def ad1:=@Go.wpIn_block
def ad2:=@List.map_map
def ad3:=@Int.mul_nonneg
def ad4:=@List.flatMap_cons
def ad5:=@Go.wpIn_skip
def ad6:=@Array.eq_empty_of_size_eq_zero
def ad7:=@List.drop_eq_getElem_cons
def ad8:=@Bool.not_eq_true
def ad9:=@List.any_eq_true
def ad_:=@List.range'_succ
def aea:=@Array.ext
def aeb:=@Nat.add_sub_cancel
def aec:=@Nat.add_mul
def aed:=@Int.le_refl
def aee:=@List.length_eq_zero_iff
def aef:=@not_true_eq_false
def aeg:=@List.sum_append
def aeh:=@decide_eq_false
def aei:=@Nat.mul_comm
def aej:=@Array.getElem?_eq_none
def aek:=@Array.getElem?_extract
def ael:=@Nat.eq_zero_or_pos
def aem:=@List.take_append_drop
def aen:=@Nat.le_of_ble_eq_true
def aeo:=@List.length_filter_le
def aep:=@Int.mul_le_mul
def aeq:=@List.pairwise_iff_getElem
def aer:=@Go.setRow_heap
def aes:=@Go.World.cell?_of_block
def aet:=@List.length_set
def aeu:=@List.all_map
def aev:=@Bool.or_eq_false_iff
def aew:=@List.nodup_cons
def aex:=@Go.wpIn_region_any
def aey:=@List.pairwise_append
def aez:=@of_decide_eq_true
def aeA:=@Go.wpIn_mono
def aeB:=@List.flatMap_append
def aeC:=@List.mem_filterMap
def aeD:=@Go.mem_ready
def aeE:=@List.find?_eq_none
def aeF:=@List.getElem_set_self
def aeG:=@List.cons.injEq
def aeH:=@Array.getElem?_append
def aeI:=@Bool.and_eq_false_iff
def aeJ:=@Go.wpIn_ret
def aeK:=@List.mem_range'_1
def aeL:=@Array.getElem_append_left
def aeM:=@List.mem_append_left
def aeN:=@List.mem_of_mem_drop
def aeO:=@List.getLast?_eq_none_iff
def aeP:=@List.drop_drop
def aeQ:=@List.ext_getElem
def aeR:=@List.getElem_set_ne
def aeS:=@Go.World.block_lt_of_cell?
def aeT:=@List.pairwise_singleton
def aeU:=@Nat.add_assoc
def aeV:=@List.map_take
def aeW:=@Prod.mk.injEq
def aeX:=@List.getElem?_drop
def aeY:=@Go.wpIn_exit
def aeZ:=@List.range'_concat
def ae0:=@Go.MapKept.run_getObj_map
def ae1:=@Go.fenced_calm
def ae2:=@List.flatMap_singleton
def ae3:=@List.getElem_take
def ae4:=@List.size_toArray
def ae5:=@List.getElem_set
def ae6:=@List.contains_eq_mem
def ae7:=@List.range'_append_1
def ae8:=@List.map_drop
def ae9:=@Array.getElem_append_right
def ae_:=@Go.callsD_of_wpS
def afa:=@Bool.true_and
def afb:=@Go.getD_set_ne
def afc:=@Go.calls_of_wp
def afd:=@Int.toNat_of_nonneg
def afe:=@Nat.div_add_mod
def aff:=@List.mem_or_eq_of_mem_set
def afg:=@Option.isSome_iff_exists
def afh:=@Array.setIfInBounds_comm
def afi:=@Array.any_eq_true'
def afj:=@List.getElem?_take
def afk:=@List.getElem?_take_of_lt
def afl:=@Nat.mul_le_mul
def afm:=@bne_iff_ne
def afn:=@eq_iff_iff
def afo:=@Go.ready_mono
def afp:=@Go.Oper.wpIn_mono
def afq:=@List.take_succ
def afr:=@Go.World.putObj_heap_other
def afs:=@Go.run_storeCells_at
def aft:=@Classical.not_not
def afu:=@List.length_pos_of_mem
def afv:=@decide_true
def afw:=@Array.toList_map
def afx:=@Nat.succ_lt_succ
def afy:=@List.drop_length
def afz:=@List.getElem?_toArray
def afA:=@List.mem_append_right
def afB:=@Go.CallsIn.mono
def afC:=@Go.RoundIn.mono
def afD:=@Go.wpS_region
def afE:=@decide_false
def afF:=@String.toList_ofList
def afG:=@List.drop_append_of_le_length
def afH:=@List.mem_map_of_mem
def afI:=@Go.heap_alloc_new
def afJ:=@List.take_left
def afK:=@Bool.not_false
def afL:=@Go.RowsIn.mono
def afM:=@Go.wpS_of_wp
def afN:=@Go.StepsIn.trans
def afO:=@Go.callsIn_of_wp
def afP:=@List.all_eq_false
def afQ:=@Go.World.cells?_some
def afR:=@List.getElem?_set
def afS:=@Nat.mod_lt
def afT:=@List.mem_of_find?_eq_some
def afU:=@Go.wp_mono
def afV:=@Nat.succ_mul
def afW:=@Nat.div_eq_of_lt
def afX:=@false_or
def afY:=@Go.RowKit.Below.heap_alloc
def afZ:=@and_true
def af0:=@Nat.sub_self
def af1:=@List.length_erase_of_mem
def af2:=@List.length_filterMap_le
def af3:=@List.flatMap_eq_nil_iff
def af4:=@Nat.not_lt_zero
def af5:=@Go.wpIn_loop
def af6:=@Go.World.putObj_heap_same
def af7:=@Go.MapKept.run_setObj_map
def af8:=@Go.results_tmp
def af9:=@Go.leaves_cons
def af_:=@List.pairwise_lt_range
def aga:=@Nat.ble_eq_true_of_le
def agb:=@Go.wpS_seq
def agc:=@Nat.eq_of_beq_eq_true
def agd:=@true_and
def age:=@List.getElem?_of_mem
def agf:=@List.getElem?_set_ne
def agh:=@List.getLast?_append
def agi:=@List.mem_of_getLast?
def agj:=@List.mem_erase_of_ne
def agk:=@Nat.div_lt_of_lt_mul
def agl:=@Nat.lt_irrefl
def agm:=@Bool.and_true
def agn:=@Array.toList_append
def agp:=@List.drop_succ_cons
def agq:=@List.filter_flatMap
def agr:=@Go.run_build
def agt:=@Array.empty_append
def agu:=@Array.append_empty
def agv:=@Go.stepR_inLoop
def agw:=@Nat.zero_mul
def agy:=@Nat.le_of_lt
end Go
namespace Go.Proofs.Tram
end Go.Proofs.Tram
namespace Go.AL
inductive Ow where
 |view|nil|own (e:Nat)
 deriving DecidableEq
inductive AV where
 |bool (b:Bool)
 |lk
 |int (k:IntKind) (n:Int)
 |str (l:List UInt8)
 |slice (o:Ow) (es:List AV)
 |agg (cs:List AV)
 |dR (vs:List AV)
 |ref (cs:List AV)
 |pH
 |iface (t:TypeId) (v:AV)
 |nW
 |map (ks vs:List AV)
 |box (i off:Nat)
 |func (fn:Fn) (first cap:List AV)
 |f_ (fs:List AV)
 |val (c:Value)
 |bm
namespace AV
def cells:AV->List AV
 |.agg cs=>cs
 |v=>[v]
def aH:AV->AV
 |.slice (.own _) es=>.slice .view es
 |v=>v
def cT:AV->AV
 |.slice _ es=>.slice .view es
 |v=>v
def vw:AV->AV
 |.agg cs=>.agg (cs.map cT)
 |v=>v.cT
def bW:AV->Bool
 |.box ..|.func ..|.f_ _|.bm=>false
 |_=>true
def one:AV->Bool
 |.agg _|.dR _=>false
 |_=>true
def storable:AV->Bool
 |.box ..|.func ..|.f_ _|.bm|.dR _=>false
 |_=>true
end AV
inductive RD(Pr:Nat->Nat->Prop)(w:World):AV->Value->Prop
 |bool (b:Bool):RD Pr w (.bool b) (.bool b)
 |lk (b:Bool):RD Pr w .lk (.bool b)
 |int (k:IntKind) (n:Int):RD Pr w (.int k n) (.int k n)
 |str (l:List UInt8):RD Pr w (.str l) (.string ⟨l.toArray⟩)
 |gx (o:Ow):RD Pr w (.slice o []) (.slice none 0 0)
 |ja (o:Ow) (a:Addr):RD Pr w (.slice o []) (.slice (some a) 0 0)
 |slice (o:Ow) (es:List AV) (b off cap size:Nat) (cs:Nat→Value) (eT:es.length≤cap) (hn:o = .nil→cap=0)
   (bg:∀i (h:i<es.length),(es[i]).cells.length=size) (h1:∀i (h:i<es.length) j (hj:j<(es[i]).cells.length),((es[i]).cells[j]).one=true)
   (hc:∀k,k<es.length*size->Pr b (off+k)/\w.cell? ⟨b,off+k,none⟩=some (cs k))
   (hr:∀i (h:i<es.length) j (hj:j<(es[i]).cells.length),RD Pr w ((es[i]).cells[j]) (cs (i*size+j))):
   RD Pr w (.slice o es) (.slice (some ⟨b,off,none⟩) es.length cap)
 |agg (cs:List AV) (vs:Array Value) (hl:cs.length=vs.size) (h1:∀ i (h:i < cs.length),(cs[i]).one=true)
   (hr:∀i (h:i<cs.length)(h':i<vs.size),RD Pr w cs[i] vs[i]):RD Pr w (.agg cs) (.agg vs)
 |dR (cs:List AV) (vs:Array Value) (hl:cs.length=vs.size)
   (hr:∀i (h:i<cs.length)(h':i<vs.size),RD Pr w cs[i] vs[i]):RD Pr w (.dR cs) (.tuple vs)
 |ref (cs:List AV) (b off:Nat) (vs:Nat→Value) (h1:∀ i (h:i < cs.length),(cs[i]).one=true)
   (hc:∀k,k<cs.length->Pr b (off+k)/\w.cell? ⟨b,off+k,none⟩=some (vs k))
   (hr:∀k (h:k<cs.length),RD Pr w cs[k] (vs k)):RD Pr w (.ref cs) (.pointer (some ⟨b,off,none⟩))
 |map (ks vs:List AV) (b:Nat) (es:Array MapEntry) (clock:Nat) (hb:Pr b 0) (hm:w.heap[b]? = some (.map es clock)) (hk:ks.length=es.size) (hv:vs.length=es.size)
   (hr:∀i (h:i<ks.length)(h':i<es.size),RD Pr w ks[i] (es[i]).key) (jd:∀i (h:i<vs.length)(h':i<es.size),RD Pr w vs[i] (es[i]).val):RD Pr w (.map ks vs) (.map (some b))
 |r_:RD Pr w (.map [] []) (.map none)
 |pH:RD Pr w .pH (.pointer none)
 |iface (t:TypeId) (v:AV) (c:Value) (h:RD Pr w v c):RD Pr w (.iface t v) (.iface t c)
 |nW:RD Pr w .nW .nilIface
 |val (c:Value) (h:c.oneCell'=true):RD Pr w (.val c) c
inductive RV(Pr:Nat->Nat->Prop)(al:Nat->Option Nat)(w:World):AV->Value->Prop
 |data (v:AV) (c:Value) (h:RD Pr w v c):RV Pr al w v c
 |box (i off b:Nat) (h:al i=some b):RV Pr al w (.box i off) (.pointer (some ⟨b,off,none⟩))
 |func (fn:Fn) (first cap:List AV) (vs us:Array Value) (h1:first.length=vs.size) (h2:cap.length=us.size)
   (Is:∀i (h:i<first.length)(h':i<vs.size),RV Pr al w first[i] vs[i])
   (hr2:∀i (h:i<cap.length)(h':i<us.size),RV Pr al w cap[i] us[i]):RV Pr al w (.func fn first cap) (.func fn vs us)
 |f_ (fs:List AV) (vs:Array Value) (h1:fs.length=vs.size) (hr:∀i (h:i<fs.length)(h':i<vs.size),RV Pr al w fs[i] vs[i]):RV Pr al w (.f_ fs) (.agg vs)
 |bm (c:Value):RV Pr al w .bm c
structure bc(Pr eC:Nat->Nat->Prop)(w w':World):Prop where
 cell:∀b k,Pr b k->∀u,w.cell? ⟨b,k,none⟩=some u->eC b k/\w'.cell? ⟨b,k,none⟩=some u
 map:∀b,Pr b 0->∀es c,w.heap[b]?=some (.map es c)->eC b 0/\w'.heap[b]?=some (.map es c)
def bc.iN{Pr eC:Nat->Nat->Prop}{w w':World}(h:∀b,b<w.heap.size->w'.heap[b]?=w.heap[b]?)(hp:∀b k,b<w.heap.size->Pr b k->eC b k):bc Pr eC w w':={
 cell b k hb u hu:=by
  have av:=aeS _ _ hu;exact⟨hp b k av hb,by rw[aes (w:=w) (h b av)];exact hu⟩
 map b hb es c hm:=by
  have av:=(acz.1 hm).1
  exact⟨hp b 0 av hb,by rw[h b av];exact hm⟩ }
def bc.trans{Pr eC VJ:Nat->Nat->Prop}{w w' iV:World}(h:bc Pr eC w w')(h':bc eC VJ w' iV):bc Pr VJ w iV:={
 cell b k hp u hu:=h'.cell b k (h.cell b k hp u hu).1 u (h.cell b k hp u hu).2
 map b hp es c hm:=h'.map b (h.map b hp es c hm).1 es c (h.map b hp es c hm).2 }
def bc.oF{Pr:Nat->Nat->Prop}{w w':World}(h:∀b k,b<w.heap.size->Pr b k->w'.heap[b]?=w.heap[b]?):bc Pr Pr w w':={
 cell b k hb u hu:=⟨hb,by rw[aes (w:=w) (h b k (aeS _ _ hu) hb)];exact hu⟩
 map b hb es c hm:=⟨hb,by rw[h b 0 (acz.1 hm).1 hb];exact hm⟩ }
def bc.same{Pr eC:Nat->Nat->Prop}{w:World}(hp:∀b k,b<w.heap.size->Pr b k->eC b k):bc Pr eC w w:=bc.iN (λ_ _=>rfl) hp
def RD.mono {Pr eC:Nat→Nat→Prop} {w w':World} {v:AV} {c:Value} (h:RD Pr w v c)
  (hp:bc Pr eC w w'):RD eC w' v c:=by
 induction h with
 |bool b=>exact .bool b
 |lk b=>exact .lk b
 |int k n=>exact .int k n
 |str l=>exact .str l
 |gx o=>exact .gx o
 |ja o a=>exact .ja o a
 |slice o es b off cap size cs eT hn bg h1 hc _ ih=>
  exact .slice o es b off cap size cs eT hn bg h1 (λk hk=>hp.cell _ _ (hc k hk).1 _ (hc k hk).2) ih
 |agg cs vs hl h1 _ ih=>exact .agg cs vs hl h1 ih
 |dR cs vs hl _ ih=>exact .dR cs vs hl ih
 |ref cs b off vs h1 hc _ ih=>exact .ref cs b off vs h1 (λk hk=>hp.cell _ _ (hc k hk).1 _ (hc k hk).2) ih
 |map ks vs b es clock hb hm hk hv _ _ ih ih'=>exact .map ks vs b es clock (hp.map b hb es clock hm).1 (hp.map b hb es clock hm).2 hk hv ih ih'
 |r_=>exact .r_
 |pH=>exact .pH
 |iface t v c _ ih=>exact .iface t v c ih
 |nW=>exact .nW
 |val c h=>exact .val c h
def RV.mono {Pr eC:Nat→Nat→Prop} {al Gw:Nat→Option Nat} {w w':World} {v:AV} {c:Value} (h:RV Pr al w v c)
  (hp:bc Pr eC w w')
  (ha:∀i b,al i=some b->Gw i=some b):RV eC Gw w' v c:=by
 induction h with
 |data v c h=>exact .data v c (h.mono hp)
 |box i off b h=>exact .box i off b (ha i b h)
 |func fn first cap vs us h1 h2 _ _ ih1 ih2=>exact .func fn first cap vs us h1 h2 ih1 ih2
 |f_ fs vs h1 _ ih=>exact .f_ fs vs h1 ih
 |bm c=>exact .bm c
def RD.bW{Pr:Nat->Nat->Prop}{w:World}{v:AV}{c:Value}(h:RD Pr w v c):v.bW=true:=by
 cases h<;>rfl
def RV.dL{Pr:Nat->Nat->Prop}{al:Nat->Option Nat}{w:World}{v:AV}{c:Value}(h:RV Pr al w v c)(hd:v.bW=true):RD Pr w v c:=by
 cases h with
 |data v c h=>exact h
 |box i off b h=>cases hd
 |func=>cases hd
 |f_=>cases hd
 |bm c=>cases hd
def RD.aH{Pr:Nat->Nat->Prop}{w:World}{v:AV}{c:Value}(h:RD Pr w v c):RD Pr w v.aH c:=by
 cases h with
 |gx o=>cases o<;>exact .gx _
 |ja o a=>cases o<;>exact .ja _ a
 |slice o es b off cap size cs eT hn bg h1 hc hr=>
  cases o with
  |own e=>exact .slice _ es b off cap size cs eT (λh=>by cases h) bg h1 hc hr
  |view=>exact .slice _ es b off cap size cs eT hn bg h1 hc hr
  |nil=>exact .slice _ es b off cap size cs eT hn bg h1 hc hr
 |bool b=>exact .bool b
 |lk b=>exact .lk b
 |int k n=>exact .int k n
 |str l=>exact .str l
 |agg cs vs hl h1 hr=>exact .agg cs vs hl h1 hr
 |dR cs vs hl hr=>exact .dR cs vs hl hr
 |ref cs b off vs h1 hc hr=>exact .ref cs b off vs h1 hc hr
 |map ks vs b es clock hb hm hk hv hr jd=>exact .map ks vs b es clock hb hm hk hv hr jd
 |r_=>exact .r_
 |pH=>exact .pH
 |iface t v c h=>exact .iface t v c h
 |nW=>exact .nW
 |val c h=>exact .val c h
def RV.aH{Pr:Nat->Nat->Prop}{al:Nat->Option Nat}{w:World}{v:AV}{c:Value}(h:RV Pr al w v c):RV Pr al w v.aH c:=by
 cases h with
 |data v c h=>exact .data _ _ h.aH
 |box i off b h=>exact .box i off b h
 |func fn first cap vs us h1 h2 r1 r2=>exact .func fn first cap vs us h1 h2 r1 r2
 |f_ fs vs h1 hr=>exact .f_ fs vs h1 hr
 |bm c=>exact .bm c
def RD.cells {Pr:Nat→Nat→Prop} {w:World} {v:AV} {c:Value} (h:RD Pr w v c) :
  v.cells.length=c.cells.size/\∀i (h:i<v.cells.length)(h':i<c.cells.size),RD Pr w v.cells[i] c.cells[i]:=by
 cases h with
 |agg cs vs hl h1 hr=>exact⟨hl,hr⟩
 |bool b=>exact⟨rfl,λi h _=>by simp[AV.cells]at h;subst h;exact .bool b⟩
 |lk b=>exact⟨rfl,λi h _=>by simp[AV.cells]at h;subst h;exact .lk b⟩
 |int k n=>exact⟨rfl,λi h _=>by simp[AV.cells]at h;subst h;exact .int k n⟩
 |str l=>exact⟨rfl,λi h _=>by simp[AV.cells]at h;subst h;exact .str l⟩
 |gx o=>exact⟨rfl,λi h _=>by simp[AV.cells]at h;subst h;exact .gx o⟩
 |ja o a=>exact⟨rfl,λi h _=>by simp[AV.cells]at h;subst h;exact .ja o a⟩
 |slice o es b off cap size cs eT hn bg h1 hc hr=>exact⟨rfl,λi h _=>by simp[AV.cells]at h;subst h;exact .slice o es b off cap size cs eT hn bg h1 hc hr⟩
 |dR cs vs hl hr=>exact⟨rfl,λi h _=>by simp[AV.cells]at h;subst h;exact .dR cs vs hl hr⟩
 |ref cs b off vs h1 hc hr=>exact⟨rfl,λi h _=>by simp[AV.cells]at h;subst h;exact .ref cs b off vs h1 hc hr⟩
 |map ks vs b es clock hb hm hk hv hr jd=>exact⟨rfl,λi h _=>by simp[AV.cells]at h;subst h;exact .map ks vs b es clock hb hm hk hv hr jd⟩
 |r_=>exact⟨rfl,λi h _=>by simp[AV.cells]at h;subst h;exact .r_⟩
 |pH=>exact⟨rfl,λi h _=>by simp[AV.cells]at h;subst h;exact .pH⟩
 |iface t v c hh=>exact⟨rfl,λi h _=>by simp[AV.cells]at h;subst h;exact .iface t v c hh⟩
 |nW=>exact⟨rfl,λi h _=>by simp[AV.cells]at h;subst h;exact .nW⟩
 |val c hc=>
  have jz:c.cells=#[c]:=by cases c<;>first|rfl|cases hc
  exact⟨by rw[jz];rfl,λi h h'=>by simp[AV.cells]at h;subst h;simp only[jz];exact .val c hc⟩
def RD.one{Pr:Nat->Nat->Prop}{w:World}{v:AV}{c:Value}(h:RD Pr w v c)(h1:v.one=true):c.oneCell'=true:=by
 cases h<;>first|rfl|(cases h1;done)|assumption
def RD.cells_one{Pr:Nat->Nat->Prop}{w:World}{v:AV}{c:Value}(h:RD Pr w v c)(h1:v.storable=true):∀i (h:i<v.cells.length),(v.cells[i]).one=true:=by
 cases h with
 |agg cs vs hl ho hr=>exact ho
 |dR=>cases h1
 |_=>intro i hi;simp[AV.cells]at hi;subst hi;rfl
def AV.nz(v:AV):v.aH.one=v.one:=by
 cases v<;>try rfl
 rename_i o es;cases o<;>rfl
def AV.Qq(v:AV):v.cT.one=v.one:=by cases v<;>rfl
def AV.idem(v:AV):v.aH.aH=v.aH:=by
 cases v<;>try rfl
 rename_i o es;cases o<;>rfl
def RD.cT{Pr:Nat->Nat->Prop}{w:World}{v:AV}{c:Value}(h:RD Pr w v c):RD Pr w v.cT c:=by
 cases h with
 |gx o=>exact .gx _
 |ja o a=>exact .ja _ a
 |slice o es b off cap size cs eT hn bg h1 hc hr=>exact .slice _ es b off cap size cs eT (λh=>by cases h) bg h1 hc hr
 |bool b=>exact .bool b
 |lk b=>exact .lk b
 |int k n=>exact .int k n
 |str l=>exact .str l
 |agg cs vs hl h1 hr=>exact .agg cs vs hl h1 hr
 |dR cs vs hl hr=>exact .dR cs vs hl hr
 |ref cs b off vs h1 hc hr=>exact .ref cs b off vs h1 hc hr
 |map ks vs b es clock hb hm hk hv hr jd=>exact .map ks vs b es clock hb hm hk hv hr jd
 |r_=>exact .r_
 |pH=>exact .pH
 |iface t v c h=>exact .iface t v c h
 |nW=>exact .nW
 |val c h=>exact .val c h
def RD.vw{Pr:Nat->Nat->Prop}{w:World}{v:AV}{c:Value}(h:RD Pr w v c):RD Pr w v.vw c:=by
 cases h with
 |agg cs vs hl h1 hr=>
  refine .agg _ vs (by simpa using hl) (λi hi=>?_) (λi hi cQ=>?_)
  .simp only[acC]at hi;have:=h1 i hi;simp only[acM];generalize cs[i]=u at this
   cases u<;>first|rfl|cases this
  .simp only[acC]at hi;simp only[acM];exact(hr i hi cQ).cT
 |gx o=>exact .gx _
 |ja o a=>exact .ja _ a
 |slice o es b off cap size cs eT hn bg h1 hc hr=>exact .slice _ es b off cap size cs eT (λh=>by cases h) bg h1 hc hr
 |bool b=>exact .bool b
 |lk b=>exact .lk b
 |int k n=>exact .int k n
 |str l=>exact .str l
 |dR cs vs hl hr=>exact .dR cs vs hl hr
 |ref cs b off vs h1 hc hr=>exact .ref cs b off vs h1 hc hr
 |map ks vs b es clock hb hm hk hv hr jd=>exact .map ks vs b es clock hb hm hk hv hr jd
 |r_=>exact .r_
 |pH=>exact .pH
 |iface t v c h=>exact .iface t v c h
 |nW=>exact .nW
 |val c h=>exact .val c h
def AV.jC{v:AV}(h:v.storable=true):v.bW=true:=by cases v<;>first|rfl|cases h
end Go.AL
namespace Go.AL
open Go.RowKit
abbrev an:=Nat->AV
abbrev aq:=Nat->Option (List AV)
def au{α:Type}(f:Nat->α)(i:Nat)(x:α):Nat->α:=λj=>if j=i then x else f j
def aK{α:Type}(f:Nat->α)(i:Nat)(x:α):au f i x i=x:=by simp[au]
def aN{α:Type}(f:Nat->α){i j:Nat}(x:α)(h:j≠i):au f i x j=f j:=by simp[au,h]
inductive Loc where
 |slot (t:Nat)|cell (i j:Nat)
 deriving DecidableEq
def jU(d:Nat):AV->Bool
 |.box i _=>i==d
 |.func ..|.f_ _=>true
 |_=>false
def bQ(d:Nat):AV->AV
 |.box i o=>if i=d then .bm else .box i o
 |.func fn first cap=>if first.any (jU d)||cap.any (jU d)then .bm else .func fn first cap
 |.f_ _=>.bm
 |v=>v
def PM:AV->Bool
 |.func ..|.f_ _=>false
 |_=>true
def flat:AV->Bool
 |.func _ first cap=>first.all PM&&cap.all PM
 |.f_ _=>false
 |_=>true
structure Old where
 c:Nat->Nat->Prop
 facts:List (AV×Value)
 bx:Nat->Prop
 ds:List Deferred
 aR:Nat->Option Obj
 sp:Nat->Nat->Prop
 sw:World
 ok:∀p∈facts,flat p.1=true/\∀d,¬bx d->bQ d p.1=p.1
def Old.plain(c:Nat->Nat->Prop)(w:World):Old:={ c:=c,facts:=[],bx:=λ_=>False,ds:=[],aR:=λ_=>none,sp:=λ_ _=>False,sw:=w,ok:=λ_ h=>by cases h }
structure Gh where
 base:Nat
 old:Old
 al:Nat->Option Nat
 hi:Nat->Nat
 owner:Nat->Option Loc
def Gh.Pr(g:Gh)(b k:Nat):Prop:=(b<g.base/\g.old.c b k)\/(g.base<=b/\k<g.hi b)
def ea(P:Program)(w:World)(g:Gh)(loc:Loc):AV->Value->Prop
 |.slice (.own e) es,c=>∃i xs b,P.info? e=some i/\w.ownsRow g.base e i.size c es.length xs/\c.ownBlock=some b/\g.owner b=some loc/\g.hi b=es.length*i.size
 |_,_=>True
structure Rel(P:Program)(w0:World)(n:Nat)(U:Nat->Prop)(g:Gh)(S:an)(H:aq)(a:Act)(w:World):Prop where
 size:a.tmps.size=n
 defers:a.defers=g.old.ds
 facts:∀p∈g.old.facts,RV g.Pr g.al w p.1 p.2
 slot:∀t,t<n->¬U t->RV g.Pr g.al w (S t) (a.tmps.getD t undef)
 own:∀t,t<n->¬U t->ea P w g (.slot t) (S t) (a.tmps.getD t undef)
 box:∀i b,g.al i=some b->∃cs vs ty,H i=some cs/\g.base<=b/\w.heap[b]?=some (.cells vs ty (0,0))/\g.hi b=0/\g.owner b=none/\cs.length=vs.size/\
  (∀j (h:j<cs.length)(h':j<vs.size),RD g.Pr w cs[j] vs[j])/\(∀j (h:j<cs.length)(h':j<vs.size),ea P w g (.cell i j) cs[j] vs[j])/\∀j (h:j<cs.length),(cs[j]).one=true
 iw:∀i cs,H i=some cs->¬U i->(g.al i).isSome
 iE:∀i,U i->g.al i=none
 inj:∀i j b,g.al i=some b->g.al j=some b->i=j
 base:g.base=w0.heap.size
 below:Below g.base w0 w
 fresh:∀b,w.heap.size<=b->g.hi b=0/\g.owner b=none
 still:bc g.old.sp g.Pr g.old.sw w
 grown:g.old.sw.heap.size<=w.heap.size
 kept:∀b o,g.old.aR b=some o->g.base<=b/\w.heap[b]?=some o/\g.hi b=0/\g.owner b=none/\∀i,g.al i≠some b
def ea.aR {P:Program} {w w':World} {g g':Gh} {loc:Loc} {v:AV} {c:Value} (h:ea P w g loc v c) (hb:g'.base=g.base)
  (hk:∀b,g.owner b=some loc->w'.heap[b]?=w.heap[b]?/\g'.hi b=g.hi b/\g'.owner b=some loc):ea P w' g' loc v c:=by
 unfold ea at*
 split at h
 .obtain⟨i,xs,b,h1,h2,h3,h4,h5⟩:=h;obtain⟨k1,k2,k3⟩:=hk b h4;refine⟨i,xs,b,h1,?_,h3,k3,by rw[k2];exact h5⟩;rw[hb];refine⟨h2.1,?_⟩
  rcases h2.2 with hn|⟨gg,cap,cur,rfl,lU,CN,rest⟩
  .exact .inl hn
  .have:gg=b:=by simpa[Value.ownBlock]using h3
   subst this;exact .inr ⟨gg,cap,cur,rfl,lU,by rw[k1];exact CN,rest⟩
 .trivial
def ea.aH{P:Program}{w:World}{g:Gh}{loc:Loc}{v:AV}{c:Value}:ea P w g loc v.aH c:=by
 cases v<;>try trivial
 rename_i o es
 cases o<;>trivial
def Rel.ext {P:Program} {w0:World} {n:Nat} {U:Nat→Prop} {g g':Gh} {S:an} {H:aq} {a:Act} {w w':World} (R:Rel P w0 n U g S H a w)
  (fT:g'.base=g.base) (hold:g'.old=g.old) (gw:g'.al=g.al)
  (dX:bc g.Pr g'.Pr w w')
  (aaG:∀i b,g.al i=some b->w'.heap[b]?=w.heap[b]?/\g'.hi b=g.hi b/\g'.owner b=g.owner b)
  (cI:∀b loc,g.owner b=some loc->w'.heap[b]?=w.heap[b]?/\g'.hi b=g.hi b/\g'.owner b=some loc)
  (TM:Below g.base w0 w') (mY:∀b,w'.heap.size<=b->g'.hi b=0/\g'.owner b=none)
  (kI:∀b o,g.old.aR b=some o->w.heap[b]?=some o->w'.heap[b]?=some o/\g'.hi b=g.hi b/\g'.owner b=g.owner b) (XP:w.heap.size<=w'.heap.size):Rel P w0 n U g' S H a w':={
 size:=R.size
 defers:=by rw[hold];exact R.defers
 facts p hp:=(R.facts p (by rw[<-hold];exact hp)).mono dX (by rw[gw];exact λ_ _ h=>h)
 slot t ht hu:=(R.slot t ht hu).mono dX (by rw[gw];exact λ_ _ h=>h)
 own t ht hu:=(R.own t ht hu).aR fT λb hb=>cI b _ hb
 box i b hi:=by
  rw[gw]at hi;obtain⟨cs,vs,ty,h1,h2,h3,h4,h5,h6,h7,h8,h9⟩:=R.box i b hi;obtain⟨k1,k2,k3⟩:=aaG i b hi;refine⟨cs,vs,ty,h1,by rw[fT];exact h2,by rw[k1];exact h3,by rw[k2];exact h4,by rw[k3];exact h5,h6,?_,?_,h9⟩
  .exact λj hj dH=>(h7 j hj dH).mono dX
  .exact λj hj dH=>(h8 j hj dH).aR fT λb hb=>cI b _ hb
 iw i cs h hu:=by rw[gw];exact R.iw i cs h hu
 iE i h:=by rw[gw];exact R.iE i h
 inj i j b h h':=by rw[gw]at h h';exact R.inj i j b h h'
 base:=by rw[fT];exact R.base
 below:=by rw[fT];exact TM
 fresh:=mY
 still:=by rw[hold];exact R.still.trans dX
 grown:=by rw[hold];exact adD R.grown XP
 kept b o h:=by
  rw[hold]at h;obtain⟨k1,k2,k3,k4,k5⟩:=R.kept b o h;obtain⟨e1,e2,e3⟩:=kI b o h k2
  exact⟨by rw[fT];exact k1,e1,by rw[e2];exact k3,by rw[e3];exact k4,by rw[gw];exact k5⟩ }
def Rel.grow {P:Program} {w0:World} {n:Nat} {U:Nat→Prop} {g g':Gh} {S:an} {H:aq} {a:Act} {w w':World} (R:Rel P w0 n U g S H a w)
  (hb:Below w.heap.size w w') (fT:g'.base=g.base) (hold:g'.old=g.old) (gw:g'.al=g.al)
  (hg:∀b,b<w.heap.size->g'.hi b=g.hi b/\g'.owner b=g.owner b) (mY:∀b,w'.heap.size<=b->g'.hi b=0/\g'.owner b=none):Rel P w0 n U g' S H a w':=by
 have hle:g.base<=w.heap.size:=by rw[R.base];exact R.below.size
 refine R.ext fT hold gw ?_ ?_ ?_ ?_ mY ?_ hb.size
 .refine bc.iN (λb av=>hb.block b av) λb k av hp=>?_
  unfold Gh.Pr at*
  rw[fT,hold,(hg b av).1];exact hp
 .intro i b hi;obtain⟨cs,vs,ty,h1,h2,h3,_⟩:=R.box i b hi;have av:b<w.heap.size:=(acz.1 h3).1;exact⟨hb.block b av,hg b av⟩
 .intro b loc ho
  have av:b<w.heap.size:=by
   rcases adK b w.heap.size with h|h
   .exact h
   .rw[(R.fresh b h).2]at ho;cases ho
  exact⟨hb.block b av,(hg b av).1,by rw[(hg b av).2];exact ho⟩
 .exact R.below.trans (hb.mono hle)
 .intro b o _ ho;have av:b<w.heap.size:=(acz.1 ho).1;exact⟨by rw[hb.block b av];exact ho,hg b av⟩
def Rel.jR {P:Program} {w0:World} {n:Nat} {U:Nat→Prop} {g:Gh} {S:an} {H:aq} {a:Act} {w w':World} (R:Rel P w0 n U g S H a w)
  (hb:Below w.heap.size w w'):Rel P w0 n U g S H a w':=
 R.grow hb rfl rfl rfl (λ_ _=>⟨rfl,rfl⟩) (λb h=>R.fresh b (adD hb.size h))
def ir(a:Act)(d t:Nat)(c:Value)(hd:d<a.tmps.size):(a.put (some d) c).tmps.getD t undef=if t=d then c else a.tmps.getD t undef:=by
 simp only[Act.put]
 by_cases h:t=d
 .subst h;simp[hd]
 .simp[h,acB (adi h)]
def Rel.put {P:Program} {w0:World} {n:Nat} {U:Nat→Prop} {g:Gh} {S:an} {H:aq} {a:Act} {w:World} (R:Rel P w0 n U g S H a w)
  (d:Nat) (v:AV) (c:Value) (hd:d<n) (hv:RV g.Pr g.al w v c) (ho:ea P w g (.slot d) v c):Rel P w0 n U g (au S d v) H (a.put (some d) c) w:={
 size:=by simp[Act.put,R.size]
 defers:=R.defers
 facts:=R.facts
 slot t ht hu:=by
  rw[ir a d t c (by rw[R.size];exact hd)]
  by_cases h:t=d
  .subst h;simp only[aK,ac3];exact hv
  .rw[aN S v h,if_neg h];exact R.slot t ht hu
 own t ht hu:=by
  rw[ir a d t c (by rw[R.size];exact hd)]
  by_cases h:t=d
  .subst h;simp only[aK,ac3];exact ho
  .rw[aN S v h,if_neg h];exact R.own t ht hu
 box:=R.box
 iw:=R.iw
 iE:=R.iE
 inj:=R.inj
 base:=R.base
 below:=R.below
 fresh:=R.fresh
 still:=R.still
 grown:=R.grown
 kept:=R.kept }
def aY(S:an):Option Nat->AV->an
 |some d,v=>au S d v
 |none,_=>S
def Rel.aY {P:Program} {w0:World} {n:Nat} {U:Nat→Prop} {g:Gh} {S:an} {H:aq} {a:Act} {w:World} (R:Rel P w0 n U g S H a w)
  (d:Option Nat) (v:AV) (c:Value) (hd:∀t,d=some t->t<n) (hv:RV g.Pr g.al w v c) (ho:∀t,d=some t->ea P w g (.slot t) v c):Rel P w0 n U g (aY S d v) H (a.put d c) w:=by
 cases d with
 |none=>exact R
 |some t=>exact R.put t v c (hd t rfl) hv (ho t rfl)
def Rel.weaken {P:Program} {w0:World} {n:Nat} {U:Nat→Prop} {g:Gh} {S:an} {H:aq} {a:Act} {w:World} (R:Rel P w0 n U g S H a w)
  (S':an) (h:∀t,t<n->¬U t->∀c,RV g.Pr g.al w (S t) c->ea P w g (.slot t) (S t) c->RV g.Pr g.al w (S' t) c/\ea P w g (.slot t) (S' t) c):Rel P w0 n U g S' H a w:={
 size:=R.size
 defers:=R.defers
 facts:=R.facts
 slot t ht hu:=(h t ht hu _ (R.slot t ht hu) (R.own t ht hu)).1
 own t ht hu:=(h t ht hu _ (R.slot t ht hu) (R.own t ht hu)).2
 box:=R.box
 iw:=R.iw
 iE:=R.iE
 inj:=R.inj
 base:=R.base
 below:=R.below
 fresh:=R.fresh
 still:=R.still
 grown:=R.grown
 kept:=R.kept }
def AV.ly:AV->Prop
 |.slice (.own _) _=>False
 |_=>True
instance(v:AV):Decidable v.ly:=by unfold AV.ly;split<;>infer_instance
def AV.oX(v:AV):v.aH.ly:=by
 cases v<;>try trivial
 rename_i o es
 cases o<;>trivial
def ea.ly{P:Program}{w w':World}{g g':Gh}{loc yY:Loc}{v:AV}{c:Value}(h:ea P w g loc v c)(hn:v.ly):ea P w' g' yY v c:=by
 cases v<;>try trivial
 rename_i o es
 cases o with
 |view=>trivial
 |nil=>trivial
 |own e=>simp[AV.ly]at hn
def Rel.FM {P:Program} {w0:World} {n:Nat} {U:Nat→Prop} {g:Gh} {S:an} {H:aq} {a:Act} {w:World} (R:Rel P w0 n U g S H a w)
  (loc:Loc) (yY:Option Loc) (hS:∀t,loc=.slot t->t<n->¬U t->(S t).ly)
  (hH:∀i j cs,loc=.cell i j->H i=some cs->∀h:j<cs.length,(cs[j]).ly):
  Rel P w0 n U { g with owner:=λb=>if g.owner b=some loc then yY else g.owner b } S H a w:={
 size:=R.size
 defers:=R.defers
 facts:=R.facts
 slot:=R.slot
 own t ht hu:=by
  by_cases h:loc=.slot t
  .exact(R.own t ht hu).ly (hS t h ht hu)
  .refine(R.own t ht hu).aR rfl λb hb=>⟨rfl,rfl,?_⟩
   show(if g.owner b=some loc then yY else g.owner b)=_;rw[if_neg (by rw[hb];intro e;exact h (acX e).symm)];exact hb
 box i b hi:=by
  obtain⟨cs,vs,ty,h1,h2,h3,h4,h5,h6,h7,h8,h9⟩:=R.box i b hi;refine⟨cs,vs,ty,h1,h2,h3,h4,?_,h6,h7,?_,h9⟩
  .show(if g.owner b=some loc then yY else g.owner b)=none;rw[h5];simp
  .intro j hj dH
   by_cases h:loc=.cell i j
   .exact(h8 j hj dH).ly (hH i j cs h h1 hj)
   .refine(h8 j hj dH).aR rfl λb hb=>⟨rfl,rfl,?_⟩
    show(if g.owner b=some loc then yY else g.owner b)=_;rw[if_neg (by rw[hb];intro e;exact h (acX e).symm)];exact hb
 iw:=R.iw
 iE:=R.iE
 inj:=R.inj
 base:=R.base
 below:=R.below
 fresh b hb:=by
  refine⟨(R.fresh b hb).1,?_⟩;show(if g.owner b=some loc then yY else g.owner b)=none;rw[(R.fresh b hb).2];simp
 still:=R.still
 grown:=R.grown
 kept b o h:=by
  obtain⟨k1,k2,k3,k4,k5⟩:=R.kept b o h;refine⟨k1,k2,k3,?_,k5⟩;show(if g.owner b=some loc then yY else g.owner b)=none
  rw[k4];simp }
def RV.jU {Pr:Nat→Nat→Prop} {al Gw:Nat→Option Nat} {w:World} {v:AV} {c:Value} {d:Nat} (h:RV Pr al w v c) (hs:jU d v=false)
  (ha:∀i b,i≠d->al i=some b->Gw i=some b):RV Pr Gw w v c:=by
 cases h with
 |data v c h=>exact .data _ _ h
 |box i off b h=>exact .box i off b (ha i b (by simpa[Go.AL.jU]using hs) h)
 |func=>simp[Go.AL.jU]at hs
 |f_=>simp[Go.AL.jU]at hs
 |bm c=>exact .bm c
def RV.bQ {Pr:Nat→Nat→Prop} {al Gw:Nat→Option Nat} {w:World} {v:AV} {c:Value} (d:Nat) (h:RV Pr al w v c)
  (ha:∀i b,i≠d->al i=some b->Gw i=some b):RV Pr Gw w (bQ d v) c:=by
 cases h with
 |data v c h=>
  have:Go.AL.bQ d v=v:=by cases h<;>rfl
  rw[this];exact .data _ _ h
 |box i off b h=>
  simp only[Go.AL.bQ];split
  .exact .bm _
  .rename_i hi;exact .box i off b (ha i b hi h)
 |func fn first cap vs us h1 h2 r1 r2=>
  simp only[Go.AL.bQ];split
  .exact .bm _
  .rename_i hn;simp only[adw,not_or,ad8,adH]at hn;exact .func fn first cap vs us h1 h2 (λi h h'=>(r1 i h h').jU (by simpa using hn.1 _ (acy h)) ha) (λi h h'=>(r2 i h h').jU (by simpa using hn.2 _ (acy h)) ha)
 |f_=>exact .bm _
 |bm c=>exact .bm c
def Cv(P:Program)(w:World)(g:Gh)(loc:Loc)(d:Nat)(v:AV)(c:Value)(h:ea P w g loc v c):ea P w g loc (bQ d v) c:=by
 cases v<;>try exact h
 .simp only[bQ];split<;>trivial
 .simp only[bQ];split<;>trivial
def Rel.suspend {P:Program} {w0:World} {n:Nat} {U:Nat→Prop} {g:Gh} {S:an} {H:aq} {a:Act} {w:World} (R:Rel P w0 n U g S H a w)
  (d:Nat) (cg:¬g.old.bx d) (v:AV) (cs:List AV):
  Rel P w0 n (λt=>U t\/t=d) { g with al:=au g.al d none } (au (λt=>bQ d (S t)) d v) (au H d (some cs)) a w:={
 size:=R.size
 defers:=R.defers
 facts p hp:=by
  have h:=(R.facts p hp).bQ (Gw:=au g.al d none) d λi b hi h=>by rw[aN _ _ hi];exact h
  rw[(g.old.ok p hp).2 d cg]at h;exact h
 slot t ht hu:=by
  simp only[not_or]at hu;rw[aN _ _ hu.2]
  refine(R.slot t ht hu.1).bQ d λi b hi h=>?_
  show au g.al d none i=some b;rw[aN _ _ hi];exact h
 own t ht hu:=by
  simp only[not_or]at hu;rw[aN _ _ hu.2];exact Cv _ _ _ _ _ _ _ (R.own t ht hu.1)
 box i b hi:=by
  by_cases h:i=d
  .subst h;simp[au]at hi
  .simp only[aN _ _ h]at hi;obtain⟨fj,vs,ty,h1,rest⟩:=R.box i b hi;exact⟨fj,vs,ty,by rw[aN _ _ h];exact h1,rest⟩
 iw i fj h hu:=by
  simp only[not_or]at hu;rw[aN _ _ hu.2]at h;simp only[aN _ _ hu.2];exact R.iw i fj h hu.1
 iE i h:=by
  show au g.al d none i=none
  by_cases hi:i=d
  .subst hi;simp[au]
  .rw[aN _ _ hi];exact R.iE i (h.resolve_right hi)
 inj i j b h h':=by
  have e:∀k,(au g.al d none) k=some b->g.al k=some b:=by
   intro k hk
   by_cases Il:k=d
   .subst Il;simp[au]at hk
   .rwa [aN _ _ Il]at hk
  exact R.inj i j b (e i h) (e j h')
 base:=R.base
 below:=R.below
 fresh:=R.fresh
 still:=R.still
 grown:=R.grown
 kept b o h:=by
  obtain⟨k1,k2,k3,k4,k5⟩:=R.kept b o h;refine⟨k1,k2,k3,k4,λi=>?_⟩;show au g.al d none i≠some b
  by_cases hi:i=d
  .subst hi;simp[au]
  .rw[aN _ _ hi];exact k5 i }
def Rel.GB {P:Program} {w0:World} {n:Nat} {U:Nat→Prop} {g:Gh} {S:an} {H:aq} {a:Act} {w:World} (R:Rel P w0 n U g S H a w)
  (d:Nat) (hU:U d) (hd:d<n) (cs:List AV) (vs:Array Value) (ty:TypeId) (hS:S d=.box d 0) (hH:H d=some cs) (hl:cs.length=vs.size)
  (hr:∀j (h:j<cs.length)(h':j<vs.size),RD g.Pr w cs[j] vs[j])
  (ho:∀j (h:j<cs.length)(h':j<vs.size),(cs[j]).ly/\ea P w g (.cell d j) cs[j] vs[j]) (h1:∀j (h:j<cs.length),(cs[j]).one=true):
  Rel P w0 n (λt=>U t/\t≠d) { g with al:=au g.al d (some w.heap.size) } S H (a.put (some d) (.pointer (some ⟨w.heap.size,0,none⟩))) (w.alloc (.cells vs ty)):=by
 have hb:Below w.heap.size w (w.alloc (.cells vs ty)):=(adA _ _).alloc (acD _) _;have R':=R.jR hb
 have hle:g.base<=w.heap.size:=by rw[R.base];exact R.below.size
 have gw:∀i b,g.al i=some b->au g.al d (some w.heap.size) i=some b:=by
  intro i b h;rw[aN _ _ (by rintro rfl;rw[R.iE _ hU]at h;cases h)];exact h
 have hRD:∀{v:AV}{c:Value},RD g.Pr w v c->RD g.Pr (w.alloc (.cells vs ty)) v c:=λh=>h.mono (bc.iN (λb av=>hb.block b av) λ_ _ _ h=>h)
 refine{ size:=by simp[Act.put,R.size],defers:=R.defers,facts:=λp hp=>(R'.facts p hp).mono (bc.same λ_ _ _ h=>h) gw,slot:=?_,own:=?_,box:=?_,iw:=?_,iE:=?_,inj:=?_,base:=R.base,below:=R'.below,fresh:=R'.fresh,still:=R'.still,grown:=R'.grown,kept:=?_ }
 .intro t ht hu;rw[ir a d t _ (by rw[R.size];exact hd)]
  by_cases h:t=d
  .subst h;rw[if_pos rfl,hS];exact .box _ _ _ (by simp[au])
  .rw[if_neg h];exact(R'.slot t ht (λPx=>hu ⟨Px,h⟩)).mono (bc.same λ_ _ _ h=>h) gw
 .intro t ht hu;rw[ir a d t _ (by rw[R.size];exact hd)]
  by_cases h:t=d
  .subst h;rw[hS];simp[ea]
  .rw[if_neg h]
   exact(R'.own t ht (λPx=>hu ⟨Px,h⟩)).aR rfl λb hb=>⟨rfl,rfl,hb⟩
 .intro i b hi
  by_cases h:i=d
  .subst h
   have lU:b=w.heap.size:=by simpa[au]using hi.symm
   subst lU;refine⟨cs,vs,ty,hH,hle,afI w _,(R.fresh _ (acD _)).1,(R.fresh _ (acD _)).2,hl,λj h h'=>hRD (hr j h h'),λj h h'=>(ho j h h').2.ly (ho j h h').1,h1⟩
  .simp only[aN _ _ h]at hi;obtain⟨fj,kz,Aj,h1,h2,h3,h4,h5,h6,h7,h8,h9⟩:=R'.box i b hi;exact⟨fj,kz,Aj,h1,h2,h3,h4,h5,h6,h7,λj hj dH=>(h8 j hj dH).aR rfl λb hb=>⟨rfl,rfl,hb⟩,h9⟩
 .intro i fj h hu
  by_cases hi:i=d
  .subst hi;simp[au]
  .simp only[aN _ _ hi];exact R.iw i fj h (λPx=>hu ⟨Px,hi⟩)
 .intro i h;show au g.al d (some w.heap.size) i=none;rw[aN _ _ h.2];exact R.iE i h.1
 .intro i j b h h'
  have key:∀k,au g.al d (some w.heap.size) k=some b->(k=d/\b=w.heap.size)\/(k≠d/\g.al k=some b):=by
   intro k hk
   by_cases Il:k=d
   .subst Il;exact .inl ⟨rfl,by simpa[au]using hk.symm⟩
   .rw[aN _ _ Il]at hk;exact .inr ⟨Il,hk⟩
  have av:∀k,g.al k=some b->b<w.heap.size:=by
   intro k hk;obtain⟨_,_,_,_,_,h3,_⟩:=R.box k b hk;exact(acz.1 h3).1
  rcases key i h with⟨rfl,e⟩|⟨hi,h1⟩<;>rcases key j h' with⟨rfl,e'⟩|⟨hj,h2⟩
  .rfl
  .have:=av j h2;omega
  .have:=av i h1;omega
  .exact R.inj i j b h1 h2
 .intro b o h;obtain⟨k1,k2,k3,k4,k5⟩:=R'.kept b o h;refine⟨k1,k2,k3,k4,λi=>?_⟩;show au g.al d (some w.heap.size) i≠some b
  by_cases hi:i=d
  .subst hi;rw[aK];have:=(acz.1 (R.kept b o h).2.1).1;intro e;have:=acX e;omega
  .rw[aN _ _ hi];exact k5 i
def Rel.FU {P:Program} {w0:World} {n:Nat} {U:Nat→Prop} {g:Gh} {S:an} {H:aq} {a:Act} {w:World} (R:Rel P w0 n U g S H a w)
  (i b:Nat) (hi:g.al i=some b) (vs kz:Array Value) (ty:TypeId) (hh:w.heap[b]?=some (.cells vs ty (0,0))) (fj:List AV) (hl:fj.length=kz.size)
  (hr:∀j (h:j<fj.length)(h':j<kz.size),RD g.Pr w fj[j] kz[j])
  (ho:∀j (h:j<fj.length)(h':j<kz.size),ea P w g (.cell i j) fj[j] kz[j]) (Gv:∀j (h:j<fj.length),(fj[j]).one=true):
  Rel P w0 n U g S (au H i (some fj)) a (w.setRow b kz):=by
 obtain⟨cs,Rd,ty0,h1,h2,h3,h4,h5,h6,h7,h8,h9⟩:=R.box i b hi
 have bP:∀b' k,g.Pr b' k->b'≠b:=by
  rintro b' k hp rfl;unfold Gh.Pr at hp;rw[h4]at hp;omega
 have dX:bc g.Pr g.Pr w (w.setRow b kz):={
  cell:=λb' k hp u hu=>⟨hp,by rw[aes (w:=w) (adL w b b' kz (bP b' k hp))];exact hu⟩
  map:=λb' hp es c hm=>⟨hp,by rw[adL w b b' kz (bP b' 0 hp)];exact hm⟩ }
 have cI:∀b' loc,g.owner b'=some loc->(w.setRow b kz).heap[b']?=w.heap[b']?/\g.hi b'=g.hi b'/\g.owner b'=some loc:=by
  intro b' loc fS;refine⟨adL w b b' kz ?_,rfl,fS⟩;rintro rfl;rw[h5]at fS;cases fS
 refine{ size:=R.size,defers:=R.defers,facts:=λp hp=>(R.facts p hp).mono dX λ_ _ h=>h,slot:=?_,own:=?_,box:=?_,iw:=?_,iE:=R.iE,inj:=R.inj,base:=R.base,below:=?_,fresh:=?_,still:=R.still.trans dX,grown:=by simpa using R.grown,kept:=?_ }
 .exact λt ht hu=>(R.slot t ht hu).mono dX λ_ _ h=>h
 .exact λt ht hu=>(R.own t ht hu).aR rfl λb' fS=>cI b' _ fS
 .intro k b' hk
  by_cases tW:k=i
  .subst tW
   have:b'=b:=by rw[hi]at hk;exact(acX hk).symm
   subst this;exact⟨fj,kz,ty,aK _ _ _,h2,aer w b' vs kz ty (0,0) hh,h4,h5,hl,λj h h'=>(hr j h h').mono dX,λj h h'=>(ho j h h').aR rfl λb' fS=>cI b' _ fS,Gv⟩
  .obtain⟨c1,v1,t1,k1,k2,k3,k4,k5,k6,k7,k8,k9⟩:=R.box k b' hk
   have bP:b'≠b:=by rintro rfl;exact tW (R.inj k i b' hk hi)
   exact⟨c1,v1,t1,by rw[aN _ _ tW];exact k1,k2,by rw[adL w b b' kz bP];exact k3,k4,k5,k6,λj h h'=>(k7 j h h').mono dX,λj h h'=>(k8 j h h').aR rfl λb' fS=>cI b' _ fS,k9⟩
 .intro k cs1 hk hu
  by_cases tW:k=i
  .subst tW;rw[hi];rfl
  .rw[aN _ _ tW]at hk;exact R.iw k cs1 hk hu
 .exact R.below.trans ⟨rfl,rfl,rfl,by simp,λk hk=>adL w b k kz (by omega)⟩
 .intro b' fS;exact R.fresh b' (by simpa using fS)
 .intro b' o h;obtain⟨k1,k2,k3,k4,k5⟩:=R.kept b' o h;refine⟨k1,?_,k3,k4,k5⟩;rw[adL w b b' kz (by rintro rfl;exact k5 i hi)];exact k2
inductive cz where
 |t (n:Nat)|c (v:AV)|f (n:Nat)|m (n:Nat) (Xn:List (TypeId×Nat))
def mj:Value->Option AV
 |.bool b=>some (.bool b)
 |.int k n=>some (.int k n)
 |.string s=>some (.str s.data.toList)
 |.slice none 0 0=>some (.slice .nil [])
 |.pointer none=>some .pH
 |.map none=>some (.map [] [])
 |.nilIface=>some .nW
 |.nilFunc=>some (.val .nilFunc)
 |_=>none
def ik:List Value->Option (List AV)
 |[]=>some []
 |v::vs=>match mj v,ik vs with
  |some x,some xs=>if x.storable then some (x::xs)else none
  |_,_=>none
def ev(S:an):cz->AV
 |.t n=>S n
 |.c v=>v
 |.f n=>.func (.func n) [] []
 |.m n Xn=>match S n with
  |.iface t v=>match Xn.lookup t with
   |some k=>.func (.func k) [v] []
   |none=>.bm
  |_=>.bm
inductive HR where
 |any|ref|box (r:Nat)
def HR.okB:HR->Nat->Bool
 |.any,_=>true
 |.ref,_=>false
 |.box r,i=>i==r
inductive dT where
 |mv (take:Bool) (x:cz)
 |pick (c a b:cz)
 |alloc (t:TypeId) (zero:List AV)
 |box (t:TypeId) (size:Nat) (x:cz)
 |build (zero:List AV) (parts:List (Nat×Nat×cz))
 |buildSlice (t e:TypeId) (size:Nat) (parts:List cz)
 |load (hr:HR) (agg:Bool) (size:Nat) (a:cz)
 |loadT (hr:HR) (a:cz)
 |store (hr:HR) (size:Nat) (a x:cz)
 |bin (op:BinOp) (x y:cz)
 |Bp (neg:Bool) (x y:cz)
 |eqs (neg:Bool) (k:Nat) (x y:cz)
 |lK (ag:Bool) (len size:Nat) (x i:cz)
 |v_ (x:cz)
 |mZ (xs:List cz)
 |ng (len:Nat) (x i:cz)
 |lookup (k:Nat) (z:AV) (x i:cz)
 |not (x:cz)
 |conv (k:IntKind) (x:cz)
 |iface (t:TypeId) (x:cz)
 |Dz (fn:Fn) (first cap:List cz)
 |nc (x:cz) (lo hi:Option cz)
 |lH (size:Nat) (x:cz) (lo hi:Option cz)
 |ou (len:Nat) (x:cz)
 |fieldAddr (off:Nat) (x:cz)
 |indexAddr (size:Nat) (x i:cz)
 |m_ (x i:cz)
 |extract (x:cz) (i:Nat)
 |wU (x:cz)
 |iW (x:cz)
 |isNil (neg:Bool) (x:cz)
 |empty (e:TypeId)
 |append (t e:TypeId) (size bytes:Nat) (x y:cz)
 |max (x y:cz)
 |min (x y:cz)
 |assert (t:TypeId) (zero:AV) (x:cz)
 |panic (x:cz)
 |call (f:Nat) (args:List cz)
 |fc (f:cz) (args:List cz)
 |other
structure aQ where
 v:AV
 dm:Option Nat:=none
 hw:Option (Nat×List AV):=none
def aQ.S(e:aQ)(S:an)(dst:Option Nat):an:=
 aY (match e.dm with|some t=>au S t (S t).aH|none=>S) dst e.v
def aQ.H(e:aQ)(H:aq):aq:=
 match e.hw with|some (i,cs)=>au H i (some cs)|none=>H
def bO:AV:=.dR []
def eF(op:BinOp):AV->AV->Option AV
 |.int k a,.int k' b=>
  if k≠k' then none else
  match op with
  |.add=>some (.int k (k.wrap (a+b)))
  |.sub=>some (.int k (k.wrap (a-b)))
  |.mul=>some (.int k (k.wrap (a*b)))
  |.quo=>if b=0 then none else some (.int k (k.wrap (a.tdiv b)))
  |.rem=>if b=0 then none else some (.int k (a.tmod b))
  |.eql=>some (.bool (a==b))
  |.neq=>some (.bool (a !=b))
  |.lss=>some (.bool (decide (a<b)))
  |.leq=>some (.bool (decide (a<=b)))
  |.gtr=>some (.bool (decide (a>b)))
  |.geq=>some (.bool (decide (a>=b)))
  |_=>none
 |.str a,.str b=>
  match op with
  |.eql=>some (.bool (a==b))
  |.neq=>some (.bool (a !=b))
  |.add=>if a.length+b.length<1073741824 then some (.str (a++b))else none
  |_=>none
 |_,_=>none
def kU:List AV->Option (List Int)
 |[]=>some []
 |.int .i64 n::cs=>(kU cs).map (n::·)
 |_=>none
def bytesOf:List AV->Option (List UInt8)
 |[]=>some []
 |.int .u8 n::cs=>if 0<=n/\n<256 then(bytesOf cs).map (UInt8.ofNat n.toNat::·)else none
 |_=>none
def mO(key:List Int):List AV->List AV->Option (Option AV)
 |[],_=>some none
 |.agg c::ks,v::vs=>match kU c with
  |some m=>if m.length≠key.length then none else if key==m then some (some v)else mO key ks vs
  |none=>none
 |_,_=>none
def zy:AV->Bool
 |.func ..|.val .nilFunc=>true
 |_=>false
def bu(cs:List AV)(off:Nat)(vs:List AV):List AV:=cs.take off++vs++cs.drop (off+vs.length)
def bV(cells:List AV):List (Nat×Nat×AV)->Option (List AV)
 |[]=>some cells
 |(off,size,v)::rest=>if v.cells.length=size/\off+size<=cells.length/\v.storable=true then bV (bu cells off (v.aH.cells)) rest else none
def b0(agg:Bool)(size:Nat)(cs:List AV):Option AV:=
 if agg then(if size<=cs.length then some (.agg ((cs.take size).map AV.aH))else none)
 else(cs[0]?).map AV.aH
def bound(x:Option AV)(d:Nat):Option Int:=
 match x with
 |none=>some d
 |some (.int .i64 n)=>some n
 |_=>none
def AV.bZ:AV->List AV
 |.agg cs=>cs.map AV.aH
 |v=>[v]
def bG:cz->Option Nat
 |.t n=>some n
 |_=>none
def aJ(size:Nat)(es:List AV):Bool:=es.all λv=>v.storable&&v.cells.length==size
def aD(S:an)(H:aq):dT->Option aQ
 |.mv take x=>if take then some { v:=ev S x,dm:=bG x }else some { v:=(ev S x).aH }
 |.pick c a b=>match ev S c with
  |.bool t=>some { v:=(if t then ev S a else ev S b).aH }
  |_=>none
 |.build zero parts=>(bV zero (parts.map λ(o,s,x)=>(o,s,ev S x))).map λcs=>{ v:=.agg cs }
 |.buildSlice _ e size parts=>
  if aJ size (parts.map (ev S))&&parts.length*size<=16777216 then some { v:=.slice (.own e) ((parts.map (ev S)).map AV.vw) }else none
 |.load hr agg size x=>match ev S x with
  |.box i off=>if hr.okB i then match H i with
   |some cs=>(b0 agg size (cs.drop off)).map λv=>{ v:=v }
   |none=>none
   else none
  |.ref cs=>(b0 agg size cs).map λv=>{ v:=v }
  |_=>none
 |.loadT hr x=>match ev S x with
  |.box i off=>if hr.okB i then match H i with
   |some cs=>match cs[off]? with
    |some v=>some { v:=v,hw:=some (i,cs.set off v.aH) }
    |none=>none
   |none=>none
   else none
  |_=>none
 |.store hr size x y=>match ev S x with
  |.box i off=>if hr.okB i then match H i with
   |some cs=>if (ev S y).cells.length=size∧off+size≤cs.length∧(ev S y).storable=true then
     some { v:=bO,dm:=bG y,hw:=some (i,bu cs off (ev S y).bZ) }else none
   |none=>none
   else none
  |_=>none
 |.bin op x y=>(eF op (ev S x) (ev S y)).map λv=>{ v:=v }
 |.Bp neg x y=>match ev S x,ev S y with
  |.bool a,.bool b=>some { v:=.bool (if neg then a !=b else a==b) }
  |_,_=>none
 |.eqs neg k x y=>match ev S x,ev S y with
  |.agg xs,.agg ys=>match kU xs,kU ys with
   |some a,some b=>if a.length=k/\b.length=k then some { v:=.bool (if neg then a !=b else a==b) }else none
   |_,_=>none
  |_,_=>none
 |.lK ag len size x i=>match ev S x,ev S i with
  |.agg cs,.int .i64 k=>if 0<=k/\k<len then(b0 ag size (cs.drop (k.toNat*size))).map λv=>{ v:=v }else none
  |_,_=>none
 |.mZ xs=>if(xs.map (ev S)).all zy then some { v:=.f_ (xs.map (ev S)) }else none
 |.ng len x i=>match ev S x,ev S i with
  |.f_ fs,.int .i64 k=>if 0≤k∧k < len then match fs[k.toNat]? with
    |some v=>if zy v then some { v:=v }else none
    |none=>none
   else none
  |_,_=>none
 |.v_ x=>match ev S x with
  |.slice _ es=>(bytesOf es).map λl=>{ v:=.str l }
  |_=>none
 |.lookup k z x i=>match ev S x,ev S i with
  |.map ks vs,.agg c=>match kU c with
   |some key=>if key.length=k then match mO key ks vs with
     |some (some v)=>some { v:=.dR [v.aH,.bool true] }
     |some none=>some { v:=.dR [z,.bool false] }
     |none=>none
    else none
   |none=>none
  |_,_=>none
 |.not x=>match ev S x with
  |.bool b=>some { v:=.bool !b }
  |_=>none
 |.conv k x=>match ev S x with
  |.int _ n=>some { v:=.int k (k.wrap n) }
  |_=>none
 |.iface t x=>if(ev S x).storable then some { v:=.iface t (ev S x).vw }else none
 |.Dz fn first cap=>some { v:=.func fn (first.map λx=>(ev S x).aH) (cap.map λx=>(ev S x).aH) }
 |.nc x lo hi=>match ev S x with
  |.str l=>match bound (lo.map (ev S)) 0,bound (hi.map (ev S)) l.length with
   |some a,some b=>if 0<=a/\a<=b/\b<=l.length then some { v:=.str ((l.take b.toNat).drop a.toNat) }else none
   |_,_=>none
  |_=>none
 |.ou len x=>match ev S x with
  |.ref cs=>if cs.length=len then some { v:=.slice .view cs }else none
  |_=>none
 |.lH size x lo hi=>match ev S x with
  |.slice _ es=>match bound (lo.map (ev S)) 0,bound (hi.map (ev S)) es.length with
   |some a,some b=>if 0<=a/\a<=b/\b<=es.length/\aJ size es=true then some { v:=.slice .view ((es.take b.toNat).drop a.toNat) }else none
   |_,_=>none
  |_=>none
 |.fieldAddr off x=>match ev S x with
  |.box i o=>some { v:=.box i (o+off) }
  |.ref cs=>some { v:=.ref (cs.drop off) }
  |_=>none
 |.indexAddr size x i=>match ev S x,ev S i with
  |.slice _ es,.int .i64 k=>if 0≤k then match es[k.toNat]? with
    |some v=>if v.cells.length=size then some { v:=.ref v.cells }else none
    |none=>none
   else none
  |_,_=>none
 |.m_ x i=>match ev S x,ev S i with
  |.str l,.int .i64 k=>if 0≤k then match l[k.toNat]? with
    |some b=>some { v:=.int .u8 b.toNat }
    |none=>none
   else none
  |_,_=>none
 |.extract x i=>match ev S x with
  |.dR vs=>(vs[i]?).map λv=>{ v:=v.aH }
  |_=>none
 |.wU x=>match ev S x with
  |.str l=>some { v:=.int .i64 l.length }
  |_=>none
 |.iW x=>match ev S x with
  |.slice _ es=>some { v:=.int .i64 es.length }
  |_=>none
 |.isNil neg x=>match ev S x with
  |.slice _ es=>some { v:=if es.isEmpty then .lk else .bool neg }
  |_=>none
 |.empty _=>some { v:=.slice .nil [] }
 |.append _ e size _ x y=>match ev S x,ev S y with
  |.slice .nil [],.slice _ ys=>if aJ size ys&&ys.length<1048576 then some { v:=.slice (if ys.isEmpty then .nil else .own e) ys }else none
  |.slice (.own e') xs,.slice _ ys=>if e'=e/\(aJ size ys&&aJ size xs&&(xs.length+ys.length<1048576))=true then some { v:=.slice (.own e) (xs++ys),dm:=bG x }else none
  |_,_=>none
 |.max x y=>match ev S x,ev S y with
  |.int .i64 a,.int .i64 b=>some { v:=.int .i64 (max a b) }
  |_,_=>none
 |.min x y=>match ev S x,ev S y with
  |.int .i64 a,.int .i64 b=>some { v:=.int .i64 (min a b) }
  |_,_=>none
 |.assert t zero x=>match ev S x with
  |.iface t' v=>some { v:=if t'=t then .dR [v,.bool true]else .dR [zero,.bool false] }
  |.nW=>some { v:=.dR [zero,.bool false] }
  |_=>none
 |_=>none
def cz.tmps:cz->List Nat
 |.t n=>[n]
 |.m n _=>[n]
 |_=>[]
def dT.rd:dT->List Nat
 |.mv _ x|.ou _ x|.box _ _ x|.load _ _ _ x|.loadT _ x|.not x|.v_ x|.conv _ x|.iface _ x|.fieldAddr _ x|.extract x _|.wU x|.iW x|.isNil _ x|.assert _ _ x|.panic x=>x.tmps
 |.pick a b c=>a.tmps++b.tmps++c.tmps
 |.alloc ..|.other|.empty _=>[]
 |.build _ ps=>ps.flatMap λp=>p.2.2.tmps
 |.buildSlice _ _ _ ps=>ps.flatMap cz.tmps
 |.store _ _ a x|.bin _ a x|.Bp _ a x|.eqs _ _ a x|.indexAddr _ a x|.m_ a x|.lK _ _ _ a x|.lookup _ _ a x|.append _ _ _ _ a x|.max a x|.min a x=>a.tmps++x.tmps
 |.mZ xs=>xs.flatMap cz.tmps
 |.ng _ a x=>a.tmps++x.tmps
 |.Dz _ f c=>f.flatMap cz.tmps++c.flatMap cz.tmps
 |.nc x l h|.lH _ x l h=>x.tmps++(l.toList++h.toList).flatMap cz.tmps
 |.call _ zZ=>zZ.flatMap cz.tmps
 |.fc f zZ=>f.tmps++zZ.flatMap cz.tmps
def c_(n:Nat):Operand->Option cz
 |.tmp t=>if t<n then some (.t t)else none
 |.const c=>(mj c).map .c
 |.func f=>some (.f f)
 |.global _=>none
def nY(n:Nat):List Operand->Option (List cz)
 |[]=>some []
 |x::xs=>match c_ n x,nY n xs with
  |some y,some ys=>some (y::ys)
  |_,_=>none
def lL(n:Nat):Option Operand->Option (Option cz)
 |none=>some none
 |some x=>(c_ n x).map some
def JV(Pr:Nat->Nat->Prop)(al:Nat->Option Nat)(w:World){c:Value}{v:AV}(h:mj c=some v):RV Pr al w v c:=by
 unfold mj at h
 split at h<;>first|cases h|skip
 .exact .data _ _ (.bool _)
 .exact .data _ _ (.int _ _)
 .rename_i s
  have:s=⟨s.data.toList.toArray⟩:=by simp
  rw(occs:=.pos [2]) [this];exact .data _ _ (.str _)
 .exact .data _ _ (.gx _)
 .exact .data _ _ .pH
 .exact .data _ _ .r_
 .exact .data _ _ .nW
 .exact .data _ _ (.val _ rfl)
def yw{c:Value}{v:AV}(h:mj c=some v)(P:Program)(w:World)(g:Gh)(loc:Loc):ea P w g loc v c:=by
 unfold mj at h
 split at h<;>first|cases h|skip
 all_goals first|trivial|exact⟨none,rfl⟩
def zP{c:Value}{v:AV}(h:mj c=some v):v.ly:=by
 unfold mj at h
 split at h<;>first|cases h|skip
 all_goals trivial
section
variable{P:Program}{w0:World}{n:Nat}{U:Nat->Prop}{g:Gh}{S:an}{H:aq}{a:Act}{w:World}
def Rel.ev(R:Rel P w0 n U g S H a w){x:Operand}{y:cz}(h:c_ n x=some y)(hu:∀t∈y.tmps,¬U t):RV g.Pr g.al w (ev S y) (a.eval x):=by
 cases x with
 |tmp t=>
  simp only[c_]at h;split at h
  .rename_i ht;cases h;exact R.slot t ht (hu t (by simp[cz.tmps]))
  .cases h
 |const c=>
  simp only[c_,acE]at h;obtain⟨v,hv,rfl⟩:=h;exact JV _ _ _ hv
 |global k=>cases h
 |func f=>
  cases h;exact .func _ [] [] #[] #[] rfl rfl (λi h=>by simp at h) (λi h=>by simp at h)
def Rel.Jw (R:Rel P w0 n U g S H a w):∀ {xs:List Operand} {ys:List cz},nY n xs=some ys→(∀ y∈ys,∀ t∈y.tmps,¬ U t) →
  ys.length=xs.length/\∀i (h:i<ys.length)(h':i<xs.length),RV g.Pr g.al w (AL.ev S ys[i]) (a.eval xs[i])
 |[],ys,h,_=>by cases h;exact⟨rfl,λi h=>by simp at h⟩
 |x::xs,ys,h,hu=>by
  simp only[nY]at h;split at h
  .rename_i y ys' h1 h2;cases h;obtain⟨e,hh⟩:=R.Jw h2 (λy hy=>hu y (by simp[hy]));refine⟨by simp[e],λi hi cQ=>?_⟩
   cases i with
   |zero=>exact R.ev h1 (hu y (by simp))
   |succ i=>exact hh i (by simpa using hi) (by simpa using cQ)
  .cases h
def cK(P:Program)(w0:World)(n:Nat)(U:Nat->Prop)(g:Gh)(S:an)(H:aq)(a:Act)(w:World)(o:Oper)(e:aQ):Prop:=
 ∃c w' g',((execOp a.eval o).run P w=.ok (.value c) w'\/((execOp a.eval o).run P w=.ok .skip w'/\c=undef))/\
  g'.base=g.base/\g'.old=g.old/\Rel P w0 n U g' (e.S S o.dst) (e.H H) (a.put o.dst c) w'
def cK.val (R:Rel P w0 n U g S H a w) {o:Oper} {v:AV} {c:Value} (hd:∀ t,o.dst=some t→t < n) (hr:(execOp a.eval o).run P w = .ok (.value c) w)
  (hv:RV g.Pr g.al w v c) (ho:∀loc,ea P w g loc v c):cK P w0 n U g S H a w o { v:=v }:=
 ⟨c,w,g,.inl hr,rfl,rfl,R.aY o.dst v c hd hv λ_ _=>ho _⟩
def gj(v:AV)(c:Value)(loc:Loc):ea P w g loc v.aH c:=ea.aH
def Ir (R:Rel P w0 n U g S H a w) {o:Oper} {x:Operand} {y:cz} {tk:Bool} {e:aQ} (hd:∀ t,o.dst=some t→t < n∧¬ U t) (hx:c_ n x=some y) (hu:∀ t∈y.tmps,¬ U t)
  (hr:(execOp a.eval o).run P w=.ok (.value (a.eval x)) w) (ee:∀t,o.dst=some t->t∉y.tmps) (he:aD S H (.mv tk y)=some e):cK P w0 n U g S H a w o e:=by
 have hv:=R.ev hx hu
 cases tk with
 |false=>
  simp only[aD,acI,acW,ac0]at he;subst he
  exact cK.val R (λt h=>(hd t h).1) hr hv.aH λloc=>gj _ _ _
 |true=>
  simp only[aD,ac3,ac0]at he;subst he
  cases x with
  |const c=>
   simp only[c_,acE]at hx;obtain⟨v,hc,rfl⟩:=hx
   exact cK.val R (λt h=>(hd t h).1) hr hv λloc=>yw hc _ _ _ _
  |global k=>cases hx
  |func f=>cases hx;exact cK.val R (λt h=>(hd t h).1) hr hv λloc=>trivial
  |tmp t=>
   simp only[c_]at hx;split at hx
   case isFalse=>cases hx
   rename_i ht;cases hx;have Pc:=hu t (by simp[cz.tmps]);have ho:=R.own t ht Pc
   have R1:Rel P w0 n U g (au S t (S t).aH) H a w:=R.weaken _ λk hk huk c nM ho=>by
    by_cases h:k=t
    .subst h;rw[aK];exact⟨nM.aH,gj _ _ _⟩
    .rw[aN _ _ h];exact⟨nM,ho⟩
   cases gz:o.dst with
   |none=>
    refine⟨_,w,g,.inl hr,rfl,rfl,?_⟩;simpa[aQ.S,aQ.H,aY,bG,gz,Act.put]using R1
   |some d=>
    have hdt:d≠t:=λh=>ee d gz (by simp[cz.tmps,h])
    have R2:=R1.FM (.slot t) (some (.slot d)) (λk hk _ _=>by cases hk;rw[aK];exact AV.oX _) (λi j cs h=>by cases h);have R3:=R2.put d (S t) (a.tmps.getD t undef) (hd d gz).1 (R.slot t ht Pc) ?own
    case own=>
     show ea P w _ (.slot d) (S t) (a.tmps.getD t undef);generalize S t=v at ho;generalize a.tmps.getD t undef=c at ho
     cases v<;>try trivial
     rename_i oo es
     cases oo with
     |view=>trivial
     |nil=>exact ho
     |own e=>
      obtain⟨i,xs,b,h1,h2,h3,h4,h5⟩:=ho;refine⟨i,xs,b,h1,h2,h3,?_,h5⟩;show(if g.owner b=some (.slot t)then some (.slot d)else g.owner b)=_;rw[if_pos h4]
    rw[<-gz]at R3;exact⟨_,w,{ g with owner:=λb=>if g.owner b=some (.slot t)then some (.slot d)else g.owner b },.inl hr,rfl,rfl,by rw[gz]at R3⊢;exact R3⟩
def eh:TypeDesc->Bool
 |.struct _|.array _ _=>true
 |_=>false
def q' {Pr:Nat→Nat→Prop} {al:Nat→Option Nat} {ty:TypeId} {i:TypeInfo} {nG:TypeDesc} (hi:P.info? ty=some i) (hu:P.underlying ty=some nG) {b off:Nat} {cs:List AV} {vs:Nat→Value} {v:AV}
  (hc:∀k,k<cs.length->w.cell? ⟨b,off+k,none⟩=some (vs k)) (h1:∀k (h:k<cs.length),(cs[k]).one=true) (hr:∀k (h:k<cs.length),RD Pr w cs[k] (vs k))
  (he:b0 (eh nG) i.size cs=some v):
  ∃c,(loadVar ty ⟨b,off,none⟩).run P w=.ok c w/\RD Pr w v c/\v.aH=v:=by
 have lA:(isAgg ty).run P w=.ok (eh nG) w:=by
  unfold isAgg;rw[acK,acR hu w]
  cases nG<;>simp[eh]
 generalize eh nG=q at he lA
 cases q with
 |true=>
  simp only[b0,ac3]at he;split at he
  case isFalse=>cases he
  rename_i hl;cases he
  have LH:(loadCells ⟨b,off,none⟩ i.size).run P w=.ok ((List.range i.size).map vs).toArray w:=
   run_loadCells (P:=P) w _ _ vs λj hj=>by rw[adt];exact hc j (by omega)
  refine⟨.agg ((List.range i.size).map vs).toArray,by simp[loadVar,acK,lA,sizeOf,typeInfo,hi,LH],?_,rfl⟩
  refine .agg _ _ (by simp;omega) (λk hk=>?_) λk hk dN=>?_
  .simp only[acC,adf]at hk;simp only[acM,ae3];rw[AV.nz];exact h1 k (by omega)
  .simp only[acC,adf]at hk;have:=(hr k (by omega)).aH;simpa using this
 |false=>
  simp only[b0,acI,acW,acE]at he;obtain⟨v0,Ou,rfl⟩:=he;obtain⟨h0,rfl⟩:=acT.1 Ou;have:=hc 0 h0;simp only[Nat.add_zero]at this;exact⟨vs 0,by simp[loadVar,acK,lA,this],(hr 0 h0).aH,AV.idem _⟩
set_option linter.unusedVariables false in
def Cg (R:Rel P w0 n U g S H a w) {o:Oper} {hr:HR} {ty:TypeId} {i:TypeInfo} {nG:TypeDesc} {x:Operand} {y:cz} {e:aQ} (ho:o.op = .load ty x) (hd:∀ t,o.dst=some t→t < n∧¬ U t)
  (hi:P.info? ty=some i) (ep:P.underlying ty=some nG) (hx:c_ n x=some y) (hu:∀t∈y.tmps,¬U t)
  (he:aD S H (.load hr (eh nG) i.size y)=some e):cK P w0 n U g S H a w o e:=by
 have hv:=R.ev hx hu
 have fin:∀{v:AV}{b off:Nat},a.eval x=.pointer (some ⟨b,off,none⟩)->(∃c,(loadVar ty ⟨b,off,none⟩).run P w=.ok c w/\RD g.Pr w v c/\v.aH=v)->cK P w0 n U g S H a w o { v:=v }:=by
  rintro v b off hx ⟨c,h1,h2,h3⟩
  refine cK.val R (λt h=>(hd t h).1) (c:=c) ?_ (.data _ _ h2) λloc=>by rw[<-h3];exact gj _ _ _
  unfold execOp;simp[ho,hx,Instr.loadAt,Instr.sureAddr,h1]
 simp only[aD]at he;generalize qy:AL.ev S y=q at he hv;generalize l7:a.eval x=c at hv fin
 cases hv with
 |box j off b gw=>
  simp only at he;split at he
  case isFalse=>cases he
  obtain⟨cs,vs,Aj,k1,k2,k3,k4,k5,k6,k7,k8,k9⟩:=R.box j b gw;simp only[k1,acE]at he;obtain⟨v,hv,rfl⟩:=he;refine fin rfl (q' (Pr:=g.Pr) (al:=g.al) hi ep (vs:=λk=>vs.getD (off+k) undef) (λk hk=>?_) (λk hk=>?_) (λk hk=>?_) hv)
  .simp only[adg]at hk
   have:off+k<vs.size:=by omega
   simp[World.cell?,k3,this]
  .simp only[adg]at hk;simp only[adV];exact k9 (off+k) (by omega)
  .simp only[adg]at hk;simp only[adV];have hh:=k7 (off+k) (by omega) (by omega)
   have:off+k<vs.size:=by omega
   simpa[this]using hh
 |data v c h=>
  cases h<;>simp only at he<;>try cases he
  rename_i cs b off vs h1 hc hr;simp only[acE]at he;obtain⟨v,hv,rfl⟩:=he;exact fin rfl (q' (Pr:=g.Pr) (al:=g.al) hi ep (vs:=vs) (λk hk=>(hc k hk).2) h1 hr hv)
 |func=>cases he
 |f_=>cases he
 |bm c=>cases he
end
section
variable{P:Program}{w0:World}{n:Nat}{U:Nat->Prop}{g:Gh}{S:an}{H:aq}{a:Act}{w:World}
def Mo (R:Rel P w0 n U g S H a w) {o:Oper} {x x1 x2:Operand} {y y1 y2:cz} {e:aQ} (ho:o.op = .pick x x1 x2) (hd:∀ t,o.dst=some t→t < n∧¬ U t)
  (hx:c_ n x=some y) (mC:c_ n x1=some y1) (k_:c_ n x2=some y2) (hu:∀t∈y.tmps,¬U t) (oq:∀t∈y1.tmps,¬U t) (n0:∀t∈y2.tmps,¬U t)
  (he:aD S H (.pick y y1 y2)=some e):cK P w0 n U g S H a w o e:=by
 have hv:=R.ev hx hu;have fa:=R.ev mC oq;have eD:=R.ev k_ n0;simp only[aD]at he;generalize qy:AL.ev S y=q at he hv;generalize l7:a.eval x=c at hv
 cases hv<;>(try cases he;done)
 rename_i h
 cases h<;>simp only at he<;>try cases he
 rename_i b
 refine cK.val R (λt h=>(hd t h).1) (c:=if b then a.eval x1 else a.eval x2) ?_ ?_ λloc=>gj _ _ _
 .simp[execOp,ho,l7,asBool]
 .cases b<;>simp only[acI,ac3,acW]
  .exact eD.aH
  .exact fa.aH
def O2 (R:Rel P w0 n U g S H a w) {o:Oper} {t:TypeId} {x:Operand} {y:cz} {e:aQ} (ho:o.op = .unOp .not t x) (hd:∀ t,o.dst=some t→t < n∧¬ U t)
  (hx:c_ n x=some y) (hu:∀t∈y.tmps,¬U t) (he:aD S H (.not y)=some e):cK P w0 n U g S H a w o e:=by
 have hv:=R.ev hx hu;simp only[aD]at he;generalize qy:AL.ev S y=q at he hv;generalize l7:a.eval x=c at hv
 cases hv<;>(try cases he;done)
 rename_i h
 cases h<;>simp only at he<;>try cases he
 rename_i b
 refine cK.val R (λt h=>(hd t h).1) (c:=.bool !b) ?_ (.data _ _ (.bool _)) λloc=>trivial
 simp[execOp,ho,l7,Op.unary]
def Kf:Value->Bool
 |.nilIface|.agg _=>false
 |_=>true
def gk (op:BinOp) (t:TypeId) (x y:Operand) (c d:Value) (h:Kf c=true) :
  (eqGuard op t x y c d).run P w=.ok () w:=by
 unfold eqGuard
 cases op<;>(try rfl)<;>cases c<;>first|rfl|cases h
def EA (R:Rel P w0 n U g S H a w) {o:Oper} {op:BinOp} {t t':TypeId} {x1 x2:Operand} {y1 y2:cz} {e:aQ} (ho:o.op = .binOp op t x1 x2 t') (hd:∀ t,o.dst=some t→t < n∧¬ U t)
  (mC:c_ n x1=some y1) (k_:c_ n x2=some y2) (oq:∀t∈y1.tmps,¬U t) (n0:∀t∈y2.tmps,¬U t)
  (he:aD S H (.bin op y1 y2)=some e):cK P w0 n U g S H a w o e:=by
 have fa:=R.ev mC oq;have eD:=R.ev k_ n0;simp only[aD,acE]at he;obtain⟨v,hb,rfl⟩:=he;generalize AL.ev S y1=q1 at hb fa;generalize AL.ev S y2=q2 at hb eD
 have fin:∀c,(eqGuard op t x1 x2 (a.eval x1) (a.eval x2)).run P w=.ok () w->(binOp op t (a.eval x1) (a.eval x2)).run P w=.ok c w->RD g.Pr w v c->(∀loc,ea P w g loc v c)->cK P w0 n U g S H a w o { v:=v }:=by
  intro c h0 h1 h2 h3;refine cK.val R (λt h=>(hd t h).1) (c:=c) ?_ (.data _ _ h2) h3;simp[execOp,ho,h0,h1]
 generalize a.eval x1=c1 at fa fin;generalize a.eval x2=c2 at eD fin;unfold eF at hb;split at hb
 .rename_i k p k' q;cases fa;rename_i fa;cases fa;cases eD;rename_i eD;cases eD;split at hb
  .cases hb
  .rename_i hk
   have hk:k=k':=by simpa using hk
   subst hk;have hg:=gk (P:=P) (w:=w) op t x1 x2 (.int k p) (.int k q) rfl
   split at hb<;>(try cases hb;done)<;>(try (split at hb;· cases hb))<;>cases hb
   case h_4.isFalse.refl h=>exact fin _ hg (by simp[binOp,Op.intDiv,h]) (.int _ _) λ_=>trivial
   case h_5.isFalse.refl h=>exact fin _ hg (by simp[binOp,Op.intDiv,h]) (.int _ _) λ_=>trivial
   case h_1.refl=>exact fin (.int k (k.wrap (p+q))) hg (by simp[binOp,Op.intArith]) (.int _ _) λ_=>trivial
   case h_2.refl=>exact fin (.int k (k.wrap (p-q))) hg (by simp[binOp,Op.intArith]) (.int _ _) λ_=>trivial
   case h_3.refl=>exact fin (.int k (k.wrap (p*q))) hg (by simp[binOp,Op.intArith]) (.int _ _) λ_=>trivial
   case h_6.refl=>exact fin (.bool (p==q)) hg (by simp[binOp,Op.intCmp]) (.bool _) λ_=>trivial
   case h_7.refl=>exact fin (.bool (p !=q)) hg (by simp[binOp,Op.intCmp]) (.bool _) λ_=>trivial
   all_goals exact fin (.bool _) hg (by simp[binOp,Op.intCmp]) (.bool _) λ_=>trivial
 .rename_i p q;cases fa;rename_i fa;cases fa;cases eD;rename_i eD;cases eD;have hg:=gk (P:=P) (w:=w) op t x1 x2 (.string ⟨p.toArray⟩) (.string ⟨q.toArray⟩) rfl
  split at hb<;>(try cases hb;done)
  .cases hb;exact fin (.bool (p==q)) hg (by simp[binOp,Op.stringOp]) (.bool _) λ_=>trivial
  .cases hb;exact fin (.bool (p !=q)) hg (by simp[binOp,Op.stringOp,bne]) (.bool _) λ_=>trivial
  .split at hb
   case isFalse=>cases hb
   rename_i hl;cases hb
   refine fin (.string ⟨(p++q).toArray⟩) hg ?_ (.str _) λ_=>trivial
   rw[binOp_string_add,run_string_add_sum w _ _ (by show p.length+q.length<=_;omega),ByteArray.mk_append_mk]
 .cases hb
def Eo (R:Rel P w0 n U g S H a w) {o:Oper} {neg:Bool} {t t':TypeId} {x1 x2:Operand} {y1 y2:cz} {e:aQ} (ho:o.op = .binOp (if neg then .neq else .eql) t x1 x2 t') (hd:∀ t,o.dst=some t→t < n∧¬ U t)
  (ht:P.underlying t=some .bool) (mC:c_ n x1=some y1) (k_:c_ n x2=some y2) (oq:∀t∈y1.tmps,¬U t) (n0:∀t∈y2.tmps,¬U t)
  (he:aD S H (.Bp neg y1 y2)=some e):cK P w0 n U g S H a w o e:=by
 have fa:=R.ev mC oq;have eD:=R.ev k_ n0;simp only[aD]at he;generalize AL.ev S y1=q1 at he fa;generalize AL.ev S y2=q2 at he eD;generalize jm:a.eval x1=c1 at fa;generalize jv:a.eval x2=c2 at eD;split at he
 case h_2=>cases he
 rename_i p q;cases fa;rename_i fa;cases fa;cases eD;rename_i eD;cases eD;cases he;have hg:=gk (P:=P) (w:=w) (if neg then .neq else .eql) t x1 x2 (.bool p) (.bool q) rfl;have hE:(Op.equal t (.bool p) (.bool q)).run P w=.ok (p==q) w:=run_equalIn_bool' w _ t p q ht
 refine cK.val R (λt h=>(hd t h).1) (c:=.bool (if neg then p !=q else p==q)) ?_ (.data _ _ (.bool _)) λ_=>trivial
 cases neg
 .simp only[acI,acW]at ho hg⊢;simp[execOp,ho,jm,jv,hg,binOp,hE]
 .simp only[ac3]at ho hg⊢;simp[execOp,ho,jm,jv,hg,binOp,hE,bne]
def Mq (R:Rel P w0 n U g S H a w) {o:Oper} {s d:TypeId} {ds:TypeDesc} {k:IntKind} {x:Operand} {y:cz} {e:aQ} (ho:o.op = .convert s d x) (hd:∀ t,o.dst=some t→t < n∧¬ U t)
  (hs:P.underlying s=some ds) (hk:P.underlying d=some (.int k)) (hx:c_ n x=some y) (hu:∀t∈y.tmps,¬U t) (he:aD S H (.conv k y)=some e):cK P w0 n U g S H a w o e:=by
 have hv:=R.ev hx hu;simp only[aD]at he;generalize qy:AL.ev S y=q at he hv;generalize l7:a.eval x=c at hv
 cases hv<;>(try cases he;done)
 rename_i h
 cases h<;>simp only at he<;>try cases he
 rename_i k' m
 refine cK.val R (λt h=>(hd t h).1) (c:=.int k (k.wrap m)) ?_ (.data _ _ (.int _ _)) λloc=>trivial
 simp[execOp,ho,l7,convert,acR hs,acR hk,Conv.intToInt]
def HG (R:Rel P w0 n U g S H a w) {o:Oper} {t:TypeId} {dt:TypeDesc} {x:Operand} {y:cz} {e:aQ} (ho:o.op = .makeInterface t x) (hd:∀ t,o.dst=some t→t < n∧¬ U t)
  (ht:P.underlying t=some dt) (BY:∀ms,dt≠.interface ms) (hx:c_ n x=some y) (hu:∀t∈y.tmps,¬U t) (he:aD S H (.iface t y)=some e):cK P w0 n U g S H a w o e:=by
 have hv:=R.ev hx hu;simp only[aD]at he;split at he
 case isFalse=>cases he
 rename_i fx;cases he
 refine cK.val R (λt h=>(hd t h).1) (c:=.iface t (a.eval x)) ?_ (.data _ _ (.iface _ _ _ (hv.dL (AV.jC fx)).vw)) λloc=>trivial
 simp only[execOp,ho,Instr.makeInterface,acK,acR ht,Result.andThen_ok]
 cases dt<;>first|rfl|exact absurd rfl (BY _)
def Ac (R:Rel P w0 n U g S H a w) {o:Oper} {s:TypeId} {fs:Array Field} {f:Field} {i:TypeInfo} {j:Nat} {x:Operand} {y:cz} {e:aQ} (ho:o.op = .fieldAddr s x j) (hd:∀ t,o.dst=some t→t < n∧¬ U t)
  (hs:P.underlying s=some (.struct fs)) (hf:fs[j]?=some f) (hi:P.info? f.type=some i) (hz:i.size≠0) (hx:c_ n x=some y) (hu:∀t∈y.tmps,¬U t)
  (he:aD S H (.fieldAddr f.offset y)=some e):cK P w0 n U g S H a w o e:=by
 have hv:=R.ev hx hu;simp only[aD]at he;generalize qy:AL.ev S y=q at he hv;generalize l7:a.eval x=c at hv
 have run:∀b off,c=.pointer (some ⟨b,off,none⟩)->(execOp a.eval o).run P w=.ok (.value (.pointer (some ⟨b,off+f.offset,none⟩))) w:=by
  rintro b off rfl;simp[execOp,ho,l7,Instr.fieldAt,acR hs,hf,Instr.sureAddr,fieldPlace,sizeOf,typeInfo,hi,hz,adt]
 cases hv with
 |box k off b gw=>
  cases he
  exact cK.val R (λt h=>(hd t h).1) (run _ _ rfl) (.box _ _ _ gw) λ_=>trivial
 |data v c h=>
  cases h<;>simp only at he<;>try cases he
  rename_i cs b off vs h1 hc hr
  refine cK.val R (λt h=>(hd t h).1) (run _ _ rfl) (.data _ _ (.ref _ _ _ (λk=>vs (f.offset+k)) (λk hk=>?_) (λk hk=>?_) λk hk=>?_)) λ_=>trivial
  .simp only[adg]at hk;simp only[adV];exact h1 _ (by omega)
  .simp only[adg]at hk;have:=hc (f.offset+k) (by omega);rwa [show off+f.offset+k=off+(f.offset+k) by omega]
  .simp only[adg]at hk;simp only[adV];exact hr _ (by omega)
 |func=>cases he
 |f_=>cases he
 |bm c=>cases he
def zS (R:Rel P w0 n U g S H a w) {o:Oper} {s el:TypeId} {i:TypeInfo} {x1 x2:Operand} {y1 y2:cz} {e:aQ} (ho:o.op = .indexAddr s x1 x2) (hd:∀ t,o.dst=some t→t < n∧¬ U t)
  (hs:P.underlying s=some (.slice el)) (hi:P.info? el=some i) (mC:c_ n x1=some y1) (k_:c_ n x2=some y2) (oq:∀t∈y1.tmps,¬U t) (n0:∀t∈y2.tmps,¬U t)
  (he:aD S H (.indexAddr i.size y1 y2)=some e):cK P w0 n U g S H a w o e:=by
 have fa:=R.ev mC oq;have eD:=R.ev k_ n0;simp only[aD]at he;generalize AL.ev S y1=q1 at he fa;generalize AL.ev S y2=q2 at he eD;generalize jm:a.eval x1=c1 at fa;generalize jv:a.eval x2=c2 at eD;split at he
 case h_2=>cases he
 rename_i oo es k;cases eD;rename_i eD;cases eD;split at he
 case isFalse=>cases he
 rename_i hk;split at he
 case h_2=>cases he
 rename_i v hv;split at he
 case isFalse=>cases he
 rename_i bg;cases he;obtain⟨av,rfl⟩:=acT.1 hv;cases fa;rename_i fa
 cases fa with
 |gx=>simp at av
 |ja=>simp at av
 |slice _ _ b off cap size cs eT p_ kG h1 hc hr=>
  have Wp:size=i.size:=by rw[<-kG _ av];exact bg
  subst Wp
  have jB:k<(es.length:Int):=by omega
  have lz:∀q,q<(es[k.toNat]).cells.length->k.toNat*i.size+q<es.length*i.size:=by
   intro q hq;rw[bg]at hq
   calc k.toNat*i.size+q<k.toNat*i.size+i.size:=by omega
    _=(k.toNat+1)*i.size:=by rw[afV]
    _<=es.length*i.size:=adJ _ (by omega)
  refine cK.val R (λt h=>(hd t h).1) (c:=.pointer (some ⟨b,off+k.toNat*i.size,none⟩)) ?_ (.data _ _ (.ref _ _ _ (λq=>cs (k.toNat*i.size+q)) (λq hq=>h1 _ av q hq) (λq hq=>?_) λq hq=>hr _ av q hq)) λ_=>trivial
  .simp[execOp,ho,jm,jv,Instr.indexAt,asIntOf,acR hs,hk,jB,sizeOf,typeInfo,hi,adt]
  .have:=hc (k.toNat*i.size+q) (lz q hq);rwa [<-aeU]at this
def FO (R:Rel P w0 n U g S H a w) {o:Oper} {s:TypeId} {x1 x2:Operand} {y1 y2:cz} {e:aQ} (ho:o.op = .index s x1 x2) (hd:∀ t,o.dst=some t→t < n∧¬ U t)
  (hs:P.underlying s=some .string) (mC:c_ n x1=some y1) (k_:c_ n x2=some y2) (oq:∀t∈y1.tmps,¬U t) (n0:∀t∈y2.tmps,¬U t)
  (he:aD S H (.m_ y1 y2)=some e):cK P w0 n U g S H a w o e:=by
 have fa:=R.ev mC oq;have eD:=R.ev k_ n0;simp only[aD]at he;generalize AL.ev S y1=q1 at he fa;generalize AL.ev S y2=q2 at he eD;generalize jm:a.eval x1=c1 at fa;generalize jv:a.eval x2=c2 at eD;split at he
 case h_2=>cases he
 rename_i l k;cases eD;rename_i eD;cases eD;split at he
 case isFalse=>cases he
 rename_i hk;split at he
 case h_2=>cases he
 rename_i v hv;cases he;cases fa;rename_i fa;cases fa
 have hb:(⟨l.toArray⟩:ByteArray)[k.toNat]?=some v:=by
  obtain⟨av,rfl⟩:=acT.1 hv;rw[ByteArray.getElem?_lt' _ _ (by simpa[ByteArray.size]using av)]
  rfl
 refine cK.val R (λt h=>(hd t h).1) (c:=.int .u8 v.toNat) ?_ (.data _ _ (.int _ _)) λ_=>trivial
 simp[execOp,ho,jm,jv,Instr.index,asIntOf,acR hs,hk,hb]
def CW (R:Rel P w0 n U g S H a w) {o:Oper} {j:Nat} {x:Operand} {y:cz} {e:aQ} (ho:o.op = .extract x j) (hd:∀ t,o.dst=some t→t < n∧¬ U t)
  (hx:c_ n x=some y) (hu:∀t∈y.tmps,¬U t) (he:aD S H (.extract y j)=some e):cK P w0 n U g S H a w o e:=by
 have hv:=R.ev hx hu;simp only[aD]at he;generalize qy:AL.ev S y=q at he hv;generalize l7:a.eval x=c at hv
 cases hv<;>(try cases he;done)
 rename_i h
 cases h<;>simp only at he<;>try cases he
 rename_i cs vs hl hr;simp only[acE]at he;obtain⟨v,hv,rfl⟩:=he;obtain⟨av,rfl⟩:=acT.1 hv
 have jG:j<vs.size:=by omega
 refine cK.val R (λt h=>(hd t h).1) (c:=vs[j]) ?_ (.data _ _ (hr j av jG).aH) λloc=>gj _ _ _
 simp[execOp,ho,l7,Instr.extract,jG]
def DL (R:Rel P w0 n U g S H a w) {o:Oper} {cl:Call} {s:TypeId} {ds:TypeDesc} {x:Operand} {y:cz} {e:aQ} (ho:o.op = .call cl) (gr:cl.callee = .builtin .len) (wu:cl.args = #[x]) (pw:cl.argTypes = #[s])
  (hd:∀t,o.dst=some t->t<n/\¬U t) (hs:P.underlying s=some ds) (hx:c_ n x=some y) (hu:∀t∈y.tmps,¬U t)
  (he:(ds=.string/\aD S H (.wU y)=some e)\/((∃el,ds=.slice el)/\aD S H (.iW y)=some e)):cK P w0 n U g S H a w o e:=by
 have hv:=R.ev hx hu;simp only[aD]at he;generalize qy:AL.ev S y=q at he hv;generalize l7:a.eval x=c at hv
 have fin:∀(m:Nat),(Builtin.len_ #[s] o.type #[c]).run P w=.ok (.int .i64 m) w->cK P w0 n U g S H a w o { v:=.int .i64 m }:=by
  intro m hm
  refine cK.val R (λt h=>(hd t h).1) (c:=.int .i64 m) ?_ (.data _ _ (.int _ _)) λ_=>trivial
  unfold execOp;simp[ho,gr,wu,pw,resolve,invoke,builtin,l7,hm]
 rcases he with⟨rfl,he⟩|⟨⟨el,rfl⟩,he⟩
 .cases hv<;>(try cases he;done)
  rename_i h
  cases h<;>simp only at he<;>try cases he
  exact fin _ (by simp[Builtin.len_,acR hs,goInt];rfl)
 .cases hv<;>(try cases he;done)
  rename_i h
  cases h<;>simp only at he<;>try cases he
  .exact fin 0 (by simp[Builtin.len_,acR hs,goInt])
  .exact fin 0 (by simp[Builtin.len_,acR hs,goInt])
  .exact fin _ (by simp[Builtin.len_,acR hs,goInt])
def wy (R:Rel P w0 n U g S H a w) {o:Oper} {cl:Call} {x1 x2:Operand} {y1 y2:cz} {e:aQ} (ho:o.op = .call cl) (wu:cl.args = #[x1,x2])
  (hd:∀t,o.dst=some t->t<n/\¬U t) (mC:c_ n x1=some y1) (k_:c_ n x2=some y2) (oq:∀t∈y1.tmps,¬U t) (n0:∀t∈y2.tmps,¬U t)
  (he:(cl.callee=.builtin .max/\aD S H (.max y1 y2)=some e)\/(cl.callee=.builtin .min/\aD S H (.min y1 y2)=some e)):cK P w0 n U g S H a w o e:=by
 have fa:=R.ev mC oq;have eD:=R.ev k_ n0;simp only[aD]at he;generalize AL.ev S y1=q1 at he fa;generalize AL.ev S y2=q2 at he eD;generalize jm:a.eval x1=c1 at fa;generalize jv:a.eval x2=c2 at eD
 rcases he with⟨gr,he⟩|⟨gr,he⟩
 all_goals
  split at he
  case h_2=>cases he
  rename_i p q;cases fa;rename_i fa;cases fa;cases eD;rename_i eD;cases eD;cases he
 .refine cK.val R (λt h=>(hd t h).1) (c:=.int .i64 (max p q)) ?_ (.data _ _ (.int _ _)) λ_=>trivial
  have:(if q>p then q else p)=max p q:=by split<;>omega
  simp[execOp,ho,gr,wu,resolve,invoke,builtin,jm,jv,Builtin.max_,Builtin.max2,this]
 .refine cK.val R (λt h=>(hd t h).1) (c:=.int .i64 (min p q)) ?_ (.data _ _ (.int _ _)) λ_=>trivial
  have:(if q<p then q else p)=min p q:=by split<;>omega
  simp[execOp,ho,gr,wu,resolve,invoke,builtin,jm,jv,Builtin.min_,Builtin.min2,this]
end
def nQ(Pr:Nat->Nat->Prop)(w:World)(cs:List AV)(vs:Array Value):Prop:=
 cs.length=vs.size/\(∀i (h:i<cs.length)(h':i<vs.size),RD Pr w cs[i] vs[i])/\∀i (h:i<cs.length),(cs[i]).one=true
def RD.U_{Pr:Nat->Nat->Prop}{w:World}{v:AV}{c:Value}(h:RD Pr w v c)(hs:v.storable=true):nQ Pr w v.cells c.cells:=
 ⟨h.cells.1,h.cells.2,h.cells_one hs⟩
def AV.uj{v:AV}:v.aH.storable=v.storable:=by
 cases v<;>try rfl
 rename_i o es;cases o<;>rfl
def AV.we{v:AV}:v.aH.cells.length=v.cells.length:=by
 cases v<;>try rfl
 rename_i o es;cases o<;>rfl
def AV.Gj{v:AV}:v.vw.storable=v.storable:=by cases v<;>rfl
def AV.yz{v:AV}:v.vw.cells.length=v.cells.length:=by cases v<;>simp[AV.vw,AV.cT,AV.cells]
def gR (Pr:Nat→Nat→Prop) (w:World):∀ {vs:List Value} {cs:List AV},ik vs=some cs→nQ Pr w cs vs.toArray∧(∀ v∈cs,v.ly) ∧
  ∀(P:Program)(g:Gh)(f:Nat->Loc) i (h:i<cs.length)(h':i<vs.length),ea P w g (f i) cs[i] vs[i]
 |[],cs,h=>by cases h;exact⟨⟨rfl,λi h=>by simp at h,λi h=>by simp at h⟩,λv h=>by simp at h,λP g f i h=>by simp at h⟩
 |v::vs,cs,h=>by
  simp only[ik]at h;split at h
  .rename_i x xs hx pq;split at h
   case isFalse=>cases h
   rename_i fx;cases h;obtain⟨⟨h1,h2,h3⟩,h4,h5⟩:=gR Pr w pq;have hd:RD Pr w x v:=(JV Pr (λ_=>none) w hx).dL (AV.jC fx);refine⟨⟨by simp at h1⊢;exact h1,λi hi cQ=>?_,λi hi=>?_⟩,λy hy=>?_,λP g f i hi cQ=>?_⟩
   .cases i with
    |zero=>exact hd
    |succ i=>exact h2 i (by simpa using hi) (by simpa using cQ)
   .cases i with
    |zero=>
     show x.one=true;unfold mj at hx
     split at hx<;>first|cases hx|skip
     all_goals rfl
    |succ i=>exact h3 i (by simpa using hi)
   .simp at hy;rcases hy with rfl|hy
    .exact zP hx
    .exact h4 y hy
   .cases i with
    |zero=>exact yw hx _ _ _ _
    |succ i=>exact h5 P g (λi=>f (i+1)) i (by simpa using hi) (by simpa using cQ)
  .cases h
def A6{cs vs:List AV}{off:Nat}(h:off+vs.length<=cs.length):(bu cs off vs).length=cs.length:=by
 simp[bu];omega
def rF {cs vs:List AV} {off:Nat} (h:off+vs.length≤cs.length) (i:Nat) :
  (bu cs off vs)[i]?=if off<=i/\i<off+vs.length then vs[i-off]? else cs[i]?:=by
 unfold bu
 by_cases h1:i<off
 .rw[if_neg (by omega),adI,adB (by simp;omega)];simp[h1]
 .by_cases h2:i<off+vs.length
  .rw[if_pos ⟨by omega,h2⟩,adB (by simp;omega),adN (by simp;omega)]
   congr 1
   simp;omega
  .rw[if_neg (by omega),adN (by simp;omega)];simp only[aeX]
   congr 1
   simp;omega
def nQ.get{Pr:Nat->Nat->Prop}{w:World}{cs:List AV}{vs:Array Value}(h:nQ Pr w cs vs){i:Nat}{v:AV}{c:Value}(hv:cs[i]?=some v)(hc:vs[i]?=some c):RD Pr w v c:=by
 obtain⟨h1,rfl⟩:=acT.1 hv;obtain⟨h2,rfl⟩:=acz.1 hc;exact h.2.1 i h1 h2
def nQ.one{Pr:Nat->Nat->Prop}{w:World}{cs:List AV}{vs:Array Value}(h:nQ Pr w cs vs){i:Nat}{v:AV}(hv:cs[i]?=some v):v.one=true:=by
 obtain⟨h1,rfl⟩:=acT.1 hv;exact h.2.2 i h1
def nQ.mk'{Pr:Nat->Nat->Prop}{w:World}{cs:List AV}{vs:Array Value}(h:cs.length=vs.size)(hr:∀(i:Nat)(v:AV)(c:Value),cs[i]?=some v->vs[i]?=some c->RD Pr w v c)(h1:∀(i:Nat)(v:AV),cs[i]?=some v->v.one=true):nQ Pr w cs vs:=
 ⟨h,λi hi cQ=>hr i _ _ (acx hi) (acP cQ),λi hi=>h1 i _ (acx hi)⟩
def nQ.bu {Pr:Nat→Nat→Prop} {w:World} {cs vs:List AV} {xs ys:Array Value} {off:Nat} (h:nQ Pr w cs xs) (hv:nQ Pr w vs ys) (hl:off+vs.length≤cs.length)
  (zs:Array Value) (hz:zs.size=xs.size) (ib:∀k,zs[k]?=if off<=k/\k<off+ys.size then ys[k-off]? else xs[k]?):nQ Pr w (bu cs off vs) zs:=by
 have fa:=hv.1;have h1:=h.1;refine nQ.mk' (by rw[A6 hl,hz];exact h.1) (λi v c e1 e2=>?_) (λi v e1=>?_)
 .rw[rF hl]at e1;rw[ib]at e2;rw[<-fa]at e2;split at e1
  .rename_i hh;rw[if_pos hh]at e2;exact hv.get e1 e2
  .rename_i hh;rw[if_neg hh]at e2;exact h.get e1 e2
 .rw[rF hl]at e1;split at e1
  .exact hv.one e1
  .exact h.one e1
def rr(n:Nat)(place:Nat->Option (Nat×Nat)):List (Nat×Operand)->Option (List (Nat×Nat×cz))
 |[]=>some []
 |(i,x)::rest=>match place i,c_ n x,rr n place rest with
  |some (off,size),some y,some r=>some ((off,size,y)::r)
  |_,_,_=>none
section
variable{P:Program}{w0:World}{n:Nat}{U:Nat->Prop}{g:Gh}{S:an}{H:aq}{a:Act}{w:World}
def tt (R:Rel P w0 n U g S H a w) {place:Nat→Option (Nat×Nat)}:∀ {ps:List (Nat×Operand)} {qs:List (Nat×Nat×cz)},rr n place ps=some qs →
  (∀q∈qs,∀t∈q.2.2.tmps,¬U t)->∀{cs fj:List AV}{vs:Array Value},nQ g.Pr w cs vs->bV cs (qs.map λ(o,s,x)=>(o,s,ev S x))=some fj->
  ∃kz,Instr.fill place vs (ps.map λ(i,x)=>(i,a.eval x))=some kz/\nQ g.Pr w fj kz
 |[],qs,h,_,cs,fj,vs,hr,he=>by
  cases h;simp only[adp,bV,ac0]at he;subst he;exact⟨vs,rfl,hr⟩
 |(i,x)::ps,qs,h,hu,cs,fj,vs,hr,he=>by
  simp only[rr]at h;split at h
  case h_2=>cases h
  rename_i off size y r hp hx jo;cases h;simp only[ac5,bV]at he;split at he
  case isFalse=>cases he
  rename_i hc;obtain⟨jm,jv,TL⟩:=hc;have hv:=(R.ev hx (hu _ acS)).dL (AV.jC TL);have hvd:=hv.aH.U_ (by rw[AV.uj];exact TL)
  have bg:(a.eval x).cells.size=size:=by rw[<-hv.cells.1];exact jm
  have gr:cs.length=vs.size:=hr.1;obtain⟨k1,k2⟩:=Great.foldl_set off (a.eval x).cells.toList 0 vs
  have jd:=hr.bu (off:=off) hvd (by rw[AV.we,jm];exact jv)
   (((a.eval x).cells.toList.zipIdx 0).foldl (λcs (x:Value×Nat)=>cs.setIfInBounds (off+x.2) x.1) vs) k1 (λk=>by
    rw[k2 k];simp only[Nat.add_zero,Array.length_toList,adM]
    by_cases lz:off<=k/\k<off+(a.eval x).cells.size
    .rw[if_pos lz,if_pos ⟨lz.1,lz.2,by omega⟩]
    .rw[if_neg lz,if_neg (by omega)])
  obtain⟨kz,e1,e2⟩:=tt R jo (λq hq=>hu q (acH _ hq)) jd he;refine⟨kz,?_,e2⟩;simp only[ac5,Instr.fill,hp];rw[if_neg (by simp;omega)];rw[<-e1]
  congr 1
  rw[<-Array.foldl_toList,Array.toList_zipIdx]
def JC (R:Rel P w0 n U g S H a w) {o:Oper} {t:TypeId} {it:TypeInfo} {fs:Array Field} {z:Value} {places:List (Nat×Nat)} {zs:List AV} {ps:Array (Nat×Operand)} {qs:List (Nat×Nat×cz)} {e:aQ}
  (ho:o.op=.build t ps) (hd:∀t,o.dst=some t->t<n/\¬U t) (hi:P.info? t=some it) (ep:P.underlying t=some (.struct fs)) (hz:it.zero=some z)
  (NV:fs.toList.mapM (λf=>(P.info? f.type).map λi=>(f.offset,i.size))=some places) (nv:ik z.cells.toList=some zs) (hq:rr n (places[·]?) ps.toList=some qs)
  (hu:∀q∈qs,∀t∈q.2.2.tmps,¬U t) (he:aD S H (.build (zs.map AV.aH) qs)=some e):cK P w0 n U g S H a w o e:=by
 simp only[aD,acE]at he;obtain⟨fj,hc,rfl⟩:=he;have Ma:=(gR g.Pr w nv).1
 have Qz:nQ g.Pr w (zs.map AV.aH) z.cells:=by
  refine⟨by simpa using Ma.1,λi h h'=>?_,λi h=>?_⟩
  .simp only[acC]at h;have:=(Ma.2.1 i h (by simpa using h')).aH;simpa using this
  .simp only[acC]at h;have:=Ma.2.2 i h;simp only[acM];exact(AV.nz _).trans this
 obtain⟨kz,h1,h2⟩:=tt R hq hu Qz hc
 have hb:P.built t (ps.map λ(i,x)=>(i,a.eval x)).toList=some kz:=by
  unfold Program.built;simp only[hi,ep,hz,NV,afw];rw[<-h1]
  congr 1
  funext i
  simp
 refine cK.val R (λt h=>(hd t h).1) (c:=.agg kz) ?_ (.data _ _ (.agg _ _ h2.1 h2.2.2 h2.2.1)) λ_=>trivial
 unfold execOp;simp only[ho,acK,agr w t _ kz hb,Result.andThen_ok]
 rfl
def N6 (R:Rel P w0 n U g S H a w) {o:Oper} {fn:Fn} {f1 c1:Array Operand} {f2 c2:List cz} {e:aQ} (ho:o.op = .makeFunc fn f1 c1) (hd:∀ t,o.dst=some t→t < n∧¬ U t)
  (hf:nY n f1.toList=some f2) (hc:nY n c1.toList=some c2) (huf:∀y∈f2,∀t∈y.tmps,¬U t) (huc:∀y∈c2,∀t∈y.tmps,¬U t) (he:aD S H (.Dz fn f2 c2)=some e):cK P w0 n U g S H a w o e:=by
 simp only[aD,ac0]at he;subst he;obtain⟨l1,r1⟩:=R.Jw hf huf;obtain⟨l2,r2⟩:=R.Jw hc huc
 refine cK.val R (λt h=>(hd t h).1) (c:=.func fn (f1.map a.eval) (c1.map a.eval)) ?_ ?_ λ_=>trivial
 .simp[execOp,ho,Instr.makeFunc]
 .refine .func fn _ _ _ _ (by simpa using l1) (by simpa using l2) (λi h h'=>?_) (λi h h'=>?_)
  .simp only[acC,Array.size_map]at h h';have:=(r1 i h (by simpa using h')).aH;simpa using this
  .simp only[acC,Array.size_map]at h h';have:=(r2 i h (by simpa using h')).aH;simpa using this
def Rel.newRow (R:Rel P w0 n U g S H a w) (d:Option Nat) (hd:∀ t,d=some t→t < n∧¬ U t) (el:TypeId) (i:TypeInfo) (hi:P.info? el=some i) (es:List AV) (cells:Array Value)
  (bg:∀j (h:j<es.length),(es[j]).cells.length=i.size) (fx:∀j (h:j<es.length),(es[j]).storable=true) (hl:cells.size=es.length*i.size) (hlen:es.length<=maxLen)
  (hr:∀j (h:j<es.length),∃c,RD g.Pr w es[j] c/\∀k u,c.cells[k]?=some u->cells[j*i.size+k]?=some u):
  ∃g',g'.base=g.base/\g'.old=g.old/\Rel P w0 n U g' (Go.AL.aY S d (.slice (.own el) es)) H (a.put d (.slice (some ⟨w.heap.size,0,none⟩) es.length es.length)) (w.alloc (.cells cells el)):=by
 have hb:Below w.heap.size w (w.alloc (.cells cells el)):=(adA _ _).alloc (acD _) _
 have hle:g.base<=w.heap.size:=by rw[R.base];exact R.below.size
 let g':Gh:={ g with hi:=au g.hi w.heap.size (es.length*i.size),owner:=au g.owner w.heap.size (d.map .slot) }
 have R':Rel P w0 n U g' S H a (w.alloc (.cells cells el)):=R.grow (g':=g') hb rfl rfl rfl
  (λb hb=>⟨aN _ _ (by omega),aN _ _ (by omega)⟩)
  (λb hb=>by
   have fS:w.heap.size+1<=b:=by simpa using hb
   exact⟨(aN _ _ (by omega)).trans (R.fresh b (by omega)).1,(aN _ _ (by omega)).trans (R.fresh b (by omega)).2⟩)
 have pj:∀k,k<es.length*i.size->g'.Pr w.heap.size k:=λk hk=>.inr ⟨hle,by show k<au g.hi _ _ _;rw[aK];exact hk⟩
 have abf:bc g.Pr g'.Pr w (w.alloc (.cells cells el)):=by
  refine bc.iN (λb av=>hb.block b av) λb k av hp=>?_
  unfold Gh.Pr at*
  show(b<g.base/\g.old.c b k)\/(g.base<=b/\k<au g.hi _ _ b)
  rw[aN _ _ (by omega)];exact hp
 refine⟨g',rfl,rfl,R'.aY d _ _ (λt h=>(hd t h).1) (.data _ _ ?_) ?_⟩
 .refine .slice _ es w.heap.size 0 es.length i.size (λk=>cells.getD k undef) (acD _) (λh=>by cases h) bg (λj h k hk=>?_) (λk hk=>⟨by rw[ac_];exact pj k hk,?_⟩) (λj h k hk=>?_)
  .obtain⟨c,h1,h2⟩:=hr j h;exact h1.cells_one (fx j h) k hk
  .simp[hl,hk]
  .obtain⟨c,h1,h2⟩:=hr j h
   have dN:k<c.cells.size:=by rw[<-h1.cells.1];exact hk
   have:cells.getD (j*i.size+k) undef=c.cells[k]:=by simp[h2 k _ (acP dN)]
   rw[this];exact(h1.cells.2 k hk dN).mono abf
 .intro t ht;subst ht;refine⟨i,cells.toList,w.heap.size,hi,⟨by simp[hl],.inr ⟨w.heap.size,es.length,cells,rfl,hle,afI w _,acD _,hlen,hl,?_⟩⟩,rfl,?_,?_⟩
  .exact acQ (by simp[hl])
  .show au g.owner _ _ _=_;rw[aK];rfl
  .show au g.hi _ _ _=_;rw[aK]
def xz (R:Rel P w0 n U g S H a w) {o:Oper} {t el:TypeId} {i:TypeInfo} {z:Value} {len:Nat} {ps:Array (Nat×Operand)} {xs:List Operand} {ys:List cz} {e:aQ}
  (ho:o.op=.buildSlice t len ps) (hd:∀t,o.dst=some t->t<n/\¬U t) (ep:P.underlying t=some (.slice el)) (hi:P.info? el=some i) (hz:i.zero=some z) (fI:0<i.size)
  (jo:ps.toList=(xs.zipIdx 0).map λx=>(x.2,x.1)) (hlen:xs.length=len) (hlz:0<len) (hx:nY n xs=some ys) (hu:∀y∈ys,∀t∈y.tmps,¬U t)
  (he:aD S H (.buildSlice t el i.size ys)=some e):cK P w0 n U g S H a w o e:=by
 simp only[aD]at he;split at he
 case isFalse=>cases he
 rename_i hc;cases he;simp only[acA,acJ]at hc;obtain⟨jm,jv⟩:=hc;simp only[aJ,acN,acA,ac7]at jm;obtain⟨l1,r1⟩:=R.Jw hx hu
 have vk:ys.length=len:=by omega
 have hR:∀j (h:j<ys.length),RD g.Pr w (AL.ev S ys[j]) ((xs.map a.eval)[j]'(by simp;omega))/\(AL.ev S ys[j]).cells.length=i.size/\(AL.ev S ys[j]).storable=true:=by
  intro j h;have hm:=jm (AL.ev S ys[j]) (acZ.2 ⟨_,acy h,rfl⟩);refine⟨?_,hm.2,hm.1⟩;have:=(r1 j h (by omega)).dL (AV.jC hm.1);simpa using this
 have pC:∀v∈xs.map a.eval,v.cells.size=i.size:=by
  intro v hv;obtain⟨j,hj,rfl⟩:=adm hv;simp only[acC]at hj;obtain⟨h1,h2,h3⟩:=hR j (by omega);rw[<-h1.cells.1];exact h2
 have Zy:((Array.range (len*i.size)).map (z.cells[· % z.cells.size]!)).size=len*i.size:=by simp
 have La:=Great.fill_whole fI (xs.map a.eval) ((Array.range (len*i.size)).map (z.cells[· % z.cells.size]!)) pC (by rw[Zy];simp[hlen])
 have Gt:(ps.map λ(i,x)=>(i,a.eval x)).toList=((xs.map a.eval).zipIdx 0).map λx=>(x.2,x.1):=by
  rw[afw,jo];simp[List.zipIdx_map]
 have cM:=run_buildSlice (P:=P) w t el len (ps.map λ(i,x)=>(i,a.eval x)) ((xs.map a.eval).flatMap λv=>v.cells.toList).toArray i z ep hi hz (by rw[vk]at jv;omega)
  (by have:=Nat.mul_pos hlz fI;omega) (by rw[Gt];exact La)
 have Ls:=Great.flat_get fI (xs.map a.eval) pC
 obtain⟨g',e1,e2,R'⟩:=R.newRow o.dst hd el i hi ((ys.map (AL.ev S)).map AV.vw) ((xs.map a.eval).flatMap λv=>v.cells.toList).toArray
  (λj h=>by simp only[acC]at h;simp only[acM,AV.yz];exact(hR j h).2.1)
  (λj h=>by simp only[acC]at h;simp only[acM,AV.Gj];exact(hR j h).2.2)
  (by
   simp only[ae4,acC]
   have hh:∀(l:List Value),(∀v∈l,v.cells.size=i.size)->(l.flatMap λv=>v.cells.toList).length=l.length*i.size:=by
    intro l
    induction l with
    |nil=>simp
    |cons v l ih=>intro h;simp only[ad4,acV,List.length_cons,Array.length_toList,h v acS,ih (λu hu=>h u (acH _ hu)),afV];omega
   rw[hh _ pC,acC,l1])
  (by simp only[acC];have:=Nat.le_mul_of_pos_right ys.length fI;unfold maxLen;omega)
  (λj h=>by
   simp only[acC]at h;obtain⟨h1,h2,h3⟩:=hR j h
   have dH:j<(xs.map a.eval).length:=by simp;omega
   refine⟨(xs.map a.eval)[j],by simpa using h1.vw,λk u hk=>?_⟩
   have dN:k<i.size:=by
    rw[<-pC _ (acy dH)];exact(acz.1 hk).1
   simp only[afz];rw[Ls,show(j*i.size+k)/i.size=j by rw[aei,Nat.mul_add_div fI,afW dN,Nat.add_zero],show(j*i.size+k) % i.size=k by rw[aei,Nat.mul_add_mod,Nat.mod_eq_of_lt dN],acx dH]
   exact hk)
 refine⟨.slice (some ⟨w.heap.size,0,none⟩) len len,w.alloc (.cells ((xs.map a.eval).flatMap λv=>v.cells.toList).toArray el),g',.inl ?_,e1,e2,?_⟩
 .unfold execOp;simp only[ho,acK,cM,Result.andThen_ok]
  rfl
 .have:((ys.map (AL.ev S)).map AV.vw).length=len:=by simp[vk]
  rw[this]at R';exact R'
end
section
variable{P:Program}{w0:World}{n:Nat}{U:Nat->Prop}{g:Gh}{S:an}{H:aq}{a:Act}{w:World}
def Rw(S:an)(y:cz):an:=match bG y with|some t=>au S t (S t).aH|none=>S
def Rel.take (R:Rel P w0 n U g S H a w) {x:Operand} {y:cz} (hx:c_ n x=some y) (hu:∀ t∈y.tmps,¬ U t) (loc:Loc) :
  ∃g1,g1.base=g.base/\g1.old=g.old/\g1.al=g.al/\g1.hi=g.hi/\Rel P w0 n U g1 (Rw S y) H a w/\ea P w g1 loc (AL.ev S y) (a.eval x):=by
 cases x with
 |const c=>
  simp only[c_,acE]at hx;obtain⟨v,hc,rfl⟩:=hx;exact⟨g,rfl,rfl,rfl,rfl,R,yw hc _ _ _ _⟩
 |global k=>cases hx
 |func f=>cases hx;exact⟨g,rfl,rfl,rfl,rfl,R,trivial⟩
 |tmp t=>
  simp only[c_]at hx;split at hx
  case isFalse=>cases hx
  rename_i ht;cases hx;have Pc:=hu t (by simp[cz.tmps]);have ho:=R.own t ht Pc
  have R1:Rel P w0 n U g (au S t (S t).aH) H a w:=R.weaken _ λk hk huk c nM ho=>by
   by_cases h:k=t
   .subst h;rw[aK];exact⟨nM.aH,gj _ _ _⟩
   .rw[aN _ _ h];exact⟨nM,ho⟩
  have R2:=R1.FM (.slot t) (some loc) (λk hk _ _=>by cases hk;rw[aK];exact AV.oX _) (λi j cs h=>by cases h);refine⟨{ g with owner:=λb=>if g.owner b=some (.slot t)then some loc else g.owner b },rfl,rfl,rfl,rfl,R2,?_⟩;show ea P w _ loc (S t) (a.tmps.getD t undef);generalize S t=v at ho;generalize a.tmps.getD t undef=c at ho
  cases v<;>try trivial
  rename_i oo es
  cases oo with
  |view=>trivial
  |nil=>exact ho
  |own e=>
   obtain⟨i,xs,b,h1,h2,h3,h4,h5⟩:=ho;refine⟨i,xs,b,h1,h2,h3,?_,h5⟩;show(if g.owner b=some (.slot t)then some loc else g.owner b)=_;rw[if_pos h4]
def Rel.NY (R:Rel P w0 n U g S H a w) {x:Operand} {y:cz} (hx:c_ n x=some y) (hu:∀ t∈y.tmps,¬ U t) {e:TypeId} {es:List AV} (hy:AL.ev S y = .slice (.own e) es) :
  ∃g1 i xs b,g1.base=g.base/\g1.old=g.old/\g1.al=g.al/\g1.hi=g.hi/\Rel P w0 n U g1 (Rw S y) H a w/\
   P.info? e=some i/\w.ownsRow g.base e i.size (a.eval x) es.length xs/\(a.eval x).ownBlock=some b/\g1.owner b=none/\g.hi b=es.length*i.size/\(∀j,g.al j≠some b)/\(∀o,g.old.aR b≠some o):=by
 cases x with
 |const c=>
  simp only[c_,acE]at hx;obtain⟨v,hc,rfl⟩:=hx;have:=zP hc;rw[show v=AL.ev S (.c v)from rfl,hy]at this;cases this
 |global k=>cases hx
 |func f=>cases hx;cases hy
 |tmp t=>
  simp only[c_]at hx;split at hx
  case isFalse=>cases hx
  rename_i ht;cases hx;have Pc:=hu t (by simp[cz.tmps]);have ho:=R.own t ht Pc
  change S t=_ at hy
  have R1:Rel P w0 n U g (au S t (S t).aH) H a w:=R.weaken _ λk hk huk c nM ho=>by
   by_cases h:k=t
   .subst h;rw[aK];exact⟨nM.aH,gj _ _ _⟩
   .rw[aN _ _ h];exact⟨nM,ho⟩
  have R2:=R1.FM (.slot t) none (λk hk _ _=>by cases hk;rw[aK];exact AV.oX _) (λi j cs h=>by cases h);rw[hy]at ho;obtain⟨i,xs,b,h1,h2,h3,h4,h5⟩:=ho;refine⟨{ g with owner:=λb=>if g.owner b=some (.slot t)then none else g.owner b },i,xs,b,rfl,rfl,rfl,rfl,R2,h1,h2,h3,?_,h5,λj hj=>?_,λo hk=>?_⟩
  .show(if g.owner b=some (.slot t)then none else g.owner b)=none;rw[if_pos h4]
  .obtain⟨_,_,_,_,_,_,_,k5,_⟩:=R.box j b hj;rw[h4]at k5;cases k5
  .obtain⟨_,_,_,k4,_⟩:=R.kept b o hk;rw[h4]at k4;cases k4
def Bo(v:AV):v.bZ.length=v.cells.length:=by cases v<;>simp[AV.bZ,AV.cells]
def RD.bZ{Pr:Nat->Nat->Prop}{v:AV}{c:Value}(h:RD Pr w v c)(hs:v.storable=true):nQ Pr w v.bZ c.cells:=by
 cases v<;>try exact h.U_ hs
 rename_i cs;have hh:=h.U_ hs;refine nQ.mk' (by simpa[AV.bZ,AV.cells]using hh.1) (λi v c e1 e2=>?_) (λi v e1=>?_)
 .simp only[AV.bZ,ac1,acE]at e1;obtain⟨u,h1,rfl⟩:=e1;exact(hh.get h1 e2).aH
 .simp only[AV.bZ,ac1,acE]at e1;obtain⟨u,h1,rfl⟩:=e1;exact(AV.nz _).trans (hh.one h1)
def l0 (R:Rel P w0 n U g S H a w) {o:Oper} {hr:HR} {t:TypeId} {i:TypeInfo} {x1 x2:Operand} {y1 y2:cz} {e:aQ} (ho:o.op = .store t x1 x2) (gz:o.dst=none)
  (hi:P.info? t=some i) (mC:c_ n x1=some y1) (k_:c_ n x2=some y2) (oq:∀t∈y1.tmps,¬U t) (n0:∀t∈y2.tmps,¬U t)
  (he:aD S H (.store hr i.size y1 y2)=some e):cK P w0 n U g S H a w o e:=by
 have fa:=R.ev mC oq;have eD:=R.ev k_ n0;simp only[aD]at he;generalize acp:AL.ev S y1=q1 at he fa;generalize jm:a.eval x1=c1 at fa
 cases fa<;>(try cases he;done)
 case data h=>cases h<;>cases he
 rename_i k off b gw;simp only at he;split at he
 case isFalse=>cases he
 obtain⟨cs,vs,ty,k1,k2,k3,k4,k5,k6,k7,k8,k9⟩:=R.box k b gw;simp only[k1]at he;split at he
 case isFalse=>cases he
 rename_i hc;obtain⟨gr,Bb,fx⟩:=hc;cases he;have sZ:=eD.dL (AV.jC fx);obtain⟨g1,e1,e2,e3,e4,R1,Sp⟩:=R.take k_ n0 (.cell k off)
 have pj:g1.Pr=g.Pr:=by unfold Gh.Pr;rw[e1,e2,e4]
 obtain⟨cs0,Rd,ty0,m1,m2,m3,m4,m5,m6,m7,m8,m9⟩:=R1.box k b (by rw[e3];exact gw);rw[k1]at m1;cases m1;rw[k3]at m3;cases m3
 have bg:(a.eval x2).cells.size=i.size:=by rw[<-sZ.cells.1];exact gr
 have hlen:off+(a.eval x2).cells.size<=vs.size:=by omega
 have lj:∀u∈(a.eval x2).cells.toList,u.oneCell'=true:=by
  intro u hu;obtain⟨j,hj,rfl⟩:=adm hu
  have dH:j<(AL.ev S y2).cells.length:=by rw[sZ.cells.1];simpa using hj
  have:=(sZ.cells.2 j dH (by simpa using hj)).one (sZ.cells_one fx j dH);simpa using this
 have cM:=afs P b off ty (a.eval x2).cells.toList 0 vs w k3 (by simpa using hlen) lj;simp only[Nat.add_zero]at cM;have EP:=Bo (AL.ev S y2)
 have ib:∀j,(vs.toList.take off++(a.eval x2).cells.toList++vs.toList.drop (off+(a.eval x2).cells.toList.length)).toArray[j]?=if off<=j/\j<off+(a.eval x2).cells.size then(a.eval x2).cells[j-off]? else vs[j]?:=by
  intro j;simp only[afz,Array.length_toList]
  by_cases h1:j<off
  .rw[if_neg (by omega),adI,adB (by simp;omega)];simp[h1]
  .by_cases h2:j<off+(a.eval x2).cells.size
   .rw[if_pos ⟨by omega,h2⟩,adB (by simp;omega),adN (by simp;omega)];rw[adM]
    congr 1
    simp;omega
   .rw[if_neg (by omega),adN (by simp;omega)];simp only[aeX,adM]
    congr 1
    simp;omega
 have ee:nQ g1.Pr w (bu cs off (AL.ev S y2).bZ) (vs.toList.take off++(a.eval x2).cells.toList++vs.toList.drop (off+(a.eval x2).cells.toList.length)).toArray:=
  nQ.bu (cs:=cs) (xs:=vs) ⟨m6,m7,m9⟩ (ys:=(a.eval x2).cells) (by rw[pj];exact sZ.bZ fx) (by omega) _ (by simp;omega) ib
 have cI:∀j v c,(bu cs off (AL.ev S y2).bZ)[j]?=some v->(vs.toList.take off++(a.eval x2).cells.toList++vs.toList.drop (off+(a.eval x2).cells.toList.length)).toArray[j]?=some c->ea P w g1 (.cell k j) v c:=by
  intro j v c h1 h2;rw[rF (by omega)]at h1;rw[ib]at h2;rw[EP,sZ.cells.1]at h1;split at h1
  .rename_i lz;rw[if_pos lz]at h2;have CT:=sZ;generalize AL.ev S y2=q at h1 Sp CT fx;generalize a.eval x2=c2 at h2 Sp CT
   have single:q.bZ=[q]->c2.cells=#[c2]->ea P w g1 (.cell k j) v c:=by
    intro h3 h4;rw[h3]at h1;rw[h4]at h2
    have h0:j-off=0:=by simpa using(acT.1 h1).1
    rw[h0]at h1 h2;simp at h1 h2;subst h1;subst h2;rw[show j=off by omega];exact Sp
   cases CT with
   |agg fj kz hl lj hr=>
    simp only[AV.bZ,ac1,acE]at h1;obtain⟨u,_,rfl⟩:=h1;exact gj _ _ _
   |dR=>cases fx
   |val _ hc=>exact single rfl (by cases c2<;>first|rfl|cases hc)
   |_=>exact single rfl rfl
  .rename_i lz;rw[if_neg lz]at h2;obtain⟨l1,rfl⟩:=acT.1 h1;obtain⟨l2,rfl⟩:=acz.1 h2;exact m8 j l1 l2
 have R2:=R1.FU k b (by rw[e3];exact gw) vs _ ty k3 _ ee.1 ee.2.1 (λj hj dH=>cI j _ _ (acx hj) (acP dH)) ee.2.2;refine⟨undef,w.setRow b (vs.toList.take off++(a.eval x2).cells.toList++vs.toList.drop (off+(a.eval x2).cells.toList.length)).toArray,g1,.inr ⟨?_,rfl⟩,e1,e2,?_⟩
 .unfold execOp;simp only[ho,jm,Instr.storeAt,Instr.sureAddr,storeVar,sizeOf,typeInfo,acK,Sem.run_pure,Result.andThen_ok,run_program,hi,bg,ne_eq,aef,acW];rw[show storeCells ⟨b,off,none⟩ (a.eval x2).cells.toList=storeCells ⟨b,off,none⟩ (a.eval x2).cells.toList 0 from rfl,cM]
  rfl
 .rw[gz];exact R2
end
def qc {P:Program} {w:World} (base:Nat) (t ty e:TypeId) (i:TypeInfo) (z:Value) (ht:P.underlying t=some (.slice e)) (hi:P.info? e=some i) (hz:i.zero=some z)
  (nv:z.cells.size=i.size) (v:Value) (n:Nat) (xs:List Value) (b:Nat) (cI:w.ownsRow base e i.size v n xs) (mr:v.ownBlock=some b)
  (ad:Addr) (m c:Nat) (news:List Value) (hl:news.length=m*i.size) (oL:∀j u,news[j]?=some u->w.cell? (ad.add j)=some u) (h1:∀u∈news,u.oneCell'=true)
  (h63:n+m<=2097152) (GZ:(n+m)*i.bytes<=140737488355328) (fT:base<=w.heap.size):
  ∃v' w' b',(Builtin.append_ #[t,t] ty #[v,.slice (some ad) m c]).run P w=.ok v' w'/\w'.ownsRow base e i.size v' (n+m) (xs++news)/\v'.ownBlock=some b'/\
   ((b'=b/\w.grownBy w' (some b))\/(b'=w.heap.size/\w.grownBy w' none/\w'.heap.size=w.heap.size+1)):=by
 have abM:n+m<=maxLen:=by unfold maxLen;omega
 have hlen:(xs++news).length=(n+m)*i.size:=by rw[acV,cI.1,hl,aec]
 rcases cI.2 with⟨rfl,rfl⟩|⟨g,cap,cur,rfl,nC,hg,Iz,vS,pC,yK⟩
 .cases mr
 .have qQ:g=b:=by simpa[Value.ownBlock]using mr
  subst qQ
  by_cases gZ:n+m<=cap
  .have aa_:n*i.size+news.length<=cur.size:=by rw[hl,pC,<-aec];exact adJ _ gZ
   have hr:=run_append_room (P:=P) w t ty e i ht hi g n cap cur hg ad m c news hl oL h1 gZ aa_;refine⟨_,_,g,hr,⟨hlen,.inr ⟨g,cap,_,rfl,nC,aer w g cur _ e _ hg,gZ,vS,?_,?_⟩⟩,rfl,.inl ⟨rfl,⟨rfl,rfl,rfl,by simp,λk _ hk=>adL w g k _ (λe=>hk (by simp[e]))⟩⟩⟩
   .simp only[ae4,acV,adf,adg,Array.length_toList];omega
   .rw[yK,<-hlen];exact afJ
  .have holds:∀j u,xs[j]?=some u->w.cell? ((⟨g,0,none⟩:Addr).add j)=some u:=cI.cells (g:=g) rfl;have hr:=run_append_grow (P:=P) w t ty e i z ht hi hz ⟨g,0,none⟩ n cap xs cI.1 holds ad m c news hl oL (by omega) (by omega) (growslice_fits (by omega) GZ);have AY:=grownCap_ge w (n+m) cap e;have Rb:grownCap w (n+m) cap e<=maxLen:=grownCap_le_maxLen w (n+m) cap e abM;refine⟨_,_,w.heap.size,hr,⟨hlen,.inr ⟨w.heap.size,_,_,rfl,fT,afI w.drew _,AY,Rb,?_,?_⟩⟩,rfl,.inr ⟨rfl,⟨rfl,rfl,rfl,by simp,λk hk _=>heap_alloc_old w.drew _ k hk⟩,by simp⟩⟩
   .simp only[Array.size_append,ae4,size_zeroCells,nv,cI.1,hl,<-aec]
    congr 1
    omega
   .simp only[agn,adI];rw[<-adI,<-hlen];exact afJ
def ov {P:Program} {w:World} (base:Nat) (t ty e:TypeId) (i:TypeInfo) (z:Value) (ht:P.underlying t=some (.slice e)) (hi:P.info? e=some i) (hz:i.zero=some z)
  (nv:z.cells.size=i.size) (a0:Option Addr)
  (ad:Addr) (m c:Nat) (news:List Value) (hl:news.length=m*i.size) (oL:∀j u,news[j]?=some u->w.cell? (ad.add j)=some u)
  (hm:0<m) (h63:m<=2097152) (GZ:m*i.bytes<=140737488355328) (fT:base<=w.heap.size):
  ∃v' w',(Builtin.append_ #[t,t] ty #[.slice a0 0 0,.slice (some ad) m c]).run P w=.ok v' w'/\w'.ownsRow base e i.size v' m news/\v'.ownBlock=some w.heap.size/\w.grownBy w' none/\w'.heap.size=w.heap.size+1:=by
 have AY:=grownCap_ge w m 0 e;have Rb:grownCap w m 0 e<=maxLen:=grownCap_le_maxLen w m 0 e (by unfold maxLen;omega)
 have cM:(Builtin.append_ #[t,t] ty #[.slice a0 0 0,.slice (some ad) m c]).run P w=.ok (.slice (some ⟨w.heap.size,0,none⟩) m (grownCap w m 0 e)) (w.drew.alloc (.cells (news.toArray++Builtin.zeroCells z.cells (grownCap w m 0 e-m)) e)):=by
  cases a0 with
  |none=>exact run_append_nil (P:=P) w t ty e i z ht hi hz ad m c news hl oL hm (by omega) (by omega)
  |some b=>
   have:=run_append_grow (P:=P) w t ty e i z ht hi hz b 0 0 [] (by simp) (by simp) ad m c news hl oL (by omega) (by omega) (growslice_fits (by omega) (by simpa using GZ));simpa using this
 refine⟨_,_,cM,⟨hl,.inr ⟨w.heap.size,_,_,rfl,fT,afI w.drew _,AY,Rb,?_,?_⟩⟩,rfl,⟨rfl,rfl,rfl,by simp,λk hk _=>heap_alloc_old w.drew _ k hk⟩,by simp⟩
 .simp only[Array.size_append,ae4,size_zeroCells,nv,hl,<-aec]
  congr 1
  omega
 .rw[<-hl];simp only[agn];exact afJ
def sn {P:Program} {w:World} (base:Nat) (t ty e:TypeId) (i:TypeInfo) (size:Nat) (ht:P.underlying t=some (.slice e)) (hi:P.info? e=some i)
  (v:Value) (n:Nat) (xs:List Value) (cI:w.ownsRow base e size v n xs) (ad:Option Addr):
  (Builtin.append_ #[t,t] ty #[v,.slice ad 0 0]).run P w=.ok v w:=by
 have U2:(Builtin.firstCells i.size 0 (.slice ad 0 0)).run P w=.ok #[] w:=by
  rcases ad with _|ad
  .rfl
  .simp[Builtin.firstCells,loadCells,loadCellsFrom]
 rcases cI.2 with⟨rfl,rfl⟩|⟨g,cap,cur,rfl,_,_,Iz,_⟩
 .simp[Builtin.append_,acR ht,sizeOf,typeInfo,hi,Builtin.lenOf,U2]
 .simp[Builtin.append_,acR ht,sizeOf,typeInfo,hi,Builtin.lenOf,U2,Iz,storeCells]
def RD.kM {Pr:Nat→Nat→Prop} {w:World} {o:Ow} {es:List AV} {c:Value} (h:RD Pr w (.slice o es) c) (size:Nat) (hs:aJ size es=true) :
  (es=[]/\∃ad,c=.slice ad 0 0)\/∃(b off cap:Nat)(news:List Value),c=.slice (some ⟨b,off,none⟩) es.length cap/\news.length=es.length*size/\
   (∀j u,news[j]?=some u->w.cell? ⟨b,off+j,none⟩=some u)/\(∀u∈news,u.oneCell'=true)/\
   ∀j (h:j<es.length) k (hk:k<(es[j]).cells.length),∃u,news[j*size+k]?=some u/\RD Pr w ((es[j]).cells[k]) u:=by
 simp only[aJ,acN,acA,ac7]at hs
 cases h with
 |gx=>exact .inl ⟨rfl,_,rfl⟩
 |ja _ a=>exact .inl ⟨rfl,_,rfl⟩
 |slice _ _ b off cap sz cs eT p_ bg h1 hc hr=>
  refine .inr ⟨b,off,cap,(List.range (es.length*size)).map cs,rfl,by simp,?_,?_,?_⟩
  .intro j u hu;simp only[ac1,acE]at hu;obtain⟨j',h1,rfl⟩:=hu;obtain⟨av,rfl⟩:=acT.1 h1;simp only[List.length_range]at av;simp only[List.getElem_range]
   have fI:0<es.length:=by
    rcases ael es.length with h0|h0
    .rw[h0]at av;omega
    .exact h0
   have:sz=size:=by rw[<-bg 0 fI];exact(hs _ (acy fI)).2
   subst this;exact(hc j av).2
  .intro u hu;simp only[acZ,acY]at hu;obtain⟨j,av,rfl⟩:=hu
   have fI:0<es.length:=by
    rcases ael es.length with h0|h0
    .rw[h0]at av;omega
    .exact h0
   have:sz=size:=by rw[<-bg 0 fI];exact(hs _ (acy fI)).2
   subst this
   have iS:0<sz:=by
    rcases ael sz with h0|h0
    .rw[h0]at av;omega
    .exact h0
   have hj:j/sz<es.length:=(Nat.div_lt_iff_lt_mul iS).2 av
   have hk:j % sz<(es[j/sz]).cells.length:=by rw[bg _ hj];exact afS _ iS
   have e:j/sz*sz+j % sz=j:=by rw[aei];exact afe j sz
   have:=(hr _ hj _ hk).one (h1 _ hj _ hk);rwa [e]at this
  .intro j hj k hk
   have:sz=size:=by rw[<-bg j hj];exact(hs _ (acy hj)).2
   subst this;refine⟨cs (j*sz+k),?_,hr j hj k hk⟩;rw[bg j hj]at hk
   have:j*sz+k<es.length*sz:=by
    calc j*sz+k<j*sz+sz:=by omega
     _=(j+1)*sz:=by rw[afV]
     _<=es.length*sz:=adJ _ (by omega)
   simp[this]
def RD.LR{Pr:Nat->Nat->Prop}{w:World}{o:Ow}{es:List AV}{c:Value}(h:RD Pr w (.slice o es) c):∀j (h:j<es.length) k (hk:k<(es[j]).cells.length),((es[j]).cells[k]).one=true:=by
 intro j hj k hk
 cases h with
 |gx=>simp at hj
 |ja=>simp at hj
 |slice _ _ _ _ _ _ _ _ _ _ h1 _ _=>exact h1 j hj k hk
section
variable{P:Program}{w0:World}{n:Nat}{U:Nat->Prop}{g:Gh}{S:an}{H:aq}{a:Act}{w:World}
def Rel.ownRow (R:Rel P w0 n U g S H a w) {w':World} {b':Nat} (d:Option Nat) (hd:∀ t,d=some t→t < n∧¬ U t) {el:TypeId} {i:TypeInfo} (hi:P.info? el=some i) {es:List AV} {news:List Value} {v':Value}
  (cI:w'.ownsRow g.base el i.size v' es.length news) (mr:v'.ownBlock=some b')
  (uC:∀es c,w.heap[b']?≠some (.map es c))
  (hb:(b'<w.heap.size/\w.grownBy w' (some b')/\g.owner b'=none/\(∀j,g.al j≠some b')/\g.hi b'<=es.length*i.size/\(∀k u,k<g.hi b'->w.cell? ⟨b',k,none⟩=some u->news[k]?=some u)/\∀o,g.old.aR b'≠some o)\/
   (b'=w.heap.size/\w.grownBy w' none/\w'.heap.size=w.heap.size+1))
  (fx:aJ i.size es=true)
  (hr:∀j (h:j<es.length) k (hk:k<(es[j]).cells.length),∃u,news[j*i.size+k]?=some u/\RD g.Pr w ((es[j]).cells[k]) u/\((es[j]).cells[k]).one=true):
  ∃g',g'.base=g.base/\g'.old=g.old/\Rel P w0 n U g' (Go.AL.aY S d (.slice (.own el) es)) H (a.put d v') w':=by
 have hle:g.base<=w.heap.size:=by rw[R.base];exact R.below.size
 simp only[aJ,acN,acA,ac7]at fx
 let g':Gh:={ g with hi:=au g.hi b' (es.length*i.size),owner:=au g.owner b' (d.map .slot) }
 have iU:∀k,k<w.heap.size->k≠b'->w'.heap[k]?=w.heap[k]?:=by
  intro k hk bP
  rcases hb with⟨_,h,_⟩|⟨_,h,_⟩
  .exact h.block k hk (by simp[bP])
  .exact h.block k hk (by simp)
 have kG:w.heap.size<=w'.heap.size:=by rcases hb with⟨_,h,_⟩|⟨_,h,_⟩<;>exact h.size
 rcases cI.2 with⟨rfl,_⟩|⟨gg,cap,cur,rfl,nC,hg,Iz,vS,pC,yK⟩
 .cases mr
 have qQ:gg=b':=by simpa[Value.ownBlock]using mr
 subst qQ
 have dX:∀k u,news[k]?=some u->w'.cell? ⟨gg,k,none⟩=some u:=by
  intro k u hu;have:=cI.cells (g:=gg) rfl k u hu;rwa [adt,ac_]at this
 have U3:∀b k,g.Pr b k->∀u,w.cell? ⟨b,k,none⟩=some u->g'.Pr b k/\w'.cell? ⟨b,k,none⟩=some u:=by
  intro b k hp u hu;have av:b<w.heap.size:=aeS _ _ hu
  by_cases lU:b=gg
  .subst lU
   rcases hb with⟨h1,h2,h3,h4,h5,h6,_⟩|⟨h1,_⟩
   .rcases hp with hp|hp
    .omega
    .exact⟨.inr ⟨hp.1,by show k<au g.hi _ _ _;rw[aK];omega⟩,dX k u (h6 k u hp.2 hu)⟩
   .omega
  .refine⟨?_,by rw[aes (w:=w) (iU b av lU)];exact hu⟩;rcases hp with hp|hp
   .exact .inl hp
   .exact .inr ⟨hp.1,by show k<au g.hi _ _ b;rw[aN _ _ lU];exact hp.2⟩
 have uY:bc g.Pr g'.Pr w w':={
  cell:=U3
  map:=λb hp es c hm=>by
   have av:b<w.heap.size:=(acz.1 hm).1
   have lU:b≠gg:=by
    rintro rfl;exact uC _ _ hm
   refine⟨?_,by rw[iU b av lU];exact hm⟩;rcases hp with hp|hp
   .exact .inl hp
   .exact .inr ⟨hp.1,by show 0<au g.hi _ _ b;rw[aN _ _ lU];exact hp.2⟩ }
 have R':Rel P w0 n U g' S H a w':=by
  refine R.ext (g':=g') rfl rfl rfl uY ?_ ?_ ?_ ?_ ?_ kG
  .intro j b hj;obtain⟨_,_,_,_,_,k3,_⟩:=R.box j b hj;have av:b<w.heap.size:=(acz.1 k3).1
   have bP:b≠gg:=by
    rintro rfl
    rcases hb with⟨_,_,_,h4,_⟩|⟨h1,_⟩
    .exact h4 j hj
    .omega
   exact⟨iU b av bP,aN _ _ bP,aN _ _ bP⟩
  .intro b loc ho
   have av:b<w.heap.size:=by
    rcases adK b w.heap.size with h|h
    .exact h
    .rw[(R.fresh b h).2]at ho;cases ho
   have bP:b≠gg:=by
    rintro rfl
    rcases hb with⟨_,_,h3,_⟩|⟨h1,_⟩
    .rw[h3]at ho;cases ho
    .omega
   exact⟨iU b av bP,aN _ _ bP,(aN _ _ bP).trans ho⟩
  .refine R.below.trans ?_
   rcases hb with⟨_,h,_⟩|⟨_,h,_⟩
   .exact⟨h.os,h.tape,h.output,h.size,λk hk=>iU k (by omega) (by omega)⟩
   .exact⟨h.os,h.tape,h.output,h.size,λk hk=>iU k (by omega) (by omega)⟩
  .intro b lU
   have bP:b≠gg:=by
    have:=(acz.1 hg).1;omega
   exact⟨(aN _ _ bP).trans (R.fresh b (by omega)).1,(aN _ _ bP).trans (R.fresh b (by omega)).2⟩
  .intro b o hk ho;have av:b<w.heap.size:=(acz.1 ho).1
   have bP:b≠gg:=by
    rintro rfl
    rcases hb with⟨_,_,_,_,_,_,h7⟩|⟨h1,_⟩
    .exact h7 o hk
    .omega
   exact⟨by rw[iU b av bP];exact ho,aN _ _ bP,aN _ _ bP⟩
 refine⟨g',rfl,rfl,R'.aY d _ _ (λt h=>(hd t h).1) (.data _ _ ?_) ?_⟩
 .refine .slice _ es gg 0 cap i.size (λk=>news.getD k undef) Iz (λh=>by cases h) (λj h=>(fx _ (acy h)).2) (λj h k hk=>(hr j h k hk).choose_spec.2.2) (λk hk=>⟨?_,?_⟩) (λj h k hk=>?_)
  .exact .inr ⟨nC,by show 0+k<au g.hi _ _ _;rw[aK];omega⟩
  .rw[ac_];refine dX k _ ?_
   have:k<news.length:=by rw[cI.1];exact hk
   simp[this]
  .obtain⟨u,h1,h2,_⟩:=hr j h k hk
   have:news.getD (j*i.size+k) undef=u:=by simp[h1]
   rw[this];exact h2.mono uY
 .intro t ht;subst ht;exact⟨i,news,gg,hi,cI,rfl,by show au g.owner _ _ _=_;rw[aK];rfl,by show au g.hi _ _ _=_;rw[aK]⟩
def mf{size:Nat}{es:List AV}:aJ size es=true↔∀v∈es,v.storable=true/\v.cells.length=size:=by
 simp[aJ]
def FQ (R:Rel P w0 n U g S H a w) {o:Oper} {cl:Call} {t el:TypeId} {i:TypeInfo} {z:Value} {x1 x2:Operand} {y1 y2:cz} {e:aQ} (ho:o.op = .call cl) (gr:cl.callee = .builtin .append) (wu:cl.args = #[x1,x2]) (pw:cl.argTypes = #[t,t])
  (hd:∀t,o.dst=some t->t<n/\¬U t) (ep:P.underlying t=some (.slice el)) (hi:P.info? el=some i) (hz:i.zero=some z) (nv:z.cells.size=i.size) (Mh:i.bytes<=65536)
  (mC:c_ n x1=some y1) (k_:c_ n x2=some y2) (oq:∀t∈y1.tmps,¬U t) (n0:∀t∈y2.tmps,¬U t) (ee:∀t,o.dst=some t->t∉y1.tmps)
  (he:aD S H (.append t el i.size i.bytes y1 y2)=some e):cK P w0 n U g S H a w o e:=by
 have hle:g.base<=w.heap.size:=by rw[R.base];exact R.below.size
 have fa:=R.ev mC oq;have eD:=R.ev k_ n0
 have run:∀v' w',(Builtin.append_ #[t,t] o.type #[a.eval x1,a.eval x2]).run P w=.ok v' w'->(execOp a.eval o).run P w=.ok (.value v') w':=by
  intro v' w' h;unfold execOp;simp[ho,gr,wu,pw,resolve,invoke,builtin,h]
 have bytes:∀m,m<=2097152->m*i.bytes<=140737488355328:=λm hm=>adD (afl hm Mh) (by decide)
 simp only[aD]at he;split at he
 .
  rename_i oo ys SF Ya;split at he
  case isFalse=>cases he
  rename_i hc;simp only[acA,acJ]at hc;cases he;rw[SF]at fa;rw[Ya]at eD
  obtain⟨XO,jm⟩:∃ad,a.eval x1=.slice ad 0 0:=by
   have hq:=fa.dL rfl;generalize a.eval x1=c at hq
   cases hq with
   |gx=>exact⟨_,rfl⟩
   |ja=>exact⟨_,rfl⟩
   |slice _ _ b off cap size cs eT p_=>rw[p_ rfl];exact⟨_,rfl⟩
  have sZ:=eD.dL rfl
  rcases sZ.kM i.size hc.1 with⟨rfl,Sl,jv⟩|⟨b,off,cap,news,jv,hl,hn,h1,hr⟩
  .refine⟨a.eval x1,w,g,.inl (run _ _ ?_),rfl,rfl,R.aY o.dst _ _ (λt h=>(hd t h).1) (.data _ _ (fa.dL rfl)) λ_ _=>trivial⟩;rw[jm,jv]
   have U2:(Builtin.firstCells i.size 0 (.slice Sl 0 0)).run P w=.ok #[] w:=by
    rcases Sl with _|Sl
    .rfl
    .simp[Builtin.firstCells,loadCells,loadCellsFrom]
   simp[Builtin.append_,acR ep,sizeOf,typeInfo,hi,Builtin.lenOf,U2,storeCells]
   cases XO<;>simp[storeCells]
  .by_cases Xp:ys=[]
   .subst Xp;have oL:news=[]:=adb (by simpa using hl);refine⟨a.eval x1,w,g,.inl (run _ _ ?_),rfl,rfl,R.aY o.dst _ _ (λt h=>(hd t h).1) (.data _ _ (fa.dL rfl)) λ_ _=>trivial⟩;rw[jm,jv];simp[Builtin.append_,acR ep,sizeOf,typeInfo,hi,Builtin.lenOf,Builtin.firstCells,loadCells,loadCellsFrom]
    cases XO<;>simp[storeCells]
   .have fI:0<ys.length:=ade.2 Xp;obtain⟨v',w',r1,r2,r3,r4,r5⟩:=ov (P:=P) (w:=w) g.base t o.type el i z ep hi hz nv XO ⟨b,off,none⟩ ys.length cap news hl (λj u hu=>by rw[adt];exact hn j u hu) fI (by omega) (bytes _ (by omega)) hle
    obtain⟨g',e1,e2,R'⟩:=R.ownRow o.dst hd hi (es:=ys) r2 r3 (λes c hm=>by have:=(acz.1 hm).1;omega) (.inr ⟨rfl,r4,r5⟩) hc.1 (λj h k hk=>by
     obtain⟨u,u1,u2⟩:=hr j h k hk
     exact⟨u,u1,u2,sZ.LR j h k hk⟩)
    refine⟨v',w',g',.inl (run _ _ (by rw[jm,jv];exact r1)),e1,e2,?_⟩
    have:ys.isEmpty=false:=by cases ys with|nil=>exact absurd rfl Xp|cons=>rfl
    simp only[this];exact R'
 .rename_i e' xs oo ys SF Ya;split at he
  case isFalse=>cases he
  rename_i hc;simp only[acA,acJ]at hc;obtain⟨rfl,⟨jm,jv⟩,TL⟩:=hc;cases he;rw[SF]at fa;rw[Ya]at eD;obtain⟨g1,i',xv,b,b1,b2,b3,b4,R1,cQ,cI,mr,gX,yh,X',Io⟩:=R.NY mC oq SF;rw[hi]at cQ;cases cQ
  have pj:g1.Pr=g.Pr:=by unfold Gh.Pr;rw[b1,b2,b4]
  have CO:=fa.dL rfl;have sZ:=eD.dL rfl;have kd:b<w.heap.size:=(cI.lt b mr).2
  have vR:aJ i.size (xs++ys)=true:=by
   rw[mf];intro v hv;rcases acF.1 hv with h|h
   .exact mf.1 jv v h
   .exact mf.1 jm v h
  have hS:Rw S y1=(match(bG y1)with|some t=>au S t (S t).aH|none=>S):=rfl
  have lj:∀(o:Ow)(es:List AV)(c:Value),RD g.Pr w (.slice o es) c->∀j (h:j<es.length) k (hk:k<(es[j]).cells.length),((es[j]).cells[k]).one=true:=by
   intro o es c h j hj k hk
   cases h with
   |gx=>simp at hj
   |ja=>simp at hj
   |slice _ _ _ _ _ _ _ _ _ _ h1 _ _=>exact h1 j hj k hk
  have WJ:∀j (h:j<xs.length) k (hk:k<(xs[j]).cells.length),∃u,xv[j*i.size+k]?=some u/\RD g.Pr w ((xs[j]).cells[k]) u:=by
   intro j hj k hk
   rcases CO.kM i.size jv with⟨rfl,jz⟩|⟨b',off,cap,acu,jz,hl,hn,h1,hr⟩
   .simp at hj
   .obtain⟨u,u1,u2⟩:=hr j hj k hk;refine⟨u,?_,u2⟩
    have av:j*i.size+k<xv.length:=by
     rw[cI.1,<-hl];exact(acT.1 u1).1
    have e1:=cI.cells mr _ _ (acx av);have e2:=hn _ _ u1
    rcases cI.2 with⟨rV,_⟩|⟨gg,J5,cur,CV,_⟩
    .rw[rV]at mr;cases mr
    .rw[CV]at jz mr
     have qQ:gg=b:=by simpa[Value.ownBlock]using mr
     subst qQ;cases jz;rw[adt,ac_]at e1;rw[ac_]at e2;rw[e2]at e1;rw[acx av,acX e1]
  have Y1:∀k u,k<g1.hi b->w.cell? ⟨b,k,none⟩=some u->∀news,(xv++news)[k]?=some u:=by
   intro k u hk hu news;rw[b4,yh]at hk
   have av:k<xv.length:=by rw[cI.1];exact hk
   have e1:=cI.cells mr _ _ (acx av);rw[adt,ac_,hu]at e1;rw[adB av,acx av,<-acX e1]
  have fin:∀ v' w' b' news,(Builtin.append_ #[t,t] o.type #[a.eval x1,a.eval x2]).run P w = .ok v' w'→w'.ownsRow g.base e' i.size v' (xs.length+ys.length) (xv++news)→v'.ownBlock=some b' →
    ((b'=b/\w.grownBy w' (some b))\/(b'=w.heap.size/\w.grownBy w' none/\w'.heap.size=w.heap.size+1))->news.length=ys.length*i.size->
    (∀j (h:j<ys.length) k (hk:k<(ys[j]).cells.length),∃u,news[j*i.size+k]?=some u/\RD g.Pr w ((ys[j]).cells[k]) u)->
    cK P w0 n U g S H a w o { v:=.slice (.own e') (xs++ys),dm:=bG y1 }:=by
   intro v' w' b' news r1 r2 r3 r4 hl hr
   obtain⟨g',e1,e2,R'⟩:=R1.ownRow o.dst hd hi (es:=xs++ys) (by rw[b1,acV];exact r2) r3 (by
    rcases r4 with⟨rfl,_⟩|⟨rfl,_⟩
    .intro es c hm
     rcases cI.2 with⟨rV,_⟩|⟨gg,J5,cur,CV,_,aa2,_⟩
     .rw[rV]at mr;cases mr
     .rw[CV]at mr
      have qQ:gg=b':=by simpa[Value.ownBlock]using mr
      subst qQ;rw[aa2]at hm;cases hm
    .intro es c hm;have:=(acz.1 hm).1
     omega) (by
    rcases r4 with⟨rfl,hg⟩|h
    .refine .inl ⟨kd,hg,gX,by rw[b3];exact X',by rw[b4,yh,acV,aec];omega,λk u hk hu=>Y1 k u hk hu news,by rw[b2];exact Io⟩
    .exact .inr h) vR (λj h k hk=>by
     rw[pj]
     by_cases hj:j<xs.length
     .have ej:(xs++ys)[j]=xs[j]:=ac9 hj
      have dN:k<(xs[j]).cells.length:=by rw[<-ej];exact hk
      obtain⟨u,u1,u2⟩:=WJ j hj k dN;refine⟨u,?_,?_,?_⟩
      .rw[adB (acT.1 u1).1];exact u1
      .simp only[ej];exact u2
      .simp only[ej];exact lj _ _ _ CO j hj k dN
     .have hj2:j-xs.length<ys.length:=by simp only[acV]at h;omega
      have ej:(xs++ys)[j]=ys[j-xs.length]:=adF (by omega)
      have dN:k<(ys[j-xs.length]).cells.length:=by rw[<-ej];exact hk
      obtain⟨u,u1,u2⟩:=hr _ hj2 k dN;refine⟨u,?_,?_,?_⟩
      .have e3:j * i.size+k=xv.length+((j - xs.length) * i.size+k):=by
        rw[cI.1,<-aeU,<-aec];congr 2;omega
       rw[e3,adN (by omega),Nat.add_sub_cancel_left];exact u1
      .simp only[ej];exact u2
      .simp only[ej];exact lj _ _ _ sZ _ hj2 k dN)
   exact⟨v',w',g',.inl (run _ _ r1),e1.trans b1,e2.trans b2,R'⟩
  rcases sZ.kM i.size jm with⟨rfl,Sl,jz⟩|⟨b',off,cap,news,jz,hl,hn,h1,hr⟩
  .refine fin (a.eval x1) w b [] (by rw[jz];exact sn (P:=P) (w:=w) g.base t o.type e' i i.size ep hi _ _ _ cI Sl) (by simpa using cI) mr (.inl ⟨rfl,⟨rfl,rfl,rfl,acD _,λ_ _ _=>rfl⟩⟩) (by simp) (λj h=>by simp at h)
  .obtain⟨v',w',b'',r1,r2,r3,r4⟩:=qc (P:=P) (w:=w) g.base t o.type e' i z ep hi hz nv (a.eval x1) xs.length xv b cI mr ⟨b',off,none⟩ ys.length cap news hl (λj u hu=>by rw[adt];exact hn j u hu) h1 (by omega) (bytes _ (by omega)) hle;exact fin v' w' b'' news (by rw[jz];exact r1) r2 r3 r4 hl hr
 .cases he
end
section
variable{P:Program}{w0:World}{n:Nat}{U:Nat->Prop}{g:Gh}{S:an}{H:aq}{a:Act}{w:World}
def JQ (R:Rel P w0 n U g S H a w) {o:Oper} {hr:HR} {t:TypeId} {nG:TypeDesc} {x:Operand} {y:cz} {e:aQ} {d:Nat} (ho:o.op = .load t x) (gz:o.dst=some d) (hd:d < n∧¬ U d)
  (ep:P.underlying t=some nG) (lA:eh nG=false) (hx:c_ n x=some y) (hu:∀t∈y.tmps,¬U t) (he:aD S H (.loadT hr y)=some e):cK P w0 n U g S H a w o e:=by
 have hv:=R.ev hx hu;simp only[aD]at he;generalize qy:AL.ev S y=q at he hv;generalize l7:a.eval x=c at hv
 cases hv<;>(try cases he;done)
 case data h=>cases h<;>cases he
 rename_i k off b gw;simp only at he;split at he
 case isFalse=>cases he
 obtain⟨cs,vs,ty,k1,k2,k3,k4,k5,k6,k7,k8,k9⟩:=R.box k b gw;simp only[k1]at he;split at he
 case h_2=>cases he
 rename_i v hv;cases he;obtain⟨av,rfl⟩:=acT.1 hv
 have jG:off<vs.size:=by omega
 have cM:(loadVar t ⟨b,off,none⟩).run P w=.ok vs[off] w:=by
  have V7:(isAgg t).run P w=.ok false w:=by
   unfold isAgg;rw[acK,acR ep w,<-lA]
   cases nG<;>simp[eh]
  have hc:w.cell? ⟨b,off,none⟩=some vs[off]:=by simp[World.cell?,k3,jG]
  simp[loadVar,acK,V7,hc]
 have R1:=R.FU k b gw vs vs ty k3 (cs.set off (cs[off]).aH) (by simpa using k6) (fun j h h'=>by
   simp only[aet]at h;rw[ae5];split
   .rename_i hj;subst hj;exact(k7 _ av jG).aH
   .exact k7 j h h') (λj h h'=>by
   simp only[aet]at h;rw[ae5];split
   .exact gj _ _ _
   .exact k8 j h h') (λj h=>by
   simp only[aet]at h;rw[ae5];split
   .have:=k9 off av;exact(AV.nz _).trans this
   .exact k9 j h)
 rw[setRow_self w b vs ty (0,0) k3]at R1
 have R2:=R1.FM (.cell k off) (some (.slot d)) (λt h=>by cases h) (λi j fj h hH hj=>by
  cases h;rw[aK]at hH;cases hH;simp only[aeF]
  exact AV.oX _)
 refine⟨vs[off],w,{ g with owner:=λb=>if g.owner b=some (.cell k off)then some (.slot d)else g.owner b },.inl ?_,rfl,rfl,?_⟩
 .unfold execOp;simp[ho,l7,Instr.loadAt,Instr.sureAddr,cM]
 .rw[gz];refine R2.put d _ _ hd.1 (.data _ _ (k7 _ av jG)) ?_;have hh:=k8 off av jG;generalize cs[off]=v at hh;generalize vs[off]=c at hh
  cases v<;>try trivial
  rename_i oo es
  cases oo with
  |view=>trivial
  |nil=>exact hh
  |own e=>
   obtain⟨i,xs,b,h1,h2,h3,h4,h5⟩:=hh;refine⟨i,xs,b,h1,h2,h3,?_,h5⟩;show(if g.owner b=some (.cell k off)then some (.slot d)else g.owner b)=_;rw[if_pos h4]
def run_sliceBound{x:Value}{i:Int}{y:Nat}{code:BoundsCode}(hx:x=.int .i64 i)(h0:0<=i)(h1:i<=y):(Instr.sliceBound x y code).run P w=.ok i.toNat w:=by
 subst hx;simp[Instr.sliceBound,asIntOf,h0,h1]
def zO (R:Rel P w0 n U g S H a w) {lo hi:Option Operand} {wL cQ:Option cz} (so:lL n lo=some wL) (yh:lL n hi=some cQ) (Q4:∀ y∈wL,∀ t∈y.tmps,¬ U t) (PE:∀ y∈cQ,∀ t∈y.tmps,¬ U t)
  {len cap:Nat} (ZC:len<=cap) {p q:Int} (hp:bound (wL.map (AL.ev S)) 0=some p) (hq:bound (cQ.map (AL.ev S)) len=some q) (h0:0<=p) (h1:p<=q) (h2:q<=len) (sl:Bool):
  (Instr.sliceBounds sl len cap (lo.map a.eval) (hi.map a.eval) none).run P w=.ok (p.toNat,q.toNat,cap) w:=by
 have hh:∀code,(match hi.map a.eval with|some v=>Instr.sliceBound v cap code|none=>(pure len:Sem Nat)).run P w=.ok q.toNat w:=by
  intro code
  cases hi with
  |none=>
   cases yh;simp only[Option.map_none,bound,ac0]at hq;subst hq;simp
  |some x=>
   simp only[lL,acE]at yh;obtain⟨y,hy,rfl⟩:=yh;have hv:=R.ev hy (PE y rfl);simp only[Option.map_some,bound]at hq;generalize AL.ev S y=v at hq hv
   split at hq<;>simp only[ac0,reduceCtorEq]at hq
   .simp_all
   .rename_i m hm;simp only[ac0]at hm;subst hm;subst hq;simp only[Option.map_some];refine run_sliceBound ?_ (by omega) (by omega);generalize a.eval x=cx at hv;cases hv;rename_i hv;cases hv;rfl
 have hl:∀code,(match lo.map a.eval with|some v=>Instr.sliceBound v q.toNat code|none=>(pure 0:Sem Nat)).run P w=.ok p.toNat w:=by
  intro code
  cases lo with
  |none=>
   cases so;simp only[Option.map_none,bound,ac0]at hp;subst hp;simp
  |some x=>
   simp only[lL,acE]at so;obtain⟨y,hy,rfl⟩:=so;have hv:=R.ev hy (Q4 y rfl);simp only[Option.map_some,bound]at hp;generalize AL.ev S y=v at hp hv
   split at hp<;>simp only[ac0,reduceCtorEq]at hp
   .simp_all
   .rename_i m hm;simp only[ac0]at hm;subst hm;subst hp;simp only[Option.map_some];refine run_sliceBound ?_ (by omega) (by omega);generalize a.eval x=cx at hv;cases hv;rename_i hv;cases hv;rfl
 unfold Instr.sliceBounds
 cases hi with
 |none=>
  have h3:=hh .sliceB;simp only[Option.map_none]at h3⊢
  cases lo with
  |none=>have h4:=hl .sliceB;simp only[Option.map_none]at h4⊢;simp at h3 h4;simp[h3,h4]
  |some x=>have h4:=hl .sliceB;simp only[Option.map_some]at h4⊢;simp at h3;simp[h3,h4]
 |some y=>
  have h3:=λc=>hh c
  simp only[Option.map_some]at h3⊢
  cases lo with
  |none=>have h4:=hl .sliceB;simp only[Option.map_none]at h4⊢;simp at h4;simp[h3,h4]
  |some x=>have h4:=hl .sliceB;simp only[Option.map_some]at h4⊢;simp[h3,h4]
def FT (R:Rel P w0 n U g S H a w) {o:Oper} {t:TypeId} {x:Operand} {lo hi:Option Operand} {y:cz} {wL cQ:Option cz} {e:aQ} (ho:o.op = .slice t x lo hi none) (hd:∀ t,o.dst=some t→t < n∧¬ U t)
  (ep:P.underlying t=some .string) (hx:c_ n x=some y) (hu:∀t∈y.tmps,¬U t) (so:lL n lo=some wL) (yh:lL n hi=some cQ) (Q4:∀y∈wL,∀t∈y.tmps,¬U t) (PE:∀y∈cQ,∀t∈y.tmps,¬U t)
  (he:aD S H (.nc y wL cQ)=some e):cK P w0 n U g S H a w o e:=by
 have hv:=R.ev hx hu;simp only[aD]at he;generalize qy:AL.ev S y=q at he hv;generalize l7:a.eval x=c at hv
 cases hv<;>(try cases he;done)
 rename_i h
 cases h<;>simp only at he<;>try cases he
 rename_i l;split at he
 case h_2=>cases he
 rename_i p q hp hq;split at he
 case isFalse=>cases he
 rename_i hc;cases he;have hb:=zO R so yh Q4 PE (len:=l.length) (acD _) hp hq hc.1 hc.2.1 hc.2.2 false
 refine cK.val R (λt h=>(hd t h).1) (c:=.string ⟨((l.take q.toNat).drop p.toNat).toArray⟩) ?_ (.data _ _ (.str _)) λ_=>trivial
 have fS:(Instr.sliceBounds false (⟨l.toArray⟩:ByteArray).size (⟨l.toArray⟩:ByteArray).size (lo.map a.eval) (hi.map a.eval) none).run P w=.ok (p.toNat,q.toNat,l.length) w:=hb;unfold execOp;simp only[ho,l7,Instr.sliceAt,acK,acR ep,Result.andThen_ok,Option.map_none,Instr.slice,Option.isSome_none,acI,acW,Sem.run_pure,fS];rw[ByteArray.extract_mk,List.drop_take]
def Fv (R:Rel P w0 n U g S H a w) {o:Oper} {t el:TypeId} {i:TypeInfo} {x:Operand} {lo hi:Option Operand} {y:cz} {wL cQ:Option cz} {e:aQ} (ho:o.op = .slice t x lo hi none) (hd:∀ t,o.dst=some t→t < n∧¬ U t)
  (ep:P.underlying t=some (.slice el)) (Gk:P.info? el=some i) (hx:c_ n x=some y) (hu:∀t∈y.tmps,¬U t) (so:lL n lo=some wL) (yh:lL n hi=some cQ) (Q4:∀y∈wL,∀t∈y.tmps,¬U t) (PE:∀y∈cQ,∀t∈y.tmps,¬U t)
  (he:aD S H (.lH i.size y wL cQ)=some e):cK P w0 n U g S H a w o e:=by
 have hv:=R.ev hx hu;simp only[aD]at he;generalize qy:AL.ev S y=q at he hv;generalize l7:a.eval x=c at hv
 cases hv<;>(try cases he;done)
 rename_i h
 have key:∀ (es:List AV) (ad:Option Addr) (cap:Nat),es.length≤cap→c = .slice ad es.length cap→∀ p q:Int,bound (wL.map (AL.ev S)) 0=some p→bound (cQ.map (AL.ev S)) es.length=some q→0≤p→p≤q→q≤es.length →
   (execOp a.eval o).run P w=.ok (.value (.slice (if cap=p.toNat then ad else ad.map (·.add (p.toNat*i.size))) (q.toNat-p.toNat) (cap-p.toNat))) w:=by
  rintro es ad cap eT rfl p q hp hq h0 h1 h2;have hb:=zO R so yh Q4 PE eT hp hq h0 h1 h2 true;unfold execOp;simp[ho,l7,Instr.sliceAt,acK,acR ep,Instr.slice,hb,sizeOf,typeInfo,Gk]
 cases h with
 |gx oo=>
  simp only at he;split at he
  case h_2=>cases he
  rename_i p q hp hq;split at he
  case isFalse=>cases he
  rename_i hc;cases he;have hk:=key [] none 0 (acD _) rfl p q hp hq hc.1 hc.2.1 hc.2.2.1
  have N':q.toNat=0:=by have:=hc.2.2.1;simp at this;omega
  have Mt:p.toNat=0:=by have:=hc.2.1;omega
  refine cK.val R (λt h=>(hd t h).1) hk (.data _ _ ?_) λ_=>trivial
  simp[N',Mt];exact .gx _
 |ja oo a0=>
  simp only at he;split at he
  case h_2=>cases he
  rename_i p q hp hq;split at he
  case isFalse=>cases he
  rename_i hc;cases he;have hk:=key [] (some a0) 0 (acD _) rfl p q hp hq hc.1 hc.2.1 hc.2.2.1
  have N':q.toNat=0:=by have:=hc.2.2.1;simp at this;omega
  have Mt:p.toNat=0:=by have:=hc.2.1;omega
  refine cK.val R (λt h=>(hd t h).1) hk (.data _ _ ?_) λ_=>trivial
  simp[N',Mt];exact .ja _ _
 |slice oo es b off cap size cs eT p_ bg h1 jz hr=>
  simp only at he;split at he
  case h_2=>cases he
  rename_i p q hp hq;split at he
  case isFalse=>cases he
  rename_i hc;cases he;have hk:=key es (some ⟨b,off,none⟩) cap eT rfl p q hp hq hc.1 hc.2.1 hc.2.2.1;have b_:=mf.1 hc.2.2.2
  have UH:q.toNat<=es.length:=by have:=hc.2.2.1;omega
  have hpq:p.toNat<=q.toNat:=by have:=hc.2.1;omega
  have hlen:((es.take q.toNat).drop p.toNat).length=q.toNat-p.toNat:=by simp;omega
  refine cK.val R (λt h=>(hd t h).1) hk (.data _ _ ?_) λ_=>trivial
  by_cases hm:cap=p.toNat
  .rw[if_pos hm];have rV:(es.take q.toNat).drop p.toNat=[]:=adb (by omega);rw[rV,show q.toNat-p.toNat=([]:List AV).length by simp;omega];exact .slice _ [] b off _ 0 cs (adr _) (λh=>by cases h) (λi h=>by simp at h) (λi h=>by simp at h) (λk hk=>by simp at hk) (λi h=>by simp at h)
  .rw[if_neg hm];simp only[Option.map_some,adt];rw[<-hlen]
   have ib:∀j (h:j<((es.take q.toNat).drop p.toNat).length),((es.take q.toNat).drop p.toNat)[j]=es[p.toNat+j]'(by rw[hlen]at h;omega):=by intro j h;simp
   by_cases mb:es=[]
   .subst mb
    have rV:(([]:List AV).take q.toNat).drop p.toNat=[]:=by simp
    rw[rV];exact .slice _ [] b _ _ 0 cs (adr _) (λh=>by cases h) (λi h=>by simp at h) (λi h=>by simp at h) (λk hk=>by simp at hk) (λi h=>by simp at h)
   .have fI:0<es.length:=ade.2 mb
    have Wp:size=i.size:=by rw[<-bg 0 fI];exact(b_ _ (acy fI)).2
    subst Wp;refine .slice _ _ b _ _ i.size (λk=>cs (p.toNat*i.size+k)) (by omega) (λh=>by cases h) (λj h=>by rw[ib j h];exact bg _ _) (λj h k hk=>by have:=ib j h;simp only[this]at hk⊢;exact h1 _ _ k hk) (λk hk=>?_) (λj h k hk=>?_)
    .rw[hlen]at hk
     have:p.toNat*i.size+k<es.length*i.size:=by
      calc p.toNat*i.size+k<p.toNat*i.size+(q.toNat-p.toNat)*i.size:=by omega
       _=q.toNat*i.size:=by rw[<-aec];congr 1;omega
       _<=es.length*i.size:=adJ _ UH
     have:=jz _ this;rwa [<-aeU]at this
    .have e:=ib j h;simp only[e]at hk⊢;have:=hr (p.toNat+j) (by rw[hlen]at h;omega) k hk;rwa [aec,aeU]at this
 |_=>cases he
def yO (R:Rel P w0 n U g S H a w) {o:Oper} {neg:Bool} {t t' el:TypeId} {x:Operand} {y:cz} {e:aQ} (ho:o.op = .binOp (if neg then .neq else .eql) t x (.const (.slice none 0 0)) t') (hd:∀ t,o.dst=some t→t < n∧¬ U t)
  (ht:P.underlying t=some (.slice el)) (hx:c_ n x=some y) (hu:∀t∈y.tmps,¬U t) (he:aD S H (.isNil neg y)=some e):cK P w0 n U g S H a w o e:=by
 have hv:=R.ev hx hu;simp only[aD]at he;generalize qy:AL.ev S y=q at he hv;generalize l7:a.eval x=c at hv
 have run:∀ad l k,c=.slice ad l k->(execOp a.eval o).run P w=.ok (.value (.bool (if neg then !ad.isNone else ad.isNone))) w:=by
  rintro ad l k rfl;have hg:=gk (P:=P) (w:=w) (if neg then .neq else .eql) t x (.const (.slice none 0 0)) (.slice ad l k) (.slice none 0 0) rfl
  have hE:(Op.equal t (.slice ad l k) (.slice none 0 0)).run P w=.ok ad.isNone w:=by
   unfold Op.equal Op.maxDepth Op.equalIn
   cases ad<;>simp[acR ht]
  have Vc:a.eval (.const (.slice none 0 0))=.slice none 0 0:=rfl;cases neg
  .simp only[acI,acW]at ho hg⊢;simp[execOp,ho,l7,Vc,hg,binOp,hE]
  .simp only[ac3]at ho hg⊢;simp[execOp,ho,l7,Vc,hg,binOp,hE]
 cases hv<;>(try cases he;done)
 rename_i h
 cases h<;>simp only at he<;>try cases he
 .exact cK.val R (λt h=>(hd t h).1) (run _ _ _ rfl) (.data _ _ (.lk _)) λ_=>trivial
 .exact cK.val R (λt h=>(hd t h).1) (run _ _ _ rfl) (.data _ _ (.lk _)) λ_=>trivial
 .rename_i oo es b off cap sz cs eT p_ bg h1 hc hr
  refine cK.val R (λt h=>(hd t h).1) (run _ _ _ rfl) (.data _ _ ?_) λ_=>by cases es<;>trivial
  cases es
  .exact .lk _
  .simp only[List.isEmpty_cons,acI,acW,Option.isNone_some,afK]
   cases neg<;>exact .bool _
def Hp (R:Rel P w0 n U g S H a w) {o:Oper} {t el:TypeId} {i:TypeInfo} {e:aQ} (ho:o.op = .buildSlice t 0 #[]) (hd:∀ t,o.dst=some t→t < n∧¬ U t)
  (ep:P.underlying t=some (.slice el)) (hi:P.info? el=some i) (he:aD S H (.empty el)=some e):cK P w0 n U g S H a w o e:=by
 cases he;have hb:Below w.heap.size w (w.alloc (.cells #[] el)):=(adA _ _).alloc (acD _) _;refine⟨.slice (some ⟨w.heap.size,0,none⟩) 0 0,w.alloc (.cells #[] el),g,.inl ?_,rfl,rfl,(R.jR hb).aY o.dst _ _ (λt h=>(hd t h).1) (.data _ _ ?_) λ_ _=>trivial⟩
 .unfold execOp;have hz:(Array.map (λ_:Nat=>(default:Value)) (Array.range 0))=#[]:=ad6 (by simp);simp[ho,Instr.buildSlice,acR ep,sizeOf,typeInfo,hi,Instr.fill,newRow,hz]
 .exact .slice _ [] _ 0 0 0 (λ_=>undef) (adr _) (λ_=>rfl) (λi h=>by simp at h) (λi h=>by simp at h) (λk hk=>by simp at hk) (λi h=>by simp at h)
def Fi (R:Rel P w0 n U g S H a w) {o:Oper} {xt t:TypeId} {dt:TypeDesc} {i:TypeInfo} {z:Value} {zs:List AV} {x:Operand} {y:cz} {e:aQ} (ho:o.op = .typeAssert x xt t true) (hd:∀ t,o.dst=some t→t < n∧¬ U t)
  (ht:P.underlying t=some dt) (BY:∀ms,dt≠.interface ms) (hi:P.info? t=some i) (hz:i.zero=some (.agg z.cells)) (nv:ik z.cells.toList=some zs) (hx:c_ n x=some y) (hu:∀t∈y.tmps,¬U t)
  (he:aD S H (.assert t (.agg zs) y)=some e):cK P w0 n U g S H a w o e:=by
 have hv:=R.ev hx hu;simp only[aD]at he;generalize qy:AL.ev S y=q at he hv;generalize l7:a.eval x=c at hv;have K7:=(gR g.Pr w nv).1;have Ug:RD g.Pr w (.agg zs) (.agg z.cells):=.agg _ _ (by simpa using K7.1) K7.2.2 (λi h h'=>by simpa using K7.2.1 i h (by simpa using h'))
 have two:∀(v:AV)(c:Value)(b:Bool),RD g.Pr w v c->RD g.Pr w (.dR [v,.bool b]) (.tuple #[c,.bool b]):=by
  intro v c b h
  refine .dR _ _ rfl λi hi cQ=>?_
  match i,hi with
  |0,_=>exact h
  |1,_=>exact .bool b
 cases hv<;>(try cases he;done)
 rename_i h
 cases h<;>simp only at he<;>try cases he
 .rename_i t' v c' h
  refine cK.val R (λt h=>(hd t h).1) (c:=if t'=t then .tuple #[c',.bool true]else .tuple #[.agg z.cells,.bool false]) ?_ (.data _ _ ?_) λ_=>by split<;>trivial
  .unfold execOp;simp only[ho,l7,Instr.typeAssert,acK,acR ht,Result.andThen_ok]
   cases dt<;>first|exact absurd rfl (BY _)|skip
   all_goals (split<;>simp[zeroValue,typeInfo,hi,hz])
  .split
   .exact two _ _ _ h
   .exact two _ _ _ Ug
 .refine cK.val R (λt h=>(hd t h).1) (c:=.tuple #[.agg z.cells,.bool false]) ?_ (.data _ _ (two _ _ _ Ug)) λ_=>trivial
  unfold execOp;simp only[ho,l7,Instr.typeAssert,acK,acR ht,Result.andThen_ok]
  cases dt<;>first|exact absurd rfl (BY _)|skip
  all_goals simp[zeroValue,typeInfo,hi,hz]
end
def tH(k:TypeId->Option Nat):List Field->Nat->Option Nat
 |[],acc=>some acc
 |f::fs,acc=>if f.name = "_" \/ f.offset≠acc then none else
  match k f.type with
  |some m=>tH k fs (acc+m)
  |none=>none
def lR(P:Program):Nat->TypeId->Option Nat
 |0,_=>none
 |d+1,t=>match P.underlying t,P.info? t with
  |some (.int .i64),some i=>if i.size=1 then some 1 else none
  |some (.struct fs),some i=>if P.stoodInHeld t=false/\tH (lR P d) fs.toList 0=some i.size then some i.size else none
  |_,_=>none
def fX(l:List Int):Array Value:=(l.map (Value.int .i64)).toArray
def nV(P:Program)(t:TypeId)(l:List Int):Value:=
 match P.underlying t with
 |some (.int _)=>.int .i64 (l.headD 0)
 |_=>.agg (fX l)
section
variable{P:Program}{w:World}
def xM {d:Nat} {t:TypeId} {k:Nat} (h:lR P d t=some k) (l:List Int) (off:Nat) (hl:off+k≤l.length) :
  (part t (fX l) off).run P w=.ok (nV P t ((l.drop off).take k)) w:=by
 cases d with
 |zero=>cases h
 |succ d=>
  simp only[lR]at h;split at h
  .rename_i i hu hi
   split at h<;>cases h
   rename_i hs
   have lA:(isAgg t).run P w=.ok false w:=by
    unfold isAgg;rw[acK,acR hu w];simp
   have av:off<l.length:=by omega
   have hhd:((l.drop off).take 1).headD 0=l[off]:=by
    rw[ad7 av];rfl
   simp only[part,acK,lA,Result.andThen_ok,acI,acW,nV,hu,hhd];simp[fX,av]
  .rename_i fs i hu hi
   split at h<;>cases h
   have lA:(isAgg t).run P w=.ok true w:=by
    unfold isAgg;rw[acK,acR hu w];simp
   simp only[part,acK,lA,Result.andThen_ok,ac3,nV,hu];simp only[sizeOf,typeInfo,acK];simp[fX,aeV,ae8,hi]
  .cases h
def L_(a b:List Int)(k:Nat)(h:a.length=b.length):(a==b)=((a.take k==b.take k)&&(a.drop k==b.drop k)):=by
 rw[adE];simp only[acA,ac7]
 constructor
 .rintro rfl;exact⟨rfl,rfl⟩
 .rintro⟨h1,h2⟩;rw[<-aem k a,<-aem k b,h1,h2]
def xp {d:Nat} (ih:∀ t k,lR P d t=some k→∀ a b:List Int,a.length=k→b.length=k→(Op.equalIn d t (nV P t a) (nV P t b)).run P w = .ok (a==b) w) :
  ∀(fs:List Field)(acc kA:Nat),tH (lR P d) fs acc=some kA->∀l m:List Int,l.length=kA->m.length=kA->
   acc<=kA/\(Op.eqFields d (fX l) (fX m) fs).run P w=.ok (l.drop acc==m.drop acc) w
 |[],acc,kA,h,l,m,hl,hm=>by
  cases h;refine⟨acD _,?_⟩;have e1:l.drop acc=[]:=adU (by omega);have e2:m.drop acc=[]:=adU (by omega);rw[e1,e2];simp[Op.eqFields]
 |f::fs,acc,kA,h,l,m,hl,hm=>by
  simp only[tH]at h;split at h
  case isTrue=>cases h
  rename_i hn;simp only[not_or,ne_eq,aft]at hn;split at h
  case h_2=>cases h
  rename_i k hk;obtain⟨hle,w_⟩:=xp ih fs (acc+k) kA h l m hl hm;refine⟨by omega,?_⟩;have e1:=xM (w:=w) hk l acc (by omega);have e2:=xM (w:=w) hk m acc (by omega);have e3:=ih f.type k hk ((l.drop acc).take k) ((m.drop acc).take k) (by simp;omega) (by simp;omega);simp only[Op.eqFields,ne_eq,hn.1,not_false_eq_true,ac3,hn.2,acK,e1,e2,Result.andThen_ok,e3];rw[L_ (l.drop acc) (m.drop acc) k (by simp;omega)];rw[aeP,aeP];generalize((l.drop acc).take k==(m.drop acc).take k)=q
  cases q with
  |false=>simp
  |true=>simpa using w_
def sQ:∀(d:Nat)(t:TypeId)(k:Nat),lR P d t=some k->∀a b:List Int,a.length=k->b.length=k->(Op.equalIn d t (nV P t a) (nV P t b)).run P w=.ok (a==b) w
 |0,t,k,h,a,b,ha,hb=>by cases h
 |d+1,t,k,h,a,b,ha,hb=>by
  simp only[lR]at h;split at h
  .rename_i i hu hi
   split at h<;>cases h
   match a,ha,b,hb with
   |[x],_,[y],_=>
    simp only[nV,hu];rw[run_equalIn_int w d t .i64 .i64 _ _ hu];simp
  .rename_i fs i hu hi
   split at h<;>cases h
   rename_i hc
   have hf:P.fieldsOf t=fs:=by simp[Program.fieldsOf,hu]
   simp only[nV,hu];rw[run_equalIn_struct w d t _ _ (by rw[hf];exact hu) hc.1,hf];exact(xp (sQ d) fs.toList 0 i.size hc.2 a b ha hb).2
  .cases h
def oY {Pr:Nat→Nat→Prop}:∀ {xs:List AV} {a:List Int},kU xs=some a→∀ {vs:List Value},xs.length=vs.length →
  (∀i (h:i<xs.length)(h':i<vs.length),RD Pr w xs[i] vs[i])->vs=a.map (Value.int .i64)/\a.length=xs.length
 |[],a,h,vs,hl,hr=>by
  cases h;have:vs=[]:=aee.1 hl.symm;subst this;exact⟨rfl,rfl⟩
 |x::xs,a,h,vs,hl,hr=>by
  cases vs with
  |nil=>simp at hl
  |cons v vs=>
   unfold kU at h;split at h
   .rename_i e;cases e
   .rename_i n cs e;cases e;simp only[acE]at h;obtain⟨a',ha,rfl⟩:=h;have h0:=hr 0 (by simp) (by simp);simp only[List.getElem_cons_zero]at h0;cases h0;obtain⟨h1,h2⟩:=oY ha (by simpa using hl) (λi h h'=>hr (i+1) (by simpa using h) (by simpa using h'));rw[h1];exact⟨rfl,by simp[h2]⟩
   .cases h
variable{w0:World}{n:Nat}{U:Nat->Prop}{g:Gh}{S:an}{H:aq}{a:Act}
def EL (R:Rel P w0 n U g S H a w) {o:Oper} {neg:Bool} {k:Nat} {t t':TypeId} {fs:Array Field} {x1 x2:Operand} {y1 y2:cz} {e:aQ} (ho:o.op = .binOp (if neg then .neq else .eql) t x1 x2 t') (hd:∀ t,o.dst=some t→t < n∧¬ U t)
  (ep:P.underlying t=some (.struct fs)) (hk:lR P 10000 t=some k) (Cc:P.eqGuardType P.depth t=false) (mC:c_ n x1=some y1) (k_:c_ n x2=some y2) (oq:∀t∈y1.tmps,¬U t) (n0:∀t∈y2.tmps,¬U t)
  (he:aD S H (.eqs neg k y1 y2)=some e):cK P w0 n U g S H a w o e:=by
 have fa:=R.ev mC oq;have eD:=R.ev k_ n0;simp only[aD]at he;generalize AL.ev S y1=p1 at he fa;generalize AL.ev S y2=p2 at he eD;generalize jm:a.eval x1=c1 at fa;generalize jv:a.eval x2=c2 at eD;split at he
 case h_2=>cases he
 rename_i xs ys;split at he
 case h_2=>cases he
 rename_i zZ bs ha hb
 split at he<;>cases he
 rename_i hlen;have q1:=fa.dL rfl;have q2:=eD.dL rfl;cases q1;rename_i vs hl h1 hr;cases q2;rename_i us nJ Gv jd;obtain⟨e1,_⟩:=oY (vs:=vs.toList) ha (by simpa using hl) (λi h h'=>by simpa using hr i h (by simpa using h'));obtain⟨e2,_⟩:=oY (vs:=us.toList) hb (by simpa using nJ) (λi h h'=>by simpa using jd i h (by simpa using h'))
 have f1:vs=fX zZ:=by rw[fX,<-e1]
 have f2:us=fX bs:=by rw[fX,<-e2]
 subst f1 f2;have hE:=sQ (P:=P) (w:=w) 10000 t k hk zZ bs hlen.1 hlen.2;simp only[nV,ep]at hE;have hg:=run_eqGuard_agg w (if neg then .neq else .eql) t x1 x2 (fX zZ) (fX bs) Cc
 refine cK.val R (λt h=>(hd t h).1) (c:=.bool (if neg then zZ !=bs else zZ==bs)) ?_ (.data _ _ (.bool _)) λ_=>trivial
 cases neg with
 |true=>
  simp only[ac3]at ho hg⊢;simp[execOp,ho,jm,jv,hg,run_neq_struct,hE,bne,acK]
 |false=>
  simp only[acI,acW]at ho hg⊢;simp[execOp,ho,jm,jv,hg,run_eql_struct,hE,acK]
end
section
variable{P:Program}{w0:World}{n:Nat}{U:Nat->Prop}{g:Gh}{S:an}{H:aq}{a:Act}{w:World}
def Hc (R:Rel P w0 n U g S H a w) {o:Oper} {t el:TypeId} {len:Nat} {it ie:TypeInfo} {z:Value} {ps:Array (Nat×Operand)} {zs:List AV} {qs:List (Nat×Nat×cz)} {e:aQ} (ho:o.op = .build t ps) (hd:∀ t,o.dst=some t→t < n∧¬ U t)
  (hi:P.info? t=some it) (ep:P.underlying t=some (.array len el)) (hz:it.zero=some z) (GG:P.info? el=some ie) (nv:ik z.cells.toList=some zs) (hq:rr n (λi=>some (i*ie.size,ie.size)) ps.toList=some qs)
  (hu:∀q∈qs,∀t∈q.2.2.tmps,¬U t) (he:aD S H (.build (zs.map AV.aH) qs)=some e):cK P w0 n U g S H a w o e:=by
 simp only[aD,acE]at he;obtain⟨fj,hc,rfl⟩:=he;have Ma:=(gR g.Pr w nv).1
 have Qz:nQ g.Pr w (zs.map AV.aH) z.cells:=by
  refine⟨by simpa using Ma.1,λi h h'=>?_,λi h=>?_⟩
  .simp only[acC]at h;have:=(Ma.2.1 i h (by simpa using h')).aH;simpa using this
  .simp only[acC]at h;have:=Ma.2.2 i h;simp only[acM];exact(AV.nz _).trans this
 obtain⟨kz,h1,h2⟩:=tt R hq hu Qz hc
 have hb:P.built t (ps.map λ(i,x)=>(i,a.eval x)).toList=some kz:=by
  unfold Program.built;simp only[hi,ep,hz,GG,afw];exact h1
 refine cK.val R (λt h=>(hd t h).1) (c:=.agg kz) ?_ (.data _ _ (.agg _ _ h2.1 h2.2.2 h2.2.1)) λ_=>trivial
 unfold execOp;simp only[ho,acK,agr w t _ kz hb,Result.andThen_ok]
 rfl
def Hd {Pr:Nat→Nat→Prop} {ty:TypeId} {i:TypeInfo} {nG:TypeDesc} (hi:P.info? ty=some i) (hu:P.underlying ty=some nG) {cs:List AV} {vs:Array Value} {off:Nat} {v:AV}
  (hr:RD Pr w (.agg cs) (.agg vs)) (he:b0 (eh nG) i.size (cs.drop off)=some v):∃c,(part ty vs off).run P w=.ok c w/\RD Pr w v c:=by
 cases hr;rename_i h1 hl hr
 have lA:(isAgg ty).run P w=.ok (eh nG) w:=by
  unfold isAgg;rw[acK,acR hu w]
  cases nG<;>simp[eh]
 generalize eh nG=q at he lA
 cases q with
 |true=>
  simp only[b0,ac3,adg]at he;split at he
  case isFalse=>cases he
  rename_i hle;cases he;refine⟨.agg (vs.extract off (off+i.size)),by simp[part,acK,lA,sizeOf,typeInfo,hi],?_⟩
  refine .agg _ _ (by simp;omega) (λk hk=>?_) λk hk dN=>?_
  .simp only[acC,adf,adg]at hk;simp only[acM,ae3,adV];have:=h1 (off+k) (by omega);exact(AV.nz _).trans this
  .simp only[acC,adf,adg]at hk;have:=(hr (off+k) (by omega) (by omega)).aH;simpa using this
 |false=>
  simp only[b0,acI,acW,acE]at he;obtain⟨v0,Ou,rfl⟩:=he;simp only[aeX,Nat.add_zero]at Ou;obtain⟨h0,rfl⟩:=acT.1 Ou
  have hv:off<vs.size:=by omega
  exact⟨vs[off],by simp[part,acK,lA,hv],(hr off h0 hv).aH⟩
def F6 (R:Rel P w0 n U g S H a w) {o:Oper} {t el:TypeId} {len:Nat} {ie:TypeInfo} {nG:TypeDesc} {x1 x2:Operand} {y1 y2:cz} {e:aQ} (ho:o.op = .index t x1 x2) (hd:∀ t,o.dst=some t→t < n∧¬ U t)
  (ep:P.underlying t=some (.array len el)) (hi:P.info? el=some ie) (V8:P.underlying el=some nG) (mC:c_ n x1=some y1) (k_:c_ n x2=some y2) (oq:∀t∈y1.tmps,¬U t) (n0:∀t∈y2.tmps,¬U t)
  (he:aD S H (.lK (eh nG) len ie.size y1 y2)=some e):cK P w0 n U g S H a w o e:=by
 have fa:=R.ev mC oq;have eD:=R.ev k_ n0;simp only[aD]at he;generalize AL.ev S y1=p1 at he fa;generalize AL.ev S y2=p2 at he eD;generalize jm:a.eval x1=c1 at fa;generalize jv:a.eval x2=c2 at eD;split at he
 case h_2=>cases he
 rename_i cs k;split at he
 case isFalse=>cases he
 rename_i hk;simp only[acE]at he;obtain⟨v,hv,rfl⟩:=he;have q1:=fa.dL rfl;have q2:=eD.dL rfl;cases q2;have q1':=q1;cases q1;obtain⟨c,h1,h2⟩:=Hd (P:=P) hi V8 q1' hv
 refine cK.val R (λt h=>(hd t h).1) (c:=c) ?_ (.data _ _ h2) λ_=>?_
 .simp only[execOp,ho,jm,jv,Instr.index,acK];simp[asIntOf,acR ep,hk,sizeOf,typeInfo,hi,acK,h1]
 .simp only[b0]at hv;split at hv
  .split at hv<;>cases hv;trivial
  .simp only[acE]at hv;obtain⟨u,_,rfl⟩:=hv;exact gj _ _ _
def yZ{Pr:Nat->Nat->Prop}:∀{es:List AV}{l:List UInt8},bytesOf es=some l->l.length=es.length/\∀j (h:j<es.length)(h':j<l.length),es[j]=.int .u8 (l[j].toNat:Int)
 |[],l,h=>by cases h;exact⟨rfl,λj h=>by simp at h⟩
 |x::es,l,h=>by
  unfold bytesOf at h;split at h
  .rename_i e;cases e
  .rename_i m cs e;cases e;split at h
   case isFalse=>cases h
   rename_i hm;simp only[acE]at h;obtain⟨l',hl,rfl⟩:=h;obtain⟨h1,h2⟩:=yZ (Pr:=Pr) hl;refine⟨by simp[h1],λj hj dH=>?_⟩
   cases j with
   |zero=>
    simp only[List.getElem_cons_zero]
    have:((UInt8.ofNat m.toNat).toNat:Int)=m:=by
     have h3:m.toNat<256:=by omega
     simp[UInt8.toNat_ofNat',Nat.mod_eq_of_lt h3];omega
    rw[this]
   |succ j=>simpa using h2 j (by simpa using hj) (by simpa using dH)
  .cases h
def KW (R:Rel P w0 n U g S H a w) {o:Oper} {s d el:TypeId} {x:Operand} {y:cz} {e:aQ} (ho:o.op = .convert s d x) (hd:∀ t,o.dst=some t→t < n∧¬ U t)
  (hs:P.underlying s=some (.slice el)) (uJ:P.underlying el=some (.int .u8)) (B_:P.underlying d=some .string) (hx:c_ n x=some y) (hu:∀t∈y.tmps,¬U t)
  (he:aD S H (.v_ y)=some e):cK P w0 n U g S H a w o e:=by
 have hv:=R.ev hx hu;simp only[aD]at he;generalize AL.ev S y=p at he hv;generalize hc:a.eval x=c at hv;split at he
 case h_2=>cases he
 rename_i ow es;simp only[acE]at he;obtain⟨l,hl,rfl⟩:=he;obtain⟨hlen,ib⟩:=yZ (Pr:=g.Pr) hl;have q:=hv.dL rfl
 cases q with
 |gx=>
  have:l=[]:=aee.1 (by simpa using hlen);subst this
  refine cK.val R (λt h=>(hd t h).1) (c:=.string ByteArray.empty) ?_ (.data _ _ (.str [])) λ_=>trivial
  simp[execOp,ho,hc,run_convert_bytes_nil w s el hs uJ 0 0 d B_]
 |ja _ a0=>
  have:l=[]:=aee.1 (by simpa using hlen);subst this
  refine cK.val R (λt h=>(hd t h).1) (c:=.string ByteArray.empty) ?_ (.data _ _ (.str [])) λ_=>trivial
  have JM:(convert s d (.slice (some a0) 0 0)).run P w=.ok (.string ByteArray.empty) w:=by
   rw[run_convert_bytes_string w s d el _ 0 0 hs uJ B_];simp[Conv.bytesToString,loadCells,loadCellsFrom]
  simp[execOp,ho,hc,JM]
 |slice _ _ b off cap size cs eT p_ bg h1 dX hr=>
  refine cK.val R (λt h=>(hd t h).1) (c:=.string ⟨l.toArray⟩) ?_ (.data _ _ (.str l)) λ_=>trivial
  have JM:=run_convert_bytes_back (P:=P) w s d el ⟨b,off,none⟩ cap l hs uJ B_ (λj hj=>by
   have dH:j<es.length:=by omega
   have e1:=ib j dH hj;have xO:=bg j dH
   have gr:(es[j]).cells.length=1:=by rw[e1];rfl
   have IJ:size=1:=by rw[<-xO,gr]
   subst IJ;have h2:=dX j (by omega);have h3:=hr j dH 0 (by rw[gr];omega)
   have h4:(es[j]).cells[0]'(by rw[gr];omega)=.int .u8 (l[j].toNat:Int):=by
    have:∀(v:AV)(hh:0<v.cells.length)(q:AV),v=q->(h':0<q.cells.length)->v.cells[0]=q.cells[0]:=by rintro v hh q rfl _;rfl
    rw[this _ _ _ e1 (by simp[AV.cells])]
    rfl
   rw[h4]at h3;simp only[adY,Nat.add_zero]at h3;rw[adt,h2.2];generalize cs j=u at h3;cases h3
   rfl)
  rw[hlen]at JM;simp[execOp,ho,hc,JM]
end
section
variable{P:Program}{w:World}
def sf{α:Type}(f:α->PUnit->Sem (ForInStep PUnit)):∀(l:List α),(∀x∈l,(f x PUnit.unit).run P w=.ok (ForInStep.yield PUnit.unit) w)->(forIn l PUnit.unit f:Sem PUnit).run P w=.ok PUnit.unit w
 |[],_=>by simp
 |x::l,h=>by
  simp only[List.forIn_cons,acK,h x acS,Result.andThen_ok]
  exact sf f l λy hy=>h y (acH _ hy)
def zb{k:TypeId->Option Nat}:∀{fs:List Field}{acc kA:Nat},tH k fs acc=some kA->acc<=kA/\∀f∈fs,∃m,k f.type=some m/\f.offset+m<=kA
 |[],acc,kA,h=>by cases h;exact⟨acD _,λ_ h=>by cases h⟩
 |f::fs,acc,kA,h=>by
  simp only[tH]at h;split at h
  case isTrue=>cases h
  rename_i hn;simp only[not_or,ne_eq,aft]at hn;split at h
  case h_2=>cases h
  rename_i m hm;obtain⟨h1,h2⟩:=zb h;refine⟨by omega,λf' Aa=>?_⟩;rcases adl.1 Aa with rfl|Aa
  .exact⟨m,hm,by omega⟩
  .exact h2 f' Aa
def sy(b:Bool):∀(d:Nat)(t:TypeId)(k:Nat),lR P d t=some k->∀a:List Int,a.length=k->(Instr.checkKey b d t (nV P t a)).run P w=.ok () w
 |0,t,k,h,a,ha=>by cases h
 |d+1,t,k,h,a,ha=>by
  simp only[lR]at h;split at h
  .rename_i i hu hi;simp[Instr.checkKey,acR hu,nV,hu]
  .rename_i fs i hu hi
   split at h<;>cases h
   rename_i hc;obtain⟨_,hm⟩:=zb hc.2;simp only[Instr.checkKey,acK,acR hu,Result.andThen_ok,nV,hu];rw[<-Array.forIn_toList];rw[sf (P:=P) (w:=w)]
   .simp
   .intro f hf;obtain⟨m,h1,h2⟩:=hm f hf;rw[Sem.run_ite];split
    .simp only[acK,xM (w:=w) h1 a f.offset (by omega),Result.andThen_ok,sy b d f.type m h1 ((a.drop f.offset).take m) (by simp;omega),Sem.run_pure]
    .simp
  .cases h
def kJ {kt:TypeId} {fs:Array Field} {k:Nat} (hu:P.underlying kt=some (.struct fs)) (hk:lR P 10000 kt=some k) {Pr:Nat→Nat→Prop} (key:List Int) (hl:key.length=k) :
  ∀(ks vs:List AV)(es:List MapEntry)(i:Nat)(r:Option AV),ks.length=es.length->vs.length=es.length->(∀j (h:j<ks.length)(h':j<es.length),RD Pr w ks[j] (es[j]).key)->(∀j (h:j<vs.length)(h':j<es.length),RD Pr w vs[j] (es[j]).val)->
   mO key ks vs=some r->∃q,(Instr.findAsking kt (.agg (fX key)) es i).run P w=.ok q w/\(match r,q with
    |none,none=>True
    |some v,some (_,c)=>RD Pr w v c
    |_,_=>False)
 |[],vs,es,i,r,h1,h2,_,_,h=>by
  have:es=[]:=aee.1 h1.symm;subst this;cases h;exact⟨none,by simp[Instr.findAsking],trivial⟩
 |kk::ks,vs,[],i,r,h1,_,_,_,_=>by simp at h1
 |kk::ks,[],e::es,i,r,_,h2,_,_,_=>by simp at h2
 |kk::ks,v::vs,e::es,i,r,h1,h2,hr,jd,h=>by
  unfold mO at h;split at h
  .rename_i e1;cases e1
  .rename_i c ks' v' kz e1 e2;cases e1;cases e2;split at h
   case h_2=>cases h
   rename_i m hm;split at h
   case isTrue=>cases h
   rename_i zY;simp only[ne_eq,aft]at zY;have h0:=hr 0 (by simp) (by simp);simp only[List.getElem_cons_zero]at h0;have BF:=h0;generalize U8:e.key=ek at h0;cases h0;rename_i us h3 h4 h5;obtain⟨e3,_⟩:=oY (vs:=us.toList) hm (by simpa using h3) (λi h h'=>by simpa using h5 i h (by simpa using h'))
   have f1:us=fX m:=by rw[fX,<-e3]
   have hE:=sQ (P:=P) (w:=w) 10000 kt k hk key m hl (by omega);simp only[nV,hu]at hE;rw[<-f1]at hE
   have hE':(Op.equal kt (.agg (fX key)) e.key).run P w=.ok (key==m) w:=by rw[U8];exact hE
   split at h
   .rename_i hb;cases h;exact⟨some (i,e.val),by simp[Instr.findAsking,hE',hb],jd 0 (by simp) (by simp)⟩
   .rename_i hb;obtain⟨q,q1,q2⟩:=kJ hu hk key hl ks vs es (i+1) r (by simpa using h1) (by simpa using h2) (λj h h'=>hr (j+1) (by simpa using h) (by simpa using h')) (λj h h'=>jd (j+1) (by simpa using h) (by simpa using h')) h;exact⟨q,by simp[Instr.findAsking,hE',hb,q1],q2⟩
  .cases h
variable{w0:World}{n:Nat}{U:Nat->Prop}{g:Gh}{S:an}{H:aq}{a:Act}
def E5 (R:Rel P w0 n U g S H a w) {o:Oper} {t kt el:TypeId} {fs:Array Field} {k:Nat} {ie:TypeInfo} {z:Value} {zs:List AV} {x1 x2:Operand} {y1 y2:cz} {e:aQ} (ho:o.op = .lookup t x1 x2 true) (hd:∀ t,o.dst=some t→t < n∧¬ U t)
  (ep:P.underlying t=some (.map kt el)) (hu:P.underlying kt=some (.struct fs)) (hk:lR P 10000 kt=some k) (hi:P.info? el=some ie) (hz:ie.zero=some (.agg z.cells)) (nv:ik z.cells.toList=some zs)
  (mC:c_ n x1=some y1) (k_:c_ n x2=some y2) (oq:∀t∈y1.tmps,¬U t) (n0:∀t∈y2.tmps,¬U t)
  (he:aD S H (.lookup k (.agg zs) y1 y2)=some e):cK P w0 n U g S H a w o e:=by
 have fa:=R.ev mC oq;have eD:=R.ev k_ n0;simp only[aD]at he;generalize AL.ev S y1=p1 at he fa;generalize AL.ev S y2=p2 at he eD;generalize jm:a.eval x1=c1 at fa;generalize jv:a.eval x2=c2 at eD;have K7:=(gR g.Pr w nv).1;have Ug:RD g.Pr w (.agg zs) (.agg z.cells):=.agg _ _ (by simpa using K7.1) K7.2.2 (λi h h'=>by simpa using K7.2.1 i h (by simpa using h'))
 have two:∀(v:AV)(c:Value)(b:Bool),RD g.Pr w v c->RD g.Pr w (.dR [v,.bool b]) (.tuple #[c,.bool b]):=by
  intro v c b h
  refine .dR _ _ rfl λi hi cQ=>?_
  match i,hi with
  |0,_=>exact h
  |1,_=>exact .bool b
 split at he
 case h_2=>cases he
 rename_i ks vs c;split at he
 case h_2=>cases he
 rename_i key aar;split at he
 case isFalse=>cases he
 rename_i hl;have q2:=eD.dL rfl;cases q2;rename_i us h3 h4 h5;obtain⟨e3,_⟩:=oY (vs:=us.toList) aar (by simpa using h3) (λi h h'=>by simpa using h5 i h (by simpa using h'))
 have f1:us=fX key:=by rw[fX,<-e3]
 subst f1
 have uP:(match P.underlying kt with|some (.array _ _)|some (.struct _)=>true|_=>false)=true:=by rw[hu]
 have q1:=fa.dL rfl
 obtain ⟨es,mb,KD,jD,E',hk4⟩:∃ es:Array MapEntry,(∀ K:Array MapEntry→Sem Value,((do
    let es<-match c1 with
     |.map none=>pure #[]
     |.map (some r)=>do
      let .map es _ <-getObj r | stuck "Lookup: map expected"
      pure es
     |_=>stuck "Lookup: map expected"
    K es):Sem Value).run P w=(K es).run P w)/\ks.length=es.size/\vs.length=es.size/\(∀j (h:j<ks.length)(h':j<es.size),RD g.Pr w ks[j] (es[j]).key)/\(∀j (h:j<vs.length)(h':j<es.size),RD g.Pr w vs[j] (es[j]).val):=by
  cases q1 with
  |map _ _ b es clock hb hm hk hv hr jd=>
   exact⟨es,λK=>by simp[acK,ae0 hm],hk,hv,hr,jd⟩
  |r_=>exact⟨#[],λK=>by simp,rfl,rfl,λj h=>by simp at h,λj h=>by simp at h⟩
 have wh:=sy (P:=P) (w:=w) es.isEmpty 10000 kt k hk key hl;simp only[nV,hu]at wh
 have main:∀ r,mO key ks vs=some r→(execOp a.eval o).run P w = .ok (.value (match r with | some _ => .tuple #[(match (Instr.findAsking kt (.agg (fX key)) es.toList 0).run P w with | .ok (some (_,c)) _=>c | _=>undef),.bool true] | none => .tuple #[.agg z.cells,.bool false])) w ∧
   (∀v,r=some v->RD g.Pr w v (match(Instr.findAsking kt (.agg (fX key)) es.toList 0).run P w with|.ok (some (_,c)) _=>c|_=>undef)):=by
  intro r hr;obtain⟨q,q1,q2⟩:=kJ (w:=w) (Pr:=g.Pr) hu hk key hl ks vs es.toList 0 r (by simpa using KD) (by simpa using jD) (λj h h'=>by simpa using E' j h (by simpa using h')) (λj h h'=>by simpa using hk4 j h (by simpa using h')) hr;have uA:=(run_findKey_eq (P:=P) (w:=w) uP (.agg (fX key)) es.toList).trans q1
  have cM:(Instr.lookup t c1 (.agg (fX key)) true).run P w=.ok (match q with|some (_,v)=>.tuple #[v,.bool true]|none=>.tuple #[.agg z.cells,.bool false]) w:=by
   unfold Instr.lookup;simp only[acK,acR ep,Result.andThen_ok]
   have:=mb (λes=>do
    Instr.checkKey es.isEmpty 10000 kt (.agg (fX key))
    let(v,ok)<-match<-Instr.findKey kt (.agg (fX key)) es.toList with
     |some (_,v)=>pure (v,true)
     |none=>pure (<-zeroValue el,false)
    pure (if true=true then .tuple #[v,.bool ok]else v))
   simp only[acK]at this;refine this.trans ?_;simp only[wh,Result.andThen_ok,uA]
   cases q with
   |none=>simp[zeroValue,typeInfo,hi,hz]
   |some p=>simp
  refine⟨?_,?_⟩
  .unfold execOp;simp only[ho,jm,jv,acK,cM,Result.andThen_ok,q1]
   cases r<;>cases q<;>first|exact q2.elim|rfl
  .rintro v rfl;rw[q1]
   cases q with
   |none=>exact q2.elim
   |some p=>exact q2
 split at he
 .rename_i v hv;cases he;obtain⟨m1,m2⟩:=main _ hv
  exact cK.val R (λt h=>(hd t h).1) m1 (.data _ _ (two _ _ _ (m2 v rfl).aH)) λ_=>trivial
 .rename_i hv;cases he;obtain⟨m1,m2⟩:=main _ hv
  exact cK.val R (λt h=>(hd t h).1) m1 (.data _ _ (two _ _ _ Ug)) λ_=>trivial
 .cases he
end
section
variable{P:Program}{w0:World}{n:Nat}{U:Nat->Prop}{g:Gh}{S:an}{H:aq}{a:Act}{w:World}
def O8{Pr:Nat->Nat->Prop}{al:Nat->Option Nat}{v:AV}{c:Value}(h:RV Pr al w v c)(hf:zy v=true):c.cells=#[c]:=by
 cases h with
 |data v c h=>
  cases h with
  |val c hc=>cases c<;>first|rfl|cases hc
  |_=>cases hf
 |func=>rfl
 |box=>cases hf
 |f_=>cases hf
 |bm=>cases hf
def F_ (R:Rel P w0 n U g S H a w) {o:Oper} {t el:TypeId} {len:Nat} {it ie:TypeInfo} {z:Value} {ps:Array (Nat×Operand)} {xs:List Operand} {ys:List cz} {e:aQ} (ho:o.op = .build t ps) (hd:∀ t,o.dst=some t→t < n∧¬ U t)
  (hi:P.info? t=some it) (ep:P.underlying t=some (.array len el)) (hz:it.zero=some z) (GG:P.info? el=some ie) (hs:ie.size=1) (nv:z.cells.size=xs.length)
  (jo:ps.toList=(xs.zipIdx 0).map λx=>(x.2,x.1)) (hx:nY n xs=some ys) (hu:∀y∈ys,∀t∈y.tmps,¬U t) (he:aD S H (.mZ ys)=some e):cK P w0 n U g S H a w o e:=by
 simp only[aD]at he;split at he
 case isFalse=>cases he
 rename_i e_;cases he;simp only[acN]at e_;obtain⟨l1,r1⟩:=R.Jw hx hu
 have dX:∀j (h:j<xs.length),(a.eval xs[j]).cells=#[a.eval xs[j]]:=λj h=>
  O8 (r1 j (by omega) h) (e_ _ (acZ.2 ⟨_,acy (by omega),rfl⟩))
 have La:=Great.fill_whole (s:=1) (by omega) (xs.map a.eval) z.cells (λv hv=>by
  obtain⟨x,hx,rfl⟩:=acZ.1 hv;obtain⟨j,hj,rfl⟩:=adm hx
  rw[dX j hj];rfl) (by simp[nv])
 have Gt:(ps.map λ(i,x)=>(i,a.eval x)).toList=((xs.map a.eval).zipIdx 0).map λx=>(x.2,x.1):=by
  rw[afw,jo];simp[List.zipIdx_map]
 have Ls:((xs.map a.eval).flatMap λv=>v.cells.toList)=xs.map a.eval:=by
  have:∀l:List Operand,(∀x∈l,(a.eval x).cells=#[a.eval x])->((l.map a.eval).flatMap λv=>v.cells.toList)=l.map a.eval:=by
   intro l
   induction l with
   |nil=>intro _;rfl
   |cons x l ih=>intro h;simp only[ac5,ad4,h x acS,ih λy hy=>h y (acH _ hy)];rfl
  exact this xs λx hx=>by obtain⟨j,hj,rfl⟩:=adm hx;exact dX j hj
 have hb:P.built t (ps.map λ(i,x)=>(i,a.eval x)).toList=some (xs.map a.eval).toArray:=by
  unfold Program.built;simp only[hi,ep,hz,GG,hs];rw[Gt,La,Ls]
 refine cK.val R (λt h=>(hd t h).1) (c:=.agg (xs.map a.eval).toArray) ?_ (.f_ _ _ (by simp[l1]) (λi h h'=>?_)) λ_=>trivial
 .unfold execOp;simp only[ho,acK,agr w t _ _ hb,Result.andThen_ok]
  rfl
 .simp only[acC]at h;have:=r1 i h (by simpa using h');simpa using this
def FB (R:Rel P w0 n U g S H a w) {o:Oper} {t el:TypeId} {len:Nat} {ie:TypeInfo} {nG:TypeDesc} {x1 x2:Operand} {y1 y2:cz} {e:aQ} (ho:o.op = .index t x1 x2) (hd:∀ t,o.dst=some t→t < n∧¬ U t)
  (ep:P.underlying t=some (.array len el)) (hi:P.info? el=some ie) (hs:ie.size=1) (V8:P.underlying el=some nG) (hag:eh nG=false) (mC:c_ n x1=some y1) (k_:c_ n x2=some y2) (oq:∀t∈y1.tmps,¬U t) (n0:∀t∈y2.tmps,¬U t)
  (he:aD S H (.ng len y1 y2)=some e):cK P w0 n U g S H a w o e:=by
 have fa:=R.ev mC oq;have eD:=R.ev k_ n0;simp only[aD]at he;generalize AL.ev S y1=p1 at he fa;generalize AL.ev S y2=p2 at he eD;generalize jm:a.eval x1=c1 at fa;generalize jv:a.eval x2=c2 at eD;split at he
 case h_2=>cases he
 rename_i fs k;split at he
 case isFalse=>cases he
 rename_i hk;split at he
 case h_2=>cases he
 rename_i v hv;split at he
 case isFalse=>cases he
 rename_i hf;cases he;obtain⟨h0,rfl⟩:=acT.1 hv;have q2:=eD.dL rfl;cases q2
 cases fa with
 |data _ _ hh=>cases hh
 |f_ _ vs h1 hr=>
  have av:k.toNat<vs.size:=by omega
  have lA:(isAgg el).run P w=.ok false w:=by
   unfold isAgg;rw[acK,acR V8 w]
   cases nG<;>simp[eh]at hag⊢
  refine cK.val R (λt h=>(hd t h).1) (c:=vs[k.toNat]) ?_ (hr _ h0 av) λ_=>?_
  .simp only[execOp,ho,jm,jv,Instr.index,acK];simp[asIntOf,acR ep,hk,sizeOf,typeInfo,hi,hs,acK,part,lA,av]
  .generalize fs[k.toNat]=u at hf
   cases u<;>first|trivial|cases hf
def vt{v:AV}(h:v.one=true):v.cells=[v]:=by
 cases v<;>first|rfl|cases h
def Ff (R:Rel P w0 n U g S H a w) {o:Oper} {t el:TypeId} {len:Nat} {i:TypeInfo} {x:Operand} {y:cz} {e:aQ} (ho:o.op = .slice t x none none none) (hd:∀ t,o.dst=some t→t < n∧¬ U t)
  (ep:P.underlying t=some (.array len el)) (Gk:P.info? el=some i) (hx:c_ n x=some y) (hu:∀t∈y.tmps,¬U t)
  (he:aD S H (.ou len y)=some e):cK P w0 n U g S H a w o e:=by
 have hv:=R.ev hx hu;simp only[aD]at he;generalize qy:AL.ev S y=q at he hv;generalize l7:a.eval x=c at hv;split at he
 case h_2=>cases he
 rename_i cs;split at he
 case isFalse=>cases he
 rename_i hlen;cases he;have q2:=hv.dL rfl
 cases q2 with
 |ref _ b off vs h1 hc hr=>
  have hk:(execOp a.eval o).run P w=.ok (.value (.slice (some ⟨b,off,none⟩) len len)) w:=by
   unfold execOp;simp only[ho,l7,Option.map_none,Instr.sliceAt,acK,acR ep]
   by_cases h0:len=0
   .subst h0;simp[Instr.sureAddr,Instr.sliceBounds,acK,sizeOf,typeInfo,Gk]
   .simp[Instr.sureAddr,Instr.sliceBounds,acK,sizeOf,typeInfo,Gk,Addr.add]
  refine cK.val R (λt h=>(hd t h).1) hk (.data _ _ ?_) λ_=>trivial
  rw[<-hlen];refine .slice .view cs b off cs.length 1 vs (acD _) (λh=>by cases h) (λi h=>by rw[vt (h1 i h)];rfl) (λi h j hj=>?_) (λk hk=>hc k (by omega)) (λi h j hj=>?_)
  .have e:=vt (h1 i h)
   have:((cs[i]).cells[j])=cs[i]:=by
    have dH:j<[cs[i]].length:=by rw[<-e];exact hj
    have:j=0:=by simp at dH;omega
    subst this;simp only[e];rfl
   rw[this];exact h1 i h
  .have e:=vt (h1 i h)
   have dH:j<[cs[i]].length:=by rw[<-e];exact hj
   have Bl:j=0:=by simp at dH;omega
   subst Bl
   have:((cs[i]).cells[0])=cs[i]:=by simp only[e];rfl
   rw[this,adY,Nat.add_zero];exact hr i h
def Ld(P:Program)(name:String)(t:TypeId):Option Nat:=
 match P.info? t with
 |some i=>match P.underlying t with
  |some (.struct _)=>match i.methods.find? (·.name==name)with
   |some m=>if m.path.isEmpty=true then match m.func with
    |some (f,false)=>some f
    |_=>none
    else none
   |none=>none
  |_=>none
 |none=>none
def Im(P:Program)(name:String):List (TypeId×Nat):=(List.range P.types.size).filterMap λt=>(Ld P name t).map λk=>(t,k)
def yN{t k:Nat}:∀{l:List (Nat×Nat)},l.lookup t=some k->(t,k)∈l
 |[],h=>by cases h
 |(a,b)::l,h=>by
  rw[List.lookup_cons]at h;split at h
  .rename_i he;cases h;simp only[ac7]at he;subst he;exact acS
  .exact acH _ (yN h)
def L6{P:Program}{name:String}{t k:Nat}(h:(Im P name).lookup t=some k):Ld P name t=some k:=by
 have h1:=yN h;simp only[Im,aeC,acE,aeW]at h1;obtain⟨a,_,b,h2,rfl,rfl⟩:=h1;exact h2
def Jy{P:Program}{name:String}{t k:Nat}{v:Value}{w:World}(h:(Im P name).lookup t=some k):(method (P.types.size+Made.depth) t v name).run P w=.ok (k,v) w:=by
 have h:=L6 h;unfold Ld at h;split at h
 case h_2=>cases h
 rename_i i hi;split at h
 case h_2=>cases h
 rename_i fs ep;split at h
 case h_2=>cases h
 rename_i m hm;split at h
 case isFalse=>cases h
 rename_i hp;split at h
 case h_2=>cases h
 rename_i f hf;cases h;show(method (P.types.size+99+1) t v name).run P w=_
 have Cw:m.path.toList=[]:=by simpa using hp
 generalize P.types.size+99=d;simp[method,typeInfo,hi,hm,Cw,hf,follow,receiverAt,acR ep,Place.get,acK]
end
inductive eE where
 |ret (v:AV)|panic (v:AV)
def nZ(base:Nat)(old:Nat->Nat->Prop)(hi:Nat->Nat)(b k:Nat):Prop:=(b<base/\old b k)\/(base<=b/\k<hi b)
def xu(P:Program)(base:Nat)(hi:Nat->Nat)(w:World):AV->Value->Prop
 |.slice (.own e) es,c=>∃i xs b,P.info? e=some i/\w.ownsRow base e i.size c es.length xs/\c.ownBlock=some b/\hi b=es.length*i.size
 |_,_=>True
def Ends(P:Program)(old:Nat->Nat->Prop)(w:World)(out:eE)(e:Ending)(w':World):Prop:=
 Below w.heap.size w w'/\∃hi:Nat->Nat,(∀b,w'.heap.size<=b->hi b=0)/\
  match out with
  |.ret v=>∃c,e=.returned c/\RV (nZ w.heap.size old hi) (λ_=>none) w' v c/\xu P w.heap.size hi w' v c
  |.panic v=>∃c,e=.panicked [{ v:=c,recovered:=false }]/\RD (nZ w.heap.size old hi) w' v c
def AC(P:Program)(GI:World->Prop)(f:Nat)(args:List AV)(out:eE):Prop:=
 ∀(w:World)(old:Nat->Nat->Prop)(bH:Array Value),GI w->args.length=bH.size->
  (∀i (h:i<args.length)(h':i<bH.size),RV old (λ_=>none) w args[i] bH[i])->Calls P f bH w (Ends P old w out)
def gM(H:aq):AV->AV
 |.box i off=>match H i with|some cs=>.ref ((cs.drop off).map AV.cT)|none=>.bm
 |.func ..|.f_ _=>.bm
 |v=>v.vw
def fz(H:aq):AV->AV
 |.func fn first cap=>.func fn (first.map (gM H)) (cap.map (gM H))
 |v=>gM H v
def p9:AV->Bool
 |.box ..=>true
 |_=>false
def da:AV->Bool
 |.box ..=>true
 |.func _ first cap=>first.any p9||cap.any p9
 |_=>false
def gQ:AV->Bool
 |.bool _|.lk|.int ..|.str _=>true
 |_=>false
def ui:AV->Bool
 |.dR vs=>vs.all gQ
 |v=>gQ v
def eE.ui:eE->Bool
 |.ret v=>Go.AL.ui v
 |.panic _=>false
def Lp{v:AV}(h:ui v=true):v.bW=true:=by cases v<;>first|rfl|cases h
def RD.gQ{Pr eC:Nat->Nat->Prop}{w w':World}{v:AV}{c:Value}(h:RD Pr w v c)(hs:Go.AL.gQ v=true):RD eC w' v c:=by
 cases h<;>first|(cases hs;done)|constructor
def RD.ui{Pr eC:Nat->Nat->Prop}{w w':World}{v:AV}{c:Value}(h:RD Pr w v c)(hs:Go.AL.ui v=true):RD eC w' v c:=by
 cases h with
 |dR cs vs hl hr=>exact .dR cs vs hl λi h h'=>(hr i h h').gQ (by simp only[Go.AL.ui,acN]at hs;exact hs _ (acy h))
 |bool b=>exact .bool b
 |lk b=>exact .lk b
 |int k n=>exact .int k n
 |str l=>exact .str l
 |_=>cases hs
section
variable{P:Program}{w0:World}{n:Nat}{U:Nat->Prop}{g:Gh}{S:an}{H:aq}{a:Act}{w:World}
def fB(g:Gh)(bx:Bool)(b k:Nat):Prop:=g.Pr b k\/(bx=true/\∃i,g.al i=some b)
def Rel.gM(R:Rel P w0 n U g S H a w){v:AV}{c:Value}(h:RV g.Pr g.al w v c)(bx:Bool)(hb:p9 v=true->bx=true):RV (fB g bx) (λ_=>none) w (Go.AL.gM H v) c:=by
 have uY:∀{v c},RD g.Pr w v c->RD (fB g bx) w v c:=λh=>h.mono (bc.same λb k _ hp=>.inl hp)
 cases h with
 |data v c h=>
  have hd:=(uY h).vw
  have:Go.AL.gM H v=v.vw:=by cases h<;>rfl
  rw[this];exact .data _ _ hd
 |box i off b gw=>
  obtain⟨cs,vs,ty,k1,k2,k3,k4,k5,k6,k7,k8,k9⟩:=R.box i b gw;simp only[Go.AL.gM,k1];have cg:bx=true:=hb rfl;refine .data _ _ (.ref _ _ _ (λk=>vs.getD (off+k) undef) (λk hk=>?_) (λk hk=>?_) λk hk=>?_)
  .simp only[acC,adg]at hk;simp only[acM,adV];have:=k9 (off+k) (by omega);exact(AV.Qq _).trans this
  .simp only[acC,adg]at hk
   have:off+k<vs.size:=by omega
   exact⟨.inr ⟨cg,i,gw⟩,by simp[World.cell?,k3,this]⟩
  .simp only[acC,adg]at hk
   have av:off+k<vs.size:=by omega
   have:=(uY (k7 (off+k) (by omega) av)).cT;simpa[av]using this
 |func=>exact .bm _
 |f_=>exact .bm _
 |bm c=>exact .bm c
def Rel.fz(R:Rel P w0 n U g S H a w){v:AV}{c:Value}(h:RV g.Pr g.al w v c)(bx:Bool)(hb:da v=true->bx=true):RV (fB g bx) (λ_=>none) w (Go.AL.fz H v) c:=by
 have h0:=h
 cases h with
 |func fn first cap vs us h1 h2 r1 r2=>
  simp only[da,adw,ad9]at hb;refine .func fn _ _ _ _ (by simpa using h1) (by simpa using h2) (λi hi cQ=>?_) (λi hi cQ=>?_)
  .simp only[acC]at hi;simp only[acM]
   exact R.gM (r1 i hi cQ) bx λhx=>hb (.inl ⟨_,acy hi,hx⟩)
  .simp only[acC]at hi;simp only[acM]
   exact R.gM (r2 i hi cQ) bx λhx=>hb (.inr ⟨_,acy hi,hx⟩)
 |data v c h=>
  have:Go.AL.fz H v=Go.AL.gM H v:=by cases h<;>rfl
  rw[this];exact R.gM h0 bx λhx=>hb (by cases v<;>first|rfl|cases hx)
 |box=>exact R.gM h0 bx hb
 |f_=>exact .bm _
 |bm c=>exact .bm c
def Rel.call (R:Rel P w0 n U g S H a w) (d:Option Nat) (hd:∀ t,d=some t→t < n∧¬ U t) (bx:Bool) {v:AV} {c:Value} {w':World} {hi:Nat→Nat} (hb:Below w.heap.size w w')
  (mY:∀b,w'.heap.size<=b->hi b=0) (hr:RV (nZ w.heap.size (fB g bx) hi) (λ_=>none) w' v c) (cI:xu P w.heap.size hi w' v c) (cg:bx=true->ui v=true):
  ∃g',g'.base=g.base/\g'.old=g.old/\Rel P w0 n U g' (Go.AL.aY S d v) H (a.put d c) w':=by
 have hle:g.base<=w.heap.size:=by rw[R.base];exact R.below.size
 let own:Nat->Option Loc:=λb=>match c.ownBlock,d with
  |some b',some t=>if b=b' then some (.slot t)else none
  |_,_=>none
 let g':Gh:={ g with hi:=λb=>if b<w.heap.size then g.hi b else hi b,owner:=λb=>if b<w.heap.size then g.owner b else if b<w'.heap.size then own b else none }
 have R':Rel P w0 n U g' S H a w':=R.grow (g':=g') hb rfl rfl rfl
  (λb hb=>⟨if_pos hb,if_pos hb⟩)
  (λb lU=>by
   have:=hb.size
   exact⟨(if_neg (by omega)).trans (mY b lU),(if_neg (by omega)).trans (if_neg (by omega))⟩)
 refine⟨g',rfl,rfl,R'.aY d v c (λt h=>(hd t h).1) ?_ ?_⟩
 .cases bx with
  |true=>exact .data _ _ ((hr.dL (Lp (cg rfl))).ui (cg rfl))
  |false=>
   refine hr.mono (bc.same λb k _ hp=>?_) (λi b h=>by cases h)
   rcases hp with⟨h1,h2⟩|⟨h1,h2⟩
   .rcases h2 with h2|⟨h2,_⟩
    .rcases h2 with h2|h2
     .exact .inl h2
     .exact .inr ⟨h2.1,by show k<(if b<w.heap.size then g.hi b else hi b);rw[if_pos h1];exact h2.2⟩
    .cases h2
   .exact .inr ⟨by show g.base<=b;omega,by show k<(if b<w.heap.size then g.hi b else hi b);rw[if_neg (by omega)];exact h2⟩
 .intro t ht;subst ht
  cases v<;>try trivial
  rename_i oo es
  cases oo with
  |view=>trivial
  |nil=>trivial
  |own e=>
   obtain⟨i,xs,b,h1,h2,h3,h4⟩:=cI;have av:=h2.lt b h3;refine⟨i,xs,b,h1,⟨h2.1,?_⟩,h3,?_,?_⟩
   .rcases h2.2 with hn|⟨gg,cap,cur,e1,nC,rest⟩
    .exact .inl hn
    .exact .inr ⟨gg,cap,cur,e1,adD hle nC,rest⟩
   .show(if b<w.heap.size then g.owner b else if b<w'.heap.size then own b else none)=_;rw[if_neg (by omega),if_pos av.2];simp[own,h3]
   .show(if b<w.heap.size then g.hi b else hi b)=_;rw[if_neg (by omega)];exact h4
end
def zeroCells(P:Program)(t:TypeId):Option (List AV):=
 match P.info? t with
 |some i=>match i.zero with
  |some z=>ik z.cells.toList
  |none=>none
 |none=>none
def isVal:AV->Bool
 |.val _=>true
 |_=>false
def sM(P:Program)(t:TypeId):Option (List AV):=
 match zeroCells P t with
 |some zs=>if zs.any isVal then none else some zs
 |none=>none
def qp{P:Program}{t:TypeId}{zs:List AV}(h:sM P t=some zs):zeroCells P t=some zs:=by
 unfold sM at h;split at h
 .rename_i h'
  split at h<;>cases h
  exact h'
 .cases h
def comp(P:Program)(n:Nat)(tk:Bool)(hr:HR)(o:Oper):dT:=
 match o.op with
 |.move x=>match c_ n x with
  |some y=>.mv tk y
  |none=>.other
 |.assign x=>match c_ n x with
  |some y=>.mv true y
  |none=>.other
 |.pick c a b=>match c_ n c,c_ n a,c_ n b with
  |some c,some a,some b=>.pick c a b
  |_,_,_=>.other
 |.alloc t=>match zeroCells P t with
  |some cs=>.alloc t cs
  |none=>.other
 |.box t x=>match P.info? t,c_ n x with
  |some i,some y=>.box t i.size y
  |_,_=>.other
 |.build t ps=>match P.underlying t,sM P t with
  |some (.struct fs),some zs=>match fs.toList.mapM (λf=>(P.info? f.type).map λi=>(f.offset,i.size))with
   |some places=>match rr n (places[·]?) ps.toList with
    |some qs=>.build (zs.map AV.aH) qs
    |none=>.other
   |none=>.other
  |some (.array _ el),some zs=>match P.info? el with
   |some ie=>match rr n (λi=>some (i*ie.size,ie.size)) ps.toList with
    |some qs=>.build (zs.map AV.aH) qs
    |none=>.other
   |none=>.other
  |some (.array _ el),none=>match P.info? t,P.info? el,nY n (ps.toList.map (·.2))with
   |some it,some ie,some ys=>match it.zero with
    |some z=>if ie.size=1/\z.cells.size=ps.toList.length/\ps.toList.map (·.1)=List.range ps.toList.length then .mZ ys else .other
    |none=>.other
   |_,_,_=>.other
  |_,_=>.other
 |.buildSlice t len ps=>match P.underlying t with
  |some (.slice el)=>match P.info? el with
   |some i=>if len=0/\ps.toList.isEmpty=true then .empty el else
    match i.zero,nY n (ps.toList.map (·.2))with
    |some _,some ys=>if 0<i.size/\0<len/\ps.toList.map (·.1)=List.range len then .buildSlice t el i.size ys else .other
    |_,_=>.other
   |none=>.other
  |_=>.other
 |.load t a=>match P.info? t,P.underlying t,c_ n a with
  |some i,some d,some y=>if tk=true/\eh d=false/\o.dst.isSome=true then .loadT hr y else .load hr (eh d) i.size y
  |_,_,_=>.other
 |.store t a x=>match P.info? t,c_ n a,c_ n x with
  |some i,some y,some z=>if o.dst.isNone then .store hr i.size y z else .other
  |_,_,_=>.other
 |.binOp op t x y _=>match P.underlying t,c_ n x,c_ n y with
  |some (.int _),some x,some y|some .string,some x,some y=>.bin op x y
  |some .bool,some x,some y=>match op with
   |.eql=>.Bp false x y
   |.neq=>.Bp true x y
   |_=>.other
  |some (.struct _),some x,some y=>if P.eqGuardType P.depth t=false then
    match op,lR P 10000 t with
    |.eql,some k=>.eqs false k x y
    |.neq,some k=>.eqs true k x y
    |_,_=>.other
   else .other
  |some (.slice _),some x',some _=>match op,y with
   |.eql,.const (.slice none 0 0)=>.isNil false x'
   |.neq,.const (.slice none 0 0)=>.isNil true x'
   |_,_=>.other
  |_,_,_=>.other
 |.unOp .not _ x=>match c_ n x with
  |some y=>.not y
  |none=>.other
 |.convert s d x=>match P.underlying s,P.underlying d,c_ n x with
  |some _,some (.int k),some y=>.conv k y
  |some (.slice el),some .string,some y=>match P.underlying el with
   |some (.int .u8)=>.v_ y
   |_=>.other
  |_,_,_=>.other
 |.makeInterface t x=>match P.underlying t,c_ n x with
  |some (.interface _),_=>.other
  |some _,some y=>.iface t y
  |_,_=>.other
 |.makeFunc fn f c=>match nY n f.toList,nY n c.toList with
  |some f,some c=>.Dz fn f c
  |_,_=>.other
 |.slice t x lo hi none=>match P.underlying t,c_ n x,lL n lo,lL n hi with
  |some .string,some y,some lo,some hi=>.nc y lo hi
  |some (.slice el),some y,some lo,some hi=>match P.info? el with
   |some i=>.lH i.size y lo hi
   |none=>.other
  |some (.array len el),some y,some none,some none=>match P.info? el with
   |some _=>.ou len y
   |none=>.other
  |_,_,_,_=>.other
 |.fieldAddr s x j=>match P.underlying s,c_ n x with
  |some (.struct fs),some y=>match fs[j]? with
   |some f=>match P.info? f.type with
    |some i=>if i.size≠0 then .fieldAddr f.offset y else .other
    |none=>.other
   |none=>.other
  |_,_=>.other
 |.indexAddr t x i=>match P.underlying t,c_ n x,c_ n i with
  |some (.slice el),some y,some z=>match P.info? el with
   |some i=>.indexAddr i.size y z
   |none=>.other
  |_,_,_=>.other
 |.index t x i=>match P.underlying t,c_ n x,c_ n i with
  |some .string,some y,some z=>.m_ y z
  |some (.array len el),some y,some z=>match P.info? el,P.underlying el with
   |some i,some (.func a b c)=>if i.size=1 then .ng len y z else .other
   |some i,some d=>.lK (eh d) len i.size y z
   |_,_=>.other
  |_,_,_=>.other
 |.lookup t x i true=>match P.underlying t,c_ n x,c_ n i with
  |some (.map kt el),some y,some z=>match P.underlying kt,lR P 10000 kt,P.info? el with
   |some (.struct _),some k,some ie=>match ie.zero with
    |some (.agg v)=>match ik v.toList with
     |some zs=>.lookup k (.agg zs) y z
     |none=>.other
    |_=>.other
   |_,_,_=>.other
  |_,_,_=>.other
 |.extract x j=>match c_ n x with
  |some y=>.extract y j
  |none=>.other
 |.typeAssert x _ t true=>match P.underlying t,P.info? t,c_ n x with
  |some (.interface _),_,_=>.other
  |some _,some i,some y=>match i.zero with
   |some (.agg z)=>match ik z.toList with
    |some zs=>.assert t (.agg zs) y
    |none=>.other
   |_=>.other
  |_,_,_=>.other
 |.panic x=>match c_ n x with
  |some y=>.panic y
  |none=>.other
 |.call cl=>match cl.callee,cl.args.toList,cl.argTypes.toList with
  |.builtin .len,[x],[s]=>match P.underlying s,c_ n x with
   |some .string,some y=>.wU y
   |some (.slice _),some y=>.iW y
   |_,_=>.other
  |.builtin .append,[x1,x2],[t,t']=>match P.underlying t,c_ n x1,c_ n x2 with
   |some (.slice el),some y1,some y2=>match P.info? el with
    |some i=>match i.zero with
     |some z=>if t=t'/\z.cells.size=i.size/\i.bytes<=65536 then .append t el i.size i.bytes y1 y2 else .other
     |none=>.other
    |none=>.other
   |_,_,_=>.other
  |.builtin .max,[x1,x2],_=>match c_ n x1,c_ n x2 with
   |some y1,some y2=>.max y1 y2
   |_,_=>.other
  |.builtin .min,[x1,x2],_=>match c_ n x1,c_ n x2 with
   |some y1,some y2=>.min y1 y2
   |_,_=>.other
  |.value f,args,_=>match c_ n f,nY n args with
   |some (.f k),some ys=>.call k ys
   |some y,some ys=>.fc y ys
   |_,_=>.other
  |.invoke r name,args,_=>match c_ n r,nY n args with
   |some (.t t),some ys=>.fc (.m t (Im P name)) ys
   |_,_=>.other
  |_,_,_=>.other
 |_=>.other
structure bB where
 dst:Option Nat
 guard:Option (Nat×Bool)
 op:dT
def ef(P:Program)(f:Nat):Bool:=
 match P.funcs[f]? with
 |some fn=>fn.name != "runtime.NumGoroutine" && fn.body.isSome
 |none=>false
def fG{P:Program}{w:World}{f:Nat}{args:Array Value}(h:ef P f=true):(callFunc f args).run P w=.ok (.enter f args) w:=by
 unfold ef at h
 cases hf:P.funcs[f]? with
 |none=>simp[hf]at h
 |some fn=>
  simp only[hf,acA,afm]at h;unfold callFunc;obtain⟨c,hc⟩:=afg.1 h.2;simp[hf,h.1,hc]
section
variable{P:Program}{GI:World->Prop}
def j0(out:eE)(K:AV->Prop)(Qp:AV->Prop):Prop:=
 match out with
 |.ret v=>K v
 |.panic v=>Qp v
def kC(P:Program)(GI:World->Prop)(f:Nat)(args:List AV)(bx:Bool)(K:AV->Prop)(Qp:AV->Prop):Prop:=
 ∃out,ef P f=true/\AC P GI f args out/\(bx=true->out.ui=true)/\j0 out K Qp
def bh(P:Program)(GI:World->Prop)(op:dT)(dst:Option Nat)(K:an->aq->Prop)(Qp:AV->Prop)(S:an)(H:aq):Prop:=
 match op with
 |.alloc _ zero=>match dst with
  |some d=>K (au (λt=>bQ d (S t)) d (.box d 0)) (au H d (some zero))
  |none=>False
 |.box _ size x=>match dst with
  |some d=>(ev S x).cells.length=size/\(ev S x).storable=true/\K (au (λt=>bQ d (S t)) d (.box d 0)) (au H d (some ((ev S x).cells.map AV.aH)))
  |none=>False
 |.call f args=>kC P GI f (args.map λy=>fz H (ev S y)) (args.any λy=>da (ev S y)) (λv=>K (aY S dst v) H) Qp
 |.fc f args=>match ev S f with
  |.func (.func k) first cap=>kC P GI k ((first++args.map (ev S)++cap).map (fz H)) ((first++args.map (ev S)++cap).any da) (λv=>K (aY S dst v) H) Qp
  |_=>False
 |.panic x=>match ev S x with
  |.iface t v=>Qp (.iface t v)
  |_=>False
 |op=>match aD S H op with
  |some e=>K (e.S S dst) (e.H H)
  |none=>False
def dT.calm:dT->Bool
 |.alloc ..|.box ..|.call ..|.fc ..|.panic _|.other=>false
 |_=>true
def yL {op:dT} (h:op.calm=true) (dst:Option Nat) (K:an→aq→Prop) (Qp:AV→Prop) (S:an) (H:aq) :
  bh P GI op dst K Qp S H=(match aD S H op with|some e=>K (e.S S dst) (e.H H)|none=>False):=by
 cases op<;>first|rfl|cases h
variable{w0:World}{n:Nat}{U:Nat->Prop}{g:Gh}{S:an}{H:aq}{a:Act}{w:World}
def uG:∀(ps:List (Nat×Operand))(k:Nat),ps.map (·.1)=(List.range' k ps.length)->ps=((ps.map (·.2)).zipIdx k).map λx=>(x.2,x.1)
 |[],_,_=>rfl
 |(i,x)::ps,k,h=>by
  simp only[ac5,List.length_cons,ad_,aeG]at h;obtain⟨rfl,h⟩:=h;simp only[ac5,List.zipIdx_cons,aeG,agd];exact uG ps (i+1) h
def vB{x:Option Operand}(h:lL n x=some none):x=none:=by
 cases x with
 |none=>rfl
 |some y=>simp[lL]at h
def B7 (R:Rel P w0 n U g S H a w) {o:Oper} {tk:Bool} {hr:HR} {op:dT} {e:aQ} (hc:comp P n tk hr o=op) (bK:op.calm=true) (hd:∀ t,o.dst=some t→t < n∧¬ U t) (cP:∀ t∈op.rd,¬ U t) (ee:∀ t,o.dst=some t→t∉op.rd)
  (he:aD S H op=some e):cK P w0 n U g S H a w o e:=by
 unfold comp at hc;cases de:o.op
 case move x=>
  simp only[de]at hc
  split at hc<;>subst hc
  case h_2=>cases bK
  rename_i y hx;exact Ir R hd hx cP (by unfold execOp;simp only[de];rfl) ee he
 case assign x=>
  simp only[de]at hc
  split at hc<;>subst hc
  case h_2=>cases bK
  rename_i y hx;exact Ir R hd hx cP (by unfold execOp;simp only[de];rfl) ee he
 case pick x x1 x2=>
  simp only[de]at hc
  split at hc<;>subst hc
  case h_2=>cases bK
  rename_i c a' b h1 h2 h3;simp only[dT.rd,acF]at cP;exact Mo R de hd h1 h2 h3 (λt h=>cP t (.inl (.inl h))) (λt h=>cP t (.inl (.inr h))) (λt h=>cP t (.inr h)) he
 case alloc t=>simp only[de]at hc;split at hc<;>subst hc<;>cases bK
 case box t x=>simp only[de]at hc;split at hc<;>subst hc<;>cases bK
 case build t ps=>
  simp only[de]at hc;split at hc
  .rename_i fs zs h1 h2;split at hc
   case h_2=>subst hc;cases bK
   rename_i places h3
   split at hc<;>subst hc
   case h_2=>cases bK
   rename_i qs h4;have h2:=qp h2;unfold zeroCells at h2;split at h2
   case h_2=>cases h2
   rename_i it hi;split at h2
   case h_2=>cases h2
   rename_i z hz;exact JC R de hd hi h1 hz h3 h2 h4 (λq hq t ht=>cP t (adh.2 ⟨q,hq,ht⟩)) he
  .rename_i len el zs h1 h2;split at hc
   case h_2=>subst hc;cases bK
   rename_i ie h3
   split at hc<;>subst hc
   case h_2=>cases bK
   rename_i qs h4;have h2:=qp h2;unfold zeroCells at h2;split at h2
   case h_2=>cases h2
   rename_i it hi;split at h2
   case h_2=>cases h2
   rename_i z hz;exact Hc R de hd hi h1 hz h3 h2 h4 (λq hq t ht=>cP t (adh.2 ⟨q,hq,ht⟩)) he
  .rename_i len el h1 h2;split at hc
   case h_2=>subst hc;cases bK
   rename_i it ie ys h3 h4 h5;split at hc
   case h_2=>subst hc;cases bK
   rename_i z hz
   split at hc<;>subst hc
   case isFalse=>cases bK
   rename_i jz;exact F_ R de hd h3 h1 hz h4 jz.1 (by simpa using jz.2.1) (uG _ 0 (by rw[jz.2.2,ad0])) h5 (λy hy t ht=>cP t (adh.2 ⟨y,hy,ht⟩)) he
  .subst hc;cases bK
 case buildSlice t len ps=>
  simp only[de]at hc;split at hc
  case h_2=>subst hc;cases bK
  rename_i el h1;split at hc
  case h_2=>subst hc;cases bK
  rename_i i h2;split at hc
  case isTrue=>
   rename_i jz;subst hc
   have jo:ps=#[]:=by
    have:=jz.2;simp only[List.isEmpty_iff]at this;exact Array.toList_eq_nil_iff.1 this
   rw[jz.1,jo]at de;exact Hp R de hd h1 h2 he
  case isFalse=>
   split at hc
   case h_2=>subst hc;cases bK
   rename_i z ys h3 h4
   split at hc<;>subst hc
   case isFalse=>cases bK
   rename_i jv
   have hlen:ps.toList.length=len:=by have:=congrArg List.length jv.2.2;simpa using this
   exact xz R de hd h1 h2 h3 jv.1 (uG _ 0 (by rw[jv.2.2,hlen,ad0])) (by simpa using hlen) jv.2.1 h4 (λy hy t ht=>cP t (adh.2 ⟨y,hy,ht⟩)) he
 case load t x=>
  simp only[de]at hc;split at hc
  case h_2=>subst hc;cases bK
  rename_i i d y h1 h2 h3
  split at hc<;>subst hc
  case isTrue jz=>
   obtain⟨dd,B_⟩:=afg.1 jz.2.2;exact JQ R de B_ (hd dd B_) h2 jz.2.1 h3 cP he
  case isFalse jz=>exact Cg R de hd h1 h2 h3 cP he
 case store t x1 x2=>
  simp only[de]at hc;split at hc
  case h_2=>subst hc;cases bK
  rename_i i y z h1 h2 h3
  split at hc<;>subst hc
  case isFalse=>cases bK
  rename_i jz;simp only[dT.rd,acF]at cP;exact l0 R de (by simpa using jz) h1 h2 h3 (λt h=>cP t (.inl h)) (λt h=>cP t (.inr h)) he
 case binOp op t x1 x2 t'=>
  simp only[de]at hc;split at hc
  .subst hc;rename_i k y1 y2 h1 h2 h3;simp only[dT.rd,acF]at cP;exact EA R de hd h2 h3 (λt h=>cP t (.inl h)) (λt h=>cP t (.inr h)) he
  .subst hc;rename_i y1 y2 h1 h2 h3;simp only[dT.rd,acF]at cP;exact EA R de hd h2 h3 (λt h=>cP t (.inl h)) (λt h=>cP t (.inr h)) he
  .rename_i y1 y2 h1 h2 h3
   split at hc<;>subst hc
   .simp only[dT.rd,acF]at cP;exact Eo (neg:=false) R de hd h1 h2 h3 (λt h=>cP t (.inl h)) (λt h=>cP t (.inr h)) he
   .simp only[dT.rd,acF]at cP;exact Eo (neg:=true) R de hd h1 h2 h3 (λt h=>cP t (.inl h)) (λt h=>cP t (.inr h)) he
   .cases bK
  .rename_i fs y1 y2 h1 h2 h3;split at hc
   case isFalse=>subst hc;cases bK
   rename_i Cc
   split at hc<;>subst hc
   .simp only[dT.rd,acF]at cP;exact EL (neg:=false) R de hd h1 (by assumption) Cc h2 h3 (λt h=>cP t (.inl h)) (λt h=>cP t (.inr h)) he
   .simp only[dT.rd,acF]at cP;exact EL (neg:=true) R de hd h1 (by assumption) Cc h2 h3 (λt h=>cP t (.inl h)) (λt h=>cP t (.inr h)) he
   .cases bK
  .rename_i el y1 y2 h1 h2 h3
   split at hc<;>subst hc
   .exact yO (neg:=false) R de hd h1 h2 cP he
   .exact yO (neg:=true) R de hd h1 h2 cP he
   .cases bK
  .subst hc;cases bK
 case unOp u t x=>
  cases u<;>simp only[de]at hc
  case not=>
   split at hc<;>subst hc
   case h_2=>cases bK
   rename_i y h1;exact O2 R de hd h1 cP he
  all_goals (subst hc;cases bK)
 case convert s d x=>
  simp only[de]at hc;split at hc
  .subst hc;rename_i ds k y h1 h2 h3;exact Mq R de hd h1 h2 h3 cP he
  .rename_i el y h1 h2 h3
   split at hc<;>subst hc
   case h_2=>cases bK
   rename_i h4;exact KW R de hd h1 h4 h2 h3 cP he
  .subst hc;cases bK
 case makeInterface t x=>
  simp only[de]at hc
  split at hc<;>subst hc
  case h_1=>cases bK
  case h_3=>cases bK
  rename_i d y BY h1 h2;exact HG R de hd h1 BY h2 cP he
 case makeFunc fn f c=>
  simp only[de]at hc
  split at hc<;>subst hc
  case h_2=>cases bK
  rename_i f2 c2 h1 h2;simp only[dT.rd,acF,adh]at cP;exact N6 R de hd h1 h2 (λy hy t ht=>cP t (.inl ⟨y,hy,ht⟩)) (λy hy t ht=>cP t (.inr ⟨y,hy,ht⟩)) he
 case slice t x lo hi mx=>
  cases mx with
  |some m=>simp only[de]at hc;subst hc;cases bK
  |none=>
   simp only[de]at hc;split at hc
   .subst hc;rename_i y wL cQ h1 h2 h3 h4;simp only[dT.rd,acF,adh]at cP;exact FT R de hd h1 h2 (λt h=>cP t (.inl h)) h3 h4 (λy hy t ht=>cP t (.inr ⟨y,.inl (by simpa using hy),ht⟩)) (λy hy t ht=>cP t (.inr ⟨y,.inr (by simpa using hy),ht⟩)) he
   .rename_i el y wL cQ h1 h2 h3 h4
    split at hc<;>subst hc
    case h_2=>cases bK
    rename_i i h5;simp only[dT.rd,acF,adh]at cP;exact Fv R de hd h1 h5 h2 (λt h=>cP t (.inl h)) h3 h4 (λy hy t ht=>cP t (.inr ⟨y,.inl (by simpa using hy),ht⟩)) (λy hy t ht=>cP t (.inr ⟨y,.inr (by simpa using hy),ht⟩)) he
   .rename_i len el y h1 h2 h3 h4
    split at hc<;>subst hc
    case h_2=>cases bK
    rename_i i h5;have e3:=vB h3;have e4:=vB h4;subst e3;subst e4;exact Ff R de hd h1 h5 h2 cP he
   .subst hc;cases bK
 case fieldAddr s x j=>
  simp only[de]at hc;split at hc
  case h_2=>subst hc;cases bK
  rename_i fs y h1 h2;split at hc
  case h_2=>subst hc;cases bK
  rename_i f h3;split at hc
  case h_2=>subst hc;cases bK
  rename_i i h4
  split at hc<;>subst hc
  case isFalse=>cases bK
  rename_i jz;exact Ac R de hd h1 h3 h4 jz h2 cP he
 case indexAddr t x1 x2=>
  simp only[de]at hc;split at hc
  case h_2=>subst hc;cases bK
  rename_i el y z h1 h2 h3
  split at hc<;>subst hc
  case h_2=>cases bK
  rename_i i h4;simp only[dT.rd,acF]at cP;exact zS R de hd h1 h4 h2 h3 (λt h=>cP t (.inl h)) (λt h=>cP t (.inr h)) he
 case index t x1 x2=>
  simp only[de]at hc;split at hc
  .subst hc;rename_i y z h1 h2 h3;simp only[dT.rd,acF]at cP;exact FO R de hd h1 h2 h3 (λt h=>cP t (.inl h)) (λt h=>cP t (.inr h)) he
  .rename_i len el y z h1 h2 h3;split at hc
   .rename_i i a1 a2 a3 h4 h5
    split at hc<;>subst hc
    case isFalse=>cases bK
    rename_i hs;simp only[dT.rd,acF]at cP;exact FB R de hd h1 h4 hs h5 rfl h2 h3 (λt h=>cP t (.inl h)) (λt h=>cP t (.inr h)) he
   case h_3=>subst hc;cases bK
   subst hc;rename_i i d _ h4 h5;simp only[dT.rd,acF]at cP;exact F6 R de hd h1 h4 h5 h2 h3 (λt h=>cP t (.inl h)) (λt h=>cP t (.inr h)) he
  .subst hc;cases bK
 case lookup t x1 x2 ok=>
  cases ok with
  |false=>simp only[de]at hc;subst hc;cases bK
  |true=>
   simp only[de]at hc;split at hc
   case h_2=>subst hc;cases bK
   rename_i kt el y z h1 h2 h3;split at hc
   case h_2=>subst hc;cases bK
   rename_i fs k ie h4 h5 h6;split at hc
   case h_2=>subst hc;cases bK
   rename_i v h7
   split at hc<;>subst hc
   case h_2=>cases bK
   rename_i zs h8;simp only[dT.rd,acF]at cP;exact E5 (z:=.agg v) R de hd h1 h4 h5 h6 h7 h8 h2 h3 (λt h=>cP t (.inl h)) (λt h=>cP t (.inr h)) he
 case extract x j=>
  simp only[de]at hc
  split at hc<;>subst hc
  case h_2=>cases bK
  rename_i y h1;exact CW R de hd h1 cP he
 case typeAssert x xt t ok=>
  cases ok with
  |false=>simp only[de]at hc;subst hc;cases bK
  |true=>
   simp only[de]at hc;split at hc
   case h_1=>subst hc;cases bK
   case h_3=>subst hc;cases bK
   rename_i d i y BY h1 h2 h3;split at hc
   case h_2=>subst hc;cases bK
   rename_i z hz
   split at hc<;>subst hc
   case h_2=>cases bK
   rename_i zs nv;exact Fi (z:=.agg z) R de hd h1 BY h2 hz nv h3 cP he
 case panic x=>simp only[de]at hc;split at hc<;>subst hc<;>cases bK
 case call cl=>
  simp only[de]at hc;split at hc
  .rename_i x s gr ha ht
   have Ji:cl.args=#[x]:=by rw[<-Array.toArray_toList (xs:=cl.args),ha]
   have tc:cl.argTypes=#[s]:=by rw[<-Array.toArray_toList (xs:=cl.argTypes),ht]
   split at hc<;>subst hc
   .rename_i y h1 h2;exact DL R de gr Ji tc hd h1 h2 cP (.inl ⟨rfl,he⟩)
   .rename_i el y h1 h2;exact DL R de gr Ji tc hd h1 h2 cP (.inr ⟨⟨el,rfl⟩,he⟩)
   .cases bK
  .rename_i x1 x2 t t' gr ha ht
   have Ji:cl.args=#[x1,x2]:=by rw[<-Array.toArray_toList (xs:=cl.args),ha]
   have tc:cl.argTypes=#[t,t']:=by rw[<-Array.toArray_toList (xs:=cl.argTypes),ht]
   split at hc
   case h_2=>subst hc;cases bK
   rename_i el y1 y2 h1 h2 h3;split at hc
   case h_2=>subst hc;cases bK
   rename_i i h4;split at hc
   case h_2=>subst hc;cases bK
   rename_i z h5
   split at hc<;>subst hc
   case isFalse=>cases bK
   rename_i jz;obtain⟨rfl,k1,k2⟩:=jz;simp only[dT.rd,acF]at cP ee;exact FQ R de gr Ji tc hd h1 h4 h5 k1 k2 h2 h3 (λt h=>cP t (.inl h)) (λt h=>cP t (.inr h)) (λt ht h=>ee t ht (.inl h)) he
  .rename_i x1 x2 gr ha
   have Ji:cl.args=#[x1,x2]:=by rw[<-Array.toArray_toList (xs:=cl.args),ha]
   split at hc<;>subst hc
   case h_2=>cases bK
   rename_i y1 y2 h1 h2;simp only[dT.rd,acF]at cP;exact wy R de Ji hd h1 h2 (λt h=>cP t (.inl h)) (λt h=>cP t (.inr h)) (.inl ⟨gr,he⟩)
  .rename_i x1 x2 gr ha
   have Ji:cl.args=#[x1,x2]:=by rw[<-Array.toArray_toList (xs:=cl.args),ha]
   split at hc<;>subst hc
   case h_2=>cases bK
   rename_i y1 y2 h1 h2;simp only[dT.rd,acF]at cP;exact wy R de Ji hd h1 h2 (λt h=>cP t (.inl h)) (λt h=>cP t (.inr h)) (.inr ⟨gr,he⟩)
  .split at hc<;>subst hc<;>cases bK
  .split at hc<;>subst hc<;>cases bK
  .subst hc;cases bK
 all_goals (simp only[de]at hc;subst hc;cases bK)
end
def bz:Nat->Prop:=λ_=>False
def aw(GI:World->Prop):Prop:=∀w w',GI w->Below w.heap.size w w'->GI w'
def bB.ok(n:Nat)(o:bB):Bool:=
 (match o.dst with|some d=>decide (d<n)&&!o.op.rd.contains d|none=>true)&&
 (match o.guard with|some (t,_)=>decide (t<n)|none=>true)
def dT.jb:dT->Bool
 |.alloc ..|.box ..=>true
 |_=>false
def bB.jb(o:bB):List Nat:=if o.op.jb then o.dst.toList else[]
def AH(ops:Array Oper)(j:Nat):Option Nat:=(ops[j]?).bind (·.dst)
def taken(ops:Array Oper)(d:Nat):Bool:=
 ops.any λo=>match o.op with
  |.call { callee:=.builtin .append,args,.. }=>match args.toList with
   |.tmp t::_=>t==d
   |_=>false
  |_=>false
def rootOf(ops:Array Oper):Nat->Operand->HR
 |k+1,.tmp t=>match ops.toList.find? (λo=>o.dst==some t)with
  |some o=>match o.op with
   |.fieldAddr _ x _=>rootOf ops k x
   |.indexAddr ..=>.ref
   |.alloc _=>.box t
   |_=>.any
  |none=>.box t
 |_,_=>.any
def VV(ops:Array Oper)(o:Oper):HR:=
 match o.op with
 |.load _ x|.store _ x _=>rootOf ops 10 x
 |_=>.any
def bD(P:Program)(n:Nat)(dr:Bool)(ops:Array Oper)(o:Oper):bB:={
 dst:=o.dst
 guard:=match o.guard with
  |some (j,b)=>match AH ops j with
   |some t=>some (t,b)
   |none=>some (n,b)
  |none=>none
 op:=comp P n (match o.dst with|some d=>taken ops d|none=>false) (if dr then VV ops o else .any) o }
def br(P:Program)(n:Nat)(dr:Bool)(ops:Array Oper):List bB:=ops.toList.map (bD P n dr ops)
def aG(S:an):Option (Nat×Bool)->Option Bool
 |none=>some true
 |some (t,b)=>match S t with
  |.bool c=>some (c==b)
  |.dR []=>some false
  |_=>none
def bw(P:Program)(GI:World->Prop):List bB->(an->aq->Prop)->(AV->Prop)->an->aq->Prop
 |[],K,_,S,H=>K S H
 |o::rest,K,Qp,S,H=>match aG S o.guard with
  |some true=>bh P GI o.op o.dst (bw P GI rest K Qp) Qp S H
  |some false=>bw P GI rest K Qp (aY S o.dst bO) H
  |none=>False
section
variable{P:Program}{GI:World->Prop}{w0:World}{n:Nat}{U:Nat->Prop}{g:Gh}{S:an}{H:aq}{a:Act}{w:World}
def cK.wp {o:Oper} {e:aQ} (h:cK P w0 n U g S H a w o e) {K:Act→World→Prop} {Q:Exit→Act→World→Prop}
  (hK:∀g' a' w',g'.base=g.base->g'.old=g.old->Rel P w0 n U g' (e.S S o.dst) (e.H H) a' w'->K a' w'):o.wp P a w K Q:=by
 obtain⟨c,w',g',hr,h1,h2,R⟩:=h;unfold Oper.wp
 rcases hr with hr|⟨hr,rfl⟩
 .rw[hr];exact hK g' _ _ h1 h2 R
 .rw[hr];exact hK g' _ _ h1 h2 R
def eP{a:Act}{cl:Call}{f:Operand}{t:TypeId}(hc:cl.callee=.value f):resolve a.eval cl t=Deferred.ofValue (a.eval f) (cl.args.map a.eval):=by
 unfold resolve;rw[hc]
def yn (R:Rel P w0 n U g S H a w) (hG:aw GI) (cj:GI w0) {f:Nat} {args:List AV} {bH:Array Value} {bx:Bool} {KA:AV→Prop} {Qp:AV→Prop}
  (hl:args.length=bH.size) (hr:∀i (h:i<args.length)(h':i<bH.size),RV (fB g bx) (λ_=>none) w args[i] bH[i])
  (h:kC P GI f args bx KA Qp) (dst:Option Nat) (hd:∀t,dst=some t->t<n/\¬U t) {Kc:Act->World->Prop} {Qc:Exit->Act->World->Prop}
  (hK:∀v g' a' w',g'.base=g.base->g'.old=g.old->Rel P w0 n U g' (aY S dst v) H a' w'->KA v->Kc a' w')
  (hP:∀v c hi w',Below w0.heap.size w0 w'->(∀b,w'.heap.size<=b->hi b=0)->RD (nZ w0.heap.size g.old.c hi) w' v c->Qp v->Qc (.panic [{ v:=c,recovered:=false }]) a w'):
  ef P f=true/\Calls P f bH w (λ|.returned v,iV=>Kc (a.put dst v) iV|.panicked chain,iV=>Qc (.panic chain) a iV|.outgrown,_=>LetsOut Qc):=by
 obtain⟨out,kh,lD,cg,ko⟩:=h
 have hle:g.base<=w.heap.size:=by rw[R.base];exact R.below.size
 have gm:GI w:=by
  have hb:=R.below;rw[R.base]at hb;exact hG w0 w cj hb
 refine⟨kh,(lD w (fB g bx) bH gm hl hr).mono ?_⟩;rintro e w' ⟨hb,hi,mY,hh⟩
 cases out with
 |ret v=>
  obtain⟨c,rfl,h1,h2⟩:=hh;obtain⟨g',e1,e2,R'⟩:=R.call dst hd bx hb mY h1 h2 (λhx=>cg hx);exact hK v g' _ _ e1 e2 R' ko
 |panic v=>
  obtain⟨c,rfl,h1⟩:=hh
  have ZN:bx=false:=by
   cases bx with
   |false=>rfl
   |true=>have:=cg rfl;cases this
  subst ZN;have sq:=R.below;rw[R.base]at sq hle;refine hP v c (λb=>if b<w.heap.size then g.hi b else hi b) w' (sq.trans (hb.mono hle)) (λb lU=>?_) ?_ ko
  .have:=hb.size;show(if b<w.heap.size then g.hi b else hi b)=0;rw[if_neg (by omega)];exact mY b lU
  .refine h1.mono (bc.same λb k _ hp=>?_)
   rcases hp with⟨k1,k2⟩|⟨k1,k2⟩
   .rcases k2 with k2|⟨k2,_⟩
    .rcases k2 with k2|k2
     .exact .inl (by rw[<-R.base];exact k2)
     .exact .inr ⟨by rw[<-R.base];exact k2.1,by show k<(if b<w.heap.size then g.hi b else hi b);rw[if_pos k1];exact k2.2⟩
    .cases k2
   .exact .inr ⟨by omega,by show k<(if b<w.heap.size then g.hi b else hi b);rw[if_neg (by omega)];exact k2⟩
def Ez(d:Nat):(λt=>(bz t\/t=d)/\t≠d)=bz:=by
 funext t
 simp only[bz,afX,afn,iff_false,not_and,aft];exact id
def Bq (R:Rel P w0 n bz g S H a w) {o:Oper} {d:Nat} (gz:o.dst=some d) (hd:d < n) (cg:¬ g.old.bx d) {ty:TypeId} {vs:Array Value} {cs:List AV}
  (cM:(execOp a.eval o).run P w=.ok (.value (.pointer (some ⟨w.heap.size,0,none⟩))) (w.alloc (.cells vs ty))) (hr:nQ g.Pr w cs vs)
  (ho:∀(g':Gh) j (h:j<cs.length)(h':j<vs.size),(cs[j]).ly/\ea P w g' (.cell d j) cs[j] vs[j])
  {Kc:Act->World->Prop} {Qc:Exit->Act->World->Prop}
  (hK:∀g' a' w',g'.base=g.base->g'.old=g.old->Rel P w0 n bz g' (au (λt=>bQ d (S t)) d (.box d 0)) (au H d (some cs)) a' w'->Kc a' w'):o.wp P a w Kc Qc:=by
 have R1:=R.suspend d cg (.box d 0) cs;have R2:=R1.GB d (.inr rfl) hd cs vs ty (aK _ _ _) (aK _ _ _) hr.1 hr.2.1 (λj h h'=>ho _ j h h') hr.2.2;unfold Oper.wp;rw[cM];show Kc _ _;rw[gz];rw[Ez]at R2;exact hK { g with al:=au (au g.al d none) d (some w.heap.size) } _ _ rfl rfl R2
def zt{o:Oper}{tk:Bool}{hr:HR}{t:TypeId}{cs:List AV}(h:comp P n tk hr o=.alloc t cs):o.op=.alloc t/\zeroCells P t=some cs:=by
 unfold comp at h
 repeat' split at h
 all_goals first
  |(cases h;done)
  |(cases h;exact⟨by assumption,by assumption⟩)
def Ol{o:Oper}{tk:Bool}{hr:HR}{t:TypeId}{size:Nat}{x:cz}(h:comp P n tk hr o=.box t size x):∃x',o.op=.box t x'/\c_ n x'=some x:=by
 unfold comp at h
 repeat' split at h
 all_goals first
  |(cases h;done)
  |(cases h;exact⟨_,by assumption,by assumption⟩)
def HT{o:Oper}{tk:Bool}{hr:HR}{x:cz}(h:comp P n tk hr o=.panic x):∃x',o.op=.panic x'/\c_ n x'=some x:=by
 unfold comp at h
 repeat' split at h
 all_goals first
  |(cases h;done)
  |(cases h;exact⟨_,by assumption,by assumption⟩)
def Wk{x:Operand}{f:Nat}(h:c_ n x=some (.f f)):x=.func f:=by
 cases x<;>simp only[c_]at h
 .split at h<;>cases h
 .simp only[acE]at h;obtain⟨_,_,h⟩:=h;cases h
 .cases h
 .cases h;rfl
def Kn{o:Oper}{tk:Bool}{hr:HR}{f:Nat}{args:List cz}(h:comp P n tk hr o=.call f args):∃cl,o.op=.call cl/\cl.callee=.value (.func f)/\nY n cl.args.toList=some args:=by
 unfold comp at h
 repeat' split at h
 all_goals first
  |(cases h;done)
  |skip
 cases h;rename_i h1 h2;have e:=Wk h1;subst e;exact⟨_,by assumption,by assumption,h2⟩
def JW {o:Oper} {tk:Bool} {hr:HR} {f:cz} {args:List cz} (h:comp P n tk hr o = .fc f args) :
  (∃cl f',o.op=.call cl/\cl.callee=.value f'/\c_ n f'=some f/\nY n cl.args.toList=some args)\/
  ∃cl r name t,o.op=.call cl/\cl.callee=.invoke r name/\c_ n r=some (.t t)/\f=.m t (Im P name)/\nY n cl.args.toList=some args:=by
 unfold comp at h
 repeat' split at h
 all_goals first
  |(cases h;done)
  |skip
 .cases h;exact .inl ⟨_,_,by assumption,by assumption,by assumption,by assumption⟩
 .cases h;exact .inr ⟨_,_,_,_,by assumption,by assumption,by assumption,rfl,by assumption⟩
def LP(x:Value)(l:Array Value):(#[x]++l)[0]?=some x:=by
 rw[Array.getElem?_append_left (by simp)];rfl
def N8(x:Value)(l:Array Value):(#[x]++l).extract 1 (#[x]++l).size=l:=by
 apply Array.ext';simp
def CE (R:Rel P w0 n U g S H a w) (hG:aw GI) (cj:GI w0) {o:Oper} {tk:Bool} {hr:HR} {f:Nat} {args:List cz} (hc:comp P n tk hr o = .call f args) (hd:∀ t,o.dst=some t→t < n∧¬ U t) (hu:∀ t∈(dT.call f args).rd,¬ U t)
  {KA:AV->Prop} {Qp:AV->Prop} (h:kC P GI f (args.map λy=>fz H (AL.ev S y)) (args.any λy=>da (AL.ev S y)) KA Qp) {Kc:Act->World->Prop} {Qc:Exit->Act->World->Prop}
  (hK:∀v g' a' w',g'.base=g.base->g'.old=g.old->Rel P w0 n U g' (aY S o.dst v) H a' w'->KA v->Kc a' w')
  (hP:∀v c hi w',Below w0.heap.size w0 w'->(∀b,w'.heap.size<=b->hi b=0)->RD (nZ w0.heap.size g.old.c hi) w' v c->Qp v->Qc (.panic [{ v:=c,recovered:=false }]) a w'):o.wp P a w Kc Qc:=by
 obtain⟨cl,de,JK,vq⟩:=Kn hc;obtain⟨l1,r1⟩:=R.Jw vq (λy hy t ht=>hu t (adh.2 ⟨y,hy,ht⟩))
 obtain⟨kh,mh⟩:=yn R hG cj (bH:=cl.args.map a.eval) (by simpa using l1) (λi hi cQ=>by
  simp only[acC]at hi;simp only[acM,Array.getElem_map];have:=r1 i hi (by simpa using cQ)
  refine R.fz (by simpa using this) _ λhb=>?_
  exact ad9.2 ⟨_,acy hi,hb⟩) h o.dst hd (Kc:=Kc) (Qc:=Qc) hK hP
 have abe:a.eval (.func f)=.func (.func f) #[] #[]:=rfl;unfold Oper.wp execOp;simp only[de,eP JK,abe,Deferred.ofValue,acK,Sem.run_pure,Result.andThen_ok,invoke,agt,agu];rw[fG kh];exact mh
def yS (R:Rel P w0 n U g S H a w) (hG:aw GI) (cj:GI w0) {o:Oper} {tk:Bool} {hr:HR} {f:cz} {args:List cz} (hc:comp P n tk hr o = .fc f args) (hd:∀ t,o.dst=some t→t < n∧¬ U t) (hu:∀ t∈(dT.fc f args).rd,¬ U t)
  {k:Nat} {first cap:List AV} (Ah:AL.ev S f=.func (.func k) first cap)
  {KA:AV->Prop} {Qp:AV->Prop} (h:kC P GI k ((first++args.map (AL.ev S)++cap).map (fz H)) ((first++args.map (AL.ev S)++cap).any da) KA Qp) {Kc:Act->World->Prop} {Qc:Exit->Act->World->Prop}
  (hK:∀v g' a' w',g'.base=g.base->g'.old=g.old->Rel P w0 n U g' (aY S o.dst v) H a' w'->KA v->Kc a' w')
  (hP:∀v c hi w',Below w0.heap.size w0 w'->(∀b,w'.heap.size<=b->hi b=0)->RD (nZ w0.heap.size g.old.c hi) w' v c->Qp v->Qc (.panic [{ v:=c,recovered:=false }]) a w'):o.wp P a w Kc Qc:=by
 simp only[dT.rd,acF,adh]at hu
 rcases JW hc with⟨cl,f',de,JK,hf,vq⟩|⟨cl,r,name,t,de,JK,jd,rfl,vq⟩
 case inr=>
  obtain⟨l1,r1⟩:=R.Jw vq (λy hy t ht=>hu t (.inr ⟨y,hy,ht⟩));have NZ:=R.ev jd (λt' ht=>hu t' (.inl (by simpa[cz.tmps]using ht)));simp only[AL.ev]at Ah NZ;generalize hS:S t=sv at Ah NZ;split at Ah
  case h_2=>cases Ah
  rename_i ty v;split at Ah
  case h_2=>cases Ah
  rename_i k' hk;cases Ah;generalize OW:a.eval r=cr at NZ;have NZ:=NZ.dL rfl
  cases NZ with
  |iface _ _ cv hv=>
  simp only[List.singleton_append,adn]at h
  obtain⟨kh,mh⟩:=yn R hG cj (bH:=#[cv]++cl.args.map a.eval) (by simp at l1⊢;omega) (λi hi cQ=>by
   simp only[acC]at hi;simp only[acM]
   refine R.fz ?_ _ λhb=>?_
   .cases i with
    |zero=>
     have e2:(#[cv]++cl.args.map a.eval)[0]=cv:=by rw[aeL (by simp)];rfl
     simp only[List.getElem_cons_zero];rw[e2];exact .data _ _ hv
    |succ i=>
     have e2:(#[cv]++cl.args.map a.eval)[i+1]=a.eval (cl.args.toList[i]'(by simp at cQ l1⊢;omega)):=by
      rw[ae9 (by simp)];simp
     simp only[List.getElem_cons_succ,acM];rw[e2];exact r1 i (by simpa using hi) (by simp at cQ l1⊢;omega)
   .exact ad9.2 ⟨_,acy hi,hb⟩) h o.dst hd (Kc:=Kc) (Qc:=Qc) hK hP
  have hm:=Jy (v:=cv) (w:=w) hk;unfold Oper.wp execOp;simp only[de]
  have P2:(resolve a.eval cl o.type).run P w=.ok { target:=.fn (.method name) #[],args:=#[.iface ty cv]++cl.args.map a.eval } w:=by
   unfold resolve;rw[JK];simp[OW]
  simp only[acK,P2,Result.andThen_ok,invoke,LP,callMethod,N8,hm,run_program];rw[fG kh];simp only[Oper.upon];exact mh
 obtain⟨l1,r1⟩:=R.Jw vq (λy hy t ht=>hu t (.inr ⟨y,hy,ht⟩));have W0:=R.ev hf (λt ht=>hu t (.inl ht));rw[Ah]at W0;generalize hcf:a.eval f'=cf at W0
 cases W0 with
 |data _ _ hh=>cases hh
 |func _ _ _ vs us q1 q2 q3 q4=>
  have e_:∀i (hi:i<(first++args.map (AL.ev S)++cap).length)(cQ:i<(vs++cl.args.map a.eval++us).size),RV g.Pr g.al w (first++args.map (AL.ev S)++cap)[i] (vs++cl.args.map a.eval++us)[i]:=by
   intro i hi cQ;simp only[acV,acC]at hi;simp only[Array.length_toList]at l1
   by_cases c1:i<first.length
   .have e1:(first++args.map (AL.ev S)++cap)[i]=first[i]:=by rw[ac9 (by simp;omega),ac9 c1]
    have e2:(vs++cl.args.map a.eval++us)[i]=vs[i]:=by rw[aeL (by simp;omega),aeL (by omega)]
    rw[e1,e2];exact q3 i c1 (by omega)
   .by_cases c2:i<first.length+args.length
    .have e1:(first++args.map (AL.ev S)++cap)[i]=AL.ev S (args[i-first.length]):=by rw[ac9 (by simp;omega),adF (by omega)];simp
     have e2:(vs++cl.args.map a.eval++us)[i]=a.eval (cl.args.toList[i-first.length]'(by simp;omega)):=by
      rw[aeL (by simp;omega),ae9 (by omega)];simp[q1]
     rw[e1,e2];exact r1 _ (by omega) (by simp;omega)
    .have e1:(first++args.map (AL.ev S)++cap)[i]=cap[i-(first.length+args.length)]'(by omega):=by rw[adF (by simp;omega)];simp
     have e2:(vs++cl.args.map a.eval++us)[i]=us[i-(first.length+args.length)]'(by omega):=by
      rw[ae9 (by simp;omega)];simp[q1,l1]
     rw[e1,e2];exact q4 _ (by omega) (by omega)
  obtain⟨kh,mh⟩:=yn R hG cj (bH:=vs++cl.args.map a.eval++us) (by simp at l1⊢;omega) (λi hi cQ=>by
   simp only[acC]at hi;simp only[acM]
   refine R.fz (e_ i hi cQ) _ λhb=>?_
   exact ad9.2 ⟨_,acy hi,hb⟩) h o.dst hd (Kc:=Kc) (Qc:=Qc) hK hP
  unfold Oper.wp execOp;simp only[de,eP JK,hcf,Deferred.ofValue,acK,Sem.run_pure,Result.andThen_ok,invoke];rw[fG kh];simp only[Oper.upon];exact mh
def Oi (R:Rel P w0 n bz g S H a w) (hG:aw GI) (cj:GI w0) {o:Oper} {tk:Bool} {hr:HR} (hd:∀ t,o.dst=some t→t < n) (ee:∀ t,o.dst=some t→t∉(comp P n tk hr o).rd) (cg:∀ d,o.dst=some d→(comp P n tk hr o).jb=true→¬ g.old.bx d)
  {K:an->aq->Prop} {Qp:AV->Prop} (h:bh P GI (comp P n tk hr o) o.dst K Qp S H) {Kc:Act->World->Prop} {Qc:Exit->Act->World->Prop}
  (hK:∀g' S' H' a' w',g'.base=g.base->g'.old=g.old->Rel P w0 n bz g' S' H' a' w'->K S' H'->Kc a' w')
  (hP:∀v c hi w',Below w0.heap.size w0 w'->(∀b,w'.heap.size<=b->hi b=0)->RD (nZ w0.heap.size g.old.c hi) w' v c->Qp v->Qc (.panic [{ v:=c,recovered:=false }]) a w'):
  o.wp P a w Kc Qc:=by
 by_cases bK:(comp P n tk hr o).calm=true
 .rw[yL bK]at h;split at h
  case h_2=>exact h.elim
  rename_i e he
  exact(B7 R rfl bK (λt ht=>⟨hd t ht,id⟩) (λ_ _=>id) ee he).wp λg' a' w' h1 h2 R'=>hK g' _ _ _ _ h1 h2 R' h
 .generalize hc:comp P n tk hr o=op at h bK ee cg
  cases op<;>try (exact absurd rfl bK)
  case alloc t cs=>
   simp only[bh]at h
   cases gz:o.dst with
   |none=>rw[gz]at h;exact h.elim
   |some d=>
    rw[gz]at h;obtain⟨de,hz⟩:=zt hc;unfold zeroCells at hz;split at hz
    case h_2=>cases hz
    rename_i it hi;split at hz
    case h_2=>cases hz
    rename_i z Ad;obtain⟨h1,h2,h3⟩:=gR g.Pr w hz
    refine Bq R gz (hd d gz) (cg d gz rfl) (vs:=z.cells) (ty:=t) (cs:=cs) ?_ (by simpa using h1) (λg' j hj dH=>⟨h2 _ (acy hj),by have:=h3 P g' (.cell d) j hj (by simpa using dH);rwa [Array.getElem_toList]at this⟩) λg' a' w' e1 e2 R'=>hK g' _ _ _ _ e1 e2 R' h
    unfold execOp;simp[de,Instr.alloc,zeroValue,typeInfo,hi,Ad,newVar,newRow]
  case box t size x=>
   simp only[bh]at h
   cases gz:o.dst with
   |none=>rw[gz]at h;exact h.elim
   |some d=>
    rw[gz]at h;obtain⟨xO,xm,hk⟩:=h;obtain⟨x',de,hx⟩:=Ol hc;have hv:=(R.ev hx (λ_ _=>id)).dL (AV.jC xm);have cP:=hv.U_ xm
    have aas:nQ g.Pr w ((AL.ev S x).cells.map AV.aH) (a.eval x').cells:=by
     refine nQ.mk' (by simpa using cP.1) (λi v c e1 e2=>?_) (λi v e1=>?_)
     .simp only[ac1,acE]at e1;obtain⟨u,h1,rfl⟩:=e1;exact(cP.get h1 e2).aH
     .simp only[ac1,acE]at e1;obtain⟨u,h1,rfl⟩:=e1;exact(AV.nz _).trans (cP.one h1)
    refine Bq R gz (hd d gz) (cg d gz rfl) (vs:=(a.eval x').cells) (ty:=t) ?_ aas (λg' j hj dH=>⟨by simp only[acM];exact AV.oX _,by simp only[acM];exact gj _ _ _⟩) λg' a' w' e1 e2 R'=>hK g' _ _ _ _ e1 e2 R' hk
    unfold execOp;simp[de,Instr.box,newVar,newRow]
  case panic x=>
   simp only[bh]at h;obtain⟨x',de,hx⟩:=HT hc;have hv:=R.ev hx (λ_ _=>id);generalize AL.ev S x=v at h hv;generalize l7:a.eval x'=c at hv
   cases v<;>try exact h.elim
   rename_i t v;cases hv;rename_i hv;have nM:=hv;cases nM;rename_i c' nM;unfold Oper.wp execOp;simp only[de,l7,Instr.panic,acK,run_goPanic,Result.andThen_halt];have sq:=R.below;rw[R.base]at sq;refine hP (.iface t v) (.iface t c') g.hi w sq (λb hb=>(R.fresh b hb).1) ?_ h;rw[<-R.base];exact hv
  case call f args=>
   exact CE R hG cj hc (λt ht=>⟨hd t ht,id⟩) (λ_ _=>id) h (λv g' a' w' e1 e2 R' hk=>hK g' _ _ _ _ e1 e2 R' hk) hP
  case fc f args=>
   simp only[bh]at h;split at h
   case h_2=>exact h.elim
   rename_i k first cap Ah;exact yS R hG cj hc (λt ht=>⟨hd t ht,id⟩) (λ_ _=>id) Ah h (λv g' a' w' e1 e2 R' hk=>hK g' _ _ _ _ e1 e2 R' hk) hP
  case other=>exact h.elim
end
section
variable{P:Program}{GI:World->Prop}{w0:World}{n:Nat}{U:Nat->Prop}{g:Gh}{S:an}{H:aq}{a:Act}{w:World}
inductive cw where
 |normal|exit (id:Nat)|ret|panic (v:AV)
def QQ(P:Program)(w0:World)(n:Nat)(old:Old)(Q:cw->an->aq->Prop):Exit->Act->World->Prop
 |.normal,a,w=>∃g S H,g.old=old/\Rel P w0 n bz g S H a w/\Q .normal S H
 |.exit id,a,w=>∃g S H,g.old=old/\Rel P w0 n bz g S H a w/\Q (.exit id) S H
 |.ret,a,w=>∃g S H,g.old=old/\Rel P w0 n bz g S H a w/\Q .ret S H
 |.panic chain,a,w=>a.defers=old.ds/\∃v c hi S H,chain=[{ v:=c,recovered:=false }]/\Below w0.heap.size w0 w/\(∀b,w.heap.size<=b->hi b=0)/\RD (nZ w0.heap.size old.c hi) w v c/\Q (.panic v) S H
 |_,_,_=>False
def wK(Pr:Nat->Nat->Prop)(w:World):RD Pr w bO undef:=.dR [] #[] rfl λi h=>by simp at h
def Rel.Qe(R:Rel P w0 n U g S H a w)(dst:Option Nat)(hd:∀t,dst=some t->t<n):Rel P w0 n U g (Go.AL.aY S dst bO) H (a.put dst undef) w:=
 R.aY dst _ _ hd (.data _ _ (wK _ _)) λ_ _=>trivial
def BE (R:Rel P w0 n U g S H a w) {dr:Bool} {ops:Array Oper} {o:Oper} {b:Bool} (hu:∀ t b,(bD P n dr ops o).guard=some (t,b)→¬ U t)
  (b_:(bD P n dr ops o).ok n=true) (h:aG S (bD P n dr ops o).guard=some b):Region.wanted o (yielded ops a.tmps)=b:=by
 unfold Region.wanted;simp only[bD]at b_ h hu
 cases hg:o.guard with
 |none=>
  rw[hg]at h;simp only[aG,ac0]at h;exact h
 |some p=>
  obtain⟨j,want⟩:=p;rw[hg]at h b_ hu;simp only at h b_ hu⊢
  cases hj:AH ops j with
  |none=>
   rw[hj]at b_;simp only[bB.ok,acA,acJ]at b_;omega
  |some t=>
   rw[hj]at h b_ hu;simp only[bB.ok,acA,acJ]at b_;have ht:t<n:=b_.2;have hs:=R.slot t ht (hu t want rfl)
   have hy:yielded ops a.tmps j=(match a.tmps.getD t undef with|.bool b=>some b|_=>none):=by
    unfold yielded;unfold AH at hj;rw[hj]
    have:t<a.tmps.size:=by rw[R.size];exact ht
    simp[this]
    split<;>simp_all
   rw[hy];simp only[aG]at h;generalize S t=v at h hs;generalize a.tmps.getD t undef=c at hs;split at h
   .cases h;cases hs;rename_i hs;cases hs;rename_i c'
    cases c'<;>cases want<;>rfl
   .cases h;cases hs;rename_i hs;cases hs
    simp_all
   .cases h
def qJ (hG:aw GI) (cj:GI w0) {old:Old} {ops:Array Oper} {Q:cw→an→aq→Prop} {S0:an} {H0:aq} :
  ∀(l:List Nat)(os:List Oper)(g:Gh)(S:an)(H:aq)(a:Act)(w:World),l.map (ops[·]?)=os.map some->(∀o∈os,(bD P n false ops o).ok n=true)->(∀o∈os,∀d∈(bD P n false ops o).jb,¬old.bx d)->g.old=old->Rel P w0 n bz g S H a w->
   bw P GI (os.map (bD P n false ops)) (Q .normal) (λv=>Q (.panic v) S0 H0) S H->wpOps P ops (QQ P w0 n old Q) l a w
 |[],os,g,S,H,a,w,hl,_,_,ho,R,h=>by
  have:os=[]:=by cases os with|nil=>rfl|cons=>simp at hl
  subst this;exact⟨g,S,H,ho,R,h⟩
 |i::l,os,g,S,H,a,w,hl,b_,cg,ho,R,h=>by
  cases os with
  |nil=>simp at hl
  |cons o os=>
   simp only[ac5,aeG]at hl;obtain⟨hi,hl⟩:=hl;have CF:=b_ o acS;simp only[ac5,bw]at h;simp only[wpOps,hi]
   have Ak:∀t,o.dst=some t->t<n/\t∉(bD P n false ops o).op.rd:=by
    intro t ht;simp only[bB.ok,acA]at CF;have h1:=CF.1;rw[show(bD P n false ops o).dst=o.dst from rfl,ht]at h1;simpa using h1
   cases hw:aG S (bD P n false ops o).guard with
   |none=>rw[hw]at h;exact h.elim
   |some b=>
    rw[hw]at h;rw[BE R (λ_ _ _=>id) CF hw]
    cases b with
    |true=>
     simp only[ac3];refine .inl (Oi R hG cj (λt ht=>(Ak t ht).1) (λt ht=>(Ak t ht).2) (λd hd hl=>by rw[ho];exact cg o acS d (by have:(bD P n false ops o).op.jb=true:=hl;simp only[bB.jb,this,ac3];rw[show(bD P n false ops o).dst=o.dst from rfl,hd];simp)) h (λg' S' H' a' w' e1 e2 R' hk=>qJ hG cj l os g' S' H' a' w' hl (λo ho=>b_ o (acH _ ho)) (λo ho=>cg o (acH _ ho)) (e2.trans ho) R' hk) ?_);intro v c hi w' k1 k2 k3 k4;exact⟨by rw[<-ho];exact R.defers,v,c,hi,S0,H0,rfl,k1,k2,by rw[<-ho];exact k3,k4⟩
    |false=>
     simp only[acI,acW];exact qJ hG cj l os g _ H _ w hl (λo ho=>b_ o (acH _ ho)) (λo ho=>cg o (acH _ ho)) ho (R.Qe o.dst λt ht=>(Ak t ht).1) h
def LF (hG:aw GI) (cj:GI w0) {old:Old} {id:Nat} {ops:Array Oper} {Q:cw→an→aq→Prop} (b_:(br P n false ops).all (·.ok n)=true) (cg:∀ o∈br P n false ops,∀ d∈o.jb,¬ old.bx d) (ho:g.old=old) (R:Rel P w0 n bz g S H a w)
  (h:bw P GI (br P n false ops) (Q .normal) (λv=>Q (.panic v) S H) S H):(Code.region id ops false).wp P (QQ P w0 n old Q) a w:=by
 refine wp_region (qJ hG cj (S0:=S) (H0:=H) (List.range ops.size) ops.toList g S H a w ?_ (λo kT=>?_) (λo kT=>cg _ (afH kT)) ho R h)
 .apply adP;intro i;simp only[ac1]
  by_cases hi:i<ops.size
  .simp[hi]
  .simp[hi]
 .simp only[br,aeu,acN,Function.comp]at b_;exact b_ o kT
end
inductive Acc where
 |no|rd (r:Option Nat)|soft (r:Option Nat)|wr (r:Option Nat)
def HR.one:HR->Option Nat
 |.box r=>some r
 |_=>none
def dT.acc:dT->Acc
 |.load .ref ..=>.no
 |.load hr ..=>.rd hr.one
 |.loadT hr _=>.soft hr.one
 |.store hr ..=>.wr hr.one
 |_=>.no
def meets:Option Nat->Option Nat->Bool
 |some a,some b=>a==b
 |_,_=>true
def Acc.conflict:Acc->Acc->Bool
 |.no,_|_,.no=>false
 |.rd _,.rd _|.rd _,.soft _|.soft _,.rd _=>false
 |.rd a,.wr b|.wr a,.rd b|.soft a,.soft b|.soft a,.wr b|.wr a,.soft b|.wr a,.wr b=>meets a b
def dT.wr:dT->List Nat
 |.mv true x=>x.tmps
 |.store _ _ _ x=>x.tmps
 |.append _ _ _ _ x _=>x.tmps
 |_=>[]
def bB.reads(o:bB):List Nat:=o.op.rd++(match o.guard with|some (t,_)=>[t]|none=>[])
def bB.writes(o:bB):List Nat:=o.dst.toList++o.op.wr
def bB.apart(x y:bB):Bool:=
 x.writes.all (λt=>!y.reads.contains t&&!y.writes.contains t)&&y.writes.all (λt=>!x.reads.contains t)&&!x.op.acc.conflict y.op.acc
section
variable{P:Program}{GI:World->Prop}
def kP(P:Program)(GI:World->Prop)(op:dT)(dst:Option Nat)(S:an)(H:aq)(e:aQ):Prop:=
 match op with
 |.alloc _ _=>match dst with
  |some d=>e={ v:=.box d 0 }
  |none=>False
 |.call f args=>(args.any λy=>da (ev S y))=false/\kC P GI f (args.map λy=>fz H (ev S y)) (args.any λy=>da (ev S y)) (λv=>e={ v:=v }) (λ_=>False)
 |.fc f args=>match ev S f with
  |.func (.func k) first cap=>((first++args.map (ev S)++cap).any da)=false/\kC P GI k ((first++args.map (ev S)++cap).map (fz H)) ((first++args.map (ev S)++cap).any da) (λv=>e={ v:=v }) (λ_=>False)
  |_=>False
 |.box ..|.panic _|.other=>False
 |op=>aD S H op=some e
def jf(P:Program)(GI:World->Prop)(op:dT)(dst:Option Nat)(K:an->aq->Prop)(S:an)(H:aq):Prop:=
 match op with
 |.alloc _ _=>match dst with
  |some d=>K (au S d (.box d 0)) H
  |none=>False
 |.box ..|.panic _|.other=>False
 |.call f args=>(args.any λy=>da (ev S y))=false/\bh P GI (.call f args) dst K (λ_=>False) S H
 |.fc f args=>(match ev S f with|.func _ first cap=>(first++args.map (ev S)++cap).any da|_=>true)=false/\bh P GI (.fc f args) dst K (λ_=>False) S H
 |op=>bh P GI op dst K (λ_=>False) S H
def AK{op:dT}{dst:Option Nat}{K:an->aq->Prop}{S:an}{H:aq}(h:jf P GI op dst K S H):∃e,kP P GI op dst S H e/\K (e.S S dst) (e.H H):=by
 cases op
 case alloc t z=>
  cases dst with
  |none=>exact h.elim
  |some d=>exact⟨_,rfl,h⟩
 case call f args=>
  obtain⟨hb,out,h1,h2,h3,h4⟩:=h
  cases out with
  |ret v=>exact⟨{ v:=v },⟨hb,.ret v,h1,h2,h3,rfl⟩,h4⟩
  |panic v=>exact h4.elim
 case fc f args=>
  simp only[jf,bh]at h;simp only[kP];obtain⟨hb,h⟩:=h;split at h
  .rename_i k first cap hf;rw[hf]at hb;obtain⟨out,h1,h2,h3,h4⟩:=h
   cases out with
   |ret v=>exact⟨{ v:=v },by(try simp only[hf]);exact⟨hb,.ret v,h1,h2,h3,rfl⟩,h4⟩
   |panic v=>exact h4.elim
  .exact h.elim
 case box=>exact h.elim
 case panic=>exact h.elim
 case other=>exact h.elim
 all_goals
  simp only[jf,bh]at h;split at h
  case h_2=>exact h.elim
  rename_i e he;exact⟨e,he,h⟩
def cq(P:Program)(GI:World->Prop):List bB->(an->aq->Prop)->an->aq->Prop
 |[],K,S,H=>K S H
 |o::rest,K,S,H=>match aG S o.guard with
  |some true=>jf P GI o.op o.dst (cq P GI rest K) S H
  |some false=>cq P GI rest K (aY S o.dst bO) H
  |none=>False
def eZ(P:Program)(GI:World->Prop)(o:bB)(S:an)(H:aq)(e:aQ):Prop:=
 match aG S o.guard with
 |some true=>kP P GI o.op o.dst S H e
 |some false=>e={ v:=bO }
 |none=>False
def sh {o:bB} {rest:List bB} {K:an→aq→Prop} {S:an} {H:aq} (h:cq P GI (o::rest) K S H) :
  ∃e,eZ P GI o S H e/\cq P GI rest K (e.S S o.dst) (e.H H):=by
 simp only[cq]at h;unfold eZ;split at h
 .exact AK h
 .exact⟨_,rfl,h⟩
 .exact h.elim
def bI{S S':an}{y:cz}(h:∀t∈y.tmps,S t=S' t):ev S y=ev S' y:=by
 cases y with
 |t k=>exact h k (by simp[cz.tmps])
 |c v=>rfl
 |f k=>rfl
 |m k Xn=>simp only[ev,h k (by simp[cz.tmps])]
def vc{S S':an}{ys:List cz}(h:∀y∈ys,∀t∈y.tmps,S t=S' t):ys.map (ev S)=ys.map (ev S'):=
 adC λy hy=>bI (h y hy)
def tV:Acc->aq->aq->Prop
 |.no,_,_=>True
 |.rd none,H,H'=>∀i,(H i).map (·.map AV.aH)=(H' i).map (·.map AV.aH)
 |.rd (some r),H,H'=>(H r).map (·.map AV.aH)=(H' r).map (·.map AV.aH)
 |.soft none,H,H'|.wr none,H,H'=>H=H'
 |.soft (some r),H,H'|.wr (some r),H,H'=>H r=H' r
def Ln{ag:Bool}{size off:Nat}{cs fj:List AV}(h:cs.map AV.aH=fj.map AV.aH):b0 ag size (cs.drop off)=b0 ag size (fj.drop off):=by
 have hl:cs.length=fj.length:=by have:=congrArg List.length h;simpa using this
 have hd:(cs.drop off).map AV.aH=(fj.drop off).map AV.aH:=by rw[ae8,ae8,h]
 generalize hx:cs.drop off=xs at hd;generalize hy:fj.drop off=ys at hd
 have pz:xs.length=ys.length:=by have:=congrArg List.length hd;simpa using this
 unfold b0
 have e1:(xs.take size).map AV.aH=(ys.take size).map AV.aH:=by rw[aeV,aeV,hd]
 have e2:(xs[0]?).map AV.aH=(ys[0]?).map AV.aH:=by
  have:=congrArg (·[0]?) hd;simpa using this
 rw[e1,e2,pz]
def Fe{S S':an}{H H':aq}{op:dT}(hS:∀t∈op.rd,S t=S' t)(hH:tV op.acc H H'):aD S H op=aD S' H' op:=by
 cases op
 case build z ps=>
  have:(ps.map λ(o,s,x)=>(o,s,ev S x))=(ps.map λ(o,s,x)=>(o,s,ev S' x)):=
   adC λq hq=>by
    have:=bI (S:=S) (S':=S') (y:=q.2.2) λt ht=>hS t (adh.2 ⟨q,hq,ht⟩)
    simp[this]
  simp only[aD,this]
 case buildSlice t e s ps=>
  have:=vc (S:=S) (S':=S') (ys:=ps) λy hy t ht=>hS t (adh.2 ⟨y,hy,ht⟩)
  simp only[aD,this]
 case Dz fn f c=>
  simp only[dT.rd,acF,adh]at hS
  have h1:(f.map λx=>(ev S x).aH)=(f.map λx=>(ev S' x).aH):=adC λy hy=>by rw[bI λt ht=>hS t (.inl ⟨y,hy,ht⟩)]
  have h2:(c.map λx=>(ev S x).aH)=(c.map λx=>(ev S' x).aH):=adC λy hy=>by rw[bI λt ht=>hS t (.inr ⟨y,hy,ht⟩)]
  simp only[aD,h1,h2]
 case nc x lo hi=>
  simp only[dT.rd,acF,adh]at hS
  have h0:=bI (S:=S) (S':=S') (y:=x) λt ht=>hS t (.inl ht)
  have h1:lo.map (ev S)=lo.map (ev S'):=by cases lo with|none=>rfl|some y=>simp only[Option.map_some,ac0];exact bI λt ht=>hS t (.inr ⟨y,.inl (by simp),ht⟩)
  have h2:hi.map (ev S)=hi.map (ev S'):=by cases hi with|none=>rfl|some y=>simp only[Option.map_some,ac0];exact bI λt ht=>hS t (.inr ⟨y,.inr (by simp),ht⟩)
  simp only[aD,h0,h1,h2]
 case lH s x lo hi=>
  simp only[dT.rd,acF,adh]at hS
  have h0:=bI (S:=S) (S':=S') (y:=x) λt ht=>hS t (.inl ht)
  have h1:lo.map (ev S)=lo.map (ev S'):=by cases lo with|none=>rfl|some y=>simp only[Option.map_some,ac0];exact bI λt ht=>hS t (.inr ⟨y,.inl (by simp),ht⟩)
  have h2:hi.map (ev S)=hi.map (ev S'):=by cases hi with|none=>rfl|some y=>simp only[Option.map_some,ac0];exact bI λt ht=>hS t (.inr ⟨y,.inr (by simp),ht⟩)
  simp only[aD,h0,h1,h2]
 case load hr ag s x=>
  have e:=bI (S:=S) (S':=S') (y:=x) hS;simp only[aD,e];split
  .rename_i i off he;split
   case isFalse=>rfl
   rename_i b_
   have hd:(H i).map (·.map AV.aH)=(H' i).map (·.map AV.aH):=by
    cases hr with
    |any=>exact hH i
    |ref=>cases b_
    |box r=>
     have:i=r:=by simpa[HR.okB]using b_
     subst this;exact hH
   cases h1:H i<;>cases h2:H' i<;>rw[h1,h2]at hd<;>simp only[Option.map_none,Option.map_some,reduceCtorEq,ac0]at hd
   .simp only[Ln hd]
  .rfl
  .rfl
 case loadT hr x=>
  have e:=bI (S:=S) (S':=S') (y:=x) hS;simp only[aD,e];split
  .rename_i i off he;split
   case isFalse=>rfl
   rename_i b_
   have hd:H i=H' i:=by
    cases hr with
    |any=>cases(show H=H' from hH);rfl
    |ref=>cases b_
    |box r=>
     have:i=r:=by simpa[HR.okB]using b_
     subst this;exact hH
   rw[hd]
  .rfl
 case store hr s x y=>
  simp only[dT.rd,acF]at hS
  have e1:=bI (S:=S) (S':=S') (y:=x) λt ht=>hS t (.inl ht)
  have e2:=bI (S:=S) (S':=S') (y:=y) λt ht=>hS t (.inr ht)
  simp only[aD,e1,e2];split
  .rename_i i off he;split
   case isFalse=>rfl
   rename_i b_
   have hd:H i=H' i:=by
    cases hr with
    |any=>cases(show H=H' from hH);rfl
    |ref=>cases b_
    |box r=>
     have:i=r:=by simpa[HR.okB]using b_
     subst this;exact hH
   rw[hd]
  .rfl
 case pick x y z=>
  simp only[dT.rd,acF]at hS;simp only[aD,bI λt ht=>hS t (.inl (.inl ht)),bI λt ht=>hS t (.inl (.inr ht)),bI λt ht=>hS t (.inr ht)]
 case bin=>simp only[dT.rd,acF]at hS;simp only[aD,bI λt ht=>hS t (.inl ht),bI λt ht=>hS t (.inr ht)]
 case Bp=>simp only[dT.rd,acF]at hS;simp only[aD,bI λt ht=>hS t (.inl ht),bI λt ht=>hS t (.inr ht)]
 case eqs=>simp only[dT.rd,acF]at hS;simp only[aD,bI λt ht=>hS t (.inl ht),bI λt ht=>hS t (.inr ht)]
 case mZ xs=>
  have:=vc (S:=S) (S':=S') (ys:=xs) λy hy t ht=>hS t (adh.2 ⟨y,hy,ht⟩)
  simp only[aD,this]
 case ng=>simp only[dT.rd,acF]at hS;simp only[aD,bI λt ht=>hS t (.inl ht),bI λt ht=>hS t (.inr ht)]
 case lK=>simp only[dT.rd,acF]at hS;simp only[aD,bI λt ht=>hS t (.inl ht),bI λt ht=>hS t (.inr ht)]
 case lookup=>simp only[dT.rd,acF]at hS;simp only[aD,bI λt ht=>hS t (.inl ht),bI λt ht=>hS t (.inr ht)]
 case indexAddr=>simp only[dT.rd,acF]at hS;simp only[aD,bI λt ht=>hS t (.inl ht),bI λt ht=>hS t (.inr ht)]
 case m_=>simp only[dT.rd,acF]at hS;simp only[aD,bI λt ht=>hS t (.inl ht),bI λt ht=>hS t (.inr ht)]
 case append=>simp only[dT.rd,acF]at hS;simp only[aD,bI λt ht=>hS t (.inl ht),bI λt ht=>hS t (.inr ht)]
 case max=>simp only[dT.rd,acF]at hS;simp only[aD,bI λt ht=>hS t (.inl ht),bI λt ht=>hS t (.inr ht)]
 case min=>simp only[dT.rd,acF]at hS;simp only[aD,bI λt ht=>hS t (.inl ht),bI λt ht=>hS t (.inr ht)]
 all_goals first
  |rfl
  |simp only[aD,bI hS]
def BO{H H':aq}{v:AV}(h:p9 v=false):gM H v=gM H' v:=by cases v<;>first|rfl|cases h
def En{H H':aq}{v:AV}(h:da v=false):fz H v=fz H' v:=by
 cases v<;>first|rfl|skip
 case box=>cases h
 case func fn first cap=>
  simp only[da,aev,adH,ad8]at h;simp only[fz]
  congr 1
  .exact adC λy hy=>BO (h.1 y hy)
  .exact adC λy hy=>BO (h.2 y hy)
def I4{S S':an}{H H':aq}{op:dT}{dst:Option Nat}{e:aQ}(hS:∀t∈op.rd,S t=S' t)(hH:tV op.acc H H')(h:kP P GI op dst S H e):kP P GI op dst S' H' e:=by
 cases op
 case alloc=>exact h
 case box=>exact h
 case panic=>exact h
 case other=>exact h
 case call f args=>
  simp only[dT.rd,adh]at hS;simp only[kP]at h⊢;obtain⟨hb,h⟩:=h
  have h2:(args.any λy=>da (ev S y))=(args.any λy=>da (ev S' y)):=by
   rw[adE];simp only[ad9]
   constructor
   .rintro⟨y,hy,hb⟩;exact⟨y,hy,by rw[<-bI λt ht=>hS t ⟨y,hy,ht⟩];exact hb⟩
   .rintro⟨y,hy,hb⟩;exact⟨y,hy,by rw[bI λt ht=>hS t ⟨y,hy,ht⟩];exact hb⟩
  have h1:(args.map λy=>fz H (ev S y))=(args.map λy=>fz H' (ev S' y)):=adC λy hy=>by
   rw[<-bI λt ht=>hS t ⟨y,hy,ht⟩];simp only[adH,ad8]at hb;exact En (hb y hy)
  rw[<-h1,<-h2];exact⟨hb,h⟩
 case fc f args=>
  simp only[dT.rd,acF,adh]at hS;simp only[kP]at h⊢
  have h1:=vc (S:=S) (S':=S') (ys:=args) λy hy t ht=>hS t (.inr ⟨y,hy,ht⟩)
  rw[<-bI λt ht=>hS t (.inl ht)];split at h
  case h_2=>exact h.elim
  obtain⟨hb,h⟩:=h;rw[<-h1];refine⟨hb,?_⟩
  have h3:∀l:List AV,l.any da=false->l.map (fz H)=l.map (fz H'):=λl hl=>adC λy hy=>by
   simp only[adH,ad8]at hl;exact En (hl y hy)
  rw[<-h3 _ hb];exact h
 all_goals
  simp only[kP]at h⊢;rw[<-Fe hS hH];exact h
def aQ.wO{e:aQ}{S:an}{dst:Option Nat}{t:Nat}(h1:dst≠some t)(h2:e.dm≠some t):e.S S dst t=S t:=by
 unfold aQ.S
 cases dst with
 |none=>
  cases hd:e.dm with
  |none=>rfl
  |some k=>simp only[aY];exact aN _ _ (λh=>h2 (by rw[hd,h]))
 |some d=>
  simp only[aY];rw[aN _ _ (λh=>h1 (by rw[h]))]
  cases hd:e.dm with
  |none=>rfl
  |some k=>exact aN _ _ (λh=>h2 (by rw[hd,h]))
def Bk(acc:Acc)(H:aq):Option (Nat×List AV)->Prop
 |none=>True
 |some (i,cs)=>match acc with
  |.soft r=>meets r (some i)=true/\∃old,H i=some old/\old.map AV.aH=cs.map AV.aH
  |.wr r=>meets r (some i)=true
  |_=>False
def Be{hr:HR}{i:Nat}(h:hr.okB i=true):meets hr.one (some i)=true:=by
 cases hr with
 |any=>rfl
 |ref=>cases h
 |box r=>simp only[HR.okB]at h;simp only[HR.one,meets];rw[ac7]at h⊢;exact h.symm
def iD(v:AV):v.aH=v.aH.aH:=(AV.idem v).symm
def N7{S:an}{H:aq}{op:dT}{e:aQ}(h:aD S H op=some e):(∀t,e.dm=some t->t∈op.wr)/\Bk op.acc H e.hw:=by
 cases op
 case mv tk x=>
  simp only[aD]at h
  split at h<;>cases h
  .rename_i oy;subst oy;refine⟨λt ht=>?_,trivial⟩
   cases x<;>simp only[bG]at ht<;>cases ht
   simp[dT.wr,cz.tmps]
  .exact⟨λt ht=>(by cases ht),trivial⟩
 case store hr s x y=>
  simp only[aD]at h
  split at h<;>try cases h
  split at h<;>try cases h
  split at h<;>try cases h
  split at h<;>cases h
  rename_i b_ _ _ _ _;refine⟨λt ht=>?_,Be (by assumption)⟩
  cases y<;>simp only[bG]at ht<;>cases ht
  simp[dT.wr,cz.tmps]
 case loadT hr x=>
  simp only[aD]at h
  split at h<;>try cases h
  split at h<;>try cases h
  split at h<;>try cases h
  split at h<;>cases h
  refine⟨λt ht=>(by cases ht),Be (by assumption),_,by assumption,?_⟩;rename_i cs pC _ v hv;rw[List.map_set];obtain⟨av,rfl⟩:=acT.1 hv;apply aeQ (by simp);intro j h1 h2;rw[ae5];split
  .rename_i hj;subst hj;simp only[acM];exact iD _
  .rfl
 case append t e s b x y=>
  simp only[aD]at h;split at h
  .split at h<;>cases h
   exact⟨λt ht=>(by cases ht),trivial⟩
  .split at h<;>cases h
   refine⟨λt ht=>?_,trivial⟩
   cases x<;>simp only[bG]at ht<;>cases ht
   simp[dT.wr,cz.tmps]
  .cases h
 all_goals
  simp only[aD]at h
  first
   |(cases h;done)
   |(simp only[acE]at h;obtain⟨_,_,rfl⟩:=h;exact⟨λt ht=>(by cases ht),trivial⟩)
   |((repeat' split at h)<;>first|(cases h;done)|(cases h;exact⟨λt ht=>(by cases ht),trivial⟩)|(simp only[acE]at h;obtain⟨_,_,rfl⟩:=h;exact⟨λt ht=>(by cases ht),trivial⟩))
def IK{S:an}{H:aq}{op:dT}{dst:Option Nat}{e:aQ}(h:kP P GI op dst S H e):(∀t,e.dm=some t->t∈op.wr)/\Bk op.acc H e.hw:=by
 cases op
 case alloc=>
  simp only[kP]at h;split at h
  .subst h;exact⟨λt ht=>(by cases ht),trivial⟩
  .exact h.elim
 case box=>exact h.elim
 case panic=>exact h.elim
 case other=>exact h.elim
 case call f args=>
  obtain⟨_,out,_,_,_,h4⟩:=h
  cases out with
  |ret v=>cases(show e=_ from h4);exact⟨λt ht=>(by cases ht),trivial⟩
  |panic v=>exact h4.elim
 case fc f args=>
  simp only[kP]at h;split at h
  .obtain⟨_,out,_,_,_,h4⟩:=h
   cases out with
   |ret v=>cases(show e=_ from h4);exact⟨λt ht=>(by cases ht),trivial⟩
   |panic v=>exact h4.elim
  .exact h.elim
 all_goals exact N7 h
def gK{S:an}{H:aq}{o:bB}{e:aQ}(h:eZ P GI o S H e):(∀t,e.dm=some t->t∈o.op.wr)/\Bk o.op.acc H e.hw:=by
 unfold eZ at h;split at h
 .exact IK h
 .subst h;exact⟨λt ht=>(by cases ht),trivial⟩
 .exact h.elim
def Ba{S S':an}{gd:Option (Nat×Bool)}(h:∀t b,gd=some (t,b)->S t=S' t):aG S gd=aG S' gd:=by
 cases gd with
 |none=>rfl
 |some p=>obtain⟨t,b⟩:=p;simp only[aG,h t b rfl]
def uk{S S':an}{H H':aq}{o:bB}{e:aQ}(hS:∀t∈o.reads,S t=S' t)(hH:tV o.op.acc H H')(h:eZ P GI o S H e):eZ P GI o S' H' e:=by
 unfold eZ at*
 have hg:aG S o.guard=aG S' o.guard:=Ba λt b Cc=>hS t (by simp[bB.reads,Cc])
 rw[<-hg];split at h
 .exact I4 (λt ht=>hS t (by simp[bB.reads,ht])) hH h
 .exact h
 .exact h
def CH(a b:Acc):a.conflict b=b.conflict a:=by
 cases a<;>cases b<;>simp only[Acc.conflict]<;>(rename_i x y;cases x<;>cases y<;>simp only[meets];rw[adE,ac7,ac7];exact eq_comm)
def apart_spec {x y:bB} (h:x.apart y=true) :
  (∀t∈x.writes,t∉y.reads/\t∉y.writes)/\(∀t∈y.writes,t∉x.reads)/\x.op.acc.conflict y.op.acc=false:=by
 simp only[bB.apart,acA,acN,adx]at h;obtain⟨⟨h1,h2⟩,h3⟩:=h;refine⟨λt ht=>?_,λt ht=>?_,h3⟩
 .have:=h1 t ht;simpa using this
 .have:=h2 t ht;simpa using this
def BH{x y:Acc}(hc:x.conflict y=false){e:aQ}{H:aq}(hw:Bk y H e.hw):tV x H (e.H H):=by
 have refl:∀{H':aq},H=H'->tV x H H':=by
  rintro _ rfl
  cases x with
  |no=>trivial
  |rd r=>cases r<;>simp[tV]
  |soft r=>cases r<;>simp[tV]
  |wr r=>cases r<;>simp[tV]
 unfold aQ.H
 cases hh:e.hw with
 |none=>exact refl rfl
 |some p=>
  obtain⟨i,cs⟩:=p;rw[hh]at hw;simp only
  cases x with
  |no=>trivial
  |rd r=>
   cases y with
   |no=>exact hw.elim
   |rd=>exact hw.elim
   |soft q=>
    obtain⟨_,old,h1,h2⟩:=hw
    have key:∀j,(H j).map (·.map AV.aH)=(au H i (some cs) j).map (·.map AV.aH):=by
     intro j
     by_cases hj:j=i
     .subst hj;rw[aK,h1];simp[h2]
     .rw[aN _ _ hj]
    cases r with
    |none=>exact key
    |some r=>exact key r
   |wr q=>
    cases r with
    |none=>cases q<;>simp[Acc.conflict,meets]at hc
    |some r=>
     cases q with
     |none=>simp[Acc.conflict,meets]at hc
     |some q=>
      simp only[Acc.conflict,meets,adj]at hc
      have hq:q=i:=by simpa[Bk,meets]using hw
      subst hq;simp only[tV];rw[aN _ _ hc]
  |soft r=>
   have bP:∀q,meets q (some i)=true->meets r q=false->∃r',r=some r'/\r'≠i:=by
    intro q h1 h2
    cases r with
    |none=>cases q<;>simp[meets]at h2
    |some r=>
     cases q with
     |none=>simp[meets]at h2
     |some q=>
      simp only[meets,ac7,adj]at h1 h2;exact⟨r,rfl,by rw[<-h1];exact h2⟩
   cases y with
   |no=>exact hw.elim
   |rd=>exact hw.elim
   |soft q=>
    obtain⟨r',rfl,hn⟩:=bP q hw.1 hc;simp only[tV];rw[aN _ _ hn]
   |wr q=>
    obtain⟨r',rfl,hn⟩:=bP q hw hc;simp only[tV];rw[aN _ _ hn]
  |wr r=>
   have bP:∀q,meets q (some i)=true->meets r q=false->∃r',r=some r'/\r'≠i:=by
    intro q h1 h2
    cases r with
    |none=>cases q<;>simp[meets]at h2
    |some r=>
     cases q with
     |none=>simp[meets]at h2
     |some q=>
      simp only[meets,ac7,adj]at h1 h2;exact⟨r,rfl,by rw[<-h1];exact h2⟩
   cases y with
   |no=>exact hw.elim
   |rd=>exact hw.elim
   |soft q=>
    obtain⟨r',rfl,hn⟩:=bP q hw.1 hc;simp only[tV];rw[aN _ _ hn]
   |wr q=>
    obtain⟨r',rfl,hn⟩:=bP q hw hc;simp only[tV];rw[aN _ _ hn]
def tV.symm{x:Acc}{H H':aq}(h:tV x H H'):tV x H' H:=by
 cases x with
 |no=>trivial
 |rd r=>cases r with
  |none=>exact λi=>(h i).symm
  |some r=>exact Eq.symm h
 |soft r=>cases r<;>exact Eq.symm h
 |wr r=>cases r<;>exact Eq.symm h
def fy{o:bB}{t:Nat}(h:o.dst=some t\/t∈o.op.wr):t∈o.writes:=by
 rcases h with h|h<;>simp[bB.writes,h]
def xi{x y:bB}{S:an}{H:aq}{ex ey:aQ}(ha:x.apart y=true)(hy:eZ P GI y S H ey)(hx:eZ P GI x S H ex):eZ P GI x (ey.S S y.dst) (ey.H H) ex:=by
 obtain⟨h1,h2,h3⟩:=apart_spec ha;obtain⟨d1,d2⟩:=gK hy;refine uk (λt ht=>?_) (BH h3 d2) hx;rw[aQ.wO (λh=>h2 t (fy (.inl h)) ht) (λh=>h2 t (fy (.inr (d1 t h))) ht)]
def vF{x y:bB}{S:an}{H:aq}{ex ey:aQ}(ha:x.apart y=true)(hx:eZ P GI x S H ex)(hy:eZ P GI y (ex.S S x.dst) (ex.H H) ey):eZ P GI y S H ey:=by
 obtain⟨h1,h2,h3⟩:=apart_spec ha;obtain⟨d1,d2⟩:=gK hx;refine uk (λt ht=>?_) (BH (by rw[CH];exact h3) d2).symm hy;rw[aQ.wO (λh=>(h1 t (fy (.inl h))).1 ht) (λh=>(h1 t (fy (.inr (d1 t h)))).1 ht)]
def aQ.aav(e:aQ)(S:an)(dst:Option Nat)(t:Nat):e.S S dst t=if dst=some t then e.v else if e.dm=some t then(S t).aH else S t:=by
 unfold aQ.S
 cases dst with
 |none=>
  rw[if_neg (by simp)]
  cases e.dm with
  |none=>rfl
  |some k=>
   simp only[aY,ac0]
   by_cases h:k=t
   .subst h;simp[aK]
   .rw[if_neg h];exact aN _ _ (λhh=>h hh.symm)
 |some d=>
  simp only[aY,ac0]
  by_cases hd:d=t
  .subst hd;simp[aK]
  .rw[if_neg hd,aN _ _ (λhh=>hd hh.symm)]
   cases e.dm with
   |none=>rfl
   |some k=>
    simp only[ac0]
    by_cases h:k=t
    .subst h;simp[aK]
    .rw[if_neg h];exact aN _ _ (λhh=>h hh.symm)
def A0 {x y:bB} {S:an} {ex ey:aQ} (ha:x.apart y=true) (dx:∀ t,ex.dm=some t→t∈x.op.wr) (dy:∀ t,ey.dm=some t→t∈y.op.wr) :
  ey.S (ex.S S x.dst) y.dst=ex.S (ey.S S y.dst) x.dst:=by
 obtain⟨h1,h2,h3⟩:=apart_spec ha
 funext t
 simp only[aQ.aav]
 by_cases hx:x.dst=some t\/ex.dm=some t
 .have hxw:t∈x.writes:=fy (hx.imp id (dx t))
  have F3:y.dst≠some t:=λh=>(h1 t hxw).2 (fy (.inl h))
  have hy2:ey.dm≠some t:=λh=>(h1 t hxw).2 (fy (.inr (dy t h)))
  simp only[if_neg F3,if_neg hy2]
 .simp only[not_or]at hx;simp only[if_neg hx.1,if_neg hx.2]
def By {x y:bB} {H:aq} {ex ey:aQ} (ha:x.apart y=true) (dx:Bk x.op.acc H ex.hw) (dy:Bk y.op.acc H ey.hw) :
  ey.H (ex.H H)=ex.H (ey.H H):=by
 obtain⟨_,_,h3⟩:=apart_spec ha;unfold aQ.H
 cases hx:ex.hw with
 |none=>rfl
 |some p=>
  cases hy:ey.hw with
  |none=>rfl
  |some q=>
   obtain⟨i,cs⟩:=p;obtain⟨j,ds⟩:=q;rw[hx]at dx;rw[hy]at dy;simp only
   have bP:i≠j:=by
    have key:∀a b:Option Nat,meets a (some i)=true->meets b (some j)=true->meets a b=false->i≠j:=by
     intro a b h1 h2 h3
     cases a with
     |none=>cases b<;>simp[meets]at h3
     |some a=>
      cases b with
      |none=>simp[meets]at h3
      |some b=>
       simp only[meets,ac7,adj]at h1 h2 h3;rw[<-h1,<-h2];exact h3
    generalize x.op.acc=ax at dx h3;generalize y.op.acc=ay at dy h3
    cases ax<;>cases ay<;>first|(exact dx.elim)|(exact dy.elim)|skip
    .exact key _ _ dx.1 dy.1 h3
    .exact key _ _ dx.1 dy h3
    .exact key _ _ dx dy.1 h3
    .exact key _ _ dx dy h3
   funext k
   by_cases h1:k=i
   .subst h1;rw[aN _ _ bP,aK,aK]
   .by_cases h2:k=j
    .subst h2;rw[aK,aN _ _ h1,aK]
    .rw[aN _ _ h2,aN _ _ h1,aN _ _ h1,aN _ _ h2]
end
section
variable{P:Program}{GI:World->Prop}{md:Region.Mode}{ops:Array Oper}{n:Nat}
def jZ(P:Program)(n:Nat)(ops:Array Oper)(i:Nat):Option bB:=(ops[i]?).map (bD P n true ops)
def Hu(P:Program)(GI:World->Prop)(n:Nat)(ops:Array Oper)(i:Nat)(K:an->aq->Prop)(S:an)(H:aq):Prop:=
 match jZ P n ops i with
 |none=>False
 |some o=>∃e,eZ P GI o S H e/\K (e.S S o.dst) (e.H H)
def vW(P:Program)(GI:World->Prop)(n:Nat)(md:Region.Mode)(ops:Array Oper)(QA:an->aq->Prop):Nat->Array Bool->an->aq->Prop
 |0,listed,S,H=>Region.ready md ops listed=[]/\QA S H
 |fuel+1,listed,S,H=>(Region.ready md ops listed=[]->QA S H)/\∀i∈Region.ready md ops listed,Hu P GI n ops i (vW P GI n md ops QA fuel (listed.setIfInBounds i true)) S H
def Dn{listed:Array Bool}{i:Nat}(h:i∈Region.ready md ops listed):∃o,ops[i]?=some o/\jZ P n ops i=some (bD P n true ops o):=by
 obtain⟨_,o,ho,_⟩:=aeD.1 h;exact⟨o,ho,by simp[jZ,ho]⟩
def J9 {QA:an→aq→Prop} {i:Nat} {oi:bB} {e:aQ} (hi:jZ P n ops i=some oi) :
  ∀(fuel:Nat)(listed:Array Bool)(S:an)(H:aq),
   (∀j o aj,ops[j]?=some o->jZ P n ops j=some aj->j≠i->listed.getD j true=false->(∀ed∈o.after,Region.binds md ed=true->ed.on≠i)->oi.apart aj=true)->
   i∈Region.ready md ops listed->eZ P GI oi S H e->
   vW P GI n md ops QA fuel (listed.setIfInBounds i true) (e.S S oi.dst) (e.H H)->vW P GI n md ops QA (fuel+1) listed S H:=by
 intro fuel
 induction fuel with
 |zero=>
  intro listed S H _ hr hy hK;refine⟨λh=>(by rw[h]at hr;cases hr),λj hj=>?_⟩
  by_cases fh:j=i
  .subst fh;unfold Hu;rw[hi];exact⟨e,hy,hK⟩
  .have:=afo hj fh;rw[hK.1]at this;cases this
 |succ fuel ih=>
  intro listed S H qg hr hy hK;refine⟨λh=>(by rw[h]at hr;cases hr),λj hj=>?_⟩
  by_cases fh:j=i
  .subst fh;unfold Hu;rw[hi];exact⟨e,hy,hK⟩
  .have h1:=hK.2 j (afo hj fh);obtain⟨DT,o,ho,e_⟩:=aeD.1 hj
   have sT:jZ P n ops j=some (bD P n true ops o):=by simp[jZ,ho]
   have SR:∀ed∈o.after,Region.binds md ed=true->ed.on≠i:=λed WT hb heq=>by
    have h1:=e_ ed WT hb;have h0:=(aeD.1 hr).1;rw[heq]at h1;rcases adK i listed.size with h'|h'
    .simp[h']at h0 h1;rw[h0]at h1;cases h1
    .simp[aej h']at h1
   have ky:=qg j o _ ho sT fh DT SR;unfold Hu at h1⊢;rw[sT]at h1⊢;obtain⟨ej,Ml,UK⟩:=h1;have Cm:=vF ky hy Ml;refine⟨ej,Cm,?_⟩
   have Ax:∀k o' ak,ops[k]?=some o'->jZ P n ops k=some ak->k≠i->(listed.setIfInBounds j true).getD k true=false->(∀ed∈o'.after,Region.binds md ed=true->ed.on≠i)->oi.apart ak=true:=by
    intro k o' ak hk Qw tW ep gX;refine qg k o' ak hk Qw tW ?_ gX
    by_cases zX:j=k
    .subst zX;exact DT
    .rw[afb true zX]at ep;exact ep
   refine ih (listed.setIfInBounds j true) _ _ Ax (afo hr (adi fh)) (xi ky Cm hy) ?_;rw[afh _ _ fh];rw[<-A0 ky (gK hy).1 (gK Ml).1,<-By ky (gK hy).2 (gK Cm).2];exact UK
def LB(md:Region.Mode)(ops:Array Oper)(al:List bB)(listed:Array Bool)(i:Nat):Bool:=
 match al[i]? with
 |none=>false
 |some oi=>(List.range ops.size).all fun j=>j==i || listed.getD j true || match ops[j]?,al[j]? with
   |some oj,some aj=>oj.after.any (λe=>Region.binds md e&&e.on==i)||oi.apart aj
   |_,_=>true
def Ik(md:Region.Mode)(ops:Array Oper)(al:List bB):Nat->Nat->Array Bool->Bool
 |0,_,listed=>(Region.ready md ops listed).isEmpty
 |fuel+1,k,listed=>(Region.ready md ops listed).contains k&&LB md ops al listed k&&Ik md ops al fuel (k+1) (listed.setIfInBounds k true)
def ft(i:Nat):(br P n true ops)[i]?=jZ P n ops i:=by simp[br,jZ]
def HM {i:Nat} {oi:bB} {listed:Array Bool} (hi:jZ P n ops i=some oi) (h:LB md ops (br P n true ops) listed i=true) (j:Nat) (o:Oper) (aj:bB)
  (hj:ops[j]?=some o) (sT:jZ P n ops j=some aj) (bP:j≠i) (ep:listed.getD j true=false) (gX:∀e∈o.after,Region.binds md e=true->e.on≠i):oi.apart aj=true:=by
 simp only[LB,ft,hi,acN,acY]at h;have h1:=h j (acz.1 hj).1;simp only[hj,sT,adw,ac7,bP,afX,ep,acI]at h1;rcases h1 with h1|h1
 .obtain⟨e,he,hb⟩:=afi.1 h1;simp only[acA,ac7]at hb;exact absurd hb.2 (gX e he hb.1)
 .exact h1
def yD {QA:an→aq→Prop}:∀ (l:List Oper) (k:Nat) (listed:Array Bool) (S:an) (H:aq),(∀ j,l[j]? = ops[k+j]?) →
  Ik md ops (br P n true ops) l.length k listed=true->cq P GI (l.map (bD P n true ops)) QA S H->vW P GI n md ops QA l.length listed S H
 |[],_,_,_,_,_,hB,h=>⟨by simpa[Ik]using hB,h⟩
 |o::l,k,listed,S,H,hl,hB,h=>by
  have h0:ops[k]?=some o:=by simpa using(hl 0).symm
  have ha:jZ P n ops k=some (bD P n true ops o):=by simp[jZ,h0]
  simp only[List.length_cons,Ik,acA]at hB;obtain⟨⟨hr,hf⟩,Sz⟩:=hB;obtain⟨e,hy,hK⟩:=sh h
  exact J9 ha l.length listed S H (HM ha hf) (by simpa using hr) hy
   (yD l (k+1) _ _ _ (λj=>by have:=hl (j+1);simpa[aeU,Nat.add_comm 1 j]using this) Sz hK)
def bt(o:bB):Option (Nat×List AV):=
 match o.op,o.dst with
 |.alloc _ z,some d=>some (d,z)
 |_,_=>none
def UU(P:Program)(n:Nat)(ops:Array Oper)(listed:Array Bool)(t:Nat):Prop:=
 ∃j o z,jZ P n ops j=some o/\bt o=some (t,z)/\listed.getD j true=false
def mJ(md:Region.Mode)(ops:Array Oper)(al:List bB):Bool:=
 (List.range ops.size).all λj=>match ops[j]?,al[j]? with
  |some oj,some aj=>match bt aj with
   |some (d,_)=>oj.after.isEmpty && aj.guard.isNone && (List.range ops.size).all fun k=>k==j || match ops[k]?,al[k]? with
     |some ok,some ak=>!ak.writes.contains d&&(!ak.reads.contains d||ok.after.any (λe=>Region.binds md e&&e.on==j))
     |_,_=>false
   |none=>true
  |_,_=>false
def kB (h:mJ md ops (br P n true ops)=true) {j:Nat} {oj:Oper} {aj:bB} {d:Nat} {z:List AV} (hj:ops[j]? = some oj) (sT:jZ P n ops j=some aj) (hd:bt aj=some (d,z)) :
  oj.after=#[]/\aj.guard=none/\∀k ok ak,ops[k]?=some ok->jZ P n ops k=some ak->k≠j->d∉ak.writes/\(d∈ak.reads->∃e∈ok.after,Region.binds md e=true/\e.on=j):=by
 simp only[mJ,acN,acY]at h;have h1:=h j (acz.1 hj).1;simp only[hj,ft,sT,hd,acA,acN,acY]at h1;obtain⟨⟨h2,h3⟩,h4⟩:=h1;refine⟨by simpa using h2,by simpa using h3,λk ok ak hk Qw bP=>?_⟩;have h5:=h4 k (acz.1 hk).1;simp only[hk,Qw,adw,ac7,bP,afX,acA,adx]at h5;refine⟨by simpa using h5.1,λhd=>?_⟩;rcases h5.2 with h6|h6
 .simp at h6;exact absurd hd h6
 .obtain⟨e,he,hb⟩:=afi.1 h6;simp only[acA,ac7]at hb;exact⟨e,he,hb⟩
def Ij(hA:mJ md ops (br P n true ops)=true){listed:Array Bool}(hr:Region.ready md ops listed=[]):UU P n ops listed=bz:=by
 funext t
 simp only[bz,afn,iff_false];rintro⟨j,o,z,h1,h2,h3⟩;unfold jZ at h1
 cases hj:ops[j]? with
 |none=>simp[hj]at h1
 |some oj=>
  have sT:jZ P n ops j=some o:=by unfold jZ;exact h1
  obtain⟨ha,_,_⟩:=kB hA hj sT h2;have:j∈Region.ready md ops listed:=aeD.2 ⟨h3,oj,hj,λe he=>by rw[ha]at he;simp at he⟩;rw[hr]at this;cases this
def EF{listed:Array Bool}{i:Nat}{oi:bB}(hi:jZ P n ops i=some oi)(gX:bt oi=none):UU P n ops (listed.setIfInBounds i true)=UU P n ops listed:=by
 funext t
 simp only[UU,afn]
 constructor
 .rintro⟨j,o,z,h1,h2,h3⟩;refine⟨j,o,z,h1,h2,?_⟩
  by_cases fh:i=j
  .subst fh;rw[hi]at h1;cases h1;rw[gX]at h2;cases h2
  .rwa [afb true fh]at h3
 .rintro⟨j,o,z,h1,h2,h3⟩;refine⟨j,o,z,h1,h2,?_⟩
  by_cases fh:i=j
  .subst fh;rw[hi]at h1;cases h1;rw[gX]at h2;cases h2
  .rwa [afb true fh]
def N9 (hA:mJ md ops (br P n true ops)=true) {listed:Array Bool} {i d:Nat} {o:Oper} {oi:bB} {z:List AV} (ho:ops[i]? = some o) (hi:jZ P n ops i=some oi) (hd:bt oi=some (d,z)) (av:i < listed.size) :
  UU P n ops (listed.setIfInBounds i true)=λt=>UU P n ops listed t/\t≠d:=by
 obtain⟨_,_,iS⟩:=kB hA ho hi hd
 funext t
 simp only[UU,afn]
 constructor
 .rintro⟨j,oj,z',h1,h2,h3⟩
  have fh:i≠j:=by rintro rfl;simp[av]at h3
  refine⟨⟨j,oj,z',h1,h2,by rwa [afb true fh]at h3⟩,?_⟩;rintro rfl
  have hj:∃o',ops[j]?=some o':=by
   unfold jZ at h1
   cases hj:ops[j]? with
   |none=>simp[hj]at h1
   |some o'=>exact⟨o',rfl⟩
  obtain⟨o',hj⟩:=hj;have:=(iS j o' oj hj h1 (adi fh)).1;apply this;unfold bt at h2;split at h2
  .rename_i gz;simp only[ac0,aeW]at h2;rw[h2.1]at gz;exact fy (.inl gz)
  .cases h2
 .rintro⟨⟨j,oj,z',h1,h2,h3⟩,bP⟩
  have fh:i≠j:=by
   rintro rfl;rw[hi]at h1;cases h1;rw[hd]at h2;simp only[ac0,aeW]at h2;exact bP h2.1.symm
  exact⟨j,oj,z',h1,h2,by rwa [afb true fh]⟩
end
section
variable{P:Program}{GI:World->Prop}{w0:World}{n:Nat}{U:Nat->Prop}{g:Gh}{S:an}{H:aq}{a:Act}{w:World}{ops:Array Oper}
def Hl{dr:Bool}{o:bB}{x:Oper}{hr:HR}{size:Nat}{y z:cz}(hc:bD P n dr ops x=o)(h:o.op=.store hr size y z):∃x',c_ n x'=some y:=by
 subst hc;unfold bD at h;revert h;generalize(match x.dst with|some d=>taken ops d|none=>false)=tk;intro h;simp only at h;unfold comp at h
 repeat' split at h
 all_goals first
  |(cases h;done)
  |(cases h;exact⟨_,by assumption⟩)
def IZ{dr:Bool}{o:bB}{x:Oper}{hr:HR}{y:cz}(hc:bD P n dr ops x=o)(h:o.op=.loadT hr y):∃x',c_ n x'=some y:=by
 subst hc;unfold bD at h;revert h;generalize(match x.dst with|some d=>taken ops d|none=>false)=tk;intro h;simp only at h;unfold comp at h
 repeat' split at h
 all_goals first
  |(cases h;done)
  |(cases h;exact⟨_,by assumption⟩)
def XM(R:Rel P w0 n U g S H a w){o:Oper}{dst:Option Nat}{e:aQ}(cP:∀t∈(bD P n true ops o).op.rd,¬U t)(h:kP P GI (bD P n true ops o).op dst S H e){i:Nat}{cs:List AV}(hw:e.hw=some (i,cs)):(g.al i).isSome=true:=by
 have JO:=(IK h).2;rw[hw]at JO
 have box:∀{y:cz}{x':Operand}{off:Nat},c_ n x'=some y->(∀t∈y.tmps,¬U t)->AL.ev S y=.box i off->(g.al i).isSome=true:=by
  intro y x' off hx hu he;have:=R.ev hx hu;rw[he]at this;generalize a.eval x'=c at this
  cases this with
  |data _ _ h=>cases h
  |box _ _ b h=>simp[h]
 generalize hc:(bD P n true ops o).op=op at cP h JO
 cases op<;>try (exact JO.elim)
 case load hr _ _ _=>cases hr<;>exact JO.elim
 case loadT hr y=>
  obtain⟨x',hx⟩:=IZ rfl hc;simp only[kP,aD]at h
  cases qy:AL.ev S y<;>rw[qy]at h<;>simp only at h<;>try cases h
  rename_i k off;split at h
  case isFalse=>cases h
  split at h
  case h_2=>cases h
  split at h
  case h_2=>cases h
  cases h;cases hw;exact box hx cP qy
 case store hr s y z=>
  obtain⟨x',hx⟩:=Hl rfl hc;simp only[dT.rd,acF]at cP;simp only[kP,aD]at h
  cases qy:AL.ev S y<;>rw[qy]at h<;>simp only at h<;>try cases h
  rename_i k off;split at h
  case isFalse=>cases h
  split at h
  case h_2=>cases h
  split at h
  case isFalse=>cases h
  cases h;cases hw;exact box hx (λt ht=>cP t (.inl ht)) qy
def Lh{op:dT}(h:op.calm=true){dst:Option Nat}{e:aQ}(hd:kP P GI op dst S H e):aD S H op=some e:=by
 cases op<;>first|exact hd|cases h
def GO (hG:aw GI) (cj:GI w0) {old:Old} {Q:cw→an→aq→Prop} (hA:mJ .any ops (br P n true ops)=true) (b_:∀ o∈ops,(bD P n true ops o).ok n=true) :
  ∀(fuel:Nat)(listed:Array Bool)(g:Gh)(S:an)(H:aq)(a:Act)(w:World),listed.size=ops.size->g.old=old->Rel P w0 n (UU P n ops listed) g S H a w->
   (∀j o d z,jZ P n ops j=some o->bt o=some (d,z)->listed.getD j true=false->S d=.box d 0/\H d=some z)->
   vW P GI n .any ops (Q .normal) fuel listed S H->wpAny P .any ops (QQ P w0 n old Q) fuel listed a w:=by
 intro fuel
 induction fuel with
 |zero=>
  intro listed g S H a w _ ho R _ h;have hU:=Ij hA h.1;rw[hU]at R;exact⟨h.1,g,S,H,ho,R,h.2⟩
 |succ fuel ih=>
  intro listed g S H a w G4 ho R hinv h;refine⟨λhr=>?_,λi hi=>?_⟩
  .have hU:=Ij hA hr;rw[hU]at R;exact⟨g,S,H,ho,R,h.1 hr⟩
  .have hd:=h.2 i hi;obtain⟨o,jL,BZ⟩:=Dn (P:=P) (n:=n) hi;obtain⟨Vv,o',lQ,e_⟩:=aeD.1 hi;rw[jL]at lQ;cases lQ
   have Qm:i<listed.size:=by rw[G4];exact(acz.1 jL).1
   unfold Hu at hd;rw[BZ]at hd;obtain⟨e,hy,hK⟩:=hd;have CF:=b_ o (adz jL)
   have FA:∀t∈(bD P n true ops o).reads,¬UU P n ops listed t:=by
    rintro t ht ⟨j,aj,z,h1,h2,h3⟩
    have hj:∃oj,ops[j]?=some oj:=by
     unfold jZ at h1
     cases hj:ops[j]? with
     |none=>simp[hj]at h1
     |some oj=>exact⟨oj,rfl⟩
    obtain⟨oj,hj⟩:=hj;obtain⟨k1,k2,k3⟩:=kB hA hj h1 h2
    by_cases fh:i=j
    .subst fh;rw[BZ]at h1;cases h1;unfold bt at h2;split at h2
     .rename_i de _;simp only[bB.reads,de,k2,dT.rd,adn]at ht;cases ht
     .cases h2
    .obtain⟨ed,Xq,xq,he3⟩:=(k3 i o _ jL BZ fh).2 ht;have:=e_ ed Xq xq;rw[he3]at this;rcases adK j listed.size with h'|h'
     .simp[h']at h3 this;rw[h3]at this;cases this
     .simp[aej h']at this
   have qM:∀j aj d z,jZ P n ops j=some aj->bt aj=some (d,z)->j≠i->d∉(bD P n true ops o).writes:=by
    intro j aj d z h1 h2 bP
    have hj:∃oj,ops[j]?=some oj:=by
     unfold jZ at h1
     cases hj:ops[j]? with
     |none=>simp[hj]at h1
     |some oj=>exact⟨oj,rfl⟩
    obtain⟨oj,hj⟩:=hj;exact((kB hA hj h1 h2).2.2 i o _ jL BZ (adi bP)).1
   have Ak:∀t,o.dst=some t->t<n/\t∉(bD P n true ops o).op.rd:=by
    intro t ht;simp only[bB.ok,acA]at CF;have h1:=CF.1;rw[show(bD P n true ops o).dst=o.dst from rfl,ht]at h1;simpa using h1
   have WB:bt (bD P n true ops o)=none->∀t,o.dst=some t->¬UU P n ops listed t:=by
    rintro gX t ht ⟨j,aj,z,h1,h2,h3⟩
    have bP:j≠i:=by rintro rfl;rw[BZ]at h1;cases h1;rw[gX]at h2;cases h2
    exact qM j aj t z h1 h2 bP (fy (.inl ht))
   have P5:(∀ k cs,e.hw=some (k,cs)→(g.al k).isSome=true)→∀ j aj d z,jZ P n ops j=some aj→bt aj=some (d,z)→(listed.setIfInBounds i true).getD j true=false →
     e.S S o.dst d=.box d 0/\e.H H d=some z:=by
    intro JO j aj d z h1 h2 h3
    have bP:j≠i:=by rintro rfl;simp[Qm]at h3
    have Qr:listed.getD j true=false:=by rwa [afb true (adi bP)]at h3
    obtain⟨k1,k2⟩:=hinv j aj d z h1 h2 Qr;have hw:=qM j aj d z h1 h2 bP;refine⟨?_,?_⟩
    .show e.S S (bD P n true ops o).dst d=_;rw[aQ.wO (λhh=>hw (fy (.inl hh))) (λhh=>hw (fy (.inr ((gK hy).1 d hh))))];exact k1
    .unfold aQ.H
     cases hh:e.hw with
     |none=>exact k2
     |some p=>
      obtain⟨k,cs⟩:=p
      have Il:d≠k:=by
       rintro rfl;have:=JO d cs hh;rw[R.iE d ⟨j,aj,z,h1,h2,Qr⟩]at this;cases this
      simp only[aN _ _ Il];exact k2
   have bg:(listed.setIfInBounds i true).size=ops.size:=by simpa using G4
   unfold wpOp;simp only[jL];unfold eZ at hy
   cases Mz:aG S (bD P n true ops o).guard with
   |none=>rw[Mz]at hy;exact hy.elim
   |some b=>
    rw[BE R (λt b hg=>FA t (by simp[bB.reads,hg])) CF Mz];rw[Mz]at hy
    cases b with
    |false=>
     simp only at hy;subst hy;simp only[acI,acW]
     have gX:bt (bD P n true ops o)=none:=by
      cases hh:bt (bD P n true ops o)with
      |none=>rfl
      |some p=>
       obtain⟨d,z⟩:=p;have:=(kB hA jL BZ hh).2.1;rw[this]at Mz;cases Mz
     have hU:=EF BZ gX (listed:=listed);refine ih _ g _ _ _ _ bg ho ?_ (P5 λ_ _ hh=>by cases hh) hK;rw[hU]
     exact R.aY o.dst _ _ (λt ht=>(Ak t ht).1) (.data _ _ (wK _ _)) λ_ _=>trivial
    |true=>
     simp only at hy;simp only[ac3];refine .inl ?_
     have JO:∀k cs,e.hw=some (k,cs)->(g.al k).isSome=true:=λk cs hh=>XM R (λt ht=>FA t (by simp only[bB.reads,acF];exact .inl ht)) hy hh
     have Qt:=P5 JO
     have next:bt (bD P n true ops o)=none->∀(g':Gh)(a':Act)(w':World),g'.old=g.old->Rel P w0 n (UU P n ops listed) g' (e.S S o.dst) (e.H H) a' w'->wpAny P .any ops (QQ P w0 n old Q) fuel (listed.setIfInBounds i true) a' w':=by
      intro gX g' a' w' h2 R';refine ih _ g' _ _ _ _ bg (h2.trans ho) ?_ Qt hK;rw[EF BZ gX];exact R'
     have cP:∀t∈(bD P n true ops o).op.rd,¬UU P n ops listed t:=λt ht=>FA t (by simp only[bB.reads,acF];exact .inl ht)
     by_cases bK:(bD P n true ops o).op.calm=true
     .have gX:bt (bD P n true ops o)=none:=by
       unfold bt;split
       .rename_i de _;rw[de]at bK;cases bK
       .rfl
      refine(B7 R rfl bK (λt ht=>⟨(Ak t ht).1,WB gX t ht⟩) cP (λt ht=>(Ak t ht).2) (Lh bK hy)).wp λg' a' w' e1 e2 R'=>next gX g' a' w' e2 R'
     .generalize de:(bD P n true ops o).op=op at bK hy cP;have Kj:comp P n (match o.dst with|some d=>taken ops d|none=>false) (VV ops o) o=op:=de
      cases op<;>try (exact absurd rfl bK)
      case alloc t cs=>
       simp only[kP]at hy
       cases gz:o.dst with
       |none=>rw[show(bD P n true ops o).dst=o.dst from rfl,gz]at hy;exact hy.elim
       |some d=>
        rw[show(bD P n true ops o).dst=o.dst from rfl,gz]at hy;simp only at hy;subst hy
        have gw:bt (bD P n true ops o)=some (d,cs):=by
         unfold bt;rw[de,show(bD P n true ops o).dst=o.dst from rfl,gz]
        obtain⟨k1,k2⟩:=hinv i _ d cs BZ gw Vv;obtain⟨Zt,hz⟩:=zt Kj;unfold zeroCells at hz;split at hz
        case h_2=>cases hz
        rename_i it hit;split at hz
        case h_2=>cases hz
        rename_i z Ad;obtain⟨h1,h2,h3⟩:=gR g.Pr w hz
        have R2:=R.GB d ⟨i,_,cs,BZ,gw,Vv⟩ (Ak d gz).1 cs z.cells t k1 k2 (by simpa using h1.1) (λj h h'=>by have:=h1.2.1 j h (by simpa using h');simpa using this)
         (λj hj dH=>⟨h2 _ (acy hj),by have:=h3 P g (.cell d) j hj (by simpa using dH);rwa [Array.getElem_toList]at this⟩) h1.2.2
        have cM:(execOp a.eval o).run P w=.ok (.value (.pointer (some ⟨w.heap.size,0,none⟩))) (w.alloc (.cells z.cells t)):=by
         unfold execOp;simp[Zt,Instr.alloc,zeroValue,typeInfo,hit,Ad,newVar,newRow]
        unfold Oper.wp;rw[cM];show wpAny P .any ops (QQ P w0 n old Q) fuel (listed.setIfInBounds i true) _ _;rw[gz];rw[<-N9 hA jL BZ gw Qm]at R2
        have hS:au S d (.box d 0)=S:=by
         funext t
         by_cases ht:t=d
         .subst ht;rw[aK,k1]
         .rw[aN _ _ ht]
        have Qy:vW P GI n .any ops (Q .normal) fuel (listed.setIfInBounds i true) S H:=by
         have:({ v:=.box d 0 }:aQ).S S (bD P n true ops o).dst=S:=by
          rw[show(bD P n true ops o).dst=o.dst from rfl,gz];exact hS
         rw[this]at hK;exact hK
        refine ih _ { g with al:=au g.al d (some w.heap.size) } S H _ _ bg ho R2 (λj aj d' z' h1 h2 h3=>?_) Qy;have:=Qt j aj d' z' h1 h2 h3
        have hSS:({ v:=.box d 0 }:aQ).S S o.dst=S:=by rw[gz];exact hS
        rw[hSS]at this;exact this
      case call f args=>
       have gX:bt (bD P n true ops o)=none:=by unfold bt;rw[de]
       exact CE R hG cj Kj (λt ht=>⟨(Ak t ht).1,WB gX t ht⟩) cP hy.2 (λv g' a' w' e1 e2 R' hk=>by subst hk;exact next gX g' a' w' e2 R') (λ_ _ _ _ _ _ _ hf=>hf.elim)
      case fc f args=>
       have gX:bt (bD P n true ops o)=none:=by unfold bt;rw[de]
       simp only[kP]at hy;split at hy
       case h_2=>exact hy.elim
       rename_i k first cap Ah;exact yS R hG cj Kj (λt ht=>⟨(Ak t ht).1,WB gX t ht⟩) cP Ah hy.2 (λv g' a' w' e1 e2 R' hk=>by subst hk;exact next gX g' a' w' e2 R') (λ_ _ _ _ _ _ _ hf=>hf.elim)
      case box=>exact hy.elim
      case panic=>exact hy.elim
      case other=>exact hy.elim
def eo:List bB->an->an
 |[],S=>S
 |o::l,S=>match bt o with
  |some (d,_)=>eo l (au (λt=>bQ d (S t)) d (.box d 0))
  |none=>eo l S
def dG:List bB->aq->aq
 |[],H=>H
 |o::l,H=>match bt o with
  |some (d,z)=>dG l (au H d (some z))
  |none=>dG l H
def cW(l:List bB):List Nat:=l.filterMap λo=>(bt o).map (·.1)
def Rel.eo:∀ (l:List bB) {U:Nat→Prop} {g:Gh} {S:an} {H:aq},Rel P w0 n U g S H a w→(cW l).Nodup→(∀ d∈cW l,¬ g.old.bx d) →
  ∃g',g'.base=g.base/\g'.old=g.old/\Rel P w0 n (λt=>U t\/t∈cW l) g' (Go.AL.eo l S) (dG l H) a w
 |[],U,g,S,H,R,_,_=>⟨g,rfl,rfl,by simpa[cW,Go.AL.eo,dG]using R⟩
 |o::l,U,g,S,H,R,hn,cg=>by
  cases ha:bt o with
  |none=>
   have e:cW (o::l)=cW l:=by simp[cW,ha]
   rw[e]at hn cg⊢;simp only[Go.AL.eo,dG,ha];exact Rel.eo l R hn cg
  |some p=>
   obtain⟨d,z⟩:=p
   have e:cW (o::l)=d::cW l:=by simp[cW,ha]
   rw[e]at hn cg⊢;simp only[Go.AL.eo,dG,ha];obtain⟨g',e1,e2,R'⟩:=Rel.eo l (R.suspend d (cg d acS) (.box d 0) z) (aew.1 hn).2 (λk hk=>cg k (acH _ hk));refine⟨g',e1,e2,?_⟩
   have:(λt=>U t\/t∈d::cW l)=(λt=>(U t\/t=d)\/t∈cW l):=by
    funext t;simp[or_assoc]
   rw[this];exact R'
def sN:∀(l:List bB)(S:an)(d:Nat),d∉cW l->S d=.box d 0->Go.AL.eo l S d=.box d 0
 |[],S,d,_,h=>h
 |o::l,S,d,hn,h=>by
  cases ha:bt o with
  |none=>simp only[Go.AL.eo,ha];exact sN l S d (by simpa[cW,ha]using hn) h
  |some p=>
   obtain⟨k,z⟩:=p;simp only[Go.AL.eo,ha]
   have xr:d≠k/\d∉cW l:=by simpa[cW,ha]using hn
   refine sN l _ d xr.2 ?_;rw[aN _ _ xr.1,h];simp[bQ,xr.1]
def qV:∀(l:List bB)(H:aq)(d:Nat)(z:List AV),d∉cW l->H d=some z->dG l H d=some z
 |[],H,d,z,_,h=>h
 |o::l,H,d,z,hn,h=>by
  cases ha:bt o with
  |none=>simp only[dG,ha];exact qV l H d z (by simpa[cW,ha]using hn) h
  |some p=>
   obtain⟨k,z'⟩:=p;simp only[dG,ha]
   have xr:d≠k/\d∉cW l:=by simpa[cW,ha]using hn
   exact qV l _ d z xr.2 (by rw[aN _ _ xr.1,h])
def wD:∀(l:List bB)(S:an)(H:aq),(cW l).Nodup->∀o∈l,∀d z,bt o=some (d,z)->Go.AL.eo l S d=.box d 0/\dG l H d=some z
 |[],S,H,_,o,ho,_,_,_=>by cases ho
 |o'::l,S,H,hn,o,ho,d,z,hd=>by
  rcases adl.1 ho with rfl|ho
  .have e:cW (o::l)=d::cW l:=by simp[cW,hd]
   rw[e]at hn;simp only[Go.AL.eo,dG,hd];exact⟨sN l _ d (aew.1 hn).1 (aK _ _ _),qV l _ d z (aew.1 hn).1 (aK _ _ _)⟩
  .cases ha:bt o' with
   |none=>
    have e:cW (o'::l)=cW l:=by simp[cW,ha]
    rw[e]at hn;simp only[Go.AL.eo,dG,ha];exact wD l S H hn o ho d z hd
   |some p=>
    obtain⟨k,z'⟩:=p
    have e:cW (o'::l)=k::cW l:=by simp[cW,ha]
    rw[e]at hn;simp only[Go.AL.eo,dG,ha];exact wD l _ _ (aew.1 hn).2 o ho d z hd
def Lx(P:Program)(n:Nat)(ops:Array Oper):Bool:=
 (br P n true ops).all (·.ok n)&&mJ .any ops (br P n true ops)&&decide ((cW (br P n true ops)).Nodup)&&Ik .any ops (br P n true ops) ops.size 0 (Array.replicate ops.size false)
def Ju (hG:aw GI) (cj:GI w0) (hm:P.follows .mixedOrders=true) {old:Old} {id:Nat} {Q:cw→an→aq→Prop} (b_:Lx P n ops=true) (cg:∀ o∈br P n true ops,∀ d∈o.jb,¬ old.bx d) (ho:g.old=old) (R:Rel P w0 n bz g S H a w)
  (h:cq P GI (br P n true ops) (Q .normal) (eo (br P n true ops) S) (dG (br P n true ops) H)):(Code.region id ops true).wp P (QQ P w0 n old Q) a w:=by
 simp only[Lx,acA,acJ]at b_;obtain⟨⟨⟨h1,h2⟩,h3⟩,h4⟩:=b_;refine wp_region_any hm ?_;have R0:Rel P w0 n bz g S H a { w with drawn:=w.drawn+1 }:=R.jR ((adA _ w).drew)
 obtain⟨g',e1,e2,R'⟩:=Rel.eo (br P n true ops) R0 h3 (λd hd=>by
  simp only[cW,aeC,acE]at hd;obtain⟨o,kT,⟨d',z⟩,k1,rfl⟩:=hd;rw[ho];refine cg o kT d' ?_;unfold bt at k1;split at k1
  .rename_i h1 h2;cases k1;simp[bB.jb,h1,h2,dT.jb]
  .cases k1)
 have hU:UU P n ops (Array.replicate ops.size false)=(λt=>bz t\/t∈cW (br P n true ops)):=by
  funext t
  simp only[UU,bz,afX,afn,cW,aeC,acE]
  constructor
  .rintro⟨j,o,z,k1,k2,k3⟩;rw[<-ft]at k1;exact⟨o,adR k1,(t,z),k2,rfl⟩
  .rintro⟨o,ho,⟨d,z⟩,k1,rfl⟩;obtain⟨j,hj⟩:=age ho;refine⟨j,o,z,by rw[<-ft];exact hj,k1,?_⟩
   have:j<ops.size:=by
    have:=(acT.1 hj).1;simpa[br]using this
   simp[this]
 refine GO hG cj h2 (λo kT=>?_) ops.size (Array.replicate ops.size false) g' _ _ a _ (by simp) (e2.trans ho) (by rw[hU];exact R') (λj o d z k1 k2 k3=>?_) ?_
 .simp only[br,aeu,acN,Function.comp]at h1;exact h1 o (by simpa using kT)
 .rw[<-ft]at k1;exact wD _ S H h3 o (adR k1) d z k2
 .have:=yD (QA:=Q .normal) ops.toList 0 (Array.replicate ops.size false) _ _ (by simp) (by simpa using h4) h;simpa using this
end
inductive af where
 |skip
 |ops (l:List bB)
 |cq (l:List bB)
 |seq (x y:af)
 |cond (c:cz) (x y:af)
 |block (id:Nat) (c:af)
 |loop (c:af)
 |exit (id:Nat)
 |ret
 |bad
def cC(P:Program)(n:Nat):Code->af
 |.skip=>.skip
 |.region _ ops draw=>
  if draw then(if Lx P n ops then .cq (br P n true ops)else .bad)
  else(if(br P n false ops).all (·.ok n)then .ops (br P n false ops)else .bad)
 |.seq x y=>.seq (cC P n x) (cC P n y)
 |.cond c x y=>match c_ n c with
  |some c=>.cond c (cC P n x) (cC P n y)
  |none=>.bad
 |.block id c=>.block id (cC P n c)
 |.loop c=>.loop (cC P n c)
 |.exit id=>.exit id
 |.ret=>.ret
 |_=>.bad
def dE(K:an->aq->Prop)(Q:cw->an->aq->Prop):cw->an->aq->Prop
 |.normal,S,H=>K S H
 |.exit id,S,H=>Q (.exit id) S H
 |.ret,S,H=>Q .ret S H
 |.panic v,S,H=>Q (.panic v) S H
def dj(id:Nat)(Q:cw->an->aq->Prop):cw->an->aq->Prop
 |.normal,S,H=>Q .normal S H
 |.exit j,S,H=>if j=id then Q .normal S H else Q (.exit j) S H
 |.ret,S,H=>Q .ret S H
 |.panic v,S,H=>Q (.panic v) S H
def af.names:af->List Nat
 |.ops l=>l.flatMap bB.jb
 |.cq l=>l.flatMap bB.jb
 |.seq x y=>x.names++y.names
 |.cond _ x y=>x.names++y.names
 |.block _ c=>c.names
 |.loop c=>c.names
 |_=>[]
def bL(P:Program)(GI:World->Prop):af->(cw->an->aq->Prop)->an->aq->Prop
 |.skip,Q,S,H=>Q .normal S H
 |.ops l,Q,S,H=>bw P GI l (Q .normal) (λv=>Q (.panic v) S H) S H
 |.cq l,Q,S,H=>cq P GI l (Q .normal) (eo l S) (dG l H)
 |.seq x y,Q,S,H=>bL P GI x (dE (bL P GI y Q) Q) S H
 |.cond c x y,Q,S,H=>match ev S c with
  |.bool true=>bL P GI x Q S H
  |.bool false=>bL P GI y Q S H
  |.lk=>bL P GI x Q S H/\bL P GI y Q S H
  |_=>False
 |.block id c,Q,S,H=>bL P GI c (dj id Q) S H
 |.loop c,Q,S,H=>∃(I:an->aq->Prop)(μ:an->aq->Nat),I S H/\∀S H,I S H->bL P GI c (dE (λS' H'=>I S' H'/\μ S' H'<μ S H) Q) S H
 |.exit id,Q,S,H=>Q (.exit id) S H
 |.ret,Q,S,H=>Q .ret S H
 |.bad,_,_,_=>False
section
variable{P:Program}{GI:World->Prop}{w0:World}{n:Nat}{g:Gh}{S:an}{H:aq}{a:Act}{w:World}
def GM {c:Code} {Q:Exit→Act→World→Prop} (J:Nat→Act→World→Prop)
  (round:∀m a w,J m a w->c.wp P (Exit.then (λa' w'=>∃m',m'<m/\J m' a' w') Q) a w) {m:Nat} (h0:J m a w):(Code.loop c).wp P Q a w:=by
 intro b k cs
 have key:∀m a w,J m a w->∃e a' w',Q e a' w'/\Arrives P (lone (b.at a (.code c::.inLoop c::k)) cs w) b k cs e a' w':=by
  intro m
  induction m using Nat.strongRecOn with
  |_ m ih=>
   intro a w hJ;obtain⟨e,i_,kF,hq,gu⟩:=round m a w hJ b (.inLoop c::k) cs
   cases e with
   |normal=>
    obtain⟨m',av,hJ'⟩:=hq;obtain⟨Bn,CK,BS,uR,pk⟩:=ih m' av i_ kF hJ';exact⟨Bn,CK,BS,uR,.of_steps (Steps.trans gu (.one step_inLoop)) pk⟩
   |exit id=>exact⟨_,i_,kF,hq,.pass (x:=.inLoop c) rfl (λ_ _=>.inl (by simp)) gu⟩
   |goto l=>exact⟨_,i_,kF,hq,.pass (x:=.inLoop c) rfl (λ_ _=>.inl (by simp)) gu⟩
   |ret=>exact⟨_,i_,kF,hq,.pass (x:=.inLoop c) rfl (λ_ _=>.inl (by simp)) gu⟩
   |panic ch=>exact⟨_,i_,kF,hq,.pass (x:=.inLoop c) rfl (λ_ _=>.inl (by simp)) gu⟩
   |outgrown=>exact⟨_,i_,kF,hq,.pass (x:=.inLoop c) rfl (λ_ _=>.inl (by simp)) gu⟩
 obtain⟨e,a',w',hq,gu⟩:=key _ _ _ h0;exact⟨e,a',w',hq,.of_steps (.one step_loop) gu⟩
def lJ (hG:aw GI) (cj:GI w0) (hm:P.follows .mixedOrders=true) {old:Old} :
  ∀(c:Code)(Q:cw->an->aq->Prop)(g:Gh)(S:an)(H:aq)(a:Act)(w:World),(∀d∈(cC P n c).names,¬old.bx d)->g.old=old->Rel P w0 n bz g S H a w->bL P GI (cC P n c) Q S H->c.wp P (QQ P w0 n old Q) a w
 |.skip,Q,g,S,H,a,w,cg,ho,R,h=>wp_skip ⟨g,S,H,ho,R,h⟩
 |.region id ops draw,Q,g,S,H,a,w,cg,ho,R,h=>by
  simp only[cC]at h cg
  cases draw with
  |true=>
   simp only[ac3]at h cg;split at h
   case isFalse=>exact h.elim
   rename_i b_;rw[if_pos b_]at cg;exact Ju hG cj hm b_ (λo kT d hd=>cg d (adh.2 ⟨o,kT,hd⟩)) ho R h
  |false=>
   simp only[acI,acW]at h cg;split at h
   case isFalse=>exact h.elim
   rename_i b_;rw[if_pos b_]at cg;exact LF hG cj b_ (λo kT d hd=>cg d (adh.2 ⟨o,kT,hd⟩)) ho R h
 |.seq x y,Q,g,S,H,a,w,cg,ho,R,h=>by
  refine wp_seq (afU (lJ hG cj hm x _ g S H a w (λd hd=>cg d (by simp[cC,af.names,hd])) ho R h) ?_);intro e a' w' he
  cases e with
  |normal=>
   obtain⟨g',S',H',h1,h2,h3⟩:=he;exact lJ hG cj hm y Q g' S' H' a' w' (λd hd=>cg d (by simp[cC,af.names,hd])) h1 h2 h3
  |exit id=>exact he
  |ret=>exact he
  |panic ch=>exact he
  |goto l=>exact he.elim
  |outgrown=>exact he.elim
 |.cond c x y,Q,g,S,H,a,w,cg,ho,R,h=>by
  simp only[cC]at h;split at h
  case h_2=>exact h.elim
  rename_i c' hc;simp only[cC,hc,af.names,acF]at cg;simp only[bL]at h;have hv:=R.ev hc (λ_ _=>id);split at h
  .rename_i hb;rw[hb]at hv
   have:a.eval c=.bool true:=by
    generalize a.eval c=v at hv;cases hv;rename_i hv;cases hv;rfl
   exact wp_cond this (lJ hG cj hm x Q g S H a w (λd hd=>cg d (.inl hd)) ho R h)
  .rename_i hb;rw[hb]at hv
   have:a.eval c=.bool false:=by
    generalize a.eval c=v at hv;cases hv;rename_i hv;cases hv;rfl
   exact wp_cond this (lJ hG cj hm y Q g S H a w (λd hd=>cg d (.inr hd)) ho R h)
  .rename_i hb;rw[hb]at hv
   have:∃b,a.eval c=.bool b:=by
    generalize a.eval c=v at hv;cases hv;rename_i hv;cases hv;exact⟨_,rfl⟩
   obtain⟨b,hb⟩:=this
   cases b with
   |true=>exact wp_cond hb (lJ hG cj hm x Q g S H a w (λd hd=>cg d (.inl hd)) ho R h.1)
   |false=>exact wp_cond hb (lJ hG cj hm y Q g S H a w (λd hd=>cg d (.inr hd)) ho R h.2)
  .exact h.elim
 |.block id c,Q,g,S,H,a,w,cg,ho,R,h=>by
  refine wp_block (afU (lJ hG cj hm c _ g S H a w (λd hd=>cg d (by simpa[cC,af.names]using hd)) ho R h) ?_);intro e a' w' he
  cases e with
  |normal=>exact he
  |exit j=>
   obtain⟨g',S',H',h1,h2,h3⟩:=he;simp only[dj]at h3;simp only[Exit.inBlock];split
   .rename_i hj;rw[if_pos hj]at h3;exact⟨g',S',H',h1,h2,h3⟩
   .rename_i hj;rw[if_neg hj]at h3;exact⟨g',S',H',h1,h2,h3⟩
  |ret=>exact he
  |panic ch=>exact he
  |goto l=>exact he.elim
  |outgrown=>exact he.elim
 |.loop c,Q,g,S,H,a,w,cg,ho,R,h=>by
  obtain⟨I,μ,h0,hr⟩:=h;refine GM (λm a w=>∃g S H,g.old=old/\Rel P w0 n bz g S H a w/\I S H/\μ S H=m) ?_ (m:=μ S H) ⟨g,S,H,ho,R,h0,rfl⟩;rintro m a' w' ⟨g',S',H',h1,h2,h3,rfl⟩;refine afU (lJ hG cj hm c _ g' S' H' a' w' (λd hd=>cg d (by simpa[cC,af.names]using hd)) h1 h2 (hr S' H' h3)) ?_;intro e X2 iV he
  cases e with
  |normal=>
   obtain⟨g2,S2,H2,k1,k2,k3,k4⟩:=he;exact⟨_,k4,g2,S2,H2,k1,k2,k3,rfl⟩
  |exit id=>exact he
  |ret=>exact he
  |panic ch=>exact he
  |goto l=>exact he.elim
  |outgrown=>exact he.elim
 |.exit id,Q,g,S,H,a,w,cg,ho,R,h=>wp_exit ⟨g,S,H,ho,R,h⟩
 |.ret,Q,g,S,H,a,w,cg,ho,R,h=>wp_ret ⟨g,S,H,ho,R,h⟩
 |.rangeFunc ..,_,_,_,_,_,_,_,_,_,h=>h.elim
 |.scope _,_,_,_,_,_,_,_,_,_,h=>h.elim
 |.label _,_,_,_,_,_,_,_,_,_,h=>h.elim
 |.goto _,_,_,_,_,_,_,_,_,_,h=>h.elim
 |.refuse _,_,_,_,_,_,_,_,_,_,h=>h.elim
def AV.out:AV->AV
 |.agg cs=>.agg (cs.map cT)
 |v=>v
def db(P:Program)(n:Nat)(S:an)(H:aq):ResultVar->Option AV
 |.tmp t=>if t<n/\(S t).bW=true then some (S t)else none
 |.cell a t=>if a < n then
   match S a with
   |.box i off=>match H i,P.info? t,P.underlying t with
    |some cs,some it,some d=>b0 (eh d) it.size (cs.drop off)
    |_,_,_=>none
   |_=>none
  else none
def dc(P:Program)(n:Nat)(S:an)(H:aq):List ResultVar->Option (List AV)
 |[]=>some []
 |r::rs=>match db P n S H r,dc P n S H rs with
  |some v,some vs=>some (v::vs)
  |_,_=>none
def cL(P:Program)(n:Nat)(rs:List ResultVar)(S:an)(H:aq):Option AV:=
 match dc P n S H rs with
 |some [v]=>some v.out
 |some vs=>some (.dR (vs.map AV.vw))
 |none=>none
def JL(a:Act):ResultVar->Sem Value
 |.tmp t=>pure (a.tmps.getD t undef)
 |.cell x t=>do loadVar t (<-asAddr (a.tmps.getD x undef))
def EO (R:Rel P w0 n bz g S H a w) {r:ResultVar} {v:AV} (h:db P n S H r=some v) :
  ∃c,(JL a r).run P w=.ok c w/\RD g.Pr w v c/\xu P g.base g.hi w v c:=by
 cases r with
 |tmp t=>
  simp only[db]at h
  split at h<;>cases h
  rename_i hc;refine⟨a.tmps.getD t undef,rfl,(R.slot t hc.1 id).dL hc.2,?_⟩;have ho:=R.own t hc.1 id;generalize S t=v at ho;generalize a.tmps.getD t undef=c at ho
  cases v<;>try trivial
  rename_i oo es
  cases oo with
  |view=>trivial
  |nil=>trivial
  |own e=>
   obtain⟨i,xs,b,h1,h2,h3,h4,h5⟩:=ho;exact⟨i,xs,b,h1,h2,h3,h5⟩
 |cell x t=>
  simp only[db]at h;split at h
  case isFalse=>cases h
  rename_i hx;have hs:=R.slot x hx id;generalize S x=q at h hs;generalize l7:a.tmps.getD x undef=cx at hs
  cases hs<;>(try cases h;done)
  case data hh=>cases hh<;>cases h
  rename_i i off b gw;obtain⟨cs,vs,Aj,k1,k2,k3,k4,k5,k6,k7,k8,k9⟩:=R.box i b gw;simp only[k1]at h;split at h
  case h_2=>cases h
  rename_i fj it d pC hit hd;cases pC
  obtain ⟨c,h1,h2,h3⟩:=q' (Pr:=g.Pr) (al:=g.al) (P:=P) (w:=w) (b:=b) (off:=off) hit hd (vs:=fun k=>vs.getD (off+k) undef) (fun k hk=>by
    simp only[adg]at hk
    have:off+k<vs.size:=by omega
    simp[World.cell?,k3,this]) (λk hk=>by
    simp only[adg]at hk;simp only[adV]
    exact k9 (off+k) (by omega)) (λk hk=>by
    simp only[adg]at hk;simp only[adV];have hh:=k7 (off+k) (by omega) (by omega)
    have:off+k<vs.size:=by omega
    simpa[this]using hh) h
  refine⟨c,by simp only[JL,l7,asAddr,acK,Sem.run_pure,Result.andThen_ok,h1],h2,?_⟩;rw[<-h3]
  cases v<;>try trivial
  rename_i oo es
  cases oo<;>trivial
def rz (R:Rel P w0 n bz g S H a w):∀ {rs:List ResultVar} {vs:List AV},dc P n S H rs=some vs →
  ∃cs:List Value,(rs.mapM (JL a)).run P w=Result.ok cs w/\vs.length=cs.length/\
   ∀i (h:i<vs.length)(h':i<cs.length),RD g.Pr w vs[i] cs[i]/\xu P g.base g.hi w vs[i] cs[i]
 |[],vs,h=>by cases h;exact⟨[],by simp,rfl,λi h=>by simp at h⟩
 |r::rs,vs,h=>by
  simp only[dc]at h
  split at h<;>cases h
  rename_i v kz h1 h2;obtain⟨c,r1,r2,r3⟩:=EO R h1;obtain⟨cs,q1,q2,q3⟩:=rz R h2;refine⟨c::cs,?_,by simp[q2],λi hi cQ=>?_⟩
  .simp[List.mapM_cons,r1,q1]
  .cases i with
   |zero=>exact⟨r2,r3⟩
   |succ i=>exact q3 i (by simpa using hi) (by simpa using cQ)
def tj (R:Rel P w0 n bz g S H a w) {fn:Func} {v:AV} (h:cL P n fn.results.toList S H=some v) :
  ∃c,(results fn a.tmps).run P w=.ok c w/\RD g.Pr w v c/\xu P g.base g.hi w v c:=by
 unfold cL at h
 have cM:∀ cs:List Value,(fn.results.toList.mapM (JL a)).run P w=Result.ok cs w →
   (results fn a.tmps).run P w=.ok (if h:cs.toArray.size=1 then cs.toArray[0]else .tuple cs.toArray) w:=by
  intro cs pC;unfold results;rw[Array.mapM_eq_mapM_toList]
  have e:(fn.results.toList.mapM λr=>match r with|.tmp t=>(pure (a.tmps.getD t undef):Sem Value)|.cell x t=>do loadVar t (<-asAddr (a.tmps.getD x undef)))=fn.results.toList.mapM (JL a):=by
   congr 1
  simp only[acK,Sem.run_map]
  erw[e]
  rw[pC]
  rfl
 split at h
 .rename_i v' hv;cases h;obtain⟨cs,q1,q2,q3⟩:=rz R hv
  match cs,q2 with
  |[c],_=>
   have h1:=(q3 0 (by simp) (by simp)).1;have h2:=(q3 0 (by simp) (by simp)).2;simp only[List.getElem_cons_zero]at h1 h2;refine⟨c,by rw[cM _ q1];rfl,?_,?_⟩
   .cases v'<;>first|exact h1|exact h1.vw
   .cases v'<;>first|exact h2|trivial
 .rename_i vs bP n_;cases h;obtain⟨cs,q1,q2,q3⟩:=rz R n_;refine⟨.tuple cs.toArray,?_,.dR _ _ (by simp[q2]) (λi h h'=>?_),trivial⟩
  .rw[cM _ q1,dif_neg];intro hl
   have:vs.length=1:=by rw[q2];simpa using hl
   match vs,this with
   |[v],_=>exact bP v rfl
  .simp only[acC]at h;simp only[acM,List.getElem_toArray];exact(q3 i h (by simpa using h')).1.vw
 .cases h
def post(P:Program)(n:Nat)(rs:List ResultVar)(out:eE):cw->an->aq->Prop
 |.normal,S,H|.ret,S,H=>∃v,cL P n rs S H=some v/\out=.ret v
 |.panic v,_,_=>out=.panic v
 |_,_,_=>False
def start(args:List AV):an:=λt=>(args.getD t bO).aH
def AC.Hg (hG:aw GI) (hm:P.follows .mixedOrders=true) {f:Nat} {fn:Func} {c:Code} {args:List AV} {out:eE} (hf:P.funcs[f]? = some fn) (hb:fn.body=some c) (hn:fn.ntmps=n) (hl:args.length≤n) {ac:af} (hc:cC P n c=ac)
  (h:bL P GI ac (post P n fn.results.toList out) (start args) (λ_=>none)):AC P GI f args out:=by
 intro w old bH gm hlen hr;refine afc hf hb ?_;subst hc
 let g:Gh:={ base:=w.heap.size,old:=Old.plain old w,al:=λ_=>none,hi:=λ_=>0,owner:=λ_=>none }
 have bg:(bH++Array.replicate (fn.ntmps-bH.size) undef).size=n:=by simp;omega
 have R:Rel P w n bz g (start args) (λ_=>none) { tmps:=bH++Array.replicate (fn.ntmps-bH.size) undef,defers:=[] } w:=by
  refine{ size:=bg,defers:=rfl,facts:=λ_ h=>(by cases h),slot:=?_,own:=?_,box:=?_,iw:=?_,iE:=?_,inj:=?_,base:=rfl,below:=adA _ _,fresh:=λb _=>⟨rfl,rfl⟩,still:=⟨λ_ _ h=>h.elim,λ_ h=>h.elim⟩,grown:=acD _,kept:=λ_ _ h=>(by cases h) }
  .intro t ht _
   by_cases Mj:t<args.length
   .have h1:start args t=args[t].aH:=by simp[start,Mj]
    have h2:(bH++Array.replicate (fn.ntmps-bH.size) undef).getD t undef=bH[t]'(by omega):=by
     have:t<bH.size:=by omega
     simp[aeH,this]
    rw[h1,h2];refine((hr t Mj (by omega)).mono (bc.same λb k av hp=>.inl ⟨av,hp⟩) (λ_ _ h=>h)).aH
   .have h1:start args t=bO:=by simp[start,Mj,bO,AV.aH]
    have h2:(bH++Array.replicate (fn.ntmps-bH.size) undef).getD t undef=undef:=by
     have:¬t<bH.size:=by omega
     simp only[acG,aeH,this,acW]
     by_cases hh:t-bH.size<fn.ntmps-bH.size
     .simp[hh]
     .simp[hh]
    rw[h1,h2];exact .data _ _ (wK _ _)
  .intro t ht _;exact gj _ _ _
  .intro i b h;cases h
  .intro i cs h;cases h
  .intro i h;rfl
  .intro i j b h;cases h
 refine afU (lJ hG gm hm c _ g _ _ _ w (λ_ _ h=>h) rfl R h) ?_;intro e a' w' he
 have fin:(∃ g' S H,g'.old=Old.plain old w∧Rel P w n bz g' S H a' w'∧∃ v,cL P n fn.results.toList S H=some v∧out = .ret v) →
   a'.defers=[]/\∃v,(results fn a'.tmps).run P w'=.ok v w'/\Ends P old w out (.returned v) w':=by
  rintro⟨g',S,H,e1,R',v,hv,rfl⟩;obtain⟨c,r1,r2,r3⟩:=tj R' hv;refine⟨by rw[R'.defers,e1];rfl,c,r1,?_,g'.hi,λb hb=>(R'.fresh b hb).1,c,rfl,?_,?_⟩
  .have:=R'.below;rwa [R'.base]at this
  .have:g'.Pr=nZ w.heap.size old g'.hi:=by
    funext b k
    simp only[Gh.Pr,nZ,R'.base,e1,Old.plain]
   rw[this]at r2;exact .data _ _ r2
  .rwa [R'.base]at r3
 cases e with
 |normal=>exact fin he
 |ret=>exact fin he
 |exit id=>obtain⟨_,_,_,_,_,h⟩:=he;exact h.elim
 |panic chain=>
  obtain⟨hd,v,c,hi,S,H,h1,h2,h3,h4,h5⟩:=he;subst h1;cases(show out=.panic v from h5);exact⟨hd,h2,hi,h3,c,rfl,h4⟩
 |goto l=>exact he.elim
 |outgrown=>exact he.elim
end
abbrev SL:=List AV
abbrev HL:=List (Option (List AV))
def gS(s:SL):an:=λt=>s.getD t bO
def gH(h:HL):aq:=λt=>h.getD t none
inductive Res where
 |go (s:SL) (h:HL)|panic (v:AV)
def Res.on(K:an->aq->Prop)(Qp:AV->Prop):Res->Prop
 |.go s h=>K (gS s) (gH h)
 |.panic v=>Qp v
abbrev eS:=Nat->List AV->Option eE
def x_(P:Program)(call:eS)(f:Nat)(args:List AV)(bx:Bool):Option eE:=
 if ef P f then match call f args with
  |some out=>if bx&&!out.ui then none else some out
  |none=>none
 else none
section
variable{P:Program}{GI:World->Prop}{call:eS}(d_:∀f args out,call f args=some out->AC P GI f args out)
include d_
def wM{f:Nat}{args:List AV}{bx:Bool}{out:eE}(h:x_ P call f args bx=some out){K Qp:AV->Prop}(hk:j0 out K Qp):kC P GI f args bx K Qp:=by
 unfold x_ at h;split at h
 case isFalse=>cases h
 rename_i hc;split at h
 case h_2=>cases h
 rename_i acw ho
 split at h<;>cases h
 rename_i hb;refine⟨out,hc,d_ _ _ _ ho,λhx=>?_,hk⟩;simpa[hx]using hb
omit d_ in
def D6{p:Nat->Prop}(h:∃k,p k):∃k,p k/\∀m,m<k->¬p m:=by
 obtain⟨k,hk⟩:=h
 induction k using Nat.strongRecOn with
 |_ k ih=>
  by_cases hm:∃m,m<k/\p m
  .obtain⟨m,h1,h2⟩:=hm;exact ih m h1 h2
  .exact⟨k,hk,λm h1 h2=>hm ⟨m,h1,h2⟩⟩
open Classical in
noncomputable def least(p:Nat->Prop):Nat:=if h:∃k,p k then Classical.choose (D6 h)else 0
omit d_ in
def zu{p:Nat->Prop}(h:∃k,p k):p (least p)/\∀m,p m->least p<=m:=by
 unfold least;rw[dif_pos h];obtain⟨h1,h2⟩:=Classical.choose_spec (D6 h);exact⟨h1,λm hm=>Nat.le_of_not_lt λav=>h2 m av hm⟩
end
structure td where
 code:af
 n:Nat
 res:List ResultVar
def Kg(P:Program)(qq:Nat->Option td):Prop:=
 ∀f fn,qq f=some fn->∃(F:Func)(c:Code),P.funcs[f]?=some F/\F.body=some c/\F.ntmps=fn.n/\F.results.toList=fn.res/\cC P fn.n c=fn.code
end Go.AL
