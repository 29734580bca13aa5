/-
  A part of the proof: Al1 Al2 Al3 Al4 Al5 Al6 Al7 Al8 Al9 Al10 Al10b Al10c Al10d Al10e Al11 Al12 Al13 Al14 Al15.
-/
import Derived.Below
import Derived.Orders
import Derived.Still
import Derived.KernelRfl
import Derived.Laws.AppendOwn
import Derived.ChangeKeysEq
import Derived.Laws.StructEq
import Derived.Laws.Concat
import Derived.Laws.Strings2
import Derived.Great.BuildSlice
import Derived.Great.FillDense
import Derived.Laws.OwnMore
import Derived.Laws.IdiomStrings
import Derived.Laws.BytesArg
import Derived.WideKeyRuns
import Derived.Maps.Own
set_option linter.all false
set_option linter.unusedVariables false
set_option linter.unusedSimpArgs false
set_option linter.deprecated false
namespace Go.AL
inductive Ow where
 |view | nil | own (e:Nat)
 deriving DecidableEq
inductive AV where
 |bool (b:Bool)
 |anyb
 |int (k:IntKind) (n:Int)
 |str (l:List UInt8)
 |slice (o:Ow) (es:List AV)
 |agg (cs:List AV)
 |tup (vs:List AV)
 |ref (cs:List AV)
 |nilp
 |iface (t:TypeId) (v:AV)
 |nili
 |map (ks vs:List AV)
 |box (i off:Nat)
 |func (fn:Fn) (first cap:List AV)
 |fagg (fs:List AV)
 |val (c:Value)
 |junk
namespace AV
def cells:AV→List AV
 |.agg cs=>cs
 |v=>[v]
def dem:AV→AV
 |.slice (.own _) es => .slice .view es
 |v=>v
def vw1:AV→AV
 |.slice _ es => .slice .view es
 |v=>v
def vw:AV→AV
 |.agg cs => .agg (cs.map vw1)
 |v=>v.vw1
def isData:AV→Bool
 |.box .. | .func .. | .fagg _ | .junk=>false
 |_=>true
def one:AV→Bool
 |.agg _ | .tup _=>false
 |_=>true
def storable:AV→Bool
 |.box .. | .func .. | .fagg _ | .junk | .tup _=>false
 |_=>true
end AV
inductive RD (Pr:Nat→Nat→Prop) (w:World):AV→Value→Prop
 |bool (b:Bool):RD Pr w (.bool b) (.bool b)
 |anyb (b:Bool):RD Pr w .anyb (.bool b)
 |int (k:IntKind) (n:Int):RD Pr w (.int k n) (.int k n)
 |str (l:List UInt8):RD Pr w (.str l) (.string ⟨l.toArray⟩)
 |nils (o:Ow):RD Pr w (.slice o []) (.slice none 0 0)
 |emps (o:Ow) (a:Addr):RD Pr w (.slice o []) (.slice (some a) 0 0)
 |slice (o:Ow) (es:List AV) (b off cap size:Nat) (cs:Nat→Value) (hcap:es.length≤cap) (hn:o = .nil→cap=0)
   (hsz:∀ i (h:i < es.length),(es[i]).cells.length=size) (h1:∀ i (h:i < es.length) j (hj:j < (es[i]).cells.length),((es[i]).cells[j]).one=true)
   (hc:∀ k,k < es.length * size→Pr b (off+k)∧w.cell? ⟨b,off+k,none⟩=some (cs k))
   (hr:∀ i (h:i < es.length) j (hj:j < (es[i]).cells.length),RD Pr w ((es[i]).cells[j]) (cs (i * size+j))) :
   RD Pr w (.slice o es) (.slice (some ⟨b,off,none⟩) es.length cap)
 |agg (cs:List AV) (vs:Array Value) (hl:cs.length=vs.size) (h1:∀ i (h:i < cs.length),(cs[i]).one=true)
   (hr:∀ i (h:i < cs.length) (h':i < vs.size),RD Pr w cs[i] vs[i]):RD Pr w (.agg cs) (.agg vs)
 |tup (cs:List AV) (vs:Array Value) (hl:cs.length=vs.size)
   (hr:∀ i (h:i < cs.length) (h':i < vs.size),RD Pr w cs[i] vs[i]):RD Pr w (.tup cs) (.tuple vs)
 |ref (cs:List AV) (b off:Nat) (vs:Nat→Value) (h1:∀ i (h:i < cs.length),(cs[i]).one=true)
   (hc:∀ k,k < cs.length→Pr b (off+k)∧w.cell? ⟨b,off+k,none⟩=some (vs k))
   (hr:∀ k (h:k < cs.length),RD Pr w cs[k] (vs k)):RD Pr w (.ref cs) (.pointer (some ⟨b,off,none⟩))
 |map (ks vs:List AV) (b:Nat) (es:Array MapEntry) (clock:Nat) (hb:Pr b 0) (hm:w.heap[b]? = some (.map es clock)) (hk:ks.length=es.size) (hv:vs.length=es.size)
   (hr:∀ i (h:i < ks.length) (h':i < es.size),RD Pr w ks[i] (es[i]).key) (hr':∀ i (h:i < vs.length) (h':i < es.size),RD Pr w vs[i] (es[i]).val):RD Pr w (.map ks vs) (.map (some b))
 |nilm:RD Pr w (.map [] []) (.map none)
 |nilp:RD Pr w .nilp (.pointer none)
 |iface (t:TypeId) (v:AV) (c:Value) (h:RD Pr w v c):RD Pr w (.iface t v) (.iface t c)
 |nili:RD Pr w .nili .nilIface
 |val (c:Value) (h:c.oneCell'=true):RD Pr w (.val c) c
inductive RV (Pr:Nat→Nat→Prop) (al:Nat→Option Nat) (w:World):AV→Value→Prop
 |data (v:AV) (c:Value) (h:RD Pr w v c):RV Pr al w v c
 |box (i off b:Nat) (h:al i=some b):RV Pr al w (.box i off) (.pointer (some ⟨b,off,none⟩))
 |func (fn:Fn) (first cap:List AV) (vs us:Array Value) (h1:first.length=vs.size) (h2:cap.length=us.size)
   (hr1:∀ i (h:i < first.length) (h':i < vs.size),RV Pr al w first[i] vs[i])
   (hr2:∀ i (h:i < cap.length) (h':i < us.size),RV Pr al w cap[i] us[i]):RV Pr al w (.func fn first cap) (.func fn vs us)
 |fagg (fs:List AV) (vs:Array Value) (h1:fs.length=vs.size) (hr:∀ i (h:i < fs.length) (h':i < vs.size),RV Pr al w fs[i] vs[i]):RV Pr al w (.fagg fs) (.agg vs)
 |junk (c:Value):RV Pr al w .junk c
structure Keeps (Pr Pr':Nat→Nat→Prop) (w w':World):Prop where
 cell:∀ b k,Pr b k→∀ u,w.cell? ⟨b,k,none⟩=some u→Pr' b k∧w'.cell? ⟨b,k,none⟩=some u
 map:∀ b,Pr b 0→∀ es c,w.heap[b]? = some (.map es c)→Pr' b 0∧w'.heap[b]? = some (.map es c)
theorem Keeps.of_blocks {Pr Pr':Nat→Nat→Prop} {w w':World} (h:∀ b,b < w.heap.size→w'.heap[b]? = w.heap[b]?) (hp:∀ b k,b < w.heap.size→Pr b k→Pr' b k):Keeps Pr Pr' w w':={
 cell b k hb u hu:=by
  have hlt:=World.block_lt_of_cell? _ _ hu
  exact ⟨hp b k hlt hb,by rw [World.cell?_of_block (w:=w) (h b hlt)];exact hu⟩
 map b hb es c hm:=by
  have hlt:=(Array.getElem?_eq_some_iff.1 hm).1
  exact ⟨hp b 0 hlt hb,by rw [h b hlt];exact hm⟩ }
theorem Keeps.trans {Pr Pr' Pr'':Nat→Nat→Prop} {w w' w'':World} (h:Keeps Pr Pr' w w') (h':Keeps Pr' Pr'' w' w''):Keeps Pr Pr'' w w'':={
 cell b k hp u hu:=h'.cell b k (h.cell b k hp u hu).1 u (h.cell b k hp u hu).2
 map b hp es c hm:=h'.map b (h.map b hp es c hm).1 es c (h.map b hp es c hm).2 }
theorem Keeps.of_moved {Pr:Nat→Nat→Prop} {w w':World} (h:∀ b k,b < w.heap.size→Pr b k→w'.heap[b]? = w.heap[b]?):Keeps Pr Pr w w':={
 cell b k hb u hu:=⟨hb,by rw [World.cell?_of_block (w:=w) (h b k (World.block_lt_of_cell? _ _ hu) hb)];exact hu⟩
 map b hb es c hm:=⟨hb,by rw [h b 0 (Array.getElem?_eq_some_iff.1 hm).1 hb];exact hm⟩ }
theorem Keeps.same {Pr Pr':Nat→Nat→Prop} {w:World} (hp:∀ b k,b < w.heap.size→Pr b k→Pr' b k):Keeps Pr Pr' w w:=Keeps.of_blocks (fun _ _=>rfl) hp
theorem RD.mono {Pr Pr':Nat→Nat→Prop} {w w':World} {v:AV} {c:Value} (h:RD Pr w v c)
  (hp:Keeps Pr Pr' w w'):RD Pr' w' v c:=by
 induction h with
 |bool b=>exact .bool b
 |anyb b=>exact .anyb b
 |int k n=>exact .int k n
 |str l=>exact .str l
 |nils o=>exact .nils o
 |emps o a=>exact .emps o a
 |slice o es b off cap size cs hcap hn hsz h1 hc _ ih =>
  exact .slice o es b off cap size cs hcap hn hsz h1 (fun k hk=>hp.cell _ _ (hc k hk).1 _ (hc k hk).2) ih
 |agg cs vs hl h1 _ ih=>exact .agg cs vs hl h1 ih
 |tup cs vs hl _ ih=>exact .tup cs vs hl ih
 |ref cs b off vs h1 hc _ ih=>exact .ref cs b off vs h1 (fun k hk=>hp.cell _ _ (hc k hk).1 _ (hc k hk).2) ih
 |map ks vs b es clock hb hm hk hv _ _ ih ih'=>exact .map ks vs b es clock (hp.map b hb es clock hm).1 (hp.map b hb es clock hm).2 hk hv ih ih'
 |nilm=>exact .nilm
 |nilp=>exact .nilp
 |iface t v c _ ih=>exact .iface t v c ih
 |nili=>exact .nili
 |val c h=>exact .val c h
theorem RV.mono {Pr Pr':Nat→Nat→Prop} {al al':Nat→Option Nat} {w w':World} {v:AV} {c:Value} (h:RV Pr al w v c)
  (hp:Keeps Pr Pr' w w')
  (ha:∀ i b,al i=some b→al' i=some b):RV Pr' al' w' v c:=by
 induction h with
 |data v c h=>exact .data v c (h.mono hp)
 |box i off b h=>exact .box i off b (ha i b h)
 |func fn first cap vs us h1 h2 _ _ ih1 ih2=>exact .func fn first cap vs us h1 h2 ih1 ih2
 |fagg fs vs h1 _ ih=>exact .fagg fs vs h1 ih
 |junk c=>exact .junk c
theorem RD.isData {Pr:Nat→Nat→Prop} {w:World} {v:AV} {c:Value} (h:RD Pr w v c):v.isData=true:=by
 cases h<;>rfl
theorem RV.toData {Pr:Nat→Nat→Prop} {al:Nat→Option Nat} {w:World} {v:AV} {c:Value} (h:RV Pr al w v c) (hd:v.isData=true):RD Pr w v c:=by
 cases h with
 |data v c h=>exact h
 |box i off b h=>cases hd
 |func=>cases hd
 |fagg=>cases hd
 |junk c=>cases hd
theorem RD.dem {Pr:Nat→Nat→Prop} {w:World} {v:AV} {c:Value} (h:RD Pr w v c):RD Pr w v.dem c:=by
 cases h with
 |nils o=>cases o<;>exact .nils _
 |emps o a=>cases o<;>exact .emps _ a
 |slice o es b off cap size cs hcap hn hsz h1 hc hr =>
  cases o with
  |own e=>exact .slice _ es b off cap size cs hcap (fun h=>by cases h) hsz h1 hc hr
  |view=>exact .slice _ es b off cap size cs hcap hn hsz h1 hc hr
  |nil=>exact .slice _ es b off cap size cs hcap hn hsz h1 hc hr
 |bool b=>exact .bool b
 |anyb b=>exact .anyb b
 |int k n=>exact .int k n
 |str l=>exact .str l
 |agg cs vs hl h1 hr=>exact .agg cs vs hl h1 hr
 |tup cs vs hl hr=>exact .tup cs vs hl hr
 |ref cs b off vs h1 hc hr=>exact .ref cs b off vs h1 hc hr
 |map ks vs b es clock hb hm hk hv hr hr'=>exact .map ks vs b es clock hb hm hk hv hr hr'
 |nilm=>exact .nilm
 |nilp=>exact .nilp
 |iface t v c h=>exact .iface t v c h
 |nili=>exact .nili
 |val c h=>exact .val c h
theorem RV.dem {Pr:Nat→Nat→Prop} {al:Nat→Option Nat} {w:World} {v:AV} {c:Value} (h:RV Pr al w v c):RV Pr al w v.dem c:=by
 cases h with
 |data v c h=>exact .data _ _ h.dem
 |box i off b h=>exact .box i off b h
 |func fn first cap vs us h1 h2 r1 r2=>exact .func fn first cap vs us h1 h2 r1 r2
 |fagg fs vs h1 hr=>exact .fagg fs vs h1 hr
 |junk c=>exact .junk c
theorem RD.cells {Pr:Nat→Nat→Prop} {w:World} {v:AV} {c:Value} (h:RD Pr w v c) :
  v.cells.length=c.cells.size∧∀ i (h:i < v.cells.length) (h':i < c.cells.size),RD Pr w v.cells[i] c.cells[i]:=by
 cases h with
 |agg cs vs hl h1 hr=>exact ⟨hl,hr⟩
 |bool b=>exact ⟨rfl,fun i h _=>by simp [AV.cells] at h;subst h;exact .bool b⟩
 |anyb b=>exact ⟨rfl,fun i h _=>by simp [AV.cells] at h;subst h;exact .anyb b⟩
 |int k n=>exact ⟨rfl,fun i h _=>by simp [AV.cells] at h;subst h;exact .int k n⟩
 |str l=>exact ⟨rfl,fun i h _=>by simp [AV.cells] at h;subst h;exact .str l⟩
 |nils o=>exact ⟨rfl,fun i h _=>by simp [AV.cells] at h;subst h;exact .nils o⟩
 |emps o a=>exact ⟨rfl,fun i h _=>by simp [AV.cells] at h;subst h;exact .emps o a⟩
 |slice o es b off cap size cs hcap hn hsz h1 hc hr=>exact ⟨rfl,fun i h _=>by simp [AV.cells] at h;subst h;exact .slice o es b off cap size cs hcap hn hsz h1 hc hr⟩
 |tup cs vs hl hr=>exact ⟨rfl,fun i h _=>by simp [AV.cells] at h;subst h;exact .tup cs vs hl hr⟩
 |ref cs b off vs h1 hc hr=>exact ⟨rfl,fun i h _=>by simp [AV.cells] at h;subst h;exact .ref cs b off vs h1 hc hr⟩
 |map ks vs b es clock hb hm hk hv hr hr'=>exact ⟨rfl,fun i h _=>by simp [AV.cells] at h;subst h;exact .map ks vs b es clock hb hm hk hv hr hr'⟩
 |nilm=>exact ⟨rfl,fun i h _=>by simp [AV.cells] at h;subst h;exact .nilm⟩
 |nilp=>exact ⟨rfl,fun i h _=>by simp [AV.cells] at h;subst h;exact .nilp⟩
 |iface t v c hh=>exact ⟨rfl,fun i h _=>by simp [AV.cells] at h;subst h;exact .iface t v c hh⟩
 |nili=>exact ⟨rfl,fun i h _=>by simp [AV.cells] at h;subst h;exact .nili⟩
 |val c hc =>
  have hcc:c.cells = #[c]:=by cases c<;>first | rfl | cases hc
  exact ⟨by rw [hcc];rfl,fun i h h'=>by simp [AV.cells] at h;subst h;simp only [hcc];exact .val c hc⟩
theorem RD.one {Pr:Nat→Nat→Prop} {w:World} {v:AV} {c:Value} (h:RD Pr w v c) (h1:v.one=true):c.oneCell'=true:=by
 cases h<;>first | rfl | (cases h1;done) | assumption
theorem RD.cells_one {Pr:Nat→Nat→Prop} {w:World} {v:AV} {c:Value} (h:RD Pr w v c) (h1:v.storable=true):∀ i (h:i < v.cells.length),(v.cells[i]).one=true:=by
 cases h with
 |agg cs vs hl ho hr=>exact ho
 |tup=>cases h1
 |_=>intro i hi;simp [AV.cells] at hi;subst hi;rfl
theorem AV.one_dem (v:AV):v.dem.one=v.one:=by
 cases v<;>try rfl
 rename_i o es;cases o<;>rfl
theorem AV.one_vw1 (v:AV):v.vw1.one=v.one:=by cases v<;>rfl
theorem AV.idem (v:AV):v.dem.dem=v.dem:=by
 cases v<;>try rfl
 rename_i o es;cases o<;>rfl
theorem RD.vw1 {Pr:Nat→Nat→Prop} {w:World} {v:AV} {c:Value} (h:RD Pr w v c):RD Pr w v.vw1 c:=by
 cases h with
 |nils o=>exact .nils _
 |emps o a=>exact .emps _ a
 |slice o es b off cap size cs hcap hn hsz h1 hc hr=>exact .slice _ es b off cap size cs hcap (fun h=>by cases h) hsz h1 hc hr
 |bool b=>exact .bool b
 |anyb b=>exact .anyb b
 |int k n=>exact .int k n
 |str l=>exact .str l
 |agg cs vs hl h1 hr=>exact .agg cs vs hl h1 hr
 |tup cs vs hl hr=>exact .tup cs vs hl hr
 |ref cs b off vs h1 hc hr=>exact .ref cs b off vs h1 hc hr
 |map ks vs b es clock hb hm hk hv hr hr'=>exact .map ks vs b es clock hb hm hk hv hr hr'
 |nilm=>exact .nilm
 |nilp=>exact .nilp
 |iface t v c h=>exact .iface t v c h
 |nili=>exact .nili
 |val c h=>exact .val c h
theorem RD.vw {Pr:Nat→Nat→Prop} {w:World} {v:AV} {c:Value} (h:RD Pr w v c):RD Pr w v.vw c:=by
 cases h with
 |agg cs vs hl h1 hr =>
  refine .agg _ vs (by simpa using hl) (fun i hi => ?_) (fun i hi hi' => ?_)
  ·simp only [List.length_map] at hi
   have:=h1 i hi
   simp only [List.getElem_map]
   generalize cs[i]=u at this
   cases u<;>first | rfl | cases this
  ·simp only [List.length_map] at hi
   simp only [List.getElem_map]
   exact (hr i hi hi').vw1
 |nils o=>exact .nils _
 |emps o a=>exact .emps _ a
 |slice o es b off cap size cs hcap hn hsz h1 hc hr=>exact .slice _ es b off cap size cs hcap (fun h=>by cases h) hsz h1 hc hr
 |bool b=>exact .bool b
 |anyb b=>exact .anyb b
 |int k n=>exact .int k n
 |str l=>exact .str l
 |tup cs vs hl hr=>exact .tup cs vs hl hr
 |ref cs b off vs h1 hc hr=>exact .ref cs b off vs h1 hc hr
 |map ks vs b es clock hb hm hk hv hr hr'=>exact .map ks vs b es clock hb hm hk hv hr hr'
 |nilm=>exact .nilm
 |nilp=>exact .nilp
 |iface t v c h=>exact .iface t v c h
 |nili=>exact .nili
 |val c h=>exact .val c h
theorem AV.storable_data {v:AV} (h:v.storable=true):v.isData=true:=by cases v<;>first | rfl | cases h
end Go.AL
namespace Go.AL
open Go.RowKit
abbrev Slots:=Nat→AV
abbrev Boxes:=Nat→Option (List AV)
def upd {α:Type} (f:Nat→α) (i:Nat) (x:α):Nat→α:=fun j=>if j=i then x else f j
theorem upd_same {α:Type} (f:Nat→α) (i:Nat) (x:α):upd f i x i=x:=by simp [upd]
theorem upd_ne {α:Type} (f:Nat→α) {i j:Nat} (x:α) (h:j≠i):upd f i x j=f j:=by simp [upd,h]
inductive Loc where
 |slot (t:Nat) | cell (i j:Nat)
 deriving DecidableEq
def scrub1 (d:Nat):AV→Bool
 |.box i _=>i==d
 |.func .. | .fagg _=>true
 |_=>false
def scrub (d:Nat):AV→AV
 |.box i o=>if i=d then .junk else .box i o
 |.func fn first cap=>if first.any (scrub1 d) || cap.any (scrub1 d) then .junk else .func fn first cap
 |.fagg _ => .junk
 |v=>v
def flat1:AV→Bool
 |.func .. | .fagg _=>false
 |_=>true
def flat:AV→Bool
 |.func _ first cap=>first.all flat1 && cap.all flat1
 |.fagg _=>false
 |_=>true
structure Old where
 c:Nat→Nat→Prop
 facts:List (AV×Value)
 bx:Nat→Prop
 ds:List Deferred
 keep:Nat→Option Obj
 sp:Nat→Nat→Prop
 sw:World
 ok:∀ p∈facts,flat p.1=true∧∀ d,¬ bx d→scrub d p.1=p.1
def Old.plain (c:Nat→Nat→Prop) (w:World):Old:={ c:=c,facts:=[],bx:=fun _=>False,ds:=[],keep:=fun _=>none,sp:=fun _ _=>False,sw:=w,ok:=fun _ h=>by cases h }
structure Gh where
 base:Nat
 old:Old
 al:Nat→Option Nat
 hi:Nat→Nat
 owner:Nat→Option Loc
def Gh.Pr (g:Gh) (b k:Nat):Prop:=(b < g.base∧g.old.c b k)∨(g.base≤b∧k < g.hi b)
def OwnAt (P:Program) (w:World) (g:Gh) (loc:Loc):AV→Value→Prop
 |.slice (.own e) es,c=>∃ i xs b,P.info? e=some i∧w.ownsRow g.base e i.size c es.length xs∧c.ownBlock=some b∧g.owner b=some loc∧g.hi b=es.length * i.size
 |_,_=>True
structure Rel (P:Program) (w0:World) (n:Nat) (U:Nat→Prop) (g:Gh) (S:Slots) (H:Boxes) (a:Act) (w:World):Prop where
 size:a.tmps.size=n
 defers:a.defers=g.old.ds
 facts:∀ p∈g.old.facts,RV g.Pr g.al w p.1 p.2
 slot:∀ t,t < n→¬ U t→RV g.Pr g.al w (S t) (a.tmps.getD t undef)
 own:∀ t,t < n→¬ U t→OwnAt P w g (.slot t) (S t) (a.tmps.getD t undef)
 box:∀ i b,g.al i=some b→∃ cs vs ty,H i=some cs∧g.base≤b∧w.heap[b]? = some (.cells vs ty (0,0))∧g.hi b=0∧g.owner b=none∧cs.length=vs.size ∧
  (∀ j (h:j < cs.length) (h':j < vs.size),RD g.Pr w cs[j] vs[j])∧(∀ j (h:j < cs.length) (h':j < vs.size),OwnAt P w g (.cell i j) cs[j] vs[j])∧∀ j (h:j < cs.length),(cs[j]).one=true
 alH:∀ i cs,H i=some cs→¬ U i→(g.al i).isSome
 alU:∀ i,U i→g.al i=none
 inj:∀ i j b,g.al i=some b→g.al j=some b→i=j
 base:g.base=w0.heap.size
 below:Below g.base w0 w
 fresh:∀ b,w.heap.size≤b→g.hi b=0∧g.owner b=none
 still:Keeps g.old.sp g.Pr g.old.sw w
 grown:g.old.sw.heap.size≤w.heap.size
 kept:∀ b o,g.old.keep b=some o→g.base≤b∧w.heap[b]? = some o∧g.hi b=0∧g.owner b=none∧∀ i,g.al i≠some b
theorem OwnAt.keep {P:Program} {w w':World} {g g':Gh} {loc:Loc} {v:AV} {c:Value} (h:OwnAt P w g loc v c) (hb:g'.base=g.base)
  (hk:∀ b,g.owner b=some loc→w'.heap[b]? = w.heap[b]? ∧ g'.hi b=g.hi b∧g'.owner b=some loc):OwnAt P w' g' loc v c:=by
 unfold OwnAt at *
 split at h
 ·obtain ⟨i,xs,b,h1,h2,h3,h4,h5⟩:=h
  obtain ⟨k1,k2,k3⟩:=hk b h4
  refine ⟨i,xs,b,h1,?_,h3,k3,by rw [k2];exact h5⟩
  rw [hb]
  refine ⟨h2.1,?_⟩
  rcases h2.2 with hn | ⟨gg,cap,cur,rfl,hbb,hgg,rest⟩
  ·exact .inl hn
  ·have:gg=b:=by simpa [Value.ownBlock] using h3
   subst this
   exact .inr ⟨gg,cap,cur,rfl,hbb,by rw [k1];exact hgg,rest⟩
 ·trivial
theorem OwnAt.dem {P:Program} {w:World} {g:Gh} {loc:Loc} {v:AV} {c:Value}:OwnAt P w g loc v.dem c:=by
 cases v<;>try trivial
 rename_i o es
 cases o<;>trivial
theorem Rel.ext {P:Program} {w0:World} {n:Nat} {U:Nat→Prop} {g g':Gh} {S:Slots} {H:Boxes} {a:Act} {w w':World} (R:Rel P w0 n U g S H a w)
  (hbase:g'.base=g.base) (hold:g'.old=g.old) (hal:g'.al=g.al)
  (hcell:Keeps g.Pr g'.Pr w w')
  (hbox:∀ i b,g.al i=some b→w'.heap[b]? = w.heap[b]? ∧ g'.hi b=g.hi b∧g'.owner b=g.owner b)
  (hown:∀ b loc,g.owner b=some loc→w'.heap[b]? = w.heap[b]? ∧ g'.hi b=g.hi b∧g'.owner b=some loc)
  (hbelow:Below g.base w0 w') (hfresh:∀ b,w'.heap.size≤b→g'.hi b=0∧g'.owner b=none)
  (hkeep:∀ b o,g.old.keep b=some o→w.heap[b]? = some o→w'.heap[b]? = some o∧g'.hi b=g.hi b∧g'.owner b=g.owner b) (hgrow:w.heap.size≤w'.heap.size):Rel P w0 n U g' S H a w':={
 size:=R.size
 defers:=by rw [hold];exact R.defers
 facts p hp:=(R.facts p (by rw [← hold];exact hp)).mono hcell (by rw [hal];exact fun _ _ h=>h)
 slot t ht hu:=(R.slot t ht hu).mono hcell (by rw [hal];exact fun _ _ h=>h)
 own t ht hu:=(R.own t ht hu).keep hbase fun b hb=>hown b _ hb
 box i b hi:=by
  rw [hal] at hi
  obtain ⟨cs,vs,ty,h1,h2,h3,h4,h5,h6,h7,h8,h9⟩:=R.box i b hi
  obtain ⟨k1,k2,k3⟩:=hbox i b hi
  refine ⟨cs,vs,ty,h1,by rw [hbase];exact h2,by rw [k1];exact h3,by rw [k2];exact h4,by rw [k3];exact h5,h6,?_,?_,h9⟩
  ·exact fun j hj hj'=>(h7 j hj hj').mono hcell
  ·exact fun j hj hj'=>(h8 j hj hj').keep hbase fun b hb=>hown b _ hb
 alH i cs h hu:=by rw [hal];exact R.alH i cs h hu
 alU i h:=by rw [hal];exact R.alU i h
 inj i j b h h':=by rw [hal] at h h';exact R.inj i j b h h'
 base:=by rw [hbase];exact R.base
 below:=by rw [hbase];exact hbelow
 fresh:=hfresh
 still:=by rw [hold];exact R.still.trans hcell
 grown:=by rw [hold];exact Nat.le_trans R.grown hgrow
 kept b o h:=by
  rw [hold] at h
  obtain ⟨k1,k2,k3,k4,k5⟩:=R.kept b o h
  obtain ⟨e1,e2,e3⟩:=hkeep b o h k2
  exact ⟨by rw [hbase];exact k1,e1,by rw [e2];exact k3,by rw [e3];exact k4,by rw [hal];exact k5⟩ }
theorem Rel.grow {P:Program} {w0:World} {n:Nat} {U:Nat→Prop} {g g':Gh} {S:Slots} {H:Boxes} {a:Act} {w w':World} (R:Rel P w0 n U g S H a w)
  (hb:Below w.heap.size w w') (hbase:g'.base=g.base) (hold:g'.old=g.old) (hal:g'.al=g.al)
  (hg:∀ b,b < w.heap.size→g'.hi b=g.hi b∧g'.owner b=g.owner b) (hfresh:∀ b,w'.heap.size≤b→g'.hi b=0∧g'.owner b=none):Rel P w0 n U g' S H a w':=by
 have hle:g.base≤w.heap.size:=by rw [R.base];exact R.below.size
 refine R.ext hbase hold hal ?_ ?_ ?_ ?_ hfresh ?_ hb.size
 ·refine Keeps.of_blocks (fun b hlt=>hb.block b hlt) fun b k hlt hp => ?_
  unfold Gh.Pr at *
  rw [hbase,hold,(hg b hlt).1]
  exact hp
 ·intro i b hi
  obtain ⟨cs,vs,ty,h1,h2,h3,_⟩:=R.box i b hi
  have hlt:b < w.heap.size:=(Array.getElem?_eq_some_iff.1 h3).1
  exact ⟨hb.block b hlt,hg b hlt⟩
 ·intro b loc ho
  have hlt:b < w.heap.size:=by
   rcases Nat.lt_or_ge b w.heap.size with h | h
   ·exact h
   ·rw [(R.fresh b h).2] at ho;cases ho
  exact ⟨hb.block b hlt,(hg b hlt).1,by rw [(hg b hlt).2];exact ho⟩
 ·exact R.below.trans (hb.mono hle)
 ·intro b o _ ho
  have hlt:b < w.heap.size:=(Array.getElem?_eq_some_iff.1 ho).1
  exact ⟨by rw [hb.block b hlt];exact ho,hg b hlt⟩
theorem Rel.grow' {P:Program} {w0:World} {n:Nat} {U:Nat→Prop} {g:Gh} {S:Slots} {H:Boxes} {a:Act} {w w':World} (R:Rel P w0 n U g S H a w)
  (hb:Below w.heap.size w w'):Rel P w0 n U g S H a w' :=
 R.grow hb rfl rfl rfl (fun _ _=>⟨rfl,rfl⟩) (fun b h=>R.fresh b (Nat.le_trans hb.size h))
theorem getD_put (a:Act) (d t:Nat) (c:Value) (hd:d < a.tmps.size):(a.put (some d) c).tmps.getD t undef=if t=d then c else a.tmps.getD t undef:=by
 simp only [Act.put]
 by_cases h:t=d
 ·subst h;simp [hd]
 ·simp [h,Array.getElem?_setIfInBounds_ne (Ne.symm h)]
theorem Rel.put {P:Program} {w0:World} {n:Nat} {U:Nat→Prop} {g:Gh} {S:Slots} {H:Boxes} {a:Act} {w:World} (R:Rel P w0 n U g S H a w)
  (d:Nat) (v:AV) (c:Value) (hd:d < n) (hv:RV g.Pr g.al w v c) (ho:OwnAt P w g (.slot d) v c):Rel P w0 n U g (upd S d v) H (a.put (some d) c) w:={
 size:=by simp [Act.put,R.size]
 defers:=R.defers
 facts:=R.facts
 slot t ht hu:=by
  rw [getD_put a d t c (by rw [R.size];exact hd)]
  by_cases h:t=d
  ·subst h;simp only [upd_same,if_true];exact hv
  ·rw [upd_ne S v h,if_neg h];exact R.slot t ht hu
 own t ht hu:=by
  rw [getD_put a d t c (by rw [R.size];exact hd)]
  by_cases h:t=d
  ·subst h;simp only [upd_same,if_true];exact ho
  ·rw [upd_ne S v h,if_neg h];exact R.own t ht hu
 box:=R.box
 alH:=R.alH
 alU:=R.alU
 inj:=R.inj
 base:=R.base
 below:=R.below
 fresh:=R.fresh
 still:=R.still
 grown:=R.grown
 kept:=R.kept }
def putD (S:Slots):Option Nat→AV→Slots
 |some d,v=>upd S d v
 |none,_=>S
theorem Rel.putD {P:Program} {w0:World} {n:Nat} {U:Nat→Prop} {g:Gh} {S:Slots} {H:Boxes} {a:Act} {w:World} (R:Rel P w0 n U g S H a w)
  (d:Option Nat) (v:AV) (c:Value) (hd:∀ t,d=some t→t < n) (hv:RV g.Pr g.al w v c) (ho:∀ t,d=some t→OwnAt P w g (.slot t) v c):Rel P w0 n U g (putD S d v) H (a.put d c) w:=by
 cases d with
 |none=>exact R
 |some t=>exact R.put t v c (hd t rfl) hv (ho t rfl)
theorem Rel.weaken {P:Program} {w0:World} {n:Nat} {U:Nat→Prop} {g:Gh} {S:Slots} {H:Boxes} {a:Act} {w:World} (R:Rel P w0 n U g S H a w)
  (S':Slots) (h:∀ t,t < n→¬ U t→∀ c,RV g.Pr g.al w (S t) c→OwnAt P w g (.slot t) (S t) c→RV g.Pr g.al w (S' t) c∧OwnAt P w g (.slot t) (S' t) c):Rel P w0 n U g S' H a w:={
 size:=R.size
 defers:=R.defers
 facts:=R.facts
 slot t ht hu:=(h t ht hu _ (R.slot t ht hu) (R.own t ht hu)).1
 own t ht hu:=(h t ht hu _ (R.slot t ht hu) (R.own t ht hu)).2
 box:=R.box
 alH:=R.alH
 alU:=R.alU
 inj:=R.inj
 base:=R.base
 below:=R.below
 fresh:=R.fresh
 still:=R.still
 grown:=R.grown
 kept:=R.kept }
end Go.AL
namespace Go.AL
open Go.RowKit
def AV.noOwn:AV→Prop
 |.slice (.own _) _=>False
 |_=>True
instance (v:AV):Decidable v.noOwn:=by unfold AV.noOwn;split<;>infer_instance
theorem AV.noOwn_dem (v:AV):v.dem.noOwn:=by
 cases v<;>try trivial
 rename_i o es
 cases o<;>trivial
theorem OwnAt.noOwn {P:Program} {w w':World} {g g':Gh} {loc loc':Loc} {v:AV} {c:Value} (h:OwnAt P w g loc v c) (hn:v.noOwn):OwnAt P w' g' loc' v c:=by
 cases v<;>try trivial
 rename_i o es
 cases o with
 |view=>trivial
 |nil=>trivial
 |own e=>simp [AV.noOwn] at hn
theorem Rel.reown {P:Program} {w0:World} {n:Nat} {U:Nat→Prop} {g:Gh} {S:Slots} {H:Boxes} {a:Act} {w:World} (R:Rel P w0 n U g S H a w)
  (loc:Loc) (loc':Option Loc) (hS:∀ t,loc = .slot t→t < n→¬ U t→(S t).noOwn)
  (hH:∀ i j cs,loc = .cell i j→H i=some cs→∀ h:j < cs.length,(cs[j]).noOwn) :
  Rel P w0 n U { g with owner:=fun b=>if g.owner b=some loc then loc' else g.owner b } S H a w:={
 size:=R.size
 defers:=R.defers
 facts:=R.facts
 slot:=R.slot
 own t ht hu:=by
  by_cases h:loc = .slot t
  ·exact (R.own t ht hu).noOwn (hS t h ht hu)
  ·refine (R.own t ht hu).keep rfl fun b hb=>⟨rfl,rfl,?_⟩
   show (if g.owner b=some loc then loc' else g.owner b)=_
   rw [if_neg (by rw [hb];intro e;exact h (Option.some.inj e).symm)];exact hb
 box i b hi:=by
  obtain ⟨cs,vs,ty,h1,h2,h3,h4,h5,h6,h7,h8,h9⟩:=R.box i b hi
  refine ⟨cs,vs,ty,h1,h2,h3,h4,?_,h6,h7,?_,h9⟩
  ·show (if g.owner b=some loc then loc' else g.owner b)=none
   rw [h5];simp
  ·intro j hj hj'
   by_cases h:loc = .cell i j
   ·exact (h8 j hj hj').noOwn (hH i j cs h h1 hj)
   ·refine (h8 j hj hj').keep rfl fun b hb=>⟨rfl,rfl,?_⟩
    show (if g.owner b=some loc then loc' else g.owner b)=_
    rw [if_neg (by rw [hb];intro e;exact h (Option.some.inj e).symm)];exact hb
 alH:=R.alH
 alU:=R.alU
 inj:=R.inj
 base:=R.base
 below:=R.below
 fresh b hb:=by
  refine ⟨(R.fresh b hb).1,?_⟩
  show (if g.owner b=some loc then loc' else g.owner b)=none
  rw [(R.fresh b hb).2];simp
 still:=R.still
 grown:=R.grown
 kept b o h:=by
  obtain ⟨k1,k2,k3,k4,k5⟩:=R.kept b o h
  refine ⟨k1,k2,k3,?_,k5⟩
  show (if g.owner b=some loc then loc' else g.owner b)=none
  rw [k4];simp }
theorem RV.scrub1 {Pr:Nat→Nat→Prop} {al al':Nat→Option Nat} {w:World} {v:AV} {c:Value} {d:Nat} (h:RV Pr al w v c) (hs:scrub1 d v=false)
  (ha:∀ i b,i≠d→al i=some b→al' i=some b):RV Pr al' w v c:=by
 cases h with
 |data v c h=>exact .data _ _ h
 |box i off b h=>exact .box i off b (ha i b (by simpa [Go.AL.scrub1] using hs) h)
 |func=>simp [Go.AL.scrub1] at hs
 |fagg=>simp [Go.AL.scrub1] at hs
 |junk c=>exact .junk c
theorem RV.scrub {Pr:Nat→Nat→Prop} {al al':Nat→Option Nat} {w:World} {v:AV} {c:Value} (d:Nat) (h:RV Pr al w v c)
  (ha:∀ i b,i≠d→al i=some b→al' i=some b):RV Pr al' w (scrub d v) c:=by
 cases h with
 |data v c h =>
  have:Go.AL.scrub d v=v:=by cases h<;>rfl
  rw [this];exact .data _ _ h
 |box i off b h =>
  simp only [Go.AL.scrub]
  split
  ·exact .junk _
  ·rename_i hi;exact .box i off b (ha i b hi h)
 |func fn first cap vs us h1 h2 r1 r2 =>
  simp only [Go.AL.scrub]
  split
  ·exact .junk _
  ·rename_i hn
   simp only [Bool.or_eq_true,not_or,Bool.not_eq_true,List.any_eq_false] at hn
   exact .func fn first cap vs us h1 h2 (fun i h h'=>(r1 i h h').scrub1 (by simpa using hn.1 _ (List.getElem_mem h)) ha) (fun i h h'=>(r2 i h h').scrub1 (by simpa using hn.2 _ (List.getElem_mem h)) ha)
 |fagg=>exact .junk _
 |junk c=>exact .junk c
theorem scrub_own (P:Program) (w:World) (g:Gh) (loc:Loc) (d:Nat) (v:AV) (c:Value) (h:OwnAt P w g loc v c):OwnAt P w g loc (scrub d v) c:=by
 cases v<;>try exact h
 ·simp only [scrub];split<;>trivial
 ·simp only [scrub];split<;>trivial
theorem Rel.suspend {P:Program} {w0:World} {n:Nat} {U:Nat→Prop} {g:Gh} {S:Slots} {H:Boxes} {a:Act} {w:World} (R:Rel P w0 n U g S H a w)
  (d:Nat) (hbx:¬ g.old.bx d) (v:AV) (cs:List AV) :
  Rel P w0 n (fun t=>U t∨t=d) { g with al:=upd g.al d none } (upd (fun t=>scrub d (S t)) d v) (upd H d (some cs)) a w:={
 size:=R.size
 defers:=R.defers
 facts p hp:=by
  have h:=(R.facts p hp).scrub (al':=upd g.al d none) d fun i b hi h=>by rw [upd_ne _ _ hi];exact h
  rw [(g.old.ok p hp).2 d hbx] at h
  exact h
 slot t ht hu:=by
  simp only [not_or] at hu
  rw [upd_ne _ _ hu.2]
  refine (R.slot t ht hu.1).scrub d fun i b hi h => ?_
  show upd g.al d none i=some b
  rw [upd_ne _ _ hi];exact h
 own t ht hu:=by
  simp only [not_or] at hu
  rw [upd_ne _ _ hu.2]
  exact scrub_own _ _ _ _ _ _ _ (R.own t ht hu.1)
 box i b hi:=by
  by_cases h:i=d
  ·subst h;simp [upd] at hi
  ·simp only [upd_ne _ _ h] at hi
   obtain ⟨cs',vs,ty,h1,rest⟩:=R.box i b hi
   exact ⟨cs',vs,ty,by rw [upd_ne _ _ h];exact h1,rest⟩
 alH i cs' h hu:=by
  simp only [not_or] at hu
  rw [upd_ne _ _ hu.2] at h
  simp only [upd_ne _ _ hu.2]
  exact R.alH i cs' h hu.1
 alU i h:=by
  show upd g.al d none i=none
  by_cases hi:i=d
  ·subst hi;simp [upd]
  ·rw [upd_ne _ _ hi];exact R.alU i (h.resolve_right hi)
 inj i j b h h':=by
  have e:∀ k,(upd g.al d none) k=some b→g.al k=some b:=by
   intro k hk
   by_cases hkd:k=d
   ·subst hkd;simp [upd] at hk
   ·rwa [upd_ne _ _ hkd] at hk
  exact R.inj i j b (e i h) (e j h')
 base:=R.base
 below:=R.below
 fresh:=R.fresh
 still:=R.still
 grown:=R.grown
 kept b o h:=by
  obtain ⟨k1,k2,k3,k4,k5⟩:=R.kept b o h
  refine ⟨k1,k2,k3,k4,fun i => ?_⟩
  show upd g.al d none i≠some b
  by_cases hi:i=d
  ·subst hi;simp [upd]
  ·rw [upd_ne _ _ hi];exact k5 i }
theorem Rel.newBox {P:Program} {w0:World} {n:Nat} {U:Nat→Prop} {g:Gh} {S:Slots} {H:Boxes} {a:Act} {w:World} (R:Rel P w0 n U g S H a w)
  (d:Nat) (hU:U d) (hd:d < n) (cs:List AV) (vs:Array Value) (ty:TypeId) (hS:S d = .box d 0) (hH:H d=some cs) (hl:cs.length=vs.size)
  (hr:∀ j (h:j < cs.length) (h':j < vs.size),RD g.Pr w cs[j] vs[j])
  (ho:∀ j (h:j < cs.length) (h':j < vs.size),(cs[j]).noOwn∧OwnAt P w g (.cell d j) cs[j] vs[j]) (h1:∀ j (h:j < cs.length),(cs[j]).one=true) :
  Rel P w0 n (fun t=>U t∧t≠d) { g with al:=upd g.al d (some w.heap.size) } S H (a.put (some d) (.pointer (some ⟨w.heap.size,0,none⟩))) (w.alloc (.cells vs ty)):=by
 have hb:Below w.heap.size w (w.alloc (.cells vs ty)):=(Below.refl _ _).alloc (Nat.le_refl _) _
 have R':=R.grow' hb
 have hle:g.base≤w.heap.size:=by rw [R.base];exact R.below.size
 have hal:∀ i b,g.al i=some b→upd g.al d (some w.heap.size) i=some b:=by
  intro i b h
  rw [upd_ne _ _ (by rintro rfl;rw [R.alU _ hU] at h;cases h)];exact h
 have hRD:∀ {v:AV} {c:Value},RD g.Pr w v c→RD g.Pr (w.alloc (.cells vs ty)) v c:=fun h=>h.mono (Keeps.of_blocks (fun b hlt=>hb.block b hlt) fun _ _ _ h=>h)
 refine { size:=by simp [Act.put,R.size],defers:=R.defers,facts:=fun p hp=>(R'.facts p hp).mono (Keeps.same fun _ _ _ h=>h) hal,slot := ?_,own := ?_,box := ?_,alH := ?_,alU := ?_,inj := ?_,base:=R.base,below:=R'.below,fresh:=R'.fresh,still:=R'.still,grown:=R'.grown,kept := ?_ }
 ·intro t ht hu
  rw [getD_put a d t _ (by rw [R.size];exact hd)]
  by_cases h:t=d
  ·subst h
   rw [if_pos rfl,hS]
   exact .box _ _ _ (by simp [upd])
  ·rw [if_neg h]
   exact (R'.slot t ht (fun hu'=>hu ⟨hu',h⟩)).mono (Keeps.same fun _ _ _ h=>h) hal
 ·intro t ht hu
  rw [getD_put a d t _ (by rw [R.size];exact hd)]
  by_cases h:t=d
  ·subst h
   rw [hS];simp [OwnAt]
  ·rw [if_neg h]
   exact (R'.own t ht (fun hu'=>hu ⟨hu',h⟩)).keep rfl fun b hb=>⟨rfl,rfl,hb⟩
 ·intro i b hi
  by_cases h:i=d
  ·subst h
   have hbb:b=w.heap.size:=by simpa [upd] using hi.symm
   subst hbb
   refine ⟨cs,vs,ty,hH,hle,heap_alloc_new w _,(R.fresh _ (Nat.le_refl _)).1,(R.fresh _ (Nat.le_refl _)).2,hl,fun j h h'=>hRD (hr j h h'),fun j h h'=>(ho j h h').2.noOwn (ho j h h').1,h1⟩
  ·simp only [upd_ne _ _ h] at hi
   obtain ⟨cs',vs',ty',h1,h2,h3,h4,h5,h6,h7,h8,h9⟩:=R'.box i b hi
   exact ⟨cs',vs',ty',h1,h2,h3,h4,h5,h6,h7,fun j hj hj'=>(h8 j hj hj').keep rfl fun b hb=>⟨rfl,rfl,hb⟩,h9⟩
 ·intro i cs' h hu
  by_cases hi:i=d
  ·subst hi;simp [upd]
  ·simp only [upd_ne _ _ hi]
   exact R.alH i cs' h (fun hu'=>hu ⟨hu',hi⟩)
 ·intro i h
  show upd g.al d (some w.heap.size) i=none
  rw [upd_ne _ _ h.2];exact R.alU i h.1
 ·intro i j b h h'
  have key:∀ k,upd g.al d (some w.heap.size) k=some b→(k=d∧b=w.heap.size)∨(k≠d∧g.al k=some b):=by
   intro k hk
   by_cases hkd:k=d
   ·subst hkd;exact .inl ⟨rfl,by simpa [upd] using hk.symm⟩
   ·rw [upd_ne _ _ hkd] at hk;exact .inr ⟨hkd,hk⟩
  have hlt:∀ k,g.al k=some b→b < w.heap.size:=by
   intro k hk
   obtain ⟨_,_,_,_,_,h3,_⟩:=R.box k b hk
   exact (Array.getElem?_eq_some_iff.1 h3).1
  rcases key i h with ⟨rfl,e⟩ | ⟨hi,h1⟩<;>rcases key j h' with ⟨rfl,e'⟩ | ⟨hj,h2⟩
  ·rfl
  ·have:=hlt j h2;omega
  ·have:=hlt i h1;omega
  ·exact R.inj i j b h1 h2
 ·intro b o h
  obtain ⟨k1,k2,k3,k4,k5⟩:=R'.kept b o h
  refine ⟨k1,k2,k3,k4,fun i => ?_⟩
  show upd g.al d (some w.heap.size) i≠some b
  by_cases hi:i=d
  ·subst hi
   rw [upd_same]
   have:=(Array.getElem?_eq_some_iff.1 (R.kept b o h).2.1).1
   intro e
   have:=Option.some.inj e
   omega
  ·rw [upd_ne _ _ hi];exact k5 i
theorem Rel.setBox {P:Program} {w0:World} {n:Nat} {U:Nat→Prop} {g:Gh} {S:Slots} {H:Boxes} {a:Act} {w:World} (R:Rel P w0 n U g S H a w)
  (i b:Nat) (hi:g.al i=some b) (vs vs':Array Value) (ty:TypeId) (hh:w.heap[b]? = some (.cells vs ty (0,0))) (cs':List AV) (hl:cs'.length=vs'.size)
  (hr:∀ j (h:j < cs'.length) (h':j < vs'.size),RD g.Pr w cs'[j] vs'[j])
  (ho:∀ j (h:j < cs'.length) (h':j < vs'.size),OwnAt P w g (.cell i j) cs'[j] vs'[j]) (h1':∀ j (h:j < cs'.length),(cs'[j]).one=true) :
  Rel P w0 n U g S (upd H i (some cs')) a (w.setRow b vs'):=by
 obtain ⟨cs,vs0,ty0,h1,h2,h3,h4,h5,h6,h7,h8,h9⟩:=R.box i b hi
 have hne:∀ b' k,g.Pr b' k→b'≠b:=by
  rintro b' k hp rfl
  unfold Gh.Pr at hp
  rw [h4] at hp
  omega
 have hcell:Keeps g.Pr g.Pr w (w.setRow b vs'):={
  cell:=fun b' k hp u hu=>⟨hp,by rw [World.cell?_of_block (w:=w) (setRow_other w b b' vs' (hne b' k hp))];exact hu⟩
  map:=fun b' hp es c hm=>⟨hp,by rw [setRow_other w b b' vs' (hne b' 0 hp)];exact hm⟩ }
 have hown:∀ b' loc,g.owner b'=some loc→(w.setRow b vs').heap[b']? = w.heap[b']? ∧ g.hi b'=g.hi b'∧g.owner b'=some loc:=by
  intro b' loc hb'
  refine ⟨setRow_other w b b' vs' ?_,rfl,hb'⟩
  rintro rfl
  rw [h5] at hb';cases hb'
 refine { size:=R.size,defers:=R.defers,facts:=fun p hp=>(R.facts p hp).mono hcell fun _ _ h=>h,slot := ?_,own := ?_,box := ?_,alH := ?_,alU:=R.alU,inj:=R.inj,base:=R.base,below := ?_,fresh := ?_,still:=R.still.trans hcell,grown:=by simpa using R.grown,kept := ?_ }
 ·exact fun t ht hu=>(R.slot t ht hu).mono hcell fun _ _ h=>h
 ·exact fun t ht hu=>(R.own t ht hu).keep rfl fun b' hb'=>hown b' _ hb'
 ·intro k b' hk
  by_cases hki:k=i
  ·subst hki
   have:b'=b:=by rw [hi] at hk;exact (Option.some.inj hk).symm
   subst this
   exact ⟨cs',vs',ty,upd_same _ _ _,h2,setRow_heap w b' vs vs' ty (0,0) hh,h4,h5,hl,fun j h h'=>(hr j h h').mono hcell,fun j h h'=>(ho j h h').keep rfl fun b' hb'=>hown b' _ hb',h1'⟩
  ·obtain ⟨c1,v1,t1,k1,k2,k3,k4,k5,k6,k7,k8,k9⟩:=R.box k b' hk
   have hne:b'≠b:=by rintro rfl;exact hki (R.inj k i b' hk hi)
   exact ⟨c1,v1,t1,by rw [upd_ne _ _ hki];exact k1,k2,by rw [setRow_other w b b' vs' hne];exact k3,k4,k5,k6,fun j h h'=>(k7 j h h').mono hcell,fun j h h'=>(k8 j h h').keep rfl fun b' hb'=>hown b' _ hb',k9⟩
 ·intro k cs1 hk hu
  by_cases hki:k=i
  ·subst hki;rw [hi];rfl
  ·rw [upd_ne _ _ hki] at hk;exact R.alH k cs1 hk hu
 ·exact R.below.trans ⟨rfl,rfl,rfl,by simp,fun k hk=>setRow_other w b k vs' (by omega)⟩
 ·intro b' hb'
  exact R.fresh b' (by simpa using hb')
 ·intro b' o h
  obtain ⟨k1,k2,k3,k4,k5⟩:=R.kept b' o h
  refine ⟨k1,?_,k3,k4,k5⟩
  rw [setRow_other w b b' vs' (by rintro rfl;exact k5 i hi)];exact k2
end Go.AL
namespace Go.AL
open Go.RowKit
inductive Opd where
 |t (n:Nat) | c (v:AV) | f (n:Nat) | m (n:Nat) (tab:List (TypeId×Nat))
def constAV:Value→Option AV
 |.bool b=>some (.bool b)
 |.int k n=>some (.int k n)
 |.string s=>some (.str s.data.toList)
 |.slice none 0 0=>some (.slice .nil [])
 |.pointer none=>some .nilp
 |.map none=>some (.map [] [])
 |.nilIface=>some .nili
 |.nilFunc=>some (.val .nilFunc)
 |_=>none
def constCells:List Value→Option (List AV)
 |[]=>some []
 |v::vs=>match constAV v,constCells vs with
  |some x,some xs=>if x.storable then some (x::xs) else none
  |_,_=>none
def ev (S:Slots):Opd→AV
 |.t n=>S n
 |.c v=>v
 |.f n => .func (.func n) [] []
 |.m n tab=>match S n with
  |.iface t v=>match tab.lookup t with
   |some k => .func (.func k) [v] []
   |none => .junk
  |_ => .junk
inductive HR where
 |any | ref | box (r:Nat)
def HR.okB:HR→Nat→Bool
 |.any,_=>true
 |.ref,_=>false
 |.box r,i=>i==r
inductive AOp where
 |mv (take:Bool) (x:Opd)
 |pick (c a b:Opd)
 |alloc (t:TypeId) (zero:List AV)
 |box (t:TypeId) (size:Nat) (x:Opd)
 |build (zero:List AV) (parts:List (Nat×Nat×Opd))
 |buildSlice (t e:TypeId) (size:Nat) (parts:List Opd)
 |load (hr:HR) (agg:Bool) (size:Nat) (a:Opd)
 |loadT (hr:HR) (a:Opd)
 |store (hr:HR) (size:Nat) (a x:Opd)
 |bin (op:BinOp) (x y:Opd)
 |eqB (neg:Bool) (x y:Opd)
 |eqs (neg:Bool) (k:Nat) (x y:Opd)
 |indexA (ag:Bool) (len size:Nat) (x i:Opd)
 |bstr (x:Opd)
 |buildF (xs:List Opd)
 |indexF (len:Nat) (x i:Opd)
 |lookup (k:Nat) (z:AV) (x i:Opd)
 |not (x:Opd)
 |conv (k:IntKind) (x:Opd)
 |iface (t:TypeId) (x:Opd)
 |mkf (fn:Fn) (first cap:List Opd)
 |sliceS (x:Opd) (lo hi:Option Opd)
 |sliceL (size:Nat) (x:Opd) (lo hi:Option Opd)
 |sliceR (len:Nat) (x:Opd)
 |fieldAddr (off:Nat) (x:Opd)
 |indexAddr (size:Nat) (x i:Opd)
 |indexS (x i:Opd)
 |extract (x:Opd) (i:Nat)
 |lenS (x:Opd)
 |lenL (x:Opd)
 |isNil (neg:Bool) (x:Opd)
 |empty (e:TypeId)
 |append (t e:TypeId) (size bytes:Nat) (x y:Opd)
 |max (x y:Opd)
 |min (x y:Opd)
 |assert (t:TypeId) (zero:AV) (x:Opd)
 |panic (x:Opd)
 |call (f:Nat) (args:List Opd)
 |callv (f:Opd) (args:List Opd)
 |other
structure Eff where
 v:AV
 dm:Option Nat:=none
 hw:Option (Nat×List AV):=none
def Eff.S (e:Eff) (S:Slots) (dst:Option Nat):Slots :=
 putD (match e.dm with | some t=>upd S t (S t).dem | none=>S) dst e.v
def Eff.H (e:Eff) (H:Boxes):Boxes :=
 match e.hw with | some (i,cs)=>upd H i (some cs) | none=>H
def undefA:AV := .tup []
def abin (op:BinOp):AV→AV→Option AV
 |.int k a,.int k' b =>
  if k≠k' then none else
  match op with
  |.add=>some (.int k (k.wrap (a+b)))
  |.sub=>some (.int k (k.wrap (a - b)))
  |.mul=>some (.int k (k.wrap (a * b)))
  |.quo=>if b=0 then none else some (.int k (k.wrap (a.tdiv b)))
  |.rem=>if b=0 then none else some (.int k (a.tmod b))
  |.eql=>some (.bool (a==b))
  |.neq=>some (.bool (a != b))
  |.lss=>some (.bool (decide (a < b)))
  |.leq=>some (.bool (decide (a≤b)))
  |.gtr=>some (.bool (decide (a > b)))
  |.geq=>some (.bool (decide (a≥b)))
  |_=>none
 |.str a,.str b =>
  match op with
  |.eql=>some (.bool (a==b))
  |.neq=>some (.bool (a != b))
  |.add=>if a.length+b.length < 1073741824 then some (.str (a++b)) else none
  |_=>none
 |_,_=>none
def intsOf:List AV→Option (List Int)
 |[]=>some []
 |.int .i64 n::cs=>(intsOf cs).map (n :: ·)
 |_=>none
def bytesOf:List AV→Option (List UInt8)
 |[]=>some []
 |.int .u8 n::cs=>if 0≤n∧n < 256 then (bytesOf cs).map (UInt8.ofNat n.toNat :: ·) else none
 |_=>none
def lookA (key:List Int):List AV→List AV→Option (Option AV)
 |[],_=>some none
 |.agg c::ks,v::vs=>match intsOf c with
  |some m=>if m.length≠key.length then none else if key==m then some (some v) else lookA key ks vs
  |none=>none
 |_,_=>none
def isFn:AV→Bool
 |.func .. | .val .nilFunc=>true
 |_=>false
def splice (cs:List AV) (off:Nat) (vs:List AV):List AV:=cs.take off++vs++cs.drop (off+vs.length)
def fillA (cells:List AV):List (Nat×Nat×AV)→Option (List AV)
 |[]=>some cells
 |(off,size,v)::rest=>if v.cells.length=size∧off+size≤cells.length∧v.storable=true then fillA (splice cells off (v.dem.cells)) rest else none
def loadA (agg:Bool) (size:Nat) (cs:List AV):Option AV :=
 if agg then (if size≤cs.length then some (.agg ((cs.take size).map AV.dem)) else none)
 else (cs[0]?).map AV.dem
def bound (x:Option AV) (d:Nat):Option Int :=
 match x with
 |none=>some d
 |some (.int .i64 n)=>some n
 |_=>none
def AV.scells:AV→List AV
 |.agg cs=>cs.map AV.dem
 |v=>[v]
def tmpOf:Opd→Option Nat
 |.t n=>some n
 |_=>none
def elemsOK (size:Nat) (es:List AV):Bool:=es.all fun v=>v.storable && v.cells.length==size
def apure (S:Slots) (H:Boxes):AOp→Option Eff
 |.mv take x=>if take then some { v:=ev S x,dm:=tmpOf x } else some { v:=(ev S x).dem }
 |.pick c a b=>match ev S c with
  |.bool t=>some { v:=(if t then ev S a else ev S b).dem }
  |_=>none
 |.build zero parts=>(fillA zero (parts.map fun (o,s,x)=>(o,s,ev S x))).map fun cs=>{ v := .agg cs }
 |.buildSlice _ e size parts =>
  if elemsOK size (parts.map (ev S)) && parts.length * size≤16777216 then some { v := .slice (.own e) ((parts.map (ev S)).map AV.vw) } else none
 |.load hr agg size x=>match ev S x with
  |.box i off=>if hr.okB i then match H i with
   |some cs=>(loadA agg size (cs.drop off)).map fun v=>{ v:=v }
   |none=>none
   else none
  |.ref cs=>(loadA agg size cs).map fun v=>{ v:=v }
  |_=>none
 |.loadT hr x=>match ev S x with
  |.box i off=>if hr.okB i then match H i with
   |some cs=>match cs[off]? with
    |some v=>some { v:=v,hw:=some (i,cs.set off v.dem) }
    |none=>none
   |none=>none
   else none
  |_=>none
 |.store hr size x y=>match ev S x with
  |.box i off=>if hr.okB i then match H i with
   |some cs=>if (ev S y).cells.length=size∧off+size≤cs.length∧(ev S y).storable=true then
     some { v:=undefA,dm:=tmpOf y,hw:=some (i,splice cs off (ev S y).scells) } else none
   |none=>none
   else none
  |_=>none
 |.bin op x y=>(abin op (ev S x) (ev S y)).map fun v=>{ v:=v }
 |.eqB neg x y=>match ev S x,ev S y with
  |.bool a,.bool b=>some { v := .bool (if neg then a != b else a==b) }
  |_,_=>none
 |.eqs neg k x y=>match ev S x,ev S y with
  |.agg xs,.agg ys=>match intsOf xs,intsOf ys with
   |some a,some b=>if a.length=k∧b.length=k then some { v := .bool (if neg then a != b else a==b) } else none
   |_,_=>none
  |_,_=>none
 |.indexA ag len size x i=>match ev S x,ev S i with
  |.agg cs,.int .i64 k=>if 0≤k∧k < len then (loadA ag size (cs.drop (k.toNat * size))).map fun v=>{ v:=v } else none
  |_,_=>none
 |.buildF xs=>if (xs.map (ev S)).all isFn then some { v := .fagg (xs.map (ev S)) } else none
 |.indexF len x i=>match ev S x,ev S i with
  |.fagg fs,.int .i64 k=>if 0≤k∧k < len then match fs[k.toNat]? with
    |some v=>if isFn v then some { v:=v } else none
    |none=>none
   else none
  |_,_=>none
 |.bstr x=>match ev S x with
  |.slice _ es=>(bytesOf es).map fun l=>{ v := .str l }
  |_=>none
 |.lookup k z x i=>match ev S x,ev S i with
  |.map ks vs,.agg c=>match intsOf c with
   |some key=>if key.length=k then match lookA key ks vs with
     |some (some v)=>some { v := .tup [v.dem,.bool true] }
     |some none=>some { v := .tup [z,.bool false] }
     |none=>none
    else none
   |none=>none
  |_,_=>none
 |.not x=>match ev S x with
  |.bool b=>some { v := .bool !b }
  |_=>none
 |.conv k x=>match ev S x with
  |.int _ n=>some { v := .int k (k.wrap n) }
  |_=>none
 |.iface t x=>if (ev S x).storable then some { v := .iface t (ev S x).vw } else none
 |.mkf fn first cap=>some { v := .func fn (first.map fun x=>(ev S x).dem) (cap.map fun x=>(ev S x).dem) }
 |.sliceS x lo hi=>match ev S x with
  |.str l=>match bound (lo.map (ev S)) 0,bound (hi.map (ev S)) l.length with
   |some a,some b=>if 0≤a∧a≤b∧b≤l.length then some { v := .str ((l.take b.toNat).drop a.toNat) } else none
   |_,_=>none
  |_=>none
 |.sliceR len x=>match ev S x with
  |.ref cs=>if cs.length=len then some { v := .slice .view cs } else none
  |_=>none
 |.sliceL size x lo hi=>match ev S x with
  |.slice _ es=>match bound (lo.map (ev S)) 0,bound (hi.map (ev S)) es.length with
   |some a,some b=>if 0≤a∧a≤b∧b≤es.length∧elemsOK size es=true then some { v := .slice .view ((es.take b.toNat).drop a.toNat) } else none
   |_,_=>none
  |_=>none
 |.fieldAddr off x=>match ev S x with
  |.box i o=>some { v := .box i (o+off) }
  |.ref cs=>some { v := .ref (cs.drop off) }
  |_=>none
 |.indexAddr size x i=>match ev S x,ev S i with
  |.slice _ es,.int .i64 k=>if 0≤k then match es[k.toNat]? with
    |some v=>if v.cells.length=size then some { v := .ref v.cells } else none
    |none=>none
   else none
  |_,_=>none
 |.indexS x i=>match ev S x,ev S i with
  |.str l,.int .i64 k=>if 0≤k then match l[k.toNat]? with
    |some b=>some { v := .int .u8 b.toNat }
    |none=>none
   else none
  |_,_=>none
 |.extract x i=>match ev S x with
  |.tup vs=>(vs[i]?).map fun v=>{ v:=v.dem }
  |_=>none
 |.lenS x=>match ev S x with
  |.str l=>some { v := .int .i64 l.length }
  |_=>none
 |.lenL x=>match ev S x with
  |.slice _ es=>some { v := .int .i64 es.length }
  |_=>none
 |.isNil neg x=>match ev S x with
  |.slice _ es=>some { v:=if es.isEmpty then .anyb else .bool neg }
  |_=>none
 |.empty _=>some { v := .slice .nil [] }
 |.append _ e size _ x y=>match ev S x,ev S y with
  |.slice .nil [],.slice _ ys=>if elemsOK size ys && ys.length < 1048576 then some { v := .slice (if ys.isEmpty then .nil else .own e) ys } else none
  |.slice (.own e') xs,.slice _ ys=>if e'=e∧(elemsOK size ys && elemsOK size xs && (xs.length+ys.length < 1048576))=true then some { v := .slice (.own e) (xs++ys),dm:=tmpOf x } else none
  |_,_=>none
 |.max x y=>match ev S x,ev S y with
  |.int .i64 a,.int .i64 b=>some { v := .int .i64 (max a b) }
  |_,_=>none
 |.min x y=>match ev S x,ev S y with
  |.int .i64 a,.int .i64 b=>some { v := .int .i64 (min a b) }
  |_,_=>none
 |.assert t zero x=>match ev S x with
  |.iface t' v=>some { v:=if t'=t then .tup [v,.bool true] else .tup [zero,.bool false] }
  |.nili=>some { v := .tup [zero,.bool false] }
  |_=>none
 |_=>none
def Opd.tmps:Opd→List Nat
 |.t n=>[n]
 |.m n _=>[n]
 |_=>[]
def AOp.rd:AOp→List Nat
 |.mv _ x | .sliceR _ x | .box _ _ x | .load _ _ _ x | .loadT _ x | .not x | .bstr x | .conv _ x | .iface _ x | .fieldAddr _ x | .extract x _ | .lenS x | .lenL x | .isNil _ x | .assert _ _ x | .panic x=>x.tmps
 |.pick a b c=>a.tmps++b.tmps++c.tmps
 |.alloc .. | .other | .empty _=>[]
 |.build _ ps=>ps.flatMap fun p=>p.2.2.tmps
 |.buildSlice _ _ _ ps=>ps.flatMap Opd.tmps
 |.store _ _ a x | .bin _ a x | .eqB _ a x | .eqs _ _ a x | .indexAddr _ a x | .indexS a x | .indexA _ _ _ a x | .lookup _ _ a x | .append _ _ _ _ a x | .max a x | .min a x=>a.tmps++x.tmps
 |.buildF xs=>xs.flatMap Opd.tmps
 |.indexF _ a x=>a.tmps++x.tmps
 |.mkf _ f c=>f.flatMap Opd.tmps++c.flatMap Opd.tmps
 |.sliceS x l h | .sliceL _ x l h=>x.tmps++(l.toList++h.toList).flatMap Opd.tmps
 |.call _ as=>as.flatMap Opd.tmps
 |.callv f as=>f.tmps++as.flatMap Opd.tmps
end Go.AL
namespace Go.AL
open Go.RowKit
def opd (n:Nat):Operand→Option Opd
 |.tmp t=>if t < n then some (.t t) else none
 |.const c=>(constAV c).map .c
 |.func f=>some (.f f)
 |.global _=>none
def opds (n:Nat):List Operand→Option (List Opd)
 |[]=>some []
 |x::xs=>match opd n x,opds n xs with
  |some y,some ys=>some (y::ys)
  |_,_=>none
def optOpd (n:Nat):Option Operand→Option (Option Opd)
 |none=>some none
 |some x=>(opd n x).map some
theorem constRV (Pr:Nat→Nat→Prop) (al:Nat→Option Nat) (w:World) {c:Value} {v:AV} (h:constAV c=some v):RV Pr al w v c:=by
 unfold constAV at h
 split at h<;>first | cases h | skip
 ·exact .data _ _ (.bool _)
 ·exact .data _ _ (.int _ _)
 ·rename_i s
  have:s=⟨s.data.toList.toArray⟩:=by simp
  rw (occs := .pos [2]) [this]
  exact .data _ _ (.str _)
 ·exact .data _ _ (.nils _)
 ·exact .data _ _ .nilp
 ·exact .data _ _ .nilm
 ·exact .data _ _ .nili
 ·exact .data _ _ (.val _ rfl)
theorem constOwn {c:Value} {v:AV} (h:constAV c=some v) (P:Program) (w:World) (g:Gh) (loc:Loc):OwnAt P w g loc v c:=by
 unfold constAV at h
 split at h<;>first | cases h | skip
 all_goals first | trivial | exact ⟨none,rfl⟩
theorem constNoOwn {c:Value} {v:AV} (h:constAV c=some v):v.noOwn:=by
 unfold constAV at h
 split at h<;>first | cases h | skip
 all_goals trivial
section
variable {P:Program} {w0:World} {n:Nat} {U:Nat→Prop} {g:Gh} {S:Slots} {H:Boxes} {a:Act} {w:World}
theorem Rel.ev (R:Rel P w0 n U g S H a w) {x:Operand} {y:Opd} (h:opd n x=some y) (hu:∀ t∈y.tmps,¬ U t):RV g.Pr g.al w (ev S y) (a.eval x):=by
 cases x with
 |tmp t =>
  simp only [opd] at h
  split at h
  ·rename_i ht;cases h;exact R.slot t ht (hu t (by simp [Opd.tmps]))
  ·cases h
 |const c =>
  simp only [opd,Option.map_eq_some_iff] at h
  obtain ⟨v,hv,rfl⟩:=h
  exact constRV _ _ _ hv
 |global k=>cases h
 |func f =>
  cases h
  exact .func _ [] [] #[] #[] rfl rfl (fun i h=>by simp at h) (fun i h=>by simp at h)
theorem Rel.evs (R:Rel P w0 n U g S H a w):∀ {xs:List Operand} {ys:List Opd},opds n xs=some ys→(∀ y∈ys,∀ t∈y.tmps,¬ U t) →
  ys.length=xs.length∧∀ i (h:i < ys.length) (h':i < xs.length),RV g.Pr g.al w (AL.ev S ys[i]) (a.eval xs[i])
 |[],ys,h,_=>by cases h;exact ⟨rfl,fun i h=>by simp at h⟩
 |x::xs,ys,h,hu=>by
  simp only [opds] at h
  split at h
  ·rename_i y ys' h1 h2
   cases h
   obtain ⟨e,hh⟩:=R.evs h2 (fun y hy=>hu y (by simp [hy]))
   refine ⟨by simp [e],fun i hi hi' => ?_⟩
   cases i with
   |zero=>exact R.ev h1 (hu y (by simp))
   |succ i=>exact hh i (by simpa using hi) (by simpa using hi')
  ·cases h
def Does (P:Program) (w0:World) (n:Nat) (U:Nat→Prop) (g:Gh) (S:Slots) (H:Boxes) (a:Act) (w:World) (o:Oper) (e:Eff):Prop :=
 ∃ c w' g',((execOp a.eval o).run P w = .ok (.value c) w'∨((execOp a.eval o).run P w = .ok .skip w'∧c=undef)) ∧
  g'.base=g.base∧g'.old=g.old∧Rel P w0 n U g' (e.S S o.dst) (e.H H) (a.put o.dst c) w'
theorem Does.val (R:Rel P w0 n U g S H a w) {o:Oper} {v:AV} {c:Value} (hd:∀ t,o.dst=some t→t < n) (hr:(execOp a.eval o).run P w = .ok (.value c) w)
  (hv:RV g.Pr g.al w v c) (ho:∀ loc,OwnAt P w g loc v c):Does P w0 n U g S H a w o { v:=v } :=
 ⟨c,w,g,.inl hr,rfl,rfl,R.putD o.dst v c hd hv fun _ _=>ho _⟩
theorem ownAt_dem (v:AV) (c:Value) (loc:Loc):OwnAt P w g loc v.dem c:=OwnAt.dem
theorem does_mv (R:Rel P w0 n U g S H a w) {o:Oper} {x:Operand} {y:Opd} {tk:Bool} {e:Eff} (hd:∀ t,o.dst=some t→t < n∧¬ U t) (hx:opd n x=some y) (hu:∀ t∈y.tmps,¬ U t)
  (hr:(execOp a.eval o).run P w = .ok (.value (a.eval x)) w) (hds:∀ t,o.dst=some t→t∉y.tmps) (he:apure S H (.mv tk y)=some e):Does P w0 n U g S H a w o e:=by
 have hv:=R.ev hx hu
 cases tk with
 |false =>
  simp only [apure,Bool.false_eq_true,if_false,Option.some.injEq] at he
  subst he
  exact Does.val R (fun t h=>(hd t h).1) hr hv.dem fun loc=>ownAt_dem _ _ _
 |true =>
  simp only [apure,if_true,Option.some.injEq] at he
  subst he
  cases x with
  |const c =>
   simp only [opd,Option.map_eq_some_iff] at hx
   obtain ⟨v,hc,rfl⟩:=hx
   exact Does.val R (fun t h=>(hd t h).1) hr hv fun loc=>constOwn hc _ _ _ _
  |global k=>cases hx
  |func f=>cases hx;exact Does.val R (fun t h=>(hd t h).1) hr hv fun loc=>trivial
  |tmp t =>
   simp only [opd] at hx
   split at hx
   case isFalse=>cases hx
   rename_i ht
   cases hx
   have hut:=hu t (by simp [Opd.tmps])
   have ho:=R.own t ht hut
   have R1:Rel P w0 n U g (upd S t (S t).dem) H a w:=R.weaken _ fun k hk huk c hv' ho=>by
    by_cases h:k=t
    ·subst h;rw [upd_same];exact ⟨hv'.dem,ownAt_dem _ _ _⟩
    ·rw [upd_ne _ _ h];exact ⟨hv',ho⟩
   cases hdst:o.dst with
   |none =>
    refine ⟨_,w,g,.inl hr,rfl,rfl,?_⟩
    simpa [Eff.S,Eff.H,putD,tmpOf,hdst,Act.put] using R1
   |some d =>
    have hdt:d≠t:=fun h=>hds d hdst (by simp [Opd.tmps,h])
    have R2:=R1.reown (.slot t) (some (.slot d)) (fun k hk _ _=>by cases hk;rw [upd_same];exact AV.noOwn_dem _) (fun i j cs h=>by cases h)
    have R3:=R2.put d (S t) (a.tmps.getD t undef) (hd d hdst).1 (R.slot t ht hut) ?own
    case own =>
     show OwnAt P w _ (.slot d) (S t) (a.tmps.getD t undef)
     generalize S t=v at ho
     generalize a.tmps.getD t undef=c at ho
     cases v<;>try trivial
     rename_i oo es
     cases oo with
     |view=>trivial
     |nil=>exact ho
     |own e =>
      obtain ⟨i,xs,b,h1,h2,h3,h4,h5⟩:=ho
      refine ⟨i,xs,b,h1,h2,h3,?_,h5⟩
      show (if g.owner b=some (.slot t) then some (.slot d) else g.owner b)=_
      rw [if_pos h4]
    rw [← hdst] at R3
    exact ⟨_,w,{ g with owner:=fun b=>if g.owner b=some (.slot t) then some (.slot d) else g.owner b },.inl hr,rfl,rfl,by rw [hdst] at R3 ⊢;exact R3⟩
def aggT:TypeDesc→Bool
 |.struct _ | .array _ _=>true
 |_=>false
theorem loadA_sound {Pr:Nat→Nat→Prop} {al:Nat→Option Nat} {ty:TypeId} {i:TypeInfo} {dsc:TypeDesc} (hi:P.info? ty=some i) (hu:P.underlying ty=some dsc) {b off:Nat} {cs:List AV} {vs:Nat→Value} {v:AV}
  (hc:∀ k,k < cs.length→w.cell? ⟨b,off+k,none⟩=some (vs k)) (h1:∀ k (h:k < cs.length),(cs[k]).one=true) (hr:∀ k (h:k < cs.length),RD Pr w cs[k] (vs k))
  (he:loadA (aggT dsc) i.size cs=some v) :
  ∃ c,(loadVar ty ⟨b,off,none⟩).run P w = .ok c w∧RD Pr w v c∧v.dem=v:=by
 have hagg:(isAgg ty).run P w = .ok (aggT dsc) w:=by
  unfold isAgg
  rw [Sem.run_bind,run_underlying hu w]
  cases dsc<;>simp [aggT]
 generalize aggT dsc=q at he hagg
 cases q with
 |true =>
  simp only [loadA,if_true] at he
  split at he
  case isFalse=>cases he
  rename_i hl
  cases he
  have hload:(loadCells ⟨b,off,none⟩ i.size).run P w = .ok ((List.range i.size).map vs).toArray w :=
   run_loadCells (P:=P) w _ _ vs fun j hj=>by rw [Addr.add_lit];exact hc j (by omega)
  refine ⟨.agg ((List.range i.size).map vs).toArray,by simp [loadVar,Sem.run_bind,hagg,sizeOf,typeInfo,hi,hload],?_,rfl⟩
  refine .agg _ _ (by simp;omega) (fun k hk => ?_) fun k hk hk' => ?_
  ·simp only [List.length_map,List.length_take] at hk
   simp only [List.getElem_map,List.getElem_take]
   rw [AV.one_dem];exact h1 k (by omega)
  ·simp only [List.length_map,List.length_take] at hk
   have:=(hr k (by omega)).dem
   simpa using this
 |false =>
  simp only [loadA,Bool.false_eq_true,if_false,Option.map_eq_some_iff] at he
  obtain ⟨v0,hv0,rfl⟩:=he
  obtain ⟨h0,rfl⟩:=List.getElem?_eq_some_iff.1 hv0
  have:=hc 0 h0
  simp only [Nat.add_zero] at this
  exact ⟨vs 0,by simp [loadVar,Sem.run_bind,hagg,this],(hr 0 h0).dem,AV.idem _⟩
set_option linter.unusedVariables false in
theorem does_load (R:Rel P w0 n U g S H a w) {o:Oper} {hr:HR} {ty:TypeId} {i:TypeInfo} {dsc:TypeDesc} {x:Operand} {y:Opd} {e:Eff} (ho:o.op = .load ty x) (hd:∀ t,o.dst=some t→t < n∧¬ U t)
  (hi:P.info? ty=some i) (hun:P.underlying ty=some dsc) (hx:opd n x=some y) (hu:∀ t∈y.tmps,¬ U t)
  (he:apure S H (.load hr (aggT dsc) i.size y)=some e):Does P w0 n U g S H a w o e:=by
 have hv:=R.ev hx hu
 have fin:∀ {v:AV} {b off:Nat},a.eval x = .pointer (some ⟨b,off,none⟩)→(∃ c,(loadVar ty ⟨b,off,none⟩).run P w = .ok c w∧RD g.Pr w v c∧v.dem=v)→Does P w0 n U g S H a w o { v:=v }:=by
  rintro v b off hx ⟨c,h1,h2,h3⟩
  refine Does.val R (fun t h=>(hd t h).1) (c:=c) ?_ (.data _ _ h2) fun loc=>by rw [← h3];exact ownAt_dem _ _ _
  unfold execOp
  simp [ho,hx,Instr.loadAt,Instr.sureAddr,h1]
 simp only [apure] at he
 generalize hev:AL.ev S y=q at he hv
 generalize hcx:a.eval x=c at hv fin
 cases hv with
 |box j off b hal =>
  simp only at he
  split at he
  case isFalse=>cases he
  obtain ⟨cs,vs,ty',k1,k2,k3,k4,k5,k6,k7,k8,k9⟩:=R.box j b hal
  simp only [k1,Option.map_eq_some_iff] at he
  obtain ⟨v,hv,rfl⟩:=he
  refine fin rfl (loadA_sound (Pr:=g.Pr) (al:=g.al) hi hun (vs:=fun k=>vs.getD (off+k) undef) (fun k hk => ?_) (fun k hk => ?_) (fun k hk => ?_) hv)
  ·simp only [List.length_drop] at hk
   have:off+k < vs.size:=by omega
   simp [World.cell?,k3,this]
  ·simp only [List.length_drop] at hk
   simp only [List.getElem_drop]
   exact k9 (off+k) (by omega)
  ·simp only [List.length_drop] at hk
   simp only [List.getElem_drop]
   have hh:=k7 (off+k) (by omega) (by omega)
   have:off+k < vs.size:=by omega
   simpa [this] using hh
 |data v c h =>
  cases h<;>simp only at he<;>try cases he
  rename_i cs b off vs h1 hc hr
  simp only [Option.map_eq_some_iff] at he
  obtain ⟨v,hv,rfl⟩:=he
  exact fin rfl (loadA_sound (Pr:=g.Pr) (al:=g.al) hi hun (vs:=vs) (fun k hk=>(hc k hk).2) h1 hr hv)
 |func=>cases he
 |fagg=>cases he
 |junk c=>cases he
end
end Go.AL
namespace Go.AL
open Go.RowKit
section
variable {P:Program} {w0:World} {n:Nat} {U:Nat→Prop} {g:Gh} {S:Slots} {H:Boxes} {a:Act} {w:World}
theorem does_pick (R:Rel P w0 n U g S H a w) {o:Oper} {x x1 x2:Operand} {y y1 y2:Opd} {e:Eff} (ho:o.op = .pick x x1 x2) (hd:∀ t,o.dst=some t→t < n∧¬ U t)
  (hx:opd n x=some y) (hx1:opd n x1=some y1) (hx2:opd n x2=some y2) (hu:∀ t∈y.tmps,¬ U t) (hu1:∀ t∈y1.tmps,¬ U t) (hu2:∀ t∈y2.tmps,¬ U t)
  (he:apure S H (.pick y y1 y2)=some e):Does P w0 n U g S H a w o e:=by
 have hv:=R.ev hx hu
 have hv1:=R.ev hx1 hu1
 have hv2:=R.ev hx2 hu2
 simp only [apure] at he
 generalize hev:AL.ev S y=q at he hv
 generalize hcx:a.eval x=c at hv
 cases hv<;>(try cases he;done)
 rename_i h
 cases h<;>simp only at he<;>try cases he
 rename_i b
 refine Does.val R (fun t h=>(hd t h).1) (c:=if b then a.eval x1 else a.eval x2) ?_ ?_ fun loc=>ownAt_dem _ _ _
 ·simp [execOp,ho,hcx,asBool]
 ·cases b<;>simp only [Bool.false_eq_true,if_true,if_false]
  ·exact hv2.dem
  ·exact hv1.dem
theorem does_not (R:Rel P w0 n U g S H a w) {o:Oper} {t:TypeId} {x:Operand} {y:Opd} {e:Eff} (ho:o.op = .unOp .not t x) (hd:∀ t,o.dst=some t→t < n∧¬ U t)
  (hx:opd n x=some y) (hu:∀ t∈y.tmps,¬ U t) (he:apure S H (.not y)=some e):Does P w0 n U g S H a w o e:=by
 have hv:=R.ev hx hu
 simp only [apure] at he
 generalize hev:AL.ev S y=q at he hv
 generalize hcx:a.eval x=c at hv
 cases hv<;>(try cases he;done)
 rename_i h
 cases h<;>simp only at he<;>try cases he
 rename_i b
 refine Does.val R (fun t h=>(hd t h).1) (c := .bool !b) ?_ (.data _ _ (.bool _)) fun loc=>trivial
 simp [execOp,ho,hcx,Op.unary]
def guardless:Value→Bool
 |.nilIface | .agg _=>false
 |_=>true
theorem run_eqGuard_other (op:BinOp) (t:TypeId) (x y:Operand) (c d:Value) (h:guardless c=true) :
  (eqGuard op t x y c d).run P w = .ok () w:=by
 unfold eqGuard
 cases op<;>(try rfl)<;>cases c<;>first | rfl | cases h
theorem does_bin (R:Rel P w0 n U g S H a w) {o:Oper} {op:BinOp} {t t':TypeId} {x1 x2:Operand} {y1 y2:Opd} {e:Eff} (ho:o.op = .binOp op t x1 x2 t') (hd:∀ t,o.dst=some t→t < n∧¬ U t)
  (hx1:opd n x1=some y1) (hx2:opd n x2=some y2) (hu1:∀ t∈y1.tmps,¬ U t) (hu2:∀ t∈y2.tmps,¬ U t)
  (he:apure S H (.bin op y1 y2)=some e):Does P w0 n U g S H a w o e:=by
 have hv1:=R.ev hx1 hu1
 have hv2:=R.ev hx2 hu2
 simp only [apure,Option.map_eq_some_iff] at he
 obtain ⟨v,hb,rfl⟩:=he
 generalize AL.ev S y1=q1 at hb hv1
 generalize AL.ev S y2=q2 at hb hv2
 have fin:∀ c,(eqGuard op t x1 x2 (a.eval x1) (a.eval x2)).run P w = .ok () w→(binOp op t (a.eval x1) (a.eval x2)).run P w = .ok c w→RD g.Pr w v c→(∀ loc,OwnAt P w g loc v c)→Does P w0 n U g S H a w o { v:=v }:=by
  intro c h0 h1 h2 h3
  refine Does.val R (fun t h=>(hd t h).1) (c:=c) ?_ (.data _ _ h2) h3
  simp [execOp,ho,h0,h1]
 generalize a.eval x1=c1 at hv1 fin
 generalize a.eval x2=c2 at hv2 fin
 unfold abin at hb
 split at hb
 ·rename_i k p k' q
  cases hv1;rename_i hv1;cases hv1
  cases hv2;rename_i hv2;cases hv2
  split at hb
  ·cases hb
  ·rename_i hk
   have hk:k=k':=by simpa using hk
   subst hk
   have hg:=run_eqGuard_other (P:=P) (w:=w) op t x1 x2 (.int k p) (.int k q) rfl
   split at hb<;>(try cases hb;done)<;>(try (split at hb;· cases hb))<;>cases hb
   case h_4.isFalse.refl h=>exact fin _ hg (by simp [binOp,Op.intDiv,h]) (.int _ _) fun _=>trivial
   case h_5.isFalse.refl h=>exact fin _ hg (by simp [binOp,Op.intDiv,h]) (.int _ _) fun _=>trivial
   case h_1.refl=>exact fin (.int k (k.wrap (p+q))) hg (by simp [binOp,Op.intArith]) (.int _ _) fun _=>trivial
   case h_2.refl=>exact fin (.int k (k.wrap (p - q))) hg (by simp [binOp,Op.intArith]) (.int _ _) fun _=>trivial
   case h_3.refl=>exact fin (.int k (k.wrap (p * q))) hg (by simp [binOp,Op.intArith]) (.int _ _) fun _=>trivial
   case h_6.refl=>exact fin (.bool (p==q)) hg (by simp [binOp,Op.intCmp]) (.bool _) fun _=>trivial
   case h_7.refl=>exact fin (.bool (p != q)) hg (by simp [binOp,Op.intCmp]) (.bool _) fun _=>trivial
   all_goals exact fin (.bool _) hg (by simp [binOp,Op.intCmp]) (.bool _) fun _=>trivial
 ·rename_i p q
  cases hv1;rename_i hv1;cases hv1
  cases hv2;rename_i hv2;cases hv2
  have hg:=run_eqGuard_other (P:=P) (w:=w) op t x1 x2 (.string ⟨p.toArray⟩) (.string ⟨q.toArray⟩) rfl
  split at hb<;>(try cases hb;done)
  ·cases hb;exact fin (.bool (p==q)) hg (by simp [binOp,Op.stringOp]) (.bool _) fun _=>trivial
  ·cases hb;exact fin (.bool (p != q)) hg (by simp [binOp,Op.stringOp,bne]) (.bool _) fun _=>trivial
  ·split at hb
   case isFalse=>cases hb
   rename_i hl
   cases hb
   refine fin (.string ⟨(p++q).toArray⟩) hg ?_ (.str _) fun _=>trivial
   rw [binOp_string_add,run_string_add_sum w _ _ (by show p.length+q.length≤_;omega),ByteArray.mk_append_mk]
 ·cases hb
theorem does_eqB (R:Rel P w0 n U g S H a w) {o:Oper} {neg:Bool} {t t':TypeId} {x1 x2:Operand} {y1 y2:Opd} {e:Eff} (ho:o.op = .binOp (if neg then .neq else .eql) t x1 x2 t') (hd:∀ t,o.dst=some t→t < n∧¬ U t)
  (ht:P.underlying t=some .bool) (hx1:opd n x1=some y1) (hx2:opd n x2=some y2) (hu1:∀ t∈y1.tmps,¬ U t) (hu2:∀ t∈y2.tmps,¬ U t)
  (he:apure S H (.eqB neg y1 y2)=some e):Does P w0 n U g S H a w o e:=by
 have hv1:=R.ev hx1 hu1
 have hv2:=R.ev hx2 hu2
 simp only [apure] at he
 generalize AL.ev S y1=q1 at he hv1
 generalize AL.ev S y2=q2 at he hv2
 generalize hc1:a.eval x1=c1 at hv1
 generalize hc2:a.eval x2=c2 at hv2
 split at he
 case h_2=>cases he
 rename_i p q
 cases hv1;rename_i hv1;cases hv1
 cases hv2;rename_i hv2;cases hv2
 cases he
 have hg:=run_eqGuard_other (P:=P) (w:=w) (if neg then .neq else .eql) t x1 x2 (.bool p) (.bool q) rfl
 have hE:(Op.equal t (.bool p) (.bool q)).run P w = .ok (p==q) w:=run_equalIn_bool' w _ t p q ht
 refine Does.val R (fun t h=>(hd t h).1) (c := .bool (if neg then p != q else p==q)) ?_ (.data _ _ (.bool _)) fun _=>trivial
 cases neg
 ·simp only [Bool.false_eq_true,if_false] at ho hg ⊢
  simp [execOp,ho,hc1,hc2,hg,binOp,hE]
 ·simp only [if_true] at ho hg ⊢
  simp [execOp,ho,hc1,hc2,hg,binOp,hE,bne]
theorem does_conv (R:Rel P w0 n U g S H a w) {o:Oper} {s d:TypeId} {ds:TypeDesc} {k:IntKind} {x:Operand} {y:Opd} {e:Eff} (ho:o.op = .convert s d x) (hd:∀ t,o.dst=some t→t < n∧¬ U t)
  (hs:P.underlying s=some ds) (hk:P.underlying d=some (.int k)) (hx:opd n x=some y) (hu:∀ t∈y.tmps,¬ U t) (he:apure S H (.conv k y)=some e):Does P w0 n U g S H a w o e:=by
 have hv:=R.ev hx hu
 simp only [apure] at he
 generalize hev:AL.ev S y=q at he hv
 generalize hcx:a.eval x=c at hv
 cases hv<;>(try cases he;done)
 rename_i h
 cases h<;>simp only at he<;>try cases he
 rename_i k' m
 refine Does.val R (fun t h=>(hd t h).1) (c := .int k (k.wrap m)) ?_ (.data _ _ (.int _ _)) fun loc=>trivial
 simp [execOp,ho,hcx,convert,run_underlying hs,run_underlying hk,Conv.intToInt]
theorem does_iface (R:Rel P w0 n U g S H a w) {o:Oper} {t:TypeId} {dt:TypeDesc} {x:Operand} {y:Opd} {e:Eff} (ho:o.op = .makeInterface t x) (hd:∀ t,o.dst=some t→t < n∧¬ U t)
  (ht:P.underlying t=some dt) (hni:∀ ms,dt ≠ .interface ms) (hx:opd n x=some y) (hu:∀ t∈y.tmps,¬ U t) (he:apure S H (.iface t y)=some e):Does P w0 n U g S H a w o e:=by
 have hv:=R.ev hx hu
 simp only [apure] at he
 split at he
 case isFalse=>cases he
 rename_i hst
 cases he
 refine Does.val R (fun t h=>(hd t h).1) (c := .iface t (a.eval x)) ?_ (.data _ _ (.iface _ _ _ (hv.toData (AV.storable_data hst)).vw)) fun loc=>trivial
 simp only [execOp,ho,Instr.makeInterface,Sem.run_bind,run_underlying ht,Result.andThen_ok]
 cases dt<;>first | rfl | exact absurd rfl (hni _)
theorem does_fieldAddr (R:Rel P w0 n U g S H a w) {o:Oper} {s:TypeId} {fs:Array Field} {f:Field} {i:TypeInfo} {j:Nat} {x:Operand} {y:Opd} {e:Eff} (ho:o.op = .fieldAddr s x j) (hd:∀ t,o.dst=some t→t < n∧¬ U t)
  (hs:P.underlying s=some (.struct fs)) (hf:fs[j]? = some f) (hi:P.info? f.type=some i) (hz:i.size≠0) (hx:opd n x=some y) (hu:∀ t∈y.tmps,¬ U t)
  (he:apure S H (.fieldAddr f.offset y)=some e):Does P w0 n U g S H a w o e:=by
 have hv:=R.ev hx hu
 simp only [apure] at he
 generalize hev:AL.ev S y=q at he hv
 generalize hcx:a.eval x=c at hv
 have run:∀ b off,c = .pointer (some ⟨b,off,none⟩)→(execOp a.eval o).run P w = .ok (.value (.pointer (some ⟨b,off+f.offset,none⟩))) w:=by
  rintro b off rfl
  simp [execOp,ho,hcx,Instr.fieldAt,run_underlying hs,hf,Instr.sureAddr,fieldPlace,sizeOf,typeInfo,hi,hz,Addr.add_lit]
 cases hv with
 |box k off b hal =>
  cases he
  exact Does.val R (fun t h=>(hd t h).1) (run _ _ rfl) (.box _ _ _ hal) fun _=>trivial
 |data v c h =>
  cases h<;>simp only at he<;>try cases he
  rename_i cs b off vs h1 hc hr
  refine Does.val R (fun t h=>(hd t h).1) (run _ _ rfl) (.data _ _ (.ref _ _ _ (fun k=>vs (f.offset+k)) (fun k hk => ?_) (fun k hk => ?_) fun k hk => ?_)) fun _=>trivial
  ·simp only [List.length_drop] at hk;simp only [List.getElem_drop];exact h1 _ (by omega)
  ·simp only [List.length_drop] at hk
   have:=hc (f.offset+k) (by omega)
   rwa [show off+f.offset+k=off+(f.offset+k) by omega]
  ·simp only [List.length_drop] at hk;simp only [List.getElem_drop];exact hr _ (by omega)
 |func=>cases he
 |fagg=>cases he
 |junk c=>cases he
theorem does_indexAddr (R:Rel P w0 n U g S H a w) {o:Oper} {s el:TypeId} {i:TypeInfo} {x1 x2:Operand} {y1 y2:Opd} {e:Eff} (ho:o.op = .indexAddr s x1 x2) (hd:∀ t,o.dst=some t→t < n∧¬ U t)
  (hs:P.underlying s=some (.slice el)) (hi:P.info? el=some i) (hx1:opd n x1=some y1) (hx2:opd n x2=some y2) (hu1:∀ t∈y1.tmps,¬ U t) (hu2:∀ t∈y2.tmps,¬ U t)
  (he:apure S H (.indexAddr i.size y1 y2)=some e):Does P w0 n U g S H a w o e:=by
 have hv1:=R.ev hx1 hu1
 have hv2:=R.ev hx2 hu2
 simp only [apure] at he
 generalize AL.ev S y1=q1 at he hv1
 generalize AL.ev S y2=q2 at he hv2
 generalize hc1:a.eval x1=c1 at hv1
 generalize hc2:a.eval x2=c2 at hv2
 split at he
 case h_2=>cases he
 rename_i oo es k
 cases hv2;rename_i hv2;cases hv2
 split at he
 case isFalse=>cases he
 rename_i hk
 split at he
 case h_2=>cases he
 rename_i v hv
 split at he
 case isFalse=>cases he
 rename_i hsz
 cases he
 obtain ⟨hlt,rfl⟩:=List.getElem?_eq_some_iff.1 hv
 cases hv1;rename_i hv1
 cases hv1 with
 |nils=>simp at hlt
 |emps=>simp at hlt
 |slice _ _ b off cap size cs hcap hn0 hsize h1 hc hr =>
  have hss:size=i.size:=by rw [← hsize _ hlt];exact hsz
  subst hss
  have hkl:k < (es.length:Int):=by omega
  have hin:∀ q,q < (es[k.toNat]).cells.length→k.toNat * i.size+q < es.length * i.size:=by
   intro q hq
   rw [hsz] at hq
   calc k.toNat * i.size+q < k.toNat * i.size+i.size:=by omega
    _=(k.toNat+1) * i.size:=by rw [Nat.succ_mul]
    _≤es.length * i.size:=Nat.mul_le_mul_right _ (by omega)
  refine Does.val R (fun t h=>(hd t h).1) (c := .pointer (some ⟨b,off+k.toNat * i.size,none⟩)) ?_ (.data _ _ (.ref _ _ _ (fun q=>cs (k.toNat * i.size+q)) (fun q hq=>h1 _ hlt q hq) (fun q hq => ?_) fun q hq=>hr _ hlt q hq)) fun _=>trivial
  ·simp [execOp,ho,hc1,hc2,Instr.indexAt,asIntOf,run_underlying hs,hk,hkl,sizeOf,typeInfo,hi,Addr.add_lit]
  ·have:=hc (k.toNat * i.size+q) (hin q hq)
   rwa [← Nat.add_assoc] at this
theorem does_indexS (R:Rel P w0 n U g S H a w) {o:Oper} {s:TypeId} {x1 x2:Operand} {y1 y2:Opd} {e:Eff} (ho:o.op = .index s x1 x2) (hd:∀ t,o.dst=some t→t < n∧¬ U t)
  (hs:P.underlying s=some .string) (hx1:opd n x1=some y1) (hx2:opd n x2=some y2) (hu1:∀ t∈y1.tmps,¬ U t) (hu2:∀ t∈y2.tmps,¬ U t)
  (he:apure S H (.indexS y1 y2)=some e):Does P w0 n U g S H a w o e:=by
 have hv1:=R.ev hx1 hu1
 have hv2:=R.ev hx2 hu2
 simp only [apure] at he
 generalize AL.ev S y1=q1 at he hv1
 generalize AL.ev S y2=q2 at he hv2
 generalize hc1:a.eval x1=c1 at hv1
 generalize hc2:a.eval x2=c2 at hv2
 split at he
 case h_2=>cases he
 rename_i l k
 cases hv2;rename_i hv2;cases hv2
 split at he
 case isFalse=>cases he
 rename_i hk
 split at he
 case h_2=>cases he
 rename_i v hv
 cases he
 cases hv1;rename_i hv1;cases hv1
 have hb:(⟨l.toArray⟩:ByteArray)[k.toNat]? = some v:=by
  obtain ⟨hlt,rfl⟩:=List.getElem?_eq_some_iff.1 hv
  rw [ByteArray.getElem?_lt' _ _ (by simpa [ByteArray.size] using hlt)]
  rfl
 refine Does.val R (fun t h=>(hd t h).1) (c := .int .u8 v.toNat) ?_ (.data _ _ (.int _ _)) fun _=>trivial
 simp [execOp,ho,hc1,hc2,Instr.index,asIntOf,run_underlying hs,hk,hb]
theorem does_extract (R:Rel P w0 n U g S H a w) {o:Oper} {j:Nat} {x:Operand} {y:Opd} {e:Eff} (ho:o.op = .extract x j) (hd:∀ t,o.dst=some t→t < n∧¬ U t)
  (hx:opd n x=some y) (hu:∀ t∈y.tmps,¬ U t) (he:apure S H (.extract y j)=some e):Does P w0 n U g S H a w o e:=by
 have hv:=R.ev hx hu
 simp only [apure] at he
 generalize hev:AL.ev S y=q at he hv
 generalize hcx:a.eval x=c at hv
 cases hv<;>(try cases he;done)
 rename_i h
 cases h<;>simp only at he<;>try cases he
 rename_i cs vs hl hr
 simp only [Option.map_eq_some_iff] at he
 obtain ⟨v,hv,rfl⟩:=he
 obtain ⟨hlt,rfl⟩:=List.getElem?_eq_some_iff.1 hv
 have hlt':j < vs.size:=by omega
 refine Does.val R (fun t h=>(hd t h).1) (c:=vs[j]) ?_ (.data _ _ (hr j hlt hlt').dem) fun loc=>ownAt_dem _ _ _
 simp [execOp,ho,hcx,Instr.extract,hlt']
theorem does_len (R:Rel P w0 n U g S H a w) {o:Oper} {cl:Call} {s:TypeId} {ds:TypeDesc} {x:Operand} {y:Opd} {e:Eff} (ho:o.op = .call cl) (hcl:cl.callee = .builtin .len) (hca:cl.args = #[x]) (hct:cl.argTypes = #[s])
  (hd:∀ t,o.dst=some t→t < n∧¬ U t) (hs:P.underlying s=some ds) (hx:opd n x=some y) (hu:∀ t∈y.tmps,¬ U t)
  (he:(ds = .string∧apure S H (.lenS y)=some e)∨((∃ el,ds = .slice el)∧apure S H (.lenL y)=some e)):Does P w0 n U g S H a w o e:=by
 have hv:=R.ev hx hu
 simp only [apure] at he
 generalize hev:AL.ev S y=q at he hv
 generalize hcx:a.eval x=c at hv
 have fin:∀ (m:Nat),(Builtin.len_ #[s] o.type #[c]).run P w = .ok (.int .i64 m) w→Does P w0 n U g S H a w o { v := .int .i64 m }:=by
  intro m hm
  refine Does.val R (fun t h=>(hd t h).1) (c := .int .i64 m) ?_ (.data _ _ (.int _ _)) fun _=>trivial
  unfold execOp
  simp [ho,hcl,hca,hct,resolve,invoke,builtin,hcx,hm]
 rcases he with ⟨rfl,he⟩ | ⟨⟨el,rfl⟩,he⟩
 ·cases hv<;>(try cases he;done)
  rename_i h
  cases h<;>simp only at he<;>try cases he
  exact fin _ (by simp [Builtin.len_,run_underlying hs,goInt];rfl)
 ·cases hv<;>(try cases he;done)
  rename_i h
  cases h<;>simp only at he<;>try cases he
  ·exact fin 0 (by simp [Builtin.len_,run_underlying hs,goInt])
  ·exact fin 0 (by simp [Builtin.len_,run_underlying hs,goInt])
  ·exact fin _ (by simp [Builtin.len_,run_underlying hs,goInt])
theorem does_minmax (R:Rel P w0 n U g S H a w) {o:Oper} {cl:Call} {x1 x2:Operand} {y1 y2:Opd} {e:Eff} (ho:o.op = .call cl) (hca:cl.args = #[x1,x2])
  (hd:∀ t,o.dst=some t→t < n∧¬ U t) (hx1:opd n x1=some y1) (hx2:opd n x2=some y2) (hu1:∀ t∈y1.tmps,¬ U t) (hu2:∀ t∈y2.tmps,¬ U t)
  (he:(cl.callee = .builtin .max∧apure S H (.max y1 y2)=some e)∨(cl.callee = .builtin .min∧apure S H (.min y1 y2)=some e)):Does P w0 n U g S H a w o e:=by
 have hv1:=R.ev hx1 hu1
 have hv2:=R.ev hx2 hu2
 simp only [apure] at he
 generalize AL.ev S y1=q1 at he hv1
 generalize AL.ev S y2=q2 at he hv2
 generalize hc1:a.eval x1=c1 at hv1
 generalize hc2:a.eval x2=c2 at hv2
 rcases he with ⟨hcl,he⟩ | ⟨hcl,he⟩
 all_goals
  split at he
  case h_2=>cases he
  rename_i p q
  cases hv1;rename_i hv1;cases hv1
  cases hv2;rename_i hv2;cases hv2
  cases he
 ·refine Does.val R (fun t h=>(hd t h).1) (c := .int .i64 (max p q)) ?_ (.data _ _ (.int _ _)) fun _=>trivial
  have:(if q > p then q else p)=max p q:=by split<;>omega
  simp [execOp,ho,hcl,hca,resolve,invoke,builtin,hc1,hc2,Builtin.max_,Builtin.max2,this]
 ·refine Does.val R (fun t h=>(hd t h).1) (c := .int .i64 (min p q)) ?_ (.data _ _ (.int _ _)) fun _=>trivial
  have:(if q < p then q else p)=min p q:=by split<;>omega
  simp [execOp,ho,hcl,hca,resolve,invoke,builtin,hc1,hc2,Builtin.min_,Builtin.min2,this]
end
end Go.AL
namespace Go.AL
open Go.RowKit
def RDs (Pr:Nat→Nat→Prop) (w:World) (cs:List AV) (vs:Array Value):Prop :=
 cs.length=vs.size∧(∀ i (h:i < cs.length) (h':i < vs.size),RD Pr w cs[i] vs[i])∧∀ i (h:i < cs.length),(cs[i]).one=true
theorem RD.rds {Pr:Nat→Nat→Prop} {w:World} {v:AV} {c:Value} (h:RD Pr w v c) (hs:v.storable=true):RDs Pr w v.cells c.cells :=
 ⟨h.cells.1,h.cells.2,h.cells_one hs⟩
theorem AV.dem_storable {v:AV}:v.dem.storable=v.storable:=by
 cases v<;>try rfl
 rename_i o es;cases o<;>rfl
theorem AV.dem_cells_length {v:AV}:v.dem.cells.length=v.cells.length:=by
 cases v<;>try rfl
 rename_i o es;cases o<;>rfl
theorem AV.vw_storable {v:AV}:v.vw.storable=v.storable:=by cases v<;>rfl
theorem AV.vw_cells_length {v:AV}:v.vw.cells.length=v.cells.length:=by cases v<;>simp [AV.vw,AV.vw1,AV.cells]
theorem constCells_rds (Pr:Nat→Nat→Prop) (w:World):∀ {vs:List Value} {cs:List AV},constCells vs=some cs→RDs Pr w cs vs.toArray∧(∀ v∈cs,v.noOwn) ∧
  ∀ (P:Program) (g:Gh) (f:Nat→Loc) i (h:i < cs.length) (h':i < vs.length),OwnAt P w g (f i) cs[i] vs[i]
 |[],cs,h=>by cases h;exact ⟨⟨rfl,fun i h=>by simp at h,fun i h=>by simp at h⟩,fun v h=>by simp at h,fun P g f i h=>by simp at h⟩
 |v::vs,cs,h=>by
  simp only [constCells] at h
  split at h
  ·rename_i x xs hx hxs
   split at h
   case isFalse=>cases h
   rename_i hst
   cases h
   obtain ⟨⟨h1,h2,h3⟩,h4,h5⟩:=constCells_rds Pr w hxs
   have hd:RD Pr w x v:=(constRV Pr (fun _=>none) w hx).toData (AV.storable_data hst)
   refine ⟨⟨by simp at h1 ⊢;exact h1,fun i hi hi' => ?_,fun i hi => ?_⟩,fun y hy => ?_,fun P g f i hi hi' => ?_⟩
   ·cases i with
    |zero=>exact hd
    |succ i=>exact h2 i (by simpa using hi) (by simpa using hi')
   ·cases i with
    |zero =>
     show x.one=true
     unfold constAV at hx
     split at hx<;>first | cases hx | skip
     all_goals rfl
    |succ i=>exact h3 i (by simpa using hi)
   ·simp at hy
    rcases hy with rfl | hy
    ·exact constNoOwn hx
    ·exact h4 y hy
   ·cases i with
    |zero=>exact constOwn hx _ _ _ _
    |succ i=>exact h5 P g (fun i=>f (i+1)) i (by simpa using hi) (by simpa using hi')
  ·cases h
theorem splice_length {cs vs:List AV} {off:Nat} (h:off+vs.length≤cs.length):(splice cs off vs).length=cs.length:=by
 simp [splice];omega
theorem splice_get? {cs vs:List AV} {off:Nat} (h:off+vs.length≤cs.length) (i:Nat) :
  (splice cs off vs)[i]? = if off≤i∧i < off+vs.length then vs[i - off]? else cs[i]? := by
 unfold splice
 by_cases h1:i < off
 ·rw [if_neg (by omega),List.append_assoc,List.getElem?_append_left (by simp;omega)]
  simp [h1]
 ·by_cases h2:i < off+vs.length
  ·rw [if_pos ⟨by omega,h2⟩,List.getElem?_append_left (by simp;omega),List.getElem?_append_right (by simp;omega)]
   congr 1
   simp;omega
  ·rw [if_neg (by omega),List.getElem?_append_right (by simp;omega)]
   simp only [List.getElem?_drop]
   congr 1
   simp;omega
theorem RDs.get {Pr:Nat→Nat→Prop} {w:World} {cs:List AV} {vs:Array Value} (h:RDs Pr w cs vs) {i:Nat} {v:AV} {c:Value} (hv:cs[i]? = some v) (hc:vs[i]? = some c):RD Pr w v c:=by
 obtain ⟨h1,rfl⟩:=List.getElem?_eq_some_iff.1 hv
 obtain ⟨h2,rfl⟩:=Array.getElem?_eq_some_iff.1 hc
 exact h.2.1 i h1 h2
theorem RDs.one {Pr:Nat→Nat→Prop} {w:World} {cs:List AV} {vs:Array Value} (h:RDs Pr w cs vs) {i:Nat} {v:AV} (hv:cs[i]? = some v):v.one=true:=by
 obtain ⟨h1,rfl⟩:=List.getElem?_eq_some_iff.1 hv
 exact h.2.2 i h1
theorem RDs.mk' {Pr:Nat→Nat→Prop} {w:World} {cs:List AV} {vs:Array Value} (h:cs.length=vs.size) (hr:∀ (i:Nat) (v:AV) (c:Value),cs[i]? = some v→vs[i]? = some c→RD Pr w v c) (h1:∀ (i:Nat) (v:AV),cs[i]? = some v→v.one=true):RDs Pr w cs vs :=
 ⟨h,fun i hi hi'=>hr i _ _ (List.getElem?_eq_getElem hi) (Array.getElem?_eq_getElem hi'),fun i hi=>h1 i _ (List.getElem?_eq_getElem hi)⟩
theorem RDs.splice {Pr:Nat→Nat→Prop} {w:World} {cs vs:List AV} {xs ys:Array Value} {off:Nat} (h:RDs Pr w cs xs) (hv:RDs Pr w vs ys) (hl:off+vs.length≤cs.length)
  (zs:Array Value) (hz:zs.size=xs.size) (hget:∀ k,zs[k]? = if off≤k∧k < off+ys.size then ys[k - off]? else xs[k]?):RDs Pr w (splice cs off vs) zs:=by
 have hv1:=hv.1
 have h1:=h.1
 refine RDs.mk' (by rw [splice_length hl,hz];exact h.1) (fun i v c e1 e2 => ?_) (fun i v e1 => ?_)
 ·rw [splice_get? hl] at e1
  rw [hget] at e2
  rw [← hv1] at e2
  split at e1
  ·rename_i hh;rw [if_pos hh] at e2;exact hv.get e1 e2
  ·rename_i hh;rw [if_neg hh] at e2;exact h.get e1 e2
 ·rw [splice_get? hl] at e1
  split at e1
  ·exact hv.one e1
  ·exact h.one e1
def bparts (n:Nat) (place:Nat→Option (Nat×Nat)):List (Nat×Operand)→Option (List (Nat×Nat×Opd))
 |[]=>some []
 |(i,x)::rest=>match place i,opd n x,bparts n place rest with
  |some (off,size),some y,some r=>some ((off,size,y)::r)
  |_,_,_=>none
section
variable {P:Program} {w0:World} {n:Nat} {U:Nat→Prop} {g:Gh} {S:Slots} {H:Boxes} {a:Act} {w:World}
theorem fill_sound (R:Rel P w0 n U g S H a w) {place:Nat→Option (Nat×Nat)}:∀ {ps:List (Nat×Operand)} {qs:List (Nat×Nat×Opd)},bparts n place ps=some qs →
  (∀ q∈qs,∀ t∈q.2.2.tmps,¬ U t)→∀ {cs cs':List AV} {vs:Array Value},RDs g.Pr w cs vs→fillA cs (qs.map fun (o,s,x)=>(o,s,ev S x))=some cs' →
  ∃ vs',Instr.fill place vs (ps.map fun (i,x)=>(i,a.eval x))=some vs'∧RDs g.Pr w cs' vs'
 |[],qs,h,_,cs,cs',vs,hr,he=>by
  cases h
  simp only [List.map_nil,fillA,Option.some.injEq] at he
  subst he
  exact ⟨vs,rfl,hr⟩
 |(i,x)::ps,qs,h,hu,cs,cs',vs,hr,he=>by
  simp only [bparts] at h
  split at h
  case h_2=>cases h
  rename_i off size y r hp hx hps
  cases h
  simp only [List.map_cons,fillA] at he
  split at he
  case isFalse=>cases he
  rename_i hc
  obtain ⟨hc1,hc2,hc3⟩:=hc
  have hv:=(R.ev hx (hu _ List.mem_cons_self)).toData (AV.storable_data hc3)
  have hvd:=hv.dem.rds (by rw [AV.dem_storable];exact hc3)
  have hsz:(a.eval x).cells.size=size:=by rw [← hv.cells.1];exact hc1
  have hcl:cs.length=vs.size:=hr.1
  obtain ⟨k1,k2⟩:=Great.foldl_set off (a.eval x).cells.toList 0 vs
  have hr':=hr.splice (off:=off) hvd (by rw [AV.dem_cells_length,hc1];exact hc2)
   (((a.eval x).cells.toList.zipIdx 0).foldl (fun cs (x:Value×Nat)=>cs.setIfInBounds (off+x.2) x.1) vs) k1 (fun k=>by
    rw [k2 k]
    simp only [Nat.add_zero,Array.length_toList,Array.getElem?_toList]
    by_cases hin:off≤k∧k < off+(a.eval x).cells.size
    ·rw [if_pos hin,if_pos ⟨hin.1,hin.2,by omega⟩]
    ·rw [if_neg hin,if_neg (by omega)])
  obtain ⟨vs',e1,e2⟩:=fill_sound R hps (fun q hq=>hu q (List.mem_cons_of_mem _ hq)) hr' he
  refine ⟨vs',?_,e2⟩
  simp only [List.map_cons,Instr.fill,hp]
  rw [if_neg (by simp;omega)]
  rw [← e1]
  congr 1
  rw [← Array.foldl_toList,Array.toList_zipIdx]
theorem does_build (R:Rel P w0 n U g S H a w) {o:Oper} {t:TypeId} {it:TypeInfo} {fs:Array Field} {z:Value} {places:List (Nat×Nat)} {zs:List AV} {ps:Array (Nat×Operand)} {qs:List (Nat×Nat×Opd)} {e:Eff}
  (ho:o.op = .build t ps) (hd:∀ t,o.dst=some t→t < n∧¬ U t) (hi:P.info? t=some it) (hun:P.underlying t=some (.struct fs)) (hz:it.zero=some z)
  (hpl:fs.toList.mapM (fun f=>(P.info? f.type).map fun i=>(f.offset,i.size))=some places) (hzs:constCells z.cells.toList=some zs) (hq:bparts n (places[·]?) ps.toList=some qs)
  (hu:∀ q∈qs,∀ t∈q.2.2.tmps,¬ U t) (he:apure S H (.build (zs.map AV.dem) qs)=some e):Does P w0 n U g S H a w o e:=by
 simp only [apure,Option.map_eq_some_iff] at he
 obtain ⟨cs',hc,rfl⟩:=he
 have hz0:=(constCells_rds g.Pr w hzs).1
 have hz1:RDs g.Pr w (zs.map AV.dem) z.cells:=by
  refine ⟨by simpa using hz0.1,fun i h h' => ?_,fun i h => ?_⟩
  ·simp only [List.length_map] at h
   have:=(hz0.2.1 i h (by simpa using h')).dem
   simpa using this
  ·simp only [List.length_map] at h
   have:=hz0.2.2 i h
   simp only [List.getElem_map]
   exact (AV.one_dem _).trans this
 obtain ⟨vs',h1,h2⟩:=fill_sound R hq hu hz1 hc
 have hb:P.built t (ps.map fun (i,x)=>(i,a.eval x)).toList=some vs':=by
  unfold Program.built
  simp only [hi,hun,hz,hpl,Array.toList_map]
  rw [← h1]
  congr 1
  funext i
  simp
 refine Does.val R (fun t h=>(hd t h).1) (c := .agg vs') ?_ (.data _ _ (.agg _ _ h2.1 h2.2.2 h2.2.1)) fun _=>trivial
 unfold execOp
 simp only [ho,Sem.run_bind,run_build w t _ vs' hb,Result.andThen_ok]
 rfl
theorem does_mkf (R:Rel P w0 n U g S H a w) {o:Oper} {fn:Fn} {f1 c1:Array Operand} {f2 c2:List Opd} {e:Eff} (ho:o.op = .makeFunc fn f1 c1) (hd:∀ t,o.dst=some t→t < n∧¬ U t)
  (hf:opds n f1.toList=some f2) (hc:opds n c1.toList=some c2) (huf:∀ y∈f2,∀ t∈y.tmps,¬ U t) (huc:∀ y∈c2,∀ t∈y.tmps,¬ U t) (he:apure S H (.mkf fn f2 c2)=some e):Does P w0 n U g S H a w o e:=by
 simp only [apure,Option.some.injEq] at he
 subst he
 obtain ⟨l1,r1⟩:=R.evs hf huf
 obtain ⟨l2,r2⟩:=R.evs hc huc
 refine Does.val R (fun t h=>(hd t h).1) (c := .func fn (f1.map a.eval) (c1.map a.eval)) ?_ ?_ fun _=>trivial
 ·simp [execOp,ho,Instr.makeFunc]
 ·refine .func fn _ _ _ _ (by simpa using l1) (by simpa using l2) (fun i h h' => ?_) (fun i h h' => ?_)
  ·simp only [List.length_map,Array.size_map] at h h'
   have:=(r1 i h (by simpa using h')).dem
   simpa using this
  ·simp only [List.length_map,Array.size_map] at h h'
   have:=(r2 i h (by simpa using h')).dem
   simpa using this
theorem Rel.newRow (R:Rel P w0 n U g S H a w) (d:Option Nat) (hd:∀ t,d=some t→t < n∧¬ U t) (el:TypeId) (i:TypeInfo) (hi:P.info? el=some i) (es:List AV) (cells:Array Value)
  (hsz:∀ j (h:j < es.length),(es[j]).cells.length=i.size) (hst:∀ j (h:j < es.length),(es[j]).storable=true) (hl:cells.size=es.length * i.size) (hlen:es.length≤maxLen)
  (hr:∀ j (h:j < es.length),∃ c,RD g.Pr w es[j] c∧∀ k u,c.cells[k]? = some u→cells[j * i.size+k]? = some u) :
  ∃ g',g'.base=g.base∧g'.old=g.old∧Rel P w0 n U g' (Go.AL.putD S d (.slice (.own el) es)) H (a.put d (.slice (some ⟨w.heap.size,0,none⟩) es.length es.length)) (w.alloc (.cells cells el)):=by
 have hb:Below w.heap.size w (w.alloc (.cells cells el)):=(Below.refl _ _).alloc (Nat.le_refl _) _
 have hle:g.base≤w.heap.size:=by rw [R.base];exact R.below.size
 let g':Gh:={ g with hi:=upd g.hi w.heap.size (es.length * i.size),owner:=upd g.owner w.heap.size (d.map .slot) }
 have R':Rel P w0 n U g' S H a (w.alloc (.cells cells el)):=R.grow (g':=g') hb rfl rfl rfl
  (fun b hb=>⟨upd_ne _ _ (by omega),upd_ne _ _ (by omega)⟩)
  (fun b hb=>by
   have hb':w.heap.size+1≤b:=by simpa using hb
   exact ⟨(upd_ne _ _ (by omega)).trans (R.fresh b (by omega)).1,(upd_ne _ _ (by omega)).trans (R.fresh b (by omega)).2⟩)
 have hPr:∀ k,k < es.length * i.size→g'.Pr w.heap.size k:=fun k hk => .inr ⟨hle,by show k < upd g.hi _ _ _;rw [upd_same];exact hk⟩
 have hPr':Keeps g.Pr g'.Pr w (w.alloc (.cells cells el)):=by
  refine Keeps.of_blocks (fun b hlt=>hb.block b hlt) fun b k hlt hp => ?_
  unfold Gh.Pr at *
  show (b < g.base∧g.old.c b k)∨(g.base≤b∧k < upd g.hi _ _ b)
  rw [upd_ne _ _ (by omega)]
  exact hp
 refine ⟨g',rfl,rfl,R'.putD d _ _ (fun t h=>(hd t h).1) (.data _ _ ?_) ?_⟩
 ·refine .slice _ es w.heap.size 0 es.length i.size (fun k=>cells.getD k undef) (Nat.le_refl _) (fun h=>by cases h) hsz (fun j h k hk => ?_) (fun k hk=>⟨by rw [Nat.zero_add];exact hPr k hk,?_⟩) (fun j h k hk => ?_)
  ·obtain ⟨c,h1,h2⟩:=hr j h
   exact h1.cells_one (hst j h) k hk
  ·simp [hl,hk]
  ·obtain ⟨c,h1,h2⟩:=hr j h
   have hk':k < c.cells.size:=by rw [← h1.cells.1];exact hk
   have:cells.getD (j * i.size+k) undef=c.cells[k]:=by simp [h2 k _ (Array.getElem?_eq_getElem hk')]
   rw [this]
   exact (h1.cells.2 k hk hk').mono hPr'
 ·intro t ht
  subst ht
  refine ⟨i,cells.toList,w.heap.size,hi,⟨by simp [hl],.inr ⟨w.heap.size,es.length,cells,rfl,hle,heap_alloc_new w _,Nat.le_refl _,hlen,hl,?_⟩⟩,rfl,?_,?_⟩
  ·exact List.take_of_length_le (by simp [hl])
  ·show upd g.owner _ _ _=_;rw [upd_same];rfl
  ·show upd g.hi _ _ _=_;rw [upd_same]
theorem does_buildSlice (R:Rel P w0 n U g S H a w) {o:Oper} {t el:TypeId} {i:TypeInfo} {z:Value} {len:Nat} {ps:Array (Nat×Operand)} {xs:List Operand} {ys:List Opd} {e:Eff}
  (ho:o.op = .buildSlice t len ps) (hd:∀ t,o.dst=some t→t < n∧¬ U t) (hun:P.underlying t=some (.slice el)) (hi:P.info? el=some i) (hz:i.zero=some z) (hpos:0 < i.size)
  (hps:ps.toList=(xs.zipIdx 0).map fun x=>(x.2,x.1)) (hlen:xs.length=len) (hlz:0 < len) (hx:opds n xs=some ys) (hu:∀ y∈ys,∀ t∈y.tmps,¬ U t)
  (he:apure S H (.buildSlice t el i.size ys)=some e):Does P w0 n U g S H a w o e:=by
 simp only [apure] at he
 split at he
 case isFalse=>cases he
 rename_i hc
 cases he
 simp only [Bool.and_eq_true,decide_eq_true_eq] at hc
 obtain ⟨hc1,hc2⟩:=hc
 simp only [elemsOK,List.all_eq_true,Bool.and_eq_true,beq_iff_eq] at hc1
 obtain ⟨l1,r1⟩:=R.evs hx hu
 have hlen':ys.length=len:=by omega
 have hR:∀ j (h:j < ys.length),RD g.Pr w (AL.ev S ys[j]) ((xs.map a.eval)[j]'(by simp;omega))∧(AL.ev S ys[j]).cells.length=i.size∧(AL.ev S ys[j]).storable=true:=by
  intro j h
  have hm:=hc1 (AL.ev S ys[j]) (List.mem_map.2 ⟨_,List.getElem_mem h,rfl⟩)
  refine ⟨?_,hm.2,hm.1⟩
  have:=(r1 j h (by omega)).toData (AV.storable_data hm.1)
  simpa using this
 have hcs:∀ v∈xs.map a.eval,v.cells.size=i.size:=by
  intro v hv
  obtain ⟨j,hj,rfl⟩:=List.getElem_of_mem hv
  simp only [List.length_map] at hj
  obtain ⟨h1,h2,h3⟩:=hR j (by omega)
  rw [← h1.cells.1];exact h2
 have hsz0:((Array.range (len * i.size)).map (z.cells[· % z.cells.size]!)).size=len * i.size:=by simp
 have hfill:=Great.fill_whole hpos (xs.map a.eval) ((Array.range (len * i.size)).map (z.cells[· % z.cells.size]!)) hcs (by rw [hsz0];simp [hlen])
 have hparts:(ps.map fun (i,x)=>(i,a.eval x)).toList=((xs.map a.eval).zipIdx 0).map fun x=>(x.2,x.1):=by
  rw [Array.toList_map,hps]
  simp [List.zipIdx_map]
 have hrun:=run_buildSlice (P:=P) w t el len (ps.map fun (i,x)=>(i,a.eval x)) ((xs.map a.eval).flatMap fun v=>v.cells.toList).toArray i z hun hi hz (by rw [hlen'] at hc2;omega)
  (by have:=Nat.mul_pos hlz hpos;omega) (by rw [hparts];exact hfill)
 have hflat:=Great.flat_get hpos (xs.map a.eval) hcs
 obtain ⟨g',e1,e2,R'⟩:=R.newRow o.dst hd el i hi ((ys.map (AL.ev S)).map AV.vw) ((xs.map a.eval).flatMap fun v=>v.cells.toList).toArray
  (fun j h=>by simp only [List.length_map] at h;simp only [List.getElem_map,AV.vw_cells_length];exact (hR j h).2.1)
  (fun j h=>by simp only [List.length_map] at h;simp only [List.getElem_map,AV.vw_storable];exact (hR j h).2.2)
  (by
   simp only [List.size_toArray,List.length_map]
   have hh:∀ (l:List Value),(∀ v∈l,v.cells.size=i.size)→(l.flatMap fun v=>v.cells.toList).length=l.length * i.size:=by
    intro l
    induction l with
    |nil=>simp
    |cons v l ih=>intro h;simp only [List.flatMap_cons,List.length_append,List.length_cons,Array.length_toList,h v List.mem_cons_self,ih (fun u hu=>h u (List.mem_cons_of_mem _ hu)),Nat.succ_mul];omega
   rw [hh _ hcs,List.length_map,l1])
  (by simp only [List.length_map];have:=Nat.le_mul_of_pos_right ys.length hpos;unfold maxLen;omega)
  (fun j h=>by
   simp only [List.length_map] at h
   obtain ⟨h1,h2,h3⟩:=hR j h
   have hj':j < (xs.map a.eval).length:=by simp;omega
   refine ⟨(xs.map a.eval)[j],by simpa using h1.vw,fun k u hk => ?_⟩
   have hk':k < i.size:=by
    rw [← hcs _ (List.getElem_mem hj')]
    exact (Array.getElem?_eq_some_iff.1 hk).1
   simp only [List.getElem?_toArray]
   rw [hflat,show (j * i.size+k) / i.size=j by rw [Nat.mul_comm,Nat.mul_add_div hpos,Nat.div_eq_of_lt hk',Nat.add_zero],show (j * i.size+k) % i.size=k by rw [Nat.mul_comm,Nat.mul_add_mod,Nat.mod_eq_of_lt hk'],List.getElem?_eq_getElem hj']
   exact hk)
 refine ⟨.slice (some ⟨w.heap.size,0,none⟩) len len,w.alloc (.cells ((xs.map a.eval).flatMap fun v=>v.cells.toList).toArray el),g',.inl ?_,e1,e2,?_⟩
 ·unfold execOp
  simp only [ho,Sem.run_bind,hrun,Result.andThen_ok]
  rfl
 ·have:((ys.map (AL.ev S)).map AV.vw).length=len:=by simp [hlen']
  rw [this] at R'
  exact R'
end
end Go.AL
namespace Go.AL
open Go.RowKit
section
variable {P:Program} {w0:World} {n:Nat} {U:Nat→Prop} {g:Gh} {S:Slots} {H:Boxes} {a:Act} {w:World}
def demS (S:Slots) (y:Opd):Slots:=match tmpOf y with | some t=>upd S t (S t).dem | none=>S
theorem Rel.take (R:Rel P w0 n U g S H a w) {x:Operand} {y:Opd} (hx:opd n x=some y) (hu:∀ t∈y.tmps,¬ U t) (loc:Loc) :
  ∃ g1,g1.base=g.base∧g1.old=g.old∧g1.al=g.al∧g1.hi=g.hi∧Rel P w0 n U g1 (demS S y) H a w∧OwnAt P w g1 loc (AL.ev S y) (a.eval x):=by
 cases x with
 |const c =>
  simp only [opd,Option.map_eq_some_iff] at hx
  obtain ⟨v,hc,rfl⟩:=hx
  exact ⟨g,rfl,rfl,rfl,rfl,R,constOwn hc _ _ _ _⟩
 |global k=>cases hx
 |func f=>cases hx;exact ⟨g,rfl,rfl,rfl,rfl,R,trivial⟩
 |tmp t =>
  simp only [opd] at hx
  split at hx
  case isFalse=>cases hx
  rename_i ht
  cases hx
  have hut:=hu t (by simp [Opd.tmps])
  have ho:=R.own t ht hut
  have R1:Rel P w0 n U g (upd S t (S t).dem) H a w:=R.weaken _ fun k hk huk c hv' ho=>by
   by_cases h:k=t
   ·subst h;rw [upd_same];exact ⟨hv'.dem,ownAt_dem _ _ _⟩
   ·rw [upd_ne _ _ h];exact ⟨hv',ho⟩
  have R2:=R1.reown (.slot t) (some loc) (fun k hk _ _=>by cases hk;rw [upd_same];exact AV.noOwn_dem _) (fun i j cs h=>by cases h)
  refine ⟨{ g with owner:=fun b=>if g.owner b=some (.slot t) then some loc else g.owner b },rfl,rfl,rfl,rfl,R2,?_⟩
  show OwnAt P w _ loc (S t) (a.tmps.getD t undef)
  generalize S t=v at ho
  generalize a.tmps.getD t undef=c at ho
  cases v<;>try trivial
  rename_i oo es
  cases oo with
  |view=>trivial
  |nil=>exact ho
  |own e =>
   obtain ⟨i,xs,b,h1,h2,h3,h4,h5⟩:=ho
   refine ⟨i,xs,b,h1,h2,h3,?_,h5⟩
   show (if g.owner b=some (.slot t) then some loc else g.owner b)=_
   rw [if_pos h4]
theorem Rel.takeNone (R:Rel P w0 n U g S H a w) {x:Operand} {y:Opd} (hx:opd n x=some y) (hu:∀ t∈y.tmps,¬ U t) {e:TypeId} {es:List AV} (hy:AL.ev S y = .slice (.own e) es) :
  ∃ g1 i xs b,g1.base=g.base∧g1.old=g.old∧g1.al=g.al∧g1.hi=g.hi∧Rel P w0 n U g1 (demS S y) H a w ∧
   P.info? e=some i∧w.ownsRow g.base e i.size (a.eval x) es.length xs∧(a.eval x).ownBlock=some b∧g1.owner b=none∧g.hi b=es.length * i.size∧(∀ j,g.al j≠some b)∧(∀ o,g.old.keep b≠some o):=by
 cases x with
 |const c =>
  simp only [opd,Option.map_eq_some_iff] at hx
  obtain ⟨v,hc,rfl⟩:=hx
  have:=constNoOwn hc
  rw [show v=AL.ev S (.c v) from rfl,hy] at this
  cases this
 |global k=>cases hx
 |func f=>cases hx;cases hy
 |tmp t =>
  simp only [opd] at hx
  split at hx
  case isFalse=>cases hx
  rename_i ht
  cases hx
  have hut:=hu t (by simp [Opd.tmps])
  have ho:=R.own t ht hut
  change S t=_ at hy
  have R1:Rel P w0 n U g (upd S t (S t).dem) H a w:=R.weaken _ fun k hk huk c hv' ho=>by
   by_cases h:k=t
   ·subst h;rw [upd_same];exact ⟨hv'.dem,ownAt_dem _ _ _⟩
   ·rw [upd_ne _ _ h];exact ⟨hv',ho⟩
  have R2:=R1.reown (.slot t) none (fun k hk _ _=>by cases hk;rw [upd_same];exact AV.noOwn_dem _) (fun i j cs h=>by cases h)
  rw [hy] at ho
  obtain ⟨i,xs,b,h1,h2,h3,h4,h5⟩:=ho
  refine ⟨{ g with owner:=fun b=>if g.owner b=some (.slot t) then none else g.owner b },i,xs,b,rfl,rfl,rfl,rfl,R2,h1,h2,h3,?_,h5,fun j hj => ?_,fun o hk => ?_⟩
  ·show (if g.owner b=some (.slot t) then none else g.owner b)=none
   rw [if_pos h4]
  ·obtain ⟨_,_,_,_,_,_,_,k5,_⟩:=R.box j b hj
   rw [h4] at k5;cases k5
  ·obtain ⟨_,_,_,k4,_⟩:=R.kept b o hk
   rw [h4] at k4;cases k4
theorem scells_length (v:AV):v.scells.length=v.cells.length:=by cases v<;>simp [AV.scells,AV.cells]
theorem RD.scells {Pr:Nat→Nat→Prop} {v:AV} {c:Value} (h:RD Pr w v c) (hs:v.storable=true):RDs Pr w v.scells c.cells:=by
 cases v<;>try exact h.rds hs
 rename_i cs
 have hh:=h.rds hs
 refine RDs.mk' (by simpa [AV.scells,AV.cells] using hh.1) (fun i v c e1 e2 => ?_) (fun i v e1 => ?_)
 ·simp only [AV.scells,List.getElem?_map,Option.map_eq_some_iff] at e1
  obtain ⟨u,h1,rfl⟩:=e1
  exact (hh.get h1 e2).dem
 ·simp only [AV.scells,List.getElem?_map,Option.map_eq_some_iff] at e1
  obtain ⟨u,h1,rfl⟩:=e1
  exact (AV.one_dem _).trans (hh.one h1)
theorem does_store (R:Rel P w0 n U g S H a w) {o:Oper} {hr:HR} {t:TypeId} {i:TypeInfo} {x1 x2:Operand} {y1 y2:Opd} {e:Eff} (ho:o.op = .store t x1 x2) (hdst:o.dst=none)
  (hi:P.info? t=some i) (hx1:opd n x1=some y1) (hx2:opd n x2=some y2) (hu1:∀ t∈y1.tmps,¬ U t) (hu2:∀ t∈y2.tmps,¬ U t)
  (he:apure S H (.store hr i.size y1 y2)=some e):Does P w0 n U g S H a w o e:=by
 have hv1:=R.ev hx1 hu1
 have hv2:=R.ev hx2 hu2
 simp only [apure] at he
 generalize hev1:AL.ev S y1=q1 at he hv1
 generalize hc1:a.eval x1=c1 at hv1
 cases hv1<;>(try cases he;done)
 case data h=>cases h<;>cases he
 rename_i k off b hal
 simp only at he
 split at he
 case isFalse=>cases he
 obtain ⟨cs,vs,ty,k1,k2,k3,k4,k5,k6,k7,k8,k9⟩:=R.box k b hal
 simp only [k1] at he
 split at he
 case isFalse=>cases he
 rename_i hc
 obtain ⟨hcl,hoff,hst⟩:=hc
 cases he
 have hd2:=hv2.toData (AV.storable_data hst)
 obtain ⟨g1,e1,e2,e3,e4,R1,own1⟩:=R.take hx2 hu2 (.cell k off)
 have hPr:g1.Pr=g.Pr:=by unfold Gh.Pr;rw [e1,e2,e4]
 obtain ⟨cs0,vs0,ty0,m1,m2,m3,m4,m5,m6,m7,m8,m9⟩:=R1.box k b (by rw [e3];exact hal)
 rw [k1] at m1;cases m1
 rw [k3] at m3;cases m3
 have hsz:(a.eval x2).cells.size=i.size:=by rw [← hd2.cells.1];exact hcl
 have hlen:off+(a.eval x2).cells.size≤vs.size:=by omega
 have hone:∀ u∈(a.eval x2).cells.toList,u.oneCell'=true:=by
  intro u hu
  obtain ⟨j,hj,rfl⟩:=List.getElem_of_mem hu
  have hj':j < (AL.ev S y2).cells.length:=by rw [hd2.cells.1];simpa using hj
  have:=(hd2.cells.2 j hj' (by simpa using hj)).one (hd2.cells_one hst j hj')
  simpa using this
 have hrun:=run_storeCells_at P b off ty (a.eval x2).cells.toList 0 vs w k3 (by simpa using hlen) hone
 simp only [Nat.add_zero] at hrun
 have hsl:=scells_length (AL.ev S y2)
 have hget:∀ j,(vs.toList.take off++(a.eval x2).cells.toList++vs.toList.drop (off+(a.eval x2).cells.toList.length)).toArray[j]? = if off≤j∧j < off+(a.eval x2).cells.size then (a.eval x2).cells[j - off]? else vs[j]? := by
  intro j
  simp only [List.getElem?_toArray,Array.length_toList]
  by_cases h1:j < off
  ·rw [if_neg (by omega),List.append_assoc,List.getElem?_append_left (by simp;omega)]
   simp [h1]
  ·by_cases h2:j < off+(a.eval x2).cells.size
   ·rw [if_pos ⟨by omega,h2⟩,List.getElem?_append_left (by simp;omega),List.getElem?_append_right (by simp;omega)]
    rw [Array.getElem?_toList]
    congr 1
    simp;omega
   ·rw [if_neg (by omega),List.getElem?_append_right (by simp;omega)]
    simp only [List.getElem?_drop,Array.getElem?_toList]
    congr 1
    simp;omega
 have hds:RDs g1.Pr w (splice cs off (AL.ev S y2).scells) (vs.toList.take off++(a.eval x2).cells.toList++vs.toList.drop (off+(a.eval x2).cells.toList.length)).toArray :=
  RDs.splice (cs:=cs) (xs:=vs) ⟨m6,m7,m9⟩ (ys:=(a.eval x2).cells) (by rw [hPr];exact hd2.scells hst) (by omega) _ (by simp;omega) hget
 have hown:∀ j v c,(splice cs off (AL.ev S y2).scells)[j]? = some v→(vs.toList.take off++(a.eval x2).cells.toList++vs.toList.drop (off+(a.eval x2).cells.toList.length)).toArray[j]? = some c→OwnAt P w g1 (.cell k j) v c:=by
  intro j v c h1 h2
  rw [splice_get? (by omega)] at h1
  rw [hget] at h2
  rw [hsl,hd2.cells.1] at h1
  split at h1
  ·rename_i hin
   rw [if_pos hin] at h2
   have hd3:=hd2
   generalize AL.ev S y2=q at h1 own1 hd3 hst
   generalize a.eval x2=c2 at h2 own1 hd3
   have single:q.scells=[q]→c2.cells = #[c2]→OwnAt P w g1 (.cell k j) v c:=by
    intro h3 h4
    rw [h3] at h1
    rw [h4] at h2
    have h0:j - off=0:=by simpa using (List.getElem?_eq_some_iff.1 h1).1
    rw [h0] at h1 h2
    simp at h1 h2
    subst h1;subst h2
    rw [show j=off by omega]
    exact own1
   cases hd3 with
   |agg cs' vs' hl hone hr =>
    simp only [AV.scells,List.getElem?_map,Option.map_eq_some_iff] at h1
    obtain ⟨u,_,rfl⟩:=h1
    exact ownAt_dem _ _ _
   |tup=>cases hst
   |val _ hc=>exact single rfl (by cases c2<;>first | rfl | cases hc)
   |_=>exact single rfl rfl
  ·rename_i hin
   rw [if_neg hin] at h2
   obtain ⟨l1,rfl⟩:=List.getElem?_eq_some_iff.1 h1
   obtain ⟨l2,rfl⟩:=Array.getElem?_eq_some_iff.1 h2
   exact m8 j l1 l2
 have R2:=R1.setBox k b (by rw [e3];exact hal) vs _ ty k3 _ hds.1 hds.2.1 (fun j hj hj'=>hown j _ _ (List.getElem?_eq_getElem hj) (Array.getElem?_eq_getElem hj')) hds.2.2
 refine ⟨undef,w.setRow b (vs.toList.take off++(a.eval x2).cells.toList++vs.toList.drop (off+(a.eval x2).cells.toList.length)).toArray,g1,.inr ⟨?_,rfl⟩,e1,e2,?_⟩
 ·unfold execOp
  simp only [ho,hc1,Instr.storeAt,Instr.sureAddr,storeVar,sizeOf,typeInfo,Sem.run_bind,Sem.run_pure,Result.andThen_ok,run_program,hi,hsz,ne_eq,not_true_eq_false,if_false]
  rw [show storeCells ⟨b,off,none⟩ (a.eval x2).cells.toList=storeCells ⟨b,off,none⟩ (a.eval x2).cells.toList 0 from rfl,hrun]
  rfl
 ·rw [hdst]
  exact R2
end
end Go.AL
namespace Go.AL
open Go.RowKit
theorem append_cases {P:Program} {w:World} (base:Nat) (t ty e:TypeId) (i:TypeInfo) (z:Value) (ht:P.underlying t=some (.slice e)) (hi:P.info? e=some i) (hz:i.zero=some z)
  (hzs:z.cells.size=i.size) (v:Value) (n:Nat) (xs:List Value) (b:Nat) (hown:w.ownsRow base e i.size v n xs) (hvb:v.ownBlock=some b)
  (ad:Addr) (m c:Nat) (news:List Value) (hl:news.length=m * i.size) (hnews:∀ j u,news[j]? = some u→w.cell? (ad.add j)=some u) (h1:∀ u∈news,u.oneCell'=true)
  (h63:n+m≤2097152) (hbytes:(n+m) * i.bytes≤140737488355328) (hbase:base≤w.heap.size) :
  ∃ v' w' b',(Builtin.append_ #[t,t] ty #[v,.slice (some ad) m c]).run P w = .ok v' w'∧w'.ownsRow base e i.size v' (n+m) (xs++news)∧v'.ownBlock=some b' ∧
   ((b'=b∧w.grownBy w' (some b))∨(b'=w.heap.size∧w.grownBy w' none∧w'.heap.size=w.heap.size+1)):=by
 have h63':n+m≤maxLen:=by unfold maxLen;omega
 have hlen:(xs++news).length=(n+m) * i.size:=by rw [List.length_append,hown.1,hl,Nat.add_mul]
 rcases hown.2 with ⟨rfl,rfl⟩ | ⟨g,cap,cur,rfl,hbg,hg,hnc,hcm,hcs,htake⟩
 ·cases hvb
 ·have hgb:g=b:=by simpa [Value.ownBlock] using hvb
  subst hgb
  by_cases hroom:n+m≤cap
  ·have hfit:n * i.size+news.length≤cur.size:=by rw [hl,hcs,← Nat.add_mul];exact Nat.mul_le_mul_right _ hroom
   have hr:=run_append_room (P:=P) w t ty e i ht hi g n cap cur hg ad m c news hl hnews h1 hroom hfit
   refine ⟨_,_,g,hr,⟨hlen,.inr ⟨g,cap,_,rfl,hbg,setRow_heap w g cur _ e _ hg,hroom,hcm,?_,?_⟩⟩,rfl,.inl ⟨rfl,⟨rfl,rfl,rfl,by simp,fun k _ hk=>setRow_other w g k _ (fun e=>hk (by simp [e]))⟩⟩⟩
   ·simp only [List.size_toArray,List.length_append,List.length_take,List.length_drop,Array.length_toList]
    omega
   ·rw [htake,← hlen]
    exact List.take_left
  ·have holds:∀ j u,xs[j]? = some u→w.cell? ((⟨g,0,none⟩:Addr).add j)=some u:=hown.cells (g:=g) rfl
   have hr:=run_append_grow (P:=P) w t ty e i z ht hi hz ⟨g,0,none⟩ n cap xs hown.1 holds ad m c news hl hnews (by omega) (by omega) (growslice_fits (by omega) hbytes)
   have hge:=grownCap_ge w (n+m) cap e
   have hcm':grownCap w (n+m) cap e≤maxLen:=grownCap_le_maxLen w (n+m) cap e h63'
   refine ⟨_,_,w.heap.size,hr,⟨hlen,.inr ⟨w.heap.size,_,_,rfl,hbase,heap_alloc_new w.drew _,hge,hcm',?_,?_⟩⟩,rfl,.inr ⟨rfl,⟨rfl,rfl,rfl,by simp,fun k hk _=>heap_alloc_old w.drew _ k hk⟩,by simp⟩⟩
   ·simp only [Array.size_append,List.size_toArray,size_zeroCells,hzs,hown.1,hl,← Nat.add_mul]
    congr 1
    omega
   ·simp only [Array.toList_append,List.append_assoc]
    rw [← List.append_assoc,← hlen]
    exact List.take_left
theorem append_cap0 {P:Program} {w:World} (base:Nat) (t ty e:TypeId) (i:TypeInfo) (z:Value) (ht:P.underlying t=some (.slice e)) (hi:P.info? e=some i) (hz:i.zero=some z)
  (hzs:z.cells.size=i.size) (a0:Option Addr)
  (ad:Addr) (m c:Nat) (news:List Value) (hl:news.length=m * i.size) (hnews:∀ j u,news[j]? = some u→w.cell? (ad.add j)=some u)
  (hm:0 < m) (h63:m≤2097152) (hbytes:m * i.bytes≤140737488355328) (hbase:base≤w.heap.size) :
  ∃ v' w',(Builtin.append_ #[t,t] ty #[.slice a0 0 0,.slice (some ad) m c]).run P w = .ok v' w'∧w'.ownsRow base e i.size v' m news∧v'.ownBlock=some w.heap.size∧w.grownBy w' none∧w'.heap.size=w.heap.size+1:=by
 have hge:=grownCap_ge w m 0 e
 have hcm':grownCap w m 0 e≤maxLen:=grownCap_le_maxLen w m 0 e (by unfold maxLen;omega)
 have hrun:(Builtin.append_ #[t,t] ty #[.slice a0 0 0,.slice (some ad) m c]).run P w = .ok (.slice (some ⟨w.heap.size,0,none⟩) m (grownCap w m 0 e)) (w.drew.alloc (.cells (news.toArray++Builtin.zeroCells z.cells (grownCap w m 0 e - m)) e)):=by
  cases a0 with
  |none=>exact run_append_nil (P:=P) w t ty e i z ht hi hz ad m c news hl hnews hm (by omega) (by omega)
  |some b =>
   have:=run_append_grow (P:=P) w t ty e i z ht hi hz b 0 0 [] (by simp) (by simp) ad m c news hl hnews (by omega) (by omega) (growslice_fits (by omega) (by simpa using hbytes))
   simpa using this
 refine ⟨_,_,hrun,⟨hl,.inr ⟨w.heap.size,_,_,rfl,hbase,heap_alloc_new w.drew _,hge,hcm',?_,?_⟩⟩,rfl,⟨rfl,rfl,rfl,by simp,fun k hk _=>heap_alloc_old w.drew _ k hk⟩,by simp⟩
 ·simp only [Array.size_append,List.size_toArray,size_zeroCells,hzs,hl,← Nat.add_mul]
  congr 1
  omega
 ·rw [← hl]
  simp only [Array.toList_append]
  exact List.take_left
theorem run_append_owned_emp {P:Program} {w:World} (base:Nat) (t ty e:TypeId) (i:TypeInfo) (size:Nat) (ht:P.underlying t=some (.slice e)) (hi:P.info? e=some i)
  (v:Value) (n:Nat) (xs:List Value) (hown:w.ownsRow base e size v n xs) (ad:Option Addr) :
  (Builtin.append_ #[t,t] ty #[v,.slice ad 0 0]).run P w = .ok v w:=by
 have hfc:(Builtin.firstCells i.size 0 (.slice ad 0 0)).run P w = .ok #[] w:=by
  rcases ad with _ | ad
  ·rfl
  ·simp [Builtin.firstCells,loadCells,loadCellsFrom]
 rcases hown.2 with ⟨rfl,rfl⟩ | ⟨g,cap,cur,rfl,_,_,hnc,_⟩
 ·simp [Builtin.append_,run_underlying ht,sizeOf,typeInfo,hi,Builtin.lenOf,hfc]
 ·simp [Builtin.append_,run_underlying ht,sizeOf,typeInfo,hi,Builtin.lenOf,hfc,hnc,storeCells]
theorem RD.sliceCells {Pr:Nat→Nat→Prop} {w:World} {o:Ow} {es:List AV} {c:Value} (h:RD Pr w (.slice o es) c) (size:Nat) (hs:elemsOK size es=true) :
  (es=[]∧∃ ad,c = .slice ad 0 0)∨∃ (b off cap:Nat) (news:List Value),c = .slice (some ⟨b,off,none⟩) es.length cap∧news.length=es.length * size ∧
   (∀ j u,news[j]? = some u→w.cell? ⟨b,off+j,none⟩=some u)∧(∀ u∈news,u.oneCell'=true) ∧
   ∀ j (h:j < es.length) k (hk:k < (es[j]).cells.length),∃ u,news[j * size+k]? = some u∧RD Pr w ((es[j]).cells[k]) u:=by
 simp only [elemsOK,List.all_eq_true,Bool.and_eq_true,beq_iff_eq] at hs
 cases h with
 |nils=>exact .inl ⟨rfl,_,rfl⟩
 |emps _ a=>exact .inl ⟨rfl,_,rfl⟩
 |slice _ _ b off cap sz cs hcap hn0 hsz h1 hc hr =>
  refine .inr ⟨b,off,cap,(List.range (es.length * size)).map cs,rfl,by simp,?_,?_,?_⟩
  ·intro j u hu
   simp only [List.getElem?_map,Option.map_eq_some_iff] at hu
   obtain ⟨j',h1,rfl⟩:=hu
   obtain ⟨hlt,rfl⟩:=List.getElem?_eq_some_iff.1 h1
   simp only [List.length_range] at hlt
   simp only [List.getElem_range]
   have hpos:0 < es.length:=by
    rcases Nat.eq_zero_or_pos es.length with h0 | h0
    ·rw [h0] at hlt;omega
    ·exact h0
   have:sz=size:=by rw [← hsz 0 hpos];exact (hs _ (List.getElem_mem hpos)).2
   subst this
   exact (hc j hlt).2
  ·intro u hu
   simp only [List.mem_map,List.mem_range] at hu
   obtain ⟨j,hlt,rfl⟩:=hu
   have hpos:0 < es.length:=by
    rcases Nat.eq_zero_or_pos es.length with h0 | h0
    ·rw [h0] at hlt;omega
    ·exact h0
   have:sz=size:=by rw [← hsz 0 hpos];exact (hs _ (List.getElem_mem hpos)).2
   subst this
   have hsp:0 < sz:=by
    rcases Nat.eq_zero_or_pos sz with h0 | h0
    ·rw [h0] at hlt;omega
    ·exact h0
   have hj:j / sz < es.length:=(Nat.div_lt_iff_lt_mul hsp).2 hlt
   have hk:j % sz < (es[j / sz]).cells.length:=by rw [hsz _ hj];exact Nat.mod_lt _ hsp
   have e:j / sz * sz+j % sz=j:=by rw [Nat.mul_comm];exact Nat.div_add_mod j sz
   have:=(hr _ hj _ hk).one (h1 _ hj _ hk)
   rwa [e] at this
  ·intro j hj k hk
   have:sz=size:=by rw [← hsz j hj];exact (hs _ (List.getElem_mem hj)).2
   subst this
   refine ⟨cs (j * sz+k),?_,hr j hj k hk⟩
   rw [hsz j hj] at hk
   have:j * sz+k < es.length * sz:=by
    calc j * sz+k < j * sz+sz:=by omega
     _=(j+1) * sz:=by rw [Nat.succ_mul]
     _≤es.length * sz:=Nat.mul_le_mul_right _ (by omega)
   simp [this]
theorem RD.slice_one {Pr:Nat→Nat→Prop} {w:World} {o:Ow} {es:List AV} {c:Value} (h:RD Pr w (.slice o es) c):∀ j (h:j < es.length) k (hk:k < (es[j]).cells.length),((es[j]).cells[k]).one=true:=by
 intro j hj k hk
 cases h with
 |nils=>simp at hj
 |emps=>simp at hj
 |slice _ _ _ _ _ _ _ _ _ _ h1 _ _=>exact h1 j hj k hk
section
variable {P:Program} {w0:World} {n:Nat} {U:Nat→Prop} {g:Gh} {S:Slots} {H:Boxes} {a:Act} {w:World}
theorem Rel.ownRow (R:Rel P w0 n U g S H a w) {w':World} {b':Nat} (d:Option Nat) (hd:∀ t,d=some t→t < n∧¬ U t) {el:TypeId} {i:TypeInfo} (hi:P.info? el=some i) {es:List AV} {news:List Value} {v':Value}
  (hown:w'.ownsRow g.base el i.size v' es.length news) (hvb:v'.ownBlock=some b')
  (hnm:∀ es c,w.heap[b']? ≠ some (.map es c))
  (hb:(b' < w.heap.size∧w.grownBy w' (some b')∧g.owner b'=none∧(∀ j,g.al j≠some b')∧g.hi b'≤es.length * i.size∧(∀ k u,k < g.hi b'→w.cell? ⟨b',k,none⟩=some u→news[k]? = some u)∧∀ o,g.old.keep b'≠some o) ∨
   (b'=w.heap.size∧w.grownBy w' none∧w'.heap.size=w.heap.size+1))
  (hst:elemsOK i.size es=true)
  (hr:∀ j (h:j < es.length) k (hk:k < (es[j]).cells.length),∃ u,news[j * i.size+k]? = some u∧RD g.Pr w ((es[j]).cells[k]) u∧((es[j]).cells[k]).one=true) :
  ∃ g',g'.base=g.base∧g'.old=g.old∧Rel P w0 n U g' (Go.AL.putD S d (.slice (.own el) es)) H (a.put d v') w':=by
 have hle:g.base≤w.heap.size:=by rw [R.base];exact R.below.size
 simp only [elemsOK,List.all_eq_true,Bool.and_eq_true,beq_iff_eq] at hst
 let g':Gh:={ g with hi:=upd g.hi b' (es.length * i.size),owner:=upd g.owner b' (d.map .slot) }
 have hgr:∀ k,k < w.heap.size→k≠b'→w'.heap[k]? = w.heap[k]? := by
  intro k hk hne
  rcases hb with ⟨_,h,_⟩ | ⟨_,h,_⟩
  ·exact h.block k hk (by simp [hne])
  ·exact h.block k hk (by simp)
 have hsize:w.heap.size≤w'.heap.size:=by rcases hb with ⟨_,h,_⟩ | ⟨_,h,_⟩<;>exact h.size
 rcases hown.2 with ⟨rfl,_⟩ | ⟨gg,cap,cur,rfl,hbg,hg,hnc,hcm,hcs,htake⟩
 ·cases hvb
 have hgb:gg=b':=by simpa [Value.ownBlock] using hvb
 subst hgb
 have hcell:∀ k u,news[k]? = some u→w'.cell? ⟨gg,k,none⟩=some u:=by
  intro k u hu
  have:=hown.cells (g:=gg) rfl k u hu
  rwa [Addr.add_lit,Nat.zero_add] at this
 have hmono1:∀ b k,g.Pr b k→∀ u,w.cell? ⟨b,k,none⟩=some u→g'.Pr b k∧w'.cell? ⟨b,k,none⟩=some u:=by
  intro b k hp u hu
  have hlt:b < w.heap.size:=World.block_lt_of_cell? _ _ hu
  by_cases hbb:b=gg
  ·subst hbb
   rcases hb with ⟨h1,h2,h3,h4,h5,h6,_⟩ | ⟨h1,_⟩
   ·rcases hp with hp | hp
    ·omega
    ·exact ⟨.inr ⟨hp.1,by show k < upd g.hi _ _ _;rw [upd_same];omega⟩,hcell k u (h6 k u hp.2 hu)⟩
   ·omega
  ·refine ⟨?_,by rw [World.cell?_of_block (w:=w) (hgr b hlt hbb)];exact hu⟩
   rcases hp with hp | hp
   ·exact .inl hp
   ·exact .inr ⟨hp.1,by show k < upd g.hi _ _ b;rw [upd_ne _ _ hbb];exact hp.2⟩
 have hmono:Keeps g.Pr g'.Pr w w':={
  cell:=hmono1
  map:=fun b hp es c hm=>by
   have hlt:b < w.heap.size:=(Array.getElem?_eq_some_iff.1 hm).1
   have hbb:b≠gg:=by
    rintro rfl
    exact hnm _ _ hm
   refine ⟨?_,by rw [hgr b hlt hbb];exact hm⟩
   rcases hp with hp | hp
   ·exact .inl hp
   ·exact .inr ⟨hp.1,by show 0 < upd g.hi _ _ b;rw [upd_ne _ _ hbb];exact hp.2⟩ }
 have R':Rel P w0 n U g' S H a w':=by
  refine R.ext (g':=g') rfl rfl rfl hmono ?_ ?_ ?_ ?_ ?_ hsize
  ·intro j b hj
   obtain ⟨_,_,_,_,_,k3,_⟩:=R.box j b hj
   have hlt:b < w.heap.size:=(Array.getElem?_eq_some_iff.1 k3).1
   have hne:b≠gg:=by
    rintro rfl
    rcases hb with ⟨_,_,_,h4,_⟩ | ⟨h1,_⟩
    ·exact h4 j hj
    ·omega
   exact ⟨hgr b hlt hne,upd_ne _ _ hne,upd_ne _ _ hne⟩
  ·intro b loc ho
   have hlt:b < w.heap.size:=by
    rcases Nat.lt_or_ge b w.heap.size with h | h
    ·exact h
    ·rw [(R.fresh b h).2] at ho;cases ho
   have hne:b≠gg:=by
    rintro rfl
    rcases hb with ⟨_,_,h3,_⟩ | ⟨h1,_⟩
    ·rw [h3] at ho;cases ho
    ·omega
   exact ⟨hgr b hlt hne,upd_ne _ _ hne,(upd_ne _ _ hne).trans ho⟩
  ·refine R.below.trans ?_
   rcases hb with ⟨_,h,_⟩ | ⟨_,h,_⟩
   ·exact ⟨h.os,h.tape,h.output,h.size,fun k hk=>hgr k (by omega) (by omega)⟩
   ·exact ⟨h.os,h.tape,h.output,h.size,fun k hk=>hgr k (by omega) (by omega)⟩
  ·intro b hbb
   have hne:b≠gg:=by
    have:=(Array.getElem?_eq_some_iff.1 hg).1
    omega
   exact ⟨(upd_ne _ _ hne).trans (R.fresh b (by omega)).1,(upd_ne _ _ hne).trans (R.fresh b (by omega)).2⟩
  ·intro b o hk ho
   have hlt:b < w.heap.size:=(Array.getElem?_eq_some_iff.1 ho).1
   have hne:b≠gg:=by
    rintro rfl
    rcases hb with ⟨_,_,_,_,_,_,h7⟩ | ⟨h1,_⟩
    ·exact h7 o hk
    ·omega
   exact ⟨by rw [hgr b hlt hne];exact ho,upd_ne _ _ hne,upd_ne _ _ hne⟩
 refine ⟨g',rfl,rfl,R'.putD d _ _ (fun t h=>(hd t h).1) (.data _ _ ?_) ?_⟩
 ·refine .slice _ es gg 0 cap i.size (fun k=>news.getD k undef) hnc (fun h=>by cases h) (fun j h=>(hst _ (List.getElem_mem h)).2) (fun j h k hk=>(hr j h k hk).choose_spec.2.2) (fun k hk=>⟨?_,?_⟩) (fun j h k hk => ?_)
  ·exact .inr ⟨hbg,by show 0+k < upd g.hi _ _ _;rw [upd_same];omega⟩
  ·rw [Nat.zero_add]
   refine hcell k _ ?_
   have:k < news.length:=by rw [hown.1];exact hk
   simp [this]
  ·obtain ⟨u,h1,h2,_⟩:=hr j h k hk
   have:news.getD (j * i.size+k) undef=u:=by simp [h1]
   rw [this]
   exact h2.mono hmono
 ·intro t ht
  subst ht
  exact ⟨i,news,gg,hi,hown,rfl,by show upd g.owner _ _ _=_;rw [upd_same];rfl,by show upd g.hi _ _ _=_;rw [upd_same]⟩
theorem elemsOK_iff {size:Nat} {es:List AV}:elemsOK size es=true↔∀ v∈es,v.storable=true∧v.cells.length=size:=by
 simp [elemsOK]
theorem does_append (R:Rel P w0 n U g S H a w) {o:Oper} {cl:Call} {t el:TypeId} {i:TypeInfo} {z:Value} {x1 x2:Operand} {y1 y2:Opd} {e:Eff} (ho:o.op = .call cl) (hcl:cl.callee = .builtin .append) (hca:cl.args = #[x1,x2]) (hct:cl.argTypes = #[t,t])
  (hd:∀ t,o.dst=some t→t < n∧¬ U t) (hun:P.underlying t=some (.slice el)) (hi:P.info? el=some i) (hz:i.zero=some z) (hzs:z.cells.size=i.size) (hby:i.bytes≤65536)
  (hx1:opd n x1=some y1) (hx2:opd n x2=some y2) (hu1:∀ t∈y1.tmps,¬ U t) (hu2:∀ t∈y2.tmps,¬ U t) (hds:∀ t,o.dst=some t→t∉y1.tmps)
  (he:apure S H (.append t el i.size i.bytes y1 y2)=some e):Does P w0 n U g S H a w o e:=by
 have hle:g.base≤w.heap.size:=by rw [R.base];exact R.below.size
 have hv1:=R.ev hx1 hu1
 have hv2:=R.ev hx2 hu2
 have run:∀ v' w',(Builtin.append_ #[t,t] o.type #[a.eval x1,a.eval x2]).run P w = .ok v' w'→(execOp a.eval o).run P w = .ok (.value v') w':=by
  intro v' w' h
  unfold execOp
  simp [ho,hcl,hca,hct,resolve,invoke,builtin,h]
 have bytes:∀ m,m≤2097152→m * i.bytes≤140737488355328:=fun m hm=>Nat.le_trans (Nat.mul_le_mul hm hby) (by decide)
 simp only [apure] at he
 split at he
 ·
  rename_i oo ys hq1 hq2
  split at he
  case isFalse=>cases he
  rename_i hc
  simp only [Bool.and_eq_true,decide_eq_true_eq] at hc
  cases he
  rw [hq1] at hv1
  rw [hq2] at hv2
  obtain ⟨ad0,hc1⟩:∃ ad,a.eval x1 = .slice ad 0 0:=by
   have hq:=hv1.toData rfl
   generalize a.eval x1=c at hq
   cases hq with
   |nils=>exact ⟨_,rfl⟩
   |emps=>exact ⟨_,rfl⟩
   |slice _ _ b off cap size cs hcap hn0=>rw [hn0 rfl];exact ⟨_,rfl⟩
  have hd2:=hv2.toData rfl
  rcases hd2.sliceCells i.size hc.1 with ⟨rfl,ad2,hc2⟩ | ⟨b,off,cap,news,hc2,hl,hn,h1,hr⟩
  ·refine ⟨a.eval x1,w,g,.inl (run _ _ ?_),rfl,rfl,R.putD o.dst _ _ (fun t h=>(hd t h).1) (.data _ _ (hv1.toData rfl)) fun _ _=>trivial⟩
   rw [hc1,hc2]
   have hfc:(Builtin.firstCells i.size 0 (.slice ad2 0 0)).run P w = .ok #[] w:=by
    rcases ad2 with _ | ad2
    ·rfl
    ·simp [Builtin.firstCells,loadCells,loadCellsFrom]
   simp [Builtin.append_,run_underlying hun,sizeOf,typeInfo,hi,Builtin.lenOf,hfc,storeCells]
   cases ad0<;>simp [storeCells]
  ·by_cases hys:ys=[]
   ·subst hys
    have hnews:news=[]:=List.eq_nil_of_length_eq_zero (by simpa using hl)
    refine ⟨a.eval x1,w,g,.inl (run _ _ ?_),rfl,rfl,R.putD o.dst _ _ (fun t h=>(hd t h).1) (.data _ _ (hv1.toData rfl)) fun _ _=>trivial⟩
    rw [hc1,hc2]
    simp [Builtin.append_,run_underlying hun,sizeOf,typeInfo,hi,Builtin.lenOf,Builtin.firstCells,loadCells,loadCellsFrom]
    cases ad0<;>simp [storeCells]
   ·have hpos:0 < ys.length:=List.length_pos_iff.2 hys
    obtain ⟨v',w',r1,r2,r3,r4,r5⟩:=append_cap0 (P:=P) (w:=w) g.base t o.type el i z hun hi hz hzs ad0 ⟨b,off,none⟩ ys.length cap news hl (fun j u hu=>by rw [Addr.add_lit];exact hn j u hu) hpos (by omega) (bytes _ (by omega)) hle
    obtain ⟨g',e1,e2,R'⟩:=R.ownRow o.dst hd hi (es:=ys) r2 r3 (fun es c hm=>by have:=(Array.getElem?_eq_some_iff.1 hm).1;omega) (.inr ⟨rfl,r4,r5⟩) hc.1 (fun j h k hk=>by
     obtain ⟨u,u1,u2⟩:=hr j h k hk
     exact ⟨u,u1,u2,hd2.slice_one j h k hk⟩)
    refine ⟨v',w',g',.inl (run _ _ (by rw [hc1,hc2];exact r1)),e1,e2,?_⟩
    have:ys.isEmpty=false:=by cases ys with | nil=>exact absurd rfl hys | cons=>rfl
    simp only [this]
    exact R'
 ·rename_i e' xs oo ys hq1 hq2
  split at he
  case isFalse=>cases he
  rename_i hc
  simp only [Bool.and_eq_true,decide_eq_true_eq] at hc
  obtain ⟨rfl,⟨hc1,hc2⟩,hc3⟩:=hc
  cases he
  rw [hq1] at hv1
  rw [hq2] at hv2
  obtain ⟨g1,i',xv,b,b1,b2,b3,b4,R1,hi',hown,hvb,hno,hhi,hnb,hnk⟩:=R.takeNone hx1 hu1 hq1
  rw [hi] at hi';cases hi'
  have hPr:g1.Pr=g.Pr:=by unfold Gh.Pr;rw [b1,b2,b4]
  have hd1:=hv1.toData rfl
  have hd2:=hv2.toData rfl
  have hbl:b < w.heap.size:=(hown.lt b hvb).2
  have hbe:elemsOK i.size (xs++ys)=true:=by
   rw [elemsOK_iff];intro v hv
   rcases List.mem_append.1 hv with h | h
   ·exact elemsOK_iff.1 hc2 v h
   ·exact elemsOK_iff.1 hc1 v h
  have hS:demS S y1=(match (tmpOf y1) with | some t=>upd S t (S t).dem | none=>S):=rfl
  have hone:∀ (o:Ow) (es:List AV) (c:Value),RD g.Pr w (.slice o es) c→∀ j (h:j < es.length) k (hk:k < (es[j]).cells.length),((es[j]).cells[k]).one=true:=by
   intro o es c h j hj k hk
   cases h with
   |nils=>simp at hj
   |emps=>simp at hj
   |slice _ _ _ _ _ _ _ _ _ _ h1 _ _=>exact h1 j hj k hk
  have holdr:∀ j (h:j < xs.length) k (hk:k < (xs[j]).cells.length),∃ u,xv[j * i.size+k]? = some u∧RD g.Pr w ((xs[j]).cells[k]) u:=by
   intro j hj k hk
   rcases hd1.sliceCells i.size hc2 with ⟨rfl,hcc⟩ | ⟨b',off,cap,olds,hcc,hl,hn,h1,hr⟩
   ·simp at hj
   ·obtain ⟨u,u1,u2⟩:=hr j hj k hk
    refine ⟨u,?_,u2⟩
    have hlt:j * i.size+k < xv.length:=by
     rw [hown.1,← hl];exact (List.getElem?_eq_some_iff.1 u1).1
    have e1:=hown.cells hvb _ _ (List.getElem?_eq_getElem hlt)
    have e2:=hn _ _ u1
    rcases hown.2 with ⟨hnil,_⟩ | ⟨gg,cap',cur,hvv,_⟩
    ·rw [hnil] at hvb;cases hvb
    ·rw [hvv] at hcc hvb
     have hgb:gg=b:=by simpa [Value.ownBlock] using hvb
     subst hgb
     cases hcc
     rw [Addr.add_lit,Nat.zero_add] at e1
     rw [Nat.zero_add] at e2
     rw [e2] at e1
     rw [List.getElem?_eq_getElem hlt,Option.some.inj e1]
  have hview:∀ k u,k < g1.hi b→w.cell? ⟨b,k,none⟩=some u→∀ news,(xv++news)[k]? = some u:=by
   intro k u hk hu news
   rw [b4,hhi] at hk
   have hlt:k < xv.length:=by rw [hown.1];exact hk
   have e1:=hown.cells hvb _ _ (List.getElem?_eq_getElem hlt)
   rw [Addr.add_lit,Nat.zero_add,hu] at e1
   rw [List.getElem?_append_left hlt,List.getElem?_eq_getElem hlt,← Option.some.inj e1]
  have fin:∀ v' w' b' news,(Builtin.append_ #[t,t] o.type #[a.eval x1,a.eval x2]).run P w = .ok v' w'→w'.ownsRow g.base e' i.size v' (xs.length+ys.length) (xv++news)→v'.ownBlock=some b' →
    ((b'=b∧w.grownBy w' (some b))∨(b'=w.heap.size∧w.grownBy w' none∧w'.heap.size=w.heap.size+1))→news.length=ys.length * i.size →
    (∀ j (h:j < ys.length) k (hk:k < (ys[j]).cells.length),∃ u,news[j * i.size+k]? = some u∧RD g.Pr w ((ys[j]).cells[k]) u) →
    Does P w0 n U g S H a w o { v := .slice (.own e') (xs++ys),dm:=tmpOf y1 }:=by
   intro v' w' b' news r1 r2 r3 r4 hl hr
   obtain ⟨g',e1,e2,R'⟩:=R1.ownRow o.dst hd hi (es:=xs++ys) (by rw [b1,List.length_append];exact r2) r3 (by
    rcases r4 with ⟨rfl,_⟩ | ⟨rfl,_⟩
    ·intro es c hm
     rcases hown.2 with ⟨hnil,_⟩ | ⟨gg,cap',cur,hvv,_,hcur,_⟩
     ·rw [hnil] at hvb;cases hvb
     ·rw [hvv] at hvb
      have hgb:gg=b':=by simpa [Value.ownBlock] using hvb
      subst hgb
      rw [hcur] at hm;cases hm
    ·intro es c hm
     have:=(Array.getElem?_eq_some_iff.1 hm).1
     omega) (by
    rcases r4 with ⟨rfl,hg⟩ | h
    ·refine .inl ⟨hbl,hg,hno,by rw [b3];exact hnb,by rw [b4,hhi,List.length_append,Nat.add_mul];omega,fun k u hk hu=>hview k u hk hu news,by rw [b2];exact hnk⟩
    ·exact .inr h) hbe (fun j h k hk=>by
     rw [hPr]
     by_cases hj:j < xs.length
     ·have ej:(xs++ys)[j]=xs[j]:=List.getElem_append_left hj
      have hk':k < (xs[j]).cells.length:=by rw [← ej];exact hk
      obtain ⟨u,u1,u2⟩:=holdr j hj k hk'
      refine ⟨u,?_,?_,?_⟩
      ·rw [List.getElem?_append_left (List.getElem?_eq_some_iff.1 u1).1];exact u1
      ·simp only [ej];exact u2
      ·simp only [ej];exact hone _ _ _ hd1 j hj k hk'
     ·have hj2:j - xs.length < ys.length:=by simp only [List.length_append] at h;omega
      have ej:(xs++ys)[j]=ys[j - xs.length]:=List.getElem_append_right (by omega)
      have hk':k < (ys[j - xs.length]).cells.length:=by rw [← ej];exact hk
      obtain ⟨u,u1,u2⟩:=hr _ hj2 k hk'
      refine ⟨u,?_,?_,?_⟩
      ·have e3:j * i.size+k=xv.length+((j - xs.length) * i.size+k):=by
        rw [hown.1,← Nat.add_assoc,← Nat.add_mul];congr 2;omega
       rw [e3,List.getElem?_append_right (by omega),Nat.add_sub_cancel_left]
       exact u1
      ·simp only [ej];exact u2
      ·simp only [ej];exact hone _ _ _ hd2 _ hj2 k hk')
   exact ⟨v',w',g',.inl (run _ _ r1),e1.trans b1,e2.trans b2,R'⟩
  rcases hd2.sliceCells i.size hc1 with ⟨rfl,ad2,hcc⟩ | ⟨b',off,cap,news,hcc,hl,hn,h1,hr⟩
  ·refine fin (a.eval x1) w b [] (by rw [hcc];exact run_append_owned_emp (P:=P) (w:=w) g.base t o.type e' i i.size hun hi _ _ _ hown ad2) (by simpa using hown) hvb (.inl ⟨rfl,⟨rfl,rfl,rfl,Nat.le_refl _,fun _ _ _=>rfl⟩⟩) (by simp) (fun j h=>by simp at h)
  ·obtain ⟨v',w',b'',r1,r2,r3,r4⟩:=append_cases (P:=P) (w:=w) g.base t o.type e' i z hun hi hz hzs (a.eval x1) xs.length xv b hown hvb ⟨b',off,none⟩ ys.length cap news hl (fun j u hu=>by rw [Addr.add_lit];exact hn j u hu) h1 (by omega) (bytes _ (by omega)) hle
   exact fin v' w' b'' news (by rw [hcc];exact r1) r2 r3 r4 hl hr
 ·cases he
end
end Go.AL
namespace Go.AL
open Go.RowKit
section
variable {P:Program} {w0:World} {n:Nat} {U:Nat→Prop} {g:Gh} {S:Slots} {H:Boxes} {a:Act} {w:World}
theorem does_loadT (R:Rel P w0 n U g S H a w) {o:Oper} {hr:HR} {t:TypeId} {dsc:TypeDesc} {x:Operand} {y:Opd} {e:Eff} {d:Nat} (ho:o.op = .load t x) (hdst:o.dst=some d) (hd:d < n∧¬ U d)
  (hun:P.underlying t=some dsc) (hagg:aggT dsc=false) (hx:opd n x=some y) (hu:∀ t∈y.tmps,¬ U t) (he:apure S H (.loadT hr y)=some e):Does P w0 n U g S H a w o e:=by
 have hv:=R.ev hx hu
 simp only [apure] at he
 generalize hev:AL.ev S y=q at he hv
 generalize hcx:a.eval x=c at hv
 cases hv<;>(try cases he;done)
 case data h=>cases h<;>cases he
 rename_i k off b hal
 simp only at he
 split at he
 case isFalse=>cases he
 obtain ⟨cs,vs,ty,k1,k2,k3,k4,k5,k6,k7,k8,k9⟩:=R.box k b hal
 simp only [k1] at he
 split at he
 case h_2=>cases he
 rename_i v hv
 cases he
 obtain ⟨hlt,rfl⟩:=List.getElem?_eq_some_iff.1 hv
 have hlt':off < vs.size:=by omega
 have hrun:(loadVar t ⟨b,off,none⟩).run P w = .ok vs[off] w:=by
  have hagg':(isAgg t).run P w = .ok false w:=by
   unfold isAgg
   rw [Sem.run_bind,run_underlying hun w,← hagg]
   cases dsc<;>simp [aggT]
  have hc:w.cell? ⟨b,off,none⟩=some vs[off]:=by simp [World.cell?,k3,hlt']
  simp [loadVar,Sem.run_bind,hagg',hc]
 have R1:=R.setBox k b hal vs vs ty k3 (cs.set off (cs[off]).dem) (by simpa using k6) (fun j h h'=>by
   simp only [List.length_set] at h
   rw [List.getElem_set]
   split
   ·rename_i hj;subst hj;exact (k7 _ hlt hlt').dem
   ·exact k7 j h h') (fun j h h'=>by
   simp only [List.length_set] at h
   rw [List.getElem_set]
   split
   ·exact ownAt_dem _ _ _
   ·exact k8 j h h') (fun j h=>by
   simp only [List.length_set] at h
   rw [List.getElem_set]
   split
   ·have:=k9 off hlt
    exact (AV.one_dem _).trans this
   ·exact k9 j h)
 rw [setRow_self w b vs ty (0,0) k3] at R1
 have R2:=R1.reown (.cell k off) (some (.slot d)) (fun t h=>by cases h) (fun i j cs' h hH hj=>by
  cases h
  rw [upd_same] at hH
  cases hH
  simp only [List.getElem_set_self]
  exact AV.noOwn_dem _)
 refine ⟨vs[off],w,{ g with owner:=fun b=>if g.owner b=some (.cell k off) then some (.slot d) else g.owner b },.inl ?_,rfl,rfl,?_⟩
 ·unfold execOp
  simp [ho,hcx,Instr.loadAt,Instr.sureAddr,hrun]
 ·rw [hdst]
  refine R2.put d _ _ hd.1 (.data _ _ (k7 _ hlt hlt')) ?_
  have hh:=k8 off hlt hlt'
  generalize cs[off]=v at hh
  generalize vs[off]=c at hh
  cases v<;>try trivial
  rename_i oo es
  cases oo with
  |view=>trivial
  |nil=>exact hh
  |own e =>
   obtain ⟨i,xs,b,h1,h2,h3,h4,h5⟩:=hh
   refine ⟨i,xs,b,h1,h2,h3,?_,h5⟩
   show (if g.owner b=some (.cell k off) then some (.slot d) else g.owner b)=_
   rw [if_pos h4]
theorem run_sliceBound {x:Value} {i:Int} {y:Nat} {code:BoundsCode} (hx:x = .int .i64 i) (h0:0≤i) (h1:i≤y):(Instr.sliceBound x y code).run P w = .ok i.toNat w:=by
 subst hx
 simp [Instr.sliceBound,asIntOf,h0,h1]
theorem run_bounds (R:Rel P w0 n U g S H a w) {lo hi:Option Operand} {lo' hi':Option Opd} (hlo:optOpd n lo=some lo') (hhi:optOpd n hi=some hi') (hul:∀ y∈lo',∀ t∈y.tmps,¬ U t) (huh:∀ y∈hi',∀ t∈y.tmps,¬ U t)
  {len cap:Nat} (hlc:len≤cap) {p q:Int} (hp:bound (lo'.map (AL.ev S)) 0=some p) (hq:bound (hi'.map (AL.ev S)) len=some q) (h0:0≤p) (h1:p≤q) (h2:q≤len) (sl:Bool) :
  (Instr.sliceBounds sl len cap (lo.map a.eval) (hi.map a.eval) none).run P w = .ok (p.toNat,q.toNat,cap) w:=by
 have hh:∀ code,(match hi.map a.eval with | some v=>Instr.sliceBound v cap code | none=>(pure len:Sem Nat)).run P w = .ok q.toNat w:=by
  intro code
  cases hi with
  |none =>
   cases hhi
   simp only [Option.map_none,bound,Option.some.injEq] at hq
   subst hq
   simp
  |some x =>
   simp only [optOpd,Option.map_eq_some_iff] at hhi
   obtain ⟨y,hy,rfl⟩:=hhi
   have hv:=R.ev hy (huh y rfl)
   simp only [Option.map_some,bound] at hq
   generalize AL.ev S y=v at hq hv
   split at hq<;>simp only [Option.some.injEq,reduceCtorEq] at hq
   ·simp_all
   ·rename_i m hm
    simp only [Option.some.injEq] at hm
    subst hm;subst hq
    simp only [Option.map_some]
    refine run_sliceBound ?_ (by omega) (by omega)
    generalize a.eval x=cx at hv
    cases hv;rename_i hv;cases hv;rfl
 have hl:∀ code,(match lo.map a.eval with | some v=>Instr.sliceBound v q.toNat code | none=>(pure 0:Sem Nat)).run P w = .ok p.toNat w:=by
  intro code
  cases lo with
  |none =>
   cases hlo
   simp only [Option.map_none,bound,Option.some.injEq] at hp
   subst hp
   simp
  |some x =>
   simp only [optOpd,Option.map_eq_some_iff] at hlo
   obtain ⟨y,hy,rfl⟩:=hlo
   have hv:=R.ev hy (hul y rfl)
   simp only [Option.map_some,bound] at hp
   generalize AL.ev S y=v at hp hv
   split at hp<;>simp only [Option.some.injEq,reduceCtorEq] at hp
   ·simp_all
   ·rename_i m hm
    simp only [Option.some.injEq] at hm
    subst hm;subst hp
    simp only [Option.map_some]
    refine run_sliceBound ?_ (by omega) (by omega)
    generalize a.eval x=cx at hv
    cases hv;rename_i hv;cases hv;rfl
 unfold Instr.sliceBounds
 cases hi with
 |none =>
  have h3:=hh .sliceB
  simp only [Option.map_none] at h3 ⊢
  cases lo with
  |none=>have h4:=hl .sliceB;simp only [Option.map_none] at h4 ⊢;simp at h3 h4;simp [h3,h4]
  |some x=>have h4:=hl .sliceB;simp only [Option.map_some] at h4 ⊢;simp at h3;simp [h3,h4]
 |some y =>
  have h3:=fun c=>hh c
  simp only [Option.map_some] at h3 ⊢
  cases lo with
  |none=>have h4:=hl .sliceB;simp only [Option.map_none] at h4 ⊢;simp at h4;simp [h3,h4]
  |some x=>have h4:=hl .sliceB;simp only [Option.map_some] at h4 ⊢;simp [h3,h4]
theorem does_sliceS (R:Rel P w0 n U g S H a w) {o:Oper} {t:TypeId} {x:Operand} {lo hi:Option Operand} {y:Opd} {lo' hi':Option Opd} {e:Eff} (ho:o.op = .slice t x lo hi none) (hd:∀ t,o.dst=some t→t < n∧¬ U t)
  (hun:P.underlying t=some .string) (hx:opd n x=some y) (hu:∀ t∈y.tmps,¬ U t) (hlo:optOpd n lo=some lo') (hhi:optOpd n hi=some hi') (hul:∀ y∈lo',∀ t∈y.tmps,¬ U t) (huh:∀ y∈hi',∀ t∈y.tmps,¬ U t)
  (he:apure S H (.sliceS y lo' hi')=some e):Does P w0 n U g S H a w o e:=by
 have hv:=R.ev hx hu
 simp only [apure] at he
 generalize hev:AL.ev S y=q at he hv
 generalize hcx:a.eval x=c at hv
 cases hv<;>(try cases he;done)
 rename_i h
 cases h<;>simp only at he<;>try cases he
 rename_i l
 split at he
 case h_2=>cases he
 rename_i p q hp hq
 split at he
 case isFalse=>cases he
 rename_i hc
 cases he
 have hb:=run_bounds R hlo hhi hul huh (len:=l.length) (Nat.le_refl _) hp hq hc.1 hc.2.1 hc.2.2 false
 refine Does.val R (fun t h=>(hd t h).1) (c := .string ⟨((l.take q.toNat).drop p.toNat).toArray⟩) ?_ (.data _ _ (.str _)) fun _=>trivial
 have hb':(Instr.sliceBounds false (⟨l.toArray⟩:ByteArray).size (⟨l.toArray⟩:ByteArray).size (lo.map a.eval) (hi.map a.eval) none).run P w = .ok (p.toNat,q.toNat,l.length) w:=hb
 unfold execOp
 simp only [ho,hcx,Instr.sliceAt,Sem.run_bind,run_underlying hun,Result.andThen_ok,Option.map_none,Instr.slice,Option.isSome_none,Bool.false_eq_true,if_false,Sem.run_pure,hb']
 rw [ByteArray.extract_mk,List.drop_take]
theorem does_sliceL (R:Rel P w0 n U g S H a w) {o:Oper} {t el:TypeId} {i:TypeInfo} {x:Operand} {lo hi:Option Operand} {y:Opd} {lo' hi':Option Opd} {e:Eff} (ho:o.op = .slice t x lo hi none) (hd:∀ t,o.dst=some t→t < n∧¬ U t)
  (hun:P.underlying t=some (.slice el)) (hi0:P.info? el=some i) (hx:opd n x=some y) (hu:∀ t∈y.tmps,¬ U t) (hlo:optOpd n lo=some lo') (hhi:optOpd n hi=some hi') (hul:∀ y∈lo',∀ t∈y.tmps,¬ U t) (huh:∀ y∈hi',∀ t∈y.tmps,¬ U t)
  (he:apure S H (.sliceL i.size y lo' hi')=some e):Does P w0 n U g S H a w o e:=by
 have hv:=R.ev hx hu
 simp only [apure] at he
 generalize hev:AL.ev S y=q at he hv
 generalize hcx:a.eval x=c at hv
 cases hv<;>(try cases he;done)
 rename_i h
 have key:∀ (es:List AV) (ad:Option Addr) (cap:Nat),es.length≤cap→c = .slice ad es.length cap→∀ p q:Int,bound (lo'.map (AL.ev S)) 0=some p→bound (hi'.map (AL.ev S)) es.length=some q→0≤p→p≤q→q≤es.length →
   (execOp a.eval o).run P w = .ok (.value (.slice (if cap=p.toNat then ad else ad.map (·.add (p.toNat * i.size))) (q.toNat - p.toNat) (cap - p.toNat))) w:=by
  rintro es ad cap hcap rfl p q hp hq h0 h1 h2
  have hb:=run_bounds R hlo hhi hul huh hcap hp hq h0 h1 h2 true
  unfold execOp
  simp [ho,hcx,Instr.sliceAt,Sem.run_bind,run_underlying hun,Instr.slice,hb,sizeOf,typeInfo,hi0]
 cases h with
 |nils oo =>
  simp only at he
  split at he
  case h_2=>cases he
  rename_i p q hp hq
  split at he
  case isFalse=>cases he
  rename_i hc
  cases he
  have hk:=key [] none 0 (Nat.le_refl _) rfl p q hp hq hc.1 hc.2.1 hc.2.2.1
  have hq0:q.toNat=0:=by have:=hc.2.2.1;simp at this;omega
  have hp0:p.toNat=0:=by have:=hc.2.1;omega
  refine Does.val R (fun t h=>(hd t h).1) hk (.data _ _ ?_) fun _=>trivial
  simp [hq0,hp0]
  exact .nils _
 |emps oo a0 =>
  simp only at he
  split at he
  case h_2=>cases he
  rename_i p q hp hq
  split at he
  case isFalse=>cases he
  rename_i hc
  cases he
  have hk:=key [] (some a0) 0 (Nat.le_refl _) rfl p q hp hq hc.1 hc.2.1 hc.2.2.1
  have hq0:q.toNat=0:=by have:=hc.2.2.1;simp at this;omega
  have hp0:p.toNat=0:=by have:=hc.2.1;omega
  refine Does.val R (fun t h=>(hd t h).1) hk (.data _ _ ?_) fun _=>trivial
  simp [hq0,hp0]
  exact .emps _ _
 |slice oo es b off cap size cs hcap hn0 hsz h1 hcc hr =>
  simp only at he
  split at he
  case h_2=>cases he
  rename_i p q hp hq
  split at he
  case isFalse=>cases he
  rename_i hc
  cases he
  have hk:=key es (some ⟨b,off,none⟩) cap hcap rfl p q hp hq hc.1 hc.2.1 hc.2.2.1
  have hok:=elemsOK_iff.1 hc.2.2.2
  have hlq:q.toNat≤es.length:=by have:=hc.2.2.1;omega
  have hpq:p.toNat≤q.toNat:=by have:=hc.2.1;omega
  have hlen:((es.take q.toNat).drop p.toNat).length=q.toNat - p.toNat:=by simp;omega
  refine Does.val R (fun t h=>(hd t h).1) hk (.data _ _ ?_) fun _=>trivial
  by_cases hm:cap=p.toNat
  ·rw [if_pos hm]
   have hnil:(es.take q.toNat).drop p.toNat=[]:=List.eq_nil_of_length_eq_zero (by omega)
   rw [hnil,show q.toNat - p.toNat=([]:List AV).length by simp;omega]
   exact .slice _ [] b off _ 0 cs (Nat.zero_le _) (fun h=>by cases h) (fun i h=>by simp at h) (fun i h=>by simp at h) (fun k hk=>by simp at hk) (fun i h=>by simp at h)
  ·rw [if_neg hm]
   simp only [Option.map_some,Addr.add_lit]
   rw [← hlen]
   have hget:∀ j (h:j < ((es.take q.toNat).drop p.toNat).length),((es.take q.toNat).drop p.toNat)[j]=es[p.toNat+j]'(by rw [hlen] at h;omega):=by intro j h;simp
   by_cases hes:es=[]
   ·subst hes
    have hnil:(([]:List AV).take q.toNat).drop p.toNat=[]:=by simp
    rw [hnil]
    exact .slice _ [] b _ _ 0 cs (Nat.zero_le _) (fun h=>by cases h) (fun i h=>by simp at h) (fun i h=>by simp at h) (fun k hk=>by simp at hk) (fun i h=>by simp at h)
   ·have hpos:0 < es.length:=List.length_pos_iff.2 hes
    have hss:size=i.size:=by rw [← hsz 0 hpos];exact (hok _ (List.getElem_mem hpos)).2
    subst hss
    refine .slice _ _ b _ _ i.size (fun k=>cs (p.toNat * i.size+k)) (by omega) (fun h=>by cases h) (fun j h=>by rw [hget j h];exact hsz _ _) (fun j h k hk=>by have:=hget j h;simp only [this] at hk ⊢;exact h1 _ _ k hk) (fun k hk => ?_) (fun j h k hk => ?_)
    ·rw [hlen] at hk
     have:p.toNat * i.size+k < es.length * i.size:=by
      calc p.toNat * i.size+k < p.toNat * i.size+(q.toNat - p.toNat) * i.size:=by omega
       _=q.toNat * i.size:=by rw [← Nat.add_mul];congr 1;omega
       _≤es.length * i.size:=Nat.mul_le_mul_right _ hlq
     have:=hcc _ this
     rwa [← Nat.add_assoc] at this
    ·have e:=hget j h
     simp only [e] at hk ⊢
     have:=hr (p.toNat+j) (by rw [hlen] at h;omega) k hk
     rwa [Nat.add_mul,Nat.add_assoc] at this
 |_=>cases he
theorem does_isNil (R:Rel P w0 n U g S H a w) {o:Oper} {neg:Bool} {t t' el:TypeId} {x:Operand} {y:Opd} {e:Eff} (ho:o.op = .binOp (if neg then .neq else .eql) t x (.const (.slice none 0 0)) t') (hd:∀ t,o.dst=some t→t < n∧¬ U t)
  (ht:P.underlying t=some (.slice el)) (hx:opd n x=some y) (hu:∀ t∈y.tmps,¬ U t) (he:apure S H (.isNil neg y)=some e):Does P w0 n U g S H a w o e:=by
 have hv:=R.ev hx hu
 simp only [apure] at he
 generalize hev:AL.ev S y=q at he hv
 generalize hcx:a.eval x=c at hv
 have run:∀ ad l k,c = .slice ad l k→(execOp a.eval o).run P w = .ok (.value (.bool (if neg then !ad.isNone else ad.isNone))) w:=by
  rintro ad l k rfl
  have hg:=run_eqGuard_other (P:=P) (w:=w) (if neg then .neq else .eql) t x (.const (.slice none 0 0)) (.slice ad l k) (.slice none 0 0) rfl
  have hE:(Op.equal t (.slice ad l k) (.slice none 0 0)).run P w = .ok ad.isNone w:=by
   unfold Op.equal Op.maxDepth Op.equalIn
   cases ad<;>simp [run_underlying ht]
  have hev2:a.eval (.const (.slice none 0 0)) = .slice none 0 0:=rfl
  cases neg
  ·simp only [Bool.false_eq_true,if_false] at ho hg ⊢
   simp [execOp,ho,hcx,hev2,hg,binOp,hE]
  ·simp only [if_true] at ho hg ⊢
   simp [execOp,ho,hcx,hev2,hg,binOp,hE]
 cases hv<;>(try cases he;done)
 rename_i h
 cases h<;>simp only at he<;>try cases he
 ·exact Does.val R (fun t h=>(hd t h).1) (run _ _ _ rfl) (.data _ _ (.anyb _)) fun _=>trivial
 ·exact Does.val R (fun t h=>(hd t h).1) (run _ _ _ rfl) (.data _ _ (.anyb _)) fun _=>trivial
 ·rename_i oo es b off cap sz cs hcap hn0 hsz h1 hc hr
  refine Does.val R (fun t h=>(hd t h).1) (run _ _ _ rfl) (.data _ _ ?_) fun _=>by cases es<;>trivial
  cases es
  ·exact .anyb _
  ·simp only [List.isEmpty_cons,Bool.false_eq_true,if_false,Option.isNone_some,Bool.not_false]
   cases neg<;>exact .bool _
theorem does_empty (R:Rel P w0 n U g S H a w) {o:Oper} {t el:TypeId} {i:TypeInfo} {e:Eff} (ho:o.op = .buildSlice t 0 #[]) (hd:∀ t,o.dst=some t→t < n∧¬ U t)
  (hun:P.underlying t=some (.slice el)) (hi:P.info? el=some i) (he:apure S H (.empty el)=some e):Does P w0 n U g S H a w o e:=by
 cases he
 have hb:Below w.heap.size w (w.alloc (.cells #[] el)):=(Below.refl _ _).alloc (Nat.le_refl _) _
 refine ⟨.slice (some ⟨w.heap.size,0,none⟩) 0 0,w.alloc (.cells #[] el),g,.inl ?_,rfl,rfl,(R.grow' hb).putD o.dst _ _ (fun t h=>(hd t h).1) (.data _ _ ?_) fun _ _=>trivial⟩
 ·unfold execOp
  have hz:(Array.map (fun _:Nat=>(default:Value)) (Array.range 0)) = #[]:=Array.eq_empty_of_size_eq_zero (by simp)
  simp [ho,Instr.buildSlice,run_underlying hun,sizeOf,typeInfo,hi,Instr.fill,newRow,hz]
 ·exact .slice _ [] _ 0 0 0 (fun _=>undef) (Nat.zero_le _) (fun _=>rfl) (fun i h=>by simp at h) (fun i h=>by simp at h) (fun k hk=>by simp at hk) (fun i h=>by simp at h)
theorem does_assert (R:Rel P w0 n U g S H a w) {o:Oper} {xt t:TypeId} {dt:TypeDesc} {i:TypeInfo} {z:Value} {zs:List AV} {x:Operand} {y:Opd} {e:Eff} (ho:o.op = .typeAssert x xt t true) (hd:∀ t,o.dst=some t→t < n∧¬ U t)
  (ht:P.underlying t=some dt) (hni:∀ ms,dt ≠ .interface ms) (hi:P.info? t=some i) (hz:i.zero=some (.agg z.cells)) (hzs:constCells z.cells.toList=some zs) (hx:opd n x=some y) (hu:∀ t∈y.tmps,¬ U t)
  (he:apure S H (.assert t (.agg zs) y)=some e):Does P w0 n U g S H a w o e:=by
 have hv:=R.ev hx hu
 simp only [apure] at he
 generalize hev:AL.ev S y=q at he hv
 generalize hcx:a.eval x=c at hv
 have hzr:=(constCells_rds g.Pr w hzs).1
 have hzd:RD g.Pr w (.agg zs) (.agg z.cells) := .agg _ _ (by simpa using hzr.1) hzr.2.2 (fun i h h'=>by simpa using hzr.2.1 i h (by simpa using h'))
 have two:∀ (v:AV) (c:Value) (b:Bool),RD g.Pr w v c→RD g.Pr w (.tup [v,.bool b]) (.tuple #[c,.bool b]):=by
  intro v c b h
  refine .tup _ _ rfl fun i hi hi' => ?_
  match i,hi with
  |0,_=>exact h
  |1,_=>exact .bool b
 cases hv<;>(try cases he;done)
 rename_i h
 cases h<;>simp only at he<;>try cases he
 ·rename_i t' v c' h
  refine Does.val R (fun t h=>(hd t h).1) (c:=if t'=t then .tuple #[c',.bool true] else .tuple #[.agg z.cells,.bool false]) ?_ (.data _ _ ?_) fun _=>by split<;>trivial
  ·unfold execOp
   simp only [ho,hcx,Instr.typeAssert,Sem.run_bind,run_underlying ht,Result.andThen_ok]
   cases dt<;>first | exact absurd rfl (hni _) | skip
   all_goals (split<;>simp [zeroValue,typeInfo,hi,hz])
  ·split
   ·exact two _ _ _ h
   ·exact two _ _ _ hzd
 ·refine Does.val R (fun t h=>(hd t h).1) (c := .tuple #[.agg z.cells,.bool false]) ?_ (.data _ _ (two _ _ _ hzd)) fun _=>trivial
  unfold execOp
  simp only [ho,hcx,Instr.typeAssert,Sem.run_bind,run_underlying ht,Result.andThen_ok]
  cases dt<;>first | exact absurd rfl (hni _) | skip
  all_goals simp [zeroValue,typeInfo,hi,hz]
end
end Go.AL
namespace Go.AL
open Go.RowKit
def flatFs (k:TypeId→Option Nat):List Field→Nat→Option Nat
 |[],acc=>some acc
 |f::fs,acc=>if f.name = "_" ∨ f.offset≠acc then none else
  match k f.type with
  |some m=>flatFs k fs (acc+m)
  |none=>none
def flatI (P:Program):Nat→TypeId→Option Nat
 |0,_=>none
 |d+1,t=>match P.underlying t,P.info? t with
  |some (.int .i64),some i=>if i.size=1 then some 1 else none
  |some (.struct fs),some i=>if P.stoodInHeld t=false∧flatFs (flatI P d) fs.toList 0=some i.size then some i.size else none
  |_,_=>none
def intsV (l:List Int):Array Value:=(l.map (Value.int .i64)).toArray
def encI (P:Program) (t:TypeId) (l:List Int):Value :=
 match P.underlying t with
 |some (.int _) => .int .i64 (l.headD 0)
 |_ => .agg (intsV l)
section
variable {P:Program} {w:World}
theorem part_enc {d:Nat} {t:TypeId} {k:Nat} (h:flatI P d t=some k) (l:List Int) (off:Nat) (hl:off+k≤l.length) :
  (part t (intsV l) off).run P w = .ok (encI P t ((l.drop off).take k)) w:=by
 cases d with
 |zero=>cases h
 |succ d =>
  simp only [flatI] at h
  split at h
  ·rename_i i hu hi
   split at h<;>cases h
   rename_i hs
   have hagg:(isAgg t).run P w = .ok false w:=by
    unfold isAgg
    rw [Sem.run_bind,run_underlying hu w];simp
   have hlt:off < l.length:=by omega
   have hhd:((l.drop off).take 1).headD 0=l[off]:=by
    rw [List.drop_eq_getElem_cons hlt];rfl
   simp only [part,Sem.run_bind,hagg,Result.andThen_ok,Bool.false_eq_true,if_false,encI,hu,hhd]
   simp [intsV,hlt]
  ·rename_i fs i hu hi
   split at h<;>cases h
   have hagg:(isAgg t).run P w = .ok true w:=by
    unfold isAgg
    rw [Sem.run_bind,run_underlying hu w];simp
   simp only [part,Sem.run_bind,hagg,Result.andThen_ok,if_true,encI,hu]
   simp only [sizeOf,typeInfo,Sem.run_bind]
   simp [intsV,List.map_take,List.map_drop,hi]
  ·cases h
theorem beq_split (a b:List Int) (k:Nat) (h:a.length=b.length):(a==b)=((a.take k==b.take k) && (a.drop k==b.drop k)):=by
 rw [Bool.eq_iff_iff]
 simp only [Bool.and_eq_true,beq_iff_eq]
 constructor
 ·rintro rfl;exact ⟨rfl,rfl⟩
 ·rintro ⟨h1,h2⟩;rw [← List.take_append_drop k a,← List.take_append_drop k b,h1,h2]
theorem flat_fields {d:Nat} (ih:∀ t k,flatI P d t=some k→∀ a b:List Int,a.length=k→b.length=k→(Op.equalIn d t (encI P t a) (encI P t b)).run P w = .ok (a==b) w) :
  ∀ (fs:List Field) (acc tot:Nat),flatFs (flatI P d) fs acc=some tot→∀ l m:List Int,l.length=tot→m.length=tot →
   acc≤tot∧(Op.eqFields d (intsV l) (intsV m) fs).run P w = .ok (l.drop acc==m.drop acc) w
 |[],acc,tot,h,l,m,hl,hm=>by
  cases h
  refine ⟨Nat.le_refl _,?_⟩
  have e1:l.drop acc=[]:=List.drop_eq_nil_of_le (by omega)
  have e2:m.drop acc=[]:=List.drop_eq_nil_of_le (by omega)
  rw [e1,e2]
  simp [Op.eqFields]
 |f::fs,acc,tot,h,l,m,hl,hm=>by
  simp only [flatFs] at h
  split at h
  case isTrue=>cases h
  rename_i hn
  simp only [not_or,ne_eq,Classical.not_not] at hn
  split at h
  case h_2=>cases h
  rename_i k hk
  obtain ⟨hle,hrec⟩:=flat_fields ih fs (acc+k) tot h l m hl hm
  refine ⟨by omega,?_⟩
  have e1:=part_enc (w:=w) hk l acc (by omega)
  have e2:=part_enc (w:=w) hk m acc (by omega)
  have e3:=ih f.type k hk ((l.drop acc).take k) ((m.drop acc).take k) (by simp;omega) (by simp;omega)
  simp only [Op.eqFields,ne_eq,hn.1,not_false_eq_true,if_true,hn.2,Sem.run_bind,e1,e2,Result.andThen_ok,e3]
  rw [beq_split (l.drop acc) (m.drop acc) k (by simp;omega)]
  rw [List.drop_drop,List.drop_drop]
  generalize ((l.drop acc).take k==(m.drop acc).take k)=q
  cases q with
  |false=>simp
  |true=>simpa using hrec
theorem flat_equal:∀ (d:Nat) (t:TypeId) (k:Nat),flatI P d t=some k→∀ a b:List Int,a.length=k→b.length=k→(Op.equalIn d t (encI P t a) (encI P t b)).run P w = .ok (a==b) w
 |0,t,k,h,a,b,ha,hb=>by cases h
 |d+1,t,k,h,a,b,ha,hb=>by
  simp only [flatI] at h
  split at h
  ·rename_i i hu hi
   split at h<;>cases h
   match a,ha,b,hb with
   |[x],_,[y],_ =>
    simp only [encI,hu]
    rw [run_equalIn_int w d t .i64 .i64 _ _ hu]
    simp
  ·rename_i fs i hu hi
   split at h<;>cases h
   rename_i hc
   have hf:P.fieldsOf t=fs:=by simp [Program.fieldsOf,hu]
   simp only [encI,hu]
   rw [run_equalIn_struct w d t _ _ (by rw [hf];exact hu) hc.1,hf]
   exact (flat_fields (flat_equal d) fs.toList 0 i.size hc.2 a b ha hb).2
  ·cases h
theorem intsOf_rd {Pr:Nat→Nat→Prop}:∀ {xs:List AV} {a:List Int},intsOf xs=some a→∀ {vs:List Value},xs.length=vs.length →
  (∀ i (h:i < xs.length) (h':i < vs.length),RD Pr w xs[i] vs[i])→vs=a.map (Value.int .i64)∧a.length=xs.length
 |[],a,h,vs,hl,hr=>by
  cases h
  have:vs=[]:=List.length_eq_zero_iff.1 hl.symm
  subst this;exact ⟨rfl,rfl⟩
 |x::xs,a,h,vs,hl,hr=>by
  cases vs with
  |nil=>simp at hl
  |cons v vs =>
   unfold intsOf at h
   split at h
   ·rename_i e;cases e
   ·rename_i n cs e
    cases e
    simp only [Option.map_eq_some_iff] at h
    obtain ⟨a',ha,rfl⟩:=h
    have h0:=hr 0 (by simp) (by simp)
    simp only [List.getElem_cons_zero] at h0
    cases h0
    obtain ⟨h1,h2⟩:=intsOf_rd ha (by simpa using hl) (fun i h h'=>hr (i+1) (by simpa using h) (by simpa using h'))
    rw [h1];exact ⟨rfl,by simp [h2]⟩
   ·cases h
variable {w0:World} {n:Nat} {U:Nat→Prop} {g:Gh} {S:Slots} {H:Boxes} {a:Act}
theorem does_eqs (R:Rel P w0 n U g S H a w) {o:Oper} {neg:Bool} {k:Nat} {t t':TypeId} {fs:Array Field} {x1 x2:Operand} {y1 y2:Opd} {e:Eff} (ho:o.op = .binOp (if neg then .neq else .eql) t x1 x2 t') (hd:∀ t,o.dst=some t→t < n∧¬ U t)
  (hun:P.underlying t=some (.struct fs)) (hk:flatI P 10000 t=some k) (hgd:P.eqGuardType P.depth t=false) (hx1:opd n x1=some y1) (hx2:opd n x2=some y2) (hu1:∀ t∈y1.tmps,¬ U t) (hu2:∀ t∈y2.tmps,¬ U t)
  (he:apure S H (.eqs neg k y1 y2)=some e):Does P w0 n U g S H a w o e:=by
 have hv1:=R.ev hx1 hu1
 have hv2:=R.ev hx2 hu2
 simp only [apure] at he
 generalize AL.ev S y1=p1 at he hv1
 generalize AL.ev S y2=p2 at he hv2
 generalize hc1:a.eval x1=c1 at hv1
 generalize hc2:a.eval x2=c2 at hv2
 split at he
 case h_2=>cases he
 rename_i xs ys
 split at he
 case h_2=>cases he
 rename_i as bs ha hb
 split at he<;>cases he
 rename_i hlen
 have q1:=hv1.toData rfl
 have q2:=hv2.toData rfl
 cases q1
 rename_i vs hl h1 hr
 cases q2
 rename_i us hl' h1' hr'
 obtain ⟨e1,_⟩:=intsOf_rd (vs:=vs.toList) ha (by simpa using hl) (fun i h h'=>by simpa using hr i h (by simpa using h'))
 obtain ⟨e2,_⟩:=intsOf_rd (vs:=us.toList) hb (by simpa using hl') (fun i h h'=>by simpa using hr' i h (by simpa using h'))
 have f1:vs=intsV as:=by rw [intsV,← e1]
 have f2:us=intsV bs:=by rw [intsV,← e2]
 subst f1 f2
 have hE:=flat_equal (P:=P) (w:=w) 10000 t k hk as bs hlen.1 hlen.2
 simp only [encI,hun] at hE
 have hg:=run_eqGuard_agg w (if neg then .neq else .eql) t x1 x2 (intsV as) (intsV bs) hgd
 refine Does.val R (fun t h=>(hd t h).1) (c := .bool (if neg then as != bs else as==bs)) ?_ (.data _ _ (.bool _)) fun _=>trivial
 cases neg with
 |true =>
  simp only [if_true] at ho hg ⊢
  simp [execOp,ho,hc1,hc2,hg,run_neq_struct,hE,bne,Sem.run_bind]
 |false =>
  simp only [Bool.false_eq_true,if_false] at ho hg ⊢
  simp [execOp,ho,hc1,hc2,hg,run_eql_struct,hE,Sem.run_bind]
end
end Go.AL
namespace Go.AL
open Go.RowKit
section
variable {P:Program} {w0:World} {n:Nat} {U:Nat→Prop} {g:Gh} {S:Slots} {H:Boxes} {a:Act} {w:World}
theorem does_buildA (R:Rel P w0 n U g S H a w) {o:Oper} {t el:TypeId} {len:Nat} {it ie:TypeInfo} {z:Value} {ps:Array (Nat×Operand)} {zs:List AV} {qs:List (Nat×Nat×Opd)} {e:Eff} (ho:o.op = .build t ps) (hd:∀ t,o.dst=some t→t < n∧¬ U t)
  (hi:P.info? t=some it) (hun:P.underlying t=some (.array len el)) (hz:it.zero=some z) (hie:P.info? el=some ie) (hzs:constCells z.cells.toList=some zs) (hq:bparts n (fun i=>some (i * ie.size,ie.size)) ps.toList=some qs)
  (hu:∀ q∈qs,∀ t∈q.2.2.tmps,¬ U t) (he:apure S H (.build (zs.map AV.dem) qs)=some e):Does P w0 n U g S H a w o e:=by
 simp only [apure,Option.map_eq_some_iff] at he
 obtain ⟨cs',hc,rfl⟩:=he
 have hz0:=(constCells_rds g.Pr w hzs).1
 have hz1:RDs g.Pr w (zs.map AV.dem) z.cells:=by
  refine ⟨by simpa using hz0.1,fun i h h' => ?_,fun i h => ?_⟩
  ·simp only [List.length_map] at h
   have:=(hz0.2.1 i h (by simpa using h')).dem
   simpa using this
  ·simp only [List.length_map] at h
   have:=hz0.2.2 i h
   simp only [List.getElem_map]
   exact (AV.one_dem _).trans this
 obtain ⟨vs',h1,h2⟩:=fill_sound R hq hu hz1 hc
 have hb:P.built t (ps.map fun (i,x)=>(i,a.eval x)).toList=some vs':=by
  unfold Program.built
  simp only [hi,hun,hz,hie,Array.toList_map]
  exact h1
 refine Does.val R (fun t h=>(hd t h).1) (c := .agg vs') ?_ (.data _ _ (.agg _ _ h2.1 h2.2.2 h2.2.1)) fun _=>trivial
 unfold execOp
 simp only [ho,Sem.run_bind,run_build w t _ vs' hb,Result.andThen_ok]
 rfl
theorem part_sound {Pr:Nat→Nat→Prop} {ty:TypeId} {i:TypeInfo} {dsc:TypeDesc} (hi:P.info? ty=some i) (hu:P.underlying ty=some dsc) {cs:List AV} {vs:Array Value} {off:Nat} {v:AV}
  (hr:RD Pr w (.agg cs) (.agg vs)) (he:loadA (aggT dsc) i.size (cs.drop off)=some v):∃ c,(part ty vs off).run P w = .ok c w∧RD Pr w v c:=by
 cases hr
 rename_i h1 hl hr
 have hagg:(isAgg ty).run P w = .ok (aggT dsc) w:=by
  unfold isAgg
  rw [Sem.run_bind,run_underlying hu w]
  cases dsc<;>simp [aggT]
 generalize aggT dsc=q at he hagg
 cases q with
 |true =>
  simp only [loadA,if_true,List.length_drop] at he
  split at he
  case isFalse=>cases he
  rename_i hle
  cases he
  refine ⟨.agg (vs.extract off (off+i.size)),by simp [part,Sem.run_bind,hagg,sizeOf,typeInfo,hi],?_⟩
  refine .agg _ _ (by simp;omega) (fun k hk => ?_) fun k hk hk' => ?_
  ·simp only [List.length_map,List.length_take,List.length_drop] at hk
   simp only [List.getElem_map,List.getElem_take,List.getElem_drop]
   have:=h1 (off+k) (by omega)
   exact (AV.one_dem _).trans this
  ·simp only [List.length_map,List.length_take,List.length_drop] at hk
   have:=(hr (off+k) (by omega) (by omega)).dem
   simpa using this
 |false =>
  simp only [loadA,Bool.false_eq_true,if_false,Option.map_eq_some_iff] at he
  obtain ⟨v0,hv0,rfl⟩:=he
  simp only [List.getElem?_drop,Nat.add_zero] at hv0
  obtain ⟨h0,rfl⟩:=List.getElem?_eq_some_iff.1 hv0
  have hv:off < vs.size:=by omega
  exact ⟨vs[off],by simp [part,Sem.run_bind,hagg,hv],(hr off h0 hv).dem⟩
theorem does_indexA (R:Rel P w0 n U g S H a w) {o:Oper} {t el:TypeId} {len:Nat} {ie:TypeInfo} {dsc:TypeDesc} {x1 x2:Operand} {y1 y2:Opd} {e:Eff} (ho:o.op = .index t x1 x2) (hd:∀ t,o.dst=some t→t < n∧¬ U t)
  (hun:P.underlying t=some (.array len el)) (hi:P.info? el=some ie) (hue:P.underlying el=some dsc) (hx1:opd n x1=some y1) (hx2:opd n x2=some y2) (hu1:∀ t∈y1.tmps,¬ U t) (hu2:∀ t∈y2.tmps,¬ U t)
  (he:apure S H (.indexA (aggT dsc) len ie.size y1 y2)=some e):Does P w0 n U g S H a w o e:=by
 have hv1:=R.ev hx1 hu1
 have hv2:=R.ev hx2 hu2
 simp only [apure] at he
 generalize AL.ev S y1=p1 at he hv1
 generalize AL.ev S y2=p2 at he hv2
 generalize hc1:a.eval x1=c1 at hv1
 generalize hc2:a.eval x2=c2 at hv2
 split at he
 case h_2=>cases he
 rename_i cs k
 split at he
 case isFalse=>cases he
 rename_i hk
 simp only [Option.map_eq_some_iff] at he
 obtain ⟨v,hv,rfl⟩:=he
 have q1:=hv1.toData rfl
 have q2:=hv2.toData rfl
 cases q2
 have q1':=q1
 cases q1
 obtain ⟨c,h1,h2⟩:=part_sound (P:=P) hi hue q1' hv
 refine Does.val R (fun t h=>(hd t h).1) (c:=c) ?_ (.data _ _ h2) fun _ => ?_
 ·simp only [execOp,ho,hc1,hc2,Instr.index,Sem.run_bind]
  simp [asIntOf,run_underlying hun,hk,sizeOf,typeInfo,hi,Sem.run_bind,h1]
 ·simp only [loadA] at hv
  split at hv
  ·split at hv<;>cases hv;trivial
  ·simp only [Option.map_eq_some_iff] at hv
   obtain ⟨u,_,rfl⟩:=hv
   exact ownAt_dem _ _ _
theorem bytesOf_rd {Pr:Nat→Nat→Prop}:∀ {es:List AV} {l:List UInt8},bytesOf es=some l→l.length=es.length∧∀ j (h:j < es.length) (h':j < l.length),es[j] = .int .u8 (l[j].toNat:Int)
 |[],l,h=>by cases h;exact ⟨rfl,fun j h=>by simp at h⟩
 |x::es,l,h=>by
  unfold bytesOf at h
  split at h
  ·rename_i e;cases e
  ·rename_i m cs e
   cases e
   split at h
   case isFalse=>cases h
   rename_i hm
   simp only [Option.map_eq_some_iff] at h
   obtain ⟨l',hl,rfl⟩:=h
   obtain ⟨h1,h2⟩:=bytesOf_rd (Pr:=Pr) hl
   refine ⟨by simp [h1],fun j hj hj' => ?_⟩
   cases j with
   |zero =>
    simp only [List.getElem_cons_zero]
    have:((UInt8.ofNat m.toNat).toNat:Int)=m:=by
     have h3:m.toNat < 256:=by omega
     simp [UInt8.toNat_ofNat',Nat.mod_eq_of_lt h3];omega
    rw [this]
   |succ j=>simpa using h2 j (by simpa using hj) (by simpa using hj')
  ·cases h
theorem does_bstr (R:Rel P w0 n U g S H a w) {o:Oper} {s d el:TypeId} {x:Operand} {y:Opd} {e:Eff} (ho:o.op = .convert s d x) (hd:∀ t,o.dst=some t→t < n∧¬ U t)
  (hs:P.underlying s=some (.slice el)) (hel:P.underlying el=some (.int .u8)) (hdd:P.underlying d=some .string) (hx:opd n x=some y) (hu:∀ t∈y.tmps,¬ U t)
  (he:apure S H (.bstr y)=some e):Does P w0 n U g S H a w o e:=by
 have hv:=R.ev hx hu
 simp only [apure] at he
 generalize AL.ev S y=p at he hv
 generalize hc:a.eval x=c at hv
 split at he
 case h_2=>cases he
 rename_i ow es
 simp only [Option.map_eq_some_iff] at he
 obtain ⟨l,hl,rfl⟩:=he
 obtain ⟨hlen,hget⟩:=bytesOf_rd (Pr:=g.Pr) hl
 have q:=hv.toData rfl
 cases q with
 |nils =>
  have:l=[]:=List.length_eq_zero_iff.1 (by simpa using hlen)
  subst this
  refine Does.val R (fun t h=>(hd t h).1) (c := .string ByteArray.empty) ?_ (.data _ _ (.str [])) fun _=>trivial
  simp [execOp,ho,hc,run_convert_bytes_nil w s el hs hel 0 0 d hdd]
 |emps _ a0 =>
  have:l=[]:=List.length_eq_zero_iff.1 (by simpa using hlen)
  subst this
  refine Does.val R (fun t h=>(hd t h).1) (c := .string ByteArray.empty) ?_ (.data _ _ (.str [])) fun _=>trivial
  have hcv:(convert s d (.slice (some a0) 0 0)).run P w = .ok (.string ByteArray.empty) w:=by
   rw [run_convert_bytes_string w s d el _ 0 0 hs hel hdd]
   simp [Conv.bytesToString,loadCells,loadCellsFrom]
  simp [execOp,ho,hc,hcv]
 |slice _ _ b off cap size cs hcap hn0 hsz h1 hcell hr =>
  refine Does.val R (fun t h=>(hd t h).1) (c := .string ⟨l.toArray⟩) ?_ (.data _ _ (.str l)) fun _=>trivial
  have hcv:=run_convert_bytes_back (P:=P) w s d el ⟨b,off,none⟩ cap l hs hel hdd (fun j hj=>by
   have hj':j < es.length:=by omega
   have e1:=hget j hj' hj
   have hs1:=hsz j hj'
   have hcl:(es[j]).cells.length=1:=by rw [e1];rfl
   have hsz1:size=1:=by rw [← hs1,hcl]
   subst hsz1
   have h2:=hcell j (by omega)
   have h3:=hr j hj' 0 (by rw [hcl];omega)
   have h4:(es[j]).cells[0]'(by rw [hcl];omega) = .int .u8 (l[j].toNat:Int):=by
    have:∀ (v:AV) (hh:0 < v.cells.length) (q:AV),v=q→(h':0 < q.cells.length)→v.cells[0]=q.cells[0]:=by rintro v hh q rfl _;rfl
    rw [this _ _ _ e1 (by simp [AV.cells])]
    rfl
   rw [h4] at h3
   simp only [Nat.mul_one,Nat.add_zero] at h3
   rw [Addr.add_lit,h2.2]
   generalize cs j=u at h3
   cases h3
   rfl)
  rw [hlen] at hcv
  simp [execOp,ho,hc,hcv]
end
end Go.AL
namespace Go.AL
open Go.RowKit
section
variable {P:Program} {w:World}
theorem run_forIn_unit {α:Type} (f:α→PUnit→Sem (ForInStep PUnit)):∀ (l:List α),(∀ x∈l,(f x PUnit.unit).run P w = .ok (ForInStep.yield PUnit.unit) w)→(forIn l PUnit.unit f:Sem PUnit).run P w = .ok PUnit.unit w
 |[],_=>by simp
 |x::l,h=>by
  simp only [List.forIn_cons,Sem.run_bind,h x List.mem_cons_self,Result.andThen_ok]
  exact run_forIn_unit f l fun y hy=>h y (List.mem_cons_of_mem _ hy)
theorem flatFs_mem {k:TypeId→Option Nat}:∀ {fs:List Field} {acc tot:Nat},flatFs k fs acc=some tot→acc≤tot∧∀ f∈fs,∃ m,k f.type=some m∧f.offset+m≤tot
 |[],acc,tot,h=>by cases h;exact ⟨Nat.le_refl _,fun _ h=>by cases h⟩
 |f::fs,acc,tot,h=>by
  simp only [flatFs] at h
  split at h
  case isTrue=>cases h
  rename_i hn
  simp only [not_or,ne_eq,Classical.not_not] at hn
  split at h
  case h_2=>cases h
  rename_i m hm
  obtain ⟨h1,h2⟩:=flatFs_mem h
  refine ⟨by omega,fun f' hf' => ?_⟩
  rcases List.mem_cons.1 hf' with rfl | hf'
  ·exact ⟨m,hm,by omega⟩
  ·exact h2 f' hf'
theorem flat_check (b:Bool):∀ (d:Nat) (t:TypeId) (k:Nat),flatI P d t=some k→∀ a:List Int,a.length=k→(Instr.checkKey b d t (encI P t a)).run P w = .ok () w
 |0,t,k,h,a,ha=>by cases h
 |d+1,t,k,h,a,ha=>by
  simp only [flatI] at h
  split at h
  ·rename_i i hu hi
   simp [Instr.checkKey,run_underlying hu,encI,hu]
  ·rename_i fs i hu hi
   split at h<;>cases h
   rename_i hc
   obtain ⟨_,hm⟩:=flatFs_mem hc.2
   simp only [Instr.checkKey,Sem.run_bind,run_underlying hu,Result.andThen_ok,encI,hu]
   rw [← Array.forIn_toList]
   rw [run_forIn_unit (P:=P) (w:=w)]
   ·simp
   ·intro f hf
    obtain ⟨m,h1,h2⟩:=hm f hf
    rw [Sem.run_ite]
    split
    ·simp only [Sem.run_bind,part_enc (w:=w) h1 a f.offset (by omega),Result.andThen_ok,flat_check b d f.type m h1 ((a.drop f.offset).take m) (by simp;omega),Sem.run_pure]
    ·simp
  ·cases h
theorem run_findAsking_ints {kt:TypeId} {fs:Array Field} {k:Nat} (hu:P.underlying kt=some (.struct fs)) (hk:flatI P 10000 kt=some k) {Pr:Nat→Nat→Prop} (key:List Int) (hl:key.length=k) :
  ∀ (ks vs:List AV) (es:List MapEntry) (i:Nat) (r:Option AV),ks.length=es.length→vs.length=es.length→(∀ j (h:j < ks.length) (h':j < es.length),RD Pr w ks[j] (es[j]).key)→(∀ j (h:j < vs.length) (h':j < es.length),RD Pr w vs[j] (es[j]).val) →
   lookA key ks vs=some r→∃ q,(Instr.findAsking kt (.agg (intsV key)) es i).run P w = .ok q w∧(match r,q with
    |none,none=>True
    |some v,some (_,c)=>RD Pr w v c
    |_,_=>False)
 |[],vs,es,i,r,h1,h2,_,_,h=>by
  have:es=[]:=List.length_eq_zero_iff.1 h1.symm
  subst this
  cases h
  exact ⟨none,by simp [Instr.findAsking],trivial⟩
 |kk::ks,vs,[],i,r,h1,_,_,_,_=>by simp at h1
 |kk::ks,[],e::es,i,r,_,h2,_,_,_=>by simp at h2
 |kk::ks,v::vs,e::es,i,r,h1,h2,hr,hr',h=>by
  unfold lookA at h
  split at h
  ·rename_i e1;cases e1
  ·rename_i c ks' v' vs' e1 e2
   cases e1;cases e2
   split at h
   case h_2=>cases h
   rename_i m hm
   split at h
   case isTrue=>cases h
   rename_i hml
   simp only [ne_eq,Classical.not_not] at hml
   have h0:=hr 0 (by simp) (by simp)
   simp only [List.getElem_cons_zero] at h0
   have h0':=h0
   generalize hek:e.key=ek at h0
   cases h0
   rename_i us h3 h4 h5
   obtain ⟨e3,_⟩:=intsOf_rd (vs:=us.toList) hm (by simpa using h3) (fun i h h'=>by simpa using h5 i h (by simpa using h'))
   have f1:us=intsV m:=by rw [intsV,← e3]
   have hE:=flat_equal (P:=P) (w:=w) 10000 kt k hk key m hl (by omega)
   simp only [encI,hu] at hE
   rw [← f1] at hE
   have hE':(Op.equal kt (.agg (intsV key)) e.key).run P w = .ok (key==m) w:=by rw [hek];exact hE
   split at h
   ·rename_i hb
    cases h
    exact ⟨some (i,e.val),by simp [Instr.findAsking,hE',hb],hr' 0 (by simp) (by simp)⟩
   ·rename_i hb
    obtain ⟨q,q1,q2⟩:=run_findAsking_ints hu hk key hl ks vs es (i+1) r (by simpa using h1) (by simpa using h2) (fun j h h'=>hr (j+1) (by simpa using h) (by simpa using h')) (fun j h h'=>hr' (j+1) (by simpa using h) (by simpa using h')) h
    exact ⟨q,by simp [Instr.findAsking,hE',hb,q1],q2⟩
  ·cases h
variable {w0:World} {n:Nat} {U:Nat→Prop} {g:Gh} {S:Slots} {H:Boxes} {a:Act}
theorem does_lookup (R:Rel P w0 n U g S H a w) {o:Oper} {t kt el:TypeId} {fs:Array Field} {k:Nat} {ie:TypeInfo} {z:Value} {zs:List AV} {x1 x2:Operand} {y1 y2:Opd} {e:Eff} (ho:o.op = .lookup t x1 x2 true) (hd:∀ t,o.dst=some t→t < n∧¬ U t)
  (hun:P.underlying t=some (.map kt el)) (hu:P.underlying kt=some (.struct fs)) (hk:flatI P 10000 kt=some k) (hi:P.info? el=some ie) (hz:ie.zero=some (.agg z.cells)) (hzs:constCells z.cells.toList=some zs)
  (hx1:opd n x1=some y1) (hx2:opd n x2=some y2) (hu1:∀ t∈y1.tmps,¬ U t) (hu2:∀ t∈y2.tmps,¬ U t)
  (he:apure S H (.lookup k (.agg zs) y1 y2)=some e):Does P w0 n U g S H a w o e:=by
 have hv1:=R.ev hx1 hu1
 have hv2:=R.ev hx2 hu2
 simp only [apure] at he
 generalize AL.ev S y1=p1 at he hv1
 generalize AL.ev S y2=p2 at he hv2
 generalize hc1:a.eval x1=c1 at hv1
 generalize hc2:a.eval x2=c2 at hv2
 have hzr:=(constCells_rds g.Pr w hzs).1
 have hzd:RD g.Pr w (.agg zs) (.agg z.cells) := .agg _ _ (by simpa using hzr.1) hzr.2.2 (fun i h h'=>by simpa using hzr.2.1 i h (by simpa using h'))
 have two:∀ (v:AV) (c:Value) (b:Bool),RD g.Pr w v c→RD g.Pr w (.tup [v,.bool b]) (.tuple #[c,.bool b]):=by
  intro v c b h
  refine .tup _ _ rfl fun i hi hi' => ?_
  match i,hi with
  |0,_=>exact h
  |1,_=>exact .bool b
 split at he
 case h_2=>cases he
 rename_i ks vs c
 split at he
 case h_2=>cases he
 rename_i key hkey
 split at he
 case isFalse=>cases he
 rename_i hl
 have q2:=hv2.toData rfl
 cases q2
 rename_i us h3 h4 h5
 obtain ⟨e3,_⟩:=intsOf_rd (vs:=us.toList) hkey (by simpa using h3) (fun i h h'=>by simpa using h5 i h (by simpa using h'))
 have f1:us=intsV key:=by rw [intsV,← e3]
 subst f1
 have hwide:(match P.underlying kt with | some (.array _ _) | some (.struct _)=>true | _=>false)=true:=by rw [hu]
 have q1:=hv1.toData rfl
 obtain ⟨es,hes,hk1,hk2,hk3,hk4⟩:∃ es:Array MapEntry,(∀ K:Array MapEntry→Sem Value,((do
    let es ← match c1 with
     |.map none=>pure #[]
     |.map (some r)=>do
      let .map es _ ← getObj r | stuck "Lookup: map expected"
      pure es
     |_=>stuck "Lookup: map expected"
    K es):Sem Value).run P w=(K es).run P w)∧ks.length=es.size∧vs.length=es.size∧(∀ j (h:j < ks.length) (h':j < es.size),RD g.Pr w ks[j] (es[j]).key)∧(∀ j (h:j < vs.length) (h':j < es.size),RD g.Pr w vs[j] (es[j]).val):=by
  cases q1 with
  |map _ _ b es clock hb hm hk hv hr hr' =>
   exact ⟨es,fun K=>by simp [Sem.run_bind,MapKept.run_getObj_map hm],hk,hv,hr,hr'⟩
  |nilm=>exact ⟨#[],fun K=>by simp,rfl,rfl,fun j h=>by simp at h,fun j h=>by simp at h⟩
 have hchk:=flat_check (P:=P) (w:=w) es.isEmpty 10000 kt k hk key hl
 simp only [encI,hu] at hchk
 have main:∀ r,lookA key ks vs=some r→(execOp a.eval o).run P w = .ok (.value (match r with | some _ => .tuple #[(match (Instr.findAsking kt (.agg (intsV key)) es.toList 0).run P w with | .ok (some (_,c)) _=>c | _=>undef),.bool true] | none => .tuple #[.agg z.cells,.bool false])) w ∧
   (∀ v,r=some v→RD g.Pr w v (match (Instr.findAsking kt (.agg (intsV key)) es.toList 0).run P w with | .ok (some (_,c)) _=>c | _=>undef)):=by
  intro r hr
  obtain ⟨q,q1,q2⟩:=run_findAsking_ints (w:=w) (Pr:=g.Pr) hu hk key hl ks vs es.toList 0 r (by simpa using hk1) (by simpa using hk2) (fun j h h'=>by simpa using hk3 j h (by simpa using h')) (fun j h h'=>by simpa using hk4 j h (by simpa using h')) hr
  have hfind:=(run_findKey_eq (P:=P) (w:=w) hwide (.agg (intsV key)) es.toList).trans q1
  have hrun:(Instr.lookup t c1 (.agg (intsV key)) true).run P w = .ok (match q with | some (_,v) => .tuple #[v,.bool true] | none => .tuple #[.agg z.cells,.bool false]) w:=by
   unfold Instr.lookup
   simp only [Sem.run_bind,run_underlying hun,Result.andThen_ok]
   have:=hes (fun es=>do
    Instr.checkKey es.isEmpty 10000 kt (.agg (intsV key))
    let (v,ok) ← match ← Instr.findKey kt (.agg (intsV key)) es.toList with
     |some (_,v)=>pure (v,true)
     |none=>pure (← zeroValue el,false)
    pure (if true=true then .tuple #[v,.bool ok] else v))
   simp only [Sem.run_bind] at this
   refine this.trans ?_
   simp only [hchk,Result.andThen_ok,hfind]
   cases q with
   |none=>simp [zeroValue,typeInfo,hi,hz]
   |some p=>simp
  refine ⟨?_,?_⟩
  ·unfold execOp
   simp only [ho,hc1,hc2,Sem.run_bind,hrun,Result.andThen_ok,q1]
   cases r<;>cases q<;>first | exact q2.elim | rfl
  ·rintro v rfl
   rw [q1]
   cases q with
   |none=>exact q2.elim
   |some p=>exact q2
 split at he
 ·rename_i v hv
  cases he
  obtain ⟨m1,m2⟩:=main _ hv
  exact Does.val R (fun t h=>(hd t h).1) m1 (.data _ _ (two _ _ _ (m2 v rfl).dem)) fun _=>trivial
 ·rename_i hv
  cases he
  obtain ⟨m1,m2⟩:=main _ hv
  exact Does.val R (fun t h=>(hd t h).1) m1 (.data _ _ (two _ _ _ hzd)) fun _=>trivial
 ·cases he
end
end Go.AL
namespace Go.AL
open Go.RowKit
section
variable {P:Program} {w0:World} {n:Nat} {U:Nat→Prop} {g:Gh} {S:Slots} {H:Boxes} {a:Act} {w:World}
theorem fn_cells {Pr:Nat→Nat→Prop} {al:Nat→Option Nat} {v:AV} {c:Value} (h:RV Pr al w v c) (hf:isFn v=true):c.cells = #[c]:=by
 cases h with
 |data v c h =>
  cases h with
  |val c hc=>cases c<;>first | rfl | cases hc
  |_=>cases hf
 |func=>rfl
 |box=>cases hf
 |fagg=>cases hf
 |junk=>cases hf
theorem does_buildF (R:Rel P w0 n U g S H a w) {o:Oper} {t el:TypeId} {len:Nat} {it ie:TypeInfo} {z:Value} {ps:Array (Nat×Operand)} {xs:List Operand} {ys:List Opd} {e:Eff} (ho:o.op = .build t ps) (hd:∀ t,o.dst=some t→t < n∧¬ U t)
  (hi:P.info? t=some it) (hun:P.underlying t=some (.array len el)) (hz:it.zero=some z) (hie:P.info? el=some ie) (hs:ie.size=1) (hzs:z.cells.size=xs.length)
  (hps:ps.toList=(xs.zipIdx 0).map fun x=>(x.2,x.1)) (hx:opds n xs=some ys) (hu:∀ y∈ys,∀ t∈y.tmps,¬ U t) (he:apure S H (.buildF ys)=some e):Does P w0 n U g S H a w o e:=by
 simp only [apure] at he
 split at he
 case isFalse=>cases he
 rename_i hall
 cases he
 simp only [List.all_eq_true] at hall
 obtain ⟨l1,r1⟩:=R.evs hx hu
 have hcell:∀ j (h:j < xs.length),(a.eval xs[j]).cells = #[a.eval xs[j]]:=fun j h =>
  fn_cells (r1 j (by omega) h) (hall _ (List.mem_map.2 ⟨_,List.getElem_mem (by omega),rfl⟩))
 have hfill:=Great.fill_whole (s:=1) (by omega) (xs.map a.eval) z.cells (fun v hv=>by
  obtain ⟨x,hx,rfl⟩:=List.mem_map.1 hv
  obtain ⟨j,hj,rfl⟩:=List.getElem_of_mem hx
  rw [hcell j hj];rfl) (by simp [hzs])
 have hparts:(ps.map fun (i,x)=>(i,a.eval x)).toList=((xs.map a.eval).zipIdx 0).map fun x=>(x.2,x.1):=by
  rw [Array.toList_map,hps]
  simp [List.zipIdx_map]
 have hflat:((xs.map a.eval).flatMap fun v=>v.cells.toList)=xs.map a.eval:=by
  have:∀ l:List Operand,(∀ x∈l,(a.eval x).cells = #[a.eval x])→((l.map a.eval).flatMap fun v=>v.cells.toList)=l.map a.eval:=by
   intro l
   induction l with
   |nil=>intro _;rfl
   |cons x l ih=>intro h;simp only [List.map_cons,List.flatMap_cons,h x List.mem_cons_self,ih fun y hy=>h y (List.mem_cons_of_mem _ hy)];rfl
  exact this xs fun x hx=>by obtain ⟨j,hj,rfl⟩:=List.getElem_of_mem hx;exact hcell j hj
 have hb:P.built t (ps.map fun (i,x)=>(i,a.eval x)).toList=some (xs.map a.eval).toArray:=by
  unfold Program.built
  simp only [hi,hun,hz,hie,hs]
  rw [hparts,hfill,hflat]
 refine Does.val R (fun t h=>(hd t h).1) (c := .agg (xs.map a.eval).toArray) ?_ (.fagg _ _ (by simp [l1]) (fun i h h' => ?_)) fun _=>trivial
 ·unfold execOp
  simp only [ho,Sem.run_bind,run_build w t _ _ hb,Result.andThen_ok]
  rfl
 ·simp only [List.length_map] at h
  have:=r1 i h (by simpa using h')
  simpa using this
theorem does_indexF (R:Rel P w0 n U g S H a w) {o:Oper} {t el:TypeId} {len:Nat} {ie:TypeInfo} {dsc:TypeDesc} {x1 x2:Operand} {y1 y2:Opd} {e:Eff} (ho:o.op = .index t x1 x2) (hd:∀ t,o.dst=some t→t < n∧¬ U t)
  (hun:P.underlying t=some (.array len el)) (hi:P.info? el=some ie) (hs:ie.size=1) (hue:P.underlying el=some dsc) (hag:aggT dsc=false) (hx1:opd n x1=some y1) (hx2:opd n x2=some y2) (hu1:∀ t∈y1.tmps,¬ U t) (hu2:∀ t∈y2.tmps,¬ U t)
  (he:apure S H (.indexF len y1 y2)=some e):Does P w0 n U g S H a w o e:=by
 have hv1:=R.ev hx1 hu1
 have hv2:=R.ev hx2 hu2
 simp only [apure] at he
 generalize AL.ev S y1=p1 at he hv1
 generalize AL.ev S y2=p2 at he hv2
 generalize hc1:a.eval x1=c1 at hv1
 generalize hc2:a.eval x2=c2 at hv2
 split at he
 case h_2=>cases he
 rename_i fs k
 split at he
 case isFalse=>cases he
 rename_i hk
 split at he
 case h_2=>cases he
 rename_i v hv
 split at he
 case isFalse=>cases he
 rename_i hf
 cases he
 obtain ⟨h0,rfl⟩:=List.getElem?_eq_some_iff.1 hv
 have q2:=hv2.toData rfl
 cases q2
 cases hv1 with
 |data _ _ hh=>cases hh
 |fagg _ vs h1 hr =>
  have hlt:k.toNat < vs.size:=by omega
  have hagg:(isAgg el).run P w = .ok false w:=by
   unfold isAgg
   rw [Sem.run_bind,run_underlying hue w]
   cases dsc<;>simp [aggT] at hag ⊢
  refine Does.val R (fun t h=>(hd t h).1) (c:=vs[k.toNat]) ?_ (hr _ h0 hlt) fun _ => ?_
  ·simp only [execOp,ho,hc1,hc2,Instr.index,Sem.run_bind]
   simp [asIntOf,run_underlying hun,hk,sizeOf,typeInfo,hi,hs,Sem.run_bind,part,hagg,hlt]
  ·generalize fs[k.toNat]=u at hf
   cases u<;>first | trivial | cases hf
theorem one_cells {v:AV} (h:v.one=true):v.cells=[v]:=by
 cases v<;>first | rfl | cases h
theorem does_sliceR (R:Rel P w0 n U g S H a w) {o:Oper} {t el:TypeId} {len:Nat} {i:TypeInfo} {x:Operand} {y:Opd} {e:Eff} (ho:o.op = .slice t x none none none) (hd:∀ t,o.dst=some t→t < n∧¬ U t)
  (hun:P.underlying t=some (.array len el)) (hi0:P.info? el=some i) (hx:opd n x=some y) (hu:∀ t∈y.tmps,¬ U t)
  (he:apure S H (.sliceR len y)=some e):Does P w0 n U g S H a w o e:=by
 have hv:=R.ev hx hu
 simp only [apure] at he
 generalize hev:AL.ev S y=q at he hv
 generalize hcx:a.eval x=c at hv
 split at he
 case h_2=>cases he
 rename_i cs
 split at he
 case isFalse=>cases he
 rename_i hlen
 cases he
 have q2:=hv.toData rfl
 cases q2 with
 |ref _ b off vs h1 hc hr =>
  have hk:(execOp a.eval o).run P w = .ok (.value (.slice (some ⟨b,off,none⟩) len len)) w:=by
   unfold execOp
   simp only [ho,hcx,Option.map_none,Instr.sliceAt,Sem.run_bind,run_underlying hun]
   by_cases h0:len=0
   ·subst h0
    simp [Instr.sureAddr,Instr.sliceBounds,Sem.run_bind,sizeOf,typeInfo,hi0]
   ·simp [Instr.sureAddr,Instr.sliceBounds,Sem.run_bind,sizeOf,typeInfo,hi0,Addr.add]
  refine Does.val R (fun t h=>(hd t h).1) hk (.data _ _ ?_) fun _=>trivial
  rw [← hlen]
  refine .slice .view cs b off cs.length 1 vs (Nat.le_refl _) (fun h=>by cases h) (fun i h=>by rw [one_cells (h1 i h)];rfl) (fun i h j hj => ?_) (fun k hk=>hc k (by omega)) (fun i h j hj => ?_)
  ·have e:=one_cells (h1 i h)
   have:((cs[i]).cells[j])=cs[i]:=by
    have hj':j < [cs[i]].length:=by rw [← e];exact hj
    have:j=0:=by simp at hj';omega
    subst this
    simp only [e];rfl
   rw [this];exact h1 i h
  ·have e:=one_cells (h1 i h)
   have hj':j < [cs[i]].length:=by rw [← e];exact hj
   have hj0:j=0:=by simp at hj';omega
   subst hj0
   have:((cs[i]).cells[0])=cs[i]:=by simp only [e];rfl
   rw [this,Nat.mul_one,Nat.add_zero];exact hr i h
def mfind (P:Program) (name:String) (t:TypeId):Option Nat :=
 match P.info? t with
 |some i=>match P.underlying t with
  |some (.struct _)=>match i.methods.find? (·.name==name) with
   |some m=>if m.path.isEmpty=true then match m.func with
    |some (f,false)=>some f
    |_=>none
    else none
   |none=>none
  |_=>none
 |none=>none
def mtab (P:Program) (name:String):List (TypeId×Nat):=(List.range P.types.size).filterMap fun t=>(mfind P name t).map fun k=>(t,k)
theorem lookup_mem {t k:Nat}:∀ {l:List (Nat×Nat)},l.lookup t=some k→(t,k)∈l
 |[],h=>by cases h
 |(a,b)::l,h=>by
  rw [List.lookup_cons] at h
  split at h
  ·rename_i he
   cases h
   simp only [beq_iff_eq] at he
   subst he
   exact List.mem_cons_self
  ·exact List.mem_cons_of_mem _ (lookup_mem h)
theorem mtab_find {P:Program} {name:String} {t k:Nat} (h:(mtab P name).lookup t=some k):mfind P name t=some k:=by
 have h1:=lookup_mem h
 simp only [mtab,List.mem_filterMap,Option.map_eq_some_iff,Prod.mk.injEq] at h1
 obtain ⟨a,_,b,h2,rfl,rfl⟩:=h1
 exact h2
theorem run_method {P:Program} {name:String} {t k:Nat} {v:Value} {w:World} (h:(mtab P name).lookup t=some k):(method (P.types.size+Made.depth) t v name).run P w = .ok (k,v) w:=by
 have h:=mtab_find h
 unfold mfind at h
 split at h
 case h_2=>cases h
 rename_i i hi
 split at h
 case h_2=>cases h
 rename_i fs hun
 split at h
 case h_2=>cases h
 rename_i m hm
 split at h
 case isFalse=>cases h
 rename_i hp
 split at h
 case h_2=>cases h
 rename_i f hf
 cases h
 show (method (P.types.size+99+1) t v name).run P w=_
 have hp':m.path.toList=[]:=by simpa using hp
 generalize P.types.size+99=d
 simp [method,typeInfo,hi,hm,hp',hf,follow,receiverAt,run_underlying hun,Place.get,Sem.run_bind]
end
end Go.AL
namespace Go.AL
open Go.RowKit
inductive AOut where
 |ret (v:AV) | panic (v:AV)
def prOf (base:Nat) (old:Nat→Nat→Prop) (hi:Nat→Nat) (b k:Nat):Prop:=(b < base∧old b k)∨(base≤b∧k < hi b)
def OwnRes (P:Program) (base:Nat) (hi:Nat→Nat) (w:World):AV→Value→Prop
 |.slice (.own e) es,c=>∃ i xs b,P.info? e=some i∧w.ownsRow base e i.size c es.length xs∧c.ownBlock=some b∧hi b=es.length * i.size
 |_,_=>True
def Ends (P:Program) (old:Nat→Nat→Prop) (w:World) (out:AOut) (e:Ending) (w':World):Prop :=
 Below w.heap.size w w'∧∃ hi:Nat→Nat,(∀ b,w'.heap.size≤b→hi b=0) ∧
  match out with
  |.ret v=>∃ c,e = .returned c∧RV (prOf w.heap.size old hi) (fun _=>none) w' v c∧OwnRes P w.heap.size hi w' v c
  |.panic v=>∃ c,e = .panicked [{ v:=c,recovered:=false }]∧RD (prOf w.heap.size old hi) w' v c
def AC (P:Program) (GI:World→Prop) (f:Nat) (args:List AV) (out:AOut):Prop :=
 ∀ (w:World) (old:Nat→Nat→Prop) (cargs:Array Value),GI w→args.length=cargs.size →
  (∀ i (h:i < args.length) (h':i < cargs.size),RV old (fun _=>none) w args[i] cargs[i])→Calls P f cargs w (Ends P old w out)
def fz1 (H:Boxes):AV→AV
 |.box i off=>match H i with | some cs => .ref ((cs.drop off).map AV.vw1) | none => .junk
 |.func .. | .fagg _ => .junk
 |v=>v.vw
def fz (H:Boxes):AV→AV
 |.func fn first cap => .func fn (first.map (fz1 H)) (cap.map (fz1 H))
 |v=>fz1 H v
def boxy1:AV→Bool
 |.box .. => true
 |_=>false
def boxy:AV→Bool
 |.box .. => true
 |.func _ first cap=>first.any boxy1 || cap.any boxy1
 |_=>false
def scal1:AV→Bool
 |.bool _ | .anyb | .int .. | .str _=>true
 |_=>false
def scal:AV→Bool
 |.tup vs=>vs.all scal1
 |v=>scal1 v
def AOut.scal:AOut→Bool
 |.ret v=>Go.AL.scal v
 |.panic _=>false
theorem scal_data {v:AV} (h:scal v=true):v.isData=true:=by cases v<;>first | rfl | cases h
theorem RD.scal1 {Pr Pr':Nat→Nat→Prop} {w w':World} {v:AV} {c:Value} (h:RD Pr w v c) (hs:Go.AL.scal1 v=true):RD Pr' w' v c:=by
 cases h<;>first | (cases hs;done) | constructor
theorem RD.scal {Pr Pr':Nat→Nat→Prop} {w w':World} {v:AV} {c:Value} (h:RD Pr w v c) (hs:Go.AL.scal v=true):RD Pr' w' v c:=by
 cases h with
 |tup cs vs hl hr=>exact .tup cs vs hl fun i h h'=>(hr i h h').scal1 (by simp only [Go.AL.scal,List.all_eq_true] at hs;exact hs _ (List.getElem_mem h))
 |bool b=>exact .bool b
 |anyb b=>exact .anyb b
 |int k n=>exact .int k n
 |str l=>exact .str l
 |_=>cases hs
section
variable {P:Program} {w0:World} {n:Nat} {U:Nat→Prop} {g:Gh} {S:Slots} {H:Boxes} {a:Act} {w:World}
def callOld (g:Gh) (bx:Bool) (b k:Nat):Prop:=g.Pr b k∨(bx=true∧∃ i,g.al i=some b)
theorem Rel.fz1 (R:Rel P w0 n U g S H a w) {v:AV} {c:Value} (h:RV g.Pr g.al w v c) (bx:Bool) (hb:boxy1 v=true→bx=true):RV (callOld g bx) (fun _=>none) w (Go.AL.fz1 H v) c:=by
 have hmono:∀ {v c},RD g.Pr w v c→RD (callOld g bx) w v c:=fun h=>h.mono (Keeps.same fun b k _ hp => .inl hp)
 cases h with
 |data v c h =>
  have hd:=(hmono h).vw
  have:Go.AL.fz1 H v=v.vw:=by cases h<;>rfl
  rw [this]
  exact .data _ _ hd
 |box i off b hal =>
  obtain ⟨cs,vs,ty,k1,k2,k3,k4,k5,k6,k7,k8,k9⟩:=R.box i b hal
  simp only [Go.AL.fz1,k1]
  have hbx:bx=true:=hb rfl
  refine .data _ _ (.ref _ _ _ (fun k=>vs.getD (off+k) undef) (fun k hk => ?_) (fun k hk => ?_) fun k hk => ?_)
  ·simp only [List.length_map,List.length_drop] at hk
   simp only [List.getElem_map,List.getElem_drop]
   have:=k9 (off+k) (by omega)
   exact (AV.one_vw1 _).trans this
  ·simp only [List.length_map,List.length_drop] at hk
   have:off+k < vs.size:=by omega
   exact ⟨.inr ⟨hbx,i,hal⟩,by simp [World.cell?,k3,this]⟩
  ·simp only [List.length_map,List.length_drop] at hk
   have hlt:off+k < vs.size:=by omega
   have:=(hmono (k7 (off+k) (by omega) hlt)).vw1
   simpa [hlt] using this
 |func=>exact .junk _
 |fagg=>exact .junk _
 |junk c=>exact .junk c
theorem Rel.fz (R:Rel P w0 n U g S H a w) {v:AV} {c:Value} (h:RV g.Pr g.al w v c) (bx:Bool) (hb:boxy v=true→bx=true):RV (callOld g bx) (fun _=>none) w (Go.AL.fz H v) c:=by
 have h0:=h
 cases h with
 |func fn first cap vs us h1 h2 r1 r2 =>
  simp only [boxy,Bool.or_eq_true,List.any_eq_true] at hb
  refine .func fn _ _ _ _ (by simpa using h1) (by simpa using h2) (fun i hi hi' => ?_) (fun i hi hi' => ?_)
  ·simp only [List.length_map] at hi
   simp only [List.getElem_map]
   exact R.fz1 (r1 i hi hi') bx fun hx=>hb (.inl ⟨_,List.getElem_mem hi,hx⟩)
  ·simp only [List.length_map] at hi
   simp only [List.getElem_map]
   exact R.fz1 (r2 i hi hi') bx fun hx=>hb (.inr ⟨_,List.getElem_mem hi,hx⟩)
 |data v c h =>
  have:Go.AL.fz H v=Go.AL.fz1 H v:=by cases h<;>rfl
  rw [this];exact R.fz1 h0 bx fun hx=>hb (by cases v<;>first | rfl | cases hx)
 |box=>exact R.fz1 h0 bx hb
 |fagg=>exact .junk _
 |junk c=>exact .junk c
theorem Rel.call (R:Rel P w0 n U g S H a w) (d:Option Nat) (hd:∀ t,d=some t→t < n∧¬ U t) (bx:Bool) {v:AV} {c:Value} {w':World} {hi:Nat→Nat} (hb:Below w.heap.size w w')
  (hfresh:∀ b,w'.heap.size≤b→hi b=0) (hr:RV (prOf w.heap.size (callOld g bx) hi) (fun _=>none) w' v c) (hown:OwnRes P w.heap.size hi w' v c) (hbx:bx=true→scal v=true) :
  ∃ g',g'.base=g.base∧g'.old=g.old∧Rel P w0 n U g' (Go.AL.putD S d v) H (a.put d c) w':=by
 have hle:g.base≤w.heap.size:=by rw [R.base];exact R.below.size
 let own:Nat→Option Loc:=fun b=>match c.ownBlock,d with
  |some b',some t=>if b=b' then some (.slot t) else none
  |_,_=>none
 let g':Gh:={ g with hi:=fun b=>if b < w.heap.size then g.hi b else hi b,owner:=fun b=>if b < w.heap.size then g.owner b else if b < w'.heap.size then own b else none }
 have R':Rel P w0 n U g' S H a w':=R.grow (g':=g') hb rfl rfl rfl
  (fun b hb=>⟨if_pos hb,if_pos hb⟩)
  (fun b hbb=>by
   have:=hb.size
   exact ⟨(if_neg (by omega)).trans (hfresh b hbb),(if_neg (by omega)).trans (if_neg (by omega))⟩)
 refine ⟨g',rfl,rfl,R'.putD d v c (fun t h=>(hd t h).1) ?_ ?_⟩
 ·cases bx with
  |true=>exact .data _ _ ((hr.toData (scal_data (hbx rfl))).scal (hbx rfl))
  |false =>
   refine hr.mono (Keeps.same fun b k _ hp => ?_) (fun i b h=>by cases h)
   rcases hp with ⟨h1,h2⟩ | ⟨h1,h2⟩
   ·rcases h2 with h2 | ⟨h2,_⟩
    ·rcases h2 with h2 | h2
     ·exact .inl h2
     ·exact .inr ⟨h2.1,by show k < (if b < w.heap.size then g.hi b else hi b);rw [if_pos h1];exact h2.2⟩
    ·cases h2
   ·exact .inr ⟨by show g.base≤b;omega,by show k < (if b < w.heap.size then g.hi b else hi b);rw [if_neg (by omega)];exact h2⟩
 ·intro t ht
  subst ht
  cases v<;>try trivial
  rename_i oo es
  cases oo with
  |view=>trivial
  |nil=>trivial
  |own e =>
   obtain ⟨i,xs,b,h1,h2,h3,h4⟩:=hown
   have hlt:=h2.lt b h3
   refine ⟨i,xs,b,h1,⟨h2.1,?_⟩,h3,?_,?_⟩
   ·rcases h2.2 with hn | ⟨gg,cap,cur,e1,hbg,rest⟩
    ·exact .inl hn
    ·exact .inr ⟨gg,cap,cur,e1,Nat.le_trans hle hbg,rest⟩
   ·show (if b < w.heap.size then g.owner b else if b < w'.heap.size then own b else none)=_
    rw [if_neg (by omega),if_pos hlt.2]
    simp [own,h3]
   ·show (if b < w.heap.size then g.hi b else hi b)=_
    rw [if_neg (by omega)];exact h4
end
end Go.AL
namespace Go.AL
open Go.RowKit
def zeroCells (P:Program) (t:TypeId):Option (List AV) :=
 match P.info? t with
 |some i=>match i.zero with
  |some z=>constCells z.cells.toList
  |none=>none
 |none=>none
def isVal:AV→Bool
 |.val _=>true
 |_=>false
def zeroCellsD (P:Program) (t:TypeId):Option (List AV) :=
 match zeroCells P t with
 |some zs=>if zs.any isVal then none else some zs
 |none=>none
theorem zeroCellsD_some {P:Program} {t:TypeId} {zs:List AV} (h:zeroCellsD P t=some zs):zeroCells P t=some zs:=by
 unfold zeroCellsD at h
 split at h
 ·rename_i h'
  split at h<;>cases h
  exact h'
 ·cases h
def comp (P:Program) (n:Nat) (tk:Bool) (hr:HR) (o:Oper):AOp :=
 match o.op with
 |.move x=>match opd n x with
  |some y => .mv tk y
  |none => .other
 |.assign x=>match opd n x with
  |some y => .mv true y
  |none => .other
 |.pick c a b=>match opd n c,opd n a,opd n b with
  |some c,some a,some b => .pick c a b
  |_,_,_ => .other
 |.alloc t=>match zeroCells P t with
  |some cs => .alloc t cs
  |none => .other
 |.box t x=>match P.info? t,opd n x with
  |some i,some y => .box t i.size y
  |_,_ => .other
 |.build t ps=>match P.underlying t,zeroCellsD P t with
  |some (.struct fs),some zs=>match fs.toList.mapM (fun f=>(P.info? f.type).map fun i=>(f.offset,i.size)) with
   |some places=>match bparts n (places[·]?) ps.toList with
    |some qs => .build (zs.map AV.dem) qs
    |none => .other
   |none => .other
  |some (.array _ el),some zs=>match P.info? el with
   |some ie=>match bparts n (fun i=>some (i * ie.size,ie.size)) ps.toList with
    |some qs => .build (zs.map AV.dem) qs
    |none => .other
   |none => .other
  |some (.array _ el),none=>match P.info? t,P.info? el,opds n (ps.toList.map (·.2)) with
   |some it,some ie,some ys=>match it.zero with
    |some z=>if ie.size=1∧z.cells.size=ps.toList.length∧ps.toList.map (·.1)=List.range ps.toList.length then .buildF ys else .other
    |none => .other
   |_,_,_ => .other
  |_,_ => .other
 |.buildSlice t len ps=>match P.underlying t with
  |some (.slice el)=>match P.info? el with
   |some i=>if len=0∧ps.toList.isEmpty=true then .empty el else
    match i.zero,opds n (ps.toList.map (·.2)) with
    |some _,some ys=>if 0 < i.size∧0 < len∧ps.toList.map (·.1)=List.range len then .buildSlice t el i.size ys else .other
    |_,_ => .other
   |none => .other
  |_ => .other
 |.load t a=>match P.info? t,P.underlying t,opd n a with
  |some i,some d,some y=>if tk=true∧aggT d=false∧o.dst.isSome=true then .loadT hr y else .load hr (aggT d) i.size y
  |_,_,_ => .other
 |.store t a x=>match P.info? t,opd n a,opd n x with
  |some i,some y,some z=>if o.dst.isNone then .store hr i.size y z else .other
  |_,_,_ => .other
 |.binOp op t x y _=>match P.underlying t,opd n x,opd n y with
  |some (.int _),some x,some y | some .string,some x,some y => .bin op x y
  |some .bool,some x,some y=>match op with
   |.eql => .eqB false x y
   |.neq => .eqB true x y
   |_ => .other
  |some (.struct _),some x,some y=>if P.eqGuardType P.depth t=false then
    match op,flatI P 10000 t with
    |.eql,some k => .eqs false k x y
    |.neq,some k => .eqs true k x y
    |_,_ => .other
   else .other
  |some (.slice _),some x',some _=>match op,y with
   |.eql,.const (.slice none 0 0) => .isNil false x'
   |.neq,.const (.slice none 0 0) => .isNil true x'
   |_,_ => .other
  |_,_,_ => .other
 |.unOp .not _ x=>match opd n x with
  |some y => .not y
  |none => .other
 |.convert s d x=>match P.underlying s,P.underlying d,opd n x with
  |some _,some (.int k),some y => .conv k y
  |some (.slice el),some .string,some y=>match P.underlying el with
   |some (.int .u8) => .bstr y
   |_ => .other
  |_,_,_ => .other
 |.makeInterface t x=>match P.underlying t,opd n x with
  |some (.interface _),_ => .other
  |some _,some y => .iface t y
  |_,_ => .other
 |.makeFunc fn f c=>match opds n f.toList,opds n c.toList with
  |some f,some c => .mkf fn f c
  |_,_ => .other
 |.slice t x lo hi none=>match P.underlying t,opd n x,optOpd n lo,optOpd n hi with
  |some .string,some y,some lo,some hi => .sliceS y lo hi
  |some (.slice el),some y,some lo,some hi=>match P.info? el with
   |some i => .sliceL i.size y lo hi
   |none => .other
  |some (.array len el),some y,some none,some none=>match P.info? el with
   |some _ => .sliceR len y
   |none => .other
  |_,_,_,_ => .other
 |.fieldAddr s x j=>match P.underlying s,opd n x with
  |some (.struct fs),some y=>match fs[j]? with
   |some f=>match P.info? f.type with
    |some i=>if i.size≠0 then .fieldAddr f.offset y else .other
    |none => .other
   |none => .other
  |_,_ => .other
 |.indexAddr t x i=>match P.underlying t,opd n x,opd n i with
  |some (.slice el),some y,some z=>match P.info? el with
   |some i => .indexAddr i.size y z
   |none => .other
  |_,_,_ => .other
 |.index t x i=>match P.underlying t,opd n x,opd n i with
  |some .string,some y,some z => .indexS y z
  |some (.array len el),some y,some z=>match P.info? el,P.underlying el with
   |some i,some (.func a b c)=>if i.size=1 then .indexF len y z else .other
   |some i,some d => .indexA (aggT d) len i.size y z
   |_,_ => .other
  |_,_,_ => .other
 |.lookup t x i true=>match P.underlying t,opd n x,opd n i with
  |some (.map kt el),some y,some z=>match P.underlying kt,flatI P 10000 kt,P.info? el with
   |some (.struct _),some k,some ie=>match ie.zero with
    |some (.agg v)=>match constCells v.toList with
     |some zs => .lookup k (.agg zs) y z
     |none => .other
    |_ => .other
   |_,_,_ => .other
  |_,_,_ => .other
 |.extract x j=>match opd n x with
  |some y => .extract y j
  |none => .other
 |.typeAssert x _ t true=>match P.underlying t,P.info? t,opd n x with
  |some (.interface _),_,_ => .other
  |some _,some i,some y=>match i.zero with
   |some (.agg z)=>match constCells z.toList with
    |some zs => .assert t (.agg zs) y
    |none => .other
   |_ => .other
  |_,_,_ => .other
 |.panic x=>match opd n x with
  |some y => .panic y
  |none => .other
 |.call cl=>match cl.callee,cl.args.toList,cl.argTypes.toList with
  |.builtin .len,[x],[s]=>match P.underlying s,opd n x with
   |some .string,some y => .lenS y
   |some (.slice _),some y => .lenL y
   |_,_ => .other
  |.builtin .append,[x1,x2],[t,t']=>match P.underlying t,opd n x1,opd n x2 with
   |some (.slice el),some y1,some y2=>match P.info? el with
    |some i=>match i.zero with
     |some z=>if t=t'∧z.cells.size=i.size∧i.bytes≤65536 then .append t el i.size i.bytes y1 y2 else .other
     |none => .other
    |none => .other
   |_,_,_ => .other
  |.builtin .max,[x1,x2],_=>match opd n x1,opd n x2 with
   |some y1,some y2 => .max y1 y2
   |_,_ => .other
  |.builtin .min,[x1,x2],_=>match opd n x1,opd n x2 with
   |some y1,some y2 => .min y1 y2
   |_,_ => .other
  |.value f,args,_=>match opd n f,opds n args with
   |some (.f k),some ys => .call k ys
   |some y,some ys => .callv y ys
   |_,_ => .other
  |.invoke r name,args,_=>match opd n r,opds n args with
   |some (.t t),some ys => .callv (.m t (mtab P name)) ys
   |_,_ => .other
  |_,_,_ => .other
 |_ => .other
structure AOpr where
 dst:Option Nat
 guard:Option (Nat×Bool)
 op:AOp
def callable (P:Program) (f:Nat):Bool :=
 match P.funcs[f]? with
 |some fn=>fn.name != "runtime.NumGoroutine" && fn.body.isSome
 |none=>false
theorem run_callFunc {P:Program} {w:World} {f:Nat} {args:Array Value} (h:callable P f=true):(callFunc f args).run P w = .ok (.enter f args) w:=by
 unfold callable at h
 cases hf:P.funcs[f]? with
 |none=>simp [hf] at h
 |some fn =>
  simp only [hf,Bool.and_eq_true,bne_iff_ne] at h
  unfold callFunc
  obtain ⟨c,hc⟩:=Option.isSome_iff_exists.1 h.2
  simp [hf,h.1,hc]
section
variable {P:Program} {GI:World→Prop}
def onOut (out:AOut) (K:AV→Prop) (Qp:AV→Prop):Prop :=
 match out with
 |.ret v=>K v
 |.panic v=>Qp v
def acall (P:Program) (GI:World→Prop) (f:Nat) (args:List AV) (bx:Bool) (K:AV→Prop) (Qp:AV→Prop):Prop :=
 ∃ out,callable P f=true∧AC P GI f args out∧(bx=true→out.scal=true)∧onOut out K Qp
def astep (P:Program) (GI:World→Prop) (op:AOp) (dst:Option Nat) (K:Slots→Boxes→Prop) (Qp:AV→Prop) (S:Slots) (H:Boxes):Prop :=
 match op with
 |.alloc _ zero=>match dst with
  |some d=>K (upd (fun t=>scrub d (S t)) d (.box d 0)) (upd H d (some zero))
  |none=>False
 |.box _ size x=>match dst with
  |some d=>(ev S x).cells.length=size∧(ev S x).storable=true∧K (upd (fun t=>scrub d (S t)) d (.box d 0)) (upd H d (some ((ev S x).cells.map AV.dem)))
  |none=>False
 |.call f args=>acall P GI f (args.map fun y=>fz H (ev S y)) (args.any fun y=>boxy (ev S y)) (fun v=>K (putD S dst v) H) Qp
 |.callv f args=>match ev S f with
  |.func (.func k) first cap=>acall P GI k ((first++args.map (ev S)++cap).map (fz H)) ((first++args.map (ev S)++cap).any boxy) (fun v=>K (putD S dst v) H) Qp
  |_=>False
 |.panic x=>match ev S x with
  |.iface t v=>Qp (.iface t v)
  |_=>False
 |op=>match apure S H op with
  |some e=>K (e.S S dst) (e.H H)
  |none=>False
def AOp.calm:AOp→Bool
 |.alloc .. | .box .. | .call .. | .callv .. | .panic _ | .other=>false
 |_=>true
theorem astep_calm {op:AOp} (h:op.calm=true) (dst:Option Nat) (K:Slots→Boxes→Prop) (Qp:AV→Prop) (S:Slots) (H:Boxes) :
  astep P GI op dst K Qp S H=(match apure S H op with | some e=>K (e.S S dst) (e.H H) | none=>False):=by
 cases op<;>first | rfl | cases h
variable {w0:World} {n:Nat} {U:Nat→Prop} {g:Gh} {S:Slots} {H:Boxes} {a:Act} {w:World}
theorem range_zip:∀ (ps:List (Nat×Operand)) (k:Nat),ps.map (·.1)=(List.range' k ps.length)→ps=((ps.map (·.2)).zipIdx k).map fun x=>(x.2,x.1)
 |[],_,_=>rfl
 |(i,x)::ps,k,h=>by
  simp only [List.map_cons,List.length_cons,List.range'_succ,List.cons.injEq] at h
  obtain ⟨rfl,h⟩:=h
  simp only [List.map_cons,List.zipIdx_cons,List.cons.injEq,true_and]
  exact range_zip ps (i+1) h
theorem optOpd_none {x:Option Operand} (h:optOpd n x=some none):x=none:=by
 cases x with
 |none=>rfl
 |some y=>simp [optOpd] at h
set_option maxHeartbeats 2000000 in
theorem does_calm (R:Rel P w0 n U g S H a w) {o:Oper} {tk:Bool} {hr:HR} {op:AOp} {e:Eff} (hc:comp P n tk hr o=op) (hcalm:op.calm=true) (hd:∀ t,o.dst=some t→t < n∧¬ U t) (hrd:∀ t∈op.rd,¬ U t) (hds:∀ t,o.dst=some t→t∉op.rd)
  (he:apure S H op=some e):Does P w0 n U g S H a w o e:=by
 unfold comp at hc
 cases hop:o.op
 case move x =>
  simp only [hop] at hc
  split at hc<;>subst hc
  case h_2=>cases hcalm
  rename_i y hx
  exact does_mv R hd hx hrd (by unfold execOp;simp only [hop];rfl) hds he
 case assign x =>
  simp only [hop] at hc
  split at hc<;>subst hc
  case h_2=>cases hcalm
  rename_i y hx
  exact does_mv R hd hx hrd (by unfold execOp;simp only [hop];rfl) hds he
 case pick x x1 x2 =>
  simp only [hop] at hc
  split at hc<;>subst hc
  case h_2=>cases hcalm
  rename_i c a' b h1 h2 h3
  simp only [AOp.rd,List.mem_append] at hrd
  exact does_pick R hop hd h1 h2 h3 (fun t h=>hrd t (.inl (.inl h))) (fun t h=>hrd t (.inl (.inr h))) (fun t h=>hrd t (.inr h)) he
 case alloc t=>simp only [hop] at hc;split at hc<;>subst hc<;>cases hcalm
 case box t x=>simp only [hop] at hc;split at hc<;>subst hc<;>cases hcalm
 case build t ps =>
  simp only [hop] at hc
  split at hc
  ·rename_i fs zs h1 h2
   split at hc
   case h_2=>subst hc;cases hcalm
   rename_i places h3
   split at hc<;>subst hc
   case h_2=>cases hcalm
   rename_i qs h4
   have h2:=zeroCellsD_some h2
   unfold zeroCells at h2
   split at h2
   case h_2=>cases h2
   rename_i it hi
   split at h2
   case h_2=>cases h2
   rename_i z hz
   exact does_build R hop hd hi h1 hz h3 h2 h4 (fun q hq t ht=>hrd t (List.mem_flatMap.2 ⟨q,hq,ht⟩)) he
  ·rename_i len el zs h1 h2
   split at hc
   case h_2=>subst hc;cases hcalm
   rename_i ie h3
   split at hc<;>subst hc
   case h_2=>cases hcalm
   rename_i qs h4
   have h2:=zeroCellsD_some h2
   unfold zeroCells at h2
   split at h2
   case h_2=>cases h2
   rename_i it hi
   split at h2
   case h_2=>cases h2
   rename_i z hz
   exact does_buildA R hop hd hi h1 hz h3 h2 h4 (fun q hq t ht=>hrd t (List.mem_flatMap.2 ⟨q,hq,ht⟩)) he
  ·rename_i len el h1 h2
   split at hc
   case h_2=>subst hc;cases hcalm
   rename_i it ie ys h3 h4 h5
   split at hc
   case h_2=>subst hc;cases hcalm
   rename_i z hz
   split at hc<;>subst hc
   case isFalse=>cases hcalm
   rename_i hcc
   exact does_buildF R hop hd h3 h1 hz h4 hcc.1 (by simpa using hcc.2.1) (range_zip _ 0 (by rw [hcc.2.2,List.range_eq_range'])) h5 (fun y hy t ht=>hrd t (List.mem_flatMap.2 ⟨y,hy,ht⟩)) he
  ·subst hc;cases hcalm
 case buildSlice t len ps =>
  simp only [hop] at hc
  split at hc
  case h_2=>subst hc;cases hcalm
  rename_i el h1
  split at hc
  case h_2=>subst hc;cases hcalm
  rename_i i h2
  split at hc
  case isTrue =>
   rename_i hcc
   subst hc
   have hps:ps = #[]:=by
    have:=hcc.2
    simp only [List.isEmpty_iff] at this
    exact Array.toList_eq_nil_iff.1 this
   rw [hcc.1,hps] at hop
   exact does_empty R hop hd h1 h2 he
  case isFalse =>
   split at hc
   case h_2=>subst hc;cases hcalm
   rename_i z ys h3 h4
   split at hc<;>subst hc
   case isFalse=>cases hcalm
   rename_i hc2
   have hlen:ps.toList.length=len:=by have:=congrArg List.length hc2.2.2;simpa using this
   exact does_buildSlice R hop hd h1 h2 h3 hc2.1 (range_zip _ 0 (by rw [hc2.2.2,hlen,List.range_eq_range'])) (by simpa using hlen) hc2.2.1 h4 (fun y hy t ht=>hrd t (List.mem_flatMap.2 ⟨y,hy,ht⟩)) he
 case load t x =>
  simp only [hop] at hc
  split at hc
  case h_2=>subst hc;cases hcalm
  rename_i i d y h1 h2 h3
  split at hc<;>subst hc
  case isTrue hcc =>
   obtain ⟨dd,hdd⟩:=Option.isSome_iff_exists.1 hcc.2.2
   exact does_loadT R hop hdd (hd dd hdd) h2 hcc.2.1 h3 hrd he
  case isFalse hcc=>exact does_load R hop hd h1 h2 h3 hrd he
 case store t x1 x2 =>
  simp only [hop] at hc
  split at hc
  case h_2=>subst hc;cases hcalm
  rename_i i y z h1 h2 h3
  split at hc<;>subst hc
  case isFalse=>cases hcalm
  rename_i hcc
  simp only [AOp.rd,List.mem_append] at hrd
  exact does_store R hop (by simpa using hcc) h1 h2 h3 (fun t h=>hrd t (.inl h)) (fun t h=>hrd t (.inr h)) he
 case binOp op t x1 x2 t' =>
  simp only [hop] at hc
  split at hc
  ·subst hc
   rename_i k y1 y2 h1 h2 h3
   simp only [AOp.rd,List.mem_append] at hrd
   exact does_bin R hop hd h2 h3 (fun t h=>hrd t (.inl h)) (fun t h=>hrd t (.inr h)) he
  ·subst hc
   rename_i y1 y2 h1 h2 h3
   simp only [AOp.rd,List.mem_append] at hrd
   exact does_bin R hop hd h2 h3 (fun t h=>hrd t (.inl h)) (fun t h=>hrd t (.inr h)) he
  ·rename_i y1 y2 h1 h2 h3
   split at hc<;>subst hc
   ·simp only [AOp.rd,List.mem_append] at hrd
    exact does_eqB (neg:=false) R hop hd h1 h2 h3 (fun t h=>hrd t (.inl h)) (fun t h=>hrd t (.inr h)) he
   ·simp only [AOp.rd,List.mem_append] at hrd
    exact does_eqB (neg:=true) R hop hd h1 h2 h3 (fun t h=>hrd t (.inl h)) (fun t h=>hrd t (.inr h)) he
   ·cases hcalm
  ·rename_i fs y1 y2 h1 h2 h3
   split at hc
   case isFalse=>subst hc;cases hcalm
   rename_i hgd
   split at hc<;>subst hc
   ·simp only [AOp.rd,List.mem_append] at hrd
    exact does_eqs (neg:=false) R hop hd h1 (by assumption) hgd h2 h3 (fun t h=>hrd t (.inl h)) (fun t h=>hrd t (.inr h)) he
   ·simp only [AOp.rd,List.mem_append] at hrd
    exact does_eqs (neg:=true) R hop hd h1 (by assumption) hgd h2 h3 (fun t h=>hrd t (.inl h)) (fun t h=>hrd t (.inr h)) he
   ·cases hcalm
  ·rename_i el y1 y2 h1 h2 h3
   split at hc<;>subst hc
   ·exact does_isNil (neg:=false) R hop hd h1 h2 hrd he
   ·exact does_isNil (neg:=true) R hop hd h1 h2 hrd he
   ·cases hcalm
  ·subst hc;cases hcalm
 case unOp u t x =>
  cases u<;>simp only [hop] at hc
  case not =>
   split at hc<;>subst hc
   case h_2=>cases hcalm
   rename_i y h1
   exact does_not R hop hd h1 hrd he
  all_goals (subst hc;cases hcalm)
 case convert s d x =>
  simp only [hop] at hc
  split at hc
  ·subst hc
   rename_i ds k y h1 h2 h3
   exact does_conv R hop hd h1 h2 h3 hrd he
  ·rename_i el y h1 h2 h3
   split at hc<;>subst hc
   case h_2=>cases hcalm
   rename_i h4
   exact does_bstr R hop hd h1 h4 h2 h3 hrd he
  ·subst hc;cases hcalm
 case makeInterface t x =>
  simp only [hop] at hc
  split at hc<;>subst hc
  case h_1=>cases hcalm
  case h_3=>cases hcalm
  rename_i d y hni h1 h2
  exact does_iface R hop hd h1 hni h2 hrd he
 case makeFunc fn f c =>
  simp only [hop] at hc
  split at hc<;>subst hc
  case h_2=>cases hcalm
  rename_i f2 c2 h1 h2
  simp only [AOp.rd,List.mem_append,List.mem_flatMap] at hrd
  exact does_mkf R hop hd h1 h2 (fun y hy t ht=>hrd t (.inl ⟨y,hy,ht⟩)) (fun y hy t ht=>hrd t (.inr ⟨y,hy,ht⟩)) he
 case slice t x lo hi mx =>
  cases mx with
  |some m=>simp only [hop] at hc;subst hc;cases hcalm
  |none =>
   simp only [hop] at hc
   split at hc
   ·subst hc
    rename_i y lo' hi' h1 h2 h3 h4
    simp only [AOp.rd,List.mem_append,List.mem_flatMap] at hrd
    exact does_sliceS R hop hd h1 h2 (fun t h=>hrd t (.inl h)) h3 h4 (fun y hy t ht=>hrd t (.inr ⟨y,.inl (by simpa using hy),ht⟩)) (fun y hy t ht=>hrd t (.inr ⟨y,.inr (by simpa using hy),ht⟩)) he
   ·rename_i el y lo' hi' h1 h2 h3 h4
    split at hc<;>subst hc
    case h_2=>cases hcalm
    rename_i i h5
    simp only [AOp.rd,List.mem_append,List.mem_flatMap] at hrd
    exact does_sliceL R hop hd h1 h5 h2 (fun t h=>hrd t (.inl h)) h3 h4 (fun y hy t ht=>hrd t (.inr ⟨y,.inl (by simpa using hy),ht⟩)) (fun y hy t ht=>hrd t (.inr ⟨y,.inr (by simpa using hy),ht⟩)) he
   ·rename_i len el y h1 h2 h3 h4
    split at hc<;>subst hc
    case h_2=>cases hcalm
    rename_i i h5
    have e3:=optOpd_none h3
    have e4:=optOpd_none h4
    subst e3
    subst e4
    exact does_sliceR R hop hd h1 h5 h2 hrd he
   ·subst hc;cases hcalm
 case fieldAddr s x j =>
  simp only [hop] at hc
  split at hc
  case h_2=>subst hc;cases hcalm
  rename_i fs y h1 h2
  split at hc
  case h_2=>subst hc;cases hcalm
  rename_i f h3
  split at hc
  case h_2=>subst hc;cases hcalm
  rename_i i h4
  split at hc<;>subst hc
  case isFalse=>cases hcalm
  rename_i hcc
  exact does_fieldAddr R hop hd h1 h3 h4 hcc h2 hrd he
 case indexAddr t x1 x2 =>
  simp only [hop] at hc
  split at hc
  case h_2=>subst hc;cases hcalm
  rename_i el y z h1 h2 h3
  split at hc<;>subst hc
  case h_2=>cases hcalm
  rename_i i h4
  simp only [AOp.rd,List.mem_append] at hrd
  exact does_indexAddr R hop hd h1 h4 h2 h3 (fun t h=>hrd t (.inl h)) (fun t h=>hrd t (.inr h)) he
 case index t x1 x2 =>
  simp only [hop] at hc
  split at hc
  ·subst hc
   rename_i y z h1 h2 h3
   simp only [AOp.rd,List.mem_append] at hrd
   exact does_indexS R hop hd h1 h2 h3 (fun t h=>hrd t (.inl h)) (fun t h=>hrd t (.inr h)) he
  ·rename_i len el y z h1 h2 h3
   split at hc
   ·rename_i i a1 a2 a3 h4 h5
    split at hc<;>subst hc
    case isFalse=>cases hcalm
    rename_i hs
    simp only [AOp.rd,List.mem_append] at hrd
    exact does_indexF R hop hd h1 h4 hs h5 rfl h2 h3 (fun t h=>hrd t (.inl h)) (fun t h=>hrd t (.inr h)) he
   case h_3=>subst hc;cases hcalm
   subst hc
   rename_i i d _ h4 h5
   simp only [AOp.rd,List.mem_append] at hrd
   exact does_indexA R hop hd h1 h4 h5 h2 h3 (fun t h=>hrd t (.inl h)) (fun t h=>hrd t (.inr h)) he
  ·subst hc;cases hcalm
 case lookup t x1 x2 ok =>
  cases ok with
  |false=>simp only [hop] at hc;subst hc;cases hcalm
  |true =>
   simp only [hop] at hc
   split at hc
   case h_2=>subst hc;cases hcalm
   rename_i kt el y z h1 h2 h3
   split at hc
   case h_2=>subst hc;cases hcalm
   rename_i fs k ie h4 h5 h6
   split at hc
   case h_2=>subst hc;cases hcalm
   rename_i v h7
   split at hc<;>subst hc
   case h_2=>cases hcalm
   rename_i zs h8
   simp only [AOp.rd,List.mem_append] at hrd
   exact does_lookup (z := .agg v) R hop hd h1 h4 h5 h6 h7 h8 h2 h3 (fun t h=>hrd t (.inl h)) (fun t h=>hrd t (.inr h)) he
 case extract x j =>
  simp only [hop] at hc
  split at hc<;>subst hc
  case h_2=>cases hcalm
  rename_i y h1
  exact does_extract R hop hd h1 hrd he
 case typeAssert x xt t ok =>
  cases ok with
  |false=>simp only [hop] at hc;subst hc;cases hcalm
  |true =>
   simp only [hop] at hc
   split at hc
   case h_1=>subst hc;cases hcalm
   case h_3=>subst hc;cases hcalm
   rename_i d i y hni h1 h2 h3
   split at hc
   case h_2=>subst hc;cases hcalm
   rename_i z hz
   split at hc<;>subst hc
   case h_2=>cases hcalm
   rename_i zs hzs
   exact does_assert (z := .agg z) R hop hd h1 hni h2 hz hzs h3 hrd he
 case panic x=>simp only [hop] at hc;split at hc<;>subst hc<;>cases hcalm
 case call cl =>
  simp only [hop] at hc
  split at hc
  ·rename_i x s hcl ha ht
   have ha':cl.args = #[x]:=by rw [← Array.toArray_toList (xs:=cl.args),ha]
   have ht':cl.argTypes = #[s]:=by rw [← Array.toArray_toList (xs:=cl.argTypes),ht]
   split at hc<;>subst hc
   ·rename_i y h1 h2
    exact does_len R hop hcl ha' ht' hd h1 h2 hrd (.inl ⟨rfl,he⟩)
   ·rename_i el y h1 h2
    exact does_len R hop hcl ha' ht' hd h1 h2 hrd (.inr ⟨⟨el,rfl⟩,he⟩)
   ·cases hcalm
  ·rename_i x1 x2 t t' hcl ha ht
   have ha':cl.args = #[x1,x2]:=by rw [← Array.toArray_toList (xs:=cl.args),ha]
   have ht':cl.argTypes = #[t,t']:=by rw [← Array.toArray_toList (xs:=cl.argTypes),ht]
   split at hc
   case h_2=>subst hc;cases hcalm
   rename_i el y1 y2 h1 h2 h3
   split at hc
   case h_2=>subst hc;cases hcalm
   rename_i i h4
   split at hc
   case h_2=>subst hc;cases hcalm
   rename_i z h5
   split at hc<;>subst hc
   case isFalse=>cases hcalm
   rename_i hcc
   obtain ⟨rfl,k1,k2⟩:=hcc
   simp only [AOp.rd,List.mem_append] at hrd hds
   exact does_append R hop hcl ha' ht' hd h1 h4 h5 k1 k2 h2 h3 (fun t h=>hrd t (.inl h)) (fun t h=>hrd t (.inr h)) (fun t ht h=>hds t ht (.inl h)) he
  ·rename_i x1 x2 hcl ha
   have ha':cl.args = #[x1,x2]:=by rw [← Array.toArray_toList (xs:=cl.args),ha]
   split at hc<;>subst hc
   case h_2=>cases hcalm
   rename_i y1 y2 h1 h2
   simp only [AOp.rd,List.mem_append] at hrd
   exact does_minmax R hop ha' hd h1 h2 (fun t h=>hrd t (.inl h)) (fun t h=>hrd t (.inr h)) (.inl ⟨hcl,he⟩)
  ·rename_i x1 x2 hcl ha
   have ha':cl.args = #[x1,x2]:=by rw [← Array.toArray_toList (xs:=cl.args),ha]
   split at hc<;>subst hc
   case h_2=>cases hcalm
   rename_i y1 y2 h1 h2
   simp only [AOp.rd,List.mem_append] at hrd
   exact does_minmax R hop ha' hd h1 h2 (fun t h=>hrd t (.inl h)) (fun t h=>hrd t (.inr h)) (.inr ⟨hcl,he⟩)
  ·split at hc<;>subst hc<;>cases hcalm
  ·split at hc<;>subst hc<;>cases hcalm
  ·subst hc;cases hcalm
 all_goals (simp only [hop] at hc;subst hc;cases hcalm)
end
end Go.AL
namespace Go.AL
open Go.RowKit
def NoU:Nat→Prop:=fun _=>False
def Stable (GI:World→Prop):Prop:=∀ w w',GI w→Below w.heap.size w w'→GI w'
def AOpr.ok (n:Nat) (o:AOpr):Bool :=
 (match o.dst with | some d=>decide (d < n) && !o.op.rd.contains d | none=>true) &&
 (match o.guard with | some (t,_)=>decide (t < n) | none=>true)
def AOp.lays:AOp→Bool
 |.alloc .. | .box .. => true
 |_=>false
def AOpr.lays (o:AOpr):List Nat:=if o.op.lays then o.dst.toList else []
def dstOf (ops:Array Oper) (j:Nat):Option Nat:=(ops[j]?).bind (·.dst)
def taken (ops:Array Oper) (d:Nat):Bool :=
 ops.any fun o=>match o.op with
  |.call { callee := .builtin .append,args,.. }=>match args.toList with
   |.tmp t::_=>t==d
   |_=>false
  |_=>false
def rootOf (ops:Array Oper):Nat→Operand→HR
 |k+1,.tmp t=>match ops.toList.find? (fun o=>o.dst==some t) with
  |some o=>match o.op with
   |.fieldAddr _ x _=>rootOf ops k x
   |.indexAddr .. => .ref
   |.alloc _ => .box t
   |_ => .any
  |none => .box t
 |_,_ => .any
def hrOf (ops:Array Oper) (o:Oper):HR :=
 match o.op with
 |.load _ x | .store _ x _=>rootOf ops 10 x
 |_ => .any
def compOpr (P:Program) (n:Nat) (dr:Bool) (ops:Array Oper) (o:Oper):AOpr:={
 dst:=o.dst
 guard:=match o.guard with
  |some (j,b)=>match dstOf ops j with
   |some t=>some (t,b)
   |none=>some (n,b)
  |none=>none
 op:=comp P n (match o.dst with | some d=>taken ops d | none=>false) (if dr then hrOf ops o else .any) o }
def compOps (P:Program) (n:Nat) (dr:Bool) (ops:Array Oper):List AOpr:=ops.toList.map (compOpr P n dr ops)
def awanted (S:Slots):Option (Nat×Bool)→Option Bool
 |none=>some true
 |some (t,b)=>match S t with
  |.bool c=>some (c==b)
  |.tup []=>some false
  |_=>none
def aops (P:Program) (GI:World→Prop):List AOpr→(Slots→Boxes→Prop)→(AV→Prop)→Slots→Boxes→Prop
 |[],K,_,S,H=>K S H
 |o::rest,K,Qp,S,H=>match awanted S o.guard with
  |some true=>astep P GI o.op o.dst (aops P GI rest K Qp) Qp S H
  |some false=>aops P GI rest K Qp (putD S o.dst undefA) H
  |none=>False
section
variable {P:Program} {GI:World→Prop} {w0:World} {n:Nat} {U:Nat→Prop} {g:Gh} {S:Slots} {H:Boxes} {a:Act} {w:World}
theorem Does.wp {o:Oper} {e:Eff} (h:Does P w0 n U g S H a w o e) {K:Act→World→Prop} {Q:Exit→Act→World→Prop}
  (hK:∀ g' a' w',g'.base=g.base→g'.old=g.old→Rel P w0 n U g' (e.S S o.dst) (e.H H) a' w'→K a' w'):o.wp P a w K Q:=by
 obtain ⟨c,w',g',hr,h1,h2,R⟩:=h
 unfold Oper.wp
 rcases hr with hr | ⟨hr,rfl⟩
 ·rw [hr];exact hK g' _ _ h1 h2 R
 ·rw [hr];exact hK g' _ _ h1 h2 R
theorem run_resolve_func {a:Act} {cl:Call} {f:Operand} {t:TypeId} (hc:cl.callee = .value f):resolve a.eval cl t=Deferred.ofValue (a.eval f) (cl.args.map a.eval):=by
 unfold resolve;rw [hc]
theorem acall_wp (R:Rel P w0 n U g S H a w) (hG:Stable GI) (hG0:GI w0) {f:Nat} {args:List AV} {cargs:Array Value} {bx:Bool} {KA:AV→Prop} {Qp:AV→Prop}
  (hl:args.length=cargs.size) (hr:∀ i (h:i < args.length) (h':i < cargs.size),RV (callOld g bx) (fun _=>none) w args[i] cargs[i])
  (h:acall P GI f args bx KA Qp) (dst:Option Nat) (hd:∀ t,dst=some t→t < n∧¬ U t) {Kc:Act→World→Prop} {Qc:Exit→Act→World→Prop}
  (hK:∀ v g' a' w',g'.base=g.base→g'.old=g.old→Rel P w0 n U g' (putD S dst v) H a' w'→KA v→Kc a' w')
  (hP:∀ v c hi w',Below w0.heap.size w0 w'→(∀ b,w'.heap.size≤b→hi b=0)→RD (prOf w0.heap.size g.old.c hi) w' v c→Qp v→Qc (.panic [{ v:=c,recovered:=false }]) a w') :
  callable P f=true∧Calls P f cargs w (fun | .returned v,w''=>Kc (a.put dst v) w'' | .panicked chain,w''=>Qc (.panic chain) a w'' | .outgrown,_=>LetsOut Qc):=by
 obtain ⟨out,hcb,hac,hbx,hout⟩:=h
 have hle:g.base≤w.heap.size:=by rw [R.base];exact R.below.size
 have hGw:GI w:=by
  have hb:=R.below
  rw [R.base] at hb
  exact hG w0 w hG0 hb
 refine ⟨hcb,(hac w (callOld g bx) cargs hGw hl hr).mono ?_⟩
 rintro e w' ⟨hb,hi,hfresh,hh⟩
 cases out with
 |ret v =>
  obtain ⟨c,rfl,h1,h2⟩:=hh
  obtain ⟨g',e1,e2,R'⟩:=R.call dst hd bx hb hfresh h1 h2 (fun hx=>hbx hx)
  exact hK v g' _ _ e1 e2 R' hout
 |panic v =>
  obtain ⟨c,rfl,h1⟩:=hh
  have hbxf:bx=false:=by
   cases bx with
   |false=>rfl
   |true=>have:=hbx rfl;cases this
  subst hbxf
  have hb0:=R.below
  rw [R.base] at hb0 hle
  refine hP v c (fun b=>if b < w.heap.size then g.hi b else hi b) w' (hb0.trans (hb.mono hle)) (fun b hbb => ?_) ?_ hout
  ·have:=hb.size
   show (if b < w.heap.size then g.hi b else hi b)=0
   rw [if_neg (by omega)];exact hfresh b hbb
  ·refine h1.mono (Keeps.same fun b k _ hp => ?_)
   rcases hp with ⟨k1,k2⟩ | ⟨k1,k2⟩
   ·rcases k2 with k2 | ⟨k2,_⟩
    ·rcases k2 with k2 | k2
     ·exact .inl (by rw [← R.base];exact k2)
     ·exact .inr ⟨by rw [← R.base];exact k2.1,by show k < (if b < w.heap.size then g.hi b else hi b);rw [if_pos k1];exact k2.2⟩
    ·cases k2
   ·exact .inr ⟨by omega,by show k < (if b < w.heap.size then g.hi b else hi b);rw [if_neg (by omega)];exact k2⟩
theorem noU_back (d:Nat):(fun t=>(NoU t∨t=d)∧t≠d)=NoU:=by
 funext t
 simp only [NoU,false_or,eq_iff_iff,iff_false,not_and,Classical.not_not]
 exact id
theorem newBox_wp (R:Rel P w0 n NoU g S H a w) {o:Oper} {d:Nat} (hdst:o.dst=some d) (hd:d < n) (hbx:¬ g.old.bx d) {ty:TypeId} {vs:Array Value} {cs:List AV}
  (hrun:(execOp a.eval o).run P w = .ok (.value (.pointer (some ⟨w.heap.size,0,none⟩))) (w.alloc (.cells vs ty))) (hr:RDs g.Pr w cs vs)
  (ho:∀ (g':Gh) j (h:j < cs.length) (h':j < vs.size),(cs[j]).noOwn∧OwnAt P w g' (.cell d j) cs[j] vs[j])
  {Kc:Act→World→Prop} {Qc:Exit→Act→World→Prop}
  (hK:∀ g' a' w',g'.base=g.base→g'.old=g.old→Rel P w0 n NoU g' (upd (fun t=>scrub d (S t)) d (.box d 0)) (upd H d (some cs)) a' w'→Kc a' w'):o.wp P a w Kc Qc:=by
 have R1:=R.suspend d hbx (.box d 0) cs
 have R2:=R1.newBox d (.inr rfl) hd cs vs ty (upd_same _ _ _) (upd_same _ _ _) hr.1 hr.2.1 (fun j h h'=>ho _ j h h') hr.2.2
 unfold Oper.wp
 rw [hrun]
 show Kc _ _
 rw [hdst]
 rw [noU_back] at R2
 exact hK { g with al:=upd (upd g.al d none) d (some w.heap.size) } _ _ rfl rfl R2
theorem comp_alloc {o:Oper} {tk:Bool} {hr:HR} {t:TypeId} {cs:List AV} (h:comp P n tk hr o = .alloc t cs):o.op = .alloc t∧zeroCells P t=some cs:=by
 unfold comp at h
 repeat' split at h
 all_goals first
  |(cases h;done)
  |(cases h;exact ⟨by assumption,by assumption⟩)
theorem comp_box {o:Oper} {tk:Bool} {hr:HR} {t:TypeId} {size:Nat} {x:Opd} (h:comp P n tk hr o = .box t size x):∃ x',o.op = .box t x'∧opd n x'=some x:=by
 unfold comp at h
 repeat' split at h
 all_goals first
  |(cases h;done)
  |(cases h;exact ⟨_,by assumption,by assumption⟩)
theorem comp_panic {o:Oper} {tk:Bool} {hr:HR} {x:Opd} (h:comp P n tk hr o = .panic x):∃ x',o.op = .panic x'∧opd n x'=some x:=by
 unfold comp at h
 repeat' split at h
 all_goals first
  |(cases h;done)
  |(cases h;exact ⟨_,by assumption,by assumption⟩)
theorem opd_f {x:Operand} {f:Nat} (h:opd n x=some (.f f)):x = .func f:=by
 cases x<;>simp only [opd] at h
 ·split at h<;>cases h
 ·simp only [Option.map_eq_some_iff] at h;obtain ⟨_,_,h⟩:=h;cases h
 ·cases h
 ·cases h;rfl
theorem comp_call {o:Oper} {tk:Bool} {hr:HR} {f:Nat} {args:List Opd} (h:comp P n tk hr o = .call f args):∃ cl,o.op = .call cl∧cl.callee = .value (.func f)∧opds n cl.args.toList=some args:=by
 unfold comp at h
 repeat' split at h
 all_goals first
  |(cases h;done)
  |skip
 cases h
 rename_i h1 h2
 have e:=opd_f h1
 subst e
 exact ⟨_,by assumption,by assumption,h2⟩
theorem comp_callv {o:Oper} {tk:Bool} {hr:HR} {f:Opd} {args:List Opd} (h:comp P n tk hr o = .callv f args) :
  (∃ cl f',o.op = .call cl∧cl.callee = .value f'∧opd n f'=some f∧opds n cl.args.toList=some args) ∨
  ∃ cl r name t,o.op = .call cl∧cl.callee = .invoke r name∧opd n r=some (.t t)∧f = .m t (mtab P name)∧opds n cl.args.toList=some args:=by
 unfold comp at h
 repeat' split at h
 all_goals first
  |(cases h;done)
  |skip
 ·cases h
  exact .inl ⟨_,_,by assumption,by assumption,by assumption,by assumption⟩
 ·cases h
  exact .inr ⟨_,_,_,_,by assumption,by assumption,by assumption,rfl,by assumption⟩
theorem arr_first (x:Value) (l:Array Value):(#[x]++l)[0]? = some x:=by
 rw [Array.getElem?_append_left (by simp)];rfl
theorem arr_rest (x:Value) (l:Array Value):(#[x]++l).extract 1 (#[x]++l).size=l:=by
 apply Array.ext'
 simp
theorem opcall_wp (R:Rel P w0 n U g S H a w) (hG:Stable GI) (hG0:GI w0) {o:Oper} {tk:Bool} {hr:HR} {f:Nat} {args:List Opd} (hc:comp P n tk hr o = .call f args) (hd:∀ t,o.dst=some t→t < n∧¬ U t) (hu:∀ t∈(AOp.call f args).rd,¬ U t)
  {KA:AV→Prop} {Qp:AV→Prop} (h:acall P GI f (args.map fun y=>fz H (AL.ev S y)) (args.any fun y=>boxy (AL.ev S y)) KA Qp) {Kc:Act→World→Prop} {Qc:Exit→Act→World→Prop}
  (hK:∀ v g' a' w',g'.base=g.base→g'.old=g.old→Rel P w0 n U g' (putD S o.dst v) H a' w'→KA v→Kc a' w')
  (hP:∀ v c hi w',Below w0.heap.size w0 w'→(∀ b,w'.heap.size≤b→hi b=0)→RD (prOf w0.heap.size g.old.c hi) w' v c→Qp v→Qc (.panic [{ v:=c,recovered:=false }]) a w'):o.wp P a w Kc Qc:=by
 obtain ⟨cl,hop,hcal,hargs⟩:=comp_call hc
 obtain ⟨l1,r1⟩:=R.evs hargs (fun y hy t ht=>hu t (List.mem_flatMap.2 ⟨y,hy,ht⟩))
 obtain ⟨hcb,hcalls⟩:=acall_wp R hG hG0 (cargs:=cl.args.map a.eval) (by simpa using l1) (fun i hi hi'=>by
  simp only [List.length_map] at hi
  simp only [List.getElem_map,Array.getElem_map]
  have:=r1 i hi (by simpa using hi')
  refine R.fz (by simpa using this) _ fun hb => ?_
  exact List.any_eq_true.2 ⟨_,List.getElem_mem hi,hb⟩) h o.dst hd (Kc:=Kc) (Qc:=Qc) hK hP
 have hevf:a.eval (.func f) = .func (.func f) #[] #[]:=rfl
 unfold Oper.wp execOp
 simp only [hop,run_resolve_func hcal,hevf,Deferred.ofValue,Sem.run_bind,Sem.run_pure,Result.andThen_ok,invoke,Array.empty_append,Array.append_empty]
 rw [run_callFunc hcb]
 exact hcalls
theorem opcallv_wp (R:Rel P w0 n U g S H a w) (hG:Stable GI) (hG0:GI w0) {o:Oper} {tk:Bool} {hr:HR} {f:Opd} {args:List Opd} (hc:comp P n tk hr o = .callv f args) (hd:∀ t,o.dst=some t→t < n∧¬ U t) (hu:∀ t∈(AOp.callv f args).rd,¬ U t)
  {k:Nat} {first cap:List AV} (hfk:AL.ev S f = .func (.func k) first cap)
  {KA:AV→Prop} {Qp:AV→Prop} (h:acall P GI k ((first++args.map (AL.ev S)++cap).map (fz H)) ((first++args.map (AL.ev S)++cap).any boxy) KA Qp) {Kc:Act→World→Prop} {Qc:Exit→Act→World→Prop}
  (hK:∀ v g' a' w',g'.base=g.base→g'.old=g.old→Rel P w0 n U g' (putD S o.dst v) H a' w'→KA v→Kc a' w')
  (hP:∀ v c hi w',Below w0.heap.size w0 w'→(∀ b,w'.heap.size≤b→hi b=0)→RD (prOf w0.heap.size g.old.c hi) w' v c→Qp v→Qc (.panic [{ v:=c,recovered:=false }]) a w'):o.wp P a w Kc Qc:=by
 simp only [AOp.rd,List.mem_append,List.mem_flatMap] at hu
 rcases comp_callv hc with ⟨cl,f',hop,hcal,hf,hargs⟩ | ⟨cl,r,name,t,hop,hcal,hr',rfl,hargs⟩
 case inr =>
  obtain ⟨l1,r1⟩:=R.evs hargs (fun y hy t ht=>hu t (.inr ⟨y,hy,ht⟩))
  have hvr:=R.ev hr' (fun t' ht=>hu t' (.inl (by simpa [Opd.tmps] using ht)))
  simp only [AL.ev] at hfk hvr
  generalize hS:S t=sv at hfk hvr
  split at hfk
  case h_2=>cases hfk
  rename_i ty v
  split at hfk
  case h_2=>cases hfk
  rename_i k' hk
  cases hfk
  generalize hcr:a.eval r=cr at hvr
  have hvr:=hvr.toData rfl
  cases hvr with
  |iface _ _ cv hv =>
  simp only [List.singleton_append,List.append_nil] at h
  obtain ⟨hcb,hcalls⟩:=acall_wp R hG hG0 (cargs := #[cv]++cl.args.map a.eval) (by simp at l1 ⊢;omega) (fun i hi hi'=>by
   simp only [List.length_map] at hi
   simp only [List.getElem_map]
   refine R.fz ?_ _ fun hb => ?_
   ·cases i with
    |zero =>
     have e2:(#[cv]++cl.args.map a.eval)[0]=cv:=by rw [Array.getElem_append_left (by simp)];rfl
     simp only [List.getElem_cons_zero]
     rw [e2]
     exact .data _ _ hv
    |succ i =>
     have e2:(#[cv]++cl.args.map a.eval)[i+1]=a.eval (cl.args.toList[i]'(by simp at hi' l1 ⊢;omega)):=by
      rw [Array.getElem_append_right (by simp)]
      simp
     simp only [List.getElem_cons_succ,List.getElem_map]
     rw [e2]
     exact r1 i (by simpa using hi) (by simp at hi' l1 ⊢;omega)
   ·exact List.any_eq_true.2 ⟨_,List.getElem_mem hi,hb⟩) h o.dst hd (Kc:=Kc) (Qc:=Qc) hK hP
  have hm:=run_method (v:=cv) (w:=w) hk
  unfold Oper.wp execOp
  simp only [hop]
  have hres:(resolve a.eval cl o.type).run P w = .ok { target := .fn (.method name) #[],args := #[.iface ty cv]++cl.args.map a.eval } w:=by
   unfold resolve
   rw [hcal]
   simp [hcr]
  simp only [Sem.run_bind,hres,Result.andThen_ok,invoke,arr_first,callMethod,arr_rest,hm,run_program]
  rw [run_callFunc hcb]
  simp only [Oper.upon]
  exact hcalls
 obtain ⟨l1,r1⟩:=R.evs hargs (fun y hy t ht=>hu t (.inr ⟨y,hy,ht⟩))
 have hvf:=R.ev hf (fun t ht=>hu t (.inl ht))
 rw [hfk] at hvf
 generalize hcf:a.eval f'=cf at hvf
 cases hvf with
 |data _ _ hh=>cases hh
 |func _ _ _ vs us q1 q2 q3 q4 =>
  have hall:∀ i (hi:i < (first++args.map (AL.ev S)++cap).length) (hi':i < (vs++cl.args.map a.eval++us).size),RV g.Pr g.al w (first++args.map (AL.ev S)++cap)[i] (vs++cl.args.map a.eval++us)[i]:=by
   intro i hi hi'
   simp only [List.length_append,List.length_map] at hi
   simp only [Array.length_toList] at l1
   by_cases c1:i < first.length
   ·have e1:(first++args.map (AL.ev S)++cap)[i]=first[i]:=by rw [List.getElem_append_left (by simp;omega),List.getElem_append_left c1]
    have e2:(vs++cl.args.map a.eval++us)[i]=vs[i]:=by rw [Array.getElem_append_left (by simp;omega),Array.getElem_append_left (by omega)]
    rw [e1,e2];exact q3 i c1 (by omega)
   ·by_cases c2:i < first.length+args.length
    ·have e1:(first++args.map (AL.ev S)++cap)[i]=AL.ev S (args[i - first.length]):=by rw [List.getElem_append_left (by simp;omega),List.getElem_append_right (by omega)];simp
     have e2:(vs++cl.args.map a.eval++us)[i]=a.eval (cl.args.toList[i - first.length]'(by simp;omega)):=by
      rw [Array.getElem_append_left (by simp;omega),Array.getElem_append_right (by omega)]
      simp [q1]
     rw [e1,e2];exact r1 _ (by omega) (by simp;omega)
    ·have e1:(first++args.map (AL.ev S)++cap)[i]=cap[i - (first.length+args.length)]'(by omega):=by rw [List.getElem_append_right (by simp;omega)];simp
     have e2:(vs++cl.args.map a.eval++us)[i]=us[i - (first.length+args.length)]'(by omega):=by
      rw [Array.getElem_append_right (by simp;omega)]
      simp [q1,l1]
     rw [e1,e2];exact q4 _ (by omega) (by omega)
  obtain ⟨hcb,hcalls⟩:=acall_wp R hG hG0 (cargs:=vs++cl.args.map a.eval++us) (by simp at l1 ⊢;omega) (fun i hi hi'=>by
   simp only [List.length_map] at hi
   simp only [List.getElem_map]
   refine R.fz (hall i hi hi') _ fun hb => ?_
   exact List.any_eq_true.2 ⟨_,List.getElem_mem hi,hb⟩) h o.dst hd (Kc:=Kc) (Qc:=Qc) hK hP
  unfold Oper.wp execOp
  simp only [hop,run_resolve_func hcal,hcf,Deferred.ofValue,Sem.run_bind,Sem.run_pure,Result.andThen_ok,invoke]
  rw [run_callFunc hcb]
  simp only [Oper.upon]
  exact hcalls
theorem astep_wp (R:Rel P w0 n NoU g S H a w) (hG:Stable GI) (hG0:GI w0) {o:Oper} {tk:Bool} {hr:HR} (hd:∀ t,o.dst=some t→t < n) (hds:∀ t,o.dst=some t→t∉(comp P n tk hr o).rd) (hbx:∀ d,o.dst=some d→(comp P n tk hr o).lays=true→¬ g.old.bx d)
  {K:Slots→Boxes→Prop} {Qp:AV→Prop} (h:astep P GI (comp P n tk hr o) o.dst K Qp S H) {Kc:Act→World→Prop} {Qc:Exit→Act→World→Prop}
  (hK:∀ g' S' H' a' w',g'.base=g.base→g'.old=g.old→Rel P w0 n NoU g' S' H' a' w'→K S' H'→Kc a' w')
  (hP:∀ v c hi w',Below w0.heap.size w0 w'→(∀ b,w'.heap.size≤b→hi b=0)→RD (prOf w0.heap.size g.old.c hi) w' v c→Qp v→Qc (.panic [{ v:=c,recovered:=false }]) a w') :
  o.wp P a w Kc Qc:=by
 by_cases hcalm:(comp P n tk hr o).calm=true
 ·rw [astep_calm hcalm] at h
  split at h
  case h_2=>exact h.elim
  rename_i e he
  exact (does_calm R rfl hcalm (fun t ht=>⟨hd t ht,id⟩) (fun _ _=>id) hds he).wp fun g' a' w' h1 h2 R'=>hK g' _ _ _ _ h1 h2 R' h
 ·generalize hc:comp P n tk hr o=op at h hcalm hds hbx
  cases op<;>try (exact absurd rfl hcalm)
  case alloc t cs =>
   simp only [astep] at h
   cases hdst:o.dst with
   |none=>rw [hdst] at h;exact h.elim
   |some d =>
    rw [hdst] at h
    obtain ⟨hop,hz⟩:=comp_alloc hc
    unfold zeroCells at hz
    split at hz
    case h_2=>cases hz
    rename_i it hi
    split at hz
    case h_2=>cases hz
    rename_i z hzz
    obtain ⟨h1,h2,h3⟩:=constCells_rds g.Pr w hz
    refine newBox_wp R hdst (hd d hdst) (hbx d hdst rfl) (vs:=z.cells) (ty:=t) (cs:=cs) ?_ (by simpa using h1) (fun g' j hj hj'=>⟨h2 _ (List.getElem_mem hj),by have:=h3 P g' (.cell d) j hj (by simpa using hj');rwa [Array.getElem_toList] at this⟩) fun g' a' w' e1 e2 R'=>hK g' _ _ _ _ e1 e2 R' h
    unfold execOp
    simp [hop,Instr.alloc,zeroValue,typeInfo,hi,hzz,newVar,newRow]
  case box t size x =>
   simp only [astep] at h
   cases hdst:o.dst with
   |none=>rw [hdst] at h;exact h.elim
   |some d =>
    rw [hdst] at h
    obtain ⟨hs1,hs2,hk⟩:=h
    obtain ⟨x',hop,hx⟩:=comp_box hc
    have hv:=(R.ev hx (fun _ _=>id)).toData (AV.storable_data hs2)
    have hrd:=hv.rds hs2
    have hrd':RDs g.Pr w ((AL.ev S x).cells.map AV.dem) (a.eval x').cells:=by
     refine RDs.mk' (by simpa using hrd.1) (fun i v c e1 e2 => ?_) (fun i v e1 => ?_)
     ·simp only [List.getElem?_map,Option.map_eq_some_iff] at e1
      obtain ⟨u,h1,rfl⟩:=e1
      exact (hrd.get h1 e2).dem
     ·simp only [List.getElem?_map,Option.map_eq_some_iff] at e1
      obtain ⟨u,h1,rfl⟩:=e1
      exact (AV.one_dem _).trans (hrd.one h1)
    refine newBox_wp R hdst (hd d hdst) (hbx d hdst rfl) (vs:=(a.eval x').cells) (ty:=t) ?_ hrd' (fun g' j hj hj'=>⟨by simp only [List.getElem_map];exact AV.noOwn_dem _,by simp only [List.getElem_map];exact ownAt_dem _ _ _⟩) fun g' a' w' e1 e2 R'=>hK g' _ _ _ _ e1 e2 R' hk
    unfold execOp
    simp [hop,Instr.box,newVar,newRow]
  case panic x =>
   simp only [astep] at h
   obtain ⟨x',hop,hx⟩:=comp_panic hc
   have hv:=R.ev hx (fun _ _=>id)
   generalize AL.ev S x=v at h hv
   generalize hcx:a.eval x'=c at hv
   cases v<;>try exact h.elim
   rename_i t v
   cases hv
   rename_i hv
   have hv':=hv
   cases hv'
   rename_i c' hv'
   unfold Oper.wp execOp
   simp only [hop,hcx,Instr.panic,Sem.run_bind,run_goPanic,Result.andThen_halt]
   have hb0:=R.below
   rw [R.base] at hb0
   refine hP (.iface t v) (.iface t c') g.hi w hb0 (fun b hb=>(R.fresh b hb).1) ?_ h
   rw [← R.base]
   exact hv
  case call f args =>
   exact opcall_wp R hG hG0 hc (fun t ht=>⟨hd t ht,id⟩) (fun _ _=>id) h (fun v g' a' w' e1 e2 R' hk=>hK g' _ _ _ _ e1 e2 R' hk) hP
  case callv f args =>
   simp only [astep] at h
   split at h
   case h_2=>exact h.elim
   rename_i k first cap hfk
   exact opcallv_wp R hG hG0 hc (fun t ht=>⟨hd t ht,id⟩) (fun _ _=>id) hfk h (fun v g' a' w' e1 e2 R' hk=>hK g' _ _ _ _ e1 e2 R' hk) hP
  case other=>exact h.elim
end
end Go.AL
namespace Go.AL
open Go.RowKit
section
variable {P:Program} {GI:World→Prop} {w0:World} {n:Nat} {U:Nat→Prop} {g:Gh} {S:Slots} {H:Boxes} {a:Act} {w:World}
inductive AExit where
 |normal | exit (id:Nat) | ret | panic (v:AV)
def QQ (P:Program) (w0:World) (n:Nat) (old:Old) (Q:AExit→Slots→Boxes→Prop):Exit→Act→World→Prop
 |.normal,a,w=>∃ g S H,g.old=old∧Rel P w0 n NoU g S H a w∧Q .normal S H
 |.exit id,a,w=>∃ g S H,g.old=old∧Rel P w0 n NoU g S H a w∧Q (.exit id) S H
 |.ret,a,w=>∃ g S H,g.old=old∧Rel P w0 n NoU g S H a w∧Q .ret S H
 |.panic chain,a,w=>a.defers=old.ds∧∃ v c hi S H,chain=[{ v:=c,recovered:=false }]∧Below w0.heap.size w0 w∧(∀ b,w.heap.size≤b→hi b=0)∧RD (prOf w0.heap.size old.c hi) w v c∧Q (.panic v) S H
 |_,_,_=>False
theorem undefRD (Pr:Nat→Nat→Prop) (w:World):RD Pr w undefA undef := .tup [] #[] rfl fun i h=>by simp at h
theorem Rel.skipped (R:Rel P w0 n U g S H a w) (dst:Option Nat) (hd:∀ t,dst=some t→t < n):Rel P w0 n U g (Go.AL.putD S dst undefA) H (a.put dst undef) w :=
 R.putD dst _ _ hd (.data _ _ (undefRD _ _)) fun _ _=>trivial
theorem wanted_of (R:Rel P w0 n U g S H a w) {dr:Bool} {ops:Array Oper} {o:Oper} {b:Bool} (hu:∀ t b,(compOpr P n dr ops o).guard=some (t,b)→¬ U t)
  (hok:(compOpr P n dr ops o).ok n=true) (h:awanted S (compOpr P n dr ops o).guard=some b):Region.wanted o (yielded ops a.tmps)=b:=by
 unfold Region.wanted
 simp only [compOpr] at hok h hu
 cases hg:o.guard with
 |none =>
  rw [hg] at h
  simp only [awanted,Option.some.injEq] at h
  exact h
 |some p =>
  obtain ⟨j,want⟩:=p
  rw [hg] at h hok hu
  simp only at h hok hu ⊢
  cases hj:dstOf ops j with
  |none =>
   rw [hj] at hok
   simp only [AOpr.ok,Bool.and_eq_true,decide_eq_true_eq] at hok
   omega
  |some t =>
   rw [hj] at h hok hu
   simp only [AOpr.ok,Bool.and_eq_true,decide_eq_true_eq] at hok
   have ht:t < n:=hok.2
   have hs:=R.slot t ht (hu t want rfl)
   have hy:yielded ops a.tmps j=(match a.tmps.getD t undef with | .bool b=>some b | _=>none):=by
    unfold yielded
    unfold dstOf at hj
    rw [hj]
    have:t < a.tmps.size:=by rw [R.size];exact ht
    simp [this]
    split<;>simp_all
   rw [hy]
   simp only [awanted] at h
   generalize S t=v at h hs
   generalize a.tmps.getD t undef=c at hs
   split at h
   ·cases h
    cases hs;rename_i hs;cases hs
    rename_i c'
    cases c'<;>cases want<;>rfl
   ·cases h
    cases hs;rename_i hs
    cases hs
    simp_all
   ·cases h
theorem aops_wp (hG:Stable GI) (hG0:GI w0) {old:Old} {ops:Array Oper} {Q:AExit→Slots→Boxes→Prop} {S0:Slots} {H0:Boxes} :
  ∀ (l:List Nat) (os:List Oper) (g:Gh) (S:Slots) (H:Boxes) (a:Act) (w:World),l.map (ops[·]?)=os.map some→(∀ o∈os,(compOpr P n false ops o).ok n=true)→(∀ o∈os,∀ d∈(compOpr P n false ops o).lays,¬ old.bx d)→g.old=old→Rel P w0 n NoU g S H a w →
   aops P GI (os.map (compOpr P n false ops)) (Q .normal) (fun v=>Q (.panic v) S0 H0) S H→wpOps P ops (QQ P w0 n old Q) l a w
 |[],os,g,S,H,a,w,hl,_,_,ho,R,h=>by
  have:os=[]:=by cases os with | nil=>rfl | cons=>simp at hl
  subst this
  exact ⟨g,S,H,ho,R,h⟩
 |i::l,os,g,S,H,a,w,hl,hok,hbx,ho,R,h=>by
  cases os with
  |nil=>simp at hl
  |cons o os =>
   simp only [List.map_cons,List.cons.injEq] at hl
   obtain ⟨hi,hl⟩:=hl
   have hoko:=hok o List.mem_cons_self
   simp only [List.map_cons,aops] at h
   simp only [wpOps,hi]
   have hdn:∀ t,o.dst=some t→t < n∧t∉(compOpr P n false ops o).op.rd:=by
    intro t ht
    simp only [AOpr.ok,Bool.and_eq_true] at hoko
    have h1:=hoko.1
    rw [show (compOpr P n false ops o).dst=o.dst from rfl,ht] at h1
    simpa using h1
   cases hw:awanted S (compOpr P n false ops o).guard with
   |none=>rw [hw] at h;exact h.elim
   |some b =>
    rw [hw] at h
    rw [wanted_of R (fun _ _ _=>id) hoko hw]
    cases b with
    |true =>
     simp only [if_true]
     refine .inl (astep_wp R hG hG0 (fun t ht=>(hdn t ht).1) (fun t ht=>(hdn t ht).2) (fun d hd hl=>by rw [ho];exact hbx o List.mem_cons_self d (by have:(compOpr P n false ops o).op.lays=true:=hl;simp only [AOpr.lays,this,if_true];rw [show (compOpr P n false ops o).dst=o.dst from rfl,hd];simp)) h (fun g' S' H' a' w' e1 e2 R' hk=>aops_wp hG hG0 l os g' S' H' a' w' hl (fun o ho=>hok o (List.mem_cons_of_mem _ ho)) (fun o ho=>hbx o (List.mem_cons_of_mem _ ho)) (e2.trans ho) R' hk) ?_)
     intro v c hi w' k1 k2 k3 k4
     exact ⟨by rw [← ho];exact R.defers,v,c,hi,S0,H0,rfl,k1,k2,by rw [← ho];exact k3,k4⟩
    |false =>
     simp only [Bool.false_eq_true,if_false]
     exact aops_wp hG hG0 l os g _ H _ w hl (fun o ho=>hok o (List.mem_cons_of_mem _ ho)) (fun o ho=>hbx o (List.mem_cons_of_mem _ ho)) ho (R.skipped o.dst fun t ht=>(hdn t ht).1) h
theorem region_wp (hG:Stable GI) (hG0:GI w0) {old:Old} {id:Nat} {ops:Array Oper} {Q:AExit→Slots→Boxes→Prop} (hok:(compOps P n false ops).all (·.ok n)=true) (hbx:∀ o∈compOps P n false ops,∀ d∈o.lays,¬ old.bx d) (ho:g.old=old) (R:Rel P w0 n NoU g S H a w)
  (h:aops P GI (compOps P n false ops) (Q .normal) (fun v=>Q (.panic v) S H) S H):(Code.region id ops false).wp P (QQ P w0 n old Q) a w:=by
 refine wp_region (aops_wp hG hG0 (S0:=S) (H0:=H) (List.range ops.size) ops.toList g S H a w ?_ (fun o hoo => ?_) (fun o hoo=>hbx _ (List.mem_map_of_mem hoo)) ho R h)
 ·apply List.ext_getElem?
  intro i
  simp only [List.getElem?_map]
  by_cases hi:i < ops.size
  ·simp [hi]
  ·simp [hi]
 ·simp only [compOps,List.all_map,List.all_eq_true,Function.comp] at hok
  exact hok o hoo
end
end Go.AL
namespace Go.AL
open Go.RowKit
inductive Acc where
 |no | rd (r:Option Nat) | soft (r:Option Nat) | wr (r:Option Nat)
def HR.one:HR→Option Nat
 |.box r=>some r
 |_=>none
def AOp.acc:AOp→Acc
 |.load .ref .. => .no
 |.load hr .. => .rd hr.one
 |.loadT hr _ => .soft hr.one
 |.store hr .. => .wr hr.one
 |_ => .no
def meets:Option Nat→Option Nat→Bool
 |some a,some b=>a==b
 |_,_=>true
def Acc.conflict:Acc→Acc→Bool
 |.no,_ | _,.no=>false
 |.rd _,.rd _ | .rd _,.soft _ | .soft _,.rd _=>false
 |.rd a,.wr b | .wr a,.rd b | .soft a,.soft b | .soft a,.wr b | .wr a,.soft b | .wr a,.wr b=>meets a b
def AOp.wr:AOp→List Nat
 |.mv true x=>x.tmps
 |.store _ _ _ x=>x.tmps
 |.append _ _ _ _ x _=>x.tmps
 |_=>[]
def AOpr.reads (o:AOpr):List Nat:=o.op.rd++(match o.guard with | some (t,_)=>[t] | none=>[])
def AOpr.writes (o:AOpr):List Nat:=o.dst.toList++o.op.wr
def AOpr.apart (x y:AOpr):Bool :=
 x.writes.all (fun t => !y.reads.contains t && !y.writes.contains t) && y.writes.all (fun t => !x.reads.contains t) && !x.op.acc.conflict y.op.acc
section
variable {P:Program} {GI:World→Prop}
def deff (P:Program) (GI:World→Prop) (op:AOp) (dst:Option Nat) (S:Slots) (H:Boxes) (e:Eff):Prop :=
 match op with
 |.alloc _ _=>match dst with
  |some d=>e={ v := .box d 0 }
  |none=>False
 |.call f args=>(args.any fun y=>boxy (ev S y))=false∧acall P GI f (args.map fun y=>fz H (ev S y)) (args.any fun y=>boxy (ev S y)) (fun v=>e={ v:=v }) (fun _=>False)
 |.callv f args=>match ev S f with
  |.func (.func k) first cap=>((first++args.map (ev S)++cap).any boxy)=false∧acall P GI k ((first++args.map (ev S)++cap).map (fz H)) ((first++args.map (ev S)++cap).any boxy) (fun v=>e={ v:=v }) (fun _=>False)
  |_=>False
 |.box .. | .panic _ | .other=>False
 |op=>apure S H op=some e
def dstep (P:Program) (GI:World→Prop) (op:AOp) (dst:Option Nat) (K:Slots→Boxes→Prop) (S:Slots) (H:Boxes):Prop :=
 match op with
 |.alloc _ _=>match dst with
  |some d=>K (upd S d (.box d 0)) H
  |none=>False
 |.box .. | .panic _ | .other=>False
 |.call f args=>(args.any fun y=>boxy (ev S y))=false∧astep P GI (.call f args) dst K (fun _=>False) S H
 |.callv f args=>(match ev S f with | .func _ first cap=>(first++args.map (ev S)++cap).any boxy | _=>true)=false∧astep P GI (.callv f args) dst K (fun _=>False) S H
 |op=>astep P GI op dst K (fun _=>False) S H
theorem deff_of_dstep {op:AOp} {dst:Option Nat} {K:Slots→Boxes→Prop} {S:Slots} {H:Boxes} (h:dstep P GI op dst K S H):∃ e,deff P GI op dst S H e∧K (e.S S dst) (e.H H):=by
 cases op
 case alloc t z =>
  cases dst with
  |none=>exact h.elim
  |some d=>exact ⟨_,rfl,h⟩
 case call f args =>
  obtain ⟨hb,out,h1,h2,h3,h4⟩:=h
  cases out with
  |ret v=>exact ⟨{ v:=v },⟨hb,.ret v,h1,h2,h3,rfl⟩,h4⟩
  |panic v=>exact h4.elim
 case callv f args =>
  simp only [dstep,astep] at h
  simp only [deff]
  obtain ⟨hb,h⟩:=h
  split at h
  ·rename_i k first cap hf
   rw [hf] at hb
   obtain ⟨out,h1,h2,h3,h4⟩:=h
   cases out with
   |ret v=>exact ⟨{ v:=v },by (try simp only [hf]);exact ⟨hb,.ret v,h1,h2,h3,rfl⟩,h4⟩
   |panic v=>exact h4.elim
  ·exact h.elim
 case box=>exact h.elim
 case panic=>exact h.elim
 case other=>exact h.elim
 all_goals
  simp only [dstep,astep] at h
  split at h
  case h_2=>exact h.elim
  rename_i e he
  exact ⟨e,he,h⟩
def dops (P:Program) (GI:World→Prop):List AOpr→(Slots→Boxes→Prop)→Slots→Boxes→Prop
 |[],K,S,H=>K S H
 |o::rest,K,S,H=>match awanted S o.guard with
  |some true=>dstep P GI o.op o.dst (dops P GI rest K) S H
  |some false=>dops P GI rest K (putD S o.dst undefA) H
  |none=>False
def yields (P:Program) (GI:World→Prop) (o:AOpr) (S:Slots) (H:Boxes) (e:Eff):Prop :=
 match awanted S o.guard with
 |some true=>deff P GI o.op o.dst S H e
 |some false=>e={ v:=undefA }
 |none=>False
theorem yields_of_dops {o:AOpr} {rest:List AOpr} {K:Slots→Boxes→Prop} {S:Slots} {H:Boxes} (h:dops P GI (o::rest) K S H) :
  ∃ e,yields P GI o S H e∧dops P GI rest K (e.S S o.dst) (e.H H):=by
 simp only [dops] at h
 unfold yields
 split at h
 ·exact deff_of_dstep h
 ·exact ⟨_,rfl,h⟩
 ·exact h.elim
theorem ev_congr {S S':Slots} {y:Opd} (h:∀ t∈y.tmps,S t=S' t):ev S y=ev S' y:=by
 cases y with
 |t k=>exact h k (by simp [Opd.tmps])
 |c v=>rfl
 |f k=>rfl
 |m k tab=>simp only [ev,h k (by simp [Opd.tmps])]
theorem evs_congr {S S':Slots} {ys:List Opd} (h:∀ y∈ys,∀ t∈y.tmps,S t=S' t):ys.map (ev S)=ys.map (ev S') :=
 List.map_congr_left fun y hy=>ev_congr (h y hy)
def Hok:Acc→Boxes→Boxes→Prop
 |.no,_,_=>True
 |.rd none,H,H'=>∀ i,(H i).map (·.map AV.dem)=(H' i).map (·.map AV.dem)
 |.rd (some r),H,H'=>(H r).map (·.map AV.dem)=(H' r).map (·.map AV.dem)
 |.soft none,H,H' | .wr none,H,H'=>H=H'
 |.soft (some r),H,H' | .wr (some r),H,H'=>H r=H' r
theorem loadA_dem {ag:Bool} {size off:Nat} {cs cs':List AV} (h:cs.map AV.dem=cs'.map AV.dem):loadA ag size (cs.drop off)=loadA ag size (cs'.drop off):=by
 have hl:cs.length=cs'.length:=by have:=congrArg List.length h;simpa using this
 have hd:(cs.drop off).map AV.dem=(cs'.drop off).map AV.dem:=by rw [List.map_drop,List.map_drop,h]
 generalize hx:cs.drop off=xs at hd
 generalize hy:cs'.drop off=ys at hd
 have hl2:xs.length=ys.length:=by have:=congrArg List.length hd;simpa using this
 unfold loadA
 have e1:(xs.take size).map AV.dem=(ys.take size).map AV.dem:=by rw [List.map_take,List.map_take,hd]
 have e2:(xs[0]?).map AV.dem=(ys[0]?).map AV.dem:=by
  have:=congrArg (·[0]?) hd
  simpa using this
 rw [e1,e2,hl2]
theorem apure_congr {S S':Slots} {H H':Boxes} {op:AOp} (hS:∀ t∈op.rd,S t=S' t) (hH:Hok op.acc H H'):apure S H op=apure S' H' op:=by
 cases op
 case build z ps =>
  have:(ps.map fun (o,s,x)=>(o,s,ev S x))=(ps.map fun (o,s,x)=>(o,s,ev S' x)) :=
   List.map_congr_left fun q hq=>by
    have:=ev_congr (S:=S) (S':=S') (y:=q.2.2) fun t ht=>hS t (List.mem_flatMap.2 ⟨q,hq,ht⟩)
    simp [this]
  simp only [apure,this]
 case buildSlice t e s ps =>
  have:=evs_congr (S:=S) (S':=S') (ys:=ps) fun y hy t ht=>hS t (List.mem_flatMap.2 ⟨y,hy,ht⟩)
  simp only [apure,this]
 case mkf fn f c =>
  simp only [AOp.rd,List.mem_append,List.mem_flatMap] at hS
  have h1:(f.map fun x=>(ev S x).dem)=(f.map fun x=>(ev S' x).dem):=List.map_congr_left fun y hy=>by rw [ev_congr fun t ht=>hS t (.inl ⟨y,hy,ht⟩)]
  have h2:(c.map fun x=>(ev S x).dem)=(c.map fun x=>(ev S' x).dem):=List.map_congr_left fun y hy=>by rw [ev_congr fun t ht=>hS t (.inr ⟨y,hy,ht⟩)]
  simp only [apure,h1,h2]
 case sliceS x lo hi =>
  simp only [AOp.rd,List.mem_append,List.mem_flatMap] at hS
  have h0:=ev_congr (S:=S) (S':=S') (y:=x) fun t ht=>hS t (.inl ht)
  have h1:lo.map (ev S)=lo.map (ev S'):=by cases lo with | none=>rfl | some y=>simp only [Option.map_some,Option.some.injEq];exact ev_congr fun t ht=>hS t (.inr ⟨y,.inl (by simp),ht⟩)
  have h2:hi.map (ev S)=hi.map (ev S'):=by cases hi with | none=>rfl | some y=>simp only [Option.map_some,Option.some.injEq];exact ev_congr fun t ht=>hS t (.inr ⟨y,.inr (by simp),ht⟩)
  simp only [apure,h0,h1,h2]
 case sliceL s x lo hi =>
  simp only [AOp.rd,List.mem_append,List.mem_flatMap] at hS
  have h0:=ev_congr (S:=S) (S':=S') (y:=x) fun t ht=>hS t (.inl ht)
  have h1:lo.map (ev S)=lo.map (ev S'):=by cases lo with | none=>rfl | some y=>simp only [Option.map_some,Option.some.injEq];exact ev_congr fun t ht=>hS t (.inr ⟨y,.inl (by simp),ht⟩)
  have h2:hi.map (ev S)=hi.map (ev S'):=by cases hi with | none=>rfl | some y=>simp only [Option.map_some,Option.some.injEq];exact ev_congr fun t ht=>hS t (.inr ⟨y,.inr (by simp),ht⟩)
  simp only [apure,h0,h1,h2]
 case load hr ag s x =>
  have e:=ev_congr (S:=S) (S':=S') (y:=x) hS
  simp only [apure,e]
  split
  ·rename_i i off he
   split
   case isFalse=>rfl
   rename_i hok
   have hd:(H i).map (·.map AV.dem)=(H' i).map (·.map AV.dem):=by
    cases hr with
    |any=>exact hH i
    |ref=>cases hok
    |box r =>
     have:i=r:=by simpa [HR.okB] using hok
     subst this
     exact hH
   cases h1:H i<;>cases h2:H' i<;>rw [h1,h2] at hd<;>simp only [Option.map_none,Option.map_some,reduceCtorEq,Option.some.injEq] at hd
   ·simp only [loadA_dem hd]
  ·rfl
  ·rfl
 case loadT hr x =>
  have e:=ev_congr (S:=S) (S':=S') (y:=x) hS
  simp only [apure,e]
  split
  ·rename_i i off he
   split
   case isFalse=>rfl
   rename_i hok
   have hd:H i=H' i:=by
    cases hr with
    |any=>cases (show H=H' from hH);rfl
    |ref=>cases hok
    |box r =>
     have:i=r:=by simpa [HR.okB] using hok
     subst this
     exact hH
   rw [hd]
  ·rfl
 case store hr s x y =>
  simp only [AOp.rd,List.mem_append] at hS
  have e1:=ev_congr (S:=S) (S':=S') (y:=x) fun t ht=>hS t (.inl ht)
  have e2:=ev_congr (S:=S) (S':=S') (y:=y) fun t ht=>hS t (.inr ht)
  simp only [apure,e1,e2]
  split
  ·rename_i i off he
   split
   case isFalse=>rfl
   rename_i hok
   have hd:H i=H' i:=by
    cases hr with
    |any=>cases (show H=H' from hH);rfl
    |ref=>cases hok
    |box r =>
     have:i=r:=by simpa [HR.okB] using hok
     subst this
     exact hH
   rw [hd]
  ·rfl
 case pick x y z =>
  simp only [AOp.rd,List.mem_append] at hS
  simp only [apure,ev_congr fun t ht=>hS t (.inl (.inl ht)),ev_congr fun t ht=>hS t (.inl (.inr ht)),ev_congr fun t ht=>hS t (.inr ht)]
 case bin=>simp only [AOp.rd,List.mem_append] at hS;simp only [apure,ev_congr fun t ht=>hS t (.inl ht),ev_congr fun t ht=>hS t (.inr ht)]
 case eqB=>simp only [AOp.rd,List.mem_append] at hS;simp only [apure,ev_congr fun t ht=>hS t (.inl ht),ev_congr fun t ht=>hS t (.inr ht)]
 case eqs=>simp only [AOp.rd,List.mem_append] at hS;simp only [apure,ev_congr fun t ht=>hS t (.inl ht),ev_congr fun t ht=>hS t (.inr ht)]
 case buildF xs =>
  have:=evs_congr (S:=S) (S':=S') (ys:=xs) fun y hy t ht=>hS t (List.mem_flatMap.2 ⟨y,hy,ht⟩)
  simp only [apure,this]
 case indexF=>simp only [AOp.rd,List.mem_append] at hS;simp only [apure,ev_congr fun t ht=>hS t (.inl ht),ev_congr fun t ht=>hS t (.inr ht)]
 case indexA=>simp only [AOp.rd,List.mem_append] at hS;simp only [apure,ev_congr fun t ht=>hS t (.inl ht),ev_congr fun t ht=>hS t (.inr ht)]
 case lookup=>simp only [AOp.rd,List.mem_append] at hS;simp only [apure,ev_congr fun t ht=>hS t (.inl ht),ev_congr fun t ht=>hS t (.inr ht)]
 case indexAddr=>simp only [AOp.rd,List.mem_append] at hS;simp only [apure,ev_congr fun t ht=>hS t (.inl ht),ev_congr fun t ht=>hS t (.inr ht)]
 case indexS=>simp only [AOp.rd,List.mem_append] at hS;simp only [apure,ev_congr fun t ht=>hS t (.inl ht),ev_congr fun t ht=>hS t (.inr ht)]
 case append=>simp only [AOp.rd,List.mem_append] at hS;simp only [apure,ev_congr fun t ht=>hS t (.inl ht),ev_congr fun t ht=>hS t (.inr ht)]
 case max=>simp only [AOp.rd,List.mem_append] at hS;simp only [apure,ev_congr fun t ht=>hS t (.inl ht),ev_congr fun t ht=>hS t (.inr ht)]
 case min=>simp only [AOp.rd,List.mem_append] at hS;simp only [apure,ev_congr fun t ht=>hS t (.inl ht),ev_congr fun t ht=>hS t (.inr ht)]
 all_goals first
  |rfl
  |simp only [apure,ev_congr hS]
theorem fz1_congr {H H':Boxes} {v:AV} (h:boxy1 v=false):fz1 H v=fz1 H' v:=by cases v<;>first | rfl | cases h
theorem fz_congr {H H':Boxes} {v:AV} (h:boxy v=false):fz H v=fz H' v:=by
 cases v<;>first | rfl | skip
 case box=>cases h
 case func fn first cap =>
  simp only [boxy,Bool.or_eq_false_iff,List.any_eq_false,Bool.not_eq_true] at h
  simp only [fz]
  congr 1
  ·exact List.map_congr_left fun y hy=>fz1_congr (h.1 y hy)
  ·exact List.map_congr_left fun y hy=>fz1_congr (h.2 y hy)
theorem deff_congr {S S':Slots} {H H':Boxes} {op:AOp} {dst:Option Nat} {e:Eff} (hS:∀ t∈op.rd,S t=S' t) (hH:Hok op.acc H H') (h:deff P GI op dst S H e):deff P GI op dst S' H' e:=by
 cases op
 case alloc=>exact h
 case box=>exact h
 case panic=>exact h
 case other=>exact h
 case call f args =>
  simp only [AOp.rd,List.mem_flatMap] at hS
  simp only [deff] at h ⊢
  obtain ⟨hb,h⟩:=h
  have h2:(args.any fun y=>boxy (ev S y))=(args.any fun y=>boxy (ev S' y)):=by
   rw [Bool.eq_iff_iff]
   simp only [List.any_eq_true]
   constructor
   ·rintro ⟨y,hy,hb⟩;exact ⟨y,hy,by rw [← ev_congr fun t ht=>hS t ⟨y,hy,ht⟩];exact hb⟩
   ·rintro ⟨y,hy,hb⟩;exact ⟨y,hy,by rw [ev_congr fun t ht=>hS t ⟨y,hy,ht⟩];exact hb⟩
  have h1:(args.map fun y=>fz H (ev S y))=(args.map fun y=>fz H' (ev S' y)):=List.map_congr_left fun y hy=>by
   rw [← ev_congr fun t ht=>hS t ⟨y,hy,ht⟩]
   simp only [List.any_eq_false,Bool.not_eq_true] at hb
   exact fz_congr (hb y hy)
  rw [← h1,← h2];exact ⟨hb,h⟩
 case callv f args =>
  simp only [AOp.rd,List.mem_append,List.mem_flatMap] at hS
  simp only [deff] at h ⊢
  have h1:=evs_congr (S:=S) (S':=S') (ys:=args) fun y hy t ht=>hS t (.inr ⟨y,hy,ht⟩)
  rw [← ev_congr fun t ht=>hS t (.inl ht)]
  split at h
  case h_2=>exact h.elim
  obtain ⟨hb,h⟩:=h
  rw [← h1]
  refine ⟨hb,?_⟩
  have h3:∀ l:List AV,l.any boxy=false→l.map (fz H)=l.map (fz H'):=fun l hl=>List.map_congr_left fun y hy=>by
   simp only [List.any_eq_false,Bool.not_eq_true] at hl
   exact fz_congr (hl y hy)
  rw [← h3 _ hb]
  exact h
 all_goals
  simp only [deff] at h ⊢
  rw [← apure_congr hS hH]
  exact h
theorem Eff.S_other {e:Eff} {S:Slots} {dst:Option Nat} {t:Nat} (h1:dst≠some t) (h2:e.dm≠some t):e.S S dst t=S t:=by
 unfold Eff.S
 cases dst with
 |none =>
  cases hd:e.dm with
  |none=>rfl
  |some k=>simp only [putD];exact upd_ne _ _ (fun h=>h2 (by rw [hd,h]))
 |some d =>
  simp only [putD]
  rw [upd_ne _ _ (fun h=>h1 (by rw [h]))]
  cases hd:e.dm with
  |none=>rfl
  |some k=>exact upd_ne _ _ (fun h=>h2 (by rw [hd,h]))
def hwOK (acc:Acc) (H:Boxes):Option (Nat×List AV)→Prop
 |none=>True
 |some (i,cs)=>match acc with
  |.soft r=>meets r (some i)=true∧∃ old,H i=some old∧old.map AV.dem=cs.map AV.dem
  |.wr r=>meets r (some i)=true
  |_=>False
theorem okB_meets {hr:HR} {i:Nat} (h:hr.okB i=true):meets hr.one (some i)=true:=by
 cases hr with
 |any=>rfl
 |ref=>cases h
 |box r=>simp only [HR.okB] at h;simp only [HR.one,meets];rw [beq_iff_eq] at h ⊢;exact h.symm
theorem dem_dem (v:AV):v.dem=v.dem.dem:=(AV.idem v).symm
theorem apure_dm {S:Slots} {H:Boxes} {op:AOp} {e:Eff} (h:apure S H op=some e):(∀ t,e.dm=some t→t∈op.wr)∧hwOK op.acc H e.hw:=by
 cases op
 case mv tk x =>
  simp only [apure] at h
  split at h<;>cases h
  ·rename_i htk
   subst htk
   refine ⟨fun t ht => ?_,trivial⟩
   cases x<;>simp only [tmpOf] at ht<;>cases ht
   simp [AOp.wr,Opd.tmps]
  ·exact ⟨fun t ht=>(by cases ht),trivial⟩
 case store hr s x y =>
  simp only [apure] at h
  split at h<;>try cases h
  split at h<;>try cases h
  split at h<;>try cases h
  split at h<;>cases h
  rename_i hok _ _ _ _
  refine ⟨fun t ht => ?_,okB_meets (by assumption)⟩
  cases y<;>simp only [tmpOf] at ht<;>cases ht
  simp [AOp.wr,Opd.tmps]
 case loadT hr x =>
  simp only [apure] at h
  split at h<;>try cases h
  split at h<;>try cases h
  split at h<;>try cases h
  split at h<;>cases h
  refine ⟨fun t ht=>(by cases ht),okB_meets (by assumption),_,by assumption,?_⟩
  rename_i cs hcs _ v hv
  rw [List.map_set]
  obtain ⟨hlt,rfl⟩:=List.getElem?_eq_some_iff.1 hv
  apply List.ext_getElem (by simp)
  intro j h1 h2
  rw [List.getElem_set]
  split
  ·rename_i hj
   subst hj
   simp only [List.getElem_map]
   exact dem_dem _
  ·rfl
 case append t e s b x y =>
  simp only [apure] at h
  split at h
  ·split at h<;>cases h
   exact ⟨fun t ht=>(by cases ht),trivial⟩
  ·split at h<;>cases h
   refine ⟨fun t ht => ?_,trivial⟩
   cases x<;>simp only [tmpOf] at ht<;>cases ht
   simp [AOp.wr,Opd.tmps]
  ·cases h
 all_goals
  simp only [apure] at h
  first
   |(cases h;done)
   |(simp only [Option.map_eq_some_iff] at h;obtain ⟨_,_,rfl⟩:=h;exact ⟨fun t ht=>(by cases ht),trivial⟩)
   |((repeat' split at h)<;>first | (cases h;done) | (cases h;exact ⟨fun t ht=>(by cases ht),trivial⟩) | (simp only [Option.map_eq_some_iff] at h;obtain ⟨_,_,rfl⟩:=h;exact ⟨fun t ht=>(by cases ht),trivial⟩))
theorem deff_dm {S:Slots} {H:Boxes} {op:AOp} {dst:Option Nat} {e:Eff} (h:deff P GI op dst S H e):(∀ t,e.dm=some t→t∈op.wr)∧hwOK op.acc H e.hw:=by
 cases op
 case alloc =>
  simp only [deff] at h
  split at h
  ·subst h;exact ⟨fun t ht=>(by cases ht),trivial⟩
  ·exact h.elim
 case box=>exact h.elim
 case panic=>exact h.elim
 case other=>exact h.elim
 case call f args =>
  obtain ⟨_,out,_,_,_,h4⟩:=h
  cases out with
  |ret v=>cases (show e=_ from h4);exact ⟨fun t ht=>(by cases ht),trivial⟩
  |panic v=>exact h4.elim
 case callv f args =>
  simp only [deff] at h
  split at h
  ·obtain ⟨_,out,_,_,_,h4⟩:=h
   cases out with
   |ret v=>cases (show e=_ from h4);exact ⟨fun t ht=>(by cases ht),trivial⟩
   |panic v=>exact h4.elim
  ·exact h.elim
 all_goals exact apure_dm h
theorem yields_dm {S:Slots} {H:Boxes} {o:AOpr} {e:Eff} (h:yields P GI o S H e):(∀ t,e.dm=some t→t∈o.op.wr)∧hwOK o.op.acc H e.hw:=by
 unfold yields at h
 split at h
 ·exact deff_dm h
 ·subst h;exact ⟨fun t ht=>(by cases ht),trivial⟩
 ·exact h.elim
theorem awanted_congr {S S':Slots} {gd:Option (Nat×Bool)} (h:∀ t b,gd=some (t,b)→S t=S' t):awanted S gd=awanted S' gd:=by
 cases gd with
 |none=>rfl
 |some p=>obtain ⟨t,b⟩:=p;simp only [awanted,h t b rfl]
theorem yields_congr {S S':Slots} {H H':Boxes} {o:AOpr} {e:Eff} (hS:∀ t∈o.reads,S t=S' t) (hH:Hok o.op.acc H H') (h:yields P GI o S H e):yields P GI o S' H' e:=by
 unfold yields at *
 have hg:awanted S o.guard=awanted S' o.guard:=awanted_congr fun t b hgd=>hS t (by simp [AOpr.reads,hgd])
 rw [← hg]
 split at h
 ·exact deff_congr (fun t ht=>hS t (by simp [AOpr.reads,ht])) hH h
 ·exact h
 ·exact h
theorem conflict_comm (a b:Acc):a.conflict b=b.conflict a:=by
 cases a<;>cases b<;>simp only [Acc.conflict]<;>(rename_i x y;cases x<;>cases y<;>simp only [meets];rw [Bool.eq_iff_iff,beq_iff_eq,beq_iff_eq];exact eq_comm)
theorem apart_spec {x y:AOpr} (h:x.apart y=true) :
  (∀ t∈x.writes,t∉y.reads∧t∉y.writes)∧(∀ t∈y.writes,t∉x.reads)∧x.op.acc.conflict y.op.acc=false:=by
 simp only [AOpr.apart,Bool.and_eq_true,List.all_eq_true,Bool.not_eq_true'] at h
 obtain ⟨⟨h1,h2⟩,h3⟩:=h
 refine ⟨fun t ht => ?_,fun t ht => ?_,h3⟩
 ·have:=h1 t ht;simpa using this
 ·have:=h2 t ht;simpa using this
theorem Hok_of_hw {x y:Acc} (hc:x.conflict y=false) {e:Eff} {H:Boxes} (hw:hwOK y H e.hw):Hok x H (e.H H):=by
 have refl:∀ {H':Boxes},H=H'→Hok x H H':=by
  rintro _ rfl
  cases x with
  |no=>trivial
  |rd r=>cases r<;>simp [Hok]
  |soft r=>cases r<;>simp [Hok]
  |wr r=>cases r<;>simp [Hok]
 unfold Eff.H
 cases hh:e.hw with
 |none=>exact refl rfl
 |some p =>
  obtain ⟨i,cs⟩:=p
  rw [hh] at hw
  simp only
  cases x with
  |no=>trivial
  |rd r =>
   cases y with
   |no=>exact hw.elim
   |rd=>exact hw.elim
   |soft q =>
    obtain ⟨_,old,h1,h2⟩:=hw
    have key:∀ j,(H j).map (·.map AV.dem)=(upd H i (some cs) j).map (·.map AV.dem):=by
     intro j
     by_cases hj:j=i
     ·subst hj;rw [upd_same,h1];simp [h2]
     ·rw [upd_ne _ _ hj]
    cases r with
    |none=>exact key
    |some r=>exact key r
   |wr q =>
    cases r with
    |none=>cases q<;>simp [Acc.conflict,meets] at hc
    |some r =>
     cases q with
     |none=>simp [Acc.conflict,meets] at hc
     |some q =>
      simp only [Acc.conflict,meets,beq_eq_false_iff_ne] at hc
      have hq:q=i:=by simpa [hwOK,meets] using hw
      subst hq
      simp only [Hok]
      rw [upd_ne _ _ hc]
  |soft r =>
   have hne:∀ q,meets q (some i)=true→meets r q=false→∃ r',r=some r'∧r'≠i:=by
    intro q h1 h2
    cases r with
    |none=>cases q<;>simp [meets] at h2
    |some r =>
     cases q with
     |none=>simp [meets] at h2
     |some q =>
      simp only [meets,beq_iff_eq,beq_eq_false_iff_ne] at h1 h2
      exact ⟨r,rfl,by rw [← h1];exact h2⟩
   cases y with
   |no=>exact hw.elim
   |rd=>exact hw.elim
   |soft q =>
    obtain ⟨r',rfl,hn⟩:=hne q hw.1 hc
    simp only [Hok]
    rw [upd_ne _ _ hn]
   |wr q =>
    obtain ⟨r',rfl,hn⟩:=hne q hw hc
    simp only [Hok]
    rw [upd_ne _ _ hn]
  |wr r =>
   have hne:∀ q,meets q (some i)=true→meets r q=false→∃ r',r=some r'∧r'≠i:=by
    intro q h1 h2
    cases r with
    |none=>cases q<;>simp [meets] at h2
    |some r =>
     cases q with
     |none=>simp [meets] at h2
     |some q =>
      simp only [meets,beq_iff_eq,beq_eq_false_iff_ne] at h1 h2
      exact ⟨r,rfl,by rw [← h1];exact h2⟩
   cases y with
   |no=>exact hw.elim
   |rd=>exact hw.elim
   |soft q =>
    obtain ⟨r',rfl,hn⟩:=hne q hw.1 hc
    simp only [Hok]
    rw [upd_ne _ _ hn]
   |wr q =>
    obtain ⟨r',rfl,hn⟩:=hne q hw hc
    simp only [Hok]
    rw [upd_ne _ _ hn]
theorem Hok.symm {x:Acc} {H H':Boxes} (h:Hok x H H'):Hok x H' H:=by
 cases x with
 |no=>trivial
 |rd r=>cases r with
  |none=>exact fun i=>(h i).symm
  |some r=>exact Eq.symm h
 |soft r=>cases r<;>exact Eq.symm h
 |wr r=>cases r<;>exact Eq.symm h
theorem mem_writes {o:AOpr} {t:Nat} (h:o.dst=some t∨t∈o.op.wr):t∈o.writes:=by
 rcases h with h | h<;>simp [AOpr.writes,h]
theorem yields_keep {x y:AOpr} {S:Slots} {H:Boxes} {ex ey:Eff} (ha:x.apart y=true) (hy:yields P GI y S H ey) (hx:yields P GI x S H ex):yields P GI x (ey.S S y.dst) (ey.H H) ex:=by
 obtain ⟨h1,h2,h3⟩:=apart_spec ha
 obtain ⟨d1,d2⟩:=yields_dm hy
 refine yields_congr (fun t ht => ?_) (Hok_of_hw h3 d2) hx
 rw [Eff.S_other (fun h=>h2 t (mem_writes (.inl h)) ht) (fun h=>h2 t (mem_writes (.inr (d1 t h))) ht)]
theorem yields_back {x y:AOpr} {S:Slots} {H:Boxes} {ex ey:Eff} (ha:x.apart y=true) (hx:yields P GI x S H ex) (hy:yields P GI y (ex.S S x.dst) (ex.H H) ey):yields P GI y S H ey:=by
 obtain ⟨h1,h2,h3⟩:=apart_spec ha
 obtain ⟨d1,d2⟩:=yields_dm hx
 refine yields_congr (fun t ht => ?_) (Hok_of_hw (by rw [conflict_comm];exact h3) d2).symm hy
 rw [Eff.S_other (fun h=>(h1 t (mem_writes (.inl h))).1 ht) (fun h=>(h1 t (mem_writes (.inr (d1 t h)))).1 ht)]
theorem Eff.S_at (e:Eff) (S:Slots) (dst:Option Nat) (t:Nat):e.S S dst t=if dst=some t then e.v else if e.dm=some t then (S t).dem else S t:=by
 unfold Eff.S
 cases dst with
 |none =>
  rw [if_neg (by simp)]
  cases e.dm with
  |none=>rfl
  |some k =>
   simp only [putD,Option.some.injEq]
   by_cases h:k=t
   ·subst h;simp [upd_same]
   ·rw [if_neg h];exact upd_ne _ _ (fun hh=>h hh.symm)
 |some d =>
  simp only [putD,Option.some.injEq]
  by_cases hd:d=t
  ·subst hd;simp [upd_same]
  ·rw [if_neg hd,upd_ne _ _ (fun hh=>hd hh.symm)]
   cases e.dm with
   |none=>rfl
   |some k =>
    simp only [Option.some.injEq]
    by_cases h:k=t
    ·subst h;simp [upd_same]
    ·rw [if_neg h];exact upd_ne _ _ (fun hh=>h hh.symm)
theorem effS_comm {x y:AOpr} {S:Slots} {ex ey:Eff} (ha:x.apart y=true) (dx:∀ t,ex.dm=some t→t∈x.op.wr) (dy:∀ t,ey.dm=some t→t∈y.op.wr) :
  ey.S (ex.S S x.dst) y.dst=ex.S (ey.S S y.dst) x.dst:=by
 obtain ⟨h1,h2,h3⟩:=apart_spec ha
 funext t
 simp only [Eff.S_at]
 by_cases hx:x.dst=some t∨ex.dm=some t
 ·have hxw:t∈x.writes:=mem_writes (hx.imp id (dx t))
  have hy1:y.dst≠some t:=fun h=>(h1 t hxw).2 (mem_writes (.inl h))
  have hy2:ey.dm≠some t:=fun h=>(h1 t hxw).2 (mem_writes (.inr (dy t h)))
  simp only [if_neg hy1,if_neg hy2]
 ·simp only [not_or] at hx
  simp only [if_neg hx.1,if_neg hx.2]
theorem effH_comm {x y:AOpr} {H:Boxes} {ex ey:Eff} (ha:x.apart y=true) (dx:hwOK x.op.acc H ex.hw) (dy:hwOK y.op.acc H ey.hw) :
  ey.H (ex.H H)=ex.H (ey.H H):=by
 obtain ⟨_,_,h3⟩:=apart_spec ha
 unfold Eff.H
 cases hx:ex.hw with
 |none=>rfl
 |some p =>
  cases hy:ey.hw with
  |none=>rfl
  |some q =>
   obtain ⟨i,cs⟩:=p
   obtain ⟨j,ds⟩:=q
   rw [hx] at dx
   rw [hy] at dy
   simp only
   have hne:i≠j:=by
    have key:∀ a b:Option Nat,meets a (some i)=true→meets b (some j)=true→meets a b=false→i≠j:=by
     intro a b h1 h2 h3
     cases a with
     |none=>cases b<;>simp [meets] at h3
     |some a =>
      cases b with
      |none=>simp [meets] at h3
      |some b =>
       simp only [meets,beq_iff_eq,beq_eq_false_iff_ne] at h1 h2 h3
       rw [← h1,← h2];exact h3
    generalize x.op.acc=ax at dx h3
    generalize y.op.acc=ay at dy h3
    cases ax<;>cases ay<;>first | (exact dx.elim) | (exact dy.elim) | skip
    ·exact key _ _ dx.1 dy.1 h3
    ·exact key _ _ dx.1 dy h3
    ·exact key _ _ dx dy.1 h3
    ·exact key _ _ dx dy h3
   funext k
   by_cases h1:k=i
   ·subst h1;rw [upd_ne _ _ hne,upd_same,upd_same]
   ·by_cases h2:k=j
    ·subst h2;rw [upd_same,upd_ne _ _ h1,upd_same]
    ·rw [upd_ne _ _ h2,upd_ne _ _ h1,upd_ne _ _ h1,upd_ne _ _ h2]
end
end Go.AL
