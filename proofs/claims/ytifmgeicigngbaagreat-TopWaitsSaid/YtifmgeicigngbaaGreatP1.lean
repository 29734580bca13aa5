/-
  A part of the proof: R1 R2 R3 R4.
-/
import Derived.ChangeSlices
import Derived.ChangeArms
import Derived.ChangeShapes
import Derived.WideShapes
import Derived.Test.YtifmgeicigngbaaGreatRows
import Derived.Shelf.Vars
import Derived.ProofKit
import Derived.OpenShut
import Derived.LaidMore
import Derived.Lay
import Derived.SevenTiedAt
import Derived.Stop.Joined
import Derived.MakeChecks
import Derived.Test.YtifmgeicigngbaaGreatD3
set_option linter.all false
set_option linter.unusedVariables false
set_option linter.unusedSimpArgs false
set_option linter.deprecated false
namespace Go.Proofs.Tryz
open Go Go.AL Go.RowKit Go.Proofs
set_option maxRecDepth 100000
section
variable {H:Type} {enc:TypeId×Value→H} {w:World} {held:Bool}
def T0:Nat→Nat→Prop:=fun _ _=>True
def CellsRD (w:World) (l:List AV) (cs:List Value):Prop:=l.length=cs.length∧∀ i (h:i < l.length) (h':i < cs.length),(l[i]).one=true∧RD T0 w l[i] cs[i]
def Opens (enc:TypeId×Value→H) (w:World) (held:Bool) (t:TypeId) {α:Type} (f:α→List AV) (good:α→Prop):Prop :=
 ∀ (fuel:Nat) (cs:List Value) (x:DataW H×List MemPlace),DataW.trod enc prog w 0 (fun _=>true) held fuel t cs=some x→∃ a,good a∧CellsRD w (f a) cs
def I64 (n:Int):Prop := -9223372036854775808≤n∧n < 9223372036854775808
theorem opens_int {t:TypeId} (ht:prog.underlying t=some (.int .i64)):Opens enc w held t (fun n:Int=>[.int .i64 n]) I64:=by
 intro fuel cs x h
 obtain ⟨n,rfl,_,hw⟩:=DataW.trod_int ht h
 refine ⟨n,?_,rfl,fun i hi hi' => ?_⟩
 ·simp only [Lit.wf,Bool.and_eq_true,decide_eq_true_eq] at hw
  have h1:IntKind.i64.min = -9223372036854775808:=by kernel_rfl
  have h2:IntKind.i64.max=9223372036854775807:=by kernel_rfl
  rw [h1,h2] at hw
  exact ⟨hw.1,by omega⟩
 ·match i,hi with
  |0,_=>exact ⟨rfl,.int _ _⟩
theorem choose_list {α:Type} {p:Nat→α→Prop}:∀ (n:Nat),(∀ i,i < n→∃ a,p i a)→∃ l:List α,l.length=n∧∀ i (h:i < l.length),p i l[i]
 |0,_=>⟨[],rfl,fun i h=>by simp at h⟩
 |n+1,h=>by
  obtain ⟨l,hl,hp⟩:=choose_list n fun i hi=>h i (by omega)
  obtain ⟨a,ha⟩:=h n (by omega)
  refine ⟨l++[a],by simp [hl],fun i hi => ?_⟩
  by_cases hin:i < l.length
  ·rw [List.getElem_append_left hin];exact hp i hin
  ·have:i=n:=by simp at hi;omega
   subst this
   rw [List.getElem_append_right (by omega)]
   simpa [hl] using ha
theorem addr_spot {w:World} {a:Addr} {v:Value} (h:w.cell? a=some v):a=⟨a.block,a.off,none⟩:=by
 obtain ⟨b,o,s⟩:=a
 unfold World.cell? at h
 cases s with
 |none=>rfl
 |some s =>
  simp at h
  split at h<;>simp at h
theorem opens_slice {t e:TypeId} {α:Type} {f:α→List AV} {good:α→Prop} (mk:α→AV) (hmk:∀ a,(mk a).cells=f a) (ht:prog.underlying t=some (.slice e)) (hpos:0 < prog.cellsOf e) (he:Opens enc w held e f good) :
  Opens enc w held t (fun l:List α=>[.slice .view (l.map mk)]) (fun l=>∀ a∈l,good a):=by
 intro fuel cs x h
 rcases DataW.trod_slice ht h with ⟨rfl,_⟩ | ⟨a,len,cap,elems,rest,n,_,rfl,_,_,hlc,hcm,hlen,hel,hsp,_⟩
 ·refine ⟨[],by simp,rfl,fun i hi hi' => ?_⟩
  match i,hi with
  |0,_=>exact ⟨rfl,.nils _⟩
 ·obtain ⟨size,hsize⟩:∃ size,prog.cellsOf e=size:=⟨_,rfl⟩
  rw [hsize] at hpos hel hsp
  obtain ⟨hrl,hrest⟩:=hsp rfl
  by_cases hcap:cap=0
  ·subst hcap
   have hl0:len=0:=by omega
   subst hl0
   refine ⟨[],by simp,rfl,fun i hi hi' => ?_⟩
   match i,hi with
   |0,_=>exact ⟨rfl,.emps _ _⟩
  have hcells:∃ i cs',w.cells? 0 (a.add (i * size)) size=some cs'∧i=0:=by
   by_cases hl0:len=0
   ·subst hl0
    have h0:=hrest 0 (by omega)
    rw [List.getElem?_eq_getElem (by omega),Option.bind_eq_some_iff] at h0
    obtain ⟨cs',h1,_⟩:=h0
    exact ⟨0,cs',by simpa using h1,rfl⟩
   ·have h0:=hel 0 (by omega)
    rw [List.getElem?_eq_getElem (by omega),Option.bind_eq_some_iff] at h0
    obtain ⟨cs',h1,_⟩:=h0
    exact ⟨0,cs',h1,rfl⟩
  obtain ⟨_,cs0,hcs0,rfl⟩:=hcells
  rw [Nat.zero_mul,show a.add 0=a by simp [Addr.add]] at hcs0
  have hc0:=(World.cells?_some hcs0).2.2 0 (by omega)
  rw [show a.add 0=a by simp [Addr.add]] at hc0
  have hl0:=(World.cells?_some hcs0).2.1
  rw [List.getElem?_eq_getElem (by omega)] at hc0
  obtain ⟨b,off,rfl⟩:∃ b off,a=⟨b,off,none⟩:=⟨_,_,addr_spot hc0⟩
  clear hc0 hcs0 hl0 cs0 hrest hsp
  obtain ⟨l,hl,hp⟩:=choose_list (p:=fun i (v:α)=>good v∧∃ cs',w.cells? 0 ((⟨b,off,none⟩:Addr).add (i * size)) size=some cs'∧CellsRD w (f v) cs') len fun i hi=>by
   have h0:=hel i hi
   rw [List.getElem?_eq_getElem (by omega),Option.bind_eq_some_iff] at h0
   obtain ⟨cs',h1,h2⟩:=h0
   obtain ⟨v,hv,hc⟩:=he _ _ _ h2
   exact ⟨v,hv,cs',h1,hc⟩
  refine ⟨l,fun v hv => ?_,rfl,fun i hi hi' => ?_⟩
  ·obtain ⟨i,hi,rfl⟩:=List.getElem_of_mem hv
   exact (hp i hi).1
  ·have hi0:i=0:=by simpa using hi
   subst hi0
   refine ⟨rfl,?_⟩
   show RD T0 w (.slice .view (l.map mk)) (.slice (some ⟨b,off,none⟩) len cap)
   have hlen':len=(l.map mk).length:=by simp [hl]
   have hmkl:∀ i (h:i < (l.map mk).length),((l.map mk)[i]).cells=f (l[i]'(by simpa using h)):=fun i h=>by rw [List.getElem_map];exact hmk _
   have key:∀ m,m=(l.map mk).length→RD T0 w (.slice .view (l.map mk)) (.slice (some ⟨b,off,none⟩) m cap) := ?_
   ·exact key _ hlen'
   rintro m rfl
   have hcell:∀ i (h:i < l.length) j,j < size→∃ cs',CellsRD w (f l[i]) cs'∧cs'.length=size∧w.cell? ⟨b,off+(i * size+j),none⟩=cs'[j]? := by
    intro i h j hj
    obtain ⟨_,cs',h1,h2⟩:=hp i h
    obtain ⟨_,h3,h4⟩:=World.cells?_some h1
    have h5:=h4 j hj
    rw [Addr.add_lit,Addr.add_lit,Nat.add_assoc] at h5
    exact ⟨cs',h2,h3,h5⟩
   have hszf:∀ i (h:i < l.length),(f l[i]).length=size:=by
    intro i h
    obtain ⟨cs',h1,h2,_⟩:=hcell i h 0 hpos
    rw [h1.1,h2]
   refine .slice .view (l.map mk) b off cap size (fun k=>(w.cell? ⟨b,off+k,none⟩).getD undef) (by rw [← hlen'];exact hlc) (fun h=>by cases h) (fun i h=>by rw [hmkl];exact hszf _ _) (fun i h j hj => ?_) (fun k hk=>⟨trivial,?_⟩) (fun i h j hj => ?_)
   ·have hil:i < l.length:=by simpa using h
    have hj':j < (f l[i]).length:=by rw [hmkl] at hj;exact hj
    have hjs:j < size:=by rw [hszf] at hj';exact hj'
    obtain ⟨cs',h1,h2,_⟩:=hcell i hil j hjs
    have e:((l.map mk)[i]).cells[j]=(f l[i])[j]:=by simp only [hmkl]
    rw [e]
    exact (h1.2 j hj' (by omega)).1
   ·have hk':k < l.length * size:=by simpa using hk
    have hi:k / size < l.length:=Nat.div_lt_of_lt_mul (by rw [Nat.mul_comm];exact hk')
    have hj:k % size < size:=Nat.mod_lt _ hpos
    obtain ⟨cs',h1,h2,h3⟩:=hcell (k / size) hi (k % size) hj
    have e:k / size * size+k % size=k:=by rw [Nat.mul_comm];exact Nat.div_add_mod k size
    rw [e,List.getElem?_eq_getElem (by omega)] at h3
    rw [h3];rfl
   ·have hil:i < l.length:=by simpa using h
    have hj':j < (f l[i]).length:=by rw [hmkl] at hj;exact hj
    have hjs:j < size:=by rw [hszf] at hj';exact hj'
    obtain ⟨cs',h1,h2,h3⟩:=hcell i hil j hjs
    rw [List.getElem?_eq_getElem (by omega)] at h3
    have e:((l.map mk)[i]).cells[j]=(f l[i])[j]:=by simp only [hmkl]
    rw [e,h3]
    exact (h1.2 j hj' (by omega)).2
def fieldsOf:TypeDesc→Option (List (TypeId×Nat))
 |.struct fs=>some (fs.toList.map fun f=>(f.type,f.offset))
 |_=>none
theorem trod_fields {t:TypeId} {flds:List (TypeId×Nat)} (hf:(prog.underlying t).bind fieldsOf=some flds) {fuel:Nat} {cs:List Value} {x:DataW H×List MemPlace} (h:DataW.trod enc prog w 0 (fun _=>true) held fuel t cs=some x) :
  cs.length=prog.cellsOf t∧∀ (i t' o:Nat),flds[i]? = some (t',o)→∃ n x',DataW.trod enc prog w 0 (fun _=>true) held n t' ((cs.drop o).take (prog.cellsOf t'))=some x':=by
 cases hu:prog.underlying t with
 |none=>rw [hu] at hf;cases hf
 |some d =>
  rw [hu] at hf
  cases d<;>first | (cases hf;done) | skip
  rename_i fs
  simp only [Option.bind_some,fieldsOf,Option.some.injEq] at hf
  obtain ⟨xs,n,_,_,hl,hxl,hall⟩:=DataW.trod_struct hu h
  refine ⟨hl,fun i t' o hi => ?_⟩
  rw [← hf,List.getElem?_map,Option.map_eq_some_iff] at hi
  obtain ⟨f,hfi,e⟩:=hi
  cases e
  have hfi':fs[i]? = some f:=by rw [← Array.getElem?_toList];exact hfi
  have:=hall i f hfi'
  have hlt:i < fs.size:=(Array.getElem?_eq_some_iff.1 hfi').1
  rw [List.getElem?_eq_getElem (by omega)] at this
  exact ⟨n,_,this⟩
theorem CellsRD.append {l1 l2:List AV} {c1 c2:List Value} (h1:CellsRD w l1 c1) (h2:CellsRD w l2 c2):CellsRD w (l1++l2) (c1++c2):=by
 refine ⟨by simp [h1.1,h2.1],fun i h h' => ?_⟩
 by_cases hi:i < l1.length
 ·rw [List.getElem_append_left hi,List.getElem_append_left (by rw [← h1.1];exact hi)]
  exact h1.2 i hi _
 ·rw [List.getElem_append_right (by omega),List.getElem_append_right (by rw [← h1.1];omega)]
  have:=h1.1
  simp only [this]
  exact h2.2 _ _ _
theorem co3:prog.cellsOf 3=1:=by kernel_rfl
theorem co33:prog.cellsOf 33=2:=by kernel_rfl
theorem u3:prog.underlying 3=some (.int .i64):=by kernel_rfl
theorem u22:prog.underlying 22=some (.slice 33):=by kernel_rfl
theorem opens3:Opens enc w held 3 (fun n:Int=>[.int .i64 n]) I64:=opens_int u3
theorem opens33:Opens enc w held 33 (fun p:End=>(endA p).cells) (fun p=>I64 p.1∧I64 p.2):=by
 intro fuel cs x h
 obtain ⟨hl,hf⟩:=trod_fields (flds:=[(3,0),(3,1)]) (by kernel_rfl) h
 rw [co33] at hl
 match cs,hl with
 |[x0,x1],_ =>
  obtain ⟨_,_,h0⟩:=hf 0 3 0 rfl
  obtain ⟨_,_,h1⟩:=hf 1 3 1 rfl
  rw [co3] at h0 h1
  obtain ⟨a,ga,ra⟩:=opens3 _ _ _ h0
  obtain ⟨b,gb,rb⟩:=opens3 _ _ _ h1
  exact ⟨(a,b),⟨ga,gb⟩,ra.append rb⟩
theorem opens22:Opens enc w held 22 (fun l:List End=>[.slice .view (endsA l)]) (fun l=>∀ p∈l,I64 p.1∧I64 p.2) :=
 opens_slice (e:=33) endA (fun _=>rfl) u22 (by rw [co33];omega) opens33
theorem open_int {d:DataW H} {ps:List MemPlace} {v:Value} {r:Reach} {base:Nat} (hval:Value.okWide prog w r base 3 v) (h:DataW.Trod enc prog w 0 (fun _=>true) held 3 v d ps):∃ n:Int,I64 n∧RD T0 w (.int .i64 n) v:=by
 obtain ⟨fuel,hf⟩:=h
 obtain ⟨n,gn,hc⟩:=opens3 _ _ _ hf
 obtain ⟨m,rfl⟩:=WideShapes.okWide_int u3 hval
 refine ⟨n,gn,?_⟩
 have:=(hc.2 0 (by simp) (by simp [Value.cells])).2
 simpa [Value.cells] using this
theorem open_spans {d:DataW H} {ps:List MemPlace} {v:Value} {r:Reach} {base:Nat} (hval:Value.okWide prog w r base 22 v) (h:DataW.Trod enc prog w 0 (fun _=>true) held 22 v d ps):∃ l:List End,(∀ p∈l,I64 p.1∧I64 p.2)∧RD T0 w (.slice .view (endsA l)) v:=by
 obtain ⟨fuel,hf⟩:=h
 obtain ⟨l,gl,hc⟩:=opens22 _ _ _ hf
 obtain ⟨a,n,m,rfl⟩:=WideShapes.okWide_slice u22 hval
 refine ⟨l,gl,?_⟩
 have:=(hc.2 0 (by simp) (by simp [Value.cells])).2
 simpa [Value.cells] using this
end
end Go.Proofs.Tryz
namespace Go.Proofs.YtifmgeicigngbaaGreat
open Go Go.AL Go.ChangeShapes Go.WideShapes Go.ChangeAt Go.RowKit
theorem own:ownKnob Tryz.prog.godebug=none:=by kernel_rfl
theorem laidOut':laidOutB Tryz.prog=true:=by kernel_rfl
abbrev GI:World→Prop:=fun _=>True
abbrev laid5:List (String×DataW Unit):=Rows.topWaitsRow.laid
variable {H:Type} {enc:TypeId×Value→H}
theorem trodAll_length {w:World} {base:Nat} {spare:Nat→Bool} {held:Bool}:∀ {ts:List TypeId} {vs:List Value} {ds:List (DataW H)} {ps:List MemPlace},DataW.TrodAll enc Tryz.prog w base spare held ts vs ds ps→ds.length=ts.length
 |[],[],[],_,_=>rfl
 |_::_,_::_,_::_,_,⟨_,_,_,h,_⟩=>congrArg (· + 1) (trodAll_length h)
theorem trodAll_below {W W':World} (hb:Below W.heap.size W W'):∀ {ts:List TypeId} {vs:List Value} {ds:List (DataW H)} {ps:List MemPlace},(∀ t∈ts,Tryz.prog.readableRec t=true∧t < Tryz.prog.types.size) →
  DataW.TrodAll enc Tryz.prog W 0 (fun _=>true) true ts vs ds ps→(∀ x∈ps,x.block < W.heap.size)→DataW.TrodAll enc Tryz.prog W' 0 (fun b=>decide (b < W.heap.size)) true ts vs ds ps
 |[],[],[],_,_,h,_=>h
 |t::_,_::_,_::_,_,hr,⟨p,q,h1,h2,e⟩,hlt=>by
  subst e
  exact ⟨p,q,Below.trod laidOut' (hr t List.mem_cons_self).1 (hr t List.mem_cons_self).2 h1 hb (fun x hx=>hlt x (List.mem_append_left _ hx)),trodAll_below hb (fun u hu=>hr u (List.mem_cons_of_mem _ hu)) h2 (fun x hx=>hlt x (List.mem_append_right _ hx)),rfl⟩
set_option maxRecDepth 100000 in
theorem lifted_of (f:FuncId) (fn:Func) (hfn:Tryz.checked.prog.funcs[f]? = some fn) (noInit:Tryz.checked.prog.inits.idxOf? f=none) (hres:fn.resultTypes = #[4]) (spec:ChangeSpec) (hvars:spec.vars=[])
  (hspec:∀ (ds:List (DataW H)),ds.length=fn.params.size→spec.fn H ds={ results:=[.lit (.bool true)],args:=ds })
  (hrd:∀ t∈fn.params.toList,Tryz.prog.readableRec t=true∧t < Tryz.prog.types.size)
  (os:Os) (started:os.Started) (args0:Array Value) (fuel:Nat)
  (hsh:((World.laidAll Tryz.prog os laid5).forCall (fun _ _=>0) ⟨#[],args0,[]⟩).Shaped Tryz.checked.prog)
  (hok:Input.okWideB Tryz.checked.prog ((World.laidAll Tryz.prog os laid5).forCall (fun _ _=>0) ⟨#[],args0,[]⟩) f ⟨#[],args0,[]⟩=true)
  (hpre:spec.preB enc Tryz.checked.prog fn [] false ((World.laidAll Tryz.prog os laid5).forCall (fun _ _=>0) ⟨#[],args0,[]⟩).memory args0 fuel=true)
  (hsz:spec.sizedB enc Tryz.checked.prog fn false ((World.laidAll Tryz.prog os laid5).forCall (fun _ _=>0) ⟨#[],args0,[]⟩).memory args0 fuel=true)
  (hx:laidMetH Tryz.prog laid5 ((World.laidAll Tryz.prog os laid5).forCall (fun _ _=>0) ⟨#[],args0,[]⟩).memory)
  (hcall:∀ (W:World) (base:Nat) (args:Array Value) (ds:List (DataW H)) (p:List MemPlace),GI W →
   (∀ (j:Nat) t v,fn.params[j]? = some t→args[j]? = some v→Value.okWide Tryz.prog W .any base t v) →
   DataW.TrodAll enc Tryz.prog W 0 (fun _=>true) true fn.params.toList args.toList ds p →
   Calls Tryz.prog f args W fun e W'=>e = .returned (.bool true)∧Below W.heap.size W W') :
  ReturnsInHanded {} Tryz.checked os f .any (fun w args=>(spec.pre enc Tryz.checked.prog fn [] false w args∧laidMetH Tryz.checked.prog laid5 w)∧sizedMet enc Tryz.checked.prog fn (OpenSpec.ofChange spec) false w args)
   (spec.post enc Tryz.checked.prog fn false true false false):=by
 refine returnsInHanded_of_calls (C:=Tryz.checked) own started noInit
  (ChangeSpec.witness_shaped (enc:=enc) (C:=Tryz.checked) (os:=os) (X:=fun w _=>laidMetH Tryz.prog laid5 w) false (World.laidAll Tryz.prog os laid5) args0 fuel (World.laidAll_os _ _ _) hsh hok hpre hsz hx) ?_
 intro w tape i _ hopen _ hok' hp _
 obtain ⟨_,_,_,fn',hfn',_,_,_,_,hval⟩:=hok'
 have e:fn'=fn:=Option.some.inj (hfn'.symm.trans hfn)
 subst e
 obtain ⟨⟨⟨ds,gs,before,hw,hc⟩,_⟩,hz⟩:=hp
 have hw':=DataW.Whole.of_heap (w':=w.forCall tape i) (by rfl) hw
 have hW:=hw'
 obtain ⟨p,q,hA,hV,rfl,_,_⟩:=hw'
 have hgs:gs=[]∧q=[]:=by
  rw [hvars] at hV
  obtain ⟨rfl,rfl⟩:=trodVars_none hV
  exact ⟨rfl,rfl⟩
 obtain ⟨rfl,rfl⟩:=hgs
 have hA':DataW.TrodAll enc Tryz.prog (w.forCall tape i) 0 (fun _=>true) true fn'.params.toList i.args.toList ds p:=hA
 have hlt:∀ x∈p,x.block < (w.forCall tape i).heap.size:=fun x hx=>by simpa using hW.lt x (List.mem_append_left _ hx)
 refine (hcall (w.forCall tape i) w.heap.size i.args ds p trivial hval hA').mono fun e W' ⟨he,hb⟩ => ?_
 subst he
 show spec.post enc Tryz.checked.prog fn' false true false false (w.forCall tape i).blind i.args (.bool true) W'.blind
 refine ChangeSpec.post_blind (?_:spec.post enc Tryz.checked.prog fn' false true false false (w.forCall tape i) i.args (.bool true) W')
 have hdl:ds.length=fn'.params.size:=by
  rw [trodAll_length hA'];simp
 refine ⟨ds,[],p++[],[] ,p,[],hW,?_,?_,?_,hb.frame _,fun h=>by cases h⟩
 ·rw [List.append_nil,hspec ds hdl,hres]
  exact trodAll_mk1 (shut_bool (by kernel_rfl) _)
 ·rw [List.append_nil,hspec ds hdl]
  exact trodAll_below hb hrd hA' hlt
 ·rw [List.append_nil,hspec ds hdl,hvars]
  rfl
end Go.Proofs.YtifmgeicigngbaaGreat
namespace Go.Proofs.YtifmgeicigngbaaGreat
open Go Go.AL Go.ChangeShapes Go.WideShapes Go.ChangeAt Go.RowKit
set_option maxRecDepth 100000
def ch (l:List Nat):List Char:=l.map Char.ofNat
def w1:List Nat:=[104,97,114,110,101,115,115]
def w2:List Nat:=[101,55,49,99,48,53,51,99,101,51,57,99,99,49,52,57,97,49,51,102,55,57,50,98,57,100,56,100,52,97,97,54,57,55,51,54,54,102,55,51,102,50,97,55,98,55,57,52,53,55,57,102,56,98,48,48,48,56,55,57,48,50,50,51]
def w3:List Nat:=[99,117,116]
def w4:List Nat:=[97,116,32,109,97,104,108,115,116,105,99,107,47,109,97,104,108,115,116,105,99,107,116,111,112,46,84,111,112,87,97,105,116,115,32,109,97,104,108,115,116,105,99,107,47,109,97,104,108,115,116,105,99,107,116,111,112,46,84,111,112,76,101,97,102,32,109,97,104,108,115,116,105,99,107,47,109,97,104,108,115,116,105,99,107,116,111,112,46,84,111,112,82,101,97,100,115]
theorem words_cons:∀ {a b:List Char},(a.all fun c=>c != Char.ofNat 32)=true→wordsSigns (a++Char.ofNat 32::b)=a::wordsSigns b
 |[],b,_=>rfl
 |c::a,b,h=>by
  simp only [List.all_cons,Bool.and_eq_true,bne_iff_ne] at h
  have ih:=words_cons (b:=b) h.2
  show wordsSigns (c::(a++Char.ofNat 32::b))=_
  conv=>lhs;unfold wordsSigns
  split
  ·rename_i e;cases e
  ·rename_i e;cases e;exact absurd rfl h.1
  ·rename_i e;cases e;rw [ih]
theorem head_eq:Tryz.prog.initOrder=String.ofList (ch w1++Char.ofNat 32::(ch w2++Char.ofNat 32::(ch w3++Char.ofNat 32::ch w4))):=by kernel_rfl
theorem head_words:wordsSigns Tryz.prog.initOrder.toList=ch w1::ch w2::ch w3::wordsSigns (ch w4):=by
 rw [head_eq,String.toList_ofList,words_cons (by kernel_rfl),words_cons (by kernel_rfl),words_cons (by kernel_rfl)]
theorem tl (s:String) (l:List Nat) (h:s=String.ofList (ch l)):s.toList=ch l:=by rw [h,String.toList_ofList]
theorem tl_harness : "harness".toList=ch [104,97,114,110,101,115,115]:=tl _ _ (by kernel_rfl)
theorem tl_ownmain : "ownmain".toList=ch [111,119,110,109,97,105,110]:=tl _ _ (by kernel_rfl)
theorem tl_gc : "gc".toList=ch [103,99]:=tl _ _ (by kernel_rfl)
theorem tl_spec : "spec".toList=ch [115,112,101,99]:=tl _ _ (by kernel_rfl)
theorem tl_stop : "stop".toList=ch [115,116,111,112]:=tl _ _ (by kernel_rfl)
theorem tl_carried : "carried".toList=ch [99,97,114,114,105,101,100]:=tl _ _ (by kernel_rfl)
theorem tl_cut : "cut".toList=ch [99,117,116]:=tl _ _ (by kernel_rfl)
theorem tl_finals : "finals".toList=ch [102,105,110,97,108,115]:=tl _ _ (by kernel_rfl)
theorem tl_reflectrows : "reflectrows".toList=ch [114,101,102,108,101,99,116,114,111,119,115]:=tl _ _ (by kernel_rfl)
theorem tl_leanrows : "leanrows".toList=ch [108,101,97,110,114,111,119,115]:=tl _ _ (by kernel_rfl)
theorem tl_onebuild : "onebuild".toList=ch [111,110,101,98,117,105,108,100]:=tl _ _ (by kernel_rfl)
theorem tl_publicsums : "publicsums".toList=ch [112,117,98,108,105,99,115,117,109,115]:=tl _ _ (by kernel_rfl)
theorem tl_eqguard : "eqguard".toList=ch [101,113,103,117,97,114,100]:=tl _ _ (by kernel_rfl)
theorem tl_ownunsafe : "ownunsafe".toList=ch [111,119,110,117,110,115,97,102,101]:=tl _ _ (by kernel_rfl)
theorem tl_libbeside : "libbeside".toList=ch [108,105,98,98,101,115,105,100,101]:=tl _ _ (by kernel_rfl)
theorem tl_ownbeside : "ownbeside".toList=ch [111,119,110,98,101,115,105,100,101]:=tl _ _ (by kernel_rfl)
theorem tl_reflbeside : "reflbeside".toList=ch [114,101,102,108,98,101,115,105,100,101]:=tl _ _ (by kernel_rfl)
theorem tl_aliases : "aliases".toList=ch [97,108,105,97,115,101,115]:=tl _ _ (by kernel_rfl)
theorem tl_afterinit : "afterinit".toList=ch [97,102,116,101,114,105,110,105,116]:=tl _ _ (by kernel_rfl)
theorem tl_crcplain : "crcplain".toList=ch [99,114,99,112,108,97,105,110]:=tl _ _ (by kernel_rfl)
theorem tl_roadunsafe : "roadunsafe".toList=ch [114,111,97,100,117,110,115,97,102,101]:=tl _ _ (by kernel_rfl)
theorem tl_fmthandon : "fmthandon".toList=ch [102,109,116,104,97,110,100,111,110]:=tl _ _ (by kernel_rfl)
theorem p_isSum:isSumSigns (ch w2)=true:=by kernel_rfl
theorem behind_eq (R:List (List Char)):behindMainWord (ch w1::ch w2::R)=R:=by
 simp only [behindMainWord,p_isSum,tl_harness,tl_ownmain]
 rfl
theorem p_behind:behindMainWord (wordsSigns Tryz.prog.initOrder.toList)=ch w3::wordsSigns (ch w4):=(congrArg behindMainWord head_words).trans (behind_eq _)
theorem p_strip (R:List (List Char)):stripLifts liftWords (ch w3::R)=([],ch w3::R):=by
 unfold liftWords
 simp only [stripLifts,tl_finals,tl_reflectrows,tl_leanrows,tl_onebuild,tl_publicsums,tl_eqguard,tl_ownunsafe,tl_libbeside,tl_ownbeside,tl_reflbeside,tl_aliases,tl_afterinit,tl_crcplain,tl_roadunsafe,tl_fmthandon]
 rfl
def headOf (ws:List (List Char)):List String:=if (stripLifts liftWords ws).2.head? == some "cut".toList then (stripLifts liftWords ws).1 else []
theorem headLifts_of (P:Program):P.headLifts=headOf (behindMainWord (wordsSigns P.initOrder.toList)):=rfl
theorem headOf_eq (R:List (List Char)):headOf (ch w3::R)=[]:=by
 simp only [headOf,p_strip,tl_cut]
 rfl
theorem p_headLifts:Tryz.prog.headLifts=[]:=(headLifts_of _).trans ((congrArg headOf p_behind).trans (headOf_eq _))
theorem makeOf_eq {P:Program} {R:List (List Char)} (h:behindMainWord (wordsSigns P.initOrder.toList)=ch w3::R) (hl:P.headLifts=[]):P.make=some .cut:=by
 unfold Program.make
 rw [h]
 simp only [tl_cut,tl_gc,tl_spec,tl_finals,tl_carried,hl]
 rfl
theorem p_make:Tryz.prog.make=some .cut:=makeOf_eq p_behind p_headLifts
theorem liftsFinal_eq {P:Program} {R:List (List Char)} (h:behindMainWord (wordsSigns P.initOrder.toList)=ch w3::R) (hl:P.headLifts=[]):P.liftsFinal=false:=by
 unfold Program.liftsFinal
 simp only [h,tl_cut,tl_gc,tl_carried,hl]
 rfl
theorem p_liftsFinal:Tryz.prog.liftsFinal=false:=liftsFinal_eq p_behind p_headLifts
theorem p_laysLater:Tryz.prog.laysLater=false:=by kernel_rfl
theorem p_bearsReflect:Tryz.prog.bearsReflect=false:=by kernel_rfl
theorem p_doorFits:Tryz.prog.doorFits []=true:=by kernel_rfl
theorem mayEnter_eq {P:Program} {R:List (List Char)} (h:behindMainWord (wordsSigns P.initOrder.toList)=ch w3::R) (h1:P.laysLater=false) (h2:P.bearsReflect=false) (h3:P.doorFits []=true):P.mayEnter=true:=by
 unfold Program.mayEnter
 rw [h]
 simp only [p_strip,tl_cut,tl_gc,tl_carried,tl_spec,tl_stop,h1,h2,h3]
 rfl
theorem p_mayEnter:Tryz.prog.mayEnter=true:=mayEnter_eq p_behind p_laysLater p_bearsReflect p_doorFits
end Go.Proofs.YtifmgeicigngbaaGreat
namespace Go.Proofs.YtifmgeicigngbaaGreat
open Go Go.AL Go.ChangeShapes Go.WideShapes Go.ChangeAt Go.RowKit Go.Proofs.Tryz
set_option maxRecDepth 100000
theorem p_mapsRowed:mapsRowed Tryz.prog=true:=by kernel_rfl
theorem p_stops:(Tryz.prog.stops==[])=true:=by kernel_rfl
theorem p_stopKnobs:(Tryz.prog.stopKnobs==[])=true:=by kernel_rfl
theorem p_plainKeys:Tryz.prog.plainKeys=false:=by kernel_rfl
theorem p_stopsHeard:Tryz.prog.stopsHeard=true:=by kernel_rfl
theorem joined_of {f:FuncId} {fn:Func} {s:ChangeSpec} {c:OpenClaim}
  (h0:c.stops=[]∧c.knobs=[]∧c.plainKeys=false∧c.shortTexts=none∧c.lifted=false∧c.make = .cut)
  (h1:c.wf (OpenSpec.ofChange s)=true) (h2:fn.params.all (Tryz.prog.readableRec ·)=true) (h3:namedTie Tryz.prog c.named s.vars=true)
  (h4:(c.inPlace==Tryz.prog.inPlace f)=true) (h5:(c.unfollowed==Tryz.prog.unfollowed f)=true) (h6:(c.recurses==Tryz.prog.recurses f)=true) (h7:(c.named==Tryz.prog.varsNamed f)=true)
  (h8:((c.maps==(fn.params.toList++s.plain.varTypes Tryz.prog).any (Tryz.prog.mapsRec ·)) && (c.ifaces==(fn.params.toList++s.plain.varTypes Tryz.prog).any (Tryz.prog.ifacesRec ·)) && (c.mapsOut==Tryz.prog.mapsAmong fn.resultTypes.toList) &&
   (c.loops==(fn.params.toList++s.plain.varTypes Tryz.prog).any (Tryz.prog.loopsFrom ·)) && (c.wideKeys==(fn.params.toList++s.plain.varTypes Tryz.prog++fn.resultTypes.toList).any (Tryz.prog.wideKeysFrom ·)) &&
   s.vars.all (Tryz.prog.varReadable ·) && fn.resultTypes.all (fun t=>Tryz.prog.readableRec t && decide (t < Tryz.prog.types.size)) && (c.ifacesOut==fn.resultTypes.toList.any (Tryz.prog.ifacesRec ·)) && (c.loopsOut==fn.resultTypes.toList.any (Tryz.prog.loopsFrom ·)))=true)
  (h9:(c.kinds==(if c.domain.isEmpty then [] else fn.params.toList.map fun t=>match Tryz.prog.underlying t with | some (.int k)=>some k | _=>none))=true) (h10:(c.pinned==c.pinnedBy)=true)
  (h11:((c.veiled==(fn.params.toList++s.plain.varTypes Tryz.prog++fn.resultTypes.toList).any (Tryz.prog.veiledRec ·)) && c.veiledFits Tryz.prog fn.params.toList (fn.params.toList++s.plain.varTypes Tryz.prog++fn.resultTypes.toList))=true) :
  joinedFacts Tryz.prog f fn s c=true:=by
 obtain ⟨a1,a2,a3,a4,a5,a6⟩:=h0
 unfold joinedFacts
 simp only [Bool.and_eq_true] at h8 h11 ⊢
 obtain ⟨⟨⟨⟨⟨⟨⟨⟨b1,b2⟩,b3⟩,b4⟩,b5⟩,b6⟩,b7⟩,b8⟩,b9⟩:=h8
 refine ⟨⟨⟨⟨⟨⟨⟨⟨⟨⟨⟨⟨⟨⟨⟨⟨⟨⟨⟨⟨⟨⟨⟨⟨⟨⟨⟨⟨⟨⟨⟨h1,laidOut'⟩,p_mapsRowed⟩,h2⟩,h3⟩,?_⟩,p_stops⟩,?_⟩,p_stopKnobs⟩,h4⟩,h5⟩,h6⟩,h7⟩,b1⟩,b2⟩,b3⟩,b4⟩,b5⟩,b6⟩,b7⟩,b8⟩,b9⟩,?_⟩,?_⟩,p_stopsHeard⟩,p_mayEnter⟩,?_⟩,?_⟩,h9⟩,h10⟩,h11.1⟩,h11.2⟩
 ·rw [a1];rfl
 ·rw [a2];rfl
 ·rw [a3,p_plainKeys];rfl
 ·rw [a4];rfl
 ·rw [a5,p_liftsFinal];rfl
 ·rw [p_make,a6];rfl
theorem calls_of {G:World→Prop} {f:Nat} {avs:List AV} {W:World} {args:Array Value} (h:AC Tryz.prog G f avs (.ret (.bool true))) (hG:G W) (hl:avs.length=args.size) (hr:∀ i (h:i < avs.length) (h':i < args.size),RV T0 (fun _=>none) W avs[i] args[i]) :
  Calls Tryz.prog f args W fun e W'=>e = .returned (.bool true)∧Below W.heap.size W W':=by
 refine (h W T0 args hG hl hr).mono ?_
 rintro e W' ⟨hb,hi,_,c,rfl,hv,_⟩
 cases hv with
 |data _ _ h=>cases h with
  |bool b=>exact ⟨rfl,hb⟩
end Go.Proofs.YtifmgeicigngbaaGreat
