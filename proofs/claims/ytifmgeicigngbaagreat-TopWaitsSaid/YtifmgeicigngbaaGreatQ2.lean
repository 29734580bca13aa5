/-
  For all spans, all letters and all paces the call of TopWaits returns true, and each argument reads behind the call as it read before. Conditions: none beyond those of the given row.
-/
import Derived.Test.YtifmgeicigngbaaGreatD3
import Derived.Test.YtifmgeicigngbaaGreatP1
set_option linter.all false
set_option linter.unusedVariables false
set_option linter.unusedSimpArgs false
set_option linter.deprecated false
namespace Go.Proofs.YtifmgeicigngbaaGreat
open Go Go.AL Go.ChangeShapes Go.WideShapes Go.ChangeAt Go.RowKit Go.Proofs.Tryz
set_option maxRecDepth 100000
namespace Waits
abbrev row:OpenClaim:=Rows.topWaitsRow
abbrev spec:ChangeSpec:=Rows.topWaitsSpec
theorem call (W:World) (base:Nat) (args:Array Value) {H:Type} {enc:TypeId×Value→H} (ds:List (DataW H)) (p:List MemPlace) (hG:GI W) (hval:∀ (j:Nat) t v,Tryz.f3.params[j]? = some t→args[j]? = some v→Value.okWide Tryz.prog W .any base t v)
  (hA:DataW.TrodAll enc Tryz.prog W 0 (fun _=>true) true Tryz.f3.params.toList args.toList ds p):Calls Tryz.prog 3 args W fun e W'=>e = .returned (.bool true)∧Below W.heap.size W W':=by
 rw [Tryz.params3] at hA hval
 obtain ⟨v0,vs0,d0,ds0,p0,q0,e0,rfl,rfl,h0,hr1⟩:=trodAll_cons hA
 obtain ⟨v1,vs1,d1,ds1,p1,q1,e1,rfl,rfl,h1,hr2⟩:=trodAll_cons hr1
 obtain ⟨v2,vs2,d2,ds2,p2,q2,e2,rfl,rfl,h2,hr3⟩:=trodAll_cons hr2
 obtain ⟨rfl,rfl,rfl⟩:=trodAll_nil hr3
 obtain rfl:args = #[v0,v1,v2]:=by
  apply Array.toList_inj.1;rw [e0,e1,e2]
 obtain ⟨x0,g0,a0⟩:=open_spans (hval 0 22 v0 rfl rfl) h0
 obtain ⟨x1,g1,a1⟩:=open_int (hval 1 3 v1 rfl rfl) h1
 obtain ⟨x2,g2,a2⟩:=open_int (hval 2 3 v2 rfl rfl) h2
 refine calls_of (ac3 x0 x1 x2) trivial rfl fun i h h' => ?_
 match i,h with
 |0,_=>exact .data _ _ a0
 |1,_=>exact .data _ _ a1
 |2,_=>exact .data _ _ a2
theorem w1 (os:Os):((World.laidAll Tryz.prog os row.laid).forCall (fun _ _=>0) ⟨#[],#[.slice none 0 0,.int .i64 0,.int .i64 0],[]⟩).Shaped Tryz.checked.prog :=
 World.shaped_of_ZipB (by kernel_rfl) (by kernel_rfl)
theorem lifted (os:Os) (started:os.Started) (H:Type) (enc:TypeId×Value→H) :
  ReturnsInHanded {} Tryz.checked os 3 .any (fun w args=>(spec.pre enc Tryz.prog Tryz.f3 row.domain false w args∧laidMetH Tryz.prog row.laid w)∧sizedMet enc Tryz.prog Tryz.f3 (OpenSpec.ofChange spec) false w args)
   (spec.post enc Tryz.prog Tryz.f3 false true false false):=by
 refine lifted_of 3 Tryz.f3 Tryz.func3 (by kernel_rfl) (by kernel_rfl) spec rfl ?_ ?_ os started _ 12 (w1 os) (by kernel_rfl) (by kernel_rfl) (by kernel_rfl) ?_ (fun W base args ds p=>call W base args ds p)
 ·intro ds hl
  rw [show Tryz.f3.params.size=3 by kernel_rfl] at hl
  match ds,hl with
  |[d0,d1,d2],_=>rfl
 ·rw [Tryz.params3]
  intro t ht
  have:t=22∨t=3:=by simpa using ht
  rcases this with rfl | rfl
  all_goals exact ⟨by kernel_rfl,of_decide_eq_true (by kernel_rfl)⟩
 ·rw [MakeChecks.laidMetH_plain _ _ _ (by kernel_rfl)];exact laidMet_laidAll _ (by kernel_rfl) (by kernel_rfl)
theorem laid_nil (w:World):laidMetH Tryz.prog [] w:=⟨[],rfl,List.nodup_nil,fun _ _ h=>by cases h⟩
theorem lifted' (os:Os) (started:os.Started) (H:Type) (enc:TypeId×Value→H) :
  ReturnsInHanded {} Tryz.checked os 3 .any (fun w args=>spec.pre enc Tryz.prog Tryz.f3 row.domain false w args∧sizedMet enc Tryz.prog Tryz.f3 (OpenSpec.ofChange spec) false w args)
   (spec.post enc Tryz.prog Tryz.f3 false true false false):=by
 have e:(fun w args=>spec.pre enc Tryz.prog Tryz.f3 row.domain false w args∧sizedMet enc Tryz.prog Tryz.f3 (OpenSpec.ofChange spec) false w args) =
   (fun w args=>(spec.pre enc Tryz.prog Tryz.f3 row.domain false w args∧laidMetH Tryz.prog row.laid w)∧sizedMet enc Tryz.prog Tryz.f3 (OpenSpec.ofChange spec) false w args):=by
  funext w args
  exact propext ⟨fun h=>⟨⟨h.1,laid_nil w⟩,h.2⟩,fun h=>⟨h.1.1,h.2⟩⟩
 rw [e]
 exact lifted os started H enc
theorem f_named:Tryz.prog.funcNamed "mahlstick/mahlsticktop.TopWaits" = some 3:=by kernel_rfl
theorem f_inPlace:(row.inPlace==Tryz.prog.inPlace 3)=true:=by kernel_rfl
theorem f_unfollowed:(row.unfollowed==Tryz.prog.unfollowed 3)=true:=by kernel_rfl
theorem f_recurses:(row.recurses==Tryz.prog.recurses 3)=true:=by kernel_rfl
theorem f_vars:(row.named==Tryz.prog.varsNamed 3)=true:=by kernel_rfl
theorem joined:joinedFacts Tryz.prog 3 Tryz.f3 spec row=true :=
 joined_of ⟨rfl,rfl,rfl,rfl,rfl,rfl⟩ (by kernel_rfl) (by kernel_rfl) (by kernel_rfl) f_inPlace f_unfollowed f_recurses f_vars (by kernel_rfl) (by kernel_rfl) (by kernel_rfl) (by kernel_rfl)
theorem instanceOf:Tryz.f3.isInstance Tryz.prog row.origin row.targs:=of_decide_eq_true (by kernel_rfl)
theorem wrapperOf:Tryz.f3.isWrapper Tryz.prog row.wrapper row.mainSum:=by
 unfold Func.isWrapper
 rw [if_neg (by decide +kernel)]
 exact ⟨rfl,rfl⟩
theorem holds:Rows.TopWaitsSaid :=
 OpenClaim.holds_of_wide 3 Tryz.f3 rfl rfl rfl rfl rfl rfl rfl ⟨rfl,rfl,rfl,rfl,rfl⟩ rfl rfl rfl rfl rfl f_named Tryz.func3 joined instanceOf wrapperOf (fun os started H enc _=>lifted' os started H enc)
end Waits
#print axioms Waits.holds
end Go.Proofs.YtifmgeicigngbaaGreat
