/-
  No cell of these rows narrows 'for every input' (looked for: loops, veiled, ifaces, maps, wideKeys, modest, calm, conditions, laid).
  DERIVED. THE GIVEN ROWS OF THIS SEAT. 3 by the template 'for every input the law returns true; each argument reads behind the call as it read before'; 0 by the template 'total and deterministic' (their statements: YtifmgeicigngbaaGreatTotals.lean).
  GIVEN WITH THE SEED: the statements are not yours to turn. If you find one false, say at which input.
  Laid BY PROGRAM, IN A SANDBOX (cutbox-rows.mjs): the forced cells as the released guide's own fill.sh prints them over the translation 2b2f77906b18b303… (all of the seat's roots in one cut). By AI agents, Wed Nov 11 2026. No macro, syntax, notation, axiom, sorry.
-/
import Derived.Test.YtifmgeicigngbaaGreatChecked
import GoSem.Claim
import GoSem.ClaimJoined
import GoSem.ClaimMapViews
import Derived.JoinedTies
import Derived.KernelRfl
namespace Go.Proofs.YtifmgeicigngbaaGreat
/- THE CELL 'sum', in the pinned program and in every row, IS THE sha256 OF THE DUMP (.gsa) THAT YtifmgeicigngbaaGreatProg.lean LOADS. Nothing in Lean hashes anything: it is a label: what it is worth is what the hold of that sum in a sandbox is worth. -/
noncomputable def Tryz.pinned : Pinned := { name := "ytifmgeicigngbaagreat", sum := "2b2f77906b18b3038c422ee7b7cbba2212c7c45ede76625ca3a43a42ff8149f1", checked := Tryz.checked }
namespace Rows
def none {H : Type} : Left H := { results := [], args := [] }

/-- 'mahlsticktop.TopWaits': WHATEVER THE INPUT: true; the input reads as it did. -/
def topWaitsSpec : ChangeSpec := { name := "topWaits", fn := fun _ => fun
  | [d1, d2, d3] => { results := [.lit (.bool true)], args := [d1, d2, d3] }
  | _ => none }
def topWaitsRow : OpenClaim := { program := "ytifmgeicigngbaagreat", sum := "2b2f77906b18b3038c422ee7b7cbba2212c7c45ede76625ca3a43a42ff8149f1", func := "mahlstick/mahlsticktop.TopWaits", spec := "topWaits", unfollowed := true, recurses := true, plainKeys := false, apart := false }
def TopWaitsSaid : Prop := topWaitsRow.holds Tryz.pinned (OpenSpec.ofChange topWaitsSpec)

/-- ITS FALSE NEIGHBOUR: 'it returns false'. Refute it at one input. -/
def topWaitsWrong : ChangeSpec := { name := "topWaits", fn := fun _ => fun
  | [d1, d2, d3] => { results := [.lit (.bool false)], args := [d1, d2, d3] }
  | _ => none }
def TopWaitsWrongFalsely : Prop := topWaitsRow.holds Tryz.pinned (OpenSpec.ofChange topWaitsWrong)

/-- 'mahlsticktop.TopLeaf': WHATEVER THE INPUT: true; the input reads as it did. -/
def topLeafSpec : ChangeSpec := { name := "topLeaf", fn := fun _ => fun
  | [d1, d2] => { results := [.lit (.bool true)], args := [d1, d2] }
  | _ => none }
def topLeafRow : OpenClaim := { program := "ytifmgeicigngbaagreat", sum := "2b2f77906b18b3038c422ee7b7cbba2212c7c45ede76625ca3a43a42ff8149f1", func := "mahlstick/mahlsticktop.TopLeaf", spec := "topLeaf", unfollowed := true, recurses := true, plainKeys := false, apart := false }
def TopLeafSaid : Prop := topLeafRow.holds Tryz.pinned (OpenSpec.ofChange topLeafSpec)

/-- ITS FALSE NEIGHBOUR: 'it returns false'. Refute it at one input. -/
def topLeafWrong : ChangeSpec := { name := "topLeaf", fn := fun _ => fun
  | [d1, d2] => { results := [.lit (.bool false)], args := [d1, d2] }
  | _ => none }
def TopLeafWrongFalsely : Prop := topLeafRow.holds Tryz.pinned (OpenSpec.ofChange topLeafWrong)

/-- 'mahlsticktop.TopReads': WHATEVER THE INPUT: true; the input reads as it did. -/
def topReadsSpec : ChangeSpec := { name := "topReads", fn := fun _ => fun
  | [d1, d2] => { results := [.lit (.bool true)], args := [d1, d2] }
  | _ => none }
def topReadsRow : OpenClaim := { program := "ytifmgeicigngbaagreat", sum := "2b2f77906b18b3038c422ee7b7cbba2212c7c45ede76625ca3a43a42ff8149f1", func := "mahlstick/mahlsticktop.TopReads", spec := "topReads", unfollowed := true, recurses := true, plainKeys := false, apart := false }
def TopReadsSaid : Prop := topReadsRow.holds Tryz.pinned (OpenSpec.ofChange topReadsSpec)

/-- ITS FALSE NEIGHBOUR: 'it returns false'. Refute it at one input. -/
def topReadsWrong : ChangeSpec := { name := "topReads", fn := fun _ => fun
  | [d1, d2] => { results := [.lit (.bool false)], args := [d1, d2] }
  | _ => none }
def TopReadsWrongFalsely : Prop := topReadsRow.holds Tryz.pinned (OpenSpec.ofChange topReadsWrong)

/- THE SECOND FORM. 'bulk': how many values and letters a reading holds, each counted each time it is reached (what is shared counts as often as it is met; a slice's spare places count too). A statement '..UptoSaid' is the law's where the arguments, and the package variables that the reading takes, are together of bulk at most 1048576: NARROWER than '..Said'. Prove '..Said' where nothing that the law and all that it calls make is longer than what came in: it says more and counts as full. Else prove '..UptoSaid'. A law counts once. -/
mutual
def uptoBulk {H : Type} : DataW H → Nat
  | .lit (.string bytes) => bytes.length + 1
  | .lit _ => 1
  | .nil => 1
  | .ptr d => uptoBulk d + 1
  | .slice elems spare => uptoBulkAll elems + uptoBulkAll spare + 1
  | .agg parts => uptoBulkAll parts + 1
  | .iface _ d => uptoBulk d + 1
  | .map entries => uptoBulkEntries entries + 1
  | .held _ => 1
def uptoBulkAll {H : Type} : List (DataW H) → Nat
  | [] => 0
  | d :: r => uptoBulk d + uptoBulkAll r
def uptoBulkEntries {H : Type} : List (Lit × DataW H) → Nat
  | [] => 0
  | x :: r => uptoBulkEntry x + uptoBulkEntries r
def uptoBulkEntry {H : Type} : Lit × DataW H → Nat
  | (.string bytes, d) => bytes.length + uptoBulk d + 1
  | (_, d) => uptoBulk d + 1
 end
def uptoSmall : (H : Type) → List (DataW H) → Bool := fun _ ds => decide (uptoBulkAll ds ≤ 1048576)
def OpenSpec.upto (s : _root_.Go.ChangeSpec) : _root_.Go.OpenSpec := { _root_.Go.OpenSpec.ofChange s with cond := some uptoSmall }

/-- 'mahlsticktop.TopWaits', WHERE WHAT IT READS IS OF BULK AT MOST 1048576: true; the input reads as it did. -/
def topWaitsUptoRow : OpenClaim := { program := "ytifmgeicigngbaagreat", sum := "2b2f77906b18b3038c422ee7b7cbba2212c7c45ede76625ca3a43a42ff8149f1", func := "mahlstick/mahlsticktop.TopWaits", spec := "topWaits", unfollowed := true, recurses := true, plainKeys := false, apart := false, narrowed := true }
def TopWaitsUptoSaid : Prop := topWaitsUptoRow.holds Tryz.pinned (OpenSpec.upto topWaitsSpec)

/-- 'mahlsticktop.TopLeaf', WHERE WHAT IT READS IS OF BULK AT MOST 1048576: true; the input reads as it did. -/
def topLeafUptoRow : OpenClaim := { program := "ytifmgeicigngbaagreat", sum := "2b2f77906b18b3038c422ee7b7cbba2212c7c45ede76625ca3a43a42ff8149f1", func := "mahlstick/mahlsticktop.TopLeaf", spec := "topLeaf", unfollowed := true, recurses := true, plainKeys := false, apart := false, narrowed := true }
def TopLeafUptoSaid : Prop := topLeafUptoRow.holds Tryz.pinned (OpenSpec.upto topLeafSpec)

/-- 'mahlsticktop.TopReads', WHERE WHAT IT READS IS OF BULK AT MOST 1048576: true; the input reads as it did. -/
def topReadsUptoRow : OpenClaim := { program := "ytifmgeicigngbaagreat", sum := "2b2f77906b18b3038c422ee7b7cbba2212c7c45ede76625ca3a43a42ff8149f1", func := "mahlstick/mahlsticktop.TopReads", spec := "topReads", unfollowed := true, recurses := true, plainKeys := false, apart := false, narrowed := true }
def TopReadsUptoSaid : Prop := topReadsUptoRow.holds Tryz.pinned (OpenSpec.upto topReadsSpec)

end Rows
end Go.Proofs.YtifmgeicigngbaaGreat
