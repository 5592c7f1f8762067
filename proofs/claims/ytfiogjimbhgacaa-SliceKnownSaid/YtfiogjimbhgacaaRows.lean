/-
  No cell of these rows narrows 'for every input' (looked for: loops, veiled, ifaces, maps, wideKeys, modest, calm, conditions, laid).
  DERIVED. THE GIVEN ROWS OF THIS SEAT. 3 by the template 'for every input the law returns true; each argument reads behind the call as it read before'; 0 by the template 'total and deterministic' (their statements: YtfiogjimbhgacaaTotals.lean).
  GIVEN WITH THE SEED: the statements are not yours to turn. If you find one false, say at which input.
  Laid BY PROGRAM, IN A SANDBOX (cutbox-rows.mjs): the forced cells as the released guide's own fill.sh prints them over the translation 95814f032857df9a… (all of the seat's roots in one cut). By AI agents, Wed Nov 11 2026. No macro, syntax, notation, axiom, sorry.
-/
import Derived.Test.YtfiogjimbhgacaaChecked
import GoSem.Claim
import GoSem.ClaimJoined
import GoSem.ClaimMapViews
import Derived.JoinedTies
import Derived.KernelRfl
namespace Go.Proofs.Ytfiogjimbhgacaa
/- THE CELL 'sum', in the pinned program and in every row, IS THE sha256 OF THE DUMP (.gsa) THAT YtfiogjimbhgacaaProg.lean LOADS. Nothing in Lean hashes anything: it is a label: what it is worth is what the hold of that sum in a sandbox is worth. -/
noncomputable def Try.pinned : Pinned := { name := "ytfiogjimbhgacaa", sum := "95814f032857df9a81c1e04a19cd1b4ff86b1e3fb9e2200da781aea37011188d", checked := Try.checked }
namespace Rows
def none {H : Type} : Left H := { results := [], args := [] }

/-- 'distafflaw18.SliceTells': WHATEVER THE INPUT: true; the input reads as it did. -/
def sliceTellsSpec : ChangeSpec := { name := "sliceTells", fn := fun _ => fun
  | [d] => { results := [.lit (.bool true)], args := [d] }
  | _ => none }
def sliceTellsRow : OpenClaim := { program := "ytfiogjimbhgacaa", sum := "95814f032857df9a81c1e04a19cd1b4ff86b1e3fb9e2200da781aea37011188d", func := "distaff/distafflaw18.SliceTells", spec := "sliceTells", unfollowed := true, recurses := true, apart := false }
def SliceTellsSaid : Prop := sliceTellsRow.holds Try.pinned (OpenSpec.ofChange sliceTellsSpec)

/-- ITS FALSE NEIGHBOUR: 'it returns false'. Refute it at one input. -/
def sliceTellsWrong : ChangeSpec := { name := "sliceTells", fn := fun _ => fun
  | [d] => { results := [.lit (.bool false)], args := [d] }
  | _ => none }
def SliceTellsWrongFalsely : Prop := sliceTellsRow.holds Try.pinned (OpenSpec.ofChange sliceTellsWrong)

/-- 'distafflaw18.SliceNone': WHATEVER THE INPUT: true; the input reads as it did. -/
def sliceNoneSpec : ChangeSpec := { name := "sliceNone", fn := fun _ => fun
  | [d] => { results := [.lit (.bool true)], args := [d] }
  | _ => none }
def sliceNoneRow : OpenClaim := { program := "ytfiogjimbhgacaa", sum := "95814f032857df9a81c1e04a19cd1b4ff86b1e3fb9e2200da781aea37011188d", func := "distaff/distafflaw18.SliceNone", spec := "sliceNone", unfollowed := true, recurses := true, apart := false }
def SliceNoneSaid : Prop := sliceNoneRow.holds Try.pinned (OpenSpec.ofChange sliceNoneSpec)

/-- ITS FALSE NEIGHBOUR: 'it returns false'. Refute it at one input. -/
def sliceNoneWrong : ChangeSpec := { name := "sliceNone", fn := fun _ => fun
  | [d] => { results := [.lit (.bool false)], args := [d] }
  | _ => none }
def SliceNoneWrongFalsely : Prop := sliceNoneRow.holds Try.pinned (OpenSpec.ofChange sliceNoneWrong)

/-- 'distafflaw18.SliceKnown': WHATEVER THE INPUT: true; the input reads as it did. -/
def sliceKnownSpec : ChangeSpec := { name := "sliceKnown", fn := fun _ => fun
  | [] => { results := [.lit (.bool true)], args := [] }
  | _ => none }
def sliceKnownRow : OpenClaim := { program := "ytfiogjimbhgacaa", sum := "95814f032857df9a81c1e04a19cd1b4ff86b1e3fb9e2200da781aea37011188d", func := "distaff/distafflaw18.SliceKnown", spec := "sliceKnown", unfollowed := true, recurses := true, apart := false }
def SliceKnownSaid : Prop := sliceKnownRow.holds Try.pinned (OpenSpec.ofChange sliceKnownSpec)

/-- ITS FALSE NEIGHBOUR: 'it returns false'. Refute it at one input. -/
def sliceKnownWrong : ChangeSpec := { name := "sliceKnown", fn := fun _ => fun
  | [] => { results := [.lit (.bool false)], args := [] }
  | _ => none }
def SliceKnownWrongFalsely : Prop := sliceKnownRow.holds Try.pinned (OpenSpec.ofChange sliceKnownWrong)

/- THE SECOND FORM. 'bulk': how many values and letters a reading holds, each counted each time it is reached (what is shared counts as often as it is met; a slice's spare places count too). A statement '..UptoSaid' is the law's where the arguments, and the package variables that the reading takes, are together of bulk at most 1048576: NARROWER than '..Said'. Prove '..Said' where nothing that the law and all that it calls make is longer than what came in: it says more and counts as full. Else prove '..UptoSaid'. A law counts once. -/
mutual
def uptoBulk {H : Type} : DataW H → Nat
  | .lit (.string bytes) => bytes.length + 1
  | .lit _ => 1
  | .nil => 1
  | .ptr d => uptoBulk d + 1
  | .slice elems spare => uptoBulkAll elems + uptoBulkAll spare + 1
  | .agg parts => uptoBulkAll parts + 1
  | .iface _ d => uptoBulk d + 1
  | .map entries => uptoBulkEntries entries + 1
  | .held _ => 1
def uptoBulkAll {H : Type} : List (DataW H) → Nat
  | [] => 0
  | d :: r => uptoBulk d + uptoBulkAll r
def uptoBulkEntries {H : Type} : List (Lit × DataW H) → Nat
  | [] => 0
  | x :: r => uptoBulkEntry x + uptoBulkEntries r
def uptoBulkEntry {H : Type} : Lit × DataW H → Nat
  | (.string bytes, d) => bytes.length + uptoBulk d + 1
  | (_, d) => uptoBulk d + 1
 end
def uptoSmall : (H : Type) → List (DataW H) → Bool := fun _ ds => decide (uptoBulkAll ds ≤ 1048576)
def OpenSpec.upto (s : _root_.Go.ChangeSpec) : _root_.Go.OpenSpec := { _root_.Go.OpenSpec.ofChange s with cond := some uptoSmall }

/-- 'distafflaw18.SliceTells', WHERE WHAT IT READS IS OF BULK AT MOST 1048576: true; the input reads as it did. -/
def sliceTellsUptoRow : OpenClaim := { program := "ytfiogjimbhgacaa", sum := "95814f032857df9a81c1e04a19cd1b4ff86b1e3fb9e2200da781aea37011188d", func := "distaff/distafflaw18.SliceTells", spec := "sliceTells", unfollowed := true, recurses := true, apart := false, narrowed := true }
def SliceTellsUptoSaid : Prop := sliceTellsUptoRow.holds Try.pinned (OpenSpec.upto sliceTellsSpec)

/-- 'distafflaw18.SliceNone', WHERE WHAT IT READS IS OF BULK AT MOST 1048576: true; the input reads as it did. -/
def sliceNoneUptoRow : OpenClaim := { program := "ytfiogjimbhgacaa", sum := "95814f032857df9a81c1e04a19cd1b4ff86b1e3fb9e2200da781aea37011188d", func := "distaff/distafflaw18.SliceNone", spec := "sliceNone", unfollowed := true, recurses := true, apart := false, narrowed := true }
def SliceNoneUptoSaid : Prop := sliceNoneUptoRow.holds Try.pinned (OpenSpec.upto sliceNoneSpec)

/-- 'distafflaw18.SliceKnown', WHERE WHAT IT READS IS OF BULK AT MOST 1048576: true; the input reads as it did. -/
def sliceKnownUptoRow : OpenClaim := { program := "ytfiogjimbhgacaa", sum := "95814f032857df9a81c1e04a19cd1b4ff86b1e3fb9e2200da781aea37011188d", func := "distaff/distafflaw18.SliceKnown", spec := "sliceKnown", unfollowed := true, recurses := true, apart := false, narrowed := true }
def SliceKnownUptoSaid : Prop := sliceKnownUptoRow.holds Try.pinned (OpenSpec.upto sliceKnownSpec)

end Rows
end Go.Proofs.Ytfiogjimbhgacaa
