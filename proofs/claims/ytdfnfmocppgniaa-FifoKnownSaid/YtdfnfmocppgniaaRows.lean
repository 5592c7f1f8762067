/-
  No cell of these rows narrows 'for every input' (looked for: loops, veiled, ifaces, maps, wideKeys, modest, calm, conditions, laid).
  DERIVED. THE GIVEN ROWS OF THIS SEAT. 4 by the template 'for every input the law returns true; each argument reads behind the call as it read before'; 0 by the template 'total and deterministic' (their statements: YtdfnfmocppgniaaTotals.lean).
  GIVEN WITH THE SEED: the statements are not yours to turn. If you find one false, say at which input.
  Laid BY PROGRAM, IN A SANDBOX (cutbox-rows.mjs): the forced cells as the released guide's own fill.sh prints them over the translation 07d1dddc53934743… (all of the seat's roots in one cut). By AI agents, Wed Nov 11 2026. No macro, syntax, notation, axiom, sorry.
-/
import Derived.Test.YtdfnfmocppgniaaChecked
import GoSem.Claim
import GoSem.ClaimJoined
import GoSem.ClaimMapViews
import Derived.JoinedTies
import Derived.KernelRfl
namespace Go.Proofs.Ytdfnfmocppgniaa
/- THE CELL 'sum', in the pinned program and in every row, IS THE sha256 OF THE DUMP (.gsa) THAT YtdfnfmocppgniaaProg.lean LOADS. Nothing in Lean hashes anything: it is a label: what it is worth is what the hold of that sum in a sandbox is worth. -/
noncomputable def Try.pinned : Pinned := { name := "ytdfnfmocppgniaa", sum := "07d1dddc53934743bcdd117bee13fc892db9faec1dce2a9585be1f700f3dd491", checked := Try.checked }
namespace Rows
def none {H : Type} : Left H := { results := [], args := [] }

/-- 'distafflaw14.FifoFirst': WHATEVER THE INPUT: true; the input reads as it did. -/
def fifoFirstSpec : ChangeSpec := { name := "fifoFirst", fn := fun _ => fun
  | [d] => { results := [.lit (.bool true)], args := [d] }
  | _ => none }
def fifoFirstRow : OpenClaim := { program := "ytdfnfmocppgniaa", sum := "07d1dddc53934743bcdd117bee13fc892db9faec1dce2a9585be1f700f3dd491", func := "distaff/distafflaw14.FifoFirst", spec := "fifoFirst", unfollowed := true, recurses := true, apart := false }
def FifoFirstSaid : Prop := fifoFirstRow.holds Try.pinned (OpenSpec.ofChange fifoFirstSpec)

/-- ITS FALSE NEIGHBOUR: 'it returns false'. Refute it at one input. -/
def fifoFirstWrong : ChangeSpec := { name := "fifoFirst", fn := fun _ => fun
  | [d] => { results := [.lit (.bool false)], args := [d] }
  | _ => none }
def FifoFirstWrongFalsely : Prop := fifoFirstRow.holds Try.pinned (OpenSpec.ofChange fifoFirstWrong)

/-- 'distafflaw14.FifoPasses': WHATEVER THE INPUT: true; the input reads as it did. -/
def fifoPassesSpec : ChangeSpec := { name := "fifoPasses", fn := fun _ => fun
  | [d1, d2, d3] => { results := [.lit (.bool true)], args := [d1, d2, d3] }
  | _ => none }
def fifoPassesRow : OpenClaim := { program := "ytdfnfmocppgniaa", sum := "07d1dddc53934743bcdd117bee13fc892db9faec1dce2a9585be1f700f3dd491", func := "distaff/distafflaw14.FifoPasses", spec := "fifoPasses", unfollowed := true, recurses := true, apart := false }
def FifoPassesSaid : Prop := fifoPassesRow.holds Try.pinned (OpenSpec.ofChange fifoPassesSpec)

/-- ITS FALSE NEIGHBOUR: 'it returns false'. Refute it at one input. -/
def fifoPassesWrong : ChangeSpec := { name := "fifoPasses", fn := fun _ => fun
  | [d1, d2, d3] => { results := [.lit (.bool false)], args := [d1, d2, d3] }
  | _ => none }
def FifoPassesWrongFalsely : Prop := fifoPassesRow.holds Try.pinned (OpenSpec.ofChange fifoPassesWrong)

/-- 'distafflaw14.FifoPlays': WHATEVER THE INPUT: true; the input reads as it did. -/
def fifoPlaysSpec : ChangeSpec := { name := "fifoPlays", fn := fun _ => fun
  | [d1, d2, d3] => { results := [.lit (.bool true)], args := [d1, d2, d3] }
  | _ => none }
def fifoPlaysRow : OpenClaim := { program := "ytdfnfmocppgniaa", sum := "07d1dddc53934743bcdd117bee13fc892db9faec1dce2a9585be1f700f3dd491", func := "distaff/distafflaw14.FifoPlays", spec := "fifoPlays", unfollowed := true, recurses := true, apart := false }
def FifoPlaysSaid : Prop := fifoPlaysRow.holds Try.pinned (OpenSpec.ofChange fifoPlaysSpec)

/-- ITS FALSE NEIGHBOUR: 'it returns false'. Refute it at one input. -/
def fifoPlaysWrong : ChangeSpec := { name := "fifoPlays", fn := fun _ => fun
  | [d1, d2, d3] => { results := [.lit (.bool false)], args := [d1, d2, d3] }
  | _ => none }
def FifoPlaysWrongFalsely : Prop := fifoPlaysRow.holds Try.pinned (OpenSpec.ofChange fifoPlaysWrong)

/-- 'distafflaw14.FifoKnown': WHATEVER THE INPUT: true; the input reads as it did. -/
def fifoKnownSpec : ChangeSpec := { name := "fifoKnown", fn := fun _ => fun
  | [] => { results := [.lit (.bool true)], args := [] }
  | _ => none }
def fifoKnownRow : OpenClaim := { program := "ytdfnfmocppgniaa", sum := "07d1dddc53934743bcdd117bee13fc892db9faec1dce2a9585be1f700f3dd491", func := "distaff/distafflaw14.FifoKnown", spec := "fifoKnown", unfollowed := true, recurses := true, apart := false }
def FifoKnownSaid : Prop := fifoKnownRow.holds Try.pinned (OpenSpec.ofChange fifoKnownSpec)

/-- ITS FALSE NEIGHBOUR: 'it returns false'. Refute it at one input. -/
def fifoKnownWrong : ChangeSpec := { name := "fifoKnown", fn := fun _ => fun
  | [] => { results := [.lit (.bool false)], args := [] }
  | _ => none }
def FifoKnownWrongFalsely : Prop := fifoKnownRow.holds Try.pinned (OpenSpec.ofChange fifoKnownWrong)

/- THE SECOND FORM. 'bulk': how many values and letters a reading holds, each counted each time it is reached (what is shared counts as often as it is met; a slice's spare places count too). A statement '..UptoSaid' is the law's where the arguments, and the package variables that the reading takes, are together of bulk at most 1048576: NARROWER than '..Said'. Prove '..Said' where nothing that the law and all that it calls make is longer than what came in: it says more and counts as full. Else prove '..UptoSaid'. A law counts once. -/
mutual
def uptoBulk {H : Type} : DataW H → Nat
  | .lit (.string bytes) => bytes.length + 1
  | .lit _ => 1
  | .nil => 1
  | .ptr d => uptoBulk d + 1
  | .slice elems spare => uptoBulkAll elems + uptoBulkAll spare + 1
  | .agg parts => uptoBulkAll parts + 1
  | .iface _ d => uptoBulk d + 1
  | .map entries => uptoBulkEntries entries + 1
  | .held _ => 1
def uptoBulkAll {H : Type} : List (DataW H) → Nat
  | [] => 0
  | d :: r => uptoBulk d + uptoBulkAll r
def uptoBulkEntries {H : Type} : List (Lit × DataW H) → Nat
  | [] => 0
  | x :: r => uptoBulkEntry x + uptoBulkEntries r
def uptoBulkEntry {H : Type} : Lit × DataW H → Nat
  | (.string bytes, d) => bytes.length + uptoBulk d + 1
  | (_, d) => uptoBulk d + 1
 end
def uptoSmall : (H : Type) → List (DataW H) → Bool := fun _ ds => decide (uptoBulkAll ds ≤ 1048576)
def OpenSpec.upto (s : _root_.Go.ChangeSpec) : _root_.Go.OpenSpec := { _root_.Go.OpenSpec.ofChange s with cond := some uptoSmall }

/-- 'distafflaw14.FifoFirst', WHERE WHAT IT READS IS OF BULK AT MOST 1048576: true; the input reads as it did. -/
def fifoFirstUptoRow : OpenClaim := { program := "ytdfnfmocppgniaa", sum := "07d1dddc53934743bcdd117bee13fc892db9faec1dce2a9585be1f700f3dd491", func := "distaff/distafflaw14.FifoFirst", spec := "fifoFirst", unfollowed := true, recurses := true, apart := false, narrowed := true }
def FifoFirstUptoSaid : Prop := fifoFirstUptoRow.holds Try.pinned (OpenSpec.upto fifoFirstSpec)

/-- 'distafflaw14.FifoPasses', WHERE WHAT IT READS IS OF BULK AT MOST 1048576: true; the input reads as it did. -/
def fifoPassesUptoRow : OpenClaim := { program := "ytdfnfmocppgniaa", sum := "07d1dddc53934743bcdd117bee13fc892db9faec1dce2a9585be1f700f3dd491", func := "distaff/distafflaw14.FifoPasses", spec := "fifoPasses", unfollowed := true, recurses := true, apart := false, narrowed := true }
def FifoPassesUptoSaid : Prop := fifoPassesUptoRow.holds Try.pinned (OpenSpec.upto fifoPassesSpec)

/-- 'distafflaw14.FifoPlays', WHERE WHAT IT READS IS OF BULK AT MOST 1048576: true; the input reads as it did. -/
def fifoPlaysUptoRow : OpenClaim := { program := "ytdfnfmocppgniaa", sum := "07d1dddc53934743bcdd117bee13fc892db9faec1dce2a9585be1f700f3dd491", func := "distaff/distafflaw14.FifoPlays", spec := "fifoPlays", unfollowed := true, recurses := true, apart := false, narrowed := true }
def FifoPlaysUptoSaid : Prop := fifoPlaysUptoRow.holds Try.pinned (OpenSpec.upto fifoPlaysSpec)

/-- 'distafflaw14.FifoKnown', WHERE WHAT IT READS IS OF BULK AT MOST 1048576: true; the input reads as it did. -/
def fifoKnownUptoRow : OpenClaim := { program := "ytdfnfmocppgniaa", sum := "07d1dddc53934743bcdd117bee13fc892db9faec1dce2a9585be1f700f3dd491", func := "distaff/distafflaw14.FifoKnown", spec := "fifoKnown", unfollowed := true, recurses := true, apart := false, narrowed := true }
def FifoKnownUptoSaid : Prop := fifoKnownUptoRow.holds Try.pinned (OpenSpec.upto fifoKnownSpec)

end Rows
end Go.Proofs.Ytdfnfmocppgniaa
