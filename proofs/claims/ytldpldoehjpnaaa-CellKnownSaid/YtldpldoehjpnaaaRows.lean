/-
  No cell of these rows narrows 'for every input' (looked for: loops, veiled, ifaces, maps, wideKeys, modest, calm, conditions, laid).
  DERIVED. THE GIVEN ROWS OF THIS SEAT. 5 by the template 'for every input the law returns true; each argument reads behind the call as it read before'; 0 by the template 'total and deterministic' (their statements: YtldpldoehjpnaaaTotals.lean).
  GIVEN WITH THE SEED: the statements are not yours to turn. If you find one false, say at which input.
  Laid BY PROGRAM, IN A SANDBOX (cutbox-rows.mjs): the forced cells as the released guide's own fill.sh prints them over the translation a82aaefa38659b6b… (all of the seat's roots in one cut). By AI agents, Wed Nov 11 2026. No macro, syntax, notation, axiom, sorry.
-/
import Derived.Test.YtldpldoehjpnaaaChecked
import GoSem.Claim
import GoSem.ClaimJoined
import GoSem.ClaimMapViews
import Derived.JoinedTies
import Derived.KernelRfl
namespace Go.Proofs.Ytldpldoehjpnaaa
/- THE CELL 'sum', in the pinned program and in every row, IS THE sha256 OF THE DUMP (.gsa) THAT YtldpldoehjpnaaaProg.lean LOADS. Nothing in Lean hashes anything: it is a label: what it is worth is what the hold of that sum in a sandbox is worth. -/
noncomputable def Try.pinned : Pinned := { name := "ytldpldoehjpnaaa", sum := "a82aaefa38659b6bf9222bd96b70f09cdc58a999547b16c7f749a5fd6ebc003a", checked := Try.checked }
namespace Rows
def none {H : Type} : Left H := { results := [], args := [] }

/-- 'distafflaw06.CellTwice': WHATEVER THE INPUT: true; the input reads as it did. -/
def cellTwiceSpec : ChangeSpec := { name := "cellTwice", fn := fun _ => fun
  | [d1, d2, d3, d4] => { results := [.lit (.bool true)], args := [d1, d2, d3, d4] }
  | _ => none }
def cellTwiceRow : OpenClaim := { program := "ytldpldoehjpnaaa", sum := "a82aaefa38659b6bf9222bd96b70f09cdc58a999547b16c7f749a5fd6ebc003a", func := "distaff/distafflaw06.CellTwice", spec := "cellTwice", unfollowed := true, recurses := true, apart := false }
def CellTwiceSaid : Prop := cellTwiceRow.holds Try.pinned (OpenSpec.ofChange cellTwiceSpec)

/-- ITS FALSE NEIGHBOUR: 'it returns false'. Refute it at one input. -/
def cellTwiceWrong : ChangeSpec := { name := "cellTwice", fn := fun _ => fun
  | [d1, d2, d3, d4] => { results := [.lit (.bool false)], args := [d1, d2, d3, d4] }
  | _ => none }
def CellTwiceWrongFalsely : Prop := cellTwiceRow.holds Try.pinned (OpenSpec.ofChange cellTwiceWrong)

/-- 'distafflaw06.CellRedoes': WHATEVER THE INPUT: true; the input reads as it did. -/
def cellRedoesSpec : ChangeSpec := { name := "cellRedoes", fn := fun _ => fun
  | [d1, d2, d3] => { results := [.lit (.bool true)], args := [d1, d2, d3] }
  | _ => none }
def cellRedoesRow : OpenClaim := { program := "ytldpldoehjpnaaa", sum := "a82aaefa38659b6bf9222bd96b70f09cdc58a999547b16c7f749a5fd6ebc003a", func := "distaff/distafflaw06.CellRedoes", spec := "cellRedoes", unfollowed := true, recurses := true, apart := false }
def CellRedoesSaid : Prop := cellRedoesRow.holds Try.pinned (OpenSpec.ofChange cellRedoesSpec)

/-- ITS FALSE NEIGHBOUR: 'it returns false'. Refute it at one input. -/
def cellRedoesWrong : ChangeSpec := { name := "cellRedoes", fn := fun _ => fun
  | [d1, d2, d3] => { results := [.lit (.bool false)], args := [d1, d2, d3] }
  | _ => none }
def CellRedoesWrongFalsely : Prop := cellRedoesRow.holds Try.pinned (OpenSpec.ofChange cellRedoesWrong)

/-- 'distafflaw06.CellPlays': WHATEVER THE INPUT: true; the input reads as it did. -/
def cellPlaysSpec : ChangeSpec := { name := "cellPlays", fn := fun _ => fun
  | [d1, d2] => { results := [.lit (.bool true)], args := [d1, d2] }
  | _ => none }
def cellPlaysRow : OpenClaim := { program := "ytldpldoehjpnaaa", sum := "a82aaefa38659b6bf9222bd96b70f09cdc58a999547b16c7f749a5fd6ebc003a", func := "distaff/distafflaw06.CellPlays", spec := "cellPlays", unfollowed := true, recurses := true, apart := false }
def CellPlaysSaid : Prop := cellPlaysRow.holds Try.pinned (OpenSpec.ofChange cellPlaysSpec)

/-- ITS FALSE NEIGHBOUR: 'it returns false'. Refute it at one input. -/
def cellPlaysWrong : ChangeSpec := { name := "cellPlays", fn := fun _ => fun
  | [d1, d2] => { results := [.lit (.bool false)], args := [d1, d2] }
  | _ => none }
def CellPlaysWrongFalsely : Prop := cellPlaysRow.holds Try.pinned (OpenSpec.ofChange cellPlaysWrong)

/-- 'distafflaw06.CellLogs': WHATEVER THE INPUT: true; the input reads as it did. -/
def cellLogsSpec : ChangeSpec := { name := "cellLogs", fn := fun _ => fun
  | [d1, d2, d3] => { results := [.lit (.bool true)], args := [d1, d2, d3] }
  | _ => none }
def cellLogsRow : OpenClaim := { program := "ytldpldoehjpnaaa", sum := "a82aaefa38659b6bf9222bd96b70f09cdc58a999547b16c7f749a5fd6ebc003a", func := "distaff/distafflaw06.CellLogs", spec := "cellLogs", unfollowed := true, recurses := true, apart := false }
def CellLogsSaid : Prop := cellLogsRow.holds Try.pinned (OpenSpec.ofChange cellLogsSpec)

/-- ITS FALSE NEIGHBOUR: 'it returns false'. Refute it at one input. -/
def cellLogsWrong : ChangeSpec := { name := "cellLogs", fn := fun _ => fun
  | [d1, d2, d3] => { results := [.lit (.bool false)], args := [d1, d2, d3] }
  | _ => none }
def CellLogsWrongFalsely : Prop := cellLogsRow.holds Try.pinned (OpenSpec.ofChange cellLogsWrong)

/-- 'distafflaw06.CellKnown': WHATEVER THE INPUT: true; the input reads as it did. -/
def cellKnownSpec : ChangeSpec := { name := "cellKnown", fn := fun _ => fun
  | [] => { results := [.lit (.bool true)], args := [] }
  | _ => none }
def cellKnownRow : OpenClaim := { program := "ytldpldoehjpnaaa", sum := "a82aaefa38659b6bf9222bd96b70f09cdc58a999547b16c7f749a5fd6ebc003a", func := "distaff/distafflaw06.CellKnown", spec := "cellKnown", unfollowed := true, recurses := true, apart := false }
def CellKnownSaid : Prop := cellKnownRow.holds Try.pinned (OpenSpec.ofChange cellKnownSpec)

/-- ITS FALSE NEIGHBOUR: 'it returns false'. Refute it at one input. -/
def cellKnownWrong : ChangeSpec := { name := "cellKnown", fn := fun _ => fun
  | [] => { results := [.lit (.bool false)], args := [] }
  | _ => none }
def CellKnownWrongFalsely : Prop := cellKnownRow.holds Try.pinned (OpenSpec.ofChange cellKnownWrong)

/- THE SECOND FORM. 'bulk': how many values and letters a reading holds, each counted each time it is reached (what is shared counts as often as it is met; a slice's spare places count too). A statement '..UptoSaid' is the law's where the arguments, and the package variables that the reading takes, are together of bulk at most 1048576: NARROWER than '..Said'. Prove '..Said' where nothing that the law and all that it calls make is longer than what came in: it says more and counts as full. Else prove '..UptoSaid'. A law counts once. -/
mutual
def uptoBulk {H : Type} : DataW H → Nat
  | .lit (.string bytes) => bytes.length + 1
  | .lit _ => 1
  | .nil => 1
  | .ptr d => uptoBulk d + 1
  | .slice elems spare => uptoBulkAll elems + uptoBulkAll spare + 1
  | .agg parts => uptoBulkAll parts + 1
  | .iface _ d => uptoBulk d + 1
  | .map entries => uptoBulkEntries entries + 1
  | .held _ => 1
def uptoBulkAll {H : Type} : List (DataW H) → Nat
  | [] => 0
  | d :: r => uptoBulk d + uptoBulkAll r
def uptoBulkEntries {H : Type} : List (Lit × DataW H) → Nat
  | [] => 0
  | x :: r => uptoBulkEntry x + uptoBulkEntries r
def uptoBulkEntry {H : Type} : Lit × DataW H → Nat
  | (.string bytes, d) => bytes.length + uptoBulk d + 1
  | (_, d) => uptoBulk d + 1
 end
def uptoSmall : (H : Type) → List (DataW H) → Bool := fun _ ds => decide (uptoBulkAll ds ≤ 1048576)
def OpenSpec.upto (s : _root_.Go.ChangeSpec) : _root_.Go.OpenSpec := { _root_.Go.OpenSpec.ofChange s with cond := some uptoSmall }

/-- 'distafflaw06.CellTwice', WHERE WHAT IT READS IS OF BULK AT MOST 1048576: true; the input reads as it did. -/
def cellTwiceUptoRow : OpenClaim := { program := "ytldpldoehjpnaaa", sum := "a82aaefa38659b6bf9222bd96b70f09cdc58a999547b16c7f749a5fd6ebc003a", func := "distaff/distafflaw06.CellTwice", spec := "cellTwice", unfollowed := true, recurses := true, apart := false, narrowed := true }
def CellTwiceUptoSaid : Prop := cellTwiceUptoRow.holds Try.pinned (OpenSpec.upto cellTwiceSpec)

/-- 'distafflaw06.CellRedoes', WHERE WHAT IT READS IS OF BULK AT MOST 1048576: true; the input reads as it did. -/
def cellRedoesUptoRow : OpenClaim := { program := "ytldpldoehjpnaaa", sum := "a82aaefa38659b6bf9222bd96b70f09cdc58a999547b16c7f749a5fd6ebc003a", func := "distaff/distafflaw06.CellRedoes", spec := "cellRedoes", unfollowed := true, recurses := true, apart := false, narrowed := true }
def CellRedoesUptoSaid : Prop := cellRedoesUptoRow.holds Try.pinned (OpenSpec.upto cellRedoesSpec)

/-- 'distafflaw06.CellPlays', WHERE WHAT IT READS IS OF BULK AT MOST 1048576: true; the input reads as it did. -/
def cellPlaysUptoRow : OpenClaim := { program := "ytldpldoehjpnaaa", sum := "a82aaefa38659b6bf9222bd96b70f09cdc58a999547b16c7f749a5fd6ebc003a", func := "distaff/distafflaw06.CellPlays", spec := "cellPlays", unfollowed := true, recurses := true, apart := false, narrowed := true }
def CellPlaysUptoSaid : Prop := cellPlaysUptoRow.holds Try.pinned (OpenSpec.upto cellPlaysSpec)

/-- 'distafflaw06.CellLogs', WHERE WHAT IT READS IS OF BULK AT MOST 1048576: true; the input reads as it did. -/
def cellLogsUptoRow : OpenClaim := { program := "ytldpldoehjpnaaa", sum := "a82aaefa38659b6bf9222bd96b70f09cdc58a999547b16c7f749a5fd6ebc003a", func := "distaff/distafflaw06.CellLogs", spec := "cellLogs", unfollowed := true, recurses := true, apart := false, narrowed := true }
def CellLogsUptoSaid : Prop := cellLogsUptoRow.holds Try.pinned (OpenSpec.upto cellLogsSpec)

/-- 'distafflaw06.CellKnown', WHERE WHAT IT READS IS OF BULK AT MOST 1048576: true; the input reads as it did. -/
def cellKnownUptoRow : OpenClaim := { program := "ytldpldoehjpnaaa", sum := "a82aaefa38659b6bf9222bd96b70f09cdc58a999547b16c7f749a5fd6ebc003a", func := "distaff/distafflaw06.CellKnown", spec := "cellKnown", unfollowed := true, recurses := true, apart := false, narrowed := true }
def CellKnownUptoSaid : Prop := cellKnownUptoRow.holds Try.pinned (OpenSpec.upto cellKnownSpec)

end Rows
end Go.Proofs.Ytldpldoehjpnaaa
