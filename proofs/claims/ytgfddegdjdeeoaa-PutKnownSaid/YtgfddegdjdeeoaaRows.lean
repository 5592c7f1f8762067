/-
  No cell of these rows narrows 'for every input' (looked for: loops, veiled, ifaces, maps, wideKeys, modest, calm, conditions, laid).
  DERIVED. THE GIVEN ROWS OF THIS SEAT. 6 by the template 'for every input the law returns true; each argument reads behind the call as it read before'; 0 by the template 'total and deterministic' (their statements: YtgfddegdjdeeoaaTotals.lean).
  GIVEN WITH THE SEED: the statements are not yours to turn. If you find one false, say at which input.
  Laid BY PROGRAM, IN A SANDBOX (cutbox-rows.mjs): the forced cells as the released guide's own fill.sh prints them over the translation 84ecbc0c38c666a8… (all of the seat's roots in one cut). By AI agents, Wed Nov 11 2026. No macro, syntax, notation, axiom, sorry.
-/
import Derived.Test.YtgfddegdjdeeoaaChecked
import GoSem.Claim
import GoSem.ClaimJoined
import GoSem.ClaimMapViews
import Derived.JoinedTies
import Derived.KernelRfl
namespace Go.Proofs.Ytgfddegdjdeeoaa
/- THE CELL 'sum', in the pinned program and in every row, IS THE sha256 OF THE DUMP (.gsa) THAT YtgfddegdjdeeoaaProg.lean LOADS. Nothing in Lean hashes anything: it is a label: what it is worth is what the hold of that sum in a sandbox is worth. -/
noncomputable def Try.pinned : Pinned := { name := "ytgfddegdjdeeoaa", sum := "84ecbc0c38c666a82357786769b694dac5e10d710c42b8369d3e9d33c8a4d775", checked := Try.checked }
namespace Rows
def none {H : Type} : Left H := { results := [], args := [] }

/-- 'distafflaw09.PutKeeps': WHATEVER THE INPUT: true; the input reads as it did. -/
def putKeepsSpec : ChangeSpec := { name := "putKeeps", fn := fun _ => fun
  | [d1, d2, d3, d4] => { results := [.lit (.bool true)], args := [d1, d2, d3, d4] }
  | _ => none }
def putKeepsRow : OpenClaim := { program := "ytgfddegdjdeeoaa", sum := "84ecbc0c38c666a82357786769b694dac5e10d710c42b8369d3e9d33c8a4d775", func := "distaff/distafflaw09.PutKeeps", spec := "putKeeps", unfollowed := true, recurses := true, apart := false }
def PutKeepsSaid : Prop := putKeepsRow.holds Try.pinned (OpenSpec.ofChange putKeepsSpec)

/-- ITS FALSE NEIGHBOUR: 'it returns false'. Refute it at one input. -/
def putKeepsWrong : ChangeSpec := { name := "putKeeps", fn := fun _ => fun
  | [d1, d2, d3, d4] => { results := [.lit (.bool false)], args := [d1, d2, d3, d4] }
  | _ => none }
def PutKeepsWrongFalsely : Prop := putKeepsRow.holds Try.pinned (OpenSpec.ofChange putKeepsWrong)

/-- 'distafflaw09.PutPlays': WHATEVER THE INPUT: true; the input reads as it did. -/
def putPlaysSpec : ChangeSpec := { name := "putPlays", fn := fun _ => fun
  | [d1, d2, d3, d4, d5] => { results := [.lit (.bool true)], args := [d1, d2, d3, d4, d5] }
  | _ => none }
def putPlaysRow : OpenClaim := { program := "ytgfddegdjdeeoaa", sum := "84ecbc0c38c666a82357786769b694dac5e10d710c42b8369d3e9d33c8a4d775", func := "distaff/distafflaw09.PutPlays", spec := "putPlays", unfollowed := true, recurses := true, apart := false }
def PutPlaysSaid : Prop := putPlaysRow.holds Try.pinned (OpenSpec.ofChange putPlaysSpec)

/-- ITS FALSE NEIGHBOUR: 'it returns false'. Refute it at one input. -/
def putPlaysWrong : ChangeSpec := { name := "putPlays", fn := fun _ => fun
  | [d1, d2, d3, d4, d5] => { results := [.lit (.bool false)], args := [d1, d2, d3, d4, d5] }
  | _ => none }
def PutPlaysWrongFalsely : Prop := putPlaysRow.holds Try.pinned (OpenSpec.ofChange putPlaysWrong)

/-- 'distafflaw09.PutNone': WHATEVER THE INPUT: true; the input reads as it did. -/
def putNoneSpec : ChangeSpec := { name := "putNone", fn := fun _ => fun
  | [d] => { results := [.lit (.bool true)], args := [d] }
  | _ => none }
def putNoneRow : OpenClaim := { program := "ytgfddegdjdeeoaa", sum := "84ecbc0c38c666a82357786769b694dac5e10d710c42b8369d3e9d33c8a4d775", func := "distaff/distafflaw09.PutNone", spec := "putNone", unfollowed := true, recurses := true, apart := false }
def PutNoneSaid : Prop := putNoneRow.holds Try.pinned (OpenSpec.ofChange putNoneSpec)

/-- ITS FALSE NEIGHBOUR: 'it returns false'. Refute it at one input. -/
def putNoneWrong : ChangeSpec := { name := "putNone", fn := fun _ => fun
  | [d] => { results := [.lit (.bool false)], args := [d] }
  | _ => none }
def PutNoneWrongFalsely : Prop := putNoneRow.holds Try.pinned (OpenSpec.ofChange putNoneWrong)

/-- 'distafflaw09.PutLayAll': WHATEVER THE INPUT: true; the input reads as it did. -/
def putLayAllSpec : ChangeSpec := { name := "putLayAll", fn := fun _ => fun
  | [d1, d2, d3, d4] => { results := [.lit (.bool true)], args := [d1, d2, d3, d4] }
  | _ => none }
def putLayAllRow : OpenClaim := { program := "ytgfddegdjdeeoaa", sum := "84ecbc0c38c666a82357786769b694dac5e10d710c42b8369d3e9d33c8a4d775", func := "distaff/distafflaw09.PutLayAll", spec := "putLayAll", unfollowed := true, recurses := true, apart := false }
def PutLayAllSaid : Prop := putLayAllRow.holds Try.pinned (OpenSpec.ofChange putLayAllSpec)

/-- ITS FALSE NEIGHBOUR: 'it returns false'. Refute it at one input. -/
def putLayAllWrong : ChangeSpec := { name := "putLayAll", fn := fun _ => fun
  | [d1, d2, d3, d4] => { results := [.lit (.bool false)], args := [d1, d2, d3, d4] }
  | _ => none }
def PutLayAllWrongFalsely : Prop := putLayAllRow.holds Try.pinned (OpenSpec.ofChange putLayAllWrong)

/-- 'distafflaw09.PutLayPlays': WHATEVER THE INPUT: true; the input reads as it did. -/
def putLayPlaysSpec : ChangeSpec := { name := "putLayPlays", fn := fun _ => fun
  | [d1, d2, d3, d4, d5] => { results := [.lit (.bool true)], args := [d1, d2, d3, d4, d5] }
  | _ => none }
def putLayPlaysRow : OpenClaim := { program := "ytgfddegdjdeeoaa", sum := "84ecbc0c38c666a82357786769b694dac5e10d710c42b8369d3e9d33c8a4d775", func := "distaff/distafflaw09.PutLayPlays", spec := "putLayPlays", unfollowed := true, recurses := true, apart := false }
def PutLayPlaysSaid : Prop := putLayPlaysRow.holds Try.pinned (OpenSpec.ofChange putLayPlaysSpec)

/-- ITS FALSE NEIGHBOUR: 'it returns false'. Refute it at one input. -/
def putLayPlaysWrong : ChangeSpec := { name := "putLayPlays", fn := fun _ => fun
  | [d1, d2, d3, d4, d5] => { results := [.lit (.bool false)], args := [d1, d2, d3, d4, d5] }
  | _ => none }
def PutLayPlaysWrongFalsely : Prop := putLayPlaysRow.holds Try.pinned (OpenSpec.ofChange putLayPlaysWrong)

/-- 'distafflaw09.PutKnown': WHATEVER THE INPUT: true; the input reads as it did. -/
def putKnownSpec : ChangeSpec := { name := "putKnown", fn := fun _ => fun
  | [] => { results := [.lit (.bool true)], args := [] }
  | _ => none }
def putKnownRow : OpenClaim := { program := "ytgfddegdjdeeoaa", sum := "84ecbc0c38c666a82357786769b694dac5e10d710c42b8369d3e9d33c8a4d775", func := "distaff/distafflaw09.PutKnown", spec := "putKnown", unfollowed := true, recurses := true, apart := false }
def PutKnownSaid : Prop := putKnownRow.holds Try.pinned (OpenSpec.ofChange putKnownSpec)

/-- ITS FALSE NEIGHBOUR: 'it returns false'. Refute it at one input. -/
def putKnownWrong : ChangeSpec := { name := "putKnown", fn := fun _ => fun
  | [] => { results := [.lit (.bool false)], args := [] }
  | _ => none }
def PutKnownWrongFalsely : Prop := putKnownRow.holds Try.pinned (OpenSpec.ofChange putKnownWrong)

/- THE SECOND FORM. 'bulk': how many values and letters a reading holds, each counted each time it is reached (what is shared counts as often as it is met; a slice's spare places count too). A statement '..UptoSaid' is the law's where the arguments, and the package variables that the reading takes, are together of bulk at most 1048576: NARROWER than '..Said'. Prove '..Said' where nothing that the law and all that it calls make is longer than what came in: it says more and counts as full. Else prove '..UptoSaid'. A law counts once. -/
mutual
def uptoBulk {H : Type} : DataW H → Nat
  | .lit (.string bytes) => bytes.length + 1
  | .lit _ => 1
  | .nil => 1
  | .ptr d => uptoBulk d + 1
  | .slice elems spare => uptoBulkAll elems + uptoBulkAll spare + 1
  | .agg parts => uptoBulkAll parts + 1
  | .iface _ d => uptoBulk d + 1
  | .map entries => uptoBulkEntries entries + 1
  | .held _ => 1
def uptoBulkAll {H : Type} : List (DataW H) → Nat
  | [] => 0
  | d :: r => uptoBulk d + uptoBulkAll r
def uptoBulkEntries {H : Type} : List (Lit × DataW H) → Nat
  | [] => 0
  | x :: r => uptoBulkEntry x + uptoBulkEntries r
def uptoBulkEntry {H : Type} : Lit × DataW H → Nat
  | (.string bytes, d) => bytes.length + uptoBulk d + 1
  | (_, d) => uptoBulk d + 1
 end
def uptoSmall : (H : Type) → List (DataW H) → Bool := fun _ ds => decide (uptoBulkAll ds ≤ 1048576)
def OpenSpec.upto (s : _root_.Go.ChangeSpec) : _root_.Go.OpenSpec := { _root_.Go.OpenSpec.ofChange s with cond := some uptoSmall }

/-- 'distafflaw09.PutKeeps', WHERE WHAT IT READS IS OF BULK AT MOST 1048576: true; the input reads as it did. -/
def putKeepsUptoRow : OpenClaim := { program := "ytgfddegdjdeeoaa", sum := "84ecbc0c38c666a82357786769b694dac5e10d710c42b8369d3e9d33c8a4d775", func := "distaff/distafflaw09.PutKeeps", spec := "putKeeps", unfollowed := true, recurses := true, apart := false, narrowed := true }
def PutKeepsUptoSaid : Prop := putKeepsUptoRow.holds Try.pinned (OpenSpec.upto putKeepsSpec)

/-- 'distafflaw09.PutPlays', WHERE WHAT IT READS IS OF BULK AT MOST 1048576: true; the input reads as it did. -/
def putPlaysUptoRow : OpenClaim := { program := "ytgfddegdjdeeoaa", sum := "84ecbc0c38c666a82357786769b694dac5e10d710c42b8369d3e9d33c8a4d775", func := "distaff/distafflaw09.PutPlays", spec := "putPlays", unfollowed := true, recurses := true, apart := false, narrowed := true }
def PutPlaysUptoSaid : Prop := putPlaysUptoRow.holds Try.pinned (OpenSpec.upto putPlaysSpec)

/-- 'distafflaw09.PutNone', WHERE WHAT IT READS IS OF BULK AT MOST 1048576: true; the input reads as it did. -/
def putNoneUptoRow : OpenClaim := { program := "ytgfddegdjdeeoaa", sum := "84ecbc0c38c666a82357786769b694dac5e10d710c42b8369d3e9d33c8a4d775", func := "distaff/distafflaw09.PutNone", spec := "putNone", unfollowed := true, recurses := true, apart := false, narrowed := true }
def PutNoneUptoSaid : Prop := putNoneUptoRow.holds Try.pinned (OpenSpec.upto putNoneSpec)

/-- 'distafflaw09.PutLayAll', WHERE WHAT IT READS IS OF BULK AT MOST 1048576: true; the input reads as it did. -/
def putLayAllUptoRow : OpenClaim := { program := "ytgfddegdjdeeoaa", sum := "84ecbc0c38c666a82357786769b694dac5e10d710c42b8369d3e9d33c8a4d775", func := "distaff/distafflaw09.PutLayAll", spec := "putLayAll", unfollowed := true, recurses := true, apart := false, narrowed := true }
def PutLayAllUptoSaid : Prop := putLayAllUptoRow.holds Try.pinned (OpenSpec.upto putLayAllSpec)

/-- 'distafflaw09.PutLayPlays', WHERE WHAT IT READS IS OF BULK AT MOST 1048576: true; the input reads as it did. -/
def putLayPlaysUptoRow : OpenClaim := { program := "ytgfddegdjdeeoaa", sum := "84ecbc0c38c666a82357786769b694dac5e10d710c42b8369d3e9d33c8a4d775", func := "distaff/distafflaw09.PutLayPlays", spec := "putLayPlays", unfollowed := true, recurses := true, apart := false, narrowed := true }
def PutLayPlaysUptoSaid : Prop := putLayPlaysUptoRow.holds Try.pinned (OpenSpec.upto putLayPlaysSpec)

/-- 'distafflaw09.PutKnown', WHERE WHAT IT READS IS OF BULK AT MOST 1048576: true; the input reads as it did. -/
def putKnownUptoRow : OpenClaim := { program := "ytgfddegdjdeeoaa", sum := "84ecbc0c38c666a82357786769b694dac5e10d710c42b8369d3e9d33c8a4d775", func := "distaff/distafflaw09.PutKnown", spec := "putKnown", unfollowed := true, recurses := true, apart := false, narrowed := true }
def PutKnownUptoSaid : Prop := putKnownUptoRow.holds Try.pinned (OpenSpec.upto putKnownSpec)

end Rows
end Go.Proofs.Ytgfddegdjdeeoaa
