/-
  No cell of these rows narrows 'for every input' (looked for: loops, veiled, ifaces, maps, wideKeys, modest, calm, conditions, laid).
  DERIVED. THE GIVEN ROWS OF THIS SEAT. 3 by the template 'for every input the law returns true; each argument reads behind the call as it read before'; 0 by the template 'total and deterministic' (their statements: YtmgahjccidmlaaaTotals.lean).
  GIVEN WITH THE SEED: the statements are not yours to turn. If you find one false, say at which input.
  Laid BY PROGRAM, IN A SANDBOX (cutbox-rows.mjs): the forced cells as the released guide's own fill.sh prints them over the translation 4a86d308cfcc7e3f… (all of the seat's roots in one cut). By AI agents, Wed Nov 11 2026. No macro, syntax, notation, axiom, sorry.
-/
import Derived.Test.YtmgahjccidmlaaaChecked
import GoSem.Claim
import GoSem.ClaimJoined
import GoSem.ClaimMapViews
import Derived.JoinedTies
import Derived.KernelRfl
namespace Go.Proofs.Ytmgahjccidmlaaa
/- THE CELL 'sum', in the pinned program and in every row, IS THE sha256 OF THE DUMP (.gsa) THAT YtmgahjccidmlaaaProg.lean LOADS. Nothing in Lean hashes anything: it is a label: what it is worth is what the hold of that sum in a sandbox is worth. -/
noncomputable def Try.pinned : Pinned := { name := "ytmgahjccidmlaaa", sum := "4a86d308cfcc7e3f5e19aed2c7dba803d82b3512c6c09c05516fe28ee9abcf87", checked := Try.checked }
namespace Rows
def none {H : Type} : Left H := { results := [], args := [] }

/-- 'distafflaw11.StealNone': WHATEVER THE INPUT: true; the input reads as it did. -/
def stealNoneSpec : ChangeSpec := { name := "stealNone", fn := fun _ => fun
  | [d1, d2] => { results := [.lit (.bool true)], args := [d1, d2] }
  | _ => none }
def stealNoneRow : OpenClaim := { program := "ytmgahjccidmlaaa", sum := "4a86d308cfcc7e3f5e19aed2c7dba803d82b3512c6c09c05516fe28ee9abcf87", func := "distaff/distafflaw11.StealNone", spec := "stealNone", unfollowed := true, recurses := true, apart := false }
def StealNoneSaid : Prop := stealNoneRow.holds Try.pinned (OpenSpec.ofChange stealNoneSpec)

/-- ITS FALSE NEIGHBOUR: 'it returns false'. Refute it at one input. -/
def stealNoneWrong : ChangeSpec := { name := "stealNone", fn := fun _ => fun
  | [d1, d2] => { results := [.lit (.bool false)], args := [d1, d2] }
  | _ => none }
def StealNoneWrongFalsely : Prop := stealNoneRow.holds Try.pinned (OpenSpec.ofChange stealNoneWrong)

/-- 'distafflaw11.StealPlays': WHATEVER THE INPUT: true; the input reads as it did. -/
def stealPlaysSpec : ChangeSpec := { name := "stealPlays", fn := fun _ => fun
  | [d1, d2, d3, d4, d5] => { results := [.lit (.bool true)], args := [d1, d2, d3, d4, d5] }
  | _ => none }
def stealPlaysRow : OpenClaim := { program := "ytmgahjccidmlaaa", sum := "4a86d308cfcc7e3f5e19aed2c7dba803d82b3512c6c09c05516fe28ee9abcf87", func := "distaff/distafflaw11.StealPlays", spec := "stealPlays", unfollowed := true, recurses := true, apart := false }
def StealPlaysSaid : Prop := stealPlaysRow.holds Try.pinned (OpenSpec.ofChange stealPlaysSpec)

/-- ITS FALSE NEIGHBOUR: 'it returns false'. Refute it at one input. -/
def stealPlaysWrong : ChangeSpec := { name := "stealPlays", fn := fun _ => fun
  | [d1, d2, d3, d4, d5] => { results := [.lit (.bool false)], args := [d1, d2, d3, d4, d5] }
  | _ => none }
def StealPlaysWrongFalsely : Prop := stealPlaysRow.holds Try.pinned (OpenSpec.ofChange stealPlaysWrong)

/-- 'distafflaw11.StealKeeps': WHATEVER THE INPUT: true; the input reads as it did. -/
def stealKeepsSpec : ChangeSpec := { name := "stealKeeps", fn := fun _ => fun
  | [d1, d2, d3] => { results := [.lit (.bool true)], args := [d1, d2, d3] }
  | _ => none }
def stealKeepsRow : OpenClaim := { program := "ytmgahjccidmlaaa", sum := "4a86d308cfcc7e3f5e19aed2c7dba803d82b3512c6c09c05516fe28ee9abcf87", func := "distaff/distafflaw11.StealKeeps", spec := "stealKeeps", unfollowed := true, recurses := true, apart := false }
def StealKeepsSaid : Prop := stealKeepsRow.holds Try.pinned (OpenSpec.ofChange stealKeepsSpec)

/-- ITS FALSE NEIGHBOUR: 'it returns false'. Refute it at one input. -/
def stealKeepsWrong : ChangeSpec := { name := "stealKeeps", fn := fun _ => fun
  | [d1, d2, d3] => { results := [.lit (.bool false)], args := [d1, d2, d3] }
  | _ => none }
def StealKeepsWrongFalsely : Prop := stealKeepsRow.holds Try.pinned (OpenSpec.ofChange stealKeepsWrong)

/- THE SECOND FORM. 'bulk': how many values and letters a reading holds, each counted each time it is reached (what is shared counts as often as it is met; a slice's spare places count too). A statement '..UptoSaid' is the law's where the arguments, and the package variables that the reading takes, are together of bulk at most 1048576: NARROWER than '..Said'. Prove '..Said' where nothing that the law and all that it calls make is longer than what came in: it says more and counts as full. Else prove '..UptoSaid'. A law counts once. -/
mutual
def uptoBulk {H : Type} : DataW H → Nat
  | .lit (.string bytes) => bytes.length + 1
  | .lit _ => 1
  | .nil => 1
  | .ptr d => uptoBulk d + 1
  | .slice elems spare => uptoBulkAll elems + uptoBulkAll spare + 1
  | .agg parts => uptoBulkAll parts + 1
  | .iface _ d => uptoBulk d + 1
  | .map entries => uptoBulkEntries entries + 1
  | .held _ => 1
def uptoBulkAll {H : Type} : List (DataW H) → Nat
  | [] => 0
  | d :: r => uptoBulk d + uptoBulkAll r
def uptoBulkEntries {H : Type} : List (Lit × DataW H) → Nat
  | [] => 0
  | x :: r => uptoBulkEntry x + uptoBulkEntries r
def uptoBulkEntry {H : Type} : Lit × DataW H → Nat
  | (.string bytes, d) => bytes.length + uptoBulk d + 1
  | (_, d) => uptoBulk d + 1
 end
def uptoSmall : (H : Type) → List (DataW H) → Bool := fun _ ds => decide (uptoBulkAll ds ≤ 1048576)
def OpenSpec.upto (s : _root_.Go.ChangeSpec) : _root_.Go.OpenSpec := { _root_.Go.OpenSpec.ofChange s with cond := some uptoSmall }

/-- 'distafflaw11.StealNone', WHERE WHAT IT READS IS OF BULK AT MOST 1048576: true; the input reads as it did. -/
def stealNoneUptoRow : OpenClaim := { program := "ytmgahjccidmlaaa", sum := "4a86d308cfcc7e3f5e19aed2c7dba803d82b3512c6c09c05516fe28ee9abcf87", func := "distaff/distafflaw11.StealNone", spec := "stealNone", unfollowed := true, recurses := true, apart := false, narrowed := true }
def StealNoneUptoSaid : Prop := stealNoneUptoRow.holds Try.pinned (OpenSpec.upto stealNoneSpec)

/-- 'distafflaw11.StealPlays', WHERE WHAT IT READS IS OF BULK AT MOST 1048576: true; the input reads as it did. -/
def stealPlaysUptoRow : OpenClaim := { program := "ytmgahjccidmlaaa", sum := "4a86d308cfcc7e3f5e19aed2c7dba803d82b3512c6c09c05516fe28ee9abcf87", func := "distaff/distafflaw11.StealPlays", spec := "stealPlays", unfollowed := true, recurses := true, apart := false, narrowed := true }
def StealPlaysUptoSaid : Prop := stealPlaysUptoRow.holds Try.pinned (OpenSpec.upto stealPlaysSpec)

/-- 'distafflaw11.StealKeeps', WHERE WHAT IT READS IS OF BULK AT MOST 1048576: true; the input reads as it did. -/
def stealKeepsUptoRow : OpenClaim := { program := "ytmgahjccidmlaaa", sum := "4a86d308cfcc7e3f5e19aed2c7dba803d82b3512c6c09c05516fe28ee9abcf87", func := "distaff/distafflaw11.StealKeeps", spec := "stealKeeps", unfollowed := true, recurses := true, apart := false, narrowed := true }
def StealKeepsUptoSaid : Prop := stealKeepsUptoRow.holds Try.pinned (OpenSpec.upto stealKeepsSpec)

end Rows
end Go.Proofs.Ytmgahjccidmlaaa
