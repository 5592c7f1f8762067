/-
  No cell of these rows narrows 'for every input' (looked for: loops, veiled, ifaces, maps, wideKeys, modest, calm, conditions, laid).
  DERIVED. THE GIVEN ROWS OF THIS SEAT. 4 by the template 'for every input the law returns true; each argument reads behind the call as it read before'; 0 by the template 'total and deterministic' (their statements: YtcalffadnfpknaaTotals.lean).
  GIVEN WITH THE SEED: the statements are not yours to turn. If you find one false, say at which input.
  Laid BY PROGRAM, IN A SANDBOX (cutbox-rows.mjs): the forced cells as the released guide's own fill.sh prints them over the translation d074cf61020289b3… (all of the seat's roots in one cut). By AI agents, Wed Nov 11 2026. No macro, syntax, notation, axiom, sorry.
-/
import Derived.Test.YtcalffadnfpknaaChecked
import GoSem.Claim
import GoSem.ClaimJoined
import GoSem.ClaimMapViews
import Derived.JoinedTies
import Derived.KernelRfl
namespace Go.Proofs.Ytcalffadnfpknaa
/- THE CELL 'sum', in the pinned program and in every row, IS THE sha256 OF THE DUMP (.gsa) THAT YtcalffadnfpknaaProg.lean LOADS. Nothing in Lean hashes anything: it is a label: what it is worth is what the hold of that sum in a sandbox is worth. -/
noncomputable def Try.pinned : Pinned := { name := "ytcalffadnfpknaa", sum := "d074cf61020289b3ff107f1f2c2fd1e9c35aa73cbafa6953ab771cdcd48808cd", checked := Try.checked }
namespace Rows
def none {H : Type} : Left H := { results := [], args := [] }

/-- 'distafflaw03.StrideGcd': WHATEVER THE INPUT: true; the input reads as it did. -/
def strideGcdSpec : ChangeSpec := { name := "strideGcd", fn := fun _ => fun
  | [d] => { results := [.lit (.bool true)], args := [d] }
  | _ => none }
def strideGcdRow : OpenClaim := { program := "ytcalffadnfpknaa", sum := "d074cf61020289b3ff107f1f2c2fd1e9c35aa73cbafa6953ab771cdcd48808cd", func := "distaff/distafflaw03.StrideGcd", spec := "strideGcd", unfollowed := true, recurses := true, apart := false }
def StrideGcdSaid : Prop := strideGcdRow.holds Try.pinned (OpenSpec.ofChange strideGcdSpec)

/-- ITS FALSE NEIGHBOUR: 'it returns false'. Refute it at one input. -/
def strideGcdWrong : ChangeSpec := { name := "strideGcd", fn := fun _ => fun
  | [d] => { results := [.lit (.bool false)], args := [d] }
  | _ => none }
def StrideGcdWrongFalsely : Prop := strideGcdRow.holds Try.pinned (OpenSpec.ofChange strideGcdWrong)

/-- 'distafflaw03.StrideOrders': WHATEVER THE INPUT: true; the input reads as it did. -/
def strideOrdersSpec : ChangeSpec := { name := "strideOrders", fn := fun _ => fun
  | [d1, d2, d3] => { results := [.lit (.bool true)], args := [d1, d2, d3] }
  | _ => none }
def strideOrdersRow : OpenClaim := { program := "ytcalffadnfpknaa", sum := "d074cf61020289b3ff107f1f2c2fd1e9c35aa73cbafa6953ab771cdcd48808cd", func := "distaff/distafflaw03.StrideOrders", spec := "strideOrders", unfollowed := true, recurses := true, apart := false }
def StrideOrdersSaid : Prop := strideOrdersRow.holds Try.pinned (OpenSpec.ofChange strideOrdersSpec)

/-- ITS FALSE NEIGHBOUR: 'it returns false'. Refute it at one input. -/
def strideOrdersWrong : ChangeSpec := { name := "strideOrders", fn := fun _ => fun
  | [d1, d2, d3] => { results := [.lit (.bool false)], args := [d1, d2, d3] }
  | _ => none }
def StrideOrdersWrongFalsely : Prop := strideOrdersRow.holds Try.pinned (OpenSpec.ofChange strideOrdersWrong)

/-- 'distafflaw03.StrideOnce': WHATEVER THE INPUT: true; the input reads as it did. -/
def strideOnceSpec : ChangeSpec := { name := "strideOnce", fn := fun _ => fun
  | [d1, d2, d3, d4] => { results := [.lit (.bool true)], args := [d1, d2, d3, d4] }
  | _ => none }
def strideOnceRow : OpenClaim := { program := "ytcalffadnfpknaa", sum := "d074cf61020289b3ff107f1f2c2fd1e9c35aa73cbafa6953ab771cdcd48808cd", func := "distaff/distafflaw03.StrideOnce", spec := "strideOnce", unfollowed := true, recurses := true, apart := false }
def StrideOnceSaid : Prop := strideOnceRow.holds Try.pinned (OpenSpec.ofChange strideOnceSpec)

/-- ITS FALSE NEIGHBOUR: 'it returns false'. Refute it at one input. -/
def strideOnceWrong : ChangeSpec := { name := "strideOnce", fn := fun _ => fun
  | [d1, d2, d3, d4] => { results := [.lit (.bool false)], args := [d1, d2, d3, d4] }
  | _ => none }
def StrideOnceWrongFalsely : Prop := strideOnceRow.holds Try.pinned (OpenSpec.ofChange strideOnceWrong)

/-- 'distafflaw03.StrideKnown': WHATEVER THE INPUT: true; the input reads as it did. -/
def strideKnownSpec : ChangeSpec := { name := "strideKnown", fn := fun _ => fun
  | [] => { results := [.lit (.bool true)], args := [] }
  | _ => none }
def strideKnownRow : OpenClaim := { program := "ytcalffadnfpknaa", sum := "d074cf61020289b3ff107f1f2c2fd1e9c35aa73cbafa6953ab771cdcd48808cd", func := "distaff/distafflaw03.StrideKnown", spec := "strideKnown", unfollowed := true, recurses := true, apart := false }
def StrideKnownSaid : Prop := strideKnownRow.holds Try.pinned (OpenSpec.ofChange strideKnownSpec)

/-- ITS FALSE NEIGHBOUR: 'it returns false'. Refute it at one input. -/
def strideKnownWrong : ChangeSpec := { name := "strideKnown", fn := fun _ => fun
  | [] => { results := [.lit (.bool false)], args := [] }
  | _ => none }
def StrideKnownWrongFalsely : Prop := strideKnownRow.holds Try.pinned (OpenSpec.ofChange strideKnownWrong)

/- THE SECOND FORM. 'bulk': how many values and letters a reading holds, each counted each time it is reached (what is shared counts as often as it is met; a slice's spare places count too). A statement '..UptoSaid' is the law's where the arguments, and the package variables that the reading takes, are together of bulk at most 1048576: NARROWER than '..Said'. Prove '..Said' where nothing that the law and all that it calls make is longer than what came in: it says more and counts as full. Else prove '..UptoSaid'. A law counts once. -/
mutual
def uptoBulk {H : Type} : DataW H → Nat
  | .lit (.string bytes) => bytes.length + 1
  | .lit _ => 1
  | .nil => 1
  | .ptr d => uptoBulk d + 1
  | .slice elems spare => uptoBulkAll elems + uptoBulkAll spare + 1
  | .agg parts => uptoBulkAll parts + 1
  | .iface _ d => uptoBulk d + 1
  | .map entries => uptoBulkEntries entries + 1
  | .held _ => 1
def uptoBulkAll {H : Type} : List (DataW H) → Nat
  | [] => 0
  | d :: r => uptoBulk d + uptoBulkAll r
def uptoBulkEntries {H : Type} : List (Lit × DataW H) → Nat
  | [] => 0
  | x :: r => uptoBulkEntry x + uptoBulkEntries r
def uptoBulkEntry {H : Type} : Lit × DataW H → Nat
  | (.string bytes, d) => bytes.length + uptoBulk d + 1
  | (_, d) => uptoBulk d + 1
 end
def uptoSmall : (H : Type) → List (DataW H) → Bool := fun _ ds => decide (uptoBulkAll ds ≤ 1048576)
def OpenSpec.upto (s : _root_.Go.ChangeSpec) : _root_.Go.OpenSpec := { _root_.Go.OpenSpec.ofChange s with cond := some uptoSmall }

/-- 'distafflaw03.StrideGcd', WHERE WHAT IT READS IS OF BULK AT MOST 1048576: true; the input reads as it did. -/
def strideGcdUptoRow : OpenClaim := { program := "ytcalffadnfpknaa", sum := "d074cf61020289b3ff107f1f2c2fd1e9c35aa73cbafa6953ab771cdcd48808cd", func := "distaff/distafflaw03.StrideGcd", spec := "strideGcd", unfollowed := true, recurses := true, apart := false, narrowed := true }
def StrideGcdUptoSaid : Prop := strideGcdUptoRow.holds Try.pinned (OpenSpec.upto strideGcdSpec)

/-- 'distafflaw03.StrideOrders', WHERE WHAT IT READS IS OF BULK AT MOST 1048576: true; the input reads as it did. -/
def strideOrdersUptoRow : OpenClaim := { program := "ytcalffadnfpknaa", sum := "d074cf61020289b3ff107f1f2c2fd1e9c35aa73cbafa6953ab771cdcd48808cd", func := "distaff/distafflaw03.StrideOrders", spec := "strideOrders", unfollowed := true, recurses := true, apart := false, narrowed := true }
def StrideOrdersUptoSaid : Prop := strideOrdersUptoRow.holds Try.pinned (OpenSpec.upto strideOrdersSpec)

/-- 'distafflaw03.StrideOnce', WHERE WHAT IT READS IS OF BULK AT MOST 1048576: true; the input reads as it did. -/
def strideOnceUptoRow : OpenClaim := { program := "ytcalffadnfpknaa", sum := "d074cf61020289b3ff107f1f2c2fd1e9c35aa73cbafa6953ab771cdcd48808cd", func := "distaff/distafflaw03.StrideOnce", spec := "strideOnce", unfollowed := true, recurses := true, apart := false, narrowed := true }
def StrideOnceUptoSaid : Prop := strideOnceUptoRow.holds Try.pinned (OpenSpec.upto strideOnceSpec)

/-- 'distafflaw03.StrideKnown', WHERE WHAT IT READS IS OF BULK AT MOST 1048576: true; the input reads as it did. -/
def strideKnownUptoRow : OpenClaim := { program := "ytcalffadnfpknaa", sum := "d074cf61020289b3ff107f1f2c2fd1e9c35aa73cbafa6953ab771cdcd48808cd", func := "distaff/distafflaw03.StrideKnown", spec := "strideKnown", unfollowed := true, recurses := true, apart := false, narrowed := true }
def StrideKnownUptoSaid : Prop := strideKnownUptoRow.holds Try.pinned (OpenSpec.upto strideKnownSpec)

end Rows
end Go.Proofs.Ytcalffadnfpknaa
