/-
  No cell of these rows narrows 'for every input' (looked for: loops, veiled, ifaces, maps, wideKeys, modest, calm, conditions, laid).
  DERIVED. THE GIVEN ROWS OF THIS SEAT. 5 by the template 'for every input the law returns true; each argument reads behind the call as it read before'; 0 by the template 'total and deterministic' (their statements: YtimgbjimonmkdaaTotals.lean).
  GIVEN WITH THE SEED: the statements are not yours to turn. If you find one false, say at which input.
  Laid BY PROGRAM, IN A SANDBOX (cutbox-rows.mjs): the forced cells as the released guide's own fill.sh prints them over the translation 0cc38e85c8e23b06… (all of the seat's roots in one cut). By AI agents, Wed Nov 11 2026. No macro, syntax, notation, axiom, sorry.
-/
import Derived.Test.YtimgbjimonmkdaaChecked
import GoSem.Claim
import GoSem.ClaimJoined
import GoSem.ClaimMapViews
import Derived.JoinedTies
import Derived.KernelRfl
namespace Go.Proofs.Ytimgbjimonmkdaa
/- THE CELL 'sum', in the pinned program and in every row, IS THE sha256 OF THE DUMP (.gsa) THAT YtimgbjimonmkdaaProg.lean LOADS. Nothing in Lean hashes anything: it is a label: what it is worth is what the hold of that sum in a sandbox is worth. -/
noncomputable def Try.pinned : Pinned := { name := "ytimgbjimonmkdaa", sum := "0cc38e85c8e23b064f3a50eca311a29fce986536823c646f49a2986f3d3721fe", checked := Try.checked }
namespace Rows
def none {H : Type} : Left H := { results := [], args := [] }

/-- 'distafflaw10.GetOldest': WHATEVER THE INPUT: true; the input reads as it did. -/
def getOldestSpec : ChangeSpec := { name := "getOldest", fn := fun _ => fun
  | [d1, d2, d3, d4] => { results := [.lit (.bool true)], args := [d1, d2, d3, d4] }
  | _ => none }
def getOldestRow : OpenClaim := { program := "ytimgbjimonmkdaa", sum := "0cc38e85c8e23b064f3a50eca311a29fce986536823c646f49a2986f3d3721fe", func := "distaff/distafflaw10.GetOldest", spec := "getOldest", unfollowed := true, recurses := true, apart := false }
def GetOldestSaid : Prop := getOldestRow.holds Try.pinned (OpenSpec.ofChange getOldestSpec)

/-- ITS FALSE NEIGHBOUR: 'it returns false'. Refute it at one input. -/
def getOldestWrong : ChangeSpec := { name := "getOldest", fn := fun _ => fun
  | [d1, d2, d3, d4] => { results := [.lit (.bool false)], args := [d1, d2, d3, d4] }
  | _ => none }
def GetOldestWrongFalsely : Prop := getOldestRow.holds Try.pinned (OpenSpec.ofChange getOldestWrong)

/-- 'distafflaw10.GetNone': WHATEVER THE INPUT: true; the input reads as it did. -/
def getNoneSpec : ChangeSpec := { name := "getNone", fn := fun _ => fun
  | [d1, d2] => { results := [.lit (.bool true)], args := [d1, d2] }
  | _ => none }
def getNoneRow : OpenClaim := { program := "ytimgbjimonmkdaa", sum := "0cc38e85c8e23b064f3a50eca311a29fce986536823c646f49a2986f3d3721fe", func := "distaff/distafflaw10.GetNone", spec := "getNone", unfollowed := true, recurses := true, apart := false }
def GetNoneSaid : Prop := getNoneRow.holds Try.pinned (OpenSpec.ofChange getNoneSpec)

/-- ITS FALSE NEIGHBOUR: 'it returns false'. Refute it at one input. -/
def getNoneWrong : ChangeSpec := { name := "getNone", fn := fun _ => fun
  | [d1, d2] => { results := [.lit (.bool false)], args := [d1, d2] }
  | _ => none }
def GetNoneWrongFalsely : Prop := getNoneRow.holds Try.pinned (OpenSpec.ofChange getNoneWrong)

/-- 'distafflaw10.GetAll': WHATEVER THE INPUT: true; the input reads as it did. -/
def getAllSpec : ChangeSpec := { name := "getAll", fn := fun _ => fun
  | [d1, d2, d3] => { results := [.lit (.bool true)], args := [d1, d2, d3] }
  | _ => none }
def getAllRow : OpenClaim := { program := "ytimgbjimonmkdaa", sum := "0cc38e85c8e23b064f3a50eca311a29fce986536823c646f49a2986f3d3721fe", func := "distaff/distafflaw10.GetAll", spec := "getAll", unfollowed := true, recurses := true, apart := false }
def GetAllSaid : Prop := getAllRow.holds Try.pinned (OpenSpec.ofChange getAllSpec)

/-- ITS FALSE NEIGHBOUR: 'it returns false'. Refute it at one input. -/
def getAllWrong : ChangeSpec := { name := "getAll", fn := fun _ => fun
  | [d1, d2, d3] => { results := [.lit (.bool false)], args := [d1, d2, d3] }
  | _ => none }
def GetAllWrongFalsely : Prop := getAllRow.holds Try.pinned (OpenSpec.ofChange getAllWrong)

/-- 'distafflaw10.GetPlays': WHATEVER THE INPUT: true; the input reads as it did. -/
def getPlaysSpec : ChangeSpec := { name := "getPlays", fn := fun _ => fun
  | [d1, d2, d3, d4] => { results := [.lit (.bool true)], args := [d1, d2, d3, d4] }
  | _ => none }
def getPlaysRow : OpenClaim := { program := "ytimgbjimonmkdaa", sum := "0cc38e85c8e23b064f3a50eca311a29fce986536823c646f49a2986f3d3721fe", func := "distaff/distafflaw10.GetPlays", spec := "getPlays", unfollowed := true, recurses := true, apart := false }
def GetPlaysSaid : Prop := getPlaysRow.holds Try.pinned (OpenSpec.ofChange getPlaysSpec)

/-- ITS FALSE NEIGHBOUR: 'it returns false'. Refute it at one input. -/
def getPlaysWrong : ChangeSpec := { name := "getPlays", fn := fun _ => fun
  | [d1, d2, d3, d4] => { results := [.lit (.bool false)], args := [d1, d2, d3, d4] }
  | _ => none }
def GetPlaysWrongFalsely : Prop := getPlaysRow.holds Try.pinned (OpenSpec.ofChange getPlaysWrong)

/-- 'distafflaw10.GetKnown': WHATEVER THE INPUT: true; the input reads as it did. -/
def getKnownSpec : ChangeSpec := { name := "getKnown", fn := fun _ => fun
  | [] => { results := [.lit (.bool true)], args := [] }
  | _ => none }
def getKnownRow : OpenClaim := { program := "ytimgbjimonmkdaa", sum := "0cc38e85c8e23b064f3a50eca311a29fce986536823c646f49a2986f3d3721fe", func := "distaff/distafflaw10.GetKnown", spec := "getKnown", unfollowed := true, recurses := true, apart := false }
def GetKnownSaid : Prop := getKnownRow.holds Try.pinned (OpenSpec.ofChange getKnownSpec)

/-- ITS FALSE NEIGHBOUR: 'it returns false'. Refute it at one input. -/
def getKnownWrong : ChangeSpec := { name := "getKnown", fn := fun _ => fun
  | [] => { results := [.lit (.bool false)], args := [] }
  | _ => none }
def GetKnownWrongFalsely : Prop := getKnownRow.holds Try.pinned (OpenSpec.ofChange getKnownWrong)

/- THE SECOND FORM. 'bulk': how many values and letters a reading holds, each counted each time it is reached (what is shared counts as often as it is met; a slice's spare places count too). A statement '..UptoSaid' is the law's where the arguments, and the package variables that the reading takes, are together of bulk at most 1048576: NARROWER than '..Said'. Prove '..Said' where nothing that the law and all that it calls make is longer than what came in: it says more and counts as full. Else prove '..UptoSaid'. A law counts once. -/
mutual
def uptoBulk {H : Type} : DataW H → Nat
  | .lit (.string bytes) => bytes.length + 1
  | .lit _ => 1
  | .nil => 1
  | .ptr d => uptoBulk d + 1
  | .slice elems spare => uptoBulkAll elems + uptoBulkAll spare + 1
  | .agg parts => uptoBulkAll parts + 1
  | .iface _ d => uptoBulk d + 1
  | .map entries => uptoBulkEntries entries + 1
  | .held _ => 1
def uptoBulkAll {H : Type} : List (DataW H) → Nat
  | [] => 0
  | d :: r => uptoBulk d + uptoBulkAll r
def uptoBulkEntries {H : Type} : List (Lit × DataW H) → Nat
  | [] => 0
  | x :: r => uptoBulkEntry x + uptoBulkEntries r
def uptoBulkEntry {H : Type} : Lit × DataW H → Nat
  | (.string bytes, d) => bytes.length + uptoBulk d + 1
  | (_, d) => uptoBulk d + 1
 end
def uptoSmall : (H : Type) → List (DataW H) → Bool := fun _ ds => decide (uptoBulkAll ds ≤ 1048576)
def OpenSpec.upto (s : _root_.Go.ChangeSpec) : _root_.Go.OpenSpec := { _root_.Go.OpenSpec.ofChange s with cond := some uptoSmall }

/-- 'distafflaw10.GetOldest', WHERE WHAT IT READS IS OF BULK AT MOST 1048576: true; the input reads as it did. -/
def getOldestUptoRow : OpenClaim := { program := "ytimgbjimonmkdaa", sum := "0cc38e85c8e23b064f3a50eca311a29fce986536823c646f49a2986f3d3721fe", func := "distaff/distafflaw10.GetOldest", spec := "getOldest", unfollowed := true, recurses := true, apart := false, narrowed := true }
def GetOldestUptoSaid : Prop := getOldestUptoRow.holds Try.pinned (OpenSpec.upto getOldestSpec)

/-- 'distafflaw10.GetNone', WHERE WHAT IT READS IS OF BULK AT MOST 1048576: true; the input reads as it did. -/
def getNoneUptoRow : OpenClaim := { program := "ytimgbjimonmkdaa", sum := "0cc38e85c8e23b064f3a50eca311a29fce986536823c646f49a2986f3d3721fe", func := "distaff/distafflaw10.GetNone", spec := "getNone", unfollowed := true, recurses := true, apart := false, narrowed := true }
def GetNoneUptoSaid : Prop := getNoneUptoRow.holds Try.pinned (OpenSpec.upto getNoneSpec)

/-- 'distafflaw10.GetAll', WHERE WHAT IT READS IS OF BULK AT MOST 1048576: true; the input reads as it did. -/
def getAllUptoRow : OpenClaim := { program := "ytimgbjimonmkdaa", sum := "0cc38e85c8e23b064f3a50eca311a29fce986536823c646f49a2986f3d3721fe", func := "distaff/distafflaw10.GetAll", spec := "getAll", unfollowed := true, recurses := true, apart := false, narrowed := true }
def GetAllUptoSaid : Prop := getAllUptoRow.holds Try.pinned (OpenSpec.upto getAllSpec)

/-- 'distafflaw10.GetPlays', WHERE WHAT IT READS IS OF BULK AT MOST 1048576: true; the input reads as it did. -/
def getPlaysUptoRow : OpenClaim := { program := "ytimgbjimonmkdaa", sum := "0cc38e85c8e23b064f3a50eca311a29fce986536823c646f49a2986f3d3721fe", func := "distaff/distafflaw10.GetPlays", spec := "getPlays", unfollowed := true, recurses := true, apart := false, narrowed := true }
def GetPlaysUptoSaid : Prop := getPlaysUptoRow.holds Try.pinned (OpenSpec.upto getPlaysSpec)

/-- 'distafflaw10.GetKnown', WHERE WHAT IT READS IS OF BULK AT MOST 1048576: true; the input reads as it did. -/
def getKnownUptoRow : OpenClaim := { program := "ytimgbjimonmkdaa", sum := "0cc38e85c8e23b064f3a50eca311a29fce986536823c646f49a2986f3d3721fe", func := "distaff/distafflaw10.GetKnown", spec := "getKnown", unfollowed := true, recurses := true, apart := false, narrowed := true }
def GetKnownUptoSaid : Prop := getKnownUptoRow.holds Try.pinned (OpenSpec.upto getKnownSpec)

end Rows
end Go.Proofs.Ytimgbjimonmkdaa
