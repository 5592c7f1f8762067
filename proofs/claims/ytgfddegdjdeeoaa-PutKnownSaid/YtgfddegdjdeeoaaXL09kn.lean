import Derived.Test.YtgfddegdjdeeoaaRows
import Derived.Test.YtgfddegdjdeeoaaXK09n
import Derived.Lib.SmallJoins
set_option linter.unusedSimpArgs false
set_option linter.unusedVariables false
namespace Go.Proofs.Ytgfddegdjdeeoaa
open Go.Am Go.Joins Go.ChangeShapes Go.WideShapes Go.RowKit Go.Deep Go.ChangeAt
theorem Try.own : ownKnob Try.prog.godebug = none := by kernel_rfl
theorem Try.laidOut : laidOutB Try.prog = true := by kernel_rfl
theorem s_law : S 8 (amFunc F09.Gkn F09.law09_PutKnown) := e_known
theorem known_any (m : Mem Ob) : ∃ m', amFunc F09.Gkn F09.law09_PutKnown [] m = some (.bool true, m') := by
  obtain ⟨r, m', h1, rfl⟩ := F09.known_run (m0 := m)
  exact ⟨m', h1⟩
theorem law_run (m : Mem Ob) (vs : List AV) (h : IsVs Try.prog m 4 Try.f8.params.toList vs) : ∃ m', amFunc F09.Gkn F09.law09_PutKnown vs m = some (.bool true, m') := by
  rw [Try.params8] at h
  have h : vs = [] := h
  subst h
  exact known_any m
set_option maxRecDepth 100000 in
theorem putKnown_lifted (os : Os) (started : os.Started) (H : Type) (enc : TypeId × Value → H) :
    ReturnsInHanded {} Try.checked os 8 .any (Rows.putKnownSpec.pre6 enc Try.prog Try.f8 Rows.putKnownRow.domain false) (Rows.putKnownSpec.post enc Try.prog Try.f8 false true false false) := by
  refine returnsInHanded_of_change (C := Try.checked) Try.own started (by kernel_rfl) Try.func8
    (ChangeSpec.witness6 (enc := enc) (C := Try.checked) false ⟨#[], #[], []⟩ 8 (by kernel_rfl) (by kernel_rfl) (by kernel_rfl) (by kernel_rfl)) ?_
  intro W base args ds gs before hval hW _ _
  exact law_body (tb := 4) 4 s_law rfl (fun ds hl => by
    rw [Try.params8] at hl
    match ds, hl with
    | [], _ => rfl) rfl (by kernel_rfl) Try.laidOut (by rw [Try.params8]; kernel_rfl) law_run W base args ds gs before hval hW
theorem putKnown_holds : Rows.PutKnownSaid :=
  OpenClaim.holds_of_wide 8 Try.f8 rfl rfl rfl rfl rfl rfl rfl ⟨rfl, rfl, rfl, rfl, rfl⟩ rfl rfl rfl rfl rfl (by kernel_rfl) Try.func8 (by kernel_rfl)
    (of_decide_eq_true (by kernel_rfl)) (by unfold Func.isWrapper; first | (rw [if_pos (by decide +kernel)]; kernel_rfl) | (rw [if_neg (by decide +kernel)]; exact ⟨rfl, rfl⟩))
    (fun os started H enc _ => putKnown_lifted os started H enc)
#print axioms putKnown_holds
end Go.Proofs.Ytgfddegdjdeeoaa
