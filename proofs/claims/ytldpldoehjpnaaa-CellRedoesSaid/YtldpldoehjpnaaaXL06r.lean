/- CellRedoes: any accesses are done again up to the one that the document says; for every input. -/
import Derived.Test.YtldpldoehjpnaaaRows
import Derived.Test.YtldpldoehjpnaaaXV06
import Derived.Lib.SmallJoins
set_option linter.unusedSimpArgs false
set_option linter.unusedVariables false
namespace Go.Proofs.Ytldpldoehjpnaaa
open Go.Am Go.Joins Go.ChangeShapes Go.WideShapes Go.RowKit Go.Deep Go.ChangeAt

theorem Try.own : ownKnob Try.prog.godebug = none := by kernel_rfl
theorem Try.laidOut : laidOutB Try.prog = true := by kernel_rfl

theorem s_law : S 4 (amFunc F06.Gred F06.law06_CellRedoes) := func_sound k_red Try.func4 chk_law06_CellRedoes
theorem law_run (m : Mem Ob) (vs : List AV) (h : IsVs Try.prog m 4 Try.f4.params.toList vs) : ∃ m', amFunc F06.Gred F06.law06_CellRedoes vs m = some (.bool true, m') := by
  rw [Try.params4] at h
  obtain ⟨a, vs, rfl, ha, b, vs, rfl, hb, c, vs, rfl, hc, rfl⟩ := h
  obtain ⟨a, rfl, _⟩ := ha.intV Try.underlying3
  obtain ⟨l, hl⟩ := sa_slice hb Try.underlying30 (by kernel_rfl) (fun cs hcs h => row_acc h hcs Try.underlying39 rfl rfl rfl rfl ⟨rfl, rfl⟩ ⟨rfl, rfl⟩ ⟨rfl, rfl⟩ ⟨rfl, rfl⟩)
  obtain ⟨again, ha⟩ := sa_slice hc Try.underlying31 (by kernel_rfl) (fun cs hcs h => row_acc h hcs Try.underlying49 rfl rfl rfl rfl ⟨rfl, rfl⟩ ⟨rfl, rfl⟩ ⟨rfl, rfl⟩ ⟨rfl, rfl⟩)
  obtain ⟨r, m', h1, rfl⟩ := F06.redoes_run hl ha (n := a)
  exact ⟨m', h1⟩

set_option maxRecDepth 100000 in
theorem cellRedoes_lifted (os : Os) (started : os.Started) (H : Type) (enc : TypeId × Value → H) :
    ReturnsInHanded {} Try.checked os 4 .any (Rows.cellRedoesSpec.pre6 enc Try.prog Try.f4 Rows.cellRedoesRow.domain false) (Rows.cellRedoesSpec.post enc Try.prog Try.f4 false true false false) := by
  refine returnsInHanded_of_change (C := Try.checked) Try.own started (by kernel_rfl) Try.func4
    (ChangeSpec.witness6 (enc := enc) (C := Try.checked) false ⟨#[], #[.int .i64 0, .slice none 0 0, .slice none 0 0], []⟩ 8 (by kernel_rfl) (by kernel_rfl) (by kernel_rfl) (by kernel_rfl)) ?_
  intro W base args ds gs before hval hW _ _
  exact law_body (tb := 4) 4 s_law rfl (fun ds hl => by
    rw [Try.params4] at hl
    match ds, hl with
    | [_, _, _], _ => rfl) rfl (by kernel_rfl) Try.laidOut (by rw [Try.params4]; kernel_rfl) law_run W base args ds gs before hval hW

theorem cellRedoes_holds : Rows.CellRedoesSaid :=
  OpenClaim.holds_of_wide 4 Try.f4 rfl rfl rfl rfl rfl rfl rfl ⟨rfl, rfl, rfl, rfl, rfl⟩ rfl rfl rfl rfl rfl (by kernel_rfl) Try.func4 (by kernel_rfl)
    (of_decide_eq_true (by kernel_rfl)) (by unfold Func.isWrapper; first | (rw [if_pos (by decide +kernel)]; kernel_rfl) | (rw [if_neg (by decide +kernel)]; exact ⟨rfl, rfl⟩))
    (fun os started H enc _ => cellRedoes_lifted os started H enc)
#print axioms cellRedoes_holds
end Go.Proofs.Ytldpldoehjpnaaa
