/- CellLogs: a log that has all accesses, done again on a memory as it was at first, makes it the same, with the same log; for every input. -/
import Derived.Test.YtldpldoehjpnaaaRows
import Derived.Test.YtldpldoehjpnaaaXV06
import Derived.Test.YtldpldoehjpnaaaXR06
import Derived.Lib.SmallJoins
set_option linter.unusedSimpArgs false
set_option linter.unusedVariables false
namespace Go.Proofs.Ytldpldoehjpnaaa
open Go.Am Go.Joins Go.ChangeShapes Go.WideShapes Go.RowKit Go.Deep Go.ChangeAt

theorem Try.own : ownKnob Try.prog.godebug = none := by kernel_rfl
theorem Try.laidOut : laidOutB Try.prog = true := by kernel_rfl

theorem s_allF : S 30 F06.allF := F06.or_sound e_Mem_All s_cell_Mem_All
theorem m_allF : Mono F06.allF := F06.or_mono f_Mem_All m_cell_Mem_All
theorem k_same : Known A0 num Try.prog F06.Gsame := known_cons ok_cell_Mem_All s_allF m_allF (known_cons ok_slices_Equal_uint64 s_slices_Equal_uint64 m_slices_Equal_uint64 known_nil)
theorem e_same : S 26 (amFunc F06.Gsame F06.cell_Same) := func_sound k_same Try.func26 chk_cell_Same
theorem k_logs : Known A0 num Try.prog F06.Glogs := known_cons ok_law06_works s_worksG F06.works_lift.mono (known_cons ok_cell_New e_new f_new (known_cons ok_ref06_NewBook s_ref06_NewBook m_ref06_NewBook (known_am ok_law06_does k_does e_does (known_cons ok_cell_Mem_Log e_Mem_Log f_Mem_Log (known_cons ok_cell_Redo e_Redo f_Redo
  (known_am ok_cell_Same k_same e_same (known_cons ok_cell_Mem_Len e_Mem_Len f_Mem_Len (known_cons ok_cell_Mem_Add e_Mem_Add f_Mem_Add known_nil))))))))
theorem s_law : S 6 (amFunc F06.Glogs F06.law06_CellLogs) := func_sound k_logs Try.func6 chk_law06_CellLogs
theorem law_run (m : Mem Ob) (vs : List AV) (h : IsVs Try.prog m 4 Try.f6.params.toList vs) : ∃ m', amFunc F06.Glogs F06.law06_CellLogs vs m = some (.bool true, m') := by
  rw [Try.params6] at h
  obtain ⟨a, vs, rfl, ha, b, vs, rfl, hb, c, vs, rfl, hc, rfl⟩ := h
  obtain ⟨a, rfl, _⟩ := ha.intV Try.underlying3
  obtain ⟨l, hl⟩ := sa_slice hb Try.underlying30 (by kernel_rfl) (fun cs hcs h => row_acc h hcs Try.underlying39 rfl rfl rfl rfl ⟨rfl, rfl⟩ ⟨rfl, rfl⟩ ⟨rfl, rfl⟩ ⟨rfl, rfl⟩)
  obtain ⟨cut, rfl, hw⟩ := hc.intV Try.underlying5
  simp [Lit.wf] at hw
  have hmin : IntKind.u8.min = 0 := by decide
  have hmax : IntKind.u8.max = 255 := by decide
  obtain ⟨r, m', h1, rfl⟩ := F06.logs_run hl (n := a) (cut := cut) (by omega) (by omega)
  exact ⟨m', h1⟩

set_option maxRecDepth 100000 in
theorem cellLogs_lifted (os : Os) (started : os.Started) (H : Type) (enc : TypeId × Value → H) :
    ReturnsInHanded {} Try.checked os 6 .any (Rows.cellLogsSpec.pre6 enc Try.prog Try.f6 Rows.cellLogsRow.domain false) (Rows.cellLogsSpec.post enc Try.prog Try.f6 false true false false) := by
  refine returnsInHanded_of_change (C := Try.checked) Try.own started (by kernel_rfl) Try.func6
    (ChangeSpec.witness6 (enc := enc) (C := Try.checked) false ⟨#[], #[.int .i64 0, .slice none 0 0, .int .u8 0], []⟩ 8 (by kernel_rfl) (by kernel_rfl) (by kernel_rfl) (by kernel_rfl)) ?_
  intro W base args ds gs before hval hW _ _
  exact law_body (tb := 4) 4 s_law rfl (fun ds hl => by
    rw [Try.params6] at hl
    match ds, hl with
    | [_, _, _], _ => rfl) rfl (by kernel_rfl) Try.laidOut (by rw [Try.params6]; kernel_rfl) law_run W base args ds gs before hval hW

theorem cellLogs_holds : Rows.CellLogsSaid :=
  OpenClaim.holds_of_wide 6 Try.f6 rfl rfl rfl rfl rfl rfl rfl ⟨rfl, rfl, rfl, rfl, rfl⟩ rfl rfl rfl rfl rfl (by kernel_rfl) Try.func6 (by kernel_rfl)
    (of_decide_eq_true (by kernel_rfl)) (by unfold Func.isWrapper; first | (rw [if_pos (by decide +kernel)]; kernel_rfl) | (rw [if_neg (by decide +kernel)]; exact ⟨rfl, rfl⟩))
    (fun os started H enc _ => cellLogs_lifted os started H enc)
#print axioms cellLogs_holds
end Go.Proofs.Ytldpldoehjpnaaa
