/- distafflaw06.CellTwice: of two CAS of one cell with the same old number the second one fails, unless the first one put it back: true for every input; the input reads as it did. -/
import Derived.Test.YtldpldoehjpnaaaRows
import Derived.Test.YtldpldoehjpnaaaXS06
import Derived.Test.YtldpldoehjpnaaaXP06
import Derived.Test.YtldpldoehjpnaaaXAmRead
import Derived.Lib.SmallJoins
set_option linter.unusedSimpArgs false
set_option linter.unusedVariables false
namespace Go.Proofs.Ytldpldoehjpnaaa
open Go.Am Go.Joins Go.ChangeShapes Go.WideShapes Go.RowKit Go.Deep Go.ChangeAt

theorem Try.own : ownKnob Try.prog.godebug = none := by kernel_rfl
theorem Try.laidOut : laidOutB Try.prog = true := by kernel_rfl

abbrev A0 : AbsSem Unit := AbsSem.no Unit
abbrev S (k : Nat) (f : AFun Unit) : Prop := Sound A0 num Try.prog k f

theorem k_cell_New : Known A0 num Try.prog [] := known_nil
theorem s_cell_New : S 8 F06.c_cell_New := func_sound k_cell_New Try.func8 chk_cell_New
theorem m_cell_New : Mono (F06.c_cell_New (X := Unit)) := amFunc_mono (fun g f h => (k_cell_New g f h).2.2) _
theorem k_cell_Mem_there : Known A0 num Try.prog [] := known_nil
theorem s_cell_Mem_there : S 38 F06.c_cell_Mem_there := func_sound k_cell_Mem_there Try.func38 chk_cell_Mem_there
theorem m_cell_Mem_there : Mono (F06.c_cell_Mem_there (X := Unit)) := amFunc_mono (fun g f h => (k_cell_Mem_there g f h).2.2) _
theorem k_cell_counts_note : Known A0 num Try.prog [] := known_nil
theorem s_cell_counts_note : S 53 F06.c_cell_counts_note := func_sound k_cell_counts_note Try.func53 chk_cell_counts_note
theorem m_cell_counts_note : Mono (F06.c_cell_counts_note (X := Unit)) := amFunc_mono (fun g f h => (k_cell_counts_note g f h).2.2) _
theorem k_cell_Mem_Store_1 : Known A0 num Try.prog [] := known_nil
theorem s_cell_Mem_Store_1 : S 32 F06.c_cell_Mem_Store_1 := func_sound k_cell_Mem_Store_1 Try.func32 chk_cell_Mem_Store_1
theorem m_cell_Mem_Store_1 : Mono (F06.c_cell_Mem_Store_1 (X := Unit)) := amFunc_mono (fun g f h => (k_cell_Mem_Store_1 g f h).2.2) _
theorem k_cell_Mem_CAS_1 : Known A0 num Try.prog [] := known_nil
theorem s_cell_Mem_CAS_1 : S 33 F06.c_cell_Mem_CAS_1 := func_sound k_cell_Mem_CAS_1 Try.func33 chk_cell_Mem_CAS_1
theorem m_cell_Mem_CAS_1 : Mono (F06.c_cell_Mem_CAS_1 (X := Unit)) := amFunc_mono (fun g f h => (k_cell_Mem_CAS_1 g f h).2.2) _
theorem k_cell_Mem_Load_1 : Known A0 num Try.prog [] := known_nil
theorem s_cell_Mem_Load_1 : S 34 F06.c_cell_Mem_Load_1 := func_sound k_cell_Mem_Load_1 Try.func34 chk_cell_Mem_Load_1
theorem m_cell_Mem_Load_1 : Mono (F06.c_cell_Mem_Load_1 (X := Unit)) := amFunc_mono (fun g f h => (k_cell_Mem_Load_1 g f h).2.2) _
theorem k_cell_Mem_Add_1 : Known A0 num Try.prog [] := known_nil
theorem s_cell_Mem_Add_1 : S 52 F06.c_cell_Mem_Add_1 := func_sound k_cell_Mem_Add_1 Try.func52 chk_cell_Mem_Add_1
theorem m_cell_Mem_Add_1 : Mono (F06.c_cell_Mem_Add_1 (X := Unit)) := amFunc_mono (fun g f h => (k_cell_Mem_Add_1 g f h).2.2) _
theorem k_cell_Mem_access : Known A0 num Try.prog [(56, F06.c_cell_Mem_there), (71, F06.c_cell_counts_note), (49, F06.c_cell_Mem_Store_1), (51, F06.c_cell_Mem_CAS_1), (52, F06.c_cell_Mem_Load_1), (70, F06.c_cell_Mem_Add_1)] := known_cons ok_cell_Mem_there s_cell_Mem_there m_cell_Mem_there (known_cons ok_cell_counts_note s_cell_counts_note m_cell_counts_note (known_cons ok_cell_Mem_Store_1 s_cell_Mem_Store_1 m_cell_Mem_Store_1 (known_cons ok_cell_Mem_CAS_1 s_cell_Mem_CAS_1 m_cell_Mem_CAS_1 (known_cons ok_cell_Mem_Load_1 s_cell_Mem_Load_1 m_cell_Mem_Load_1 (known_cons ok_cell_Mem_Add_1 s_cell_Mem_Add_1 m_cell_Mem_Add_1 (known_nil))))))
theorem s_cell_Mem_access : S 31 F06.c_cell_Mem_access := func_sound k_cell_Mem_access Try.func31 chk_cell_Mem_access
theorem m_cell_Mem_access : Mono (F06.c_cell_Mem_access (X := Unit)) := amFunc_mono (fun g f h => (k_cell_Mem_access g f h).2.2) _
theorem k_cell_Mem_Store : Known A0 num Try.prog [(50, F06.c_cell_Mem_access), (49, F06.c_cell_Mem_Store_1)] := known_cons ok_cell_Mem_access s_cell_Mem_access m_cell_Mem_access (known_cons ok_cell_Mem_Store_1 s_cell_Mem_Store_1 m_cell_Mem_Store_1 (known_nil))
theorem s_cell_Mem_Store : S 9 F06.c_cell_Mem_Store := func_sound k_cell_Mem_Store Try.func9 chk_cell_Mem_Store
theorem m_cell_Mem_Store : Mono (F06.c_cell_Mem_Store (X := Unit)) := amFunc_mono (fun g f h => (k_cell_Mem_Store g f h).2.2) _
theorem k_cell_Mem_CAS : Known A0 num Try.prog [(50, F06.c_cell_Mem_access), (51, F06.c_cell_Mem_CAS_1)] := known_cons ok_cell_Mem_access s_cell_Mem_access m_cell_Mem_access (known_cons ok_cell_Mem_CAS_1 s_cell_Mem_CAS_1 m_cell_Mem_CAS_1 (known_nil))
theorem s_cell_Mem_CAS : S 10 F06.c_cell_Mem_CAS := func_sound k_cell_Mem_CAS Try.func10 chk_cell_Mem_CAS
theorem m_cell_Mem_CAS : Mono (F06.c_cell_Mem_CAS (X := Unit)) := amFunc_mono (fun g f h => (k_cell_Mem_CAS g f h).2.2) _
theorem k_cell_Mem_Add : Known A0 num Try.prog [(50, F06.c_cell_Mem_access), (70, F06.c_cell_Mem_Add_1)] := known_cons ok_cell_Mem_access s_cell_Mem_access m_cell_Mem_access (known_cons ok_cell_Mem_Add_1 s_cell_Mem_Add_1 m_cell_Mem_Add_1 (known_nil))
theorem s_cell_Mem_Add : S 28 F06.c_cell_Mem_Add := func_sound k_cell_Mem_Add Try.func28 chk_cell_Mem_Add
theorem m_cell_Mem_Add : Mono (F06.c_cell_Mem_Add (X := Unit)) := amFunc_mono (fun g f h => (k_cell_Mem_Add g f h).2.2) _
theorem k_cell_Mem_Load : Known A0 num Try.prog [(50, F06.c_cell_Mem_access), (52, F06.c_cell_Mem_Load_1)] := known_cons ok_cell_Mem_access s_cell_Mem_access m_cell_Mem_access (known_cons ok_cell_Mem_Load_1 s_cell_Mem_Load_1 m_cell_Mem_Load_1 (known_nil))
theorem s_cell_Mem_Load : S 11 F06.c_cell_Mem_Load := func_sound k_cell_Mem_Load Try.func11 chk_cell_Mem_Load
theorem m_cell_Mem_Load : Mono (F06.c_cell_Mem_Load (X := Unit)) := amFunc_mono (fun g f h => (k_cell_Mem_Load g f h).2.2) _
theorem k_cell_Mem_Ops : Known A0 num Try.prog [] := known_nil
theorem s_cell_Mem_Ops : S 29 F06.c_cell_Mem_Ops := func_sound k_cell_Mem_Ops Try.func29 chk_cell_Mem_Ops
theorem m_cell_Mem_Ops : Mono (F06.c_cell_Mem_Ops (X := Unit)) := amFunc_mono (fun g f h => (k_cell_Mem_Ops g f h).2.2) _
theorem k_cell_Mem_Len : Known A0 num Try.prog [] := known_nil
theorem s_cell_Mem_Len : S 19 F06.c_cell_Mem_Len := func_sound k_cell_Mem_Len Try.func19 chk_cell_Mem_Len
theorem m_cell_Mem_Len : Mono (F06.c_cell_Mem_Len (X := Unit)) := amFunc_mono (fun g f h => (k_cell_Mem_Len g f h).2.2) _
theorem k_law06_works : Known A0 num Try.prog [(21, F06.c_cell_New), (22, F06.c_cell_Mem_Store), (23, F06.c_cell_Mem_CAS), (44, F06.c_cell_Mem_Add), (24, F06.c_cell_Mem_Load), (46, F06.c_cell_Mem_Ops), (34, F06.c_cell_Mem_Len)] := known_cons ok_cell_New s_cell_New m_cell_New (known_cons ok_cell_Mem_Store s_cell_Mem_Store m_cell_Mem_Store (known_cons ok_cell_Mem_CAS s_cell_Mem_CAS m_cell_Mem_CAS (known_cons ok_cell_Mem_Add s_cell_Mem_Add m_cell_Mem_Add (known_cons ok_cell_Mem_Load s_cell_Mem_Load m_cell_Mem_Load (known_cons ok_cell_Mem_Ops s_cell_Mem_Ops m_cell_Mem_Ops (known_cons ok_cell_Mem_Len s_cell_Mem_Len m_cell_Mem_Len (known_nil)))))))
theorem s_law06_works : S 12 F06.c_law06_works := func_sound k_law06_works Try.func12 chk_law06_works
theorem m_law06_works : Mono (F06.c_law06_works (X := Unit)) := amFunc_mono (fun g f h => (k_law06_works g f h).2.2) _
theorem s_worksG : S 12 (pureF F06.worksG) := lift_sound F06.works_lift s_law06_works
theorem k_law : Known A0 num Try.prog (F06.Gtwice (X := Unit)) := known_cons ok_cell_New s_cell_New m_cell_New (known_cons ok_cell_Mem_Store s_cell_Mem_Store m_cell_Mem_Store (known_cons ok_cell_Mem_CAS s_cell_Mem_CAS m_cell_Mem_CAS
  (known_cons ok_cell_Mem_Load s_cell_Mem_Load m_cell_Mem_Load (known_cons ok_law06_works s_worksG F06.works_lift.mono known_nil))))
theorem s_law : S 3 (pureF F06.twiceG) := lift_sound F06.twice_lift (func_sound k_law Try.func3 chk_law06_CellTwice)
theorem law_run (m : Mem Unit) (vs : List AV) (h : IsVs Try.prog m 2 Try.f3.params.toList vs) : ∃ m', pureF F06.twiceG vs m = some (.bool true, m') := by
  rw [Try.params3] at h
  obtain ⟨a, vs, rfl, ha, b, vs, rfl, hb, c, vs, rfl, hc, d, vs, rfl, hd, rfl⟩ := h
  obtain ⟨a, rfl, _⟩ := ha.intV Try.underlying22
  obtain ⟨b, rfl, _⟩ := hb.intV Try.underlying22
  obtain ⟨c, rfl, _⟩ := hc.intV Try.underlying22
  obtain ⟨d, rfl, _⟩ := hd.intV Try.underlying22
  exact ⟨_, rfl⟩

set_option maxRecDepth 100000 in
theorem cellTwice_lifted (os : Os) (started : os.Started) (H : Type) (enc : TypeId × Value → H) :
    ReturnsInHanded {} Try.checked os 3 .any (Rows.cellTwiceSpec.pre6 enc Try.prog Try.f3 Rows.cellTwiceRow.domain false) (Rows.cellTwiceSpec.post enc Try.prog Try.f3 false true false false) := by
  refine returnsInHanded_of_change (C := Try.checked) Try.own started (by kernel_rfl) Try.func3
    (ChangeSpec.witness6 (enc := enc) (C := Try.checked) false ⟨#[], #[.int .u64 0, .int .u64 0, .int .u64 0, .int .u64 0], []⟩ 8 (by kernel_rfl) (by kernel_rfl) (by kernel_rfl) (by kernel_rfl)) ?_
  intro W base args ds gs before hval hW _ _
  exact law_body (tb := 4) 2 s_law rfl (fun ds hl => by
    rw [Try.params3] at hl
    match ds, hl with
    | [_, _, _, _], _ => rfl) rfl (by kernel_rfl) Try.laidOut (by rw [Try.params3]; kernel_rfl) law_run W base args ds gs before hval hW

theorem cellTwice_holds : Rows.CellTwiceSaid :=
  OpenClaim.holds_of_wide 3 Try.f3 rfl rfl rfl rfl rfl rfl rfl ⟨rfl, rfl, rfl, rfl, rfl⟩ rfl rfl rfl rfl rfl (by kernel_rfl) Try.func3 (by kernel_rfl)
    (of_decide_eq_true (by kernel_rfl)) (by unfold Func.isWrapper; first | (rw [if_pos (by decide +kernel)]; kernel_rfl) | (rw [if_neg (by decide +kernel)]; exact ⟨rfl, rfl⟩))
    (fun os started H enc _ => cellTwice_lifted os started H enc)
#print axioms cellTwice_holds
end Go.Proofs.Ytldpldoehjpnaaa
