/- CellPlays: whatever is done to a memory, it answers, has, counts, and logs, what the document says; a copy is apart from it; for every input. -/
import Derived.Test.YtldpldoehjpnaaaRows
import Derived.Test.YtldpldoehjpnaaaXV06
import Derived.Test.YtldpldoehjpnaaaXA06
import Derived.Lib.SmallJoins
set_option linter.unusedSimpArgs false
set_option linter.unusedVariables false
namespace Go.Proofs.Ytldpldoehjpnaaa
open Go.Am Go.Joins Go.ChangeShapes Go.WideShapes Go.RowKit Go.Deep Go.ChangeAt

theorem Try.own : ownKnob Try.prog.godebug = none := by kernel_rfl
theorem Try.laidOut : laidOutB Try.prog = true := by kernel_rfl

theorem s_allF : S 30 F06.allF := F06.or_sound e_Mem_All s_cell_Mem_All
theorem m_allF : Mono F06.allF := F06.or_mono f_Mem_All m_cell_Mem_All
theorem k_same : Known A0 num Try.prog F06.Gsame := known_cons ok_cell_Mem_All s_allF m_allF (known_cons ok_slices_Equal_uint64 s_slices_Equal_uint64 m_slices_Equal_uint64 known_nil)
theorem e_same : S 26 (amFunc F06.Gsame F06.cell_Same) := func_sound k_same Try.func26 chk_cell_Same
theorem k_sm : Known A0 num Try.prog F06.Gsm := known_cons ok_cell_Mem_Len e_Mem_Len f_Mem_Len (known_cons ok_cell_Mem_Ops e_Mem_Ops f_Mem_Ops (known_cons ok_cell_Mem_All e_Mem_All f_Mem_All (known_cons ok_docs_SameCells s_docs_SameCells m_docs_SameCells known_nil)))
theorem e_sm : S 50 (amFunc F06.Gsm F06.docs_SameMem) := func_sound k_sm Try.func50 chk_docs_SameMem
theorem k_mems : Known A0 num Try.prog F06.Gmems := known_cons ok_ref06_New s_ref06_New m_ref06_New (known_cons ok_ref06_Load s_ref06_Load m_ref06_Load (known_cons ok_ref06_Store s_ref06_Store m_ref06_Store (known_cons ok_ref06_CAS s_ref06_CAS m_ref06_CAS (known_cons ok_ref06_Add s_ref06_Add m_ref06_Add
  (known_am ok_docs_SameMem k_sm e_sm known_nil)))))
theorem e_mems : S 22 (amFunc F06.Gmems F06.law06_mems) := func_sound k_mems Try.func22 chk_law06_mems
theorem k_cnt : Known A0 num Try.prog (F06.Gcnt (X := Ob)) := known_cons ok_ref06_NewBook s_ref06_NewBook m_ref06_NewBook (known_cons ok_ref06_Do s_ref06_Do m_ref06_Do (known_cons ok_ref06_Swapped s_ref06_Swapped m_ref06_Swapped known_nil))
theorem e_cnt : S 25 (amFunc F06.Gcnt F06.law06_count) := func_sound k_cnt Try.func25 chk_law06_count
theorem k_play : Known A0 num Try.prog F06.Gplay := known_cons ok_law06_works s_worksG F06.works_lift.mono (known_cons ok_cell_New e_new f_new (known_cons ok_cell_Mem_Len e_Mem_Len f_Mem_Len (known_cons ok_ref06_NewBook s_ref06_NewBook m_ref06_NewBook (known_cons ok_cell_Mem_Copy e_Mem_Copy f_Mem_Copy
  (known_am ok_law06_does k_does e_does (known_cons ok_cell_Mem_Last e_Mem_Last f_Mem_Last (known_am ok_law06_mems k_mems e_mems (known_am ok_docs_SameBook k_sb e_sb (known_cons ok_docs_Access s_docs_Access m_docs_Access (known_cons ok_cell_Mem_Count e_Mem_Count f_Mem_Count
  (known_am ok_law06_count k_cnt e_cnt (known_am ok_cell_Same k_same e_same known_nil))))))))))))
theorem s_law : S 5 (amFunc F06.Gplay F06.law06_CellPlays) := func_sound k_play Try.func5 chk_law06_CellPlays
theorem law_run (m : Mem Ob) (vs : List AV) (h : IsVs Try.prog m 4 Try.f5.params.toList vs) : ∃ m', amFunc F06.Gplay F06.law06_CellPlays vs m = some (.bool true, m') := by
  rw [Try.params5] at h
  obtain ⟨a, vs, rfl, ha, b, vs, rfl, hb, rfl⟩ := h
  obtain ⟨a, rfl, _⟩ := ha.intV Try.underlying3
  obtain ⟨l, hl⟩ := sa_slice hb Try.underlying30 (by kernel_rfl) (fun cs hcs h => row_acc h hcs Try.underlying39 rfl rfl rfl rfl ⟨rfl, rfl⟩ ⟨rfl, rfl⟩ ⟨rfl, rfl⟩ ⟨rfl, rfl⟩)
  have hcp : F06.Cp b := by
    rcases hb.sliceV Try.underlying30 with rfl | ⟨i, len, cap, rfl, _, hlc, _, _⟩
    · intro q o n c h; cases h
    · intro q o n c h
      injection h with e1 e2 e3 e4
      injection e4 with e4
      subst e3; subst e4; exact hlc
  obtain ⟨r, m', h1, rfl⟩ := F06.plays_run hl hcp (n := a)
  exact ⟨m', h1⟩

set_option maxRecDepth 100000 in
theorem cellPlays_lifted (os : Os) (started : os.Started) (H : Type) (enc : TypeId × Value → H) :
    ReturnsInHanded {} Try.checked os 5 .any (Rows.cellPlaysSpec.pre6 enc Try.prog Try.f5 Rows.cellPlaysRow.domain false) (Rows.cellPlaysSpec.post enc Try.prog Try.f5 false true false false) := by
  refine returnsInHanded_of_change (C := Try.checked) Try.own started (by kernel_rfl) Try.func5
    (ChangeSpec.witness6 (enc := enc) (C := Try.checked) false ⟨#[], #[.int .i64 0, .slice none 0 0], []⟩ 8 (by kernel_rfl) (by kernel_rfl) (by kernel_rfl) (by kernel_rfl)) ?_
  intro W base args ds gs before hval hW _ _
  exact law_body (tb := 4) 4 s_law rfl (fun ds hl => by
    rw [Try.params5] at hl
    match ds, hl with
    | [_, _], _ => rfl) rfl (by kernel_rfl) Try.laidOut (by rw [Try.params5]; kernel_rfl) law_run W base args ds gs before hval hW

theorem cellPlays_holds : Rows.CellPlaysSaid :=
  OpenClaim.holds_of_wide 5 Try.f5 rfl rfl rfl rfl rfl rfl rfl ⟨rfl, rfl, rfl, rfl, rfl⟩ rfl rfl rfl rfl rfl (by kernel_rfl) Try.func5 (by kernel_rfl)
    (of_decide_eq_true (by kernel_rfl)) (by unfold Func.isWrapper; first | (rw [if_pos (by decide +kernel)]; kernel_rfl) | (rw [if_neg (by decide +kernel)]; exact ⟨rfl, rfl⟩))
    (fun os started H enc _ => cellPlays_lifted os started H enc)
#print axioms cellPlays_holds
end Go.Proofs.Ytldpldoehjpnaaa
