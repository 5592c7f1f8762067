/- CellKnown: the examples of the chapter; memories by numbers; long logs; none (a closed statement). -/
import Derived.Test.YtldpldoehjpnaaaRows
import Derived.Test.YtldpldoehjpnaaaXV06
import Derived.Test.YtldpldoehjpnaaaXW06
import Derived.Lib.SmallJoins
set_option linter.unusedSimpArgs false
set_option linter.unusedVariables false
namespace Go.Proofs.Ytldpldoehjpnaaa
open Go.Am Go.Joins Go.ChangeShapes Go.WideShapes Go.RowKit Go.Deep Go.ChangeAt

theorem Try.own : ownKnob Try.prog.godebug = none := by kernel_rfl
theorem Try.laidOut : laidOutB Try.prog = true := by kernel_rfl

theorem s_allF : S 30 F06.allF := F06.or_sound e_Mem_All s_cell_Mem_All
theorem m_allF : Mono F06.allF := F06.or_mono f_Mem_All m_cell_Mem_All
theorem k_same : Known A0 num Try.prog F06.Gsame := known_cons ok_cell_Mem_All s_allF m_allF (known_cons ok_slices_Equal_uint64 s_slices_Equal_uint64 m_slices_Equal_uint64 known_nil)
theorem e_same : S 26 (amFunc F06.Gsame F06.cell_Same) := func_sound k_same Try.func26 chk_cell_Same
theorem k_sm : Known A0 num Try.prog F06.Gsm := known_cons ok_cell_Mem_Len e_Mem_Len f_Mem_Len (known_cons ok_cell_Mem_Ops e_Mem_Ops f_Mem_Ops (known_cons ok_cell_Mem_All e_Mem_All f_Mem_All (known_cons ok_docs_SameCells s_docs_SameCells m_docs_SameCells known_nil)))
theorem e_sm : S 50 (amFunc F06.Gsm F06.docs_SameMem) := func_sound k_sm Try.func50 chk_docs_SameMem
theorem k_mems : Known A0 num Try.prog F06.Gmems := known_cons ok_ref06_New s_ref06_New m_ref06_New (known_cons ok_ref06_Load s_ref06_Load m_ref06_Load (known_cons ok_ref06_Store s_ref06_Store m_ref06_Store (known_cons ok_ref06_CAS s_ref06_CAS m_ref06_CAS (known_cons ok_ref06_Add s_ref06_Add m_ref06_Add
  (known_am ok_docs_SameMem k_sm e_sm known_nil)))))
theorem e_mems : S 22 (amFunc F06.Gmems F06.law06_mems) := func_sound k_mems Try.func22 chk_law06_mems
theorem k_cnt : Known A0 num Try.prog (F06.Gcnt (X := Ob)) := known_cons ok_ref06_NewBook s_ref06_NewBook m_ref06_NewBook (known_cons ok_ref06_Do s_ref06_Do m_ref06_Do (known_cons ok_ref06_Swapped s_ref06_Swapped m_ref06_Swapped known_nil))
theorem e_cnt : S 25 (amFunc F06.Gcnt F06.law06_count) := func_sound k_cnt Try.func25 chk_law06_count
theorem k_play : Known A0 num Try.prog F06.Gplay := known_cons ok_law06_works s_worksG F06.works_lift.mono (known_cons ok_cell_New e_new f_new (known_cons ok_cell_Mem_Len e_Mem_Len f_Mem_Len (known_cons ok_ref06_NewBook s_ref06_NewBook m_ref06_NewBook (known_cons ok_cell_Mem_Copy e_Mem_Copy f_Mem_Copy
  (known_am ok_law06_does k_does e_does (known_cons ok_cell_Mem_Last e_Mem_Last f_Mem_Last (known_am ok_law06_mems k_mems e_mems (known_am ok_docs_SameBook k_sb e_sb (known_cons ok_docs_Access s_docs_Access m_docs_Access (known_cons ok_cell_Mem_Count e_Mem_Count f_Mem_Count
  (known_am ok_law06_count k_cnt e_cnt (known_am ok_cell_Same k_same e_same known_nil))))))))))))
theorem e_plays : S 5 (amFunc F06.Gplay F06.law06_CellPlays) := func_sound k_play Try.func5 chk_law06_CellPlays
theorem k_logs : Known A0 num Try.prog F06.Glogs := known_cons ok_law06_works s_worksG F06.works_lift.mono (known_cons ok_cell_New e_new f_new (known_cons ok_ref06_NewBook s_ref06_NewBook m_ref06_NewBook (known_am ok_law06_does k_does e_does (known_cons ok_cell_Mem_Log e_Mem_Log f_Mem_Log (known_cons ok_cell_Redo e_Redo f_Redo
  (known_am ok_cell_Same k_same e_same (known_cons ok_cell_Mem_Len e_Mem_Len f_Mem_Len (known_cons ok_cell_Mem_Add e_Mem_Add f_Mem_Add known_nil))))))))
theorem e_logs : S 6 (amFunc F06.Glogs F06.law06_CellLogs) := func_sound k_logs Try.func6 chk_law06_CellLogs
theorem e_redoes : S 4 (amFunc F06.Gred F06.law06_CellRedoes) := func_sound k_red Try.func4 chk_law06_CellRedoes
theorem k_twice : Known A0 num Try.prog (F06.Gtwice (X := Ob)) := known_cons ok_cell_New s_cell_New m_cell_New (known_cons ok_cell_Mem_Store s_cell_Mem_Store m_cell_Mem_Store (known_cons ok_cell_Mem_CAS s_cell_Mem_CAS m_cell_Mem_CAS
  (known_cons ok_cell_Mem_Load s_cell_Mem_Load m_cell_Mem_Load (known_cons ok_law06_works s_worksG F06.works_lift.mono known_nil))))
theorem e_twice : S 3 (pureF F06.twiceG) := lift_sound F06.twice_lift (func_sound k_twice Try.func3 chk_law06_CellTwice)
theorem o_Mem_Add : S 28 F06.addO := F06.or_sound e_Mem_Add s_cell_Mem_Add
theorem p_Mem_Add : Mono F06.addO := F06.or_mono f_Mem_Add m_cell_Mem_Add
theorem o_Mem_Log : S 27 F06.logO := F06.or_sound e_Mem_Log s_cell_Mem_Log
theorem p_Mem_Log : Mono F06.logO := F06.or_mono f_Mem_Log m_cell_Mem_Log
theorem o_Mem_Ops : S 29 F06.opsO := F06.or_sound e_Mem_Ops s_cell_Mem_Ops
theorem p_Mem_Ops : Mono F06.opsO := F06.or_mono f_Mem_Ops m_cell_Mem_Ops
theorem o_Mem_Load : S 11 F06.loadO := F06.or_sound e_Mem_Load s_cell_Mem_Load
theorem p_Mem_Load : Mono F06.loadO := F06.or_mono f_Mem_Load m_cell_Mem_Load
theorem o_Mem_Store : S 9 F06.storeO := F06.or_sound e_Mem_Store s_cell_Mem_Store
theorem p_Mem_Store : Mono F06.storeO := F06.or_mono f_Mem_Store m_cell_Mem_Store
theorem o_Mem_Last : S 21 F06.lastO := F06.or_sound e_Mem_Last s_cell_Mem_Last
theorem p_Mem_Last : Mono F06.lastO := F06.or_mono f_Mem_Last m_cell_Mem_Last
theorem o_Mem_CAS : S 10 F06.casO := F06.or_sound e_Mem_CAS s_cell_Mem_CAS
theorem p_Mem_CAS : Mono F06.casO := F06.or_mono f_Mem_CAS m_cell_Mem_CAS
theorem o_Mem_Count : S 24 F06.countO := F06.or_sound e_Mem_Count s_cell_Mem_Count
theorem p_Mem_Count : Mono F06.countO := F06.or_mono f_Mem_Count m_cell_Mem_Count
theorem o_Mem_Len : S 19 F06.lenO := F06.or_sound e_Mem_Len s_cell_Mem_Len
theorem p_Mem_Len : Mono F06.lenO := F06.or_mono f_Mem_Len m_cell_Mem_Len
theorem o_Mem_Copy : S 20 F06.copyO := F06.or_sound e_Mem_Copy s_cell_Mem_Copy
theorem p_Mem_Copy : Mono F06.copyO := F06.or_mono f_Mem_Copy m_cell_Mem_Copy
theorem o_Redo : S 17 F06.redoO := F06.or_sound e_Redo s_cell_Redo
theorem p_Redo : Mono F06.redoO := F06.or_mono f_Redo m_cell_Redo
theorem k_known : Known A0 num Try.prog F06.Gknown := known_am ok_law06_CellPlays k_play e_plays (known_am ok_law06_CellRedoes k_red e_redoes (known_am ok_law06_CellLogs k_logs e_logs (known_cons ok_law06_CellTwice e_twice F06.twice_lift.mono (known_cons ok_cell_New e_new f_new (known_cons ok_cell_Mem_Add o_Mem_Add p_Mem_Add (known_cons ok_cell_Mem_Log o_Mem_Log p_Mem_Log (known_cons ok_cell_Mem_Ops o_Mem_Ops p_Mem_Ops (known_cons ok_cell_Mem_Load o_Mem_Load p_Mem_Load (known_cons ok_cell_Mem_Store o_Mem_Store p_Mem_Store (known_cons ok_cell_Mem_Last o_Mem_Last p_Mem_Last (known_cons ok_cell_Mem_CAS o_Mem_CAS p_Mem_CAS (known_cons ok_cell_Mem_Count o_Mem_Count p_Mem_Count (known_cons ok_cell_Mem_Len o_Mem_Len p_Mem_Len (known_cons ok_cell_Mem_All s_allF m_allF (known_cons ok_cell_Mem_Copy o_Mem_Copy p_Mem_Copy (known_cons ok_cell_Redo o_Redo p_Redo (known_am ok_cell_Same k_same e_same (known_cons ok_law06_works s_worksG F06.works_lift.mono (known_nil)))))))))))))))))))
theorem s_law : S 7 (amFunc F06.Gknown F06.law06_CellKnown) := func_sound k_known Try.func7 chk_law06_CellKnown
theorem known_any (m : Mem Ob) : ∃ m', amFunc F06.Gknown F06.law06_CellKnown [] m = some (.bool true, m') := by
  obtain ⟨r, m', h1, rfl⟩ := F06.known_run m
  exact ⟨m', h1⟩
theorem law_run (m : Mem Ob) (vs : List AV) (h : IsVs Try.prog m 4 Try.f7.params.toList vs) : ∃ m', amFunc F06.Gknown F06.law06_CellKnown vs m = some (.bool true, m') := by
  rw [Try.params7] at h
  have h : vs = [] := h
  subst h
  exact known_any m

set_option maxRecDepth 100000 in
theorem cellKnown_lifted (os : Os) (started : os.Started) (H : Type) (enc : TypeId × Value → H) :
    ReturnsInHanded {} Try.checked os 7 .any (Rows.cellKnownSpec.pre6 enc Try.prog Try.f7 Rows.cellKnownRow.domain false) (Rows.cellKnownSpec.post enc Try.prog Try.f7 false true false false) := by
  refine returnsInHanded_of_change (C := Try.checked) Try.own started (by kernel_rfl) Try.func7
    (ChangeSpec.witness6 (enc := enc) (C := Try.checked) false ⟨#[], #[], []⟩ 8 (by kernel_rfl) (by kernel_rfl) (by kernel_rfl) (by kernel_rfl)) ?_
  intro W base args ds gs before hval hW _ _
  exact law_body (tb := 4) 4 s_law rfl (fun ds hl => by
    rw [Try.params7] at hl
    match ds, hl with
    | [], _ => rfl) rfl (by kernel_rfl) Try.laidOut (by rw [Try.params7]; kernel_rfl) law_run W base args ds gs before hval hW

theorem cellKnown_holds : Rows.CellKnownSaid :=
  OpenClaim.holds_of_wide 7 Try.f7 rfl rfl rfl rfl rfl rfl rfl ⟨rfl, rfl, rfl, rfl, rfl⟩ rfl rfl rfl rfl rfl (by kernel_rfl) Try.func7 (by kernel_rfl)
    (of_decide_eq_true (by kernel_rfl)) (by unfold Func.isWrapper; first | (rw [if_pos (by decide +kernel)]; kernel_rfl) | (rw [if_neg (by decide +kernel)]; exact ⟨rfl, rfl⟩))
    (fun os started H enc _ => cellKnown_lifted os started H enc)
#print axioms cellKnown_holds
end Go.Proofs.Ytldpldoehjpnaaa
