/- The functions of the seat, and the methods of a memory as one abstract chunk: all sound. -/
import Derived.Test.YtldpldoehjpnaaaXS06
import Derived.Test.YtldpldoehjpnaaaXJ06
import Derived.Test.YtldpldoehjpnaaaXAmRead
import Derived.Test.YtldpldoehjpnaaaXAmLaw
set_option linter.unusedSimpArgs false
set_option linter.unusedVariables false
namespace Go.Proofs.Ytldpldoehjpnaaa
open Go.Am

abbrev Ob := Go.Am.Ob
def A0 : AbsSem Ob := AbsOf num concM
abbrev S (k : Nat) (f : AFun Ob) : Prop := Sound A0 num Try.prog k f

theorem k_cell_New : Known A0 num Try.prog [] := known_nil
theorem s_cell_New : S 8 F06.c_cell_New := func_sound k_cell_New Try.func8 chk_cell_New
theorem m_cell_New : Mono (F06.c_cell_New (X := Ob)) := amFunc_mono (fun g f h => (k_cell_New g f h).2.2) _
theorem k_cell_Mem_there : Known A0 num Try.prog [] := known_nil
theorem s_cell_Mem_there : S 38 F06.c_cell_Mem_there := func_sound k_cell_Mem_there Try.func38 chk_cell_Mem_there
theorem m_cell_Mem_there : Mono (F06.c_cell_Mem_there (X := Ob)) := amFunc_mono (fun g f h => (k_cell_Mem_there g f h).2.2) _
theorem k_cell_counts_note : Known A0 num Try.prog [] := known_nil
theorem s_cell_counts_note : S 53 F06.c_cell_counts_note := func_sound k_cell_counts_note Try.func53 chk_cell_counts_note
theorem m_cell_counts_note : Mono (F06.c_cell_counts_note (X := Ob)) := amFunc_mono (fun g f h => (k_cell_counts_note g f h).2.2) _
theorem k_cell_Mem_Store_1 : Known A0 num Try.prog [] := known_nil
theorem s_cell_Mem_Store_1 : S 32 F06.c_cell_Mem_Store_1 := func_sound k_cell_Mem_Store_1 Try.func32 chk_cell_Mem_Store_1
theorem m_cell_Mem_Store_1 : Mono (F06.c_cell_Mem_Store_1 (X := Ob)) := amFunc_mono (fun g f h => (k_cell_Mem_Store_1 g f h).2.2) _
theorem k_cell_Mem_CAS_1 : Known A0 num Try.prog [] := known_nil
theorem s_cell_Mem_CAS_1 : S 33 F06.c_cell_Mem_CAS_1 := func_sound k_cell_Mem_CAS_1 Try.func33 chk_cell_Mem_CAS_1
theorem m_cell_Mem_CAS_1 : Mono (F06.c_cell_Mem_CAS_1 (X := Ob)) := amFunc_mono (fun g f h => (k_cell_Mem_CAS_1 g f h).2.2) _
theorem k_cell_Mem_Load_1 : Known A0 num Try.prog [] := known_nil
theorem s_cell_Mem_Load_1 : S 34 F06.c_cell_Mem_Load_1 := func_sound k_cell_Mem_Load_1 Try.func34 chk_cell_Mem_Load_1
theorem m_cell_Mem_Load_1 : Mono (F06.c_cell_Mem_Load_1 (X := Ob)) := amFunc_mono (fun g f h => (k_cell_Mem_Load_1 g f h).2.2) _
theorem k_cell_Mem_Add_1 : Known A0 num Try.prog [] := known_nil
theorem s_cell_Mem_Add_1 : S 52 F06.c_cell_Mem_Add_1 := func_sound k_cell_Mem_Add_1 Try.func52 chk_cell_Mem_Add_1
theorem m_cell_Mem_Add_1 : Mono (F06.c_cell_Mem_Add_1 (X := Ob)) := amFunc_mono (fun g f h => (k_cell_Mem_Add_1 g f h).2.2) _
theorem k_cell_Mem_access : Known A0 num Try.prog [(56, F06.c_cell_Mem_there), (71, F06.c_cell_counts_note), (49, F06.c_cell_Mem_Store_1), (51, F06.c_cell_Mem_CAS_1), (52, F06.c_cell_Mem_Load_1), (70, F06.c_cell_Mem_Add_1)] := known_cons ok_cell_Mem_there s_cell_Mem_there m_cell_Mem_there (known_cons ok_cell_counts_note s_cell_counts_note m_cell_counts_note (known_cons ok_cell_Mem_Store_1 s_cell_Mem_Store_1 m_cell_Mem_Store_1 (known_cons ok_cell_Mem_CAS_1 s_cell_Mem_CAS_1 m_cell_Mem_CAS_1 (known_cons ok_cell_Mem_Load_1 s_cell_Mem_Load_1 m_cell_Mem_Load_1 (known_cons ok_cell_Mem_Add_1 s_cell_Mem_Add_1 m_cell_Mem_Add_1 (known_nil))))))
theorem s_cell_Mem_access : S 31 F06.c_cell_Mem_access := func_sound k_cell_Mem_access Try.func31 chk_cell_Mem_access
theorem m_cell_Mem_access : Mono (F06.c_cell_Mem_access (X := Ob)) := amFunc_mono (fun g f h => (k_cell_Mem_access g f h).2.2) _
theorem k_cell_Mem_Store : Known A0 num Try.prog [(50, F06.c_cell_Mem_access), (49, F06.c_cell_Mem_Store_1)] := known_cons ok_cell_Mem_access s_cell_Mem_access m_cell_Mem_access (known_cons ok_cell_Mem_Store_1 s_cell_Mem_Store_1 m_cell_Mem_Store_1 (known_nil))
theorem s_cell_Mem_Store : S 9 F06.c_cell_Mem_Store := func_sound k_cell_Mem_Store Try.func9 chk_cell_Mem_Store
theorem m_cell_Mem_Store : Mono (F06.c_cell_Mem_Store (X := Ob)) := amFunc_mono (fun g f h => (k_cell_Mem_Store g f h).2.2) _
theorem k_cell_Mem_CAS : Known A0 num Try.prog [(50, F06.c_cell_Mem_access), (51, F06.c_cell_Mem_CAS_1)] := known_cons ok_cell_Mem_access s_cell_Mem_access m_cell_Mem_access (known_cons ok_cell_Mem_CAS_1 s_cell_Mem_CAS_1 m_cell_Mem_CAS_1 (known_nil))
theorem s_cell_Mem_CAS : S 10 F06.c_cell_Mem_CAS := func_sound k_cell_Mem_CAS Try.func10 chk_cell_Mem_CAS
theorem m_cell_Mem_CAS : Mono (F06.c_cell_Mem_CAS (X := Ob)) := amFunc_mono (fun g f h => (k_cell_Mem_CAS g f h).2.2) _
theorem k_cell_Mem_Add : Known A0 num Try.prog [(50, F06.c_cell_Mem_access), (70, F06.c_cell_Mem_Add_1)] := known_cons ok_cell_Mem_access s_cell_Mem_access m_cell_Mem_access (known_cons ok_cell_Mem_Add_1 s_cell_Mem_Add_1 m_cell_Mem_Add_1 (known_nil))
theorem s_cell_Mem_Add : S 28 F06.c_cell_Mem_Add := func_sound k_cell_Mem_Add Try.func28 chk_cell_Mem_Add
theorem m_cell_Mem_Add : Mono (F06.c_cell_Mem_Add (X := Ob)) := amFunc_mono (fun g f h => (k_cell_Mem_Add g f h).2.2) _
theorem k_cell_Mem_Load : Known A0 num Try.prog [(50, F06.c_cell_Mem_access), (52, F06.c_cell_Mem_Load_1)] := known_cons ok_cell_Mem_access s_cell_Mem_access m_cell_Mem_access (known_cons ok_cell_Mem_Load_1 s_cell_Mem_Load_1 m_cell_Mem_Load_1 (known_nil))
theorem s_cell_Mem_Load : S 11 F06.c_cell_Mem_Load := func_sound k_cell_Mem_Load Try.func11 chk_cell_Mem_Load
theorem m_cell_Mem_Load : Mono (F06.c_cell_Mem_Load (X := Ob)) := amFunc_mono (fun g f h => (k_cell_Mem_Load g f h).2.2) _
theorem k_cell_Mem_Ops : Known A0 num Try.prog [] := known_nil
theorem s_cell_Mem_Ops : S 29 F06.c_cell_Mem_Ops := func_sound k_cell_Mem_Ops Try.func29 chk_cell_Mem_Ops
theorem m_cell_Mem_Ops : Mono (F06.c_cell_Mem_Ops (X := Ob)) := amFunc_mono (fun g f h => (k_cell_Mem_Ops g f h).2.2) _
theorem k_cell_Mem_Len : Known A0 num Try.prog [] := known_nil
theorem s_cell_Mem_Len : S 19 F06.c_cell_Mem_Len := func_sound k_cell_Mem_Len Try.func19 chk_cell_Mem_Len
theorem m_cell_Mem_Len : Mono (F06.c_cell_Mem_Len (X := Ob)) := amFunc_mono (fun g f h => (k_cell_Mem_Len g f h).2.2) _
theorem k_law06_works : Known A0 num Try.prog [(21, F06.c_cell_New), (22, F06.c_cell_Mem_Store), (23, F06.c_cell_Mem_CAS), (44, F06.c_cell_Mem_Add), (24, F06.c_cell_Mem_Load), (46, F06.c_cell_Mem_Ops), (34, F06.c_cell_Mem_Len)] := known_cons ok_cell_New s_cell_New m_cell_New (known_cons ok_cell_Mem_Store s_cell_Mem_Store m_cell_Mem_Store (known_cons ok_cell_Mem_CAS s_cell_Mem_CAS m_cell_Mem_CAS (known_cons ok_cell_Mem_Add s_cell_Mem_Add m_cell_Mem_Add (known_cons ok_cell_Mem_Load s_cell_Mem_Load m_cell_Mem_Load (known_cons ok_cell_Mem_Ops s_cell_Mem_Ops m_cell_Mem_Ops (known_cons ok_cell_Mem_Len s_cell_Mem_Len m_cell_Mem_Len (known_nil)))))))
theorem s_law06_works : S 12 F06.c_law06_works := func_sound k_law06_works Try.func12 chk_law06_works
theorem m_law06_works : Mono (F06.c_law06_works (X := Ob)) := amFunc_mono (fun g f h => (k_law06_works g f h).2.2) _
theorem k_docs_Access : Known A0 num Try.prog [] := known_nil
theorem s_docs_Access : S 23 F06.c_docs_Access := func_sound k_docs_Access Try.func23 chk_docs_Access
theorem m_docs_Access : Mono (F06.c_docs_Access (X := Ob)) := amFunc_mono (fun g f h => (k_docs_Access g f h).2.2) _
theorem k_docs_Accesses : Known A0 num Try.prog [(38, F06.c_docs_Access)] := known_cons ok_docs_Access s_docs_Access m_docs_Access (known_nil)
theorem s_docs_Accesses : S 16 F06.c_docs_Accesses := func_sound k_docs_Accesses Try.func16 chk_docs_Accesses
theorem m_docs_Accesses : Mono (F06.c_docs_Accesses (X := Ob)) := amFunc_mono (fun g f h => (k_docs_Accesses g f h).2.2) _
theorem k_docs_SameCells : Known A0 num Try.prog [] := known_nil
theorem s_docs_SameCells : S 39 F06.c_docs_SameCells := func_sound k_docs_SameCells Try.func39 chk_docs_SameCells
theorem m_docs_SameCells : Mono (F06.c_docs_SameCells (X := Ob)) := amFunc_mono (fun g f h => (k_docs_SameCells g f h).2.2) _
theorem k_docs_SameLog : Known A0 num Try.prog [(38, F06.c_docs_Access)] := known_cons ok_docs_Access s_docs_Access m_docs_Access (known_nil)
theorem s_docs_SameLog : S 41 F06.c_docs_SameLog := func_sound k_docs_SameLog Try.func41 chk_docs_SameLog
theorem m_docs_SameLog : Mono (F06.c_docs_SameLog (X := Ob)) := amFunc_mono (fun g f h => (k_docs_SameLog g f h).2.2) _
theorem k_ref06_All : Known A0 num Try.prog [] := known_nil
theorem s_ref06_All : S 40 F06.c_ref06_All := func_sound k_ref06_All Try.func40 chk_ref06_All
theorem m_ref06_All : Mono (F06.c_ref06_All (X := Ob)) := amFunc_mono (fun g f h => (k_ref06_All g f h).2.2) _
theorem k_ref06_Log : Known A0 num Try.prog [] := known_nil
theorem s_ref06_Log : S 42 F06.c_ref06_Log := func_sound k_ref06_Log Try.func42 chk_ref06_Log
theorem m_ref06_Log : Mono (F06.c_ref06_Log (X := Ob)) := amFunc_mono (fun g f h => (k_ref06_Log g f h).2.2) _
theorem k_ref06_At : Known A0 num Try.prog [] := known_nil
theorem s_ref06_At : S 37 F06.c_ref06_At := func_sound k_ref06_At Try.func37 chk_ref06_At
theorem m_ref06_At : Mono (F06.c_ref06_At (X := Ob)) := amFunc_mono (fun g f h => (k_ref06_At g f h).2.2) _
theorem k_ref06_Do : Known A0 num Try.prog [(55, F06.c_ref06_At)] := known_cons ok_ref06_At s_ref06_At m_ref06_At (known_nil)
theorem s_ref06_Do : S 35 F06.c_ref06_Do := func_sound k_ref06_Do Try.func35 chk_ref06_Do
theorem m_ref06_Do : Mono (F06.c_ref06_Do (X := Ob)) := amFunc_mono (fun g f h => (k_ref06_Do g f h).2.2) _
theorem k_ref06_Redo : Known A0 num Try.prog [(55, F06.c_ref06_At), (53, F06.c_ref06_Do)] := known_cons ok_ref06_At s_ref06_At m_ref06_At (known_cons ok_ref06_Do s_ref06_Do m_ref06_Do (known_nil))
theorem s_ref06_Redo : S 15 F06.c_ref06_Redo := func_sound k_ref06_Redo Try.func15 chk_ref06_Redo
theorem m_ref06_Redo : Mono (F06.c_ref06_Redo (X := Ob)) := amFunc_mono (fun g f h => (k_ref06_Redo g f h).2.2) _
theorem k_ref06_NewBook : Known A0 num Try.prog [] := known_nil
theorem s_ref06_NewBook : S 13 F06.c_ref06_NewBook := func_sound k_ref06_NewBook Try.func13 chk_ref06_NewBook
theorem m_ref06_NewBook : Mono (F06.c_ref06_NewBook (X := Ob)) := amFunc_mono (fun g f h => (k_ref06_NewBook g f h).2.2) _
theorem k_ref06_Swapped : Known A0 num Try.prog [] := known_nil
theorem s_ref06_Swapped : S 36 F06.c_ref06_Swapped := func_sound k_ref06_Swapped Try.func36 chk_ref06_Swapped
theorem m_ref06_Swapped : Mono (F06.c_ref06_Swapped (X := Ob)) := amFunc_mono (fun g f h => (k_ref06_Swapped g f h).2.2) _
theorem k_slices_Clone_uint64 : Known A0 num Try.prog [] := known_nil
theorem s_slices_Clone_uint64 : S 43 F06.c_slices_Clone_uint64 := func_sound k_slices_Clone_uint64 Try.func43 chk_slices_Clone_uint64
theorem m_slices_Clone_uint64 : Mono (F06.c_slices_Clone_uint64 (X := Ob)) := amFunc_mono (fun g f h => (k_slices_Clone_uint64 g f h).2.2) _
theorem k_cell_Mem_All : Known A0 num Try.prog [(61, F06.c_slices_Clone_uint64)] := known_cons ok_slices_Clone_uint64 s_slices_Clone_uint64 m_slices_Clone_uint64 (known_nil)
theorem s_cell_Mem_All : S 30 F06.c_cell_Mem_All := func_sound k_cell_Mem_All Try.func30 chk_cell_Mem_All
theorem m_cell_Mem_All : Mono (F06.c_cell_Mem_All (X := Ob)) := amFunc_mono (fun g f h => (k_cell_Mem_All g f h).2.2) _
theorem k_slices_Clone_cell_Access : Known A0 num Try.prog [] := known_nil
theorem s_slices_Clone_cell_Access : S 44 F06.c_slices_Clone_cell_Access := func_sound k_slices_Clone_cell_Access Try.func44 chk_slices_Clone_cell_Access
theorem m_slices_Clone_cell_Access : Mono (F06.c_slices_Clone_cell_Access (X := Ob)) := amFunc_mono (fun g f h => (k_slices_Clone_cell_Access g f h).2.2) _
theorem k_cell_Mem_Log : Known A0 num Try.prog [(62, F06.c_slices_Clone_cell_Access)] := known_cons ok_slices_Clone_cell_Access s_slices_Clone_cell_Access m_slices_Clone_cell_Access (known_nil)
theorem s_cell_Mem_Log : S 27 F06.c_cell_Mem_Log := func_sound k_cell_Mem_Log Try.func27 chk_cell_Mem_Log
theorem m_cell_Mem_Log : Mono (F06.c_cell_Mem_Log (X := Ob)) := amFunc_mono (fun g f h => (k_cell_Mem_Log g f h).2.2) _
theorem k_cell_Redo : Known A0 num Try.prog [(56, F06.c_cell_Mem_there), (24, F06.c_cell_Mem_Load), (22, F06.c_cell_Mem_Store), (23, F06.c_cell_Mem_CAS), (44, F06.c_cell_Mem_Add)] := known_cons ok_cell_Mem_there s_cell_Mem_there m_cell_Mem_there (known_cons ok_cell_Mem_Load s_cell_Mem_Load m_cell_Mem_Load (known_cons ok_cell_Mem_Store s_cell_Mem_Store m_cell_Mem_Store (known_cons ok_cell_Mem_CAS s_cell_Mem_CAS m_cell_Mem_CAS (known_cons ok_cell_Mem_Add s_cell_Mem_Add m_cell_Mem_Add (known_nil)))))
theorem s_cell_Redo : S 17 F06.c_cell_Redo := func_sound k_cell_Redo Try.func17 chk_cell_Redo
theorem m_cell_Redo : Mono (F06.c_cell_Redo (X := Ob)) := amFunc_mono (fun g f h => (k_cell_Redo g f h).2.2) _
theorem k_cell_Mem_Copy : Known A0 num Try.prog [(61, F06.c_slices_Clone_uint64), (62, F06.c_slices_Clone_cell_Access)] := known_cons ok_slices_Clone_uint64 s_slices_Clone_uint64 m_slices_Clone_uint64 (known_cons ok_slices_Clone_cell_Access s_slices_Clone_cell_Access m_slices_Clone_cell_Access (known_nil))
theorem s_cell_Mem_Copy : S 20 F06.c_cell_Mem_Copy := func_sound k_cell_Mem_Copy Try.func20 chk_cell_Mem_Copy
theorem m_cell_Mem_Copy : Mono (F06.c_cell_Mem_Copy (X := Ob)) := amFunc_mono (fun g f h => (k_cell_Mem_Copy g f h).2.2) _
theorem k_cell_Mem_Count : Known A0 num Try.prog [] := known_nil
theorem s_cell_Mem_Count : S 24 F06.c_cell_Mem_Count := func_sound k_cell_Mem_Count Try.func24 chk_cell_Mem_Count
theorem m_cell_Mem_Count : Mono (F06.c_cell_Mem_Count (X := Ob)) := amFunc_mono (fun g f h => (k_cell_Mem_Count g f h).2.2) _
theorem k_cell_Mem_Last : Known A0 num Try.prog [] := known_nil
theorem s_cell_Mem_Last : S 21 F06.c_cell_Mem_Last := func_sound k_cell_Mem_Last Try.func21 chk_cell_Mem_Last
theorem m_cell_Mem_Last : Mono (F06.c_cell_Mem_Last (X := Ob)) := amFunc_mono (fun g f h => (k_cell_Mem_Last g f h).2.2) _
theorem k_slices_Equal_uint64 : Known A0 num Try.prog [] := known_nil
theorem s_slices_Equal_uint64 : S 51 F06.c_slices_Equal_uint64 := func_sound k_slices_Equal_uint64 Try.func51 chk_slices_Equal_uint64
theorem m_slices_Equal_uint64 : Mono (F06.c_slices_Equal_uint64 (X := Ob)) := amFunc_mono (fun g f h => (k_slices_Equal_uint64 g f h).2.2) _
theorem k_ref06_New : Known A0 num Try.prog [] := known_nil
theorem s_ref06_New : S 45 F06.c_ref06_New := func_sound k_ref06_New Try.func45 chk_ref06_New
theorem m_ref06_New : Mono (F06.c_ref06_New (X := Ob)) := amFunc_mono (fun g f h => (k_ref06_New g f h).2.2) _
theorem k_ref06_there : Known A0 num Try.prog [] := known_nil
theorem s_ref06_there : S 54 F06.c_ref06_there := func_sound k_ref06_there Try.func54 chk_ref06_there
theorem m_ref06_there : Mono (F06.c_ref06_there (X := Ob)) := amFunc_mono (fun g f h => (k_ref06_there g f h).2.2) _
theorem k_ref06_Load : Known A0 num Try.prog [(72, F06.c_ref06_there)] := known_cons ok_ref06_there s_ref06_there m_ref06_there (known_nil)
theorem s_ref06_Load : S 46 F06.c_ref06_Load := func_sound k_ref06_Load Try.func46 chk_ref06_Load
theorem m_ref06_Load : Mono (F06.c_ref06_Load (X := Ob)) := amFunc_mono (fun g f h => (k_ref06_Load g f h).2.2) _
theorem k_ref06_with : Known A0 num Try.prog [] := known_nil
theorem s_ref06_with : S 55 F06.c_ref06_with := func_sound k_ref06_with Try.func55 chk_ref06_with
theorem m_ref06_with : Mono (F06.c_ref06_with (X := Ob)) := amFunc_mono (fun g f h => (k_ref06_with g f h).2.2) _
theorem k_ref06_Store : Known A0 num Try.prog [(72, F06.c_ref06_there), (73, F06.c_ref06_with)] := known_cons ok_ref06_there s_ref06_there m_ref06_there (known_cons ok_ref06_with s_ref06_with m_ref06_with (known_nil))
theorem s_ref06_Store : S 47 F06.c_ref06_Store := func_sound k_ref06_Store Try.func47 chk_ref06_Store
theorem m_ref06_Store : Mono (F06.c_ref06_Store (X := Ob)) := amFunc_mono (fun g f h => (k_ref06_Store g f h).2.2) _
theorem k_ref06_CAS : Known A0 num Try.prog [(72, F06.c_ref06_there), (73, F06.c_ref06_with)] := known_cons ok_ref06_there s_ref06_there m_ref06_there (known_cons ok_ref06_with s_ref06_with m_ref06_with (known_nil))
theorem s_ref06_CAS : S 48 F06.c_ref06_CAS := func_sound k_ref06_CAS Try.func48 chk_ref06_CAS
theorem m_ref06_CAS : Mono (F06.c_ref06_CAS (X := Ob)) := amFunc_mono (fun g f h => (k_ref06_CAS g f h).2.2) _
theorem k_ref06_Add : Known A0 num Try.prog [(72, F06.c_ref06_there), (73, F06.c_ref06_with)] := known_cons ok_ref06_there s_ref06_there m_ref06_there (known_cons ok_ref06_with s_ref06_with m_ref06_with (known_nil))
theorem s_ref06_Add : S 49 F06.c_ref06_Add := func_sound k_ref06_Add Try.func49 chk_ref06_Add
theorem m_ref06_Add : Mono (F06.c_ref06_Add (X := Ob)) := amFunc_mono (fun g f h => (k_ref06_Add g f h).2.2) _
theorem s_worksG : S 12 (pureF F06.worksG) := lift_sound F06.works_lift s_law06_works
theorem e_new : S 8 F06.newF := fold_sound F06.new_fold s_cell_New
theorem f_new : Mono F06.newF := F06.new_fold.mono
theorem e_Mem_Len : S 19 (memF fun s rest => (F06.lenAsk s rest).map fun v => (v, s)) := fold_sound F06.len_fold (unf_sound plM_ok s_cell_Mem_Len)
theorem f_Mem_Len : Mono (memF fun s rest => (F06.lenAsk s rest).map fun v => (v, s)) := F06.len_fold.mono
theorem e_Mem_Ops : S 29 (memF fun s rest => (F06.opsAsk s rest).map fun v => (v, s)) := fold_sound F06.ops_fold (unf_sound plM_ok s_cell_Mem_Ops)
theorem f_Mem_Ops : Mono (memF fun s rest => (F06.opsAsk s rest).map fun v => (v, s)) := F06.ops_fold.mono
theorem e_Mem_Count : S 24 (memF fun s rest => (F06.countAsk s rest).map fun v => (v, s)) := fold_sound F06.count_fold (unf_sound plM_ok s_cell_Mem_Count)
theorem f_Mem_Count : Mono (memF fun s rest => (F06.countAsk s rest).map fun v => (v, s)) := F06.count_fold.mono
theorem e_Mem_Last : S 21 (memF fun s rest => (F06.lastAsk s rest).map fun v => (v, s)) := fold_sound F06.last_fold (unf_sound plM_ok s_cell_Mem_Last)
theorem f_Mem_Last : Mono (memF fun s rest => (F06.lastAsk s rest).map fun v => (v, s)) := F06.last_fold.mono
theorem e_Mem_Load : S 11 (memF F06.loadS) := fold_sound F06.load_fold (unf_sound plM_ok s_cell_Mem_Load)
theorem f_Mem_Load : Mono (memF F06.loadS) := F06.load_fold.mono
theorem e_Mem_Store : S 9 (memF F06.storeS) := fold_sound F06.store_fold (unf_sound plM_ok s_cell_Mem_Store)
theorem f_Mem_Store : Mono (memF F06.storeS) := F06.store_fold.mono
theorem e_Mem_CAS : S 10 (memF F06.casS) := fold_sound F06.cas_fold (unf_sound plM_ok s_cell_Mem_CAS)
theorem f_Mem_CAS : Mono (memF F06.casS) := F06.cas_fold.mono
theorem e_Mem_Add : S 28 (memF F06.addS) := fold_sound F06.add_fold (unf_sound plM_ok s_cell_Mem_Add)
theorem f_Mem_Add : Mono (memF F06.addS) := F06.add_fold.mono
theorem e_Mem_All : S 30 (F06.memNF F06.allS) := fold_sound F06.all_fold (unf_sound plM_ok s_cell_Mem_All)
theorem f_Mem_All : Mono (F06.memNF F06.allS) := F06.all_fold.mono
theorem e_Mem_Log : S 27 (F06.memNF F06.logS) := fold_sound F06.log_fold (unf_sound plM_ok s_cell_Mem_Log)
theorem f_Mem_Log : Mono (F06.memNF F06.logS) := F06.log_fold.mono
theorem e_Redo : S 17 (F06.redoF) := fold_sound F06.redo_fold (unf_sound plM_ok s_cell_Redo)
theorem f_Redo : Mono (F06.redoF) := F06.redo_fold.mono
theorem e_Mem_Copy : S 20 F06.copyF := fold_sound F06.copy_fold (fold_sound F06.mid_fold (unf_sound plM_ok s_cell_Mem_Copy))
theorem f_Mem_Copy : Mono F06.copyF := F06.copy_fold.mono
theorem k_does : Known A0 num Try.prog F06.Gdoes := known_cons ok_ref06_Do s_ref06_Do m_ref06_Do (known_cons ok_cell_Mem_Load e_Mem_Load f_Mem_Load (known_cons ok_cell_Mem_Store e_Mem_Store f_Mem_Store (known_cons ok_cell_Mem_CAS e_Mem_CAS f_Mem_CAS (known_cons ok_ref06_Swapped s_ref06_Swapped m_ref06_Swapped (known_cons ok_cell_Mem_Add e_Mem_Add f_Mem_Add (known_nil))))))
theorem e_does : S 14 (amFunc F06.Gdoes F06.law06_does) := func_sound k_does Try.func14 chk_law06_does
theorem k_sb : Known A0 num Try.prog F06.Gsb := known_cons ok_cell_Mem_Len e_Mem_Len f_Mem_Len (known_cons ok_cell_Mem_Ops e_Mem_Ops f_Mem_Ops (known_cons ok_cell_Mem_All e_Mem_All f_Mem_All (known_cons ok_ref06_All s_ref06_All m_ref06_All (known_cons ok_docs_SameCells s_docs_SameCells m_docs_SameCells (known_cons ok_cell_Mem_Log e_Mem_Log f_Mem_Log (known_cons ok_ref06_Log s_ref06_Log m_ref06_Log (known_cons ok_docs_SameLog s_docs_SameLog m_docs_SameLog (known_nil))))))))
theorem e_sb : S 18 (amFunc F06.Gsb F06.docs_SameBook) := func_sound k_sb Try.func18 chk_docs_SameBook
theorem k_red : Known A0 num Try.prog F06.Gred := known_cons ok_law06_works s_worksG F06.works_lift.mono (known_cons ok_cell_New e_new f_new (known_cons ok_ref06_NewBook s_ref06_NewBook m_ref06_NewBook (known_am ok_law06_does k_does e_does (known_cons ok_docs_Accesses s_docs_Accesses m_docs_Accesses (known_cons ok_ref06_Redo s_ref06_Redo m_ref06_Redo (known_cons ok_cell_Redo e_Redo f_Redo (known_am ok_docs_SameBook k_sb e_sb (known_nil))))))))

/-- Rows of structs with four numbers. -/
theorem row_acc {m : Mem Ob} {n : Nat} {t : TypeId} {cs : List AV} (h : IsA Try.prog m (n + 2) t cs) (hl : cs.length = 4) {fs : Array Field} (hu : Try.prog.underlying t = some (.struct fs)) {f0 f1 f2 f3 : Field} (g0 : fs[0]? = some f0) (g1 : fs[1]? = some f1) (g2 : fs[2]? = some f2) (g3 : fs[3]? = some f3)
    (t0 : f0.type = 3 ∧ f0.offset = 0) (t1 : f1.type = 3 ∧ f1.offset = 1) (t2 : f2.type = 22 ∧ f2.offset = 2) (t3 : f3.type = 22 ∧ f3.offset = 3) : ∃ e : Acc, cs = accC e := by
  have c3 : Try.prog.cellsOf 3 = 1 := by kernel_rfl
  have c22 : Try.prog.cellsOf 22 = 1 := by kernel_rfl
  obtain ⟨a, h0, _⟩ := h.intAt hu 0 g0 (by rw [t0.1]; exact Try.underlying3) (by rw [t0.1]; exact c3)
  obtain ⟨b, h1, _⟩ := h.intAt hu 1 g1 (by rw [t1.1]; exact Try.underlying3) (by rw [t1.1]; exact c3)
  obtain ⟨c, h2, _⟩ := h.intAt hu 2 g2 (by rw [t2.1]; exact Try.underlying22) (by rw [t2.1]; exact c22)
  obtain ⟨d, h3, _⟩ := h.intAt hu 3 g3 (by rw [t3.1]; exact Try.underlying22) (by rw [t3.1]; exact c22)
  rw [t0.2] at h0; rw [t1.2] at h1; rw [t2.2] at h2; rw [t3.2] at h3
  exact ⟨_, F06.acc_of hl h0 h1 h2 h3⟩
theorem sa_slice {m : Mem Ob} {n : Nat} {t e : TypeId} {a : AV} (h : IsV Try.prog m (n + 3) t a) (hk : Try.prog.underlying t = some (.slice e)) (hc : Try.prog.cellsOf e = 4) (hrow : ∀ cs : List AV, cs.length = 4 → IsA Try.prog m (n + 2) e cs → ∃ x : Acc, cs = accC x) : ∃ es : List Acc, F06.SA m false es a := by
  rcases h.sliceV hk with rfl | ⟨i, len, cap, rfl, _, _, _, hl⟩
  · exact ⟨[], Sl.nil⟩
  · obtain ⟨es, _, h⟩ := F06.sa_arg (m := m) (i := i) (len := len) (cap := cap) (fun h0 => by
      obtain ⟨l, h2, h3, h4⟩ := hl h0
      rw [hc] at h2 h3 h4
      exact ⟨l, h2, h3, fun k hk => hrow _ (by rw [List.length_take, List.length_drop]; omega) (h4 k hk)⟩)
    exact ⟨es, h⟩
end Go.Proofs.Ytldpldoehjpnaaa
