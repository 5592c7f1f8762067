import Derived.Test.YtimgbjimonmkdaaXS10
import Derived.Test.YtimgbjimonmkdaaXG23
import Derived.Test.YtimgbjimonmkdaaXG24
set_option linter.unusedSimpArgs false
set_option linter.unusedVariables false
namespace Go.Proofs.Ytimgbjimonmkdaa
open Go.Am
abbrev Ob := Go.Am.Ob
def A0 : AbsSem Ob := AbsOf num concM
abbrev S (k : Nat) (f : AFun Ob) : Prop := Sound A0 num Try.prog k f
theorem k_conf_within : Known A0 num Try.prog [] := known_nil
theorem s_conf_within : S 65 F10.c_conf_within := func_sound k_conf_within Try.func65 chk_conf_within
theorem m_conf_within : Mono (F10.c_conf_within (X := Ob)) := amFunc_mono (fun g f h => (k_conf_within g f h).2.2) _
theorem k_conf_Config_Right : Known A0 num Try.prog [(176, F10.c_conf_within)] := known_cons ok_conf_within s_conf_within m_conf_within (known_nil)
theorem s_conf_Config_Right : S 36 F10.c_conf_Config_Right := func_sound k_conf_Config_Right Try.func36 chk_conf_Config_Right
theorem m_conf_Config_Right : Mono (F10.c_conf_Config_Right (X := Ob)) := amFunc_mono (fun g f h => (k_conf_Config_Right g f h).2.2) _
theorem k_conf_Config_Cells : Known A0 num Try.prog [(157, F10.c_conf_Config_Right)] := known_cons ok_conf_Config_Right s_conf_Config_Right m_conf_Config_Right (known_nil)
theorem s_conf_Config_Cells : S 35 F10.c_conf_Config_Cells := func_sound k_conf_Config_Cells Try.func35 chk_conf_Config_Cells
theorem m_conf_Config_Cells : Mono (F10.c_conf_Config_Cells (X := Ob)) := amFunc_mono (fun g f h => (k_conf_Config_Cells g f h).2.2) _
theorem k_cell_New : Known A0 num Try.prog [] := known_nil
theorem s_cell_New : S 21 F10.c_cell_New := func_sound k_cell_New Try.func21 chk_cell_New
theorem m_cell_New : Mono (F10.c_cell_New (X := Ob)) := amFunc_mono (fun g f h => (k_cell_New g f h).2.2) _
theorem k_conf_own_at : Known A0 num Try.prog [(157, F10.c_conf_Config_Right), (176, F10.c_conf_within)] := known_cons ok_conf_Config_Right s_conf_Config_Right m_conf_Config_Right (known_cons ok_conf_within s_conf_within m_conf_within (known_nil))
theorem s_conf_own_at : S 66 F10.c_conf_own_at := func_sound k_conf_own_at Try.func66 chk_conf_own_at
theorem m_conf_own_at : Mono (F10.c_conf_own_at (X := Ob)) := amFunc_mono (fun g f h => (k_conf_own_at g f h).2.2) _
theorem k_conf_Config_Slot : Known A0 num Try.prog [(157, F10.c_conf_Config_Right), (177, F10.c_conf_own_at)] := known_cons ok_conf_Config_Right s_conf_Config_Right m_conf_Config_Right (known_cons ok_conf_own_at s_conf_own_at m_conf_own_at (known_nil))
theorem s_conf_Config_Slot : S 39 F10.c_conf_Config_Slot := func_sound k_conf_Config_Slot Try.func39 chk_conf_Config_Slot
theorem m_conf_Config_Slot : Mono (F10.c_conf_Config_Slot (X := Ob)) := amFunc_mono (fun g f h => (k_conf_Config_Slot g f h).2.2) _
theorem k_cell_Mem_there : Known A0 num Try.prog [] := known_nil
theorem s_cell_Mem_there : S 74 F10.c_cell_Mem_there := func_sound k_cell_Mem_there Try.func74 chk_cell_Mem_there
theorem m_cell_Mem_there : Mono (F10.c_cell_Mem_there (X := Ob)) := amFunc_mono (fun g f h => (k_cell_Mem_there g f h).2.2) _
theorem k_cell_counts_note : Known A0 num Try.prog [] := known_nil
theorem s_cell_counts_note : S 75 F10.c_cell_counts_note := func_sound k_cell_counts_note Try.func75 chk_cell_counts_note
theorem m_cell_counts_note : Mono (F10.c_cell_counts_note (X := Ob)) := amFunc_mono (fun g f h => (k_cell_counts_note g f h).2.2) _
theorem k_cell_Mem_Store_1 : Known A0 num Try.prog [] := known_nil
theorem s_cell_Mem_Store_1 : S 62 F10.c_cell_Mem_Store_1 := func_sound k_cell_Mem_Store_1 Try.func62 chk_cell_Mem_Store_1
theorem m_cell_Mem_Store_1 : Mono (F10.c_cell_Mem_Store_1 (X := Ob)) := amFunc_mono (fun g f h => (k_cell_Mem_Store_1 g f h).2.2) _
theorem k_cell_Mem_CAS_1 : Known A0 num Try.prog [] := known_nil
theorem s_cell_Mem_CAS_1 : S 77 F10.c_cell_Mem_CAS_1 := func_sound k_cell_Mem_CAS_1 Try.func77 chk_cell_Mem_CAS_1
theorem m_cell_Mem_CAS_1 : Mono (F10.c_cell_Mem_CAS_1 (X := Ob)) := amFunc_mono (fun g f h => (k_cell_Mem_CAS_1 g f h).2.2) _
theorem k_cell_Mem_Load_1 : Known A0 num Try.prog [] := known_nil
theorem s_cell_Mem_Load_1 : S 68 F10.c_cell_Mem_Load_1 := func_sound k_cell_Mem_Load_1 Try.func68 chk_cell_Mem_Load_1
theorem m_cell_Mem_Load_1 : Mono (F10.c_cell_Mem_Load_1 (X := Ob)) := amFunc_mono (fun g f h => (k_cell_Mem_Load_1 g f h).2.2) _
theorem k_cell_Mem_access : Known A0 num Try.prog [(56, F10.c_cell_Mem_there), (71, F10.c_cell_counts_note), (49, F10.c_cell_Mem_Store_1), (51, F10.c_cell_Mem_CAS_1), (52, F10.c_cell_Mem_Load_1)] := known_cons ok_cell_Mem_there s_cell_Mem_there m_cell_Mem_there (known_cons ok_cell_counts_note s_cell_counts_note m_cell_counts_note (known_cons ok_cell_Mem_Store_1 s_cell_Mem_Store_1 m_cell_Mem_Store_1 (known_cons ok_cell_Mem_CAS_1 s_cell_Mem_CAS_1 m_cell_Mem_CAS_1 (known_cons ok_cell_Mem_Load_1 s_cell_Mem_Load_1 m_cell_Mem_Load_1 (known_nil)))))
theorem s_cell_Mem_access : S 61 F10.c_cell_Mem_access := func_sound k_cell_Mem_access Try.func61 chk_cell_Mem_access
theorem m_cell_Mem_access : Mono (F10.c_cell_Mem_access (X := Ob)) := amFunc_mono (fun g f h => (k_cell_Mem_access g f h).2.2) _
theorem k_cell_Mem_Store : Known A0 num Try.prog [(50, F10.c_cell_Mem_access), (49, F10.c_cell_Mem_Store_1)] := known_cons ok_cell_Mem_access s_cell_Mem_access m_cell_Mem_access (known_cons ok_cell_Mem_Store_1 s_cell_Mem_Store_1 m_cell_Mem_Store_1 (known_nil))
theorem s_cell_Mem_Store : S 31 F10.c_cell_Mem_Store := func_sound k_cell_Mem_Store Try.func31 chk_cell_Mem_Store
theorem m_cell_Mem_Store : Mono (F10.c_cell_Mem_Store (X := Ob)) := amFunc_mono (fun g f h => (k_cell_Mem_Store g f h).2.2) _
theorem k_conf_Config_Word : Known A0 num Try.prog [(177, F10.c_conf_own_at)] := known_cons ok_conf_own_at s_conf_own_at m_conf_own_at (known_nil)
theorem s_conf_Config_Word : S 38 F10.c_conf_Config_Word := func_sound k_conf_Config_Word Try.func38 chk_conf_Config_Word
theorem m_conf_Config_Word : Mono (F10.c_conf_Config_Word (X := Ob)) := amFunc_mono (fun g f h => (k_conf_Config_Word g f h).2.2) _
theorem k_law10_rings : Known A0 num Try.prog [(156, F10.c_conf_Config_Cells), (21, F10.c_cell_New), (160, F10.c_conf_Config_Slot), (22, F10.c_cell_Mem_Store), (159, F10.c_conf_Config_Word)] := known_cons ok_conf_Config_Cells s_conf_Config_Cells m_conf_Config_Cells (known_cons ok_cell_New s_cell_New m_cell_New (known_cons ok_conf_Config_Slot s_conf_Config_Slot m_conf_Config_Slot (known_cons ok_cell_Mem_Store s_cell_Mem_Store m_cell_Mem_Store (known_cons ok_conf_Config_Word s_conf_Config_Word m_conf_Config_Word (known_nil)))))
theorem s_law10_rings : S 33 F10.c_law10_rings := func_sound k_law10_rings Try.func33 chk_law10_rings
theorem m_law10_rings : Mono (F10.c_law10_rings (X := Ob)) := amFunc_mono (fun g f h => (k_law10_rings g f h).2.2) _
theorem k_get_New : Known A0 num Try.prog [(159, F10.c_conf_Config_Word)] := known_cons ok_conf_Config_Word s_conf_Config_Word m_conf_Config_Word (known_nil)
theorem s_get_New : S 14 F10.c_get_New := func_sound k_get_New Try.func14 chk_get_New
theorem m_get_New : Mono (F10.c_get_New (X := Ob)) := amFunc_mono (fun g f h => (k_get_New g f h).2.2) _
theorem k_get_Get_Done : Known A0 num Try.prog [] := known_nil
theorem s_get_Get_Done : S 15 F10.c_get_Get_Done := func_sound k_get_Get_Done Try.func15 chk_get_Get_Done
theorem m_get_Get_Done : Mono (F10.c_get_Get_Done (X := Ob)) := amFunc_mono (fun g f h => (k_get_Get_Done g f h).2.2) _
theorem k_cell_Mem_Load : Known A0 num Try.prog [(50, F10.c_cell_Mem_access), (52, F10.c_cell_Mem_Load_1)] := known_cons ok_cell_Mem_access s_cell_Mem_access m_cell_Mem_access (known_cons ok_cell_Mem_Load_1 s_cell_Mem_Load_1 m_cell_Mem_Load_1 (known_nil))
theorem s_cell_Mem_Load : S 46 F10.c_cell_Mem_Load := func_sound k_cell_Mem_Load Try.func46 chk_cell_Mem_Load
theorem m_cell_Mem_Load : Mono (F10.c_cell_Mem_Load (X := Ob)) := amFunc_mono (fun g f h => (k_cell_Mem_Load g f h).2.2) _
theorem k_word_Tail : Known A0 num Try.prog [] := known_nil
theorem s_word_Tail : S 76 F10.c_word_Tail := func_sound k_word_Tail Try.func76 chk_word_Tail
theorem m_word_Tail : Mono (F10.c_word_Tail (X := Ob)) := amFunc_mono (fun g f h => (k_word_Tail g f h).2.2) _
theorem k_word_Head : Known A0 num Try.prog [] := known_nil
theorem s_word_Head : S 70 F10.c_word_Head := func_sound k_word_Head Try.func70 chk_word_Head
theorem m_word_Head : Mono (F10.c_word_Head (X := Ob)) := amFunc_mono (fun g f h => (k_word_Head g f h).2.2) _
theorem k_word_Len : Known A0 num Try.prog [(182, F10.c_word_Tail), (179, F10.c_word_Head)] := known_cons ok_word_Tail s_word_Tail m_word_Tail (known_cons ok_word_Head s_word_Head m_word_Head (known_nil))
theorem s_word_Len : S 69 F10.c_word_Len := func_sound k_word_Len Try.func69 chk_word_Len
theorem m_word_Len : Mono (F10.c_word_Len (X := Ob)) := amFunc_mono (fun g f h => (k_word_Len g f h).2.2) _
theorem k_get_Get_look : Known A0 num Try.prog [(159, F10.c_conf_Config_Word), (24, F10.c_cell_Mem_Load), (178, F10.c_word_Len)] := known_cons ok_conf_Config_Word s_conf_Config_Word m_conf_Config_Word (known_cons ok_cell_Mem_Load s_cell_Mem_Load m_cell_Mem_Load (known_cons ok_word_Len s_word_Len m_word_Len (known_nil)))
theorem s_get_Get_look : S 47 F10.c_get_Get_look := func_sound k_get_Get_look Try.func47 chk_get_Get_look
theorem m_get_Get_look : Mono (F10.c_get_Get_look (X := Ob)) := amFunc_mono (fun g f h => (k_get_Get_look g f h).2.2) _
theorem k_get_Get_copy : Known A0 num Try.prog [(179, F10.c_word_Head), (160, F10.c_conf_Config_Slot), (24, F10.c_cell_Mem_Load)] := known_cons ok_word_Head s_word_Head m_word_Head (known_cons ok_conf_Config_Slot s_conf_Config_Slot m_conf_Config_Slot (known_cons ok_cell_Mem_Load s_cell_Mem_Load m_cell_Mem_Load (known_nil)))
theorem s_get_Get_copy : S 48 F10.c_get_Get_copy := func_sound k_get_Get_copy Try.func48 chk_get_Get_copy
theorem m_get_Get_copy : Mono (F10.c_get_Get_copy (X := Ob)) := amFunc_mono (fun g f h => (k_get_Get_copy g f h).2.2) _
theorem k_word_Pack : Known A0 num Try.prog [] := known_nil
theorem s_word_Pack : S 78 F10.c_word_Pack := func_sound k_word_Pack Try.func78 chk_word_Pack
theorem m_word_Pack : Mono (F10.c_word_Pack (X := Ob)) := amFunc_mono (fun g f h => (k_word_Pack g f h).2.2) _
theorem k_word_Gain : Known A0 num Try.prog [(179, F10.c_word_Head), (182, F10.c_word_Tail), (183, F10.c_word_Pack)] := known_cons ok_word_Head s_word_Head m_word_Head (known_cons ok_word_Tail s_word_Tail m_word_Tail (known_cons ok_word_Pack s_word_Pack m_word_Pack (known_nil)))
theorem s_word_Gain : S 72 F10.c_word_Gain := func_sound k_word_Gain Try.func72 chk_word_Gain
theorem m_word_Gain : Mono (F10.c_word_Gain (X := Ob)) := amFunc_mono (fun g f h => (k_word_Gain g f h).2.2) _
theorem k_cell_Mem_CAS : Known A0 num Try.prog [(50, F10.c_cell_Mem_access), (51, F10.c_cell_Mem_CAS_1)] := known_cons ok_cell_Mem_access s_cell_Mem_access m_cell_Mem_access (known_cons ok_cell_Mem_CAS_1 s_cell_Mem_CAS_1 m_cell_Mem_CAS_1 (known_nil))
theorem s_cell_Mem_CAS : S 71 F10.c_cell_Mem_CAS := func_sound k_cell_Mem_CAS Try.func71 chk_cell_Mem_CAS
theorem m_cell_Mem_CAS : Mono (F10.c_cell_Mem_CAS (X := Ob)) := amFunc_mono (fun g f h => (k_cell_Mem_CAS g f h).2.2) _
theorem k_get_Get_gain : Known A0 num Try.prog [(159, F10.c_conf_Config_Word), (180, F10.c_word_Gain), (23, F10.c_cell_Mem_CAS)] := known_cons ok_conf_Config_Word s_conf_Config_Word m_conf_Config_Word (known_cons ok_word_Gain s_word_Gain m_word_Gain (known_cons ok_cell_Mem_CAS s_cell_Mem_CAS m_cell_Mem_CAS (known_nil)))
theorem s_get_Get_gain : S 49 F10.c_get_Get_gain := func_sound k_get_Get_gain Try.func49 chk_get_Get_gain
theorem m_get_Get_gain : Mono (F10.c_get_Get_gain (X := Ob)) := amFunc_mono (fun g f h => (k_get_Get_gain g f h).2.2) _
theorem k_get_Get_Step : Known A0 num Try.prog [(138, F10.c_get_Get_Done), (166, F10.c_get_Get_look), (167, F10.c_get_Get_copy), (168, F10.c_get_Get_gain), (49, F10.c_cell_Mem_Store_1), (51, F10.c_cell_Mem_CAS_1), (52, F10.c_cell_Mem_Load_1)] := known_cons ok_get_Get_Done s_get_Get_Done m_get_Get_Done (known_cons ok_get_Get_look s_get_Get_look m_get_Get_look (known_cons ok_get_Get_copy s_get_Get_copy m_get_Get_copy (known_cons ok_get_Get_gain s_get_Get_gain m_get_Get_gain (known_cons ok_cell_Mem_Store_1 s_cell_Mem_Store_1 m_cell_Mem_Store_1 (known_cons ok_cell_Mem_CAS_1 s_cell_Mem_CAS_1 m_cell_Mem_CAS_1 (known_cons ok_cell_Mem_Load_1 s_cell_Mem_Load_1 m_cell_Mem_Load_1 (known_nil)))))))
theorem s_get_Get_Step : S 17 F10.c_get_Get_Step := func_sound k_get_Get_Step Try.func17 chk_get_Get_Step
theorem m_get_Get_Step : Mono (F10.c_get_Get_Step (X := Ob)) := amFunc_mono (fun g f h => (k_get_Get_Step g f h).2.2) _
theorem k_get_Get_Got : Known A0 num Try.prog [] := known_nil
theorem s_get_Get_Got : S 19 F10.c_get_Get_Got := func_sound k_get_Get_Got Try.func19 chk_get_Get_Got
theorem m_get_Get_Got : Mono (F10.c_get_Get_Got (X := Ob)) := amFunc_mono (fun g f h => (k_get_Get_Got g f h).2.2) _
theorem k_slices_Clone_uint64 : Known A0 num Try.prog [] := known_nil
theorem s_slices_Clone_uint64 : S 67 F10.c_slices_Clone_uint64 := func_sound k_slices_Clone_uint64 Try.func67 chk_slices_Clone_uint64
theorem m_slices_Clone_uint64 : Mono (F10.c_slices_Clone_uint64 (X := Ob)) := amFunc_mono (fun g f h => (k_slices_Clone_uint64 g f h).2.2) _
theorem k_cell_Mem_All : Known A0 num Try.prog [(61, F10.c_slices_Clone_uint64)] := known_cons ok_slices_Clone_uint64 s_slices_Clone_uint64 m_slices_Clone_uint64 (known_nil)
theorem s_cell_Mem_All : S 45 F10.c_cell_Mem_All := func_sound k_cell_Mem_All Try.func45 chk_cell_Mem_All
theorem m_cell_Mem_All : Mono (F10.c_cell_Mem_All (X := Ob)) := amFunc_mono (fun g f h => (k_cell_Mem_All g f h).2.2) _
theorem k_docs_Ring : Known A0 num Try.prog [(47, F10.c_cell_Mem_All), (156, F10.c_conf_Config_Cells), (159, F10.c_conf_Config_Word), (160, F10.c_conf_Config_Slot)] := known_cons ok_cell_Mem_All s_cell_Mem_All m_cell_Mem_All (known_cons ok_conf_Config_Cells s_conf_Config_Cells m_conf_Config_Cells (known_cons ok_conf_Config_Word s_conf_Config_Word m_conf_Config_Word (known_cons ok_conf_Config_Slot s_conf_Config_Slot m_conf_Config_Slot (known_nil))))
theorem s_docs_Ring : S 13 F10.c_docs_Ring := func_sound k_docs_Ring Try.func13 chk_docs_Ring
theorem m_docs_Ring : Mono (F10.c_docs_Ring (X := Ob)) := amFunc_mono (fun g f h => (k_docs_Ring g f h).2.2) _
theorem k_kit_SameInts : Known A0 num Try.prog [] := known_nil
theorem s_kit_SameInts : S 18 F10.c_kit_SameInts := func_sound k_kit_SameInts Try.func18 chk_kit_SameInts
theorem m_kit_SameInts : Mono (F10.c_kit_SameInts (X := Ob)) := amFunc_mono (fun g f h => (k_kit_SameInts g f h).2.2) _
theorem k_docs_Thief : Known A0 num Try.prog [(136, F10.c_docs_Ring), (159, F10.c_conf_Config_Word), (24, F10.c_cell_Mem_Load), (22, F10.c_cell_Mem_Store)] := known_cons ok_docs_Ring s_docs_Ring m_docs_Ring (known_cons ok_conf_Config_Word s_conf_Config_Word m_conf_Config_Word (known_cons ok_cell_Mem_Load s_cell_Mem_Load m_cell_Mem_Load (known_cons ok_cell_Mem_Store s_cell_Mem_Store m_cell_Mem_Store (known_nil))))
theorem s_docs_Thief : S 16 F10.c_docs_Thief := func_sound k_docs_Thief Try.func16 chk_docs_Thief
theorem m_docs_Thief : Mono (F10.c_docs_Thief (X := Ob)) := amFunc_mono (fun g f h => (k_docs_Thief g f h).2.2) _
theorem k_get_Get_Tries : Known A0 num Try.prog [] := known_nil
theorem s_get_Get_Tries : S 20 F10.c_get_Get_Tries := func_sound k_get_Get_Tries Try.func20 chk_get_Get_Tries
theorem m_get_Get_Tries : Mono (F10.c_get_Get_Tries (X := Ob)) := amFunc_mono (fun g f h => (k_get_Get_Tries g f h).2.2) _
theorem k_get_All : Known A0 num Try.prog [(137, F10.c_get_New), (140, F10.c_get_Get_Step), (141, F10.c_get_Get_Got)] := known_cons ok_get_New s_get_New m_get_New (known_cons ok_get_Get_Step s_get_Get_Step m_get_Get_Step (known_cons ok_get_Get_Got s_get_Get_Got m_get_Get_Got (known_nil)))
theorem s_get_All : S 24 F10.c_get_All := func_sound k_get_All Try.func24 chk_get_All
theorem m_get_All : Mono (F10.c_get_All (X := Ob)) := amFunc_mono (fun g f h => (k_get_All g f h).2.2) _
theorem k_law10_works : Known A0 num Try.prog [(155, F10.c_law10_rings), (137, F10.c_get_New), (140, F10.c_get_Get_Step), (141, F10.c_get_Get_Got), (136, F10.c_docs_Ring), (84, F10.c_kit_SameInts), (139, F10.c_docs_Thief), (142, F10.c_get_Get_Tries), (145, F10.c_get_All)] := known_cons ok_law10_rings s_law10_rings m_law10_rings (known_cons ok_get_New s_get_New m_get_New (known_cons ok_get_Get_Step s_get_Get_Step m_get_Get_Step (known_cons ok_get_Get_Got s_get_Get_Got m_get_Get_Got (known_cons ok_docs_Ring s_docs_Ring m_docs_Ring (known_cons ok_kit_SameInts s_kit_SameInts m_kit_SameInts (known_cons ok_docs_Thief s_docs_Thief m_docs_Thief (known_cons ok_get_Get_Tries s_get_Get_Tries m_get_Get_Tries (known_cons ok_get_All s_get_All m_get_All (known_nil)))))))))
theorem s_law10_works : S 8 F10.c_law10_works := func_sound k_law10_works Try.func8 chk_law10_works
theorem k_ref06_New : Known A0 num Try.prog [] := known_nil
theorem s_ref06_New : S 34 F10.c_ref06_New := func_sound k_ref06_New Try.func34 chk_ref06_New
theorem m_ref06_New : Mono (F10.c_ref06_New (X := Ob)) := amFunc_mono (fun g f h => (k_ref06_New g f h).2.2) _
theorem k_ref06_there : Known A0 num Try.prog [] := known_nil
theorem s_ref06_there : S 63 F10.c_ref06_there := func_sound k_ref06_there Try.func63 chk_ref06_there
theorem m_ref06_there : Mono (F10.c_ref06_there (X := Ob)) := amFunc_mono (fun g f h => (k_ref06_there g f h).2.2) _
theorem k_ref06_with : Known A0 num Try.prog [] := known_nil
theorem s_ref06_with : S 64 F10.c_ref06_with := func_sound k_ref06_with Try.func64 chk_ref06_with
theorem m_ref06_with : Mono (F10.c_ref06_with (X := Ob)) := amFunc_mono (fun g f h => (k_ref06_with g f h).2.2) _
theorem k_ref06_Store : Known A0 num Try.prog [(72, F10.c_ref06_there), (73, F10.c_ref06_with)] := known_cons ok_ref06_there s_ref06_there m_ref06_there (known_cons ok_ref06_with s_ref06_with m_ref06_with (known_nil))
theorem s_ref06_Store : S 32 F10.c_ref06_Store := func_sound k_ref06_Store Try.func32 chk_ref06_Store
theorem m_ref06_Store : Mono (F10.c_ref06_Store (X := Ob)) := amFunc_mono (fun g f h => (k_ref06_Store g f h).2.2) _
theorem k_docs_byteAt : Known A0 num Try.prog [] := known_nil
theorem s_docs_byteAt : S 37 F10.c_docs_byteAt := func_sound k_docs_byteAt Try.func37 chk_docs_byteAt
theorem m_docs_byteAt : Mono (F10.c_docs_byteAt (X := Ob)) := amFunc_mono (fun g f h => (k_docs_byteAt g f h).2.2) _
theorem k_conf_Config_Next : Known A0 num Try.prog [(177, F10.c_conf_own_at)] := known_cons ok_conf_own_at s_conf_own_at m_conf_own_at (known_nil)
theorem s_conf_Config_Next : S 40 F10.c_conf_Config_Next := func_sound k_conf_Config_Next Try.func40 chk_conf_Config_Next
theorem m_conf_Config_Next : Mono (F10.c_conf_Config_Next (X := Ob)) := amFunc_mono (fun g f h => (k_conf_Config_Next g f h).2.2) _
theorem k_conf_Config_Stat : Known A0 num Try.prog [(177, F10.c_conf_own_at)] := known_cons ok_conf_own_at s_conf_own_at m_conf_own_at (known_nil)
theorem s_conf_Config_Stat : S 41 F10.c_conf_Config_Stat := func_sound k_conf_Config_Stat Try.func41 chk_conf_Config_Stat
theorem m_conf_Config_Stat : Mono (F10.c_conf_Config_Stat (X := Ob)) := amFunc_mono (fun g f h => (k_conf_Config_Stat g f h).2.2) _
theorem k_conf_Config_Tick : Known A0 num Try.prog [(177, F10.c_conf_own_at)] := known_cons ok_conf_own_at s_conf_own_at m_conf_own_at (known_nil)
theorem s_conf_Config_Tick : S 42 F10.c_conf_Config_Tick := func_sound k_conf_Config_Tick Try.func42 chk_conf_Config_Tick
theorem m_conf_Config_Tick : Mono (F10.c_conf_Config_Tick (X := Ob)) := amFunc_mono (fun g f h => (k_conf_Config_Tick g f h).2.2) _
theorem k_conf_Config_Sys : Known A0 num Try.prog [(177, F10.c_conf_own_at)] := known_cons ok_conf_own_at s_conf_own_at m_conf_own_at (known_nil)
theorem s_conf_Config_Sys : S 43 F10.c_conf_Config_Sys := func_sound k_conf_Config_Sys Try.func43 chk_conf_Config_Sys
theorem m_conf_Config_Sys : Mono (F10.c_conf_Config_Sys (X := Ob)) := amFunc_mono (fun g f h => (k_conf_Config_Sys g f h).2.2) _
theorem k_conf_Config_Flag : Known A0 num Try.prog [(177, F10.c_conf_own_at)] := known_cons ok_conf_own_at s_conf_own_at m_conf_own_at (known_nil)
theorem s_conf_Config_Flag : S 44 F10.c_conf_Config_Flag := func_sound k_conf_Config_Flag Try.func44 chk_conf_Config_Flag
theorem m_conf_Config_Flag : Mono (F10.c_conf_Config_Flag (X := Ob)) := amFunc_mono (fun g f h => (k_conf_Config_Flag g f h).2.2) _
theorem k_docs_Filled : Known A0 num Try.prog [(156, F10.c_conf_Config_Cells), (157, F10.c_conf_Config_Right), (158, F10.c_docs_byteAt), (159, F10.c_conf_Config_Word), (160, F10.c_conf_Config_Slot), (161, F10.c_conf_Config_Next), (162, F10.c_conf_Config_Stat), (163, F10.c_conf_Config_Tick), (164, F10.c_conf_Config_Sys), (165, F10.c_conf_Config_Flag)] := known_cons ok_conf_Config_Cells s_conf_Config_Cells m_conf_Config_Cells (known_cons ok_conf_Config_Right s_conf_Config_Right m_conf_Config_Right (known_cons ok_docs_byteAt s_docs_byteAt m_docs_byteAt (known_cons ok_conf_Config_Word s_conf_Config_Word m_conf_Config_Word (known_cons ok_conf_Config_Slot s_conf_Config_Slot m_conf_Config_Slot (known_cons ok_conf_Config_Next s_conf_Config_Next m_conf_Config_Next (known_cons ok_conf_Config_Stat s_conf_Config_Stat m_conf_Config_Stat (known_cons ok_conf_Config_Tick s_conf_Config_Tick m_conf_Config_Tick (known_cons ok_conf_Config_Sys s_conf_Config_Sys m_conf_Config_Sys (known_cons ok_conf_Config_Flag s_conf_Config_Flag m_conf_Config_Flag (known_nil))))))))))
theorem s_docs_Filled : S 12 F10.c_docs_Filled := func_sound k_docs_Filled Try.func12 chk_docs_Filled
theorem m_docs_Filled : Mono (F10.c_docs_Filled (X := Ob)) := amFunc_mono (fun g f h => (k_docs_Filled g f h).2.2) _
theorem k_cell_Mem_Len : Known A0 num Try.prog [] := known_nil
theorem s_cell_Mem_Len : S 50 F10.c_cell_Mem_Len := func_sound k_cell_Mem_Len Try.func50 chk_cell_Mem_Len
theorem k_cell_Mem_Ops : Known A0 num Try.prog [] := known_nil
theorem s_cell_Mem_Ops : S 23 F10.c_cell_Mem_Ops := func_sound k_cell_Mem_Ops Try.func23 chk_cell_Mem_Ops
theorem m_cell_Mem_Ops : Mono (F10.c_cell_Mem_Ops (X := Ob)) := amFunc_mono (fun g f h => (k_cell_Mem_Ops g f h).2.2) _
theorem k_docs_SameCells : Known A0 num Try.prog [] := known_nil
theorem s_docs_SameCells : S 51 F10.c_docs_SameCells := func_sound k_docs_SameCells Try.func51 chk_docs_SameCells
theorem m_docs_SameCells : Mono (F10.c_docs_SameCells (X := Ob)) := amFunc_mono (fun g f h => (k_docs_SameCells g f h).2.2) _
theorem k_ref05_Right : Known A0 num Try.prog [] := known_nil
theorem s_ref05_Right : S 73 F10.c_ref05_Right := func_sound k_ref05_Right Try.func73 chk_ref05_Right
theorem m_ref05_Right : Mono (F10.c_ref05_Right (X := Ob)) := amFunc_mono (fun g f h => (k_ref05_Right g f h).2.2) _
theorem k_ref09_There : Known A0 num Try.prog [(181, F10.c_ref05_Right)] := known_cons ok_ref05_Right s_ref05_Right m_ref05_Right (known_nil)
theorem s_ref09_There : S 52 F10.c_ref09_There := func_sound k_ref09_There Try.func52 chk_ref09_There
theorem m_ref09_There : Mono (F10.c_ref09_There (X := Ob)) := amFunc_mono (fun g f h => (k_ref09_There g f h).2.2) _
theorem k_ref10_New : Known A0 num Try.prog [(169, F10.c_ref09_There)] := known_cons ok_ref09_There s_ref09_There m_ref09_There (known_nil)
theorem s_ref10_New : S 28 F10.c_ref10_New := func_sound k_ref10_New Try.func28 chk_ref10_New
theorem m_ref10_New : Mono (F10.c_ref10_New (X := Ob)) := amFunc_mono (fun g f h => (k_ref10_New g f h).2.2) _
theorem k_ref09_Head : Known A0 num Try.prog [] := known_nil
theorem s_ref09_Head : S 53 F10.c_ref09_Head := func_sound k_ref09_Head Try.func53 chk_ref09_Head
theorem m_ref09_Head : Mono (F10.c_ref09_Head (X := Ob)) := amFunc_mono (fun g f h => (k_ref09_Head g f h).2.2) _
theorem k_ref09_Tail : Known A0 num Try.prog [] := known_nil
theorem s_ref09_Tail : S 54 F10.c_ref09_Tail := func_sound k_ref09_Tail Try.func54 chk_ref09_Tail
theorem m_ref09_Tail : Mono (F10.c_ref09_Tail (X := Ob)) := amFunc_mono (fun g f h => (k_ref09_Tail g f h).2.2) _
theorem k_ref09_Word : Known A0 num Try.prog [] := known_nil
theorem s_ref09_Word : S 56 F10.c_ref09_Word := func_sound k_ref09_Word Try.func56 chk_ref09_Word
theorem m_ref09_Word : Mono (F10.c_ref09_Word (X := Ob)) := amFunc_mono (fun g f h => (k_ref09_Word g f h).2.2) _
theorem k_ref06_Load : Known A0 num Try.prog [(72, F10.c_ref06_there)] := known_cons ok_ref06_there s_ref06_there m_ref06_there (known_nil)
theorem s_ref06_Load : S 55 F10.c_ref06_Load := func_sound k_ref06_Load Try.func55 chk_ref06_Load
theorem m_ref06_Load : Mono (F10.c_ref06_Load (X := Ob)) := amFunc_mono (fun g f h => (k_ref06_Load g f h).2.2) _
theorem k_ref09_Size : Known A0 num Try.prog [(171, F10.c_ref09_Tail), (170, F10.c_ref09_Head)] := known_cons ok_ref09_Tail s_ref09_Tail m_ref09_Tail (known_cons ok_ref09_Head s_ref09_Head m_ref09_Head (known_nil))
theorem s_ref09_Size : S 57 F10.c_ref09_Size := func_sound k_ref09_Size Try.func57 chk_ref09_Size
theorem m_ref09_Size : Mono (F10.c_ref09_Size (X := Ob)) := amFunc_mono (fun g f h => (k_ref09_Size g f h).2.2) _
theorem k_ref09_Slot : Known A0 num Try.prog [(172, F10.c_ref09_Word)] := known_cons ok_ref09_Word s_ref09_Word m_ref09_Word (known_nil)
theorem s_ref09_Slot : S 58 F10.c_ref09_Slot := func_sound k_ref09_Slot Try.func58 chk_ref09_Slot
theorem m_ref09_Slot : Mono (F10.c_ref09_Slot (X := Ob)) := amFunc_mono (fun g f h => (k_ref09_Slot g f h).2.2) _
theorem k_ref09_Pack : Known A0 num Try.prog [] := known_nil
theorem s_ref09_Pack : S 60 F10.c_ref09_Pack := func_sound k_ref09_Pack Try.func60 chk_ref09_Pack
theorem m_ref09_Pack : Mono (F10.c_ref09_Pack (X := Ob)) := amFunc_mono (fun g f h => (k_ref09_Pack g f h).2.2) _
theorem k_ref06_CAS : Known A0 num Try.prog [(72, F10.c_ref06_there), (73, F10.c_ref06_with)] := known_cons ok_ref06_there s_ref06_there m_ref06_there (known_cons ok_ref06_with s_ref06_with m_ref06_with (known_nil))
theorem s_ref06_CAS : S 59 F10.c_ref06_CAS := func_sound k_ref06_CAS Try.func59 chk_ref06_CAS
theorem m_ref06_CAS : Mono (F10.c_ref06_CAS (X := Ob)) := amFunc_mono (fun g f h => (k_ref06_CAS g f h).2.2) _
theorem k_get_Get_Hands : Known A0 num Try.prog [(141, F10.c_get_Get_Got)] := known_cons ok_get_Get_Got s_get_Get_Got m_get_Get_Got (known_nil)
theorem s_get_Get_Hands : S 22 F10.c_get_Get_Hands := func_sound k_get_Get_Hands Try.func22 chk_get_Get_Hands
theorem m_get_Get_Hands : Mono (F10.c_get_Get_Hands (X := Ob)) := amFunc_mono (fun g f h => (k_get_Get_Hands g f h).2.2) _
theorem k_docs_Config : Known A0 num Try.prog [] := known_nil
theorem s_docs_Config : S 26 F10.c_docs_Config := func_sound k_docs_Config Try.func26 chk_docs_Config
theorem m_docs_Config : Mono (F10.c_docs_Config (X := Ob)) := amFunc_mono (fun g f h => (k_docs_Config g f h).2.2) _
theorem k_kit_Pick : Known A0 num Try.prog [] := known_nil
theorem s_kit_Pick : S 10 F10.c_kit_Pick := func_sound k_kit_Pick Try.func10 chk_kit_Pick
theorem m_kit_Pick : Mono (F10.c_kit_Pick (X := Ob)) := amFunc_mono (fun g f h => (k_kit_Pick g f h).2.2) _
theorem k_docs_Made : Known A0 num Try.prog [(87, F10.c_kit_Pick)] := known_cons ok_kit_Pick s_kit_Pick m_kit_Pick (known_nil)
theorem s_docs_Made : S 9 F10.c_docs_Made := func_sound k_docs_Made Try.func9 chk_docs_Made
theorem m_docs_Made : Mono (F10.c_docs_Made (X := Ob)) := amFunc_mono (fun g f h => (k_docs_Made g f h).2.2) _
theorem s_worksG : S 8 (pureF F10.worksG) := lift_sound F10.works_lift s_law10_works
theorem e_new : S 21 F06.newF := fold_sound F06.new_fold s_cell_New
theorem f_new : Mono F06.newF := F06.new_fold.mono
def GA : List (Nat × AFun Ob) := [(56, F06.c_cell_Mem_there), (71, F06.c_cell_counts_note), (49, F06.c_cell_Mem_Store_1), (51, F06.c_cell_Mem_CAS_1), (52, F06.c_cell_Mem_Load_1)]
theorem e_Mem_Len : S 50 (memF fun s rest => (F06.lenAsk s rest).map fun v => (v, s)) := fold_sound F06.len_fold (unf_sound plM_ok s_cell_Mem_Len)
theorem f_Mem_Len : Mono (memF fun s rest => (F06.lenAsk s rest).map fun v => (v, s)) := F06.len_fold.mono
theorem e_Mem_Ops : S 23 (memF fun s rest => (F06.opsAsk s rest).map fun v => (v, s)) := fold_sound F06.ops_fold (unf_sound plM_ok s_cell_Mem_Ops)
theorem f_Mem_Ops : Mono (memF fun s rest => (F06.opsAsk s rest).map fun v => (v, s)) := F06.ops_fold.mono
theorem o_Mem_Load : Fold concM (unf 0 plM (amFunc [(50, amFunc GA F06.cell_Mem_access), (52, F06.c_cell_Mem_Load_1)] F06.cell_Mem_Load)) (memF F06.loadS) := F06.load_foldG (G := GA) rfl rfl rfl
theorem e_Mem_Load : S 46 (memF F06.loadS) := fold_sound o_Mem_Load (unf_sound plM_ok s_cell_Mem_Load)
theorem f_Mem_Load : Mono (memF F06.loadS) := o_Mem_Load.mono
theorem o_Mem_Store : Fold concM (unf 0 plM (amFunc [(50, amFunc GA F06.cell_Mem_access), (49, F06.c_cell_Mem_Store_1)] F06.cell_Mem_Store)) (memF F06.storeS) := F06.store_foldG (G := GA) rfl rfl rfl
theorem e_Mem_Store : S 31 (memF F06.storeS) := fold_sound o_Mem_Store (unf_sound plM_ok s_cell_Mem_Store)
theorem f_Mem_Store : Mono (memF F06.storeS) := o_Mem_Store.mono
theorem o_Mem_CAS : Fold concM (unf 0 plM (amFunc [(50, amFunc GA F06.cell_Mem_access), (51, F06.c_cell_Mem_CAS_1)] F06.cell_Mem_CAS)) (memF F06.casS) := F06.cas_foldG (G := GA) rfl rfl rfl
theorem e_Mem_CAS : S 71 (memF F06.casS) := fold_sound o_Mem_CAS (unf_sound plM_ok s_cell_Mem_CAS)
theorem f_Mem_CAS : Mono (memF F06.casS) := o_Mem_CAS.mono
theorem e_Mem_All : S 45 (F06.memNF F06.allS) := fold_sound F06.all_fold (unf_sound plM_ok s_cell_Mem_All)
theorem f_Mem_All : Mono (F06.memNF F06.allS) := F06.all_fold.mono
theorem k_mem : Known A0 num Try.prog F10.Gmem := known_cons ok_cell_New e_new f_new (known_cons ok_ref06_New s_ref06_New m_ref06_New (known_cons ok_cell_Mem_Store e_Mem_Store f_Mem_Store (known_cons ok_ref06_Store s_ref06_Store m_ref06_Store (known_nil))))
theorem e_mem : S 11 (amFunc F10.Gmem F10.docs_Mem) := func_sound k_mem Try.func11 chk_docs_Mem
theorem k_look : Known A0 num Try.prog F10.Glook := known_cons ok_conf_Config_Word s_conf_Config_Word m_conf_Config_Word (known_cons ok_cell_Mem_Load e_Mem_Load f_Mem_Load (known_cons ok_word_Len s_word_Len m_word_Len (known_nil)))
theorem e_look : S 47 (amFunc F10.Glook F10.get_Get_look) := func_sound k_look Try.func47 chk_get_Get_look
theorem k_copy : Known A0 num Try.prog F10.Gcopy := known_cons ok_word_Head s_word_Head m_word_Head (known_cons ok_conf_Config_Slot s_conf_Config_Slot m_conf_Config_Slot (known_cons ok_cell_Mem_Load e_Mem_Load f_Mem_Load (known_nil)))
theorem e_copy : S 48 (amFunc F10.Gcopy F10.get_Get_copy) := func_sound k_copy Try.func48 chk_get_Get_copy
theorem k_gain : Known A0 num Try.prog F10.Ggain := known_cons ok_conf_Config_Word s_conf_Config_Word m_conf_Config_Word (known_cons ok_word_Gain s_word_Gain m_word_Gain (known_cons ok_cell_Mem_CAS e_Mem_CAS f_Mem_CAS (known_nil)))
theorem e_gain : S 49 (amFunc F10.Ggain F10.get_Get_gain) := func_sound k_gain Try.func49 chk_get_Get_gain
theorem k_step : Known A0 num Try.prog F10.Gstep := known_cons ok_get_Get_Done s_get_Get_Done m_get_Get_Done (known_am ok_get_Get_look k_look e_look (known_am ok_get_Get_copy k_copy e_copy (known_am ok_get_Get_gain k_gain e_gain (known_nil))))
theorem e_step : S 17 (amFunc F10.Gstep F10.get_Get_Step) := func_sound k_step Try.func17 chk_get_Get_Step
theorem k_smem : Known A0 num Try.prog F10.Gsmem := known_cons ok_cell_Mem_Len e_Mem_Len f_Mem_Len (known_cons ok_cell_Mem_Ops e_Mem_Ops f_Mem_Ops (known_cons ok_cell_Mem_All e_Mem_All f_Mem_All (known_cons ok_docs_SameCells s_docs_SameCells m_docs_SameCells (known_nil))))
theorem e_smem : S 27 (amFunc F10.Gsmem F10.docs_SameMem) := func_sound k_smem Try.func27 chk_docs_SameMem
theorem k_is : Known A0 num Try.prog F10.Gis := known_cons ok_get_Get_Hands s_get_Get_Hands m_get_Get_Hands (known_cons ok_get_Get_Got s_get_Get_Got m_get_Get_Got (known_cons ok_get_Get_Tries s_get_Get_Tries m_get_Get_Tries (known_cons ok_get_Get_Done s_get_Get_Done m_get_Get_Done (known_nil))))
theorem e_is : S 29 (amFunc F10.Gis F10.law10_is) := func_sound k_is Try.func29 chk_law10_is
theorem k_rst : Known A0 num Try.prog F10.Grst := known_cons ok_ref09_Head s_ref09_Head m_ref09_Head (known_cons ok_ref09_Tail s_ref09_Tail m_ref09_Tail (known_cons ok_ref09_Word s_ref09_Word m_ref09_Word (known_cons ok_ref06_Load s_ref06_Load m_ref06_Load (known_cons ok_ref09_Size s_ref09_Size m_ref09_Size (known_cons ok_ref09_Slot s_ref09_Slot m_ref09_Slot (known_cons ok_ref09_Pack s_ref09_Pack m_ref09_Pack (known_cons ok_ref06_CAS s_ref06_CAS m_ref06_CAS (known_nil))))))))
theorem e_rst : S 30 (amFunc F10.Grst F10.ref10_Step) := func_sound k_rst Try.func30 chk_ref10_Step
theorem k_plays : Known A0 num Try.prog F10.Gplays := known_cons ok_law10_works s_worksG F10.works_lift.mono (known_cons ok_docs_Filled s_docs_Filled m_docs_Filled (known_am ok_docs_Mem k_mem e_mem (known_cons ok_get_New s_get_New m_get_New (known_cons ok_docs_Config s_docs_Config m_docs_Config (known_cons ok_ref10_New s_ref10_New m_ref10_New (known_am ok_law10_is k_is e_is (known_am ok_docs_SameMem k_smem e_smem (known_cons ok_cell_Mem_Ops e_Mem_Ops f_Mem_Ops (known_am ok_ref10_Step k_rst e_rst (known_am ok_get_Get_Step k_step e_step (known_cons ok_kit_Pick s_kit_Pick m_kit_Pick (known_cons ok_cell_Mem_Store e_Mem_Store f_Mem_Store (known_cons ok_ref06_Store s_ref06_Store m_ref06_Store (known_nil))))))))))))))
theorem e_plays : S 6 (amFunc F10.Gplays F10.law10_GetPlays) := func_sound k_plays Try.func6 chk_law10_GetPlays
theorem k_ring : Known A0 num Try.prog F10.Gring := known_cons ok_cell_Mem_All e_Mem_All f_Mem_All (known_cons ok_conf_Config_Cells s_conf_Config_Cells m_conf_Config_Cells (known_cons ok_conf_Config_Word s_conf_Config_Word m_conf_Config_Word (known_cons ok_conf_Config_Slot s_conf_Config_Slot m_conf_Config_Slot (known_nil))))
theorem e_ring : S 13 (amFunc F10.Gring F10.docs_Ring) := func_sound k_ring Try.func13 chk_docs_Ring
theorem k_ga : Known A0 num Try.prog F10.Gga := known_cons ok_get_New s_get_New m_get_New (known_am ok_get_Get_Step k_step e_step (known_cons ok_get_Get_Got s_get_Get_Got m_get_Get_Got (known_nil)))
theorem e_ga : S 24 (amFunc F10.Gga F10.get_All) := func_sound k_ga Try.func24 chk_get_All
theorem k_rall : Known A0 num Try.prog F10.Grall := known_cons ok_ref10_New s_ref10_New m_ref10_New (known_am ok_ref10_Step k_rst e_rst (known_nil))
theorem e_rall : S 25 (amFunc F10.Grall F10.ref10_All) := func_sound k_rall Try.func25 chk_ref10_All
theorem k_getall : Known A0 num Try.prog F10.Ggall := known_cons ok_law10_works s_worksG F10.works_lift.mono (known_cons ok_docs_Filled s_docs_Filled m_docs_Filled (known_am ok_docs_Mem k_mem e_mem (known_am ok_docs_Ring k_ring e_ring (known_cons ok_docs_Config s_docs_Config m_docs_Config (known_am ok_ref10_All k_rall e_rall (known_am ok_get_All k_ga e_ga (known_cons ok_kit_SameInts s_kit_SameInts m_kit_SameInts (known_am ok_docs_SameMem k_smem e_smem (known_nil)))))))))
theorem e_getall : S 5 (amFunc F10.Ggall F10.law10_GetAll) := func_sound k_getall Try.func5 chk_law10_GetAll
theorem k_thief : Known A0 num Try.prog F10.Gthief := known_am ok_docs_Ring k_ring e_ring (known_cons ok_conf_Config_Word s_conf_Config_Word m_conf_Config_Word (known_cons ok_cell_Mem_Load e_Mem_Load f_Mem_Load (known_cons ok_cell_Mem_Store e_Mem_Store f_Mem_Store (known_nil))))
theorem e_thief : S 16 (amFunc F10.Gthief F10.docs_Thief) := func_sound k_thief Try.func16 chk_docs_Thief
theorem k_old : Known A0 num Try.prog F10.Gold := known_cons ok_law10_works s_worksG F10.works_lift.mono (known_cons ok_docs_Made s_docs_Made m_docs_Made (known_cons ok_kit_Pick s_kit_Pick m_kit_Pick (known_cons ok_docs_Filled s_docs_Filled m_docs_Filled (known_am ok_docs_Mem k_mem e_mem (known_am ok_docs_Ring k_ring e_ring (known_cons ok_get_New s_get_New m_get_New (known_cons ok_get_Get_Done s_get_Get_Done m_get_Get_Done (known_am ok_docs_Thief k_thief e_thief (known_am ok_get_Get_Step k_step e_step (known_cons ok_get_Get_Got s_get_Get_Got m_get_Get_Got (known_cons ok_get_Get_Tries s_get_Get_Tries m_get_Get_Tries (known_cons ok_kit_SameInts s_kit_SameInts m_kit_SameInts (known_nil)))))))))))))
theorem e_old : S 3 (amFunc F10.Gold F10.law10_GetOldest) := func_sound k_old Try.func3 chk_law10_GetOldest
theorem k_none : Known A0 num Try.prog F10.Gnone := known_cons ok_cell_New s_cell_New m_cell_New (known_cons ok_kit_Pick s_kit_Pick m_kit_Pick (known_cons ok_get_New s_get_New m_get_New (known_cons ok_get_Get_Got s_get_Get_Got m_get_Get_Got (known_cons ok_get_Get_Step s_get_Get_Step m_get_Get_Step (known_cons ok_get_Get_Done s_get_Get_Done m_get_Get_Done (known_cons ok_get_Get_Tries s_get_Get_Tries m_get_Get_Tries (known_cons ok_get_Get_Hands s_get_Get_Hands m_get_Get_Hands (known_cons ok_cell_Mem_Ops s_cell_Mem_Ops m_cell_Mem_Ops (known_cons ok_get_All s_get_All m_get_All (known_cons ok_law10_works s_worksG F10.works_lift.mono (known_nil)))))))))))
theorem e_none : S 4 (amFunc F10.Gnone F10.law10_GetNone) := func_sound k_none Try.func4 chk_law10_GetNone
theorem k_known : Known A0 num Try.prog F10.Gknown := known_cons ok_docs_Made s_docs_Made m_docs_Made (known_am ok_law10_GetPlays k_plays e_plays (known_am ok_law10_GetAll k_getall e_getall (known_am ok_law10_GetOldest k_old e_old (known_am ok_law10_GetNone k_none e_none (known_cons ok_law10_works s_worksG F10.works_lift.mono (known_nil))))))
theorem e_known : S 7 (amFunc F10.Gknown F10.law10_GetKnown) := func_sound k_known Try.func7 chk_law10_GetKnown
end Go.Proofs.Ytimgbjimonmkdaa
