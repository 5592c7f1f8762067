/- GetNone: a get that is not there, and a zero one, answer so; so does one of no P; for every input. -/
import Derived.Test.YtimgbjimonmkdaaRows
import Derived.Test.YtimgbjimonmkdaaXS10
import Derived.Test.YtimgbjimonmkdaaXR10
import Derived.Test.YtimgbjimonmkdaaXAmRead
import Derived.Test.YtimgbjimonmkdaaXAmLaw
import Derived.Lib.SmallJoins
set_option linter.unusedSimpArgs false
set_option linter.unusedVariables false
namespace Go.Proofs.Ytimgbjimonmkdaa
open Go.Am Go.Joins Go.ChangeShapes Go.WideShapes Go.RowKit Go.Deep Go.ChangeAt

theorem Try.own : ownKnob Try.prog.godebug = none := by kernel_rfl
theorem Try.laidOut : laidOutB Try.prog = true := by kernel_rfl

abbrev A0 : AbsSem Unit := AbsSem.no Unit
abbrev S (k : Nat) (f : AFun Unit) : Prop := Sound A0 num Try.prog k f

theorem k_conf_within : Known A0 num Try.prog [] := known_nil
theorem s_conf_within : S 65 F10.c_conf_within := func_sound k_conf_within Try.func65 chk_conf_within
theorem m_conf_within : Mono (F10.c_conf_within (X := Unit)) := amFunc_mono (fun g f h => (k_conf_within g f h).2.2) _
theorem k_conf_Config_Right : Known A0 num Try.prog [(176, F10.c_conf_within)] := known_cons ok_conf_within s_conf_within m_conf_within (known_nil)
theorem s_conf_Config_Right : S 36 F10.c_conf_Config_Right := func_sound k_conf_Config_Right Try.func36 chk_conf_Config_Right
theorem m_conf_Config_Right : Mono (F10.c_conf_Config_Right (X := Unit)) := amFunc_mono (fun g f h => (k_conf_Config_Right g f h).2.2) _
theorem k_conf_Config_Cells : Known A0 num Try.prog [(157, F10.c_conf_Config_Right)] := known_cons ok_conf_Config_Right s_conf_Config_Right m_conf_Config_Right (known_nil)
theorem s_conf_Config_Cells : S 35 F10.c_conf_Config_Cells := func_sound k_conf_Config_Cells Try.func35 chk_conf_Config_Cells
theorem m_conf_Config_Cells : Mono (F10.c_conf_Config_Cells (X := Unit)) := amFunc_mono (fun g f h => (k_conf_Config_Cells g f h).2.2) _
theorem k_cell_New : Known A0 num Try.prog [] := known_nil
theorem s_cell_New : S 21 F10.c_cell_New := func_sound k_cell_New Try.func21 chk_cell_New
theorem m_cell_New : Mono (F10.c_cell_New (X := Unit)) := amFunc_mono (fun g f h => (k_cell_New g f h).2.2) _
theorem k_conf_own_at : Known A0 num Try.prog [(157, F10.c_conf_Config_Right), (176, F10.c_conf_within)] := known_cons ok_conf_Config_Right s_conf_Config_Right m_conf_Config_Right (known_cons ok_conf_within s_conf_within m_conf_within (known_nil))
theorem s_conf_own_at : S 66 F10.c_conf_own_at := func_sound k_conf_own_at Try.func66 chk_conf_own_at
theorem m_conf_own_at : Mono (F10.c_conf_own_at (X := Unit)) := amFunc_mono (fun g f h => (k_conf_own_at g f h).2.2) _
theorem k_conf_Config_Slot : Known A0 num Try.prog [(157, F10.c_conf_Config_Right), (177, F10.c_conf_own_at)] := known_cons ok_conf_Config_Right s_conf_Config_Right m_conf_Config_Right (known_cons ok_conf_own_at s_conf_own_at m_conf_own_at (known_nil))
theorem s_conf_Config_Slot : S 39 F10.c_conf_Config_Slot := func_sound k_conf_Config_Slot Try.func39 chk_conf_Config_Slot
theorem m_conf_Config_Slot : Mono (F10.c_conf_Config_Slot (X := Unit)) := amFunc_mono (fun g f h => (k_conf_Config_Slot g f h).2.2) _
theorem k_cell_Mem_there : Known A0 num Try.prog [] := known_nil
theorem s_cell_Mem_there : S 74 F10.c_cell_Mem_there := func_sound k_cell_Mem_there Try.func74 chk_cell_Mem_there
theorem m_cell_Mem_there : Mono (F10.c_cell_Mem_there (X := Unit)) := amFunc_mono (fun g f h => (k_cell_Mem_there g f h).2.2) _
theorem k_cell_counts_note : Known A0 num Try.prog [] := known_nil
theorem s_cell_counts_note : S 75 F10.c_cell_counts_note := func_sound k_cell_counts_note Try.func75 chk_cell_counts_note
theorem m_cell_counts_note : Mono (F10.c_cell_counts_note (X := Unit)) := amFunc_mono (fun g f h => (k_cell_counts_note g f h).2.2) _
theorem k_cell_Mem_Store_1 : Known A0 num Try.prog [] := known_nil
theorem s_cell_Mem_Store_1 : S 62 F10.c_cell_Mem_Store_1 := func_sound k_cell_Mem_Store_1 Try.func62 chk_cell_Mem_Store_1
theorem m_cell_Mem_Store_1 : Mono (F10.c_cell_Mem_Store_1 (X := Unit)) := amFunc_mono (fun g f h => (k_cell_Mem_Store_1 g f h).2.2) _
theorem k_cell_Mem_CAS_1 : Known A0 num Try.prog [] := known_nil
theorem s_cell_Mem_CAS_1 : S 77 F10.c_cell_Mem_CAS_1 := func_sound k_cell_Mem_CAS_1 Try.func77 chk_cell_Mem_CAS_1
theorem m_cell_Mem_CAS_1 : Mono (F10.c_cell_Mem_CAS_1 (X := Unit)) := amFunc_mono (fun g f h => (k_cell_Mem_CAS_1 g f h).2.2) _
theorem k_cell_Mem_Load_1 : Known A0 num Try.prog [] := known_nil
theorem s_cell_Mem_Load_1 : S 68 F10.c_cell_Mem_Load_1 := func_sound k_cell_Mem_Load_1 Try.func68 chk_cell_Mem_Load_1
theorem m_cell_Mem_Load_1 : Mono (F10.c_cell_Mem_Load_1 (X := Unit)) := amFunc_mono (fun g f h => (k_cell_Mem_Load_1 g f h).2.2) _
theorem k_cell_Mem_access : Known A0 num Try.prog [(56, F10.c_cell_Mem_there), (71, F10.c_cell_counts_note), (49, F10.c_cell_Mem_Store_1), (51, F10.c_cell_Mem_CAS_1), (52, F10.c_cell_Mem_Load_1)] := known_cons ok_cell_Mem_there s_cell_Mem_there m_cell_Mem_there (known_cons ok_cell_counts_note s_cell_counts_note m_cell_counts_note (known_cons ok_cell_Mem_Store_1 s_cell_Mem_Store_1 m_cell_Mem_Store_1 (known_cons ok_cell_Mem_CAS_1 s_cell_Mem_CAS_1 m_cell_Mem_CAS_1 (known_cons ok_cell_Mem_Load_1 s_cell_Mem_Load_1 m_cell_Mem_Load_1 (known_nil)))))
theorem s_cell_Mem_access : S 61 F10.c_cell_Mem_access := func_sound k_cell_Mem_access Try.func61 chk_cell_Mem_access
theorem m_cell_Mem_access : Mono (F10.c_cell_Mem_access (X := Unit)) := amFunc_mono (fun g f h => (k_cell_Mem_access g f h).2.2) _
theorem k_cell_Mem_Store : Known A0 num Try.prog [(50, F10.c_cell_Mem_access), (49, F10.c_cell_Mem_Store_1)] := known_cons ok_cell_Mem_access s_cell_Mem_access m_cell_Mem_access (known_cons ok_cell_Mem_Store_1 s_cell_Mem_Store_1 m_cell_Mem_Store_1 (known_nil))
theorem s_cell_Mem_Store : S 31 F10.c_cell_Mem_Store := func_sound k_cell_Mem_Store Try.func31 chk_cell_Mem_Store
theorem m_cell_Mem_Store : Mono (F10.c_cell_Mem_Store (X := Unit)) := amFunc_mono (fun g f h => (k_cell_Mem_Store g f h).2.2) _
theorem k_conf_Config_Word : Known A0 num Try.prog [(177, F10.c_conf_own_at)] := known_cons ok_conf_own_at s_conf_own_at m_conf_own_at (known_nil)
theorem s_conf_Config_Word : S 38 F10.c_conf_Config_Word := func_sound k_conf_Config_Word Try.func38 chk_conf_Config_Word
theorem m_conf_Config_Word : Mono (F10.c_conf_Config_Word (X := Unit)) := amFunc_mono (fun g f h => (k_conf_Config_Word g f h).2.2) _
theorem k_law10_rings : Known A0 num Try.prog [(156, F10.c_conf_Config_Cells), (21, F10.c_cell_New), (160, F10.c_conf_Config_Slot), (22, F10.c_cell_Mem_Store), (159, F10.c_conf_Config_Word)] := known_cons ok_conf_Config_Cells s_conf_Config_Cells m_conf_Config_Cells (known_cons ok_cell_New s_cell_New m_cell_New (known_cons ok_conf_Config_Slot s_conf_Config_Slot m_conf_Config_Slot (known_cons ok_cell_Mem_Store s_cell_Mem_Store m_cell_Mem_Store (known_cons ok_conf_Config_Word s_conf_Config_Word m_conf_Config_Word (known_nil)))))
theorem s_law10_rings : S 33 F10.c_law10_rings := func_sound k_law10_rings Try.func33 chk_law10_rings
theorem m_law10_rings : Mono (F10.c_law10_rings (X := Unit)) := amFunc_mono (fun g f h => (k_law10_rings g f h).2.2) _
theorem k_get_New : Known A0 num Try.prog [(159, F10.c_conf_Config_Word)] := known_cons ok_conf_Config_Word s_conf_Config_Word m_conf_Config_Word (known_nil)
theorem s_get_New : S 14 F10.c_get_New := func_sound k_get_New Try.func14 chk_get_New
theorem m_get_New : Mono (F10.c_get_New (X := Unit)) := amFunc_mono (fun g f h => (k_get_New g f h).2.2) _
theorem k_get_Get_Done : Known A0 num Try.prog [] := known_nil
theorem s_get_Get_Done : S 15 F10.c_get_Get_Done := func_sound k_get_Get_Done Try.func15 chk_get_Get_Done
theorem m_get_Get_Done : Mono (F10.c_get_Get_Done (X := Unit)) := amFunc_mono (fun g f h => (k_get_Get_Done g f h).2.2) _
theorem k_cell_Mem_Load : Known A0 num Try.prog [(50, F10.c_cell_Mem_access), (52, F10.c_cell_Mem_Load_1)] := known_cons ok_cell_Mem_access s_cell_Mem_access m_cell_Mem_access (known_cons ok_cell_Mem_Load_1 s_cell_Mem_Load_1 m_cell_Mem_Load_1 (known_nil))
theorem s_cell_Mem_Load : S 46 F10.c_cell_Mem_Load := func_sound k_cell_Mem_Load Try.func46 chk_cell_Mem_Load
theorem m_cell_Mem_Load : Mono (F10.c_cell_Mem_Load (X := Unit)) := amFunc_mono (fun g f h => (k_cell_Mem_Load g f h).2.2) _
theorem k_word_Tail : Known A0 num Try.prog [] := known_nil
theorem s_word_Tail : S 76 F10.c_word_Tail := func_sound k_word_Tail Try.func76 chk_word_Tail
theorem m_word_Tail : Mono (F10.c_word_Tail (X := Unit)) := amFunc_mono (fun g f h => (k_word_Tail g f h).2.2) _
theorem k_word_Head : Known A0 num Try.prog [] := known_nil
theorem s_word_Head : S 70 F10.c_word_Head := func_sound k_word_Head Try.func70 chk_word_Head
theorem m_word_Head : Mono (F10.c_word_Head (X := Unit)) := amFunc_mono (fun g f h => (k_word_Head g f h).2.2) _
theorem k_word_Len : Known A0 num Try.prog [(182, F10.c_word_Tail), (179, F10.c_word_Head)] := known_cons ok_word_Tail s_word_Tail m_word_Tail (known_cons ok_word_Head s_word_Head m_word_Head (known_nil))
theorem s_word_Len : S 69 F10.c_word_Len := func_sound k_word_Len Try.func69 chk_word_Len
theorem m_word_Len : Mono (F10.c_word_Len (X := Unit)) := amFunc_mono (fun g f h => (k_word_Len g f h).2.2) _
theorem k_get_Get_look : Known A0 num Try.prog [(159, F10.c_conf_Config_Word), (24, F10.c_cell_Mem_Load), (178, F10.c_word_Len)] := known_cons ok_conf_Config_Word s_conf_Config_Word m_conf_Config_Word (known_cons ok_cell_Mem_Load s_cell_Mem_Load m_cell_Mem_Load (known_cons ok_word_Len s_word_Len m_word_Len (known_nil)))
theorem s_get_Get_look : S 47 F10.c_get_Get_look := func_sound k_get_Get_look Try.func47 chk_get_Get_look
theorem m_get_Get_look : Mono (F10.c_get_Get_look (X := Unit)) := amFunc_mono (fun g f h => (k_get_Get_look g f h).2.2) _
theorem k_get_Get_copy : Known A0 num Try.prog [(179, F10.c_word_Head), (160, F10.c_conf_Config_Slot), (24, F10.c_cell_Mem_Load)] := known_cons ok_word_Head s_word_Head m_word_Head (known_cons ok_conf_Config_Slot s_conf_Config_Slot m_conf_Config_Slot (known_cons ok_cell_Mem_Load s_cell_Mem_Load m_cell_Mem_Load (known_nil)))
theorem s_get_Get_copy : S 48 F10.c_get_Get_copy := func_sound k_get_Get_copy Try.func48 chk_get_Get_copy
theorem m_get_Get_copy : Mono (F10.c_get_Get_copy (X := Unit)) := amFunc_mono (fun g f h => (k_get_Get_copy g f h).2.2) _
theorem k_word_Pack : Known A0 num Try.prog [] := known_nil
theorem s_word_Pack : S 78 F10.c_word_Pack := func_sound k_word_Pack Try.func78 chk_word_Pack
theorem m_word_Pack : Mono (F10.c_word_Pack (X := Unit)) := amFunc_mono (fun g f h => (k_word_Pack g f h).2.2) _
theorem k_word_Gain : Known A0 num Try.prog [(179, F10.c_word_Head), (182, F10.c_word_Tail), (183, F10.c_word_Pack)] := known_cons ok_word_Head s_word_Head m_word_Head (known_cons ok_word_Tail s_word_Tail m_word_Tail (known_cons ok_word_Pack s_word_Pack m_word_Pack (known_nil)))
theorem s_word_Gain : S 72 F10.c_word_Gain := func_sound k_word_Gain Try.func72 chk_word_Gain
theorem m_word_Gain : Mono (F10.c_word_Gain (X := Unit)) := amFunc_mono (fun g f h => (k_word_Gain g f h).2.2) _
theorem k_cell_Mem_CAS : Known A0 num Try.prog [(50, F10.c_cell_Mem_access), (51, F10.c_cell_Mem_CAS_1)] := known_cons ok_cell_Mem_access s_cell_Mem_access m_cell_Mem_access (known_cons ok_cell_Mem_CAS_1 s_cell_Mem_CAS_1 m_cell_Mem_CAS_1 (known_nil))
theorem s_cell_Mem_CAS : S 71 F10.c_cell_Mem_CAS := func_sound k_cell_Mem_CAS Try.func71 chk_cell_Mem_CAS
theorem m_cell_Mem_CAS : Mono (F10.c_cell_Mem_CAS (X := Unit)) := amFunc_mono (fun g f h => (k_cell_Mem_CAS g f h).2.2) _
theorem k_get_Get_gain : Known A0 num Try.prog [(159, F10.c_conf_Config_Word), (180, F10.c_word_Gain), (23, F10.c_cell_Mem_CAS)] := known_cons ok_conf_Config_Word s_conf_Config_Word m_conf_Config_Word (known_cons ok_word_Gain s_word_Gain m_word_Gain (known_cons ok_cell_Mem_CAS s_cell_Mem_CAS m_cell_Mem_CAS (known_nil)))
theorem s_get_Get_gain : S 49 F10.c_get_Get_gain := func_sound k_get_Get_gain Try.func49 chk_get_Get_gain
theorem m_get_Get_gain : Mono (F10.c_get_Get_gain (X := Unit)) := amFunc_mono (fun g f h => (k_get_Get_gain g f h).2.2) _
theorem k_get_Get_Step : Known A0 num Try.prog [(138, F10.c_get_Get_Done), (166, F10.c_get_Get_look), (167, F10.c_get_Get_copy), (168, F10.c_get_Get_gain), (49, F10.c_cell_Mem_Store_1), (51, F10.c_cell_Mem_CAS_1), (52, F10.c_cell_Mem_Load_1)] := known_cons ok_get_Get_Done s_get_Get_Done m_get_Get_Done (known_cons ok_get_Get_look s_get_Get_look m_get_Get_look (known_cons ok_get_Get_copy s_get_Get_copy m_get_Get_copy (known_cons ok_get_Get_gain s_get_Get_gain m_get_Get_gain (known_cons ok_cell_Mem_Store_1 s_cell_Mem_Store_1 m_cell_Mem_Store_1 (known_cons ok_cell_Mem_CAS_1 s_cell_Mem_CAS_1 m_cell_Mem_CAS_1 (known_cons ok_cell_Mem_Load_1 s_cell_Mem_Load_1 m_cell_Mem_Load_1 (known_nil)))))))
theorem s_get_Get_Step : S 17 F10.c_get_Get_Step := func_sound k_get_Get_Step Try.func17 chk_get_Get_Step
theorem m_get_Get_Step : Mono (F10.c_get_Get_Step (X := Unit)) := amFunc_mono (fun g f h => (k_get_Get_Step g f h).2.2) _
theorem k_get_Get_Got : Known A0 num Try.prog [] := known_nil
theorem s_get_Get_Got : S 19 F10.c_get_Get_Got := func_sound k_get_Get_Got Try.func19 chk_get_Get_Got
theorem m_get_Get_Got : Mono (F10.c_get_Get_Got (X := Unit)) := amFunc_mono (fun g f h => (k_get_Get_Got g f h).2.2) _
theorem k_slices_Clone_uint64 : Known A0 num Try.prog [] := known_nil
theorem s_slices_Clone_uint64 : S 67 F10.c_slices_Clone_uint64 := func_sound k_slices_Clone_uint64 Try.func67 chk_slices_Clone_uint64
theorem m_slices_Clone_uint64 : Mono (F10.c_slices_Clone_uint64 (X := Unit)) := amFunc_mono (fun g f h => (k_slices_Clone_uint64 g f h).2.2) _
theorem k_cell_Mem_All : Known A0 num Try.prog [(61, F10.c_slices_Clone_uint64)] := known_cons ok_slices_Clone_uint64 s_slices_Clone_uint64 m_slices_Clone_uint64 (known_nil)
theorem s_cell_Mem_All : S 45 F10.c_cell_Mem_All := func_sound k_cell_Mem_All Try.func45 chk_cell_Mem_All
theorem m_cell_Mem_All : Mono (F10.c_cell_Mem_All (X := Unit)) := amFunc_mono (fun g f h => (k_cell_Mem_All g f h).2.2) _
theorem k_docs_Ring : Known A0 num Try.prog [(47, F10.c_cell_Mem_All), (156, F10.c_conf_Config_Cells), (159, F10.c_conf_Config_Word), (160, F10.c_conf_Config_Slot)] := known_cons ok_cell_Mem_All s_cell_Mem_All m_cell_Mem_All (known_cons ok_conf_Config_Cells s_conf_Config_Cells m_conf_Config_Cells (known_cons ok_conf_Config_Word s_conf_Config_Word m_conf_Config_Word (known_cons ok_conf_Config_Slot s_conf_Config_Slot m_conf_Config_Slot (known_nil))))
theorem s_docs_Ring : S 13 F10.c_docs_Ring := func_sound k_docs_Ring Try.func13 chk_docs_Ring
theorem m_docs_Ring : Mono (F10.c_docs_Ring (X := Unit)) := amFunc_mono (fun g f h => (k_docs_Ring g f h).2.2) _
theorem k_kit_SameInts : Known A0 num Try.prog [] := known_nil
theorem s_kit_SameInts : S 18 F10.c_kit_SameInts := func_sound k_kit_SameInts Try.func18 chk_kit_SameInts
theorem m_kit_SameInts : Mono (F10.c_kit_SameInts (X := Unit)) := amFunc_mono (fun g f h => (k_kit_SameInts g f h).2.2) _
theorem k_docs_Thief : Known A0 num Try.prog [(136, F10.c_docs_Ring), (159, F10.c_conf_Config_Word), (24, F10.c_cell_Mem_Load), (22, F10.c_cell_Mem_Store)] := known_cons ok_docs_Ring s_docs_Ring m_docs_Ring (known_cons ok_conf_Config_Word s_conf_Config_Word m_conf_Config_Word (known_cons ok_cell_Mem_Load s_cell_Mem_Load m_cell_Mem_Load (known_cons ok_cell_Mem_Store s_cell_Mem_Store m_cell_Mem_Store (known_nil))))
theorem s_docs_Thief : S 16 F10.c_docs_Thief := func_sound k_docs_Thief Try.func16 chk_docs_Thief
theorem m_docs_Thief : Mono (F10.c_docs_Thief (X := Unit)) := amFunc_mono (fun g f h => (k_docs_Thief g f h).2.2) _
theorem k_get_Get_Tries : Known A0 num Try.prog [] := known_nil
theorem s_get_Get_Tries : S 20 F10.c_get_Get_Tries := func_sound k_get_Get_Tries Try.func20 chk_get_Get_Tries
theorem m_get_Get_Tries : Mono (F10.c_get_Get_Tries (X := Unit)) := amFunc_mono (fun g f h => (k_get_Get_Tries g f h).2.2) _
theorem k_get_All : Known A0 num Try.prog [(137, F10.c_get_New), (140, F10.c_get_Get_Step), (141, F10.c_get_Get_Got)] := known_cons ok_get_New s_get_New m_get_New (known_cons ok_get_Get_Step s_get_Get_Step m_get_Get_Step (known_cons ok_get_Get_Got s_get_Get_Got m_get_Get_Got (known_nil)))
theorem s_get_All : S 24 F10.c_get_All := func_sound k_get_All Try.func24 chk_get_All
theorem m_get_All : Mono (F10.c_get_All (X := Unit)) := amFunc_mono (fun g f h => (k_get_All g f h).2.2) _
theorem k_law10_works : Known A0 num Try.prog [(155, F10.c_law10_rings), (137, F10.c_get_New), (140, F10.c_get_Get_Step), (141, F10.c_get_Get_Got), (136, F10.c_docs_Ring), (84, F10.c_kit_SameInts), (139, F10.c_docs_Thief), (142, F10.c_get_Get_Tries), (145, F10.c_get_All)] := known_cons ok_law10_rings s_law10_rings m_law10_rings (known_cons ok_get_New s_get_New m_get_New (known_cons ok_get_Get_Step s_get_Get_Step m_get_Get_Step (known_cons ok_get_Get_Got s_get_Get_Got m_get_Get_Got (known_cons ok_docs_Ring s_docs_Ring m_docs_Ring (known_cons ok_kit_SameInts s_kit_SameInts m_kit_SameInts (known_cons ok_docs_Thief s_docs_Thief m_docs_Thief (known_cons ok_get_Get_Tries s_get_Get_Tries m_get_Get_Tries (known_cons ok_get_All s_get_All m_get_All (known_nil)))))))))
theorem s_law10_works : S 8 F10.c_law10_works := func_sound k_law10_works Try.func8 chk_law10_works
theorem m_law10_works : Mono (F10.c_law10_works (X := Unit)) := amFunc_mono (fun g f h => (k_law10_works g f h).2.2) _
theorem k_kit_Pick : Known A0 num Try.prog [] := known_nil
theorem s_kit_Pick : S 10 F10.c_kit_Pick := func_sound k_kit_Pick Try.func10 chk_kit_Pick
theorem m_kit_Pick : Mono (F10.c_kit_Pick (X := Unit)) := amFunc_mono (fun g f h => (k_kit_Pick g f h).2.2) _
theorem k_get_Get_Hands : Known A0 num Try.prog [(141, F10.c_get_Get_Got)] := known_cons ok_get_Get_Got s_get_Get_Got m_get_Get_Got (known_nil)
theorem s_get_Get_Hands : S 22 F10.c_get_Get_Hands := func_sound k_get_Get_Hands Try.func22 chk_get_Get_Hands
theorem m_get_Get_Hands : Mono (F10.c_get_Get_Hands (X := Unit)) := amFunc_mono (fun g f h => (k_get_Get_Hands g f h).2.2) _
theorem k_cell_Mem_Ops : Known A0 num Try.prog [] := known_nil
theorem s_cell_Mem_Ops : S 23 F10.c_cell_Mem_Ops := func_sound k_cell_Mem_Ops Try.func23 chk_cell_Mem_Ops
theorem m_cell_Mem_Ops : Mono (F10.c_cell_Mem_Ops (X := Unit)) := amFunc_mono (fun g f h => (k_cell_Mem_Ops g f h).2.2) _

theorem s_worksG : S 8 (pureF F10.worksG) := lift_sound F10.works_lift s_law10_works
theorem k_none : Known A0 num Try.prog (F10.Gnone (X := Unit)) := known_cons ok_cell_New s_cell_New m_cell_New (known_cons ok_kit_Pick s_kit_Pick m_kit_Pick (known_cons ok_get_New s_get_New m_get_New (known_cons ok_get_Get_Got s_get_Get_Got m_get_Get_Got (known_cons ok_get_Get_Step s_get_Get_Step m_get_Get_Step (known_cons ok_get_Get_Done s_get_Get_Done m_get_Get_Done
  (known_cons ok_get_Get_Tries s_get_Get_Tries m_get_Get_Tries (known_cons ok_get_Get_Hands s_get_Get_Hands m_get_Get_Hands (known_cons ok_cell_Mem_Ops s_cell_Mem_Ops m_cell_Mem_Ops (known_cons ok_get_All s_get_All m_get_All (known_cons ok_law10_works s_worksG F10.works_lift.mono known_nil))))))))))
theorem s_law : S 4 (amFunc F10.Gnone F10.law10_GetNone) := func_sound k_none Try.func4 chk_law10_GetNone
set_option maxRecDepth 100000 in
theorem cf_of {m : Mem Unit} {n : Nat} {a : AV} (h : IsV Try.prog m (n + 2) 23 a) : ∃ c : F10.Cf, a = .agg (F10.cfC c) := by
  obtain ⟨cs, rfl, hl, h⟩ := h.structV Try.underlying23
  have c3 : Try.prog.cellsOf 3 = 1 := by kernel_rfl
  have c23 : Try.prog.cellsOf 23 = 6 := by kernel_rfl
  rw [c23] at hl
  obtain ⟨z0, h0, _⟩ := h.intAt Try.underlying23 0 rfl Try.underlying3 c3
  obtain ⟨z1, h1, _⟩ := h.intAt Try.underlying23 1 rfl Try.underlying3 c3
  obtain ⟨z2, h2, _⟩ := h.intAt Try.underlying23 2 rfl Try.underlying3 c3
  obtain ⟨z3, h3, _⟩ := h.intAt Try.underlying23 3 rfl Try.underlying3 c3
  obtain ⟨z4, h4, _⟩ := h.intAt Try.underlying23 4 rfl Try.underlying3 c3
  obtain ⟨z5, h5, _⟩ := h.intAt Try.underlying23 5 rfl Try.underlying3 c3
  exact ⟨⟨z0, z1, z2, z3, z4, z5⟩, congrArg AV.agg (F10.cf_list hl h0 h1 h2 h3 h4 h5)⟩
set_option maxRecDepth 100000 in
theorem law_run (m : Mem Unit) (vs : List AV) (h : IsVs Try.prog m 4 Try.f4.params.toList vs) : ∃ m', amFunc F10.Gnone F10.law10_GetNone vs m = some (.bool true, m') := by
  rw [Try.params4] at h
  obtain ⟨a, vs, rfl, ha, b, vs, rfl, hb, rfl⟩ := h
  obtain ⟨c, rfl⟩ := cf_of ha
  obtain ⟨p, rfl, _⟩ := hb.intV Try.underlying3
  obtain ⟨r, m', h1, rfl⟩ := F10.none_run m c p
  exact ⟨m', h1⟩

set_option maxRecDepth 100000 in
theorem getNone_lifted (os : Os) (started : os.Started) (H : Type) (enc : TypeId × Value → H) :
    ReturnsInHanded {} Try.checked os 4 .any (Rows.getNoneSpec.pre6 enc Try.prog Try.f4 Rows.getNoneRow.domain false) (Rows.getNoneSpec.post enc Try.prog Try.f4 false true false false) := by
  refine returnsInHanded_of_change (C := Try.checked) Try.own started (by kernel_rfl) Try.func4
    (ChangeSpec.witness6 (enc := enc) (C := Try.checked) false ⟨#[], #[.agg #[.int .i64 0, .int .i64 0, .int .i64 0, .int .i64 0, .int .i64 0, .int .i64 0], .int .i64 0], []⟩ 8 (by kernel_rfl) (by kernel_rfl) (by kernel_rfl) (by kernel_rfl)) ?_
  intro W base args ds gs before hval hW _ _
  exact law_body (tb := 4) 4 s_law rfl (fun ds hl => by
    rw [Try.params4] at hl
    match ds, hl with
    | [_, _], _ => rfl) rfl (by kernel_rfl) Try.laidOut (by rw [Try.params4]; kernel_rfl) law_run W base args ds gs before hval hW

theorem getNone_holds : Rows.GetNoneSaid :=
  OpenClaim.holds_of_wide 4 Try.f4 rfl rfl rfl rfl rfl rfl rfl ⟨rfl, rfl, rfl, rfl, rfl⟩ rfl rfl rfl rfl rfl (by kernel_rfl) Try.func4 (by kernel_rfl)
    (of_decide_eq_true (by kernel_rfl)) (by unfold Func.isWrapper; first | (rw [if_pos (by decide +kernel)]; kernel_rfl) | (rw [if_neg (by decide +kernel)]; exact ⟨rfl, rfl⟩))
    (fun os started H enc _ => getNone_lifted os started H enc)
#print axioms getNone_holds
end Go.Proofs.Ytimgbjimonmkdaa
