/- PutNone: machines that are not there, and zero ones, answer so; for every input. -/
import Derived.Test.YtgfddegdjdeeoaaRows
import Derived.Test.YtgfddegdjdeeoaaXS09
import Derived.Test.YtgfddegdjdeeoaaXR09
import Derived.Test.YtgfddegdjdeeoaaXAmRead
import Derived.Test.YtgfddegdjdeeoaaXAmLaw
import Derived.Lib.SmallJoins
set_option linter.unusedSimpArgs false
set_option linter.unusedVariables false
namespace Go.Proofs.Ytgfddegdjdeeoaa
open Go.Am Go.Joins Go.ChangeShapes Go.WideShapes Go.RowKit Go.Deep Go.ChangeAt

theorem Try.own : ownKnob Try.prog.godebug = none := by kernel_rfl
theorem Try.laidOut : laidOutB Try.prog = true := by kernel_rfl

abbrev A0 : AbsSem Unit := AbsSem.no Unit
abbrev S (k : Nat) (f : AFun Unit) : Prop := Sound A0 num Try.prog k f

theorem k_conf_within : Known A0 num Try.prog [] := known_nil
theorem s_conf_within : S 76 F09.c_conf_within := func_sound k_conf_within Try.func76 chk_conf_within
theorem m_conf_within : Mono (F09.c_conf_within (X := Unit)) := amFunc_mono (fun g f h => (k_conf_within g f h).2.2) _
theorem k_conf_Config_Right : Known A0 num Try.prog [(176, F09.c_conf_within)] := known_cons ok_conf_within s_conf_within m_conf_within (known_nil)
theorem s_conf_Config_Right : S 41 F09.c_conf_Config_Right := func_sound k_conf_Config_Right Try.func41 chk_conf_Config_Right
theorem m_conf_Config_Right : Mono (F09.c_conf_Config_Right (X := Unit)) := amFunc_mono (fun g f h => (k_conf_Config_Right g f h).2.2) _
theorem k_conf_Config_Cells : Known A0 num Try.prog [(157, F09.c_conf_Config_Right)] := known_cons ok_conf_Config_Right s_conf_Config_Right m_conf_Config_Right (known_nil)
theorem s_conf_Config_Cells : S 32 F09.c_conf_Config_Cells := func_sound k_conf_Config_Cells Try.func32 chk_conf_Config_Cells
theorem m_conf_Config_Cells : Mono (F09.c_conf_Config_Cells (X := Unit)) := amFunc_mono (fun g f h => (k_conf_Config_Cells g f h).2.2) _
theorem k_cell_New : Known A0 num Try.prog [] := known_nil
theorem s_cell_New : S 28 F09.c_cell_New := func_sound k_cell_New Try.func28 chk_cell_New
theorem m_cell_New : Mono (F09.c_cell_New (X := Unit)) := amFunc_mono (fun g f h => (k_cell_New g f h).2.2) _
theorem k_conf_own_at : Known A0 num Try.prog [(157, F09.c_conf_Config_Right), (176, F09.c_conf_within)] := known_cons ok_conf_Config_Right s_conf_Config_Right m_conf_Config_Right (known_cons ok_conf_within s_conf_within m_conf_within (known_nil))
theorem s_conf_own_at : S 71 F09.c_conf_own_at := func_sound k_conf_own_at Try.func71 chk_conf_own_at
theorem m_conf_own_at : Mono (F09.c_conf_own_at (X := Unit)) := amFunc_mono (fun g f h => (k_conf_own_at g f h).2.2) _
theorem k_conf_Config_Slot : Known A0 num Try.prog [(157, F09.c_conf_Config_Right), (177, F09.c_conf_own_at)] := known_cons ok_conf_Config_Right s_conf_Config_Right m_conf_Config_Right (known_cons ok_conf_own_at s_conf_own_at m_conf_own_at (known_nil))
theorem s_conf_Config_Slot : S 43 F09.c_conf_Config_Slot := func_sound k_conf_Config_Slot Try.func43 chk_conf_Config_Slot
theorem m_conf_Config_Slot : Mono (F09.c_conf_Config_Slot (X := Unit)) := amFunc_mono (fun g f h => (k_conf_Config_Slot g f h).2.2) _
theorem k_cell_Mem_there : Known A0 num Try.prog [] := known_nil
theorem s_cell_Mem_there : S 90 F09.c_cell_Mem_there := func_sound k_cell_Mem_there Try.func90 chk_cell_Mem_there
theorem m_cell_Mem_there : Mono (F09.c_cell_Mem_there (X := Unit)) := amFunc_mono (fun g f h => (k_cell_Mem_there g f h).2.2) _
theorem k_cell_counts_note : Known A0 num Try.prog [] := known_nil
theorem s_cell_counts_note : S 91 F09.c_cell_counts_note := func_sound k_cell_counts_note Try.func91 chk_cell_counts_note
theorem m_cell_counts_note : Mono (F09.c_cell_counts_note (X := Unit)) := amFunc_mono (fun g f h => (k_cell_counts_note g f h).2.2) _
theorem k_cell_Mem_Store_1 : Known A0 num Try.prog [] := known_nil
theorem s_cell_Mem_Store_1 : S 70 F09.c_cell_Mem_Store_1 := func_sound k_cell_Mem_Store_1 Try.func70 chk_cell_Mem_Store_1
theorem m_cell_Mem_Store_1 : Mono (F09.c_cell_Mem_Store_1 (X := Unit)) := amFunc_mono (fun g f h => (k_cell_Mem_Store_1 g f h).2.2) _
theorem k_cell_Mem_CAS_1 : Known A0 num Try.prog [] := known_nil
theorem s_cell_Mem_CAS_1 : S 96 F09.c_cell_Mem_CAS_1 := func_sound k_cell_Mem_CAS_1 Try.func96 chk_cell_Mem_CAS_1
theorem m_cell_Mem_CAS_1 : Mono (F09.c_cell_Mem_CAS_1 (X := Unit)) := amFunc_mono (fun g f h => (k_cell_Mem_CAS_1 g f h).2.2) _
theorem k_cell_Mem_Load_1 : Known A0 num Try.prog [] := known_nil
theorem s_cell_Mem_Load_1 : S 83 F09.c_cell_Mem_Load_1 := func_sound k_cell_Mem_Load_1 Try.func83 chk_cell_Mem_Load_1
theorem m_cell_Mem_Load_1 : Mono (F09.c_cell_Mem_Load_1 (X := Unit)) := amFunc_mono (fun g f h => (k_cell_Mem_Load_1 g f h).2.2) _
theorem k_put_NewLay_1 : Known A0 num Try.prog [] := known_nil
theorem s_put_NewLay_1 : S 73 F09.c_put_NewLay_1 := func_sound k_put_NewLay_1 Try.func73 chk_put_NewLay_1
theorem m_put_NewLay_1 : Mono (F09.c_put_NewLay_1 (X := Unit)) := amFunc_mono (fun g f h => (k_put_NewLay_1 g f h).2.2) _
theorem k_cell_Mem_access : Known A0 num Try.prog [(56, F09.c_cell_Mem_there), (71, F09.c_cell_counts_note), (49, F09.c_cell_Mem_Store_1), (51, F09.c_cell_Mem_CAS_1), (52, F09.c_cell_Mem_Load_1), (213, F09.c_put_NewLay_1)] := known_cons ok_cell_Mem_there s_cell_Mem_there m_cell_Mem_there (known_cons ok_cell_counts_note s_cell_counts_note m_cell_counts_note (known_cons ok_cell_Mem_Store_1 s_cell_Mem_Store_1 m_cell_Mem_Store_1 (known_cons ok_cell_Mem_CAS_1 s_cell_Mem_CAS_1 m_cell_Mem_CAS_1 (known_cons ok_cell_Mem_Load_1 s_cell_Mem_Load_1 m_cell_Mem_Load_1 (known_cons ok_put_NewLay_1 s_put_NewLay_1 m_put_NewLay_1 (known_nil))))))
theorem s_cell_Mem_access : S 69 F09.c_cell_Mem_access := func_sound k_cell_Mem_access Try.func69 chk_cell_Mem_access
theorem m_cell_Mem_access : Mono (F09.c_cell_Mem_access (X := Unit)) := amFunc_mono (fun g f h => (k_cell_Mem_access g f h).2.2) _
theorem k_cell_Mem_Store : Known A0 num Try.prog [(50, F09.c_cell_Mem_access), (49, F09.c_cell_Mem_Store_1)] := known_cons ok_cell_Mem_access s_cell_Mem_access m_cell_Mem_access (known_cons ok_cell_Mem_Store_1 s_cell_Mem_Store_1 m_cell_Mem_Store_1 (known_nil))
theorem s_cell_Mem_Store : S 33 F09.c_cell_Mem_Store := func_sound k_cell_Mem_Store Try.func33 chk_cell_Mem_Store
theorem m_cell_Mem_Store : Mono (F09.c_cell_Mem_Store (X := Unit)) := amFunc_mono (fun g f h => (k_cell_Mem_Store g f h).2.2) _
theorem k_conf_Config_Word : Known A0 num Try.prog [(177, F09.c_conf_own_at)] := known_cons ok_conf_own_at s_conf_own_at m_conf_own_at (known_nil)
theorem s_conf_Config_Word : S 34 F09.c_conf_Config_Word := func_sound k_conf_Config_Word Try.func34 chk_conf_Config_Word
theorem m_conf_Config_Word : Mono (F09.c_conf_Config_Word (X := Unit)) := amFunc_mono (fun g f h => (k_conf_Config_Word g f h).2.2) _
theorem k_law09_ring : Known A0 num Try.prog [(156, F09.c_conf_Config_Cells), (21, F09.c_cell_New), (160, F09.c_conf_Config_Slot), (22, F09.c_cell_Mem_Store), (159, F09.c_conf_Config_Word)] := known_cons ok_conf_Config_Cells s_conf_Config_Cells m_conf_Config_Cells (known_cons ok_cell_New s_cell_New m_cell_New (known_cons ok_conf_Config_Slot s_conf_Config_Slot m_conf_Config_Slot (known_cons ok_cell_Mem_Store s_cell_Mem_Store m_cell_Mem_Store (known_cons ok_conf_Config_Word s_conf_Config_Word m_conf_Config_Word (known_nil)))))
theorem s_law09_ring : S 38 F09.c_law09_ring := func_sound k_law09_ring Try.func38 chk_law09_ring
theorem m_law09_ring : Mono (F09.c_law09_ring (X := Unit)) := amFunc_mono (fun g f h => (k_law09_ring g f h).2.2) _
theorem k_put_from : Known A0 num Try.prog [(159, F09.c_conf_Config_Word)] := known_cons ok_conf_Config_Word s_conf_Config_Word m_conf_Config_Word (known_nil)
theorem s_put_from : S 50 F09.c_put_from := func_sound k_put_from Try.func50 chk_put_from
theorem m_put_from : Mono (F09.c_put_from (X := Unit)) := amFunc_mono (fun g f h => (k_put_from g f h).2.2) _
theorem k_put_New : Known A0 num Try.prog [(206, F09.c_put_from)] := known_cons ok_put_from s_put_from m_put_from (known_nil)
theorem s_put_New : S 15 F09.c_put_New := func_sound k_put_New Try.func15 chk_put_New
theorem m_put_New : Mono (F09.c_put_New (X := Unit)) := amFunc_mono (fun g f h => (k_put_New g f h).2.2) _
theorem k_put_Put_Done : Known A0 num Try.prog [] := known_nil
theorem s_put_Put_Done : S 23 F09.c_put_Put_Done := func_sound k_put_Put_Done Try.func23 chk_put_Put_Done
theorem m_put_Put_Done : Mono (F09.c_put_Put_Done (X := Unit)) := amFunc_mono (fun g f h => (k_put_Put_Done g f h).2.2) _
theorem k_cell_Mem_Load : Known A0 num Try.prog [(50, F09.c_cell_Mem_access), (52, F09.c_cell_Mem_Load_1)] := known_cons ok_cell_Mem_access s_cell_Mem_access m_cell_Mem_access (known_cons ok_cell_Mem_Load_1 s_cell_Mem_Load_1 m_cell_Mem_Load_1 (known_nil))
theorem s_cell_Mem_Load : S 52 F09.c_cell_Mem_Load := func_sound k_cell_Mem_Load Try.func52 chk_cell_Mem_Load
theorem m_cell_Mem_Load : Mono (F09.c_cell_Mem_Load (X := Unit)) := amFunc_mono (fun g f h => (k_cell_Mem_Load g f h).2.2) _
theorem k_word_Tail : Known A0 num Try.prog [] := known_nil
theorem s_word_Tail : S 86 F09.c_word_Tail := func_sound k_word_Tail Try.func86 chk_word_Tail
theorem m_word_Tail : Mono (F09.c_word_Tail (X := Unit)) := amFunc_mono (fun g f h => (k_word_Tail g f h).2.2) _
theorem k_word_Head : Known A0 num Try.prog [] := known_nil
theorem s_word_Head : S 89 F09.c_word_Head := func_sound k_word_Head Try.func89 chk_word_Head
theorem m_word_Head : Mono (F09.c_word_Head (X := Unit)) := amFunc_mono (fun g f h => (k_word_Head g f h).2.2) _
theorem k_word_Len : Known A0 num Try.prog [(182, F09.c_word_Tail), (179, F09.c_word_Head)] := known_cons ok_word_Tail s_word_Tail m_word_Tail (known_cons ok_word_Head s_word_Head m_word_Head (known_nil))
theorem s_word_Len : S 95 F09.c_word_Len := func_sound k_word_Len Try.func95 chk_word_Len
theorem m_word_Len : Mono (F09.c_word_Len (X := Unit)) := amFunc_mono (fun g f h => (k_word_Len g f h).2.2) _
theorem k_put_ring_load : Known A0 num Try.prog [(159, F09.c_conf_Config_Word), (24, F09.c_cell_Mem_Load), (178, F09.c_word_Len)] := known_cons ok_conf_Config_Word s_conf_Config_Word m_conf_Config_Word (known_cons ok_cell_Mem_Load s_cell_Mem_Load m_cell_Mem_Load (known_cons ok_word_Len s_word_Len m_word_Len (known_nil)))
theorem s_put_ring_load : S 85 F09.c_put_ring_load := func_sound k_put_ring_load Try.func85 chk_put_ring_load
theorem m_put_ring_load : Mono (F09.c_put_ring_load (X := Unit)) := amFunc_mono (fun g f h => (k_put_ring_load g f h).2.2) _
theorem k_put_Put_look : Known A0 num Try.prog [(219, F09.c_put_ring_load)] := known_cons ok_put_ring_load s_put_ring_load m_put_ring_load (known_nil)
theorem s_put_Put_look : S 78 F09.c_put_Put_look := func_sound k_put_Put_look Try.func78 chk_put_Put_look
theorem m_put_Put_look : Mono (F09.c_put_Put_look (X := Unit)) := amFunc_mono (fun g f h => (k_put_Put_look g f h).2.2) _
theorem k_put_ring_slot : Known A0 num Try.prog [(182, F09.c_word_Tail), (160, F09.c_conf_Config_Slot)] := known_cons ok_word_Tail s_word_Tail m_word_Tail (known_cons ok_conf_Config_Slot s_conf_Config_Slot m_conf_Config_Slot (known_nil))
theorem s_put_ring_slot : S 66 F09.c_put_ring_slot := func_sound k_put_ring_slot Try.func66 chk_put_ring_slot
theorem m_put_ring_slot : Mono (F09.c_put_ring_slot (X := Unit)) := amFunc_mono (fun g f h => (k_put_ring_slot g f h).2.2) _
theorem k_put_Put_lay : Known A0 num Try.prog [(210, F09.c_put_ring_slot), (22, F09.c_cell_Mem_Store)] := known_cons ok_put_ring_slot s_put_ring_slot m_put_ring_slot (known_cons ok_cell_Mem_Store s_cell_Mem_Store m_cell_Mem_Store (known_nil))
theorem s_put_Put_lay : S 79 F09.c_put_Put_lay := func_sound k_put_Put_lay Try.func79 chk_put_Put_lay
theorem m_put_Put_lay : Mono (F09.c_put_Put_lay (X := Unit)) := amFunc_mono (fun g f h => (k_put_Put_lay g f h).2.2) _
theorem k_word_Pack : Known A0 num Try.prog [] := known_nil
theorem s_word_Pack : S 88 F09.c_word_Pack := func_sound k_word_Pack Try.func88 chk_word_Pack
theorem m_word_Pack : Mono (F09.c_word_Pack (X := Unit)) := amFunc_mono (fun g f h => (k_word_Pack g f h).2.2) _
theorem k_word_Grow : Known A0 num Try.prog [(179, F09.c_word_Head), (182, F09.c_word_Tail), (183, F09.c_word_Pack)] := known_cons ok_word_Head s_word_Head m_word_Head (known_cons ok_word_Tail s_word_Tail m_word_Tail (known_cons ok_word_Pack s_word_Pack m_word_Pack (known_nil)))
theorem s_word_Grow : S 68 F09.c_word_Grow := func_sound k_word_Grow Try.func68 chk_word_Grow
theorem m_word_Grow : Mono (F09.c_word_Grow (X := Unit)) := amFunc_mono (fun g f h => (k_word_Grow g f h).2.2) _
theorem k_cell_Mem_CAS : Known A0 num Try.prog [(50, F09.c_cell_Mem_access), (51, F09.c_cell_Mem_CAS_1)] := known_cons ok_cell_Mem_access s_cell_Mem_access m_cell_Mem_access (known_cons ok_cell_Mem_CAS_1 s_cell_Mem_CAS_1 m_cell_Mem_CAS_1 (known_nil))
theorem s_cell_Mem_CAS : S 87 F09.c_cell_Mem_CAS := func_sound k_cell_Mem_CAS Try.func87 chk_cell_Mem_CAS
theorem m_cell_Mem_CAS : Mono (F09.c_cell_Mem_CAS (X := Unit)) := amFunc_mono (fun g f h => (k_cell_Mem_CAS g f h).2.2) _
theorem k_put_ring_change : Known A0 num Try.prog [(159, F09.c_conf_Config_Word), (23, F09.c_cell_Mem_CAS)] := known_cons ok_conf_Config_Word s_conf_Config_Word m_conf_Config_Word (known_cons ok_cell_Mem_CAS s_cell_Mem_CAS m_cell_Mem_CAS (known_nil))
theorem s_put_ring_change : S 67 F09.c_put_ring_change := func_sound k_put_ring_change Try.func67 chk_put_ring_change
theorem m_put_ring_change : Mono (F09.c_put_ring_change (X := Unit)) := amFunc_mono (fun g f h => (k_put_ring_change g f h).2.2) _
theorem k_put_Put_swing : Known A0 num Try.prog [(211, F09.c_word_Grow), (212, F09.c_put_ring_change)] := known_cons ok_word_Grow s_word_Grow m_word_Grow (known_cons ok_put_ring_change s_put_ring_change m_put_ring_change (known_nil))
theorem s_put_Put_swing : S 80 F09.c_put_Put_swing := func_sound k_put_Put_swing Try.func80 chk_put_Put_swing
theorem m_put_Put_swing : Mono (F09.c_put_Put_swing (X := Unit)) := amFunc_mono (fun g f h => (k_put_Put_swing g f h).2.2) _
theorem k_put_Put_half : Known A0 num Try.prog [] := known_nil
theorem s_put_Put_half : S 93 F09.c_put_Put_half := func_sound k_put_Put_half Try.func93 chk_put_Put_half
theorem m_put_Put_half : Mono (F09.c_put_Put_half (X := Unit)) := amFunc_mono (fun g f h => (k_put_Put_half g f h).2.2) _
theorem k_put_Put_take : Known A0 num Try.prog [(220, F09.c_put_Put_half), (210, F09.c_put_ring_slot), (24, F09.c_cell_Mem_Load)] := known_cons ok_put_Put_half s_put_Put_half m_put_Put_half (known_cons ok_put_ring_slot s_put_ring_slot m_put_ring_slot (known_cons ok_cell_Mem_Load s_cell_Mem_Load m_cell_Mem_Load (known_nil)))
theorem s_put_Put_take : S 81 F09.c_put_Put_take := func_sound k_put_Put_take Try.func81 chk_put_Put_take
theorem m_put_Put_take : Mono (F09.c_put_Put_take (X := Unit)) := amFunc_mono (fun g f h => (k_put_Put_take g f h).2.2) _
theorem k_word_Drop : Known A0 num Try.prog [(179, F09.c_word_Head), (182, F09.c_word_Tail), (183, F09.c_word_Pack)] := known_cons ok_word_Head s_word_Head m_word_Head (known_cons ok_word_Tail s_word_Tail m_word_Tail (known_cons ok_word_Pack s_word_Pack m_word_Pack (known_nil)))
theorem s_word_Drop : S 94 F09.c_word_Drop := func_sound k_word_Drop Try.func94 chk_word_Drop
theorem m_word_Drop : Mono (F09.c_word_Drop (X := Unit)) := amFunc_mono (fun g f h => (k_word_Drop g f h).2.2) _
theorem k_put_Put_cut : Known A0 num Try.prog [(220, F09.c_put_Put_half), (221, F09.c_word_Drop), (212, F09.c_put_ring_change)] := known_cons ok_put_Put_half s_put_Put_half m_put_Put_half (known_cons ok_word_Drop s_word_Drop m_word_Drop (known_cons ok_put_ring_change s_put_ring_change m_put_ring_change (known_nil)))
theorem s_put_Put_cut : S 82 F09.c_put_Put_cut := func_sound k_put_Put_cut Try.func82 chk_put_Put_cut
theorem m_put_Put_cut : Mono (F09.c_put_Put_cut (X := Unit)) := amFunc_mono (fun g f h => (k_put_Put_cut g f h).2.2) _
theorem k_put_ways : Known A0 num Try.prog [(214, F09.c_put_Put_look), (215, F09.c_put_Put_lay), (216, F09.c_put_Put_swing), (217, F09.c_put_Put_take), (218, F09.c_put_Put_cut)] := known_cons ok_put_Put_look s_put_Put_look m_put_Put_look (known_cons ok_put_Put_lay s_put_Put_lay m_put_Put_lay (known_cons ok_put_Put_swing s_put_Put_swing m_put_Put_swing (known_cons ok_put_Put_take s_put_Put_take m_put_Put_take (known_cons ok_put_Put_cut s_put_Put_cut m_put_Put_cut (known_nil)))))
theorem s_put_ways : S 51 F09.c_put_ways := func_sound k_put_ways Try.func51 chk_put_ways
theorem m_put_ways : Mono (F09.c_put_ways (X := Unit)) := amFunc_mono (fun g f h => (k_put_ways g f h).2.2) _
theorem k_put_Put_Step : Known A0 num Try.prog [(191, F09.c_put_Put_Done), (207, F09.c_put_ways), (49, F09.c_cell_Mem_Store_1), (51, F09.c_cell_Mem_CAS_1), (52, F09.c_cell_Mem_Load_1), (213, F09.c_put_NewLay_1), (214, F09.c_put_Put_look), (215, F09.c_put_Put_lay), (216, F09.c_put_Put_swing), (217, F09.c_put_Put_take), (218, F09.c_put_Put_cut)] := known_cons ok_put_Put_Done s_put_Put_Done m_put_Put_Done (known_cons ok_put_ways s_put_ways m_put_ways (known_cons ok_cell_Mem_Store_1 s_cell_Mem_Store_1 m_cell_Mem_Store_1 (known_cons ok_cell_Mem_CAS_1 s_cell_Mem_CAS_1 m_cell_Mem_CAS_1 (known_cons ok_cell_Mem_Load_1 s_cell_Mem_Load_1 m_cell_Mem_Load_1 (known_cons ok_put_NewLay_1 s_put_NewLay_1 m_put_NewLay_1 (known_cons ok_put_Put_look s_put_Put_look m_put_Put_look (known_cons ok_put_Put_lay s_put_Put_lay m_put_Put_lay (known_cons ok_put_Put_swing s_put_Put_swing m_put_Put_swing (known_cons ok_put_Put_take s_put_Put_take m_put_Put_take (known_cons ok_put_Put_cut s_put_Put_cut m_put_Put_cut (known_nil)))))))))))
theorem s_put_Put_Step : S 16 F09.c_put_Put_Step := func_sound k_put_Put_Step Try.func16 chk_put_Put_Step
theorem m_put_Put_Step : Mono (F09.c_put_Put_Step (X := Unit)) := amFunc_mono (fun g f h => (k_put_Put_Step g f h).2.2) _
theorem k_slices_Clone_int : Known A0 num Try.prog [] := known_nil
theorem s_slices_Clone_int : S 53 F09.c_slices_Clone_int := func_sound k_slices_Clone_int Try.func53 chk_slices_Clone_int
theorem m_slices_Clone_int : Mono (F09.c_slices_Clone_int (X := Unit)) := amFunc_mono (fun g f h => (k_slices_Clone_int g f h).2.2) _
theorem k_put_Put_Over : Known A0 num Try.prog [(208, F09.c_slices_Clone_int)] := known_cons ok_slices_Clone_int s_slices_Clone_int m_slices_Clone_int (known_nil)
theorem s_put_Put_Over : S 18 F09.c_put_Put_Over := func_sound k_put_Put_Over Try.func18 chk_put_Put_Over
theorem m_put_Put_Over : Mono (F09.c_put_Put_Over (X := Unit)) := amFunc_mono (fun g f h => (k_put_Put_Over g f h).2.2) _
theorem k_kit_SameInts : Known A0 num Try.prog [] := known_nil
theorem s_kit_SameInts : S 19 F09.c_kit_SameInts := func_sound k_kit_SameInts Try.func19 chk_kit_SameInts
theorem m_kit_SameInts : Mono (F09.c_kit_SameInts (X := Unit)) := amFunc_mono (fun g f h => (k_kit_SameInts g f h).2.2) _
theorem k_slices_Clone_uint64 : Known A0 num Try.prog [] := known_nil
theorem s_slices_Clone_uint64 : S 77 F09.c_slices_Clone_uint64 := func_sound k_slices_Clone_uint64 Try.func77 chk_slices_Clone_uint64
theorem m_slices_Clone_uint64 : Mono (F09.c_slices_Clone_uint64 (X := Unit)) := amFunc_mono (fun g f h => (k_slices_Clone_uint64 g f h).2.2) _
theorem k_cell_Mem_All : Known A0 num Try.prog [(61, F09.c_slices_Clone_uint64)] := known_cons ok_slices_Clone_uint64 s_slices_Clone_uint64 m_slices_Clone_uint64 (known_nil)
theorem s_cell_Mem_All : S 49 F09.c_cell_Mem_All := func_sound k_cell_Mem_All Try.func49 chk_cell_Mem_All
theorem m_cell_Mem_All : Mono (F09.c_cell_Mem_All (X := Unit)) := amFunc_mono (fun g f h => (k_cell_Mem_All g f h).2.2) _
theorem k_docs_Ring : Known A0 num Try.prog [(47, F09.c_cell_Mem_All), (156, F09.c_conf_Config_Cells), (159, F09.c_conf_Config_Word), (160, F09.c_conf_Config_Slot)] := known_cons ok_cell_Mem_All s_cell_Mem_All m_cell_Mem_All (known_cons ok_conf_Config_Cells s_conf_Config_Cells m_conf_Config_Cells (known_cons ok_conf_Config_Word s_conf_Config_Word m_conf_Config_Word (known_cons ok_conf_Config_Slot s_conf_Config_Slot m_conf_Config_Slot (known_nil))))
theorem s_docs_Ring : S 14 F09.c_docs_Ring := func_sound k_docs_Ring Try.func14 chk_docs_Ring
theorem m_docs_Ring : Mono (F09.c_docs_Ring (X := Unit)) := amFunc_mono (fun g f h => (k_docs_Ring g f h).2.2) _
theorem k_docs_Thief : Known A0 num Try.prog [(136, F09.c_docs_Ring), (159, F09.c_conf_Config_Word), (24, F09.c_cell_Mem_Load), (22, F09.c_cell_Mem_Store)] := known_cons ok_docs_Ring s_docs_Ring m_docs_Ring (known_cons ok_conf_Config_Word s_conf_Config_Word m_conf_Config_Word (known_cons ok_cell_Mem_Load s_cell_Mem_Load m_cell_Mem_Load (known_cons ok_cell_Mem_Store s_cell_Mem_Store m_cell_Mem_Store (known_nil))))
theorem s_docs_Thief : S 17 F09.c_docs_Thief := func_sound k_docs_Thief Try.func17 chk_docs_Thief
theorem m_docs_Thief : Mono (F09.c_docs_Thief (X := Unit)) := amFunc_mono (fun g f h => (k_docs_Thief g f h).2.2) _
theorem k_law09_works : Known A0 num Try.prog [(205, F09.c_law09_ring), (185, F09.c_put_New), (186, F09.c_put_Put_Step), (187, F09.c_put_Put_Over), (84, F09.c_kit_SameInts), (136, F09.c_docs_Ring), (139, F09.c_docs_Thief)] := known_cons ok_law09_ring s_law09_ring m_law09_ring (known_cons ok_put_New s_put_New m_put_New (known_cons ok_put_Put_Step s_put_Put_Step m_put_Put_Step (known_cons ok_put_Put_Over s_put_Put_Over m_put_Put_Over (known_cons ok_kit_SameInts s_kit_SameInts m_kit_SameInts (known_cons ok_docs_Ring s_docs_Ring m_docs_Ring (known_cons ok_docs_Thief s_docs_Thief m_docs_Thief (known_nil)))))))
theorem s_law09_works : S 9 F09.c_law09_works := func_sound k_law09_works Try.func9 chk_law09_works
theorem m_law09_works : Mono (F09.c_law09_works (X := Unit)) := amFunc_mono (fun g f h => (k_law09_works g f h).2.2) _
theorem k_kit_Pick : Known A0 num Try.prog [] := known_nil
theorem s_kit_Pick : S 11 F09.c_kit_Pick := func_sound k_kit_Pick Try.func11 chk_kit_Pick
theorem m_kit_Pick : Mono (F09.c_kit_Pick (X := Unit)) := amFunc_mono (fun g f h => (k_kit_Pick g f h).2.2) _
theorem k_put_Put_Hands : Known A0 num Try.prog [(208, F09.c_slices_Clone_int)] := known_cons ok_slices_Clone_int s_slices_Clone_int m_slices_Clone_int (known_nil)
theorem s_put_Put_Hands : S 22 F09.c_put_Put_Hands := func_sound k_put_Put_Hands Try.func22 chk_put_Put_Hands
theorem m_put_Put_Hands : Mono (F09.c_put_Put_Hands (X := Unit)) := amFunc_mono (fun g f h => (k_put_Put_Hands g f h).2.2) _
theorem k_put_Lay_Done : Known A0 num Try.prog [] := known_nil
theorem s_put_Lay_Done : S 30 F09.c_put_Lay_Done := func_sound k_put_Lay_Done Try.func30 chk_put_Lay_Done
theorem m_put_Lay_Done : Mono (F09.c_put_Lay_Done (X := Unit)) := amFunc_mono (fun g f h => (k_put_Lay_Done g f h).2.2) _
theorem k_put_Lay_look : Known A0 num Try.prog [(219, F09.c_put_ring_load)] := known_cons ok_put_ring_load s_put_ring_load m_put_ring_load (known_nil)
theorem s_put_Lay_look : S 65 F09.c_put_Lay_look := func_sound k_put_Lay_look Try.func65 chk_put_Lay_look
theorem m_put_Lay_look : Mono (F09.c_put_Lay_look (X := Unit)) := amFunc_mono (fun g f h => (k_put_Lay_look g f h).2.2) _
theorem k_put_Lay_Step : Known A0 num Try.prog [(196, F09.c_put_Lay_Done), (209, F09.c_put_Lay_look), (210, F09.c_put_ring_slot), (22, F09.c_cell_Mem_Store), (211, F09.c_word_Grow), (212, F09.c_put_ring_change)] := known_cons ok_put_Lay_Done s_put_Lay_Done m_put_Lay_Done (known_cons ok_put_Lay_look s_put_Lay_look m_put_Lay_look (known_cons ok_put_ring_slot s_put_ring_slot m_put_ring_slot (known_cons ok_cell_Mem_Store s_cell_Mem_Store m_cell_Mem_Store (known_cons ok_word_Grow s_word_Grow m_word_Grow (known_cons ok_put_ring_change s_put_ring_change m_put_ring_change (known_nil))))))
theorem s_put_Lay_Step : S 29 F09.c_put_Lay_Step := func_sound k_put_Lay_Step Try.func29 chk_put_Lay_Step
theorem m_put_Lay_Step : Mono (F09.c_put_Lay_Step (X := Unit)) := amFunc_mono (fun g f h => (k_put_Lay_Step g f h).2.2) _
theorem k_put_Lay_Hands : Known A0 num Try.prog [(208, F09.c_slices_Clone_int)] := known_cons ok_slices_Clone_int s_slices_Clone_int m_slices_Clone_int (known_nil)
theorem s_put_Lay_Hands : S 31 F09.c_put_Lay_Hands := func_sound k_put_Lay_Hands Try.func31 chk_put_Lay_Hands
theorem m_put_Lay_Hands : Mono (F09.c_put_Lay_Hands (X := Unit)) := amFunc_mono (fun g f h => (k_put_Lay_Hands g f h).2.2) _
theorem k_cell_Mem_Ops : Known A0 num Try.prog [] := known_nil
theorem s_cell_Mem_Ops : S 25 F09.c_cell_Mem_Ops := func_sound k_cell_Mem_Ops Try.func25 chk_cell_Mem_Ops
theorem m_cell_Mem_Ops : Mono (F09.c_cell_Mem_Ops (X := Unit)) := amFunc_mono (fun g f h => (k_cell_Mem_Ops g f h).2.2) _

theorem s_worksG : S 9 (pureF F09.worksG) := lift_sound F09.works_lift s_law09_works
theorem k_none : Known A0 num Try.prog (F09.Gnone (X := Unit)) := known_cons ok_kit_Pick s_kit_Pick m_kit_Pick (known_cons ok_cell_New s_cell_New m_cell_New (known_cons ok_put_Put_Step s_put_Put_Step m_put_Put_Step (known_cons ok_put_Put_Done s_put_Put_Done m_put_Put_Done (known_cons ok_put_Put_Over s_put_Put_Over m_put_Put_Over (known_cons ok_put_Put_Hands s_put_Put_Hands m_put_Put_Hands (known_cons ok_put_Lay_Step s_put_Lay_Step m_put_Lay_Step (known_cons ok_put_Lay_Done s_put_Lay_Done m_put_Lay_Done (known_cons ok_put_Lay_Hands s_put_Lay_Hands m_put_Lay_Hands (known_cons ok_cell_Mem_Ops s_cell_Mem_Ops m_cell_Mem_Ops (known_cons ok_law09_works s_worksG F09.works_lift.mono known_nil))))))))))
theorem s_law : S 5 (amFunc F09.Gnone F09.law09_PutNone) := func_sound k_none Try.func5 chk_law09_PutNone
set_option maxRecDepth 100000 in
theorem law_run (m : Mem Unit) (vs : List AV) (h : IsVs Try.prog m 4 Try.f5.params.toList vs) : ∃ m', amFunc F09.Gnone F09.law09_PutNone vs m = some (.bool true, m') := by
  rw [Try.params5] at h
  obtain ⟨a, vs, rfl, ha, rfl⟩ := h
  obtain ⟨p, rfl, _⟩ := ha.intV Try.underlying3
  obtain ⟨r, m', h1, rfl⟩ := F09.none_run m p
  exact ⟨m', h1⟩

set_option maxRecDepth 100000 in
theorem putNone_lifted (os : Os) (started : os.Started) (H : Type) (enc : TypeId × Value → H) :
    ReturnsInHanded {} Try.checked os 5 .any (Rows.putNoneSpec.pre6 enc Try.prog Try.f5 Rows.putNoneRow.domain false) (Rows.putNoneSpec.post enc Try.prog Try.f5 false true false false) := by
  refine returnsInHanded_of_change (C := Try.checked) Try.own started (by kernel_rfl) Try.func5
    (ChangeSpec.witness6 (enc := enc) (C := Try.checked) false ⟨#[], #[.int .i64 0], []⟩ 8 (by kernel_rfl) (by kernel_rfl) (by kernel_rfl) (by kernel_rfl)) ?_
  intro W base args ds gs before hval hW _ _
  exact law_body (tb := 4) 4 s_law rfl (fun ds hl => by
    rw [Try.params5] at hl
    match ds, hl with
    | [_], _ => rfl) rfl (by kernel_rfl) Try.laidOut (by rw [Try.params5]; kernel_rfl) law_run W base args ds gs before hval hW

theorem putNone_holds : Rows.PutNoneSaid :=
  OpenClaim.holds_of_wide 5 Try.f5 rfl rfl rfl rfl rfl rfl rfl ⟨rfl, rfl, rfl, rfl, rfl⟩ rfl rfl rfl rfl rfl (by kernel_rfl) Try.func5 (by kernel_rfl)
    (of_decide_eq_true (by kernel_rfl)) (by unfold Func.isWrapper; first | (rw [if_pos (by decide +kernel)]; kernel_rfl) | (rw [if_neg (by decide +kernel)]; exact ⟨rfl, rfl⟩))
    (fun os started H enc _ => putNone_lifted os started H enc)
#print axioms putNone_holds
end Go.Proofs.Ytgfddegdjdeeoaa
