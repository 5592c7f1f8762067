import Derived.Test.YtgfddegdjdeeoaaXS09
import Derived.Test.YtgfddegdjdeeoaaXG22
import Derived.Test.YtgfddegdjdeeoaaXG21
import Derived.Test.YtgfddegdjdeeoaaXG20
import Derived.Test.YtgfddegdjdeeoaaXG18
import Derived.Test.YtgfddegdjdeeoaaXG16
import Derived.Test.YtgfddegdjdeeoaaXG23
set_option linter.unusedSimpArgs false
set_option linter.unusedVariables false
namespace Go.Proofs.Ytgfddegdjdeeoaa
open Go.Am
abbrev Ob := Go.Am.Ob
def A0 : AbsSem Ob := AbsOf num concM
abbrev S (k : Nat) (f : AFun Ob) : Prop := Sound A0 num Try.prog k f
theorem k_conf_within : Known A0 num Try.prog [] := known_nil
theorem s_conf_within : S 76 F09.c_conf_within := func_sound k_conf_within Try.func76 chk_conf_within
theorem m_conf_within : Mono (F09.c_conf_within (X := Ob)) := amFunc_mono (fun g f h => (k_conf_within g f h).2.2) _
theorem k_conf_Config_Right : Known A0 num Try.prog [(176, F09.c_conf_within)] := known_cons ok_conf_within s_conf_within m_conf_within (known_nil)
theorem s_conf_Config_Right : S 41 F09.c_conf_Config_Right := func_sound k_conf_Config_Right Try.func41 chk_conf_Config_Right
theorem m_conf_Config_Right : Mono (F09.c_conf_Config_Right (X := Ob)) := amFunc_mono (fun g f h => (k_conf_Config_Right g f h).2.2) _
theorem k_conf_Config_Cells : Known A0 num Try.prog [(157, F09.c_conf_Config_Right)] := known_cons ok_conf_Config_Right s_conf_Config_Right m_conf_Config_Right (known_nil)
theorem s_conf_Config_Cells : S 32 F09.c_conf_Config_Cells := func_sound k_conf_Config_Cells Try.func32 chk_conf_Config_Cells
theorem m_conf_Config_Cells : Mono (F09.c_conf_Config_Cells (X := Ob)) := amFunc_mono (fun g f h => (k_conf_Config_Cells g f h).2.2) _
theorem k_cell_New : Known A0 num Try.prog [] := known_nil
theorem s_cell_New : S 28 F09.c_cell_New := func_sound k_cell_New Try.func28 chk_cell_New
theorem m_cell_New : Mono (F09.c_cell_New (X := Ob)) := amFunc_mono (fun g f h => (k_cell_New g f h).2.2) _
theorem k_conf_own_at : Known A0 num Try.prog [(157, F09.c_conf_Config_Right), (176, F09.c_conf_within)] := known_cons ok_conf_Config_Right s_conf_Config_Right m_conf_Config_Right (known_cons ok_conf_within s_conf_within m_conf_within (known_nil))
theorem s_conf_own_at : S 71 F09.c_conf_own_at := func_sound k_conf_own_at Try.func71 chk_conf_own_at
theorem m_conf_own_at : Mono (F09.c_conf_own_at (X := Ob)) := amFunc_mono (fun g f h => (k_conf_own_at g f h).2.2) _
theorem k_conf_Config_Slot : Known A0 num Try.prog [(157, F09.c_conf_Config_Right), (177, F09.c_conf_own_at)] := known_cons ok_conf_Config_Right s_conf_Config_Right m_conf_Config_Right (known_cons ok_conf_own_at s_conf_own_at m_conf_own_at (known_nil))
theorem s_conf_Config_Slot : S 43 F09.c_conf_Config_Slot := func_sound k_conf_Config_Slot Try.func43 chk_conf_Config_Slot
theorem m_conf_Config_Slot : Mono (F09.c_conf_Config_Slot (X := Ob)) := amFunc_mono (fun g f h => (k_conf_Config_Slot g f h).2.2) _
theorem k_cell_Mem_there : Known A0 num Try.prog [] := known_nil
theorem s_cell_Mem_there : S 90 F09.c_cell_Mem_there := func_sound k_cell_Mem_there Try.func90 chk_cell_Mem_there
theorem m_cell_Mem_there : Mono (F09.c_cell_Mem_there (X := Ob)) := amFunc_mono (fun g f h => (k_cell_Mem_there g f h).2.2) _
theorem k_cell_counts_note : Known A0 num Try.prog [] := known_nil
theorem s_cell_counts_note : S 91 F09.c_cell_counts_note := func_sound k_cell_counts_note Try.func91 chk_cell_counts_note
theorem m_cell_counts_note : Mono (F09.c_cell_counts_note (X := Ob)) := amFunc_mono (fun g f h => (k_cell_counts_note g f h).2.2) _
theorem k_cell_Mem_Store_1 : Known A0 num Try.prog [] := known_nil
theorem s_cell_Mem_Store_1 : S 70 F09.c_cell_Mem_Store_1 := func_sound k_cell_Mem_Store_1 Try.func70 chk_cell_Mem_Store_1
theorem m_cell_Mem_Store_1 : Mono (F09.c_cell_Mem_Store_1 (X := Ob)) := amFunc_mono (fun g f h => (k_cell_Mem_Store_1 g f h).2.2) _
theorem k_cell_Mem_CAS_1 : Known A0 num Try.prog [] := known_nil
theorem s_cell_Mem_CAS_1 : S 96 F09.c_cell_Mem_CAS_1 := func_sound k_cell_Mem_CAS_1 Try.func96 chk_cell_Mem_CAS_1
theorem m_cell_Mem_CAS_1 : Mono (F09.c_cell_Mem_CAS_1 (X := Ob)) := amFunc_mono (fun g f h => (k_cell_Mem_CAS_1 g f h).2.2) _
theorem k_cell_Mem_Load_1 : Known A0 num Try.prog [] := known_nil
theorem s_cell_Mem_Load_1 : S 83 F09.c_cell_Mem_Load_1 := func_sound k_cell_Mem_Load_1 Try.func83 chk_cell_Mem_Load_1
theorem m_cell_Mem_Load_1 : Mono (F09.c_cell_Mem_Load_1 (X := Ob)) := amFunc_mono (fun g f h => (k_cell_Mem_Load_1 g f h).2.2) _
theorem k_put_NewLay_1 : Known A0 num Try.prog [] := known_nil
theorem s_put_NewLay_1 : S 73 F09.c_put_NewLay_1 := func_sound k_put_NewLay_1 Try.func73 chk_put_NewLay_1
theorem m_put_NewLay_1 : Mono (F09.c_put_NewLay_1 (X := Ob)) := amFunc_mono (fun g f h => (k_put_NewLay_1 g f h).2.2) _
theorem k_cell_Mem_access : Known A0 num Try.prog [(56, F09.c_cell_Mem_there), (71, F09.c_cell_counts_note), (49, F09.c_cell_Mem_Store_1), (51, F09.c_cell_Mem_CAS_1), (52, F09.c_cell_Mem_Load_1), (213, F09.c_put_NewLay_1)] := known_cons ok_cell_Mem_there s_cell_Mem_there m_cell_Mem_there (known_cons ok_cell_counts_note s_cell_counts_note m_cell_counts_note (known_cons ok_cell_Mem_Store_1 s_cell_Mem_Store_1 m_cell_Mem_Store_1 (known_cons ok_cell_Mem_CAS_1 s_cell_Mem_CAS_1 m_cell_Mem_CAS_1 (known_cons ok_cell_Mem_Load_1 s_cell_Mem_Load_1 m_cell_Mem_Load_1 (known_cons ok_put_NewLay_1 s_put_NewLay_1 m_put_NewLay_1 (known_nil))))))
theorem s_cell_Mem_access : S 69 F09.c_cell_Mem_access := func_sound k_cell_Mem_access Try.func69 chk_cell_Mem_access
theorem m_cell_Mem_access : Mono (F09.c_cell_Mem_access (X := Ob)) := amFunc_mono (fun g f h => (k_cell_Mem_access g f h).2.2) _
theorem k_cell_Mem_Store : Known A0 num Try.prog [(50, F09.c_cell_Mem_access), (49, F09.c_cell_Mem_Store_1)] := known_cons ok_cell_Mem_access s_cell_Mem_access m_cell_Mem_access (known_cons ok_cell_Mem_Store_1 s_cell_Mem_Store_1 m_cell_Mem_Store_1 (known_nil))
theorem s_cell_Mem_Store : S 33 F09.c_cell_Mem_Store := func_sound k_cell_Mem_Store Try.func33 chk_cell_Mem_Store
theorem m_cell_Mem_Store : Mono (F09.c_cell_Mem_Store (X := Ob)) := amFunc_mono (fun g f h => (k_cell_Mem_Store g f h).2.2) _
theorem k_conf_Config_Word : Known A0 num Try.prog [(177, F09.c_conf_own_at)] := known_cons ok_conf_own_at s_conf_own_at m_conf_own_at (known_nil)
theorem s_conf_Config_Word : S 34 F09.c_conf_Config_Word := func_sound k_conf_Config_Word Try.func34 chk_conf_Config_Word
theorem m_conf_Config_Word : Mono (F09.c_conf_Config_Word (X := Ob)) := amFunc_mono (fun g f h => (k_conf_Config_Word g f h).2.2) _
theorem k_law09_ring : Known A0 num Try.prog [(156, F09.c_conf_Config_Cells), (21, F09.c_cell_New), (160, F09.c_conf_Config_Slot), (22, F09.c_cell_Mem_Store), (159, F09.c_conf_Config_Word)] := known_cons ok_conf_Config_Cells s_conf_Config_Cells m_conf_Config_Cells (known_cons ok_cell_New s_cell_New m_cell_New (known_cons ok_conf_Config_Slot s_conf_Config_Slot m_conf_Config_Slot (known_cons ok_cell_Mem_Store s_cell_Mem_Store m_cell_Mem_Store (known_cons ok_conf_Config_Word s_conf_Config_Word m_conf_Config_Word (known_nil)))))
theorem s_law09_ring : S 38 F09.c_law09_ring := func_sound k_law09_ring Try.func38 chk_law09_ring
theorem m_law09_ring : Mono (F09.c_law09_ring (X := Ob)) := amFunc_mono (fun g f h => (k_law09_ring g f h).2.2) _
theorem k_put_from : Known A0 num Try.prog [(159, F09.c_conf_Config_Word)] := known_cons ok_conf_Config_Word s_conf_Config_Word m_conf_Config_Word (known_nil)
theorem s_put_from : S 50 F09.c_put_from := func_sound k_put_from Try.func50 chk_put_from
theorem m_put_from : Mono (F09.c_put_from (X := Ob)) := amFunc_mono (fun g f h => (k_put_from g f h).2.2) _
theorem k_put_New : Known A0 num Try.prog [(206, F09.c_put_from)] := known_cons ok_put_from s_put_from m_put_from (known_nil)
theorem s_put_New : S 15 F09.c_put_New := func_sound k_put_New Try.func15 chk_put_New
theorem m_put_New : Mono (F09.c_put_New (X := Ob)) := amFunc_mono (fun g f h => (k_put_New g f h).2.2) _
theorem k_put_Put_Done : Known A0 num Try.prog [] := known_nil
theorem s_put_Put_Done : S 23 F09.c_put_Put_Done := func_sound k_put_Put_Done Try.func23 chk_put_Put_Done
theorem m_put_Put_Done : Mono (F09.c_put_Put_Done (X := Ob)) := amFunc_mono (fun g f h => (k_put_Put_Done g f h).2.2) _
theorem k_cell_Mem_Load : Known A0 num Try.prog [(50, F09.c_cell_Mem_access), (52, F09.c_cell_Mem_Load_1)] := known_cons ok_cell_Mem_access s_cell_Mem_access m_cell_Mem_access (known_cons ok_cell_Mem_Load_1 s_cell_Mem_Load_1 m_cell_Mem_Load_1 (known_nil))
theorem s_cell_Mem_Load : S 52 F09.c_cell_Mem_Load := func_sound k_cell_Mem_Load Try.func52 chk_cell_Mem_Load
theorem m_cell_Mem_Load : Mono (F09.c_cell_Mem_Load (X := Ob)) := amFunc_mono (fun g f h => (k_cell_Mem_Load g f h).2.2) _
theorem k_word_Tail : Known A0 num Try.prog [] := known_nil
theorem s_word_Tail : S 86 F09.c_word_Tail := func_sound k_word_Tail Try.func86 chk_word_Tail
theorem m_word_Tail : Mono (F09.c_word_Tail (X := Ob)) := amFunc_mono (fun g f h => (k_word_Tail g f h).2.2) _
theorem k_word_Head : Known A0 num Try.prog [] := known_nil
theorem s_word_Head : S 89 F09.c_word_Head := func_sound k_word_Head Try.func89 chk_word_Head
theorem m_word_Head : Mono (F09.c_word_Head (X := Ob)) := amFunc_mono (fun g f h => (k_word_Head g f h).2.2) _
theorem k_word_Len : Known A0 num Try.prog [(182, F09.c_word_Tail), (179, F09.c_word_Head)] := known_cons ok_word_Tail s_word_Tail m_word_Tail (known_cons ok_word_Head s_word_Head m_word_Head (known_nil))
theorem s_word_Len : S 95 F09.c_word_Len := func_sound k_word_Len Try.func95 chk_word_Len
theorem m_word_Len : Mono (F09.c_word_Len (X := Ob)) := amFunc_mono (fun g f h => (k_word_Len g f h).2.2) _
theorem k_put_ring_load : Known A0 num Try.prog [(159, F09.c_conf_Config_Word), (24, F09.c_cell_Mem_Load), (178, F09.c_word_Len)] := known_cons ok_conf_Config_Word s_conf_Config_Word m_conf_Config_Word (known_cons ok_cell_Mem_Load s_cell_Mem_Load m_cell_Mem_Load (known_cons ok_word_Len s_word_Len m_word_Len (known_nil)))
theorem s_put_ring_load : S 85 F09.c_put_ring_load := func_sound k_put_ring_load Try.func85 chk_put_ring_load
theorem m_put_ring_load : Mono (F09.c_put_ring_load (X := Ob)) := amFunc_mono (fun g f h => (k_put_ring_load g f h).2.2) _
theorem k_put_Put_look : Known A0 num Try.prog [(219, F09.c_put_ring_load)] := known_cons ok_put_ring_load s_put_ring_load m_put_ring_load (known_nil)
theorem s_put_Put_look : S 78 F09.c_put_Put_look := func_sound k_put_Put_look Try.func78 chk_put_Put_look
theorem m_put_Put_look : Mono (F09.c_put_Put_look (X := Ob)) := amFunc_mono (fun g f h => (k_put_Put_look g f h).2.2) _
theorem k_put_ring_slot : Known A0 num Try.prog [(182, F09.c_word_Tail), (160, F09.c_conf_Config_Slot)] := known_cons ok_word_Tail s_word_Tail m_word_Tail (known_cons ok_conf_Config_Slot s_conf_Config_Slot m_conf_Config_Slot (known_nil))
theorem s_put_ring_slot : S 66 F09.c_put_ring_slot := func_sound k_put_ring_slot Try.func66 chk_put_ring_slot
theorem m_put_ring_slot : Mono (F09.c_put_ring_slot (X := Ob)) := amFunc_mono (fun g f h => (k_put_ring_slot g f h).2.2) _
theorem k_put_Put_lay : Known A0 num Try.prog [(210, F09.c_put_ring_slot), (22, F09.c_cell_Mem_Store)] := known_cons ok_put_ring_slot s_put_ring_slot m_put_ring_slot (known_cons ok_cell_Mem_Store s_cell_Mem_Store m_cell_Mem_Store (known_nil))
theorem s_put_Put_lay : S 79 F09.c_put_Put_lay := func_sound k_put_Put_lay Try.func79 chk_put_Put_lay
theorem m_put_Put_lay : Mono (F09.c_put_Put_lay (X := Ob)) := amFunc_mono (fun g f h => (k_put_Put_lay g f h).2.2) _
theorem k_word_Pack : Known A0 num Try.prog [] := known_nil
theorem s_word_Pack : S 88 F09.c_word_Pack := func_sound k_word_Pack Try.func88 chk_word_Pack
theorem m_word_Pack : Mono (F09.c_word_Pack (X := Ob)) := amFunc_mono (fun g f h => (k_word_Pack g f h).2.2) _
theorem k_word_Grow : Known A0 num Try.prog [(179, F09.c_word_Head), (182, F09.c_word_Tail), (183, F09.c_word_Pack)] := known_cons ok_word_Head s_word_Head m_word_Head (known_cons ok_word_Tail s_word_Tail m_word_Tail (known_cons ok_word_Pack s_word_Pack m_word_Pack (known_nil)))
theorem s_word_Grow : S 68 F09.c_word_Grow := func_sound k_word_Grow Try.func68 chk_word_Grow
theorem m_word_Grow : Mono (F09.c_word_Grow (X := Ob)) := amFunc_mono (fun g f h => (k_word_Grow g f h).2.2) _
theorem k_cell_Mem_CAS : Known A0 num Try.prog [(50, F09.c_cell_Mem_access), (51, F09.c_cell_Mem_CAS_1)] := known_cons ok_cell_Mem_access s_cell_Mem_access m_cell_Mem_access (known_cons ok_cell_Mem_CAS_1 s_cell_Mem_CAS_1 m_cell_Mem_CAS_1 (known_nil))
theorem s_cell_Mem_CAS : S 87 F09.c_cell_Mem_CAS := func_sound k_cell_Mem_CAS Try.func87 chk_cell_Mem_CAS
theorem m_cell_Mem_CAS : Mono (F09.c_cell_Mem_CAS (X := Ob)) := amFunc_mono (fun g f h => (k_cell_Mem_CAS g f h).2.2) _
theorem k_put_ring_change : Known A0 num Try.prog [(159, F09.c_conf_Config_Word), (23, F09.c_cell_Mem_CAS)] := known_cons ok_conf_Config_Word s_conf_Config_Word m_conf_Config_Word (known_cons ok_cell_Mem_CAS s_cell_Mem_CAS m_cell_Mem_CAS (known_nil))
theorem s_put_ring_change : S 67 F09.c_put_ring_change := func_sound k_put_ring_change Try.func67 chk_put_ring_change
theorem m_put_ring_change : Mono (F09.c_put_ring_change (X := Ob)) := amFunc_mono (fun g f h => (k_put_ring_change g f h).2.2) _
theorem k_put_Put_swing : Known A0 num Try.prog [(211, F09.c_word_Grow), (212, F09.c_put_ring_change)] := known_cons ok_word_Grow s_word_Grow m_word_Grow (known_cons ok_put_ring_change s_put_ring_change m_put_ring_change (known_nil))
theorem s_put_Put_swing : S 80 F09.c_put_Put_swing := func_sound k_put_Put_swing Try.func80 chk_put_Put_swing
theorem m_put_Put_swing : Mono (F09.c_put_Put_swing (X := Ob)) := amFunc_mono (fun g f h => (k_put_Put_swing g f h).2.2) _
theorem k_put_Put_half : Known A0 num Try.prog [] := known_nil
theorem s_put_Put_half : S 93 F09.c_put_Put_half := func_sound k_put_Put_half Try.func93 chk_put_Put_half
theorem m_put_Put_half : Mono (F09.c_put_Put_half (X := Ob)) := amFunc_mono (fun g f h => (k_put_Put_half g f h).2.2) _
theorem k_put_Put_take : Known A0 num Try.prog [(220, F09.c_put_Put_half), (210, F09.c_put_ring_slot), (24, F09.c_cell_Mem_Load)] := known_cons ok_put_Put_half s_put_Put_half m_put_Put_half (known_cons ok_put_ring_slot s_put_ring_slot m_put_ring_slot (known_cons ok_cell_Mem_Load s_cell_Mem_Load m_cell_Mem_Load (known_nil)))
theorem s_put_Put_take : S 81 F09.c_put_Put_take := func_sound k_put_Put_take Try.func81 chk_put_Put_take
theorem m_put_Put_take : Mono (F09.c_put_Put_take (X := Ob)) := amFunc_mono (fun g f h => (k_put_Put_take g f h).2.2) _
theorem k_word_Drop : Known A0 num Try.prog [(179, F09.c_word_Head), (182, F09.c_word_Tail), (183, F09.c_word_Pack)] := known_cons ok_word_Head s_word_Head m_word_Head (known_cons ok_word_Tail s_word_Tail m_word_Tail (known_cons ok_word_Pack s_word_Pack m_word_Pack (known_nil)))
theorem s_word_Drop : S 94 F09.c_word_Drop := func_sound k_word_Drop Try.func94 chk_word_Drop
theorem m_word_Drop : Mono (F09.c_word_Drop (X := Ob)) := amFunc_mono (fun g f h => (k_word_Drop g f h).2.2) _
theorem k_put_Put_cut : Known A0 num Try.prog [(220, F09.c_put_Put_half), (221, F09.c_word_Drop), (212, F09.c_put_ring_change)] := known_cons ok_put_Put_half s_put_Put_half m_put_Put_half (known_cons ok_word_Drop s_word_Drop m_word_Drop (known_cons ok_put_ring_change s_put_ring_change m_put_ring_change (known_nil)))
theorem s_put_Put_cut : S 82 F09.c_put_Put_cut := func_sound k_put_Put_cut Try.func82 chk_put_Put_cut
theorem m_put_Put_cut : Mono (F09.c_put_Put_cut (X := Ob)) := amFunc_mono (fun g f h => (k_put_Put_cut g f h).2.2) _
theorem k_put_ways : Known A0 num Try.prog [(214, F09.c_put_Put_look), (215, F09.c_put_Put_lay), (216, F09.c_put_Put_swing), (217, F09.c_put_Put_take), (218, F09.c_put_Put_cut)] := known_cons ok_put_Put_look s_put_Put_look m_put_Put_look (known_cons ok_put_Put_lay s_put_Put_lay m_put_Put_lay (known_cons ok_put_Put_swing s_put_Put_swing m_put_Put_swing (known_cons ok_put_Put_take s_put_Put_take m_put_Put_take (known_cons ok_put_Put_cut s_put_Put_cut m_put_Put_cut (known_nil)))))
theorem s_put_ways : S 51 F09.c_put_ways := func_sound k_put_ways Try.func51 chk_put_ways
theorem m_put_ways : Mono (F09.c_put_ways (X := Ob)) := amFunc_mono (fun g f h => (k_put_ways g f h).2.2) _
theorem k_put_Put_Step : Known A0 num Try.prog [(191, F09.c_put_Put_Done), (207, F09.c_put_ways), (49, F09.c_cell_Mem_Store_1), (51, F09.c_cell_Mem_CAS_1), (52, F09.c_cell_Mem_Load_1), (213, F09.c_put_NewLay_1), (214, F09.c_put_Put_look), (215, F09.c_put_Put_lay), (216, F09.c_put_Put_swing), (217, F09.c_put_Put_take), (218, F09.c_put_Put_cut)] := known_cons ok_put_Put_Done s_put_Put_Done m_put_Put_Done (known_cons ok_put_ways s_put_ways m_put_ways (known_cons ok_cell_Mem_Store_1 s_cell_Mem_Store_1 m_cell_Mem_Store_1 (known_cons ok_cell_Mem_CAS_1 s_cell_Mem_CAS_1 m_cell_Mem_CAS_1 (known_cons ok_cell_Mem_Load_1 s_cell_Mem_Load_1 m_cell_Mem_Load_1 (known_cons ok_put_NewLay_1 s_put_NewLay_1 m_put_NewLay_1 (known_cons ok_put_Put_look s_put_Put_look m_put_Put_look (known_cons ok_put_Put_lay s_put_Put_lay m_put_Put_lay (known_cons ok_put_Put_swing s_put_Put_swing m_put_Put_swing (known_cons ok_put_Put_take s_put_Put_take m_put_Put_take (known_cons ok_put_Put_cut s_put_Put_cut m_put_Put_cut (known_nil)))))))))))
theorem s_put_Put_Step : S 16 F09.c_put_Put_Step := func_sound k_put_Put_Step Try.func16 chk_put_Put_Step
theorem m_put_Put_Step : Mono (F09.c_put_Put_Step (X := Ob)) := amFunc_mono (fun g f h => (k_put_Put_Step g f h).2.2) _
theorem k_slices_Clone_int : Known A0 num Try.prog [] := known_nil
theorem s_slices_Clone_int : S 53 F09.c_slices_Clone_int := func_sound k_slices_Clone_int Try.func53 chk_slices_Clone_int
theorem m_slices_Clone_int : Mono (F09.c_slices_Clone_int (X := Ob)) := amFunc_mono (fun g f h => (k_slices_Clone_int g f h).2.2) _
theorem k_put_Put_Over : Known A0 num Try.prog [(208, F09.c_slices_Clone_int)] := known_cons ok_slices_Clone_int s_slices_Clone_int m_slices_Clone_int (known_nil)
theorem s_put_Put_Over : S 18 F09.c_put_Put_Over := func_sound k_put_Put_Over Try.func18 chk_put_Put_Over
theorem m_put_Put_Over : Mono (F09.c_put_Put_Over (X := Ob)) := amFunc_mono (fun g f h => (k_put_Put_Over g f h).2.2) _
theorem k_kit_SameInts : Known A0 num Try.prog [] := known_nil
theorem s_kit_SameInts : S 19 F09.c_kit_SameInts := func_sound k_kit_SameInts Try.func19 chk_kit_SameInts
theorem m_kit_SameInts : Mono (F09.c_kit_SameInts (X := Ob)) := amFunc_mono (fun g f h => (k_kit_SameInts g f h).2.2) _
theorem k_slices_Clone_uint64 : Known A0 num Try.prog [] := known_nil
theorem s_slices_Clone_uint64 : S 77 F09.c_slices_Clone_uint64 := func_sound k_slices_Clone_uint64 Try.func77 chk_slices_Clone_uint64
theorem m_slices_Clone_uint64 : Mono (F09.c_slices_Clone_uint64 (X := Ob)) := amFunc_mono (fun g f h => (k_slices_Clone_uint64 g f h).2.2) _
theorem k_cell_Mem_All : Known A0 num Try.prog [(61, F09.c_slices_Clone_uint64)] := known_cons ok_slices_Clone_uint64 s_slices_Clone_uint64 m_slices_Clone_uint64 (known_nil)
theorem s_cell_Mem_All : S 49 F09.c_cell_Mem_All := func_sound k_cell_Mem_All Try.func49 chk_cell_Mem_All
theorem m_cell_Mem_All : Mono (F09.c_cell_Mem_All (X := Ob)) := amFunc_mono (fun g f h => (k_cell_Mem_All g f h).2.2) _
theorem k_docs_Ring : Known A0 num Try.prog [(47, F09.c_cell_Mem_All), (156, F09.c_conf_Config_Cells), (159, F09.c_conf_Config_Word), (160, F09.c_conf_Config_Slot)] := known_cons ok_cell_Mem_All s_cell_Mem_All m_cell_Mem_All (known_cons ok_conf_Config_Cells s_conf_Config_Cells m_conf_Config_Cells (known_cons ok_conf_Config_Word s_conf_Config_Word m_conf_Config_Word (known_cons ok_conf_Config_Slot s_conf_Config_Slot m_conf_Config_Slot (known_nil))))
theorem s_docs_Ring : S 14 F09.c_docs_Ring := func_sound k_docs_Ring Try.func14 chk_docs_Ring
theorem m_docs_Ring : Mono (F09.c_docs_Ring (X := Ob)) := amFunc_mono (fun g f h => (k_docs_Ring g f h).2.2) _
theorem k_docs_Thief : Known A0 num Try.prog [(136, F09.c_docs_Ring), (159, F09.c_conf_Config_Word), (24, F09.c_cell_Mem_Load), (22, F09.c_cell_Mem_Store)] := known_cons ok_docs_Ring s_docs_Ring m_docs_Ring (known_cons ok_conf_Config_Word s_conf_Config_Word m_conf_Config_Word (known_cons ok_cell_Mem_Load s_cell_Mem_Load m_cell_Mem_Load (known_cons ok_cell_Mem_Store s_cell_Mem_Store m_cell_Mem_Store (known_nil))))
theorem s_docs_Thief : S 17 F09.c_docs_Thief := func_sound k_docs_Thief Try.func17 chk_docs_Thief
theorem m_docs_Thief : Mono (F09.c_docs_Thief (X := Ob)) := amFunc_mono (fun g f h => (k_docs_Thief g f h).2.2) _
theorem k_law09_works : Known A0 num Try.prog [(205, F09.c_law09_ring), (185, F09.c_put_New), (186, F09.c_put_Put_Step), (187, F09.c_put_Put_Over), (84, F09.c_kit_SameInts), (136, F09.c_docs_Ring), (139, F09.c_docs_Thief)] := known_cons ok_law09_ring s_law09_ring m_law09_ring (known_cons ok_put_New s_put_New m_put_New (known_cons ok_put_Put_Step s_put_Put_Step m_put_Put_Step (known_cons ok_put_Put_Over s_put_Put_Over m_put_Put_Over (known_cons ok_kit_SameInts s_kit_SameInts m_kit_SameInts (known_cons ok_docs_Ring s_docs_Ring m_docs_Ring (known_cons ok_docs_Thief s_docs_Thief m_docs_Thief (known_nil)))))))
theorem s_law09_works : S 9 F09.c_law09_works := func_sound k_law09_works Try.func9 chk_law09_works
theorem k_ref06_New : Known A0 num Try.prog [] := known_nil
theorem s_ref06_New : S 39 F09.c_ref06_New := func_sound k_ref06_New Try.func39 chk_ref06_New
theorem m_ref06_New : Mono (F09.c_ref06_New (X := Ob)) := amFunc_mono (fun g f h => (k_ref06_New g f h).2.2) _
theorem k_ref06_there : Known A0 num Try.prog [] := known_nil
theorem s_ref06_there : S 74 F09.c_ref06_there := func_sound k_ref06_there Try.func74 chk_ref06_there
theorem m_ref06_there : Mono (F09.c_ref06_there (X := Ob)) := amFunc_mono (fun g f h => (k_ref06_there g f h).2.2) _
theorem k_ref06_with : Known A0 num Try.prog [] := known_nil
theorem s_ref06_with : S 75 F09.c_ref06_with := func_sound k_ref06_with Try.func75 chk_ref06_with
theorem m_ref06_with : Mono (F09.c_ref06_with (X := Ob)) := amFunc_mono (fun g f h => (k_ref06_with g f h).2.2) _
theorem k_ref06_Store : Known A0 num Try.prog [(72, F09.c_ref06_there), (73, F09.c_ref06_with)] := known_cons ok_ref06_there s_ref06_there m_ref06_there (known_cons ok_ref06_with s_ref06_with m_ref06_with (known_nil))
theorem s_ref06_Store : S 40 F09.c_ref06_Store := func_sound k_ref06_Store Try.func40 chk_ref06_Store
theorem m_ref06_Store : Mono (F09.c_ref06_Store (X := Ob)) := amFunc_mono (fun g f h => (k_ref06_Store g f h).2.2) _
theorem k_docs_byteAt : Known A0 num Try.prog [] := known_nil
theorem s_docs_byteAt : S 42 F09.c_docs_byteAt := func_sound k_docs_byteAt Try.func42 chk_docs_byteAt
theorem m_docs_byteAt : Mono (F09.c_docs_byteAt (X := Ob)) := amFunc_mono (fun g f h => (k_docs_byteAt g f h).2.2) _
theorem k_conf_Config_Next : Known A0 num Try.prog [(177, F09.c_conf_own_at)] := known_cons ok_conf_own_at s_conf_own_at m_conf_own_at (known_nil)
theorem s_conf_Config_Next : S 44 F09.c_conf_Config_Next := func_sound k_conf_Config_Next Try.func44 chk_conf_Config_Next
theorem m_conf_Config_Next : Mono (F09.c_conf_Config_Next (X := Ob)) := amFunc_mono (fun g f h => (k_conf_Config_Next g f h).2.2) _
theorem k_conf_Config_Stat : Known A0 num Try.prog [(177, F09.c_conf_own_at)] := known_cons ok_conf_own_at s_conf_own_at m_conf_own_at (known_nil)
theorem s_conf_Config_Stat : S 45 F09.c_conf_Config_Stat := func_sound k_conf_Config_Stat Try.func45 chk_conf_Config_Stat
theorem m_conf_Config_Stat : Mono (F09.c_conf_Config_Stat (X := Ob)) := amFunc_mono (fun g f h => (k_conf_Config_Stat g f h).2.2) _
theorem k_conf_Config_Tick : Known A0 num Try.prog [(177, F09.c_conf_own_at)] := known_cons ok_conf_own_at s_conf_own_at m_conf_own_at (known_nil)
theorem s_conf_Config_Tick : S 46 F09.c_conf_Config_Tick := func_sound k_conf_Config_Tick Try.func46 chk_conf_Config_Tick
theorem m_conf_Config_Tick : Mono (F09.c_conf_Config_Tick (X := Ob)) := amFunc_mono (fun g f h => (k_conf_Config_Tick g f h).2.2) _
theorem k_conf_Config_Sys : Known A0 num Try.prog [(177, F09.c_conf_own_at)] := known_cons ok_conf_own_at s_conf_own_at m_conf_own_at (known_nil)
theorem s_conf_Config_Sys : S 47 F09.c_conf_Config_Sys := func_sound k_conf_Config_Sys Try.func47 chk_conf_Config_Sys
theorem m_conf_Config_Sys : Mono (F09.c_conf_Config_Sys (X := Ob)) := amFunc_mono (fun g f h => (k_conf_Config_Sys g f h).2.2) _
theorem k_conf_Config_Flag : Known A0 num Try.prog [(177, F09.c_conf_own_at)] := known_cons ok_conf_own_at s_conf_own_at m_conf_own_at (known_nil)
theorem s_conf_Config_Flag : S 48 F09.c_conf_Config_Flag := func_sound k_conf_Config_Flag Try.func48 chk_conf_Config_Flag
theorem m_conf_Config_Flag : Mono (F09.c_conf_Config_Flag (X := Ob)) := amFunc_mono (fun g f h => (k_conf_Config_Flag g f h).2.2) _
theorem k_docs_Filled : Known A0 num Try.prog [(156, F09.c_conf_Config_Cells), (157, F09.c_conf_Config_Right), (158, F09.c_docs_byteAt), (159, F09.c_conf_Config_Word), (160, F09.c_conf_Config_Slot), (161, F09.c_conf_Config_Next), (162, F09.c_conf_Config_Stat), (163, F09.c_conf_Config_Tick), (164, F09.c_conf_Config_Sys), (165, F09.c_conf_Config_Flag)] := known_cons ok_conf_Config_Cells s_conf_Config_Cells m_conf_Config_Cells (known_cons ok_conf_Config_Right s_conf_Config_Right m_conf_Config_Right (known_cons ok_docs_byteAt s_docs_byteAt m_docs_byteAt (known_cons ok_conf_Config_Word s_conf_Config_Word m_conf_Config_Word (known_cons ok_conf_Config_Slot s_conf_Config_Slot m_conf_Config_Slot (known_cons ok_conf_Config_Next s_conf_Config_Next m_conf_Config_Next (known_cons ok_conf_Config_Stat s_conf_Config_Stat m_conf_Config_Stat (known_cons ok_conf_Config_Tick s_conf_Config_Tick m_conf_Config_Tick (known_cons ok_conf_Config_Sys s_conf_Config_Sys m_conf_Config_Sys (known_cons ok_conf_Config_Flag s_conf_Config_Flag m_conf_Config_Flag (known_nil))))))))))
theorem s_docs_Filled : S 13 F09.c_docs_Filled := func_sound k_docs_Filled Try.func13 chk_docs_Filled
theorem m_docs_Filled : Mono (F09.c_docs_Filled (X := Ob)) := amFunc_mono (fun g f h => (k_docs_Filled g f h).2.2) _
theorem k_cell_Mem_Len : Known A0 num Try.prog [] := known_nil
theorem s_cell_Mem_Len : S 55 F09.c_cell_Mem_Len := func_sound k_cell_Mem_Len Try.func55 chk_cell_Mem_Len
theorem k_cell_Mem_Ops : Known A0 num Try.prog [] := known_nil
theorem s_cell_Mem_Ops : S 25 F09.c_cell_Mem_Ops := func_sound k_cell_Mem_Ops Try.func25 chk_cell_Mem_Ops
theorem m_cell_Mem_Ops : Mono (F09.c_cell_Mem_Ops (X := Ob)) := amFunc_mono (fun g f h => (k_cell_Mem_Ops g f h).2.2) _
theorem k_docs_SameCells : Known A0 num Try.prog [] := known_nil
theorem s_docs_SameCells : S 56 F09.c_docs_SameCells := func_sound k_docs_SameCells Try.func56 chk_docs_SameCells
theorem m_docs_SameCells : Mono (F09.c_docs_SameCells (X := Ob)) := amFunc_mono (fun g f h => (k_docs_SameCells g f h).2.2) _
theorem k_docs_Config : Known A0 num Try.prog [] := known_nil
theorem s_docs_Config : S 21 F09.c_docs_Config := func_sound k_docs_Config Try.func21 chk_docs_Config
theorem m_docs_Config : Mono (F09.c_docs_Config (X := Ob)) := amFunc_mono (fun g f h => (k_docs_Config g f h).2.2) _
theorem k_kit_Pick : Known A0 num Try.prog [] := known_nil
theorem s_kit_Pick : S 11 F09.c_kit_Pick := func_sound k_kit_Pick Try.func11 chk_kit_Pick
theorem m_kit_Pick : Mono (F09.c_kit_Pick (X := Ob)) := amFunc_mono (fun g f h => (k_kit_Pick g f h).2.2) _
theorem k_docs_Made : Known A0 num Try.prog [(87, F09.c_kit_Pick)] := known_cons ok_kit_Pick s_kit_Pick m_kit_Pick (known_nil)
theorem s_docs_Made : S 10 F09.c_docs_Made := func_sound k_docs_Made Try.func10 chk_docs_Made
theorem m_docs_Made : Mono (F09.c_docs_Made (X := Ob)) := amFunc_mono (fun g f h => (k_docs_Made g f h).2.2) _
theorem k_put_Put_Hands : Known A0 num Try.prog [(208, F09.c_slices_Clone_int)] := known_cons ok_slices_Clone_int s_slices_Clone_int m_slices_Clone_int (known_nil)
theorem s_put_Put_Hands : S 22 F09.c_put_Put_Hands := func_sound k_put_Put_Hands Try.func22 chk_put_Put_Hands
theorem m_put_Put_Hands : Mono (F09.c_put_Put_Hands (X := Ob)) := amFunc_mono (fun g f h => (k_put_Put_Hands g f h).2.2) _
theorem k_ref05_Right : Known A0 num Try.prog [] := known_nil
theorem s_ref05_Right : S 84 F09.c_ref05_Right := func_sound k_ref05_Right Try.func84 chk_ref05_Right
theorem m_ref05_Right : Mono (F09.c_ref05_Right (X := Ob)) := amFunc_mono (fun g f h => (k_ref05_Right g f h).2.2) _
theorem k_ref09_There : Known A0 num Try.prog [(181, F09.c_ref05_Right)] := known_cons ok_ref05_Right s_ref05_Right m_ref05_Right (known_nil)
theorem s_ref09_There : S 54 F09.c_ref09_There := func_sound k_ref09_There Try.func54 chk_ref09_There
theorem m_ref09_There : Mono (F09.c_ref09_There (X := Ob)) := amFunc_mono (fun g f h => (k_ref09_There g f h).2.2) _
theorem k_ref09_New : Known A0 num Try.prog [(169, F09.c_ref09_There)] := known_cons ok_ref09_There s_ref09_There m_ref09_There (known_nil)
theorem s_ref09_New : S 20 F09.c_ref09_New := func_sound k_ref09_New Try.func20 chk_ref09_New
theorem m_ref09_New : Mono (F09.c_ref09_New (X := Ob)) := amFunc_mono (fun g f h => (k_ref09_New g f h).2.2) _
theorem k_ref09_Tail : Known A0 num Try.prog [] := known_nil
theorem s_ref09_Tail : S 57 F09.c_ref09_Tail := func_sound k_ref09_Tail Try.func57 chk_ref09_Tail
theorem m_ref09_Tail : Mono (F09.c_ref09_Tail (X := Ob)) := amFunc_mono (fun g f h => (k_ref09_Tail g f h).2.2) _
theorem k_ref09_Word : Known A0 num Try.prog [] := known_nil
theorem s_ref09_Word : S 59 F09.c_ref09_Word := func_sound k_ref09_Word Try.func59 chk_ref09_Word
theorem m_ref09_Word : Mono (F09.c_ref09_Word (X := Ob)) := amFunc_mono (fun g f h => (k_ref09_Word g f h).2.2) _
theorem k_ref06_Load : Known A0 num Try.prog [(72, F09.c_ref06_there)] := known_cons ok_ref06_there s_ref06_there m_ref06_there (known_nil)
theorem s_ref06_Load : S 58 F09.c_ref06_Load := func_sound k_ref06_Load Try.func58 chk_ref06_Load
theorem m_ref06_Load : Mono (F09.c_ref06_Load (X := Ob)) := amFunc_mono (fun g f h => (k_ref06_Load g f h).2.2) _
theorem k_ref09_Head : Known A0 num Try.prog [] := known_nil
theorem s_ref09_Head : S 64 F09.c_ref09_Head := func_sound k_ref09_Head Try.func64 chk_ref09_Head
theorem m_ref09_Head : Mono (F09.c_ref09_Head (X := Ob)) := amFunc_mono (fun g f h => (k_ref09_Head g f h).2.2) _
theorem k_ref09_Size : Known A0 num Try.prog [(171, F09.c_ref09_Tail), (170, F09.c_ref09_Head)] := known_cons ok_ref09_Tail s_ref09_Tail m_ref09_Tail (known_cons ok_ref09_Head s_ref09_Head m_ref09_Head (known_nil))
theorem s_ref09_Size : S 60 F09.c_ref09_Size := func_sound k_ref09_Size Try.func60 chk_ref09_Size
theorem m_ref09_Size : Mono (F09.c_ref09_Size (X := Ob)) := amFunc_mono (fun g f h => (k_ref09_Size g f h).2.2) _
theorem k_ref09_Slot : Known A0 num Try.prog [(172, F09.c_ref09_Word)] := known_cons ok_ref09_Word s_ref09_Word m_ref09_Word (known_nil)
theorem s_ref09_Slot : S 61 F09.c_ref09_Slot := func_sound k_ref09_Slot Try.func61 chk_ref09_Slot
theorem m_ref09_Slot : Mono (F09.c_ref09_Slot (X := Ob)) := amFunc_mono (fun g f h => (k_ref09_Slot g f h).2.2) _
theorem k_ref09_Pack : Known A0 num Try.prog [] := known_nil
theorem s_ref09_Pack : S 63 F09.c_ref09_Pack := func_sound k_ref09_Pack Try.func63 chk_ref09_Pack
theorem m_ref09_Pack : Mono (F09.c_ref09_Pack (X := Ob)) := amFunc_mono (fun g f h => (k_ref09_Pack g f h).2.2) _
theorem k_ref06_CAS : Known A0 num Try.prog [(72, F09.c_ref06_there), (73, F09.c_ref06_with)] := known_cons ok_ref06_there s_ref06_there m_ref06_there (known_cons ok_ref06_with s_ref06_with m_ref06_with (known_nil))
theorem s_ref06_CAS : S 62 F09.c_ref06_CAS := func_sound k_ref06_CAS Try.func62 chk_ref06_CAS
theorem m_ref06_CAS : Mono (F09.c_ref06_CAS (X := Ob)) := amFunc_mono (fun g f h => (k_ref06_CAS g f h).2.2) _
theorem k_put_Lay_Done : Known A0 num Try.prog [] := known_nil
theorem s_put_Lay_Done : S 30 F09.c_put_Lay_Done := func_sound k_put_Lay_Done Try.func30 chk_put_Lay_Done
theorem m_put_Lay_Done : Mono (F09.c_put_Lay_Done (X := Ob)) := amFunc_mono (fun g f h => (k_put_Lay_Done g f h).2.2) _
theorem k_put_Lay_look : Known A0 num Try.prog [(219, F09.c_put_ring_load)] := known_cons ok_put_ring_load s_put_ring_load m_put_ring_load (known_nil)
theorem s_put_Lay_look : S 65 F09.c_put_Lay_look := func_sound k_put_Lay_look Try.func65 chk_put_Lay_look
theorem m_put_Lay_look : Mono (F09.c_put_Lay_look (X := Ob)) := amFunc_mono (fun g f h => (k_put_Lay_look g f h).2.2) _
theorem k_put_Lay_Step : Known A0 num Try.prog [(196, F09.c_put_Lay_Done), (209, F09.c_put_Lay_look), (210, F09.c_put_ring_slot), (22, F09.c_cell_Mem_Store), (211, F09.c_word_Grow), (212, F09.c_put_ring_change)] := known_cons ok_put_Lay_Done s_put_Lay_Done m_put_Lay_Done (known_cons ok_put_Lay_look s_put_Lay_look m_put_Lay_look (known_cons ok_put_ring_slot s_put_ring_slot m_put_ring_slot (known_cons ok_cell_Mem_Store s_cell_Mem_Store m_cell_Mem_Store (known_cons ok_word_Grow s_word_Grow m_word_Grow (known_cons ok_put_ring_change s_put_ring_change m_put_ring_change (known_nil))))))
theorem s_put_Lay_Step : S 29 F09.c_put_Lay_Step := func_sound k_put_Lay_Step Try.func29 chk_put_Lay_Step
theorem m_put_Lay_Step : Mono (F09.c_put_Lay_Step (X := Ob)) := amFunc_mono (fun g f h => (k_put_Lay_Step g f h).2.2) _
theorem k_put_Lay_Hands : Known A0 num Try.prog [(208, F09.c_slices_Clone_int)] := known_cons ok_slices_Clone_int s_slices_Clone_int m_slices_Clone_int (known_nil)
theorem s_put_Lay_Hands : S 31 F09.c_put_Lay_Hands := func_sound k_put_Lay_Hands Try.func31 chk_put_Lay_Hands
theorem m_put_Lay_Hands : Mono (F09.c_put_Lay_Hands (X := Ob)) := amFunc_mono (fun g f h => (k_put_Lay_Hands g f h).2.2) _
theorem k_ref09_NewLay : Known A0 num Try.prog [(169, F09.c_ref09_There)] := known_cons ok_ref09_There s_ref09_There m_ref09_There (known_nil)
theorem s_ref09_NewLay : S 36 F09.c_ref09_NewLay := func_sound k_ref09_NewLay Try.func36 chk_ref09_NewLay
theorem m_ref09_NewLay : Mono (F09.c_ref09_NewLay (X := Ob)) := amFunc_mono (fun g f h => (k_ref09_NewLay g f h).2.2) _
theorem s_worksG : S 9 (pureF F09.worksG) := lift_sound F09.works_lift s_law09_works
theorem e_new : S 28 F06.newF := fold_sound F06.new_fold s_cell_New
theorem f_new : Mono F06.newF := F06.new_fold.mono
def GA : List (Nat × AFun Ob) := [(56, F06.c_cell_Mem_there), (71, F06.c_cell_counts_note), (49, F06.c_cell_Mem_Store_1), (51, F06.c_cell_Mem_CAS_1), (52, F06.c_cell_Mem_Load_1), (213, F09.c_put_NewLay_1)]
theorem e_Mem_Len : S 55 (memF fun s rest => (F06.lenAsk s rest).map fun v => (v, s)) := fold_sound F06.len_fold (unf_sound plM_ok s_cell_Mem_Len)
theorem f_Mem_Len : Mono (memF fun s rest => (F06.lenAsk s rest).map fun v => (v, s)) := F06.len_fold.mono
theorem e_Mem_Ops : S 25 (memF fun s rest => (F06.opsAsk s rest).map fun v => (v, s)) := fold_sound F06.ops_fold (unf_sound plM_ok s_cell_Mem_Ops)
theorem f_Mem_Ops : Mono (memF fun s rest => (F06.opsAsk s rest).map fun v => (v, s)) := F06.ops_fold.mono
theorem o_Mem_Load : Fold concM (unf 0 plM (amFunc [(50, amFunc GA F06.cell_Mem_access), (52, F06.c_cell_Mem_Load_1)] F06.cell_Mem_Load)) (memF F06.loadS) := F06.load_foldG (G := GA) rfl rfl rfl
theorem e_Mem_Load : S 52 (memF F06.loadS) := fold_sound o_Mem_Load (unf_sound plM_ok s_cell_Mem_Load)
theorem f_Mem_Load : Mono (memF F06.loadS) := o_Mem_Load.mono
theorem o_Mem_Store : Fold concM (unf 0 plM (amFunc [(50, amFunc GA F06.cell_Mem_access), (49, F06.c_cell_Mem_Store_1)] F06.cell_Mem_Store)) (memF F06.storeS) := F06.store_foldG (G := GA) rfl rfl rfl
theorem e_Mem_Store : S 33 (memF F06.storeS) := fold_sound o_Mem_Store (unf_sound plM_ok s_cell_Mem_Store)
theorem f_Mem_Store : Mono (memF F06.storeS) := o_Mem_Store.mono
theorem o_Mem_CAS : Fold concM (unf 0 plM (amFunc [(50, amFunc GA F06.cell_Mem_access), (51, F06.c_cell_Mem_CAS_1)] F06.cell_Mem_CAS)) (memF F06.casS) := F06.cas_foldG (G := GA) rfl rfl rfl
theorem e_Mem_CAS : S 87 (memF F06.casS) := fold_sound o_Mem_CAS (unf_sound plM_ok s_cell_Mem_CAS)
theorem f_Mem_CAS : Mono (memF F06.casS) := o_Mem_CAS.mono
theorem e_Mem_All : S 49 (F06.memNF F06.allS) := fold_sound F06.all_fold (unf_sound plM_ok s_cell_Mem_All)
theorem f_Mem_All : Mono (F06.memNF F06.allS) := F06.all_fold.mono
theorem k_mem : Known A0 num Try.prog F10.Gmem := known_cons ok_cell_New e_new f_new (known_cons ok_ref06_New s_ref06_New m_ref06_New (known_cons ok_cell_Mem_Store e_Mem_Store f_Mem_Store (known_cons ok_ref06_Store s_ref06_Store m_ref06_Store (known_nil))))
theorem e_mem : S 12 (amFunc F10.Gmem F10.docs_Mem) := func_sound k_mem Try.func12 chk_docs_Mem
theorem k_ring : Known A0 num Try.prog F10.Gring := known_cons ok_cell_Mem_All e_Mem_All f_Mem_All (known_cons ok_conf_Config_Cells s_conf_Config_Cells m_conf_Config_Cells (known_cons ok_conf_Config_Word s_conf_Config_Word m_conf_Config_Word (known_cons ok_conf_Config_Slot s_conf_Config_Slot m_conf_Config_Slot (known_nil))))
theorem e_ring : S 14 (amFunc F10.Gring F10.docs_Ring) := func_sound k_ring Try.func14 chk_docs_Ring
theorem k_thief : Known A0 num Try.prog F10.Gthief := known_am ok_docs_Ring k_ring e_ring (known_cons ok_conf_Config_Word s_conf_Config_Word m_conf_Config_Word (known_cons ok_cell_Mem_Load e_Mem_Load f_Mem_Load (known_cons ok_cell_Mem_Store e_Mem_Store f_Mem_Store (known_nil))))
theorem e_thief : S 17 (amFunc F10.Gthief F10.docs_Thief) := func_sound k_thief Try.func17 chk_docs_Thief
theorem k_rl : Known A0 num Try.prog F09.Grl := known_cons ok_conf_Config_Word s_conf_Config_Word m_conf_Config_Word (known_cons ok_cell_Mem_Load e_Mem_Load f_Mem_Load (known_cons ok_word_Len s_word_Len m_word_Len (known_nil)))
theorem e_rl : S 85 (amFunc F09.Grl F09.put_ring_load) := func_sound k_rl Try.func85 chk_put_ring_load
theorem k_ch : Known A0 num Try.prog F09.Gch := known_cons ok_conf_Config_Word s_conf_Config_Word m_conf_Config_Word (known_cons ok_cell_Mem_CAS e_Mem_CAS f_Mem_CAS (known_nil))
theorem e_ch : S 67 (amFunc F09.Gch F09.put_ring_change) := func_sound k_ch Try.func67 chk_put_ring_change
theorem k_plk : Known A0 num Try.prog F09.Gplk := known_am ok_put_ring_load k_rl e_rl (known_nil)
theorem e_plk : S 78 (amFunc F09.Gplk F09.put_Put_look) := func_sound k_plk Try.func78 chk_put_Put_look
theorem k_ply : Known A0 num Try.prog F09.Gply := known_cons ok_put_ring_slot s_put_ring_slot m_put_ring_slot (known_cons ok_cell_Mem_Store e_Mem_Store f_Mem_Store (known_nil))
theorem e_ply : S 79 (amFunc F09.Gply F09.put_Put_lay) := func_sound k_ply Try.func79 chk_put_Put_lay
theorem k_psw : Known A0 num Try.prog F09.Gpsw := known_cons ok_word_Grow s_word_Grow m_word_Grow (known_am ok_put_ring_change k_ch e_ch (known_nil))
theorem e_psw : S 80 (amFunc F09.Gpsw F09.put_Put_swing) := func_sound k_psw Try.func80 chk_put_Put_swing
theorem k_ptk : Known A0 num Try.prog F09.Gptk := known_cons ok_put_Put_half s_put_Put_half m_put_Put_half (known_cons ok_put_ring_slot s_put_ring_slot m_put_ring_slot (known_cons ok_cell_Mem_Load e_Mem_Load f_Mem_Load (known_nil)))
theorem e_ptk : S 81 (amFunc F09.Gptk F09.put_Put_take) := func_sound k_ptk Try.func81 chk_put_Put_take
theorem k_pct : Known A0 num Try.prog F09.Gpct := known_cons ok_put_Put_half s_put_Put_half m_put_Put_half (known_cons ok_word_Drop s_word_Drop m_word_Drop (known_am ok_put_ring_change k_ch e_ch (known_nil)))
theorem e_pct : S 82 (amFunc F09.Gpct F09.put_Put_cut) := func_sound k_pct Try.func82 chk_put_Put_cut
theorem k_pst : Known A0 num Try.prog F09.Gpst := known_cons ok_put_Put_Done s_put_Put_Done m_put_Put_Done (known_cons ok_put_ways s_put_ways m_put_ways (known_am ok_put_Put_look k_plk e_plk (known_am ok_put_Put_lay k_ply e_ply (known_am ok_put_Put_swing k_psw e_psw (known_am ok_put_Put_take k_ptk e_ptk (known_am ok_put_Put_cut k_pct e_pct (known_nil)))))))
theorem e_pst : S 16 (amFunc F09.Gpst F09.put_Put_Step) := func_sound k_pst Try.func16 chk_put_Put_Step
theorem k_po : Known A0 num Try.prog F09.Gpo := known_cons ok_slices_Clone_int s_slices_Clone_int m_slices_Clone_int (known_nil)
theorem e_po : S 18 (amFunc F09.Gpo F09.put_Put_Over) := func_sound k_po Try.func18 chk_put_Put_Over
theorem k_kp : Known A0 num Try.prog F09.Gkp := known_cons ok_law09_works s_worksG F09.works_lift.mono (known_cons ok_docs_Made s_docs_Made m_docs_Made (known_cons ok_kit_Pick s_kit_Pick m_kit_Pick (known_cons ok_docs_Filled s_docs_Filled m_docs_Filled (known_am ok_docs_Mem k_mem e_mem (known_am ok_docs_Ring k_ring e_ring (known_cons ok_put_New s_put_New m_put_New (known_am ok_put_Put_Step k_pst e_pst (known_am ok_docs_Thief k_thief e_thief (known_am ok_put_Put_Over k_po e_po (known_cons ok_kit_SameInts s_kit_SameInts m_kit_SameInts (known_nil)))))))))))
theorem e_kp : S 3 (amFunc F09.Gkp F09.law09_PutKeeps) := func_sound k_kp Try.func3 chk_law09_PutKeeps
theorem k_lk : Known A0 num Try.prog F09.Glk := known_am ok_put_ring_load k_rl e_rl (known_nil)
theorem e_lk : S 65 (amFunc F09.Glk F09.put_Lay_look) := func_sound k_lk Try.func65 chk_put_Lay_look
theorem k_lst : Known A0 num Try.prog F09.Glst := known_cons ok_put_Lay_Done s_put_Lay_Done m_put_Lay_Done (known_am ok_put_Lay_look k_lk e_lk (known_cons ok_put_ring_slot s_put_ring_slot m_put_ring_slot (known_cons ok_cell_Mem_Store e_Mem_Store f_Mem_Store (known_cons ok_word_Grow s_word_Grow m_word_Grow (known_am ok_put_ring_change k_ch e_ch (known_nil))))))
theorem e_lst : S 29 (amFunc F09.Glst F09.put_Lay_Step) := func_sound k_lst Try.func29 chk_put_Lay_Step
theorem k_if_ : Known A0 num Try.prog F09.Gif := known_cons ok_put_NewLay_1 s_put_NewLay_1 m_put_NewLay_1 (known_nil)
theorem e_if_ : S 92 (amFunc F09.Gif F09.slices_IndexFunc_int) := func_sound k_if_ Try.func92 chk_slices_IndexFunc_int
theorem k_df : Known A0 num Try.prog F09.Gdf := known_am ok_slices_IndexFunc_int k_if_ e_if_ (known_cons ok_put_NewLay_1 s_put_NewLay_1 m_put_NewLay_1 (known_nil))
theorem e_df : S 72 (amFunc F09.Gdf F09.slices_DeleteFunc_int) := func_sound k_df Try.func72 chk_slices_DeleteFunc_int
theorem k_nl : Known A0 num Try.prog F09.Gnl := known_cons ok_put_from s_put_from m_put_from (known_cons ok_slices_Clone_int s_slices_Clone_int m_slices_Clone_int (known_am ok_slices_DeleteFunc_int k_df e_df (known_nil)))
theorem e_nl : S 35 (amFunc F09.Gnl F09.put_NewLay) := func_sound k_nl Try.func35 chk_put_NewLay
theorem k_lh : Known A0 num Try.prog F09.Gpo := known_cons ok_slices_Clone_int s_slices_Clone_int m_slices_Clone_int (known_nil)
theorem e_lh : S 31 (amFunc F09.Gpo F09.put_Lay_Hands) := func_sound k_lh Try.func31 chk_put_Lay_Hands
theorem k_la : Known A0 num Try.prog F09.Gla := known_cons ok_law09_works s_worksG F09.works_lift.mono (known_cons ok_docs_Made s_docs_Made m_docs_Made (known_cons ok_kit_Pick s_kit_Pick m_kit_Pick (known_cons ok_conf_Config_Cells s_conf_Config_Cells m_conf_Config_Cells (known_cons ok_cell_New e_new f_new (known_cons ok_conf_Config_Word s_conf_Config_Word m_conf_Config_Word (known_cons ok_cell_Mem_Store e_Mem_Store f_Mem_Store (known_am ok_put_NewLay k_nl e_nl (known_am ok_put_Lay_Step k_lst e_lst (known_cons ok_cell_Mem_Ops e_Mem_Ops f_Mem_Ops (known_am ok_put_Lay_Hands k_lh e_lh (known_am ok_docs_Ring k_ring e_ring (known_cons ok_kit_SameInts s_kit_SameInts m_kit_SameInts (known_nil)))))))))))))
theorem e_la : S 6 (amFunc F09.Gla F09.law09_PutLayAll) := func_sound k_la Try.func6 chk_law09_PutLayAll
theorem k_smem : Known A0 num Try.prog F10.Gsmem := known_cons ok_cell_Mem_Len e_Mem_Len f_Mem_Len (known_cons ok_cell_Mem_Ops e_Mem_Ops f_Mem_Ops (known_cons ok_cell_Mem_All e_Mem_All f_Mem_All (known_cons ok_docs_SameCells s_docs_SameCells m_docs_SameCells (known_nil))))
theorem e_smem : S 24 (amFunc F10.Gsmem F10.docs_SameMem) := func_sound k_smem Try.func24 chk_docs_SameMem
theorem k_rp : Known A0 num Try.prog F09.Grp := known_cons ok_ref09_Head s_ref09_Head m_ref09_Head (known_cons ok_ref09_Tail s_ref09_Tail m_ref09_Tail (known_cons ok_ref09_Word s_ref09_Word m_ref09_Word (known_cons ok_ref06_Load s_ref06_Load m_ref06_Load (known_cons ok_ref09_Size s_ref09_Size m_ref09_Size (known_cons ok_ref09_Slot s_ref09_Slot m_ref09_Slot (known_cons ok_ref06_Store s_ref06_Store m_ref06_Store (known_cons ok_ref09_Pack s_ref09_Pack m_ref09_Pack (known_cons ok_ref06_CAS s_ref06_CAS m_ref06_CAS (known_nil)))))))))
theorem e_rp : S 26 (amFunc F09.Grp F09.ref09_Step) := func_sound k_rp Try.func26 chk_ref09_Step
theorem k_ph : Known A0 num Try.prog F09.Gpo := known_cons ok_slices_Clone_int s_slices_Clone_int m_slices_Clone_int (known_nil)
theorem e_ph : S 22 (amFunc F09.Gpo F09.put_Put_Hands) := func_sound k_ph Try.func22 chk_put_Put_Hands
theorem k_pk : Known A0 num Try.prog F09.Gpk := known_cons ok_kit_Pick s_kit_Pick m_kit_Pick (known_cons ok_cell_Mem_Store e_Mem_Store f_Mem_Store (known_cons ok_ref06_Store s_ref06_Store m_ref06_Store (known_nil)))
theorem e_pk : S 27 (amFunc F09.Gpk F09.law09_poked) := func_sound k_pk Try.func27 chk_law09_poked
theorem k_py : Known A0 num Try.prog F09.Gpy := known_cons ok_law09_works s_worksG F09.works_lift.mono (known_cons ok_docs_Filled s_docs_Filled m_docs_Filled (known_am ok_docs_Mem k_mem e_mem (known_cons ok_put_New s_put_New m_put_New (known_cons ok_docs_Config s_docs_Config m_docs_Config (known_cons ok_ref09_New s_ref09_New m_ref09_New (known_am ok_put_Put_Hands k_ph e_ph (known_am ok_put_Put_Over k_po e_po (known_cons ok_kit_SameInts s_kit_SameInts m_kit_SameInts (known_cons ok_put_Put_Done s_put_Put_Done m_put_Put_Done (known_am ok_docs_SameMem k_smem e_smem (known_cons ok_cell_Mem_Ops e_Mem_Ops f_Mem_Ops (known_am ok_ref09_Step k_rp e_rp (known_am ok_put_Put_Step k_pst e_pst (known_am ok_law09_poked k_pk e_pk (known_nil)))))))))))))))
theorem e_py : S 4 (amFunc F09.Gpy F09.law09_PutPlays) := func_sound k_py Try.func4 chk_law09_PutPlays
theorem k_rls : Known A0 num Try.prog F09.Grl2 := known_cons ok_ref09_Head s_ref09_Head m_ref09_Head (known_cons ok_ref09_Tail s_ref09_Tail m_ref09_Tail (known_cons ok_ref09_Word s_ref09_Word m_ref09_Word (known_cons ok_ref06_Load s_ref06_Load m_ref06_Load (known_cons ok_ref09_Size s_ref09_Size m_ref09_Size (known_cons ok_ref09_Slot s_ref09_Slot m_ref09_Slot (known_cons ok_ref06_Store s_ref06_Store m_ref06_Store (known_cons ok_ref09_Pack s_ref09_Pack m_ref09_Pack (known_cons ok_ref06_CAS s_ref06_CAS m_ref06_CAS (known_nil)))))))))
theorem e_rls : S 37 (amFunc F09.Grl2 F09.ref09_StepLay) := func_sound k_rls Try.func37 chk_ref09_StepLay
theorem k_ly : Known A0 num Try.prog F09.Gly := known_cons ok_law09_works s_worksG F09.works_lift.mono (known_cons ok_docs_Filled s_docs_Filled m_docs_Filled (known_am ok_docs_Mem k_mem e_mem (known_am ok_put_NewLay k_nl e_nl (known_cons ok_docs_Config s_docs_Config m_docs_Config (known_cons ok_ref09_NewLay s_ref09_NewLay m_ref09_NewLay (known_am ok_put_Lay_Hands k_lh e_lh (known_cons ok_kit_SameInts s_kit_SameInts m_kit_SameInts (known_cons ok_put_Lay_Done s_put_Lay_Done m_put_Lay_Done (known_am ok_docs_SameMem k_smem e_smem (known_cons ok_cell_Mem_Ops e_Mem_Ops f_Mem_Ops (known_am ok_ref09_StepLay k_rls e_rls (known_am ok_put_Lay_Step k_lst e_lst (known_am ok_law09_poked k_pk e_pk (known_nil))))))))))))))
theorem e_ly : S 7 (amFunc F09.Gly F09.law09_PutLayPlays) := func_sound k_ly Try.func7 chk_law09_PutLayPlays
theorem k_none : Known A0 num Try.prog F09.Gnone := known_cons ok_kit_Pick s_kit_Pick m_kit_Pick (known_cons ok_cell_New s_cell_New m_cell_New (known_cons ok_put_Put_Step s_put_Put_Step m_put_Put_Step (known_cons ok_put_Put_Done s_put_Put_Done m_put_Put_Done (known_cons ok_put_Put_Over s_put_Put_Over m_put_Put_Over (known_cons ok_put_Put_Hands s_put_Put_Hands m_put_Put_Hands (known_cons ok_put_Lay_Step s_put_Lay_Step m_put_Lay_Step (known_cons ok_put_Lay_Done s_put_Lay_Done m_put_Lay_Done (known_cons ok_put_Lay_Hands s_put_Lay_Hands m_put_Lay_Hands (known_cons ok_cell_Mem_Ops s_cell_Mem_Ops m_cell_Mem_Ops (known_cons ok_law09_works s_worksG F09.works_lift.mono (known_nil)))))))))))
theorem e_none : S 5 (amFunc F09.Gnone F09.law09_PutNone) := func_sound k_none Try.func5 chk_law09_PutNone
theorem k_known : Known A0 num Try.prog F09.Gkn := known_cons ok_docs_Made s_docs_Made m_docs_Made (known_cons ok_conf_Config_Word s_conf_Config_Word m_conf_Config_Word (known_am ok_law09_PutPlays k_py e_py (known_am ok_law09_PutLayPlays k_ly e_ly (known_am ok_law09_PutKeeps k_kp e_kp (known_am ok_law09_PutLayAll k_la e_la (known_am ok_law09_PutNone k_none e_none (known_cons ok_law09_works s_worksG F09.works_lift.mono (known_nil))))))))
theorem e_known : S 8 (amFunc F09.Gkn F09.law09_PutKnown) := func_sound k_known Try.func8 chk_law09_PutKnown
end Go.Proofs.Ytgfddegdjdeeoaa
