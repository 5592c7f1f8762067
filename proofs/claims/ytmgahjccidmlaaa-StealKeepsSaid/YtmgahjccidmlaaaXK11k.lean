import Derived.Test.YtmgahjccidmlaaaXS11
import Derived.Test.YtmgahjccidmlaaaXG22
import Derived.Test.YtmgahjccidmlaaaXG23
set_option linter.unusedSimpArgs false
set_option linter.unusedVariables false
namespace Go.Proofs.Ytmgahjccidmlaaa
open Go.Am
abbrev Ob := Go.Am.Ob
def A0 : AbsSem Ob := AbsOf num concM
abbrev S (k : Nat) (f : AFun Ob) : Prop := Sound A0 num Try.prog k f
theorem k_conf_within : Known A0 num Try.prog [] := known_nil
theorem s_conf_within : S 90 F11.c_conf_within := func_sound k_conf_within Try.func90 chk_conf_within
theorem m_conf_within : Mono (F11.c_conf_within (X := Ob)) := amFunc_mono (fun g f h => (k_conf_within g f h).2.2) _
theorem k_conf_Config_Right : Known A0 num Try.prog [(176, F11.c_conf_within)] := known_cons ok_conf_within s_conf_within m_conf_within (known_nil)
theorem s_conf_Config_Right : S 44 F11.c_conf_Config_Right := func_sound k_conf_Config_Right Try.func44 chk_conf_Config_Right
theorem m_conf_Config_Right : Mono (F11.c_conf_Config_Right (X := Ob)) := amFunc_mono (fun g f h => (k_conf_Config_Right g f h).2.2) _
theorem k_conf_Config_Cells : Known A0 num Try.prog [(157, F11.c_conf_Config_Right)] := known_cons ok_conf_Config_Right s_conf_Config_Right m_conf_Config_Right (known_nil)
theorem s_conf_Config_Cells : S 43 F11.c_conf_Config_Cells := func_sound k_conf_Config_Cells Try.func43 chk_conf_Config_Cells
theorem m_conf_Config_Cells : Mono (F11.c_conf_Config_Cells (X := Ob)) := amFunc_mono (fun g f h => (k_conf_Config_Cells g f h).2.2) _
theorem k_cell_New : Known A0 num Try.prog [] := known_nil
theorem s_cell_New : S 6 F11.c_cell_New := func_sound k_cell_New Try.func6 chk_cell_New
theorem m_cell_New : Mono (F11.c_cell_New (X := Ob)) := amFunc_mono (fun g f h => (k_cell_New g f h).2.2) _
theorem k_conf_own_at : Known A0 num Try.prog [(157, F11.c_conf_Config_Right), (176, F11.c_conf_within)] := known_cons ok_conf_Config_Right s_conf_Config_Right m_conf_Config_Right (known_cons ok_conf_within s_conf_within m_conf_within (known_nil))
theorem s_conf_own_at : S 71 F11.c_conf_own_at := func_sound k_conf_own_at Try.func71 chk_conf_own_at
theorem m_conf_own_at : Mono (F11.c_conf_own_at (X := Ob)) := amFunc_mono (fun g f h => (k_conf_own_at g f h).2.2) _
theorem k_conf_Config_Slot : Known A0 num Try.prog [(157, F11.c_conf_Config_Right), (177, F11.c_conf_own_at)] := known_cons ok_conf_Config_Right s_conf_Config_Right m_conf_Config_Right (known_cons ok_conf_own_at s_conf_own_at m_conf_own_at (known_nil))
theorem s_conf_Config_Slot : S 46 F11.c_conf_Config_Slot := func_sound k_conf_Config_Slot Try.func46 chk_conf_Config_Slot
theorem m_conf_Config_Slot : Mono (F11.c_conf_Config_Slot (X := Ob)) := amFunc_mono (fun g f h => (k_conf_Config_Slot g f h).2.2) _
theorem k_cell_Mem_there : Known A0 num Try.prog [] := known_nil
theorem s_cell_Mem_there : S 93 F11.c_cell_Mem_there := func_sound k_cell_Mem_there Try.func93 chk_cell_Mem_there
theorem m_cell_Mem_there : Mono (F11.c_cell_Mem_there (X := Ob)) := amFunc_mono (fun g f h => (k_cell_Mem_there g f h).2.2) _
theorem k_cell_counts_note : Known A0 num Try.prog [] := known_nil
theorem s_cell_counts_note : S 94 F11.c_cell_counts_note := func_sound k_cell_counts_note Try.func94 chk_cell_counts_note
theorem m_cell_counts_note : Mono (F11.c_cell_counts_note (X := Ob)) := amFunc_mono (fun g f h => (k_cell_counts_note g f h).2.2) _
theorem k_cell_Mem_Store_1 : Known A0 num Try.prog [] := known_nil
theorem s_cell_Mem_Store_1 : S 68 F11.c_cell_Mem_Store_1 := func_sound k_cell_Mem_Store_1 Try.func68 chk_cell_Mem_Store_1
theorem m_cell_Mem_Store_1 : Mono (F11.c_cell_Mem_Store_1 (X := Ob)) := amFunc_mono (fun g f h => (k_cell_Mem_Store_1 g f h).2.2) _
theorem k_cell_Mem_CAS_1 : Known A0 num Try.prog [] := known_nil
theorem s_cell_Mem_CAS_1 : S 103 F11.c_cell_Mem_CAS_1 := func_sound k_cell_Mem_CAS_1 Try.func103 chk_cell_Mem_CAS_1
theorem m_cell_Mem_CAS_1 : Mono (F11.c_cell_Mem_CAS_1 (X := Ob)) := amFunc_mono (fun g f h => (k_cell_Mem_CAS_1 g f h).2.2) _
theorem k_cell_Mem_Load_1 : Known A0 num Try.prog [] := known_nil
theorem s_cell_Mem_Load_1 : S 100 F11.c_cell_Mem_Load_1 := func_sound k_cell_Mem_Load_1 Try.func100 chk_cell_Mem_Load_1
theorem m_cell_Mem_Load_1 : Mono (F11.c_cell_Mem_Load_1 (X := Ob)) := amFunc_mono (fun g f h => (k_cell_Mem_Load_1 g f h).2.2) _
theorem k_put_NewLay_1 : Known A0 num Try.prog [] := known_nil
theorem s_put_NewLay_1 : S 106 F11.c_put_NewLay_1 := func_sound k_put_NewLay_1 Try.func106 chk_put_NewLay_1
theorem m_put_NewLay_1 : Mono (F11.c_put_NewLay_1 (X := Ob)) := amFunc_mono (fun g f h => (k_put_NewLay_1 g f h).2.2) _
theorem k_cell_Mem_access : Known A0 num Try.prog [(56, F11.c_cell_Mem_there), (71, F11.c_cell_counts_note), (49, F11.c_cell_Mem_Store_1), (51, F11.c_cell_Mem_CAS_1), (52, F11.c_cell_Mem_Load_1), (213, F11.c_put_NewLay_1)] := known_cons ok_cell_Mem_there s_cell_Mem_there m_cell_Mem_there (known_cons ok_cell_counts_note s_cell_counts_note m_cell_counts_note (known_cons ok_cell_Mem_Store_1 s_cell_Mem_Store_1 m_cell_Mem_Store_1 (known_cons ok_cell_Mem_CAS_1 s_cell_Mem_CAS_1 m_cell_Mem_CAS_1 (known_cons ok_cell_Mem_Load_1 s_cell_Mem_Load_1 m_cell_Mem_Load_1 (known_cons ok_put_NewLay_1 s_put_NewLay_1 m_put_NewLay_1 (known_nil))))))
theorem s_cell_Mem_access : S 67 F11.c_cell_Mem_access := func_sound k_cell_Mem_access Try.func67 chk_cell_Mem_access
theorem m_cell_Mem_access : Mono (F11.c_cell_Mem_access (X := Ob)) := amFunc_mono (fun g f h => (k_cell_Mem_access g f h).2.2) _
theorem k_cell_Mem_Store : Known A0 num Try.prog [(50, F11.c_cell_Mem_access), (49, F11.c_cell_Mem_Store_1)] := known_cons ok_cell_Mem_access s_cell_Mem_access m_cell_Mem_access (known_cons ok_cell_Mem_Store_1 s_cell_Mem_Store_1 m_cell_Mem_Store_1 (known_nil))
theorem s_cell_Mem_Store : S 24 F11.c_cell_Mem_Store := func_sound k_cell_Mem_Store Try.func24 chk_cell_Mem_Store
theorem m_cell_Mem_Store : Mono (F11.c_cell_Mem_Store (X := Ob)) := amFunc_mono (fun g f h => (k_cell_Mem_Store g f h).2.2) _
theorem k_conf_Config_Word : Known A0 num Try.prog [(177, F11.c_conf_own_at)] := known_cons ok_conf_own_at s_conf_own_at m_conf_own_at (known_nil)
theorem s_conf_Config_Word : S 27 F11.c_conf_Config_Word := func_sound k_conf_Config_Word Try.func27 chk_conf_Config_Word
theorem m_conf_Config_Word : Mono (F11.c_conf_Config_Word (X := Ob)) := amFunc_mono (fun g f h => (k_conf_Config_Word g f h).2.2) _
theorem k_law11_rings : Known A0 num Try.prog [(156, F11.c_conf_Config_Cells), (21, F11.c_cell_New), (160, F11.c_conf_Config_Slot), (22, F11.c_cell_Mem_Store), (159, F11.c_conf_Config_Word)] := known_cons ok_conf_Config_Cells s_conf_Config_Cells m_conf_Config_Cells (known_cons ok_cell_New s_cell_New m_cell_New (known_cons ok_conf_Config_Slot s_conf_Config_Slot m_conf_Config_Slot (known_cons ok_cell_Mem_Store s_cell_Mem_Store m_cell_Mem_Store (known_cons ok_conf_Config_Word s_conf_Config_Word m_conf_Config_Word (known_nil)))))
theorem s_law11_rings : S 41 F11.c_law11_rings := func_sound k_law11_rings Try.func41 chk_law11_rings
theorem m_law11_rings : Mono (F11.c_law11_rings (X := Ob)) := amFunc_mono (fun g f h => (k_law11_rings g f h).2.2) _
theorem k_steal_New : Known A0 num Try.prog [(159, F11.c_conf_Config_Word)] := known_cons ok_conf_Config_Word s_conf_Config_Word m_conf_Config_Word (known_nil)
theorem s_steal_New : S 7 F11.c_steal_New := func_sound k_steal_New Try.func7 chk_steal_New
theorem m_steal_New : Mono (F11.c_steal_New (X := Ob)) := amFunc_mono (fun g f h => (k_steal_New g f h).2.2) _
theorem k_steal_Steal_Done : Known A0 num Try.prog [] := known_nil
theorem s_steal_Steal_Done : S 9 F11.c_steal_Steal_Done := func_sound k_steal_Steal_Done Try.func9 chk_steal_Steal_Done
theorem m_steal_Steal_Done : Mono (F11.c_steal_Steal_Done (X := Ob)) := amFunc_mono (fun g f h => (k_steal_Steal_Done g f h).2.2) _
theorem k_cell_Mem_Load : Known A0 num Try.prog [(50, F11.c_cell_Mem_access), (52, F11.c_cell_Mem_Load_1)] := known_cons ok_cell_Mem_access s_cell_Mem_access m_cell_Mem_access (known_cons ok_cell_Mem_Load_1 s_cell_Mem_Load_1 m_cell_Mem_Load_1 (known_nil))
theorem s_cell_Mem_Load : S 76 F11.c_cell_Mem_Load := func_sound k_cell_Mem_Load Try.func76 chk_cell_Mem_Load
theorem m_cell_Mem_Load : Mono (F11.c_cell_Mem_Load (X := Ob)) := amFunc_mono (fun g f h => (k_cell_Mem_Load g f h).2.2) _
theorem k_word_Tail : Known A0 num Try.prog [] := known_nil
theorem s_word_Tail : S 101 F11.c_word_Tail := func_sound k_word_Tail Try.func101 chk_word_Tail
theorem m_word_Tail : Mono (F11.c_word_Tail (X := Ob)) := amFunc_mono (fun g f h => (k_word_Tail g f h).2.2) _
theorem k_word_Head : Known A0 num Try.prog [] := known_nil
theorem s_word_Head : S 78 F11.c_word_Head := func_sound k_word_Head Try.func78 chk_word_Head
theorem m_word_Head : Mono (F11.c_word_Head (X := Ob)) := amFunc_mono (fun g f h => (k_word_Head g f h).2.2) _
theorem k_word_Len : Known A0 num Try.prog [(182, F11.c_word_Tail), (179, F11.c_word_Head)] := known_cons ok_word_Tail s_word_Tail m_word_Tail (known_cons ok_word_Head s_word_Head m_word_Head (known_nil))
theorem s_word_Len : S 77 F11.c_word_Len := func_sound k_word_Len Try.func77 chk_word_Len
theorem m_word_Len : Mono (F11.c_word_Len (X := Ob)) := amFunc_mono (fun g f h => (k_word_Len g f h).2.2) _
theorem k_steal_Steal_look : Known A0 num Try.prog [(159, F11.c_conf_Config_Word), (24, F11.c_cell_Mem_Load), (178, F11.c_word_Len)] := known_cons ok_conf_Config_Word s_conf_Config_Word m_conf_Config_Word (known_cons ok_cell_Mem_Load s_cell_Mem_Load m_cell_Mem_Load (known_cons ok_word_Len s_word_Len m_word_Len (known_nil)))
theorem s_steal_Steal_look : S 35 F11.c_steal_Steal_look := func_sound k_steal_Steal_look Try.func35 chk_steal_Steal_look
theorem m_steal_Steal_look : Mono (F11.c_steal_Steal_look (X := Ob)) := amFunc_mono (fun g f h => (k_steal_Steal_look g f h).2.2) _
theorem k_word_Older : Known A0 num Try.prog [] := known_nil
theorem s_word_Older : S 102 F11.c_word_Older := func_sound k_word_Older Try.func102 chk_word_Older
theorem m_word_Older : Mono (F11.c_word_Older (X := Ob)) := amFunc_mono (fun g f h => (k_word_Older g f h).2.2) _
theorem k_steal_Steal_half : Known A0 num Try.prog [(178, F11.c_word_Len), (289, F11.c_word_Older)] := known_cons ok_word_Len s_word_Len m_word_Len (known_cons ok_word_Older s_word_Older m_word_Older (known_nil))
theorem s_steal_Steal_half : S 79 F11.c_steal_Steal_half := func_sound k_steal_Steal_half Try.func79 chk_steal_Steal_half
theorem m_steal_Steal_half : Mono (F11.c_steal_Steal_half (X := Ob)) := amFunc_mono (fun g f h => (k_steal_Steal_half g f h).2.2) _
theorem k_steal_Steal_copy : Known A0 num Try.prog [(179, F11.c_word_Head), (160, F11.c_conf_Config_Slot), (24, F11.c_cell_Mem_Load), (288, F11.c_steal_Steal_half)] := known_cons ok_word_Head s_word_Head m_word_Head (known_cons ok_conf_Config_Slot s_conf_Config_Slot m_conf_Config_Slot (known_cons ok_cell_Mem_Load s_cell_Mem_Load m_cell_Mem_Load (known_cons ok_steal_Steal_half s_steal_Steal_half m_steal_Steal_half (known_nil))))
theorem s_steal_Steal_copy : S 36 F11.c_steal_Steal_copy := func_sound k_steal_Steal_copy Try.func36 chk_steal_Steal_copy
theorem m_steal_Steal_copy : Mono (F11.c_steal_Steal_copy (X := Ob)) := amFunc_mono (fun g f h => (k_steal_Steal_copy g f h).2.2) _
theorem k_word_Pack : Known A0 num Try.prog [] := known_nil
theorem s_word_Pack : S 104 F11.c_word_Pack := func_sound k_word_Pack Try.func104 chk_word_Pack
theorem m_word_Pack : Mono (F11.c_word_Pack (X := Ob)) := amFunc_mono (fun g f h => (k_word_Pack g f h).2.2) _
theorem k_word_Gain : Known A0 num Try.prog [(179, F11.c_word_Head), (182, F11.c_word_Tail), (183, F11.c_word_Pack)] := known_cons ok_word_Head s_word_Head m_word_Head (known_cons ok_word_Tail s_word_Tail m_word_Tail (known_cons ok_word_Pack s_word_Pack m_word_Pack (known_nil)))
theorem s_word_Gain : S 81 F11.c_word_Gain := func_sound k_word_Gain Try.func81 chk_word_Gain
theorem m_word_Gain : Mono (F11.c_word_Gain (X := Ob)) := amFunc_mono (fun g f h => (k_word_Gain g f h).2.2) _
theorem k_cell_Mem_CAS : Known A0 num Try.prog [(50, F11.c_cell_Mem_access), (51, F11.c_cell_Mem_CAS_1)] := known_cons ok_cell_Mem_access s_cell_Mem_access m_cell_Mem_access (known_cons ok_cell_Mem_CAS_1 s_cell_Mem_CAS_1 m_cell_Mem_CAS_1 (known_nil))
theorem s_cell_Mem_CAS : S 80 F11.c_cell_Mem_CAS := func_sound k_cell_Mem_CAS Try.func80 chk_cell_Mem_CAS
theorem m_cell_Mem_CAS : Mono (F11.c_cell_Mem_CAS (X := Ob)) := amFunc_mono (fun g f h => (k_cell_Mem_CAS g f h).2.2) _
theorem k_put_from : Known A0 num Try.prog [(159, F11.c_conf_Config_Word)] := known_cons ok_conf_Config_Word s_conf_Config_Word m_conf_Config_Word (known_nil)
theorem s_put_from : S 72 F11.c_put_from := func_sound k_put_from Try.func72 chk_put_from
theorem m_put_from : Mono (F11.c_put_from (X := Ob)) := amFunc_mono (fun g f h => (k_put_from g f h).2.2) _
theorem k_slices_Clone_int : Known A0 num Try.prog [] := known_nil
theorem s_slices_Clone_int : S 75 F11.c_slices_Clone_int := func_sound k_slices_Clone_int Try.func75 chk_slices_Clone_int
theorem m_slices_Clone_int : Mono (F11.c_slices_Clone_int (X := Ob)) := amFunc_mono (fun g f h => (k_slices_Clone_int g f h).2.2) _
theorem k_put_ring_load : Known A0 num Try.prog [(159, F11.c_conf_Config_Word), (24, F11.c_cell_Mem_Load), (178, F11.c_word_Len)] := known_cons ok_conf_Config_Word s_conf_Config_Word m_conf_Config_Word (known_cons ok_cell_Mem_Load s_cell_Mem_Load m_cell_Mem_Load (known_cons ok_word_Len s_word_Len m_word_Len (known_nil)))
theorem s_put_ring_load : S 107 F11.c_put_ring_load := func_sound k_put_ring_load Try.func107 chk_put_ring_load
theorem m_put_ring_load : Mono (F11.c_put_ring_load (X := Ob)) := amFunc_mono (fun g f h => (k_put_ring_load g f h).2.2) _
theorem k_put_Put_look : Known A0 num Try.prog [(219, F11.c_put_ring_load)] := known_cons ok_put_ring_load s_put_ring_load m_put_ring_load (known_nil)
theorem s_put_Put_look : S 95 F11.c_put_Put_look := func_sound k_put_Put_look Try.func95 chk_put_Put_look
theorem m_put_Put_look : Mono (F11.c_put_Put_look (X := Ob)) := amFunc_mono (fun g f h => (k_put_Put_look g f h).2.2) _
theorem k_put_ring_slot : Known A0 num Try.prog [(182, F11.c_word_Tail), (160, F11.c_conf_Config_Slot)] := known_cons ok_word_Tail s_word_Tail m_word_Tail (known_cons ok_conf_Config_Slot s_conf_Config_Slot m_conf_Config_Slot (known_nil))
theorem s_put_ring_slot : S 85 F11.c_put_ring_slot := func_sound k_put_ring_slot Try.func85 chk_put_ring_slot
theorem m_put_ring_slot : Mono (F11.c_put_ring_slot (X := Ob)) := amFunc_mono (fun g f h => (k_put_ring_slot g f h).2.2) _
theorem k_put_Put_lay : Known A0 num Try.prog [(210, F11.c_put_ring_slot), (22, F11.c_cell_Mem_Store)] := known_cons ok_put_ring_slot s_put_ring_slot m_put_ring_slot (known_cons ok_cell_Mem_Store s_cell_Mem_Store m_cell_Mem_Store (known_nil))
theorem s_put_Put_lay : S 96 F11.c_put_Put_lay := func_sound k_put_Put_lay Try.func96 chk_put_Put_lay
theorem m_put_Put_lay : Mono (F11.c_put_Put_lay (X := Ob)) := amFunc_mono (fun g f h => (k_put_Put_lay g f h).2.2) _
theorem k_word_Grow : Known A0 num Try.prog [(179, F11.c_word_Head), (182, F11.c_word_Tail), (183, F11.c_word_Pack)] := known_cons ok_word_Head s_word_Head m_word_Head (known_cons ok_word_Tail s_word_Tail m_word_Tail (known_cons ok_word_Pack s_word_Pack m_word_Pack (known_nil)))
theorem s_word_Grow : S 87 F11.c_word_Grow := func_sound k_word_Grow Try.func87 chk_word_Grow
theorem m_word_Grow : Mono (F11.c_word_Grow (X := Ob)) := amFunc_mono (fun g f h => (k_word_Grow g f h).2.2) _
theorem k_put_ring_change : Known A0 num Try.prog [(159, F11.c_conf_Config_Word), (23, F11.c_cell_Mem_CAS)] := known_cons ok_conf_Config_Word s_conf_Config_Word m_conf_Config_Word (known_cons ok_cell_Mem_CAS s_cell_Mem_CAS m_cell_Mem_CAS (known_nil))
theorem s_put_ring_change : S 86 F11.c_put_ring_change := func_sound k_put_ring_change Try.func86 chk_put_ring_change
theorem m_put_ring_change : Mono (F11.c_put_ring_change (X := Ob)) := amFunc_mono (fun g f h => (k_put_ring_change g f h).2.2) _
theorem k_put_Put_swing : Known A0 num Try.prog [(211, F11.c_word_Grow), (212, F11.c_put_ring_change)] := known_cons ok_word_Grow s_word_Grow m_word_Grow (known_cons ok_put_ring_change s_put_ring_change m_put_ring_change (known_nil))
theorem s_put_Put_swing : S 97 F11.c_put_Put_swing := func_sound k_put_Put_swing Try.func97 chk_put_Put_swing
theorem m_put_Put_swing : Mono (F11.c_put_Put_swing (X := Ob)) := amFunc_mono (fun g f h => (k_put_Put_swing g f h).2.2) _
theorem k_put_Put_half : Known A0 num Try.prog [] := known_nil
theorem s_put_Put_half : S 108 F11.c_put_Put_half := func_sound k_put_Put_half Try.func108 chk_put_Put_half
theorem m_put_Put_half : Mono (F11.c_put_Put_half (X := Ob)) := amFunc_mono (fun g f h => (k_put_Put_half g f h).2.2) _
theorem k_put_Put_take : Known A0 num Try.prog [(220, F11.c_put_Put_half), (210, F11.c_put_ring_slot), (24, F11.c_cell_Mem_Load)] := known_cons ok_put_Put_half s_put_Put_half m_put_Put_half (known_cons ok_put_ring_slot s_put_ring_slot m_put_ring_slot (known_cons ok_cell_Mem_Load s_cell_Mem_Load m_cell_Mem_Load (known_nil)))
theorem s_put_Put_take : S 98 F11.c_put_Put_take := func_sound k_put_Put_take Try.func98 chk_put_Put_take
theorem m_put_Put_take : Mono (F11.c_put_Put_take (X := Ob)) := amFunc_mono (fun g f h => (k_put_Put_take g f h).2.2) _
theorem k_word_Drop : Known A0 num Try.prog [(179, F11.c_word_Head), (182, F11.c_word_Tail), (183, F11.c_word_Pack)] := known_cons ok_word_Head s_word_Head m_word_Head (known_cons ok_word_Tail s_word_Tail m_word_Tail (known_cons ok_word_Pack s_word_Pack m_word_Pack (known_nil)))
theorem s_word_Drop : S 109 F11.c_word_Drop := func_sound k_word_Drop Try.func109 chk_word_Drop
theorem m_word_Drop : Mono (F11.c_word_Drop (X := Ob)) := amFunc_mono (fun g f h => (k_word_Drop g f h).2.2) _
theorem k_put_Put_cut : Known A0 num Try.prog [(220, F11.c_put_Put_half), (221, F11.c_word_Drop), (212, F11.c_put_ring_change)] := known_cons ok_put_Put_half s_put_Put_half m_put_Put_half (known_cons ok_word_Drop s_word_Drop m_word_Drop (known_cons ok_put_ring_change s_put_ring_change m_put_ring_change (known_nil)))
theorem s_put_Put_cut : S 99 F11.c_put_Put_cut := func_sound k_put_Put_cut Try.func99 chk_put_Put_cut
theorem m_put_Put_cut : Mono (F11.c_put_Put_cut (X := Ob)) := amFunc_mono (fun g f h => (k_put_Put_cut g f h).2.2) _
theorem k_slices_IndexFunc_int : Known A0 num Try.prog [(49, F11.c_cell_Mem_Store_1), (51, F11.c_cell_Mem_CAS_1), (52, F11.c_cell_Mem_Load_1), (213, F11.c_put_NewLay_1), (214, F11.c_put_Put_look), (215, F11.c_put_Put_lay), (216, F11.c_put_Put_swing), (217, F11.c_put_Put_take), (218, F11.c_put_Put_cut)] := known_cons ok_cell_Mem_Store_1 s_cell_Mem_Store_1 m_cell_Mem_Store_1 (known_cons ok_cell_Mem_CAS_1 s_cell_Mem_CAS_1 m_cell_Mem_CAS_1 (known_cons ok_cell_Mem_Load_1 s_cell_Mem_Load_1 m_cell_Mem_Load_1 (known_cons ok_put_NewLay_1 s_put_NewLay_1 m_put_NewLay_1 (known_cons ok_put_Put_look s_put_Put_look m_put_Put_look (known_cons ok_put_Put_lay s_put_Put_lay m_put_Put_lay (known_cons ok_put_Put_swing s_put_Put_swing m_put_Put_swing (known_cons ok_put_Put_take s_put_Put_take m_put_Put_take (known_cons ok_put_Put_cut s_put_Put_cut m_put_Put_cut (known_nil)))))))))
theorem s_slices_IndexFunc_int : S 110 F11.c_slices_IndexFunc_int := func_sound k_slices_IndexFunc_int Try.func110 chk_slices_IndexFunc_int
theorem m_slices_IndexFunc_int : Mono (F11.c_slices_IndexFunc_int (X := Ob)) := amFunc_mono (fun g f h => (k_slices_IndexFunc_int g f h).2.2) _
theorem k_slices_DeleteFunc_int : Known A0 num Try.prog [(97, F11.c_slices_IndexFunc_int), (49, F11.c_cell_Mem_Store_1), (51, F11.c_cell_Mem_CAS_1), (52, F11.c_cell_Mem_Load_1), (213, F11.c_put_NewLay_1), (214, F11.c_put_Put_look), (215, F11.c_put_Put_lay), (216, F11.c_put_Put_swing), (217, F11.c_put_Put_take), (218, F11.c_put_Put_cut)] := known_cons ok_slices_IndexFunc_int s_slices_IndexFunc_int m_slices_IndexFunc_int (known_cons ok_cell_Mem_Store_1 s_cell_Mem_Store_1 m_cell_Mem_Store_1 (known_cons ok_cell_Mem_CAS_1 s_cell_Mem_CAS_1 m_cell_Mem_CAS_1 (known_cons ok_cell_Mem_Load_1 s_cell_Mem_Load_1 m_cell_Mem_Load_1 (known_cons ok_put_NewLay_1 s_put_NewLay_1 m_put_NewLay_1 (known_cons ok_put_Put_look s_put_Put_look m_put_Put_look (known_cons ok_put_Put_lay s_put_Put_lay m_put_Put_lay (known_cons ok_put_Put_swing s_put_Put_swing m_put_Put_swing (known_cons ok_put_Put_take s_put_Put_take m_put_Put_take (known_cons ok_put_Put_cut s_put_Put_cut m_put_Put_cut (known_nil))))))))))
theorem s_slices_DeleteFunc_int : S 105 F11.c_slices_DeleteFunc_int := func_sound k_slices_DeleteFunc_int Try.func105 chk_slices_DeleteFunc_int
theorem m_slices_DeleteFunc_int : Mono (F11.c_slices_DeleteFunc_int (X := Ob)) := amFunc_mono (fun g f h => (k_slices_DeleteFunc_int g f h).2.2) _
theorem k_put_NewLay : Known A0 num Try.prog [(206, F11.c_put_from), (208, F11.c_slices_Clone_int), (95, F11.c_slices_DeleteFunc_int), (213, F11.c_put_NewLay_1)] := known_cons ok_put_from s_put_from m_put_from (known_cons ok_slices_Clone_int s_slices_Clone_int m_slices_Clone_int (known_cons ok_slices_DeleteFunc_int s_slices_DeleteFunc_int m_slices_DeleteFunc_int (known_cons ok_put_NewLay_1 s_put_NewLay_1 m_put_NewLay_1 (known_nil))))
theorem s_put_NewLay : S 82 F11.c_put_NewLay := func_sound k_put_NewLay Try.func82 chk_put_NewLay
theorem m_put_NewLay : Mono (F11.c_put_NewLay (X := Ob)) := amFunc_mono (fun g f h => (k_put_NewLay g f h).2.2) _
theorem k_steal_Steal_gain : Known A0 num Try.prog [(159, F11.c_conf_Config_Word), (288, F11.c_steal_Steal_half), (180, F11.c_word_Gain), (23, F11.c_cell_Mem_CAS), (199, F11.c_put_NewLay)] := known_cons ok_conf_Config_Word s_conf_Config_Word m_conf_Config_Word (known_cons ok_steal_Steal_half s_steal_Steal_half m_steal_Steal_half (known_cons ok_word_Gain s_word_Gain m_word_Gain (known_cons ok_cell_Mem_CAS s_cell_Mem_CAS m_cell_Mem_CAS (known_cons ok_put_NewLay s_put_NewLay m_put_NewLay (known_nil)))))
theorem s_steal_Steal_gain : S 37 F11.c_steal_Steal_gain := func_sound k_steal_Steal_gain Try.func37 chk_steal_Steal_gain
theorem m_steal_Steal_gain : Mono (F11.c_steal_Steal_gain (X := Ob)) := amFunc_mono (fun g f h => (k_steal_Steal_gain g f h).2.2) _
theorem k_put_Lay_Done : Known A0 num Try.prog [] := known_nil
theorem s_put_Lay_Done : S 83 F11.c_put_Lay_Done := func_sound k_put_Lay_Done Try.func83 chk_put_Lay_Done
theorem m_put_Lay_Done : Mono (F11.c_put_Lay_Done (X := Ob)) := amFunc_mono (fun g f h => (k_put_Lay_Done g f h).2.2) _
theorem k_put_Lay_look : Known A0 num Try.prog [(219, F11.c_put_ring_load)] := known_cons ok_put_ring_load s_put_ring_load m_put_ring_load (known_nil)
theorem s_put_Lay_look : S 84 F11.c_put_Lay_look := func_sound k_put_Lay_look Try.func84 chk_put_Lay_look
theorem m_put_Lay_look : Mono (F11.c_put_Lay_look (X := Ob)) := amFunc_mono (fun g f h => (k_put_Lay_look g f h).2.2) _
theorem k_put_Lay_Step : Known A0 num Try.prog [(196, F11.c_put_Lay_Done), (209, F11.c_put_Lay_look), (210, F11.c_put_ring_slot), (22, F11.c_cell_Mem_Store), (211, F11.c_word_Grow), (212, F11.c_put_ring_change)] := known_cons ok_put_Lay_Done s_put_Lay_Done m_put_Lay_Done (known_cons ok_put_Lay_look s_put_Lay_look m_put_Lay_look (known_cons ok_put_ring_slot s_put_ring_slot m_put_ring_slot (known_cons ok_cell_Mem_Store s_cell_Mem_Store m_cell_Mem_Store (known_cons ok_word_Grow s_word_Grow m_word_Grow (known_cons ok_put_ring_change s_put_ring_change m_put_ring_change (known_nil))))))
theorem s_put_Lay_Step : S 38 F11.c_put_Lay_Step := func_sound k_put_Lay_Step Try.func38 chk_put_Lay_Step
theorem m_put_Lay_Step : Mono (F11.c_put_Lay_Step (X := Ob)) := amFunc_mono (fun g f h => (k_put_Lay_Step g f h).2.2) _
theorem k_steal_Steal_Step : Known A0 num Try.prog [(277, F11.c_steal_Steal_Done), (283, F11.c_steal_Steal_look), (284, F11.c_steal_Steal_copy), (285, F11.c_steal_Steal_gain), (195, F11.c_put_Lay_Step)] := known_cons ok_steal_Steal_Done s_steal_Steal_Done m_steal_Steal_Done (known_cons ok_steal_Steal_look s_steal_Steal_look m_steal_Steal_look (known_cons ok_steal_Steal_copy s_steal_Steal_copy m_steal_Steal_copy (known_cons ok_steal_Steal_gain s_steal_Steal_gain m_steal_Steal_gain (known_cons ok_put_Lay_Step s_put_Lay_Step m_put_Lay_Step (known_nil)))))
theorem s_steal_Steal_Step : S 10 F11.c_steal_Steal_Step := func_sound k_steal_Steal_Step Try.func10 chk_steal_Steal_Step
theorem m_steal_Steal_Step : Mono (F11.c_steal_Steal_Step (X := Ob)) := amFunc_mono (fun g f h => (k_steal_Steal_Step g f h).2.2) _
theorem k_steal_Steal_Many : Known A0 num Try.prog [] := known_nil
theorem s_steal_Steal_Many : S 11 F11.c_steal_Steal_Many := func_sound k_steal_Steal_Many Try.func11 chk_steal_Steal_Many
theorem m_steal_Steal_Many : Mono (F11.c_steal_Steal_Many (X := Ob)) := amFunc_mono (fun g f h => (k_steal_Steal_Many g f h).2.2) _
theorem k_steal_Steal_Got : Known A0 num Try.prog [(277, F11.c_steal_Steal_Done), (275, F11.c_steal_Steal_Many)] := known_cons ok_steal_Steal_Done s_steal_Steal_Done m_steal_Steal_Done (known_cons ok_steal_Steal_Many s_steal_Steal_Many m_steal_Steal_Many (known_nil))
theorem s_steal_Steal_Got : S 8 F11.c_steal_Steal_Got := func_sound k_steal_Steal_Got Try.func8 chk_steal_Steal_Got
theorem m_steal_Steal_Got : Mono (F11.c_steal_Steal_Got (X := Ob)) := amFunc_mono (fun g f h => (k_steal_Steal_Got g f h).2.2) _
theorem k_slices_Clone_uint64 : Known A0 num Try.prog [] := known_nil
theorem s_slices_Clone_uint64 : S 92 F11.c_slices_Clone_uint64 := func_sound k_slices_Clone_uint64 Try.func92 chk_slices_Clone_uint64
theorem m_slices_Clone_uint64 : Mono (F11.c_slices_Clone_uint64 (X := Ob)) := amFunc_mono (fun g f h => (k_slices_Clone_uint64 g f h).2.2) _
theorem k_cell_Mem_All : Known A0 num Try.prog [(61, F11.c_slices_Clone_uint64)] := known_cons ok_slices_Clone_uint64 s_slices_Clone_uint64 m_slices_Clone_uint64 (known_nil)
theorem s_cell_Mem_All : S 56 F11.c_cell_Mem_All := func_sound k_cell_Mem_All Try.func56 chk_cell_Mem_All
theorem m_cell_Mem_All : Mono (F11.c_cell_Mem_All (X := Ob)) := amFunc_mono (fun g f h => (k_cell_Mem_All g f h).2.2) _
theorem k_docs_Ring : Known A0 num Try.prog [(47, F11.c_cell_Mem_All), (156, F11.c_conf_Config_Cells), (159, F11.c_conf_Config_Word), (160, F11.c_conf_Config_Slot)] := known_cons ok_cell_Mem_All s_cell_Mem_All m_cell_Mem_All (known_cons ok_conf_Config_Cells s_conf_Config_Cells m_conf_Config_Cells (known_cons ok_conf_Config_Word s_conf_Config_Word m_conf_Config_Word (known_cons ok_conf_Config_Slot s_conf_Config_Slot m_conf_Config_Slot (known_nil))))
theorem s_docs_Ring : S 28 F11.c_docs_Ring := func_sound k_docs_Ring Try.func28 chk_docs_Ring
theorem m_docs_Ring : Mono (F11.c_docs_Ring (X := Ob)) := amFunc_mono (fun g f h => (k_docs_Ring g f h).2.2) _
theorem k_kit_SameInts : Known A0 num Try.prog [] := known_nil
theorem s_kit_SameInts : S 30 F11.c_kit_SameInts := func_sound k_kit_SameInts Try.func30 chk_kit_SameInts
theorem m_kit_SameInts : Mono (F11.c_kit_SameInts (X := Ob)) := amFunc_mono (fun g f h => (k_kit_SameInts g f h).2.2) _
theorem k_docs_Thief : Known A0 num Try.prog [(136, F11.c_docs_Ring), (159, F11.c_conf_Config_Word), (24, F11.c_cell_Mem_Load), (22, F11.c_cell_Mem_Store)] := known_cons ok_docs_Ring s_docs_Ring m_docs_Ring (known_cons ok_conf_Config_Word s_conf_Config_Word m_conf_Config_Word (known_cons ok_cell_Mem_Load s_cell_Mem_Load m_cell_Mem_Load (known_cons ok_cell_Mem_Store s_cell_Mem_Store m_cell_Mem_Store (known_nil))))
theorem s_docs_Thief : S 33 F11.c_docs_Thief := func_sound k_docs_Thief Try.func33 chk_docs_Thief
theorem m_docs_Thief : Mono (F11.c_docs_Thief (X := Ob)) := amFunc_mono (fun g f h => (k_docs_Thief g f h).2.2) _
theorem k_law11_works : Known A0 num Try.prog [(281, F11.c_law11_rings), (270, F11.c_steal_New), (274, F11.c_steal_Steal_Step), (278, F11.c_steal_Steal_Got), (275, F11.c_steal_Steal_Many), (136, F11.c_docs_Ring), (84, F11.c_kit_SameInts), (139, F11.c_docs_Thief)] := known_cons ok_law11_rings s_law11_rings m_law11_rings (known_cons ok_steal_New s_steal_New m_steal_New (known_cons ok_steal_Steal_Step s_steal_Steal_Step m_steal_Steal_Step (known_cons ok_steal_Steal_Got s_steal_Steal_Got m_steal_Steal_Got (known_cons ok_steal_Steal_Many s_steal_Steal_Many m_steal_Steal_Many (known_cons ok_docs_Ring s_docs_Ring m_docs_Ring (known_cons ok_kit_SameInts s_kit_SameInts m_kit_SameInts (known_cons ok_docs_Thief s_docs_Thief m_docs_Thief (known_nil))))))))
theorem s_law11_works : S 15 F11.c_law11_works := func_sound k_law11_works Try.func15 chk_law11_works
theorem k_kit_Pick : Known A0 num Try.prog [] := known_nil
theorem s_kit_Pick : S 23 F11.c_kit_Pick := func_sound k_kit_Pick Try.func23 chk_kit_Pick
theorem m_kit_Pick : Mono (F11.c_kit_Pick (X := Ob)) := amFunc_mono (fun g f h => (k_kit_Pick g f h).2.2) _
theorem k_docs_Made : Known A0 num Try.prog [(87, F11.c_kit_Pick)] := known_cons ok_kit_Pick s_kit_Pick m_kit_Pick (known_nil)
theorem s_docs_Made : S 26 F11.c_docs_Made := func_sound k_docs_Made Try.func26 chk_docs_Made
theorem m_docs_Made : Mono (F11.c_docs_Made (X := Ob)) := amFunc_mono (fun g f h => (k_docs_Made g f h).2.2) _
theorem k_docs_byteAt : Known A0 num Try.prog [] := known_nil
theorem s_docs_byteAt : S 45 F11.c_docs_byteAt := func_sound k_docs_byteAt Try.func45 chk_docs_byteAt
theorem m_docs_byteAt : Mono (F11.c_docs_byteAt (X := Ob)) := amFunc_mono (fun g f h => (k_docs_byteAt g f h).2.2) _
theorem k_conf_Config_Next : Known A0 num Try.prog [(177, F11.c_conf_own_at)] := known_cons ok_conf_own_at s_conf_own_at m_conf_own_at (known_nil)
theorem s_conf_Config_Next : S 47 F11.c_conf_Config_Next := func_sound k_conf_Config_Next Try.func47 chk_conf_Config_Next
theorem m_conf_Config_Next : Mono (F11.c_conf_Config_Next (X := Ob)) := amFunc_mono (fun g f h => (k_conf_Config_Next g f h).2.2) _
theorem k_conf_Config_Stat : Known A0 num Try.prog [(177, F11.c_conf_own_at)] := known_cons ok_conf_own_at s_conf_own_at m_conf_own_at (known_nil)
theorem s_conf_Config_Stat : S 48 F11.c_conf_Config_Stat := func_sound k_conf_Config_Stat Try.func48 chk_conf_Config_Stat
theorem m_conf_Config_Stat : Mono (F11.c_conf_Config_Stat (X := Ob)) := amFunc_mono (fun g f h => (k_conf_Config_Stat g f h).2.2) _
theorem k_conf_Config_Tick : Known A0 num Try.prog [(177, F11.c_conf_own_at)] := known_cons ok_conf_own_at s_conf_own_at m_conf_own_at (known_nil)
theorem s_conf_Config_Tick : S 49 F11.c_conf_Config_Tick := func_sound k_conf_Config_Tick Try.func49 chk_conf_Config_Tick
theorem m_conf_Config_Tick : Mono (F11.c_conf_Config_Tick (X := Ob)) := amFunc_mono (fun g f h => (k_conf_Config_Tick g f h).2.2) _
theorem k_conf_Config_Sys : Known A0 num Try.prog [(177, F11.c_conf_own_at)] := known_cons ok_conf_own_at s_conf_own_at m_conf_own_at (known_nil)
theorem s_conf_Config_Sys : S 50 F11.c_conf_Config_Sys := func_sound k_conf_Config_Sys Try.func50 chk_conf_Config_Sys
theorem m_conf_Config_Sys : Mono (F11.c_conf_Config_Sys (X := Ob)) := amFunc_mono (fun g f h => (k_conf_Config_Sys g f h).2.2) _
theorem k_conf_Config_Flag : Known A0 num Try.prog [(177, F11.c_conf_own_at)] := known_cons ok_conf_own_at s_conf_own_at m_conf_own_at (known_nil)
theorem s_conf_Config_Flag : S 51 F11.c_conf_Config_Flag := func_sound k_conf_Config_Flag Try.func51 chk_conf_Config_Flag
theorem m_conf_Config_Flag : Mono (F11.c_conf_Config_Flag (X := Ob)) := amFunc_mono (fun g f h => (k_conf_Config_Flag g f h).2.2) _
theorem k_docs_Filled : Known A0 num Try.prog [(156, F11.c_conf_Config_Cells), (157, F11.c_conf_Config_Right), (158, F11.c_docs_byteAt), (159, F11.c_conf_Config_Word), (160, F11.c_conf_Config_Slot), (161, F11.c_conf_Config_Next), (162, F11.c_conf_Config_Stat), (163, F11.c_conf_Config_Tick), (164, F11.c_conf_Config_Sys), (165, F11.c_conf_Config_Flag)] := known_cons ok_conf_Config_Cells s_conf_Config_Cells m_conf_Config_Cells (known_cons ok_conf_Config_Right s_conf_Config_Right m_conf_Config_Right (known_cons ok_docs_byteAt s_docs_byteAt m_docs_byteAt (known_cons ok_conf_Config_Word s_conf_Config_Word m_conf_Config_Word (known_cons ok_conf_Config_Slot s_conf_Config_Slot m_conf_Config_Slot (known_cons ok_conf_Config_Next s_conf_Config_Next m_conf_Config_Next (known_cons ok_conf_Config_Stat s_conf_Config_Stat m_conf_Config_Stat (known_cons ok_conf_Config_Tick s_conf_Config_Tick m_conf_Config_Tick (known_cons ok_conf_Config_Sys s_conf_Config_Sys m_conf_Config_Sys (known_cons ok_conf_Config_Flag s_conf_Config_Flag m_conf_Config_Flag (known_nil))))))))))
theorem s_docs_Filled : S 17 F11.c_docs_Filled := func_sound k_docs_Filled Try.func17 chk_docs_Filled
theorem m_docs_Filled : Mono (F11.c_docs_Filled (X := Ob)) := amFunc_mono (fun g f h => (k_docs_Filled g f h).2.2) _
theorem k_ref06_New : Known A0 num Try.prog [] := known_nil
theorem s_ref06_New : S 42 F11.c_ref06_New := func_sound k_ref06_New Try.func42 chk_ref06_New
theorem m_ref06_New : Mono (F11.c_ref06_New (X := Ob)) := amFunc_mono (fun g f h => (k_ref06_New g f h).2.2) _
theorem k_ref06_there : Known A0 num Try.prog [] := known_nil
theorem s_ref06_there : S 69 F11.c_ref06_there := func_sound k_ref06_there Try.func69 chk_ref06_there
theorem m_ref06_there : Mono (F11.c_ref06_there (X := Ob)) := amFunc_mono (fun g f h => (k_ref06_there g f h).2.2) _
theorem k_ref06_with : Known A0 num Try.prog [] := known_nil
theorem s_ref06_with : S 70 F11.c_ref06_with := func_sound k_ref06_with Try.func70 chk_ref06_with
theorem m_ref06_with : Mono (F11.c_ref06_with (X := Ob)) := amFunc_mono (fun g f h => (k_ref06_with g f h).2.2) _
theorem k_ref06_Store : Known A0 num Try.prog [(72, F11.c_ref06_there), (73, F11.c_ref06_with)] := known_cons ok_ref06_there s_ref06_there m_ref06_there (known_cons ok_ref06_with s_ref06_with m_ref06_with (known_nil))
theorem s_ref06_Store : S 25 F11.c_ref06_Store := func_sound k_ref06_Store Try.func25 chk_ref06_Store
theorem m_ref06_Store : Mono (F11.c_ref06_Store (X := Ob)) := amFunc_mono (fun g f h => (k_ref06_Store g f h).2.2) _
theorem k_slices_Grow_int : Known A0 num Try.prog [] := known_nil
theorem s_slices_Grow_int : S 89 F11.c_slices_Grow_int := func_sound k_slices_Grow_int Try.func89 chk_slices_Grow_int
theorem m_slices_Grow_int : Mono (F11.c_slices_Grow_int (X := Ob)) := amFunc_mono (fun g f h => (k_slices_Grow_int g f h).2.2) _
theorem k_put_New : Known A0 num Try.prog [(206, F11.c_put_from)] := known_cons ok_put_from s_put_from m_put_from (known_nil)
theorem s_put_New : S 29 F11.c_put_New := func_sound k_put_New Try.func29 chk_put_New
theorem m_put_New : Mono (F11.c_put_New (X := Ob)) := amFunc_mono (fun g f h => (k_put_New g f h).2.2) _
theorem k_put_Put_Done : Known A0 num Try.prog [] := known_nil
theorem s_put_Put_Done : S 73 F11.c_put_Put_Done := func_sound k_put_Put_Done Try.func73 chk_put_Put_Done
theorem m_put_Put_Done : Mono (F11.c_put_Put_Done (X := Ob)) := amFunc_mono (fun g f h => (k_put_Put_Done g f h).2.2) _
theorem k_put_ways : Known A0 num Try.prog [(214, F11.c_put_Put_look), (215, F11.c_put_Put_lay), (216, F11.c_put_Put_swing), (217, F11.c_put_Put_take), (218, F11.c_put_Put_cut)] := known_cons ok_put_Put_look s_put_Put_look m_put_Put_look (known_cons ok_put_Put_lay s_put_Put_lay m_put_Put_lay (known_cons ok_put_Put_swing s_put_Put_swing m_put_Put_swing (known_cons ok_put_Put_take s_put_Put_take m_put_Put_take (known_cons ok_put_Put_cut s_put_Put_cut m_put_Put_cut (known_nil)))))
theorem s_put_ways : S 74 F11.c_put_ways := func_sound k_put_ways Try.func74 chk_put_ways
theorem m_put_ways : Mono (F11.c_put_ways (X := Ob)) := amFunc_mono (fun g f h => (k_put_ways g f h).2.2) _
theorem k_law11_same : Known A0 num Try.prog [] := known_nil
theorem s_law11_same : S 34 F11.c_law11_same := func_sound k_law11_same Try.func34 chk_law11_same
theorem m_law11_same : Mono (F11.c_law11_same (X := Ob)) := amFunc_mono (fun g f h => (k_law11_same g f h).2.2) _
theorem s_worksG : S 15 (pureF F11.worksG) := lift_sound F11.works_lift s_law11_works
theorem e_new : S 6 F06.newF := fold_sound F06.new_fold s_cell_New
theorem f_new : Mono F06.newF := F06.new_fold.mono
def GA : List (Nat × AFun Ob) := [(56, F06.c_cell_Mem_there), (71, F06.c_cell_counts_note), (49, F06.c_cell_Mem_Store_1), (51, F06.c_cell_Mem_CAS_1), (52, F06.c_cell_Mem_Load_1), (213, F11.c_put_NewLay_1)]
theorem o_Mem_Load : Fold concM (unf 0 plM (amFunc [(50, amFunc GA F06.cell_Mem_access), (52, F06.c_cell_Mem_Load_1)] F06.cell_Mem_Load)) (memF F06.loadS) := F06.load_foldG (G := GA) rfl rfl rfl
theorem e_Mem_Load : S 76 (memF F06.loadS) := fold_sound o_Mem_Load (unf_sound plM_ok s_cell_Mem_Load)
theorem f_Mem_Load : Mono (memF F06.loadS) := o_Mem_Load.mono
theorem o_Mem_Store : Fold concM (unf 0 plM (amFunc [(50, amFunc GA F06.cell_Mem_access), (49, F06.c_cell_Mem_Store_1)] F06.cell_Mem_Store)) (memF F06.storeS) := F06.store_foldG (G := GA) rfl rfl rfl
theorem e_Mem_Store : S 24 (memF F06.storeS) := fold_sound o_Mem_Store (unf_sound plM_ok s_cell_Mem_Store)
theorem f_Mem_Store : Mono (memF F06.storeS) := o_Mem_Store.mono
theorem o_Mem_CAS : Fold concM (unf 0 plM (amFunc [(50, amFunc GA F06.cell_Mem_access), (51, F06.c_cell_Mem_CAS_1)] F06.cell_Mem_CAS)) (memF F06.casS) := F06.cas_foldG (G := GA) rfl rfl rfl
theorem e_Mem_CAS : S 80 (memF F06.casS) := fold_sound o_Mem_CAS (unf_sound plM_ok s_cell_Mem_CAS)
theorem f_Mem_CAS : Mono (memF F06.casS) := o_Mem_CAS.mono
theorem e_Mem_All : S 56 (F06.memNF F06.allS) := fold_sound F06.all_fold (unf_sound plM_ok s_cell_Mem_All)
theorem f_Mem_All : Mono (F06.memNF F06.allS) := F06.all_fold.mono
theorem k_mem : Known A0 num Try.prog F10.Gmem := known_cons ok_cell_New e_new f_new (known_cons ok_ref06_New s_ref06_New m_ref06_New (known_cons ok_cell_Mem_Store e_Mem_Store f_Mem_Store (known_cons ok_ref06_Store s_ref06_Store m_ref06_Store (known_nil))))
theorem e_mem : S 16 (amFunc F10.Gmem F10.docs_Mem) := func_sound k_mem Try.func16 chk_docs_Mem
theorem k_ring : Known A0 num Try.prog F10.Gring := known_cons ok_cell_Mem_All e_Mem_All f_Mem_All (known_cons ok_conf_Config_Cells s_conf_Config_Cells m_conf_Config_Cells (known_cons ok_conf_Config_Word s_conf_Config_Word m_conf_Config_Word (known_cons ok_conf_Config_Slot s_conf_Config_Slot m_conf_Config_Slot (known_nil))))
theorem e_ring : S 28 (amFunc F10.Gring F10.docs_Ring) := func_sound k_ring Try.func28 chk_docs_Ring
theorem k_thief : Known A0 num Try.prog F10.Gthief := known_am ok_docs_Ring k_ring e_ring (known_cons ok_conf_Config_Word s_conf_Config_Word m_conf_Config_Word (known_cons ok_cell_Mem_Load e_Mem_Load f_Mem_Load (known_cons ok_cell_Mem_Store e_Mem_Store f_Mem_Store (known_nil))))
theorem e_thief : S 33 (amFunc F10.Gthief F10.docs_Thief) := func_sound k_thief Try.func33 chk_docs_Thief
theorem k_rl : Known A0 num Try.prog F09.Grl := known_cons ok_conf_Config_Word s_conf_Config_Word m_conf_Config_Word (known_cons ok_cell_Mem_Load e_Mem_Load f_Mem_Load (known_cons ok_word_Len s_word_Len m_word_Len (known_nil)))
theorem e_rl : S 107 (amFunc F09.Grl F09.put_ring_load) := func_sound k_rl Try.func107 chk_put_ring_load
theorem k_ch : Known A0 num Try.prog F09.Gch := known_cons ok_conf_Config_Word s_conf_Config_Word m_conf_Config_Word (known_cons ok_cell_Mem_CAS e_Mem_CAS f_Mem_CAS (known_nil))
theorem e_ch : S 86 (amFunc F09.Gch F09.put_ring_change) := func_sound k_ch Try.func86 chk_put_ring_change
theorem k_lk : Known A0 num Try.prog F09.Glk := known_am ok_put_ring_load k_rl e_rl (known_nil)
theorem e_lk : S 84 (amFunc F09.Glk F09.put_Lay_look) := func_sound k_lk Try.func84 chk_put_Lay_look
theorem k_lst : Known A0 num Try.prog F09.Glst := known_cons ok_put_Lay_Done s_put_Lay_Done m_put_Lay_Done (known_am ok_put_Lay_look k_lk e_lk (known_cons ok_put_ring_slot s_put_ring_slot m_put_ring_slot (known_cons ok_cell_Mem_Store e_Mem_Store f_Mem_Store (known_cons ok_word_Grow s_word_Grow m_word_Grow (known_am ok_put_ring_change k_ch e_ch (known_nil))))))
theorem e_lst : S 38 (amFunc F09.Glst F09.put_Lay_Step) := func_sound k_lst Try.func38 chk_put_Lay_Step
theorem k_if_ : Known A0 num Try.prog F09.Gif := known_cons ok_put_NewLay_1 s_put_NewLay_1 m_put_NewLay_1 (known_nil)
theorem e_if_ : S 110 (amFunc F09.Gif F09.slices_IndexFunc_int) := func_sound k_if_ Try.func110 chk_slices_IndexFunc_int
theorem k_df : Known A0 num Try.prog F09.Gdf := known_am ok_slices_IndexFunc_int k_if_ e_if_ (known_cons ok_put_NewLay_1 s_put_NewLay_1 m_put_NewLay_1 (known_nil))
theorem e_df : S 105 (amFunc F09.Gdf F09.slices_DeleteFunc_int) := func_sound k_df Try.func105 chk_slices_DeleteFunc_int
theorem k_nl : Known A0 num Try.prog F09.Gnl := known_cons ok_put_from s_put_from m_put_from (known_cons ok_slices_Clone_int s_slices_Clone_int m_slices_Clone_int (known_am ok_slices_DeleteFunc_int k_df e_df (known_nil)))
theorem e_nl : S 82 (amFunc F09.Gnl F09.put_NewLay) := func_sound k_nl Try.func82 chk_put_NewLay
theorem k_lh : Known A0 num Try.prog F09.Gpo := known_cons ok_slices_Clone_int s_slices_Clone_int m_slices_Clone_int (known_nil)
theorem e_lh : S 88 (amFunc F09.Gpo F09.put_Lay_Hands) := func_sound k_lh Try.func88 chk_put_Lay_Hands
theorem k_sl : Known A0 num Try.prog F11.Gsl := known_cons ok_conf_Config_Word s_conf_Config_Word m_conf_Config_Word (known_cons ok_cell_Mem_Load e_Mem_Load f_Mem_Load (known_cons ok_word_Len s_word_Len m_word_Len (known_nil)))
theorem e_sl : S 35 (amFunc F11.Gsl F11.steal_Steal_look) := func_sound k_sl Try.func35 chk_steal_Steal_look
theorem k_sc : Known A0 num Try.prog F11.Gsc := known_cons ok_word_Head s_word_Head m_word_Head (known_cons ok_conf_Config_Slot s_conf_Config_Slot m_conf_Config_Slot (known_cons ok_cell_Mem_Load e_Mem_Load f_Mem_Load (known_cons ok_steal_Steal_half s_steal_Steal_half m_steal_Steal_half (known_nil))))
theorem e_sc : S 36 (amFunc F11.Gsc F11.steal_Steal_copy) := func_sound k_sc Try.func36 chk_steal_Steal_copy
theorem k_sg : Known A0 num Try.prog F11.Gsg := known_cons ok_conf_Config_Word s_conf_Config_Word m_conf_Config_Word (known_cons ok_steal_Steal_half s_steal_Steal_half m_steal_Steal_half (known_cons ok_word_Gain s_word_Gain m_word_Gain (known_cons ok_cell_Mem_CAS e_Mem_CAS f_Mem_CAS (known_am ok_put_NewLay k_nl e_nl (known_nil)))))
theorem e_sg : S 37 (amFunc F11.Gsg F11.steal_Steal_gain) := func_sound k_sg Try.func37 chk_steal_Steal_gain
theorem k_st : Known A0 num Try.prog F11.Gst := known_cons ok_steal_Steal_Done s_steal_Steal_Done m_steal_Steal_Done (known_am ok_steal_Steal_look k_sl e_sl (known_am ok_steal_Steal_copy k_sc e_sc (known_am ok_steal_Steal_gain k_sg e_sg (known_am ok_put_Lay_Step k_lst e_lst (known_nil)))))
theorem e_st : S 10 (amFunc F11.Gst F11.steal_Steal_Step) := func_sound k_st Try.func10 chk_steal_Steal_Step
theorem k_rs : Known A0 num Try.prog F11.Grs := known_am ok_put_Lay_Hands k_lh e_lh (known_nil)
theorem e_rs : S 39 (amFunc F11.Grs F11.steal_rest_Rest) := func_sound k_rs Try.func39 chk_steal_rest_Rest
theorem k_cc : Known A0 num Try.prog F11.Gcc := known_cons ok_slices_Grow_int s_slices_Grow_int m_slices_Grow_int (known_nil)
theorem e_cc : S 40 (amFunc F11.Gcc F11.slices_Concat_int) := func_sound k_cc Try.func40 chk_slices_Concat_int
theorem k_sh : Known A0 num Try.prog F11.Gsh := known_cons ok_steal_Steal_Many s_steal_Steal_Many m_steal_Steal_Many (known_am ok_steal_rest_Rest k_rs e_rs (known_am ok_slices_Concat_int k_cc e_cc (known_nil)))
theorem e_sh : S 13 (amFunc F11.Gsh F11.steal_Steal_Hands) := func_sound k_sh Try.func13 chk_steal_Steal_Hands
theorem k_lf : Known A0 num Try.prog F11.Glf := known_cons ok_steal_Steal_Done s_steal_Steal_Done m_steal_Steal_Done (known_cons ok_steal_Steal_Many s_steal_Steal_Many m_steal_Steal_Many (known_am ok_steal_rest_Rest k_rs e_rs (known_nil)))
theorem e_lf : S 12 (amFunc F11.Glf F11.steal_Steal_Left) := func_sound k_lf Try.func12 chk_steal_Steal_Left
theorem k_plk : Known A0 num Try.prog F09.Gplk := known_am ok_put_ring_load k_rl e_rl (known_nil)
theorem e_plk : S 95 (amFunc F09.Gplk F09.put_Put_look) := func_sound k_plk Try.func95 chk_put_Put_look
theorem k_ply : Known A0 num Try.prog F09.Gply := known_cons ok_put_ring_slot s_put_ring_slot m_put_ring_slot (known_cons ok_cell_Mem_Store e_Mem_Store f_Mem_Store (known_nil))
theorem e_ply : S 96 (amFunc F09.Gply F09.put_Put_lay) := func_sound k_ply Try.func96 chk_put_Put_lay
theorem k_psw : Known A0 num Try.prog F09.Gpsw := known_cons ok_word_Grow s_word_Grow m_word_Grow (known_am ok_put_ring_change k_ch e_ch (known_nil))
theorem e_psw : S 97 (amFunc F09.Gpsw F09.put_Put_swing) := func_sound k_psw Try.func97 chk_put_Put_swing
theorem k_ptk : Known A0 num Try.prog F09.Gptk := known_cons ok_put_Put_half s_put_Put_half m_put_Put_half (known_cons ok_put_ring_slot s_put_ring_slot m_put_ring_slot (known_cons ok_cell_Mem_Load e_Mem_Load f_Mem_Load (known_nil)))
theorem e_ptk : S 98 (amFunc F09.Gptk F09.put_Put_take) := func_sound k_ptk Try.func98 chk_put_Put_take
theorem k_pct : Known A0 num Try.prog F09.Gpct := known_cons ok_put_Put_half s_put_Put_half m_put_Put_half (known_cons ok_word_Drop s_word_Drop m_word_Drop (known_am ok_put_ring_change k_ch e_ch (known_nil)))
theorem e_pct : S 99 (amFunc F09.Gpct F09.put_Put_cut) := func_sound k_pct Try.func99 chk_put_Put_cut
theorem k_pst : Known A0 num Try.prog F09.Gpst := known_cons ok_put_Put_Done s_put_Put_Done m_put_Put_Done (known_cons ok_put_ways s_put_ways m_put_ways (known_am ok_put_Put_look k_plk e_plk (known_am ok_put_Put_lay k_ply e_ply (known_am ok_put_Put_swing k_psw e_psw (known_am ok_put_Put_take k_ptk e_ptk (known_am ok_put_Put_cut k_pct e_pct (known_nil)))))))
theorem e_pst : S 31 (amFunc F09.Gpst F09.put_Put_Step) := func_sound k_pst Try.func31 chk_put_Put_Step
theorem k_po : Known A0 num Try.prog F09.Gpo := known_cons ok_slices_Clone_int s_slices_Clone_int m_slices_Clone_int (known_nil)
theorem e_po : S 32 (amFunc F09.Gpo F09.put_Put_Over) := func_sound k_po Try.func32 chk_put_Put_Over
theorem k_sk : Known A0 num Try.prog F11.Gsk := known_cons ok_law11_works s_worksG F11.works_lift.mono (known_cons ok_docs_Made s_docs_Made m_docs_Made (known_cons ok_docs_Filled s_docs_Filled m_docs_Filled (known_cons ok_conf_Config_Word s_conf_Config_Word m_conf_Config_Word (known_am ok_docs_Mem k_mem e_mem (known_am ok_docs_Ring k_ring e_ring (known_cons ok_steal_New s_steal_New m_steal_New (known_cons ok_put_New s_put_New m_put_New (known_cons ok_kit_Pick s_kit_Pick m_kit_Pick (known_am ok_steal_Steal_Step k_st e_st (known_cons ok_steal_Steal_Many s_steal_Steal_Many m_steal_Steal_Many (known_am ok_steal_Steal_Hands k_sh e_sh (known_cons ok_kit_SameInts s_kit_SameInts m_kit_SameInts (known_am ok_put_Put_Step k_pst e_pst (known_am ok_put_Put_Over k_po e_po (known_am ok_docs_Thief k_thief e_thief (known_cons ok_steal_Steal_Done s_steal_Steal_Done m_steal_Steal_Done (known_cons ok_steal_Steal_Got s_steal_Steal_Got m_steal_Steal_Got (known_am ok_steal_Steal_Left k_lf e_lf (known_cons ok_law11_same s_law11_same m_law11_same (known_nil))))))))))))))))))))
theorem e_sk : S 5 (amFunc F11.Gsk F11.law11_StealKeeps) := func_sound k_sk Try.func5 chk_law11_StealKeeps
end Go.Proofs.Ytmgahjccidmlaaa
