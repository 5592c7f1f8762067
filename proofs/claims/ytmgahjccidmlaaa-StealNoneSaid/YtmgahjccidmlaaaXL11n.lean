import Derived.Test.YtmgahjccidmlaaaRows
import Derived.Test.YtmgahjccidmlaaaXS11
import Derived.Test.YtmgahjccidmlaaaXG14
import Derived.Test.YtmgahjccidmlaaaXG15
import Derived.Lib.SmallJoins
set_option linter.unusedSimpArgs false
set_option linter.unusedVariables false
namespace Go.Proofs.Ytmgahjccidmlaaa
open Go.Am Go.Joins Go.ChangeShapes Go.WideShapes Go.RowKit Go.Deep Go.ChangeAt
theorem Try.own : ownKnob Try.prog.godebug = none := by kernel_rfl
theorem Try.laidOut : laidOutB Try.prog = true := by kernel_rfl
abbrev A0 : AbsSem Unit := AbsSem.no Unit
abbrev S (k : Nat) (f : AFun Unit) : Prop := Sound A0 num Try.prog k f
theorem k_conf_within : Known A0 num Try.prog [] := known_nil
theorem s_conf_within : S 90 F11.c_conf_within := func_sound k_conf_within Try.func90 chk_conf_within
theorem m_conf_within : Mono (F11.c_conf_within (X := Unit)) := amFunc_mono (fun g f h => (k_conf_within g f h).2.2) _
theorem k_conf_Config_Right : Known A0 num Try.prog [(176, F11.c_conf_within)] := known_cons ok_conf_within s_conf_within m_conf_within (known_nil)
theorem s_conf_Config_Right : S 44 F11.c_conf_Config_Right := func_sound k_conf_Config_Right Try.func44 chk_conf_Config_Right
theorem m_conf_Config_Right : Mono (F11.c_conf_Config_Right (X := Unit)) := amFunc_mono (fun g f h => (k_conf_Config_Right g f h).2.2) _
theorem k_conf_Config_Cells : Known A0 num Try.prog [(157, F11.c_conf_Config_Right)] := known_cons ok_conf_Config_Right s_conf_Config_Right m_conf_Config_Right (known_nil)
theorem s_conf_Config_Cells : S 43 F11.c_conf_Config_Cells := func_sound k_conf_Config_Cells Try.func43 chk_conf_Config_Cells
theorem m_conf_Config_Cells : Mono (F11.c_conf_Config_Cells (X := Unit)) := amFunc_mono (fun g f h => (k_conf_Config_Cells g f h).2.2) _
theorem k_cell_New : Known A0 num Try.prog [] := known_nil
theorem s_cell_New : S 6 F11.c_cell_New := func_sound k_cell_New Try.func6 chk_cell_New
theorem m_cell_New : Mono (F11.c_cell_New (X := Unit)) := amFunc_mono (fun g f h => (k_cell_New g f h).2.2) _
theorem k_conf_own_at : Known A0 num Try.prog [(157, F11.c_conf_Config_Right), (176, F11.c_conf_within)] := known_cons ok_conf_Config_Right s_conf_Config_Right m_conf_Config_Right (known_cons ok_conf_within s_conf_within m_conf_within (known_nil))
theorem s_conf_own_at : S 71 F11.c_conf_own_at := func_sound k_conf_own_at Try.func71 chk_conf_own_at
theorem m_conf_own_at : Mono (F11.c_conf_own_at (X := Unit)) := amFunc_mono (fun g f h => (k_conf_own_at g f h).2.2) _
theorem k_conf_Config_Slot : Known A0 num Try.prog [(157, F11.c_conf_Config_Right), (177, F11.c_conf_own_at)] := known_cons ok_conf_Config_Right s_conf_Config_Right m_conf_Config_Right (known_cons ok_conf_own_at s_conf_own_at m_conf_own_at (known_nil))
theorem s_conf_Config_Slot : S 46 F11.c_conf_Config_Slot := func_sound k_conf_Config_Slot Try.func46 chk_conf_Config_Slot
theorem m_conf_Config_Slot : Mono (F11.c_conf_Config_Slot (X := Unit)) := amFunc_mono (fun g f h => (k_conf_Config_Slot g f h).2.2) _
theorem k_cell_Mem_there : Known A0 num Try.prog [] := known_nil
theorem s_cell_Mem_there : S 93 F11.c_cell_Mem_there := func_sound k_cell_Mem_there Try.func93 chk_cell_Mem_there
theorem m_cell_Mem_there : Mono (F11.c_cell_Mem_there (X := Unit)) := amFunc_mono (fun g f h => (k_cell_Mem_there g f h).2.2) _
theorem k_cell_counts_note : Known A0 num Try.prog [] := known_nil
theorem s_cell_counts_note : S 94 F11.c_cell_counts_note := func_sound k_cell_counts_note Try.func94 chk_cell_counts_note
theorem m_cell_counts_note : Mono (F11.c_cell_counts_note (X := Unit)) := amFunc_mono (fun g f h => (k_cell_counts_note g f h).2.2) _
theorem k_cell_Mem_Store_1 : Known A0 num Try.prog [] := known_nil
theorem s_cell_Mem_Store_1 : S 68 F11.c_cell_Mem_Store_1 := func_sound k_cell_Mem_Store_1 Try.func68 chk_cell_Mem_Store_1
theorem m_cell_Mem_Store_1 : Mono (F11.c_cell_Mem_Store_1 (X := Unit)) := amFunc_mono (fun g f h => (k_cell_Mem_Store_1 g f h).2.2) _
theorem k_cell_Mem_CAS_1 : Known A0 num Try.prog [] := known_nil
theorem s_cell_Mem_CAS_1 : S 103 F11.c_cell_Mem_CAS_1 := func_sound k_cell_Mem_CAS_1 Try.func103 chk_cell_Mem_CAS_1
theorem m_cell_Mem_CAS_1 : Mono (F11.c_cell_Mem_CAS_1 (X := Unit)) := amFunc_mono (fun g f h => (k_cell_Mem_CAS_1 g f h).2.2) _
theorem k_cell_Mem_Load_1 : Known A0 num Try.prog [] := known_nil
theorem s_cell_Mem_Load_1 : S 100 F11.c_cell_Mem_Load_1 := func_sound k_cell_Mem_Load_1 Try.func100 chk_cell_Mem_Load_1
theorem m_cell_Mem_Load_1 : Mono (F11.c_cell_Mem_Load_1 (X := Unit)) := amFunc_mono (fun g f h => (k_cell_Mem_Load_1 g f h).2.2) _
theorem k_put_NewLay_1 : Known A0 num Try.prog [] := known_nil
theorem s_put_NewLay_1 : S 106 F11.c_put_NewLay_1 := func_sound k_put_NewLay_1 Try.func106 chk_put_NewLay_1
theorem m_put_NewLay_1 : Mono (F11.c_put_NewLay_1 (X := Unit)) := amFunc_mono (fun g f h => (k_put_NewLay_1 g f h).2.2) _
theorem k_cell_Mem_access : Known A0 num Try.prog [(56, F11.c_cell_Mem_there), (71, F11.c_cell_counts_note), (49, F11.c_cell_Mem_Store_1), (51, F11.c_cell_Mem_CAS_1), (52, F11.c_cell_Mem_Load_1), (213, F11.c_put_NewLay_1)] := known_cons ok_cell_Mem_there s_cell_Mem_there m_cell_Mem_there (known_cons ok_cell_counts_note s_cell_counts_note m_cell_counts_note (known_cons ok_cell_Mem_Store_1 s_cell_Mem_Store_1 m_cell_Mem_Store_1 (known_cons ok_cell_Mem_CAS_1 s_cell_Mem_CAS_1 m_cell_Mem_CAS_1 (known_cons ok_cell_Mem_Load_1 s_cell_Mem_Load_1 m_cell_Mem_Load_1 (known_cons ok_put_NewLay_1 s_put_NewLay_1 m_put_NewLay_1 (known_nil))))))
theorem s_cell_Mem_access : S 67 F11.c_cell_Mem_access := func_sound k_cell_Mem_access Try.func67 chk_cell_Mem_access
theorem m_cell_Mem_access : Mono (F11.c_cell_Mem_access (X := Unit)) := amFunc_mono (fun g f h => (k_cell_Mem_access g f h).2.2) _
theorem k_cell_Mem_Store : Known A0 num Try.prog [(50, F11.c_cell_Mem_access), (49, F11.c_cell_Mem_Store_1)] := known_cons ok_cell_Mem_access s_cell_Mem_access m_cell_Mem_access (known_cons ok_cell_Mem_Store_1 s_cell_Mem_Store_1 m_cell_Mem_Store_1 (known_nil))
theorem s_cell_Mem_Store : S 24 F11.c_cell_Mem_Store := func_sound k_cell_Mem_Store Try.func24 chk_cell_Mem_Store
theorem m_cell_Mem_Store : Mono (F11.c_cell_Mem_Store (X := Unit)) := amFunc_mono (fun g f h => (k_cell_Mem_Store g f h).2.2) _
theorem k_conf_Config_Word : Known A0 num Try.prog [(177, F11.c_conf_own_at)] := known_cons ok_conf_own_at s_conf_own_at m_conf_own_at (known_nil)
theorem s_conf_Config_Word : S 27 F11.c_conf_Config_Word := func_sound k_conf_Config_Word Try.func27 chk_conf_Config_Word
theorem m_conf_Config_Word : Mono (F11.c_conf_Config_Word (X := Unit)) := amFunc_mono (fun g f h => (k_conf_Config_Word g f h).2.2) _
theorem k_law11_rings : Known A0 num Try.prog [(156, F11.c_conf_Config_Cells), (21, F11.c_cell_New), (160, F11.c_conf_Config_Slot), (22, F11.c_cell_Mem_Store), (159, F11.c_conf_Config_Word)] := known_cons ok_conf_Config_Cells s_conf_Config_Cells m_conf_Config_Cells (known_cons ok_cell_New s_cell_New m_cell_New (known_cons ok_conf_Config_Slot s_conf_Config_Slot m_conf_Config_Slot (known_cons ok_cell_Mem_Store s_cell_Mem_Store m_cell_Mem_Store (known_cons ok_conf_Config_Word s_conf_Config_Word m_conf_Config_Word (known_nil)))))
theorem s_law11_rings : S 41 F11.c_law11_rings := func_sound k_law11_rings Try.func41 chk_law11_rings
theorem m_law11_rings : Mono (F11.c_law11_rings (X := Unit)) := amFunc_mono (fun g f h => (k_law11_rings g f h).2.2) _
theorem k_steal_New : Known A0 num Try.prog [(159, F11.c_conf_Config_Word)] := known_cons ok_conf_Config_Word s_conf_Config_Word m_conf_Config_Word (known_nil)
theorem s_steal_New : S 7 F11.c_steal_New := func_sound k_steal_New Try.func7 chk_steal_New
theorem m_steal_New : Mono (F11.c_steal_New (X := Unit)) := amFunc_mono (fun g f h => (k_steal_New g f h).2.2) _
theorem k_steal_Steal_Done : Known A0 num Try.prog [] := known_nil
theorem s_steal_Steal_Done : S 9 F11.c_steal_Steal_Done := func_sound k_steal_Steal_Done Try.func9 chk_steal_Steal_Done
theorem m_steal_Steal_Done : Mono (F11.c_steal_Steal_Done (X := Unit)) := amFunc_mono (fun g f h => (k_steal_Steal_Done g f h).2.2) _
theorem k_cell_Mem_Load : Known A0 num Try.prog [(50, F11.c_cell_Mem_access), (52, F11.c_cell_Mem_Load_1)] := known_cons ok_cell_Mem_access s_cell_Mem_access m_cell_Mem_access (known_cons ok_cell_Mem_Load_1 s_cell_Mem_Load_1 m_cell_Mem_Load_1 (known_nil))
theorem s_cell_Mem_Load : S 76 F11.c_cell_Mem_Load := func_sound k_cell_Mem_Load Try.func76 chk_cell_Mem_Load
theorem m_cell_Mem_Load : Mono (F11.c_cell_Mem_Load (X := Unit)) := amFunc_mono (fun g f h => (k_cell_Mem_Load g f h).2.2) _
theorem k_word_Tail : Known A0 num Try.prog [] := known_nil
theorem s_word_Tail : S 101 F11.c_word_Tail := func_sound k_word_Tail Try.func101 chk_word_Tail
theorem m_word_Tail : Mono (F11.c_word_Tail (X := Unit)) := amFunc_mono (fun g f h => (k_word_Tail g f h).2.2) _
theorem k_word_Head : Known A0 num Try.prog [] := known_nil
theorem s_word_Head : S 78 F11.c_word_Head := func_sound k_word_Head Try.func78 chk_word_Head
theorem m_word_Head : Mono (F11.c_word_Head (X := Unit)) := amFunc_mono (fun g f h => (k_word_Head g f h).2.2) _
theorem k_word_Len : Known A0 num Try.prog [(182, F11.c_word_Tail), (179, F11.c_word_Head)] := known_cons ok_word_Tail s_word_Tail m_word_Tail (known_cons ok_word_Head s_word_Head m_word_Head (known_nil))
theorem s_word_Len : S 77 F11.c_word_Len := func_sound k_word_Len Try.func77 chk_word_Len
theorem m_word_Len : Mono (F11.c_word_Len (X := Unit)) := amFunc_mono (fun g f h => (k_word_Len g f h).2.2) _
theorem k_steal_Steal_look : Known A0 num Try.prog [(159, F11.c_conf_Config_Word), (24, F11.c_cell_Mem_Load), (178, F11.c_word_Len)] := known_cons ok_conf_Config_Word s_conf_Config_Word m_conf_Config_Word (known_cons ok_cell_Mem_Load s_cell_Mem_Load m_cell_Mem_Load (known_cons ok_word_Len s_word_Len m_word_Len (known_nil)))
theorem s_steal_Steal_look : S 35 F11.c_steal_Steal_look := func_sound k_steal_Steal_look Try.func35 chk_steal_Steal_look
theorem m_steal_Steal_look : Mono (F11.c_steal_Steal_look (X := Unit)) := amFunc_mono (fun g f h => (k_steal_Steal_look g f h).2.2) _
theorem k_word_Older : Known A0 num Try.prog [] := known_nil
theorem s_word_Older : S 102 F11.c_word_Older := func_sound k_word_Older Try.func102 chk_word_Older
theorem m_word_Older : Mono (F11.c_word_Older (X := Unit)) := amFunc_mono (fun g f h => (k_word_Older g f h).2.2) _
theorem k_steal_Steal_half : Known A0 num Try.prog [(178, F11.c_word_Len), (289, F11.c_word_Older)] := known_cons ok_word_Len s_word_Len m_word_Len (known_cons ok_word_Older s_word_Older m_word_Older (known_nil))
theorem s_steal_Steal_half : S 79 F11.c_steal_Steal_half := func_sound k_steal_Steal_half Try.func79 chk_steal_Steal_half
theorem m_steal_Steal_half : Mono (F11.c_steal_Steal_half (X := Unit)) := amFunc_mono (fun g f h => (k_steal_Steal_half g f h).2.2) _
theorem k_steal_Steal_copy : Known A0 num Try.prog [(179, F11.c_word_Head), (160, F11.c_conf_Config_Slot), (24, F11.c_cell_Mem_Load), (288, F11.c_steal_Steal_half)] := known_cons ok_word_Head s_word_Head m_word_Head (known_cons ok_conf_Config_Slot s_conf_Config_Slot m_conf_Config_Slot (known_cons ok_cell_Mem_Load s_cell_Mem_Load m_cell_Mem_Load (known_cons ok_steal_Steal_half s_steal_Steal_half m_steal_Steal_half (known_nil))))
theorem s_steal_Steal_copy : S 36 F11.c_steal_Steal_copy := func_sound k_steal_Steal_copy Try.func36 chk_steal_Steal_copy
theorem m_steal_Steal_copy : Mono (F11.c_steal_Steal_copy (X := Unit)) := amFunc_mono (fun g f h => (k_steal_Steal_copy g f h).2.2) _
theorem k_word_Pack : Known A0 num Try.prog [] := known_nil
theorem s_word_Pack : S 104 F11.c_word_Pack := func_sound k_word_Pack Try.func104 chk_word_Pack
theorem m_word_Pack : Mono (F11.c_word_Pack (X := Unit)) := amFunc_mono (fun g f h => (k_word_Pack g f h).2.2) _
theorem k_word_Gain : Known A0 num Try.prog [(179, F11.c_word_Head), (182, F11.c_word_Tail), (183, F11.c_word_Pack)] := known_cons ok_word_Head s_word_Head m_word_Head (known_cons ok_word_Tail s_word_Tail m_word_Tail (known_cons ok_word_Pack s_word_Pack m_word_Pack (known_nil)))
theorem s_word_Gain : S 81 F11.c_word_Gain := func_sound k_word_Gain Try.func81 chk_word_Gain
theorem m_word_Gain : Mono (F11.c_word_Gain (X := Unit)) := amFunc_mono (fun g f h => (k_word_Gain g f h).2.2) _
theorem k_cell_Mem_CAS : Known A0 num Try.prog [(50, F11.c_cell_Mem_access), (51, F11.c_cell_Mem_CAS_1)] := known_cons ok_cell_Mem_access s_cell_Mem_access m_cell_Mem_access (known_cons ok_cell_Mem_CAS_1 s_cell_Mem_CAS_1 m_cell_Mem_CAS_1 (known_nil))
theorem s_cell_Mem_CAS : S 80 F11.c_cell_Mem_CAS := func_sound k_cell_Mem_CAS Try.func80 chk_cell_Mem_CAS
theorem m_cell_Mem_CAS : Mono (F11.c_cell_Mem_CAS (X := Unit)) := amFunc_mono (fun g f h => (k_cell_Mem_CAS g f h).2.2) _
theorem k_put_from : Known A0 num Try.prog [(159, F11.c_conf_Config_Word)] := known_cons ok_conf_Config_Word s_conf_Config_Word m_conf_Config_Word (known_nil)
theorem s_put_from : S 72 F11.c_put_from := func_sound k_put_from Try.func72 chk_put_from
theorem m_put_from : Mono (F11.c_put_from (X := Unit)) := amFunc_mono (fun g f h => (k_put_from g f h).2.2) _
theorem k_slices_Clone_int : Known A0 num Try.prog [] := known_nil
theorem s_slices_Clone_int : S 75 F11.c_slices_Clone_int := func_sound k_slices_Clone_int Try.func75 chk_slices_Clone_int
theorem m_slices_Clone_int : Mono (F11.c_slices_Clone_int (X := Unit)) := amFunc_mono (fun g f h => (k_slices_Clone_int g f h).2.2) _
theorem k_put_ring_load : Known A0 num Try.prog [(159, F11.c_conf_Config_Word), (24, F11.c_cell_Mem_Load), (178, F11.c_word_Len)] := known_cons ok_conf_Config_Word s_conf_Config_Word m_conf_Config_Word (known_cons ok_cell_Mem_Load s_cell_Mem_Load m_cell_Mem_Load (known_cons ok_word_Len s_word_Len m_word_Len (known_nil)))
theorem s_put_ring_load : S 107 F11.c_put_ring_load := func_sound k_put_ring_load Try.func107 chk_put_ring_load
theorem m_put_ring_load : Mono (F11.c_put_ring_load (X := Unit)) := amFunc_mono (fun g f h => (k_put_ring_load g f h).2.2) _
theorem k_put_Put_look : Known A0 num Try.prog [(219, F11.c_put_ring_load)] := known_cons ok_put_ring_load s_put_ring_load m_put_ring_load (known_nil)
theorem s_put_Put_look : S 95 F11.c_put_Put_look := func_sound k_put_Put_look Try.func95 chk_put_Put_look
theorem m_put_Put_look : Mono (F11.c_put_Put_look (X := Unit)) := amFunc_mono (fun g f h => (k_put_Put_look g f h).2.2) _
theorem k_put_ring_slot : Known A0 num Try.prog [(182, F11.c_word_Tail), (160, F11.c_conf_Config_Slot)] := known_cons ok_word_Tail s_word_Tail m_word_Tail (known_cons ok_conf_Config_Slot s_conf_Config_Slot m_conf_Config_Slot (known_nil))
theorem s_put_ring_slot : S 85 F11.c_put_ring_slot := func_sound k_put_ring_slot Try.func85 chk_put_ring_slot
theorem m_put_ring_slot : Mono (F11.c_put_ring_slot (X := Unit)) := amFunc_mono (fun g f h => (k_put_ring_slot g f h).2.2) _
theorem k_put_Put_lay : Known A0 num Try.prog [(210, F11.c_put_ring_slot), (22, F11.c_cell_Mem_Store)] := known_cons ok_put_ring_slot s_put_ring_slot m_put_ring_slot (known_cons ok_cell_Mem_Store s_cell_Mem_Store m_cell_Mem_Store (known_nil))
theorem s_put_Put_lay : S 96 F11.c_put_Put_lay := func_sound k_put_Put_lay Try.func96 chk_put_Put_lay
theorem m_put_Put_lay : Mono (F11.c_put_Put_lay (X := Unit)) := amFunc_mono (fun g f h => (k_put_Put_lay g f h).2.2) _
theorem k_word_Grow : Known A0 num Try.prog [(179, F11.c_word_Head), (182, F11.c_word_Tail), (183, F11.c_word_Pack)] := known_cons ok_word_Head s_word_Head m_word_Head (known_cons ok_word_Tail s_word_Tail m_word_Tail (known_cons ok_word_Pack s_word_Pack m_word_Pack (known_nil)))
theorem s_word_Grow : S 87 F11.c_word_Grow := func_sound k_word_Grow Try.func87 chk_word_Grow
theorem m_word_Grow : Mono (F11.c_word_Grow (X := Unit)) := amFunc_mono (fun g f h => (k_word_Grow g f h).2.2) _
theorem k_put_ring_change : Known A0 num Try.prog [(159, F11.c_conf_Config_Word), (23, F11.c_cell_Mem_CAS)] := known_cons ok_conf_Config_Word s_conf_Config_Word m_conf_Config_Word (known_cons ok_cell_Mem_CAS s_cell_Mem_CAS m_cell_Mem_CAS (known_nil))
theorem s_put_ring_change : S 86 F11.c_put_ring_change := func_sound k_put_ring_change Try.func86 chk_put_ring_change
theorem m_put_ring_change : Mono (F11.c_put_ring_change (X := Unit)) := amFunc_mono (fun g f h => (k_put_ring_change g f h).2.2) _
theorem k_put_Put_swing : Known A0 num Try.prog [(211, F11.c_word_Grow), (212, F11.c_put_ring_change)] := known_cons ok_word_Grow s_word_Grow m_word_Grow (known_cons ok_put_ring_change s_put_ring_change m_put_ring_change (known_nil))
theorem s_put_Put_swing : S 97 F11.c_put_Put_swing := func_sound k_put_Put_swing Try.func97 chk_put_Put_swing
theorem m_put_Put_swing : Mono (F11.c_put_Put_swing (X := Unit)) := amFunc_mono (fun g f h => (k_put_Put_swing g f h).2.2) _
theorem k_put_Put_half : Known A0 num Try.prog [] := known_nil
theorem s_put_Put_half : S 108 F11.c_put_Put_half := func_sound k_put_Put_half Try.func108 chk_put_Put_half
theorem m_put_Put_half : Mono (F11.c_put_Put_half (X := Unit)) := amFunc_mono (fun g f h => (k_put_Put_half g f h).2.2) _
theorem k_put_Put_take : Known A0 num Try.prog [(220, F11.c_put_Put_half), (210, F11.c_put_ring_slot), (24, F11.c_cell_Mem_Load)] := known_cons ok_put_Put_half s_put_Put_half m_put_Put_half (known_cons ok_put_ring_slot s_put_ring_slot m_put_ring_slot (known_cons ok_cell_Mem_Load s_cell_Mem_Load m_cell_Mem_Load (known_nil)))
theorem s_put_Put_take : S 98 F11.c_put_Put_take := func_sound k_put_Put_take Try.func98 chk_put_Put_take
theorem m_put_Put_take : Mono (F11.c_put_Put_take (X := Unit)) := amFunc_mono (fun g f h => (k_put_Put_take g f h).2.2) _
theorem k_word_Drop : Known A0 num Try.prog [(179, F11.c_word_Head), (182, F11.c_word_Tail), (183, F11.c_word_Pack)] := known_cons ok_word_Head s_word_Head m_word_Head (known_cons ok_word_Tail s_word_Tail m_word_Tail (known_cons ok_word_Pack s_word_Pack m_word_Pack (known_nil)))
theorem s_word_Drop : S 109 F11.c_word_Drop := func_sound k_word_Drop Try.func109 chk_word_Drop
theorem m_word_Drop : Mono (F11.c_word_Drop (X := Unit)) := amFunc_mono (fun g f h => (k_word_Drop g f h).2.2) _
theorem k_put_Put_cut : Known A0 num Try.prog [(220, F11.c_put_Put_half), (221, F11.c_word_Drop), (212, F11.c_put_ring_change)] := known_cons ok_put_Put_half s_put_Put_half m_put_Put_half (known_cons ok_word_Drop s_word_Drop m_word_Drop (known_cons ok_put_ring_change s_put_ring_change m_put_ring_change (known_nil)))
theorem s_put_Put_cut : S 99 F11.c_put_Put_cut := func_sound k_put_Put_cut Try.func99 chk_put_Put_cut
theorem m_put_Put_cut : Mono (F11.c_put_Put_cut (X := Unit)) := amFunc_mono (fun g f h => (k_put_Put_cut g f h).2.2) _
theorem k_slices_IndexFunc_int : Known A0 num Try.prog [(49, F11.c_cell_Mem_Store_1), (51, F11.c_cell_Mem_CAS_1), (52, F11.c_cell_Mem_Load_1), (213, F11.c_put_NewLay_1), (214, F11.c_put_Put_look), (215, F11.c_put_Put_lay), (216, F11.c_put_Put_swing), (217, F11.c_put_Put_take), (218, F11.c_put_Put_cut)] := known_cons ok_cell_Mem_Store_1 s_cell_Mem_Store_1 m_cell_Mem_Store_1 (known_cons ok_cell_Mem_CAS_1 s_cell_Mem_CAS_1 m_cell_Mem_CAS_1 (known_cons ok_cell_Mem_Load_1 s_cell_Mem_Load_1 m_cell_Mem_Load_1 (known_cons ok_put_NewLay_1 s_put_NewLay_1 m_put_NewLay_1 (known_cons ok_put_Put_look s_put_Put_look m_put_Put_look (known_cons ok_put_Put_lay s_put_Put_lay m_put_Put_lay (known_cons ok_put_Put_swing s_put_Put_swing m_put_Put_swing (known_cons ok_put_Put_take s_put_Put_take m_put_Put_take (known_cons ok_put_Put_cut s_put_Put_cut m_put_Put_cut (known_nil)))))))))
theorem s_slices_IndexFunc_int : S 110 F11.c_slices_IndexFunc_int := func_sound k_slices_IndexFunc_int Try.func110 chk_slices_IndexFunc_int
theorem m_slices_IndexFunc_int : Mono (F11.c_slices_IndexFunc_int (X := Unit)) := amFunc_mono (fun g f h => (k_slices_IndexFunc_int g f h).2.2) _
theorem k_slices_DeleteFunc_int : Known A0 num Try.prog [(97, F11.c_slices_IndexFunc_int), (49, F11.c_cell_Mem_Store_1), (51, F11.c_cell_Mem_CAS_1), (52, F11.c_cell_Mem_Load_1), (213, F11.c_put_NewLay_1), (214, F11.c_put_Put_look), (215, F11.c_put_Put_lay), (216, F11.c_put_Put_swing), (217, F11.c_put_Put_take), (218, F11.c_put_Put_cut)] := known_cons ok_slices_IndexFunc_int s_slices_IndexFunc_int m_slices_IndexFunc_int (known_cons ok_cell_Mem_Store_1 s_cell_Mem_Store_1 m_cell_Mem_Store_1 (known_cons ok_cell_Mem_CAS_1 s_cell_Mem_CAS_1 m_cell_Mem_CAS_1 (known_cons ok_cell_Mem_Load_1 s_cell_Mem_Load_1 m_cell_Mem_Load_1 (known_cons ok_put_NewLay_1 s_put_NewLay_1 m_put_NewLay_1 (known_cons ok_put_Put_look s_put_Put_look m_put_Put_look (known_cons ok_put_Put_lay s_put_Put_lay m_put_Put_lay (known_cons ok_put_Put_swing s_put_Put_swing m_put_Put_swing (known_cons ok_put_Put_take s_put_Put_take m_put_Put_take (known_cons ok_put_Put_cut s_put_Put_cut m_put_Put_cut (known_nil))))))))))
theorem s_slices_DeleteFunc_int : S 105 F11.c_slices_DeleteFunc_int := func_sound k_slices_DeleteFunc_int Try.func105 chk_slices_DeleteFunc_int
theorem m_slices_DeleteFunc_int : Mono (F11.c_slices_DeleteFunc_int (X := Unit)) := amFunc_mono (fun g f h => (k_slices_DeleteFunc_int g f h).2.2) _
theorem k_put_NewLay : Known A0 num Try.prog [(206, F11.c_put_from), (208, F11.c_slices_Clone_int), (95, F11.c_slices_DeleteFunc_int), (213, F11.c_put_NewLay_1)] := known_cons ok_put_from s_put_from m_put_from (known_cons ok_slices_Clone_int s_slices_Clone_int m_slices_Clone_int (known_cons ok_slices_DeleteFunc_int s_slices_DeleteFunc_int m_slices_DeleteFunc_int (known_cons ok_put_NewLay_1 s_put_NewLay_1 m_put_NewLay_1 (known_nil))))
theorem s_put_NewLay : S 82 F11.c_put_NewLay := func_sound k_put_NewLay Try.func82 chk_put_NewLay
theorem m_put_NewLay : Mono (F11.c_put_NewLay (X := Unit)) := amFunc_mono (fun g f h => (k_put_NewLay g f h).2.2) _
theorem k_steal_Steal_gain : Known A0 num Try.prog [(159, F11.c_conf_Config_Word), (288, F11.c_steal_Steal_half), (180, F11.c_word_Gain), (23, F11.c_cell_Mem_CAS), (199, F11.c_put_NewLay)] := known_cons ok_conf_Config_Word s_conf_Config_Word m_conf_Config_Word (known_cons ok_steal_Steal_half s_steal_Steal_half m_steal_Steal_half (known_cons ok_word_Gain s_word_Gain m_word_Gain (known_cons ok_cell_Mem_CAS s_cell_Mem_CAS m_cell_Mem_CAS (known_cons ok_put_NewLay s_put_NewLay m_put_NewLay (known_nil)))))
theorem s_steal_Steal_gain : S 37 F11.c_steal_Steal_gain := func_sound k_steal_Steal_gain Try.func37 chk_steal_Steal_gain
theorem m_steal_Steal_gain : Mono (F11.c_steal_Steal_gain (X := Unit)) := amFunc_mono (fun g f h => (k_steal_Steal_gain g f h).2.2) _
theorem k_put_Lay_Done : Known A0 num Try.prog [] := known_nil
theorem s_put_Lay_Done : S 83 F11.c_put_Lay_Done := func_sound k_put_Lay_Done Try.func83 chk_put_Lay_Done
theorem m_put_Lay_Done : Mono (F11.c_put_Lay_Done (X := Unit)) := amFunc_mono (fun g f h => (k_put_Lay_Done g f h).2.2) _
theorem k_put_Lay_look : Known A0 num Try.prog [(219, F11.c_put_ring_load)] := known_cons ok_put_ring_load s_put_ring_load m_put_ring_load (known_nil)
theorem s_put_Lay_look : S 84 F11.c_put_Lay_look := func_sound k_put_Lay_look Try.func84 chk_put_Lay_look
theorem m_put_Lay_look : Mono (F11.c_put_Lay_look (X := Unit)) := amFunc_mono (fun g f h => (k_put_Lay_look g f h).2.2) _
theorem k_put_Lay_Step : Known A0 num Try.prog [(196, F11.c_put_Lay_Done), (209, F11.c_put_Lay_look), (210, F11.c_put_ring_slot), (22, F11.c_cell_Mem_Store), (211, F11.c_word_Grow), (212, F11.c_put_ring_change)] := known_cons ok_put_Lay_Done s_put_Lay_Done m_put_Lay_Done (known_cons ok_put_Lay_look s_put_Lay_look m_put_Lay_look (known_cons ok_put_ring_slot s_put_ring_slot m_put_ring_slot (known_cons ok_cell_Mem_Store s_cell_Mem_Store m_cell_Mem_Store (known_cons ok_word_Grow s_word_Grow m_word_Grow (known_cons ok_put_ring_change s_put_ring_change m_put_ring_change (known_nil))))))
theorem s_put_Lay_Step : S 38 F11.c_put_Lay_Step := func_sound k_put_Lay_Step Try.func38 chk_put_Lay_Step
theorem m_put_Lay_Step : Mono (F11.c_put_Lay_Step (X := Unit)) := amFunc_mono (fun g f h => (k_put_Lay_Step g f h).2.2) _
theorem k_steal_Steal_Step : Known A0 num Try.prog [(277, F11.c_steal_Steal_Done), (283, F11.c_steal_Steal_look), (284, F11.c_steal_Steal_copy), (285, F11.c_steal_Steal_gain), (195, F11.c_put_Lay_Step)] := known_cons ok_steal_Steal_Done s_steal_Steal_Done m_steal_Steal_Done (known_cons ok_steal_Steal_look s_steal_Steal_look m_steal_Steal_look (known_cons ok_steal_Steal_copy s_steal_Steal_copy m_steal_Steal_copy (known_cons ok_steal_Steal_gain s_steal_Steal_gain m_steal_Steal_gain (known_cons ok_put_Lay_Step s_put_Lay_Step m_put_Lay_Step (known_nil)))))
theorem s_steal_Steal_Step : S 10 F11.c_steal_Steal_Step := func_sound k_steal_Steal_Step Try.func10 chk_steal_Steal_Step
theorem m_steal_Steal_Step : Mono (F11.c_steal_Steal_Step (X := Unit)) := amFunc_mono (fun g f h => (k_steal_Steal_Step g f h).2.2) _
theorem k_steal_Steal_Many : Known A0 num Try.prog [] := known_nil
theorem s_steal_Steal_Many : S 11 F11.c_steal_Steal_Many := func_sound k_steal_Steal_Many Try.func11 chk_steal_Steal_Many
theorem m_steal_Steal_Many : Mono (F11.c_steal_Steal_Many (X := Unit)) := amFunc_mono (fun g f h => (k_steal_Steal_Many g f h).2.2) _
theorem k_steal_Steal_Got : Known A0 num Try.prog [(277, F11.c_steal_Steal_Done), (275, F11.c_steal_Steal_Many)] := known_cons ok_steal_Steal_Done s_steal_Steal_Done m_steal_Steal_Done (known_cons ok_steal_Steal_Many s_steal_Steal_Many m_steal_Steal_Many (known_nil))
theorem s_steal_Steal_Got : S 8 F11.c_steal_Steal_Got := func_sound k_steal_Steal_Got Try.func8 chk_steal_Steal_Got
theorem m_steal_Steal_Got : Mono (F11.c_steal_Steal_Got (X := Unit)) := amFunc_mono (fun g f h => (k_steal_Steal_Got g f h).2.2) _
theorem k_slices_Clone_uint64 : Known A0 num Try.prog [] := known_nil
theorem s_slices_Clone_uint64 : S 92 F11.c_slices_Clone_uint64 := func_sound k_slices_Clone_uint64 Try.func92 chk_slices_Clone_uint64
theorem m_slices_Clone_uint64 : Mono (F11.c_slices_Clone_uint64 (X := Unit)) := amFunc_mono (fun g f h => (k_slices_Clone_uint64 g f h).2.2) _
theorem k_cell_Mem_All : Known A0 num Try.prog [(61, F11.c_slices_Clone_uint64)] := known_cons ok_slices_Clone_uint64 s_slices_Clone_uint64 m_slices_Clone_uint64 (known_nil)
theorem s_cell_Mem_All : S 56 F11.c_cell_Mem_All := func_sound k_cell_Mem_All Try.func56 chk_cell_Mem_All
theorem m_cell_Mem_All : Mono (F11.c_cell_Mem_All (X := Unit)) := amFunc_mono (fun g f h => (k_cell_Mem_All g f h).2.2) _
theorem k_docs_Ring : Known A0 num Try.prog [(47, F11.c_cell_Mem_All), (156, F11.c_conf_Config_Cells), (159, F11.c_conf_Config_Word), (160, F11.c_conf_Config_Slot)] := known_cons ok_cell_Mem_All s_cell_Mem_All m_cell_Mem_All (known_cons ok_conf_Config_Cells s_conf_Config_Cells m_conf_Config_Cells (known_cons ok_conf_Config_Word s_conf_Config_Word m_conf_Config_Word (known_cons ok_conf_Config_Slot s_conf_Config_Slot m_conf_Config_Slot (known_nil))))
theorem s_docs_Ring : S 28 F11.c_docs_Ring := func_sound k_docs_Ring Try.func28 chk_docs_Ring
theorem m_docs_Ring : Mono (F11.c_docs_Ring (X := Unit)) := amFunc_mono (fun g f h => (k_docs_Ring g f h).2.2) _
theorem k_kit_SameInts : Known A0 num Try.prog [] := known_nil
theorem s_kit_SameInts : S 30 F11.c_kit_SameInts := func_sound k_kit_SameInts Try.func30 chk_kit_SameInts
theorem m_kit_SameInts : Mono (F11.c_kit_SameInts (X := Unit)) := amFunc_mono (fun g f h => (k_kit_SameInts g f h).2.2) _
theorem k_docs_Thief : Known A0 num Try.prog [(136, F11.c_docs_Ring), (159, F11.c_conf_Config_Word), (24, F11.c_cell_Mem_Load), (22, F11.c_cell_Mem_Store)] := known_cons ok_docs_Ring s_docs_Ring m_docs_Ring (known_cons ok_conf_Config_Word s_conf_Config_Word m_conf_Config_Word (known_cons ok_cell_Mem_Load s_cell_Mem_Load m_cell_Mem_Load (known_cons ok_cell_Mem_Store s_cell_Mem_Store m_cell_Mem_Store (known_nil))))
theorem s_docs_Thief : S 33 F11.c_docs_Thief := func_sound k_docs_Thief Try.func33 chk_docs_Thief
theorem m_docs_Thief : Mono (F11.c_docs_Thief (X := Unit)) := amFunc_mono (fun g f h => (k_docs_Thief g f h).2.2) _
theorem k_law11_works : Known A0 num Try.prog [(281, F11.c_law11_rings), (270, F11.c_steal_New), (274, F11.c_steal_Steal_Step), (278, F11.c_steal_Steal_Got), (275, F11.c_steal_Steal_Many), (136, F11.c_docs_Ring), (84, F11.c_kit_SameInts), (139, F11.c_docs_Thief)] := known_cons ok_law11_rings s_law11_rings m_law11_rings (known_cons ok_steal_New s_steal_New m_steal_New (known_cons ok_steal_Steal_Step s_steal_Steal_Step m_steal_Steal_Step (known_cons ok_steal_Steal_Got s_steal_Steal_Got m_steal_Steal_Got (known_cons ok_steal_Steal_Many s_steal_Steal_Many m_steal_Steal_Many (known_cons ok_docs_Ring s_docs_Ring m_docs_Ring (known_cons ok_kit_SameInts s_kit_SameInts m_kit_SameInts (known_cons ok_docs_Thief s_docs_Thief m_docs_Thief (known_nil))))))))
theorem s_law11_works : S 15 F11.c_law11_works := func_sound k_law11_works Try.func15 chk_law11_works
theorem m_law11_works : Mono (F11.c_law11_works (X := Unit)) := amFunc_mono (fun g f h => (k_law11_works g f h).2.2) _
theorem k_put_Lay_Hands : Known A0 num Try.prog [(208, F11.c_slices_Clone_int)] := known_cons ok_slices_Clone_int s_slices_Clone_int m_slices_Clone_int (known_nil)
theorem s_put_Lay_Hands : S 88 F11.c_put_Lay_Hands := func_sound k_put_Lay_Hands Try.func88 chk_put_Lay_Hands
theorem m_put_Lay_Hands : Mono (F11.c_put_Lay_Hands (X := Unit)) := amFunc_mono (fun g f h => (k_put_Lay_Hands g f h).2.2) _
theorem k_steal_rest_Rest : Known A0 num Try.prog [(197, F11.c_put_Lay_Hands)] := known_cons ok_put_Lay_Hands s_put_Lay_Hands m_put_Lay_Hands (known_nil)
theorem s_steal_rest_Rest : S 39 F11.c_steal_rest_Rest := func_sound k_steal_rest_Rest Try.func39 chk_steal_rest_Rest
theorem m_steal_rest_Rest : Mono (F11.c_steal_rest_Rest (X := Unit)) := amFunc_mono (fun g f h => (k_steal_rest_Rest g f h).2.2) _
theorem k_steal_Steal_Left : Known A0 num Try.prog [(277, F11.c_steal_Steal_Done), (275, F11.c_steal_Steal_Many), (286, F11.c_steal_rest_Rest)] := known_cons ok_steal_Steal_Done s_steal_Steal_Done m_steal_Steal_Done (known_cons ok_steal_Steal_Many s_steal_Steal_Many m_steal_Steal_Many (known_cons ok_steal_rest_Rest s_steal_rest_Rest m_steal_rest_Rest (known_nil)))
theorem s_steal_Steal_Left : S 12 F11.c_steal_Steal_Left := func_sound k_steal_Steal_Left Try.func12 chk_steal_Steal_Left
theorem m_steal_Steal_Left : Mono (F11.c_steal_Steal_Left (X := Unit)) := amFunc_mono (fun g f h => (k_steal_Steal_Left g f h).2.2) _
theorem k_slices_Grow_int : Known A0 num Try.prog [] := known_nil
theorem s_slices_Grow_int : S 89 F11.c_slices_Grow_int := func_sound k_slices_Grow_int Try.func89 chk_slices_Grow_int
theorem m_slices_Grow_int : Mono (F11.c_slices_Grow_int (X := Unit)) := amFunc_mono (fun g f h => (k_slices_Grow_int g f h).2.2) _
theorem k_slices_Concat_int : Known A0 num Try.prog [(290, F11.c_slices_Grow_int)] := known_cons ok_slices_Grow_int s_slices_Grow_int m_slices_Grow_int (known_nil)
theorem s_slices_Concat_int : S 40 F11.c_slices_Concat_int := func_sound k_slices_Concat_int Try.func40 chk_slices_Concat_int
theorem m_slices_Concat_int : Mono (F11.c_slices_Concat_int (X := Unit)) := amFunc_mono (fun g f h => (k_slices_Concat_int g f h).2.2) _
theorem k_steal_Steal_Hands : Known A0 num Try.prog [(275, F11.c_steal_Steal_Many), (286, F11.c_steal_rest_Rest), (287, F11.c_slices_Concat_int)] := known_cons ok_steal_Steal_Many s_steal_Steal_Many m_steal_Steal_Many (known_cons ok_steal_rest_Rest s_steal_rest_Rest m_steal_rest_Rest (known_cons ok_slices_Concat_int s_slices_Concat_int m_slices_Concat_int (known_nil)))
theorem s_steal_Steal_Hands : S 13 F11.c_steal_Steal_Hands := func_sound k_steal_Steal_Hands Try.func13 chk_steal_Steal_Hands
theorem m_steal_Steal_Hands : Mono (F11.c_steal_Steal_Hands (X := Unit)) := amFunc_mono (fun g f h => (k_steal_Steal_Hands g f h).2.2) _
theorem k_cell_Mem_Ops : Known A0 num Try.prog [] := known_nil
theorem s_cell_Mem_Ops : S 14 F11.c_cell_Mem_Ops := func_sound k_cell_Mem_Ops Try.func14 chk_cell_Mem_Ops
theorem m_cell_Mem_Ops : Mono (F11.c_cell_Mem_Ops (X := Unit)) := amFunc_mono (fun g f h => (k_cell_Mem_Ops g f h).2.2) _
theorem s_worksG : S 15 (pureF F11.worksG) := lift_sound F11.works_lift s_law11_works
theorem k_none : Known A0 num Try.prog (F11.Gnone (X := Unit)) := known_cons ok_cell_New s_cell_New m_cell_New (known_cons ok_steal_New s_steal_New m_steal_New (known_cons ok_steal_Steal_Got s_steal_Steal_Got m_steal_Steal_Got (known_cons ok_steal_Steal_Done s_steal_Steal_Done m_steal_Steal_Done (known_cons ok_steal_Steal_Step s_steal_Steal_Step m_steal_Steal_Step (known_cons ok_steal_Steal_Many s_steal_Steal_Many m_steal_Steal_Many (known_cons ok_steal_Steal_Left s_steal_Steal_Left m_steal_Steal_Left (known_cons ok_steal_Steal_Hands s_steal_Steal_Hands m_steal_Steal_Hands (known_cons ok_cell_Mem_Ops s_cell_Mem_Ops m_cell_Mem_Ops (known_cons ok_law11_works s_worksG F11.works_lift.mono known_nil)))))))))
theorem s_law : S 3 (amFunc F11.Gnone F11.law11_StealNone) := func_sound k_none Try.func3 chk_law11_StealNone
set_option maxRecDepth 100000 in
theorem cf_of {m : Mem Unit} {n : Nat} {a : AV} (h : IsV Try.prog m (n + 2) 23 a) : ∃ c : F10.Cf, a = .agg (F10.cfC c) := by
  obtain ⟨cs, rfl, hl, h⟩ := h.structV Try.underlying23
  have c3 : Try.prog.cellsOf 3 = 1 := by kernel_rfl
  have c23 : Try.prog.cellsOf 23 = 6 := by kernel_rfl
  rw [c23] at hl
  obtain ⟨z0, h0, _⟩ := h.intAt Try.underlying23 0 rfl Try.underlying3 c3
  obtain ⟨z1, h1, _⟩ := h.intAt Try.underlying23 1 rfl Try.underlying3 c3
  obtain ⟨z2, h2, _⟩ := h.intAt Try.underlying23 2 rfl Try.underlying3 c3
  obtain ⟨z3, h3, _⟩ := h.intAt Try.underlying23 3 rfl Try.underlying3 c3
  obtain ⟨z4, h4, _⟩ := h.intAt Try.underlying23 4 rfl Try.underlying3 c3
  obtain ⟨z5, h5, _⟩ := h.intAt Try.underlying23 5 rfl Try.underlying3 c3
  exact ⟨⟨z0, z1, z2, z3, z4, z5⟩, congrArg AV.agg (F10.cf_list hl h0 h1 h2 h3 h4 h5)⟩
set_option maxRecDepth 100000 in
theorem law_run (m : Mem Unit) (vs : List AV) (h : IsVs Try.prog m 4 Try.f3.params.toList vs) : ∃ m', amFunc F11.Gnone F11.law11_StealNone vs m = some (.bool true, m') := by
  rw [Try.params3] at h
  obtain ⟨a, vs, rfl, ha, b, vs, rfl, hb, rfl⟩ := h
  obtain ⟨c, rfl⟩ := cf_of ha
  obtain ⟨p, rfl, _⟩ := hb.intV Try.underlying3
  obtain ⟨r, m', h1, rfl, _⟩ := F11.none_run m c p
  exact ⟨m', h1⟩
set_option maxRecDepth 100000 in
theorem stealNone_lifted (os : Os) (started : os.Started) (H : Type) (enc : TypeId × Value → H) :
    ReturnsInHanded {} Try.checked os 3 .any (Rows.stealNoneSpec.pre6 enc Try.prog Try.f3 Rows.stealNoneRow.domain false) (Rows.stealNoneSpec.post enc Try.prog Try.f3 false true false false) := by
  refine returnsInHanded_of_change (C := Try.checked) Try.own started (by kernel_rfl) Try.func3
    (ChangeSpec.witness6 (enc := enc) (C := Try.checked) false ⟨#[], #[.agg #[.int .i64 0, .int .i64 0, .int .i64 0, .int .i64 0, .int .i64 0, .int .i64 0], .int .i64 0], []⟩ 8 (by kernel_rfl) (by kernel_rfl) (by kernel_rfl) (by kernel_rfl)) ?_
  intro W base args ds gs before hval hW _ _
  exact law_body (tb := 4) 4 s_law rfl (fun ds hl => by
    rw [Try.params3] at hl
    match ds, hl with
    | [_, _], _ => rfl) rfl (by kernel_rfl) Try.laidOut (by rw [Try.params3]; kernel_rfl) law_run W base args ds gs before hval hW
theorem stealNone_holds : Rows.StealNoneSaid :=
  OpenClaim.holds_of_wide 3 Try.f3 rfl rfl rfl rfl rfl rfl rfl ⟨rfl, rfl, rfl, rfl, rfl⟩ rfl rfl rfl rfl rfl (by kernel_rfl) Try.func3 (by kernel_rfl)
    (of_decide_eq_true (by kernel_rfl)) (by unfold Func.isWrapper; first | (rw [if_pos (by decide +kernel)]; kernel_rfl) | (rw [if_neg (by decide +kernel)]; exact ⟨rfl, rfl⟩))
    (fun os started H enc _ => stealNone_lifted os started H enc)
#print axioms stealNone_holds
end Go.Proofs.Ytmgahjccidmlaaa
