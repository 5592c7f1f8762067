import Derived.Test.YtmgahjccidmlaaaGreatXS12
import Derived.Test.YtmgahjccidmlaaaGreatXG23
import Derived.Test.YtmgahjccidmlaaaGreatXG24
set_option linter.unusedSimpArgs false
set_option linter.unusedVariables false
namespace Go.Proofs.YtmgahjccidmlaaaGreat
open Go.Am
abbrev Ob:=Go.Am.Ob
def A0:AbsSem Ob:=AbsOf num concM
abbrev S(k:Nat) (f:AFun Ob):Prop:=Sound A0 num Tryz.prog k f
theorem k_conf_within:Known A0 num Tryz.prog []:=known_nil
theorem s_conf_within:S 39 F12.c_conf_within:=func_sound k_conf_within Tryz.func39 chk_conf_within
theorem m_conf_within:Mono (F12.c_conf_within (X:=Ob)):=amFunc_mono (fun g f h=>(k_conf_within g f h).2.2) _
theorem k_conf_Config_Right:Known A0 num Tryz.prog [(176,F12.c_conf_within)]:=known_cons ok_conf_within s_conf_within m_conf_within (known_nil)
theorem s_conf_Config_Right:S 38 F12.c_conf_Config_Right:=func_sound k_conf_Config_Right Tryz.func38 chk_conf_Config_Right
theorem m_conf_Config_Right:Mono (F12.c_conf_Config_Right (X:=Ob)):=amFunc_mono (fun g f h=>(k_conf_Config_Right g f h).2.2) _
theorem k_conf_Config_Cells:Known A0 num Tryz.prog [(157,F12.c_conf_Config_Right)]:=known_cons ok_conf_Config_Right s_conf_Config_Right m_conf_Config_Right (known_nil)
theorem s_conf_Config_Cells:S 41 F12.c_conf_Config_Cells:=func_sound k_conf_Config_Cells Tryz.func41 chk_conf_Config_Cells
theorem m_conf_Config_Cells:Mono (F12.c_conf_Config_Cells (X:=Ob)):=amFunc_mono (fun g f h=>(k_conf_Config_Cells g f h).2.2) _
theorem k_cell_New:Known A0 num Tryz.prog []:=known_nil
theorem s_cell_New:S 36 F12.c_cell_New:=func_sound k_cell_New Tryz.func36 chk_cell_New
theorem m_cell_New:Mono (F12.c_cell_New (X:=Ob)):=amFunc_mono (fun g f h=>(k_cell_New g f h).2.2) _
theorem k_conf_own_at:Known A0 num Tryz.prog [(157,F12.c_conf_Config_Right),(176,F12.c_conf_within)]:=known_cons ok_conf_Config_Right s_conf_Config_Right m_conf_Config_Right (known_cons ok_conf_within s_conf_within m_conf_within (known_nil))
theorem s_conf_own_at:S 11 F12.c_conf_own_at:=func_sound k_conf_own_at Tryz.func11 chk_conf_own_at
theorem m_conf_own_at:Mono (F12.c_conf_own_at (X:=Ob)):=amFunc_mono (fun g f h=>(k_conf_own_at g f h).2.2) _
theorem k_conf_Config_Slot:Known A0 num Tryz.prog [(157,F12.c_conf_Config_Right),(177,F12.c_conf_own_at)]:=known_cons ok_conf_Config_Right s_conf_Config_Right m_conf_Config_Right (known_cons ok_conf_own_at s_conf_own_at m_conf_own_at (known_nil))
theorem s_conf_Config_Slot:S 43 F12.c_conf_Config_Slot:=func_sound k_conf_Config_Slot Tryz.func43 chk_conf_Config_Slot
theorem m_conf_Config_Slot:Mono (F12.c_conf_Config_Slot (X:=Ob)):=amFunc_mono (fun g f h=>(k_conf_Config_Slot g f h).2.2) _
theorem k_cell_Mem_there:Known A0 num Tryz.prog []:=known_nil
theorem s_cell_Mem_there:S 92 F12.c_cell_Mem_there:=func_sound k_cell_Mem_there Tryz.func92 chk_cell_Mem_there
theorem m_cell_Mem_there:Mono (F12.c_cell_Mem_there (X:=Ob)):=amFunc_mono (fun g f h=>(k_cell_Mem_there g f h).2.2) _
theorem k_cell_counts_note:Known A0 num Tryz.prog []:=known_nil
theorem s_cell_counts_note:S 93 F12.c_cell_counts_note:=func_sound k_cell_counts_note Tryz.func93 chk_cell_counts_note
theorem m_cell_counts_note:Mono (F12.c_cell_counts_note (X:=Ob)):=amFunc_mono (fun g f h=>(k_cell_counts_note g f h).2.2) _
theorem k_cell_Mem_Store_1:Known A0 num Tryz.prog []:=known_nil
theorem s_cell_Mem_Store_1:S 69 F12.c_cell_Mem_Store_1:=func_sound k_cell_Mem_Store_1 Tryz.func69 chk_cell_Mem_Store_1
theorem m_cell_Mem_Store_1:Mono (F12.c_cell_Mem_Store_1 (X:=Ob)):=amFunc_mono (fun g f h=>(k_cell_Mem_Store_1 g f h).2.2) _
theorem k_cell_Mem_CAS_1:Known A0 num Tryz.prog []:=known_nil
theorem s_cell_Mem_CAS_1:S 104 F12.c_cell_Mem_CAS_1:=func_sound k_cell_Mem_CAS_1 Tryz.func104 chk_cell_Mem_CAS_1
theorem m_cell_Mem_CAS_1:Mono (F12.c_cell_Mem_CAS_1 (X:=Ob)):=amFunc_mono (fun g f h=>(k_cell_Mem_CAS_1 g f h).2.2) _
theorem k_cell_Mem_Load_1:Known A0 num Tryz.prog []:=known_nil
theorem s_cell_Mem_Load_1:S 101 F12.c_cell_Mem_Load_1:=func_sound k_cell_Mem_Load_1 Tryz.func101 chk_cell_Mem_Load_1
theorem m_cell_Mem_Load_1:Mono (F12.c_cell_Mem_Load_1 (X:=Ob)):=amFunc_mono (fun g f h=>(k_cell_Mem_Load_1 g f h).2.2) _
theorem k_put_NewLay_1:Known A0 num Tryz.prog []:=known_nil
theorem s_put_NewLay_1:S 107 F12.c_put_NewLay_1:=func_sound k_put_NewLay_1 Tryz.func107 chk_put_NewLay_1
theorem m_put_NewLay_1:Mono (F12.c_put_NewLay_1 (X:=Ob)):=amFunc_mono (fun g f h=>(k_put_NewLay_1 g f h).2.2) _
theorem k_cell_Mem_access:Known A0 num Tryz.prog [(56,F12.c_cell_Mem_there),(71,F12.c_cell_counts_note),(49,F12.c_cell_Mem_Store_1),(51,F12.c_cell_Mem_CAS_1),(52,F12.c_cell_Mem_Load_1),(213,F12.c_put_NewLay_1)]:=known_cons ok_cell_Mem_there s_cell_Mem_there m_cell_Mem_there (known_cons ok_cell_counts_note s_cell_counts_note m_cell_counts_note (known_cons ok_cell_Mem_Store_1 s_cell_Mem_Store_1 m_cell_Mem_Store_1 (known_cons ok_cell_Mem_CAS_1 s_cell_Mem_CAS_1 m_cell_Mem_CAS_1 (known_cons ok_cell_Mem_Load_1 s_cell_Mem_Load_1 m_cell_Mem_Load_1 (known_cons ok_put_NewLay_1 s_put_NewLay_1 m_put_NewLay_1 (known_nil))))))
theorem s_cell_Mem_access:S 68 F12.c_cell_Mem_access:=func_sound k_cell_Mem_access Tryz.func68 chk_cell_Mem_access
theorem m_cell_Mem_access:Mono (F12.c_cell_Mem_access (X:=Ob)):=amFunc_mono (fun g f h=>(k_cell_Mem_access g f h).2.2) _
theorem k_cell_Mem_Store:Known A0 num Tryz.prog [(50,F12.c_cell_Mem_access),(49,F12.c_cell_Mem_Store_1)]:=known_cons ok_cell_Mem_access s_cell_Mem_access m_cell_Mem_access (known_cons ok_cell_Mem_Store_1 s_cell_Mem_Store_1 m_cell_Mem_Store_1 (known_nil))
theorem s_cell_Mem_Store:S 22 F12.c_cell_Mem_Store:=func_sound k_cell_Mem_Store Tryz.func22 chk_cell_Mem_Store
theorem m_cell_Mem_Store:Mono (F12.c_cell_Mem_Store (X:=Ob)):=amFunc_mono (fun g f h=>(k_cell_Mem_Store g f h).2.2) _
theorem k_conf_Config_Word:Known A0 num Tryz.prog [(177,F12.c_conf_own_at)]:=known_cons ok_conf_own_at s_conf_own_at m_conf_own_at (known_nil)
theorem s_conf_Config_Word:S 5 F12.c_conf_Config_Word:=func_sound k_conf_Config_Word Tryz.func5 chk_conf_Config_Word
theorem m_conf_Config_Word:Mono (F12.c_conf_Config_Word (X:=Ob)):=amFunc_mono (fun g f h=>(k_conf_Config_Word g f h).2.2) _
theorem k_law11_rings:Known A0 num Tryz.prog [(156,F12.c_conf_Config_Cells),(21,F12.c_cell_New),(160,F12.c_conf_Config_Slot),(22,F12.c_cell_Mem_Store),(159,F12.c_conf_Config_Word)]:=known_cons ok_conf_Config_Cells s_conf_Config_Cells m_conf_Config_Cells (known_cons ok_cell_New s_cell_New m_cell_New (known_cons ok_conf_Config_Slot s_conf_Config_Slot m_conf_Config_Slot (known_cons ok_cell_Mem_Store s_cell_Mem_Store m_cell_Mem_Store (known_cons ok_conf_Config_Word s_conf_Config_Word m_conf_Config_Word (known_nil)))))
theorem s_law11_rings:S 37 F12.c_law11_rings:=func_sound k_law11_rings Tryz.func37 chk_law11_rings
theorem m_law11_rings:Mono (F12.c_law11_rings (X:=Ob)):=amFunc_mono (fun g f h=>(k_law11_rings g f h).2.2) _
theorem k_steal_New:Known A0 num Tryz.prog [(159,F12.c_conf_Config_Word)]:=known_cons ok_conf_Config_Word s_conf_Config_Word m_conf_Config_Word (known_nil)
theorem s_steal_New:S 14 F12.c_steal_New:=func_sound k_steal_New Tryz.func14 chk_steal_New
theorem m_steal_New:Mono (F12.c_steal_New (X:=Ob)):=amFunc_mono (fun g f h=>(k_steal_New g f h).2.2) _
theorem k_steal_Steal_Done:Known A0 num Tryz.prog []:=known_nil
theorem s_steal_Steal_Done:S 32 F12.c_steal_Steal_Done:=func_sound k_steal_Steal_Done Tryz.func32 chk_steal_Steal_Done
theorem m_steal_Steal_Done:Mono (F12.c_steal_Steal_Done (X:=Ob)):=amFunc_mono (fun g f h=>(k_steal_Steal_Done g f h).2.2) _
theorem k_cell_Mem_Load:Known A0 num Tryz.prog [(50,F12.c_cell_Mem_access),(52,F12.c_cell_Mem_Load_1)]:=known_cons ok_cell_Mem_access s_cell_Mem_access m_cell_Mem_access (known_cons ok_cell_Mem_Load_1 s_cell_Mem_Load_1 m_cell_Mem_Load_1 (known_nil))
theorem s_cell_Mem_Load:S 78 F12.c_cell_Mem_Load:=func_sound k_cell_Mem_Load Tryz.func78 chk_cell_Mem_Load
theorem m_cell_Mem_Load:Mono (F12.c_cell_Mem_Load (X:=Ob)):=amFunc_mono (fun g f h=>(k_cell_Mem_Load g f h).2.2) _
theorem k_word_Tail:Known A0 num Tryz.prog []:=known_nil
theorem s_word_Tail:S 102 F12.c_word_Tail:=func_sound k_word_Tail Tryz.func102 chk_word_Tail
theorem m_word_Tail:Mono (F12.c_word_Tail (X:=Ob)):=amFunc_mono (fun g f h=>(k_word_Tail g f h).2.2) _
theorem k_word_Head:Known A0 num Tryz.prog []:=known_nil
theorem s_word_Head:S 82 F12.c_word_Head:=func_sound k_word_Head Tryz.func82 chk_word_Head
theorem m_word_Head:Mono (F12.c_word_Head (X:=Ob)):=amFunc_mono (fun g f h=>(k_word_Head g f h).2.2) _
theorem k_word_Len:Known A0 num Tryz.prog [(182,F12.c_word_Tail),(179,F12.c_word_Head)]:=known_cons ok_word_Tail s_word_Tail m_word_Tail (known_cons ok_word_Head s_word_Head m_word_Head (known_nil))
theorem s_word_Len:S 81 F12.c_word_Len:=func_sound k_word_Len Tryz.func81 chk_word_Len
theorem m_word_Len:Mono (F12.c_word_Len (X:=Ob)):=amFunc_mono (fun g f h=>(k_word_Len g f h).2.2) _
theorem k_steal_Steal_look:Known A0 num Tryz.prog [(159,F12.c_conf_Config_Word),(24,F12.c_cell_Mem_Load),(178,F12.c_word_Len)]:=known_cons ok_conf_Config_Word s_conf_Config_Word m_conf_Config_Word (known_cons ok_cell_Mem_Load s_cell_Mem_Load m_cell_Mem_Load (known_cons ok_word_Len s_word_Len m_word_Len (known_nil)))
theorem s_steal_Steal_look:S 64 F12.c_steal_Steal_look:=func_sound k_steal_Steal_look Tryz.func64 chk_steal_Steal_look
theorem m_steal_Steal_look:Mono (F12.c_steal_Steal_look (X:=Ob)):=amFunc_mono (fun g f h=>(k_steal_Steal_look g f h).2.2) _
theorem k_word_Older:Known A0 num Tryz.prog []:=known_nil
theorem s_word_Older:S 103 F12.c_word_Older:=func_sound k_word_Older Tryz.func103 chk_word_Older
theorem m_word_Older:Mono (F12.c_word_Older (X:=Ob)):=amFunc_mono (fun g f h=>(k_word_Older g f h).2.2) _
theorem k_steal_Steal_half:Known A0 num Tryz.prog [(178,F12.c_word_Len),(289,F12.c_word_Older)]:=known_cons ok_word_Len s_word_Len m_word_Len (known_cons ok_word_Older s_word_Older m_word_Older (known_nil))
theorem s_steal_Steal_half:S 83 F12.c_steal_Steal_half:=func_sound k_steal_Steal_half Tryz.func83 chk_steal_Steal_half
theorem m_steal_Steal_half:Mono (F12.c_steal_Steal_half (X:=Ob)):=amFunc_mono (fun g f h=>(k_steal_Steal_half g f h).2.2) _
theorem k_steal_Steal_copy:Known A0 num Tryz.prog [(179,F12.c_word_Head),(160,F12.c_conf_Config_Slot),(24,F12.c_cell_Mem_Load),(288,F12.c_steal_Steal_half)]:=known_cons ok_word_Head s_word_Head m_word_Head (known_cons ok_conf_Config_Slot s_conf_Config_Slot m_conf_Config_Slot (known_cons ok_cell_Mem_Load s_cell_Mem_Load m_cell_Mem_Load (known_cons ok_steal_Steal_half s_steal_Steal_half m_steal_Steal_half (known_nil))))
theorem s_steal_Steal_copy:S 65 F12.c_steal_Steal_copy:=func_sound k_steal_Steal_copy Tryz.func65 chk_steal_Steal_copy
theorem m_steal_Steal_copy:Mono (F12.c_steal_Steal_copy (X:=Ob)):=amFunc_mono (fun g f h=>(k_steal_Steal_copy g f h).2.2) _
theorem k_word_Pack:Known A0 num Tryz.prog []:=known_nil
theorem s_word_Pack:S 105 F12.c_word_Pack:=func_sound k_word_Pack Tryz.func105 chk_word_Pack
theorem m_word_Pack:Mono (F12.c_word_Pack (X:=Ob)):=amFunc_mono (fun g f h=>(k_word_Pack g f h).2.2) _
theorem k_word_Gain:Known A0 num Tryz.prog [(179,F12.c_word_Head),(182,F12.c_word_Tail),(183,F12.c_word_Pack)]:=known_cons ok_word_Head s_word_Head m_word_Head (known_cons ok_word_Tail s_word_Tail m_word_Tail (known_cons ok_word_Pack s_word_Pack m_word_Pack (known_nil)))
theorem s_word_Gain:S 85 F12.c_word_Gain:=func_sound k_word_Gain Tryz.func85 chk_word_Gain
theorem m_word_Gain:Mono (F12.c_word_Gain (X:=Ob)):=amFunc_mono (fun g f h=>(k_word_Gain g f h).2.2) _
theorem k_cell_Mem_CAS:Known A0 num Tryz.prog [(50,F12.c_cell_Mem_access),(51,F12.c_cell_Mem_CAS_1)]:=known_cons ok_cell_Mem_access s_cell_Mem_access m_cell_Mem_access (known_cons ok_cell_Mem_CAS_1 s_cell_Mem_CAS_1 m_cell_Mem_CAS_1 (known_nil))
theorem s_cell_Mem_CAS:S 84 F12.c_cell_Mem_CAS:=func_sound k_cell_Mem_CAS Tryz.func84 chk_cell_Mem_CAS
theorem m_cell_Mem_CAS:Mono (F12.c_cell_Mem_CAS (X:=Ob)):=amFunc_mono (fun g f h=>(k_cell_Mem_CAS g f h).2.2) _
theorem k_put_from:Known A0 num Tryz.prog [(159,F12.c_conf_Config_Word)]:=known_cons ok_conf_Config_Word s_conf_Config_Word m_conf_Config_Word (known_nil)
theorem s_put_from:S 72 F12.c_put_from:=func_sound k_put_from Tryz.func72 chk_put_from
theorem m_put_from:Mono (F12.c_put_from (X:=Ob)):=amFunc_mono (fun g f h=>(k_put_from g f h).2.2) _
theorem k_slices_Clone_int:Known A0 num Tryz.prog []:=known_nil
theorem s_slices_Clone_int:S 77 F12.c_slices_Clone_int:=func_sound k_slices_Clone_int Tryz.func77 chk_slices_Clone_int
theorem m_slices_Clone_int:Mono (F12.c_slices_Clone_int (X:=Ob)):=amFunc_mono (fun g f h=>(k_slices_Clone_int g f h).2.2) _
theorem k_put_ring_load:Known A0 num Tryz.prog [(159,F12.c_conf_Config_Word),(24,F12.c_cell_Mem_Load),(178,F12.c_word_Len)]:=known_cons ok_conf_Config_Word s_conf_Config_Word m_conf_Config_Word (known_cons ok_cell_Mem_Load s_cell_Mem_Load m_cell_Mem_Load (known_cons ok_word_Len s_word_Len m_word_Len (known_nil)))
theorem s_put_ring_load:S 108 F12.c_put_ring_load:=func_sound k_put_ring_load Tryz.func108 chk_put_ring_load
theorem m_put_ring_load:Mono (F12.c_put_ring_load (X:=Ob)):=amFunc_mono (fun g f h=>(k_put_ring_load g f h).2.2) _
theorem k_put_Put_look:Known A0 num Tryz.prog [(219,F12.c_put_ring_load)]:=known_cons ok_put_ring_load s_put_ring_load m_put_ring_load (known_nil)
theorem s_put_Put_look:S 96 F12.c_put_Put_look:=func_sound k_put_Put_look Tryz.func96 chk_put_Put_look
theorem m_put_Put_look:Mono (F12.c_put_Put_look (X:=Ob)):=amFunc_mono (fun g f h=>(k_put_Put_look g f h).2.2) _
theorem k_put_ring_slot:Known A0 num Tryz.prog [(182,F12.c_word_Tail),(160,F12.c_conf_Config_Slot)]:=known_cons ok_word_Tail s_word_Tail m_word_Tail (known_cons ok_conf_Config_Slot s_conf_Config_Slot m_conf_Config_Slot (known_nil))
theorem s_put_ring_slot:S 89 F12.c_put_ring_slot:=func_sound k_put_ring_slot Tryz.func89 chk_put_ring_slot
theorem m_put_ring_slot:Mono (F12.c_put_ring_slot (X:=Ob)):=amFunc_mono (fun g f h=>(k_put_ring_slot g f h).2.2) _
theorem k_put_Put_lay:Known A0 num Tryz.prog [(210,F12.c_put_ring_slot),(22,F12.c_cell_Mem_Store)]:=known_cons ok_put_ring_slot s_put_ring_slot m_put_ring_slot (known_cons ok_cell_Mem_Store s_cell_Mem_Store m_cell_Mem_Store (known_nil))
theorem s_put_Put_lay:S 97 F12.c_put_Put_lay:=func_sound k_put_Put_lay Tryz.func97 chk_put_Put_lay
theorem m_put_Put_lay:Mono (F12.c_put_Put_lay (X:=Ob)):=amFunc_mono (fun g f h=>(k_put_Put_lay g f h).2.2) _
theorem k_word_Grow:Known A0 num Tryz.prog [(179,F12.c_word_Head),(182,F12.c_word_Tail),(183,F12.c_word_Pack)]:=known_cons ok_word_Head s_word_Head m_word_Head (known_cons ok_word_Tail s_word_Tail m_word_Tail (known_cons ok_word_Pack s_word_Pack m_word_Pack (known_nil)))
theorem s_word_Grow:S 91 F12.c_word_Grow:=func_sound k_word_Grow Tryz.func91 chk_word_Grow
theorem m_word_Grow:Mono (F12.c_word_Grow (X:=Ob)):=amFunc_mono (fun g f h=>(k_word_Grow g f h).2.2) _
theorem k_put_ring_change:Known A0 num Tryz.prog [(159,F12.c_conf_Config_Word),(23,F12.c_cell_Mem_CAS)]:=known_cons ok_conf_Config_Word s_conf_Config_Word m_conf_Config_Word (known_cons ok_cell_Mem_CAS s_cell_Mem_CAS m_cell_Mem_CAS (known_nil))
theorem s_put_ring_change:S 90 F12.c_put_ring_change:=func_sound k_put_ring_change Tryz.func90 chk_put_ring_change
theorem m_put_ring_change:Mono (F12.c_put_ring_change (X:=Ob)):=amFunc_mono (fun g f h=>(k_put_ring_change g f h).2.2) _
theorem k_put_Put_swing:Known A0 num Tryz.prog [(211,F12.c_word_Grow),(212,F12.c_put_ring_change)]:=known_cons ok_word_Grow s_word_Grow m_word_Grow (known_cons ok_put_ring_change s_put_ring_change m_put_ring_change (known_nil))
theorem s_put_Put_swing:S 98 F12.c_put_Put_swing:=func_sound k_put_Put_swing Tryz.func98 chk_put_Put_swing
theorem m_put_Put_swing:Mono (F12.c_put_Put_swing (X:=Ob)):=amFunc_mono (fun g f h=>(k_put_Put_swing g f h).2.2) _
theorem k_put_Put_half:Known A0 num Tryz.prog []:=known_nil
theorem s_put_Put_half:S 109 F12.c_put_Put_half:=func_sound k_put_Put_half Tryz.func109 chk_put_Put_half
theorem m_put_Put_half:Mono (F12.c_put_Put_half (X:=Ob)):=amFunc_mono (fun g f h=>(k_put_Put_half g f h).2.2) _
theorem k_put_Put_take:Known A0 num Tryz.prog [(220,F12.c_put_Put_half),(210,F12.c_put_ring_slot),(24,F12.c_cell_Mem_Load)]:=known_cons ok_put_Put_half s_put_Put_half m_put_Put_half (known_cons ok_put_ring_slot s_put_ring_slot m_put_ring_slot (known_cons ok_cell_Mem_Load s_cell_Mem_Load m_cell_Mem_Load (known_nil)))
theorem s_put_Put_take:S 99 F12.c_put_Put_take:=func_sound k_put_Put_take Tryz.func99 chk_put_Put_take
theorem m_put_Put_take:Mono (F12.c_put_Put_take (X:=Ob)):=amFunc_mono (fun g f h=>(k_put_Put_take g f h).2.2) _
theorem k_word_Drop:Known A0 num Tryz.prog [(179,F12.c_word_Head),(182,F12.c_word_Tail),(183,F12.c_word_Pack)]:=known_cons ok_word_Head s_word_Head m_word_Head (known_cons ok_word_Tail s_word_Tail m_word_Tail (known_cons ok_word_Pack s_word_Pack m_word_Pack (known_nil)))
theorem s_word_Drop:S 110 F12.c_word_Drop:=func_sound k_word_Drop Tryz.func110 chk_word_Drop
theorem m_word_Drop:Mono (F12.c_word_Drop (X:=Ob)):=amFunc_mono (fun g f h=>(k_word_Drop g f h).2.2) _
theorem k_put_Put_cut:Known A0 num Tryz.prog [(220,F12.c_put_Put_half),(221,F12.c_word_Drop),(212,F12.c_put_ring_change)]:=known_cons ok_put_Put_half s_put_Put_half m_put_Put_half (known_cons ok_word_Drop s_word_Drop m_word_Drop (known_cons ok_put_ring_change s_put_ring_change m_put_ring_change (known_nil)))
theorem s_put_Put_cut:S 100 F12.c_put_Put_cut:=func_sound k_put_Put_cut Tryz.func100 chk_put_Put_cut
theorem m_put_Put_cut:Mono (F12.c_put_Put_cut (X:=Ob)):=amFunc_mono (fun g f h=>(k_put_Put_cut g f h).2.2) _
theorem k_slices_IndexFunc_int:Known A0 num Tryz.prog [(49,F12.c_cell_Mem_Store_1),(51,F12.c_cell_Mem_CAS_1),(52,F12.c_cell_Mem_Load_1),(213,F12.c_put_NewLay_1),(214,F12.c_put_Put_look),(215,F12.c_put_Put_lay),(216,F12.c_put_Put_swing),(217,F12.c_put_Put_take),(218,F12.c_put_Put_cut)]:=known_cons ok_cell_Mem_Store_1 s_cell_Mem_Store_1 m_cell_Mem_Store_1 (known_cons ok_cell_Mem_CAS_1 s_cell_Mem_CAS_1 m_cell_Mem_CAS_1 (known_cons ok_cell_Mem_Load_1 s_cell_Mem_Load_1 m_cell_Mem_Load_1 (known_cons ok_put_NewLay_1 s_put_NewLay_1 m_put_NewLay_1 (known_cons ok_put_Put_look s_put_Put_look m_put_Put_look (known_cons ok_put_Put_lay s_put_Put_lay m_put_Put_lay (known_cons ok_put_Put_swing s_put_Put_swing m_put_Put_swing (known_cons ok_put_Put_take s_put_Put_take m_put_Put_take (known_cons ok_put_Put_cut s_put_Put_cut m_put_Put_cut (known_nil)))))))))
theorem s_slices_IndexFunc_int:S 111 F12.c_slices_IndexFunc_int:=func_sound k_slices_IndexFunc_int Tryz.func111 chk_slices_IndexFunc_int
theorem m_slices_IndexFunc_int:Mono (F12.c_slices_IndexFunc_int (X:=Ob)):=amFunc_mono (fun g f h=>(k_slices_IndexFunc_int g f h).2.2) _
theorem k_slices_DeleteFunc_int:Known A0 num Tryz.prog [(97,F12.c_slices_IndexFunc_int),(49,F12.c_cell_Mem_Store_1),(51,F12.c_cell_Mem_CAS_1),(52,F12.c_cell_Mem_Load_1),(213,F12.c_put_NewLay_1),(214,F12.c_put_Put_look),(215,F12.c_put_Put_lay),(216,F12.c_put_Put_swing),(217,F12.c_put_Put_take),(218,F12.c_put_Put_cut)]:=known_cons ok_slices_IndexFunc_int s_slices_IndexFunc_int m_slices_IndexFunc_int (known_cons ok_cell_Mem_Store_1 s_cell_Mem_Store_1 m_cell_Mem_Store_1 (known_cons ok_cell_Mem_CAS_1 s_cell_Mem_CAS_1 m_cell_Mem_CAS_1 (known_cons ok_cell_Mem_Load_1 s_cell_Mem_Load_1 m_cell_Mem_Load_1 (known_cons ok_put_NewLay_1 s_put_NewLay_1 m_put_NewLay_1 (known_cons ok_put_Put_look s_put_Put_look m_put_Put_look (known_cons ok_put_Put_lay s_put_Put_lay m_put_Put_lay (known_cons ok_put_Put_swing s_put_Put_swing m_put_Put_swing (known_cons ok_put_Put_take s_put_Put_take m_put_Put_take (known_cons ok_put_Put_cut s_put_Put_cut m_put_Put_cut (known_nil))))))))))
theorem s_slices_DeleteFunc_int:S 106 F12.c_slices_DeleteFunc_int:=func_sound k_slices_DeleteFunc_int Tryz.func106 chk_slices_DeleteFunc_int
theorem m_slices_DeleteFunc_int:Mono (F12.c_slices_DeleteFunc_int (X:=Ob)):=amFunc_mono (fun g f h=>(k_slices_DeleteFunc_int g f h).2.2) _
theorem k_put_NewLay:Known A0 num Tryz.prog [(206,F12.c_put_from),(208,F12.c_slices_Clone_int),(95,F12.c_slices_DeleteFunc_int),(213,F12.c_put_NewLay_1)]:=known_cons ok_put_from s_put_from m_put_from (known_cons ok_slices_Clone_int s_slices_Clone_int m_slices_Clone_int (known_cons ok_slices_DeleteFunc_int s_slices_DeleteFunc_int m_slices_DeleteFunc_int (known_cons ok_put_NewLay_1 s_put_NewLay_1 m_put_NewLay_1 (known_nil))))
theorem s_put_NewLay:S 86 F12.c_put_NewLay:=func_sound k_put_NewLay Tryz.func86 chk_put_NewLay
theorem m_put_NewLay:Mono (F12.c_put_NewLay (X:=Ob)):=amFunc_mono (fun g f h=>(k_put_NewLay g f h).2.2) _
theorem k_steal_Steal_gain:Known A0 num Tryz.prog [(159,F12.c_conf_Config_Word),(288,F12.c_steal_Steal_half),(180,F12.c_word_Gain),(23,F12.c_cell_Mem_CAS),(199,F12.c_put_NewLay)]:=known_cons ok_conf_Config_Word s_conf_Config_Word m_conf_Config_Word (known_cons ok_steal_Steal_half s_steal_Steal_half m_steal_Steal_half (known_cons ok_word_Gain s_word_Gain m_word_Gain (known_cons ok_cell_Mem_CAS s_cell_Mem_CAS m_cell_Mem_CAS (known_cons ok_put_NewLay s_put_NewLay m_put_NewLay (known_nil)))))
theorem s_steal_Steal_gain:S 66 F12.c_steal_Steal_gain:=func_sound k_steal_Steal_gain Tryz.func66 chk_steal_Steal_gain
theorem m_steal_Steal_gain:Mono (F12.c_steal_Steal_gain (X:=Ob)):=amFunc_mono (fun g f h=>(k_steal_Steal_gain g f h).2.2) _
theorem k_put_Lay_Done:Known A0 num Tryz.prog []:=known_nil
theorem s_put_Lay_Done:S 87 F12.c_put_Lay_Done:=func_sound k_put_Lay_Done Tryz.func87 chk_put_Lay_Done
theorem m_put_Lay_Done:Mono (F12.c_put_Lay_Done (X:=Ob)):=amFunc_mono (fun g f h=>(k_put_Lay_Done g f h).2.2) _
theorem k_put_Lay_look:Known A0 num Tryz.prog [(219,F12.c_put_ring_load)]:=known_cons ok_put_ring_load s_put_ring_load m_put_ring_load (known_nil)
theorem s_put_Lay_look:S 88 F12.c_put_Lay_look:=func_sound k_put_Lay_look Tryz.func88 chk_put_Lay_look
theorem m_put_Lay_look:Mono (F12.c_put_Lay_look (X:=Ob)):=amFunc_mono (fun g f h=>(k_put_Lay_look g f h).2.2) _
theorem k_put_Lay_Step:Known A0 num Tryz.prog [(196,F12.c_put_Lay_Done),(209,F12.c_put_Lay_look),(210,F12.c_put_ring_slot),(22,F12.c_cell_Mem_Store),(211,F12.c_word_Grow),(212,F12.c_put_ring_change)]:=known_cons ok_put_Lay_Done s_put_Lay_Done m_put_Lay_Done (known_cons ok_put_Lay_look s_put_Lay_look m_put_Lay_look (known_cons ok_put_ring_slot s_put_ring_slot m_put_ring_slot (known_cons ok_cell_Mem_Store s_cell_Mem_Store m_cell_Mem_Store (known_cons ok_word_Grow s_word_Grow m_word_Grow (known_cons ok_put_ring_change s_put_ring_change m_put_ring_change (known_nil))))))
theorem s_put_Lay_Step:S 67 F12.c_put_Lay_Step:=func_sound k_put_Lay_Step Tryz.func67 chk_put_Lay_Step
theorem m_put_Lay_Step:Mono (F12.c_put_Lay_Step (X:=Ob)):=amFunc_mono (fun g f h=>(k_put_Lay_Step g f h).2.2) _
theorem k_steal_Steal_Step:Known A0 num Tryz.prog [(277,F12.c_steal_Steal_Done),(283,F12.c_steal_Steal_look),(284,F12.c_steal_Steal_copy),(285,F12.c_steal_Steal_gain),(195,F12.c_put_Lay_Step)]:=known_cons ok_steal_Steal_Done s_steal_Steal_Done m_steal_Steal_Done (known_cons ok_steal_Steal_look s_steal_Steal_look m_steal_Steal_look (known_cons ok_steal_Steal_copy s_steal_Steal_copy m_steal_Steal_copy (known_cons ok_steal_Steal_gain s_steal_Steal_gain m_steal_Steal_gain (known_cons ok_put_Lay_Step s_put_Lay_Step m_put_Lay_Step (known_nil)))))
theorem s_steal_Steal_Step:S 21 F12.c_steal_Steal_Step:=func_sound k_steal_Steal_Step Tryz.func21 chk_steal_Steal_Step
theorem m_steal_Steal_Step:Mono (F12.c_steal_Steal_Step (X:=Ob)):=amFunc_mono (fun g f h=>(k_steal_Steal_Step g f h).2.2) _
theorem k_steal_Steal_Many:Known A0 num Tryz.prog []:=known_nil
theorem s_steal_Steal_Many:S 26 F12.c_steal_Steal_Many:=func_sound k_steal_Steal_Many Tryz.func26 chk_steal_Steal_Many
theorem m_steal_Steal_Many:Mono (F12.c_steal_Steal_Many (X:=Ob)):=amFunc_mono (fun g f h=>(k_steal_Steal_Many g f h).2.2) _
theorem k_steal_Steal_Got:Known A0 num Tryz.prog [(277,F12.c_steal_Steal_Done),(275,F12.c_steal_Steal_Many)]:=known_cons ok_steal_Steal_Done s_steal_Steal_Done m_steal_Steal_Done (known_cons ok_steal_Steal_Many s_steal_Steal_Many m_steal_Steal_Many (known_nil))
theorem s_steal_Steal_Got:S 33 F12.c_steal_Steal_Got:=func_sound k_steal_Steal_Got Tryz.func33 chk_steal_Steal_Got
theorem m_steal_Steal_Got:Mono (F12.c_steal_Steal_Got (X:=Ob)):=amFunc_mono (fun g f h=>(k_steal_Steal_Got g f h).2.2) _
theorem k_slices_Clone_uint64:Known A0 num Tryz.prog []:=known_nil
theorem s_slices_Clone_uint64:S 80 F12.c_slices_Clone_uint64:=func_sound k_slices_Clone_uint64 Tryz.func80 chk_slices_Clone_uint64
theorem m_slices_Clone_uint64:Mono (F12.c_slices_Clone_uint64 (X:=Ob)):=amFunc_mono (fun g f h=>(k_slices_Clone_uint64 g f h).2.2) _
theorem k_cell_Mem_All:Known A0 num Tryz.prog [(61,F12.c_slices_Clone_uint64)]:=known_cons ok_slices_Clone_uint64 s_slices_Clone_uint64 m_slices_Clone_uint64 (known_nil)
theorem s_cell_Mem_All:S 53 F12.c_cell_Mem_All:=func_sound k_cell_Mem_All Tryz.func53 chk_cell_Mem_All
theorem m_cell_Mem_All:Mono (F12.c_cell_Mem_All (X:=Ob)):=amFunc_mono (fun g f h=>(k_cell_Mem_All g f h).2.2) _
theorem k_docs_Ring:Known A0 num Tryz.prog [(47,F12.c_cell_Mem_All),(156,F12.c_conf_Config_Cells),(159,F12.c_conf_Config_Word),(160,F12.c_conf_Config_Slot)]:=known_cons ok_cell_Mem_All s_cell_Mem_All m_cell_Mem_All (known_cons ok_conf_Config_Cells s_conf_Config_Cells m_conf_Config_Cells (known_cons ok_conf_Config_Word s_conf_Config_Word m_conf_Config_Word (known_cons ok_conf_Config_Slot s_conf_Config_Slot m_conf_Config_Slot (known_nil))))
theorem s_docs_Ring:S 24 F12.c_docs_Ring:=func_sound k_docs_Ring Tryz.func24 chk_docs_Ring
theorem m_docs_Ring:Mono (F12.c_docs_Ring (X:=Ob)):=amFunc_mono (fun g f h=>(k_docs_Ring g f h).2.2) _
theorem k_kit_SameInts:Known A0 num Tryz.prog []:=known_nil
theorem s_kit_SameInts:S 27 F12.c_kit_SameInts:=func_sound k_kit_SameInts Tryz.func27 chk_kit_SameInts
theorem m_kit_SameInts:Mono (F12.c_kit_SameInts (X:=Ob)):=amFunc_mono (fun g f h=>(k_kit_SameInts g f h).2.2) _
theorem k_docs_Thief:Known A0 num Tryz.prog [(136,F12.c_docs_Ring),(159,F12.c_conf_Config_Word),(24,F12.c_cell_Mem_Load),(22,F12.c_cell_Mem_Store)]:=known_cons ok_docs_Ring s_docs_Ring m_docs_Ring (known_cons ok_conf_Config_Word s_conf_Config_Word m_conf_Config_Word (known_cons ok_cell_Mem_Load s_cell_Mem_Load m_cell_Mem_Load (known_cons ok_cell_Mem_Store s_cell_Mem_Store m_cell_Mem_Store (known_nil))))
theorem s_docs_Thief:S 31 F12.c_docs_Thief:=func_sound k_docs_Thief Tryz.func31 chk_docs_Thief
theorem m_docs_Thief:Mono (F12.c_docs_Thief (X:=Ob)):=amFunc_mono (fun g f h=>(k_docs_Thief g f h).2.2) _
theorem k_law11_works:Known A0 num Tryz.prog [(281,F12.c_law11_rings),(270,F12.c_steal_New),(274,F12.c_steal_Steal_Step),(278,F12.c_steal_Steal_Got),(275,F12.c_steal_Steal_Many),(136,F12.c_docs_Ring),(84,F12.c_kit_SameInts),(139,F12.c_docs_Thief)]:=known_cons ok_law11_rings s_law11_rings m_law11_rings (known_cons ok_steal_New s_steal_New m_steal_New (known_cons ok_steal_Steal_Step s_steal_Steal_Step m_steal_Steal_Step (known_cons ok_steal_Steal_Got s_steal_Steal_Got m_steal_Steal_Got (known_cons ok_steal_Steal_Many s_steal_Steal_Many m_steal_Steal_Many (known_cons ok_docs_Ring s_docs_Ring m_docs_Ring (known_cons ok_kit_SameInts s_kit_SameInts m_kit_SameInts (known_cons ok_docs_Thief s_docs_Thief m_docs_Thief (known_nil))))))))
theorem s_law11_works:S 9 F12.c_law11_works:=func_sound k_law11_works Tryz.func9 chk_law11_works
theorem k_kit_Pick:Known A0 num Tryz.prog []:=known_nil
theorem s_kit_Pick:S 10 F12.c_kit_Pick:=func_sound k_kit_Pick Tryz.func10 chk_kit_Pick
theorem m_kit_Pick:Mono (F12.c_kit_Pick (X:=Ob)):=amFunc_mono (fun g f h=>(k_kit_Pick g f h).2.2) _
theorem k_docs_Made:Known A0 num Tryz.prog [(87,F12.c_kit_Pick)]:=known_cons ok_kit_Pick s_kit_Pick m_kit_Pick (known_nil)
theorem s_docs_Made:S 4 F12.c_docs_Made:=func_sound k_docs_Made Tryz.func4 chk_docs_Made
theorem m_docs_Made:Mono (F12.c_docs_Made (X:=Ob)):=amFunc_mono (fun g f h=>(k_docs_Made g f h).2.2) _
theorem k_docs_byteAt:Known A0 num Tryz.prog []:=known_nil
theorem s_docs_byteAt:S 42 F12.c_docs_byteAt:=func_sound k_docs_byteAt Tryz.func42 chk_docs_byteAt
theorem m_docs_byteAt:Mono (F12.c_docs_byteAt (X:=Ob)):=amFunc_mono (fun g f h=>(k_docs_byteAt g f h).2.2) _
theorem k_conf_Config_Next:Known A0 num Tryz.prog [(177,F12.c_conf_own_at)]:=known_cons ok_conf_own_at s_conf_own_at m_conf_own_at (known_nil)
theorem s_conf_Config_Next:S 44 F12.c_conf_Config_Next:=func_sound k_conf_Config_Next Tryz.func44 chk_conf_Config_Next
theorem m_conf_Config_Next:Mono (F12.c_conf_Config_Next (X:=Ob)):=amFunc_mono (fun g f h=>(k_conf_Config_Next g f h).2.2) _
theorem k_conf_Config_Stat:Known A0 num Tryz.prog [(177,F12.c_conf_own_at)]:=known_cons ok_conf_own_at s_conf_own_at m_conf_own_at (known_nil)
theorem s_conf_Config_Stat:S 45 F12.c_conf_Config_Stat:=func_sound k_conf_Config_Stat Tryz.func45 chk_conf_Config_Stat
theorem m_conf_Config_Stat:Mono (F12.c_conf_Config_Stat (X:=Ob)):=amFunc_mono (fun g f h=>(k_conf_Config_Stat g f h).2.2) _
theorem k_conf_Config_Tick:Known A0 num Tryz.prog [(177,F12.c_conf_own_at)]:=known_cons ok_conf_own_at s_conf_own_at m_conf_own_at (known_nil)
theorem s_conf_Config_Tick:S 46 F12.c_conf_Config_Tick:=func_sound k_conf_Config_Tick Tryz.func46 chk_conf_Config_Tick
theorem m_conf_Config_Tick:Mono (F12.c_conf_Config_Tick (X:=Ob)):=amFunc_mono (fun g f h=>(k_conf_Config_Tick g f h).2.2) _
theorem k_conf_Config_Sys:Known A0 num Tryz.prog [(177,F12.c_conf_own_at)]:=known_cons ok_conf_own_at s_conf_own_at m_conf_own_at (known_nil)
theorem s_conf_Config_Sys:S 47 F12.c_conf_Config_Sys:=func_sound k_conf_Config_Sys Tryz.func47 chk_conf_Config_Sys
theorem m_conf_Config_Sys:Mono (F12.c_conf_Config_Sys (X:=Ob)):=amFunc_mono (fun g f h=>(k_conf_Config_Sys g f h).2.2) _
theorem k_conf_Config_Flag:Known A0 num Tryz.prog [(177,F12.c_conf_own_at)]:=known_cons ok_conf_own_at s_conf_own_at m_conf_own_at (known_nil)
theorem s_conf_Config_Flag:S 48 F12.c_conf_Config_Flag:=func_sound k_conf_Config_Flag Tryz.func48 chk_conf_Config_Flag
theorem m_conf_Config_Flag:Mono (F12.c_conf_Config_Flag (X:=Ob)):=amFunc_mono (fun g f h=>(k_conf_Config_Flag g f h).2.2) _
theorem k_docs_Filled:Known A0 num Tryz.prog [(156,F12.c_conf_Config_Cells),(157,F12.c_conf_Config_Right),(158,F12.c_docs_byteAt),(159,F12.c_conf_Config_Word),(160,F12.c_conf_Config_Slot),(161,F12.c_conf_Config_Next),(162,F12.c_conf_Config_Stat),(163,F12.c_conf_Config_Tick),(164,F12.c_conf_Config_Sys),(165,F12.c_conf_Config_Flag)]:=known_cons ok_conf_Config_Cells s_conf_Config_Cells m_conf_Config_Cells (known_cons ok_conf_Config_Right s_conf_Config_Right m_conf_Config_Right (known_cons ok_docs_byteAt s_docs_byteAt m_docs_byteAt (known_cons ok_conf_Config_Word s_conf_Config_Word m_conf_Config_Word (known_cons ok_conf_Config_Slot s_conf_Config_Slot m_conf_Config_Slot (known_cons ok_conf_Config_Next s_conf_Config_Next m_conf_Config_Next (known_cons ok_conf_Config_Stat s_conf_Config_Stat m_conf_Config_Stat (known_cons ok_conf_Config_Tick s_conf_Config_Tick m_conf_Config_Tick (known_cons ok_conf_Config_Sys s_conf_Config_Sys m_conf_Config_Sys (known_cons ok_conf_Config_Flag s_conf_Config_Flag m_conf_Config_Flag (known_nil))))))))))
theorem s_docs_Filled:S 13 F12.c_docs_Filled:=func_sound k_docs_Filled Tryz.func13 chk_docs_Filled
theorem m_docs_Filled:Mono (F12.c_docs_Filled (X:=Ob)):=amFunc_mono (fun g f h=>(k_docs_Filled g f h).2.2) _
theorem k_ref06_New:Known A0 num Tryz.prog []:=known_nil
theorem s_ref06_New:S 40 F12.c_ref06_New:=func_sound k_ref06_New Tryz.func40 chk_ref06_New
theorem m_ref06_New:Mono (F12.c_ref06_New (X:=Ob)):=amFunc_mono (fun g f h=>(k_ref06_New g f h).2.2) _
theorem k_ref06_there:Known A0 num Tryz.prog []:=known_nil
theorem s_ref06_there:S 70 F12.c_ref06_there:=func_sound k_ref06_there Tryz.func70 chk_ref06_there
theorem m_ref06_there:Mono (F12.c_ref06_there (X:=Ob)):=amFunc_mono (fun g f h=>(k_ref06_there g f h).2.2) _
theorem k_ref06_with:Known A0 num Tryz.prog []:=known_nil
theorem s_ref06_with:S 71 F12.c_ref06_with:=func_sound k_ref06_with Tryz.func71 chk_ref06_with
theorem m_ref06_with:Mono (F12.c_ref06_with (X:=Ob)):=amFunc_mono (fun g f h=>(k_ref06_with g f h).2.2) _
theorem k_ref06_Store:Known A0 num Tryz.prog [(72,F12.c_ref06_there),(73,F12.c_ref06_with)]:=known_cons ok_ref06_there s_ref06_there m_ref06_there (known_cons ok_ref06_with s_ref06_with m_ref06_with (known_nil))
theorem s_ref06_Store:S 23 F12.c_ref06_Store:=func_sound k_ref06_Store Tryz.func23 chk_ref06_Store
theorem m_ref06_Store:Mono (F12.c_ref06_Store (X:=Ob)):=amFunc_mono (fun g f h=>(k_ref06_Store g f h).2.2) _
theorem k_cell_Mem_Len:Known A0 num Tryz.prog []:=known_nil
theorem s_cell_Mem_Len:S 51 F12.c_cell_Mem_Len:=func_sound k_cell_Mem_Len Tryz.func51 chk_cell_Mem_Len
theorem k_cell_Mem_Ops:Known A0 num Tryz.prog []:=known_nil
theorem s_cell_Mem_Ops:S 19 F12.c_cell_Mem_Ops:=func_sound k_cell_Mem_Ops Tryz.func19 chk_cell_Mem_Ops
theorem m_cell_Mem_Ops:Mono (F12.c_cell_Mem_Ops (X:=Ob)):=amFunc_mono (fun g f h=>(k_cell_Mem_Ops g f h).2.2) _
theorem k_docs_SameCells:Known A0 num Tryz.prog []:=known_nil
theorem s_docs_SameCells:S 52 F12.c_docs_SameCells:=func_sound k_docs_SameCells Tryz.func52 chk_docs_SameCells
theorem m_docs_SameCells:Mono (F12.c_docs_SameCells (X:=Ob)):=amFunc_mono (fun g f h=>(k_docs_SameCells g f h).2.2) _
theorem k_docs_Config:Known A0 num Tryz.prog []:=known_nil
theorem s_docs_Config:S 16 F12.c_docs_Config:=func_sound k_docs_Config Tryz.func16 chk_docs_Config
theorem m_docs_Config:Mono (F12.c_docs_Config (X:=Ob)):=amFunc_mono (fun g f h=>(k_docs_Config g f h).2.2) _
theorem k_put_Lay_Hands:Known A0 num Tryz.prog [(208,F12.c_slices_Clone_int)]:=known_cons ok_slices_Clone_int s_slices_Clone_int m_slices_Clone_int (known_nil)
theorem s_put_Lay_Hands:S 95 F12.c_put_Lay_Hands:=func_sound k_put_Lay_Hands Tryz.func95 chk_put_Lay_Hands
theorem m_put_Lay_Hands:Mono (F12.c_put_Lay_Hands (X:=Ob)):=amFunc_mono (fun g f h=>(k_put_Lay_Hands g f h).2.2) _
theorem k_steal_rest_Rest:Known A0 num Tryz.prog [(197,F12.c_put_Lay_Hands)]:=known_cons ok_put_Lay_Hands s_put_Lay_Hands m_put_Lay_Hands (known_nil)
theorem s_steal_rest_Rest:S 74 F12.c_steal_rest_Rest:=func_sound k_steal_rest_Rest Tryz.func74 chk_steal_rest_Rest
theorem m_steal_rest_Rest:Mono (F12.c_steal_rest_Rest (X:=Ob)):=amFunc_mono (fun g f h=>(k_steal_rest_Rest g f h).2.2) _
theorem k_slices_Grow_int:Known A0 num Tryz.prog []:=known_nil
theorem s_slices_Grow_int:S 94 F12.c_slices_Grow_int:=func_sound k_slices_Grow_int Tryz.func94 chk_slices_Grow_int
theorem m_slices_Grow_int:Mono (F12.c_slices_Grow_int (X:=Ob)):=amFunc_mono (fun g f h=>(k_slices_Grow_int g f h).2.2) _
theorem k_slices_Concat_int:Known A0 num Tryz.prog [(290,F12.c_slices_Grow_int)]:=known_cons ok_slices_Grow_int s_slices_Grow_int m_slices_Grow_int (known_nil)
theorem s_slices_Concat_int:S 73 F12.c_slices_Concat_int:=func_sound k_slices_Concat_int Tryz.func73 chk_slices_Concat_int
theorem m_slices_Concat_int:Mono (F12.c_slices_Concat_int (X:=Ob)):=amFunc_mono (fun g f h=>(k_slices_Concat_int g f h).2.2) _
theorem k_steal_Steal_Hands:Known A0 num Tryz.prog [(275,F12.c_steal_Steal_Many),(286,F12.c_steal_rest_Rest),(287,F12.c_slices_Concat_int)]:=known_cons ok_steal_Steal_Many s_steal_Steal_Many m_steal_Steal_Many (known_cons ok_steal_rest_Rest s_steal_rest_Rest m_steal_rest_Rest (known_cons ok_slices_Concat_int s_slices_Concat_int m_slices_Concat_int (known_nil)))
theorem s_steal_Steal_Hands:S 28 F12.c_steal_Steal_Hands:=func_sound k_steal_Steal_Hands Tryz.func28 chk_steal_Steal_Hands
theorem m_steal_Steal_Hands:Mono (F12.c_steal_Steal_Hands (X:=Ob)):=amFunc_mono (fun g f h=>(k_steal_Steal_Hands g f h).2.2) _
theorem k_steal_Steal_Left:Known A0 num Tryz.prog [(277,F12.c_steal_Steal_Done),(275,F12.c_steal_Steal_Many),(286,F12.c_steal_rest_Rest)]:=known_cons ok_steal_Steal_Done s_steal_Steal_Done m_steal_Steal_Done (known_cons ok_steal_Steal_Many s_steal_Steal_Many m_steal_Steal_Many (known_cons ok_steal_rest_Rest s_steal_rest_Rest m_steal_rest_Rest (known_nil)))
theorem s_steal_Steal_Left:S 34 F12.c_steal_Steal_Left:=func_sound k_steal_Steal_Left Tryz.func34 chk_steal_Steal_Left
theorem m_steal_Steal_Left:Mono (F12.c_steal_Steal_Left (X:=Ob)):=amFunc_mono (fun g f h=>(k_steal_Steal_Left g f h).2.2) _
theorem k_put_New:Known A0 num Tryz.prog [(206,F12.c_put_from)]:=known_cons ok_put_from s_put_from m_put_from (known_nil)
theorem s_put_New:S 25 F12.c_put_New:=func_sound k_put_New Tryz.func25 chk_put_New
theorem m_put_New:Mono (F12.c_put_New (X:=Ob)):=amFunc_mono (fun g f h=>(k_put_New g f h).2.2) _
theorem k_put_Put_Done:Known A0 num Tryz.prog []:=known_nil
theorem s_put_Put_Done:S 75 F12.c_put_Put_Done:=func_sound k_put_Put_Done Tryz.func75 chk_put_Put_Done
theorem m_put_Put_Done:Mono (F12.c_put_Put_Done (X:=Ob)):=amFunc_mono (fun g f h=>(k_put_Put_Done g f h).2.2) _
theorem k_put_ways:Known A0 num Tryz.prog [(214,F12.c_put_Put_look),(215,F12.c_put_Put_lay),(216,F12.c_put_Put_swing),(217,F12.c_put_Put_take),(218,F12.c_put_Put_cut)]:=known_cons ok_put_Put_look s_put_Put_look m_put_Put_look (known_cons ok_put_Put_lay s_put_Put_lay m_put_Put_lay (known_cons ok_put_Put_swing s_put_Put_swing m_put_Put_swing (known_cons ok_put_Put_take s_put_Put_take m_put_Put_take (known_cons ok_put_Put_cut s_put_Put_cut m_put_Put_cut (known_nil)))))
theorem s_put_ways:S 76 F12.c_put_ways:=func_sound k_put_ways Tryz.func76 chk_put_ways
theorem m_put_ways:Mono (F12.c_put_ways (X:=Ob)):=amFunc_mono (fun g f h=>(k_put_ways g f h).2.2) _
theorem k_law11_same:Known A0 num Tryz.prog []:=known_nil
theorem s_law11_same:S 35 F12.c_law11_same:=func_sound k_law11_same Tryz.func35 chk_law11_same
theorem m_law11_same:Mono (F12.c_law11_same (X:=Ob)):=amFunc_mono (fun g f h=>(k_law11_same g f h).2.2) _
theorem k_ref05_Right:Known A0 num Tryz.prog []:=known_nil
theorem s_ref05_Right:S 79 F12.c_ref05_Right:=func_sound k_ref05_Right Tryz.func79 chk_ref05_Right
theorem m_ref05_Right:Mono (F12.c_ref05_Right (X:=Ob)):=amFunc_mono (fun g f h=>(k_ref05_Right g f h).2.2) _
theorem k_ref09_There:Known A0 num Tryz.prog [(181,F12.c_ref05_Right)]:=known_cons ok_ref05_Right s_ref05_Right m_ref05_Right (known_nil)
theorem s_ref09_There:S 49 F12.c_ref09_There:=func_sound k_ref09_There Tryz.func49 chk_ref09_There
theorem m_ref09_There:Mono (F12.c_ref09_There (X:=Ob)):=amFunc_mono (fun g f h=>(k_ref09_There g f h).2.2) _
theorem k_ref11_New:Known A0 num Tryz.prog [(169,F12.c_ref09_There)]:=known_cons ok_ref09_There s_ref09_There m_ref09_There (known_nil)
theorem s_ref11_New:S 15 F12.c_ref11_New:=func_sound k_ref11_New Tryz.func15 chk_ref11_New
theorem m_ref11_New:Mono (F12.c_ref11_New (X:=Ob)):=amFunc_mono (fun g f h=>(k_ref11_New g f h).2.2) _
theorem k_ref09_Tail:Known A0 num Tryz.prog []:=known_nil
theorem s_ref09_Tail:S 56 F12.c_ref09_Tail:=func_sound k_ref09_Tail Tryz.func56 chk_ref09_Tail
theorem m_ref09_Tail:Mono (F12.c_ref09_Tail (X:=Ob)):=amFunc_mono (fun g f h=>(k_ref09_Tail g f h).2.2) _
theorem k_ref09_Head:Known A0 num Tryz.prog []:=known_nil
theorem s_ref09_Head:S 55 F12.c_ref09_Head:=func_sound k_ref09_Head Tryz.func55 chk_ref09_Head
theorem m_ref09_Head:Mono (F12.c_ref09_Head (X:=Ob)):=amFunc_mono (fun g f h=>(k_ref09_Head g f h).2.2) _
theorem k_ref09_Size:Known A0 num Tryz.prog [(171,F12.c_ref09_Tail),(170,F12.c_ref09_Head)]:=known_cons ok_ref09_Tail s_ref09_Tail m_ref09_Tail (known_cons ok_ref09_Head s_ref09_Head m_ref09_Head (known_nil))
theorem s_ref09_Size:S 54 F12.c_ref09_Size:=func_sound k_ref09_Size Tryz.func54 chk_ref09_Size
theorem m_ref09_Size:Mono (F12.c_ref09_Size (X:=Ob)):=amFunc_mono (fun g f h=>(k_ref09_Size g f h).2.2) _
theorem k_ref09_Word:Known A0 num Tryz.prog []:=known_nil
theorem s_ref09_Word:S 58 F12.c_ref09_Word:=func_sound k_ref09_Word Tryz.func58 chk_ref09_Word
theorem m_ref09_Word:Mono (F12.c_ref09_Word (X:=Ob)):=amFunc_mono (fun g f h=>(k_ref09_Word g f h).2.2) _
theorem k_ref06_Load:Known A0 num Tryz.prog [(72,F12.c_ref06_there)]:=known_cons ok_ref06_there s_ref06_there m_ref06_there (known_nil)
theorem s_ref06_Load:S 57 F12.c_ref06_Load:=func_sound k_ref06_Load Tryz.func57 chk_ref06_Load
theorem m_ref06_Load:Mono (F12.c_ref06_Load (X:=Ob)):=amFunc_mono (fun g f h=>(k_ref06_Load g f h).2.2) _
theorem k_ref09_Slot:Known A0 num Tryz.prog [(172,F12.c_ref09_Word)]:=known_cons ok_ref09_Word s_ref09_Word m_ref09_Word (known_nil)
theorem s_ref09_Slot:S 59 F12.c_ref09_Slot:=func_sound k_ref09_Slot Tryz.func59 chk_ref09_Slot
theorem m_ref09_Slot:Mono (F12.c_ref09_Slot (X:=Ob)):=amFunc_mono (fun g f h=>(k_ref09_Slot g f h).2.2) _
theorem k_ref09_Pack:Known A0 num Tryz.prog []:=known_nil
theorem s_ref09_Pack:S 61 F12.c_ref09_Pack:=func_sound k_ref09_Pack Tryz.func61 chk_ref09_Pack
theorem m_ref09_Pack:Mono (F12.c_ref09_Pack (X:=Ob)):=amFunc_mono (fun g f h=>(k_ref09_Pack g f h).2.2) _
theorem k_ref06_CAS:Known A0 num Tryz.prog [(72,F12.c_ref06_there),(73,F12.c_ref06_with)]:=known_cons ok_ref06_there s_ref06_there m_ref06_there (known_cons ok_ref06_with s_ref06_with m_ref06_with (known_nil))
theorem s_ref06_CAS:S 60 F12.c_ref06_CAS:=func_sound k_ref06_CAS Tryz.func60 chk_ref06_CAS
theorem m_ref06_CAS:Mono (F12.c_ref06_CAS (X:=Ob)):=amFunc_mono (fun g f h=>(k_ref06_CAS g f h).2.2) _
theorem k_ref09_NewLay:Known A0 num Tryz.prog [(169,F12.c_ref09_There)]:=known_cons ok_ref09_There s_ref09_There m_ref09_There (known_nil)
theorem s_ref09_NewLay:S 62 F12.c_ref09_NewLay:=func_sound k_ref09_NewLay Tryz.func62 chk_ref09_NewLay
theorem m_ref09_NewLay:Mono (F12.c_ref09_NewLay (X:=Ob)):=amFunc_mono (fun g f h=>(k_ref09_NewLay g f h).2.2) _
theorem k_ref11_Hands:Known A0 num Tryz.prog []:=known_nil
theorem s_ref11_Hands:S 50 F12.c_ref11_Hands:=func_sound k_ref11_Hands Tryz.func50 chk_ref11_Hands
theorem m_ref11_Hands:Mono (F12.c_ref11_Hands (X:=Ob)):=amFunc_mono (fun g f h=>(k_ref11_Hands g f h).2.2) _
theorem s_worksG:S 9 (pureF F11.worksG):=lift_sound F11.works_lift s_law11_works
theorem e_new:S 36 F06.newF:=fold_sound F06.new_fold s_cell_New
theorem f_new:Mono F06.newF:=F06.new_fold.mono
def GA:List (Nat × AFun Ob):=[(56,F06.c_cell_Mem_there),(71,F06.c_cell_counts_note),(49,F06.c_cell_Mem_Store_1),(51,F06.c_cell_Mem_CAS_1),(52,F06.c_cell_Mem_Load_1),(213,F12.c_put_NewLay_1)]
theorem e_Mem_Len:S 51 (memF fun s rest=>(F06.lenAsk s rest).map fun v=>(v,s)):=fold_sound F06.len_fold (unf_sound plM_ok s_cell_Mem_Len)
theorem f_Mem_Len:Mono (memF fun s rest=>(F06.lenAsk s rest).map fun v=>(v,s)):=F06.len_fold.mono
theorem e_Mem_Ops:S 19 (memF fun s rest=>(F06.opsAsk s rest).map fun v=>(v,s)):=fold_sound F06.ops_fold (unf_sound plM_ok s_cell_Mem_Ops)
theorem f_Mem_Ops:Mono (memF fun s rest=>(F06.opsAsk s rest).map fun v=>(v,s)):=F06.ops_fold.mono
theorem o_Mem_Load:Fold concM (unf 0 plM (amFunc [(50,amFunc GA F06.cell_Mem_access),(52,F06.c_cell_Mem_Load_1)] F06.cell_Mem_Load)) (memF F06.loadS):=F06.load_foldG (G:=GA) rfl rfl rfl
theorem e_Mem_Load:S 78 (memF F06.loadS):=fold_sound o_Mem_Load (unf_sound plM_ok s_cell_Mem_Load)
theorem f_Mem_Load:Mono (memF F06.loadS):=o_Mem_Load.mono
theorem o_Mem_Store:Fold concM (unf 0 plM (amFunc [(50,amFunc GA F06.cell_Mem_access),(49,F06.c_cell_Mem_Store_1)] F06.cell_Mem_Store)) (memF F06.storeS):=F06.store_foldG (G:=GA) rfl rfl rfl
theorem e_Mem_Store:S 22 (memF F06.storeS):=fold_sound o_Mem_Store (unf_sound plM_ok s_cell_Mem_Store)
theorem f_Mem_Store:Mono (memF F06.storeS):=o_Mem_Store.mono
theorem o_Mem_CAS:Fold concM (unf 0 plM (amFunc [(50,amFunc GA F06.cell_Mem_access),(51,F06.c_cell_Mem_CAS_1)] F06.cell_Mem_CAS)) (memF F06.casS):=F06.cas_foldG (G:=GA) rfl rfl rfl
theorem e_Mem_CAS:S 84 (memF F06.casS):=fold_sound o_Mem_CAS (unf_sound plM_ok s_cell_Mem_CAS)
theorem f_Mem_CAS:Mono (memF F06.casS):=o_Mem_CAS.mono
theorem e_Mem_All:S 53 (F06.memNF F06.allS):=fold_sound F06.all_fold (unf_sound plM_ok s_cell_Mem_All)
theorem f_Mem_All:Mono (F06.memNF F06.allS):=F06.all_fold.mono
theorem k_mem:Known A0 num Tryz.prog F10.Gmem:=known_cons ok_cell_New e_new f_new (known_cons ok_ref06_New s_ref06_New m_ref06_New (known_cons ok_cell_Mem_Store e_Mem_Store f_Mem_Store (known_cons ok_ref06_Store s_ref06_Store m_ref06_Store (known_nil))))
theorem e_mem:S 12 (amFunc F10.Gmem F10.docs_Mem):=func_sound k_mem Tryz.func12 chk_docs_Mem
theorem k_rl:Known A0 num Tryz.prog F09.Grl:=known_cons ok_conf_Config_Word s_conf_Config_Word m_conf_Config_Word (known_cons ok_cell_Mem_Load e_Mem_Load f_Mem_Load (known_cons ok_word_Len s_word_Len m_word_Len (known_nil)))
theorem e_rl:S 108 (amFunc F09.Grl F09.put_ring_load):=func_sound k_rl Tryz.func108 chk_put_ring_load
theorem k_ch:Known A0 num Tryz.prog F09.Gch:=known_cons ok_conf_Config_Word s_conf_Config_Word m_conf_Config_Word (known_cons ok_cell_Mem_CAS e_Mem_CAS f_Mem_CAS (known_nil))
theorem e_ch:S 90 (amFunc F09.Gch F09.put_ring_change):=func_sound k_ch Tryz.func90 chk_put_ring_change
theorem k_lk:Known A0 num Tryz.prog F09.Glk:=known_am ok_put_ring_load k_rl e_rl (known_nil)
theorem e_lk:S 88 (amFunc F09.Glk F09.put_Lay_look):=func_sound k_lk Tryz.func88 chk_put_Lay_look
theorem k_lst:Known A0 num Tryz.prog F09.Glst:=known_cons ok_put_Lay_Done s_put_Lay_Done m_put_Lay_Done (known_am ok_put_Lay_look k_lk e_lk (known_cons ok_put_ring_slot s_put_ring_slot m_put_ring_slot (known_cons ok_cell_Mem_Store e_Mem_Store f_Mem_Store (known_cons ok_word_Grow s_word_Grow m_word_Grow (known_am ok_put_ring_change k_ch e_ch (known_nil))))))
theorem e_lst:S 67 (amFunc F09.Glst F09.put_Lay_Step):=func_sound k_lst Tryz.func67 chk_put_Lay_Step
theorem k_if_:Known A0 num Tryz.prog F09.Gif:=known_cons ok_put_NewLay_1 s_put_NewLay_1 m_put_NewLay_1 (known_nil)
theorem e_if_:S 111 (amFunc F09.Gif F09.slices_IndexFunc_int):=func_sound k_if_ Tryz.func111 chk_slices_IndexFunc_int
theorem k_df:Known A0 num Tryz.prog F09.Gdf:=known_am ok_slices_IndexFunc_int k_if_ e_if_ (known_cons ok_put_NewLay_1 s_put_NewLay_1 m_put_NewLay_1 (known_nil))
theorem e_df:S 106 (amFunc F09.Gdf F09.slices_DeleteFunc_int):=func_sound k_df Tryz.func106 chk_slices_DeleteFunc_int
theorem k_nl:Known A0 num Tryz.prog F09.Gnl:=known_cons ok_put_from s_put_from m_put_from (known_cons ok_slices_Clone_int s_slices_Clone_int m_slices_Clone_int (known_am ok_slices_DeleteFunc_int k_df e_df (known_nil)))
theorem e_nl:S 86 (amFunc F09.Gnl F09.put_NewLay):=func_sound k_nl Tryz.func86 chk_put_NewLay
theorem k_lh:Known A0 num Tryz.prog F09.Gpo:=known_cons ok_slices_Clone_int s_slices_Clone_int m_slices_Clone_int (known_nil)
theorem e_lh:S 95 (amFunc F09.Gpo F09.put_Lay_Hands):=func_sound k_lh Tryz.func95 chk_put_Lay_Hands
theorem k_sl:Known A0 num Tryz.prog F11.Gsl:=known_cons ok_conf_Config_Word s_conf_Config_Word m_conf_Config_Word (known_cons ok_cell_Mem_Load e_Mem_Load f_Mem_Load (known_cons ok_word_Len s_word_Len m_word_Len (known_nil)))
theorem e_sl:S 64 (amFunc F11.Gsl F11.steal_Steal_look):=func_sound k_sl Tryz.func64 chk_steal_Steal_look
theorem k_sc:Known A0 num Tryz.prog F11.Gsc:=known_cons ok_word_Head s_word_Head m_word_Head (known_cons ok_conf_Config_Slot s_conf_Config_Slot m_conf_Config_Slot (known_cons ok_cell_Mem_Load e_Mem_Load f_Mem_Load (known_cons ok_steal_Steal_half s_steal_Steal_half m_steal_Steal_half (known_nil))))
theorem e_sc:S 65 (amFunc F11.Gsc F11.steal_Steal_copy):=func_sound k_sc Tryz.func65 chk_steal_Steal_copy
theorem k_sg:Known A0 num Tryz.prog F11.Gsg:=known_cons ok_conf_Config_Word s_conf_Config_Word m_conf_Config_Word (known_cons ok_steal_Steal_half s_steal_Steal_half m_steal_Steal_half (known_cons ok_word_Gain s_word_Gain m_word_Gain (known_cons ok_cell_Mem_CAS e_Mem_CAS f_Mem_CAS (known_am ok_put_NewLay k_nl e_nl (known_nil)))))
theorem e_sg:S 66 (amFunc F11.Gsg F11.steal_Steal_gain):=func_sound k_sg Tryz.func66 chk_steal_Steal_gain
theorem k_st:Known A0 num Tryz.prog F11.Gst:=known_cons ok_steal_Steal_Done s_steal_Steal_Done m_steal_Steal_Done (known_am ok_steal_Steal_look k_sl e_sl (known_am ok_steal_Steal_copy k_sc e_sc (known_am ok_steal_Steal_gain k_sg e_sg (known_am ok_put_Lay_Step k_lst e_lst (known_nil)))))
theorem e_st:S 21 (amFunc F11.Gst F11.steal_Steal_Step):=func_sound k_st Tryz.func21 chk_steal_Steal_Step
theorem k_rs:Known A0 num Tryz.prog F11.Grs:=known_am ok_put_Lay_Hands k_lh e_lh (known_nil)
theorem e_rs:S 74 (amFunc F11.Grs F11.steal_rest_Rest):=func_sound k_rs Tryz.func74 chk_steal_rest_Rest
theorem k_cc:Known A0 num Tryz.prog F11.Gcc:=known_cons ok_slices_Grow_int s_slices_Grow_int m_slices_Grow_int (known_nil)
theorem e_cc:S 73 (amFunc F11.Gcc F11.slices_Concat_int):=func_sound k_cc Tryz.func73 chk_slices_Concat_int
theorem k_sh:Known A0 num Tryz.prog F11.Gsh:=known_cons ok_steal_Steal_Many s_steal_Steal_Many m_steal_Steal_Many (known_am ok_steal_rest_Rest k_rs e_rs (known_am ok_slices_Concat_int k_cc e_cc (known_nil)))
theorem e_sh:S 28 (amFunc F11.Gsh F11.steal_Steal_Hands):=func_sound k_sh Tryz.func28 chk_steal_Steal_Hands
theorem k_lf:Known A0 num Tryz.prog F11.Glf:=known_cons ok_steal_Steal_Done s_steal_Steal_Done m_steal_Steal_Done (known_cons ok_steal_Steal_Many s_steal_Steal_Many m_steal_Steal_Many (known_am ok_steal_rest_Rest k_rs e_rs (known_nil)))
theorem e_lf:S 34 (amFunc F11.Glf F11.steal_Steal_Left):=func_sound k_lf Tryz.func34 chk_steal_Steal_Left
theorem k_is:Known A0 num Tryz.prog F11.Gis11:=known_am ok_steal_Steal_Hands k_sh e_sh (known_am ok_steal_Steal_Left k_lf e_lf (known_cons ok_steal_Steal_Got s_steal_Steal_Got m_steal_Steal_Got (known_cons ok_ref11_Hands s_ref11_Hands m_ref11_Hands (known_cons ok_kit_SameInts s_kit_SameInts m_kit_SameInts (known_cons ok_steal_Steal_Many s_steal_Steal_Many m_steal_Steal_Many (known_cons ok_steal_Steal_Done s_steal_Steal_Done m_steal_Steal_Done (known_nil)))))))
theorem e_is:S 17 (amFunc F11.Gis11 F11.law11_is):=func_sound k_is Tryz.func17 chk_law11_is
theorem k_smem:Known A0 num Tryz.prog F10.Gsmem:=known_cons ok_cell_Mem_Len e_Mem_Len f_Mem_Len (known_cons ok_cell_Mem_Ops e_Mem_Ops f_Mem_Ops (known_cons ok_cell_Mem_All e_Mem_All f_Mem_All (known_cons ok_docs_SameCells s_docs_SameCells m_docs_SameCells (known_nil))))
theorem e_smem:S 18 (amFunc F10.Gsmem F10.docs_SameMem):=func_sound k_smem Tryz.func18 chk_docs_SameMem
theorem k_rls:Known A0 num Tryz.prog F09.Grl2:=known_cons ok_ref09_Head s_ref09_Head m_ref09_Head (known_cons ok_ref09_Tail s_ref09_Tail m_ref09_Tail (known_cons ok_ref09_Word s_ref09_Word m_ref09_Word (known_cons ok_ref06_Load s_ref06_Load m_ref06_Load (known_cons ok_ref09_Size s_ref09_Size m_ref09_Size (known_cons ok_ref09_Slot s_ref09_Slot m_ref09_Slot (known_cons ok_ref06_Store s_ref06_Store m_ref06_Store (known_cons ok_ref09_Pack s_ref09_Pack m_ref09_Pack (known_cons ok_ref06_CAS s_ref06_CAS m_ref06_CAS (known_nil)))))))))
theorem e_rls:S 63 (amFunc F09.Grl2 F09.ref09_StepLay):=func_sound k_rls Tryz.func63 chk_ref09_StepLay
theorem k_rst:Known A0 num Tryz.prog F11.Grs11:=known_cons ok_ref09_Size s_ref09_Size m_ref09_Size (known_cons ok_ref09_Head s_ref09_Head m_ref09_Head (known_cons ok_ref09_Tail s_ref09_Tail m_ref09_Tail (known_cons ok_ref09_Word s_ref09_Word m_ref09_Word (known_cons ok_ref06_Load s_ref06_Load m_ref06_Load (known_cons ok_ref09_Slot s_ref09_Slot m_ref09_Slot (known_cons ok_ref09_Pack s_ref09_Pack m_ref09_Pack (known_cons ok_ref06_CAS s_ref06_CAS m_ref06_CAS (known_cons ok_ref09_NewLay s_ref09_NewLay m_ref09_NewLay (known_am ok_ref09_StepLay k_rls e_rls (known_nil))))))))))
theorem e_rst:S 20 (amFunc F11.Grs11 F11.ref11_Step):=func_sound k_rst Tryz.func20 chk_ref11_Step
theorem k_sp:Known A0 num Tryz.prog F11.Gsp:=known_cons ok_law11_works s_worksG F11.works_lift.mono (known_cons ok_docs_Filled s_docs_Filled m_docs_Filled (known_am ok_docs_Mem k_mem e_mem (known_cons ok_steal_New s_steal_New m_steal_New (known_cons ok_docs_Config s_docs_Config m_docs_Config (known_cons ok_ref11_New s_ref11_New m_ref11_New (known_am ok_law11_is k_is e_is (known_am ok_docs_SameMem k_smem e_smem (known_cons ok_cell_Mem_Ops e_Mem_Ops f_Mem_Ops (known_am ok_ref11_Step k_rst e_rst (known_am ok_steal_Steal_Step k_st e_st (known_cons ok_kit_Pick s_kit_Pick m_kit_Pick (known_cons ok_cell_Mem_Store e_Mem_Store f_Mem_Store (known_cons ok_ref06_Store s_ref06_Store m_ref06_Store (known_nil))))))))))))))
theorem e_sp:S 6 (amFunc F11.Gsp F11.law11_StealPlays):=func_sound k_sp Tryz.func6 chk_law11_StealPlays
theorem k_ring:Known A0 num Tryz.prog F10.Gring:=known_cons ok_cell_Mem_All e_Mem_All f_Mem_All (known_cons ok_conf_Config_Cells s_conf_Config_Cells m_conf_Config_Cells (known_cons ok_conf_Config_Word s_conf_Config_Word m_conf_Config_Word (known_cons ok_conf_Config_Slot s_conf_Config_Slot m_conf_Config_Slot (known_nil))))
theorem e_ring:S 24 (amFunc F10.Gring F10.docs_Ring):=func_sound k_ring Tryz.func24 chk_docs_Ring
theorem k_thief:Known A0 num Tryz.prog F10.Gthief:=known_am ok_docs_Ring k_ring e_ring (known_cons ok_conf_Config_Word s_conf_Config_Word m_conf_Config_Word (known_cons ok_cell_Mem_Load e_Mem_Load f_Mem_Load (known_cons ok_cell_Mem_Store e_Mem_Store f_Mem_Store (known_nil))))
theorem e_thief:S 31 (amFunc F10.Gthief F10.docs_Thief):=func_sound k_thief Tryz.func31 chk_docs_Thief
theorem k_plk:Known A0 num Tryz.prog F09.Gplk:=known_am ok_put_ring_load k_rl e_rl (known_nil)
theorem e_plk:S 96 (amFunc F09.Gplk F09.put_Put_look):=func_sound k_plk Tryz.func96 chk_put_Put_look
theorem k_ply:Known A0 num Tryz.prog F09.Gply:=known_cons ok_put_ring_slot s_put_ring_slot m_put_ring_slot (known_cons ok_cell_Mem_Store e_Mem_Store f_Mem_Store (known_nil))
theorem e_ply:S 97 (amFunc F09.Gply F09.put_Put_lay):=func_sound k_ply Tryz.func97 chk_put_Put_lay
theorem k_psw:Known A0 num Tryz.prog F09.Gpsw:=known_cons ok_word_Grow s_word_Grow m_word_Grow (known_am ok_put_ring_change k_ch e_ch (known_nil))
theorem e_psw:S 98 (amFunc F09.Gpsw F09.put_Put_swing):=func_sound k_psw Tryz.func98 chk_put_Put_swing
theorem k_ptk:Known A0 num Tryz.prog F09.Gptk:=known_cons ok_put_Put_half s_put_Put_half m_put_Put_half (known_cons ok_put_ring_slot s_put_ring_slot m_put_ring_slot (known_cons ok_cell_Mem_Load e_Mem_Load f_Mem_Load (known_nil)))
theorem e_ptk:S 99 (amFunc F09.Gptk F09.put_Put_take):=func_sound k_ptk Tryz.func99 chk_put_Put_take
theorem k_pct:Known A0 num Tryz.prog F09.Gpct:=known_cons ok_put_Put_half s_put_Put_half m_put_Put_half (known_cons ok_word_Drop s_word_Drop m_word_Drop (known_am ok_put_ring_change k_ch e_ch (known_nil)))
theorem e_pct:S 100 (amFunc F09.Gpct F09.put_Put_cut):=func_sound k_pct Tryz.func100 chk_put_Put_cut
theorem k_pst:Known A0 num Tryz.prog F09.Gpst:=known_cons ok_put_Put_Done s_put_Put_Done m_put_Put_Done (known_cons ok_put_ways s_put_ways m_put_ways (known_am ok_put_Put_look k_plk e_plk (known_am ok_put_Put_lay k_ply e_ply (known_am ok_put_Put_swing k_psw e_psw (known_am ok_put_Put_take k_ptk e_ptk (known_am ok_put_Put_cut k_pct e_pct (known_nil)))))))
theorem e_pst:S 29 (amFunc F09.Gpst F09.put_Put_Step):=func_sound k_pst Tryz.func29 chk_put_Put_Step
theorem k_po:Known A0 num Tryz.prog F09.Gpo:=known_cons ok_slices_Clone_int s_slices_Clone_int m_slices_Clone_int (known_nil)
theorem e_po:S 30 (amFunc F09.Gpo F09.put_Put_Over):=func_sound k_po Tryz.func30 chk_put_Put_Over
theorem k_sk:Known A0 num Tryz.prog F11.Gsk:=known_cons ok_law11_works s_worksG F11.works_lift.mono (known_cons ok_docs_Made s_docs_Made m_docs_Made (known_cons ok_docs_Filled s_docs_Filled m_docs_Filled (known_cons ok_conf_Config_Word s_conf_Config_Word m_conf_Config_Word (known_am ok_docs_Mem k_mem e_mem (known_am ok_docs_Ring k_ring e_ring (known_cons ok_steal_New s_steal_New m_steal_New (known_cons ok_put_New s_put_New m_put_New (known_cons ok_kit_Pick s_kit_Pick m_kit_Pick (known_am ok_steal_Steal_Step k_st e_st (known_cons ok_steal_Steal_Many s_steal_Steal_Many m_steal_Steal_Many (known_am ok_steal_Steal_Hands k_sh e_sh (known_cons ok_kit_SameInts s_kit_SameInts m_kit_SameInts (known_am ok_put_Put_Step k_pst e_pst (known_am ok_put_Put_Over k_po e_po (known_am ok_docs_Thief k_thief e_thief (known_cons ok_steal_Steal_Done s_steal_Steal_Done m_steal_Steal_Done (known_cons ok_steal_Steal_Got s_steal_Steal_Got m_steal_Steal_Got (known_am ok_steal_Steal_Left k_lf e_lf (known_cons ok_law11_same s_law11_same m_law11_same (known_nil))))))))))))))))))))
theorem e_sk:S 7 (amFunc F11.Gsk F11.law11_StealKeeps):=func_sound k_sk Tryz.func7 chk_law11_StealKeeps
theorem k_none:Known A0 num Tryz.prog F11.Gnone:=known_cons ok_cell_New s_cell_New m_cell_New (known_cons ok_steal_New s_steal_New m_steal_New (known_cons ok_steal_Steal_Got s_steal_Steal_Got m_steal_Steal_Got (known_cons ok_steal_Steal_Done s_steal_Steal_Done m_steal_Steal_Done (known_cons ok_steal_Steal_Step s_steal_Steal_Step m_steal_Steal_Step (known_cons ok_steal_Steal_Many s_steal_Steal_Many m_steal_Steal_Many (known_cons ok_steal_Steal_Left s_steal_Steal_Left m_steal_Steal_Left (known_cons ok_steal_Steal_Hands s_steal_Steal_Hands m_steal_Steal_Hands (known_cons ok_cell_Mem_Ops s_cell_Mem_Ops m_cell_Mem_Ops (known_cons ok_law11_works s_worksG F11.works_lift.mono (known_nil))))))))))
theorem e_none:S 8 (amFunc F11.Gnone F11.law11_StealNone):=func_sound k_none Tryz.func8 chk_law11_StealNone
theorem k_known:Known A0 num Tryz.prog F12.Gkw:=known_cons ok_docs_Made s_docs_Made m_docs_Made (known_cons ok_conf_Config_Word s_conf_Config_Word m_conf_Config_Word (known_am ok_law11_StealPlays k_sp e_sp (known_am ok_law11_StealKeeps k_sk e_sk (known_am ok_law11_StealNone k_none e_none (known_cons ok_law11_works s_worksG F11.works_lift.mono (known_nil))))))
theorem e_known:S 3 (amFunc F12.Gkw F12.law11_StealKnown):=func_sound k_known Tryz.func3 chk_law11_StealKnown
end Go.Proofs.YtmgahjccidmlaaaGreat
