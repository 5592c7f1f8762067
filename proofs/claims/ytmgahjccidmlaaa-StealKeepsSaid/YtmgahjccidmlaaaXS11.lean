import Derived.Test.YtmgahjccidmlaaaChecked
import Derived.Test.YtmgahjccidmlaaaXG10
import Derived.Test.YtmgahjccidmlaaaXG12
set_option linter.unusedSimpArgs false
set_option linter.unusedVariables false
namespace Go.Proofs.Ytmgahjccidmlaaa
open Go.Am
def num : Nat → Nat
  | 267 => 3
  | 265 => 4
  | 266 => 5
  | 21 => 6
  | 270 => 7
  | 278 => 8
  | 277 => 9
  | 274 => 10
  | 275 => 11
  | 279 => 12
  | 276 => 13
  | 46 => 14
  | 268 => 15
  | 135 => 16
  | 134 => 17
  | 271 => 18
  | 147 => 19
  | 272 => 20
  | 68 => 21
  | 273 => 22
  | 87 => 23
  | 22 => 24
  | 65 => 25
  | 133 => 26
  | 159 => 27
  | 136 => 28
  | 185 => 29
  | 84 => 30
  | 186 => 31
  | 187 => 32
  | 139 => 33
  | 280 => 34
  | 283 => 35
  | 284 => 36
  | 285 => 37
  | 195 => 38
  | 286 => 39
  | 287 => 40
  | 281 => 41
  | 63 => 42
  | 156 => 43
  | 157 => 44
  | 158 => 45
  | 160 => 46
  | 161 => 47
  | 162 => 48
  | 163 => 49
  | 164 => 50
  | 165 => 51
  | 169 => 52
  | 282 => 53
  | 34 => 54
  | 58 => 55
  | 47 => 56
  | 173 => 57
  | 170 => 58
  | 171 => 59
  | 64 => 60
  | 172 => 61
  | 174 => 62
  | 66 => 63
  | 175 => 64
  | 201 => 65
  | 202 => 66
  | 50 => 67
  | 49 => 68
  | 72 => 69
  | 73 => 70
  | 177 => 71
  | 206 => 72
  | 191 => 73
  | 207 => 74
  | 208 => 75
  | 24 => 76
  | 178 => 77
  | 179 => 78
  | 288 => 79
  | 23 => 80
  | 180 => 81
  | 199 => 82
  | 196 => 83
  | 209 => 84
  | 210 => 85
  | 212 => 86
  | 211 => 87
  | 197 => 88
  | 290 => 89
  | 176 => 90
  | 181 => 91
  | 61 => 92
  | 56 => 93
  | 71 => 94
  | 214 => 95
  | 215 => 96
  | 216 => 97
  | 217 => 98
  | 218 => 99
  | 52 => 100
  | 182 => 101
  | 289 => 102
  | 51 => 103
  | 183 => 104
  | 95 => 105
  | 213 => 106
  | 219 => 107
  | 220 => 108
  | 221 => 109
  | 97 => 110
  | _ => 0
theorem chk_law11_StealKeeps : chkFn Try.prog num [0, 1, 2, 3, 6, 7, 8, 10, 11, 12, 13, 14, 15, 16, 17, 18, 19, 20, 21, 29, 46, 91, 102, 114, 125, 154, 155, 159, 179, 205, 206] Try.f5 F11.law11_StealKeeps = true := by kernel_rfl
theorem chk_cell_New : chkFn Try.prog num [0, 2] Try.f6 F11.cell_New = true := by kernel_rfl
theorem ok_cell_New : callOk Try.prog 6 = true := by kernel_rfl
theorem chk_steal_New : chkFn Try.prog num [0, 1, 2, 3, 6, 7, 27] Try.f7 F11.steal_New = true := by kernel_rfl
theorem ok_steal_New : callOk Try.prog 7 = true := by kernel_rfl
theorem chk_steal_Steal_Got : chkFn Try.prog num [0, 2, 3, 11] Try.f8 F11.steal_Steal_Got = true := by kernel_rfl
theorem ok_steal_Steal_Got : callOk Try.prog 8 = true := by kernel_rfl
theorem chk_steal_Steal_Done : chkFn Try.prog num [0, 2] Try.f9 F11.steal_Steal_Done = true := by kernel_rfl
theorem ok_steal_Steal_Done : callOk Try.prog 9 = true := by kernel_rfl
theorem chk_steal_Steal_Step : chkFn Try.prog num [0, 1, 4, 6, 10, 11, 16, 21, 26, 34] Try.f10 F11.steal_Steal_Step = true := by kernel_rfl
theorem ok_steal_Steal_Step : callOk Try.prog 10 = true := by kernel_rfl
theorem chk_steal_Steal_Many : chkFn Try.prog num [0, 2, 4] Try.f11 F11.steal_Steal_Many = true := by kernel_rfl
theorem ok_steal_Steal_Many : callOk Try.prog 11 = true := by kernel_rfl
theorem chk_steal_Steal_Left : chkFn Try.prog num [0, 2, 10] Try.f12 F11.steal_Steal_Left = true := by kernel_rfl
theorem ok_steal_Steal_Left : callOk Try.prog 12 = true := by kernel_rfl
theorem chk_steal_Steal_Hands : chkFn Try.prog num [0, 2, 5] Try.f13 F11.steal_Steal_Hands = true := by kernel_rfl
theorem ok_steal_Steal_Hands : callOk Try.prog 13 = true := by kernel_rfl
theorem chk_law11_works : chkFn Try.prog num [0, 1, 2, 3, 4, 5, 6, 8, 9, 10, 11, 25, 63, 83] Try.f15 F11.law11_works = true := by kernel_rfl
theorem ok_law11_works : callOk Try.prog 15 = true := by kernel_rfl
theorem chk_docs_Mem : chkFn Try.prog num [0, 2, 3, 4, 5, 6, 23] Try.f16 F11.docs_Mem = true := by kernel_rfl
theorem ok_docs_Mem : callOk Try.prog 16 = true := by kernel_rfl
theorem chk_docs_Filled : chkFn Try.prog num [0, 1, 2, 4, 5, 6, 7, 8, 9, 20, 34, 63, 86] Try.f17 F11.docs_Filled = true := by kernel_rfl
theorem ok_docs_Filled : callOk Try.prog 17 = true := by kernel_rfl
theorem chk_kit_Pick : chkFn Try.prog num [0, 1, 4, 6] Try.f23 F11.kit_Pick = true := by kernel_rfl
theorem ok_kit_Pick : callOk Try.prog 23 = true := by kernel_rfl
theorem chk_cell_Mem_Store : chkFn Try.prog num [0, 1, 2, 5] Try.f24 F11.cell_Mem_Store = true := by kernel_rfl
theorem ok_cell_Mem_Store : callOk Try.prog 24 = true := by kernel_rfl
theorem chk_ref06_Store : chkFn Try.prog num [0, 1, 2, 3, 6, 10] Try.f25 F11.ref06_Store = true := by kernel_rfl
theorem ok_ref06_Store : callOk Try.prog 25 = true := by kernel_rfl
theorem chk_docs_Made : chkFn Try.prog num [0, 1, 2, 3] Try.f26 F11.docs_Made = true := by kernel_rfl
theorem ok_docs_Made : callOk Try.prog 26 = true := by kernel_rfl
theorem chk_conf_Config_Word : chkFn Try.prog num [0, 1, 2, 4] Try.f27 F11.conf_Config_Word = true := by kernel_rfl
theorem ok_conf_Config_Word : callOk Try.prog 27 = true := by kernel_rfl
theorem chk_docs_Ring : chkFn Try.prog num [0, 1, 2, 3, 6, 7, 8, 9, 10, 11, 12, 13, 34, 59, 75] Try.f28 F11.docs_Ring = true := by kernel_rfl
theorem ok_docs_Ring : callOk Try.prog 28 = true := by kernel_rfl
theorem chk_put_New : chkFn Try.prog num [0, 1, 2, 3, 6, 7, 15, 25] Try.f29 F11.put_New = true := by kernel_rfl
theorem ok_put_New : callOk Try.prog 29 = true := by kernel_rfl
theorem chk_kit_SameInts : chkFn Try.prog num [0, 1, 4, 5, 10, 14, 25] Try.f30 F11.kit_SameInts = true := by kernel_rfl
theorem ok_kit_SameInts : callOk Try.prog 30 = true := by kernel_rfl
theorem chk_put_Put_Step : chkFn Try.prog num [0, 1, 4, 7] Try.f31 F11.put_Put_Step = true := by kernel_rfl
theorem ok_put_Put_Step : callOk Try.prog 31 = true := by kernel_rfl
theorem chk_put_Put_Over : chkFn Try.prog num [0, 2, 12] Try.f32 F11.put_Put_Over = true := by kernel_rfl
theorem ok_put_Put_Over : callOk Try.prog 32 = true := by kernel_rfl
theorem chk_docs_Thief : chkFn Try.prog num [0, 1, 2, 3, 4, 8, 9, 10, 11, 12, 26] Try.f33 F11.docs_Thief = true := by kernel_rfl
theorem ok_docs_Thief : callOk Try.prog 33 = true := by kernel_rfl
theorem chk_law11_same : chkFn Try.prog num [0, 1, 4, 5, 6, 7, 8, 13, 17, 23, 34, 45, 50] Try.f34 F11.law11_same = true := by kernel_rfl
theorem ok_law11_same : callOk Try.prog 34 = true := by kernel_rfl
theorem chk_steal_Steal_look : chkFn Try.prog num [0, 1, 4, 47] Try.f35 F11.steal_Steal_look = true := by kernel_rfl
theorem ok_steal_Steal_look : callOk Try.prog 35 = true := by kernel_rfl
theorem chk_steal_Steal_copy : chkFn Try.prog num [0, 1, 44] Try.f36 F11.steal_Steal_copy = true := by kernel_rfl
theorem ok_steal_Steal_copy : callOk Try.prog 36 = true := by kernel_rfl
theorem chk_steal_Steal_gain : chkFn Try.prog num [0, 1, 27, 77] Try.f37 F11.steal_Steal_gain = true := by kernel_rfl
theorem ok_steal_Steal_gain : callOk Try.prog 37 = true := by kernel_rfl
theorem chk_put_Lay_Step : chkFn Try.prog num [0, 1, 4, 5, 8, 19, 29, 78, 83] Try.f38 F11.put_Lay_Step = true := by kernel_rfl
theorem ok_put_Lay_Step : callOk Try.prog 38 = true := by kernel_rfl
theorem chk_steal_rest_Rest : chkFn Try.prog num [0, 1, 2] Try.f39 F11.steal_rest_Rest = true := by kernel_rfl
theorem ok_steal_rest_Rest : callOk Try.prog 39 = true := by kernel_rfl
theorem chk_slices_Concat_int : chkFn Try.prog num [0, 2, 3, 5, 6, 8, 9, 10, 11, 12, 20, 25, 26, 27, 28] Try.f40 F11.slices_Concat_int = true := by kernel_rfl
theorem ok_slices_Concat_int : callOk Try.prog 40 = true := by kernel_rfl
theorem chk_law11_rings : chkFn Try.prog num [0, 1, 2, 3, 4, 10] Try.f41 F11.law11_rings = true := by kernel_rfl
theorem ok_law11_rings : callOk Try.prog 41 = true := by kernel_rfl
theorem chk_ref06_New : chkFn Try.prog num [0, 2] Try.f42 F11.ref06_New = true := by kernel_rfl
theorem ok_ref06_New : callOk Try.prog 42 = true := by kernel_rfl
theorem chk_conf_Config_Cells : chkFn Try.prog num [0, 1, 2, 5] Try.f43 F11.conf_Config_Cells = true := by kernel_rfl
theorem ok_conf_Config_Cells : callOk Try.prog 43 = true := by kernel_rfl
theorem chk_conf_Config_Right : chkFn Try.prog num [0, 1, 2] Try.f44 F11.conf_Config_Right = true := by kernel_rfl
theorem ok_conf_Config_Right : callOk Try.prog 44 = true := by kernel_rfl
theorem chk_docs_byteAt : chkFn Try.prog num [0, 1, 4, 8] Try.f45 F11.docs_byteAt = true := by kernel_rfl
theorem ok_docs_byteAt : callOk Try.prog 45 = true := by kernel_rfl
theorem chk_conf_Config_Slot : chkFn Try.prog num [0, 1, 2, 3, 6, 9] Try.f46 F11.conf_Config_Slot = true := by kernel_rfl
theorem ok_conf_Config_Slot : callOk Try.prog 46 = true := by kernel_rfl
theorem chk_conf_Config_Next : chkFn Try.prog num [0, 1, 2, 4] Try.f47 F11.conf_Config_Next = true := by kernel_rfl
theorem ok_conf_Config_Next : callOk Try.prog 47 = true := by kernel_rfl
theorem chk_conf_Config_Stat : chkFn Try.prog num [0, 1, 2, 4] Try.f48 F11.conf_Config_Stat = true := by kernel_rfl
theorem ok_conf_Config_Stat : callOk Try.prog 48 = true := by kernel_rfl
theorem chk_conf_Config_Tick : chkFn Try.prog num [0, 1, 2, 4] Try.f49 F11.conf_Config_Tick = true := by kernel_rfl
theorem ok_conf_Config_Tick : callOk Try.prog 49 = true := by kernel_rfl
theorem chk_conf_Config_Sys : chkFn Try.prog num [0, 1, 2, 4] Try.f50 F11.conf_Config_Sys = true := by kernel_rfl
theorem ok_conf_Config_Sys : callOk Try.prog 50 = true := by kernel_rfl
theorem chk_conf_Config_Flag : chkFn Try.prog num [0, 1, 2, 4] Try.f51 F11.conf_Config_Flag = true := by kernel_rfl
theorem ok_conf_Config_Flag : callOk Try.prog 51 = true := by kernel_rfl
theorem chk_cell_Mem_All : chkFn Try.prog num [0, 2, 4] Try.f56 F11.cell_Mem_All = true := by kernel_rfl
theorem ok_cell_Mem_All : callOk Try.prog 56 = true := by kernel_rfl
theorem chk_cell_Mem_access : chkFn Try.prog num [0, 1, 2, 3, 8, 9, 10, 14] Try.f67 F11.cell_Mem_access = true := by kernel_rfl
theorem ok_cell_Mem_access : callOk Try.prog 67 = true := by kernel_rfl
theorem chk_cell_Mem_Store_1 : chkFn Try.prog num [0, 1, 3, 4] Try.f68 F11.cell_Mem_Store_1 = true := by kernel_rfl
theorem ok_cell_Mem_Store_1 : callOk Try.prog 68 = true := by kernel_rfl
theorem chk_ref06_there : chkFn Try.prog num [0, 1, 2, 4] Try.f69 F11.ref06_there = true := by kernel_rfl
theorem ok_ref06_there : callOk Try.prog 69 = true := by kernel_rfl
theorem chk_ref06_with : chkFn Try.prog num [0, 1, 2, 3, 6, 7] Try.f70 F11.ref06_with = true := by kernel_rfl
theorem ok_ref06_with : callOk Try.prog 70 = true := by kernel_rfl
theorem chk_conf_own_at : chkFn Try.prog num [0, 1, 2, 4, 18] Try.f71 F11.conf_own_at = true := by kernel_rfl
theorem ok_conf_own_at : callOk Try.prog 71 = true := by kernel_rfl
theorem chk_put_from : chkFn Try.prog num [0, 1, 2, 4, 5, 12] Try.f72 F11.put_from = true := by kernel_rfl
theorem ok_put_from : callOk Try.prog 72 = true := by kernel_rfl
theorem chk_put_Put_Done : chkFn Try.prog num [0, 2] Try.f73 F11.put_Put_Done = true := by kernel_rfl
theorem ok_put_Put_Done : callOk Try.prog 73 = true := by kernel_rfl
theorem chk_put_ways : chkFn Try.prog num [0] Try.f74 F11.put_ways = true := by kernel_rfl
theorem ok_put_ways : callOk Try.prog 74 = true := by kernel_rfl
theorem chk_slices_Clone_int : chkFn Try.prog num [0, 2, 4] Try.f75 F11.slices_Clone_int = true := by kernel_rfl
theorem ok_slices_Clone_int : callOk Try.prog 75 = true := by kernel_rfl
theorem chk_cell_Mem_Load : chkFn Try.prog num [0, 1, 4, 5] Try.f76 F11.cell_Mem_Load = true := by kernel_rfl
theorem ok_cell_Mem_Load : callOk Try.prog 76 = true := by kernel_rfl
theorem chk_word_Len : chkFn Try.prog num [0, 2] Try.f77 F11.word_Len = true := by kernel_rfl
theorem ok_word_Len : callOk Try.prog 77 = true := by kernel_rfl
theorem chk_word_Head : chkFn Try.prog num [0, 2] Try.f78 F11.word_Head = true := by kernel_rfl
theorem ok_word_Head : callOk Try.prog 78 = true := by kernel_rfl
theorem chk_steal_Steal_half : chkFn Try.prog num [0, 2] Try.f79 F11.steal_Steal_half = true := by kernel_rfl
theorem ok_steal_Steal_half : callOk Try.prog 79 = true := by kernel_rfl
theorem chk_cell_Mem_CAS : chkFn Try.prog num [0, 1, 2, 3, 6, 7, 8, 10] Try.f80 F11.cell_Mem_CAS = true := by kernel_rfl
theorem ok_cell_Mem_CAS : callOk Try.prog 80 = true := by kernel_rfl
theorem chk_word_Gain : chkFn Try.prog num [0, 1, 4] Try.f81 F11.word_Gain = true := by kernel_rfl
theorem ok_word_Gain : callOk Try.prog 81 = true := by kernel_rfl
theorem chk_put_NewLay : chkFn Try.prog num [0, 1, 2, 3, 6, 7, 18] Try.f82 F11.put_NewLay = true := by kernel_rfl
theorem ok_put_NewLay : callOk Try.prog 82 = true := by kernel_rfl
theorem chk_put_Lay_Done : chkFn Try.prog num [0, 2] Try.f83 F11.put_Lay_Done = true := by kernel_rfl
theorem ok_put_Lay_Done : callOk Try.prog 83 = true := by kernel_rfl
theorem chk_put_Lay_look : chkFn Try.prog num [0, 1, 4, 45] Try.f84 F11.put_Lay_look = true := by kernel_rfl
theorem ok_put_Lay_look : callOk Try.prog 84 = true := by kernel_rfl
theorem chk_put_ring_slot : chkFn Try.prog num [0, 1, 4] Try.f85 F11.put_ring_slot = true := by kernel_rfl
theorem ok_put_ring_slot : callOk Try.prog 85 = true := by kernel_rfl
theorem chk_put_ring_change : chkFn Try.prog num [0, 1, 2, 6, 7, 27] Try.f86 F11.put_ring_change = true := by kernel_rfl
theorem ok_put_ring_change : callOk Try.prog 86 = true := by kernel_rfl
theorem chk_word_Grow : chkFn Try.prog num [0, 1, 4] Try.f87 F11.word_Grow = true := by kernel_rfl
theorem ok_word_Grow : callOk Try.prog 87 = true := by kernel_rfl
theorem chk_put_Lay_Hands : chkFn Try.prog num [0, 2, 4] Try.f88 F11.put_Lay_Hands = true := by kernel_rfl
theorem ok_put_Lay_Hands : callOk Try.prog 88 = true := by kernel_rfl
theorem chk_slices_Grow_int : chkFn Try.prog num [0, 1, 4, 6, 16] Try.f89 F11.slices_Grow_int = true := by kernel_rfl
theorem ok_slices_Grow_int : callOk Try.prog 89 = true := by kernel_rfl
theorem chk_conf_within : chkFn Try.prog num [0, 1, 2, 6] Try.f90 F11.conf_within = true := by kernel_rfl
theorem ok_conf_within : callOk Try.prog 90 = true := by kernel_rfl
theorem chk_slices_Clone_uint64 : chkFn Try.prog num [0, 2, 4] Try.f92 F11.slices_Clone_uint64 = true := by kernel_rfl
theorem ok_slices_Clone_uint64 : callOk Try.prog 92 = true := by kernel_rfl
theorem chk_cell_Mem_there : chkFn Try.prog num [0, 1, 4] Try.f93 F11.cell_Mem_there = true := by kernel_rfl
theorem ok_cell_Mem_there : callOk Try.prog 93 = true := by kernel_rfl
theorem chk_cell_counts_note : chkFn Try.prog num [0, 1, 2, 4, 22, 35, 48, 64, 92] Try.f94 F11.cell_counts_note = true := by kernel_rfl
theorem ok_cell_counts_note : callOk Try.prog 94 = true := by kernel_rfl
theorem chk_put_Put_look : chkFn Try.prog num [0, 1, 23] Try.f95 F11.put_Put_look = true := by kernel_rfl
theorem ok_put_Put_look : callOk Try.prog 95 = true := by kernel_rfl
theorem chk_put_Put_lay : chkFn Try.prog num [0, 1] Try.f96 F11.put_Put_lay = true := by kernel_rfl
theorem ok_put_Put_lay : callOk Try.prog 96 = true := by kernel_rfl
theorem chk_put_Put_swing : chkFn Try.prog num [0, 1, 14] Try.f97 F11.put_Put_swing = true := by kernel_rfl
theorem ok_put_Put_swing : callOk Try.prog 97 = true := by kernel_rfl
theorem chk_put_Put_take : chkFn Try.prog num [0, 1, 37] Try.f98 F11.put_Put_take = true := by kernel_rfl
theorem ok_put_Put_take : callOk Try.prog 98 = true := by kernel_rfl
theorem chk_put_Put_cut : chkFn Try.prog num [0, 1, 16] Try.f99 F11.put_Put_cut = true := by kernel_rfl
theorem ok_put_Put_cut : callOk Try.prog 99 = true := by kernel_rfl
theorem chk_cell_Mem_Load_1 : chkFn Try.prog num [0, 2, 3] Try.f100 F11.cell_Mem_Load_1 = true := by kernel_rfl
theorem ok_cell_Mem_Load_1 : callOk Try.prog 100 = true := by kernel_rfl
theorem chk_word_Tail : chkFn Try.prog num [0, 2] Try.f101 F11.word_Tail = true := by kernel_rfl
theorem ok_word_Tail : callOk Try.prog 101 = true := by kernel_rfl
theorem chk_word_Older : chkFn Try.prog num [0, 2] Try.f102 F11.word_Older = true := by kernel_rfl
theorem ok_word_Older : callOk Try.prog 102 = true := by kernel_rfl
theorem chk_cell_Mem_CAS_1 : chkFn Try.prog num [0, 1, 2, 4, 5, 8] Try.f103 F11.cell_Mem_CAS_1 = true := by kernel_rfl
theorem ok_cell_Mem_CAS_1 : callOk Try.prog 103 = true := by kernel_rfl
theorem chk_word_Pack : chkFn Try.prog num [0, 1, 4] Try.f104 F11.word_Pack = true := by kernel_rfl
theorem ok_word_Pack : callOk Try.prog 104 = true := by kernel_rfl
theorem chk_slices_DeleteFunc_int : chkFn Try.prog num [0, 1, 4, 5, 6, 7, 12, 19, 29] Try.f105 F11.slices_DeleteFunc_int = true := by kernel_rfl
theorem ok_slices_DeleteFunc_int : callOk Try.prog 105 = true := by kernel_rfl
theorem chk_put_NewLay_1 : chkFn Try.prog num [0, 2] Try.f106 F11.put_NewLay_1 = true := by kernel_rfl
theorem ok_put_NewLay_1 : callOk Try.prog 106 = true := by kernel_rfl
theorem chk_put_ring_load : chkFn Try.prog num [0, 1, 4] Try.f107 F11.put_ring_load = true := by kernel_rfl
theorem ok_put_ring_load : callOk Try.prog 107 = true := by kernel_rfl
theorem chk_put_Put_half : chkFn Try.prog num [0, 2] Try.f108 F11.put_Put_half = true := by kernel_rfl
theorem ok_put_Put_half : callOk Try.prog 108 = true := by kernel_rfl
theorem chk_word_Drop : chkFn Try.prog num [0, 1, 4] Try.f109 F11.word_Drop = true := by kernel_rfl
theorem ok_word_Drop : callOk Try.prog 109 = true := by kernel_rfl
theorem chk_slices_IndexFunc_int : chkFn Try.prog num [0, 1, 4, 5, 7, 8, 9, 16] Try.f110 F11.slices_IndexFunc_int = true := by kernel_rfl
theorem ok_slices_IndexFunc_int : callOk Try.prog 110 = true := by kernel_rfl
end Go.Proofs.Ytmgahjccidmlaaa
