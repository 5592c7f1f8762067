import Derived.Test.YtgfddegdjdeeoaaChecked
import Derived.Test.YtgfddegdjdeeoaaXG09
import Derived.Test.YtgfddegdjdeeoaaXG10
set_option linter.unusedSimpArgs false
set_option linter.unusedVariables false
namespace Go.Proofs.Ytgfddegdjdeeoaa
open Go.Am
def num : Nat → Nat
  | 188 => 3
  | 194 => 4
  | 198 => 5
  | 200 => 6
  | 203 => 7
  | 204 => 8
  | 184 => 9
  | 133 => 10
  | 87 => 11
  | 135 => 12
  | 134 => 13
  | 136 => 14
  | 185 => 15
  | 186 => 16
  | 139 => 17
  | 187 => 18
  | 84 => 19
  | 189 => 20
  | 147 => 21
  | 190 => 22
  | 191 => 23
  | 68 => 24
  | 46 => 25
  | 192 => 26
  | 193 => 27
  | 21 => 28
  | 195 => 29
  | 196 => 30
  | 197 => 31
  | 156 => 32
  | 22 => 33
  | 159 => 34
  | 199 => 35
  | 201 => 36
  | 202 => 37
  | 205 => 38
  | 63 => 39
  | 65 => 40
  | 157 => 41
  | 158 => 42
  | 160 => 43
  | 161 => 44
  | 162 => 45
  | 163 => 46
  | 164 => 47
  | 165 => 48
  | 47 => 49
  | 206 => 50
  | 207 => 51
  | 24 => 52
  | 208 => 53
  | 169 => 54
  | 34 => 55
  | 58 => 56
  | 171 => 57
  | 64 => 58
  | 172 => 59
  | 173 => 60
  | 174 => 61
  | 66 => 62
  | 175 => 63
  | 170 => 64
  | 209 => 65
  | 210 => 66
  | 212 => 67
  | 211 => 68
  | 50 => 69
  | 49 => 70
  | 177 => 71
  | 95 => 72
  | 213 => 73
  | 72 => 74
  | 73 => 75
  | 176 => 76
  | 61 => 77
  | 214 => 78
  | 215 => 79
  | 216 => 80
  | 217 => 81
  | 218 => 82
  | 52 => 83
  | 181 => 84
  | 219 => 85
  | 182 => 86
  | 23 => 87
  | 183 => 88
  | 179 => 89
  | 56 => 90
  | 71 => 91
  | 97 => 92
  | 220 => 93
  | 221 => 94
  | 178 => 95
  | 51 => 96
  | _ => 0
theorem chk_law09_PutKeeps : chkFn Try.prog num [0, 1, 2, 3, 4, 8, 9, 11, 12, 13, 14, 15, 16, 17, 18, 19, 27, 63, 84, 97, 127] Try.f3 F09.law09_PutKeeps = true := by kernel_rfl
theorem ok_law09_PutKeeps : callOk Try.prog 3 = true := by kernel_rfl
theorem chk_law09_PutPlays : chkFn Try.prog num [0, 1, 2, 3, 4, 5, 10, 11, 12, 13, 14, 15, 16, 17, 18, 19, 20, 21, 22, 23, 24, 32, 53, 58, 62, 79, 83, 92, 109, 113, 137] Try.f4 F09.law09_PutPlays = true := by kernel_rfl
theorem ok_law09_PutPlays : callOk Try.prog 4 = true := by kernel_rfl
theorem chk_law09_PutNone : chkFn Try.prog num [0, 2, 3, 4, 5, 6, 7] Try.f5 F09.law09_PutNone = true := by kernel_rfl
theorem ok_law09_PutNone : callOk Try.prog 5 = true := by kernel_rfl
theorem chk_law09_PutLayAll : chkFn Try.prog num [0, 1, 2, 3, 4, 8, 9, 10, 11, 12, 13, 16, 34, 41, 74, 79] Try.f6 F09.law09_PutLayAll = true := by kernel_rfl
theorem ok_law09_PutLayAll : callOk Try.prog 6 = true := by kernel_rfl
theorem chk_law09_PutLayPlays : chkFn Try.prog num [0, 1, 2, 3, 4, 5, 10, 11, 12, 13, 14, 15, 16, 17, 18, 19, 20, 21, 22, 23, 36, 60, 69, 73, 82, 86, 103, 107, 131] Try.f7 F09.law09_PutLayPlays = true := by kernel_rfl
theorem ok_law09_PutLayPlays : callOk Try.prog 7 = true := by kernel_rfl
theorem chk_law09_PutKnown : chkFn Try.prog num [0, 1, 2, 3, 4, 5, 6, 7, 8, 10, 21, 83, 157] Try.f8 F09.law09_PutKnown = true := by kernel_rfl
theorem chk_law09_works : chkFn Try.prog num [0, 1, 2, 3, 5, 6, 41, 77] Try.f9 F09.law09_works = true := by kernel_rfl
theorem ok_law09_works : callOk Try.prog 9 = true := by kernel_rfl
theorem chk_docs_Made : chkFn Try.prog num [0, 1, 2, 3] Try.f10 F09.docs_Made = true := by kernel_rfl
theorem ok_docs_Made : callOk Try.prog 10 = true := by kernel_rfl
theorem chk_kit_Pick : chkFn Try.prog num [0, 1, 4, 6] Try.f11 F09.kit_Pick = true := by kernel_rfl
theorem ok_kit_Pick : callOk Try.prog 11 = true := by kernel_rfl
theorem chk_docs_Mem : chkFn Try.prog num [0, 2, 3, 4, 5, 6, 23] Try.f12 F09.docs_Mem = true := by kernel_rfl
theorem ok_docs_Mem : callOk Try.prog 12 = true := by kernel_rfl
theorem chk_docs_Filled : chkFn Try.prog num [0, 1, 2, 4, 5, 6, 7, 8, 9, 20, 34, 63, 86] Try.f13 F09.docs_Filled = true := by kernel_rfl
theorem ok_docs_Filled : callOk Try.prog 13 = true := by kernel_rfl
theorem chk_docs_Ring : chkFn Try.prog num [0, 1, 2, 3, 6, 7, 8, 9, 10, 11, 12, 13, 34, 59, 75] Try.f14 F09.docs_Ring = true := by kernel_rfl
theorem ok_docs_Ring : callOk Try.prog 14 = true := by kernel_rfl
theorem chk_put_New : chkFn Try.prog num [0, 1, 2, 3, 6, 7, 15, 25] Try.f15 F09.put_New = true := by kernel_rfl
theorem ok_put_New : callOk Try.prog 15 = true := by kernel_rfl
theorem chk_put_Put_Step : chkFn Try.prog num [0, 1, 4, 7] Try.f16 F09.put_Put_Step = true := by kernel_rfl
theorem ok_put_Put_Step : callOk Try.prog 16 = true := by kernel_rfl
theorem chk_docs_Thief : chkFn Try.prog num [0, 1, 2, 3, 4, 8, 9, 10, 11, 12, 26] Try.f17 F09.docs_Thief = true := by kernel_rfl
theorem ok_docs_Thief : callOk Try.prog 17 = true := by kernel_rfl
theorem chk_put_Put_Over : chkFn Try.prog num [0, 2, 12] Try.f18 F09.put_Put_Over = true := by kernel_rfl
theorem ok_put_Put_Over : callOk Try.prog 18 = true := by kernel_rfl
theorem chk_kit_SameInts : chkFn Try.prog num [0, 1, 4, 5, 10, 14, 25] Try.f19 F09.kit_SameInts = true := by kernel_rfl
theorem ok_kit_SameInts : callOk Try.prog 19 = true := by kernel_rfl
theorem chk_ref09_New : chkFn Try.prog num [0, 1, 2, 3, 6, 14] Try.f20 F09.ref09_New = true := by kernel_rfl
theorem ok_ref09_New : callOk Try.prog 20 = true := by kernel_rfl
theorem chk_docs_Config : chkFn Try.prog num [0, 1, 2] Try.f21 F09.docs_Config = true := by kernel_rfl
theorem ok_docs_Config : callOk Try.prog 21 = true := by kernel_rfl
theorem chk_put_Put_Hands : chkFn Try.prog num [0, 2, 4] Try.f22 F09.put_Put_Hands = true := by kernel_rfl
theorem ok_put_Put_Hands : callOk Try.prog 22 = true := by kernel_rfl
theorem chk_put_Put_Done : chkFn Try.prog num [0, 2] Try.f23 F09.put_Put_Done = true := by kernel_rfl
theorem ok_put_Put_Done : callOk Try.prog 23 = true := by kernel_rfl
theorem chk_docs_SameMem : chkFn Try.prog num [0, 1, 3, 4] Try.f24 F09.docs_SameMem = true := by kernel_rfl
theorem ok_docs_SameMem : callOk Try.prog 24 = true := by kernel_rfl
theorem chk_cell_Mem_Ops : chkFn Try.prog num [0, 2, 4] Try.f25 F09.cell_Mem_Ops = true := by kernel_rfl
theorem ok_cell_Mem_Ops : callOk Try.prog 25 = true := by kernel_rfl
theorem chk_ref09_Step : chkFn Try.prog num [0, 1, 2, 3, 4, 5, 6, 7, 8, 9, 10, 11, 12, 17, 18, 40, 42, 56, 77, 80, 120, 122, 148] Try.f26 F09.ref09_Step = true := by kernel_rfl
theorem ok_ref09_Step : callOk Try.prog 26 = true := by kernel_rfl
theorem chk_law09_poked : chkFn Try.prog num [0, 1, 2, 4, 5, 6, 7, 16] Try.f27 F09.law09_poked = true := by kernel_rfl
theorem ok_law09_poked : callOk Try.prog 27 = true := by kernel_rfl
theorem chk_cell_New : chkFn Try.prog num [0, 2] Try.f28 F09.cell_New = true := by kernel_rfl
theorem ok_cell_New : callOk Try.prog 28 = true := by kernel_rfl
theorem chk_put_Lay_Step : chkFn Try.prog num [0, 1, 4, 5, 8, 19, 29, 78, 83] Try.f29 F09.put_Lay_Step = true := by kernel_rfl
theorem ok_put_Lay_Step : callOk Try.prog 29 = true := by kernel_rfl
theorem chk_put_Lay_Done : chkFn Try.prog num [0, 2] Try.f30 F09.put_Lay_Done = true := by kernel_rfl
theorem ok_put_Lay_Done : callOk Try.prog 30 = true := by kernel_rfl
theorem chk_put_Lay_Hands : chkFn Try.prog num [0, 2, 4] Try.f31 F09.put_Lay_Hands = true := by kernel_rfl
theorem ok_put_Lay_Hands : callOk Try.prog 31 = true := by kernel_rfl
theorem chk_conf_Config_Cells : chkFn Try.prog num [0, 1, 2, 5] Try.f32 F09.conf_Config_Cells = true := by kernel_rfl
theorem ok_conf_Config_Cells : callOk Try.prog 32 = true := by kernel_rfl
theorem chk_cell_Mem_Store : chkFn Try.prog num [0, 1, 2, 5] Try.f33 F09.cell_Mem_Store = true := by kernel_rfl
theorem ok_cell_Mem_Store : callOk Try.prog 33 = true := by kernel_rfl
theorem chk_conf_Config_Word : chkFn Try.prog num [0, 1, 2, 4] Try.f34 F09.conf_Config_Word = true := by kernel_rfl
theorem ok_conf_Config_Word : callOk Try.prog 34 = true := by kernel_rfl
theorem chk_put_NewLay : chkFn Try.prog num [0, 1, 2, 3, 6, 7, 18] Try.f35 F09.put_NewLay = true := by kernel_rfl
theorem ok_put_NewLay : callOk Try.prog 35 = true := by kernel_rfl
theorem chk_ref09_NewLay : chkFn Try.prog num [0, 1, 2, 3, 6, 7, 8, 12, 20, 27] Try.f36 F09.ref09_NewLay = true := by kernel_rfl
theorem ok_ref09_NewLay : callOk Try.prog 36 = true := by kernel_rfl
theorem chk_ref09_StepLay : chkFn Try.prog num [0, 1, 2, 3, 4, 5, 6, 9, 15, 20, 21, 43, 60, 62, 93, 95, 121] Try.f37 F09.ref09_StepLay = true := by kernel_rfl
theorem ok_ref09_StepLay : callOk Try.prog 37 = true := by kernel_rfl
theorem chk_law09_ring : chkFn Try.prog num [0, 1, 2, 3] Try.f38 F09.law09_ring = true := by kernel_rfl
theorem ok_law09_ring : callOk Try.prog 38 = true := by kernel_rfl
theorem chk_ref06_New : chkFn Try.prog num [0, 2] Try.f39 F09.ref06_New = true := by kernel_rfl
theorem ok_ref06_New : callOk Try.prog 39 = true := by kernel_rfl
theorem chk_ref06_Store : chkFn Try.prog num [0, 1, 2, 3, 6, 10] Try.f40 F09.ref06_Store = true := by kernel_rfl
theorem ok_ref06_Store : callOk Try.prog 40 = true := by kernel_rfl
theorem chk_conf_Config_Right : chkFn Try.prog num [0, 1, 2] Try.f41 F09.conf_Config_Right = true := by kernel_rfl
theorem ok_conf_Config_Right : callOk Try.prog 41 = true := by kernel_rfl
theorem chk_docs_byteAt : chkFn Try.prog num [0, 1, 4, 8] Try.f42 F09.docs_byteAt = true := by kernel_rfl
theorem ok_docs_byteAt : callOk Try.prog 42 = true := by kernel_rfl
theorem chk_conf_Config_Slot : chkFn Try.prog num [0, 1, 2, 3, 6, 9] Try.f43 F09.conf_Config_Slot = true := by kernel_rfl
theorem ok_conf_Config_Slot : callOk Try.prog 43 = true := by kernel_rfl
theorem chk_conf_Config_Next : chkFn Try.prog num [0, 1, 2, 4] Try.f44 F09.conf_Config_Next = true := by kernel_rfl
theorem ok_conf_Config_Next : callOk Try.prog 44 = true := by kernel_rfl
theorem chk_conf_Config_Stat : chkFn Try.prog num [0, 1, 2, 4] Try.f45 F09.conf_Config_Stat = true := by kernel_rfl
theorem ok_conf_Config_Stat : callOk Try.prog 45 = true := by kernel_rfl
theorem chk_conf_Config_Tick : chkFn Try.prog num [0, 1, 2, 4] Try.f46 F09.conf_Config_Tick = true := by kernel_rfl
theorem ok_conf_Config_Tick : callOk Try.prog 46 = true := by kernel_rfl
theorem chk_conf_Config_Sys : chkFn Try.prog num [0, 1, 2, 4] Try.f47 F09.conf_Config_Sys = true := by kernel_rfl
theorem ok_conf_Config_Sys : callOk Try.prog 47 = true := by kernel_rfl
theorem chk_conf_Config_Flag : chkFn Try.prog num [0, 1, 2, 4] Try.f48 F09.conf_Config_Flag = true := by kernel_rfl
theorem ok_conf_Config_Flag : callOk Try.prog 48 = true := by kernel_rfl
theorem chk_cell_Mem_All : chkFn Try.prog num [0, 2, 4] Try.f49 F09.cell_Mem_All = true := by kernel_rfl
theorem ok_cell_Mem_All : callOk Try.prog 49 = true := by kernel_rfl
theorem chk_put_from : chkFn Try.prog num [0, 1, 2, 4, 5, 12] Try.f50 F09.put_from = true := by kernel_rfl
theorem ok_put_from : callOk Try.prog 50 = true := by kernel_rfl
theorem chk_put_ways : chkFn Try.prog num [0] Try.f51 F09.put_ways = true := by kernel_rfl
theorem ok_put_ways : callOk Try.prog 51 = true := by kernel_rfl
theorem chk_cell_Mem_Load : chkFn Try.prog num [0, 1, 4, 5] Try.f52 F09.cell_Mem_Load = true := by kernel_rfl
theorem ok_cell_Mem_Load : callOk Try.prog 52 = true := by kernel_rfl
theorem chk_slices_Clone_int : chkFn Try.prog num [0, 2, 4] Try.f53 F09.slices_Clone_int = true := by kernel_rfl
theorem ok_slices_Clone_int : callOk Try.prog 53 = true := by kernel_rfl
theorem chk_ref09_There : chkFn Try.prog num [0, 1, 2, 4] Try.f54 F09.ref09_There = true := by kernel_rfl
theorem ok_ref09_There : callOk Try.prog 54 = true := by kernel_rfl
theorem chk_cell_Mem_Len : chkFn Try.prog num [0, 2, 4] Try.f55 F09.cell_Mem_Len = true := by kernel_rfl
theorem ok_cell_Mem_Len : callOk Try.prog 55 = true := by kernel_rfl
theorem chk_docs_SameCells : chkFn Try.prog num [0, 1, 4, 5, 10, 14, 25] Try.f56 F09.docs_SameCells = true := by kernel_rfl
theorem ok_docs_SameCells : callOk Try.prog 56 = true := by kernel_rfl
theorem chk_ref09_Tail : chkFn Try.prog num [0, 2] Try.f57 F09.ref09_Tail = true := by kernel_rfl
theorem ok_ref09_Tail : callOk Try.prog 57 = true := by kernel_rfl
theorem chk_ref06_Load : chkFn Try.prog num [0, 1, 2, 4, 5, 9] Try.f58 F09.ref06_Load = true := by kernel_rfl
theorem ok_ref06_Load : callOk Try.prog 58 = true := by kernel_rfl
theorem chk_ref09_Word : chkFn Try.prog num [0, 1, 2, 4] Try.f59 F09.ref09_Word = true := by kernel_rfl
theorem ok_ref09_Word : callOk Try.prog 59 = true := by kernel_rfl
theorem chk_ref09_Size : chkFn Try.prog num [0, 2] Try.f60 F09.ref09_Size = true := by kernel_rfl
theorem ok_ref09_Size : callOk Try.prog 60 = true := by kernel_rfl
theorem chk_ref09_Slot : chkFn Try.prog num [0, 1, 2, 3, 6] Try.f61 F09.ref09_Slot = true := by kernel_rfl
theorem ok_ref09_Slot : callOk Try.prog 61 = true := by kernel_rfl
theorem chk_ref06_CAS : chkFn Try.prog num [0, 1, 2, 3, 4, 8, 9, 13, 21] Try.f62 F09.ref06_CAS = true := by kernel_rfl
theorem ok_ref06_CAS : callOk Try.prog 62 = true := by kernel_rfl
theorem chk_ref09_Pack : chkFn Try.prog num [0, 1, 4] Try.f63 F09.ref09_Pack = true := by kernel_rfl
theorem ok_ref09_Pack : callOk Try.prog 63 = true := by kernel_rfl
theorem chk_ref09_Head : chkFn Try.prog num [0, 2] Try.f64 F09.ref09_Head = true := by kernel_rfl
theorem ok_ref09_Head : callOk Try.prog 64 = true := by kernel_rfl
theorem chk_put_Lay_look : chkFn Try.prog num [0, 1, 4, 45] Try.f65 F09.put_Lay_look = true := by kernel_rfl
theorem ok_put_Lay_look : callOk Try.prog 65 = true := by kernel_rfl
theorem chk_put_ring_slot : chkFn Try.prog num [0, 1, 4] Try.f66 F09.put_ring_slot = true := by kernel_rfl
theorem ok_put_ring_slot : callOk Try.prog 66 = true := by kernel_rfl
theorem chk_put_ring_change : chkFn Try.prog num [0, 1, 2, 6, 7, 27] Try.f67 F09.put_ring_change = true := by kernel_rfl
theorem ok_put_ring_change : callOk Try.prog 67 = true := by kernel_rfl
theorem chk_word_Grow : chkFn Try.prog num [0, 1, 4] Try.f68 F09.word_Grow = true := by kernel_rfl
theorem ok_word_Grow : callOk Try.prog 68 = true := by kernel_rfl
theorem chk_cell_Mem_access : chkFn Try.prog num [0, 1, 2, 3, 8, 9, 10, 14] Try.f69 F09.cell_Mem_access = true := by kernel_rfl
theorem ok_cell_Mem_access : callOk Try.prog 69 = true := by kernel_rfl
theorem chk_cell_Mem_Store_1 : chkFn Try.prog num [0, 1, 3, 4] Try.f70 F09.cell_Mem_Store_1 = true := by kernel_rfl
theorem ok_cell_Mem_Store_1 : callOk Try.prog 70 = true := by kernel_rfl
theorem chk_conf_own_at : chkFn Try.prog num [0, 1, 2, 4, 18] Try.f71 F09.conf_own_at = true := by kernel_rfl
theorem ok_conf_own_at : callOk Try.prog 71 = true := by kernel_rfl
theorem chk_slices_DeleteFunc_int : chkFn Try.prog num [0, 1, 4, 5, 6, 7, 12, 19, 29] Try.f72 F09.slices_DeleteFunc_int = true := by kernel_rfl
theorem ok_slices_DeleteFunc_int : callOk Try.prog 72 = true := by kernel_rfl
theorem chk_put_NewLay_1 : chkFn Try.prog num [0, 2] Try.f73 F09.put_NewLay_1 = true := by kernel_rfl
theorem ok_put_NewLay_1 : callOk Try.prog 73 = true := by kernel_rfl
theorem chk_ref06_there : chkFn Try.prog num [0, 1, 2, 4] Try.f74 F09.ref06_there = true := by kernel_rfl
theorem ok_ref06_there : callOk Try.prog 74 = true := by kernel_rfl
theorem chk_ref06_with : chkFn Try.prog num [0, 1, 2, 3, 6, 7] Try.f75 F09.ref06_with = true := by kernel_rfl
theorem ok_ref06_with : callOk Try.prog 75 = true := by kernel_rfl
theorem chk_conf_within : chkFn Try.prog num [0, 1, 2, 6] Try.f76 F09.conf_within = true := by kernel_rfl
theorem ok_conf_within : callOk Try.prog 76 = true := by kernel_rfl
theorem chk_slices_Clone_uint64 : chkFn Try.prog num [0, 2, 4] Try.f77 F09.slices_Clone_uint64 = true := by kernel_rfl
theorem ok_slices_Clone_uint64 : callOk Try.prog 77 = true := by kernel_rfl
theorem chk_put_Put_look : chkFn Try.prog num [0, 1, 23] Try.f78 F09.put_Put_look = true := by kernel_rfl
theorem ok_put_Put_look : callOk Try.prog 78 = true := by kernel_rfl
theorem chk_put_Put_lay : chkFn Try.prog num [0, 1] Try.f79 F09.put_Put_lay = true := by kernel_rfl
theorem ok_put_Put_lay : callOk Try.prog 79 = true := by kernel_rfl
theorem chk_put_Put_swing : chkFn Try.prog num [0, 1, 14] Try.f80 F09.put_Put_swing = true := by kernel_rfl
theorem ok_put_Put_swing : callOk Try.prog 80 = true := by kernel_rfl
theorem chk_put_Put_take : chkFn Try.prog num [0, 1, 37] Try.f81 F09.put_Put_take = true := by kernel_rfl
theorem ok_put_Put_take : callOk Try.prog 81 = true := by kernel_rfl
theorem chk_put_Put_cut : chkFn Try.prog num [0, 1, 16] Try.f82 F09.put_Put_cut = true := by kernel_rfl
theorem ok_put_Put_cut : callOk Try.prog 82 = true := by kernel_rfl
theorem chk_cell_Mem_Load_1 : chkFn Try.prog num [0, 2, 3] Try.f83 F09.cell_Mem_Load_1 = true := by kernel_rfl
theorem ok_cell_Mem_Load_1 : callOk Try.prog 83 = true := by kernel_rfl
theorem chk_ref05_Right : chkFn Try.prog num [0, 1, 2, 3, 4, 6] Try.f84 F09.ref05_Right = true := by kernel_rfl
theorem ok_ref05_Right : callOk Try.prog 84 = true := by kernel_rfl
theorem chk_put_ring_load : chkFn Try.prog num [0, 1, 4] Try.f85 F09.put_ring_load = true := by kernel_rfl
theorem ok_put_ring_load : callOk Try.prog 85 = true := by kernel_rfl
theorem chk_word_Tail : chkFn Try.prog num [0, 2] Try.f86 F09.word_Tail = true := by kernel_rfl
theorem ok_word_Tail : callOk Try.prog 86 = true := by kernel_rfl
theorem chk_cell_Mem_CAS : chkFn Try.prog num [0, 1, 2, 3, 6, 7, 8, 10] Try.f87 F09.cell_Mem_CAS = true := by kernel_rfl
theorem ok_cell_Mem_CAS : callOk Try.prog 87 = true := by kernel_rfl
theorem chk_word_Pack : chkFn Try.prog num [0, 1, 4] Try.f88 F09.word_Pack = true := by kernel_rfl
theorem ok_word_Pack : callOk Try.prog 88 = true := by kernel_rfl
theorem chk_word_Head : chkFn Try.prog num [0, 2] Try.f89 F09.word_Head = true := by kernel_rfl
theorem ok_word_Head : callOk Try.prog 89 = true := by kernel_rfl
theorem chk_cell_Mem_there : chkFn Try.prog num [0, 1, 4] Try.f90 F09.cell_Mem_there = true := by kernel_rfl
theorem ok_cell_Mem_there : callOk Try.prog 90 = true := by kernel_rfl
theorem chk_cell_counts_note : chkFn Try.prog num [0, 1, 2, 4, 22, 35, 48, 64, 92] Try.f91 F09.cell_counts_note = true := by kernel_rfl
theorem ok_cell_counts_note : callOk Try.prog 91 = true := by kernel_rfl
theorem chk_slices_IndexFunc_int : chkFn Try.prog num [0, 1, 4, 5, 7, 8, 9, 16] Try.f92 F09.slices_IndexFunc_int = true := by kernel_rfl
theorem ok_slices_IndexFunc_int : callOk Try.prog 92 = true := by kernel_rfl
theorem chk_put_Put_half : chkFn Try.prog num [0, 2] Try.f93 F09.put_Put_half = true := by kernel_rfl
theorem ok_put_Put_half : callOk Try.prog 93 = true := by kernel_rfl
theorem chk_word_Drop : chkFn Try.prog num [0, 1, 4] Try.f94 F09.word_Drop = true := by kernel_rfl
theorem ok_word_Drop : callOk Try.prog 94 = true := by kernel_rfl
theorem chk_word_Len : chkFn Try.prog num [0, 2] Try.f95 F09.word_Len = true := by kernel_rfl
theorem ok_word_Len : callOk Try.prog 95 = true := by kernel_rfl
theorem chk_cell_Mem_CAS_1 : chkFn Try.prog num [0, 1, 2, 4, 5, 8] Try.f96 F09.cell_Mem_CAS_1 = true := by kernel_rfl
theorem ok_cell_Mem_CAS_1 : callOk Try.prog 96 = true := by kernel_rfl
end Go.Proofs.Ytgfddegdjdeeoaa
