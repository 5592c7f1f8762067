import Derived.Test.YtimgbjimonmkdaaChecked
import Derived.Test.YtimgbjimonmkdaaXG09
import Derived.Test.YtimgbjimonmkdaaXG10
set_option linter.unusedSimpArgs false
set_option linter.unusedVariables false
namespace Go.Proofs.Ytimgbjimonmkdaa
open Go.Am
def num : Nat → Nat
  | 143 => 3
  | 146 => 4
  | 149 => 5
  | 153 => 6
  | 154 => 7
  | 132 => 8
  | 133 => 9
  | 87 => 10
  | 135 => 11
  | 134 => 12
  | 136 => 13
  | 137 => 14
  | 138 => 15
  | 139 => 16
  | 140 => 17
  | 84 => 18
  | 141 => 19
  | 142 => 20
  | 21 => 21
  | 144 => 22
  | 46 => 23
  | 145 => 24
  | 148 => 25
  | 147 => 26
  | 68 => 27
  | 150 => 28
  | 151 => 29
  | 152 => 30
  | 22 => 31
  | 65 => 32
  | 155 => 33
  | 63 => 34
  | 156 => 35
  | 157 => 36
  | 158 => 37
  | 159 => 38
  | 160 => 39
  | 161 => 40
  | 162 => 41
  | 163 => 42
  | 164 => 43
  | 165 => 44
  | 47 => 45
  | 24 => 46
  | 166 => 47
  | 167 => 48
  | 168 => 49
  | 34 => 50
  | 58 => 51
  | 169 => 52
  | 170 => 53
  | 171 => 54
  | 64 => 55
  | 172 => 56
  | 173 => 57
  | 174 => 58
  | 66 => 59
  | 175 => 60
  | 50 => 61
  | 49 => 62
  | 72 => 63
  | 73 => 64
  | 176 => 65
  | 177 => 66
  | 61 => 67
  | 52 => 68
  | 178 => 69
  | 179 => 70
  | 23 => 71
  | 180 => 72
  | 181 => 73
  | 56 => 74
  | 71 => 75
  | 182 => 76
  | 51 => 77
  | 183 => 78
  | _ => 0
theorem chk_law10_GetOldest : chkFn Try.prog num [0, 1, 2, 3, 4, 8, 9, 11, 12, 13, 14, 15, 16, 17, 18, 19, 27, 55, 61, 77, 87, 94, 124, 125] Try.f3 F10.law10_GetOldest = true := by kernel_rfl
theorem ok_law10_GetOldest : callOk Try.prog 3 = true := by kernel_rfl
theorem chk_law10_GetNone : chkFn Try.prog num [0, 1, 2, 4, 5, 6, 7, 8, 9, 10, 11, 12, 25, 74] Try.f4 F10.law10_GetNone = true := by kernel_rfl
theorem ok_law10_GetNone : callOk Try.prog 4 = true := by kernel_rfl
theorem chk_law10_GetAll : chkFn Try.prog num [0, 1, 2, 3, 6, 7, 8, 9, 10, 11, 14] Try.f5 F10.law10_GetAll = true := by kernel_rfl
theorem ok_law10_GetAll : callOk Try.prog 5 = true := by kernel_rfl
theorem chk_law10_GetPlays : chkFn Try.prog num [0, 1, 2, 3, 4, 8, 9, 10, 11, 12, 13, 14, 15, 16, 17, 18, 26, 45, 65, 69, 104, 115] Try.f6 F10.law10_GetPlays = true := by kernel_rfl
theorem ok_law10_GetPlays : callOk Try.prog 6 = true := by kernel_rfl
theorem chk_law10_GetKnown : chkFn Try.prog num [0, 1, 2, 3, 4, 5, 6, 7, 9, 13, 91] Try.f7 F10.law10_GetKnown = true := by kernel_rfl
theorem chk_law10_works : chkFn Try.prog num [0, 1, 2, 3, 4, 5, 6, 8, 9, 10, 11, 13, 27, 52, 72] Try.f8 F10.law10_works = true := by kernel_rfl
theorem ok_law10_works : callOk Try.prog 8 = true := by kernel_rfl
theorem chk_docs_Made : chkFn Try.prog num [0, 1, 2, 3] Try.f9 F10.docs_Made = true := by kernel_rfl
theorem ok_docs_Made : callOk Try.prog 9 = true := by kernel_rfl
theorem chk_kit_Pick : chkFn Try.prog num [0, 1, 4, 6] Try.f10 F10.kit_Pick = true := by kernel_rfl
theorem ok_kit_Pick : callOk Try.prog 10 = true := by kernel_rfl
theorem chk_docs_Mem : chkFn Try.prog num [0, 2, 3, 4, 5, 6, 23] Try.f11 F10.docs_Mem = true := by kernel_rfl
theorem ok_docs_Mem : callOk Try.prog 11 = true := by kernel_rfl
theorem chk_docs_Filled : chkFn Try.prog num [0, 1, 2, 4, 5, 6, 7, 8, 9, 20, 34, 63, 86] Try.f12 F10.docs_Filled = true := by kernel_rfl
theorem ok_docs_Filled : callOk Try.prog 12 = true := by kernel_rfl
theorem chk_docs_Ring : chkFn Try.prog num [0, 1, 2, 3, 6, 7, 8, 9, 10, 11, 12, 13, 34, 59, 75] Try.f13 F10.docs_Ring = true := by kernel_rfl
theorem ok_docs_Ring : callOk Try.prog 13 = true := by kernel_rfl
theorem chk_get_New : chkFn Try.prog num [0, 1, 2, 4, 8] Try.f14 F10.get_New = true := by kernel_rfl
theorem ok_get_New : callOk Try.prog 14 = true := by kernel_rfl
theorem chk_get_Get_Done : chkFn Try.prog num [0, 2] Try.f15 F10.get_Get_Done = true := by kernel_rfl
theorem ok_get_Get_Done : callOk Try.prog 15 = true := by kernel_rfl
theorem chk_docs_Thief : chkFn Try.prog num [0, 1, 2, 3, 4, 8, 9, 10, 11, 12, 26] Try.f16 F10.docs_Thief = true := by kernel_rfl
theorem ok_docs_Thief : callOk Try.prog 16 = true := by kernel_rfl
theorem chk_get_Get_Step : chkFn Try.prog num [0, 1, 4, 5, 7] Try.f17 F10.get_Get_Step = true := by kernel_rfl
theorem ok_get_Get_Step : callOk Try.prog 17 = true := by kernel_rfl
theorem chk_kit_SameInts : chkFn Try.prog num [0, 1, 4, 5, 10, 14, 25] Try.f18 F10.kit_SameInts = true := by kernel_rfl
theorem ok_kit_SameInts : callOk Try.prog 18 = true := by kernel_rfl
theorem chk_get_Get_Got : chkFn Try.prog num [0, 2, 3, 12] Try.f19 F10.get_Get_Got = true := by kernel_rfl
theorem ok_get_Get_Got : callOk Try.prog 19 = true := by kernel_rfl
theorem chk_get_Get_Tries : chkFn Try.prog num [0, 2, 4] Try.f20 F10.get_Get_Tries = true := by kernel_rfl
theorem ok_get_Get_Tries : callOk Try.prog 20 = true := by kernel_rfl
theorem chk_cell_New : chkFn Try.prog num [0, 2] Try.f21 F10.cell_New = true := by kernel_rfl
theorem ok_cell_New : callOk Try.prog 21 = true := by kernel_rfl
theorem chk_get_Get_Hands : chkFn Try.prog num [0, 2, 3, 4, 11] Try.f22 F10.get_Get_Hands = true := by kernel_rfl
theorem ok_get_Get_Hands : callOk Try.prog 22 = true := by kernel_rfl
theorem chk_cell_Mem_Ops : chkFn Try.prog num [0, 2, 4] Try.f23 F10.cell_Mem_Ops = true := by kernel_rfl
theorem ok_cell_Mem_Ops : callOk Try.prog 23 = true := by kernel_rfl
theorem chk_get_All : chkFn Try.prog num [0, 1, 2, 3, 6, 7, 8, 9, 10, 11, 18, 24] Try.f24 F10.get_All = true := by kernel_rfl
theorem ok_get_All : callOk Try.prog 24 = true := by kernel_rfl
theorem chk_ref10_All : chkFn Try.prog num [0, 1, 2, 3, 4, 6, 7, 8, 9, 10, 12, 20, 29] Try.f25 F10.ref10_All = true := by kernel_rfl
theorem ok_ref10_All : callOk Try.prog 25 = true := by kernel_rfl
theorem chk_docs_Config : chkFn Try.prog num [0, 1, 2] Try.f26 F10.docs_Config = true := by kernel_rfl
theorem ok_docs_Config : callOk Try.prog 26 = true := by kernel_rfl
theorem chk_docs_SameMem : chkFn Try.prog num [0, 1, 3, 4] Try.f27 F10.docs_SameMem = true := by kernel_rfl
theorem ok_docs_SameMem : callOk Try.prog 27 = true := by kernel_rfl
theorem chk_ref10_New : chkFn Try.prog num [0, 1, 2, 4, 8] Try.f28 F10.ref10_New = true := by kernel_rfl
theorem ok_ref10_New : callOk Try.prog 28 = true := by kernel_rfl
theorem chk_law10_is : chkFn Try.prog num [0, 1, 2, 4, 6, 7, 8, 9, 34, 36, 59] Try.f29 F10.law10_is = true := by kernel_rfl
theorem ok_law10_is : callOk Try.prog 29 = true := by kernel_rfl
theorem chk_ref10_Step : chkFn Try.prog num [0, 1, 2, 3, 4, 5, 6, 7, 8, 9, 10, 11, 12, 20, 21, 47, 49, 67, 86] Try.f30 F10.ref10_Step = true := by kernel_rfl
theorem ok_ref10_Step : callOk Try.prog 30 = true := by kernel_rfl
theorem chk_cell_Mem_Store : chkFn Try.prog num [0, 1, 2, 5] Try.f31 F10.cell_Mem_Store = true := by kernel_rfl
theorem ok_cell_Mem_Store : callOk Try.prog 31 = true := by kernel_rfl
theorem chk_ref06_Store : chkFn Try.prog num [0, 1, 2, 3, 6, 10] Try.f32 F10.ref06_Store = true := by kernel_rfl
theorem ok_ref06_Store : callOk Try.prog 32 = true := by kernel_rfl
theorem chk_law10_rings : chkFn Try.prog num [0, 1, 2, 3] Try.f33 F10.law10_rings = true := by kernel_rfl
theorem ok_law10_rings : callOk Try.prog 33 = true := by kernel_rfl
theorem chk_ref06_New : chkFn Try.prog num [0, 2] Try.f34 F10.ref06_New = true := by kernel_rfl
theorem ok_ref06_New : callOk Try.prog 34 = true := by kernel_rfl
theorem chk_conf_Config_Cells : chkFn Try.prog num [0, 1, 2, 5] Try.f35 F10.conf_Config_Cells = true := by kernel_rfl
theorem ok_conf_Config_Cells : callOk Try.prog 35 = true := by kernel_rfl
theorem chk_conf_Config_Right : chkFn Try.prog num [0, 1, 2] Try.f36 F10.conf_Config_Right = true := by kernel_rfl
theorem ok_conf_Config_Right : callOk Try.prog 36 = true := by kernel_rfl
theorem chk_docs_byteAt : chkFn Try.prog num [0, 1, 4, 8] Try.f37 F10.docs_byteAt = true := by kernel_rfl
theorem ok_docs_byteAt : callOk Try.prog 37 = true := by kernel_rfl
theorem chk_conf_Config_Word : chkFn Try.prog num [0, 1, 2, 4] Try.f38 F10.conf_Config_Word = true := by kernel_rfl
theorem ok_conf_Config_Word : callOk Try.prog 38 = true := by kernel_rfl
theorem chk_conf_Config_Slot : chkFn Try.prog num [0, 1, 2, 3, 6, 9] Try.f39 F10.conf_Config_Slot = true := by kernel_rfl
theorem ok_conf_Config_Slot : callOk Try.prog 39 = true := by kernel_rfl
theorem chk_conf_Config_Next : chkFn Try.prog num [0, 1, 2, 4] Try.f40 F10.conf_Config_Next = true := by kernel_rfl
theorem ok_conf_Config_Next : callOk Try.prog 40 = true := by kernel_rfl
theorem chk_conf_Config_Stat : chkFn Try.prog num [0, 1, 2, 4] Try.f41 F10.conf_Config_Stat = true := by kernel_rfl
theorem ok_conf_Config_Stat : callOk Try.prog 41 = true := by kernel_rfl
theorem chk_conf_Config_Tick : chkFn Try.prog num [0, 1, 2, 4] Try.f42 F10.conf_Config_Tick = true := by kernel_rfl
theorem ok_conf_Config_Tick : callOk Try.prog 42 = true := by kernel_rfl
theorem chk_conf_Config_Sys : chkFn Try.prog num [0, 1, 2, 4] Try.f43 F10.conf_Config_Sys = true := by kernel_rfl
theorem ok_conf_Config_Sys : callOk Try.prog 43 = true := by kernel_rfl
theorem chk_conf_Config_Flag : chkFn Try.prog num [0, 1, 2, 4] Try.f44 F10.conf_Config_Flag = true := by kernel_rfl
theorem ok_conf_Config_Flag : callOk Try.prog 44 = true := by kernel_rfl
theorem chk_cell_Mem_All : chkFn Try.prog num [0, 2, 4] Try.f45 F10.cell_Mem_All = true := by kernel_rfl
theorem ok_cell_Mem_All : callOk Try.prog 45 = true := by kernel_rfl
theorem chk_cell_Mem_Load : chkFn Try.prog num [0, 1, 4, 5] Try.f46 F10.cell_Mem_Load = true := by kernel_rfl
theorem ok_cell_Mem_Load : callOk Try.prog 46 = true := by kernel_rfl
theorem chk_get_Get_look : chkFn Try.prog num [0, 1, 4, 5, 36] Try.f47 F10.get_Get_look = true := by kernel_rfl
theorem ok_get_Get_look : callOk Try.prog 47 = true := by kernel_rfl
theorem chk_get_Get_copy : chkFn Try.prog num [0, 1, 4] Try.f48 F10.get_Get_copy = true := by kernel_rfl
theorem ok_get_Get_copy : callOk Try.prog 48 = true := by kernel_rfl
theorem chk_get_Get_gain : chkFn Try.prog num [0, 1, 4, 31] Try.f49 F10.get_Get_gain = true := by kernel_rfl
theorem ok_get_Get_gain : callOk Try.prog 49 = true := by kernel_rfl
theorem chk_cell_Mem_Len : chkFn Try.prog num [0, 2, 4] Try.f50 F10.cell_Mem_Len = true := by kernel_rfl
theorem ok_cell_Mem_Len : callOk Try.prog 50 = true := by kernel_rfl
theorem chk_docs_SameCells : chkFn Try.prog num [0, 1, 4, 5, 10, 14, 25] Try.f51 F10.docs_SameCells = true := by kernel_rfl
theorem ok_docs_SameCells : callOk Try.prog 51 = true := by kernel_rfl
theorem chk_ref09_There : chkFn Try.prog num [0, 1, 2, 4] Try.f52 F10.ref09_There = true := by kernel_rfl
theorem ok_ref09_There : callOk Try.prog 52 = true := by kernel_rfl
theorem chk_ref09_Head : chkFn Try.prog num [0, 2] Try.f53 F10.ref09_Head = true := by kernel_rfl
theorem ok_ref09_Head : callOk Try.prog 53 = true := by kernel_rfl
theorem chk_ref09_Tail : chkFn Try.prog num [0, 2] Try.f54 F10.ref09_Tail = true := by kernel_rfl
theorem ok_ref09_Tail : callOk Try.prog 54 = true := by kernel_rfl
theorem chk_ref06_Load : chkFn Try.prog num [0, 1, 2, 4, 5, 9] Try.f55 F10.ref06_Load = true := by kernel_rfl
theorem ok_ref06_Load : callOk Try.prog 55 = true := by kernel_rfl
theorem chk_ref09_Word : chkFn Try.prog num [0, 1, 2, 4] Try.f56 F10.ref09_Word = true := by kernel_rfl
theorem ok_ref09_Word : callOk Try.prog 56 = true := by kernel_rfl
theorem chk_ref09_Size : chkFn Try.prog num [0, 2] Try.f57 F10.ref09_Size = true := by kernel_rfl
theorem ok_ref09_Size : callOk Try.prog 57 = true := by kernel_rfl
theorem chk_ref09_Slot : chkFn Try.prog num [0, 1, 2, 3, 6] Try.f58 F10.ref09_Slot = true := by kernel_rfl
theorem ok_ref09_Slot : callOk Try.prog 58 = true := by kernel_rfl
theorem chk_ref06_CAS : chkFn Try.prog num [0, 1, 2, 3, 4, 8, 9, 13, 21] Try.f59 F10.ref06_CAS = true := by kernel_rfl
theorem ok_ref06_CAS : callOk Try.prog 59 = true := by kernel_rfl
theorem chk_ref09_Pack : chkFn Try.prog num [0, 1, 4] Try.f60 F10.ref09_Pack = true := by kernel_rfl
theorem ok_ref09_Pack : callOk Try.prog 60 = true := by kernel_rfl
theorem chk_cell_Mem_access : chkFn Try.prog num [0, 1, 2, 3, 8, 9, 10, 14] Try.f61 F10.cell_Mem_access = true := by kernel_rfl
theorem ok_cell_Mem_access : callOk Try.prog 61 = true := by kernel_rfl
theorem chk_cell_Mem_Store_1 : chkFn Try.prog num [0, 1, 3, 4] Try.f62 F10.cell_Mem_Store_1 = true := by kernel_rfl
theorem ok_cell_Mem_Store_1 : callOk Try.prog 62 = true := by kernel_rfl
theorem chk_ref06_there : chkFn Try.prog num [0, 1, 2, 4] Try.f63 F10.ref06_there = true := by kernel_rfl
theorem ok_ref06_there : callOk Try.prog 63 = true := by kernel_rfl
theorem chk_ref06_with : chkFn Try.prog num [0, 1, 2, 3, 6, 7] Try.f64 F10.ref06_with = true := by kernel_rfl
theorem ok_ref06_with : callOk Try.prog 64 = true := by kernel_rfl
theorem chk_conf_within : chkFn Try.prog num [0, 1, 2, 6] Try.f65 F10.conf_within = true := by kernel_rfl
theorem ok_conf_within : callOk Try.prog 65 = true := by kernel_rfl
theorem chk_conf_own_at : chkFn Try.prog num [0, 1, 2, 4, 18] Try.f66 F10.conf_own_at = true := by kernel_rfl
theorem ok_conf_own_at : callOk Try.prog 66 = true := by kernel_rfl
theorem chk_slices_Clone_uint64 : chkFn Try.prog num [0, 2, 4] Try.f67 F10.slices_Clone_uint64 = true := by kernel_rfl
theorem ok_slices_Clone_uint64 : callOk Try.prog 67 = true := by kernel_rfl
theorem chk_cell_Mem_Load_1 : chkFn Try.prog num [0, 2, 3] Try.f68 F10.cell_Mem_Load_1 = true := by kernel_rfl
theorem ok_cell_Mem_Load_1 : callOk Try.prog 68 = true := by kernel_rfl
theorem chk_word_Len : chkFn Try.prog num [0, 2] Try.f69 F10.word_Len = true := by kernel_rfl
theorem ok_word_Len : callOk Try.prog 69 = true := by kernel_rfl
theorem chk_word_Head : chkFn Try.prog num [0, 2] Try.f70 F10.word_Head = true := by kernel_rfl
theorem ok_word_Head : callOk Try.prog 70 = true := by kernel_rfl
theorem chk_cell_Mem_CAS : chkFn Try.prog num [0, 1, 2, 3, 6, 7, 8, 10] Try.f71 F10.cell_Mem_CAS = true := by kernel_rfl
theorem ok_cell_Mem_CAS : callOk Try.prog 71 = true := by kernel_rfl
theorem chk_word_Gain : chkFn Try.prog num [0, 1, 4] Try.f72 F10.word_Gain = true := by kernel_rfl
theorem ok_word_Gain : callOk Try.prog 72 = true := by kernel_rfl
theorem chk_ref05_Right : chkFn Try.prog num [0, 1, 2, 3, 4, 6] Try.f73 F10.ref05_Right = true := by kernel_rfl
theorem ok_ref05_Right : callOk Try.prog 73 = true := by kernel_rfl
theorem chk_cell_Mem_there : chkFn Try.prog num [0, 1, 4] Try.f74 F10.cell_Mem_there = true := by kernel_rfl
theorem ok_cell_Mem_there : callOk Try.prog 74 = true := by kernel_rfl
theorem chk_cell_counts_note : chkFn Try.prog num [0, 1, 2, 4, 22, 35, 48, 64, 92] Try.f75 F10.cell_counts_note = true := by kernel_rfl
theorem ok_cell_counts_note : callOk Try.prog 75 = true := by kernel_rfl
theorem chk_word_Tail : chkFn Try.prog num [0, 2] Try.f76 F10.word_Tail = true := by kernel_rfl
theorem ok_word_Tail : callOk Try.prog 76 = true := by kernel_rfl
theorem chk_cell_Mem_CAS_1 : chkFn Try.prog num [0, 1, 2, 4, 5, 8] Try.f77 F10.cell_Mem_CAS_1 = true := by kernel_rfl
theorem ok_cell_Mem_CAS_1 : callOk Try.prog 77 = true := by kernel_rfl
theorem chk_word_Pack : chkFn Try.prog num [0, 1, 4] Try.f78 F10.word_Pack = true := by kernel_rfl
theorem ok_word_Pack : callOk Try.prog 78 = true := by kernel_rfl
end Go.Proofs.Ytimgbjimonmkdaa
