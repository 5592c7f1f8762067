/- The functions of the seat against their abstract readings, checked by the kernel. -/
import Derived.Test.YtldpldoehjpnaaaChecked
import Derived.Test.YtldpldoehjpnaaaXAmCode
import Derived.Test.YtldpldoehjpnaaaXF06
set_option linter.unusedSimpArgs false
set_option linter.unusedVariables false
namespace Go.Proofs.Ytldpldoehjpnaaa
open Go.Am

def num : Nat → Nat
  | 26 => 3
  | 33 => 4
  | 42 => 5
  | 45 => 6
  | 48 => 7
  | 21 => 8
  | 22 => 9
  | 23 => 10
  | 24 => 11
  | 25 => 12
  | 27 => 13
  | 28 => 14
  | 30 => 15
  | 29 => 16
  | 31 => 17
  | 32 => 18
  | 34 => 19
  | 35 => 20
  | 36 => 21
  | 37 => 22
  | 38 => 23
  | 39 => 24
  | 40 => 25
  | 41 => 26
  | 43 => 27
  | 44 => 28
  | 46 => 29
  | 47 => 30
  | 50 => 31
  | 49 => 32
  | 51 => 33
  | 52 => 34
  | 53 => 35
  | 54 => 36
  | 55 => 37
  | 56 => 38
  | 58 => 39
  | 57 => 40
  | 60 => 41
  | 59 => 42
  | 61 => 43
  | 62 => 44
  | 63 => 45
  | 64 => 46
  | 65 => 47
  | 66 => 48
  | 67 => 49
  | 68 => 50
  | 69 => 51
  | 70 => 52
  | 71 => 53
  | 72 => 54
  | 73 => 55
  | _ => 0

theorem chk_law06_CellTwice : chkFn Try.prog num [0, 1, 2, 3, 8, 9, 10, 11, 12, 28, 32] Try.f3 F06.law06_CellTwice = true := by kernel_rfl
theorem ok_law06_CellTwice : callOk Try.prog 3 = true := by kernel_rfl
theorem chk_law06_CellRedoes : chkFn Try.prog num [0, 1, 2, 6, 7, 8, 9, 10, 11, 12, 13, 25, 34, 49] Try.f4 F06.law06_CellRedoes = true := by kernel_rfl
theorem ok_law06_CellRedoes : callOk Try.prog 4 = true := by kernel_rfl
theorem chk_law06_CellPlays : chkFn Try.prog num [0, 1, 4, 5, 6, 7, 8, 9, 10, 11, 12, 13, 16, 19, 38, 67, 105] Try.f5 F06.law06_CellPlays = true := by kernel_rfl
theorem ok_law06_CellPlays : callOk Try.prog 5 = true := by kernel_rfl
theorem chk_law06_CellLogs : chkFn Try.prog num [0, 1, 2, 6, 7, 8, 9, 10, 11, 12, 13, 14, 15, 16, 17, 18, 25, 34, 49, 88, 95, 99, 110, 125] Try.f6 F06.law06_CellLogs = true := by kernel_rfl
theorem ok_law06_CellLogs : callOk Try.prog 6 = true := by kernel_rfl
theorem chk_law06_CellKnown : chkFn Try.prog num [0, 1, 2, 3, 4, 5, 6, 7, 8, 9, 11, 12, 14, 18, 110, 113, 148] Try.f7 F06.law06_CellKnown = true := by kernel_rfl
theorem ok_law06_CellKnown : callOk Try.prog 7 = true := by kernel_rfl
theorem chk_cell_New : chkFn Try.prog num [0, 2] Try.f8 F06.cell_New = true := by kernel_rfl
theorem ok_cell_New : callOk Try.prog 8 = true := by kernel_rfl
theorem chk_cell_Mem_Store : chkFn Try.prog num [0, 1, 2, 5] Try.f9 F06.cell_Mem_Store = true := by kernel_rfl
theorem ok_cell_Mem_Store : callOk Try.prog 9 = true := by kernel_rfl
theorem chk_cell_Mem_CAS : chkFn Try.prog num [0, 1, 2, 3, 6, 7, 8, 10] Try.f10 F06.cell_Mem_CAS = true := by kernel_rfl
theorem ok_cell_Mem_CAS : callOk Try.prog 10 = true := by kernel_rfl
theorem chk_cell_Mem_Load : chkFn Try.prog num [0, 1, 4, 5] Try.f11 F06.cell_Mem_Load = true := by kernel_rfl
theorem ok_cell_Mem_Load : callOk Try.prog 11 = true := by kernel_rfl
theorem chk_law06_works : chkFn Try.prog num [0, 1, 2, 3] Try.f12 F06.law06_works = true := by kernel_rfl
theorem ok_law06_works : callOk Try.prog 12 = true := by kernel_rfl
theorem chk_ref06_NewBook : chkFn Try.prog num [0, 2] Try.f13 F06.ref06_NewBook = true := by kernel_rfl
theorem ok_ref06_NewBook : callOk Try.prog 13 = true := by kernel_rfl
theorem chk_law06_does : chkFn Try.prog num [0, 1, 2, 4, 5, 6, 7, 8, 9, 10, 26, 27, 37, 45, 64] Try.f14 F06.law06_does = true := by kernel_rfl
theorem ok_law06_does : callOk Try.prog 14 = true := by kernel_rfl
theorem chk_ref06_Redo : chkFn Try.prog num [0, 1, 2, 4, 5, 6, 7, 8, 12, 59, 66] Try.f15 F06.ref06_Redo = true := by kernel_rfl
theorem ok_ref06_Redo : callOk Try.prog 15 = true := by kernel_rfl
theorem chk_docs_Accesses : chkFn Try.prog num [0, 2, 3, 4, 8] Try.f16 F06.docs_Accesses = true := by kernel_rfl
theorem ok_docs_Accesses : callOk Try.prog 16 = true := by kernel_rfl
theorem chk_cell_Redo : chkFn Try.prog num [0, 1, 4, 5, 6, 7, 8, 9, 10, 47, 50, 52, 58, 66, 76] Try.f17 F06.cell_Redo = true := by kernel_rfl
theorem ok_cell_Redo : callOk Try.prog 17 = true := by kernel_rfl
theorem chk_docs_SameBook : chkFn Try.prog num [0, 1, 3, 4] Try.f18 F06.docs_SameBook = true := by kernel_rfl
theorem ok_docs_SameBook : callOk Try.prog 18 = true := by kernel_rfl
theorem chk_cell_Mem_Len : chkFn Try.prog num [0, 2, 4] Try.f19 F06.cell_Mem_Len = true := by kernel_rfl
theorem ok_cell_Mem_Len : callOk Try.prog 19 = true := by kernel_rfl
theorem chk_cell_Mem_Copy : chkFn Try.prog num [0, 2, 3, 5] Try.f20 F06.cell_Mem_Copy = true := by kernel_rfl
theorem ok_cell_Mem_Copy : callOk Try.prog 20 = true := by kernel_rfl
theorem chk_cell_Mem_Last : chkFn Try.prog num [0, 2, 3, 14] Try.f21 F06.cell_Mem_Last = true := by kernel_rfl
theorem ok_cell_Mem_Last : callOk Try.prog 21 = true := by kernel_rfl
theorem chk_law06_mems : chkFn Try.prog num [0, 1, 2, 6, 7, 8, 14, 21, 22, 34, 48, 70] Try.f22 F06.law06_mems = true := by kernel_rfl
theorem ok_law06_mems : callOk Try.prog 22 = true := by kernel_rfl
theorem chk_docs_Access : chkFn Try.prog num [0, 1, 2] Try.f23 F06.docs_Access = true := by kernel_rfl
theorem ok_docs_Access : callOk Try.prog 23 = true := by kernel_rfl
theorem chk_cell_Mem_Count : chkFn Try.prog num [0, 2, 4] Try.f24 F06.cell_Mem_Count = true := by kernel_rfl
theorem ok_cell_Mem_Count : callOk Try.prog 24 = true := by kernel_rfl
theorem chk_law06_count : chkFn Try.prog num [0, 1, 4, 5, 6, 7, 8, 9, 10, 16, 47, 49, 54, 60, 66, 74] Try.f25 F06.law06_count = true := by kernel_rfl
theorem ok_law06_count : callOk Try.prog 25 = true := by kernel_rfl
theorem chk_cell_Same : chkFn Try.prog num [0, 1, 4] Try.f26 F06.cell_Same = true := by kernel_rfl
theorem ok_cell_Same : callOk Try.prog 26 = true := by kernel_rfl
theorem chk_cell_Mem_Log : chkFn Try.prog num [0, 2, 4] Try.f27 F06.cell_Mem_Log = true := by kernel_rfl
theorem ok_cell_Mem_Log : callOk Try.prog 27 = true := by kernel_rfl
theorem chk_cell_Mem_Add : chkFn Try.prog num [0, 1, 2, 5, 6, 7] Try.f28 F06.cell_Mem_Add = true := by kernel_rfl
theorem ok_cell_Mem_Add : callOk Try.prog 28 = true := by kernel_rfl
theorem chk_cell_Mem_Ops : chkFn Try.prog num [0, 2, 4] Try.f29 F06.cell_Mem_Ops = true := by kernel_rfl
theorem ok_cell_Mem_Ops : callOk Try.prog 29 = true := by kernel_rfl
theorem chk_cell_Mem_All : chkFn Try.prog num [0, 2, 4] Try.f30 F06.cell_Mem_All = true := by kernel_rfl
theorem ok_cell_Mem_All : callOk Try.prog 30 = true := by kernel_rfl
theorem chk_cell_Mem_access : chkFn Try.prog num [0, 1, 2, 3, 8, 9, 10, 14] Try.f31 F06.cell_Mem_access = true := by kernel_rfl
theorem ok_cell_Mem_access : callOk Try.prog 31 = true := by kernel_rfl
theorem chk_cell_Mem_Store_1 : chkFn Try.prog num [0, 1, 3, 4] Try.f32 F06.cell_Mem_Store_1 = true := by kernel_rfl
theorem ok_cell_Mem_Store_1 : callOk Try.prog 32 = true := by kernel_rfl
theorem chk_cell_Mem_CAS_1 : chkFn Try.prog num [0, 1, 2, 4, 5, 8] Try.f33 F06.cell_Mem_CAS_1 = true := by kernel_rfl
theorem ok_cell_Mem_CAS_1 : callOk Try.prog 33 = true := by kernel_rfl
theorem chk_cell_Mem_Load_1 : chkFn Try.prog num [0, 2, 3] Try.f34 F06.cell_Mem_Load_1 = true := by kernel_rfl
theorem ok_cell_Mem_Load_1 : callOk Try.prog 34 = true := by kernel_rfl
theorem chk_ref06_Do : chkFn Try.prog num [0, 1, 2, 3, 4, 5, 10, 11, 12, 13, 14, 15, 31, 52, 56] Try.f35 F06.ref06_Do = true := by kernel_rfl
theorem ok_ref06_Do : callOk Try.prog 35 = true := by kernel_rfl
theorem chk_ref06_Swapped : chkFn Try.prog num [0, 1, 2, 4] Try.f36 F06.ref06_Swapped = true := by kernel_rfl
theorem ok_ref06_Swapped : callOk Try.prog 36 = true := by kernel_rfl
theorem chk_ref06_At : chkFn Try.prog num [0, 1, 2, 4, 5, 11, 21] Try.f37 F06.ref06_At = true := by kernel_rfl
theorem ok_ref06_At : callOk Try.prog 37 = true := by kernel_rfl
theorem chk_cell_Mem_there : chkFn Try.prog num [0, 1, 4] Try.f38 F06.cell_Mem_there = true := by kernel_rfl
theorem ok_cell_Mem_there : callOk Try.prog 38 = true := by kernel_rfl
theorem chk_docs_SameCells : chkFn Try.prog num [0, 1, 4, 5, 10, 14, 25] Try.f39 F06.docs_SameCells = true := by kernel_rfl
theorem ok_docs_SameCells : callOk Try.prog 39 = true := by kernel_rfl
theorem chk_ref06_All : chkFn Try.prog num [0, 1, 2, 3, 4, 12] Try.f40 F06.ref06_All = true := by kernel_rfl
theorem ok_ref06_All : callOk Try.prog 40 = true := by kernel_rfl
theorem chk_docs_SameLog : chkFn Try.prog num [0, 1, 4, 5, 10, 14, 26] Try.f41 F06.docs_SameLog = true := by kernel_rfl
theorem ok_docs_SameLog : callOk Try.prog 41 = true := by kernel_rfl
theorem chk_ref06_Log : chkFn Try.prog num [0, 1, 2] Try.f42 F06.ref06_Log = true := by kernel_rfl
theorem ok_ref06_Log : callOk Try.prog 42 = true := by kernel_rfl
theorem chk_slices_Clone_uint64 : chkFn Try.prog num [0, 2, 4] Try.f43 F06.slices_Clone_uint64 = true := by kernel_rfl
theorem ok_slices_Clone_uint64 : callOk Try.prog 43 = true := by kernel_rfl
theorem chk_slices_Clone_cell_Access : chkFn Try.prog num [0, 2, 4] Try.f44 F06.slices_Clone_cell_Access = true := by kernel_rfl
theorem ok_slices_Clone_cell_Access : callOk Try.prog 44 = true := by kernel_rfl
theorem chk_ref06_New : chkFn Try.prog num [0, 2] Try.f45 F06.ref06_New = true := by kernel_rfl
theorem ok_ref06_New : callOk Try.prog 45 = true := by kernel_rfl
theorem chk_ref06_Load : chkFn Try.prog num [0, 1, 2, 4, 5, 9] Try.f46 F06.ref06_Load = true := by kernel_rfl
theorem ok_ref06_Load : callOk Try.prog 46 = true := by kernel_rfl
theorem chk_ref06_Store : chkFn Try.prog num [0, 1, 2, 3, 6, 10] Try.f47 F06.ref06_Store = true := by kernel_rfl
theorem ok_ref06_Store : callOk Try.prog 47 = true := by kernel_rfl
theorem chk_ref06_CAS : chkFn Try.prog num [0, 1, 2, 3, 4, 8, 9, 13, 21] Try.f48 F06.ref06_CAS = true := by kernel_rfl
theorem ok_ref06_CAS : callOk Try.prog 48 = true := by kernel_rfl
theorem chk_ref06_Add : chkFn Try.prog num [0, 1, 2, 3, 6, 7, 11] Try.f49 F06.ref06_Add = true := by kernel_rfl
theorem ok_ref06_Add : callOk Try.prog 49 = true := by kernel_rfl
theorem chk_docs_SameMem : chkFn Try.prog num [0, 1, 3, 4] Try.f50 F06.docs_SameMem = true := by kernel_rfl
theorem ok_docs_SameMem : callOk Try.prog 50 = true := by kernel_rfl
theorem chk_slices_Equal_uint64 : chkFn Try.prog num [0, 1, 4, 5, 10, 12, 13, 14, 24] Try.f51 F06.slices_Equal_uint64 = true := by kernel_rfl
theorem ok_slices_Equal_uint64 : callOk Try.prog 51 = true := by kernel_rfl
theorem chk_cell_Mem_Add_1 : chkFn Try.prog num [0, 1, 3, 4] Try.f52 F06.cell_Mem_Add_1 = true := by kernel_rfl
theorem ok_cell_Mem_Add_1 : callOk Try.prog 52 = true := by kernel_rfl
theorem chk_cell_counts_note : chkFn Try.prog num [0, 1, 2, 4, 22, 35, 48, 64, 92] Try.f53 F06.cell_counts_note = true := by kernel_rfl
theorem ok_cell_counts_note : callOk Try.prog 53 = true := by kernel_rfl
theorem chk_ref06_there : chkFn Try.prog num [0, 1, 2, 4] Try.f54 F06.ref06_there = true := by kernel_rfl
theorem ok_ref06_there : callOk Try.prog 54 = true := by kernel_rfl
theorem chk_ref06_with : chkFn Try.prog num [0, 1, 2, 3, 6, 7] Try.f55 F06.ref06_with = true := by kernel_rfl
theorem ok_ref06_with : callOk Try.prog 55 = true := by kernel_rfl
end Go.Proofs.Ytldpldoehjpnaaa
