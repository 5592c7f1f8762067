/- The functions of the seat against their abstract readings, checked by the kernel. -/
import Derived.Test.YtfiogjimbhgacaaChecked
import Derived.Test.YtfiogjimbhgacaaXAmCode
import Derived.Test.YtfiogjimbhgacaaXF18
set_option linter.unusedSimpArgs false
set_option linter.unusedVariables false
namespace Go.Proofs.Ytfiogjimbhgacaa
open Go.Am

def num : Nat → Nat
  | 3 => 3
  | 8 => 4
  | 11 => 5
  | 0 => 6
  | 1 => 7
  | 2 => 8
  | 4 => 9
  | 5 => 10
  | 6 => 11
  | 7 => 12
  | 9 => 13
  | 10 => 14
  | 12 => 15
  | 13 => 16
  | 14 => 17
  | 15 => 18
  | 17 => 19
  | 16 => 20
  | 18 => 21
  | 19 => 22
  | 20 => 23
  | _ => 0

theorem chk_law18_SliceTells : chkFn Try.prog num [0, 2, 3, 4, 5, 6, 7, 8, 9, 10, 11, 12, 13, 16, 24, 87, 139, 156, 157, 160] Try.f3 F18.law18_SliceTells = true := by kernel_rfl
theorem ok_law18_SliceTells : callOk Try.prog 3 = true := by kernel_rfl
theorem chk_law18_SliceNone : chkFn Try.prog num [0, 1, 2, 3, 4, 5] Try.f4 F18.law18_SliceNone = true := by kernel_rfl
theorem ok_law18_SliceNone : callOk Try.prog 4 = true := by kernel_rfl
theorem chk_law18_SliceKnown : chkFn Try.prog num [0, 1, 2, 3, 4, 5, 7, 11, 117] Try.f5 F18.law18_SliceKnown = true := by kernel_rfl
theorem ok_law18_SliceKnown : callOk Try.prog 5 = true := by kernel_rfl
theorem chk_law18_works : chkFn Try.prog num [0, 1, 2, 3, 4, 5, 6, 7, 8, 25, 34, 66] Try.f6 F18.law18_works = true := by kernel_rfl
theorem ok_law18_works : callOk Try.prog 6 = true := by kernel_rfl
theorem chk_slice_Look : chkFn Try.prog num [0, 1, 2, 3, 4, 5, 9, 10, 11, 12, 13, 14, 15, 21, 34, 46, 50] Try.f7 F18.slice_Look = true := by kernel_rfl
theorem ok_slice_Look : callOk Try.prog 7 = true := by kernel_rfl
theorem chk_law18_same : chkFn Try.prog num [0, 1, 2, 6, 7, 11, 24] Try.f8 F18.law18_same = true := by kernel_rfl
theorem ok_law18_same : callOk Try.prog 8 = true := by kernel_rfl
theorem chk_slice_Watch_Look : chkFn Try.prog num [0, 1, 2, 3, 4, 5, 12, 13, 14, 17] Try.f9 F18.slice_Watch_Look = true := by kernel_rfl
theorem ok_slice_Watch_Look : callOk Try.prog 9 = true := by kernel_rfl
theorem chk_slice_Watch_Seen : chkFn Try.prog num [0, 1, 4, 8] Try.f10 F18.slice_Watch_Seen = true := by kernel_rfl
theorem ok_slice_Watch_Seen : callOk Try.prog 10 = true := by kernel_rfl
theorem chk_slice_Watch_Len : chkFn Try.prog num [0, 2, 4] Try.f11 F18.slice_Watch_Len = true := by kernel_rfl
theorem ok_slice_Watch_Len : callOk Try.prog 11 = true := by kernel_rfl
theorem chk_slice_Watch_Copy : chkFn Try.prog num [0, 2, 3, 5] Try.f12 F18.slice_Watch_Copy = true := by kernel_rfl
theorem ok_slice_Watch_Copy : callOk Try.prog 12 = true := by kernel_rfl
theorem chk_law18_SliceLooks : chkFn Try.prog num [0, 1, 2, 3, 4, 6, 7, 8, 9, 10] Try.f13 F18.law18_SliceLooks = true := by kernel_rfl
theorem ok_law18_SliceLooks : callOk Try.prog 13 = true := by kernel_rfl
theorem chk_law18_SliceWatches : chkFn Try.prog num [0, 1, 4, 5, 6, 7, 8, 9, 10, 11, 12, 13, 14, 15, 16, 19, 31, 48, 54, 86, 100, 145, 148, 159] Try.f14 F18.law18_SliceWatches = true := by kernel_rfl
theorem ok_law18_SliceWatches : callOk Try.prog 14 = true := by kernel_rfl
theorem chk_slice_Poll : chkFn Try.prog num [0, 1, 4] Try.f15 F18.slice_Poll = true := by kernel_rfl
theorem ok_slice_Poll : callOk Try.prog 15 = true := by kernel_rfl
theorem chk_slice_count_next : chkFn Try.prog num [0, 1, 2, 3, 6, 12] Try.f16 F18.slice_count_next = true := by kernel_rfl
theorem ok_slice_count_next : callOk Try.prog 16 = true := by kernel_rfl
theorem chk_slice_Look_1 : chkFn Try.prog num [0, 1, 2, 3] Try.f17 F18.slice_Look_1 = true := by kernel_rfl
theorem ok_slice_Look_1 : callOk Try.prog 17 = true := by kernel_rfl
theorem chk_slice_Watch_there : chkFn Try.prog num [0, 1, 4] Try.f18 F18.slice_Watch_there = true := by kernel_rfl
theorem ok_slice_Watch_there : callOk Try.prog 18 = true := by kernel_rfl
theorem chk_ref18_Look : chkFn Try.prog num [0, 1, 2, 3, 4, 5, 10, 11, 17, 27, 34, 50, 63, 68] Try.f19 F18.ref18_Look = true := by kernel_rfl
theorem ok_ref18_Look : callOk Try.prog 19 = true := by kernel_rfl
theorem chk_law18_seen : chkFn Try.prog num [0, 1, 2] Try.f20 F18.law18_seen = true := by kernel_rfl
theorem ok_law18_seen : callOk Try.prog 20 = true := by kernel_rfl
theorem chk_ref18_Poll : chkFn Try.prog num [0, 1, 4] Try.f21 F18.ref18_Poll = true := by kernel_rfl
theorem ok_ref18_Poll : callOk Try.prog 21 = true := by kernel_rfl
theorem chk_slice_New : chkFn Try.prog num [0, 2, 3, 9] Try.f22 F18.slice_New = true := by kernel_rfl
theorem ok_slice_New : callOk Try.prog 22 = true := by kernel_rfl
theorem chk_ref18_old : chkFn Try.prog num [0, 1, 4] Try.f23 F18.ref18_old = true := by kernel_rfl
theorem ok_ref18_old : callOk Try.prog 23 = true := by kernel_rfl
end Go.Proofs.Ytfiogjimbhgacaa
