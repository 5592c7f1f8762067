/- The functions of the seat against their abstract readings, checked by the kernel. -/
import Derived.Test.YtcalffadnfpknaaChecked
import Derived.Test.YtcalffadnfpknaaXAmCode
import Derived.Test.YtcalffadnfpknaaXF03
set_option linter.unusedSimpArgs false
set_option linter.unusedVariables false
namespace Go.Proofs.Ytcalffadnfpknaa
open Go.Am

def num : Nat → Nat
  | 77 => 3
  | 86 => 4
  | 90 => 5
  | 91 => 6
  | 74 => 7
  | 75 => 8
  | 76 => 9
  | 78 => 10
  | 79 => 11
  | 80 => 12
  | 81 => 13
  | 82 => 14
  | 83 => 15
  | 84 => 16
  | 85 => 17
  | 87 => 18
  | 88 => 19
  | 89 => 20
  | 92 => 21
  | 93 => 22
  | 95 => 23
  | 94 => 24
  | 98 => 25
  | 96 => 26
  | 97 => 27
  | _ => 0

theorem chk_law03_StrideGcd : chkFn Try.prog num [0, 2, 3, 4, 7, 12] Try.f3 F03.law03_StrideGcd = true := by kernel_rfl
theorem ok_law03_StrideGcd : callOk Try.prog 3 = true := by kernel_rfl
theorem chk_law03_StrideOrders : chkFn Try.prog num [0, 1, 2, 6, 7, 8, 9, 10, 11, 12, 13, 14, 15, 16, 17, 20, 35, 62, 66, 75, 84] Try.f4 F03.law03_StrideOrders = true := by kernel_rfl
theorem ok_law03_StrideOrders : callOk Try.prog 4 = true := by kernel_rfl
theorem chk_law03_StrideOnce : chkFn Try.prog num [0, 1, 2, 3, 8, 9, 10, 11, 12, 13, 14, 15, 16, 17, 18, 19, 20, 59, 64, 88, 96, 110, 132, 150, 192, 193, 231] Try.f5 F03.law03_StrideOnce = true := by kernel_rfl
theorem ok_law03_StrideOnce : callOk Try.prog 5 = true := by kernel_rfl
theorem chk_law03_StrideKnown : chkFn Try.prog num [0, 1, 2, 3, 4, 6, 10, 34] Try.f6 F03.law03_StrideKnown = true := by kernel_rfl
theorem ok_law03_StrideKnown : callOk Try.prog 6 = true := by kernel_rfl
theorem chk_law03_works : chkFn Try.prog num [0, 1, 2] Try.f7 F03.law03_works = true := by kernel_rfl
theorem ok_law03_works : callOk Try.prog 7 = true := by kernel_rfl
theorem chk_stride_Gcd : chkFn Try.prog num [0, 2, 4, 5, 6, 7, 8, 12] Try.f8 F03.stride_Gcd = true := by kernel_rfl
theorem ok_stride_Gcd : callOk Try.prog 8 = true := by kernel_rfl
theorem chk_ref03_Gcd : chkFn Try.prog num [0, 2, 3, 4, 5, 6, 7, 9, 15, 38] Try.f9 F03.ref03_Gcd = true := by kernel_rfl
theorem ok_ref03_Gcd : callOk Try.prog 9 = true := by kernel_rfl
theorem chk_ref03_Strides : chkFn Try.prog num [0, 2, 3, 4, 11, 17] Try.f10 F03.ref03_Strides = true := by kernel_rfl
theorem ok_ref03_Strides : callOk Try.prog 10 = true := by kernel_rfl
theorem chk_ref03_Order : chkFn Try.prog num [0, 1, 4, 5, 6, 7, 8, 14, 25, 31] Try.f11 F03.ref03_Order = true := by kernel_rfl
theorem ok_ref03_Order : callOk Try.prog 11 = true := by kernel_rfl
theorem chk_ref03_Others : chkFn Try.prog num [0, 1, 2, 6, 7, 8, 9, 10, 11, 18, 24, 40] Try.f12 F03.ref03_Others = true := by kernel_rfl
theorem ok_ref03_Others : callOk Try.prog 12 = true := by kernel_rfl
theorem chk_stride_Strides : chkFn Try.prog num [0, 2, 3, 4, 5, 8, 9, 10, 11, 14, 15, 16, 34] Try.f13 F03.stride_Strides = true := by kernel_rfl
theorem ok_stride_Strides : callOk Try.prog 13 = true := by kernel_rfl
theorem chk_stride_Order : chkFn Try.prog num [0, 1, 4, 5, 6, 7, 10, 30, 31, 32] Try.f14 F03.stride_Order = true := by kernel_rfl
theorem ok_stride_Order : callOk Try.prog 14 = true := by kernel_rfl
theorem chk_stride_Others : chkFn Try.prog num [0, 1, 2, 5, 6] Try.f15 F03.stride_Others = true := by kernel_rfl
theorem ok_stride_Others : callOk Try.prog 15 = true := by kernel_rfl
theorem chk_kit_SameInts : chkFn Try.prog num [0, 1, 4, 5, 10, 14, 25] Try.f16 F03.kit_SameInts = true := by kernel_rfl
theorem ok_kit_SameInts : callOk Try.prog 16 = true := by kernel_rfl
theorem chk_stride_Orders : chkFn Try.prog num [0, 2] Try.f17 F03.stride_Orders = true := by kernel_rfl
theorem ok_stride_Orders : callOk Try.prog 17 = true := by kernel_rfl
theorem chk_kit_Pick : chkFn Try.prog num [0, 1, 4, 6] Try.f18 F03.kit_Pick = true := by kernel_rfl
theorem ok_kit_Pick : callOk Try.prog 18 = true := by kernel_rfl
theorem chk_stride_Draw : chkFn Try.prog num [0, 1, 2, 6, 7, 8, 23] Try.f19 F03.stride_Draw = true := by kernel_rfl
theorem ok_stride_Draw : callOk Try.prog 19 = true := by kernel_rfl
theorem chk_ref03_Gcd2 : chkFn Try.prog num [0, 1, 4, 5, 6, 8, 18] Try.f20 F03.ref03_Gcd2 = true := by kernel_rfl
theorem ok_ref03_Gcd2 : callOk Try.prog 20 = true := by kernel_rfl
theorem chk_ref03_divides : chkFn Try.prog num [0, 1, 4] Try.f21 F03.ref03_divides = true := by kernel_rfl
theorem ok_ref03_divides : callOk Try.prog 21 = true := by kernel_rfl
theorem chk_stride_right : chkFn Try.prog num [0, 2] Try.f22 F03.stride_right = true := by kernel_rfl
theorem ok_stride_right : callOk Try.prog 22 = true := by kernel_rfl
theorem chk_slices_DeleteFunc_int : chkFn Try.prog num [0, 1, 4, 5, 6, 7, 12, 19, 29] Try.f23 F03.slices_DeleteFunc_int = true := by kernel_rfl
theorem ok_slices_DeleteFunc_int : callOk Try.prog 23 = true := by kernel_rfl
theorem chk_stride_Others_1 : chkFn Try.prog num [0, 1, 3] Try.f24 F03.stride_Others_1 = true := by kernel_rfl
theorem ok_stride_Others_1 : callOk Try.prog 24 = true := by kernel_rfl
theorem chk_slices_Contains_int : chkFn Try.prog num [0, 1, 4] Try.f25 F03.slices_Contains_int = true := by kernel_rfl
theorem ok_slices_Contains_int : callOk Try.prog 25 = true := by kernel_rfl
theorem chk_slices_Index_int : chkFn Try.prog num [0, 1, 4, 5, 7, 8, 9, 16] Try.f26 F03.slices_Index_int = true := by kernel_rfl
theorem ok_slices_Index_int : callOk Try.prog 26 = true := by kernel_rfl
theorem chk_slices_IndexFunc_int : chkFn Try.prog num [0, 1, 4, 5, 7, 8, 9, 16] Try.f27 F03.slices_IndexFunc_int = true := by kernel_rfl
theorem ok_slices_IndexFunc_int : callOk Try.prog 27 = true := by kernel_rfl
end Go.Proofs.Ytcalffadnfpknaa
