/- The functions over their callees. -/
import Derived.Test.YtcalffadnfpknaaXF03
set_option linter.unusedSimpArgs false
set_option linter.unusedVariables false
namespace Go.Am.F03
variable {X : Type}

def c_stride_right : AFun X := amFunc [] stride_right
def c_stride_Strides : AFun X := amFunc [(93, c_stride_right)] stride_Strides
def c_slices_Index_int : AFun X := amFunc [] slices_Index_int
def c_stride_Draw : AFun X := amFunc [(81, c_stride_Strides), (96, c_slices_Index_int)] stride_Draw
def c_stride_Gcd : AFun X := amFunc [] stride_Gcd
def c_kit_SameInts : AFun X := amFunc [] kit_SameInts
def c_stride_Orders : AFun X := amFunc [(81, c_stride_Strides)] stride_Orders
def c_stride_Order : AFun X := amFunc [(93, c_stride_right), (85, c_stride_Orders), (81, c_stride_Strides)] stride_Order
def c_slices_Contains_int : AFun X := amFunc [(96, c_slices_Index_int)] slices_Contains_int
def c_stride_Others_1 : AFun X := amFunc [(98, c_slices_Contains_int)] stride_Others_1
def c_slices_IndexFunc_int : AFun X := amFunc [(94, c_stride_Others_1)] slices_IndexFunc_int
def c_slices_DeleteFunc_int : AFun X := amFunc [(97, c_slices_IndexFunc_int), (94, c_stride_Others_1)] slices_DeleteFunc_int
def c_stride_Others : AFun X := amFunc [(82, c_stride_Order), (95, c_slices_DeleteFunc_int), (94, c_stride_Others_1)] stride_Others
def c_law03_works : AFun X := amFunc [(88, c_stride_Draw), (75, c_stride_Gcd), (81, c_stride_Strides), (84, c_kit_SameInts), (85, c_stride_Orders), (82, c_stride_Order), (83, c_stride_Others)] law03_works
def c_ref03_divides : AFun X := amFunc [] ref03_divides
def c_ref03_Gcd : AFun X := amFunc [(92, c_ref03_divides)] ref03_Gcd
def c_law03_StrideGcd : AFun X := amFunc [(74, c_law03_works), (75, c_stride_Gcd), (76, c_ref03_Gcd)] law03_StrideGcd
def c_ref03_Gcd2 : AFun X := amFunc [(92, c_ref03_divides)] ref03_Gcd2
def c_ref03_Strides : AFun X := amFunc [(89, c_ref03_Gcd2)] ref03_Strides
def c_ref03_Order : AFun X := amFunc [(78, c_ref03_Strides)] ref03_Order
def c_ref03_Others : AFun X := amFunc [(79, c_ref03_Order)] ref03_Others
def c_law03_StrideOrders : AFun X := amFunc [(74, c_law03_works), (78, c_ref03_Strides), (79, c_ref03_Order), (80, c_ref03_Others), (81, c_stride_Strides), (82, c_stride_Order), (83, c_stride_Others), (84, c_kit_SameInts), (85, c_stride_Orders)] law03_StrideOrders
def c_kit_Pick : AFun X := amFunc [] kit_Pick
def c_law03_StrideOnce : AFun X := amFunc [(87, c_kit_Pick), (82, c_stride_Order), (85, c_stride_Orders), (84, c_kit_SameInts), (88, c_stride_Draw), (89, c_ref03_Gcd2), (74, c_law03_works)] law03_StrideOnce
def c_law03_StrideKnown : AFun X := amFunc [(86, c_law03_StrideOrders), (90, c_law03_StrideOnce), (88, c_stride_Draw), (85, c_stride_Orders), (77, c_law03_StrideGcd), (74, c_law03_works)] law03_StrideKnown
end Go.Am.F03
