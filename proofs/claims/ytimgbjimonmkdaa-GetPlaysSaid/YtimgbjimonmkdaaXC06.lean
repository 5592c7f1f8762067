import Derived.Test.YtimgbjimonmkdaaXF06
set_option linter.unusedSimpArgs false
set_option linter.unusedVariables false
namespace Go.Am.F06
variable {X : Type}
def c_cell_New : AFun X := amFunc [] cell_New
def c_cell_Mem_there : AFun X := amFunc [] cell_Mem_there
def c_cell_counts_note : AFun X := amFunc [] cell_counts_note
def c_cell_Mem_Store_1 : AFun X := amFunc [] cell_Mem_Store_1
def c_cell_Mem_CAS_1 : AFun X := amFunc [] cell_Mem_CAS_1
def c_cell_Mem_Load_1 : AFun X := amFunc [] cell_Mem_Load_1
def c_cell_Mem_Add_1 : AFun X := amFunc [] cell_Mem_Add_1
def c_cell_Mem_access : AFun X := amFunc [(56, c_cell_Mem_there), (71, c_cell_counts_note), (49, c_cell_Mem_Store_1), (51, c_cell_Mem_CAS_1), (52, c_cell_Mem_Load_1), (70, c_cell_Mem_Add_1)] cell_Mem_access
def c_cell_Mem_Store : AFun X := amFunc [(50, c_cell_Mem_access), (49, c_cell_Mem_Store_1)] cell_Mem_Store
def c_cell_Mem_CAS : AFun X := amFunc [(50, c_cell_Mem_access), (51, c_cell_Mem_CAS_1)] cell_Mem_CAS
def c_cell_Mem_Load : AFun X := amFunc [(50, c_cell_Mem_access), (52, c_cell_Mem_Load_1)] cell_Mem_Load
def c_cell_Mem_Ops : AFun X := amFunc [] cell_Mem_Ops
def c_cell_Mem_Len : AFun X := amFunc [] cell_Mem_Len
def c_slices_Clone_uint64 : AFun X := amFunc [] slices_Clone_uint64
def c_cell_Mem_All : AFun X := amFunc [(61, c_slices_Clone_uint64)] cell_Mem_All
def c_docs_SameCells : AFun X := amFunc [] docs_SameCells
def c_ref06_New : AFun X := amFunc [] ref06_New
def c_ref06_there : AFun X := amFunc [] ref06_there
def c_ref06_Load : AFun X := amFunc [(72, c_ref06_there)] ref06_Load
def c_ref06_with : AFun X := amFunc [] ref06_with
def c_ref06_Store : AFun X := amFunc [(72, c_ref06_there), (73, c_ref06_with)] ref06_Store
def c_ref06_CAS : AFun X := amFunc [(72, c_ref06_there), (73, c_ref06_with)] ref06_CAS
end Go.Am.F06
