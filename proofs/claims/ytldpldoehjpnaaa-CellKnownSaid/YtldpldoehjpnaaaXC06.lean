/- The functions over their callees. -/
import Derived.Test.YtldpldoehjpnaaaXF06
set_option linter.unusedSimpArgs false
set_option linter.unusedVariables false
namespace Go.Am.F06
variable {X : Type}

def c_cell_New : AFun X := amFunc [] cell_New
def c_cell_Mem_there : AFun X := amFunc [] cell_Mem_there
def c_cell_counts_note : AFun X := amFunc [] cell_counts_note
def c_cell_Mem_Store_1 : AFun X := amFunc [] cell_Mem_Store_1
def c_cell_Mem_CAS_1 : AFun X := amFunc [] cell_Mem_CAS_1
def c_cell_Mem_Load_1 : AFun X := amFunc [] cell_Mem_Load_1
def c_cell_Mem_Add_1 : AFun X := amFunc [] cell_Mem_Add_1
def c_cell_Mem_access : AFun X := amFunc [(56, c_cell_Mem_there), (71, c_cell_counts_note), (49, c_cell_Mem_Store_1), (51, c_cell_Mem_CAS_1), (52, c_cell_Mem_Load_1), (70, c_cell_Mem_Add_1)] cell_Mem_access
def c_cell_Mem_Store : AFun X := amFunc [(50, c_cell_Mem_access), (49, c_cell_Mem_Store_1)] cell_Mem_Store
def c_cell_Mem_CAS : AFun X := amFunc [(50, c_cell_Mem_access), (51, c_cell_Mem_CAS_1)] cell_Mem_CAS
def c_cell_Mem_Load : AFun X := amFunc [(50, c_cell_Mem_access), (52, c_cell_Mem_Load_1)] cell_Mem_Load
def c_cell_Mem_Add : AFun X := amFunc [(50, c_cell_Mem_access), (70, c_cell_Mem_Add_1)] cell_Mem_Add
def c_cell_Mem_Ops : AFun X := amFunc [] cell_Mem_Ops
def c_cell_Mem_Len : AFun X := amFunc [] cell_Mem_Len
def c_law06_works : AFun X := amFunc [(21, c_cell_New), (22, c_cell_Mem_Store), (23, c_cell_Mem_CAS), (44, c_cell_Mem_Add), (24, c_cell_Mem_Load), (46, c_cell_Mem_Ops), (34, c_cell_Mem_Len)] law06_works
def c_law06_CellTwice : AFun X := amFunc [(21, c_cell_New), (22, c_cell_Mem_Store), (23, c_cell_Mem_CAS), (24, c_cell_Mem_Load), (25, c_law06_works)] law06_CellTwice
def c_ref06_NewBook : AFun X := amFunc [] ref06_NewBook
def c_ref06_At : AFun X := amFunc [] ref06_At
def c_ref06_Do : AFun X := amFunc [(55, c_ref06_At)] ref06_Do
def c_ref06_Swapped : AFun X := amFunc [] ref06_Swapped
def c_law06_does : AFun X := amFunc [(53, c_ref06_Do), (24, c_cell_Mem_Load), (22, c_cell_Mem_Store), (23, c_cell_Mem_CAS), (54, c_ref06_Swapped), (44, c_cell_Mem_Add)] law06_does
def c_docs_Access : AFun X := amFunc [] docs_Access
def c_docs_Accesses : AFun X := amFunc [(38, c_docs_Access)] docs_Accesses
def c_ref06_Redo : AFun X := amFunc [(55, c_ref06_At), (53, c_ref06_Do)] ref06_Redo
def c_cell_Redo : AFun X := amFunc [(56, c_cell_Mem_there), (24, c_cell_Mem_Load), (22, c_cell_Mem_Store), (23, c_cell_Mem_CAS), (44, c_cell_Mem_Add)] cell_Redo
def c_slices_Clone_uint64 : AFun X := amFunc [] slices_Clone_uint64
def c_cell_Mem_All : AFun X := amFunc [(61, c_slices_Clone_uint64)] cell_Mem_All
def c_ref06_All : AFun X := amFunc [] ref06_All
def c_docs_SameCells : AFun X := amFunc [] docs_SameCells
def c_slices_Clone_cell_Access : AFun X := amFunc [] slices_Clone_cell_Access
def c_cell_Mem_Log : AFun X := amFunc [(62, c_slices_Clone_cell_Access)] cell_Mem_Log
def c_ref06_Log : AFun X := amFunc [] ref06_Log
def c_docs_SameLog : AFun X := amFunc [(38, c_docs_Access)] docs_SameLog
def c_docs_SameBook : AFun X := amFunc [(34, c_cell_Mem_Len), (46, c_cell_Mem_Ops), (47, c_cell_Mem_All), (57, c_ref06_All), (58, c_docs_SameCells), (43, c_cell_Mem_Log), (59, c_ref06_Log), (60, c_docs_SameLog)] docs_SameBook
def c_law06_CellRedoes : AFun X := amFunc [(25, c_law06_works), (21, c_cell_New), (27, c_ref06_NewBook), (28, c_law06_does), (29, c_docs_Accesses), (30, c_ref06_Redo), (31, c_cell_Redo), (32, c_docs_SameBook)] law06_CellRedoes
def c_cell_Mem_Copy : AFun X := amFunc [(61, c_slices_Clone_uint64), (62, c_slices_Clone_cell_Access)] cell_Mem_Copy
def c_cell_Mem_Last : AFun X := amFunc [] cell_Mem_Last
def c_ref06_New : AFun X := amFunc [] ref06_New
def c_ref06_there : AFun X := amFunc [] ref06_there
def c_ref06_Load : AFun X := amFunc [(72, c_ref06_there)] ref06_Load
def c_ref06_with : AFun X := amFunc [] ref06_with
def c_ref06_Store : AFun X := amFunc [(72, c_ref06_there), (73, c_ref06_with)] ref06_Store
def c_ref06_CAS : AFun X := amFunc [(72, c_ref06_there), (73, c_ref06_with)] ref06_CAS
def c_ref06_Add : AFun X := amFunc [(72, c_ref06_there), (73, c_ref06_with)] ref06_Add
def c_docs_SameMem : AFun X := amFunc [(34, c_cell_Mem_Len), (46, c_cell_Mem_Ops), (47, c_cell_Mem_All), (58, c_docs_SameCells)] docs_SameMem
def c_law06_mems : AFun X := amFunc [(63, c_ref06_New), (64, c_ref06_Load), (65, c_ref06_Store), (66, c_ref06_CAS), (67, c_ref06_Add), (68, c_docs_SameMem)] law06_mems
def c_cell_Mem_Count : AFun X := amFunc [] cell_Mem_Count
def c_law06_count : AFun X := amFunc [(27, c_ref06_NewBook), (53, c_ref06_Do), (54, c_ref06_Swapped)] law06_count
def c_slices_Equal_uint64 : AFun X := amFunc [] slices_Equal_uint64
def c_cell_Same : AFun X := amFunc [(47, c_cell_Mem_All), (69, c_slices_Equal_uint64)] cell_Same
def c_law06_CellPlays : AFun X := amFunc [(25, c_law06_works), (21, c_cell_New), (34, c_cell_Mem_Len), (27, c_ref06_NewBook), (35, c_cell_Mem_Copy), (28, c_law06_does), (36, c_cell_Mem_Last), (37, c_law06_mems), (32, c_docs_SameBook), (38, c_docs_Access), (39, c_cell_Mem_Count), (40, c_law06_count), (41, c_cell_Same)] law06_CellPlays
def c_law06_CellLogs : AFun X := amFunc [(25, c_law06_works), (21, c_cell_New), (27, c_ref06_NewBook), (28, c_law06_does), (43, c_cell_Mem_Log), (31, c_cell_Redo), (41, c_cell_Same), (34, c_cell_Mem_Len), (44, c_cell_Mem_Add)] law06_CellLogs
def c_law06_CellKnown : AFun X := amFunc [(42, c_law06_CellPlays), (33, c_law06_CellRedoes), (45, c_law06_CellLogs), (26, c_law06_CellTwice), (21, c_cell_New), (44, c_cell_Mem_Add), (43, c_cell_Mem_Log), (46, c_cell_Mem_Ops), (24, c_cell_Mem_Load), (22, c_cell_Mem_Store), (36, c_cell_Mem_Last), (23, c_cell_Mem_CAS), (39, c_cell_Mem_Count), (34, c_cell_Mem_Len), (47, c_cell_Mem_All), (35, c_cell_Mem_Copy), (31, c_cell_Redo), (41, c_cell_Same), (25, c_law06_works)] law06_CellKnown
end Go.Am.F06
