/- The functions over their callees. -/
import Derived.Test.YtimgbjimonmkdaaXF10
set_option linter.unusedSimpArgs false
set_option linter.unusedVariables false
namespace Go.Am.F10
variable {X : Type}

def c_conf_within : AFun X := amFunc [] conf_within
def c_conf_Config_Right : AFun X := amFunc [(176, c_conf_within)] conf_Config_Right
def c_conf_Config_Cells : AFun X := amFunc [(157, c_conf_Config_Right)] conf_Config_Cells
def c_cell_New : AFun X := amFunc [] cell_New
def c_conf_own_at : AFun X := amFunc [(157, c_conf_Config_Right), (176, c_conf_within)] conf_own_at
def c_conf_Config_Slot : AFun X := amFunc [(157, c_conf_Config_Right), (177, c_conf_own_at)] conf_Config_Slot
def c_cell_Mem_there : AFun X := amFunc [] cell_Mem_there
def c_cell_counts_note : AFun X := amFunc [] cell_counts_note
def c_cell_Mem_Store_1 : AFun X := amFunc [] cell_Mem_Store_1
def c_cell_Mem_CAS_1 : AFun X := amFunc [] cell_Mem_CAS_1
def c_cell_Mem_Load_1 : AFun X := amFunc [] cell_Mem_Load_1
def c_cell_Mem_access : AFun X := amFunc [(56, c_cell_Mem_there), (71, c_cell_counts_note), (49, c_cell_Mem_Store_1), (51, c_cell_Mem_CAS_1), (52, c_cell_Mem_Load_1)] cell_Mem_access
def c_cell_Mem_Store : AFun X := amFunc [(50, c_cell_Mem_access), (49, c_cell_Mem_Store_1)] cell_Mem_Store
def c_conf_Config_Word : AFun X := amFunc [(177, c_conf_own_at)] conf_Config_Word
def c_law10_rings : AFun X := amFunc [(156, c_conf_Config_Cells), (21, c_cell_New), (160, c_conf_Config_Slot), (22, c_cell_Mem_Store), (159, c_conf_Config_Word)] law10_rings
def c_get_New : AFun X := amFunc [(159, c_conf_Config_Word)] get_New
def c_get_Get_Done : AFun X := amFunc [] get_Get_Done
def c_cell_Mem_Load : AFun X := amFunc [(50, c_cell_Mem_access), (52, c_cell_Mem_Load_1)] cell_Mem_Load
def c_word_Tail : AFun X := amFunc [] word_Tail
def c_word_Head : AFun X := amFunc [] word_Head
def c_word_Len : AFun X := amFunc [(182, c_word_Tail), (179, c_word_Head)] word_Len
def c_get_Get_look : AFun X := amFunc [(159, c_conf_Config_Word), (24, c_cell_Mem_Load), (178, c_word_Len)] get_Get_look
def c_get_Get_copy : AFun X := amFunc [(179, c_word_Head), (160, c_conf_Config_Slot), (24, c_cell_Mem_Load)] get_Get_copy
def c_word_Pack : AFun X := amFunc [] word_Pack
def c_word_Gain : AFun X := amFunc [(179, c_word_Head), (182, c_word_Tail), (183, c_word_Pack)] word_Gain
def c_cell_Mem_CAS : AFun X := amFunc [(50, c_cell_Mem_access), (51, c_cell_Mem_CAS_1)] cell_Mem_CAS
def c_get_Get_gain : AFun X := amFunc [(159, c_conf_Config_Word), (180, c_word_Gain), (23, c_cell_Mem_CAS)] get_Get_gain
def c_get_Get_Step : AFun X := amFunc [(138, c_get_Get_Done), (166, c_get_Get_look), (167, c_get_Get_copy), (168, c_get_Get_gain), (49, c_cell_Mem_Store_1), (51, c_cell_Mem_CAS_1), (52, c_cell_Mem_Load_1)] get_Get_Step
def c_get_Get_Got : AFun X := amFunc [] get_Get_Got
def c_slices_Clone_uint64 : AFun X := amFunc [] slices_Clone_uint64
def c_cell_Mem_All : AFun X := amFunc [(61, c_slices_Clone_uint64)] cell_Mem_All
def c_docs_Ring : AFun X := amFunc [(47, c_cell_Mem_All), (156, c_conf_Config_Cells), (159, c_conf_Config_Word), (160, c_conf_Config_Slot)] docs_Ring
def c_kit_SameInts : AFun X := amFunc [] kit_SameInts
def c_docs_Thief : AFun X := amFunc [(136, c_docs_Ring), (159, c_conf_Config_Word), (24, c_cell_Mem_Load), (22, c_cell_Mem_Store)] docs_Thief
def c_get_Get_Tries : AFun X := amFunc [] get_Get_Tries
def c_get_All : AFun X := amFunc [(137, c_get_New), (140, c_get_Get_Step), (141, c_get_Get_Got)] get_All
def c_law10_works : AFun X := amFunc [(155, c_law10_rings), (137, c_get_New), (140, c_get_Get_Step), (141, c_get_Get_Got), (136, c_docs_Ring), (84, c_kit_SameInts), (139, c_docs_Thief), (142, c_get_Get_Tries), (145, c_get_All)] law10_works
def c_kit_Pick : AFun X := amFunc [] kit_Pick
def c_docs_Made : AFun X := amFunc [(87, c_kit_Pick)] docs_Made
def c_docs_byteAt : AFun X := amFunc [] docs_byteAt
def c_conf_Config_Next : AFun X := amFunc [(177, c_conf_own_at)] conf_Config_Next
def c_conf_Config_Stat : AFun X := amFunc [(177, c_conf_own_at)] conf_Config_Stat
def c_conf_Config_Tick : AFun X := amFunc [(177, c_conf_own_at)] conf_Config_Tick
def c_conf_Config_Sys : AFun X := amFunc [(177, c_conf_own_at)] conf_Config_Sys
def c_conf_Config_Flag : AFun X := amFunc [(177, c_conf_own_at)] conf_Config_Flag
def c_docs_Filled : AFun X := amFunc [(156, c_conf_Config_Cells), (157, c_conf_Config_Right), (158, c_docs_byteAt), (159, c_conf_Config_Word), (160, c_conf_Config_Slot), (161, c_conf_Config_Next), (162, c_conf_Config_Stat), (163, c_conf_Config_Tick), (164, c_conf_Config_Sys), (165, c_conf_Config_Flag)] docs_Filled
def c_ref06_New : AFun X := amFunc [] ref06_New
def c_ref06_there : AFun X := amFunc [] ref06_there
def c_ref06_with : AFun X := amFunc [] ref06_with
def c_ref06_Store : AFun X := amFunc [(72, c_ref06_there), (73, c_ref06_with)] ref06_Store
def c_docs_Mem : AFun X := amFunc [(21, c_cell_New), (63, c_ref06_New), (22, c_cell_Mem_Store), (65, c_ref06_Store)] docs_Mem
def c_law10_GetOldest : AFun X := amFunc [(132, c_law10_works), (133, c_docs_Made), (87, c_kit_Pick), (134, c_docs_Filled), (135, c_docs_Mem), (136, c_docs_Ring), (137, c_get_New), (138, c_get_Get_Done), (139, c_docs_Thief), (140, c_get_Get_Step), (84, c_kit_SameInts), (141, c_get_Get_Got), (142, c_get_Get_Tries)] law10_GetOldest
def c_get_Get_Hands : AFun X := amFunc [(141, c_get_Get_Got)] get_Get_Hands
def c_cell_Mem_Ops : AFun X := amFunc [] cell_Mem_Ops
def c_law10_GetNone : AFun X := amFunc [(21, c_cell_New), (87, c_kit_Pick), (137, c_get_New), (141, c_get_Get_Got), (140, c_get_Get_Step), (138, c_get_Get_Done), (142, c_get_Get_Tries), (144, c_get_Get_Hands), (46, c_cell_Mem_Ops), (145, c_get_All), (132, c_law10_works)] law10_GetNone
def c_docs_Config : AFun X := amFunc [] docs_Config
def c_ref05_Right : AFun X := amFunc [] ref05_Right
def c_ref09_There : AFun X := amFunc [(181, c_ref05_Right)] ref09_There
def c_ref10_New : AFun X := amFunc [(169, c_ref09_There)] ref10_New
def c_ref09_Head : AFun X := amFunc [] ref09_Head
def c_ref09_Tail : AFun X := amFunc [] ref09_Tail
def c_ref09_Word : AFun X := amFunc [] ref09_Word
def c_ref06_Load : AFun X := amFunc [(72, c_ref06_there)] ref06_Load
def c_ref09_Size : AFun X := amFunc [(171, c_ref09_Tail), (170, c_ref09_Head)] ref09_Size
def c_ref09_Slot : AFun X := amFunc [(172, c_ref09_Word)] ref09_Slot
def c_ref09_Pack : AFun X := amFunc [] ref09_Pack
def c_ref06_CAS : AFun X := amFunc [(72, c_ref06_there), (73, c_ref06_with)] ref06_CAS
def c_ref10_Step : AFun X := amFunc [(170, c_ref09_Head), (171, c_ref09_Tail), (172, c_ref09_Word), (64, c_ref06_Load), (173, c_ref09_Size), (174, c_ref09_Slot), (175, c_ref09_Pack), (66, c_ref06_CAS)] ref10_Step
def c_ref10_All : AFun X := amFunc [(150, c_ref10_New), (152, c_ref10_Step)] ref10_All
def c_cell_Mem_Len : AFun X := amFunc [] cell_Mem_Len
def c_docs_SameCells : AFun X := amFunc [] docs_SameCells
def c_docs_SameMem : AFun X := amFunc [(34, c_cell_Mem_Len), (46, c_cell_Mem_Ops), (47, c_cell_Mem_All), (58, c_docs_SameCells)] docs_SameMem
def c_law10_GetAll : AFun X := amFunc [(132, c_law10_works), (134, c_docs_Filled), (135, c_docs_Mem), (136, c_docs_Ring), (147, c_docs_Config), (148, c_ref10_All), (145, c_get_All), (84, c_kit_SameInts), (68, c_docs_SameMem)] law10_GetAll
def c_law10_is : AFun X := amFunc [(144, c_get_Get_Hands), (141, c_get_Get_Got), (142, c_get_Get_Tries), (138, c_get_Get_Done)] law10_is
def c_law10_GetPlays : AFun X := amFunc [(132, c_law10_works), (134, c_docs_Filled), (135, c_docs_Mem), (137, c_get_New), (147, c_docs_Config), (150, c_ref10_New), (151, c_law10_is), (68, c_docs_SameMem), (46, c_cell_Mem_Ops), (152, c_ref10_Step), (140, c_get_Get_Step), (87, c_kit_Pick), (22, c_cell_Mem_Store), (65, c_ref06_Store)] law10_GetPlays
def c_law10_GetKnown : AFun X := amFunc [(133, c_docs_Made), (153, c_law10_GetPlays), (149, c_law10_GetAll), (143, c_law10_GetOldest), (146, c_law10_GetNone), (132, c_law10_works)] law10_GetKnown
end Go.Am.F10
