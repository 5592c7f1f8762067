import Derived.Test.YtmgahjccidmlaaaGreatChecked
import Derived.Test.YtmgahjccidmlaaaGreatXG10
import Derived.Test.YtmgahjccidmlaaaGreatXG12
set_option linter.unusedSimpArgs false
set_option linter.unusedVariables false
namespace Go.Proofs.YtmgahjccidmlaaaGreat
open Go.Am
def num:Nat→Nat
 | 269=>3
 | 133=>4
 | 159=>5
 | 265=>6
 | 266=>7
 | 267=>8
 | 268=>9
 | 87=>10
 | 177=>11
 | 135=>12
 | 134=>13
 | 270=>14
 | 271=>15
 | 147=>16
 | 272=>17
 | 68=>18
 | 46=>19
 | 273=>20
 | 274=>21
 | 22=>22
 | 65=>23
 | 136=>24
 | 185=>25
 | 275=>26
 | 84=>27
 | 276=>28
 | 186=>29
 | 187=>30
 | 139=>31
 | 277=>32
 | 278=>33
 | 279=>34
 | 280=>35
 | 21=>36
 | 281=>37
 | 157=>38
 | 176=>39
 | 63=>40
 | 156=>41
 | 158=>42
 | 160=>43
 | 161=>44
 | 162=>45
 | 163=>46
 | 164=>47
 | 165=>48
 | 169=>49
 | 282=>50
 | 34=>51
 | 58=>52
 | 47=>53
 | 173=>54
 | 170=>55
 | 171=>56
 | 64=>57
 | 172=>58
 | 174=>59
 | 66=>60
 | 175=>61
 | 201=>62
 | 202=>63
 | 283=>64
 | 284=>65
 | 285=>66
 | 195=>67
 | 50=>68
 | 49=>69
 | 72=>70
 | 73=>71
 | 206=>72
 | 287=>73
 | 286=>74
 | 191=>75
 | 207=>76
 | 208=>77
 | 24=>78
 | 181=>79
 | 61=>80
 | 178=>81
 | 179=>82
 | 288=>83
 | 23=>84
 | 180=>85
 | 199=>86
 | 196=>87
 | 209=>88
 | 210=>89
 | 212=>90
 | 211=>91
 | 56=>92
 | 71=>93
 | 290=>94
 | 197=>95
 | 214=>96
 | 215=>97
 | 216=>98
 | 217=>99
 | 218=>100
 | 52=>101
 | 182=>102
 | 289=>103
 | 51=>104
 | 183=>105
 | 95=>106
 | 213=>107
 | 219=>108
 | 220=>109
 | 221=>110
 | 97=>111
 | _=>0
theorem chk_law11_StealKnown:chkFn Tryz.prog num [0,1,2,3,4,5,6,7,9,21,118] Tryz.f3 F12.law11_StealKnown=true:=by kernel_rfl
theorem chk_docs_Made:chkFn Tryz.prog num [0,1,2,3] Tryz.f4 F12.docs_Made=true:=by kernel_rfl
theorem ok_docs_Made:callOk Tryz.prog 4=true:=by kernel_rfl
theorem chk_conf_Config_Word:chkFn Tryz.prog num [0,1,2,4] Tryz.f5 F12.conf_Config_Word=true:=by kernel_rfl
theorem ok_conf_Config_Word:callOk Tryz.prog 5=true:=by kernel_rfl
theorem chk_law11_StealPlays:chkFn Tryz.prog num [0,1,2,3,4,5,10,11,12,13,14,15,16,17,18,19,27,48,66,70,94,105] Tryz.f6 F12.law11_StealPlays=true:=by kernel_rfl
theorem ok_law11_StealPlays:callOk Tryz.prog 6=true:=by kernel_rfl
theorem chk_law11_StealKeeps:chkFn Tryz.prog num [0,1,2,3,6,7,8,10,11,12,13,14,15,16,17,18,19,20,21,29,46,91,102,114,125,154,155,159,179,205,206] Tryz.f7 F12.law11_StealKeeps=true:=by kernel_rfl
theorem ok_law11_StealKeeps:callOk Tryz.prog 7=true:=by kernel_rfl
theorem chk_law11_StealNone:chkFn Tryz.prog num [0,1,2,4,5,6,7,8,9,10,11,26,84] Tryz.f8 F12.law11_StealNone=true:=by kernel_rfl
theorem ok_law11_StealNone:callOk Tryz.prog 8=true:=by kernel_rfl
theorem chk_law11_works:chkFn Tryz.prog num [0,1,2,3,4,5,6,8,9,10,11,25,63,83] Tryz.f9 F12.law11_works=true:=by kernel_rfl
theorem ok_law11_works:callOk Tryz.prog 9=true:=by kernel_rfl
theorem chk_kit_Pick:chkFn Tryz.prog num [0,1,4,6] Tryz.f10 F12.kit_Pick=true:=by kernel_rfl
theorem ok_kit_Pick:callOk Tryz.prog 10=true:=by kernel_rfl
theorem chk_conf_own_at:chkFn Tryz.prog num [0,1,2,4,18] Tryz.f11 F12.conf_own_at=true:=by kernel_rfl
theorem ok_conf_own_at:callOk Tryz.prog 11=true:=by kernel_rfl
theorem chk_docs_Mem:chkFn Tryz.prog num [0,2,3,4,5,6,23] Tryz.f12 F12.docs_Mem=true:=by kernel_rfl
theorem ok_docs_Mem:callOk Tryz.prog 12=true:=by kernel_rfl
theorem chk_docs_Filled:chkFn Tryz.prog num [0,1,2,4,5,6,7,8,9,20,34,63,86] Tryz.f13 F12.docs_Filled=true:=by kernel_rfl
theorem ok_docs_Filled:callOk Tryz.prog 13=true:=by kernel_rfl
theorem chk_steal_New:chkFn Tryz.prog num [0,1,2,3,6,7,27] Tryz.f14 F12.steal_New=true:=by kernel_rfl
theorem ok_steal_New:callOk Tryz.prog 14=true:=by kernel_rfl
theorem chk_ref11_New:chkFn Tryz.prog num [0,1,2,3,6,21] Tryz.f15 F12.ref11_New=true:=by kernel_rfl
theorem ok_ref11_New:callOk Tryz.prog 15=true:=by kernel_rfl
theorem chk_docs_Config:chkFn Tryz.prog num [0,1,2] Tryz.f16 F12.docs_Config=true:=by kernel_rfl
theorem ok_docs_Config:callOk Tryz.prog 16=true:=by kernel_rfl
theorem chk_law11_is:chkFn Tryz.prog num [0,1,3,4,5,6,7,8,9,10,11,12,30,83,87,96] Tryz.f17 F12.law11_is=true:=by kernel_rfl
theorem ok_law11_is:callOk Tryz.prog 17=true:=by kernel_rfl
theorem chk_docs_SameMem:chkFn Tryz.prog num [0,1,3,4] Tryz.f18 F12.docs_SameMem=true:=by kernel_rfl
theorem ok_docs_SameMem:callOk Tryz.prog 18=true:=by kernel_rfl
theorem chk_cell_Mem_Ops:chkFn Tryz.prog num [0,2,4] Tryz.f19 F12.cell_Mem_Ops=true:=by kernel_rfl
theorem ok_cell_Mem_Ops:callOk Tryz.prog 19=true:=by kernel_rfl
theorem chk_ref11_Step:chkFn Tryz.prog num [0,1,2,3,4,5,6,7,8,9,10,11,12,13,14,29,30,57,59,93,95,116,131,134,147] Tryz.f20 F12.ref11_Step=true:=by kernel_rfl
theorem ok_ref11_Step:callOk Tryz.prog 20=true:=by kernel_rfl
theorem chk_steal_Steal_Step:chkFn Tryz.prog num [0,1,4,6,10,11,16,21,26,34] Tryz.f21 F12.steal_Steal_Step=true:=by kernel_rfl
theorem ok_steal_Steal_Step:callOk Tryz.prog 21=true:=by kernel_rfl
theorem chk_cell_Mem_Store:chkFn Tryz.prog num [0,1,2,5] Tryz.f22 F12.cell_Mem_Store=true:=by kernel_rfl
theorem ok_cell_Mem_Store:callOk Tryz.prog 22=true:=by kernel_rfl
theorem chk_ref06_Store:chkFn Tryz.prog num [0,1,2,3,6,10] Tryz.f23 F12.ref06_Store=true:=by kernel_rfl
theorem ok_ref06_Store:callOk Tryz.prog 23=true:=by kernel_rfl
theorem chk_docs_Ring:chkFn Tryz.prog num [0,1,2,3,6,7,8,9,10,11,12,13,34,59,75] Tryz.f24 F12.docs_Ring=true:=by kernel_rfl
theorem ok_docs_Ring:callOk Tryz.prog 24=true:=by kernel_rfl
theorem chk_put_New:chkFn Tryz.prog num [0,1,2,3,6,7,15,25] Tryz.f25 F12.put_New=true:=by kernel_rfl
theorem ok_put_New:callOk Tryz.prog 25=true:=by kernel_rfl
theorem chk_steal_Steal_Many:chkFn Tryz.prog num [0,2,4] Tryz.f26 F12.steal_Steal_Many=true:=by kernel_rfl
theorem ok_steal_Steal_Many:callOk Tryz.prog 26=true:=by kernel_rfl
theorem chk_kit_SameInts:chkFn Tryz.prog num [0,1,4,5,10,14,25] Tryz.f27 F12.kit_SameInts=true:=by kernel_rfl
theorem ok_kit_SameInts:callOk Tryz.prog 27=true:=by kernel_rfl
theorem chk_steal_Steal_Hands:chkFn Tryz.prog num [0,2,5] Tryz.f28 F12.steal_Steal_Hands=true:=by kernel_rfl
theorem ok_steal_Steal_Hands:callOk Tryz.prog 28=true:=by kernel_rfl
theorem chk_put_Put_Step:chkFn Tryz.prog num [0,1,4,7] Tryz.f29 F12.put_Put_Step=true:=by kernel_rfl
theorem ok_put_Put_Step:callOk Tryz.prog 29=true:=by kernel_rfl
theorem chk_put_Put_Over:chkFn Tryz.prog num [0,2,12] Tryz.f30 F12.put_Put_Over=true:=by kernel_rfl
theorem ok_put_Put_Over:callOk Tryz.prog 30=true:=by kernel_rfl
theorem chk_docs_Thief:chkFn Tryz.prog num [0,1,2,3,4,8,9,10,11,12,26] Tryz.f31 F12.docs_Thief=true:=by kernel_rfl
theorem ok_docs_Thief:callOk Tryz.prog 31=true:=by kernel_rfl
theorem chk_steal_Steal_Done:chkFn Tryz.prog num [0,2] Tryz.f32 F12.steal_Steal_Done=true:=by kernel_rfl
theorem ok_steal_Steal_Done:callOk Tryz.prog 32=true:=by kernel_rfl
theorem chk_steal_Steal_Got:chkFn Tryz.prog num [0,2,3,11] Tryz.f33 F12.steal_Steal_Got=true:=by kernel_rfl
theorem ok_steal_Steal_Got:callOk Tryz.prog 33=true:=by kernel_rfl
theorem chk_steal_Steal_Left:chkFn Tryz.prog num [0,2,10] Tryz.f34 F12.steal_Steal_Left=true:=by kernel_rfl
theorem ok_steal_Steal_Left:callOk Tryz.prog 34=true:=by kernel_rfl
theorem chk_law11_same:chkFn Tryz.prog num [0,1,4,5,6,7,8,13,17,23,34,45,50] Tryz.f35 F12.law11_same=true:=by kernel_rfl
theorem ok_law11_same:callOk Tryz.prog 35=true:=by kernel_rfl
theorem chk_cell_New:chkFn Tryz.prog num [0,2] Tryz.f36 F12.cell_New=true:=by kernel_rfl
theorem ok_cell_New:callOk Tryz.prog 36=true:=by kernel_rfl
theorem chk_law11_rings:chkFn Tryz.prog num [0,1,2,3,4,10] Tryz.f37 F12.law11_rings=true:=by kernel_rfl
theorem ok_law11_rings:callOk Tryz.prog 37=true:=by kernel_rfl
theorem chk_conf_Config_Right:chkFn Tryz.prog num [0,1,2] Tryz.f38 F12.conf_Config_Right=true:=by kernel_rfl
theorem ok_conf_Config_Right:callOk Tryz.prog 38=true:=by kernel_rfl
theorem chk_conf_within:chkFn Tryz.prog num [0,1,2,6] Tryz.f39 F12.conf_within=true:=by kernel_rfl
theorem ok_conf_within:callOk Tryz.prog 39=true:=by kernel_rfl
theorem chk_ref06_New:chkFn Tryz.prog num [0,2] Tryz.f40 F12.ref06_New=true:=by kernel_rfl
theorem ok_ref06_New:callOk Tryz.prog 40=true:=by kernel_rfl
theorem chk_conf_Config_Cells:chkFn Tryz.prog num [0,1,2,5] Tryz.f41 F12.conf_Config_Cells=true:=by kernel_rfl
theorem ok_conf_Config_Cells:callOk Tryz.prog 41=true:=by kernel_rfl
theorem chk_docs_byteAt:chkFn Tryz.prog num [0,1,4,8] Tryz.f42 F12.docs_byteAt=true:=by kernel_rfl
theorem ok_docs_byteAt:callOk Tryz.prog 42=true:=by kernel_rfl
theorem chk_conf_Config_Slot:chkFn Tryz.prog num [0,1,2,3,6,9] Tryz.f43 F12.conf_Config_Slot=true:=by kernel_rfl
theorem ok_conf_Config_Slot:callOk Tryz.prog 43=true:=by kernel_rfl
theorem chk_conf_Config_Next:chkFn Tryz.prog num [0,1,2,4] Tryz.f44 F12.conf_Config_Next=true:=by kernel_rfl
theorem ok_conf_Config_Next:callOk Tryz.prog 44=true:=by kernel_rfl
theorem chk_conf_Config_Stat:chkFn Tryz.prog num [0,1,2,4] Tryz.f45 F12.conf_Config_Stat=true:=by kernel_rfl
theorem ok_conf_Config_Stat:callOk Tryz.prog 45=true:=by kernel_rfl
theorem chk_conf_Config_Tick:chkFn Tryz.prog num [0,1,2,4] Tryz.f46 F12.conf_Config_Tick=true:=by kernel_rfl
theorem ok_conf_Config_Tick:callOk Tryz.prog 46=true:=by kernel_rfl
theorem chk_conf_Config_Sys:chkFn Tryz.prog num [0,1,2,4] Tryz.f47 F12.conf_Config_Sys=true:=by kernel_rfl
theorem ok_conf_Config_Sys:callOk Tryz.prog 47=true:=by kernel_rfl
theorem chk_conf_Config_Flag:chkFn Tryz.prog num [0,1,2,4] Tryz.f48 F12.conf_Config_Flag=true:=by kernel_rfl
theorem ok_conf_Config_Flag:callOk Tryz.prog 48=true:=by kernel_rfl
theorem chk_ref09_There:chkFn Tryz.prog num [0,1,2,4] Tryz.f49 F12.ref09_There=true:=by kernel_rfl
theorem ok_ref09_There:callOk Tryz.prog 49=true:=by kernel_rfl
theorem chk_ref11_Hands:chkFn Tryz.prog num [0,1,2,3,6] Tryz.f50 F12.ref11_Hands=true:=by kernel_rfl
theorem ok_ref11_Hands:callOk Tryz.prog 50=true:=by kernel_rfl
theorem chk_cell_Mem_Len:chkFn Tryz.prog num [0,2,4] Tryz.f51 F12.cell_Mem_Len=true:=by kernel_rfl
theorem ok_cell_Mem_Len:callOk Tryz.prog 51=true:=by kernel_rfl
theorem chk_docs_SameCells:chkFn Tryz.prog num [0,1,4,5,10,14,25] Tryz.f52 F12.docs_SameCells=true:=by kernel_rfl
theorem ok_docs_SameCells:callOk Tryz.prog 52=true:=by kernel_rfl
theorem chk_cell_Mem_All:chkFn Tryz.prog num [0,2,4] Tryz.f53 F12.cell_Mem_All=true:=by kernel_rfl
theorem ok_cell_Mem_All:callOk Tryz.prog 53=true:=by kernel_rfl
theorem chk_ref09_Size:chkFn Tryz.prog num [0,2] Tryz.f54 F12.ref09_Size=true:=by kernel_rfl
theorem ok_ref09_Size:callOk Tryz.prog 54=true:=by kernel_rfl
theorem chk_ref09_Head:chkFn Tryz.prog num [0,2] Tryz.f55 F12.ref09_Head=true:=by kernel_rfl
theorem ok_ref09_Head:callOk Tryz.prog 55=true:=by kernel_rfl
theorem chk_ref09_Tail:chkFn Tryz.prog num [0,2] Tryz.f56 F12.ref09_Tail=true:=by kernel_rfl
theorem ok_ref09_Tail:callOk Tryz.prog 56=true:=by kernel_rfl
theorem chk_ref06_Load:chkFn Tryz.prog num [0,1,2,4,5,9] Tryz.f57 F12.ref06_Load=true:=by kernel_rfl
theorem ok_ref06_Load:callOk Tryz.prog 57=true:=by kernel_rfl
theorem chk_ref09_Word:chkFn Tryz.prog num [0,1,2,4] Tryz.f58 F12.ref09_Word=true:=by kernel_rfl
theorem ok_ref09_Word:callOk Tryz.prog 58=true:=by kernel_rfl
theorem chk_ref09_Slot:chkFn Tryz.prog num [0,1,2,3,6] Tryz.f59 F12.ref09_Slot=true:=by kernel_rfl
theorem ok_ref09_Slot:callOk Tryz.prog 59=true:=by kernel_rfl
theorem chk_ref06_CAS:chkFn Tryz.prog num [0,1,2,3,4,8,9,13,21] Tryz.f60 F12.ref06_CAS=true:=by kernel_rfl
theorem ok_ref06_CAS:callOk Tryz.prog 60=true:=by kernel_rfl
theorem chk_ref09_Pack:chkFn Tryz.prog num [0,1,4] Tryz.f61 F12.ref09_Pack=true:=by kernel_rfl
theorem ok_ref09_Pack:callOk Tryz.prog 61=true:=by kernel_rfl
theorem chk_ref09_NewLay:chkFn Tryz.prog num [0,1,2,3,6,7,8,12,20,27] Tryz.f62 F12.ref09_NewLay=true:=by kernel_rfl
theorem ok_ref09_NewLay:callOk Tryz.prog 62=true:=by kernel_rfl
theorem chk_ref09_StepLay:chkFn Tryz.prog num [0,1,2,3,4,5,6,9,15,20,21,43,60,62,93,95,121] Tryz.f63 F12.ref09_StepLay=true:=by kernel_rfl
theorem ok_ref09_StepLay:callOk Tryz.prog 63=true:=by kernel_rfl
theorem chk_steal_Steal_look:chkFn Tryz.prog num [0,1,4,47] Tryz.f64 F12.steal_Steal_look=true:=by kernel_rfl
theorem ok_steal_Steal_look:callOk Tryz.prog 64=true:=by kernel_rfl
theorem chk_steal_Steal_copy:chkFn Tryz.prog num [0,1,44] Tryz.f65 F12.steal_Steal_copy=true:=by kernel_rfl
theorem ok_steal_Steal_copy:callOk Tryz.prog 65=true:=by kernel_rfl
theorem chk_steal_Steal_gain:chkFn Tryz.prog num [0,1,27,77] Tryz.f66 F12.steal_Steal_gain=true:=by kernel_rfl
theorem ok_steal_Steal_gain:callOk Tryz.prog 66=true:=by kernel_rfl
theorem chk_put_Lay_Step:chkFn Tryz.prog num [0,1,4,5,8,19,29,78,83] Tryz.f67 F12.put_Lay_Step=true:=by kernel_rfl
theorem ok_put_Lay_Step:callOk Tryz.prog 67=true:=by kernel_rfl
theorem chk_cell_Mem_access:chkFn Tryz.prog num [0,1,2,3,8,9,10,14] Tryz.f68 F12.cell_Mem_access=true:=by kernel_rfl
theorem ok_cell_Mem_access:callOk Tryz.prog 68=true:=by kernel_rfl
theorem chk_cell_Mem_Store_1:chkFn Tryz.prog num [0,1,3,4] Tryz.f69 F12.cell_Mem_Store_1=true:=by kernel_rfl
theorem ok_cell_Mem_Store_1:callOk Tryz.prog 69=true:=by kernel_rfl
theorem chk_ref06_there:chkFn Tryz.prog num [0,1,2,4] Tryz.f70 F12.ref06_there=true:=by kernel_rfl
theorem ok_ref06_there:callOk Tryz.prog 70=true:=by kernel_rfl
theorem chk_ref06_with:chkFn Tryz.prog num [0,1,2,3,6,7] Tryz.f71 F12.ref06_with=true:=by kernel_rfl
theorem ok_ref06_with:callOk Tryz.prog 71=true:=by kernel_rfl
theorem chk_put_from:chkFn Tryz.prog num [0,1,2,4,5,12] Tryz.f72 F12.put_from=true:=by kernel_rfl
theorem ok_put_from:callOk Tryz.prog 72=true:=by kernel_rfl
theorem chk_slices_Concat_int:chkFn Tryz.prog num [0,2,3,5,6,8,9,10,11,12,20,25,26,27,28] Tryz.f73 F12.slices_Concat_int=true:=by kernel_rfl
theorem ok_slices_Concat_int:callOk Tryz.prog 73=true:=by kernel_rfl
theorem chk_steal_rest_Rest:chkFn Tryz.prog num [0,1,2] Tryz.f74 F12.steal_rest_Rest=true:=by kernel_rfl
theorem ok_steal_rest_Rest:callOk Tryz.prog 74=true:=by kernel_rfl
theorem chk_put_Put_Done:chkFn Tryz.prog num [0,2] Tryz.f75 F12.put_Put_Done=true:=by kernel_rfl
theorem ok_put_Put_Done:callOk Tryz.prog 75=true:=by kernel_rfl
theorem chk_put_ways:chkFn Tryz.prog num [0] Tryz.f76 F12.put_ways=true:=by kernel_rfl
theorem ok_put_ways:callOk Tryz.prog 76=true:=by kernel_rfl
theorem chk_slices_Clone_int:chkFn Tryz.prog num [0,2,4] Tryz.f77 F12.slices_Clone_int=true:=by kernel_rfl
theorem ok_slices_Clone_int:callOk Tryz.prog 77=true:=by kernel_rfl
theorem chk_cell_Mem_Load:chkFn Tryz.prog num [0,1,4,5] Tryz.f78 F12.cell_Mem_Load=true:=by kernel_rfl
theorem ok_cell_Mem_Load:callOk Tryz.prog 78=true:=by kernel_rfl
theorem chk_ref05_Right:chkFn Tryz.prog num [0,1,2,3,4,6] Tryz.f79 F12.ref05_Right=true:=by kernel_rfl
theorem ok_ref05_Right:callOk Tryz.prog 79=true:=by kernel_rfl
theorem chk_slices_Clone_uint64:chkFn Tryz.prog num [0,2,4] Tryz.f80 F12.slices_Clone_uint64=true:=by kernel_rfl
theorem ok_slices_Clone_uint64:callOk Tryz.prog 80=true:=by kernel_rfl
theorem chk_word_Len:chkFn Tryz.prog num [0,2] Tryz.f81 F12.word_Len=true:=by kernel_rfl
theorem ok_word_Len:callOk Tryz.prog 81=true:=by kernel_rfl
theorem chk_word_Head:chkFn Tryz.prog num [0,2] Tryz.f82 F12.word_Head=true:=by kernel_rfl
theorem ok_word_Head:callOk Tryz.prog 82=true:=by kernel_rfl
theorem chk_steal_Steal_half:chkFn Tryz.prog num [0,2] Tryz.f83 F12.steal_Steal_half=true:=by kernel_rfl
theorem ok_steal_Steal_half:callOk Tryz.prog 83=true:=by kernel_rfl
theorem chk_cell_Mem_CAS:chkFn Tryz.prog num [0,1,2,3,6,7,8,10] Tryz.f84 F12.cell_Mem_CAS=true:=by kernel_rfl
theorem ok_cell_Mem_CAS:callOk Tryz.prog 84=true:=by kernel_rfl
theorem chk_word_Gain:chkFn Tryz.prog num [0,1,4] Tryz.f85 F12.word_Gain=true:=by kernel_rfl
theorem ok_word_Gain:callOk Tryz.prog 85=true:=by kernel_rfl
theorem chk_put_NewLay:chkFn Tryz.prog num [0,1,2,3,6,7,18] Tryz.f86 F12.put_NewLay=true:=by kernel_rfl
theorem ok_put_NewLay:callOk Tryz.prog 86=true:=by kernel_rfl
theorem chk_put_Lay_Done:chkFn Tryz.prog num [0,2] Tryz.f87 F12.put_Lay_Done=true:=by kernel_rfl
theorem ok_put_Lay_Done:callOk Tryz.prog 87=true:=by kernel_rfl
theorem chk_put_Lay_look:chkFn Tryz.prog num [0,1,4,45] Tryz.f88 F12.put_Lay_look=true:=by kernel_rfl
theorem ok_put_Lay_look:callOk Tryz.prog 88=true:=by kernel_rfl
theorem chk_put_ring_slot:chkFn Tryz.prog num [0,1,4] Tryz.f89 F12.put_ring_slot=true:=by kernel_rfl
theorem ok_put_ring_slot:callOk Tryz.prog 89=true:=by kernel_rfl
theorem chk_put_ring_change:chkFn Tryz.prog num [0,1,2,6,7,27] Tryz.f90 F12.put_ring_change=true:=by kernel_rfl
theorem ok_put_ring_change:callOk Tryz.prog 90=true:=by kernel_rfl
theorem chk_word_Grow:chkFn Tryz.prog num [0,1,4] Tryz.f91 F12.word_Grow=true:=by kernel_rfl
theorem ok_word_Grow:callOk Tryz.prog 91=true:=by kernel_rfl
theorem chk_cell_Mem_there:chkFn Tryz.prog num [0,1,4] Tryz.f92 F12.cell_Mem_there=true:=by kernel_rfl
theorem ok_cell_Mem_there:callOk Tryz.prog 92=true:=by kernel_rfl
theorem chk_cell_counts_note:chkFn Tryz.prog num [0,1,2,4,22,35,48,64,92] Tryz.f93 F12.cell_counts_note=true:=by kernel_rfl
theorem ok_cell_counts_note:callOk Tryz.prog 93=true:=by kernel_rfl
theorem chk_slices_Grow_int:chkFn Tryz.prog num [0,1,4,6,16] Tryz.f94 F12.slices_Grow_int=true:=by kernel_rfl
theorem ok_slices_Grow_int:callOk Tryz.prog 94=true:=by kernel_rfl
theorem chk_put_Lay_Hands:chkFn Tryz.prog num [0,2,4] Tryz.f95 F12.put_Lay_Hands=true:=by kernel_rfl
theorem ok_put_Lay_Hands:callOk Tryz.prog 95=true:=by kernel_rfl
theorem chk_put_Put_look:chkFn Tryz.prog num [0,1,23] Tryz.f96 F12.put_Put_look=true:=by kernel_rfl
theorem ok_put_Put_look:callOk Tryz.prog 96=true:=by kernel_rfl
theorem chk_put_Put_lay:chkFn Tryz.prog num [0,1] Tryz.f97 F12.put_Put_lay=true:=by kernel_rfl
theorem ok_put_Put_lay:callOk Tryz.prog 97=true:=by kernel_rfl
theorem chk_put_Put_swing:chkFn Tryz.prog num [0,1,14] Tryz.f98 F12.put_Put_swing=true:=by kernel_rfl
theorem ok_put_Put_swing:callOk Tryz.prog 98=true:=by kernel_rfl
theorem chk_put_Put_take:chkFn Tryz.prog num [0,1,37] Tryz.f99 F12.put_Put_take=true:=by kernel_rfl
theorem ok_put_Put_take:callOk Tryz.prog 99=true:=by kernel_rfl
theorem chk_put_Put_cut:chkFn Tryz.prog num [0,1,16] Tryz.f100 F12.put_Put_cut=true:=by kernel_rfl
theorem ok_put_Put_cut:callOk Tryz.prog 100=true:=by kernel_rfl
theorem chk_cell_Mem_Load_1:chkFn Tryz.prog num [0,2,3] Tryz.f101 F12.cell_Mem_Load_1=true:=by kernel_rfl
theorem ok_cell_Mem_Load_1:callOk Tryz.prog 101=true:=by kernel_rfl
theorem chk_word_Tail:chkFn Tryz.prog num [0,2] Tryz.f102 F12.word_Tail=true:=by kernel_rfl
theorem ok_word_Tail:callOk Tryz.prog 102=true:=by kernel_rfl
theorem chk_word_Older:chkFn Tryz.prog num [0,2] Tryz.f103 F12.word_Older=true:=by kernel_rfl
theorem ok_word_Older:callOk Tryz.prog 103=true:=by kernel_rfl
theorem chk_cell_Mem_CAS_1:chkFn Tryz.prog num [0,1,2,4,5,8] Tryz.f104 F12.cell_Mem_CAS_1=true:=by kernel_rfl
theorem ok_cell_Mem_CAS_1:callOk Tryz.prog 104=true:=by kernel_rfl
theorem chk_word_Pack:chkFn Tryz.prog num [0,1,4] Tryz.f105 F12.word_Pack=true:=by kernel_rfl
theorem ok_word_Pack:callOk Tryz.prog 105=true:=by kernel_rfl
theorem chk_slices_DeleteFunc_int:chkFn Tryz.prog num [0,1,4,5,6,7,12,19,29] Tryz.f106 F12.slices_DeleteFunc_int=true:=by kernel_rfl
theorem ok_slices_DeleteFunc_int:callOk Tryz.prog 106=true:=by kernel_rfl
theorem chk_put_NewLay_1:chkFn Tryz.prog num [0,2] Tryz.f107 F12.put_NewLay_1=true:=by kernel_rfl
theorem ok_put_NewLay_1:callOk Tryz.prog 107=true:=by kernel_rfl
theorem chk_put_ring_load:chkFn Tryz.prog num [0,1,4] Tryz.f108 F12.put_ring_load=true:=by kernel_rfl
theorem ok_put_ring_load:callOk Tryz.prog 108=true:=by kernel_rfl
theorem chk_put_Put_half:chkFn Tryz.prog num [0,2] Tryz.f109 F12.put_Put_half=true:=by kernel_rfl
theorem ok_put_Put_half:callOk Tryz.prog 109=true:=by kernel_rfl
theorem chk_word_Drop:chkFn Tryz.prog num [0,1,4] Tryz.f110 F12.word_Drop=true:=by kernel_rfl
theorem ok_word_Drop:callOk Tryz.prog 110=true:=by kernel_rfl
theorem chk_slices_IndexFunc_int:chkFn Tryz.prog num [0,1,4,5,7,8,9,16] Tryz.f111 F12.slices_IndexFunc_int=true:=by kernel_rfl
theorem ok_slices_IndexFunc_int:callOk Tryz.prog 111=true:=by kernel_rfl
end Go.Proofs.YtmgahjccidmlaaaGreat
