import Derived.Test.YtaglnjaenigkaaaChecked
import Derived.Test.YtaglnjaenigkaaaXG10
set_option linter.unusedSimpArgs false
set_option linter.unusedVariables false
namespace Go.Proofs.Ytaglnjaenigkaaa
open Go.Am
def num:Nat→Nat
 | 130=>65
 | 240=>3
 | 247=>4
 | 248=>5
 | 249=>6
 | 222=>7
 | 223=>8
 | 133=>9
 | 224=>10
 | 87=>11
 | 225=>12
 | 226=>13
 | 227=>14
 | 228=>15
 | 229=>16
 | 230=>17
 | 231=>18
 | 232=>19
 | 233=>20
 | 234=>21
 | 84=>22
 | 235=>23
 | 236=>24
 | 237=>25
 | 238=>26
 | 239=>27
 | 157=>28
 | 241=>29
 | 147=>30
 | 242=>31
 | 243=>32
 | 244=>33
 | 245=>34
 | 246=>35
 | 250=>36
 | 251=>37
 | 103=>38
 | 252=>39
 | 105=>40
 | 100=>41
 | 176=>42
 | 253=>43
 | 254=>44
 | 255=>45
 | 256=>46
 | 257=>47
 | 258=>48
 | 259=>49
 | 260=>50
 | 261=>51
 | 262=>52
 | 115=>53
 | 101=>54
 | 104=>55
 | 118=>56
 | 122=>57
 | 121=>58
 | 112=>59
 | 263=>60
 | 264=>61
 | 129=>62
 | 123=>63
 | 119=>64
 | 131=>66
 | 107=>67
 | 111=>68
 | 124=>69
 | 125=>70
 | _=>0
theorem chk_law15_PoolBounds:chkFn Try.prog num [0,1,2,4,5,6,7,8,9,10,13,20,24,33,58,65,73,82,90,99,108,117,121,125,142,187] Try.f3 F15.law15_PoolBounds=true:=by kernel_rfl
theorem chk_law15_few:chkFn Try.prog num [0,1,4,5,14,23] Try.f7 F15.law15_few=true:=by kernel_rfl
theorem ok_law15_few:callOk Try.prog 7=true:=by kernel_rfl
theorem chk_law15_works:chkFn Try.prog num [0,1,2,3,4,5,6,7,8,9,10,11,12,26] Try.f8 F15.law15_works=true:=by kernel_rfl
theorem ok_law15_works:callOk Try.prog 8=true:=by kernel_rfl
theorem chk_docs_Made:chkFn Try.prog num [0,1,2,3] Try.f9 F15.docs_Made=true:=by kernel_rfl
theorem ok_docs_Made:callOk Try.prog 9=true:=by kernel_rfl
theorem chk_pool_New:chkFn Try.prog num [0,1,2,5] Try.f10 F15.pool_New=true:=by kernel_rfl
theorem ok_pool_New:callOk Try.prog 10=true:=by kernel_rfl
theorem chk_kit_Pick:chkFn Try.prog num [0,1,4,6] Try.f11 F15.kit_Pick=true:=by kernel_rfl
theorem ok_kit_Pick:callOk Try.prog 11=true:=by kernel_rfl
theorem chk_pool_Pool_Push:chkFn Try.prog num [0,1,4,6] Try.f12 F15.pool_Pool_Push=true:=by kernel_rfl
theorem ok_pool_Pool_Push:callOk Try.prog 12=true:=by kernel_rfl
theorem chk_pool_Pool_Pop:chkFn Try.prog num [0,1,4,6] Try.f13 F15.pool_Pool_Pop=true:=by kernel_rfl
theorem ok_pool_Pool_Pop:callOk Try.prog 13=true:=by kernel_rfl
theorem chk_pool_Pool_PutP:chkFn Try.prog num [0,1,4,6] Try.f14 F15.pool_Pool_PutP=true:=by kernel_rfl
theorem ok_pool_Pool_PutP:callOk Try.prog 14=true:=by kernel_rfl
theorem chk_pool_Pool_PutM:chkFn Try.prog num [0,1,4,6] Try.f15 F15.pool_Pool_PutM=true:=by kernel_rfl
theorem ok_pool_Pool_PutM:callOk Try.prog 15=true:=by kernel_rfl
theorem chk_pool_Pool_TakeP:chkFn Try.prog num [0,2,3,5] Try.f16 F15.pool_Pool_TakeP=true:=by kernel_rfl
theorem ok_pool_Pool_TakeP:callOk Try.prog 16=true:=by kernel_rfl
theorem chk_pool_Pool_TakeM:chkFn Try.prog num [0,2,3,5] Try.f17 F15.pool_Pool_TakeM=true:=by kernel_rfl
theorem ok_pool_Pool_TakeM:callOk Try.prog 17=true:=by kernel_rfl
theorem chk_pool_Pool_Both:chkFn Try.prog num [0,2,3,4,5,6,7,8,11,38,39,40] Try.f18 F15.pool_Pool_Both=true:=by kernel_rfl
theorem ok_pool_Pool_Both:callOk Try.prog 18=true:=by kernel_rfl
theorem chk_pool_Pool_Batch:chkFn Try.prog num [0,2,4] Try.f19 F15.pool_Pool_Batch=true:=by kernel_rfl
theorem ok_pool_Pool_Batch:callOk Try.prog 19=true:=by kernel_rfl
theorem chk_pool_Pool_Len:chkFn Try.prog num [0,2,4] Try.f20 F15.pool_Pool_Len=true:=by kernel_rfl
theorem ok_pool_Pool_Len:callOk Try.prog 20=true:=by kernel_rfl
theorem chk_pool_Pool_AddSpin:chkFn Try.prog num [0,1,4,6] Try.f21 F15.pool_Pool_AddSpin=true:=by kernel_rfl
theorem ok_pool_Pool_AddSpin:callOk Try.prog 21=true:=by kernel_rfl
theorem chk_kit_SameInts:chkFn Try.prog num [0,1,4,5,10,14,25] Try.f22 F15.kit_SameInts=true:=by kernel_rfl
theorem ok_kit_SameInts:callOk Try.prog 22=true:=by kernel_rfl
theorem chk_pool_Pool_Global:chkFn Try.prog num [0,2,4] Try.f23 F15.pool_Pool_Global=true:=by kernel_rfl
theorem ok_pool_Pool_Global:callOk Try.prog 23=true:=by kernel_rfl
theorem chk_law15_once:chkFn Try.prog num [0,1,4,5,6,12,36] Try.f24 F15.law15_once=true:=by kernel_rfl
theorem ok_law15_once:callOk Try.prog 24=true:=by kernel_rfl
theorem chk_pool_Pool_Ps:chkFn Try.prog num [0,2,4] Try.f25 F15.pool_Pool_Ps=true:=by kernel_rfl
theorem ok_pool_Pool_Ps:callOk Try.prog 25=true:=by kernel_rfl
theorem chk_pool_Pool_Ms:chkFn Try.prog num [0,2,4] Try.f26 F15.pool_Pool_Ms=true:=by kernel_rfl
theorem ok_pool_Pool_Ms:callOk Try.prog 26=true:=by kernel_rfl
theorem chk_pool_Pool_Spin:chkFn Try.prog num [0,2,4] Try.f27 F15.pool_Pool_Spin=true:=by kernel_rfl
theorem ok_pool_Pool_Spin:callOk Try.prog 27=true:=by kernel_rfl
theorem chk_conf_Config_Right:chkFn Try.prog num [0,1,2] Try.f28 F15.conf_Config_Right=true:=by kernel_rfl
theorem ok_conf_Config_Right:callOk Try.prog 28=true:=by kernel_rfl
theorem chk_pool_from:chkFn Try.prog num [0,1,4,5,6,14] Try.f36 F15.pool_from=true:=by kernel_rfl
theorem ok_pool_from:callOk Try.prog 36=true:=by kernel_rfl
theorem chk_pool_line_add:chkFn Try.prog num [0,1,2,4,6,7,8,9,10,20] Try.f37 F15.pool_line_add=true:=by kernel_rfl
theorem ok_pool_line_add:callOk Try.prog 37=true:=by kernel_rfl
theorem chk_fifo_Line_Pop:chkFn Try.prog num [0,1,4,13] Try.f38 F15.fifo_Line_Pop=true:=by kernel_rfl
theorem ok_fifo_Line_Pop:callOk Try.prog 38=true:=by kernel_rfl
theorem chk_pool_line_first:chkFn Try.prog num [0,1,2,3,4,5,12] Try.f39 F15.pool_line_first=true:=by kernel_rfl
theorem ok_pool_line_first:callOk Try.prog 39=true:=by kernel_rfl
theorem chk_fifo_Line_Len:chkFn Try.prog num [0,2,4] Try.f40 F15.fifo_Line_Len=true:=by kernel_rfl
theorem ok_fifo_Line_Len:callOk Try.prog 40=true:=by kernel_rfl
theorem chk_fifo_Line_All:chkFn Try.prog num [0,2] Try.f41 F15.fifo_Line_All=true:=by kernel_rfl
theorem ok_fifo_Line_All:callOk Try.prog 41=true:=by kernel_rfl
theorem chk_conf_within:chkFn Try.prog num [0,1,2,6] Try.f42 F15.conf_within=true:=by kernel_rfl
theorem ok_conf_within:callOk Try.prog 42=true:=by kernel_rfl
theorem chk_fifo_Line_Push:chkFn Try.prog num [0,1,4,6,7,8,9,12,21,26,27,28,29,38] Try.f54 F15.fifo_Line_Push=true:=by kernel_rfl
theorem ok_fifo_Line_Push:callOk Try.prog 54=true:=by kernel_rfl
theorem chk_fifo_Line_Remove:chkFn Try.prog num [0,1,4,5,6,7,8,9,13,39,72] Try.f55 F15.fifo_Line_Remove=true:=by kernel_rfl
theorem ok_fifo_Line_Remove:callOk Try.prog 55=true:=by kernel_rfl
theorem chk_fifo_Line_Head:chkFn Try.prog num [0,2,3,6] Try.f56 F15.fifo_Line_Head=true:=by kernel_rfl
theorem ok_fifo_Line_Head:callOk Try.prog 56=true:=by kernel_rfl
theorem chk_slices_Collect_int:chkFn Try.prog num [0,2] Try.f57 F15.slices_Collect_int=true:=by kernel_rfl
theorem ok_slices_Collect_int:callOk Try.prog 57=true:=by kernel_rfl
theorem chk_fifo_Line_each:chkFn Try.prog num [0,1,2] Try.f58 F15.fifo_Line_each=true:=by kernel_rfl
theorem ok_fifo_Line_each:callOk Try.prog 58=true:=by kernel_rfl
theorem chk_fifo_Line_fits:chkFn Try.prog num [0,1,4,5,7,9,11,12,13,14,28] Try.f63 F15.fifo_Line_fits=true:=by kernel_rfl
theorem ok_fifo_Line_fits:callOk Try.prog 63=true:=by kernel_rfl
theorem chk_fifo_Line_Has:chkFn Try.prog num [0,1,4,6,8] Try.f64 F15.fifo_Line_Has=true:=by kernel_rfl
theorem ok_fifo_Line_Has:callOk Try.prog 64=true:=by kernel_rfl
theorem ok_slices_AppendSeq_int:callOk Try.prog 65=true:=by kernel_rfl
theorem chk_fifo_Line_each_1:chkFn Try.prog num [0,1,3,4,5,16] Try.f66 F15.fifo_Line_each_1=true:=by kernel_rfl
theorem ok_fifo_Line_each_1:callOk Try.prog 66=true:=by kernel_rfl
end Go.Proofs.Ytaglnjaenigkaaa
