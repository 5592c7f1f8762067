import Derived.Test.YtaglnjaenigkaaaChecked
import Derived.Test.YtaglnjaenigkaaaXG10
import Derived.Test.YtaglnjaenigkaaaXG11
set_option linter.unusedSimpArgs false
set_option linter.unusedVariables false
namespace Go.Proofs.Ytaglnjaenigkaaa
open Go.Am
def num:Nat→Nat
 | 130=>65
 | 240=>3
 | 247=>4
 | 248=>5
 | 249=>6
 | 222=>7
 | 223=>8
 | 133=>9
 | 224=>10
 | 87=>11
 | 225=>12
 | 226=>13
 | 227=>14
 | 228=>15
 | 229=>16
 | 230=>17
 | 231=>18
 | 232=>19
 | 233=>20
 | 234=>21
 | 84=>22
 | 235=>23
 | 236=>24
 | 237=>25
 | 238=>26
 | 239=>27
 | 157=>28
 | 241=>29
 | 147=>30
 | 242=>31
 | 243=>32
 | 244=>33
 | 245=>34
 | 246=>35
 | 250=>36
 | 251=>37
 | 103=>38
 | 252=>39
 | 105=>40
 | 100=>41
 | 176=>42
 | 253=>43
 | 254=>44
 | 255=>45
 | 256=>46
 | 257=>47
 | 258=>48
 | 259=>49
 | 260=>50
 | 261=>51
 | 262=>52
 | 115=>53
 | 101=>54
 | 104=>55
 | 118=>56
 | 122=>57
 | 121=>58
 | 112=>59
 | 263=>60
 | 264=>61
 | 129=>62
 | 123=>63
 | 119=>64
 | 131=>66
 | 107=>67
 | 111=>68
 | 124=>69
 | 125=>70
 | _=>0
theorem chk_law15_PoolBounds:chkFn Try.prog num [0,1,2,4,5,6,7,8,9,10,13,20,24,33,58,65,73,82,90,99,108,117,121,125,142,187] Try.f3 F15.law15_PoolBounds=true:=by kernel_rfl
theorem ok_law15_PoolBounds:callOk Try.prog 3=true:=by kernel_rfl
theorem chk_law15_PoolPlays:chkFn Try.prog num [0,1,2,4,5,6,7,8,9,10,11,12,15,21,28,35,111] Try.f4 F15.law15_PoolPlays=true:=by kernel_rfl
theorem ok_law15_PoolPlays:callOk Try.prog 4=true:=by kernel_rfl
theorem chk_law15_PoolNone:chkFn Try.prog num [0,2,3,4,5,6,7,8,9,10] Try.f5 F15.law15_PoolNone=true:=by kernel_rfl
theorem ok_law15_PoolNone:callOk Try.prog 5=true:=by kernel_rfl
theorem chk_law15_PoolKnown:chkFn Try.prog num [0,1,2,3,4,5,7,11,66] Try.f6 F15.law15_PoolKnown=true:=by kernel_rfl
theorem chk_law15_few:chkFn Try.prog num [0,1,4,5,14,23] Try.f7 F15.law15_few=true:=by kernel_rfl
theorem ok_law15_few:callOk Try.prog 7=true:=by kernel_rfl
theorem chk_law15_works:chkFn Try.prog num [0,1,2,3,4,5,6,7,8,9,10,11,12,26] Try.f8 F15.law15_works=true:=by kernel_rfl
theorem ok_law15_works:callOk Try.prog 8=true:=by kernel_rfl
theorem chk_docs_Made:chkFn Try.prog num [0,1,2,3] Try.f9 F15.docs_Made=true:=by kernel_rfl
theorem ok_docs_Made:callOk Try.prog 9=true:=by kernel_rfl
theorem chk_pool_New:chkFn Try.prog num [0,1,2,5] Try.f10 F15.pool_New=true:=by kernel_rfl
theorem ok_pool_New:callOk Try.prog 10=true:=by kernel_rfl
theorem chk_kit_Pick:chkFn Try.prog num [0,1,4,6] Try.f11 F15.kit_Pick=true:=by kernel_rfl
theorem ok_kit_Pick:callOk Try.prog 11=true:=by kernel_rfl
theorem chk_pool_Pool_Push:chkFn Try.prog num [0,1,4,6] Try.f12 F15.pool_Pool_Push=true:=by kernel_rfl
theorem ok_pool_Pool_Push:callOk Try.prog 12=true:=by kernel_rfl
theorem chk_pool_Pool_Pop:chkFn Try.prog num [0,1,4,6] Try.f13 F15.pool_Pool_Pop=true:=by kernel_rfl
theorem ok_pool_Pool_Pop:callOk Try.prog 13=true:=by kernel_rfl
theorem chk_pool_Pool_PutP:chkFn Try.prog num [0,1,4,6] Try.f14 F15.pool_Pool_PutP=true:=by kernel_rfl
theorem ok_pool_Pool_PutP:callOk Try.prog 14=true:=by kernel_rfl
theorem chk_pool_Pool_PutM:chkFn Try.prog num [0,1,4,6] Try.f15 F15.pool_Pool_PutM=true:=by kernel_rfl
theorem ok_pool_Pool_PutM:callOk Try.prog 15=true:=by kernel_rfl
theorem chk_pool_Pool_TakeP:chkFn Try.prog num [0,2,3,5] Try.f16 F15.pool_Pool_TakeP=true:=by kernel_rfl
theorem ok_pool_Pool_TakeP:callOk Try.prog 16=true:=by kernel_rfl
theorem chk_pool_Pool_TakeM:chkFn Try.prog num [0,2,3,5] Try.f17 F15.pool_Pool_TakeM=true:=by kernel_rfl
theorem ok_pool_Pool_TakeM:callOk Try.prog 17=true:=by kernel_rfl
theorem chk_pool_Pool_Both:chkFn Try.prog num [0,2,3,4,5,6,7,8,11,38,39,40] Try.f18 F15.pool_Pool_Both=true:=by kernel_rfl
theorem ok_pool_Pool_Both:callOk Try.prog 18=true:=by kernel_rfl
theorem chk_pool_Pool_Batch:chkFn Try.prog num [0,2,4] Try.f19 F15.pool_Pool_Batch=true:=by kernel_rfl
theorem ok_pool_Pool_Batch:callOk Try.prog 19=true:=by kernel_rfl
theorem chk_pool_Pool_Len:chkFn Try.prog num [0,2,4] Try.f20 F15.pool_Pool_Len=true:=by kernel_rfl
theorem ok_pool_Pool_Len:callOk Try.prog 20=true:=by kernel_rfl
theorem chk_pool_Pool_AddSpin:chkFn Try.prog num [0,1,4,6] Try.f21 F15.pool_Pool_AddSpin=true:=by kernel_rfl
theorem ok_pool_Pool_AddSpin:callOk Try.prog 21=true:=by kernel_rfl
theorem chk_kit_SameInts:chkFn Try.prog num [0,1,4,5,10,14,25] Try.f22 F15.kit_SameInts=true:=by kernel_rfl
theorem ok_kit_SameInts:callOk Try.prog 22=true:=by kernel_rfl
theorem chk_pool_Pool_Global:chkFn Try.prog num [0,2,4] Try.f23 F15.pool_Pool_Global=true:=by kernel_rfl
theorem ok_pool_Pool_Global:callOk Try.prog 23=true:=by kernel_rfl
theorem chk_law15_once:chkFn Try.prog num [0,1,4,5,6,12,36] Try.f24 F15.law15_once=true:=by kernel_rfl
theorem ok_law15_once:callOk Try.prog 24=true:=by kernel_rfl
theorem chk_pool_Pool_Ps:chkFn Try.prog num [0,2,4] Try.f25 F15.pool_Pool_Ps=true:=by kernel_rfl
theorem ok_pool_Pool_Ps:callOk Try.prog 25=true:=by kernel_rfl
theorem chk_pool_Pool_Ms:chkFn Try.prog num [0,2,4] Try.f26 F15.pool_Pool_Ms=true:=by kernel_rfl
theorem ok_pool_Pool_Ms:callOk Try.prog 26=true:=by kernel_rfl
theorem chk_pool_Pool_Spin:chkFn Try.prog num [0,2,4] Try.f27 F15.pool_Pool_Spin=true:=by kernel_rfl
theorem ok_pool_Pool_Spin:callOk Try.prog 27=true:=by kernel_rfl
theorem chk_conf_Config_Right:chkFn Try.prog num [0,1,2] Try.f28 F15.conf_Config_Right=true:=by kernel_rfl
theorem ok_conf_Config_Right:callOk Try.prog 28=true:=by kernel_rfl
theorem chk_ref15_New:chkFn Try.prog num [0,1,2] Try.f29 F15.ref15_New=true:=by kernel_rfl
theorem ok_ref15_New:callOk Try.prog 29=true:=by kernel_rfl
theorem chk_docs_Config:chkFn Try.prog num [0,1,2] Try.f30 F15.docs_Config=true:=by kernel_rfl
theorem ok_docs_Config:callOk Try.prog 30=true:=by kernel_rfl
theorem chk_pool_Pool_Copy:chkFn Try.prog num [0,2,4] Try.f31 F15.pool_Pool_Copy=true:=by kernel_rfl
theorem ok_pool_Pool_Copy:callOk Try.prog 31=true:=by kernel_rfl
theorem chk_law15_does:chkFn Try.prog num [0,1,2,4,5,6,7,8,9,10,11,12,13,14,15,16,17,18,19,20,21,22,23,24,25,26,27,28,29,30,31,32,33,36,37,53,72,80,96,112,134,156] Try.f32 F15.law15_does=true:=by kernel_rfl
theorem ok_law15_does:callOk Try.prog 32=true:=by kernel_rfl
theorem chk_docs_SamePool:chkFn Try.prog num [0,1,3,4,5,6,7,8,24,36,43] Try.f33 F15.docs_SamePool=true:=by kernel_rfl
theorem ok_docs_SamePool:callOk Try.prog 33=true:=by kernel_rfl
theorem chk_ref15_Batch:chkFn Try.prog num [0,1,2,3] Try.f34 F15.ref15_Batch=true:=by kernel_rfl
theorem ok_ref15_Batch:callOk Try.prog 34=true:=by kernel_rfl
theorem chk_pool_Same:chkFn Try.prog num [0,1,4,10] Try.f35 F15.pool_Same=true:=by kernel_rfl
theorem ok_pool_Same:callOk Try.prog 35=true:=by kernel_rfl
theorem chk_pool_from:chkFn Try.prog num [0,1,4,5,6,14] Try.f36 F15.pool_from=true:=by kernel_rfl
theorem ok_pool_from:callOk Try.prog 36=true:=by kernel_rfl
theorem chk_pool_line_add:chkFn Try.prog num [0,1,2,4,6,7,8,9,10,20] Try.f37 F15.pool_line_add=true:=by kernel_rfl
theorem ok_pool_line_add:callOk Try.prog 37=true:=by kernel_rfl
theorem chk_fifo_Line_Pop:chkFn Try.prog num [0,1,4,13] Try.f38 F15.fifo_Line_Pop=true:=by kernel_rfl
theorem ok_fifo_Line_Pop:callOk Try.prog 38=true:=by kernel_rfl
theorem chk_pool_line_first:chkFn Try.prog num [0,1,2,3,4,5,12] Try.f39 F15.pool_line_first=true:=by kernel_rfl
theorem ok_pool_line_first:callOk Try.prog 39=true:=by kernel_rfl
theorem chk_fifo_Line_Len:chkFn Try.prog num [0,2,4] Try.f40 F15.fifo_Line_Len=true:=by kernel_rfl
theorem ok_fifo_Line_Len:callOk Try.prog 40=true:=by kernel_rfl
theorem chk_fifo_Line_All:chkFn Try.prog num [0,2] Try.f41 F15.fifo_Line_All=true:=by kernel_rfl
theorem ok_fifo_Line_All:callOk Try.prog 41=true:=by kernel_rfl
theorem chk_conf_within:chkFn Try.prog num [0,1,2,6] Try.f42 F15.conf_within=true:=by kernel_rfl
theorem ok_conf_within:callOk Try.prog 42=true:=by kernel_rfl
theorem chk_ref15_upto:chkFn Try.prog num [0,2,3,4,7] Try.f43 F15.ref15_upto=true:=by kernel_rfl
theorem ok_ref15_upto:callOk Try.prog 43=true:=by kernel_rfl
theorem chk_pool_line_copied:chkFn Try.prog num [0,1,2] Try.f44 F15.pool_line_copied=true:=by kernel_rfl
theorem ok_pool_line_copied:callOk Try.prog 44=true:=by kernel_rfl
theorem chk_ref15_Push:chkFn Try.prog num [0,1,2,4,5,6,7] Try.f45 F15.ref15_Push=true:=by kernel_rfl
theorem ok_ref15_Push:callOk Try.prog 45=true:=by kernel_rfl
theorem chk_ref15_Pop:chkFn Try.prog num [0,1,2,4,5,6,7] Try.f46 F15.ref15_Pop=true:=by kernel_rfl
theorem ok_ref15_Pop:callOk Try.prog 46=true:=by kernel_rfl
theorem chk_ref15_PutP:chkFn Try.prog num [0,1,2,4,5,6,7] Try.f47 F15.ref15_PutP=true:=by kernel_rfl
theorem ok_ref15_PutP:callOk Try.prog 47=true:=by kernel_rfl
theorem chk_ref15_PutM:chkFn Try.prog num [0,1,2,4,5,6,7] Try.f48 F15.ref15_PutM=true:=by kernel_rfl
theorem ok_ref15_PutM:callOk Try.prog 48=true:=by kernel_rfl
theorem chk_ref15_TakeP:chkFn Try.prog num [0,1,2,3,4,5,14] Try.f49 F15.ref15_TakeP=true:=by kernel_rfl
theorem ok_ref15_TakeP:callOk Try.prog 49=true:=by kernel_rfl
theorem chk_ref15_TakeM:chkFn Try.prog num [0,1,2,3,4,5,14] Try.f50 F15.ref15_TakeM=true:=by kernel_rfl
theorem ok_ref15_TakeM:callOk Try.prog 50=true:=by kernel_rfl
theorem chk_ref15_Both:chkFn Try.prog num [0,1,2,3,4,5,6,7,8,18] Try.f51 F15.ref15_Both=true:=by kernel_rfl
theorem ok_ref15_Both:callOk Try.prog 51=true:=by kernel_rfl
theorem chk_ref15_AddSpin:chkFn Try.prog num [0,1,2,4,9,18] Try.f52 F15.ref15_AddSpin=true:=by kernel_rfl
theorem ok_ref15_AddSpin:callOk Try.prog 52=true:=by kernel_rfl
theorem chk_fifo_Same:chkFn Try.prog num [0,1,4] Try.f53 F15.fifo_Same=true:=by kernel_rfl
theorem ok_fifo_Same:callOk Try.prog 53=true:=by kernel_rfl
theorem chk_fifo_Line_Push:chkFn Try.prog num [0,1,4,6,7,8,9,12,21,26,27,28,29,38] Try.f54 F15.fifo_Line_Push=true:=by kernel_rfl
theorem ok_fifo_Line_Push:callOk Try.prog 54=true:=by kernel_rfl
theorem chk_fifo_Line_Remove:chkFn Try.prog num [0,1,4,5,6,7,8,9,13,39,72] Try.f55 F15.fifo_Line_Remove=true:=by kernel_rfl
theorem ok_fifo_Line_Remove:callOk Try.prog 55=true:=by kernel_rfl
theorem chk_fifo_Line_Head:chkFn Try.prog num [0,2,3,6] Try.f56 F15.fifo_Line_Head=true:=by kernel_rfl
theorem ok_fifo_Line_Head:callOk Try.prog 56=true:=by kernel_rfl
theorem chk_slices_Collect_int:chkFn Try.prog num [0,2] Try.f57 F15.slices_Collect_int=true:=by kernel_rfl
theorem ok_slices_Collect_int:callOk Try.prog 57=true:=by kernel_rfl
theorem chk_fifo_Line_each:chkFn Try.prog num [0,1,2] Try.f58 F15.fifo_Line_each=true:=by kernel_rfl
theorem ok_fifo_Line_each:callOk Try.prog 58=true:=by kernel_rfl
theorem chk_fifo_Line_Copy:chkFn Try.prog num [0,2,3,6] Try.f59 F15.fifo_Line_Copy=true:=by kernel_rfl
theorem ok_fifo_Line_Copy:callOk Try.prog 59=true:=by kernel_rfl
theorem chk_ref15_add:chkFn Try.prog num [0,1,2,6,7,8,12,27] Try.f60 F15.ref15_add=true:=by kernel_rfl
theorem ok_ref15_add:callOk Try.prog 60=true:=by kernel_rfl
theorem chk_ref15_first:chkFn Try.prog num [0,1,4,5,6,7] Try.f61 F15.ref15_first=true:=by kernel_rfl
theorem ok_ref15_first:callOk Try.prog 61=true:=by kernel_rfl
theorem chk_slices_Equal_int:chkFn Try.prog num [0,1,4,5,10,12,13,14,24] Try.f62 F15.slices_Equal_int=true:=by kernel_rfl
theorem ok_slices_Equal_int:callOk Try.prog 62=true:=by kernel_rfl
theorem chk_fifo_Line_fits:chkFn Try.prog num [0,1,4,5,7,9,11,12,13,14,28] Try.f63 F15.fifo_Line_fits=true:=by kernel_rfl
theorem ok_fifo_Line_fits:callOk Try.prog 63=true:=by kernel_rfl
theorem chk_fifo_Line_Has:chkFn Try.prog num [0,1,4,6,8] Try.f64 F15.fifo_Line_Has=true:=by kernel_rfl
theorem ok_fifo_Line_Has:callOk Try.prog 64=true:=by kernel_rfl
theorem ok_slices_AppendSeq_int:callOk Try.prog 65=true:=by kernel_rfl
theorem chk_fifo_Line_each_1:chkFn Try.prog num [0,1,3,4,5,16] Try.f66 F15.fifo_Line_each_1=true:=by kernel_rfl
theorem ok_fifo_Line_each_1:callOk Try.prog 66=true:=by kernel_rfl
theorem chk_fifo_Of:chkFn Try.prog num [0,2,3,4,5,12] Try.f67 F15.fifo_Of=true:=by kernel_rfl
theorem ok_fifo_Of:callOk Try.prog 67=true:=by kernel_rfl
theorem chk_ref14_Push:chkFn Try.prog num [0,1,4,5,6,7,12,21] Try.f68 F15.ref14_Push=true:=by kernel_rfl
theorem ok_ref14_Push:callOk Try.prog 68=true:=by kernel_rfl
theorem chk_ref14_Ahead:chkFn Try.prog num [0,1,4,5,9,17] Try.f69 F15.ref14_Ahead=true:=by kernel_rfl
theorem ok_ref14_Ahead:callOk Try.prog 69=true:=by kernel_rfl
theorem chk_ref14_join:chkFn Try.prog num [0,1,4,5] Try.f70 F15.ref14_join=true:=by kernel_rfl
theorem ok_ref14_join:callOk Try.prog 70=true:=by kernel_rfl
end Go.Proofs.Ytaglnjaenigkaaa
