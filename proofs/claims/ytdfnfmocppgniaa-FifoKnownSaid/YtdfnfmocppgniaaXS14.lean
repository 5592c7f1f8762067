import Derived.Test.YtdfnfmocppgniaaChecked
import Derived.Test.YtdfnfmocppgniaaXG12
import Derived.Test.YtdfnfmocppgniaaXG14
set_option linter.unusedSimpArgs false
set_option linter.unusedVariables false
namespace Go.Proofs.Ytdfnfmocppgniaa
open Go.Am
def num:Nat→Nat
 | 106=>3
 | 117=>4
 | 116=>5
 | 120=>6
 | 99=>7
 | 100=>8
 | 87=>9
 | 101=>10
 | 103=>12
 | 104=>13
 | 105=>14
 | 107=>15
 | 108=>16
 | 109=>17
 | 84=>18
 | 110=>19
 | 111=>20
 | 112=>21
 | 113=>22
 | 114=>23
 | 115=>24
 | 118=>25
 | 119=>26
 | 122=>27
 | 121=>28
 | 123=>29
 | 124=>30
 | 125=>31
 | 126=>32
 | 127=>33
 | 128=>34
 | 129=>35
 | 131=>37
 | 130=>36
 | 102=>11
 | _=>0
theorem chk_law14_FifoFirst:chkFn Try.prog num [0,2,3,4,5,6,7,8,9,10,13,18,32,35,52,61,80,85,95,99,118,130,139,143] Try.f3 F14.law14_FifoFirst=true:=by kernel_rfl
theorem ok_law14_FifoFirst:callOk Try.prog 3=true:=by kernel_rfl
theorem chk_law14_FifoPasses:chkFn Try.prog num [0,1,2,6,7,8,9,10,11,12,13,21,38,48] Try.f4 F14.law14_FifoPasses=true:=by kernel_rfl
theorem ok_law14_FifoPasses:callOk Try.prog 4=true:=by kernel_rfl
theorem chk_law14_FifoPlays:chkFn Try.prog num [0,1,2,6,7,8,9,10,11,12,13,14,15,16,17,18,26,47,49,54,104] Try.f5 F14.law14_FifoPlays=true:=by kernel_rfl
theorem ok_law14_FifoPlays:callOk Try.prog 5=true:=by kernel_rfl
theorem chk_law14_FifoKnown:chkFn Try.prog num [0,1,2,3,4,5,6,7,8,10,12,14,18,92] Try.f6 F14.law14_FifoKnown=true:=by kernel_rfl
theorem chk_law14_works:chkFn Try.prog num [0,1,2,33] Try.f7 F14.law14_works=true:=by kernel_rfl
theorem ok_law14_works:callOk Try.prog 7=true:=by kernel_rfl
theorem chk_fifo_Line_All:chkFn Try.prog num [0,2] Try.f8 F14.fifo_Line_All=true:=by kernel_rfl
theorem ok_fifo_Line_All:callOk Try.prog 8=true:=by kernel_rfl
theorem chk_kit_Pick:chkFn Try.prog num [0,1,4,6] Try.f9 F14.kit_Pick=true:=by kernel_rfl
theorem ok_kit_Pick:callOk Try.prog 9=true:=by kernel_rfl
theorem chk_fifo_Line_Push:chkFn Try.prog num [0,1,4,6,7,8,9,12,21,26,27,28,29,38] Try.f10 F14.fifo_Line_Push=true:=by kernel_rfl
theorem ok_fifo_Line_Push:callOk Try.prog 10=true:=by kernel_rfl
theorem chk_fifo_Line_Pop:chkFn Try.prog num [0,1,4,13] Try.f12 F14.fifo_Line_Pop=true:=by kernel_rfl
theorem ok_fifo_Line_Pop:callOk Try.prog 12=true:=by kernel_rfl
theorem chk_fifo_Line_Remove:chkFn Try.prog num [0,1,4,5,6,7,8,9,13,39,72] Try.f13 F14.fifo_Line_Remove=true:=by kernel_rfl
theorem ok_fifo_Line_Remove:callOk Try.prog 13=true:=by kernel_rfl
theorem chk_fifo_Line_Len:chkFn Try.prog num [0,2,4] Try.f14 F14.fifo_Line_Len=true:=by kernel_rfl
theorem ok_fifo_Line_Len:callOk Try.prog 14=true:=by kernel_rfl
theorem chk_fifo_Of:chkFn Try.prog num [0,2,3,4,5,12] Try.f15 F14.fifo_Of=true:=by kernel_rfl
theorem ok_fifo_Of:callOk Try.prog 15=true:=by kernel_rfl
theorem chk_fifo_Pass:chkFn Try.prog num [0,1,2,6,7,8,9,15,33] Try.f16 F14.fifo_Pass=true:=by kernel_rfl
theorem ok_fifo_Pass:callOk Try.prog 16=true:=by kernel_rfl
theorem chk_law14_row:chkFn Try.prog num [0,1,4,5,9,13] Try.f17 F14.law14_row=true:=by kernel_rfl
theorem ok_law14_row:callOk Try.prog 17=true:=by kernel_rfl
theorem chk_kit_SameInts:chkFn Try.prog num [0,1,4,5,10,14,25] Try.f18 F14.kit_SameInts=true:=by kernel_rfl
theorem ok_kit_SameInts:callOk Try.prog 18=true:=by kernel_rfl
theorem chk_law14_few:chkFn Try.prog num [0,1,4,5,14,23] Try.f19 F14.law14_few=true:=by kernel_rfl
theorem ok_law14_few:callOk Try.prog 19=true:=by kernel_rfl
theorem chk_ref14_Push:chkFn Try.prog num [0,1,4,5,6,7,12,21] Try.f20 F14.ref14_Push=true:=by kernel_rfl
theorem ok_ref14_Push:callOk Try.prog 20=true:=by kernel_rfl
theorem chk_fifo_Line_Copy:chkFn Try.prog num [0,2,3,6] Try.f21 F14.fifo_Line_Copy=true:=by kernel_rfl
theorem ok_fifo_Line_Copy:callOk Try.prog 21=true:=by kernel_rfl
theorem chk_law14_does:chkFn Try.prog num [0,1,2,3,4,9,10,11,12,13,14,15,16,17,18,19,20,21,22,23,24,25,26,27,28,29,30,31,32,33,34,35,37,38,58,69,86,103,133,163] Try.f22 F14.law14_does=true:=by kernel_rfl
theorem ok_law14_does:callOk Try.prog 22=true:=by kernel_rfl
theorem chk_law14_is:chkFn Try.prog num [0,1,2,6,7,8,9,10,12,19,47] Try.f23 F14.law14_is=true:=by kernel_rfl
theorem ok_law14_is:callOk Try.prog 23=true:=by kernel_rfl
theorem chk_fifo_Same:chkFn Try.prog num [0,1,4] Try.f24 F14.fifo_Same=true:=by kernel_rfl
theorem ok_fifo_Same:callOk Try.prog 24=true:=by kernel_rfl
theorem chk_fifo_Line_Head:chkFn Try.prog num [0,2,3,6] Try.f25 F14.fifo_Line_Head=true:=by kernel_rfl
theorem ok_fifo_Line_Head:callOk Try.prog 25=true:=by kernel_rfl
theorem chk_fifo_Line_Has:chkFn Try.prog num [0,1,4,6,8] Try.f26 F14.fifo_Line_Has=true:=by kernel_rfl
theorem ok_fifo_Line_Has:callOk Try.prog 26=true:=by kernel_rfl
theorem chk_slices_Collect_int:chkFn Try.prog num [0,2] Try.f27 F14.slices_Collect_int=true:=by kernel_rfl
theorem ok_slices_Collect_int:callOk Try.prog 27=true:=by kernel_rfl
theorem chk_fifo_Line_each:chkFn Try.prog num [0,1,2] Try.f28 F14.fifo_Line_each=true:=by kernel_rfl
theorem ok_fifo_Line_each:callOk Try.prog 28=true:=by kernel_rfl
theorem chk_fifo_Line_fits:chkFn Try.prog num [0,1,4,5,7,9,11,12,13,14,28] Try.f29 F14.fifo_Line_fits=true:=by kernel_rfl
theorem ok_fifo_Line_fits:callOk Try.prog 29=true:=by kernel_rfl
theorem chk_ref14_Ahead:chkFn Try.prog num [0,1,4,5,9,17] Try.f30 F14.ref14_Ahead=true:=by kernel_rfl
theorem ok_ref14_Ahead:callOk Try.prog 30=true:=by kernel_rfl
theorem chk_ref14_join:chkFn Try.prog num [0,1,4,5] Try.f31 F14.ref14_join=true:=by kernel_rfl
theorem ok_ref14_join:callOk Try.prog 31=true:=by kernel_rfl
theorem chk_ref14_Pop:chkFn Try.prog num [0,1,4,5] Try.f32 F14.ref14_Pop=true:=by kernel_rfl
theorem ok_ref14_Pop:callOk Try.prog 32=true:=by kernel_rfl
theorem chk_ref14_Remove:chkFn Try.prog num [0,1,4,5,6,11] Try.f33 F14.ref14_Remove=true:=by kernel_rfl
theorem ok_ref14_Remove:callOk Try.prog 33=true:=by kernel_rfl
theorem chk_ref14_Pass:chkFn Try.prog num [0,1,2,6,7,8,9,10,11,12,13,27] Try.f34 F14.ref14_Pass=true:=by kernel_rfl
theorem ok_ref14_Pass:callOk Try.prog 34=true:=by kernel_rfl
theorem chk_slices_Equal_int:chkFn Try.prog num [0,1,4,5,10,12,13,14,24] Try.f35 F14.slices_Equal_int=true:=by kernel_rfl
theorem ok_slices_Equal_int:callOk Try.prog 35=true:=by kernel_rfl
theorem chk_fifo_Line_each_1:chkFn Try.prog num [0,1,3,4,5,16] Try.f37 F14.fifo_Line_each_1=true:=by kernel_rfl
theorem ok_fifo_Line_each_1:callOk Try.prog 37=true:=by kernel_rfl
theorem ok_slices_AppendSeq_int:callOk Try.prog 36=true:=by kernel_rfl
theorem ok_fifo_Line_Ahead:callOk Try.prog 11=true:=by kernel_rfl
end Go.Proofs.Ytdfnfmocppgniaa
