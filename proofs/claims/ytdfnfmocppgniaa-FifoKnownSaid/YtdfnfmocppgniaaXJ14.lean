import Derived.Test.YtdfnfmocppgniaaXS14
import Derived.Test.YtdfnfmocppgniaaXG15
import Derived.Test.YtdfnfmocppgniaaXG16
set_option linter.unusedSimpArgs false
set_option linter.unusedVariables false
namespace Go.Proofs.Ytdfnfmocppgniaa
open Go.Am
def A0:AbsSem Unit:=AbsSem.no Unit
abbrev S(k:Nat) (f:AFun Unit):Prop:=Sound A0 num Try.prog k f
theorem k_fifo_Line_Has:Known A0 num Try.prog []:=known_nil
theorem s_fifo_Line_Has:S 26 F14.c_fifo_Line_Has:=func_sound k_fifo_Line_Has Try.func26 chk_fifo_Line_Has
theorem m_fifo_Line_Has:Mono (F14.c_fifo_Line_Has (X:=Unit)):=amFunc_mono (fun g f h=>(k_fifo_Line_Has g f h).2.2) _
theorem k_fifo_Line_fits:Known A0 num Try.prog [(119,F14.c_fifo_Line_Has)]:=known_cons ok_fifo_Line_Has s_fifo_Line_Has m_fifo_Line_Has (known_nil)
theorem s_fifo_Line_fits:S 29 F14.c_fifo_Line_fits:=func_sound k_fifo_Line_fits Try.func29 chk_fifo_Line_fits
theorem m_fifo_Line_fits:Mono (F14.c_fifo_Line_fits (X:=Unit)):=amFunc_mono (fun g f h=>(k_fifo_Line_fits g f h).2.2) _
theorem k_fifo_Line_Len:Known A0 num Try.prog []:=known_nil
theorem s_fifo_Line_Len:S 14 F14.c_fifo_Line_Len:=func_sound k_fifo_Line_Len Try.func14 chk_fifo_Line_Len
theorem m_fifo_Line_Len:Mono (F14.c_fifo_Line_Len (X:=Unit)):=amFunc_mono (fun g f h=>(k_fifo_Line_Len g f h).2.2) _
theorem k_fifo_Line_Head:Known A0 num Try.prog [(105,F14.c_fifo_Line_Len)]:=known_cons ok_fifo_Line_Len s_fifo_Line_Len m_fifo_Line_Len (known_nil)
theorem s_fifo_Line_Head:S 25 F14.c_fifo_Line_Head:=func_sound k_fifo_Line_Head Try.func25 chk_fifo_Line_Head
theorem m_fifo_Line_Head:Mono (F14.c_fifo_Line_Head (X:=Unit)):=amFunc_mono (fun g f h=>(k_fifo_Line_Head g f h).2.2) _
theorem k_fifo_Line_each_1:Known A0 num Try.prog [(118,F14.c_fifo_Line_Head)]:=known_cons ok_fifo_Line_Head s_fifo_Line_Head m_fifo_Line_Head (known_nil)
theorem s_fifo_Line_each_1:S 37 F14.c_fifo_Line_each_1:=func_sound k_fifo_Line_each_1 Try.func37 chk_fifo_Line_each_1
theorem m_fifo_Line_each_1:Mono (F14.c_fifo_Line_each_1 (X:=Unit)):=amFunc_mono (fun g f h=>(k_fifo_Line_each_1 g f h).2.2) _
theorem k_fifo_Line_each:Known A0 num Try.prog [(131,F14.c_fifo_Line_each_1)]:=known_cons ok_fifo_Line_each_1 s_fifo_Line_each_1 m_fifo_Line_each_1 (known_nil)
theorem s_fifo_Line_each:S 28 F14.c_fifo_Line_each:=func_sound k_fifo_Line_each Try.func28 chk_fifo_Line_each
theorem m_fifo_Line_each:Mono (F14.c_fifo_Line_each (X:=Unit)):=amFunc_mono (fun g f h=>(k_fifo_Line_each g f h).2.2) _
end Go.Proofs.Ytdfnfmocppgniaa
