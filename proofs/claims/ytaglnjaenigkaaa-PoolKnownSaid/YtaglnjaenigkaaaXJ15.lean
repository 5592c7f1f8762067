import Derived.Test.YtaglnjaenigkaaaXS15
import Derived.Test.YtaglnjaenigkaaaXG12
import Derived.Test.YtaglnjaenigkaaaXG13
set_option linter.unusedSimpArgs false
set_option linter.unusedVariables false
namespace Go.Proofs.Ytaglnjaenigkaaa
open Go.Am
def A0:AbsSem Unit:=AbsSem.no Unit
abbrev S(k:Nat) (f:AFun Unit):Prop:=Sound A0 num Try.prog k f
theorem k_conf_within:Known A0 num Try.prog []:=known_nil
theorem s_conf_within:S 42 F15.c_conf_within:=func_sound k_conf_within Try.func42 chk_conf_within
theorem m_conf_within:Mono (F15.c_conf_within (X:=Unit)):=amFunc_mono (fun g f h=>(k_conf_within g f h).2.2) _
theorem k_conf_Config_Right:Known A0 num Try.prog [(176,F15.c_conf_within)]:=known_cons ok_conf_within s_conf_within m_conf_within (known_nil)
theorem s_conf_Config_Right:S 28 F15.c_conf_Config_Right:=func_sound k_conf_Config_Right Try.func28 chk_conf_Config_Right
theorem m_conf_Config_Right:Mono (F15.c_conf_Config_Right (X:=Unit)):=amFunc_mono (fun g f h=>(k_conf_Config_Right g f h).2.2) _
theorem k_fifo_Line_Has:Known A0 num Try.prog []:=known_nil
theorem s_fifo_Line_Has:S 64 F15.c_fifo_Line_Has:=func_sound k_fifo_Line_Has Try.func64 chk_fifo_Line_Has
theorem m_fifo_Line_Has:Mono (F15.c_fifo_Line_Has (X:=Unit)):=amFunc_mono (fun g f h=>(k_fifo_Line_Has g f h).2.2) _
theorem k_fifo_Line_fits:Known A0 num Try.prog [(119,F15.c_fifo_Line_Has)]:=known_cons ok_fifo_Line_Has s_fifo_Line_Has m_fifo_Line_Has (known_nil)
theorem s_fifo_Line_fits:S 63 F15.c_fifo_Line_fits:=func_sound k_fifo_Line_fits Try.func63 chk_fifo_Line_fits
theorem m_fifo_Line_fits:Mono (F15.c_fifo_Line_fits (X:=Unit)):=amFunc_mono (fun g f h=>(k_fifo_Line_fits g f h).2.2) _
theorem k_fifo_Line_Len:Known A0 num Try.prog []:=known_nil
theorem s_fifo_Line_Len:S 40 F15.c_fifo_Line_Len:=func_sound k_fifo_Line_Len Try.func40 chk_fifo_Line_Len
theorem m_fifo_Line_Len:Mono (F15.c_fifo_Line_Len (X:=Unit)):=amFunc_mono (fun g f h=>(k_fifo_Line_Len g f h).2.2) _
theorem k_fifo_Line_Head:Known A0 num Try.prog [(105,F15.c_fifo_Line_Len)]:=known_cons ok_fifo_Line_Len s_fifo_Line_Len m_fifo_Line_Len (known_nil)
theorem s_fifo_Line_Head:S 56 F15.c_fifo_Line_Head:=func_sound k_fifo_Line_Head Try.func56 chk_fifo_Line_Head
theorem m_fifo_Line_Head:Mono (F15.c_fifo_Line_Head (X:=Unit)):=amFunc_mono (fun g f h=>(k_fifo_Line_Head g f h).2.2) _
theorem k_fifo_Line_Remove:Known A0 num Try.prog [(119,F15.c_fifo_Line_Has)]:=known_cons ok_fifo_Line_Has s_fifo_Line_Has m_fifo_Line_Has (known_nil)
theorem s_fifo_Line_Remove:S 55 F15.c_fifo_Line_Remove:=func_sound k_fifo_Line_Remove Try.func55 chk_fifo_Line_Remove
theorem m_fifo_Line_Remove:Mono (F15.c_fifo_Line_Remove (X:=Unit)):=amFunc_mono (fun g f h=>(k_fifo_Line_Remove g f h).2.2) _
theorem k_fifo_Line_Pop:Known A0 num Try.prog [(105,F15.c_fifo_Line_Len),(104,F15.c_fifo_Line_Remove)]:=known_cons ok_fifo_Line_Len s_fifo_Line_Len m_fifo_Line_Len (known_cons ok_fifo_Line_Remove s_fifo_Line_Remove m_fifo_Line_Remove (known_nil))
theorem s_fifo_Line_Pop:S 38 F15.c_fifo_Line_Pop:=func_sound k_fifo_Line_Pop Try.func38 chk_fifo_Line_Pop
theorem m_fifo_Line_Pop:Mono (F15.c_fifo_Line_Pop (X:=Unit)):=amFunc_mono (fun g f h=>(k_fifo_Line_Pop g f h).2.2) _
theorem k_pool_line_first:Known A0 num Try.prog [(118,F15.c_fifo_Line_Head),(103,F15.c_fifo_Line_Pop)]:=known_cons ok_fifo_Line_Head s_fifo_Line_Head m_fifo_Line_Head (known_cons ok_fifo_Line_Pop s_fifo_Line_Pop m_fifo_Line_Pop (known_nil))
theorem s_pool_line_first:S 39 F15.c_pool_line_first:=func_sound k_pool_line_first Try.func39 chk_pool_line_first
theorem m_pool_line_first:Mono (F15.c_pool_line_first (X:=Unit)):=amFunc_mono (fun g f h=>(k_pool_line_first g f h).2.2) _
theorem k_fifo_Line_each_1:Known A0 num Try.prog [(118,F15.c_fifo_Line_Head),(252,F15.c_pool_line_first)]:=known_cons ok_fifo_Line_Head s_fifo_Line_Head m_fifo_Line_Head (known_cons ok_pool_line_first s_pool_line_first m_pool_line_first (known_nil))
theorem s_fifo_Line_each_1:S 66 F15.c_fifo_Line_each_1:=func_sound k_fifo_Line_each_1 Try.func66 chk_fifo_Line_each_1
theorem m_fifo_Line_each_1:Mono (F15.c_fifo_Line_each_1 (X:=Unit)):=amFunc_mono (fun g f h=>(k_fifo_Line_each_1 g f h).2.2) _
theorem k_fifo_Line_each:Known A0 num Try.prog [(131,F15.c_fifo_Line_each_1)]:=known_cons ok_fifo_Line_each_1 s_fifo_Line_each_1 m_fifo_Line_each_1 (known_nil)
theorem s_fifo_Line_each:S 58 F15.c_fifo_Line_each:=func_sound k_fifo_Line_each Try.func58 chk_fifo_Line_each
theorem m_fifo_Line_each:Mono (F15.c_fifo_Line_each (X:=Unit)):=amFunc_mono (fun g f h=>(k_fifo_Line_each g f h).2.2) _
end Go.Proofs.Ytaglnjaenigkaaa
