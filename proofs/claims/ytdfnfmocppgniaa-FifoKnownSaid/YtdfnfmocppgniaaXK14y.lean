import Derived.Test.YtdfnfmocppgniaaXV14
import Derived.Test.YtdfnfmocppgniaaXK14p
import Derived.Test.YtdfnfmocppgniaaXG22
import Derived.Test.YtdfnfmocppgniaaXG19
import Derived.Test.YtdfnfmocppgniaaXG16
set_option linter.unusedSimpArgs false
set_option linter.unusedVariables false
namespace Go.Proofs.Ytdfnfmocppgniaa
open Go.Am
theorem k_law14_few:Known A0 num Try.prog []:=known_nil
theorem s_law14_few:S 19 F14.c_law14_few:=func_sound k_law14_few Try.func19 chk_law14_few
theorem m_law14_few:Mono (F14.c_law14_few (X:=Unit)):=amFunc_mono (fun g f h=>(k_law14_few g f h).2.2) _
theorem k_ref14_Ahead:Known A0 num Try.prog []:=known_nil
theorem s_ref14_Ahead:S 30 F14.c_ref14_Ahead:=func_sound k_ref14_Ahead Try.func30 chk_ref14_Ahead
theorem m_ref14_Ahead:Mono (F14.c_ref14_Ahead (X:=Unit)):=amFunc_mono (fun g f h=>(k_ref14_Ahead g f h).2.2) _
theorem k_ref14_join:Known A0 num Try.prog []:=known_nil
theorem s_ref14_join:S 31 F14.c_ref14_join:=func_sound k_ref14_join Try.func31 chk_ref14_join
theorem m_ref14_join:Mono (F14.c_ref14_join (X:=Unit)):=amFunc_mono (fun g f h=>(k_ref14_join g f h).2.2) _
theorem k_ref14_Pop:Known A0 num Try.prog []:=known_nil
theorem s_ref14_Pop:S 32 F14.c_ref14_Pop:=func_sound k_ref14_Pop Try.func32 chk_ref14_Pop
theorem m_ref14_Pop:Mono (F14.c_ref14_Pop (X:=Unit)):=amFunc_mono (fun g f h=>(k_ref14_Pop g f h).2.2) _
theorem k_slices_Equal_int:Known A0 num Try.prog []:=known_nil
theorem s_slices_Equal_int:S 35 F14.c_slices_Equal_int:=func_sound k_slices_Equal_int Try.func35 chk_slices_Equal_int
theorem m_slices_Equal_int:Mono (F14.c_slices_Equal_int (X:=Unit)):=amFunc_mono (fun g f h=>(k_slices_Equal_int g f h).2.2) _
theorem kg_push14:Known A0 num Try.prog F15.G14:=known_cons ok_ref14_Ahead s_ref14_Ahead m_ref14_Ahead (known_cons ok_ref14_join s_ref14_join m_ref14_join (known_nil))
theorem e_push14:S 20 (amFunc F15.G14 F14.ref14_Push):=func_sound kg_push14 Try.func20 chk_ref14_Push
theorem kg_rrem14:Known A0 num Try.prog F15.G14:=known_cons ok_ref14_Ahead s_ref14_Ahead m_ref14_Ahead (known_cons ok_ref14_join s_ref14_join m_ref14_join (known_nil))
theorem e_rrem14:S 33 (amFunc F15.G14 F14.ref14_Remove):=func_sound kg_rrem14 Try.func33 chk_ref14_Remove
theorem kg_rpass14:Known A0 num Try.prog F15.GRp:=known_cons ok_ref14_Pop s_ref14_Pop m_ref14_Pop (known_am ok_ref14_Push kg_push14 e_push14 (known_nil))
theorem e_rpass14:S 34 (amFunc F15.GRp F14.ref14_Pass):=func_sound kg_rpass14 Try.func34 chk_ref14_Pass
theorem kg_does14:Known A0 num Try.prog F15.GDo14:=known_am ok_ref14_Push kg_push14 e_push14 (known_am ok_fifo_Line_Push kg_push e_push (known_cons ok_ref14_Pop s_ref14_Pop m_ref14_Pop (known_am ok_fifo_Line_Pop kg_pop e_pop (known_am ok_law14_row kg_row e_row (known_am ok_ref14_Remove kg_rrem14 e_rrem14 (known_am ok_fifo_Line_Remove kg_rem e_rem (known_am ok_ref14_Pass kg_rpass14 e_rpass14 (known_am ok_fifo_Pass kg_pass e_pass (known_nil)))))))))
theorem e_does14:S 22 (amFunc F15.GDo14 F14.law14_does):=func_sound kg_does14 Try.func22 chk_law14_does
theorem kg_is14:Known A0 num Try.prog F15.GIs:=known_am ok_fifo_Line_All kg_all e_all (known_am ok_law14_row kg_row e_row (known_cons ok_fifo_Line_Head s_fifo_Line_Head m_fifo_Line_Head (known_cons ok_ref14_Ahead s_ref14_Ahead m_ref14_Ahead (known_cons ok_fifo_Line_Len s_fifo_Line_Len m_fifo_Line_Len (known_cons ok_fifo_Line_Ahead s_fifo_Line_Ahead m_fifo_Line_Ahead (known_cons ok_fifo_Line_Has s_fifo_Line_Has m_fifo_Line_Has (known_nil)))))))
theorem e_is14:S 23 (amFunc F15.GIs F14.law14_is):=func_sound kg_is14 Try.func23 chk_law14_is
theorem kg_cp:Known A0 num Try.prog F15.GCp14:=known_am ok_fifo_Line_All kg_all e_all (known_am ok_fifo_Of kg_of e_of (known_nil))
theorem e_cp:S 21 (amFunc F15.GCp14 F14.fifo_Line_Copy):=func_sound kg_cp Try.func21 chk_fifo_Line_Copy
theorem kg_same:Known A0 num Try.prog F15.GSame14:=known_am ok_fifo_Line_All kg_all e_all (known_cons ok_slices_Equal_int s_slices_Equal_int m_slices_Equal_int (known_nil))
theorem e_same:S 24 (amFunc F15.GSame14 F14.fifo_Same):=func_sound kg_same Try.func24 chk_fifo_Same
theorem kg_plays:Known A0 num Try.prog F15.GPl14:=known_cons ok_law14_few s_law14_few m_law14_few (known_am ok_law14_works kg_works e_works (known_am ok_fifo_Of kg_of e_of (known_am ok_ref14_Push kg_push14 e_push14 (known_am ok_fifo_Line_Copy kg_cp e_cp (known_am ok_law14_does kg_does14 e_does14 (known_am ok_law14_is kg_is14 e_is14 (known_am ok_fifo_Same kg_same e_same (known_cons ok_kit_SameInts s_kit_SameInts m_kit_SameInts (known_nil)))))))))
theorem e_plays:S 5 (amFunc F15.GPl14 F14.law14_FifoPlays):=func_sound kg_plays Try.func5 chk_law14_FifoPlays
end Go.Proofs.Ytdfnfmocppgniaa
