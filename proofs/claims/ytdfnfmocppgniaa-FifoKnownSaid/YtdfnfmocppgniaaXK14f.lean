import Derived.Test.YtdfnfmocppgniaaXV14
import Derived.Test.YtdfnfmocppgniaaXG20
import Derived.Test.YtdfnfmocppgniaaXG19
import Derived.Test.YtdfnfmocppgniaaXG16
set_option linter.unusedSimpArgs false
set_option linter.unusedVariables false
namespace Go.Proofs.Ytdfnfmocppgniaa
open Go.Am
theorem k_kit_Pick:Known A0 num Try.prog []:=known_nil
theorem s_kit_Pick:S 9 F14.c_kit_Pick:=func_sound k_kit_Pick Try.func9 chk_kit_Pick
theorem m_kit_Pick:Mono (F14.c_kit_Pick (X:=Unit)):=amFunc_mono (fun g f h=>(k_kit_Pick g f h).2.2) _
theorem k_kit_SameInts:Known A0 num Try.prog []:=known_nil
theorem s_kit_SameInts:S 18 F14.c_kit_SameInts:=func_sound k_kit_SameInts Try.func18 chk_kit_SameInts
theorem m_kit_SameInts:Mono (F14.c_kit_SameInts (X:=Unit)):=amFunc_mono (fun g f h=>(k_kit_SameInts g f h).2.2) _
theorem k_fifo_Line_Remove:Known A0 num Try.prog [(119,F14.c_fifo_Line_Has)]:=known_cons ok_fifo_Line_Has s_fifo_Line_Has m_fifo_Line_Has (known_nil)
theorem s_fifo_Line_Remove:S 13 F14.c_fifo_Line_Remove:=func_sound k_fifo_Line_Remove Try.func13 chk_fifo_Line_Remove
theorem m_fifo_Line_Remove:Mono (F14.c_fifo_Line_Remove (X:=Unit)):=amFunc_mono (fun g f h=>(k_fifo_Line_Remove g f h).2.2) _
theorem k_slices_Collect_int:Known A0 num Try.prog [(130,F14.c_slices_AppendSeq_int)]:=known_cons ok_slices_AppendSeq_int s_slices_AppendSeq_int m_slices_AppendSeq_int (known_nil)
theorem s_slices_Collect_int:S 27 F14.c_slices_Collect_int:=func_sound k_slices_Collect_int Try.func27 chk_slices_Collect_int
theorem m_slices_Collect_int:Mono (F14.c_slices_Collect_int (X:=Unit)):=amFunc_mono (fun g f h=>(k_slices_Collect_int g f h).2.2) _
theorem kg_push:Known A0 num Try.prog F15.GPush:=known_cons ok_fifo_Line_fits s_fifo_Line_fits m_fifo_Line_fits (known_nil)
theorem e_push:S 10 (amFunc F15.GPush F14.fifo_Line_Push):=func_sound kg_push Try.func10 chk_fifo_Line_Push
theorem kg_pop:Known A0 num Try.prog F15.GPop:=known_cons ok_fifo_Line_Len s_fifo_Line_Len m_fifo_Line_Len (known_cons ok_fifo_Line_Remove s_fifo_Line_Remove m_fifo_Line_Remove (known_nil))
theorem e_pop:S 12 (amFunc F15.GPop F14.fifo_Line_Pop):=func_sound kg_pop Try.func12 chk_fifo_Line_Pop
theorem kg_rem:Known A0 num Try.prog F15.GRem:=known_cons ok_fifo_Line_Has s_fifo_Line_Has m_fifo_Line_Has (known_nil)
theorem e_rem:S 13 (amFunc F15.GRem F14.fifo_Line_Remove):=func_sound kg_rem Try.func13 chk_fifo_Line_Remove
theorem kg_all:Known A0 num Try.prog F15.GAll14:=known_cons ok_fifo_Line_each s_fifo_Line_each m_fifo_Line_each (known_cons ok_slices_Collect_int s_slices_Collect_int m_slices_Collect_int (known_nil))
theorem e_all:S 8 (amFunc F15.GAll14 F14.fifo_Line_All):=func_sound kg_all Try.func8 chk_fifo_Line_All
theorem kg_of:Known A0 num Try.prog F15.GOf:=known_am ok_fifo_Line_Push kg_push e_push (known_nil)
theorem e_of:S 15 (amFunc F15.GOf F14.fifo_Of):=func_sound kg_of Try.func15 chk_fifo_Of
theorem kg_row:Known A0 num Try.prog F15.GRow:=known_cons ok_kit_SameInts s_kit_SameInts m_kit_SameInts (known_nil)
theorem e_row:S 17 (amFunc F15.GRow F14.law14_row):=func_sound kg_row Try.func17 chk_law14_row
theorem kg_works:Known A0 num Try.prog F15.GW14:=known_am ok_fifo_Of kg_of e_of (known_am ok_fifo_Line_Push kg_push e_push (known_am ok_fifo_Line_All kg_all e_all (known_am ok_law14_row kg_row e_row (known_cons ok_fifo_Line_Ahead s_fifo_Line_Ahead m_fifo_Line_Ahead (known_am ok_fifo_Line_Remove kg_rem e_rem (known_am ok_fifo_Line_Pop kg_pop e_pop (known_nil)))))))
theorem e_works:S 7 (amFunc F15.GW14 F14.law14_works):=func_sound kg_works Try.func7 chk_law14_works
theorem kg_first:Known A0 num Try.prog F15.GFf:=known_am ok_law14_works kg_works e_works (known_am ok_fifo_Line_All kg_all e_all (known_cons ok_kit_Pick s_kit_Pick m_kit_Pick (known_am ok_fifo_Line_Push kg_push e_push (known_cons ok_fifo_Line_Ahead s_fifo_Line_Ahead m_fifo_Line_Ahead (known_am ok_fifo_Line_Pop kg_pop e_pop (known_am ok_fifo_Line_Remove kg_rem e_rem (known_cons ok_fifo_Line_Len s_fifo_Line_Len m_fifo_Line_Len (known_nil))))))))
theorem e_first:S 3 (amFunc F15.GFf F14.law14_FifoFirst):=func_sound kg_first Try.func3 chk_law14_FifoFirst
end Go.Proofs.Ytdfnfmocppgniaa
