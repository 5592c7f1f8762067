import Derived.Test.YtdfnfmocppgniaaXV14
import Derived.Test.YtdfnfmocppgniaaXK14f
import Derived.Test.YtdfnfmocppgniaaXG21
import Derived.Test.YtdfnfmocppgniaaXG19
import Derived.Test.YtdfnfmocppgniaaXG16
set_option linter.unusedSimpArgs false
set_option linter.unusedVariables false
namespace Go.Proofs.Ytdfnfmocppgniaa
open Go.Am
theorem kg_pass:Known A0 num Try.prog F15.GPass:=known_am ok_fifo_Line_All kg_all e_all (known_cons ok_fifo_Line_fits s_fifo_Line_fits m_fifo_Line_fits (known_am ok_fifo_Line_Pop kg_pop e_pop (known_am ok_fifo_Line_Push kg_push e_push (known_nil))))
theorem e_pass:S 16 (amFunc F15.GPass F14.fifo_Pass):=func_sound kg_pass Try.func16 chk_fifo_Pass
theorem kg_passes:Known A0 num Try.prog F15.GPs:=known_am ok_law14_works kg_works e_works (known_am ok_fifo_Of kg_of e_of (known_am ok_fifo_Pass kg_pass e_pass (known_am ok_fifo_Line_All kg_all e_all (known_am ok_law14_row kg_row e_row (known_cons ok_kit_SameInts s_kit_SameInts m_kit_SameInts (known_nil))))))
theorem e_passes:S 4 (amFunc F15.GPs F14.law14_FifoPasses):=func_sound kg_passes Try.func4 chk_law14_FifoPasses
end Go.Proofs.Ytdfnfmocppgniaa
