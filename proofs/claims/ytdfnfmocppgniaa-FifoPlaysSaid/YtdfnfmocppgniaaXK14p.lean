import Derived.Test.YtdfnfmocppgniaaXV14
import Derived.Test.YtdfnfmocppgniaaXK14f
import Derived.Test.YtdfnfmocppgniaaXG20
import Derived.Test.YtdfnfmocppgniaaXG19
import Derived.Test.YtdfnfmocppgniaaXG16
set_option linter.unusedSimpArgs false
set_option linter.unusedVariables false
namespace Go.Proofs.Ytdfnfmocppgniaa
open Go.Am
theorem kg_pass:Known A0 num Try.prog F15.GPass:=known_am ok_fifo_Line_All kg_all e_all (known_cons ok_fifo_Line_fits s_fifo_Line_fits m_fifo_Line_fits (known_am ok_fifo_Line_Pop kg_pop e_pop (known_am ok_fifo_Line_Push kg_push e_push (known_nil))))
theorem e_pass:S 16 (amFunc F15.GPass F14.fifo_Pass):=func_sound kg_pass Try.func16 chk_fifo_Pass
end Go.Proofs.Ytdfnfmocppgniaa
