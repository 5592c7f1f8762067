import Derived.Test.YtdfnfmocppgniaaXV14
import Derived.Test.YtdfnfmocppgniaaXK14y
import Derived.Test.YtdfnfmocppgniaaXG23
import Derived.Test.YtdfnfmocppgniaaXG19
import Derived.Test.YtdfnfmocppgniaaXG16
set_option linter.unusedSimpArgs false
set_option linter.unusedVariables false
namespace Go.Proofs.Ytdfnfmocppgniaa
open Go.Am
theorem kg_known:Known A0 num Try.prog F15.GKn14:=known_am ok_law14_FifoPlays kg_plays e_plays (known_am ok_law14_FifoFirst kg_first e_first (known_am ok_law14_FifoPasses kg_passes e_passes (known_cons ok_fifo_Line_Head s_fifo_Line_Head m_fifo_Line_Head (known_am ok_fifo_Pass kg_pass e_pass (known_am ok_fifo_Line_Push kg_push e_push (known_am ok_fifo_Line_Remove kg_rem e_rem (known_cons ok_fifo_Line_Has s_fifo_Line_Has m_fifo_Line_Has (known_cons ok_fifo_Line_Ahead s_fifo_Line_Ahead m_fifo_Line_Ahead (known_am ok_fifo_Line_Pop kg_pop e_pop (known_cons ok_fifo_Line_Len s_fifo_Line_Len m_fifo_Line_Len (known_am ok_fifo_Line_All kg_all e_all (known_am ok_fifo_Line_Copy kg_cp e_cp (known_am ok_fifo_Same kg_same e_same (known_am ok_law14_works kg_works e_works (known_nil)))))))))))))))
theorem e_known:S 6 (amFunc F15.GKn14 F14.law14_FifoKnown):=func_sound kg_known Try.func6 chk_law14_FifoKnown
end Go.Proofs.Ytdfnfmocppgniaa
