import Derived.Test.YtaglnjaenigkaaaXT15
import Derived.Test.YtaglnjaenigkaaaXK15n
import Derived.Test.YtaglnjaenigkaaaXK15b
import Derived.Test.YtaglnjaenigkaaaXK15p
import Derived.Test.YtaglnjaenigkaaaXG18
import Derived.Test.YtaglnjaenigkaaaXG16
import Derived.Test.YtaglnjaenigkaaaXG13
set_option linter.unusedSimpArgs false
set_option linter.unusedVariables false
namespace Go.Proofs.Ytaglnjaenigkaaa
open Go.Am
theorem kg_known:Known A0 num Try.prog F15.GKn:=known_cons ok_docs_Made s_docs_Made m_docs_Made (known_am ok_law15_PoolPlays kg_plays e_plays (known_am ok_law15_PoolBounds kg_bounds e_bounds (known_am ok_law15_PoolNone kg_none e_none (known_am ok_law15_works kg_works e_works (known_nil)))))
theorem e_known:S 6 (amFunc F15.GKn F15.law15_PoolKnown):=func_sound kg_known Try.func6 chk_law15_PoolKnown
end Go.Proofs.Ytaglnjaenigkaaa
