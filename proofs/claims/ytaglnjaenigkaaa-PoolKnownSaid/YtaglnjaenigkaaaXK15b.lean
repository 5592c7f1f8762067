import Derived.Test.YtaglnjaenigkaaaXT15
import Derived.Test.YtaglnjaenigkaaaXK15n
import Derived.Test.YtaglnjaenigkaaaXG16
import Derived.Test.YtaglnjaenigkaaaXG13
set_option linter.unusedSimpArgs false
set_option linter.unusedVariables false
namespace Go.Proofs.Ytaglnjaenigkaaa
open Go.Am
theorem k_law15_few:Known A0 num Try.prog []:=known_nil
theorem s_law15_few:S 7 F15.c_law15_few:=func_sound k_law15_few Try.func7 chk_law15_few
theorem m_law15_few:Mono (F15.c_law15_few (X:=Unit)):=amFunc_mono (fun g f h=>(k_law15_few g f h).2.2) _
theorem k_law15_once:Known A0 num Try.prog []:=known_nil
theorem s_law15_once:S 24 F15.c_law15_once:=func_sound k_law15_once Try.func24 chk_law15_once
theorem m_law15_once:Mono (F15.c_law15_once (X:=Unit)):=amFunc_mono (fun g f h=>(k_law15_once g f h).2.2) _
theorem kg_bounds:Known A0 num Try.prog F15.GBd:=known_cons ok_law15_few s_law15_few m_law15_few (known_am ok_law15_works kg_works e_works (known_cons ok_docs_Made s_docs_Made m_docs_Made (known_am ok_pool_New kg_new e_new (known_cons ok_kit_Pick s_kit_Pick m_kit_Pick (known_am ok_pool_Pool_Push kg_ppush e_ppush (known_am ok_pool_Pool_Pop kg_ppop e_ppop (known_am ok_pool_Pool_PutP kg_putp e_putp (known_am ok_pool_Pool_PutM kg_putm e_putm (known_am ok_pool_Pool_TakeP kg_takep e_takep (known_am ok_pool_Pool_TakeM kg_takem e_takem (known_am ok_pool_Pool_Both kg_both e_both (known_cons ok_pool_Pool_Batch s_pool_Pool_Batch m_pool_Pool_Batch (known_cons ok_pool_Pool_Len s_pool_Pool_Len m_pool_Pool_Len (known_cons ok_pool_Pool_AddSpin s_pool_Pool_AddSpin m_pool_Pool_AddSpin (known_cons ok_kit_SameInts s_kit_SameInts m_kit_SameInts (known_am ok_pool_Pool_Global kg_glob e_glob (known_cons ok_law15_once s_law15_once m_law15_once (known_am ok_pool_Pool_Ps kg_ps e_ps (known_am ok_pool_Pool_Ms kg_ms e_ms (known_cons ok_pool_Pool_Spin s_pool_Pool_Spin m_pool_Pool_Spin (known_nil)))))))))))))))))))))
theorem e_bounds:S 3 (amFunc F15.GBd F15.law15_PoolBounds):=func_sound kg_bounds Try.func3 chk_law15_PoolBounds
end Go.Proofs.Ytaglnjaenigkaaa
