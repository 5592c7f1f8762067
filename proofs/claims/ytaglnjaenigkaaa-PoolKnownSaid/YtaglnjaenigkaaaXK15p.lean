import Derived.Test.YtaglnjaenigkaaaXT15
import Derived.Test.YtaglnjaenigkaaaXK15n
import Derived.Test.YtaglnjaenigkaaaXG18
import Derived.Test.YtaglnjaenigkaaaXG16
import Derived.Test.YtaglnjaenigkaaaXG13
set_option linter.unusedSimpArgs false
set_option linter.unusedVariables false
namespace Go.Proofs.Ytaglnjaenigkaaa
open Go.Am
theorem k_law15_few:Known A0 num Try.prog []:=known_nil
theorem s_law15_few:S 7 F15.c_law15_few:=func_sound k_law15_few Try.func7 chk_law15_few
theorem m_law15_few:Mono (F15.c_law15_few (X:=Unit)):=amFunc_mono (fun g f h=>(k_law15_few g f h).2.2) _
theorem k_ref15_upto:Known A0 num Try.prog []:=known_nil
theorem s_ref15_upto:S 43 F15.c_ref15_upto:=func_sound k_ref15_upto Try.func43 chk_ref15_upto
theorem m_ref15_upto:Mono (F15.c_ref15_upto (X:=Unit)):=amFunc_mono (fun g f h=>(k_ref15_upto g f h).2.2) _
theorem k_ref14_Ahead:Known A0 num Try.prog []:=known_nil
theorem s_ref14_Ahead:S 69 F15.c_ref14_Ahead:=func_sound k_ref14_Ahead Try.func69 chk_ref14_Ahead
theorem m_ref14_Ahead:Mono (F15.c_ref14_Ahead (X:=Unit)):=amFunc_mono (fun g f h=>(k_ref14_Ahead g f h).2.2) _
theorem k_ref14_join:Known A0 num Try.prog []:=known_nil
theorem s_ref14_join:S 70 F15.c_ref14_join:=func_sound k_ref14_join Try.func70 chk_ref14_join
theorem m_ref14_join:Mono (F15.c_ref14_join (X:=Unit)):=amFunc_mono (fun g f h=>(k_ref14_join g f h).2.2) _
theorem k_ref15_first:Known A0 num Try.prog []:=known_nil
theorem s_ref15_first:S 61 F15.c_ref15_first:=func_sound k_ref15_first Try.func61 chk_ref15_first
theorem m_ref15_first:Mono (F15.c_ref15_first (X:=Unit)):=amFunc_mono (fun g f h=>(k_ref15_first g f h).2.2) _
theorem k_ref15_AddSpin:Known A0 num Try.prog []:=known_nil
theorem s_ref15_AddSpin:S 52 F15.c_ref15_AddSpin:=func_sound k_ref15_AddSpin Try.func52 chk_ref15_AddSpin
theorem m_ref15_AddSpin:Mono (F15.c_ref15_AddSpin (X:=Unit)):=amFunc_mono (fun g f h=>(k_ref15_AddSpin g f h).2.2) _
theorem kg_push14:Known A0 num Try.prog F15.G14:=known_cons ok_ref14_Ahead s_ref14_Ahead m_ref14_Ahead (known_cons ok_ref14_join s_ref14_join m_ref14_join (known_nil))
theorem e_push14:S 68 (amFunc F15.G14 F15.ref14_Push):=func_sound kg_push14 Try.func68 chk_ref14_Push
theorem kg_radd:Known A0 num Try.prog F15.G15a:=known_am ok_ref14_Push kg_push14 e_push14 (known_nil)
theorem e_radd:S 60 (amFunc F15.G15a F15.ref15_add):=func_sound kg_radd Try.func60 chk_ref15_add
theorem kg_rpush:Known A0 num Try.prog F15.G15p:=known_am ok_ref15_add kg_radd e_radd (known_nil)
theorem e_rpush:S 45 (amFunc F15.G15p F15.ref15_Push):=func_sound kg_rpush Try.func45 chk_ref15_Push
theorem kg_rputp:Known A0 num Try.prog F15.G15p:=known_am ok_ref15_add kg_radd e_radd (known_nil)
theorem e_rputp:S 47 (amFunc F15.G15p F15.ref15_PutP):=func_sound kg_rputp Try.func47 chk_ref15_PutP
theorem kg_rputm:Known A0 num Try.prog F15.G15p:=known_am ok_ref15_add kg_radd e_radd (known_nil)
theorem e_rputm:S 48 (amFunc F15.G15p F15.ref15_PutM):=func_sound kg_rputm Try.func48 chk_ref15_PutM
theorem kg_rpop:Known A0 num Try.prog F15.G15f:=known_cons ok_ref15_first s_ref15_first m_ref15_first (known_nil)
theorem e_rpop:S 46 (amFunc F15.G15f F15.ref15_Pop):=func_sound kg_rpop Try.func46 chk_ref15_Pop
theorem kg_rtakep:Known A0 num Try.prog F15.G15f:=known_cons ok_ref15_first s_ref15_first m_ref15_first (known_nil)
theorem e_rtakep:S 49 (amFunc F15.G15f F15.ref15_TakeP):=func_sound kg_rtakep Try.func49 chk_ref15_TakeP
theorem kg_rtakem:Known A0 num Try.prog F15.G15f:=known_cons ok_ref15_first s_ref15_first m_ref15_first (known_nil)
theorem e_rtakem:S 50 (amFunc F15.G15f F15.ref15_TakeM):=func_sound kg_rtakem Try.func50 chk_ref15_TakeM
theorem kg_rboth:Known A0 num Try.prog F15.G15b:=known_am ok_ref15_TakeP kg_rtakep e_rtakep (known_am ok_ref15_TakeM kg_rtakem e_rtakem (known_nil))
theorem e_rboth:S 51 (amFunc F15.G15b F15.ref15_Both):=func_sound kg_rboth Try.func51 chk_ref15_Both
theorem kg_rnew:Known A0 num Try.prog F15.G15n:=known_cons ok_ref15_upto s_ref15_upto m_ref15_upto (known_nil)
theorem e_rnew:S 29 (amFunc F15.G15n F15.ref15_New):=func_sound kg_rnew Try.func29 chk_ref15_New
theorem kg_spool:Known A0 num Try.prog F15.GSP:=known_am ok_pool_Pool_Global kg_glob e_glob (known_am ok_pool_Pool_Ps kg_ps e_ps (known_am ok_pool_Pool_Ms kg_ms e_ms (known_cons ok_kit_SameInts s_kit_SameInts m_kit_SameInts (known_cons ok_pool_Pool_Spin s_pool_Pool_Spin m_pool_Pool_Spin (known_cons ok_pool_Pool_Len s_pool_Pool_Len m_pool_Pool_Len (known_nil))))))
theorem e_spool:S 33 (amFunc F15.GSP F15.docs_SamePool):=func_sound kg_spool Try.func33 chk_docs_SamePool
theorem kg_does:Known A0 num Try.prog F15.GDo:=known_cons ok_kit_Pick s_kit_Pick m_kit_Pick (known_am ok_ref15_Push kg_rpush e_rpush (known_am ok_pool_Pool_Push kg_ppush e_ppush (known_am ok_ref15_Pop kg_rpop e_rpop (known_am ok_pool_Pool_Pop kg_ppop e_ppop (known_cons ok_kit_SameInts s_kit_SameInts m_kit_SameInts (known_am ok_ref15_PutP kg_rputp e_rputp (known_am ok_pool_Pool_PutP kg_putp e_putp (known_am ok_ref15_PutM kg_rputm e_rputm (known_am ok_pool_Pool_PutM kg_putm e_putm (known_am ok_ref15_TakeP kg_rtakep e_rtakep (known_am ok_pool_Pool_TakeP kg_takep e_takep (known_am ok_ref15_TakeM kg_rtakem e_rtakem (known_am ok_pool_Pool_TakeM kg_takem e_takem (known_am ok_ref15_Both kg_rboth e_rboth (known_am ok_pool_Pool_Both kg_both e_both (known_cons ok_ref15_AddSpin s_ref15_AddSpin m_ref15_AddSpin (known_cons ok_pool_Pool_AddSpin s_pool_Pool_AddSpin m_pool_Pool_AddSpin (known_nil))))))))))))))))))
theorem e_does:S 32 (amFunc F15.GDo F15.law15_does):=func_sound kg_does Try.func32 chk_law15_does
theorem kg_plays:Known A0 num Try.prog F15.GPl:=known_cons ok_law15_few s_law15_few m_law15_few (known_am ok_law15_works kg_works e_works (known_am ok_pool_New kg_new e_new (known_cons ok_conf_Config_Right s_conf_Config_Right m_conf_Config_Right (known_cons ok_docs_Config s_docs_Config m_docs_Config (known_am ok_ref15_New kg_rnew e_rnew (known_am ok_pool_Pool_Copy kg_pcopy e_pcopy (known_am ok_law15_does kg_does e_does (known_am ok_docs_SamePool kg_spool e_spool (known_cons ok_pool_Pool_Batch s_pool_Pool_Batch m_pool_Pool_Batch (known_cons ok_ref15_Batch s_ref15_Batch m_ref15_Batch (known_cons ok_kit_SameInts s_kit_SameInts m_kit_SameInts (known_am ok_pool_Same kg_psame e_psame (known_nil)))))))))))))
theorem e_plays:S 4 (amFunc F15.GPl F15.law15_PoolPlays):=func_sound kg_plays Try.func4 chk_law15_PoolPlays
end Go.Proofs.Ytaglnjaenigkaaa
