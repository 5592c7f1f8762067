import Derived.Test.YtaglnjaenigkaaaXT15
import Derived.Test.YtaglnjaenigkaaaXG16
import Derived.Test.YtaglnjaenigkaaaXG13
set_option linter.unusedSimpArgs false
set_option linter.unusedVariables false
namespace Go.Proofs.Ytaglnjaenigkaaa
open Go.Am
theorem k_slices_Collect_int:Known A0 num Try.prog [(130,F15.c_slices_AppendSeq_int)]:=known_cons ok_slices_AppendSeq_int s_slices_AppendSeq_int m_slices_AppendSeq_int (known_nil)
theorem s_slices_Collect_int:S 57 F15.c_slices_Collect_int:=func_sound k_slices_Collect_int Try.func57 chk_slices_Collect_int
theorem m_slices_Collect_int:Mono (F15.c_slices_Collect_int (X:=Unit)):=amFunc_mono (fun g f h=>(k_slices_Collect_int g f h).2.2) _
theorem k_slices_Equal_int:Known A0 num Try.prog []:=known_nil
theorem s_slices_Equal_int:S 62 F15.c_slices_Equal_int:=func_sound k_slices_Equal_int Try.func62 chk_slices_Equal_int
theorem m_slices_Equal_int:Mono (F15.c_slices_Equal_int (X:=Unit)):=amFunc_mono (fun g f h=>(k_slices_Equal_int g f h).2.2) _
theorem k_kit_SameInts:Known A0 num Try.prog []:=known_nil
theorem s_kit_SameInts:S 22 F15.c_kit_SameInts:=func_sound k_kit_SameInts Try.func22 chk_kit_SameInts
theorem m_kit_SameInts:Mono (F15.c_kit_SameInts (X:=Unit)):=amFunc_mono (fun g f h=>(k_kit_SameInts g f h).2.2) _
theorem k_pool_Pool_Len:Known A0 num Try.prog [(105,F15.c_fifo_Line_Len)]:=known_cons ok_fifo_Line_Len s_fifo_Line_Len m_fifo_Line_Len (known_nil)
theorem s_pool_Pool_Len:S 20 F15.c_pool_Pool_Len:=func_sound k_pool_Pool_Len Try.func20 chk_pool_Pool_Len
theorem m_pool_Pool_Len:Mono (F15.c_pool_Pool_Len (X:=Unit)):=amFunc_mono (fun g f h=>(k_pool_Pool_Len g f h).2.2) _
theorem k_pool_Pool_Batch:Known A0 num Try.prog [(233,F15.c_pool_Pool_Len)]:=known_cons ok_pool_Pool_Len s_pool_Pool_Len m_pool_Pool_Len (known_nil)
theorem s_pool_Pool_Batch:S 19 F15.c_pool_Pool_Batch:=func_sound k_pool_Pool_Batch Try.func19 chk_pool_Pool_Batch
theorem m_pool_Pool_Batch:Mono (F15.c_pool_Pool_Batch (X:=Unit)):=amFunc_mono (fun g f h=>(k_pool_Pool_Batch g f h).2.2) _
theorem k_pool_Pool_Spin:Known A0 num Try.prog []:=known_nil
theorem s_pool_Pool_Spin:S 27 F15.c_pool_Pool_Spin:=func_sound k_pool_Pool_Spin Try.func27 chk_pool_Pool_Spin
theorem m_pool_Pool_Spin:Mono (F15.c_pool_Pool_Spin (X:=Unit)):=amFunc_mono (fun g f h=>(k_pool_Pool_Spin g f h).2.2) _
theorem k_pool_Pool_AddSpin:Known A0 num Try.prog []:=known_nil
theorem s_pool_Pool_AddSpin:S 21 F15.c_pool_Pool_AddSpin:=func_sound k_pool_Pool_AddSpin Try.func21 chk_pool_Pool_AddSpin
theorem m_pool_Pool_AddSpin:Mono (F15.c_pool_Pool_AddSpin (X:=Unit)):=amFunc_mono (fun g f h=>(k_pool_Pool_AddSpin g f h).2.2) _
theorem k_kit_Pick:Known A0 num Try.prog []:=known_nil
theorem s_kit_Pick:S 11 F15.c_kit_Pick:=func_sound k_kit_Pick Try.func11 chk_kit_Pick
theorem m_kit_Pick:Mono (F15.c_kit_Pick (X:=Unit)):=amFunc_mono (fun g f h=>(k_kit_Pick g f h).2.2) _
theorem k_docs_Made:Known A0 num Try.prog [(87,F15.c_kit_Pick)]:=known_cons ok_kit_Pick s_kit_Pick m_kit_Pick (known_nil)
theorem s_docs_Made:S 9 F15.c_docs_Made:=func_sound k_docs_Made Try.func9 chk_docs_Made
theorem m_docs_Made:Mono (F15.c_docs_Made (X:=Unit)):=amFunc_mono (fun g f h=>(k_docs_Made g f h).2.2) _
theorem k_docs_Config:Known A0 num Try.prog []:=known_nil
theorem s_docs_Config:S 30 F15.c_docs_Config:=func_sound k_docs_Config Try.func30 chk_docs_Config
theorem m_docs_Config:Mono (F15.c_docs_Config (X:=Unit)):=amFunc_mono (fun g f h=>(k_docs_Config g f h).2.2) _
theorem k_ref15_Batch:Known A0 num Try.prog []:=known_nil
theorem s_ref15_Batch:S 34 F15.c_ref15_Batch:=func_sound k_ref15_Batch Try.func34 chk_ref15_Batch
theorem m_ref15_Batch:Mono (F15.c_ref15_Batch (X:=Unit)):=amFunc_mono (fun g f h=>(k_ref15_Batch g f h).2.2) _
theorem kg_push:Known A0 num Try.prog F15.GPush:=known_cons ok_fifo_Line_fits s_fifo_Line_fits m_fifo_Line_fits (known_nil)
theorem e_push:S 54 (amFunc F15.GPush F15.fifo_Line_Push):=func_sound kg_push Try.func54 chk_fifo_Line_Push
theorem kg_pop:Known A0 num Try.prog F15.GPop:=known_cons ok_fifo_Line_Len s_fifo_Line_Len m_fifo_Line_Len (known_cons ok_fifo_Line_Remove s_fifo_Line_Remove m_fifo_Line_Remove (known_nil))
theorem e_pop:S 38 (amFunc F15.GPop F15.fifo_Line_Pop):=func_sound kg_pop Try.func38 chk_fifo_Line_Pop
theorem kg_first:Known A0 num Try.prog F15.GFirst:=known_cons ok_fifo_Line_Head s_fifo_Line_Head m_fifo_Line_Head (known_am ok_fifo_Line_Pop kg_pop e_pop (known_nil))
theorem e_first:S 39 (amFunc F15.GFirst F15.pool_line_first):=func_sound kg_first Try.func39 chk_pool_line_first
theorem kg_all:Known A0 num Try.prog F15.GAll:=known_cons ok_fifo_Line_each s_fifo_Line_each m_fifo_Line_each (known_cons ok_slices_Collect_int s_slices_Collect_int m_slices_Collect_int (known_nil))
theorem e_all:S 41 (amFunc F15.GAll F15.fifo_Line_All):=func_sound kg_all Try.func41 chk_fifo_Line_All
theorem kg_same:Known A0 num Try.prog F15.GSame:=known_am ok_fifo_Line_All kg_all e_all (known_cons ok_slices_Equal_int s_slices_Equal_int m_slices_Equal_int (known_nil))
theorem e_same:S 53 (amFunc F15.GSame F15.fifo_Same):=func_sound kg_same Try.func53 chk_fifo_Same
theorem kg_of:Known A0 num Try.prog F15.GOf:=known_am ok_fifo_Line_Push kg_push e_push (known_nil)
theorem e_of:S 67 (amFunc F15.GOf F15.fifo_Of):=func_sound kg_of Try.func67 chk_fifo_Of
theorem kg_cp:Known A0 num Try.prog F15.GCp:=known_am ok_fifo_Line_All kg_all e_all (known_am ok_fifo_Of kg_of e_of (known_nil))
theorem e_cp:S 59 (amFunc F15.GCp F15.fifo_Line_Copy):=func_sound kg_cp Try.func59 chk_fifo_Line_Copy
theorem kg_add:Known A0 num Try.prog F15.GAdd:=known_am ok_fifo_Line_Push kg_push e_push (known_nil)
theorem e_add:S 37 (amFunc F15.GAdd F15.pool_line_add):=func_sound kg_add Try.func37 chk_pool_line_add
theorem kg_cpd:Known A0 num Try.prog F15.GCpd:=known_am ok_fifo_Line_Copy kg_cp e_cp (known_nil)
theorem e_cpd:S 44 (amFunc F15.GCpd F15.pool_line_copied):=func_sound kg_cpd Try.func44 chk_pool_line_copied
theorem kg_from:Known A0 num Try.prog F15.GFrom:=known_am ok_fifo_Line_Push kg_push e_push (known_nil)
theorem e_from:S 36 (amFunc F15.GFrom F15.pool_from):=func_sound kg_from Try.func36 chk_pool_from
theorem kg_ppush:Known A0 num Try.prog F15.GPP:=known_am ok_pool_line_add kg_add e_add (known_nil)
theorem e_ppush:S 12 (amFunc F15.GPP F15.pool_Pool_Push):=func_sound kg_ppush Try.func12 chk_pool_Pool_Push
theorem kg_putp:Known A0 num Try.prog F15.GPP:=known_am ok_pool_line_add kg_add e_add (known_nil)
theorem e_putp:S 14 (amFunc F15.GPP F15.pool_Pool_PutP):=func_sound kg_putp Try.func14 chk_pool_Pool_PutP
theorem kg_putm:Known A0 num Try.prog F15.GPP:=known_am ok_pool_line_add kg_add e_add (known_nil)
theorem e_putm:S 15 (amFunc F15.GPP F15.pool_Pool_PutM):=func_sound kg_putm Try.func15 chk_pool_Pool_PutM
theorem kg_ppop:Known A0 num Try.prog F15.GPo:=known_am ok_fifo_Line_Pop kg_pop e_pop (known_nil)
theorem e_ppop:S 13 (amFunc F15.GPo F15.pool_Pool_Pop):=func_sound kg_ppop Try.func13 chk_pool_Pool_Pop
theorem kg_takep:Known A0 num Try.prog F15.GTk:=known_am ok_pool_line_first kg_first e_first (known_nil)
theorem e_takep:S 16 (amFunc F15.GTk F15.pool_Pool_TakeP):=func_sound kg_takep Try.func16 chk_pool_Pool_TakeP
theorem kg_takem:Known A0 num Try.prog F15.GTk:=known_am ok_pool_line_first kg_first e_first (known_nil)
theorem e_takem:S 17 (amFunc F15.GTk F15.pool_Pool_TakeM):=func_sound kg_takem Try.func17 chk_pool_Pool_TakeM
theorem kg_glob:Known A0 num Try.prog F15.GGl:=known_am ok_fifo_Line_All kg_all e_all (known_nil)
theorem e_glob:S 23 (amFunc F15.GGl F15.pool_Pool_Global):=func_sound kg_glob Try.func23 chk_pool_Pool_Global
theorem kg_ps:Known A0 num Try.prog F15.GGl:=known_am ok_fifo_Line_All kg_all e_all (known_nil)
theorem e_ps:S 25 (amFunc F15.GGl F15.pool_Pool_Ps):=func_sound kg_ps Try.func25 chk_pool_Pool_Ps
theorem kg_ms:Known A0 num Try.prog F15.GGl:=known_am ok_fifo_Line_All kg_all e_all (known_nil)
theorem e_ms:S 26 (amFunc F15.GGl F15.pool_Pool_Ms):=func_sound kg_ms Try.func26 chk_pool_Pool_Ms
theorem kg_both:Known A0 num Try.prog F15.GBo:=known_cons ok_fifo_Line_Len s_fifo_Line_Len m_fifo_Line_Len (known_am ok_pool_line_first kg_first e_first (known_cons ok_fifo_Line_each_1 s_fifo_Line_each_1 m_fifo_Line_each_1 (known_nil)))
theorem e_both:S 18 (amFunc F15.GBo F15.pool_Pool_Both):=func_sound kg_both Try.func18 chk_pool_Pool_Both
theorem kg_new:Known A0 num Try.prog F15.GNw:=known_cons ok_conf_Config_Right s_conf_Config_Right m_conf_Config_Right (known_am ok_pool_from kg_from e_from (known_nil))
theorem e_new:S 10 (amFunc F15.GNw F15.pool_New):=func_sound kg_new Try.func10 chk_pool_New
theorem kg_pcopy:Known A0 num Try.prog F15.GCo:=known_am ok_pool_line_copied kg_cpd e_cpd (known_nil)
theorem e_pcopy:S 31 (amFunc F15.GCo F15.pool_Pool_Copy):=func_sound kg_pcopy Try.func31 chk_pool_Pool_Copy
theorem kg_psame:Known A0 num Try.prog F15.GPS:=known_am ok_fifo_Same kg_same e_same (known_nil)
theorem e_psame:S 35 (amFunc F15.GPS F15.pool_Same):=func_sound kg_psame Try.func35 chk_pool_Same
theorem kg_works:Known A0 num Try.prog F15.GWk:=known_am ok_pool_New kg_new e_new (known_am ok_pool_Pool_Ps kg_ps e_ps (known_cons ok_kit_SameInts s_kit_SameInts m_kit_SameInts (known_am ok_pool_Pool_Ms kg_ms e_ms (known_am ok_pool_Pool_Both kg_both e_both (known_am ok_pool_Pool_TakeM kg_takem e_takem (known_am ok_pool_Pool_PutP kg_putp e_putp (known_am ok_pool_Pool_Push kg_ppush e_ppush (known_cons ok_pool_Pool_Batch s_pool_Pool_Batch m_pool_Pool_Batch (known_am ok_pool_Pool_Pop kg_ppop e_ppop (known_nil))))))))))
theorem e_works:S 8 (amFunc F15.GWk F15.law15_works):=func_sound kg_works Try.func8 chk_law15_works
theorem kg_none:Known A0 num Try.prog F15.GNo:=known_am ok_pool_Pool_TakeP kg_takep e_takep (known_am ok_pool_Pool_TakeM kg_takem e_takem (known_am ok_pool_Pool_Both kg_both e_both (known_am ok_pool_Pool_Push kg_ppush e_ppush (known_am ok_pool_Pool_Pop kg_ppop e_ppop (known_cons ok_pool_Pool_Len s_pool_Pool_Len m_pool_Pool_Len (known_cons ok_pool_Pool_Batch s_pool_Pool_Batch m_pool_Pool_Batch (known_am ok_pool_Pool_PutP kg_putp e_putp (known_am ok_pool_Pool_PutM kg_putm e_putm (known_am ok_pool_Pool_Global kg_glob e_glob (known_am ok_pool_Pool_Ps kg_ps e_ps (known_am ok_pool_Pool_Ms kg_ms e_ms (known_cons ok_pool_Pool_Spin s_pool_Pool_Spin m_pool_Pool_Spin (known_cons ok_pool_Pool_AddSpin s_pool_Pool_AddSpin m_pool_Pool_AddSpin (known_am ok_pool_Pool_Copy kg_pcopy e_pcopy (known_am ok_pool_Same kg_psame e_psame (known_am ok_pool_New kg_new e_new (known_am ok_law15_works kg_works e_works (known_nil))))))))))))))))))
theorem e_none:S 5 (amFunc F15.GNo F15.law15_PoolNone):=func_sound kg_none Try.func5 chk_law15_PoolNone
end Go.Proofs.Ytaglnjaenigkaaa
