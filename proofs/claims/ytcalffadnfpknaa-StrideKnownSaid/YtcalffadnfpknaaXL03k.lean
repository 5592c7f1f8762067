/- distafflaw03.StrideKnown: the examples of the chapter, and all numbers of places with draws: true (a closed statement). -/
import Derived.Test.YtcalffadnfpknaaRows
import Derived.Test.YtcalffadnfpknaaXS03
import Derived.Test.YtcalffadnfpknaaXK03
import Derived.Test.YtcalffadnfpknaaXAmRead
import Derived.Lib.SmallJoins
set_option linter.unusedSimpArgs false
set_option linter.unusedVariables false
namespace Go.Proofs.Ytcalffadnfpknaa
open Go.Am Go.Joins Go.ChangeShapes Go.WideShapes Go.RowKit Go.Deep Go.ChangeAt

theorem Try.own : ownKnob Try.prog.godebug = none := by kernel_rfl
theorem Try.laidOut : laidOutB Try.prog = true := by kernel_rfl

abbrev A0 : AbsSem Unit := AbsSem.no Unit
abbrev S (k : Nat) (f : AFun Unit) : Prop := Sound A0 num Try.prog k f

theorem k_stride_right : Known A0 num Try.prog [] := known_nil
theorem s_stride_right : S 22 F03.c_stride_right := func_sound k_stride_right Try.func22 chk_stride_right
theorem m_stride_right : Mono (F03.c_stride_right (X := Unit)) := amFunc_mono (fun g f h => (k_stride_right g f h).2.2) _
theorem k_stride_Strides : Known A0 num Try.prog [(93, F03.c_stride_right)] := known_cons ok_stride_right s_stride_right m_stride_right (known_nil)
theorem s_stride_Strides : S 13 F03.c_stride_Strides := func_sound k_stride_Strides Try.func13 chk_stride_Strides
theorem m_stride_Strides : Mono (F03.c_stride_Strides (X := Unit)) := amFunc_mono (fun g f h => (k_stride_Strides g f h).2.2) _
theorem k_slices_Index_int : Known A0 num Try.prog [] := known_nil
theorem s_slices_Index_int : S 26 F03.c_slices_Index_int := func_sound k_slices_Index_int Try.func26 chk_slices_Index_int
theorem m_slices_Index_int : Mono (F03.c_slices_Index_int (X := Unit)) := amFunc_mono (fun g f h => (k_slices_Index_int g f h).2.2) _
theorem k_stride_Draw : Known A0 num Try.prog [(81, F03.c_stride_Strides), (96, F03.c_slices_Index_int)] := known_cons ok_stride_Strides s_stride_Strides m_stride_Strides (known_cons ok_slices_Index_int s_slices_Index_int m_slices_Index_int (known_nil))
theorem s_stride_Draw : S 19 F03.c_stride_Draw := func_sound k_stride_Draw Try.func19 chk_stride_Draw
theorem m_stride_Draw : Mono (F03.c_stride_Draw (X := Unit)) := amFunc_mono (fun g f h => (k_stride_Draw g f h).2.2) _
theorem k_stride_Gcd : Known A0 num Try.prog [] := known_nil
theorem s_stride_Gcd : S 8 F03.c_stride_Gcd := func_sound k_stride_Gcd Try.func8 chk_stride_Gcd
theorem m_stride_Gcd : Mono (F03.c_stride_Gcd (X := Unit)) := amFunc_mono (fun g f h => (k_stride_Gcd g f h).2.2) _
theorem k_kit_SameInts : Known A0 num Try.prog [] := known_nil
theorem s_kit_SameInts : S 16 F03.c_kit_SameInts := func_sound k_kit_SameInts Try.func16 chk_kit_SameInts
theorem m_kit_SameInts : Mono (F03.c_kit_SameInts (X := Unit)) := amFunc_mono (fun g f h => (k_kit_SameInts g f h).2.2) _
theorem k_stride_Orders : Known A0 num Try.prog [(81, F03.c_stride_Strides)] := known_cons ok_stride_Strides s_stride_Strides m_stride_Strides (known_nil)
theorem s_stride_Orders : S 17 F03.c_stride_Orders := func_sound k_stride_Orders Try.func17 chk_stride_Orders
theorem m_stride_Orders : Mono (F03.c_stride_Orders (X := Unit)) := amFunc_mono (fun g f h => (k_stride_Orders g f h).2.2) _
theorem k_stride_Order : Known A0 num Try.prog [(93, F03.c_stride_right), (85, F03.c_stride_Orders), (81, F03.c_stride_Strides)] := known_cons ok_stride_right s_stride_right m_stride_right (known_cons ok_stride_Orders s_stride_Orders m_stride_Orders (known_cons ok_stride_Strides s_stride_Strides m_stride_Strides (known_nil)))
theorem s_stride_Order : S 14 F03.c_stride_Order := func_sound k_stride_Order Try.func14 chk_stride_Order
theorem m_stride_Order : Mono (F03.c_stride_Order (X := Unit)) := amFunc_mono (fun g f h => (k_stride_Order g f h).2.2) _
theorem k_slices_Contains_int : Known A0 num Try.prog [(96, F03.c_slices_Index_int)] := known_cons ok_slices_Index_int s_slices_Index_int m_slices_Index_int (known_nil)
theorem s_slices_Contains_int : S 25 F03.c_slices_Contains_int := func_sound k_slices_Contains_int Try.func25 chk_slices_Contains_int
theorem m_slices_Contains_int : Mono (F03.c_slices_Contains_int (X := Unit)) := amFunc_mono (fun g f h => (k_slices_Contains_int g f h).2.2) _
theorem k_stride_Others_1 : Known A0 num Try.prog [(98, F03.c_slices_Contains_int)] := known_cons ok_slices_Contains_int s_slices_Contains_int m_slices_Contains_int (known_nil)
theorem s_stride_Others_1 : S 24 F03.c_stride_Others_1 := func_sound k_stride_Others_1 Try.func24 chk_stride_Others_1
theorem m_stride_Others_1 : Mono (F03.c_stride_Others_1 (X := Unit)) := amFunc_mono (fun g f h => (k_stride_Others_1 g f h).2.2) _
theorem k_slices_IndexFunc_int : Known A0 num Try.prog [(94, F03.c_stride_Others_1)] := known_cons ok_stride_Others_1 s_stride_Others_1 m_stride_Others_1 (known_nil)
theorem s_slices_IndexFunc_int : S 27 F03.c_slices_IndexFunc_int := func_sound k_slices_IndexFunc_int Try.func27 chk_slices_IndexFunc_int
theorem m_slices_IndexFunc_int : Mono (F03.c_slices_IndexFunc_int (X := Unit)) := amFunc_mono (fun g f h => (k_slices_IndexFunc_int g f h).2.2) _
theorem k_slices_DeleteFunc_int : Known A0 num Try.prog [(97, F03.c_slices_IndexFunc_int), (94, F03.c_stride_Others_1)] := known_cons ok_slices_IndexFunc_int s_slices_IndexFunc_int m_slices_IndexFunc_int (known_cons ok_stride_Others_1 s_stride_Others_1 m_stride_Others_1 (known_nil))
theorem s_slices_DeleteFunc_int : S 23 F03.c_slices_DeleteFunc_int := func_sound k_slices_DeleteFunc_int Try.func23 chk_slices_DeleteFunc_int
theorem m_slices_DeleteFunc_int : Mono (F03.c_slices_DeleteFunc_int (X := Unit)) := amFunc_mono (fun g f h => (k_slices_DeleteFunc_int g f h).2.2) _
theorem k_stride_Others : Known A0 num Try.prog [(82, F03.c_stride_Order), (95, F03.c_slices_DeleteFunc_int), (94, F03.c_stride_Others_1)] := known_cons ok_stride_Order s_stride_Order m_stride_Order (known_cons ok_slices_DeleteFunc_int s_slices_DeleteFunc_int m_slices_DeleteFunc_int (known_cons ok_stride_Others_1 s_stride_Others_1 m_stride_Others_1 (known_nil)))
theorem s_stride_Others : S 15 F03.c_stride_Others := func_sound k_stride_Others Try.func15 chk_stride_Others
theorem m_stride_Others : Mono (F03.c_stride_Others (X := Unit)) := amFunc_mono (fun g f h => (k_stride_Others g f h).2.2) _
theorem k_law03_works : Known A0 num Try.prog [(88, F03.c_stride_Draw), (75, F03.c_stride_Gcd), (81, F03.c_stride_Strides), (84, F03.c_kit_SameInts), (85, F03.c_stride_Orders), (82, F03.c_stride_Order), (83, F03.c_stride_Others)] := known_cons ok_stride_Draw s_stride_Draw m_stride_Draw (known_cons ok_stride_Gcd s_stride_Gcd m_stride_Gcd (known_cons ok_stride_Strides s_stride_Strides m_stride_Strides (known_cons ok_kit_SameInts s_kit_SameInts m_kit_SameInts (known_cons ok_stride_Orders s_stride_Orders m_stride_Orders (known_cons ok_stride_Order s_stride_Order m_stride_Order (known_cons ok_stride_Others s_stride_Others m_stride_Others (known_nil)))))))
theorem s_law03_works : S 7 F03.c_law03_works := func_sound k_law03_works Try.func7 chk_law03_works
theorem m_law03_works : Mono (F03.c_law03_works (X := Unit)) := amFunc_mono (fun g f h => (k_law03_works g f h).2.2) _
theorem s_worksG : S 7 (pureF F03.worksG) := lift_sound F03.works_lift s_law03_works
theorem s_div : S 21 (amFunc [] F03.ref03_divides) := func_sound known_nil Try.func21 chk_ref03_divides
theorem k_ref : Known A0 num Try.prog (F03.Gref (X := Unit)) := known_am ok_ref03_divides known_nil s_div known_nil
theorem s_right : S 22 (amFunc [] F03.stride_right) := func_sound known_nil Try.func22 chk_stride_right
theorem k_s : Known A0 num Try.prog (F03.Gs (X := Unit)) := known_am ok_stride_right known_nil s_right known_nil
theorem s_strides : S 13 (amFunc F03.Gs F03.stride_Strides) := func_sound k_s Try.func13 chk_stride_Strides
theorem s_gcd2 : S 20 (amFunc F03.Gref F03.ref03_Gcd2) := func_sound k_ref Try.func20 chk_ref03_Gcd2
theorem k_rs : Known A0 num Try.prog (F03.Grs (X := Unit)) := known_am ok_ref03_Gcd2 k_ref s_gcd2 known_nil
theorem s_refstrides : S 10 (amFunc F03.Grs F03.ref03_Strides) := func_sound k_rs Try.func10 chk_ref03_Strides
theorem k_or : Known A0 num Try.prog (F03.Gor (X := Unit)) := known_am ok_stride_Strides k_s s_strides known_nil
theorem s_orders : S 17 (amFunc F03.Gor F03.stride_Orders) := func_sound k_or Try.func17 chk_stride_Orders
theorem k_o : Known A0 num Try.prog (F03.Go (X := Unit)) := known_am ok_stride_right known_nil s_right (known_am ok_stride_Orders k_or s_orders (known_am ok_stride_Strides k_s s_strides known_nil))
theorem s_order : S 14 (amFunc F03.Go F03.stride_Order) := func_sound k_o Try.func14 chk_stride_Order
theorem k_ro : Known A0 num Try.prog (F03.Gro (X := Unit)) := known_am ok_ref03_Strides k_rs s_refstrides known_nil
theorem s_reforder : S 11 (amFunc F03.Gro F03.ref03_Order) := func_sound k_ro Try.func11 chk_ref03_Order
theorem k_xo : Known A0 num Try.prog (F03.Gxo (X := Unit)) := known_am ok_ref03_Order k_ro s_reforder known_nil
theorem s_refothers : S 12 (amFunc F03.Gxo F03.ref03_Others) := func_sound k_xo Try.func12 chk_ref03_Others
theorem s_index : S 26 (amFunc [] F03.slices_Index_int) := func_sound known_nil Try.func26 chk_slices_Index_int
theorem k_c : Known A0 num Try.prog (F03.Gc (X := Unit)) := known_am ok_slices_Index_int known_nil s_index known_nil
theorem s_contains : S 25 (amFunc F03.Gc F03.slices_Contains_int) := func_sound k_c Try.func25 chk_slices_Contains_int
theorem k_k : Known A0 num Try.prog (F03.Gk (X := Unit)) := known_am ok_slices_Contains_int k_c s_contains known_nil
theorem s_pred : S 24 (amFunc F03.Gk F03.stride_Others_1) := func_sound k_k Try.func24 chk_stride_Others_1
theorem k_i : Known A0 num Try.prog (F03.Gi (X := Unit)) := known_am ok_stride_Others_1 k_k s_pred known_nil
theorem s_indexf : S 27 (amFunc F03.Gi F03.slices_IndexFunc_int) := func_sound k_i Try.func27 chk_slices_IndexFunc_int
theorem k_d : Known A0 num Try.prog (F03.Gd (X := Unit)) := known_am ok_slices_IndexFunc_int k_i s_indexf (known_am ok_stride_Others_1 k_k s_pred known_nil)
theorem s_delete : S 23 (amFunc F03.Gd F03.slices_DeleteFunc_int) := func_sound k_d Try.func23 chk_slices_DeleteFunc_int
theorem k_x : Known A0 num Try.prog (F03.Gx (X := Unit)) := known_am ok_stride_Order k_o s_order (known_am ok_slices_DeleteFunc_int k_d s_delete known_nil)
theorem s_others : S 15 (amFunc F03.Gx F03.stride_Others) := func_sound k_x Try.func15 chk_stride_Others
theorem s_same : S 16 (amFunc [] F03.kit_SameInts) := func_sound known_nil Try.func16 chk_kit_SameInts
theorem k_orders : Known A0 num Try.prog (F03.Gorders (X := Unit)) := known_cons ok_law03_works s_worksG F03.works_lift.mono (known_am ok_ref03_Strides k_rs s_refstrides (known_am ok_ref03_Order k_ro s_reforder (known_am ok_ref03_Others k_xo s_refothers
  (known_am ok_stride_Strides k_s s_strides (known_am ok_stride_Order k_o s_order (known_am ok_stride_Others k_x s_others (known_am ok_kit_SameInts known_nil s_same (known_am ok_stride_Orders k_or s_orders known_nil))))))))
theorem s_pick : S 18 (amFunc [] F03.kit_Pick) := func_sound known_nil Try.func18 chk_kit_Pick
theorem k_dr : Known A0 num Try.prog (F03.Gdr (X := Unit)) := known_am ok_stride_Strides k_s s_strides (known_am ok_slices_Index_int known_nil s_index known_nil)
theorem s_draw : S 19 (amFunc F03.Gdr F03.stride_Draw) := func_sound k_dr Try.func19 chk_stride_Draw
theorem k_once : Known A0 num Try.prog (F03.Gonce (X := Unit)) := known_cons ok_law03_works s_worksG F03.works_lift.mono (known_am ok_kit_Pick known_nil s_pick (known_am ok_stride_Order k_o s_order (known_am ok_stride_Orders k_or s_orders
  (known_am ok_kit_SameInts known_nil s_same (known_am ok_stride_Draw k_dr s_draw (known_am ok_ref03_Gcd2 k_ref s_gcd2 known_nil))))))
theorem s_gcd : S 8 (amFunc [] F03.stride_Gcd) := func_sound known_nil Try.func8 chk_stride_Gcd
theorem s_refgcd : S 9 (amFunc F03.Gref F03.ref03_Gcd) := func_sound k_ref Try.func9 chk_ref03_Gcd
theorem k_gcd : Known A0 num Try.prog (F03.Ggcd (X := Unit)) := known_cons ok_law03_works s_worksG F03.works_lift.mono (known_am ok_stride_Gcd known_nil s_gcd (known_am ok_ref03_Gcd k_ref s_refgcd known_nil))
theorem s_lgcd : S 3 (amFunc F03.Ggcd F03.law03_StrideGcd) := func_sound k_gcd Try.func3 chk_law03_StrideGcd
theorem s_lorders : S 4 (amFunc F03.Gorders F03.law03_StrideOrders) := func_sound k_orders Try.func4 chk_law03_StrideOrders
theorem s_lonce : S 5 (amFunc F03.Gonce F03.law03_StrideOnce) := func_sound k_once Try.func5 chk_law03_StrideOnce
theorem k_known : Known A0 num Try.prog (F03.Gknown (X := Unit)) := known_am ok_law03_StrideOrders k_orders s_lorders (known_am ok_law03_StrideOnce k_once s_lonce (known_am ok_stride_Draw k_dr s_draw (known_am ok_stride_Orders k_or s_orders
  (known_am ok_law03_StrideGcd k_gcd s_lgcd (known_cons ok_law03_works s_worksG F03.works_lift.mono known_nil)))))
theorem s_law : S 6 (pureF F03.worksG) := lift_sound F03.known_lift (func_sound k_known Try.func6 chk_law03_StrideKnown)
theorem law_run (m : Mem Unit) (vs : List AV) (h : IsVs Try.prog m 2 Try.f6.params.toList vs) : ∃ m', pureF F03.worksG vs m = some (.bool true, m') := by
  rw [Try.params6] at h
  have h : vs = [] := h
  subst h
  exact ⟨_, rfl⟩

set_option maxRecDepth 100000 in
theorem strideKnown_lifted (os : Os) (started : os.Started) (H : Type) (enc : TypeId × Value → H) :
    ReturnsInHanded {} Try.checked os 6 .any (Rows.strideKnownSpec.pre6 enc Try.prog Try.f6 Rows.strideKnownRow.domain false) (Rows.strideKnownSpec.post enc Try.prog Try.f6 false true false false) := by
  refine returnsInHanded_of_change (C := Try.checked) Try.own started (by kernel_rfl) Try.func6
    (ChangeSpec.witness6 (enc := enc) (C := Try.checked) false ⟨#[], #[], []⟩ 8 (by kernel_rfl) (by kernel_rfl) (by kernel_rfl) (by kernel_rfl)) ?_
  intro W base args ds gs before hval hW _ _
  exact law_body (tb := 4) 2 s_law rfl (fun ds hl => by
    rw [Try.params6] at hl
    match ds, hl with
    | [], _ => rfl) rfl (by kernel_rfl) Try.laidOut (by rw [Try.params6]; kernel_rfl) law_run W base args ds gs before hval hW

theorem strideKnown_holds : Rows.StrideKnownSaid :=
  OpenClaim.holds_of_wide 6 Try.f6 rfl rfl rfl rfl rfl rfl rfl ⟨rfl, rfl, rfl, rfl, rfl⟩ rfl rfl rfl rfl rfl (by kernel_rfl) Try.func6 (by kernel_rfl)
    (of_decide_eq_true (by kernel_rfl)) (by unfold Func.isWrapper; first | (rw [if_pos (by decide +kernel)]; kernel_rfl) | (rw [if_neg (by decide +kernel)]; exact ⟨rfl, rfl⟩))
    (fun os started H enc _ => strideKnown_lifted os started H enc)
#print axioms strideKnown_holds
end Go.Proofs.Ytcalffadnfpknaa
