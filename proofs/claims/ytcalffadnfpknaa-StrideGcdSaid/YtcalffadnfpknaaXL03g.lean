/- distafflaw03.StrideGcd: the greatest number that divides all of some is what the document says: true for every input; the input reads as it did. -/
import Derived.Test.YtcalffadnfpknaaRows
import Derived.Test.YtcalffadnfpknaaXS03
import Derived.Test.YtcalffadnfpknaaXQ03
import Derived.Test.YtcalffadnfpknaaXAmRead
import Derived.Test.YtcalffadnfpknaaXAmRows
import Derived.Lib.SmallJoins
set_option linter.unusedSimpArgs false
set_option linter.unusedVariables false
namespace Go.Proofs.Ytcalffadnfpknaa
open Go.Am Go.Joins Go.ChangeShapes Go.WideShapes Go.RowKit Go.Deep Go.ChangeAt

theorem Try.own : ownKnob Try.prog.godebug = none := by kernel_rfl
theorem Try.laidOut : laidOutB Try.prog = true := by kernel_rfl

abbrev A0 : AbsSem Unit := AbsSem.no Unit
abbrev S (k : Nat) (f : AFun Unit) : Prop := Sound A0 num Try.prog k f

theorem k_stride_right : Known A0 num Try.prog [] := known_nil
theorem s_stride_right : S 22 F03.c_stride_right := func_sound k_stride_right Try.func22 chk_stride_right
theorem m_stride_right : Mono (F03.c_stride_right (X := Unit)) := amFunc_mono (fun g f h => (k_stride_right g f h).2.2) _
theorem k_stride_Strides : Known A0 num Try.prog [(93, F03.c_stride_right)] := known_cons ok_stride_right s_stride_right m_stride_right (known_nil)
theorem s_stride_Strides : S 13 F03.c_stride_Strides := func_sound k_stride_Strides Try.func13 chk_stride_Strides
theorem m_stride_Strides : Mono (F03.c_stride_Strides (X := Unit)) := amFunc_mono (fun g f h => (k_stride_Strides g f h).2.2) _
theorem k_slices_Index_int : Known A0 num Try.prog [] := known_nil
theorem s_slices_Index_int : S 26 F03.c_slices_Index_int := func_sound k_slices_Index_int Try.func26 chk_slices_Index_int
theorem m_slices_Index_int : Mono (F03.c_slices_Index_int (X := Unit)) := amFunc_mono (fun g f h => (k_slices_Index_int g f h).2.2) _
theorem k_stride_Draw : Known A0 num Try.prog [(81, F03.c_stride_Strides), (96, F03.c_slices_Index_int)] := known_cons ok_stride_Strides s_stride_Strides m_stride_Strides (known_cons ok_slices_Index_int s_slices_Index_int m_slices_Index_int (known_nil))
theorem s_stride_Draw : S 19 F03.c_stride_Draw := func_sound k_stride_Draw Try.func19 chk_stride_Draw
theorem m_stride_Draw : Mono (F03.c_stride_Draw (X := Unit)) := amFunc_mono (fun g f h => (k_stride_Draw g f h).2.2) _
theorem k_stride_Gcd : Known A0 num Try.prog [] := known_nil
theorem s_stride_Gcd : S 8 F03.c_stride_Gcd := func_sound k_stride_Gcd Try.func8 chk_stride_Gcd
theorem m_stride_Gcd : Mono (F03.c_stride_Gcd (X := Unit)) := amFunc_mono (fun g f h => (k_stride_Gcd g f h).2.2) _
theorem k_kit_SameInts : Known A0 num Try.prog [] := known_nil
theorem s_kit_SameInts : S 16 F03.c_kit_SameInts := func_sound k_kit_SameInts Try.func16 chk_kit_SameInts
theorem m_kit_SameInts : Mono (F03.c_kit_SameInts (X := Unit)) := amFunc_mono (fun g f h => (k_kit_SameInts g f h).2.2) _
theorem k_stride_Orders : Known A0 num Try.prog [(81, F03.c_stride_Strides)] := known_cons ok_stride_Strides s_stride_Strides m_stride_Strides (known_nil)
theorem s_stride_Orders : S 17 F03.c_stride_Orders := func_sound k_stride_Orders Try.func17 chk_stride_Orders
theorem m_stride_Orders : Mono (F03.c_stride_Orders (X := Unit)) := amFunc_mono (fun g f h => (k_stride_Orders g f h).2.2) _
theorem k_stride_Order : Known A0 num Try.prog [(93, F03.c_stride_right), (85, F03.c_stride_Orders), (81, F03.c_stride_Strides)] := known_cons ok_stride_right s_stride_right m_stride_right (known_cons ok_stride_Orders s_stride_Orders m_stride_Orders (known_cons ok_stride_Strides s_stride_Strides m_stride_Strides (known_nil)))
theorem s_stride_Order : S 14 F03.c_stride_Order := func_sound k_stride_Order Try.func14 chk_stride_Order
theorem m_stride_Order : Mono (F03.c_stride_Order (X := Unit)) := amFunc_mono (fun g f h => (k_stride_Order g f h).2.2) _
theorem k_slices_Contains_int : Known A0 num Try.prog [(96, F03.c_slices_Index_int)] := known_cons ok_slices_Index_int s_slices_Index_int m_slices_Index_int (known_nil)
theorem s_slices_Contains_int : S 25 F03.c_slices_Contains_int := func_sound k_slices_Contains_int Try.func25 chk_slices_Contains_int
theorem m_slices_Contains_int : Mono (F03.c_slices_Contains_int (X := Unit)) := amFunc_mono (fun g f h => (k_slices_Contains_int g f h).2.2) _
theorem k_stride_Others_1 : Known A0 num Try.prog [(98, F03.c_slices_Contains_int)] := known_cons ok_slices_Contains_int s_slices_Contains_int m_slices_Contains_int (known_nil)
theorem s_stride_Others_1 : S 24 F03.c_stride_Others_1 := func_sound k_stride_Others_1 Try.func24 chk_stride_Others_1
theorem m_stride_Others_1 : Mono (F03.c_stride_Others_1 (X := Unit)) := amFunc_mono (fun g f h => (k_stride_Others_1 g f h).2.2) _
theorem k_slices_IndexFunc_int : Known A0 num Try.prog [(94, F03.c_stride_Others_1)] := known_cons ok_stride_Others_1 s_stride_Others_1 m_stride_Others_1 (known_nil)
theorem s_slices_IndexFunc_int : S 27 F03.c_slices_IndexFunc_int := func_sound k_slices_IndexFunc_int Try.func27 chk_slices_IndexFunc_int
theorem m_slices_IndexFunc_int : Mono (F03.c_slices_IndexFunc_int (X := Unit)) := amFunc_mono (fun g f h => (k_slices_IndexFunc_int g f h).2.2) _
theorem k_slices_DeleteFunc_int : Known A0 num Try.prog [(97, F03.c_slices_IndexFunc_int), (94, F03.c_stride_Others_1)] := known_cons ok_slices_IndexFunc_int s_slices_IndexFunc_int m_slices_IndexFunc_int (known_cons ok_stride_Others_1 s_stride_Others_1 m_stride_Others_1 (known_nil))
theorem s_slices_DeleteFunc_int : S 23 F03.c_slices_DeleteFunc_int := func_sound k_slices_DeleteFunc_int Try.func23 chk_slices_DeleteFunc_int
theorem m_slices_DeleteFunc_int : Mono (F03.c_slices_DeleteFunc_int (X := Unit)) := amFunc_mono (fun g f h => (k_slices_DeleteFunc_int g f h).2.2) _
theorem k_stride_Others : Known A0 num Try.prog [(82, F03.c_stride_Order), (95, F03.c_slices_DeleteFunc_int), (94, F03.c_stride_Others_1)] := known_cons ok_stride_Order s_stride_Order m_stride_Order (known_cons ok_slices_DeleteFunc_int s_slices_DeleteFunc_int m_slices_DeleteFunc_int (known_cons ok_stride_Others_1 s_stride_Others_1 m_stride_Others_1 (known_nil)))
theorem s_stride_Others : S 15 F03.c_stride_Others := func_sound k_stride_Others Try.func15 chk_stride_Others
theorem m_stride_Others : Mono (F03.c_stride_Others (X := Unit)) := amFunc_mono (fun g f h => (k_stride_Others g f h).2.2) _
theorem k_law03_works : Known A0 num Try.prog [(88, F03.c_stride_Draw), (75, F03.c_stride_Gcd), (81, F03.c_stride_Strides), (84, F03.c_kit_SameInts), (85, F03.c_stride_Orders), (82, F03.c_stride_Order), (83, F03.c_stride_Others)] := known_cons ok_stride_Draw s_stride_Draw m_stride_Draw (known_cons ok_stride_Gcd s_stride_Gcd m_stride_Gcd (known_cons ok_stride_Strides s_stride_Strides m_stride_Strides (known_cons ok_kit_SameInts s_kit_SameInts m_kit_SameInts (known_cons ok_stride_Orders s_stride_Orders m_stride_Orders (known_cons ok_stride_Order s_stride_Order m_stride_Order (known_cons ok_stride_Others s_stride_Others m_stride_Others (known_nil)))))))
theorem s_law03_works : S 7 F03.c_law03_works := func_sound k_law03_works Try.func7 chk_law03_works
theorem m_law03_works : Mono (F03.c_law03_works (X := Unit)) := amFunc_mono (fun g f h => (k_law03_works g f h).2.2) _
theorem s_worksG : S 7 (pureF F03.worksG) := lift_sound F03.works_lift s_law03_works
theorem s_gcd : S 8 (amFunc [] F03.stride_Gcd) := func_sound known_nil Try.func8 chk_stride_Gcd
theorem s_div : S 21 (amFunc [] F03.ref03_divides) := func_sound known_nil Try.func21 chk_ref03_divides
theorem k_ref : Known A0 num Try.prog (F03.Gref (X := Unit)) := known_am ok_ref03_divides known_nil s_div known_nil
theorem s_refgcd : S 9 (amFunc F03.Gref F03.ref03_Gcd) := func_sound k_ref Try.func9 chk_ref03_Gcd
theorem k_law : Known A0 num Try.prog (F03.Ggcd (X := Unit)) := known_cons ok_law03_works s_worksG F03.works_lift.mono (known_am ok_stride_Gcd known_nil s_gcd (known_am ok_ref03_Gcd k_ref s_refgcd known_nil))
theorem s_law : S 3 (amFunc F03.Ggcd F03.law03_StrideGcd) := func_sound k_law Try.func3 chk_law03_StrideGcd
theorem law_run (m : Mem Unit) (vs : List AV) (h : IsVs Try.prog m 3 Try.f3.params.toList vs) : ∃ m', amFunc F03.Ggcd F03.law03_StrideGcd vs m = some (.bool true, m') := by
  have out : ∀ {vs : List AV}, Go.Am.Fn (F03.Ggcd (X := Unit)) F03.law03_StrideGcd vs m (fun r m' => r = .bool true ∧ ∃ J, m' = m ++ J) → ∃ m', amFunc F03.Ggcd F03.law03_StrideGcd vs m = some (.bool true, m') := by
    rintro vs ⟨r, m', h1, rfl, _⟩; exact ⟨m', h1⟩
  rw [Try.params3] at h
  obtain ⟨a, vs, rfl, h1, rfl⟩ := h
  rcases h1.sliceV Try.underlying22 with rfl | ⟨i, len, cap, rfl, hi, hlc, hcm, hl⟩
  · exact out (F03.law_nil m)
  · by_cases hlen : 6 < len
    · exact out (F03.law_long m hlen)
    · have : ∃ xs : List Int, xs.length = len ∧ (0 < len → m[i]? = some (.cells 1 true (F03.iC xs))) := by
        by_cases h0 : 0 < len
        · obtain ⟨l, h2, h3, h4⟩ := hl h0
          have hc : Try.prog.cellsOf 3 = 1 := by kernel_rfl
          rw [hc] at h2 h3 h4
          obtain ⟨ws, e1, e2⟩ := rows_of (f := fun x : Int => [AV.int .i64 x]) (sz := 1) (fun _ => rfl) len h3 (fun k hk => by
            obtain ⟨z, hz, _⟩ := (h4 k hk).intOf Try.underlying3
            exact ⟨z, hz⟩)
          refine ⟨ws, e1, fun _ => by rw [h2, e2, F03.iC_flat]⟩
        · exact ⟨[], by simp; omega, fun h => absurd h h0⟩
      obtain ⟨xs, hxl, hm⟩ := this
      subst hxl
      exact out (F03.law_run hi hm (by omega))

set_option maxRecDepth 100000 in
theorem strideGcd_lifted (os : Os) (started : os.Started) (H : Type) (enc : TypeId × Value → H) :
    ReturnsInHanded {} Try.checked os 3 .any (Rows.strideGcdSpec.pre6 enc Try.prog Try.f3 Rows.strideGcdRow.domain false) (Rows.strideGcdSpec.post enc Try.prog Try.f3 false true false false) := by
  refine returnsInHanded_of_change (C := Try.checked) Try.own started (by kernel_rfl) Try.func3
    (ChangeSpec.witness6 (enc := enc) (C := Try.checked) false ⟨#[], #[.slice none 0 0], []⟩ 8 (by kernel_rfl) (by kernel_rfl) (by kernel_rfl) (by kernel_rfl)) ?_
  intro W base args ds gs before hval hW _ _
  exact law_body (tb := 4) 3 s_law rfl (fun ds hl => by
    rw [Try.params3] at hl
    match ds, hl with
    | [_], _ => rfl) rfl (by kernel_rfl) Try.laidOut (by rw [Try.params3]; kernel_rfl) law_run W base args ds gs before hval hW

theorem strideGcd_holds : Rows.StrideGcdSaid :=
  OpenClaim.holds_of_wide 3 Try.f3 rfl rfl rfl rfl rfl rfl rfl ⟨rfl, rfl, rfl, rfl, rfl⟩ rfl rfl rfl rfl rfl (by kernel_rfl) Try.func3 (by kernel_rfl)
    (of_decide_eq_true (by kernel_rfl)) (by unfold Func.isWrapper; first | (rw [if_pos (by decide +kernel)]; kernel_rfl) | (rw [if_neg (by decide +kernel)]; exact ⟨rfl, rfl⟩))
    (fun os started H enc _ => strideGcd_lifted os started H enc)
#print axioms strideGcd_holds
end Go.Proofs.Ytcalffadnfpknaa
