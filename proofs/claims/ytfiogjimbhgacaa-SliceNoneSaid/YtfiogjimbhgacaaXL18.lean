/- distafflaw18.SliceNone: without a watch nothing is told: true for every input; the input reads as it did. -/
import Derived.Test.YtfiogjimbhgacaaRows
import Derived.Test.YtfiogjimbhgacaaXS18
import Derived.Test.YtfiogjimbhgacaaXQ18
import Derived.Test.YtfiogjimbhgacaaXAmLaw
import Derived.Lib.SmallJoins
set_option linter.unusedSimpArgs false
set_option linter.unusedVariables false
namespace Go.Proofs.Ytfiogjimbhgacaa
open Go.Am Go.Joins Go.ChangeShapes Go.WideShapes Go.RowKit Go.Deep Go.ChangeAt

theorem Try.own : ownKnob Try.prog.godebug = none := by kernel_rfl
theorem Try.laidOut : laidOutB Try.prog = true := by kernel_rfl

section
variable {H : Type} {enc : TypeId × Value → H} {P : Program} {w : World} {base : Nat} {spare : Nat → Bool} {held : Bool}
theorem open_agg5 {r : Reach} {b0 : Nat} {t : TypeId} {f0 f1 f2 f3 f4 : Field} {v : Value} {d : DataW H} {p : List MemPlace} (hs : P.underlying t = some (.struct #[f0, f1, f2, f3, f4])) (hone : oneCellFields P #[f0, f1, f2, f3, f4] = true) (hC : P.cellsOf t = 5)
    (hv : Value.okWide P w r b0 t v) (h : DataW.Trod enc P w base spare held t v d p) :
    ∃ (v0 v1 v2 v3 v4 : Value) (y0 y1 y2 y3 y4 : DataW H × List MemPlace) (n : Nat), v = .agg #[v0, v1, v2, v3, v4] ∧
      DataW.trod enc P w base spare held n f0.type [v0] = some y0 ∧ DataW.trod enc P w base spare held n f1.type [v1] = some y1 ∧ DataW.trod enc P w base spare held n f2.type [v2] = some y2 ∧ DataW.trod enc P w base spare held n f3.type [v3] = some y3 ∧ DataW.trod enc P w base spare held n f4.type [v4] = some y4 := by
  obtain ⟨cs, rfl, hsz⟩ := okWide_struct hs hv
  obtain ⟨l⟩ := cs
  match l, hsz.trans hC with
  | [c0, c1, c2, c3, c4], _ =>
    obtain ⟨fuel, hf⟩ := h
    obtain ⟨xs, n, _, hx, _, hlen, hg⟩ := DataW.trod_struct hs hf
    obtain ⟨o0, k0⟩ := hone_of hone 0 f0 rfl
    obtain ⟨o1, k1⟩ := hone_of hone 1 f1 rfl
    obtain ⟨o2, k2⟩ := hone_of hone 2 f2 rfl
    obtain ⟨o3, k3⟩ := hone_of hone 3 f3 rfl
    obtain ⟨o4, k4⟩ := hone_of hone 4 f4 rfl
    match xs, hlen with
    | [y0, y1, y2, y3, y4], _ =>
      exact ⟨c0, c1, c2, c3, c4, y0, y1, y2, y3, y4, n, rfl, by simpa [Value.cells, o0, k0] using hg 0 f0 rfl, by simpa [Value.cells, o1, k1] using hg 1 f1 rfl, by simpa [Value.cells, o2, k2] using hg 2 f2 rfl, by simpa [Value.cells, o3, k3] using hg 3 f3 rfl, by simpa [Value.cells, o4, k4] using hg 4 f4 rfl⟩
end

abbrev A0 : AbsSem Unit := AbsSem.no Unit
abbrev S (k : Nat) (f : AFun Unit) : Prop := Sound A0 num Try.prog k f

theorem s_next : S 16 (pureF F18.nextG) := lift_sound (F18.next_lift []) (func_sound known_nil Try.func16 chk_slice_count_next)
theorem s_old : S 17 F18.oldF := lift_sound (F18.old_lift []) (func_sound known_nil Try.func17 chk_slice_Look_1)
theorem k_look : Known A0 num Try.prog [(13, pureF F18.nextG), (14, F18.oldF)] :=
  known_cons ok_slice_count_next s_next (F18.next_lift []).mono (known_cons ok_slice_Look_1 s_old (F18.old_lift []).mono known_nil)
theorem l_look : Lift (amFunc [(13, pureF F18.nextG), (14, F18.oldF)] F18.slice_Look) (pureF (X := Unit) F18.lookG) := F18.look_lift _ rfl rfl
theorem s_look : S 7 (pureF F18.lookG) := lift_sound l_look (func_sound k_look Try.func7 chk_slice_Look)
theorem s_poll : S 15 (pureF F18.pollG) := lift_sound (F18.poll_lift []) (func_sound known_nil Try.func15 chk_slice_Poll)
theorem k_works : Known A0 num Try.prog F18.Gworks :=
  known_cons ok_slice_Look s_look l_look.mono (known_cons ok_slice_Poll s_poll (F18.poll_lift []).mono known_nil)
theorem s_works : S 6 (pureF F18.worksG) := lift_sound F18.works_lift (func_sound k_works Try.func6 chk_law18_works)
theorem s_there0 : S 18 (pureF F18.nilThereG) := lift_sound (F18.nilThere_lift []) (func_sound known_nil Try.func18 chk_slice_Watch_there)
theorem s_seen0 : S 10 (pureF F18.nilSeenG) :=
  lift_sound (F18.nilSeen_lift [(15, pureF F18.nilThereG)] rfl) (func_sound (known_cons ok_slice_Watch_there s_there0 (F18.nilThere_lift []).mono known_nil) Try.func10 chk_slice_Watch_Seen)
theorem s_len0 : S 11 (pureF F18.nilLenG) := lift_sound (F18.nilLen_lift []) (func_sound known_nil Try.func11 chk_slice_Watch_Len)
theorem s_copy0 : S 12 (pureF F18.nilCopyG) := lift_sound (F18.nilCopy_lift []) (func_sound known_nil Try.func12 chk_slice_Watch_Copy)
theorem s_wlook0 : S 9 (pureF F18.nilLookG) := lift_sound (F18.nilLook_lift []) (func_sound known_nil Try.func9 chk_slice_Watch_Look)
theorem k_none : Known A0 num Try.prog F18.Gnone :=
  known_cons ok_law18_works s_works F18.works_lift.mono (known_cons ok_slice_Watch_Look s_wlook0 (F18.nilLook_lift []).mono (known_cons ok_slice_Watch_Seen s_seen0 (F18.nilSeen_lift [(15, pureF F18.nilThereG)] rfl).mono
    (known_cons ok_slice_Watch_Len s_len0 (F18.nilLen_lift []).mono (known_cons ok_slice_Watch_Copy s_copy0 (F18.nilCopy_lift []).mono known_nil))))
theorem s_none : S 4 (pureF F18.sliceNoneG) := lift_sound F18.sliceNone_lift (func_sound k_none Try.func4 chk_law18_SliceNone)

set_option maxRecDepth 100000 in
theorem sliceNone_lifted (os : Os) (started : os.Started) (H : Type) (enc : TypeId × Value → H) :
    ReturnsInHanded {} Try.checked os 4 .any (Rows.sliceNoneSpec.pre6 enc Try.prog Try.f4 Rows.sliceNoneRow.domain false) (Rows.sliceNoneSpec.post enc Try.prog Try.f4 false true false false) := by
  refine returnsInHanded_of_change (C := Try.checked) Try.own started (by kernel_rfl) Try.func4
    (ChangeSpec.witness6 (enc := enc) (C := Try.checked) false ⟨#[], #[.agg #[.int .i64 0, .int .i64 0, .int .u64 0, .int .u64 0, .int .i64 0]], []⟩ 8 (by kernel_rfl) (by kernel_rfl) (by kernel_rfl) (by kernel_rfl)) ?_
  intro W base args ds gs before hval0 hW hcnd _
  have hval : ∀ (j : Nat) t v, Try.f4.params[j]? = some t → args[j]? = some v → Value.okWide Try.prog W .any base t v := hval0
  have hW' := hW
  obtain ⟨p, q, hA0, hV, rfl, hfz, hnd⟩ := hW
  have hA : DataW.TrodAll enc Try.prog W 0 (fun _ => true) true Try.f4.params.toList args.toList ds p := hA0
  obtain ⟨rfl, rfl⟩ := trodVars_none hV
  rw [Try.params4] at hA hval
  obtain ⟨v0, vs', d0, ds', p0, q0, e1, rfl, rfl, h0, h1⟩ := trodAll_cons hA
  obtain ⟨rfl, rfl, rfl⟩ := trodAll_nil h1
  obtain ⟨args⟩ := args
  simp only at e1
  subst e1
  obtain ⟨c0, c1, c2, c3, c4, y0, y1, y2, y3, y4, n, rfl, g0, g1, g2, g3, g4⟩ := open_agg5 Try.underlying29 (by kernel_rfl) (by kernel_rfl) (hval 0 29 v0 rfl rfl) h0
  obtain ⟨n0, e0, _⟩ := DataW.trod_int Try.underlying3 g0
  obtain ⟨n1, e1, _⟩ := DataW.trod_int Try.underlying3 g1
  obtain ⟨n2, e2, _⟩ := DataW.trod_int Try.underlying24 g2
  obtain ⟨n3, e3, _⟩ := DataW.trod_int Try.underlying24 g3
  obtain ⟨n4, e4, _⟩ := DataW.trod_int Try.underlying2 g4
  simp only [List.cons.injEq, and_true] at e0 e1 e2 e3 e4
  subst e0; subst e1; subst e2; subst e3; subst e4
  refine (law_calls (args := [.agg [.int .i64 n0, .int .i64 n1, .int .u64 n2, .int .u64 n3, .int .i64 n4]]) (m := []) (m' := []) s_none (sim_nil W.heap)
    (VRL.cons (VR.agg_of (VRL.cons (.int _ _) (VRL.cons (.int _ _) (VRL.cons (.int _ _) (VRL.cons (.int _ _) (VRL.cons (.int _ _) VRL.nil)))))) VRL.nil) rfl).mono fun e W' ⟨he, hb⟩ => ?_
  subst he
  exact ⟨_, rfl, law_post (tb := 4) hW' rfl rfl (by kernel_rfl) (by kernel_rfl) Try.laidOut (fun t ht => by rw [Try.params4] at ht; simp at ht; subst ht; exact ⟨by kernel_rfl, of_decide_eq_true (by kernel_rfl)⟩) hb⟩

theorem sliceNone_holds : Rows.SliceNoneSaid :=
  OpenClaim.holds_of_wide 4 Try.f4 rfl rfl rfl rfl rfl rfl rfl ⟨rfl, rfl, rfl, rfl, rfl⟩ rfl rfl rfl rfl rfl (by kernel_rfl) Try.func4 (by kernel_rfl)
    (of_decide_eq_true (by kernel_rfl)) (by unfold Func.isWrapper; first | (rw [if_pos (by decide +kernel)]; kernel_rfl) | (rw [if_neg (by decide +kernel)]; exact ⟨rfl, rfl⟩))
    (fun os started H enc _ => sliceNone_lifted os started H enc)
#print axioms sliceNone_holds
end Go.Proofs.Ytfiogjimbhgacaa
