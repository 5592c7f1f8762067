import Derived.Test.YtmgahjccidmlaaaRows
import Derived.Test.YtmgahjccidmlaaaXK11p
import Derived.Lib.SmallJoins
set_option linter.unusedSimpArgs false
set_option linter.unusedVariables false
namespace Go.Proofs.Ytmgahjccidmlaaa
open Go.Am Go.Joins Go.ChangeShapes Go.WideShapes Go.RowKit Go.Deep Go.ChangeAt
theorem Try.own : ownKnob Try.prog.godebug = none := by kernel_rfl
theorem Try.laidOut : laidOutB Try.prog = true := by kernel_rfl
set_option maxRecDepth 100000 in
theorem cf_of {m : Mem Ob} {n : Nat} {a : AV} (h : IsV Try.prog m (n + 2) 23 a) : ∃ c : F10.Cf, a = .agg (F10.cfC c) := by
  obtain ⟨cs, rfl, hl, h⟩ := h.structV Try.underlying23
  have c3 : Try.prog.cellsOf 3 = 1 := by kernel_rfl
  have c23 : Try.prog.cellsOf 23 = 6 := by kernel_rfl
  rw [c23] at hl
  obtain ⟨z0, h0, _⟩ := h.intAt Try.underlying23 0 rfl Try.underlying3 c3
  obtain ⟨z1, h1, _⟩ := h.intAt Try.underlying23 1 rfl Try.underlying3 c3
  obtain ⟨z2, h2, _⟩ := h.intAt Try.underlying23 2 rfl Try.underlying3 c3
  obtain ⟨z3, h3, _⟩ := h.intAt Try.underlying23 3 rfl Try.underlying3 c3
  obtain ⟨z4, h4, _⟩ := h.intAt Try.underlying23 4 rfl Try.underlying3 c3
  obtain ⟨z5, h5, _⟩ := h.intAt Try.underlying23 5 rfl Try.underlying3 c3
  exact ⟨⟨z0, z1, z2, z3, z4, z5⟩, congrArg AV.agg (F10.cf_list hl h0 h1 h2 h3 h4 h5)⟩
set_option maxRecDepth 100000 in
theorem byte_of {m : Mem Ob} {n : Nat} {a : AV} (h : IsV Try.prog m (n + 2) 45 a) : ∃ bs : List Int, F10.SB m bs a ∧ ∀ x, x ∈ bs → 0 ≤ x ∧ x < 256 := by
  rcases h.sliceV Try.underlying45 with rfl | ⟨i, len, cap, rfl, _, _, _, hl⟩
  · exact ⟨[], Sl.nil, fun x hx => by cases hx⟩
  · have c5 : Try.prog.cellsOf 5 = 1 := by kernel_rfl
    rw [c5] at hl
    exact F10.byte_arg fun h0 => by
      obtain ⟨l, h1, h2, h3⟩ := hl h0
      refine ⟨l, h1, h2, fun k hk => ?_⟩
      obtain ⟨z, hz, hw⟩ := (h3 k hk).intOf Try.underlying5
      simp only [Lit.wf, Bool.and_eq_true, decide_eq_true_eq] at hw
      exact ⟨z, hz, hw.1, by have := hw.2; simp only [IntKind.max, IntKind.bits] at this; omega⟩
theorem w64_of {v : Int} (h : (Lit.int .u64 v).wf = true) : F10.W64 v := by
  simp only [Lit.wf, Bool.and_eq_true, decide_eq_true_eq] at h
  have e0 : IntKind.u64.min = 0 := by decide +kernel
  have e9 : IntKind.u64.max = 18446744073709551615 := by decide +kernel
  rw [e0, e9] at h
  unfold F10.W64
  omega
set_option maxRecDepth 100000 in
theorem pks_of {m : Mem Ob} {n : Nat} {a : AV} (h : IsV Try.prog m (n + 3) 46 a) : ∃ ps : List F10.Pk, F10.SPk m false ps a ∧ ∀ x, x ∈ ps → F10.W64 x.v := by
  rcases h.sliceV Try.underlying46 with rfl | ⟨i, len, cap, rfl, _, _, _, hl⟩
  · exact ⟨[], Sl.nil, fun x hx => by cases hx⟩
  · have c65 : Try.prog.cellsOf 65 = 3 := by kernel_rfl
    have c3 : Try.prog.cellsOf 3 = 1 := by kernel_rfl
    have c4 : Try.prog.cellsOf 4 = 1 := by kernel_rfl
    have c29 : Try.prog.cellsOf 29 = 1 := by kernel_rfl
    rw [c65] at hl
    exact F10.pk_arg fun h0 => by
      obtain ⟨l, h1, h2, h3⟩ := hl h0
      refine ⟨l, h1, h2, fun k hk => ?_⟩
      have hr := h3 k hk
      obtain ⟨d, g0⟩ := hr.boolAt Try.underlying65 0 rfl Try.underlying4 c4
      obtain ⟨x, g1, _⟩ := hr.intAt Try.underlying65 1 rfl Try.underlying3 c3
      obtain ⟨v, g2, hw⟩ := hr.intAt Try.underlying65 2 rfl Try.underlying29 c29
      exact ⟨⟨d, x, v⟩, F10.pk_of (by rw [List.length_take, List.length_drop, h2]; omega) g0 g1 g2, w64_of hw⟩
theorem s_law : S 4 (amFunc F11.Gsp F11.law11_StealPlays) := e_sp
set_option maxRecDepth 100000 in
theorem law_run (m : Mem Ob) (vs : List AV) (h : IsVs Try.prog m 4 Try.f4.params.toList vs) : ∃ m', amFunc F11.Gsp F11.law11_StealPlays vs m = some (.bool true, m') := by
  rw [Try.params4] at h
  obtain ⟨a, vs, rfl, ha, b, vs, rfl, hb, q, vs, rfl, hq, d, vs, rfl, hd, e, vs, rfl, he, rfl⟩ := h
  obtain ⟨c, rfl⟩ := cf_of ha
  obtain ⟨p, rfl, _⟩ := hb.intV Try.underlying3
  obtain ⟨v, rfl, _⟩ := hq.intV Try.underlying3
  obtain ⟨bs, hB, hbb⟩ := byte_of hd
  obtain ⟨ps, hP, hpv⟩ := pks_of he
  obtain ⟨r, m', h1, rfl, _⟩ := F11.splays_run (c := c) (p := p) (v := v) hB hbb hP hpv
  exact ⟨m', h1⟩
set_option maxRecDepth 100000 in
theorem stealPlays_lifted (os : Os) (started : os.Started) (H : Type) (enc : TypeId × Value → H) :
    ReturnsInHanded {} Try.checked os 4 .any (Rows.stealPlaysSpec.pre6 enc Try.prog Try.f4 Rows.stealPlaysRow.domain false) (Rows.stealPlaysSpec.post enc Try.prog Try.f4 false true false false) := by
  refine returnsInHanded_of_change (C := Try.checked) Try.own started (by kernel_rfl) Try.func4
    (ChangeSpec.witness6 (enc := enc) (C := Try.checked) false ⟨#[], #[.agg #[.int .i64 0, .int .i64 0, .int .i64 0, .int .i64 0, .int .i64 0, .int .i64 0], .int .i64 0, .int .i64 0, .slice none 0 0, .slice none 0 0], []⟩ 8 (by kernel_rfl) (by kernel_rfl) (by kernel_rfl) (by kernel_rfl)) ?_
  intro W base args ds gs before hval hW _ _
  exact law_body (tb := 4) 4 s_law rfl (fun ds hl => by
    rw [Try.params4] at hl
    match ds, hl with
    | [_, _, _, _, _], _ => rfl) rfl (by kernel_rfl) Try.laidOut (by rw [Try.params4]; kernel_rfl) law_run W base args ds gs before hval hW
theorem stealPlays_holds : Rows.StealPlaysSaid :=
  OpenClaim.holds_of_wide 4 Try.f4 rfl rfl rfl rfl rfl rfl rfl ⟨rfl, rfl, rfl, rfl, rfl⟩ rfl rfl rfl rfl rfl (by kernel_rfl) Try.func4 (by kernel_rfl)
    (of_decide_eq_true (by kernel_rfl)) (by unfold Func.isWrapper; first | (rw [if_pos (by decide +kernel)]; kernel_rfl) | (rw [if_neg (by decide +kernel)]; exact ⟨rfl, rfl⟩))
    (fun os started H enc _ => stealPlays_lifted os started H enc)
#print axioms stealPlays_holds
end Go.Proofs.Ytmgahjccidmlaaa
