import Derived.Test.YtgfddegdjdeeoaaRows
import Derived.Test.YtgfddegdjdeeoaaXK09y
import Derived.Lib.SmallJoins
set_option linter.unusedSimpArgs false
set_option linter.unusedVariables false
namespace Go.Proofs.Ytgfddegdjdeeoaa
open Go.Am Go.Joins Go.ChangeShapes Go.WideShapes Go.RowKit Go.Deep Go.ChangeAt
theorem Try.own : ownKnob Try.prog.godebug = none := by kernel_rfl
theorem Try.laidOut : laidOutB Try.prog = true := by kernel_rfl
set_option maxRecDepth 100000 in
theorem cf_of {m : Mem Ob} {n : Nat} {a : AV} (h : IsV Try.prog m (n + 2) 23 a) : ∃ c : F10.Cf, a = .agg (F10.cfC c) := by
  obtain ⟨cs, rfl, hl, h⟩ := h.structV Try.underlying23
  have c3 : Try.prog.cellsOf 3 = 1 := by kernel_rfl
  have c23 : Try.prog.cellsOf 23 = 6 := by kernel_rfl
  rw [c23] at hl
  obtain ⟨z0, h0, _⟩ := h.intAt Try.underlying23 0 rfl Try.underlying3 c3
  obtain ⟨z1, h1, _⟩ := h.intAt Try.underlying23 1 rfl Try.underlying3 c3
  obtain ⟨z2, h2, _⟩ := h.intAt Try.underlying23 2 rfl Try.underlying3 c3
  obtain ⟨z3, h3, _⟩ := h.intAt Try.underlying23 3 rfl Try.underlying3 c3
  obtain ⟨z4, h4, _⟩ := h.intAt Try.underlying23 4 rfl Try.underlying3 c3
  obtain ⟨z5, h5, _⟩ := h.intAt Try.underlying23 5 rfl Try.underlying3 c3
  exact ⟨⟨z0, z1, z2, z3, z4, z5⟩, congrArg AV.agg (F10.cf_list hl h0 h1 h2 h3 h4 h5)⟩
set_option maxRecDepth 100000 in
theorem byte_of {m : Mem Ob} {n : Nat} {a : AV} (h : IsV Try.prog m (n + 2) 24 a) : ∃ bs : List Int, F10.SB m bs a ∧ ∀ x, x ∈ bs → 0 ≤ x ∧ x < 256 := by
  rcases h.sliceV Try.underlying24 with rfl | ⟨i, len, cap, rfl, _, _, _, hl⟩
  · exact ⟨[], Sl.nil, fun x hx => by cases hx⟩
  · have c5 : Try.prog.cellsOf 5 = 1 := by kernel_rfl
    rw [c5] at hl
    exact F10.byte_arg fun h0 => by
      obtain ⟨l, h1, h2, h3⟩ := hl h0
      refine ⟨l, h1, h2, fun k hk => ?_⟩
      obtain ⟨z, hz, hw⟩ := (h3 k hk).intOf Try.underlying5
      simp only [Lit.wf, Bool.and_eq_true, decide_eq_true_eq] at hw
      exact ⟨z, hz, hw.1, by have := hw.2; simp only [IntKind.max, IntKind.bits] at this; omega⟩
theorem w64_of {v : Int} (h : (Lit.int .u64 v).wf = true) : F10.W64 v := by
  simp only [Lit.wf, Bool.and_eq_true, decide_eq_true_eq] at h
  have e0 : IntKind.u64.min = 0 := by decide +kernel
  have e9 : IntKind.u64.max = 18446744073709551615 := by decide +kernel
  rw [e0, e9] at h
  unfold F10.W64
  omega
set_option maxRecDepth 100000 in
theorem pks_of {m : Mem Ob} {n : Nat} {a : AV} (h : IsV Try.prog m (n + 3) 45 a) : ∃ ps : List F10.Pk, F10.SPk m false ps a ∧ ∀ x, x ∈ ps → F10.W64 x.v := by
  rcases h.sliceV Try.underlying45 with rfl | ⟨i, len, cap, rfl, _, _, _, hl⟩
  · exact ⟨[], Sl.nil, fun x hx => by cases hx⟩
  · have c57 : Try.prog.cellsOf 57 = 3 := by kernel_rfl
    have c3 : Try.prog.cellsOf 3 = 1 := by kernel_rfl
    have c4 : Try.prog.cellsOf 4 = 1 := by kernel_rfl
    have c30 : Try.prog.cellsOf 30 = 1 := by kernel_rfl
    rw [c57] at hl
    exact F10.pk_arg fun h0 => by
      obtain ⟨l, h1, h2, h3⟩ := hl h0
      refine ⟨l, h1, h2, fun k hk => ?_⟩
      have hr := h3 k hk
      obtain ⟨d, g0⟩ := hr.boolAt Try.underlying57 0 rfl Try.underlying4 c4
      obtain ⟨x, g1, _⟩ := hr.intAt Try.underlying57 1 rfl Try.underlying3 c3
      obtain ⟨v, g2, hw⟩ := hr.intAt Try.underlying57 2 rfl Try.underlying30 c30
      exact ⟨⟨d, x, v⟩, F10.pk_of (by rw [List.length_take, List.length_drop, h2]; omega) g0 g1 g2, w64_of hw⟩
set_option maxRecDepth 100000 in
theorem ints_of {m : Mem Ob} {n : Nat} {a : AV} (h : IsV Try.prog m (n + 2) 36 a) : ∃ xs : List Int, F10.SI m false xs a ∧ ∀ x, x ∈ xs → x < 9223372036854775808 := by
  rcases h.sliceV Try.underlying36 with rfl | ⟨i, len, cap, rfl, _, _, _, hl⟩
  · exact ⟨[], Sl.nil, fun x hx => by cases hx⟩
  · have c3 : Try.prog.cellsOf 3 = 1 := by kernel_rfl
    rw [c3] at hl
    exact F09.int_arg fun h0 => by
      obtain ⟨l, h1, h2, h3⟩ := hl h0
      refine ⟨l, h1, h2, fun k hk => ?_⟩
      obtain ⟨z, hz, hw⟩ := (h3 k hk).intOf Try.underlying3
      simp only [Lit.wf, Bool.and_eq_true, decide_eq_true_eq] at hw
      have e9 : IntKind.i64.max = 9223372036854775807 := by decide +kernel
      rw [e9] at hw
      exact ⟨z, hz, by omega⟩
theorem s_law : S 7 (amFunc F09.Gly F09.law09_PutLayPlays) := e_ly
set_option maxRecDepth 100000 in
theorem law_run (m : Mem Ob) (vs : List AV) (h : IsVs Try.prog m 4 Try.f7.params.toList vs) : ∃ m', amFunc F09.Gly F09.law09_PutLayPlays vs m = some (.bool true, m') := by
  rw [Try.params7] at h
  obtain ⟨a, vs, rfl, ha, b, vs, rfl, hb, q, vs, rfl, hq, d, vs, rfl, hd, e, vs, rfl, he, rfl⟩ := h
  obtain ⟨c, rfl⟩ := cf_of ha
  obtain ⟨p, rfl, _⟩ := hb.intV Try.underlying3
  obtain ⟨ls, hQ, _⟩ := ints_of hq
  obtain ⟨bs, hB, hbb⟩ := byte_of hd
  obtain ⟨ps, hP, hpv⟩ := pks_of he
  obtain ⟨r, m', h1, rfl, _⟩ := F09.lplays_run (c := c) (p := p) hQ hB hbb hP hpv
  exact ⟨m', h1⟩
set_option maxRecDepth 100000 in
theorem putLayPlays_lifted (os : Os) (started : os.Started) (H : Type) (enc : TypeId × Value → H) :
    ReturnsInHanded {} Try.checked os 7 .any (Rows.putLayPlaysSpec.pre6 enc Try.prog Try.f7 Rows.putLayPlaysRow.domain false) (Rows.putLayPlaysSpec.post enc Try.prog Try.f7 false true false false) := by
  refine returnsInHanded_of_change (C := Try.checked) Try.own started (by kernel_rfl) Try.func7
    (ChangeSpec.witness6 (enc := enc) (C := Try.checked) false ⟨#[], #[.agg #[.int .i64 0, .int .i64 0, .int .i64 0, .int .i64 0, .int .i64 0, .int .i64 0], .int .i64 0, .slice none 0 0, .slice none 0 0, .slice none 0 0], []⟩ 8 (by kernel_rfl) (by kernel_rfl) (by kernel_rfl) (by kernel_rfl)) ?_
  intro W base args ds gs before hval hW _ _
  exact law_body (tb := 4) 4 s_law rfl (fun ds hl => by
    rw [Try.params7] at hl
    match ds, hl with
    | [_, _, _, _, _], _ => rfl) rfl (by kernel_rfl) Try.laidOut (by rw [Try.params7]; kernel_rfl) law_run W base args ds gs before hval hW
theorem putLayPlays_holds : Rows.PutLayPlaysSaid :=
  OpenClaim.holds_of_wide 7 Try.f7 rfl rfl rfl rfl rfl rfl rfl ⟨rfl, rfl, rfl, rfl, rfl⟩ rfl rfl rfl rfl rfl (by kernel_rfl) Try.func7 (by kernel_rfl)
    (of_decide_eq_true (by kernel_rfl)) (by unfold Func.isWrapper; first | (rw [if_pos (by decide +kernel)]; kernel_rfl) | (rw [if_neg (by decide +kernel)]; exact ⟨rfl, rfl⟩))
    (fun os started H enc _ => putLayPlays_lifted os started H enc)
#print axioms putLayPlays_holds
end Go.Proofs.Ytgfddegdjdeeoaa
