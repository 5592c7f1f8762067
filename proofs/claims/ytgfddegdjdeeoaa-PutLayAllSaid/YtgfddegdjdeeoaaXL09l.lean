import Derived.Test.YtgfddegdjdeeoaaRows
import Derived.Test.YtgfddegdjdeeoaaXK09l
import Derived.Lib.SmallJoins
set_option linter.unusedSimpArgs false
set_option linter.unusedVariables false
namespace Go.Proofs.Ytgfddegdjdeeoaa
open Go.Am Go.Joins Go.ChangeShapes Go.WideShapes Go.RowKit Go.Deep Go.ChangeAt
theorem Try.own : ownKnob Try.prog.godebug = none := by kernel_rfl
theorem Try.laidOut : laidOutB Try.prog = true := by kernel_rfl
set_option maxRecDepth 100000 in
theorem cf_of {m : Mem Ob} {n : Nat} {a : AV} (h : IsV Try.prog m (n + 2) 23 a) : ∃ c : F10.Cf, a = .agg (F10.cfC c) := by
  obtain ⟨cs, rfl, hl, h⟩ := h.structV Try.underlying23
  have c3 : Try.prog.cellsOf 3 = 1 := by kernel_rfl
  have c23 : Try.prog.cellsOf 23 = 6 := by kernel_rfl
  rw [c23] at hl
  obtain ⟨z0, h0, _⟩ := h.intAt Try.underlying23 0 rfl Try.underlying3 c3
  obtain ⟨z1, h1, _⟩ := h.intAt Try.underlying23 1 rfl Try.underlying3 c3
  obtain ⟨z2, h2, _⟩ := h.intAt Try.underlying23 2 rfl Try.underlying3 c3
  obtain ⟨z3, h3, _⟩ := h.intAt Try.underlying23 3 rfl Try.underlying3 c3
  obtain ⟨z4, h4, _⟩ := h.intAt Try.underlying23 4 rfl Try.underlying3 c3
  obtain ⟨z5, h5, _⟩ := h.intAt Try.underlying23 5 rfl Try.underlying3 c3
  exact ⟨⟨z0, z1, z2, z3, z4, z5⟩, congrArg AV.agg (F10.cf_list hl h0 h1 h2 h3 h4 h5)⟩
set_option maxRecDepth 100000 in
theorem ints_of {m : Mem Ob} {n : Nat} {a : AV} (h : IsV Try.prog m (n + 2) 36 a) : ∃ xs : List Int, F10.SI m false xs a ∧ ∀ x, x ∈ xs → x < 9223372036854775808 := by
  rcases h.sliceV Try.underlying36 with rfl | ⟨i, len, cap, rfl, _, _, _, hl⟩
  · exact ⟨[], Sl.nil, fun x hx => by cases hx⟩
  · have c3 : Try.prog.cellsOf 3 = 1 := by kernel_rfl
    rw [c3] at hl
    exact F09.int_arg fun h0 => by
      obtain ⟨l, h1, h2, h3⟩ := hl h0
      refine ⟨l, h1, h2, fun k hk => ?_⟩
      obtain ⟨z, hz, hw⟩ := (h3 k hk).intOf Try.underlying3
      simp only [Lit.wf, Bool.and_eq_true, decide_eq_true_eq] at hw
      have e9 : IntKind.i64.max = 9223372036854775807 := by decide +kernel
      rw [e9] at hw
      exact ⟨z, hz, by omega⟩
theorem s_law : S 6 (amFunc F09.Gla F09.law09_PutLayAll) := e_la
set_option maxRecDepth 100000 in
theorem law_run (m : Mem Ob) (vs : List AV) (h : IsVs Try.prog m 4 Try.f6.params.toList vs) : ∃ m', amFunc F09.Gla F09.law09_PutLayAll vs m = some (.bool true, m') := by
  rw [Try.params6] at h
  obtain ⟨a, vs, rfl, ha, b, vs, rfl, hb, g, vs, rfl, hg, d, vs, rfl, hd, rfl⟩ := h
  obtain ⟨c, rfl⟩ := cf_of ha
  obtain ⟨p, rfl, _⟩ := hb.intV Try.underlying3
  obtain ⟨hh, rfl, hw⟩ := hg.intV Try.underlying61
  simp only [Lit.wf, Bool.and_eq_true, decide_eq_true_eq] at hw
  have e0 : IntKind.u32.min = 0 := by decide +kernel
  have e9 : IntKind.u32.max = 4294967295 := by decide +kernel
  rw [e0, e9] at hw
  obtain ⟨ls, hL, hlb⟩ := ints_of hd
  obtain ⟨r, m', h1, rfl, _⟩ := F09.layall_run (c0 := c) (p0 := p) hL hlb hw.1 (by omega)
  exact ⟨m', h1⟩
set_option maxRecDepth 100000 in
theorem putLayAll_lifted (os : Os) (started : os.Started) (H : Type) (enc : TypeId × Value → H) :
    ReturnsInHanded {} Try.checked os 6 .any (Rows.putLayAllSpec.pre6 enc Try.prog Try.f6 Rows.putLayAllRow.domain false) (Rows.putLayAllSpec.post enc Try.prog Try.f6 false true false false) := by
  refine returnsInHanded_of_change (C := Try.checked) Try.own started (by kernel_rfl) Try.func6
    (ChangeSpec.witness6 (enc := enc) (C := Try.checked) false ⟨#[], #[.agg #[.int .i64 0, .int .i64 0, .int .i64 0, .int .i64 0, .int .i64 0, .int .i64 0], .int .i64 0, .int .u32 0, .slice none 0 0], []⟩ 8 (by kernel_rfl) (by kernel_rfl) (by kernel_rfl) (by kernel_rfl)) ?_
  intro W base args ds gs before hval hW _ _
  exact law_body (tb := 4) 4 s_law rfl (fun ds hl => by
    rw [Try.params6] at hl
    match ds, hl with
    | [_, _, _, _], _ => rfl) rfl (by kernel_rfl) Try.laidOut (by rw [Try.params6]; kernel_rfl) law_run W base args ds gs before hval hW
theorem putLayAll_holds : Rows.PutLayAllSaid :=
  OpenClaim.holds_of_wide 6 Try.f6 rfl rfl rfl rfl rfl rfl rfl ⟨rfl, rfl, rfl, rfl, rfl⟩ rfl rfl rfl rfl rfl (by kernel_rfl) Try.func6 (by kernel_rfl)
    (of_decide_eq_true (by kernel_rfl)) (by unfold Func.isWrapper; first | (rw [if_pos (by decide +kernel)]; kernel_rfl) | (rw [if_neg (by decide +kernel)]; exact ⟨rfl, rfl⟩))
    (fun os started H enc _ => putLayAll_lifted os started H enc)
#print axioms putLayAll_holds
end Go.Proofs.Ytgfddegdjdeeoaa
