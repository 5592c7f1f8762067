import Derived.Test.YtmgahjccidmlaaaRows
import Derived.Test.YtmgahjccidmlaaaXK11k
import Derived.Test.YtmgahjccidmlaaaXG19
import Derived.Lib.SmallJoins
set_option linter.unusedSimpArgs false
set_option linter.unusedVariables false
namespace Go.Proofs.Ytmgahjccidmlaaa
open Go.Am Go.Joins Go.ChangeShapes Go.WideShapes Go.RowKit Go.Deep Go.ChangeAt
theorem Try.own : ownKnob Try.prog.godebug = none := by kernel_rfl
theorem Try.laidOut : laidOutB Try.prog = true := by kernel_rfl
set_option maxRecDepth 100000 in
theorem cf_of {m : Mem Ob} {n : Nat} {a : AV} (h : IsV Try.prog m (n + 2) 23 a) : ∃ c : F10.Cf, a = .agg (F10.cfC c) := by
  obtain ⟨cs, rfl, hl, h⟩ := h.structV Try.underlying23
  have c3 : Try.prog.cellsOf 3 = 1 := by kernel_rfl
  have c23 : Try.prog.cellsOf 23 = 6 := by kernel_rfl
  rw [c23] at hl
  obtain ⟨z0, h0, _⟩ := h.intAt Try.underlying23 0 rfl Try.underlying3 c3
  obtain ⟨z1, h1, _⟩ := h.intAt Try.underlying23 1 rfl Try.underlying3 c3
  obtain ⟨z2, h2, _⟩ := h.intAt Try.underlying23 2 rfl Try.underlying3 c3
  obtain ⟨z3, h3, _⟩ := h.intAt Try.underlying23 3 rfl Try.underlying3 c3
  obtain ⟨z4, h4, _⟩ := h.intAt Try.underlying23 4 rfl Try.underlying3 c3
  obtain ⟨z5, h5, _⟩ := h.intAt Try.underlying23 5 rfl Try.underlying3 c3
  exact ⟨⟨z0, z1, z2, z3, z4, z5⟩, congrArg AV.agg (F10.cf_list hl h0 h1 h2 h3 h4 h5)⟩
set_option maxRecDepth 100000 in
theorem byte_of {m : Mem Ob} {n : Nat} {a : AV} (h : IsV Try.prog m (n + 2) 45 a) : ∃ bs : List Int, F10.SB m bs a ∧ ∀ x, x ∈ bs → 0 ≤ x ∧ x < 256 := by
  rcases h.sliceV Try.underlying45 with rfl | ⟨i, len, cap, rfl, _, _, _, hl⟩
  · exact ⟨[], Sl.nil, fun x hx => by cases hx⟩
  · have c5 : Try.prog.cellsOf 5 = 1 := by kernel_rfl
    rw [c5] at hl
    exact F10.byte_arg fun h0 => by
      obtain ⟨l, h1, h2, h3⟩ := hl h0
      refine ⟨l, h1, h2, fun k hk => ?_⟩
      obtain ⟨z, hz, hw⟩ := (h3 k hk).intOf Try.underlying5
      simp only [Lit.wf, Bool.and_eq_true, decide_eq_true_eq] at hw
      exact ⟨z, hz, hw.1, by have := hw.2; simp only [IntKind.max, IntKind.bits] at this; omega⟩
theorem tn_of {l : List AV} (hl : l.length = 2) {a b : Int} (h0 : l[0]? = some (.int .i64 a)) (h1 : l[1]? = some (.int .i64 b)) : l = F11.tnC (a, b) := by
  match l, hl with
  | [x, y], _ =>
    simp only [List.getElem?_cons_zero, List.getElem?_cons_succ, Option.some.injEq] at h0 h1
    subst h0; subst h1; rfl
set_option maxRecDepth 100000 in
theorem mvs_of {m : Mem Ob} {n : Nat} {a : AV} (h : IsV Try.prog m (n + 3) 70 a) : ∃ ts : List (Int × Int), F11.STn m false ts a := by
  rcases h.sliceV Try.underlying70 with rfl | ⟨i, len, cap, rfl, _, _, _, hl⟩
  · exact ⟨[], Sl.nil⟩
  · have c79 : Try.prog.cellsOf 79 = 2 := by kernel_rfl
    have c3 : Try.prog.cellsOf 3 = 1 := by kernel_rfl
    rw [c79] at hl
    refine F10.rows_arg (f := F11.tnC) (sz := 2) (fun _ => rfl) fun h0 => ?_
    obtain ⟨l, h1, h2, h3⟩ := hl h0
    refine ⟨l, h1, h2, fun k hk => ?_⟩
    have hr := h3 k hk
    obtain ⟨x, g0, _⟩ := hr.intAt Try.underlying79 0 rfl Try.underlying3 c3
    obtain ⟨y, g1, _⟩ := hr.intAt Try.underlying79 1 rfl Try.underlying3 c3
    exact ⟨(x, y), tn_of (by rw [List.length_take, List.length_drop]; omega) g0 g1⟩
theorem s_law : S 5 (amFunc F11.Gsk F11.law11_StealKeeps) := e_sk
set_option maxRecDepth 100000 in
theorem law_run (m : Mem Ob) (vs : List AV) (h : IsVs Try.prog m 4 Try.f5.params.toList vs) : ∃ m', amFunc F11.Gsk F11.law11_StealKeeps vs m = some (.bool true, m') := by
  rw [Try.params5] at h
  obtain ⟨a, vs, rfl, ha, d, vs, rfl, hd, e, vs, rfl, he, rfl⟩ := h
  obtain ⟨c, rfl⟩ := cf_of ha
  obtain ⟨bs, hB, hbb⟩ := byte_of hd
  obtain ⟨ts, hT⟩ := mvs_of he
  obtain ⟨r, m', h1, rfl, _⟩ := F11.skeeps_run (c0 := c) hB hbb hT
  exact ⟨m', h1⟩
set_option maxRecDepth 100000 in
theorem stealKeeps_lifted (os : Os) (started : os.Started) (H : Type) (enc : TypeId × Value → H) :
    ReturnsInHanded {} Try.checked os 5 .any (Rows.stealKeepsSpec.pre6 enc Try.prog Try.f5 Rows.stealKeepsRow.domain false) (Rows.stealKeepsSpec.post enc Try.prog Try.f5 false true false false) := by
  refine returnsInHanded_of_change (C := Try.checked) Try.own started (by kernel_rfl) Try.func5
    (ChangeSpec.witness6 (enc := enc) (C := Try.checked) false ⟨#[], #[.agg #[.int .i64 0, .int .i64 0, .int .i64 0, .int .i64 0, .int .i64 0, .int .i64 0], .slice none 0 0, .slice none 0 0], []⟩ 8 (by kernel_rfl) (by kernel_rfl) (by kernel_rfl) (by kernel_rfl)) ?_
  intro W base args ds gs before hval hW _ _
  exact law_body (tb := 4) 4 s_law rfl (fun ds hl => by
    rw [Try.params5] at hl
    match ds, hl with
    | [_, _, _], _ => rfl) rfl (by kernel_rfl) Try.laidOut (by rw [Try.params5]; kernel_rfl) law_run W base args ds gs before hval hW
theorem stealKeeps_holds : Rows.StealKeepsSaid :=
  OpenClaim.holds_of_wide 5 Try.f5 rfl rfl rfl rfl rfl rfl rfl ⟨rfl, rfl, rfl, rfl, rfl⟩ rfl rfl rfl rfl rfl (by kernel_rfl) Try.func5 (by kernel_rfl)
    (of_decide_eq_true (by kernel_rfl)) (by unfold Func.isWrapper; first | (rw [if_pos (by decide +kernel)]; kernel_rfl) | (rw [if_neg (by decide +kernel)]; exact ⟨rfl, rfl⟩))
    (fun os started H enc _ => stealKeeps_lifted os started H enc)
#print axioms stealKeeps_holds
end Go.Proofs.Ytmgahjccidmlaaa
