import Derived.Test.YtgfddegdjdeeoaaXG19
set_option linter.unusedSimpArgs false
set_option linter.unusedVariables false
section
namespace Go.Am.F09
open Go.Am.F06 Go.Am.F10
theorem PyS.poke {m0 m m' : MM} {c0 c c' : Cf} {p p' g g' : Int} {cb j rb xj yb : Nat} {ps : List Pk} {lv : AV} {s : PS} {xs xs' : List Int} {o o' : Int} {tv hv ytv yhv v v' : AV} {qt : Nat} (h : PyS m0 c0 c c' p p' g g' cb j rb xj yb ps lv s xs o tv hv ytv yhv v qt m) (hj0 : m0.length ≤ j) (hr0 : m0.length ≤ rb) (k : KeepB j m m') {st' : MemSt} (hj' : m'[j]? = some (.abs (.mem st'))) (hr' : RelM xs' o' st') (hsu : SU m' false xs' v') (hokL : OkL c xs') :
    PyS m0 c0 c c' p p' g g' cb j rb xj yb ps lv s xs' o' tv hv ytv yhv v' qt (m'.set rb (.cells 2 false (memC v' o'))) := by
  obtain ⟨st, hj, hr⟩ := h.mem
  have hl := k.1
  have hk0 := h.k0.1
  have lr : rb < m.length := (List.getElem?_eq_some_iff.1 h.ref).1
  obtain ⟨n1, n2, n3⟩ := h.ne h.ref (by decide) (by decide)
  obtain ⟨y1, y2, y3⟩ := h.ne h.y (by decide) (by decide)
  have hyr : yb ≠ rb := fun hh => by have h1 := h.y; rw [hh, h.ref] at h1; cases h1
  have lx : xj < m.length := (List.getElem?_eq_some_iff.1 h.pm.get).1
  have ly : yb < m.length := (List.getElem?_eq_some_iff.1 h.y).1
  have hxj : xj ≠ j := fun hh => by have h1 := h.pm.get; rw [hh, hj] at h1; cases h1
  have hrb' : m'[rb]? = some (.cells 2 false (memC v o)) := by rw [k.2 rb lr n2]; exact h.ref
  have nb : ∀ sz, sz ≠ 2 → ∀ ro L, m'[rb]? ≠ some (.cells sz ro L) := fun sz hsz ro L hh => by rw [hrb'] at hh; injection hh with hh; injection hh with hh; exact hsz hh.symm
  have nj : ∀ sz ro L, m[j]? ≠ some (.cells sz ro L) := fun sz ro L hh => by rw [hj] at hh; cases hh
  have row : ∀ {wr : Bool} {sz n : Nat} {l : List AV} {w : AV}, sz ≠ 2 → Sl m wr sz n l w → Sl (m'.set rb (.cells 2 false (memC v' o'))) wr sz n l w := fun hsz hs =>
    Sl.put (Sl.stay hs fun q oo cap hw h0 => by
      obtain ⟨h1, ro, L, h2⟩ := Sl.lt hs hw h0
      exact k.2 q h1 fun hh => nj _ ro L (by rw [← hh]; exact h2)) (nb _ hsz) _
  have hg : ∀ i, i < m.length → i ≠ j → i ≠ rb → (m'.set rb (.cells 2 false (memC v' o')))[i]? = m[i]? := fun i hi h1 h2 => by
    rw [List.getElem?_set_ne (fun hh => h2 hh.symm), k.2 i hi h1]
  have hqj : ∀ l, m[qt]? = some (.cells 1 false (iC l)) → qt < m.length ∧ qt ≠ j ∧ qt ≠ rb := fun l hl => ⟨(List.getElem?_eq_some_iff.1 hl).1, fun hh => nj _ _ _ (by rw [← hh]; exact hl), fun hh => by rw [hh, h.ref] at hl; cases hl⟩
  refine ⟨⟨by simp only [List.length_set]; omega, fun i hi => by rw [hg i (by omega) (by omega) (by omega), h.k0.2 i hi]⟩, ⟨by rw [hg xj lx hxj (fun hh => n1 hh.symm)]; exact h.pm.get, fun ha => ?_, h.pm.one, row (by decide) h.pm.h, h.pm.off⟩, ?_, h.bq, ⟨st', by rw [List.getElem?_set_ne n2]; exact hj', hr'⟩, List.getElem?_set_self (by omega), Sl.put hsu (nb 1 (by decide)) _, by rw [hg yb ly y2 hyr]; exact h.y, row (by decide) h.yt, row (by decide) h.yh, h.ot, h.oh, h.ok, hokL, h.cc, row (by decide) h.ps⟩
  · refine (h.pm.t ha).keep fun h0 => ?_
    obtain ⟨q1, q2, q3⟩ := hqj _ ((h.pm.t ha).box h0)
    exact hg qt q1 q2 q3
  · rcases h.qr with hq | ⟨l, hl⟩
    · exact .inl hq
    · obtain ⟨q1, q2, q3⟩ := hqj l hl
      exact .inr ⟨l, by rw [hg qt q1 q2 q3]; exact hl⟩
end Go.Am.F09
end
section
namespace Go.Am.F09
open Go.Am.F06 Go.Am.F10
theorem neg_eq {X : Type} (m : Mem X) (x : Int) : c_put_NewLay_1 [.int .i64 x] m = some (.bool (decide (x < 0)), m) := by
  have he : c_put_NewLay_1 (X := X) = amFunc [] put_NewLay_1 := rfl
  rw [he]
  exact Fn_eq (Fn_of rfl (by simp (disch := first | assumption | omega | (simp only [List.length_cons, List.length_nil, List.length_set, List.length_append] <;> omega) | (simp only [get_mid, get_mid0, List.cons_append, List.append_assoc, List.getElem?_cons_zero, List.getElem?_cons_succ])) only [put_NewLay_1, ek, ↓evW, ↓evQ, evB, evS, evL, List.map, AV.cells, List.all, AV.one, Bool.and_true, Bool.true_and, if_true, ↓thenQ_normal, ↓thenQ_exit, ↓thenQ_ret, ↓blockQ_normal, ↓blockQ_ret, ↓blockQ_exit, ↓CW_true, ↓CW_false, CW_true, CW_false, condT, condF, RQ_some, tupA_one, tupA_two, tupA_nil, Nat.reduceSub, Nat.reduceAdd, Nat.reduceMul, Nat.zero_add, Nat.add_zero, Nat.reduceLeDiff, Nat.reduceEqDiff, eqV, eqAll, fillA, and_self, and_true, true_and, Nat.le_refl, Bool.not_true, Bool.not_false, Bool.false_xor, Bool.true_xor, cond_true, cond_false, List.replicate, if_false, reduceIte, resAll, resA, ne_eq, decide_not, decide_true, decide_false, Int.reduceEq, Bool.not_true, Bool.not_false, not_true_eq_false, not_false_eq_true, cond_bool, cond_int, beq_self_eq_true, Int.reduceBEq, Bool.and_self, Bool.and_false, Bool.false_and, Bool.xor_false, Bool.xor_true, loadN_ldC, ldC_none, ldC_somes, stC_aggs, splice, storeN_stC, stC_int, stC_bool, stC_ptr, stC_nilp, stC_sl, stC_nils, getC_gcO, gcO_cells, W_draw_eq, ↓W_scope, ev_clear, evT, evF, evX, evM, ↓exitQ_normal, ↓exitQ_ret, ↓exitQ_exit, saA_self, saO_self, if_pos, if_neg, wrapI, get_concat, set_concat, Int.toNat_natCast, Int.toNat_zero, List.nil_append, Nat.mul_one, decide_eq_true, decide_eq_false, Int.reduceLE, Int.reduceLT, Int.reduceNeg, Bool.false_or, Bool.true_or, Bool.or_false, Bool.or_true, wrapU, Int.reduceAdd, Int.reduceSub, Int.reduceMul, List.append_assoc, List.length_append, get_mid, get_mid0, set_mid, set_mid0, List.length_set, List.length_cons, List.length_nil, List.cons_append, List.getElem?_append_left, List.set_append_left, get_at, get_at0, set_at, set_at0, List.getElem?_set_self, List.getElem?_set_ne]))
def Gif : List (Nat × AFun Ob) := [(213, c_put_NewLay_1)]
def Gdf : List (Nat × AFun Ob) := [(97, amFunc Gif slices_IndexFunc_int), (213, c_put_NewLay_1)]
def PInv (q n : Nat) (xs : List Int) (m0 : MM) (k : Nat) (e : List AV) (m : MM) : Prop := ∃ (i : Nat) (x3 x6 x7 : AV),
  e = [.sl q 0 n none, .fn 213 [] [], .int .i64 0, x3, .int .i64 n, .int .i64 i, x6, x7] ∧ m = m0 ∧ k = n - i ∧ i ≤ n ∧ ∀ j x, j < i → xs[j]? = some x → ¬ x < 0
theorem indexf_run {m : MM} {xs : List Int} {q : Nat} (hq : m[q]? = some (.cells 1 false (iC xs))) (hx : xs.length ≤ 1000) :
    ∃ r : Int, ((0 ≤ r ∧ (∃ x, xs[r.toNat]? = some x ∧ x < 0) ∧ ∀ j x, j < r.toNat → xs[j]? = some x → ¬ x < 0) ∨ (r = -1 ∧ ∀ x, x ∈ xs → ¬ x < 0)) ∧ amFunc Gif slices_IndexFunc_int [.sl q 0 xs.length none, .fn 213 [] []] m = some (.int .i64 r, m) := by
  have : Fn Gif slices_IndexFunc_int [.sl q 0 xs.length none, .fn 213 [] []] m (fun v m' => ∃ r : Int, ((0 ≤ r ∧ (∃ x, xs[r.toNat]? = some x ∧ x < 0) ∧ ∀ j x, j < r.toNat → xs[j]? = some x → ¬ x < 0) ∨ (r = -1 ∧ ∀ x, x ∈ xs → ¬ x < 0)) ∧ v = .int .i64 r ∧ m' = m) := by
    have a213 : assoc Gif 213 = some c_put_NewLay_1 := rfl
    generalize Gif = G at a213 ⊢
    refine Fn_of rfl ?_
    simp (disch := first | assumption | omega | (simp only [List.length_cons, List.length_nil, List.length_set, List.length_append] <;> omega) | (simp only [get_mid, get_mid0, List.cons_append, List.append_assoc, List.getElem?_cons_zero, List.getElem?_cons_succ])) only [slices_IndexFunc_int, ek, ↓evW, ↓evQ, evB, evS, evL, List.map, AV.cells, List.all, AV.one, Bool.and_true, Bool.true_and, if_true, ↓thenQ_normal, ↓thenQ_exit, ↓thenQ_ret, ↓blockQ_normal, ↓blockQ_ret, ↓blockQ_exit, ↓CW_true, ↓CW_false, CW_true, CW_false, condT, condF, RQ_some, tupA_one, tupA_two, tupA_nil, Nat.reduceSub, Nat.reduceAdd, Nat.reduceMul, Nat.zero_add, Nat.add_zero, Nat.reduceLeDiff, Nat.reduceEqDiff, eqV, eqAll, fillA, and_self, and_true, true_and, Nat.le_refl, Bool.not_true, Bool.not_false, Bool.false_xor, Bool.true_xor, cond_true, cond_false, List.replicate, if_false, reduceIte, resAll, resA, ne_eq, decide_not, decide_true, decide_false, Int.reduceEq, Bool.not_true, Bool.not_false, not_true_eq_false, not_false_eq_true, cond_bool, cond_int, beq_self_eq_true, Int.reduceBEq, Bool.and_self, Bool.and_false, Bool.false_and, Bool.xor_false, Bool.xor_true, loadN_ldC, ldC_none, ldC_somes, stC_aggs, splice, storeN_stC, stC_int, stC_bool, stC_ptr, stC_nilp, stC_sl, stC_nils, getC_gcO, gcO_cells, W_draw_eq, ↓W_scope, ev_clear, evT, evF, evX, evM, ↓exitQ_normal, ↓exitQ_ret, ↓exitQ_exit, saA_self, saO_self, if_pos, if_neg, wrapI, get_concat, set_concat, Int.toNat_natCast, Int.toNat_zero, List.nil_append, Nat.mul_one, decide_eq_true, decide_eq_false, Int.reduceLE, Int.reduceLT, Int.reduceNeg, Bool.false_or, Bool.true_or, Bool.or_false, Bool.or_true, wrapU, Int.reduceAdd, Int.reduceSub, Int.reduceMul]
    refine W_loop (PInv q xs.length xs m) xs.length (by simp only [FUEL]; omega) ⟨0, _, _, _, rfl, rfl, rfl, Nat.zero_le _, fun j x hj => by omega⟩ ?_
    rintro k e m' ⟨i, x3, x6, x7, rfl, rfl, rfl, hi, hne⟩
    simp (disch := first | assumption | omega | (simp only [List.length_cons, List.length_nil, List.length_set, List.length_append] <;> omega) | (simp only [get_mid, get_mid0, List.cons_append, List.append_assoc, List.getElem?_cons_zero, List.getElem?_cons_succ])) only [ek, ↓evW, ↓evQ, evB, evS, evL, List.map, AV.cells, List.all, AV.one, Bool.and_true, Bool.true_and, if_true, ↓thenQ_normal, ↓thenQ_exit, ↓thenQ_ret, ↓blockQ_normal, ↓blockQ_ret, ↓blockQ_exit, ↓CW_true, ↓CW_false, CW_true, CW_false, condT, condF, RQ_some, tupA_one, tupA_two, tupA_nil, Nat.reduceSub, Nat.reduceAdd, Nat.reduceMul, Nat.zero_add, Nat.add_zero, Nat.reduceLeDiff, Nat.reduceEqDiff, eqV, eqAll, fillA, and_self, and_true, true_and, Nat.le_refl, Bool.not_true, Bool.not_false, Bool.false_xor, Bool.true_xor, cond_true, cond_false, List.replicate, if_false, reduceIte, resAll, resA, ne_eq, decide_not, decide_true, decide_false, Int.reduceEq, Bool.not_true, Bool.not_false, not_true_eq_false, not_false_eq_true, cond_bool, cond_int, beq_self_eq_true, Int.reduceBEq, Bool.and_self, Bool.and_false, Bool.false_and, Bool.xor_false, Bool.xor_true, loadN_ldC, ldC_none, ldC_somes, stC_aggs, splice, storeN_stC, stC_int, stC_bool, stC_ptr, stC_nilp, stC_sl, stC_nils, getC_gcO, gcO_cells, W_draw_eq, ↓W_scope, ev_clear, evT, evF, evX, evM, ↓exitQ_normal, ↓exitQ_ret, ↓exitQ_exit, saA_self, saO_self, if_pos, if_neg, wrapI, get_concat, set_concat, Int.toNat_natCast, Int.toNat_zero, List.nil_append, Nat.mul_one, decide_eq_true, decide_eq_false, Int.reduceLE, Int.reduceLT, Int.reduceNeg, Bool.false_or, Bool.true_or, Bool.or_false, Bool.or_true, wrapU, Int.reduceAdd, Int.reduceSub, Int.reduceMul]
    refine CW_of (fun h => ?_) (fun h => ?_)
    · simp only [decide_eq_true_eq] at h
      obtain ⟨y, hyi⟩ : ∃ y, xs[i]? = some y := ⟨_, List.getElem?_eq_getElem (by omega)⟩
      have hp := fun m : MM => neg_eq m y
      by_cases hy : y < 0
      · simp (disch := first | assumption | omega | (simp only [List.length_cons, List.length_nil, List.length_set, List.length_append] <;> omega) | (simp only [get_mid, get_mid0, List.cons_append, List.append_assoc, List.getElem?_cons_zero, List.getElem?_cons_succ])) only [ek, ↓evW, ↓evQ, evB, evS, evL, List.map, AV.cells, List.all, AV.one, Bool.and_true, Bool.true_and, if_true, ↓thenQ_normal, ↓thenQ_exit, ↓thenQ_ret, ↓blockQ_normal, ↓blockQ_ret, ↓blockQ_exit, ↓CW_true, ↓CW_false, CW_true, CW_false, condT, condF, RQ_some, tupA_one, tupA_two, tupA_nil, Nat.reduceSub, Nat.reduceAdd, Nat.reduceMul, Nat.zero_add, Nat.add_zero, Nat.reduceLeDiff, Nat.reduceEqDiff, eqV, eqAll, fillA, and_self, and_true, true_and, Nat.le_refl, Bool.not_true, Bool.not_false, Bool.false_xor, Bool.true_xor, cond_true, cond_false, List.replicate, if_false, reduceIte, resAll, resA, ne_eq, decide_not, decide_true, decide_false, Int.reduceEq, Bool.not_true, Bool.not_false, not_true_eq_false, not_false_eq_true, cond_bool, cond_int, beq_self_eq_true, Int.reduceBEq, Bool.and_self, Bool.and_false, Bool.false_and, Bool.xor_false, Bool.xor_true, loadN_ldC, ldC_none, ldC_somes, stC_aggs, splice, storeN_stC, stC_int, stC_bool, stC_ptr, stC_nilp, stC_sl, stC_nils, getC_gcO, gcO_cells, W_draw_eq, ↓W_scope, ev_clear, evT, evF, evX, evM, ↓exitQ_normal, ↓exitQ_ret, ↓exitQ_exit, saA_self, saO_self, if_pos, if_neg, wrapI, get_concat, set_concat, Int.toNat_natCast, Int.toNat_zero, List.nil_append, Nat.mul_one, decide_eq_true, decide_eq_false, Int.reduceLE, Int.reduceLT, Int.reduceNeg, Bool.false_or, Bool.true_or, Bool.or_false, Bool.or_true, wrapU, Int.reduceAdd, Int.reduceSub, Int.reduceMul, hq, iC_at hyi, a213, hp, hy, List.append_nil]
        exact ⟨i, .inl ⟨by omega, ⟨y, hyi, hy⟩, hne⟩, rfl⟩
      · simp (disch := first | assumption | omega | (simp only [List.length_cons, List.length_nil, List.length_set, List.length_append] <;> omega) | (simp only [get_mid, get_mid0, List.cons_append, List.append_assoc, List.getElem?_cons_zero, List.getElem?_cons_succ])) only [ek, ↓evW, ↓evQ, evB, evS, evL, List.map, AV.cells, List.all, AV.one, Bool.and_true, Bool.true_and, if_true, ↓thenQ_normal, ↓thenQ_exit, ↓thenQ_ret, ↓blockQ_normal, ↓blockQ_ret, ↓blockQ_exit, ↓CW_true, ↓CW_false, CW_true, CW_false, condT, condF, RQ_some, tupA_one, tupA_two, tupA_nil, Nat.reduceSub, Nat.reduceAdd, Nat.reduceMul, Nat.zero_add, Nat.add_zero, Nat.reduceLeDiff, Nat.reduceEqDiff, eqV, eqAll, fillA, and_self, and_true, true_and, Nat.le_refl, Bool.not_true, Bool.not_false, Bool.false_xor, Bool.true_xor, cond_true, cond_false, List.replicate, if_false, reduceIte, resAll, resA, ne_eq, decide_not, decide_true, decide_false, Int.reduceEq, Bool.not_true, Bool.not_false, not_true_eq_false, not_false_eq_true, cond_bool, cond_int, beq_self_eq_true, Int.reduceBEq, Bool.and_self, Bool.and_false, Bool.false_and, Bool.xor_false, Bool.xor_true, loadN_ldC, ldC_none, ldC_somes, stC_aggs, splice, storeN_stC, stC_int, stC_bool, stC_ptr, stC_nilp, stC_sl, stC_nils, getC_gcO, gcO_cells, W_draw_eq, ↓W_scope, ev_clear, evT, evF, evX, evM, ↓exitQ_normal, ↓exitQ_ret, ↓exitQ_exit, saA_self, saO_self, if_pos, if_neg, wrapI, get_concat, set_concat, Int.toNat_natCast, Int.toNat_zero, List.nil_append, Nat.mul_one, decide_eq_true, decide_eq_false, Int.reduceLE, Int.reduceLT, Int.reduceNeg, Bool.false_or, Bool.true_or, Bool.or_false, Bool.or_true, wrapU, Int.reduceAdd, Int.reduceSub, Int.reduceMul, hq, iC_at hyi, a213, hp, hy, List.append_nil]
        refine ⟨_, by omega, i + 1, _, _, _, rfl, rfl, rfl, by omega, fun j x hj hjx => ?_⟩
        by_cases hji : j = i
        · subst hji; rw [hyi] at hjx; injection hjx with hjx; subst hjx; exact hy
        · exact hne j x (by omega) hjx
    · simp only [decide_eq_false_iff_not] at h
      simp (disch := first | assumption | omega | (simp only [List.length_cons, List.length_nil, List.length_set, List.length_append] <;> omega) | (simp only [get_mid, get_mid0, List.cons_append, List.append_assoc, List.getElem?_cons_zero, List.getElem?_cons_succ])) only [ek, ↓evW, ↓evQ, evB, evS, evL, List.map, AV.cells, List.all, AV.one, Bool.and_true, Bool.true_and, if_true, ↓thenQ_normal, ↓thenQ_exit, ↓thenQ_ret, ↓blockQ_normal, ↓blockQ_ret, ↓blockQ_exit, ↓CW_true, ↓CW_false, CW_true, CW_false, condT, condF, RQ_some, tupA_one, tupA_two, tupA_nil, Nat.reduceSub, Nat.reduceAdd, Nat.reduceMul, Nat.zero_add, Nat.add_zero, Nat.reduceLeDiff, Nat.reduceEqDiff, eqV, eqAll, fillA, and_self, and_true, true_and, Nat.le_refl, Bool.not_true, Bool.not_false, Bool.false_xor, Bool.true_xor, cond_true, cond_false, List.replicate, if_false, reduceIte, resAll, resA, ne_eq, decide_not, decide_true, decide_false, Int.reduceEq, Bool.not_true, Bool.not_false, not_true_eq_false, not_false_eq_true, cond_bool, cond_int, beq_self_eq_true, Int.reduceBEq, Bool.and_self, Bool.and_false, Bool.false_and, Bool.xor_false, Bool.xor_true, loadN_ldC, ldC_none, ldC_somes, stC_aggs, splice, storeN_stC, stC_int, stC_bool, stC_ptr, stC_nilp, stC_sl, stC_nils, getC_gcO, gcO_cells, W_draw_eq, ↓W_scope, ev_clear, evT, evF, evX, evM, ↓exitQ_normal, ↓exitQ_ret, ↓exitQ_exit, saA_self, saO_self, if_pos, if_neg, wrapI, get_concat, set_concat, Int.toNat_natCast, Int.toNat_zero, List.nil_append, Nat.mul_one, decide_eq_true, decide_eq_false, Int.reduceLE, Int.reduceLT, Int.reduceNeg, Bool.false_or, Bool.true_or, Bool.or_false, Bool.or_true, wrapU, Int.reduceAdd, Int.reduceSub, Int.reduceMul]
      refine ⟨-1, .inr ⟨rfl, fun x hx => ?_⟩, rfl⟩
      obtain ⟨j, hj⟩ := List.mem_iff_getElem?.1 hx
      exact hne j x (by have := (List.getElem?_eq_some_iff.1 hj).1; omega) hj
  obtain ⟨v, m', h1, r, h2, rfl, rfl⟩ := this
  exact ⟨r, h2, h1⟩
def posL (xs : List Int) : List Int := xs.filter fun x => decide (¬ x < 0)
theorem pos_len (xs : List Int) : (posL xs).length ≤ xs.length := List.length_filter_le _ _
theorem pos_snoc {xs : List Int} {j : Nat} {x : Int} (h : xs[j]? = some x) : posL (xs.take (j + 1)) = if x < 0 then posL (xs.take j) else posL (xs.take j) ++ [x] := by
  rw [List.take_add_one, h, posL, List.filter_append, ← posL]
  by_cases hx : x < 0
  · simp [hx]
  · simp [hx]; omega
theorem pos_all {xs : List Int} (h : ∀ x, x ∈ xs → ¬ x < 0) : posL xs = xs := List.filter_eq_self.2 fun x hx => by simpa using h x hx
def BInv (q : Nat) (xs : List Int) (m0 : MM) (k : Nat) (e : List AV) (m : MM) : Prop := ∃ (j cnt : Nat) (L : List AV) (x5 x6 x7 x8 : AV),
  e = [.sl q 0 xs.length none, .fn 213 [] [], .nils, .int .i64 cnt, .int .i64 j, x5, x6, x7, x8] ∧ m = m0.set q (.cells 1 false L) ∧ k = xs.length - j ∧ j ≤ xs.length ∧ cnt < j ∧ cnt = (posL (xs.take j)).length ∧
  L.length = xs.length ∧ L.take cnt = iC (posL (xs.take j)) ∧ (∀ k x, j ≤ k → xs[k]? = some x → L[k]? = some (.int .i64 x)) ∧ L.all AV.one = true
theorem rep_len (n : Nat) : (repeatL n [AV.int .i64 0]).length = n := by simp [repeatL]
theorem rep_one (n : Nat) : (repeatL n [AV.int .i64 0]).all AV.one = true := by
  simp only [repeatL, List.all_eq_true, List.mem_flatten]
  rintro x ⟨l, hl, hx⟩
  rw [List.mem_replicate] at hl
  obtain ⟨_, rfl⟩ := hl
  simp at hx; subst hx; rfl
set_option maxHeartbeats 4000000 in
theorem delete_run {M m : MM} {xs : List Int} {q : Nat} (hk : Keep M m) (hqM : M.length ≤ q) (hq : m[q]? = some (.cells 1 false (iC xs))) (hx : xs.length ≤ 1000) :
    Fn Gdf slices_DeleteFunc_int [.sl q 0 xs.length none, .fn 213 [] []] m (fun r m' => Keep M m' ∧ SI m' true (posL xs) r ∧ Fr M.length r ∧ Nx m' r) := by
  have a97 : assoc Gdf 97 = some (amFunc Gif slices_IndexFunc_int) := rfl
  have a213 : assoc Gdf 213 = some c_put_NewLay_1 := rfl
  generalize Gdf = G at a97 a213 ⊢
  refine Fn_of rfl ?_
  obtain ⟨r, hr, hrun⟩ := indexf_run hq hx
  have hql : q < m.length := (List.getElem?_eq_some_iff.1 hq).1
  rcases hr with ⟨hr0, ⟨x0, hx0i, hx0w⟩, hr2⟩ | ⟨rfl, hr1⟩
  · obtain ⟨i0, rfl⟩ : ∃ i0 : Nat, r = i0 := ⟨r.toNat, by omega⟩
    simp only [Int.toNat_natCast] at hx0i hr2
    have hi0 : i0 < xs.length := (List.getElem?_eq_some_iff.1 hx0i).1
    have hsq : ∀ c, (m.set q c)[q]? = some c := fun c => List.getElem?_set_self hql
    have hne : ¬ ((i0 : Int) = -1) := by omega
    simp (disch := first | assumption | omega | (simp only [List.length_cons, List.length_nil, List.length_set, List.length_append] <;> omega) | (simp only [get_mid, get_mid0, List.cons_append, List.append_assoc, List.getElem?_cons_zero, List.getElem?_cons_succ])) only [slices_DeleteFunc_int, ek, ↓evW, ↓evQ, evB, evS, evL, List.map, AV.cells, List.all, AV.one, Bool.and_true, Bool.true_and, if_true, ↓thenQ_normal, ↓thenQ_exit, ↓thenQ_ret, ↓blockQ_normal, ↓blockQ_ret, ↓blockQ_exit, ↓CW_true, ↓CW_false, CW_true, CW_false, condT, condF, RQ_some, tupA_one, tupA_two, tupA_nil, Nat.reduceSub, Nat.reduceAdd, Nat.reduceMul, Nat.zero_add, Nat.add_zero, Nat.reduceLeDiff, Nat.reduceEqDiff, eqV, eqAll, fillA, and_self, and_true, true_and, Nat.le_refl, Bool.not_true, Bool.not_false, Bool.false_xor, Bool.true_xor, cond_true, cond_false, List.replicate, if_false, reduceIte, resAll, resA, ne_eq, decide_not, decide_true, decide_false, Int.reduceEq, Bool.not_true, Bool.not_false, not_true_eq_false, not_false_eq_true, cond_bool, cond_int, beq_self_eq_true, Int.reduceBEq, Bool.and_self, Bool.and_false, Bool.false_and, Bool.xor_false, Bool.xor_true, loadN_ldC, ldC_none, ldC_somes, stC_aggs, splice, storeN_stC, stC_int, stC_bool, stC_ptr, stC_nilp, stC_sl, stC_nils, getC_gcO, gcO_cells, W_draw_eq, ↓W_scope, ev_clear, evT, evF, evX, evM, ↓exitQ_normal, ↓exitQ_ret, ↓exitQ_exit, saA_self, saO_self, if_pos, if_neg, wrapI, get_concat, set_concat, Int.toNat_natCast, Int.toNat_zero, List.nil_append, Nat.mul_one, decide_eq_true, decide_eq_false, Int.reduceLE, Int.reduceLT, Int.reduceNeg, Bool.false_or, Bool.true_or, Bool.or_false, Bool.or_true, wrapU, Int.reduceAdd, Int.reduceSub, Int.reduceMul, a97, hrun]
    have hl0 : posL (xs.take (i0 + 1)) = xs.take i0 := by
      rw [pos_snoc hx0i, if_pos hx0w]
      exact pos_all fun x hx => by
        obtain ⟨j, hj⟩ := List.mem_iff_getElem?.1 hx
        rw [List.getElem?_take] at hj
        split at hj
        · exact hr2 j x ‹_› hj
        · cases hj
    refine W_loop (BInv q xs m) (xs.length - (i0 + 1)) (by simp only [FUEL]; omega) ⟨i0 + 1, i0, iC xs, _, _, _, _, rfl, ?_, rfl, by omega, by omega, ?_, iC_len _, ?_, fun k x _ h => iC_at h, iC_one _⟩ ?_
    · refine (List.ext_getElem? fun j => ?_)
      by_cases hj : q = j
      · subst hj; rw [hsq, hq]
      · rw [List.getElem?_set_ne hj]
    · rw [hl0, List.length_take]; omega
    · rw [hl0]; simp [iC, List.map_take]
    rintro k e m' ⟨j, cnt, L, x5, x6, x7, x8, rfl, rfl, rfl, hj, hcj, hcnt, hL, hLt, hLr, hLo⟩
    simp (disch := first | assumption | omega | (simp only [List.length_cons, List.length_nil, List.length_set, List.length_append] <;> omega) | (simp only [get_mid, get_mid0, List.cons_append, List.append_assoc, List.getElem?_cons_zero, List.getElem?_cons_succ])) only [ek, ↓evW, ↓evQ, evB, evS, evL, List.map, AV.cells, List.all, AV.one, Bool.and_true, Bool.true_and, if_true, ↓thenQ_normal, ↓thenQ_exit, ↓thenQ_ret, ↓blockQ_normal, ↓blockQ_ret, ↓blockQ_exit, ↓CW_true, ↓CW_false, CW_true, CW_false, condT, condF, RQ_some, tupA_one, tupA_two, tupA_nil, Nat.reduceSub, Nat.reduceAdd, Nat.reduceMul, Nat.zero_add, Nat.add_zero, Nat.reduceLeDiff, Nat.reduceEqDiff, eqV, eqAll, fillA, and_self, and_true, true_and, Nat.le_refl, Bool.not_true, Bool.not_false, Bool.false_xor, Bool.true_xor, cond_true, cond_false, List.replicate, if_false, reduceIte, resAll, resA, ne_eq, decide_not, decide_true, decide_false, Int.reduceEq, Bool.not_true, Bool.not_false, not_true_eq_false, not_false_eq_true, cond_bool, cond_int, beq_self_eq_true, Int.reduceBEq, Bool.and_self, Bool.and_false, Bool.false_and, Bool.xor_false, Bool.xor_true, loadN_ldC, ldC_none, ldC_somes, stC_aggs, splice, storeN_stC, stC_int, stC_bool, stC_ptr, stC_nilp, stC_sl, stC_nils, getC_gcO, gcO_cells, W_draw_eq, ↓W_scope, ev_clear, evT, evF, evX, evM, ↓exitQ_normal, ↓exitQ_ret, ↓exitQ_exit, saA_self, saO_self, if_pos, if_neg, wrapI, get_concat, set_concat, Int.toNat_natCast, Int.toNat_zero, List.nil_append, Nat.mul_one, decide_eq_true, decide_eq_false, Int.reduceLE, Int.reduceLT, Int.reduceNeg, Bool.false_or, Bool.true_or, Bool.or_false, Bool.or_true, wrapU, Int.reduceAdd, Int.reduceSub, Int.reduceMul]
    refine CW_of (fun h => ?_) (fun h => ?_)
    · simp only [decide_eq_true_eq] at h
      obtain ⟨y, hyj⟩ : ∃ y, xs[j]? = some y := ⟨_, List.getElem?_eq_getElem (by omega)⟩
      have hLy := hLr j y (Nat.le_refl _) hyj
      have hp := fun m : MM => neg_eq m y
      have hsn := pos_snoc hyj
      by_cases hy : y < 0
      · rw [if_pos hy] at hsn
        simp (disch := first | assumption | omega | (simp only [List.length_cons, List.length_nil, List.length_set, List.length_append] <;> omega) | (simp only [get_mid, get_mid0, List.cons_append, List.append_assoc, List.getElem?_cons_zero, List.getElem?_cons_succ])) only [ek, ↓evW, ↓evQ, evB, evS, evL, List.map, AV.cells, List.all, AV.one, Bool.and_true, Bool.true_and, if_true, ↓thenQ_normal, ↓thenQ_exit, ↓thenQ_ret, ↓blockQ_normal, ↓blockQ_ret, ↓blockQ_exit, ↓CW_true, ↓CW_false, CW_true, CW_false, condT, condF, RQ_some, tupA_one, tupA_two, tupA_nil, Nat.reduceSub, Nat.reduceAdd, Nat.reduceMul, Nat.zero_add, Nat.add_zero, Nat.reduceLeDiff, Nat.reduceEqDiff, eqV, eqAll, fillA, and_self, and_true, true_and, Nat.le_refl, Bool.not_true, Bool.not_false, Bool.false_xor, Bool.true_xor, cond_true, cond_false, List.replicate, if_false, reduceIte, resAll, resA, ne_eq, decide_not, decide_true, decide_false, Int.reduceEq, Bool.not_true, Bool.not_false, not_true_eq_false, not_false_eq_true, cond_bool, cond_int, beq_self_eq_true, Int.reduceBEq, Bool.and_self, Bool.and_false, Bool.false_and, Bool.xor_false, Bool.xor_true, loadN_ldC, ldC_none, ldC_somes, stC_aggs, splice, storeN_stC, stC_int, stC_bool, stC_ptr, stC_nilp, stC_sl, stC_nils, getC_gcO, gcO_cells, W_draw_eq, ↓W_scope, ev_clear, evT, evF, evX, evM, ↓exitQ_normal, ↓exitQ_ret, ↓exitQ_exit, saA_self, saO_self, if_pos, if_neg, wrapI, get_concat, set_concat, Int.toNat_natCast, Int.toNat_zero, List.nil_append, Nat.mul_one, decide_eq_true, decide_eq_false, Int.reduceLE, Int.reduceLT, Int.reduceNeg, Bool.false_or, Bool.true_or, Bool.or_false, Bool.or_true, wrapU, Int.reduceAdd, Int.reduceSub, Int.reduceMul, hsq, hLy, a213, hp, hy, List.append_nil]
        exact ⟨_, by omega, j + 1, cnt, L, _, _, _, _, rfl, rfl, rfl, by omega, by omega, by rw [hsn]; exact hcnt, hL, by rw [hsn]; exact hLt, fun k x h1 h2 => hLr k x (by omega) h2, hLo⟩
      · rw [if_neg hy] at hsn
        simp (disch := first | assumption | omega | (simp only [List.length_cons, List.length_nil, List.length_set, List.length_append] <;> omega) | (simp only [get_mid, get_mid0, List.cons_append, List.append_assoc, List.getElem?_cons_zero, List.getElem?_cons_succ])) only [ek, ↓evW, ↓evQ, evB, evS, evL, List.map, AV.cells, List.all, AV.one, Bool.and_true, Bool.true_and, if_true, ↓thenQ_normal, ↓thenQ_exit, ↓thenQ_ret, ↓blockQ_normal, ↓blockQ_ret, ↓blockQ_exit, ↓CW_true, ↓CW_false, CW_true, CW_false, condT, condF, RQ_some, tupA_one, tupA_two, tupA_nil, Nat.reduceSub, Nat.reduceAdd, Nat.reduceMul, Nat.zero_add, Nat.add_zero, Nat.reduceLeDiff, Nat.reduceEqDiff, eqV, eqAll, fillA, and_self, and_true, true_and, Nat.le_refl, Bool.not_true, Bool.not_false, Bool.false_xor, Bool.true_xor, cond_true, cond_false, List.replicate, if_false, reduceIte, resAll, resA, ne_eq, decide_not, decide_true, decide_false, Int.reduceEq, Bool.not_true, Bool.not_false, not_true_eq_false, not_false_eq_true, cond_bool, cond_int, beq_self_eq_true, Int.reduceBEq, Bool.and_self, Bool.and_false, Bool.false_and, Bool.xor_false, Bool.xor_true, loadN_ldC, ldC_none, ldC_somes, stC_aggs, splice, storeN_stC, stC_int, stC_bool, stC_ptr, stC_nilp, stC_sl, stC_nils, getC_gcO, gcO_cells, W_draw_eq, ↓W_scope, ev_clear, evT, evF, evX, evM, ↓exitQ_normal, ↓exitQ_ret, ↓exitQ_exit, saA_self, saO_self, if_pos, if_neg, wrapI, get_concat, set_concat, Int.toNat_natCast, Int.toNat_zero, List.nil_append, Nat.mul_one, decide_eq_true, decide_eq_false, Int.reduceLE, Int.reduceLT, Int.reduceNeg, Bool.false_or, Bool.true_or, Bool.or_false, Bool.or_true, wrapU, Int.reduceAdd, Int.reduceSub, Int.reduceMul, hsq, hLy, a213, hp, hy, List.set_set, List.append_nil]
        refine ⟨_, by omega, j + 1, cnt + 1, L.set cnt (.int .i64 y), _, _, _, _, rfl, rfl, rfl, by omega, by omega, by rw [hsn]; simp [hcnt], by simp [hL], ?_, fun k x h1 h2 => ?_, ?_⟩
        · have hcl : cnt < L.length := by omega
          rw [hsn, List.take_add_one, List.getElem?_set_self hcl]
          have : (L.set cnt (AV.int .i64 y)).take cnt = L.take cnt := by rw [List.take_set_of_le (Nat.le_refl _)]
          rw [this, hLt]; simp [iC]
        · rw [List.getElem?_set_ne (by omega)]; exact hLr k x (by omega) h2
        · simp only [List.all_eq_true] at hLo ⊢
          intro a ha
          rcases List.mem_or_eq_of_mem_set ha with h | h
          · exact hLo a h
          · subst h; rfl
    · simp only [decide_eq_false_iff_not] at h
      have hjn : j = xs.length := by omega
      rw [hjn, List.take_length] at hcnt hLt
      have hz1 := rep_len (xs.length - cnt)
      have hz2 := rep_one (xs.length - cnt)
      have hnz : ¬ (xs.length - cnt = 0) := by omega
      simp (disch := first | assumption | omega | (simp only [List.length_cons, List.length_nil, List.length_set, List.length_append] <;> omega) | (simp only [get_mid, get_mid0, List.cons_append, List.append_assoc, List.getElem?_cons_zero, List.getElem?_cons_succ])) only [ek, ↓evW, ↓evQ, evB, evS, evL, List.map, AV.cells, List.all, AV.one, Bool.and_true, Bool.true_and, if_true, ↓thenQ_normal, ↓thenQ_exit, ↓thenQ_ret, ↓blockQ_normal, ↓blockQ_ret, ↓blockQ_exit, ↓CW_true, ↓CW_false, CW_true, CW_false, condT, condF, RQ_some, tupA_one, tupA_two, tupA_nil, Nat.reduceSub, Nat.reduceAdd, Nat.reduceMul, Nat.zero_add, Nat.add_zero, Nat.reduceLeDiff, Nat.reduceEqDiff, eqV, eqAll, fillA, and_self, and_true, true_and, Nat.le_refl, Bool.not_true, Bool.not_false, Bool.false_xor, Bool.true_xor, cond_true, cond_false, List.replicate, if_false, reduceIte, resAll, resA, ne_eq, decide_not, decide_true, decide_false, Int.reduceEq, Bool.not_true, Bool.not_false, not_true_eq_false, not_false_eq_true, cond_bool, cond_int, beq_self_eq_true, Int.reduceBEq, Bool.and_self, Bool.and_false, Bool.false_and, Bool.xor_false, Bool.xor_true, loadN_ldC, ldC_none, ldC_somes, stC_aggs, splice, storeN_stC, stC_int, stC_bool, stC_ptr, stC_nilp, stC_sl, stC_nils, getC_gcO, gcO_cells, W_draw_eq, ↓W_scope, ev_clear, evT, evF, evX, evM, ↓exitQ_normal, ↓exitQ_ret, ↓exitQ_exit, saA_self, saO_self, if_pos, if_neg, wrapI, get_concat, set_concat, Int.toNat_natCast, Int.toNat_zero, List.nil_append, Nat.mul_one, decide_eq_true, decide_eq_false, Int.reduceLE, Int.reduceLT, Int.reduceNeg, Bool.false_or, Bool.true_or, Bool.or_false, Bool.or_true, wrapU, Int.reduceAdd, Int.reduceSub, Int.reduceMul, evA, sliceA, Option.getD_none, Option.getD_some, hsq, clearA, stC_agg, hz1, hz2, hL, List.set_set, Nat.sub_zero]
      have hk' : ∀ c, Keep M (m.set q c) := fun c => hk.set hqM c
      rw [hcnt]
      refine ⟨hk' _, ⟨by rw [iC_len]; omega, .inr ⟨q, 0, none, rfl, fun _ => ⟨false, _, hsq _, ?_, ?_, fun _ => rfl⟩⟩⟩, .inr ⟨q, 0, _, none, rfl, hqM⟩, .inr ⟨q, 0, _, _, rfl, hsq _⟩⟩
      · rw [List.drop_zero, Nat.mul_one, ← hcnt, List.append_assoc, List.take_append_of_le_length (by rw [List.length_take]; omega), List.take_take, Nat.min_self, hLt]
      · simp only [List.length_append, List.length_take, List.length_drop, hz1]; omega
  · simp (disch := first | assumption | omega | (simp only [List.length_cons, List.length_nil, List.length_set, List.length_append] <;> omega) | (simp only [get_mid, get_mid0, List.cons_append, List.append_assoc, List.getElem?_cons_zero, List.getElem?_cons_succ])) only [slices_DeleteFunc_int, ek, ↓evW, ↓evQ, evB, evS, evL, List.map, AV.cells, List.all, AV.one, Bool.and_true, Bool.true_and, if_true, ↓thenQ_normal, ↓thenQ_exit, ↓thenQ_ret, ↓blockQ_normal, ↓blockQ_ret, ↓blockQ_exit, ↓CW_true, ↓CW_false, CW_true, CW_false, condT, condF, RQ_some, tupA_one, tupA_two, tupA_nil, Nat.reduceSub, Nat.reduceAdd, Nat.reduceMul, Nat.zero_add, Nat.add_zero, Nat.reduceLeDiff, Nat.reduceEqDiff, eqV, eqAll, fillA, and_self, and_true, true_and, Nat.le_refl, Bool.not_true, Bool.not_false, Bool.false_xor, Bool.true_xor, cond_true, cond_false, List.replicate, if_false, reduceIte, resAll, resA, ne_eq, decide_not, decide_true, decide_false, Int.reduceEq, Bool.not_true, Bool.not_false, not_true_eq_false, not_false_eq_true, cond_bool, cond_int, beq_self_eq_true, Int.reduceBEq, Bool.and_self, Bool.and_false, Bool.false_and, Bool.xor_false, Bool.xor_true, loadN_ldC, ldC_none, ldC_somes, stC_aggs, splice, storeN_stC, stC_int, stC_bool, stC_ptr, stC_nilp, stC_sl, stC_nils, getC_gcO, gcO_cells, W_draw_eq, ↓W_scope, ev_clear, evT, evF, evX, evM, ↓exitQ_normal, ↓exitQ_ret, ↓exitQ_exit, saA_self, saO_self, if_pos, if_neg, wrapI, get_concat, set_concat, Int.toNat_natCast, Int.toNat_zero, List.nil_append, Nat.mul_one, decide_eq_true, decide_eq_false, Int.reduceLE, Int.reduceLT, Int.reduceNeg, Bool.false_or, Bool.true_or, Bool.or_false, Bool.or_true, wrapU, Int.reduceAdd, Int.reduceSub, Int.reduceMul, a97, hrun]
    rw [pos_all hr1]
    exact ⟨hk, ⟨by rw [iC_len]; omega, .inr ⟨q, 0, none, rfl, fun _ => ⟨false, iC xs, hq, by rw [List.drop_zero, Nat.mul_one, ← iC_len, List.take_length], by rw [iC_len]; omega, fun _ => rfl⟩⟩⟩, .inr ⟨q, 0, _, none, rfl, hqM⟩, .inr ⟨q, 0, _, _, rfl, hq⟩⟩
theorem delete_nil {m : MM} {v : AV} (hv : lenA v = some 0) : Fn Gdf slices_DeleteFunc_int [v, .fn 213 [] []] m (fun r m' => r = v ∧ m' = m) := by
  have a97 : assoc Gdf 97 = some (amFunc Gif slices_IndexFunc_int) := rfl
  have hi : amFunc Gif slices_IndexFunc_int [v, .fn 213 [] []] m = some (.int .i64 (-1), m) := by
    generalize Gif = G
    refine Fn_eq (Fn_of rfl ?_)
    simp (disch := first | assumption | omega | (simp only [List.length_cons, List.length_nil, List.length_set, List.length_append] <;> omega) | (simp only [get_mid, get_mid0, List.cons_append, List.append_assoc, List.getElem?_cons_zero, List.getElem?_cons_succ])) only [slices_IndexFunc_int, ek, ↓evW, ↓evQ, evB, evS, evL, List.map, AV.cells, List.all, AV.one, Bool.and_true, Bool.true_and, if_true, ↓thenQ_normal, ↓thenQ_exit, ↓thenQ_ret, ↓blockQ_normal, ↓blockQ_ret, ↓blockQ_exit, ↓CW_true, ↓CW_false, CW_true, CW_false, condT, condF, RQ_some, tupA_one, tupA_two, tupA_nil, Nat.reduceSub, Nat.reduceAdd, Nat.reduceMul, Nat.zero_add, Nat.add_zero, Nat.reduceLeDiff, Nat.reduceEqDiff, eqV, eqAll, fillA, and_self, and_true, true_and, Nat.le_refl, Bool.not_true, Bool.not_false, Bool.false_xor, Bool.true_xor, cond_true, cond_false, List.replicate, if_false, reduceIte, resAll, resA, ne_eq, decide_not, decide_true, decide_false, Int.reduceEq, Bool.not_true, Bool.not_false, not_true_eq_false, not_false_eq_true, cond_bool, cond_int, beq_self_eq_true, Int.reduceBEq, Bool.and_self, Bool.and_false, Bool.false_and, Bool.xor_false, Bool.xor_true, loadN_ldC, ldC_none, ldC_somes, stC_aggs, splice, storeN_stC, stC_int, stC_bool, stC_ptr, stC_nilp, stC_sl, stC_nils, getC_gcO, gcO_cells, W_draw_eq, ↓W_scope, ev_clear, evT, evF, evX, evM, ↓exitQ_normal, ↓exitQ_ret, ↓exitQ_exit, saA_self, saO_self, if_pos, if_neg, wrapI, get_concat, set_concat, Int.toNat_natCast, Int.toNat_zero, List.nil_append, Nat.mul_one, decide_eq_true, decide_eq_false, Int.reduceLE, Int.reduceLT, Int.reduceNeg, Bool.false_or, Bool.true_or, Bool.or_false, Bool.or_true, wrapU, Int.reduceAdd, Int.reduceSub, Int.reduceMul, ev_len, hv, Int.ofNat_zero]
    refine W_loop (fun k e m' => ∃ x3 x6 x7 : AV, e = [v, .fn 213 [] [], .int .i64 0, x3, .int .i64 0, .int .i64 0, x6, x7] ∧ m' = m) 0 (by simp [FUEL]) ⟨_, _, _, rfl, rfl⟩ ?_
    rintro k e m' ⟨x3, x6, x7, rfl, rfl⟩
    simp (disch := first | assumption | omega | (simp only [List.length_cons, List.length_nil, List.length_set, List.length_append] <;> omega) | (simp only [get_mid, get_mid0, List.cons_append, List.append_assoc, List.getElem?_cons_zero, List.getElem?_cons_succ])) only [ek, ↓evW, ↓evQ, evB, evS, evL, List.map, AV.cells, List.all, AV.one, Bool.and_true, Bool.true_and, if_true, ↓thenQ_normal, ↓thenQ_exit, ↓thenQ_ret, ↓blockQ_normal, ↓blockQ_ret, ↓blockQ_exit, ↓CW_true, ↓CW_false, CW_true, CW_false, condT, condF, RQ_some, tupA_one, tupA_two, tupA_nil, Nat.reduceSub, Nat.reduceAdd, Nat.reduceMul, Nat.zero_add, Nat.add_zero, Nat.reduceLeDiff, Nat.reduceEqDiff, eqV, eqAll, fillA, and_self, and_true, true_and, Nat.le_refl, Bool.not_true, Bool.not_false, Bool.false_xor, Bool.true_xor, cond_true, cond_false, List.replicate, if_false, reduceIte, resAll, resA, ne_eq, decide_not, decide_true, decide_false, Int.reduceEq, Bool.not_true, Bool.not_false, not_true_eq_false, not_false_eq_true, cond_bool, cond_int, beq_self_eq_true, Int.reduceBEq, Bool.and_self, Bool.and_false, Bool.false_and, Bool.xor_false, Bool.xor_true, loadN_ldC, ldC_none, ldC_somes, stC_aggs, splice, storeN_stC, stC_int, stC_bool, stC_ptr, stC_nilp, stC_sl, stC_nils, getC_gcO, gcO_cells, W_draw_eq, ↓W_scope, ev_clear, evT, evF, evX, evM, ↓exitQ_normal, ↓exitQ_ret, ↓exitQ_exit, saA_self, saO_self, if_pos, if_neg, wrapI, get_concat, set_concat, Int.toNat_natCast, Int.toNat_zero, List.nil_append, Nat.mul_one, decide_eq_true, decide_eq_false, Int.reduceLE, Int.reduceLT, Int.reduceNeg, Bool.false_or, Bool.true_or, Bool.or_false, Bool.or_true, wrapU, Int.reduceAdd, Int.reduceSub, Int.reduceMul]
  generalize Gdf = G at a97 ⊢
  refine Fn_of rfl ?_
  simp (disch := first | assumption | omega | (simp only [List.length_cons, List.length_nil, List.length_set, List.length_append] <;> omega) | (simp only [get_mid, get_mid0, List.cons_append, List.append_assoc, List.getElem?_cons_zero, List.getElem?_cons_succ])) only [slices_DeleteFunc_int, ek, ↓evW, ↓evQ, evB, evS, evL, List.map, AV.cells, List.all, AV.one, Bool.and_true, Bool.true_and, if_true, ↓thenQ_normal, ↓thenQ_exit, ↓thenQ_ret, ↓blockQ_normal, ↓blockQ_ret, ↓blockQ_exit, ↓CW_true, ↓CW_false, CW_true, CW_false, condT, condF, RQ_some, tupA_one, tupA_two, tupA_nil, Nat.reduceSub, Nat.reduceAdd, Nat.reduceMul, Nat.zero_add, Nat.add_zero, Nat.reduceLeDiff, Nat.reduceEqDiff, eqV, eqAll, fillA, and_self, and_true, true_and, Nat.le_refl, Bool.not_true, Bool.not_false, Bool.false_xor, Bool.true_xor, cond_true, cond_false, List.replicate, if_false, reduceIte, resAll, resA, ne_eq, decide_not, decide_true, decide_false, Int.reduceEq, Bool.not_true, Bool.not_false, not_true_eq_false, not_false_eq_true, cond_bool, cond_int, beq_self_eq_true, Int.reduceBEq, Bool.and_self, Bool.and_false, Bool.false_and, Bool.xor_false, Bool.xor_true, loadN_ldC, ldC_none, ldC_somes, stC_aggs, splice, storeN_stC, stC_int, stC_bool, stC_ptr, stC_nilp, stC_sl, stC_nils, getC_gcO, gcO_cells, W_draw_eq, ↓W_scope, ev_clear, evT, evF, evX, evM, ↓exitQ_normal, ↓exitQ_ret, ↓exitQ_exit, saA_self, saO_self, if_pos, if_neg, wrapI, get_concat, set_concat, Int.toNat_natCast, Int.toNat_zero, List.nil_append, Nat.mul_one, decide_eq_true, decide_eq_false, Int.reduceLE, Int.reduceLT, Int.reduceNeg, Bool.false_or, Bool.true_or, Bool.or_false, Bool.or_true, wrapU, Int.reduceAdd, Int.reduceSub, Int.reduceMul, a97, hi]
end Go.Am.F09
end
section
namespace Go.Am.F09
open Go.Am.F06 Go.Am.F10
structure LS where
  a : Int
  w : Int
  k : Int
  n : Int
  ls : List Int
def layC (c : Cf) (p : Int) (s : LS) (lv : AV) : List AV := rgC c p s.a s.w s.k [.int .u32 s.n, lv]
def roomN (c : Cf) (w : Int) (len : Nat) : Int := if c.q ≤ sz w then 0 else if (len : Int) < c.q - sz w then len else c.q - sz w
def stepL (c : Cf) (p : Int) (xs : List Int) (s : LS) : LS × List Int :=
  if s.a = 0 then (s, xs)
  else if s.ls.length = 0 then ({ s with a := 0 }, xs)
  else if s.a = 1 then ({ s with w := xs.getD (wrdN c p) 0, k := 0, n := roomN c (xs.getD (wrdN c p) 0) s.ls.length, a := if roomN c (xs.getD (wrdN c p) 0) s.ls.length = 0 then 0 else 2 }, xs)
  else if s.a = 2 then ({ s with k := s.k + 1, a := if s.k + 1 = s.n then 3 else 2 }, xs.set (pslA c p s.w s.k).toNat (IntKind.u64.wrap (s.ls.getD s.k.toNat 0)))
  else if xs.getD (wrdN c p) 0 = s.w then ({ s with a := 0, ls := s.ls.drop s.n.toNat }, xs.set (wrdN c p) (growW s.w s.n)) else ({ s with a := 1 }, xs)
def opsL (s : LS) (o : Int) : Int := if s.a = 0 then o else if s.ls.length = 0 then o else IntKind.u64.wrap (o + 1)
structure LOk (c : Cf) (p : Int) (s : LS) : Prop where
  w : W64 s.w
  a : s.a = 0 ∨ (thereP c p ∧ (s.a = 1 ∨ (s.a = 2 ∧ 0 ≤ s.k ∧ s.k < s.n ∧ s.n ≤ s.ls.length) ∨ (s.a = 3 ∧ 0 ≤ s.n ∧ s.n ≤ s.ls.length)))
  l : s.ls.length ≤ 100
theorem room_b {c : Cf} {w : Int} {len : Nat} : 0 ≤ roomN c w len ∧ roomN c w len ≤ len := by
  have : 0 ≤ sz w := by unfold sz; omega
  unfold roomN; split
  · omega
  · split <;> omega
structure LM (m : MM) (xj : Nat) (c : Cf) (p : Int) (s : LS) (lv : AV) : Prop where
  get : m[xj]? = some (.cells 12 false (layC c p s lv))
  l : SI m false s.ls lv
  nx : 0 < s.ls.length → Nx m lv
theorem ldone_eq {X : Type} {m : Mem X} {xj : Nat} {c : Cf} {p : Int} {s : LS} {lv : AV} (hx : m[xj]? = some (.cells 12 false (layC c p s lv))) : c_put_Lay_Done [.ptr xj 0] m = some (.bool (decide (s.a = 0)), m) := by
  simp only [layC, rgC, cfC, List.cons_append, List.nil_append] at hx
  exact Fn_eq (Fn_of rfl (by simp (disch := first | assumption | omega | (simp only [List.length_cons, List.length_nil, List.length_set, List.length_append] <;> omega) | (simp only [get_mid, get_mid0, List.cons_append, List.append_assoc, List.getElem?_cons_zero, List.getElem?_cons_succ])) only [put_Lay_Done, ek, ↓evW, ↓evQ, evB, evS, evL, List.map, AV.cells, List.all, AV.one, Bool.and_true, Bool.true_and, if_true, ↓thenQ_normal, ↓thenQ_exit, ↓thenQ_ret, ↓blockQ_normal, ↓blockQ_ret, ↓blockQ_exit, ↓CW_true, ↓CW_false, CW_true, CW_false, condT, condF, RQ_some, tupA_one, tupA_two, tupA_nil, Nat.reduceSub, Nat.reduceAdd, Nat.reduceMul, Nat.zero_add, Nat.add_zero, Nat.reduceLeDiff, Nat.reduceEqDiff, eqV, eqAll, fillA, and_self, and_true, true_and, Nat.le_refl, Bool.not_true, Bool.not_false, Bool.false_xor, Bool.true_xor, cond_true, cond_false, List.replicate, if_false, reduceIte, resAll, resA, ne_eq, decide_not, decide_true, decide_false, Int.reduceEq, Bool.not_true, Bool.not_false, not_true_eq_false, not_false_eq_true, cond_bool, cond_int, beq_self_eq_true, Int.reduceBEq, Bool.and_self, Bool.and_false, Bool.false_and, Bool.xor_false, Bool.xor_true, loadN_ldC, ldC_none, ldC_somes, stC_aggs, splice, storeN_stC, stC_int, stC_bool, stC_ptr, stC_nilp, stC_sl, stC_nils, getC_gcO, gcO_cells, W_draw_eq, ↓W_scope, ev_clear, evT, evF, evX, evM, ↓exitQ_normal, ↓exitQ_ret, ↓exitQ_exit, saA_self, saO_self, if_pos, if_neg, wrapI, get_concat, set_concat, Int.toNat_natCast, Int.toNat_zero, List.nil_append, Nat.mul_one, decide_eq_true, decide_eq_false, Int.reduceLE, Int.reduceLT, Int.reduceNeg, Bool.false_or, Bool.true_or, Bool.or_false, Bool.or_true, wrapU, Int.reduceAdd, Int.reduceSub, Int.reduceMul, List.append_assoc, List.length_append, get_mid, get_mid0, set_mid, set_mid0, List.length_set, List.length_cons, List.length_nil, List.cons_append, List.getElem?_append_left, List.set_append_left, get_at, get_at0, set_at, set_at0, List.getElem?_set_self, List.getElem?_set_ne, hx]))
def Glk : List (Nat × AFun Ob) := [(219, amFunc Grl put_ring_load)]
def LkP (m : MM) (xj j : Nat) (c : Cf) (p : Int) (x : LS × List Int) (lv : AV) (o : Int) (r : AV) (m' : MM) : Prop := r = .tup [] ∧ KeepX xj j m m' ∧ m'[xj]? = some (.cells 12 false (layC c p x.1 lv)) ∧ ∃ st', m'[j]? = some (.abs (.mem st')) ∧ RelM x.2 o st'
set_option maxHeartbeats 8000000 in
theorem llook_run {m : MM} {c : Cf} {p o : Int} {s : LS} {xj j : Nat} {lv : AV} {xs : List Int} {st : MemSt} (hx : LM m xj c p s lv) (hj : m[j]? = some (.abs (.mem st))) (hr : RelM xs o st) (hO : OkL c xs) (hk : LOk c p s) (ha : s.a = 1) (hl : 0 < s.ls.length) :
    Fn Glk put_Lay_look [.ptr xj 0, .ptr j 0] m (LkP m xj j c p (stepL c p xs s) lv (IntKind.u64.wrap (o + 1))) := by
  have a219 : assoc Glk 219 = some (amFunc Grl put_ring_load) := rfl
  generalize Glk = G at a219 ⊢
  obtain ⟨a, w, k, n, ls⟩ := s
  simp only at ha hl
  subst ha
  obtain ⟨hx, hls, hnx⟩ := hx
  simp only at hls
  have hij : xj ≠ j := fun h => by rw [h, hj] at hx; cases hx
  have hp : thereP c p := hk.a.elim (fun h => by simp at h) (·.1)
  have hb := there_bounds hp
  have hlk := hk.l
  simp only at hlk
  have hlen := hls.len
  have hone := slOne hls
  simp only [AV.one] at hone
  have e0 : IntKind.u32.wrap c.q = c.q := by rw [wrap32]; omega
  have hs1 : stepL c p xs ⟨1, w, k, n, ls⟩ = (⟨if roomN c (xs.getD (wrdN c p) 0) ls.length = 0 then 0 else 2, xs.getD (wrdN c p) 0, 0, roomN c (xs.getD (wrdN c p) 0) ls.length, ls⟩, xs) := by
    simp only [stepL, if_neg (show ¬ ((1 : Int) = 0) by decide), if_neg (show ¬ (ls.length = 0) by omega), if_true]
  rw [hs1]
  have hrun := rload_run hx hj hr hO hp
  refine Fn_of rfl ?_
  simp only [layC, rgC, cfC, List.cons_append, List.nil_append] at hx
  simp (disch := first | assumption | omega | (simp only [List.length_cons, List.length_nil, List.length_set, List.length_append] <;> omega) | (simp only [get_mid, get_mid0, List.cons_append, List.append_assoc, List.getElem?_cons_zero, List.getElem?_cons_succ])) only [put_Lay_look, ek, ↓evW, ↓evQ, evB, evS, evL, List.map, AV.cells, List.all, AV.one, Bool.and_true, Bool.true_and, if_true, ↓thenQ_normal, ↓thenQ_exit, ↓thenQ_ret, ↓blockQ_normal, ↓blockQ_ret, ↓blockQ_exit, ↓CW_true, ↓CW_false, CW_true, CW_false, condT, condF, RQ_some, tupA_one, tupA_two, tupA_nil, Nat.reduceSub, Nat.reduceAdd, Nat.reduceMul, Nat.zero_add, Nat.add_zero, Nat.reduceLeDiff, Nat.reduceEqDiff, eqV, eqAll, fillA, and_self, and_true, true_and, Nat.le_refl, Bool.not_true, Bool.not_false, Bool.false_xor, Bool.true_xor, cond_true, cond_false, List.replicate, if_false, reduceIte, resAll, resA, ne_eq, decide_not, decide_true, decide_false, Int.reduceEq, Bool.not_true, Bool.not_false, not_true_eq_false, not_false_eq_true, cond_bool, cond_int, beq_self_eq_true, Int.reduceBEq, Bool.and_self, Bool.and_false, Bool.false_and, Bool.xor_false, Bool.xor_true, loadN_ldC, ldC_none, ldC_somes, stC_aggs, splice, storeN_stC, stC_int, stC_bool, stC_ptr, stC_nilp, stC_sl, stC_nils, getC_gcO, gcO_cells, W_draw_eq, ↓W_scope, ev_clear, evT, evF, evX, evM, ↓exitQ_normal, ↓exitQ_ret, ↓exitQ_exit, saA_self, saO_self, if_pos, if_neg, wrapI, get_concat, set_concat, Int.toNat_natCast, Int.toNat_zero, List.nil_append, Nat.mul_one, decide_eq_true, decide_eq_false, Int.reduceLE, Int.reduceLT, Int.reduceNeg, Bool.false_or, Bool.true_or, Bool.or_false, Bool.or_true, wrapU, Int.reduceAdd, Int.reduceSub, Int.reduceMul, List.append_assoc, List.length_append, get_mid, get_mid0, set_mid, set_mid0, List.length_set, List.length_cons, List.length_nil, List.cons_append, List.getElem?_append_left, List.set_append_left, get_at, get_at0, set_at, set_at0, List.getElem?_set_self, List.getElem?_set_ne, hx, a219]
  refine OK_fn hrun ?_
  rintro _ m1 ⟨rfl, k1, x1, st', j1, r1⟩
  have lx1 : xj < m1.length := (List.getElem?_eq_some_iff.1 x1).1
  generalize xs.getD (wrdN c p) 0 = w' at x1
  have hz0 : 0 ≤ sz w' ∧ sz w' < 4294967296 := by unfold sz; omega
  have hrb := room_b (c := c) (w := w') (len := ls.length)
  have hput : ∀ C, KeepX xj j m (m1.set xj C) := fun C => k1.setL C
  simp only [rgC, cfC, List.cons_append, List.nil_append] at x1
  have fin : ∀ a n : Int, LkP m xj j c p (⟨a, w', 0, n, ls⟩, xs) lv (IntKind.u64.wrap (o + 1)) (.tup []) (m1.set xj (.cells 12 false (layC c p ⟨a, w', 0, n, ls⟩ lv))) := fun a n =>
    ⟨rfl, hput _, List.getElem?_set_self lx1, st', by rw [List.getElem?_set_ne hij]; exact j1, r1⟩
  have e4 : IntKind.u32.wrap (ls.length : Int) = ls.length := by rw [wrap32]; omega
  have e5 : c.q - sz w' ≤ 64 → 0 < c.q - sz w' → IntKind.u32.wrap (c.q - sz w') = c.q - sz w' := fun h1 h2 => by rw [wrap32]; omega
  simp only [layC, rgC, cfC, List.cons_append, List.nil_append] at fin
  have hw00 : IntKind.u32.wrap 0 = 0 := by decide
  rcases (show c.q < sz w' ∨ c.q = sz w' ∨ (sz w' < c.q ∧ (ls.length : Int) ≤ c.q - sz w') ∨ (sz w' < c.q ∧ c.q - sz w' < (ls.length : Int)) by omega) with h | h | ⟨h, h'⟩ | ⟨h, h'⟩
  · have hroom : roomN c w' ls.length = 0 := if_pos (by omega)
    rw [hroom, if_pos rfl]
    clear hroom hrb
    simp (disch := first | assumption | omega | (simp only [List.length_cons, List.length_nil, List.length_set, List.length_append] <;> omega) | (simp only [get_mid, get_mid0, List.cons_append, List.append_assoc, List.getElem?_cons_zero, List.getElem?_cons_succ])) only [ek, ↓evW, ↓evQ, evB, evS, evL, List.map, AV.cells, List.all, AV.one, Bool.and_true, Bool.true_and, if_true, ↓thenQ_normal, ↓thenQ_exit, ↓thenQ_ret, ↓blockQ_normal, ↓blockQ_ret, ↓blockQ_exit, ↓CW_true, ↓CW_false, CW_true, CW_false, condT, condF, RQ_some, tupA_one, tupA_two, tupA_nil, Nat.reduceSub, Nat.reduceAdd, Nat.reduceMul, Nat.zero_add, Nat.add_zero, Nat.reduceLeDiff, Nat.reduceEqDiff, eqV, eqAll, fillA, and_self, and_true, true_and, Nat.le_refl, Bool.not_true, Bool.not_false, Bool.false_xor, Bool.true_xor, cond_true, cond_false, List.replicate, if_false, reduceIte, resAll, resA, ne_eq, decide_not, decide_true, decide_false, Int.reduceEq, Bool.not_true, Bool.not_false, not_true_eq_false, not_false_eq_true, cond_bool, cond_int, beq_self_eq_true, Int.reduceBEq, Bool.and_self, Bool.and_false, Bool.false_and, Bool.xor_false, Bool.xor_true, loadN_ldC, ldC_none, ldC_somes, stC_aggs, splice, storeN_stC, stC_int, stC_bool, stC_ptr, stC_nilp, stC_sl, stC_nils, getC_gcO, gcO_cells, W_draw_eq, ↓W_scope, ev_clear, evT, evF, evX, evM, ↓exitQ_normal, ↓exitQ_ret, ↓exitQ_exit, saA_self, saO_self, if_pos, if_neg, wrapI, get_concat, set_concat, Int.toNat_natCast, Int.toNat_zero, List.nil_append, Nat.mul_one, decide_eq_true, decide_eq_false, Int.reduceLE, Int.reduceLT, Int.reduceNeg, Bool.false_or, Bool.true_or, Bool.or_false, Bool.or_true, wrapU, Int.reduceAdd, Int.reduceSub, Int.reduceMul, List.append_assoc, List.length_append, get_mid, get_mid0, set_mid, set_mid0, List.length_set, List.length_cons, List.length_nil, List.cons_append, List.getElem?_append_left, List.set_append_left, get_at, get_at0, set_at, set_at0, List.getElem?_set_self, List.getElem?_set_ne, x1, ev_len, hlen, e0, h, Int.sub_self, hw00, List.set_set]
    exact fin _ _
  · have hroom : roomN c w' ls.length = 0 := if_pos (by omega)
    rw [hroom, if_pos rfl]
    clear hroom hrb
    have hh : sz w' = c.q := h.symm
    simp (disch := first | assumption | omega | (simp only [List.length_cons, List.length_nil, List.length_set, List.length_append] <;> omega) | (simp only [get_mid, get_mid0, List.cons_append, List.append_assoc, List.getElem?_cons_zero, List.getElem?_cons_succ])) only [ek, ↓evW, ↓evQ, evB, evS, evL, List.map, AV.cells, List.all, AV.one, Bool.and_true, Bool.true_and, if_true, ↓thenQ_normal, ↓thenQ_exit, ↓thenQ_ret, ↓blockQ_normal, ↓blockQ_ret, ↓blockQ_exit, ↓CW_true, ↓CW_false, CW_true, CW_false, condT, condF, RQ_some, tupA_one, tupA_two, tupA_nil, Nat.reduceSub, Nat.reduceAdd, Nat.reduceMul, Nat.zero_add, Nat.add_zero, Nat.reduceLeDiff, Nat.reduceEqDiff, eqV, eqAll, fillA, and_self, and_true, true_and, Nat.le_refl, Bool.not_true, Bool.not_false, Bool.false_xor, Bool.true_xor, cond_true, cond_false, List.replicate, if_false, reduceIte, resAll, resA, ne_eq, decide_not, decide_true, decide_false, Int.reduceEq, Bool.not_true, Bool.not_false, not_true_eq_false, not_false_eq_true, cond_bool, cond_int, beq_self_eq_true, Int.reduceBEq, Bool.and_self, Bool.and_false, Bool.false_and, Bool.xor_false, Bool.xor_true, loadN_ldC, ldC_none, ldC_somes, stC_aggs, splice, storeN_stC, stC_int, stC_bool, stC_ptr, stC_nilp, stC_sl, stC_nils, getC_gcO, gcO_cells, W_draw_eq, ↓W_scope, ev_clear, evT, evF, evX, evM, ↓exitQ_normal, ↓exitQ_ret, ↓exitQ_exit, saA_self, saO_self, if_pos, if_neg, wrapI, get_concat, set_concat, Int.toNat_natCast, Int.toNat_zero, List.nil_append, Nat.mul_one, decide_eq_true, decide_eq_false, Int.reduceLE, Int.reduceLT, Int.reduceNeg, Bool.false_or, Bool.true_or, Bool.or_false, Bool.or_true, wrapU, Int.reduceAdd, Int.reduceSub, Int.reduceMul, List.append_assoc, List.length_append, get_mid, get_mid0, set_mid, set_mid0, List.length_set, List.length_cons, List.length_nil, List.cons_append, List.getElem?_append_left, List.set_append_left, get_at, get_at0, set_at, set_at0, List.getElem?_set_self, List.getElem?_set_ne, x1, ev_len, hlen, e0, hh, Int.sub_self, hw00, List.set_set]
    exact fin _ _
  · have hroom : roomN c w' ls.length = ls.length := by unfold roomN; rw [if_neg (by omega)]; split <;> omega
    rw [hroom, if_neg (by omega)]
    clear hroom hrb
    simp (disch := first | assumption | omega | (simp only [List.length_cons, List.length_nil, List.length_set, List.length_append] <;> omega) | (simp only [get_mid, get_mid0, List.cons_append, List.append_assoc, List.getElem?_cons_zero, List.getElem?_cons_succ])) only [ek, ↓evW, ↓evQ, evB, evS, evL, List.map, AV.cells, List.all, AV.one, Bool.and_true, Bool.true_and, if_true, ↓thenQ_normal, ↓thenQ_exit, ↓thenQ_ret, ↓blockQ_normal, ↓blockQ_ret, ↓blockQ_exit, ↓CW_true, ↓CW_false, CW_true, CW_false, condT, condF, RQ_some, tupA_one, tupA_two, tupA_nil, Nat.reduceSub, Nat.reduceAdd, Nat.reduceMul, Nat.zero_add, Nat.add_zero, Nat.reduceLeDiff, Nat.reduceEqDiff, eqV, eqAll, fillA, and_self, and_true, true_and, Nat.le_refl, Bool.not_true, Bool.not_false, Bool.false_xor, Bool.true_xor, cond_true, cond_false, List.replicate, if_false, reduceIte, resAll, resA, ne_eq, decide_not, decide_true, decide_false, Int.reduceEq, Bool.not_true, Bool.not_false, not_true_eq_false, not_false_eq_true, cond_bool, cond_int, beq_self_eq_true, Int.reduceBEq, Bool.and_self, Bool.and_false, Bool.false_and, Bool.xor_false, Bool.xor_true, loadN_ldC, ldC_none, ldC_somes, stC_aggs, splice, storeN_stC, stC_int, stC_bool, stC_ptr, stC_nilp, stC_sl, stC_nils, getC_gcO, gcO_cells, W_draw_eq, ↓W_scope, ev_clear, evT, evF, evX, evM, ↓exitQ_normal, ↓exitQ_ret, ↓exitQ_exit, saA_self, saO_self, if_pos, if_neg, wrapI, get_concat, set_concat, Int.toNat_natCast, Int.toNat_zero, List.nil_append, Nat.mul_one, decide_eq_true, decide_eq_false, Int.reduceLE, Int.reduceLT, Int.reduceNeg, Bool.false_or, Bool.true_or, Bool.or_false, Bool.or_true, wrapU, Int.reduceAdd, Int.reduceSub, Int.reduceMul, List.append_assoc, List.length_append, get_mid, get_mid0, set_mid, set_mid0, List.length_set, List.length_cons, List.length_nil, List.cons_append, List.getElem?_append_left, List.set_append_left, get_at, get_at0, set_at, set_at0, List.getElem?_set_self, List.getElem?_set_ne, x1, ev_len, hlen, e0, e4, h, h', List.set_set]
    exact fin _ _
  · have hroom : roomN c w' ls.length = c.q - sz w' := by unfold roomN; rw [if_neg (by omega), if_neg (by omega)]
    rw [hroom, if_neg (by omega)]
    clear hroom hrb
    simp (disch := first | assumption | omega | (simp only [List.length_cons, List.length_nil, List.length_set, List.length_append] <;> omega) | (simp only [get_mid, get_mid0, List.cons_append, List.append_assoc, List.getElem?_cons_zero, List.getElem?_cons_succ])) only [ek, ↓evW, ↓evQ, evB, evS, evL, List.map, AV.cells, List.all, AV.one, Bool.and_true, Bool.true_and, if_true, ↓thenQ_normal, ↓thenQ_exit, ↓thenQ_ret, ↓blockQ_normal, ↓blockQ_ret, ↓blockQ_exit, ↓CW_true, ↓CW_false, CW_true, CW_false, condT, condF, RQ_some, tupA_one, tupA_two, tupA_nil, Nat.reduceSub, Nat.reduceAdd, Nat.reduceMul, Nat.zero_add, Nat.add_zero, Nat.reduceLeDiff, Nat.reduceEqDiff, eqV, eqAll, fillA, and_self, and_true, true_and, Nat.le_refl, Bool.not_true, Bool.not_false, Bool.false_xor, Bool.true_xor, cond_true, cond_false, List.replicate, if_false, reduceIte, resAll, resA, ne_eq, decide_not, decide_true, decide_false, Int.reduceEq, Bool.not_true, Bool.not_false, not_true_eq_false, not_false_eq_true, cond_bool, cond_int, beq_self_eq_true, Int.reduceBEq, Bool.and_self, Bool.and_false, Bool.false_and, Bool.xor_false, Bool.xor_true, loadN_ldC, ldC_none, ldC_somes, stC_aggs, splice, storeN_stC, stC_int, stC_bool, stC_ptr, stC_nilp, stC_sl, stC_nils, getC_gcO, gcO_cells, W_draw_eq, ↓W_scope, ev_clear, evT, evF, evX, evM, ↓exitQ_normal, ↓exitQ_ret, ↓exitQ_exit, saA_self, saO_self, if_pos, if_neg, wrapI, get_concat, set_concat, Int.toNat_natCast, Int.toNat_zero, List.nil_append, Nat.mul_one, decide_eq_true, decide_eq_false, Int.reduceLE, Int.reduceLT, Int.reduceNeg, Bool.false_or, Bool.true_or, Bool.or_false, Bool.or_true, wrapU, Int.reduceAdd, Int.reduceSub, Int.reduceMul, List.append_assoc, List.length_append, get_mid, get_mid0, set_mid, set_mid0, List.length_set, List.length_cons, List.length_nil, List.cons_append, List.getElem?_append_left, List.set_append_left, get_at, get_at0, set_at, set_at0, List.getElem?_set_self, List.getElem?_set_ne, x1, ev_len, hlen, e0, e5, h, h', List.set_set]
    exact fin _ _
end Go.Am.F09
end
section
namespace Go.Am.F09
open Go.Am.F06 Go.Am.F10
def Glst : List (Nat × AFun Ob) := [(196, c_put_Lay_Done), (209, amFunc Glk put_Lay_look), (210, c_put_ring_slot), (22, memF storeS), (211, c_word_Grow), (212, amFunc Gch put_ring_change)]
def LsP (m : MM) (c : Cf) (p : Int) (xj j : Nat) (x : LS × List Int) (o : Int) (r : AV) (m' : MM) : Prop := r = .bool (decide (x.1.a = 0)) ∧ KeepX xj j m m' ∧ (∃ lv', LM m' xj c p x.1 lv') ∧ ∃ st', m'[j]? = some (.abs (.mem st')) ∧ RelM x.2 o st'
theorem LM.mv {m m' : MM} {xj j : Nat} {c : Cf} {p : Int} {s : LS} {lv : AV} (hl : SI m false s.ls lv) (hn : 0 < s.ls.length → Nx m lv) (hnx : ∀ ro L, m[xj]? ≠ some (.cells 1 ro L)) (hnj : ∀ ro L, m[j]? ≠ some (.cells 1 ro L)) (k : KeepX xj j m m') : SI m' false s.ls lv ∧ (0 < s.ls.length → Nx m' lv) := by
  refine ⟨k.sl (szj := 0) (szk := 0) hnx hnj hl, fun h0 => ?_⟩
  rcases hn h0 with h | ⟨q, o, n, l, h1, h2⟩
  · exact .inl h
  · exact .inr ⟨q, o, n, l, h1, k.get h2 (fun h => hnx false l (by rw [← h]; exact h2)) (fun h => hnj false l (by rw [← h]; exact h2))⟩
set_option maxHeartbeats 16000000 in
theorem lstep_run {m : MM} {c : Cf} {p o : Int} {s : LS} {xj j : Nat} {lv : AV} {xs : List Int} {st : MemSt} (hx : LM m xj c p s lv) (hj : m[j]? = some (.abs (.mem st))) (hr : RelM xs o st) (hO : s.a = 0 ∨ OkL c xs) (hk : LOk c p s) :
    Fn Glst put_Lay_Step [.ptr xj 0, .ptr j 0] m (LsP m c p xj j (stepL c p xs s) (opsL s o)) := by
  have a196 : assoc Glst 196 = some c_put_Lay_Done := rfl
  have a209 : assoc Glst 209 = some (amFunc Glk put_Lay_look) := rfl
  have a210 : assoc Glst 210 = some c_put_ring_slot := rfl
  have a22 : assoc Glst 22 = some (memF storeS) := rfl
  have a211 : assoc Glst 211 = some c_word_Grow := rfl
  have a212 : assoc Glst 212 = some (amFunc Gch put_ring_change) := rfl
  generalize Glst = G at a196 a209 a210 a22 a211 a212 ⊢
  have hd := ldone_eq hx.get
  have hx0 := hx
  obtain ⟨hg, hls, hnx⟩ := hx
  have hij : xj ≠ j := fun h => by rw [h, hj] at hg; cases hg
  have lx : xj < m.length := (List.getElem?_eq_some_iff.1 hg).1
  have lj : j < m.length := (List.getElem?_eq_some_iff.1 hj).1
  have nx : ∀ ro L, m[xj]? ≠ some (.cells 1 ro L) := fun ro L h => by rw [hg] at h; cases h
  have nj : ∀ ro L, m[j]? ≠ some (.cells 1 ro L) := fun ro L h => by rw [hj] at h; cases h
  have hlen := hls.len
  refine Fn_of rfl ?_
  by_cases h0 : s.a = 0
  · have e1 : stepL c p xs s = (s, xs) := if_pos h0
    have e2 : opsL s o = o := if_pos h0
    rw [decide_eq_true h0] at hd
    rw [e1, e2]
    simp (disch := first | assumption | omega | (simp only [List.length_cons, List.length_nil, List.length_set, List.length_append] <;> omega) | (simp only [get_mid, get_mid0, List.cons_append, List.append_assoc, List.getElem?_cons_zero, List.getElem?_cons_succ])) only [put_Lay_Step, ek, ↓evW, ↓evQ, evB, evS, evL, List.map, AV.cells, List.all, AV.one, Bool.and_true, Bool.true_and, if_true, ↓thenQ_normal, ↓thenQ_exit, ↓thenQ_ret, ↓blockQ_normal, ↓blockQ_ret, ↓blockQ_exit, ↓CW_true, ↓CW_false, CW_true, CW_false, condT, condF, RQ_some, tupA_one, tupA_two, tupA_nil, Nat.reduceSub, Nat.reduceAdd, Nat.reduceMul, Nat.zero_add, Nat.add_zero, Nat.reduceLeDiff, Nat.reduceEqDiff, eqV, eqAll, fillA, and_self, and_true, true_and, Nat.le_refl, Bool.not_true, Bool.not_false, Bool.false_xor, Bool.true_xor, cond_true, cond_false, List.replicate, if_false, reduceIte, resAll, resA, ne_eq, decide_not, decide_true, decide_false, Int.reduceEq, Bool.not_true, Bool.not_false, not_true_eq_false, not_false_eq_true, cond_bool, cond_int, beq_self_eq_true, Int.reduceBEq, Bool.and_self, Bool.and_false, Bool.false_and, Bool.xor_false, Bool.xor_true, loadN_ldC, ldC_none, ldC_somes, stC_aggs, splice, storeN_stC, stC_int, stC_bool, stC_ptr, stC_nilp, stC_sl, stC_nils, getC_gcO, gcO_cells, W_draw_eq, ↓W_scope, ev_clear, evT, evF, evX, evM, ↓exitQ_normal, ↓exitQ_ret, ↓exitQ_exit, saA_self, saO_self, if_pos, if_neg, wrapI, get_concat, set_concat, Int.toNat_natCast, Int.toNat_zero, List.nil_append, Nat.mul_one, decide_eq_true, decide_eq_false, Int.reduceLE, Int.reduceLT, Int.reduceNeg, Bool.false_or, Bool.true_or, Bool.or_false, Bool.or_true, wrapU, Int.reduceAdd, Int.reduceSub, Int.reduceMul, List.append_assoc, List.length_append, get_mid, get_mid0, set_mid, set_mid0, List.length_set, List.length_cons, List.length_nil, List.cons_append, List.getElem?_append_left, List.set_append_left, get_at, get_at0, set_at, set_at0, List.getElem?_set_self, List.getElem?_set_ne, a196, hd]
    exact ⟨by rw [decide_eq_true h0], .refl _, ⟨lv, hg, hls, hnx⟩, st, hj, hr⟩
  rw [decide_eq_false h0] at hd
  have hO' := hO.resolve_left h0
  obtain ⟨a, w, k, n, ls⟩ := s
  simp only at h0 hls hnx hlen
  have hw := hk.w
  have hll := hk.l
  have hka := hk.a
  simp only at hw hll hka
  have hp : thereP c p := hka.elim (fun h => absurd h h0) (·.1)
  have hb := there_bounds hp
  by_cases hz : ls.length = 0
  · have e1 : stepL c p xs ⟨a, w, k, n, ls⟩ = (⟨0, w, k, n, ls⟩, xs) := by simp only [stepL, if_neg h0, if_pos hz]
    have e2 : opsL ⟨a, w, k, n, ls⟩ o = o := by simp only [opsL, if_neg h0, if_pos hz]
    rw [e1, e2]
    simp only [layC, rgC, cfC, List.cons_append, List.nil_append] at hg
    rw [hz] at hlen
    simp (disch := first | assumption | omega | (simp only [List.length_cons, List.length_nil, List.length_set, List.length_append] <;> omega) | (simp only [get_mid, get_mid0, List.cons_append, List.append_assoc, List.getElem?_cons_zero, List.getElem?_cons_succ])) only [put_Lay_Step, ek, ↓evW, ↓evQ, evB, evS, evL, List.map, AV.cells, List.all, AV.one, Bool.and_true, Bool.true_and, if_true, ↓thenQ_normal, ↓thenQ_exit, ↓thenQ_ret, ↓blockQ_normal, ↓blockQ_ret, ↓blockQ_exit, ↓CW_true, ↓CW_false, CW_true, CW_false, condT, condF, RQ_some, tupA_one, tupA_two, tupA_nil, Nat.reduceSub, Nat.reduceAdd, Nat.reduceMul, Nat.zero_add, Nat.add_zero, Nat.reduceLeDiff, Nat.reduceEqDiff, eqV, eqAll, fillA, and_self, and_true, true_and, Nat.le_refl, Bool.not_true, Bool.not_false, Bool.false_xor, Bool.true_xor, cond_true, cond_false, List.replicate, if_false, reduceIte, resAll, resA, ne_eq, decide_not, decide_true, decide_false, Int.reduceEq, Bool.not_true, Bool.not_false, not_true_eq_false, not_false_eq_true, cond_bool, cond_int, beq_self_eq_true, Int.reduceBEq, Bool.and_self, Bool.and_false, Bool.false_and, Bool.xor_false, Bool.xor_true, loadN_ldC, ldC_none, ldC_somes, stC_aggs, splice, storeN_stC, stC_int, stC_bool, stC_ptr, stC_nilp, stC_sl, stC_nils, getC_gcO, gcO_cells, W_draw_eq, ↓W_scope, ev_clear, evT, evF, evX, evM, ↓exitQ_normal, ↓exitQ_ret, ↓exitQ_exit, saA_self, saO_self, if_pos, if_neg, wrapI, get_concat, set_concat, Int.toNat_natCast, Int.toNat_zero, List.nil_append, Nat.mul_one, decide_eq_true, decide_eq_false, Int.reduceLE, Int.reduceLT, Int.reduceNeg, Bool.false_or, Bool.true_or, Bool.or_false, Bool.or_true, wrapU, Int.reduceAdd, Int.reduceSub, Int.reduceMul, List.append_assoc, List.length_append, get_mid, get_mid0, set_mid, set_mid0, List.length_set, List.length_cons, List.length_nil, List.cons_append, List.getElem?_append_left, List.set_append_left, get_at, get_at0, set_at, set_at0, List.getElem?_set_self, List.getElem?_set_ne, a196, hd, hg, ev_len, hlen, Int.ofNat_zero]
    have hk1 : KeepX xj j m (m.set xj (.cells 12 false (layC c p ⟨0, w, k, n, ls⟩ lv))) := (KeepX.refl m).setL _
    obtain ⟨e3, e4⟩ := LM.mv (s := ⟨0, w, k, n, ls⟩) (c := c) (p := p) hls hnx nx nj hk1
    exact ⟨rfl, hk1, ⟨lv, List.getElem?_set_self lx, e3, e4⟩, st, by rw [List.getElem?_set_ne hij]; exact hj, hr⟩
  have e2 : opsL ⟨a, w, k, n, ls⟩ o = IntKind.u64.wrap (o + 1) := by simp only [opsL, if_neg h0, if_neg hz]
  rw [e2]
  have hlz : ¬ ((ls.length : Int) = 0) := by omega
  rcases (show a = 1 ∨ (a = 2 ∧ 0 ≤ k ∧ k < n ∧ n ≤ ls.length) ∨ (a = 3 ∧ 0 ≤ n ∧ n ≤ ls.length) by rcases hka with h | ⟨_, h⟩; exact absurd h h0; exact h) with rfl | ⟨rfl, hk0, hkn, hnl⟩ | ⟨rfl, hn0, hnl⟩
  · have hrun := llook_run hx0 hj hr hO' hk rfl (by simp only; omega)
    simp only [layC, rgC, cfC, List.cons_append, List.nil_append] at hg
    simp (disch := first | assumption | omega | (simp only [List.length_cons, List.length_nil, List.length_set, List.length_append] <;> omega) | (simp only [get_mid, get_mid0, List.cons_append, List.append_assoc, List.getElem?_cons_zero, List.getElem?_cons_succ])) only [put_Lay_Step, ek, ↓evW, ↓evQ, evB, evS, evL, List.map, AV.cells, List.all, AV.one, Bool.and_true, Bool.true_and, if_true, ↓thenQ_normal, ↓thenQ_exit, ↓thenQ_ret, ↓blockQ_normal, ↓blockQ_ret, ↓blockQ_exit, ↓CW_true, ↓CW_false, CW_true, CW_false, condT, condF, RQ_some, tupA_one, tupA_two, tupA_nil, Nat.reduceSub, Nat.reduceAdd, Nat.reduceMul, Nat.zero_add, Nat.add_zero, Nat.reduceLeDiff, Nat.reduceEqDiff, eqV, eqAll, fillA, and_self, and_true, true_and, Nat.le_refl, Bool.not_true, Bool.not_false, Bool.false_xor, Bool.true_xor, cond_true, cond_false, List.replicate, if_false, reduceIte, resAll, resA, ne_eq, decide_not, decide_true, decide_false, Int.reduceEq, Bool.not_true, Bool.not_false, not_true_eq_false, not_false_eq_true, cond_bool, cond_int, beq_self_eq_true, Int.reduceBEq, Bool.and_self, Bool.and_false, Bool.false_and, Bool.xor_false, Bool.xor_true, loadN_ldC, ldC_none, ldC_somes, stC_aggs, splice, storeN_stC, stC_int, stC_bool, stC_ptr, stC_nilp, stC_sl, stC_nils, getC_gcO, gcO_cells, W_draw_eq, ↓W_scope, ev_clear, evT, evF, evX, evM, ↓exitQ_normal, ↓exitQ_ret, ↓exitQ_exit, saA_self, saO_self, if_pos, if_neg, wrapI, get_concat, set_concat, Int.toNat_natCast, Int.toNat_zero, List.nil_append, Nat.mul_one, decide_eq_true, decide_eq_false, Int.reduceLE, Int.reduceLT, Int.reduceNeg, Bool.false_or, Bool.true_or, Bool.or_false, Bool.or_true, wrapU, Int.reduceAdd, Int.reduceSub, Int.reduceMul, List.append_assoc, List.length_append, get_mid, get_mid0, set_mid, set_mid0, List.length_set, List.length_cons, List.length_nil, List.cons_append, List.getElem?_append_left, List.set_append_left, get_at, get_at0, set_at, set_at0, List.getElem?_set_self, List.getElem?_set_ne, a196, hd, hg, ev_len, hlen, hlz, a209]
    refine OK_fn hrun ?_
    rintro _ m1 ⟨rfl, k1, x1, st', j1, r1⟩
    have hsl : (stepL c p xs ⟨1, w, k, n, ls⟩).1.ls = ls := by simp only [stepL, if_neg (show ¬ ((1 : Int) = 0) by decide), if_neg hz, if_true]
    obtain ⟨e3, e4⟩ := LM.mv (s := ⟨1, w, k, n, ls⟩) (c := c) (p := p) hls hnx nx nj k1
    have hlm : LM m1 xj c p (stepL c p xs ⟨1, w, k, n, ls⟩).1 lv := ⟨x1, by rw [hsl]; exact e3, by rw [hsl]; exact e4⟩
    generalize stepL c p xs ⟨1, w, k, n, ls⟩ = sx at x1 r1 hlm ⊢
    simp only [layC, rgC, cfC, List.cons_append, List.nil_append] at x1
    simp (disch := first | assumption | omega | (simp only [List.length_cons, List.length_nil, List.length_set, List.length_append] <;> omega) | (simp only [get_mid, get_mid0, List.cons_append, List.append_assoc, List.getElem?_cons_zero, List.getElem?_cons_succ])) only [ek, ↓evW, ↓evQ, evB, evS, evL, List.map, AV.cells, List.all, AV.one, Bool.and_true, Bool.true_and, if_true, ↓thenQ_normal, ↓thenQ_exit, ↓thenQ_ret, ↓blockQ_normal, ↓blockQ_ret, ↓blockQ_exit, ↓CW_true, ↓CW_false, CW_true, CW_false, condT, condF, RQ_some, tupA_one, tupA_two, tupA_nil, Nat.reduceSub, Nat.reduceAdd, Nat.reduceMul, Nat.zero_add, Nat.add_zero, Nat.reduceLeDiff, Nat.reduceEqDiff, eqV, eqAll, fillA, and_self, and_true, true_and, Nat.le_refl, Bool.not_true, Bool.not_false, Bool.false_xor, Bool.true_xor, cond_true, cond_false, List.replicate, if_false, reduceIte, resAll, resA, ne_eq, decide_not, decide_true, decide_false, Int.reduceEq, Bool.not_true, Bool.not_false, not_true_eq_false, not_false_eq_true, cond_bool, cond_int, beq_self_eq_true, Int.reduceBEq, Bool.and_self, Bool.and_false, Bool.false_and, Bool.xor_false, Bool.xor_true, loadN_ldC, ldC_none, ldC_somes, stC_aggs, splice, storeN_stC, stC_int, stC_bool, stC_ptr, stC_nilp, stC_sl, stC_nils, getC_gcO, gcO_cells, W_draw_eq, ↓W_scope, ev_clear, evT, evF, evX, evM, ↓exitQ_normal, ↓exitQ_ret, ↓exitQ_exit, saA_self, saO_self, if_pos, if_neg, wrapI, get_concat, set_concat, Int.toNat_natCast, Int.toNat_zero, List.nil_append, Nat.mul_one, decide_eq_true, decide_eq_false, Int.reduceLE, Int.reduceLT, Int.reduceNeg, Bool.false_or, Bool.true_or, Bool.or_false, Bool.or_true, wrapU, Int.reduceAdd, Int.reduceSub, Int.reduceMul, List.append_assoc, List.length_append, get_mid, get_mid0, set_mid, set_mid0, List.length_set, List.length_cons, List.length_nil, List.cons_append, List.getElem?_append_left, List.set_append_left, get_at, get_at0, set_at, set_at0, List.getElem?_set_self, List.getElem?_set_ne, x1]
    exact ⟨rfl, k1, ⟨lv, hlm⟩, st', j1, r1⟩
  · obtain ⟨kN, rfl⟩ : ∃ kN : Nat, k = kN := ⟨k.toNat, by omega⟩
    obtain ⟨x, hxk⟩ : ∃ x, ls[kN]? = some x := ⟨_, List.getElem?_eq_getElem (by omega)⟩
    obtain ⟨q, oo, cap, ro, L, rfl, b2, b3, b4, b5⟩ := hls.val (by omega)
    have b6 := b5 kN x hxk
    have hcn := cellsN_le c
    have hxl := hO'.1
    have hsb := psl_b (c := c) (p := p) (w := w) (i := kN) hp
    have hthr : thr xs (pslA c p w kN) := ⟨by omega, by omega⟩
    obtain ⟨st', r', _, f22, _⟩ := hr.storeE hthr (IntKind.u64.wrap x)
    have f22' := fun K => f22 m K j hj
    have hsl := slot_eq (i := kN) hg hp.1
    have hg' := fun K : MM => (Keep.app m K).get hg
    have b2' := fun K : MM => (Keep.app m K).get b2
    have e1 : stepL c p xs ⟨2, w, kN, n, ls⟩ = (⟨if (kN : Int) + 1 = n then 3 else 2, w, kN + 1, n, ls⟩, xs.set (pslA c p w kN).toNat (IntKind.u64.wrap x)) := by
      have : ls.getD kN 0 = x := by rw [List.getD_eq_getElem?_getD, hxk]; rfl
      simp only [stepL, if_neg (show ¬ ((2 : Int) = 0) by decide), if_neg (show ¬ ((2 : Int) = 1) by decide), if_neg hz, if_true, Int.toNat_natCast, this]
    rw [e1]
    have e3 : IntKind.u32.wrap ((kN : Int) + 1) = kN + 1 := by rw [wrap32]; omega
    simp only [layC, rgC, cfC, List.cons_append, List.nil_append] at hg hsl hg'
    have fin : ∀ a (K : MM), LsP m c p xj j (⟨a, w, kN + 1, n, ls⟩, xs.set (pslA c p w kN).toNat (IntKind.u64.wrap x)) (IntKind.u64.wrap (o + 1)) (.bool (decide (a = 0))) ((m.set j (.abs (.mem st'))).set xj (.cells 12 false (layC c p ⟨a, w, kN + 1, n, ls⟩ (.sl q oo ls.length cap))) ++ K) := fun a K => by
      have hk1 : KeepX xj j m ((m.set j (.abs (.mem st'))).set xj (.cells 12 false (layC c p ⟨a, w, kN + 1, n, ls⟩ (.sl q oo ls.length cap))) ++ K) := (((KeepX.refl m).setR _).setL _).app K
      obtain ⟨e3, e4⟩ := LM.mv (s := ⟨a, w, kN + 1, n, ls⟩) (c := c) (p := p) hls hnx nx nj hk1
      exact ⟨rfl, hk1, ⟨_, by rw [List.getElem?_append_left (by simpa using lx), List.getElem?_set_self (by simpa using lx)], e3, e4⟩, st', by rw [List.getElem?_append_left (by simpa using lj), List.getElem?_set_ne hij, List.getElem?_set_self lj], r'⟩
    simp only [layC, rgC, cfC, List.cons_append, List.nil_append] at fin
    by_cases hq : (kN : Int) + 1 = n
    · rw [if_pos hq]
      have hkn' : decide ((kN : Int) + 1 = n) = true := decide_eq_true hq
      simp (disch := first | assumption | omega | (simp only [List.length_cons, List.length_nil, List.length_set, List.length_append] <;> omega) | (simp only [get_mid, get_mid0, List.cons_append, List.append_assoc, List.getElem?_cons_zero, List.getElem?_cons_succ])) only [put_Lay_Step, ek, ↓evW, ↓evQ, evB, evS, evL, List.map, AV.cells, List.all, AV.one, Bool.and_true, Bool.true_and, if_true, ↓thenQ_normal, ↓thenQ_exit, ↓thenQ_ret, ↓blockQ_normal, ↓blockQ_ret, ↓blockQ_exit, ↓CW_true, ↓CW_false, CW_true, CW_false, condT, condF, RQ_some, tupA_one, tupA_two, tupA_nil, Nat.reduceSub, Nat.reduceAdd, Nat.reduceMul, Nat.zero_add, Nat.add_zero, Nat.reduceLeDiff, Nat.reduceEqDiff, eqV, eqAll, fillA, and_self, and_true, true_and, Nat.le_refl, Bool.not_true, Bool.not_false, Bool.false_xor, Bool.true_xor, cond_true, cond_false, List.replicate, if_false, reduceIte, resAll, resA, ne_eq, decide_not, decide_true, decide_false, Int.reduceEq, Bool.not_true, Bool.not_false, not_true_eq_false, not_false_eq_true, cond_bool, cond_int, beq_self_eq_true, Int.reduceBEq, Bool.and_self, Bool.and_false, Bool.false_and, Bool.xor_false, Bool.xor_true, loadN_ldC, ldC_none, ldC_somes, stC_aggs, splice, storeN_stC, stC_int, stC_bool, stC_ptr, stC_nilp, stC_sl, stC_nils, getC_gcO, gcO_cells, W_draw_eq, ↓W_scope, ev_clear, evT, evF, evX, evM, ↓exitQ_normal, ↓exitQ_ret, ↓exitQ_exit, saA_self, saO_self, if_pos, if_neg, wrapI, get_concat, set_concat, Int.toNat_natCast, Int.toNat_zero, List.nil_append, Nat.mul_one, decide_eq_true, decide_eq_false, Int.reduceLE, Int.reduceLT, Int.reduceNeg, Bool.false_or, Bool.true_or, Bool.or_false, Bool.or_true, wrapU, Int.reduceAdd, Int.reduceSub, Int.reduceMul, List.append_assoc, List.length_append, get_mid, get_mid0, set_mid, set_mid0, List.length_set, List.length_cons, List.length_nil, List.cons_append, List.getElem?_append_left, List.set_append_left, get_at, get_at0, set_at, set_at0, List.getElem?_set_self, List.getElem?_set_ne, a196, hd, hg, hg', ev_len, hlen, hlz, a210, hsl, b2, b2', b6, a22, f22', e3, hkn', List.set_set]
      exact fin 3 _
    · rw [if_neg hq]
      have hkn' : decide ((kN : Int) + 1 = n) = false := decide_eq_false hq
      simp (disch := first | assumption | omega | (simp only [List.length_cons, List.length_nil, List.length_set, List.length_append] <;> omega) | (simp only [get_mid, get_mid0, List.cons_append, List.append_assoc, List.getElem?_cons_zero, List.getElem?_cons_succ])) only [put_Lay_Step, ek, ↓evW, ↓evQ, evB, evS, evL, List.map, AV.cells, List.all, AV.one, Bool.and_true, Bool.true_and, if_true, ↓thenQ_normal, ↓thenQ_exit, ↓thenQ_ret, ↓blockQ_normal, ↓blockQ_ret, ↓blockQ_exit, ↓CW_true, ↓CW_false, CW_true, CW_false, condT, condF, RQ_some, tupA_one, tupA_two, tupA_nil, Nat.reduceSub, Nat.reduceAdd, Nat.reduceMul, Nat.zero_add, Nat.add_zero, Nat.reduceLeDiff, Nat.reduceEqDiff, eqV, eqAll, fillA, and_self, and_true, true_and, Nat.le_refl, Bool.not_true, Bool.not_false, Bool.false_xor, Bool.true_xor, cond_true, cond_false, List.replicate, if_false, reduceIte, resAll, resA, ne_eq, decide_not, decide_true, decide_false, Int.reduceEq, Bool.not_true, Bool.not_false, not_true_eq_false, not_false_eq_true, cond_bool, cond_int, beq_self_eq_true, Int.reduceBEq, Bool.and_self, Bool.and_false, Bool.false_and, Bool.xor_false, Bool.xor_true, loadN_ldC, ldC_none, ldC_somes, stC_aggs, splice, storeN_stC, stC_int, stC_bool, stC_ptr, stC_nilp, stC_sl, stC_nils, getC_gcO, gcO_cells, W_draw_eq, ↓W_scope, ev_clear, evT, evF, evX, evM, ↓exitQ_normal, ↓exitQ_ret, ↓exitQ_exit, saA_self, saO_self, if_pos, if_neg, wrapI, get_concat, set_concat, Int.toNat_natCast, Int.toNat_zero, List.nil_append, Nat.mul_one, decide_eq_true, decide_eq_false, Int.reduceLE, Int.reduceLT, Int.reduceNeg, Bool.false_or, Bool.true_or, Bool.or_false, Bool.or_true, wrapU, Int.reduceAdd, Int.reduceSub, Int.reduceMul, List.append_assoc, List.length_append, get_mid, get_mid0, set_mid, set_mid0, List.length_set, List.length_cons, List.length_nil, List.cons_append, List.getElem?_append_left, List.set_append_left, get_at, get_at0, set_at, set_at0, List.getElem?_set_self, List.getElem?_set_ne, a196, hd, hg, hg', ev_len, hlen, hlz, a210, hsl, b2, b2', b6, a22, f22', e3, hkn', List.set_set]
      exact fin 2 _
  · have hgw := fun m : MM => grow_eq m (n := n) hw
    have hrun := change_run (next := growW w n) hg hj hr hO' hp
    have hng := hg
    have e1 : stepL c p xs ⟨3, w, k, n, ls⟩ = (if xs.getD (wrdN c p) 0 = w then (⟨0, w, k, n, ls.drop n.toNat⟩, xs.set (wrdN c p) (growW w n)) else (⟨1, w, k, n, ls⟩, xs)) := by
      simp only [stepL, if_neg (show ¬ ((3 : Int) = 0) by decide), if_neg (show ¬ ((3 : Int) = 1) by decide), if_neg (show ¬ ((3 : Int) = 2) by decide), if_neg hz]
    rw [e1]
    simp only [layC, rgC, cfC, List.cons_append, List.nil_append] at hg
    simp (disch := first | assumption | omega | (simp only [List.length_cons, List.length_nil, List.length_set, List.length_append] <;> omega) | (simp only [get_mid, get_mid0, List.cons_append, List.append_assoc, List.getElem?_cons_zero, List.getElem?_cons_succ])) only [put_Lay_Step, ek, ↓evW, ↓evQ, evB, evS, evL, List.map, AV.cells, List.all, AV.one, Bool.and_true, Bool.true_and, if_true, ↓thenQ_normal, ↓thenQ_exit, ↓thenQ_ret, ↓blockQ_normal, ↓blockQ_ret, ↓blockQ_exit, ↓CW_true, ↓CW_false, CW_true, CW_false, condT, condF, RQ_some, tupA_one, tupA_two, tupA_nil, Nat.reduceSub, Nat.reduceAdd, Nat.reduceMul, Nat.zero_add, Nat.add_zero, Nat.reduceLeDiff, Nat.reduceEqDiff, eqV, eqAll, fillA, and_self, and_true, true_and, Nat.le_refl, Bool.not_true, Bool.not_false, Bool.false_xor, Bool.true_xor, cond_true, cond_false, List.replicate, if_false, reduceIte, resAll, resA, ne_eq, decide_not, decide_true, decide_false, Int.reduceEq, Bool.not_true, Bool.not_false, not_true_eq_false, not_false_eq_true, cond_bool, cond_int, beq_self_eq_true, Int.reduceBEq, Bool.and_self, Bool.and_false, Bool.false_and, Bool.xor_false, Bool.xor_true, loadN_ldC, ldC_none, ldC_somes, stC_aggs, splice, storeN_stC, stC_int, stC_bool, stC_ptr, stC_nilp, stC_sl, stC_nils, getC_gcO, gcO_cells, W_draw_eq, ↓W_scope, ev_clear, evT, evF, evX, evM, ↓exitQ_normal, ↓exitQ_ret, ↓exitQ_exit, saA_self, saO_self, if_pos, if_neg, wrapI, get_concat, set_concat, Int.toNat_natCast, Int.toNat_zero, List.nil_append, Nat.mul_one, decide_eq_true, decide_eq_false, Int.reduceLE, Int.reduceLT, Int.reduceNeg, Bool.false_or, Bool.true_or, Bool.or_false, Bool.or_true, wrapU, Int.reduceAdd, Int.reduceSub, Int.reduceMul, List.append_assoc, List.length_append, get_mid, get_mid0, set_mid, set_mid0, List.length_set, List.length_cons, List.length_nil, List.cons_append, List.getElem?_append_left, List.set_append_left, get_at, get_at0, set_at, set_at0, List.getElem?_set_self, List.getElem?_set_ne, a196, hd, hg, ev_len, hlen, hlz, a211, hgw, a212]
    refine OK_fn hrun ?_
    rintro _ m1 ⟨rfl, k1, x1, st', j1, r1⟩
    have lx1 : xj < m1.length := (List.getElem?_eq_some_iff.1 x1).1
    obtain ⟨e3, e4⟩ := LM.mv (s := ⟨3, w, k, n, ls⟩) (c := c) (p := p) hls hnx nx nj k1
    have nx1 : ∀ ro L, m1[xj]? ≠ some (.cells 1 ro L) := fun ro L h => by rw [x1] at h; cases h
    by_cases heq : xs.getD (wrdN c p) 0 = w
    · rw [if_pos heq] at x1 r1 ⊢
      have hdd : decide (xs.getD (wrdN c p) 0 = w) = true := decide_eq_true heq
      obtain ⟨nN, rfl⟩ : ∃ nN : Nat, n = nN := ⟨n.toNat, by omega⟩
      have hdr := fun (C : Chunk Ob) => si_drop (xs := ls) (k := nN) (e3.put nx1 C) ((e4 (by simp only; omega)).put nx1 C) (by omega)
      have hdr1 := (si_drop (xs := ls) (k := nN) e3 (e4 (by simp only; omega)) (by omega)).1
      have hnl2 : ∃ q oo nn L, lv = .sl q oo nn none ∧ m1[q]? = some (.cells 1 false L) := by
        rcases e4 (by simp only; omega) with h | ⟨q, oo, nn, L, h1, h2⟩
        · rw [h] at hlen; simp only [lenA, Option.some.injEq] at hlen; omega
        · exact ⟨q, oo, nn, L, h1, h2⟩
      obtain ⟨q, oo, nn, L, rfl, hq1⟩ := hnl2
      have hdv : dropA (.sl q oo nn none) nN = .sl q (oo + nN) (nn - nN) none := rfl
      rw [hdv] at hdr1
      simp only [hdv] at hdr
      simp only [rgC, cfC, List.cons_append, List.nil_append] at x1
      have hqx : q ≠ xj := fun h => by rw [h, x1] at hq1; cases hq1
      simp (disch := first | assumption | omega | (simp only [List.length_cons, List.length_nil, List.length_set, List.length_append] <;> omega) | (simp only [get_mid, get_mid0, List.cons_append, List.append_assoc, List.getElem?_cons_zero, List.getElem?_cons_succ])) only [ek, ↓evW, ↓evQ, evB, evS, evL, List.map, AV.cells, List.all, AV.one, Bool.and_true, Bool.true_and, if_true, ↓thenQ_normal, ↓thenQ_exit, ↓thenQ_ret, ↓blockQ_normal, ↓blockQ_ret, ↓blockQ_exit, ↓CW_true, ↓CW_false, CW_true, CW_false, condT, condF, RQ_some, tupA_one, tupA_two, tupA_nil, Nat.reduceSub, Nat.reduceAdd, Nat.reduceMul, Nat.zero_add, Nat.add_zero, Nat.reduceLeDiff, Nat.reduceEqDiff, eqV, eqAll, fillA, and_self, and_true, true_and, Nat.le_refl, Bool.not_true, Bool.not_false, Bool.false_xor, Bool.true_xor, cond_true, cond_false, List.replicate, if_false, reduceIte, resAll, resA, ne_eq, decide_not, decide_true, decide_false, Int.reduceEq, Bool.not_true, Bool.not_false, not_true_eq_false, not_false_eq_true, cond_bool, cond_int, beq_self_eq_true, Int.reduceBEq, Bool.and_self, Bool.and_false, Bool.false_and, Bool.xor_false, Bool.xor_true, loadN_ldC, ldC_none, ldC_somes, stC_aggs, splice, storeN_stC, stC_int, stC_bool, stC_ptr, stC_nilp, stC_sl, stC_nils, getC_gcO, gcO_cells, W_draw_eq, ↓W_scope, ev_clear, evT, evF, evX, evM, ↓exitQ_normal, ↓exitQ_ret, ↓exitQ_exit, saA_self, saO_self, if_pos, if_neg, wrapI, get_concat, set_concat, Int.toNat_natCast, Int.toNat_zero, List.nil_append, Nat.mul_one, decide_eq_true, decide_eq_false, Int.reduceLE, Int.reduceLT, Int.reduceNeg, Bool.false_or, Bool.true_or, Bool.or_false, Bool.or_true, wrapU, Int.reduceAdd, Int.reduceSub, Int.reduceMul, List.append_assoc, List.length_append, get_mid, get_mid0, set_mid, set_mid0, List.length_set, List.length_cons, List.length_nil, List.cons_append, List.getElem?_append_left, List.set_append_left, get_at, get_at0, set_at, set_at0, List.getElem?_set_self, List.getElem?_set_ne, hdd, x1, evA, hdr1, Int.toNat_natCast]
      refine ⟨rfl, k1.setL _, ⟨.sl q (oo + nN) (nn - nN) none, by rw [List.getElem?_set_self lx1]; rfl, ?_, fun _ => .inr ⟨q, _, _, L, rfl, by rw [List.getElem?_set_ne hqx.symm]; exact hq1⟩⟩, st', by rw [List.getElem?_set_ne hij]; exact j1, r1⟩
      exact (hdr _).2
    · rw [if_neg heq] at x1 r1 ⊢
      have hdd : decide (xs.getD (wrdN c p) 0 = w) = false := decide_eq_false heq
      simp only [rgC, cfC, List.cons_append, List.nil_append] at x1
      simp (disch := first | assumption | omega | (simp only [List.length_cons, List.length_nil, List.length_set, List.length_append] <;> omega) | (simp only [get_mid, get_mid0, List.cons_append, List.append_assoc, List.getElem?_cons_zero, List.getElem?_cons_succ])) only [ek, ↓evW, ↓evQ, evB, evS, evL, List.map, AV.cells, List.all, AV.one, Bool.and_true, Bool.true_and, if_true, ↓thenQ_normal, ↓thenQ_exit, ↓thenQ_ret, ↓blockQ_normal, ↓blockQ_ret, ↓blockQ_exit, ↓CW_true, ↓CW_false, CW_true, CW_false, condT, condF, RQ_some, tupA_one, tupA_two, tupA_nil, Nat.reduceSub, Nat.reduceAdd, Nat.reduceMul, Nat.zero_add, Nat.add_zero, Nat.reduceLeDiff, Nat.reduceEqDiff, eqV, eqAll, fillA, and_self, and_true, true_and, Nat.le_refl, Bool.not_true, Bool.not_false, Bool.false_xor, Bool.true_xor, cond_true, cond_false, List.replicate, if_false, reduceIte, resAll, resA, ne_eq, decide_not, decide_true, decide_false, Int.reduceEq, Bool.not_true, Bool.not_false, not_true_eq_false, not_false_eq_true, cond_bool, cond_int, beq_self_eq_true, Int.reduceBEq, Bool.and_self, Bool.and_false, Bool.false_and, Bool.xor_false, Bool.xor_true, loadN_ldC, ldC_none, ldC_somes, stC_aggs, splice, storeN_stC, stC_int, stC_bool, stC_ptr, stC_nilp, stC_sl, stC_nils, getC_gcO, gcO_cells, W_draw_eq, ↓W_scope, ev_clear, evT, evF, evX, evM, ↓exitQ_normal, ↓exitQ_ret, ↓exitQ_exit, saA_self, saO_self, if_pos, if_neg, wrapI, get_concat, set_concat, Int.toNat_natCast, Int.toNat_zero, List.nil_append, Nat.mul_one, decide_eq_true, decide_eq_false, Int.reduceLE, Int.reduceLT, Int.reduceNeg, Bool.false_or, Bool.true_or, Bool.or_false, Bool.or_true, wrapU, Int.reduceAdd, Int.reduceSub, Int.reduceMul, List.append_assoc, List.length_append, get_mid, get_mid0, set_mid, set_mid0, List.length_set, List.length_cons, List.length_nil, List.cons_append, List.getElem?_append_left, List.set_append_left, get_at, get_at0, set_at, set_at0, List.getElem?_set_self, List.getElem?_set_ne, hdd, x1]
      exact ⟨rfl, k1, ⟨lv, x1, e3, e4⟩, st', j1, r1⟩
end Go.Am.F09
end
