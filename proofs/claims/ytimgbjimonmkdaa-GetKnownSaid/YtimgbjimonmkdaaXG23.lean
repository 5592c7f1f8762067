import Derived.Test.YtimgbjimonmkdaaXG22
set_option linter.unusedSimpArgs false
set_option linter.unusedVariables false
section
namespace Go.Am.F10
open Go.Am.F06
def OlI (M0 : MM) (c0 c : Cf) (p : Int) (bv lv all : AV) (bb j xj : Nat) (xs : List Int) (k : Nat) (e : List AV) (m : MM) : Prop := ∃ i, i ≤ 400 ∧ k = 400 - i ∧ OlN M0 c0 c p bv lv all bb j xj xs i i e m
set_option maxHeartbeats 16000000 in
theorem oldest_run {m0 : MM} {c0 : Cf} {p0 : Int} {bs ls : List Int} {bv lv : AV} (hB : SB m0 bs bv) (hb : ∀ x, x ∈ bs → 0 ≤ x ∧ x < 256) (hL : SB m0 ls lv) (hl : ∀ x, x ∈ ls → 0 ≤ x ∧ x < 256) :
    Fn Gold law10_GetOldest [.agg (cfC c0), .int .i64 p0, bv, lv] m0 (fun r m' => r = .bool true ∧ Keep m0 m') := by
  have a132 : assoc Gold 132 = some (pureF worksG) := rfl
  have a133 : assoc Gold 133 = some c_docs_Made := rfl
  have a87 : assoc Gold 87 = some c_kit_Pick := rfl
  have a134 : assoc Gold 134 = some c_docs_Filled := rfl
  have a135 : assoc Gold 135 = some (amFunc Gmem docs_Mem) := rfl
  have a136 : assoc Gold 136 = some (amFunc Gring docs_Ring) := rfl
  have a137 : assoc Gold 137 = some c_get_New := rfl
  have a138 : assoc Gold 138 = some c_get_Get_Done := rfl
  have a139 : assoc Gold 139 = some (amFunc Gthief docs_Thief) := rfl
  have a142 : assoc Gold 142 = some c_get_Get_Tries := rfl
  have a84 : assoc Gold 84 = some c_kit_SameInts := rfl
  have hfe : c_docs_Filled (X := Ob) = amFunc Gfill docs_Filled := rfl
  have hse : c_kit_SameInts (X := Ob) = amFunc [] kit_SameInts := rfl
  have hlenb := hB.len
  have hlenl := hL.len
  rw [oldest_body]
  refine Fn_of rfl ?_
  by_cases h1 : 80 < ls.length
  · simp (disch := first | assumption | omega | (simp only [List.length_cons, List.length_nil, List.length_set, List.length_append] <;> omega) | (simp only [get_mid, get_mid0, List.cons_append, List.append_assoc, List.getElem?_cons_zero, List.getElem?_cons_succ])) only [sqN, law10_GetOldest, ek, ↓evW, ↓evQ, evB, evS, evL, List.map, AV.cells, List.all, AV.one, Bool.and_true, Bool.true_and, if_true, ↓thenQ_normal, ↓thenQ_exit, ↓thenQ_ret, ↓blockQ_normal, ↓blockQ_ret, ↓blockQ_exit, ↓CW_true, ↓CW_false, CW_true, CW_false, condT, condF, RQ_some, tupA_one, tupA_two, tupA_nil, Nat.reduceSub, Nat.reduceAdd, Nat.reduceMul, Nat.zero_add, Nat.add_zero, Nat.reduceLeDiff, Nat.reduceEqDiff, eqV, eqAll, fillA, and_self, and_true, true_and, Nat.le_refl, Bool.not_true, Bool.not_false, Bool.false_xor, Bool.true_xor, cond_true, cond_false, List.replicate, if_false, reduceIte, resAll, resA, ne_eq, decide_not, decide_true, decide_false, Int.reduceEq, Bool.not_true, Bool.not_false, not_true_eq_false, not_false_eq_true, cond_bool, cond_int, beq_self_eq_true, Int.reduceBEq, Bool.and_self, Bool.and_false, Bool.false_and, Bool.xor_false, Bool.xor_true, loadN_ldC, ldC_none, ldC_somes, stC_aggs, splice, storeN_stC, stC_int, stC_bool, stC_ptr, stC_nilp, stC_sl, stC_nils, getC_gcO, gcO_cells, W_draw_eq, ↓W_scope, ev_clear, evT, evF, evX, evM, ↓exitQ_normal, ↓exitQ_ret, ↓exitQ_exit, saA_self, saO_self, if_pos, if_neg, wrapI, get_concat, set_concat, Int.toNat_natCast, Int.toNat_zero, List.nil_append, Nat.mul_one, decide_eq_true, decide_eq_false, Int.reduceLE, Int.reduceLT, Int.reduceNeg, Bool.false_or, Bool.true_or, Bool.or_false, Bool.or_true, wrapU, Int.reduceAdd, Int.reduceSub, Int.reduceMul, List.append_assoc, List.length_append, get_mid, get_mid0, set_mid, set_mid0, List.length_set, List.length_cons, List.length_nil, List.cons_append, List.getElem?_append_left, List.set_append_left, get_at, get_at0, set_at, set_at0, List.getElem?_set_self, List.getElem?_set_ne, cfC, ev_len, hlenl, hlenb, a132, pureF, worksG]
    exact .app _ _
  by_cases h2 : 40 < bs.length
  · simp (disch := first | assumption | omega | (simp only [List.length_cons, List.length_nil, List.length_set, List.length_append] <;> omega) | (simp only [get_mid, get_mid0, List.cons_append, List.append_assoc, List.getElem?_cons_zero, List.getElem?_cons_succ])) only [sqN, law10_GetOldest, ek, ↓evW, ↓evQ, evB, evS, evL, List.map, AV.cells, List.all, AV.one, Bool.and_true, Bool.true_and, if_true, ↓thenQ_normal, ↓thenQ_exit, ↓thenQ_ret, ↓blockQ_normal, ↓blockQ_ret, ↓blockQ_exit, ↓CW_true, ↓CW_false, CW_true, CW_false, condT, condF, RQ_some, tupA_one, tupA_two, tupA_nil, Nat.reduceSub, Nat.reduceAdd, Nat.reduceMul, Nat.zero_add, Nat.add_zero, Nat.reduceLeDiff, Nat.reduceEqDiff, eqV, eqAll, fillA, and_self, and_true, true_and, Nat.le_refl, Bool.not_true, Bool.not_false, Bool.false_xor, Bool.true_xor, cond_true, cond_false, List.replicate, if_false, reduceIte, resAll, resA, ne_eq, decide_not, decide_true, decide_false, Int.reduceEq, Bool.not_true, Bool.not_false, not_true_eq_false, not_false_eq_true, cond_bool, cond_int, beq_self_eq_true, Int.reduceBEq, Bool.and_self, Bool.and_false, Bool.false_and, Bool.xor_false, Bool.xor_true, loadN_ldC, ldC_none, ldC_somes, stC_aggs, splice, storeN_stC, stC_int, stC_bool, stC_ptr, stC_nilp, stC_sl, stC_nils, getC_gcO, gcO_cells, W_draw_eq, ↓W_scope, ev_clear, evT, evF, evX, evM, ↓exitQ_normal, ↓exitQ_ret, ↓exitQ_exit, saA_self, saO_self, if_pos, if_neg, wrapI, get_concat, set_concat, Int.toNat_natCast, Int.toNat_zero, List.nil_append, Nat.mul_one, decide_eq_true, decide_eq_false, Int.reduceLE, Int.reduceLT, Int.reduceNeg, Bool.false_or, Bool.true_or, Bool.or_false, Bool.or_true, wrapU, Int.reduceAdd, Int.reduceSub, Int.reduceMul, List.append_assoc, List.length_append, get_mid, get_mid0, set_mid, set_mid0, List.length_set, List.length_cons, List.length_nil, List.cons_append, List.getElem?_append_left, List.set_append_left, get_at, get_at0, set_at, set_at0, List.getElem?_set_self, List.getElem?_set_ne, cfC, ev_len, hlenl, hlenb, a132, pureF, worksG]
    exact .app _ _
  have fmade := fun m : MM => made_eq m c0
  have hri := made_right c0
  generalize madeC c0 = c at fmade hri
  have hp : thereP c (p0 % c.n) := by
    have := hri.1
    exact ⟨hri, Int.emod_nonneg _ (by omega), Int.emod_lt_of_pos _ (by omega)⟩
  have hbn := hri.1
  have fpick := fun m : MM => pick_eq m p0 c.n (by omega) (by omega)
  generalize p0 % c.n = p at hp fpick
  simp only [cfC, List.cons_append, List.nil_append] at fmade
  simp (disch := first | assumption | omega | (simp only [List.length_cons, List.length_nil, List.length_set, List.length_append] <;> omega) | (simp only [get_mid, get_mid0, List.cons_append, List.append_assoc, List.getElem?_cons_zero, List.getElem?_cons_succ])) only [sqN, law10_GetOldest, ek, ↓evW, ↓evQ, evB, evS, evL, List.map, AV.cells, List.all, AV.one, Bool.and_true, Bool.true_and, if_true, ↓thenQ_normal, ↓thenQ_exit, ↓thenQ_ret, ↓blockQ_normal, ↓blockQ_ret, ↓blockQ_exit, ↓CW_true, ↓CW_false, CW_true, CW_false, condT, condF, RQ_some, tupA_one, tupA_two, tupA_nil, Nat.reduceSub, Nat.reduceAdd, Nat.reduceMul, Nat.zero_add, Nat.add_zero, Nat.reduceLeDiff, Nat.reduceEqDiff, eqV, eqAll, fillA, and_self, and_true, true_and, Nat.le_refl, Bool.not_true, Bool.not_false, Bool.false_xor, Bool.true_xor, cond_true, cond_false, List.replicate, if_false, reduceIte, resAll, resA, ne_eq, decide_not, decide_true, decide_false, Int.reduceEq, Bool.not_true, Bool.not_false, not_true_eq_false, not_false_eq_true, cond_bool, cond_int, beq_self_eq_true, Int.reduceBEq, Bool.and_self, Bool.and_false, Bool.false_and, Bool.xor_false, Bool.xor_true, loadN_ldC, ldC_none, ldC_somes, stC_aggs, splice, storeN_stC, stC_int, stC_bool, stC_ptr, stC_nilp, stC_sl, stC_nils, getC_gcO, gcO_cells, W_draw_eq, ↓W_scope, ev_clear, evT, evF, evX, evM, ↓exitQ_normal, ↓exitQ_ret, ↓exitQ_exit, saA_self, saO_self, if_pos, if_neg, wrapI, get_concat, set_concat, Int.toNat_natCast, Int.toNat_zero, List.nil_append, Nat.mul_one, decide_eq_true, decide_eq_false, Int.reduceLE, Int.reduceLT, Int.reduceNeg, Bool.false_or, Bool.true_or, Bool.or_false, Bool.or_true, wrapU, Int.reduceAdd, Int.reduceSub, Int.reduceMul, List.append_assoc, List.length_append, get_mid, get_mid0, set_mid, set_mid0, List.length_set, List.length_cons, List.length_nil, List.cons_append, List.getElem?_append_left, List.set_append_left, get_at, get_at0, set_at, set_at0, List.getElem?_set_self, List.getElem?_set_ne, cfC, ev_len, hlenl, hlenb, a133, fmade, a87, fpick, a134, hfe]
  have hB1 := hB.keep (Keep.app m0 [Chunk.cells 6 false (cfC c), .cells 6 false (cfC c0), .cells 6 false (cfC c)])
  have gb0 : (m0 ++ [Chunk.cells 6 false (cfC c), .cells 6 false (cfC c0), .cells 6 false (cfC c)])[m0.length]? = some (Chunk.cells 6 false (cfC c)) := by rw [get_mid0]; rfl
  have hfl := filled_run (c := c) hB1 hb
  simp only [cfC] at hfl
  refine OK_fn hfl ?_
  rintro r1 m1 ⟨xs, k1, s1, x1, x2⟩
  have gb1 := k1.get gb0
  have hk1 : Keep m0 m1 := (Keep.app m0 _).trans k1
  have hcn := cellsN_le c
  have hx : OkL c xs := ⟨x1, x2⟩
  clear hfl hB1 gb0 k1 fmade fpick
  simp (disch := first | assumption | omega | (simp only [List.length_cons, List.length_nil, List.length_set, List.length_append] <;> omega) | (simp only [get_mid, get_mid0, List.cons_append, List.append_assoc, List.getElem?_cons_zero, List.getElem?_cons_succ])) only [ek, ↓evW, ↓evQ, evB, evS, evL, List.map, AV.cells, List.all, AV.one, Bool.and_true, Bool.true_and, if_true, ↓thenQ_normal, ↓thenQ_exit, ↓thenQ_ret, ↓blockQ_normal, ↓blockQ_ret, ↓blockQ_exit, ↓CW_true, ↓CW_false, CW_true, CW_false, condT, condF, RQ_some, tupA_one, tupA_two, tupA_nil, Nat.reduceSub, Nat.reduceAdd, Nat.reduceMul, Nat.zero_add, Nat.add_zero, Nat.reduceLeDiff, Nat.reduceEqDiff, eqV, eqAll, fillA, and_self, and_true, true_and, Nat.le_refl, Bool.not_true, Bool.not_false, Bool.false_xor, Bool.true_xor, cond_true, cond_false, List.replicate, if_false, reduceIte, resAll, resA, ne_eq, decide_not, decide_true, decide_false, Int.reduceEq, Bool.not_true, Bool.not_false, not_true_eq_false, not_false_eq_true, cond_bool, cond_int, beq_self_eq_true, Int.reduceBEq, Bool.and_self, Bool.and_false, Bool.false_and, Bool.xor_false, Bool.xor_true, loadN_ldC, ldC_none, ldC_somes, stC_aggs, splice, storeN_stC, stC_int, stC_bool, stC_ptr, stC_nilp, stC_sl, stC_nils, getC_gcO, gcO_cells, W_draw_eq, ↓W_scope, ev_clear, evT, evF, evX, evM, ↓exitQ_normal, ↓exitQ_ret, ↓exitQ_exit, saA_self, saO_self, if_pos, if_neg, wrapI, get_concat, set_concat, Int.toNat_natCast, Int.toNat_zero, List.nil_append, Nat.mul_one, decide_eq_true, decide_eq_false, Int.reduceLE, Int.reduceLT, Int.reduceNeg, Bool.false_or, Bool.true_or, Bool.or_false, Bool.or_true, wrapU, Int.reduceAdd, Int.reduceSub, Int.reduceMul, List.append_assoc, List.length_append, get_mid, get_mid0, set_mid, set_mid0, List.length_set, List.length_cons, List.length_nil, List.cons_append, List.getElem?_append_left, List.set_append_left, get_at, get_at0, set_at, set_at0, List.getElem?_set_self, List.getElem?_set_ne, a135]
  refine OK_fn (mem_run s1 (by omega)) ?_
  rintro _ m2 ⟨st, v, rfl, k2, g2, rm, s2⟩
  have gb2 := k2.get gb1
  have hk2 := hk1.trans k2
  have hone := slOne s2
  simp only [AV.one] at hone
  have lb : m0.length < m2.length := (List.getElem?_eq_some_iff.1 gb2).1
  have hl1 : m1.length + 1 ≠ m0.length := by
    have := hk1.1
    omega
  have hj0 : m0.length ≤ m1.length + 1 := by have := hk1.1; omega
  generalize m1.length + 1 = j at g2 hl1 hj0 ⊢
  simp only [cfC] at gb2
  simp (disch := first | assumption | omega | (simp only [List.length_cons, List.length_nil, List.length_set, List.length_append] <;> omega) | (simp only [get_mid, get_mid0, List.cons_append, List.append_assoc, List.getElem?_cons_zero, List.getElem?_cons_succ])) only [ek, ↓evW, ↓evQ, evB, evS, evL, List.map, AV.cells, List.all, AV.one, Bool.and_true, Bool.true_and, if_true, ↓thenQ_normal, ↓thenQ_exit, ↓thenQ_ret, ↓blockQ_normal, ↓blockQ_ret, ↓blockQ_exit, ↓CW_true, ↓CW_false, CW_true, CW_false, condT, condF, RQ_some, tupA_one, tupA_two, tupA_nil, Nat.reduceSub, Nat.reduceAdd, Nat.reduceMul, Nat.zero_add, Nat.add_zero, Nat.reduceLeDiff, Nat.reduceEqDiff, eqV, eqAll, fillA, and_self, and_true, true_and, Nat.le_refl, Bool.not_true, Bool.not_false, Bool.false_xor, Bool.true_xor, cond_true, cond_false, List.replicate, if_false, reduceIte, resAll, resA, ne_eq, decide_not, decide_true, decide_false, Int.reduceEq, Bool.not_true, Bool.not_false, not_true_eq_false, not_false_eq_true, cond_bool, cond_int, beq_self_eq_true, Int.reduceBEq, Bool.and_self, Bool.and_false, Bool.false_and, Bool.xor_false, Bool.xor_true, loadN_ldC, ldC_none, ldC_somes, stC_aggs, splice, storeN_stC, stC_int, stC_bool, stC_ptr, stC_nilp, stC_sl, stC_nils, getC_gcO, gcO_cells, W_draw_eq, ↓W_scope, ev_clear, evT, evF, evX, evM, ↓exitQ_normal, ↓exitQ_ret, ↓exitQ_exit, saA_self, saO_self, if_pos, if_neg, wrapI, get_concat, set_concat, Int.toNat_natCast, Int.toNat_zero, List.nil_append, Nat.mul_one, decide_eq_true, decide_eq_false, Int.reduceLE, Int.reduceLT, Int.reduceNeg, Bool.false_or, Bool.true_or, Bool.or_false, Bool.or_true, wrapU, Int.reduceAdd, Int.reduceSub, Int.reduceMul, List.append_assoc, List.length_append, get_mid, get_mid0, set_mid, set_mid0, List.length_set, List.length_cons, List.length_nil, List.cons_append, List.getElem?_append_left, List.set_append_left, get_at, get_at0, set_at, set_at0, List.getElem?_set_self, List.getElem?_set_ne, memC, hone, gb2, cfC, a136]
  have hk3 : Keep m2 (m2 ++ [Chunk.cells 2 false [v, .int .u64 xs.length]]) := .app _ _
  have hrn := ring_run (c := c) (p := p) (hk3.get g2) rm hx
  simp only [cfC] at hrn
  refine OK_fn hrn ?_
  rintro all m3 ⟨k3, sa, _⟩
  have gb3 := (hk3.trans k3).get gb2
  have g3 := (hk3.trans k3).get g2
  have hk4 : Keep m0 m3 := hk2.trans (hk3.trans k3)
  clear hrn hk3 k3 k2 g2 gb2 gb1 s2 s1 hk2 hk1 lb hone
  obtain ⟨q1, _, q3, q4⟩ := start_is c p
  have hnew := new_run (m := m3) c p
  rw [q1] at hnew
  have e1 : stC c p = c := if_pos hp
  have e2 : stP c p = p := if_pos hp
  have e3 : stS c p = ⟨1, 0, 0, false, 0⟩ := if_pos hp
  rw [e1, e2, e3] at hnew q3
  obtain ⟨K, hK⟩ : ∃ K : MM, K = [Chunk.cells 6 false (cfC c), Chunk.cells 6 false (cfC c), Chunk.cells 7 false (cfC c ++ [AV.int .i64 p]), Chunk.cells 6 false (cfC c), Chunk.cells 12 false (gC c p ⟨1, 0, 0, false, 0⟩)] := ⟨_, rfl⟩
  have gx : (m3 ++ K)[m3.length + 4]? = some (.cells 12 false (gC c p ⟨1, 0, 0, false, 0⟩)) := by rw [hK, get_mid]; rfl
  rw [← hK] at hnew
  clear hK q1 q4
  have g4 := (Keep.app m3 K).get g3
  have gb4 := (Keep.app m3 K).get gb3
  have sa4 := sa.keep (Keep.app m3 K)
  have hL4 := hL.keep (hk4.trans (Keep.app m3 K))
  have lb3 : m0.length < m3.length := (List.getElem?_eq_some_iff.1 gb3).1
  have hxb : m0.length ≠ m3.length + 4 ∧ m0.length ≠ j := ⟨by omega, fun h => hl1 h.symm⟩
  simp only [cfC] at gb3 hnew
  simp (disch := first | assumption | omega | (simp only [List.length_cons, List.length_nil, List.length_set, List.length_append] <;> omega) | (simp only [get_mid, get_mid0, List.cons_append, List.append_assoc, List.getElem?_cons_zero, List.getElem?_cons_succ])) only [ek, ↓evW, ↓evQ, evB, evS, evL, List.map, AV.cells, List.all, AV.one, Bool.and_true, Bool.true_and, if_true, ↓thenQ_normal, ↓thenQ_exit, ↓thenQ_ret, ↓blockQ_normal, ↓blockQ_ret, ↓blockQ_exit, ↓CW_true, ↓CW_false, CW_true, CW_false, condT, condF, RQ_some, tupA_one, tupA_two, tupA_nil, Nat.reduceSub, Nat.reduceAdd, Nat.reduceMul, Nat.zero_add, Nat.add_zero, Nat.reduceLeDiff, Nat.reduceEqDiff, eqV, eqAll, fillA, and_self, and_true, true_and, Nat.le_refl, Bool.not_true, Bool.not_false, Bool.false_xor, Bool.true_xor, cond_true, cond_false, List.replicate, if_false, reduceIte, resAll, resA, ne_eq, decide_not, decide_true, decide_false, Int.reduceEq, Bool.not_true, Bool.not_false, not_true_eq_false, not_false_eq_true, cond_bool, cond_int, beq_self_eq_true, Int.reduceBEq, Bool.and_self, Bool.and_false, Bool.false_and, Bool.xor_false, Bool.xor_true, loadN_ldC, ldC_none, ldC_somes, stC_aggs, splice, storeN_stC, stC_int, stC_bool, stC_ptr, stC_nilp, stC_sl, stC_nils, getC_gcO, gcO_cells, W_draw_eq, ↓W_scope, ev_clear, evT, evF, evX, evM, ↓exitQ_normal, ↓exitQ_ret, ↓exitQ_exit, saA_self, saO_self, if_pos, if_neg, wrapI, get_concat, set_concat, Int.toNat_natCast, Int.toNat_zero, List.nil_append, Nat.mul_one, decide_eq_true, decide_eq_false, Int.reduceLE, Int.reduceLT, Int.reduceNeg, Bool.false_or, Bool.true_or, Bool.or_false, Bool.or_true, wrapU, Int.reduceAdd, Int.reduceSub, Int.reduceMul, List.append_assoc, List.length_append, get_mid, get_mid0, set_mid, set_mid0, List.length_set, List.length_cons, List.length_nil, List.cons_append, List.getElem?_append_left, List.set_append_left, get_at, get_at0, set_at, set_at0, List.getElem?_set_self, List.getElem?_set_ne, gb3, a137, hnew]
  have hx0 : m0.length ≤ m3.length + 4 := by omega
  have hk0 : Keep m0 (m3 ++ K) := hk4.trans (.app _ _)
  generalize m3.length + 4 = xj at gx hxb hx0 ⊢
  generalize m3 ++ K = M0 at gx g4 gb4 sa4 hL4 hk0 ⊢
  clear gb3 g3 hnew lb3 hk4 hl1 sa hL hB hlenb
  generalize hbb : m0.length = bb at gb4 hxb hx0 hj0 ⊢
  have hle := ringL_le c p xs
  have hnx : ∀ ro L, M0[xj]? ≠ some (.cells 1 ro L) := fun ro L h => by rw [gx] at h; cases h
  have hnj : ∀ ro L, M0[j]? ≠ some (.cells 1 ro L) := fun ro L h => by rw [g4] at h; cases h
  refine W_loop (OlI M0 c0 c p bv lv all bb j xj xs) 400 (by simp only [FUEL]; omega) ⟨0, by omega, rfl, 0, 0, _, .nils, _, _, _, _, _, _, _, _, _, _, _, _, rfl, .refl _, gx, ⟨st, _, g4, by rw [dX, if_pos rfl]; exact rm⟩, q3, .start, own_nil⟩ ?_
  rintro k e m ⟨i, hi, rfl, d, g, s, out, y12, y13, y14, y15, y16, y17, y18, y19, y20, y21, y22, y23, rfl, hS⟩
  have hdone := done_eq hS.get
  have gbm := hS.keep.get gb4 hxb.1 hxb.2
  by_cases ha : s.a = 0
  · rw [decide_eq_true ha] at hdone
    obtain ⟨hk, gxm, ⟨st1, o1, gjm, rm1⟩, ok, oi, own⟩ := hS
    have hd := oi.dl
    have hrn := ring_run (c := c) (p := p) gjm rm1 (dX_ok (c := c) (p := p) hx d)
    rw [ring_drop hx hp hd] at hrn
    simp only [cfC] at hrn
    have hfin : W Gold oldE (resQ [.loc 5] fun r m' => r = .bool true ∧ Keep m0 m') [.agg (cfC c0), .int .i64 p, bv, lv, .ptr bb 0, .bool false, .ptr j 0, all, .ptr xj 0, out, .int .i64 g, .int .i64 i, y12, y13, y14, y15, y16, .bool false, y18, y19, y20, y21, y22, y23] m := by
      simp (disch := first | assumption | omega | (simp only [List.length_cons, List.length_nil, List.length_set, List.length_append] <;> omega) | (simp only [get_mid, get_mid0, List.cons_append, List.append_assoc, List.getElem?_cons_zero, List.getElem?_cons_succ])) only [oldE, sqT, law10_GetOldest, ek, ↓evW, ↓evQ, evB, evS, evL, List.map, AV.cells, List.all, AV.one, Bool.and_true, Bool.true_and, if_true, ↓thenQ_normal, ↓thenQ_exit, ↓thenQ_ret, ↓blockQ_normal, ↓blockQ_ret, ↓blockQ_exit, ↓CW_true, ↓CW_false, CW_true, CW_false, condT, condF, RQ_some, tupA_one, tupA_two, tupA_nil, Nat.reduceSub, Nat.reduceAdd, Nat.reduceMul, Nat.zero_add, Nat.add_zero, Nat.reduceLeDiff, Nat.reduceEqDiff, eqV, eqAll, fillA, and_self, and_true, true_and, Nat.le_refl, Bool.not_true, Bool.not_false, Bool.false_xor, Bool.true_xor, cond_true, cond_false, List.replicate, if_false, reduceIte, resAll, resA, ne_eq, decide_not, decide_true, decide_false, Int.reduceEq, Bool.not_true, Bool.not_false, not_true_eq_false, not_false_eq_true, cond_bool, cond_int, beq_self_eq_true, Int.reduceBEq, Bool.and_self, Bool.and_false, Bool.false_and, Bool.xor_false, Bool.xor_true, loadN_ldC, ldC_none, ldC_somes, stC_aggs, splice, storeN_stC, stC_int, stC_bool, stC_ptr, stC_nilp, stC_sl, stC_nils, getC_gcO, gcO_cells, W_draw_eq, ↓W_scope, ev_clear, evT, evF, evX, evM, ↓exitQ_normal, ↓exitQ_ret, ↓exitQ_exit, saA_self, saO_self, if_pos, if_neg, wrapI, get_concat, set_concat, Int.toNat_natCast, Int.toNat_zero, List.nil_append, Nat.mul_one, decide_eq_true, decide_eq_false, Int.reduceLE, Int.reduceLT, Int.reduceNeg, Bool.false_or, Bool.true_or, Bool.or_false, Bool.or_true, wrapU, Int.reduceAdd, Int.reduceSub, Int.reduceMul, List.append_assoc, List.length_append, get_mid, get_mid0, set_mid, set_mid0, List.length_set, List.length_cons, List.length_nil, List.cons_append, List.getElem?_append_left, List.set_append_left, get_at, get_at0, set_at, set_at0, List.getElem?_set_self, List.getElem?_set_ne, gbm, a136]
      refine OK_fn hrn ?_
      rintro r5 m5 ⟨k5, s5, _, _⟩
      have own5 : Own M0 m5 1 ((ringL c p xs).take d).length (iC ((ringL c p xs).take d)) out := own.keep fun q C _ hq => k5.get hq
      have kk5 := hk.trans (.of k5)
      obtain ⟨out', m6, happ, ho', hl6, hpre⟩ := own_pushs own5 s5 (by rw [List.length_take]; omega) (by rw [List.length_drop]; omega) kk5.1
      rw [List.take_append_drop] at ho'
      have x5 := k5.get gxm
      have lx5 : xj < m5.length := (List.getElem?_eq_some_iff.1 x5).1
      have x6 : m6[xj]? = some (.cells 12 false (gC c p s)) := by rw [hpre _ lx5 (.inl fun ys h => by rw [x5] at h; cases h)]; exact x5
      have hk5 := kk5.1
      have kk6 : KeepX xj j M0 m6 := ⟨by omega, fun a ha h1 h2 => by rw [hpre a (by omega) (.inr ha)]; exact kk5.2 a ha h1 h2⟩
      have sa6 := kk6.sl (szj := 0) (szk := 0) hnx hnj sa4
      have f138 := done_eq x6
      rw [decide_eq_true ha] at f138
      have f142 := tries_eq x6
      have ht := oi.t1
      have e9 := Fn_eq (same_run (Own.si ho').1 sa6 (by simp only [FUEL]; omega))
      rw [← hse] at e9
      simp only [decide_true] at e9
      simp (disch := first | assumption | omega | (simp only [List.length_cons, List.length_nil, List.length_set, List.length_append] <;> omega) | (simp only [get_mid, get_mid0, List.cons_append, List.append_assoc, List.getElem?_cons_zero, List.getElem?_cons_succ])) only [ek, ↓evW, ↓evQ, evB, evS, evL, List.map, AV.cells, List.all, AV.one, Bool.and_true, Bool.true_and, if_true, ↓thenQ_normal, ↓thenQ_exit, ↓thenQ_ret, ↓blockQ_normal, ↓blockQ_ret, ↓blockQ_exit, ↓CW_true, ↓CW_false, CW_true, CW_false, condT, condF, RQ_some, tupA_one, tupA_two, tupA_nil, Nat.reduceSub, Nat.reduceAdd, Nat.reduceMul, Nat.zero_add, Nat.add_zero, Nat.reduceLeDiff, Nat.reduceEqDiff, eqV, eqAll, fillA, and_self, and_true, true_and, Nat.le_refl, Bool.not_true, Bool.not_false, Bool.false_xor, Bool.true_xor, cond_true, cond_false, List.replicate, if_false, reduceIte, resAll, resA, ne_eq, decide_not, decide_true, decide_false, Int.reduceEq, Bool.not_true, Bool.not_false, not_true_eq_false, not_false_eq_true, cond_bool, cond_int, beq_self_eq_true, Int.reduceBEq, Bool.and_self, Bool.and_false, Bool.false_and, Bool.xor_false, Bool.xor_true, loadN_ldC, ldC_none, ldC_somes, stC_aggs, splice, storeN_stC, stC_int, stC_bool, stC_ptr, stC_nilp, stC_sl, stC_nils, getC_gcO, gcO_cells, W_draw_eq, ↓W_scope, ev_clear, evT, evF, evX, evM, ↓exitQ_normal, ↓exitQ_ret, ↓exitQ_exit, saA_self, saO_self, if_pos, if_neg, wrapI, get_concat, set_concat, Int.toNat_natCast, Int.toNat_zero, List.nil_append, Nat.mul_one, decide_eq_true, decide_eq_false, Int.reduceLE, Int.reduceLT, Int.reduceNeg, Bool.false_or, Bool.true_or, Bool.or_false, Bool.or_true, wrapU, Int.reduceAdd, Int.reduceSub, Int.reduceMul, List.append_assoc, List.length_append, get_mid, get_mid0, set_mid, set_mid0, List.length_set, List.length_cons, List.length_nil, List.cons_append, List.getElem?_append_left, List.set_append_left, get_at, get_at0, set_at, set_at0, List.getElem?_set_self, List.getElem?_set_ne, evA, happ, a138, f138, a142, f142, ht, a84, e9, a132, pureF, worksG]
      have h0 := hk0.1
      exact ⟨by omega, fun a ha => by rw [kk6.2 a (by omega) (by omega) (by omega), hk0.2 a ha]⟩
    rcases Nat.lt_or_ge i 400 with h4 | h4
    · simp (disch := first | assumption | omega | (simp only [List.length_cons, List.length_nil, List.length_set, List.length_append] <;> omega) | (simp only [get_mid, get_mid0, List.cons_append, List.append_assoc, List.getElem?_cons_zero, List.getElem?_cons_succ])) only [oldC, oldB, sqN, law10_GetOldest, ek, ↓evW, ↓evQ, evB, evS, evL, List.map, AV.cells, List.all, AV.one, Bool.and_true, Bool.true_and, if_true, ↓thenQ_normal, ↓thenQ_exit, ↓thenQ_ret, ↓blockQ_normal, ↓blockQ_ret, ↓blockQ_exit, ↓CW_true, ↓CW_false, CW_true, CW_false, condT, condF, RQ_some, tupA_one, tupA_two, tupA_nil, Nat.reduceSub, Nat.reduceAdd, Nat.reduceMul, Nat.zero_add, Nat.add_zero, Nat.reduceLeDiff, Nat.reduceEqDiff, eqV, eqAll, fillA, and_self, and_true, true_and, Nat.le_refl, Bool.not_true, Bool.not_false, Bool.false_xor, Bool.true_xor, cond_true, cond_false, List.replicate, if_false, reduceIte, resAll, resA, ne_eq, decide_not, decide_true, decide_false, Int.reduceEq, Bool.not_true, Bool.not_false, not_true_eq_false, not_false_eq_true, cond_bool, cond_int, beq_self_eq_true, Int.reduceBEq, Bool.and_self, Bool.and_false, Bool.false_and, Bool.xor_false, Bool.xor_true, loadN_ldC, ldC_none, ldC_somes, stC_aggs, splice, storeN_stC, stC_int, stC_bool, stC_ptr, stC_nilp, stC_sl, stC_nils, getC_gcO, gcO_cells, W_draw_eq, ↓W_scope, ev_clear, evT, evF, evX, evM, ↓exitQ_normal, ↓exitQ_ret, ↓exitQ_exit, saA_self, saO_self, if_pos, if_neg, wrapI, get_concat, set_concat, Int.toNat_natCast, Int.toNat_zero, List.nil_append, Nat.mul_one, decide_eq_true, decide_eq_false, Int.reduceLE, Int.reduceLT, Int.reduceNeg, Bool.false_or, Bool.true_or, Bool.or_false, Bool.or_true, wrapU, Int.reduceAdd, Int.reduceSub, Int.reduceMul, List.append_assoc, List.length_append, get_mid, get_mid0, set_mid, set_mid0, List.length_set, List.length_cons, List.length_nil, List.cons_append, List.getElem?_append_left, List.set_append_left, get_at, get_at0, set_at, set_at0, List.getElem?_set_self, List.getElem?_set_ne, a138, hdone]
      exact hfin
    · simp (disch := first | assumption | omega | (simp only [List.length_cons, List.length_nil, List.length_set, List.length_append] <;> omega) | (simp only [get_mid, get_mid0, List.cons_append, List.append_assoc, List.getElem?_cons_zero, List.getElem?_cons_succ])) only [oldC, oldB, sqN, law10_GetOldest, ek, ↓evW, ↓evQ, evB, evS, evL, List.map, AV.cells, List.all, AV.one, Bool.and_true, Bool.true_and, if_true, ↓thenQ_normal, ↓thenQ_exit, ↓thenQ_ret, ↓blockQ_normal, ↓blockQ_ret, ↓blockQ_exit, ↓CW_true, ↓CW_false, CW_true, CW_false, condT, condF, RQ_some, tupA_one, tupA_two, tupA_nil, Nat.reduceSub, Nat.reduceAdd, Nat.reduceMul, Nat.zero_add, Nat.add_zero, Nat.reduceLeDiff, Nat.reduceEqDiff, eqV, eqAll, fillA, and_self, and_true, true_and, Nat.le_refl, Bool.not_true, Bool.not_false, Bool.false_xor, Bool.true_xor, cond_true, cond_false, List.replicate, if_false, reduceIte, resAll, resA, ne_eq, decide_not, decide_true, decide_false, Int.reduceEq, Bool.not_true, Bool.not_false, not_true_eq_false, not_false_eq_true, cond_bool, cond_int, beq_self_eq_true, Int.reduceBEq, Bool.and_self, Bool.and_false, Bool.false_and, Bool.xor_false, Bool.xor_true, loadN_ldC, ldC_none, ldC_somes, stC_aggs, splice, storeN_stC, stC_int, stC_bool, stC_ptr, stC_nilp, stC_sl, stC_nils, getC_gcO, gcO_cells, W_draw_eq, ↓W_scope, ev_clear, evT, evF, evX, evM, ↓exitQ_normal, ↓exitQ_ret, ↓exitQ_exit, saA_self, saO_self, if_pos, if_neg, wrapI, get_concat, set_concat, Int.toNat_natCast, Int.toNat_zero, List.nil_append, Nat.mul_one, decide_eq_true, decide_eq_false, Int.reduceLE, Int.reduceLT, Int.reduceNeg, Bool.false_or, Bool.true_or, Bool.or_false, Bool.or_true, wrapU, Int.reduceAdd, Int.reduceSub, Int.reduceMul, List.append_assoc, List.length_append, get_mid, get_mid0, set_mid, set_mid0, List.length_set, List.length_cons, List.length_nil, List.cons_append, List.getElem?_append_left, List.set_append_left, get_at, get_at0, set_at, set_at0, List.getElem?_set_self, List.getElem?_set_ne, a138, hdone]
      exact hfin
  · rw [decide_eq_false ha] at hdone
    have hlt := hS.oi.lt ha
    simp (disch := first | assumption | omega | (simp only [List.length_cons, List.length_nil, List.length_set, List.length_append] <;> omega) | (simp only [get_mid, get_mid0, List.cons_append, List.append_assoc, List.getElem?_cons_zero, List.getElem?_cons_succ])) only [oldC, oldB, sqN, law10_GetOldest, ek, ↓evW, ↓evQ, evB, evS, evL, List.map, AV.cells, List.all, AV.one, Bool.and_true, Bool.true_and, if_true, ↓thenQ_normal, ↓thenQ_exit, ↓thenQ_ret, ↓blockQ_normal, ↓blockQ_ret, ↓blockQ_exit, ↓CW_true, ↓CW_false, CW_true, CW_false, condT, condF, RQ_some, tupA_one, tupA_two, tupA_nil, Nat.reduceSub, Nat.reduceAdd, Nat.reduceMul, Nat.zero_add, Nat.add_zero, Nat.reduceLeDiff, Nat.reduceEqDiff, eqV, eqAll, fillA, and_self, and_true, true_and, Nat.le_refl, Bool.not_true, Bool.not_false, Bool.false_xor, Bool.true_xor, cond_true, cond_false, List.replicate, if_false, reduceIte, resAll, resA, ne_eq, decide_not, decide_true, decide_false, Int.reduceEq, Bool.not_true, Bool.not_false, not_true_eq_false, not_false_eq_true, cond_bool, cond_int, beq_self_eq_true, Int.reduceBEq, Bool.and_self, Bool.and_false, Bool.false_and, Bool.xor_false, Bool.xor_true, loadN_ldC, ldC_none, ldC_somes, stC_aggs, splice, storeN_stC, stC_int, stC_bool, stC_ptr, stC_nilp, stC_sl, stC_nils, getC_gcO, gcO_cells, W_draw_eq, ↓W_scope, ev_clear, evT, evF, evX, evM, ↓exitQ_normal, ↓exitQ_ret, ↓exitQ_exit, saA_self, saO_self, if_pos, if_neg, wrapI, get_concat, set_concat, Int.toNat_natCast, Int.toNat_zero, List.nil_append, Nat.mul_one, decide_eq_true, decide_eq_false, Int.reduceLE, Int.reduceLT, Int.reduceNeg, Bool.false_or, Bool.true_or, Bool.or_false, Bool.or_true, wrapU, Int.reduceAdd, Int.reduceSub, Int.reduceMul, List.append_assoc, List.length_append, get_mid, get_mid0, set_mid, set_mid0, List.length_set, List.length_cons, List.length_nil, List.cons_append, List.getElem?_append_left, List.set_append_left, get_at, get_at0, set_at, set_at0, List.getElem?_set_self, List.getElem?_set_ne, a138, hdone]
    have hfinal : ∀ e m, OlN M0 c0 c p bv lv all bb j xj xs i (i + 1) e m → W Gold oldI (fun x e' m' => x = .normal ∧ ∃ k, k < 400 - i ∧ OlI M0 c0 c p bv lv all bb j xj xs k e' m') e m := by
      rintro e m ⟨d, g, s, out, y12, y13, y14, y15, y16, y17, y18, y19, y20, y21, y22, y23, rfl, hS⟩
      simp (disch := first | assumption | omega | (simp only [List.length_cons, List.length_nil, List.length_set, List.length_append] <;> omega) | (simp only [get_mid, get_mid0, List.cons_append, List.append_assoc, List.getElem?_cons_zero, List.getElem?_cons_succ])) only [oldI, oldB, sqN, law10_GetOldest, ek, ↓evW, ↓evQ, evB, evS, evL, List.map, AV.cells, List.all, AV.one, Bool.and_true, Bool.true_and, if_true, ↓thenQ_normal, ↓thenQ_exit, ↓thenQ_ret, ↓blockQ_normal, ↓blockQ_ret, ↓blockQ_exit, ↓CW_true, ↓CW_false, CW_true, CW_false, condT, condF, RQ_some, tupA_one, tupA_two, tupA_nil, Nat.reduceSub, Nat.reduceAdd, Nat.reduceMul, Nat.zero_add, Nat.add_zero, Nat.reduceLeDiff, Nat.reduceEqDiff, eqV, eqAll, fillA, and_self, and_true, true_and, Nat.le_refl, Bool.not_true, Bool.not_false, Bool.false_xor, Bool.true_xor, cond_true, cond_false, List.replicate, if_false, reduceIte, resAll, resA, ne_eq, decide_not, decide_true, decide_false, Int.reduceEq, Bool.not_true, Bool.not_false, not_true_eq_false, not_false_eq_true, cond_bool, cond_int, beq_self_eq_true, Int.reduceBEq, Bool.and_self, Bool.and_false, Bool.false_and, Bool.xor_false, Bool.xor_true, loadN_ldC, ldC_none, ldC_somes, stC_aggs, splice, storeN_stC, stC_int, stC_bool, stC_ptr, stC_nilp, stC_sl, stC_nils, getC_gcO, gcO_cells, W_draw_eq, ↓W_scope, ev_clear, evT, evF, evX, evM, ↓exitQ_normal, ↓exitQ_ret, ↓exitQ_exit, saA_self, saO_self, if_pos, if_neg, wrapI, get_concat, set_concat, Int.toNat_natCast, Int.toNat_zero, List.nil_append, Nat.mul_one, decide_eq_true, decide_eq_false, Int.reduceLE, Int.reduceLT, Int.reduceNeg, Bool.false_or, Bool.true_or, Bool.or_false, Bool.or_true, wrapU, Int.reduceAdd, Int.reduceSub, Int.reduceMul, List.append_assoc, List.length_append, get_mid, get_mid0, set_mid, set_mid0, List.length_set, List.length_cons, List.length_nil, List.cons_append, List.getElem?_append_left, List.set_append_left, get_at, get_at0, set_at, set_at0, List.getElem?_set_self, List.getElem?_set_ne]
      exact ⟨400 - (i + 1), by omega, i + 1, by omega, rfl, d, g, s, out, _, _, _, _, _, _, _, _, _, _, _, _, rfl, hS⟩
    refine W_mono (Q' := fun x e' m' => x = .normal ∧ ∃ (d g : Nat) (out y12 y13 y14 y15 y16 y17 y18 y19 y20 y21 y22 y23 : AV), e' = [.agg (cfC c0), .int .i64 p, bv, lv, .ptr bb 0, .bool false, .ptr j 0, all, .ptr xj 0, out, .int .i64 g, .int .i64 i, y12, y13, y14, y15, y16, y17, y18, y19, y20, y21, y22, y23] ∧ OlS M0 c p j xj xs i d g s out m') ?_ ?_
    · rcases Nat.lt_or_ge i ls.length with hil | hil
      · have hLm : SB m ls lv := hS.keep.sl (szj := 0) (szk := 0) hnx hnj hL4
        obtain ⟨hk, gxm, ⟨st1, o1, gjm, rm1⟩, ok, oi, own⟩ := hS
        have hd := oi.dl
        have hxd := dX_ok (c := c) (p := p) hx d
        obtain ⟨z, hz⟩ : ∃ z, ls[i]? = some z := ⟨_, List.getElem?_eq_getElem hil⟩
        have hzb := hl z (List.mem_of_getElem? hz)
        obtain ⟨kN, hkN⟩ : ∃ kN : Nat, z % 4 = kN := ⟨(z % 4).toNat, by omega⟩
        have ez : z.tmod 4 = kN := by rw [Int.tmod_eq_emod_of_nonneg (by omega), hkN]
        have ew : IntKind.u8.wrap (kN : Int) = kN := by
          have : IntKind.u8.wrap (kN : Int) = (kN : Int) % 256 := by simp only [IntKind.wrap, IntKind.bits, IntKind.signed, Bool.false_and]; simp
          omega
        obtain ⟨q, oo, cap, ro, L, rfl, b2, b3, b4, _⟩ := hLm.at (by omega)
        have b5 : L[oo + i]? = some (.int .u8 z) := by rw [sl_get b3 (by omega)]; simp [hz]
        have hth := thief_run (k := kN) (by omega) gjm rm1 hxd hp
        rw [ring_drop hx hp hd, List.length_drop] at hth
        simp only [cfC] at hth
        simp (disch := first | assumption | omega | (simp only [List.length_cons, List.length_nil, List.length_set, List.length_append] <;> omega) | (simp only [get_mid, get_mid0, List.cons_append, List.append_assoc, List.getElem?_cons_zero, List.getElem?_cons_succ])) only [oldF, oldB, sqN, law10_GetOldest, ek, ↓evW, ↓evQ, evB, evS, evL, List.map, AV.cells, List.all, AV.one, Bool.and_true, Bool.true_and, if_true, ↓thenQ_normal, ↓thenQ_exit, ↓thenQ_ret, ↓blockQ_normal, ↓blockQ_ret, ↓blockQ_exit, ↓CW_true, ↓CW_false, CW_true, CW_false, condT, condF, RQ_some, tupA_one, tupA_two, tupA_nil, Nat.reduceSub, Nat.reduceAdd, Nat.reduceMul, Nat.zero_add, Nat.add_zero, Nat.reduceLeDiff, Nat.reduceEqDiff, eqV, eqAll, fillA, and_self, and_true, true_and, Nat.le_refl, Bool.not_true, Bool.not_false, Bool.false_xor, Bool.true_xor, cond_true, cond_false, List.replicate, if_false, reduceIte, resAll, resA, ne_eq, decide_not, decide_true, decide_false, Int.reduceEq, Bool.not_true, Bool.not_false, not_true_eq_false, not_false_eq_true, cond_bool, cond_int, beq_self_eq_true, Int.reduceBEq, Bool.and_self, Bool.and_false, Bool.false_and, Bool.xor_false, Bool.xor_true, loadN_ldC, ldC_none, ldC_somes, stC_aggs, splice, storeN_stC, stC_int, stC_bool, stC_ptr, stC_nilp, stC_sl, stC_nils, getC_gcO, gcO_cells, W_draw_eq, ↓W_scope, ev_clear, evT, evF, evX, evM, ↓exitQ_normal, ↓exitQ_ret, ↓exitQ_exit, saA_self, saO_self, if_pos, if_neg, wrapI, get_concat, set_concat, Int.toNat_natCast, Int.toNat_zero, List.nil_append, Nat.mul_one, decide_eq_true, decide_eq_false, Int.reduceLE, Int.reduceLT, Int.reduceNeg, Bool.false_or, Bool.true_or, Bool.or_false, Bool.or_true, wrapU, Int.reduceAdd, Int.reduceSub, Int.reduceMul, List.append_assoc, List.length_append, get_mid, get_mid0, set_mid, set_mid0, List.length_set, List.length_cons, List.length_nil, List.cons_append, List.getElem?_append_left, List.set_append_left, get_at, get_at0, set_at, set_at0, List.getElem?_set_self, List.getElem?_set_ne, ev_len, hlenl, gbm, b2, b5, ez, ew, a139]
        refine OK_fn hth ?_
        rintro tk m2 ⟨k2, st2, st', o', j2, r2⟩
        rw [ring_drop hx hp hd] at st2
        rw [dX_add hx hp] at r2
        have hn : thN kN ((ringL c p xs).length - d) ≤ (ringL c p xs).length - d := by unfold thN; omega
        generalize thN kN ((ringL c p xs).length - d) = n at st2 r2 hn
        have x2 := k2.get gxm (fun h => by rw [h, gjm] at gxm; cases gxm)
        have own2 : Own M0 m2 1 ((ringL c p xs).take d).length (iC ((ringL c p xs).take d)) out := own.keep fun q C _ hq => k2.get hq (fun h => by rw [h, gjm] at hq; cases hq)
        have kk2 : KeepX xj j M0 m2 := ⟨by have := hk.1; have := k2.1; omega, fun a ha h1 h2 => by rw [k2.2 a (by have := hk.1; omega) h2, hk.2 a ha h1 h2]⟩
        obtain ⟨out', m3, happ, ho', hl3, hpre⟩ := own_pushs own2 st2 (by rw [List.length_take]; omega) (by rw [List.length_take, List.length_drop]; omega) kk2.1
        rw [← List.take_add] at ho'
        have hlt := st2.len
        rw [List.length_take, List.length_drop, Nat.min_eq_left hn] at hlt
        have lx2 : xj < m2.length := (List.getElem?_eq_some_iff.1 x2).1
        have lj2 : j < m2.length := (List.getElem?_eq_some_iff.1 j2).1
        have hk2 := kk2.1
        have hS3 : OlS M0 c p j xj xs i (d + n) (if 0 < n then g + 1 else g) s out' m3 := by
          refine ⟨⟨by omega, fun a ha h1 h2 => ?_⟩, ?_, ⟨st', o', ?_, r2⟩, ok, oi.thief (by omega), ho'⟩
          · rw [hpre a (by omega) (.inr ha)]; exact kk2.2 a ha h1 h2
          · rw [hpre _ lx2 (.inl fun ys h => by rw [x2] at h; cases h)]; exact x2
          · rw [hpre _ lj2 (.inl fun ys h => by rw [j2] at h; cases h)]; exact j2
        by_cases h0 : 0 < n
        · rw [if_pos h0] at hS3
          have hg := oi.gl
          simp (disch := first | assumption | omega | (simp only [List.length_cons, List.length_nil, List.length_set, List.length_append] <;> omega) | (simp only [get_mid, get_mid0, List.cons_append, List.append_assoc, List.getElem?_cons_zero, List.getElem?_cons_succ])) only [ek, ↓evW, ↓evQ, evB, evS, evL, List.map, AV.cells, List.all, AV.one, Bool.and_true, Bool.true_and, if_true, ↓thenQ_normal, ↓thenQ_exit, ↓thenQ_ret, ↓blockQ_normal, ↓blockQ_ret, ↓blockQ_exit, ↓CW_true, ↓CW_false, CW_true, CW_false, condT, condF, RQ_some, tupA_one, tupA_two, tupA_nil, Nat.reduceSub, Nat.reduceAdd, Nat.reduceMul, Nat.zero_add, Nat.add_zero, Nat.reduceLeDiff, Nat.reduceEqDiff, eqV, eqAll, fillA, and_self, and_true, true_and, Nat.le_refl, Bool.not_true, Bool.not_false, Bool.false_xor, Bool.true_xor, cond_true, cond_false, List.replicate, if_false, reduceIte, resAll, resA, ne_eq, decide_not, decide_true, decide_false, Int.reduceEq, Bool.not_true, Bool.not_false, not_true_eq_false, not_false_eq_true, cond_bool, cond_int, beq_self_eq_true, Int.reduceBEq, Bool.and_self, Bool.and_false, Bool.false_and, Bool.xor_false, Bool.xor_true, loadN_ldC, ldC_none, ldC_somes, stC_aggs, splice, storeN_stC, stC_int, stC_bool, stC_ptr, stC_nilp, stC_sl, stC_nils, getC_gcO, gcO_cells, W_draw_eq, ↓W_scope, ev_clear, evT, evF, evX, evM, ↓exitQ_normal, ↓exitQ_ret, ↓exitQ_exit, saA_self, saO_self, if_pos, if_neg, wrapI, get_concat, set_concat, Int.toNat_natCast, Int.toNat_zero, List.nil_append, Nat.mul_one, decide_eq_true, decide_eq_false, Int.reduceLE, Int.reduceLT, Int.reduceNeg, Bool.false_or, Bool.true_or, Bool.or_false, Bool.or_true, wrapU, Int.reduceAdd, Int.reduceSub, Int.reduceMul, List.append_assoc, List.length_append, get_mid, get_mid0, set_mid, set_mid0, List.length_set, List.length_cons, List.length_nil, List.cons_append, List.getElem?_append_left, List.set_append_left, get_at, get_at0, set_at, set_at0, List.getElem?_set_self, List.getElem?_set_ne, evA, happ, ev_len, hlt]
          exact ⟨d + n, g + 1, out', _, _, _, _, _, _, _, _, _, _, _, _, rfl, hS3⟩
        · rw [if_neg h0] at hS3
          simp (disch := first | assumption | omega | (simp only [List.length_cons, List.length_nil, List.length_set, List.length_append] <;> omega) | (simp only [get_mid, get_mid0, List.cons_append, List.append_assoc, List.getElem?_cons_zero, List.getElem?_cons_succ])) only [ek, ↓evW, ↓evQ, evB, evS, evL, List.map, AV.cells, List.all, AV.one, Bool.and_true, Bool.true_and, if_true, ↓thenQ_normal, ↓thenQ_exit, ↓thenQ_ret, ↓blockQ_normal, ↓blockQ_ret, ↓blockQ_exit, ↓CW_true, ↓CW_false, CW_true, CW_false, condT, condF, RQ_some, tupA_one, tupA_two, tupA_nil, Nat.reduceSub, Nat.reduceAdd, Nat.reduceMul, Nat.zero_add, Nat.add_zero, Nat.reduceLeDiff, Nat.reduceEqDiff, eqV, eqAll, fillA, and_self, and_true, true_and, Nat.le_refl, Bool.not_true, Bool.not_false, Bool.false_xor, Bool.true_xor, cond_true, cond_false, List.replicate, if_false, reduceIte, resAll, resA, ne_eq, decide_not, decide_true, decide_false, Int.reduceEq, Bool.not_true, Bool.not_false, not_true_eq_false, not_false_eq_true, cond_bool, cond_int, beq_self_eq_true, Int.reduceBEq, Bool.and_self, Bool.and_false, Bool.false_and, Bool.xor_false, Bool.xor_true, loadN_ldC, ldC_none, ldC_somes, stC_aggs, splice, storeN_stC, stC_int, stC_bool, stC_ptr, stC_nilp, stC_sl, stC_nils, getC_gcO, gcO_cells, W_draw_eq, ↓W_scope, ev_clear, evT, evF, evX, evM, ↓exitQ_normal, ↓exitQ_ret, ↓exitQ_exit, saA_self, saO_self, if_pos, if_neg, wrapI, get_concat, set_concat, Int.toNat_natCast, Int.toNat_zero, List.nil_append, Nat.mul_one, decide_eq_true, decide_eq_false, Int.reduceLE, Int.reduceLT, Int.reduceNeg, Bool.false_or, Bool.true_or, Bool.or_false, Bool.or_true, wrapU, Int.reduceAdd, Int.reduceSub, Int.reduceMul, List.append_assoc, List.length_append, get_mid, get_mid0, set_mid, set_mid0, List.length_set, List.length_cons, List.length_nil, List.cons_append, List.getElem?_append_left, List.set_append_left, get_at, get_at0, set_at, set_at0, List.getElem?_set_self, List.getElem?_set_ne, evA, happ, ev_len, hlt]
          exact ⟨d + n, g, out', _, _, _, _, _, _, _, _, _, _, _, _, rfl, hS3⟩
      · simp (disch := first | assumption | omega | (simp only [List.length_cons, List.length_nil, List.length_set, List.length_append] <;> omega) | (simp only [get_mid, get_mid0, List.cons_append, List.append_assoc, List.getElem?_cons_zero, List.getElem?_cons_succ])) only [oldF, oldB, sqN, law10_GetOldest, ek, ↓evW, ↓evQ, evB, evS, evL, List.map, AV.cells, List.all, AV.one, Bool.and_true, Bool.true_and, if_true, ↓thenQ_normal, ↓thenQ_exit, ↓thenQ_ret, ↓blockQ_normal, ↓blockQ_ret, ↓blockQ_exit, ↓CW_true, ↓CW_false, CW_true, CW_false, condT, condF, RQ_some, tupA_one, tupA_two, tupA_nil, Nat.reduceSub, Nat.reduceAdd, Nat.reduceMul, Nat.zero_add, Nat.add_zero, Nat.reduceLeDiff, Nat.reduceEqDiff, eqV, eqAll, fillA, and_self, and_true, true_and, Nat.le_refl, Bool.not_true, Bool.not_false, Bool.false_xor, Bool.true_xor, cond_true, cond_false, List.replicate, if_false, reduceIte, resAll, resA, ne_eq, decide_not, decide_true, decide_false, Int.reduceEq, Bool.not_true, Bool.not_false, not_true_eq_false, not_false_eq_true, cond_bool, cond_int, beq_self_eq_true, Int.reduceBEq, Bool.and_self, Bool.and_false, Bool.false_and, Bool.xor_false, Bool.xor_true, loadN_ldC, ldC_none, ldC_somes, stC_aggs, splice, storeN_stC, stC_int, stC_bool, stC_ptr, stC_nilp, stC_sl, stC_nils, getC_gcO, gcO_cells, W_draw_eq, ↓W_scope, ev_clear, evT, evF, evX, evM, ↓exitQ_normal, ↓exitQ_ret, ↓exitQ_exit, saA_self, saO_self, if_pos, if_neg, wrapI, get_concat, set_concat, Int.toNat_natCast, Int.toNat_zero, List.nil_append, Nat.mul_one, decide_eq_true, decide_eq_false, Int.reduceLE, Int.reduceLT, Int.reduceNeg, Bool.false_or, Bool.true_or, Bool.or_false, Bool.or_true, wrapU, Int.reduceAdd, Int.reduceSub, Int.reduceMul, List.append_assoc, List.length_append, get_mid, get_mid0, set_mid, set_mid0, List.length_set, List.length_cons, List.length_nil, List.cons_append, List.getElem?_append_left, List.set_append_left, get_at, get_at0, set_at, set_at0, List.getElem?_set_self, List.getElem?_set_ne, ev_len, hlenl]
        exact ⟨d, g, out, _, _, _, _, _, _, _, _, _, _, _, _, rfl, hS⟩
    · rintro _ e2 m2 ⟨rfl, d2, g2, out2, z12, z13, z14, z15, z16, z17, z18, z19, z20, z21, z22, z23, rfl, hS2⟩
      simp only [thenQ_normal]
      refine oldT_run hp hx gb4 hxb hS2 ha ?_ ?_
      · intro e m hN
        simp only [blockQ_exit, thenQ_normal]
        refine W_mono (hfinal e m hN) ?_
        rintro _ e' m' ⟨rfl, h⟩
        exact h
      · intro e m hN
        simp only [blockQ_normal, thenQ_normal]
        refine W_mono (hfinal e m hN) ?_
        rintro _ e' m' ⟨rfl, h⟩
        exact h
end Go.Am.F10
end
section
namespace Go.Am.F10
open Go.Am.F06
def Rw (m : MM) (q n sz : Nat) (l : List AV) (v : AV) : Prop := (n = 0 ∧ l = [] ∧ v = .nils) ∨ (0 < n ∧ v = .sl q 0 n none ∧ m[q]? = some (.cells sz false l))
theorem Rw.nil {m : MM} {q sz : Nat} : Rw m q 0 sz [] .nils := .inl ⟨rfl, rfl, rfl⟩
theorem Rw.sl {m : MM} {q n sz : Nat} {l : List AV} {v : AV} (h : Rw m q n sz l v) (hl : l.length = n * sz) : Sl m false sz n l v := by
  rcases h with ⟨rfl, rfl, rfl⟩ | ⟨_, rfl, h⟩
  · exact Sl.nil
  · exact ⟨hl, .inr ⟨q, 0, none, rfl, fun _ => ⟨false, l, h, by rw [List.drop_zero, ← hl, List.take_length], by omega, fun h => by cases h⟩⟩⟩
theorem Rw.lt {m : MM} {q n sz : Nat} {l : List AV} {v : AV} (h : Rw m q n sz l v) (hn : 0 < n) : q < m.length := by
  rcases h with ⟨rfl, _⟩ | ⟨_, _, h⟩
  · omega
  · exact (List.getElem?_eq_some_iff.1 h).1
theorem Rw.keep {m m' : MM} {q n sz : Nat} {l : List AV} {v : AV} (h : Rw m q n sz l v) (hq : 0 < n → m'[q]? = m[q]?) : Rw m' q n sz l v := by
  rcases h with h | ⟨h1, h2, h3⟩
  · exact .inl h
  · exact .inr ⟨h1, h2, by rw [hq h1]; exact h3⟩
theorem Rw.one {m : MM} {q n sz : Nat} {l : List AV} {v : AV} (h : Rw m q n sz l v) : v.one = true := by
  rcases h with ⟨_, _, rfl⟩ | ⟨_, rfl, _⟩ <;> rfl
theorem Rw.push {m : MM} {q n sz bytes : Nat} {l x : List AV} {v : AV} (h : Rw m q n sz l v) (hl : l.length = n * sz) (hx : x.length = sz) (h0 : l.all AV.one = true) (h1 : x.all AV.one = true) (hn : n ≤ 1000) (hb : bytes ≤ 100) :
    ∃ v' m', appendA sz bytes v (.sl m.length 0 1 (some 1)) (m ++ [.cells sz false x]) = some (v', m') ∧ Rw m' (m.length + 1) (n + 1) sz (l ++ x) v' ∧ m.length ≤ m'.length ∧ ∀ i, i < m.length → (n = 0 ∨ i ≠ q) → m'[i]? = m[i]? := by
  have hg : (m ++ [Chunk.cells sz false x])[m.length]? = some (.cells sz false x) := get_concat
  rcases h with ⟨rfl, rfl, rfl⟩ | ⟨hp, rfl, hq⟩
  · refine ⟨_, _, append_nils hg hx h1 (by omega), .inr ⟨by omega, by simp, ?_⟩, by simp <;> omega, fun i hi _ => ?_⟩
    · rw [show m.length + 1 = (m ++ [Chunk.cells sz false x]).length by simp, get_concat]; rfl
    · rw [List.getElem?_append_left (by simp <;> omega), List.getElem?_append_left hi]
  · have hql : q < m.length := (List.getElem?_eq_some_iff.1 hq).1
    have hq' : (m ++ [Chunk.cells sz false x])[q]? = some (.cells sz false l) := by rw [List.getElem?_append_left hql]; exact hq
    have hb2 : (n + 1) * bytes ≤ 35184372088832 := Nat.le_trans (Nat.mul_le_mul (show n + 1 ≤ 1001 by omega) hb) (by decide)
    refine ⟨_, _, append_none hq' hl hg hx h0 h1 hb2 (by omega), .inr ⟨by omega, by simp, ?_⟩, by simp <;> omega, fun i hi ho => ?_⟩
    · rw [show m.length + 1 = ((m ++ [Chunk.cells sz false x]).set q .dead).length by simp, get_concat]
    · have hqi : q ≠ i := by omega
      rw [List.getElem?_append_left (by simp <;> omega), List.getElem?_set_ne hqi, List.getElem?_append_left hi]
theorem wrap8 (z : Int) : IntKind.u8.wrap z = z % 256 := by
  simp only [IntKind.wrap, IntKind.bits, IntKind.signed, Bool.false_and]; simp
theorem u8_one (bs : List Int) : (bs.map (AV.int .u8)).all AV.one = true := by simp [AV.one]
theorem pk_one (ps : List Pk) : (ps.flatMap pkC).all AV.one = true := by
  rw [List.all_eq_true]
  intro x hx
  rw [List.mem_flatMap] at hx
  obtain ⟨a, _, hx⟩ := hx
  simp only [pkC, List.mem_cons, List.not_mem_nil, or_false] at hx
  rcases hx with rfl | rfl | rfl <;> rfl
def Gknown : List (Nat × AFun Ob) := [(133, c_docs_Made), (153, amFunc Gplays law10_GetPlays), (149, amFunc Ggall law10_GetAll), (143, amFunc Gold law10_GetOldest), (146, amFunc Gnone law10_GetNone), (132, pureF worksG)]
def KnI (k : Nat) (e : List AV) (_ : MM) : Prop := ∃ (n : Nat) (kk : Int) (y3 y4 y5 y6 y7 y8 y9 y10 : AV), e = [.bool false, .int .i64 kk, .int .i64 n, y3, y4, y5, y6, y7, y8, y9, y10] ∧ k = 60 - n ∧ n ≤ 60 ∧ 0 ≤ kk ∧ kk < 100003
structure Kn3 (mm : MM) (i : Nat) (bs ts : List Int) (ps : List Pk) (b l t : AV) (qb ql qt : Nat) : Prop where
  lb : bs.length = i
  lp : ps.length = i
  lt : ts.length = i
  hb : ∀ x, x ∈ bs → 0 ≤ x ∧ x < 256
  hp : ∀ x, x ∈ ps → W64 x.v
  ht : ∀ x, x ∈ ts → 0 ≤ x ∧ x < 256
  rb : Rw mm qb i 1 (bs.map (AV.int .u8)) b
  rl : Rw mm ql i 3 (ps.flatMap pkC) l
  rt : Rw mm qt i 1 (ts.map (AV.int .u8)) t
  ne : 0 < i → qb ≠ ql ∧ qb ≠ qt ∧ ql ≠ qt
def KnJ (n : Nat) (k : Nat) (e : List AV) (mm : MM) : Prop := ∃ (i : Nat) (kk : Int) (bs ts : List Int) (ps : List Pk) (b l t y7 y8 y9 y10 : AV) (qb ql qt : Nat),
  e = [.bool false, .int .i64 kk, .int .i64 n, b, l, t, .int .i64 i, y7, y8, y9, y10] ∧ k = 24 - i ∧ i ≤ 24 ∧ 0 ≤ kk ∧ kk < 100003 ∧ Kn3 mm i bs ts ps b l t qb ql qt
theorem pks_len (ps : List Pk) : (ps.flatMap pkC).length = ps.length * 3 := rows_len (f := pkC) (sz := 3) (fun _ => rfl) ps
set_option maxHeartbeats 16000000 in
theorem known_run {m0 : MM} : Fn Gknown law10_GetKnown [] m0 (fun r _ => r = .bool true) := by
  have a133 : assoc Gknown 133 = some c_docs_Made := rfl
  have a153 : assoc Gknown 153 = some (amFunc Gplays law10_GetPlays) := rfl
  have a149 : assoc Gknown 149 = some (amFunc Ggall law10_GetAll) := rfl
  have a143 : assoc Gknown 143 = some (amFunc Gold law10_GetOldest) := rfl
  have a146 : assoc Gknown 146 = some (amFunc Gnone law10_GetNone) := rfl
  have a132 : assoc Gknown 132 = some (pureF worksG) := rfl
  generalize Gknown = G at a133 a153 a149 a143 a146 a132 ⊢
  refine Fn_of rfl ?_
  simp (disch := first | assumption | omega | (simp only [List.length_cons, List.length_nil, List.length_set, List.length_append] <;> omega) | (simp only [get_mid, get_mid0, List.cons_append, List.append_assoc, List.getElem?_cons_zero, List.getElem?_cons_succ])) only [law10_GetKnown, ek, ↓evW, ↓evQ, evB, evS, evL, List.map, AV.cells, List.all, AV.one, Bool.and_true, Bool.true_and, if_true, ↓thenQ_normal, ↓thenQ_exit, ↓thenQ_ret, ↓blockQ_normal, ↓blockQ_ret, ↓blockQ_exit, ↓CW_true, ↓CW_false, CW_true, CW_false, condT, condF, RQ_some, tupA_one, tupA_two, tupA_nil, Nat.reduceSub, Nat.reduceAdd, Nat.reduceMul, Nat.zero_add, Nat.add_zero, Nat.reduceLeDiff, Nat.reduceEqDiff, eqV, eqAll, fillA, and_self, and_true, true_and, Nat.le_refl, Bool.not_true, Bool.not_false, Bool.false_xor, Bool.true_xor, cond_true, cond_false, List.replicate, if_false, reduceIte, resAll, resA, ne_eq, decide_not, decide_true, decide_false, Int.reduceEq, Bool.not_true, Bool.not_false, not_true_eq_false, not_false_eq_true, cond_bool, cond_int, beq_self_eq_true, Int.reduceBEq, Bool.and_self, Bool.and_false, Bool.false_and, Bool.xor_false, Bool.xor_true, loadN_ldC, ldC_none, ldC_somes, stC_aggs, splice, storeN_stC, stC_int, stC_bool, stC_ptr, stC_nilp, stC_sl, stC_nils, getC_gcO, gcO_cells, W_draw_eq, ↓W_scope, ev_clear, evT, evF, evX, evM, ↓exitQ_normal, ↓exitQ_ret, ↓exitQ_exit, saA_self, saO_self, if_pos, if_neg, wrapI, get_concat, set_concat, Int.toNat_natCast, Int.toNat_zero, List.nil_append, Nat.mul_one, decide_eq_true, decide_eq_false, Int.reduceLE, Int.reduceLT, Int.reduceNeg, Bool.false_or, Bool.true_or, Bool.or_false, Bool.or_true, wrapU, Int.reduceAdd, Int.reduceSub, Int.reduceMul, List.append_assoc, List.length_append, get_mid, get_mid0, set_mid, set_mid0, List.length_set, List.length_cons, List.length_nil, List.cons_append, List.getElem?_append_left, List.set_append_left, get_at, get_at0, set_at, set_at0, List.getElem?_set_self, List.getElem?_set_ne]
  refine W_loop KnI 60 (by simp only [FUEL]; omega) ⟨0, 1, _, _, _, _, _, _, _, _, rfl, rfl, by omega, by omega, by omega⟩ ?_
  rintro k e mm ⟨n, kk, y3, y4, y5, y6, y7, y8, y9, y10, rfl, rfl, hn, hk0, hk1⟩
  rcases Nat.lt_or_ge n 60 with hn6 | hn6
  · simp (disch := first | assumption | omega | (simp only [List.length_cons, List.length_nil, List.length_set, List.length_append] <;> omega) | (simp only [get_mid, get_mid0, List.cons_append, List.append_assoc, List.getElem?_cons_zero, List.getElem?_cons_succ])) only [ek, ↓evW, ↓evQ, evB, evS, evL, List.map, AV.cells, List.all, AV.one, Bool.and_true, Bool.true_and, if_true, ↓thenQ_normal, ↓thenQ_exit, ↓thenQ_ret, ↓blockQ_normal, ↓blockQ_ret, ↓blockQ_exit, ↓CW_true, ↓CW_false, CW_true, CW_false, condT, condF, RQ_some, tupA_one, tupA_two, tupA_nil, Nat.reduceSub, Nat.reduceAdd, Nat.reduceMul, Nat.zero_add, Nat.add_zero, Nat.reduceLeDiff, Nat.reduceEqDiff, eqV, eqAll, fillA, and_self, and_true, true_and, Nat.le_refl, Bool.not_true, Bool.not_false, Bool.false_xor, Bool.true_xor, cond_true, cond_false, List.replicate, if_false, reduceIte, resAll, resA, ne_eq, decide_not, decide_true, decide_false, Int.reduceEq, Bool.not_true, Bool.not_false, not_true_eq_false, not_false_eq_true, cond_bool, cond_int, beq_self_eq_true, Int.reduceBEq, Bool.and_self, Bool.and_false, Bool.false_and, Bool.xor_false, Bool.xor_true, loadN_ldC, ldC_none, ldC_somes, stC_aggs, splice, storeN_stC, stC_int, stC_bool, stC_ptr, stC_nilp, stC_sl, stC_nils, getC_gcO, gcO_cells, W_draw_eq, ↓W_scope, ev_clear, evT, evF, evX, evM, ↓exitQ_normal, ↓exitQ_ret, ↓exitQ_exit, saA_self, saO_self, if_pos, if_neg, wrapI, get_concat, set_concat, Int.toNat_natCast, Int.toNat_zero, List.nil_append, Nat.mul_one, decide_eq_true, decide_eq_false, Int.reduceLE, Int.reduceLT, Int.reduceNeg, Bool.false_or, Bool.true_or, Bool.or_false, Bool.or_true, wrapU, Int.reduceAdd, Int.reduceSub, Int.reduceMul, List.append_assoc, List.length_append, get_mid, get_mid0, set_mid, set_mid0, List.length_set, List.length_cons, List.length_nil, List.cons_append, List.getElem?_append_left, List.set_append_left, get_at, get_at0, set_at, set_at0, List.getElem?_set_self, List.getElem?_set_ne]
    refine W_loop (KnJ n) 24 (by simp only [FUEL]; omega) ⟨0, kk, [], [], [], .nils, .nils, .nils, _, _, _, _, 0, 0, 0, rfl, rfl, by omega, hk0, hk1, ⟨rfl, rfl, rfl, (fun x h => by cases h), (fun x h => by cases h), (fun x h => by cases h), Rw.nil, Rw.nil, Rw.nil, fun h => absurd h (Nat.lt_irrefl _)⟩⟩ ?_
    clear hk0 hk1
    rintro k e m ⟨i, kk, bs, ts, ps, b, l, t, z7, z8, z9, z10, qb, ql, qt, rfl, rfl, hi, hk0, hk1, h3⟩
    obtain ⟨lb, lp, lt, hb, hp, ht, rb, rl, rt, ne⟩ := h3
    rcases Nat.lt_or_ge i 24 with hi2 | hi2
    · have e5 : kk.tmod 5 = kk % 5 := Int.tmod_eq_emod_of_nonneg hk0
      have e6 : kk.tdiv 5 = kk / 5 := Int.tdiv_eq_ediv_of_nonneg hk0
      have e9 : kk.tmod 9 = kk % 9 := Int.tmod_eq_emod_of_nonneg hk0
      have e7 : kk.tmod 7 = kk % 7 := Int.tmod_eq_emod_of_nonneg hk0
      have h70 := Int.emod_nonneg kk (b := 7) (by omega)
      have h71 := Int.emod_lt_of_pos kk (b := 7) (by omega)
      have e3 : (kk % 7).tdiv 3 = kk % 7 / 3 := Int.tdiv_eq_ediv_of_nonneg h70
      have h50 := Int.emod_nonneg kk (b := 5) (by omega)
      have h51 := Int.emod_lt_of_pos kk (b := 5) (by omega)
      have h90 := Int.emod_nonneg kk (b := 9) (by omega)
      have h91 := Int.emod_lt_of_pos kk (b := 9) (by omega)
      have ekk : (kk * 31 + 7 * (i : Int) + 11).tmod 100003 = (kk * 31 + 7 * (i : Int) + 11) % 100003 := Int.tmod_eq_emod_of_nonneg (by omega)
      have hm0 := Int.emod_nonneg (kk * 31 + 7 * (i : Int) + 11) (b := 100003) (by omega)
      have hm1 := Int.emod_lt_of_pos (kk * 31 + 7 * (i : Int) + 11) (b := 100003) (by omega)
      obtain ⟨b', m1, hap1, rb1, hl1, hf1⟩ := rb.push (x := [.int .u8 (kk % 256)]) (bytes := 1) (by rw [List.length_map]; omega) rfl (u8_one _) rfl (by omega) (by omega)
      obtain ⟨l', m2, hap2, rl2, hl2, hf2⟩ := (rl.keep (m' := m1) (fun h => hf1 _ (rl.lt h) (.inr (ne h).1.symm))).push (x := pkC ⟨decide (kk % 5 = 0), kk / 5, kk % 9⟩) (bytes := 24) (by rw [pks_len]; omega) rfl (pk_one _) rfl (by omega) (by omega)
      have rt2 := (rt.keep (m' := m1) (fun h => hf1 _ (rt.lt h) (.inr (ne h).2.1.symm))).keep (m' := m2) (fun h => hf2 _ (by have := rt.lt h; omega) (.inr (ne h).2.2.symm))
      obtain ⟨t', m3, hap3, rt3, hl3, hf3⟩ := rt2.push (x := [.int .u8 (kk % 7 / 3 % 256)]) (bytes := 1) (by rw [List.length_map]; omega) rfl (u8_one _) rfl (by omega) (by omega)
      have hb1 := rb1.lt (by omega)
      have hb2 := rl2.lt (by omega)
      have hb3 := rt3.lt (by omega)
      have rb3 := (rb1.keep (m' := m2) (fun _ => hf2 _ hb1 (by
        by_cases h : 0 < i
        · have := rl.lt h; right; omega
        · left; omega))).keep (m' := m3) (fun _ => hf3 _ (by omega) (by
        by_cases h : 0 < i
        · have := rt.lt h; right; omega
        · left; omega))
      have rl3 := rl2.keep (m' := m3) (fun _ => hf3 _ (by omega) (by
        by_cases h : 0 < i
        · have := rt.lt h; right; omega
        · left; omega))
      have o1 := rb.one
      have o2 := rl.one
      have o3 := rt.one
      simp only [AV.one] at o1 o2 o3
      simp only [pkC] at hap2
      simp (disch := first | assumption | omega | (simp only [List.length_cons, List.length_nil, List.length_set, List.length_append] <;> omega) | (simp only [get_mid, get_mid0, List.cons_append, List.append_assoc, List.getElem?_cons_zero, List.getElem?_cons_succ])) only [ek, ↓evW, ↓evQ, evB, evS, evL, List.map, AV.cells, List.all, AV.one, Bool.and_true, Bool.true_and, if_true, ↓thenQ_normal, ↓thenQ_exit, ↓thenQ_ret, ↓blockQ_normal, ↓blockQ_ret, ↓blockQ_exit, ↓CW_true, ↓CW_false, CW_true, CW_false, condT, condF, RQ_some, tupA_one, tupA_two, tupA_nil, Nat.reduceSub, Nat.reduceAdd, Nat.reduceMul, Nat.zero_add, Nat.add_zero, Nat.reduceLeDiff, Nat.reduceEqDiff, eqV, eqAll, fillA, and_self, and_true, true_and, Nat.le_refl, Bool.not_true, Bool.not_false, Bool.false_xor, Bool.true_xor, cond_true, cond_false, List.replicate, if_false, reduceIte, resAll, resA, ne_eq, decide_not, decide_true, decide_false, Int.reduceEq, Bool.not_true, Bool.not_false, not_true_eq_false, not_false_eq_true, cond_bool, cond_int, beq_self_eq_true, Int.reduceBEq, Bool.and_self, Bool.and_false, Bool.false_and, Bool.xor_false, Bool.xor_true, loadN_ldC, ldC_none, ldC_somes, stC_aggs, splice, storeN_stC, stC_int, stC_bool, stC_ptr, stC_nilp, stC_sl, stC_nils, getC_gcO, gcO_cells, W_draw_eq, ↓W_scope, ev_clear, evT, evF, evX, evM, ↓exitQ_normal, ↓exitQ_ret, ↓exitQ_exit, saA_self, saO_self, if_pos, if_neg, wrapI, get_concat, set_concat, Int.toNat_natCast, Int.toNat_zero, List.nil_append, Nat.mul_one, decide_eq_true, decide_eq_false, Int.reduceLE, Int.reduceLT, Int.reduceNeg, Bool.false_or, Bool.true_or, Bool.or_false, Bool.or_true, wrapU, Int.reduceAdd, Int.reduceSub, Int.reduceMul, List.append_assoc, List.length_append, get_mid, get_mid0, set_mid, set_mid0, List.length_set, List.length_cons, List.length_nil, List.cons_append, List.getElem?_append_left, List.set_append_left, get_at, get_at0, set_at, set_at0, List.getElem?_set_self, List.getElem?_set_ne, evA, fillA, repeatL, List.flatten_cons, List.flatten_nil, wrap8, e5, e6, e9, e7, e3, ekk, o1, o2, o3, hap1, hap2, hap3]
      refine ⟨24 - (i + 1), by omega, i + 1, (kk * 31 + 7 * (i : Int) + 11) % 100003, bs ++ [kk % 256], ts ++ [kk % 7 / 3 % 256], ps ++ [⟨decide (kk % 5 = 0), kk / 5, kk % 9⟩], b', l', t', _, _, _, _, m.length + 1, m1.length + 1, m2.length + 1, rfl, rfl, by omega, hm0, hm1, ⟨by simp <;> omega, by simp <;> omega, by simp <;> omega, ?_, ?_, ?_, ?_, ?_, ?_, fun _ => ⟨?_, ?_, ?_⟩⟩⟩
      · intro x hx
        rcases List.mem_append.1 hx with h | h
        · exact hb x h
        · rw [List.mem_singleton.1 h]; omega
      · intro x hx
        rcases List.mem_append.1 hx with h | h
        · exact hp x h
        · rw [List.mem_singleton.1 h]; unfold W64; simp only; omega
      · intro x hx
        rcases List.mem_append.1 hx with h | h
        · exact ht x h
        · rw [List.mem_singleton.1 h]; omega
      · rw [List.map_append]; exact rb3
      · rw [List.flatMap_append]; simpa using rl3
      · rw [List.map_append]; exact rt3
      · omega
      · omega
      · omega
    · have fmade := fun m : MM => made_eq m ⟨kk, n, 9, 1, n, 1⟩
      have hri := made_right ⟨kk, n, 9, 1, n, 1⟩
      generalize madeC ⟨kk, n, 9, 1, n, 1⟩ = c at fmade hri
      have hbn := hri.1
      simp only [cfC] at fmade
      have sb : SB m bs b := by rw [← lb] at rb; exact rb.sl (by rw [List.length_map]; omega)
      have st : SB m ts t := by rw [← lt] at rt; exact rt.sl (by rw [List.length_map]; omega)
      have sl : SPk m false ps l := by rw [← lp] at rl; exact rl.sl (pks_len ps)
      simp (disch := first | assumption | omega | (simp only [List.length_cons, List.length_nil, List.length_set, List.length_append] <;> omega) | (simp only [get_mid, get_mid0, List.cons_append, List.append_assoc, List.getElem?_cons_zero, List.getElem?_cons_succ])) only [ek, ↓evW, ↓evQ, evB, evS, evL, List.map, AV.cells, List.all, AV.one, Bool.and_true, Bool.true_and, if_true, ↓thenQ_normal, ↓thenQ_exit, ↓thenQ_ret, ↓blockQ_normal, ↓blockQ_ret, ↓blockQ_exit, ↓CW_true, ↓CW_false, CW_true, CW_false, condT, condF, RQ_some, tupA_one, tupA_two, tupA_nil, Nat.reduceSub, Nat.reduceAdd, Nat.reduceMul, Nat.zero_add, Nat.add_zero, Nat.reduceLeDiff, Nat.reduceEqDiff, eqV, eqAll, fillA, and_self, and_true, true_and, Nat.le_refl, Bool.not_true, Bool.not_false, Bool.false_xor, Bool.true_xor, cond_true, cond_false, List.replicate, if_false, reduceIte, resAll, resA, ne_eq, decide_not, decide_true, decide_false, Int.reduceEq, Bool.not_true, Bool.not_false, not_true_eq_false, not_false_eq_true, cond_bool, cond_int, beq_self_eq_true, Int.reduceBEq, Bool.and_self, Bool.and_false, Bool.false_and, Bool.xor_false, Bool.xor_true, loadN_ldC, ldC_none, ldC_somes, stC_aggs, splice, storeN_stC, stC_int, stC_bool, stC_ptr, stC_nilp, stC_sl, stC_nils, getC_gcO, gcO_cells, W_draw_eq, ↓W_scope, ev_clear, evT, evF, evX, evM, ↓exitQ_normal, ↓exitQ_ret, ↓exitQ_exit, saA_self, saO_self, if_pos, if_neg, wrapI, get_concat, set_concat, Int.toNat_natCast, Int.toNat_zero, List.nil_append, Nat.mul_one, decide_eq_true, decide_eq_false, Int.reduceLE, Int.reduceLT, Int.reduceNeg, Bool.false_or, Bool.true_or, Bool.or_false, Bool.or_true, wrapU, Int.reduceAdd, Int.reduceSub, Int.reduceMul, List.append_assoc, List.length_append, get_mid, get_mid0, set_mid, set_mid0, List.length_set, List.length_cons, List.length_nil, List.cons_append, List.getElem?_append_left, List.set_append_left, get_at, get_at0, set_at, set_at0, List.getElem?_set_self, List.getElem?_set_ne, a133, fmade, a153]
      have hkM : ∀ K : MM, Keep m (m ++ K) := fun K => .app _ _
      have h1 := fun (M : MM) (hM : Keep m M) (p : Int) => plays_run (c := c) (p := p) (sb.keep hM) hb (sl.keep hM) hp
      have h2 := fun (M : MM) (hM : Keep m M) (p : Int) => plays_run (m0 := M) (c := c) (p := p) (ps := []) (lv := .nils) (sb.keep hM) hb Sl.nil (fun x h => by cases h)
      have h4 := fun (M : MM) (hM : Keep m M) (p : Int) => getall_run (c := c) (p := p) (sb.keep hM) hb
      have h5 := fun (M : MM) (hM : Keep m M) (p : Int) => oldest_run (c0 := c) (p0 := p) (sb.keep hM) hb (st.keep hM) ht
      have h6 := fun (M : MM) (p : Int) => none_run M c p
      simp only [cfC] at h1 h2 h4 h5 h6
      refine OK_fn (h1 _ (hkM _) _) ?_
      rintro _ m1 ⟨rfl, k1⟩
      have g1 := k1.get (i := m.length + 2) (by rw [get_mid]; rfl)
      have km1 := (hkM _).trans k1
      clear k1 hkM h1
      simp (disch := first | assumption | omega | (simp only [List.length_cons, List.length_nil, List.length_set, List.length_append] <;> omega) | (simp only [get_mid, get_mid0, List.cons_append, List.append_assoc, List.getElem?_cons_zero, List.getElem?_cons_succ])) only [ek, ↓evW, ↓evQ, evB, evS, evL, List.map, AV.cells, List.all, AV.one, Bool.and_true, Bool.true_and, if_true, ↓thenQ_normal, ↓thenQ_exit, ↓thenQ_ret, ↓blockQ_normal, ↓blockQ_ret, ↓blockQ_exit, ↓CW_true, ↓CW_false, CW_true, CW_false, condT, condF, RQ_some, tupA_one, tupA_two, tupA_nil, Nat.reduceSub, Nat.reduceAdd, Nat.reduceMul, Nat.zero_add, Nat.add_zero, Nat.reduceLeDiff, Nat.reduceEqDiff, eqV, eqAll, fillA, and_self, and_true, true_and, Nat.le_refl, Bool.not_true, Bool.not_false, Bool.false_xor, Bool.true_xor, cond_true, cond_false, List.replicate, if_false, reduceIte, resAll, resA, ne_eq, decide_not, decide_true, decide_false, Int.reduceEq, Bool.not_true, Bool.not_false, not_true_eq_false, not_false_eq_true, cond_bool, cond_int, beq_self_eq_true, Int.reduceBEq, Bool.and_self, Bool.and_false, Bool.false_and, Bool.xor_false, Bool.xor_true, loadN_ldC, ldC_none, ldC_somes, stC_aggs, splice, storeN_stC, stC_int, stC_bool, stC_ptr, stC_nilp, stC_sl, stC_nils, getC_gcO, gcO_cells, W_draw_eq, ↓W_scope, ev_clear, evT, evF, evX, evM, ↓exitQ_normal, ↓exitQ_ret, ↓exitQ_exit, saA_self, saO_self, if_pos, if_neg, wrapI, get_concat, set_concat, Int.toNat_natCast, Int.toNat_zero, List.nil_append, Nat.mul_one, decide_eq_true, decide_eq_false, Int.reduceLE, Int.reduceLT, Int.reduceNeg, Bool.false_or, Bool.true_or, Bool.or_false, Bool.or_true, wrapU, Int.reduceAdd, Int.reduceSub, Int.reduceMul, List.append_assoc, List.length_append, get_mid, get_mid0, set_mid, set_mid0, List.length_set, List.length_cons, List.length_nil, List.cons_append, List.getElem?_append_left, List.set_append_left, get_at, get_at0, set_at, set_at0, List.getElem?_set_self, List.getElem?_set_ne, g1, a153]
      refine OK_fn (h2 _ km1 _) ?_
      rintro _ m2 ⟨rfl, k2⟩
      have g2 := k2.get g1
      have km2 := km1.trans k2
      simp (disch := first | assumption | omega | (simp only [List.length_cons, List.length_nil, List.length_set, List.length_append] <;> omega) | (simp only [get_mid, get_mid0, List.cons_append, List.append_assoc, List.getElem?_cons_zero, List.getElem?_cons_succ])) only [ek, ↓evW, ↓evQ, evB, evS, evL, List.map, AV.cells, List.all, AV.one, Bool.and_true, Bool.true_and, if_true, ↓thenQ_normal, ↓thenQ_exit, ↓thenQ_ret, ↓blockQ_normal, ↓blockQ_ret, ↓blockQ_exit, ↓CW_true, ↓CW_false, CW_true, CW_false, condT, condF, RQ_some, tupA_one, tupA_two, tupA_nil, Nat.reduceSub, Nat.reduceAdd, Nat.reduceMul, Nat.zero_add, Nat.add_zero, Nat.reduceLeDiff, Nat.reduceEqDiff, eqV, eqAll, fillA, and_self, and_true, true_and, Nat.le_refl, Bool.not_true, Bool.not_false, Bool.false_xor, Bool.true_xor, cond_true, cond_false, List.replicate, if_false, reduceIte, resAll, resA, ne_eq, decide_not, decide_true, decide_false, Int.reduceEq, Bool.not_true, Bool.not_false, not_true_eq_false, not_false_eq_true, cond_bool, cond_int, beq_self_eq_true, Int.reduceBEq, Bool.and_self, Bool.and_false, Bool.false_and, Bool.xor_false, Bool.xor_true, loadN_ldC, ldC_none, ldC_somes, stC_aggs, splice, storeN_stC, stC_int, stC_bool, stC_ptr, stC_nilp, stC_sl, stC_nils, getC_gcO, gcO_cells, W_draw_eq, ↓W_scope, ev_clear, evT, evF, evX, evM, ↓exitQ_normal, ↓exitQ_ret, ↓exitQ_exit, saA_self, saO_self, if_pos, if_neg, wrapI, get_concat, set_concat, Int.toNat_natCast, Int.toNat_zero, List.nil_append, Nat.mul_one, decide_eq_true, decide_eq_false, Int.reduceLE, Int.reduceLT, Int.reduceNeg, Bool.false_or, Bool.true_or, Bool.or_false, Bool.or_true, wrapU, Int.reduceAdd, Int.reduceSub, Int.reduceMul, List.append_assoc, List.length_append, get_mid, get_mid0, set_mid, set_mid0, List.length_set, List.length_cons, List.length_nil, List.cons_append, List.getElem?_append_left, List.set_append_left, get_at, get_at0, set_at, set_at0, List.getElem?_set_self, List.getElem?_set_ne, g2, a149]
      refine OK_fn (h4 _ km2 _) ?_
      rintro _ m3 ⟨rfl, k3⟩
      have g3 := k3.get g2
      have km3 := km2.trans k3
      simp (disch := first | assumption | omega | (simp only [List.length_cons, List.length_nil, List.length_set, List.length_append] <;> omega) | (simp only [get_mid, get_mid0, List.cons_append, List.append_assoc, List.getElem?_cons_zero, List.getElem?_cons_succ])) only [ek, ↓evW, ↓evQ, evB, evS, evL, List.map, AV.cells, List.all, AV.one, Bool.and_true, Bool.true_and, if_true, ↓thenQ_normal, ↓thenQ_exit, ↓thenQ_ret, ↓blockQ_normal, ↓blockQ_ret, ↓blockQ_exit, ↓CW_true, ↓CW_false, CW_true, CW_false, condT, condF, RQ_some, tupA_one, tupA_two, tupA_nil, Nat.reduceSub, Nat.reduceAdd, Nat.reduceMul, Nat.zero_add, Nat.add_zero, Nat.reduceLeDiff, Nat.reduceEqDiff, eqV, eqAll, fillA, and_self, and_true, true_and, Nat.le_refl, Bool.not_true, Bool.not_false, Bool.false_xor, Bool.true_xor, cond_true, cond_false, List.replicate, if_false, reduceIte, resAll, resA, ne_eq, decide_not, decide_true, decide_false, Int.reduceEq, Bool.not_true, Bool.not_false, not_true_eq_false, not_false_eq_true, cond_bool, cond_int, beq_self_eq_true, Int.reduceBEq, Bool.and_self, Bool.and_false, Bool.false_and, Bool.xor_false, Bool.xor_true, loadN_ldC, ldC_none, ldC_somes, stC_aggs, splice, storeN_stC, stC_int, stC_bool, stC_ptr, stC_nilp, stC_sl, stC_nils, getC_gcO, gcO_cells, W_draw_eq, ↓W_scope, ev_clear, evT, evF, evX, evM, ↓exitQ_normal, ↓exitQ_ret, ↓exitQ_exit, saA_self, saO_self, if_pos, if_neg, wrapI, get_concat, set_concat, Int.toNat_natCast, Int.toNat_zero, List.nil_append, Nat.mul_one, decide_eq_true, decide_eq_false, Int.reduceLE, Int.reduceLT, Int.reduceNeg, Bool.false_or, Bool.true_or, Bool.or_false, Bool.or_true, wrapU, Int.reduceAdd, Int.reduceSub, Int.reduceMul, List.append_assoc, List.length_append, get_mid, get_mid0, set_mid, set_mid0, List.length_set, List.length_cons, List.length_nil, List.cons_append, List.getElem?_append_left, List.set_append_left, get_at, get_at0, set_at, set_at0, List.getElem?_set_self, List.getElem?_set_ne, g3, a143]
      refine OK_fn (h5 _ km3 _) ?_
      rintro _ m4 ⟨rfl, k4⟩
      have g4 := k4.get g3
      simp (disch := first | assumption | omega | (simp only [List.length_cons, List.length_nil, List.length_set, List.length_append] <;> omega) | (simp only [get_mid, get_mid0, List.cons_append, List.append_assoc, List.getElem?_cons_zero, List.getElem?_cons_succ])) only [ek, ↓evW, ↓evQ, evB, evS, evL, List.map, AV.cells, List.all, AV.one, Bool.and_true, Bool.true_and, if_true, ↓thenQ_normal, ↓thenQ_exit, ↓thenQ_ret, ↓blockQ_normal, ↓blockQ_ret, ↓blockQ_exit, ↓CW_true, ↓CW_false, CW_true, CW_false, condT, condF, RQ_some, tupA_one, tupA_two, tupA_nil, Nat.reduceSub, Nat.reduceAdd, Nat.reduceMul, Nat.zero_add, Nat.add_zero, Nat.reduceLeDiff, Nat.reduceEqDiff, eqV, eqAll, fillA, and_self, and_true, true_and, Nat.le_refl, Bool.not_true, Bool.not_false, Bool.false_xor, Bool.true_xor, cond_true, cond_false, List.replicate, if_false, reduceIte, resAll, resA, ne_eq, decide_not, decide_true, decide_false, Int.reduceEq, Bool.not_true, Bool.not_false, not_true_eq_false, not_false_eq_true, cond_bool, cond_int, beq_self_eq_true, Int.reduceBEq, Bool.and_self, Bool.and_false, Bool.false_and, Bool.xor_false, Bool.xor_true, loadN_ldC, ldC_none, ldC_somes, stC_aggs, splice, storeN_stC, stC_int, stC_bool, stC_ptr, stC_nilp, stC_sl, stC_nils, getC_gcO, gcO_cells, W_draw_eq, ↓W_scope, ev_clear, evT, evF, evX, evM, ↓exitQ_normal, ↓exitQ_ret, ↓exitQ_exit, saA_self, saO_self, if_pos, if_neg, wrapI, get_concat, set_concat, Int.toNat_natCast, Int.toNat_zero, List.nil_append, Nat.mul_one, decide_eq_true, decide_eq_false, Int.reduceLE, Int.reduceLT, Int.reduceNeg, Bool.false_or, Bool.true_or, Bool.or_false, Bool.or_true, wrapU, Int.reduceAdd, Int.reduceSub, Int.reduceMul, List.append_assoc, List.length_append, get_mid, get_mid0, set_mid, set_mid0, List.length_set, List.length_cons, List.length_nil, List.cons_append, List.getElem?_append_left, List.set_append_left, get_at, get_at0, set_at, set_at0, List.getElem?_set_self, List.getElem?_set_ne, g4, a146]
      refine OK_fn (h6 _ _) ?_
      rintro _ m5 ⟨rfl, k5⟩
      simp (disch := first | assumption | omega | (simp only [List.length_cons, List.length_nil, List.length_set, List.length_append] <;> omega) | (simp only [get_mid, get_mid0, List.cons_append, List.append_assoc, List.getElem?_cons_zero, List.getElem?_cons_succ])) only [ek, ↓evW, ↓evQ, evB, evS, evL, List.map, AV.cells, List.all, AV.one, Bool.and_true, Bool.true_and, if_true, ↓thenQ_normal, ↓thenQ_exit, ↓thenQ_ret, ↓blockQ_normal, ↓blockQ_ret, ↓blockQ_exit, ↓CW_true, ↓CW_false, CW_true, CW_false, condT, condF, RQ_some, tupA_one, tupA_two, tupA_nil, Nat.reduceSub, Nat.reduceAdd, Nat.reduceMul, Nat.zero_add, Nat.add_zero, Nat.reduceLeDiff, Nat.reduceEqDiff, eqV, eqAll, fillA, and_self, and_true, true_and, Nat.le_refl, Bool.not_true, Bool.not_false, Bool.false_xor, Bool.true_xor, cond_true, cond_false, List.replicate, if_false, reduceIte, resAll, resA, ne_eq, decide_not, decide_true, decide_false, Int.reduceEq, Bool.not_true, Bool.not_false, not_true_eq_false, not_false_eq_true, cond_bool, cond_int, beq_self_eq_true, Int.reduceBEq, Bool.and_self, Bool.and_false, Bool.false_and, Bool.xor_false, Bool.xor_true, loadN_ldC, ldC_none, ldC_somes, stC_aggs, splice, storeN_stC, stC_int, stC_bool, stC_ptr, stC_nilp, stC_sl, stC_nils, getC_gcO, gcO_cells, W_draw_eq, ↓W_scope, ev_clear, evT, evF, evX, evM, ↓exitQ_normal, ↓exitQ_ret, ↓exitQ_exit, saA_self, saO_self, if_pos, if_neg, wrapI, get_concat, set_concat, Int.toNat_natCast, Int.toNat_zero, List.nil_append, Nat.mul_one, decide_eq_true, decide_eq_false, Int.reduceLE, Int.reduceLT, Int.reduceNeg, Bool.false_or, Bool.true_or, Bool.or_false, Bool.or_true, wrapU, Int.reduceAdd, Int.reduceSub, Int.reduceMul, List.append_assoc, List.length_append, get_mid, get_mid0, set_mid, set_mid0, List.length_set, List.length_cons, List.length_nil, List.cons_append, List.getElem?_append_left, List.set_append_left, get_at, get_at0, set_at, set_at0, List.getElem?_set_self, List.getElem?_set_ne]
      exact ⟨60 - (n + 1), by omega, n + 1, kk, _, _, _, _, _, _, _, _, rfl, rfl, by omega, hk0, hk1⟩
  · simp (disch := first | assumption | omega | (simp only [List.length_cons, List.length_nil, List.length_set, List.length_append] <;> omega) | (simp only [get_mid, get_mid0, List.cons_append, List.append_assoc, List.getElem?_cons_zero, List.getElem?_cons_succ])) only [ek, ↓evW, ↓evQ, evB, evS, evL, List.map, AV.cells, List.all, AV.one, Bool.and_true, Bool.true_and, if_true, ↓thenQ_normal, ↓thenQ_exit, ↓thenQ_ret, ↓blockQ_normal, ↓blockQ_ret, ↓blockQ_exit, ↓CW_true, ↓CW_false, CW_true, CW_false, condT, condF, RQ_some, tupA_one, tupA_two, tupA_nil, Nat.reduceSub, Nat.reduceAdd, Nat.reduceMul, Nat.zero_add, Nat.add_zero, Nat.reduceLeDiff, Nat.reduceEqDiff, eqV, eqAll, fillA, and_self, and_true, true_and, Nat.le_refl, Bool.not_true, Bool.not_false, Bool.false_xor, Bool.true_xor, cond_true, cond_false, List.replicate, if_false, reduceIte, resAll, resA, ne_eq, decide_not, decide_true, decide_false, Int.reduceEq, Bool.not_true, Bool.not_false, not_true_eq_false, not_false_eq_true, cond_bool, cond_int, beq_self_eq_true, Int.reduceBEq, Bool.and_self, Bool.and_false, Bool.false_and, Bool.xor_false, Bool.xor_true, loadN_ldC, ldC_none, ldC_somes, stC_aggs, splice, storeN_stC, stC_int, stC_bool, stC_ptr, stC_nilp, stC_sl, stC_nils, getC_gcO, gcO_cells, W_draw_eq, ↓W_scope, ev_clear, evT, evF, evX, evM, ↓exitQ_normal, ↓exitQ_ret, ↓exitQ_exit, saA_self, saO_self, if_pos, if_neg, wrapI, get_concat, set_concat, Int.toNat_natCast, Int.toNat_zero, List.nil_append, Nat.mul_one, decide_eq_true, decide_eq_false, Int.reduceLE, Int.reduceLT, Int.reduceNeg, Bool.false_or, Bool.true_or, Bool.or_false, Bool.or_true, wrapU, Int.reduceAdd, Int.reduceSub, Int.reduceMul, List.append_assoc, List.length_append, get_mid, get_mid0, set_mid, set_mid0, List.length_set, List.length_cons, List.length_nil, List.cons_append, List.getElem?_append_left, List.set_append_left, get_at, get_at0, set_at, set_at0, List.getElem?_set_self, List.getElem?_set_ne, evA, fillA, repeatL, List.flatten_cons, List.flatten_nil, a153]
    have hps : SPk (mm ++ [Chunk.cells 3 false [.bool false, .int .i64 0, .int .u64 0]]) false [⟨false, 0, 0⟩] (.sl mm.length 0 1 (some 1)) := ⟨rfl, .inr ⟨_, _, _, rfl, fun _ => ⟨false, _, get_concat, rfl, by simp, fun h => by cases h⟩⟩⟩
    have h1 := plays_run (c := ⟨0, 0, 0, 0, 0, 0⟩) (p := 0) (bs := []) (bv := .nils) Sl.nil (fun x h => by cases h) hps (fun x h => by
      rw [List.mem_singleton.1 h]; unfold W64; simp)
    simp only [cfC] at h1
    refine OK_fn h1 ?_
    rintro _ m1 ⟨rfl, _⟩
    simp (disch := first | assumption | omega | (simp only [List.length_cons, List.length_nil, List.length_set, List.length_append] <;> omega) | (simp only [get_mid, get_mid0, List.cons_append, List.append_assoc, List.getElem?_cons_zero, List.getElem?_cons_succ])) only [ek, ↓evW, ↓evQ, evB, evS, evL, List.map, AV.cells, List.all, AV.one, Bool.and_true, Bool.true_and, if_true, ↓thenQ_normal, ↓thenQ_exit, ↓thenQ_ret, ↓blockQ_normal, ↓blockQ_ret, ↓blockQ_exit, ↓CW_true, ↓CW_false, CW_true, CW_false, condT, condF, RQ_some, tupA_one, tupA_two, tupA_nil, Nat.reduceSub, Nat.reduceAdd, Nat.reduceMul, Nat.zero_add, Nat.add_zero, Nat.reduceLeDiff, Nat.reduceEqDiff, eqV, eqAll, fillA, and_self, and_true, true_and, Nat.le_refl, Bool.not_true, Bool.not_false, Bool.false_xor, Bool.true_xor, cond_true, cond_false, List.replicate, if_false, reduceIte, resAll, resA, ne_eq, decide_not, decide_true, decide_false, Int.reduceEq, Bool.not_true, Bool.not_false, not_true_eq_false, not_false_eq_true, cond_bool, cond_int, beq_self_eq_true, Int.reduceBEq, Bool.and_self, Bool.and_false, Bool.false_and, Bool.xor_false, Bool.xor_true, loadN_ldC, ldC_none, ldC_somes, stC_aggs, splice, storeN_stC, stC_int, stC_bool, stC_ptr, stC_nilp, stC_sl, stC_nils, getC_gcO, gcO_cells, W_draw_eq, ↓W_scope, ev_clear, evT, evF, evX, evM, ↓exitQ_normal, ↓exitQ_ret, ↓exitQ_exit, saA_self, saO_self, if_pos, if_neg, wrapI, get_concat, set_concat, Int.toNat_natCast, Int.toNat_zero, List.nil_append, Nat.mul_one, decide_eq_true, decide_eq_false, Int.reduceLE, Int.reduceLT, Int.reduceNeg, Bool.false_or, Bool.true_or, Bool.or_false, Bool.or_true, wrapU, Int.reduceAdd, Int.reduceSub, Int.reduceMul, List.append_assoc, List.length_append, get_mid, get_mid0, set_mid, set_mid0, List.length_set, List.length_cons, List.length_nil, List.cons_append, List.getElem?_append_left, List.set_append_left, get_at, get_at0, set_at, set_at0, List.getElem?_set_self, List.getElem?_set_ne, a149]
    have h2 := getall_run (m0 := m1) (c := ⟨0, 3, 0, 0, 0, 0⟩) (p := 0) (bs := []) (bv := .nils) Sl.nil (fun x h => by cases h)
    simp only [cfC] at h2
    refine OK_fn h2 ?_
    rintro _ m2 ⟨rfl, _⟩
    simp (disch := first | assumption | omega | (simp only [List.length_cons, List.length_nil, List.length_set, List.length_append] <;> omega) | (simp only [get_mid, get_mid0, List.cons_append, List.append_assoc, List.getElem?_cons_zero, List.getElem?_cons_succ])) only [ek, ↓evW, ↓evQ, evB, evS, evL, List.map, AV.cells, List.all, AV.one, Bool.and_true, Bool.true_and, if_true, ↓thenQ_normal, ↓thenQ_exit, ↓thenQ_ret, ↓blockQ_normal, ↓blockQ_ret, ↓blockQ_exit, ↓CW_true, ↓CW_false, CW_true, CW_false, condT, condF, RQ_some, tupA_one, tupA_two, tupA_nil, Nat.reduceSub, Nat.reduceAdd, Nat.reduceMul, Nat.zero_add, Nat.add_zero, Nat.reduceLeDiff, Nat.reduceEqDiff, eqV, eqAll, fillA, and_self, and_true, true_and, Nat.le_refl, Bool.not_true, Bool.not_false, Bool.false_xor, Bool.true_xor, cond_true, cond_false, List.replicate, if_false, reduceIte, resAll, resA, ne_eq, decide_not, decide_true, decide_false, Int.reduceEq, Bool.not_true, Bool.not_false, not_true_eq_false, not_false_eq_true, cond_bool, cond_int, beq_self_eq_true, Int.reduceBEq, Bool.and_self, Bool.and_false, Bool.false_and, Bool.xor_false, Bool.xor_true, loadN_ldC, ldC_none, ldC_somes, stC_aggs, splice, storeN_stC, stC_int, stC_bool, stC_ptr, stC_nilp, stC_sl, stC_nils, getC_gcO, gcO_cells, W_draw_eq, ↓W_scope, ev_clear, evT, evF, evX, evM, ↓exitQ_normal, ↓exitQ_ret, ↓exitQ_exit, saA_self, saO_self, if_pos, if_neg, wrapI, get_concat, set_concat, Int.toNat_natCast, Int.toNat_zero, List.nil_append, Nat.mul_one, decide_eq_true, decide_eq_false, Int.reduceLE, Int.reduceLT, Int.reduceNeg, Bool.false_or, Bool.true_or, Bool.or_false, Bool.or_true, wrapU, Int.reduceAdd, Int.reduceSub, Int.reduceMul, List.append_assoc, List.length_append, get_mid, get_mid0, set_mid, set_mid0, List.length_set, List.length_cons, List.length_nil, List.cons_append, List.getElem?_append_left, List.set_append_left, get_at, get_at0, set_at, set_at0, List.getElem?_set_self, List.getElem?_set_ne, a132, pureF, worksG]
end Go.Am.F10
end
