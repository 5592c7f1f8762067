import Derived.Test.YtgfddegdjdeeoaaXG21
set_option linter.unusedSimpArgs false
set_option linter.unusedVariables false
section
namespace Go.Am.F09
open Go.Am.F06 Go.Am.F10
set_option maxHeartbeats 16000000 in
theorem rlstep_run {m : MM} {wr : Bool} {c : Cf} {p o : Int} {s : LS} {xs : List Int} {v lv : AV} (hs : SU m wr xs v) (hl : SI m false s.ls lv) (hnx : 0 < s.ls.length → Nx m lv) (hok : LOk c p s) (hx : s.a = 0 ∨ OkL c xs) :
    Fn Grl2 ref09_StepLay [.agg (rlC c p s lv), .agg (memC v o)] m (RyP m c p (stepL c p xs s) (opsL s o)) := by
  have hone := slOne hs
  have hone2 := slOne hl
  simp only [AV.one] at hone hone2
  have hlen := hl.len
  have hl' := fun K : MM => hl.keep (Keep.app m K)
  have hnx' := fun (K : MM) h => (hnx h).keep (Keep.app m K)
  by_cases h0 : s.a = 0
  · have e1 : stepL c p xs s = (s, xs) := if_pos h0
    have e2 : opsL s o = o := if_pos h0
    rw [e1, e2]
    generalize Grl2 = G
    refine Fn_of rfl ?_
    simp (disch := first | assumption | omega | (simp only [List.length_cons, List.length_nil, List.length_set, List.length_append] <;> omega) | (simp only [get_mid, get_mid0, List.cons_append, List.append_assoc, List.getElem?_cons_zero, List.getElem?_cons_succ])) only [ref09_StepLay, ek, ↓evW, ↓evQ, evB, evS, evL, List.map, AV.cells, List.all, AV.one, Bool.and_true, Bool.true_and, if_true, ↓thenQ_normal, ↓thenQ_exit, ↓thenQ_ret, ↓blockQ_normal, ↓blockQ_ret, ↓blockQ_exit, ↓CW_true, ↓CW_false, CW_true, CW_false, condT, condF, RQ_some, tupA_one, tupA_two, tupA_nil, Nat.reduceSub, Nat.reduceAdd, Nat.reduceMul, Nat.zero_add, Nat.add_zero, Nat.reduceLeDiff, Nat.reduceEqDiff, eqV, eqAll, fillA, and_self, and_true, true_and, Nat.le_refl, Bool.not_true, Bool.not_false, Bool.false_xor, Bool.true_xor, cond_true, cond_false, List.replicate, if_false, reduceIte, resAll, resA, ne_eq, decide_not, decide_true, decide_false, Int.reduceEq, Bool.not_true, Bool.not_false, not_true_eq_false, not_false_eq_true, cond_bool, cond_int, beq_self_eq_true, Int.reduceBEq, Bool.and_self, Bool.and_false, Bool.false_and, Bool.xor_false, Bool.xor_true, loadN_ldC, ldC_none, ldC_somes, stC_aggs, splice, storeN_stC, stC_int, stC_bool, stC_ptr, stC_nilp, stC_sl, stC_nils, getC_gcO, gcO_cells, W_draw_eq, ↓W_scope, ev_clear, evT, evF, evX, evM, ↓exitQ_normal, ↓exitQ_ret, ↓exitQ_exit, saA_self, saO_self, if_pos, if_neg, wrapI, get_concat, set_concat, Int.toNat_natCast, Int.toNat_zero, List.nil_append, Nat.mul_one, decide_eq_true, decide_eq_false, Int.reduceLE, Int.reduceLT, Int.reduceNeg, Bool.false_or, Bool.true_or, Bool.or_false, Bool.or_true, wrapU, Int.reduceAdd, Int.reduceSub, Int.reduceMul, List.append_assoc, List.length_append, get_mid, get_mid0, set_mid, set_mid0, List.length_set, List.length_cons, List.length_nil, List.cons_append, List.getElem?_append_left, List.set_append_left, get_at, get_at0, set_at, set_at0, List.getElem?_set_self, List.getElem?_set_ne, rlC, cfC, memC, hone, hone2, h0]
    exact ⟨Keep.app _ _, lv, v, by rw [rlC, cfC, h0]; rfl, hl' _, hnx' _, (hs.keep (.app _ _)).ro⟩
  by_cases hz : s.ls.length = 0
  · have e1 : stepL c p xs s = ({ s with a := 0 }, xs) := by simp only [stepL, if_neg h0, if_pos hz]
    have e2 : opsL s o = o := by simp only [opsL, if_neg h0, if_pos hz]
    rw [e1, e2]
    generalize Grl2 = G
    refine Fn_of rfl ?_
    rw [hz] at hlen
    simp (disch := first | assumption | omega | (simp only [List.length_cons, List.length_nil, List.length_set, List.length_append] <;> omega) | (simp only [get_mid, get_mid0, List.cons_append, List.append_assoc, List.getElem?_cons_zero, List.getElem?_cons_succ])) only [ref09_StepLay, ek, ↓evW, ↓evQ, evB, evS, evL, List.map, AV.cells, List.all, AV.one, Bool.and_true, Bool.true_and, if_true, ↓thenQ_normal, ↓thenQ_exit, ↓thenQ_ret, ↓blockQ_normal, ↓blockQ_ret, ↓blockQ_exit, ↓CW_true, ↓CW_false, CW_true, CW_false, condT, condF, RQ_some, tupA_one, tupA_two, tupA_nil, Nat.reduceSub, Nat.reduceAdd, Nat.reduceMul, Nat.zero_add, Nat.add_zero, Nat.reduceLeDiff, Nat.reduceEqDiff, eqV, eqAll, fillA, and_self, and_true, true_and, Nat.le_refl, Bool.not_true, Bool.not_false, Bool.false_xor, Bool.true_xor, cond_true, cond_false, List.replicate, if_false, reduceIte, resAll, resA, ne_eq, decide_not, decide_true, decide_false, Int.reduceEq, Bool.not_true, Bool.not_false, not_true_eq_false, not_false_eq_true, cond_bool, cond_int, beq_self_eq_true, Int.reduceBEq, Bool.and_self, Bool.and_false, Bool.false_and, Bool.xor_false, Bool.xor_true, loadN_ldC, ldC_none, ldC_somes, stC_aggs, splice, storeN_stC, stC_int, stC_bool, stC_ptr, stC_nilp, stC_sl, stC_nils, getC_gcO, gcO_cells, W_draw_eq, ↓W_scope, ev_clear, evT, evF, evX, evM, ↓exitQ_normal, ↓exitQ_ret, ↓exitQ_exit, saA_self, saO_self, if_pos, if_neg, wrapI, get_concat, set_concat, Int.toNat_natCast, Int.toNat_zero, List.nil_append, Nat.mul_one, decide_eq_true, decide_eq_false, Int.reduceLE, Int.reduceLT, Int.reduceNeg, Bool.false_or, Bool.true_or, Bool.or_false, Bool.or_true, wrapU, Int.reduceAdd, Int.reduceSub, Int.reduceMul, List.append_assoc, List.length_append, get_mid, get_mid0, set_mid, set_mid0, List.length_set, List.length_cons, List.length_nil, List.cons_append, List.getElem?_append_left, List.set_append_left, get_at, get_at0, set_at, set_at0, List.getElem?_set_self, List.getElem?_set_ne, rlC, cfC, memC, hone, hone2, h0, ev_len, hlen, Int.ofNat_zero]
    exact ⟨Keep.app _ _, lv, v, rfl, hl' _, hnx' _, (hs.keep (.app _ _)).ro⟩
  have e2 : opsL s o = IntKind.u64.wrap (o + 1) := by simp only [opsL, if_neg h0, if_neg hz]
  rw [e2]
  have hx' := hx.resolve_left h0
  rcases hok.a.resolve_left h0 with ⟨_, h | h | h⟩
  · exact rlstep1 hs hl hnx hok hx' h (by omega)
  · exact rlstep2 hs hl hnx hok hx' h.1 (by omega)
  · exact rlstep3 hs hl hnx hok hx' h.1 (by omega)
def lcC (c : Cf) (p : Int) : Cf := if thereP c p then c else zeroC
def lcP (c : Cf) (p : Int) : Int := if thereP c p then p else 0
def RlnP (m : MM) (c : Cf) (p : Int) (xs : List Int) (r : AV) (m' : MM) : Prop := Keep m m' ∧ ∃ lv, r = .agg (rlC (lcC c p) (lcP c p) (newL c p xs) lv) ∧ SI m' false (newL c p xs).ls lv ∧ (0 < (newL c p xs).ls.length → Nx m' lv) ∧ Fr m.length lv
def RnI (M0 : MM) (c : Cf) (p : Int) (xs : List Int) (ys : AV) (b : Nat) (k : Nat) (e : List AV) (m : MM) : Prop := ∃ (i : Nat) (lv z7 z8 z9 : AV),
  e = [.agg (cfC c), .int .i64 p, ys, .ptr b 0, .ptr (b + 1) 0, .ptr (b + 4) 0, .int .i64 i, z7, z8, z9] ∧ k = xs.length - i ∧ i ≤ xs.length ∧ KeepB (b + 4) M0 m ∧ m[b + 4]? = some (.cells 12 false (rlC c p ⟨1, 0, 0, 0, []⟩ lv)) ∧ Own M0 m 1 (posL (xs.take i)).length (iC (posL (xs.take i))) lv
set_option maxHeartbeats 16000000 in
theorem rlnew_run {m : MM} {wr : Bool} {c : Cf} {p : Int} {xs : List Int} {ys : AV} (hy : SI m wr xs ys) (hn : xs.length ≤ 1000) : Fn [(169, F10.c_ref09_There)] ref09_NewLay [.agg (cfC c), .int .i64 p, ys] m (RlnP m c p xs) := by
  have a169 : assoc [(169, F10.c_ref09_There (X := Ob))] 169 = some F10.c_ref09_There := rfl
  generalize [(169, F10.c_ref09_There (X := Ob))] = G at a169 ⊢
  have hr := fun K : MM => rthere_eq (m ++ K) c p
  simp only [cfC, List.append_assoc, List.cons_append, List.nil_append] at hr
  have hlen := hy.len
  refine Fn_of rfl ?_
  by_cases h : thereP c p
  · have hnl : newL c p xs = ⟨1, 0, 0, 0, posL xs⟩ := if_pos h
    unfold RlnP lcC lcP
    rw [hnl, if_pos h, if_pos h]
    simp only [decide_eq_true h] at hr
    simp (disch := first | assumption | omega | (simp only [List.length_cons, List.length_nil, List.length_set, List.length_append] <;> omega) | (simp only [get_mid, get_mid0, List.cons_append, List.append_assoc, List.getElem?_cons_zero, List.getElem?_cons_succ])) only [ref09_NewLay, ek, ↓evW, ↓evQ, evB, evS, evL, List.map, AV.cells, List.all, AV.one, Bool.and_true, Bool.true_and, if_true, ↓thenQ_normal, ↓thenQ_exit, ↓thenQ_ret, ↓blockQ_normal, ↓blockQ_ret, ↓blockQ_exit, ↓CW_true, ↓CW_false, CW_true, CW_false, condT, condF, RQ_some, tupA_one, tupA_two, tupA_nil, Nat.reduceSub, Nat.reduceAdd, Nat.reduceMul, Nat.zero_add, Nat.add_zero, Nat.reduceLeDiff, Nat.reduceEqDiff, eqV, eqAll, fillA, and_self, and_true, true_and, Nat.le_refl, Bool.not_true, Bool.not_false, Bool.false_xor, Bool.true_xor, cond_true, cond_false, List.replicate, if_false, reduceIte, resAll, resA, ne_eq, decide_not, decide_true, decide_false, Int.reduceEq, Bool.not_true, Bool.not_false, not_true_eq_false, not_false_eq_true, cond_bool, cond_int, beq_self_eq_true, Int.reduceBEq, Bool.and_self, Bool.and_false, Bool.false_and, Bool.xor_false, Bool.xor_true, loadN_ldC, ldC_none, ldC_somes, stC_aggs, splice, storeN_stC, stC_int, stC_bool, stC_ptr, stC_nilp, stC_sl, stC_nils, getC_gcO, gcO_cells, W_draw_eq, ↓W_scope, ev_clear, evT, evF, evX, evM, ↓exitQ_normal, ↓exitQ_ret, ↓exitQ_exit, saA_self, saO_self, if_pos, if_neg, wrapI, get_concat, set_concat, Int.toNat_natCast, Int.toNat_zero, List.nil_append, Nat.mul_one, decide_eq_true, decide_eq_false, Int.reduceLE, Int.reduceLT, Int.reduceNeg, Bool.false_or, Bool.true_or, Bool.or_false, Bool.or_true, wrapU, Int.reduceAdd, Int.reduceSub, Int.reduceMul, List.append_assoc, List.length_append, get_mid, get_mid0, set_mid, set_mid0, List.length_set, List.length_cons, List.length_nil, List.cons_append, List.getElem?_append_left, List.set_append_left, get_at, get_at0, set_at, set_at0, List.getElem?_set_self, List.getElem?_set_ne, cfC, a169, hr]
    obtain ⟨M0, hM0⟩ : ∃ M0 : MM, M0 = m ++ [Chunk.cells 6 false (cfC c), .cells 12 false (rlC zeroC 0 ⟨0, 0, 0, 0, []⟩ .nils), .cells 6 false (cfC c), .cells 6 false (cfC c), .cells 12 false (rlC c p ⟨1, 0, 0, 0, []⟩ .nils)] := ⟨_, rfl⟩
    have kM : Keep m M0 := by rw [hM0]; exact .app _ _
    have g1 : M0[m.length + 1]? = some (.cells 12 false (rlC zeroC 0 ⟨0, 0, 0, 0, []⟩ .nils)) := by rw [hM0, get_mid]; rfl
    have g4 : M0[m.length + 4]? = some (.cells 12 false (rlC c p ⟨1, 0, 0, 0, []⟩ .nils)) := by rw [hM0, get_mid]; rfl
    have lM : M0.length = m.length + 5 := by rw [hM0]; simp
    have hyM := hy.keep kM
    simp only [rlC, cfC, zeroC, List.cons_append, List.nil_append] at hM0
    rw [← hM0]
    clear hM0 hr hy
    have hmb : m.length = m.length := rfl
    generalize hb : m.length = b at g1 g4 lM hmb ⊢
    refine W_loop (RnI M0 c p xs ys b) xs.length (by simp only [FUEL]; omega) ⟨0, _, _, _, _, rfl, rfl, by omega, .refl _, g4, own_nil⟩ ?_
    rintro k e m3 ⟨i, lv, z7, z8, z9, rfl, rfl, hi, hk, gx, hown⟩
    have gx' := fun K : MM => (Keep.app m3 K).get gx
    have hy3 : SI m3 wr xs ys := Sl.stay hyM fun q o cap hq h0 => by
      obtain ⟨h1, ro, L, h2⟩ := Sl.lt hyM hq h0
      exact hk.2 q h1 fun hh => by rw [hh, g4] at h2; cases h2
    have hpl := pos_len (xs.take i)
    rw [List.length_take] at hpl
    have hone := hown.val1
    simp only [AV.one] at hone
    by_cases hil : i < xs.length
    · obtain ⟨x, hx⟩ : ∃ x, xs[i]? = some x := ⟨_, List.getElem?_eq_getElem hil⟩
      obtain ⟨q, oo, cap, ro, L, rfl, b2, b3, b4, b5⟩ := SI.val hy3 (by omega)
      have b6 := b5 i x hx
      have b2' := fun K : MM => (Keep.app m3 K).get b2
      have hsn := pos_snoc hx
      simp only [rlC, cfC, List.cons_append, List.nil_append] at gx gx'
      by_cases hx0 : x < 0
      · rw [if_pos hx0] at hsn
        have hge : decide (0 ≤ x) = false := decide_eq_false (by omega)
        simp (disch := first | assumption | omega | (simp only [List.length_cons, List.length_nil, List.length_set, List.length_append] <;> omega) | (simp only [get_mid, get_mid0, List.cons_append, List.append_assoc, List.getElem?_cons_zero, List.getElem?_cons_succ])) only [ek, ↓evW, ↓evQ, evB, evS, evL, List.map, AV.cells, List.all, AV.one, Bool.and_true, Bool.true_and, if_true, ↓thenQ_normal, ↓thenQ_exit, ↓thenQ_ret, ↓blockQ_normal, ↓blockQ_ret, ↓blockQ_exit, ↓CW_true, ↓CW_false, CW_true, CW_false, condT, condF, RQ_some, tupA_one, tupA_two, tupA_nil, Nat.reduceSub, Nat.reduceAdd, Nat.reduceMul, Nat.zero_add, Nat.add_zero, Nat.reduceLeDiff, Nat.reduceEqDiff, eqV, eqAll, fillA, and_self, and_true, true_and, Nat.le_refl, Bool.not_true, Bool.not_false, Bool.false_xor, Bool.true_xor, cond_true, cond_false, List.replicate, if_false, reduceIte, resAll, resA, ne_eq, decide_not, decide_true, decide_false, Int.reduceEq, Bool.not_true, Bool.not_false, not_true_eq_false, not_false_eq_true, cond_bool, cond_int, beq_self_eq_true, Int.reduceBEq, Bool.and_self, Bool.and_false, Bool.false_and, Bool.xor_false, Bool.xor_true, loadN_ldC, ldC_none, ldC_somes, stC_aggs, splice, storeN_stC, stC_int, stC_bool, stC_ptr, stC_nilp, stC_sl, stC_nils, getC_gcO, gcO_cells, W_draw_eq, ↓W_scope, ev_clear, evT, evF, evX, evM, ↓exitQ_normal, ↓exitQ_ret, ↓exitQ_exit, saA_self, saO_self, if_pos, if_neg, wrapI, get_concat, set_concat, Int.toNat_natCast, Int.toNat_zero, List.nil_append, Nat.mul_one, decide_eq_true, decide_eq_false, Int.reduceLE, Int.reduceLT, Int.reduceNeg, Bool.false_or, Bool.true_or, Bool.or_false, Bool.or_true, wrapU, Int.reduceAdd, Int.reduceSub, Int.reduceMul, List.append_assoc, List.length_append, get_mid, get_mid0, set_mid, set_mid0, List.length_set, List.length_cons, List.length_nil, List.cons_append, List.getElem?_append_left, List.set_append_left, get_at, get_at0, set_at, set_at0, List.getElem?_set_self, List.getElem?_set_ne, ev_len, hlen, b2, b6, hge]
        exact ⟨_, by omega, i + 1, lv, _, _, _, rfl, rfl, by omega, hk, gx, by rw [hsn]; exact hown⟩
      · rw [if_neg hx0] at hsn
        have hge : decide (0 ≤ x) = true := decide_eq_true (by omega)
        obtain ⟨ow', m4, hap, how, hl4, hs4⟩ := own_push2 hown x (by omega) hk.1
        have gx4 : m4[b + 4]? = m3[b + 4]? := hs4 _ (List.getElem?_eq_some_iff.1 gx).1 (.inr (by omega))
        rw [gx] at gx4
        have l4 := (List.getElem?_eq_some_iff.1 gx4).1
        obtain ⟨q2, rfl⟩ : ∃ q2, ow' = .sl q2 0 ((posL (xs.take i)).length + 1) none := by
          rcases how with ⟨h, _⟩ | ⟨q2, h, _⟩
          · simp at h
          · exact ⟨q2, by rw [h]; simp⟩
        simp (disch := first | assumption | omega | (simp only [List.length_cons, List.length_nil, List.length_set, List.length_append] <;> omega) | (simp only [get_mid, get_mid0, List.cons_append, List.append_assoc, List.getElem?_cons_zero, List.getElem?_cons_succ])) only [ek, ↓evW, ↓evQ, evB, evS, evL, List.map, AV.cells, List.all, AV.one, Bool.and_true, Bool.true_and, if_true, ↓thenQ_normal, ↓thenQ_exit, ↓thenQ_ret, ↓blockQ_normal, ↓blockQ_ret, ↓blockQ_exit, ↓CW_true, ↓CW_false, CW_true, CW_false, condT, condF, RQ_some, tupA_one, tupA_two, tupA_nil, Nat.reduceSub, Nat.reduceAdd, Nat.reduceMul, Nat.zero_add, Nat.add_zero, Nat.reduceLeDiff, Nat.reduceEqDiff, eqV, eqAll, fillA, and_self, and_true, true_and, Nat.le_refl, Bool.not_true, Bool.not_false, Bool.false_xor, Bool.true_xor, cond_true, cond_false, List.replicate, if_false, reduceIte, resAll, resA, ne_eq, decide_not, decide_true, decide_false, Int.reduceEq, Bool.not_true, Bool.not_false, not_true_eq_false, not_false_eq_true, cond_bool, cond_int, beq_self_eq_true, Int.reduceBEq, Bool.and_self, Bool.and_false, Bool.false_and, Bool.xor_false, Bool.xor_true, loadN_ldC, ldC_none, ldC_somes, stC_aggs, splice, storeN_stC, stC_int, stC_bool, stC_ptr, stC_nilp, stC_sl, stC_nils, getC_gcO, gcO_cells, W_draw_eq, ↓W_scope, ev_clear, evT, evF, evX, evM, ↓exitQ_normal, ↓exitQ_ret, ↓exitQ_exit, saA_self, saO_self, if_pos, if_neg, wrapI, get_concat, set_concat, Int.toNat_natCast, Int.toNat_zero, List.nil_append, Nat.mul_one, decide_eq_true, decide_eq_false, Int.reduceLE, Int.reduceLT, Int.reduceNeg, Bool.false_or, Bool.true_or, Bool.or_false, Bool.or_true, wrapU, Int.reduceAdd, Int.reduceSub, Int.reduceMul, List.append_assoc, List.length_append, get_mid, get_mid0, set_mid, set_mid0, List.length_set, List.length_cons, List.length_nil, List.cons_append, List.getElem?_append_left, List.set_append_left, get_at, get_at0, set_at, set_at0, List.getElem?_set_self, List.getElem?_set_ne, ev_len, hlen, b2, b2', b6, hge, gx, gx', gx4, evA, repeatL, List.flatten_cons, List.flatten_nil, hap, hone]
        refine ⟨_, by omega, i + 1, _, _, _, _, rfl, rfl, by omega, ⟨by simp only [List.length_set]; have := hk.1; omega, fun a ha hne => ?_⟩, List.getElem?_set_self l4, ?_⟩
        · rw [List.getElem?_set_ne (fun h => hne h.symm), hs4 a (by have := hk.1; omega) (.inr ha), hk.2 a ha hne]
        · rw [hsn]
          exact how.keep fun q C hq1 hq => (List.getElem?_set_ne (show b + 4 ≠ q by omega)).trans hq
    · have hin : i = xs.length := by omega
      rw [hin, List.take_length] at hown
      have hk1 := hk.1
      have g13 := (hk.2 (b + 1) (by omega) (by omega)).trans g1
      simp only [rlC, zeroC, cfC, List.cons_append, List.nil_append] at gx g13
      simp (disch := first | assumption | omega | (simp only [List.length_cons, List.length_nil, List.length_set, List.length_append] <;> omega) | (simp only [get_mid, get_mid0, List.cons_append, List.append_assoc, List.getElem?_cons_zero, List.getElem?_cons_succ])) only [ek, ↓evW, ↓evQ, evB, evS, evL, List.map, AV.cells, List.all, AV.one, Bool.and_true, Bool.true_and, if_true, ↓thenQ_normal, ↓thenQ_exit, ↓thenQ_ret, ↓blockQ_normal, ↓blockQ_ret, ↓blockQ_exit, ↓CW_true, ↓CW_false, CW_true, CW_false, condT, condF, RQ_some, tupA_one, tupA_two, tupA_nil, Nat.reduceSub, Nat.reduceAdd, Nat.reduceMul, Nat.zero_add, Nat.add_zero, Nat.reduceLeDiff, Nat.reduceEqDiff, eqV, eqAll, fillA, and_self, and_true, true_and, Nat.le_refl, Bool.not_true, Bool.not_false, Bool.false_xor, Bool.true_xor, cond_true, cond_false, List.replicate, if_false, reduceIte, resAll, resA, ne_eq, decide_not, decide_true, decide_false, Int.reduceEq, Bool.not_true, Bool.not_false, not_true_eq_false, not_false_eq_true, cond_bool, cond_int, beq_self_eq_true, Int.reduceBEq, Bool.and_self, Bool.and_false, Bool.false_and, Bool.xor_false, Bool.xor_true, loadN_ldC, ldC_none, ldC_somes, stC_aggs, splice, storeN_stC, stC_int, stC_bool, stC_ptr, stC_nilp, stC_sl, stC_nils, getC_gcO, gcO_cells, W_draw_eq, ↓W_scope, ev_clear, evT, evF, evX, evM, ↓exitQ_normal, ↓exitQ_ret, ↓exitQ_exit, saA_self, saO_self, if_pos, if_neg, wrapI, get_concat, set_concat, Int.toNat_natCast, Int.toNat_zero, List.nil_append, Nat.mul_one, decide_eq_true, decide_eq_false, Int.reduceLE, Int.reduceLT, Int.reduceNeg, Bool.false_or, Bool.true_or, Bool.or_false, Bool.or_true, wrapU, Int.reduceAdd, Int.reduceSub, Int.reduceMul, List.append_assoc, List.length_append, get_mid, get_mid0, set_mid, set_mid0, List.length_set, List.length_cons, List.length_nil, List.cons_append, List.getElem?_append_left, List.set_append_left, get_at, get_at0, set_at, set_at0, List.getElem?_set_self, List.getElem?_set_ne, ev_len, hlen, gx, g13, hone]
      refine ⟨⟨by simp only [List.length_set]; have := hk.1; omega, fun a ha => ?_⟩, lv, rfl, ?_, ?_, ?_⟩
      · rw [List.getElem?_set_ne (by omega), hk.2 a (by omega) (by omega), kM.2 a ha]
      · exact Sl.put hown.si.1.ro (fun ro L h => by rw [g13] at h; cases h) _
      · exact fun _ => hown.nx.put (fun ro L h => by rw [g13] at h; cases h) _
      · rcases hown with ⟨_, _, h⟩ | ⟨q, h, _, h2, _⟩
        · exact .inl h
        · exact .inr ⟨q, _, _, _, h, by omega⟩
  · have hnl : newL c p xs = ⟨0, 0, 0, 0, []⟩ := if_neg h
    unfold RlnP lcC lcP
    rw [hnl, if_neg h, if_neg h]
    simp only [decide_eq_false h] at hr
    simp (disch := first | assumption | omega | (simp only [List.length_cons, List.length_nil, List.length_set, List.length_append] <;> omega) | (simp only [get_mid, get_mid0, List.cons_append, List.append_assoc, List.getElem?_cons_zero, List.getElem?_cons_succ])) only [ref09_NewLay, ek, ↓evW, ↓evQ, evB, evS, evL, List.map, AV.cells, List.all, AV.one, Bool.and_true, Bool.true_and, if_true, ↓thenQ_normal, ↓thenQ_exit, ↓thenQ_ret, ↓blockQ_normal, ↓blockQ_ret, ↓blockQ_exit, ↓CW_true, ↓CW_false, CW_true, CW_false, condT, condF, RQ_some, tupA_one, tupA_two, tupA_nil, Nat.reduceSub, Nat.reduceAdd, Nat.reduceMul, Nat.zero_add, Nat.add_zero, Nat.reduceLeDiff, Nat.reduceEqDiff, eqV, eqAll, fillA, and_self, and_true, true_and, Nat.le_refl, Bool.not_true, Bool.not_false, Bool.false_xor, Bool.true_xor, cond_true, cond_false, List.replicate, if_false, reduceIte, resAll, resA, ne_eq, decide_not, decide_true, decide_false, Int.reduceEq, Bool.not_true, Bool.not_false, not_true_eq_false, not_false_eq_true, cond_bool, cond_int, beq_self_eq_true, Int.reduceBEq, Bool.and_self, Bool.and_false, Bool.false_and, Bool.xor_false, Bool.xor_true, loadN_ldC, ldC_none, ldC_somes, stC_aggs, splice, storeN_stC, stC_int, stC_bool, stC_ptr, stC_nilp, stC_sl, stC_nils, getC_gcO, gcO_cells, W_draw_eq, ↓W_scope, ev_clear, evT, evF, evX, evM, ↓exitQ_normal, ↓exitQ_ret, ↓exitQ_exit, saA_self, saO_self, if_pos, if_neg, wrapI, get_concat, set_concat, Int.toNat_natCast, Int.toNat_zero, List.nil_append, Nat.mul_one, decide_eq_true, decide_eq_false, Int.reduceLE, Int.reduceLT, Int.reduceNeg, Bool.false_or, Bool.true_or, Bool.or_false, Bool.or_true, wrapU, Int.reduceAdd, Int.reduceSub, Int.reduceMul, List.append_assoc, List.length_append, get_mid, get_mid0, set_mid, set_mid0, List.length_set, List.length_cons, List.length_nil, List.cons_append, List.getElem?_append_left, List.set_append_left, get_at, get_at0, set_at, set_at0, List.getElem?_set_self, List.getElem?_set_ne, cfC, a169, hr]
    exact ⟨.app _ _, .nils, rfl, Sl.nil, fun h => by simp at h, .inl rfl⟩
end Go.Am.F09
end
section
namespace Go.Am.F09
open Go.Am.F06 Go.Am.F10
def Gly : List (Nat × AFun Ob) := [(184, pureF worksG), (134, F10.c_docs_Filled), (135, amFunc F10.Gmem F10.docs_Mem), (199, amFunc Gnl put_NewLay), (147, F10.c_docs_Config), (201, c_ref09_NewLay), (197, amFunc Gpo put_Lay_Hands), (84, F10.c_kit_SameInts), (196, c_put_Lay_Done), (68, amFunc F10.Gsmem F10.docs_SameMem), (46, memF fun s rest => (opsAsk s rest).map fun v => (v, s)), (202, amFunc Grl2 ref09_StepLay), (195, amFunc Glst put_Lay_Step), (193, amFunc Gpk law09_poked)]
def lyB : AC := match sqN 7 law09_PutLayPlays.body with | .seq _ (.block _ (.loop b)) => b | _ => .skip
def lyC : AC := match lyB with | .seq c _ => c | _ => .skip
def lyX : AC := match lyB with | .seq _ (.seq (.block _ r) _) => r | _ => .skip
def lyI : AC := match lyB with | .seq _ (.seq _ i) => i | _ => .skip
def lyT : AC := sqN 0 lyX
def lyU : AC := sqT 1 lyX
def lyE : AC := sqT 8 law09_PutLayPlays.body
def lyW : AC := sqN 6 law09_PutLayPlays.body
theorem lplays_body : law09_PutLayPlays = { nloc := 29, npar := 5, res := [.loc 6], body := .seq (sqN 0 law09_PutLayPlays.body) (.seq (sqN 1 law09_PutLayPlays.body) (.seq (sqN 2 law09_PutLayPlays.body) (.seq (sqN 3 law09_PutLayPlays.body) (.seq (sqN 4 law09_PutLayPlays.body) (.seq (sqN 5 law09_PutLayPlays.body) (.seq lyW (.seq (.seq (.region [⟨.mov, [.c (.int .i64 0)], some 13, none⟩]) (.block 2 (.loop (.seq lyC (.seq (.block 3 (.seq lyT lyU)) lyI))))) lyE))))))) } := rfl
def LtE (c0 : Cf) (p : Int) (qv bv lv : AV) (cb j rb : Nat) (ow : AV) (xj yb : Nat) (z12 : AV) (i : Nat) (e : List AV) : Prop := ∃ z14 z15 z16 z17 z18 z19 z20 z21 z22 z23 z24 z25 z26 z27 z28 : AV,
  e = [.agg (cfC c0), .int .i64 p, qv, bv, lv, .ptr cb 0, .bool false, .ptr j 0, .ptr rb 0, ow, .ptr xj 0, .ptr yb 0, z12, .int .i64 i, z14, z15, z16, z17, z18, z19, z20, z21, z22, z23, z24, z25, z26, z27, z28]
def LtI (m0 : MM) (c0 : Cf) (p : Int) (qv bv lv : AV) (cb j rb : Nat) (ow : AV) (xj yb : Nat) (z12 : AV) (i : Nat) (k : Nat) (e : List AV) (m : MM) : Prop := ∃ (t : Nat) (z15 z16 z17 z18 z19 z20 z21 z22 z23 z24 z25 z26 z27 z28 : AV),
  e = [.agg (cfC c0), .int .i64 p, qv, bv, lv, .ptr cb 0, .bool false, .ptr j 0, .ptr rb 0, ow, .ptr xj 0, .ptr yb 0, z12, .int .i64 i, .int .i64 t, z15, z16, z17, z18, z19, z20, z21, z22, z23, z24, z25, z26, z27, z28] ∧ k = 2 - t ∧ t ≤ 2 ∧ Keep m0 m
def LhI (mm : MM) (c0 : Cf) (p : Int) (qv bv lv : AV) (cb j rb : Nat) (ow : AV) (xj yb : Nat) (z12 : AV) (i : Nat) (t n : Nat) (h : AV) (B : Nat) (k : Nat) (e : List AV) (m : MM) : Prop := ∃ (u : Nat) (z17 z18 z19 z20 z21 z22 z23 z24 z25 z26 z27 z28 : AV),
  e = [.agg (cfC c0), .int .i64 p, qv, bv, lv, .ptr cb 0, .bool false, .ptr j 0, .ptr rb 0, ow, .ptr xj 0, .ptr yb 0, z12, .int .i64 i, .int .i64 t, h, .int .i64 u, z17, z18, z19, z20, z21, z22, z23, z24, z25, z26, z27, z28] ∧ k = n - u ∧ u ≤ n ∧ Fl mm m n h B
set_option maxHeartbeats 16000000 in
theorem lyT_run {m : MM} {c0 c c' : Cf} {p p1 p' : Int} {qv bv lv ow lx ly z12 : AV} {cb j rb xj yb i : Nat} {s : LS} {z14 z15 z16 z17 z18 z19 z20 z21 z22 z23 z24 z25 z26 z27 z28 : AV}
    (hlm : LM m xj c p1 s lx) (hy : m[yb]? = some (.cells 12 false (rlC c' p' s ly))) (hyl : SI m false s.ls ly) (hl : s.ls.length ≤ 100) :
    W Gly lyT (fun x e m' => x = .normal ∧ Keep m m' ∧ LtE c0 p qv bv lv cb j rb ow xj yb z12 i e) [.agg (cfC c0), .int .i64 p, qv, bv, lv, .ptr cb 0, .bool false, .ptr j 0, .ptr rb 0, ow, .ptr xj 0, .ptr yb 0, z12, .int .i64 i, z14, z15, z16, z17, z18, z19, z20, z21, z22, z23, z24, z25, z26, z27, z28] m := by
  have a197 : assoc Gly 197 = some (amFunc Gpo put_Lay_Hands) := rfl
  have a84 : assoc Gly 84 = some F10.c_kit_SameInts := rfl
  have hse : F10.c_kit_SameInts (X := Ob) = amFunc [] F10.kit_SameInts := rfl
  generalize Gly = G at a197 a84 ⊢
  simp (disch := first | assumption | omega | (simp only [List.length_cons, List.length_nil, List.length_set, List.length_append] <;> omega) | (simp only [get_mid, get_mid0, List.cons_append, List.append_assoc, List.getElem?_cons_zero, List.getElem?_cons_succ])) only [lyT, lyX, lyB, sqN, law09_PutLayPlays, ek, ↓evW, ↓evQ, evB, evS, evL, List.map, AV.cells, List.all, AV.one, Bool.and_true, Bool.true_and, if_true, ↓thenQ_normal, ↓thenQ_exit, ↓thenQ_ret, ↓blockQ_normal, ↓blockQ_ret, ↓blockQ_exit, ↓CW_true, ↓CW_false, CW_true, CW_false, condT, condF, RQ_some, tupA_one, tupA_two, tupA_nil, Nat.reduceSub, Nat.reduceAdd, Nat.reduceMul, Nat.zero_add, Nat.add_zero, Nat.reduceLeDiff, Nat.reduceEqDiff, eqV, eqAll, fillA, and_self, and_true, true_and, Nat.le_refl, Bool.not_true, Bool.not_false, Bool.false_xor, Bool.true_xor, cond_true, cond_false, List.replicate, if_false, reduceIte, resAll, resA, ne_eq, decide_not, decide_true, decide_false, Int.reduceEq, Bool.not_true, Bool.not_false, not_true_eq_false, not_false_eq_true, cond_bool, cond_int, beq_self_eq_true, Int.reduceBEq, Bool.and_self, Bool.and_false, Bool.false_and, Bool.xor_false, Bool.xor_true, loadN_ldC, ldC_none, ldC_somes, stC_aggs, splice, storeN_stC, stC_int, stC_bool, stC_ptr, stC_nilp, stC_sl, stC_nils, getC_gcO, gcO_cells, W_draw_eq, ↓W_scope, ev_clear, evT, evF, evX, evM, ↓exitQ_normal, ↓exitQ_ret, ↓exitQ_exit, saA_self, saO_self, if_pos, if_neg, wrapI, get_concat, set_concat, Int.toNat_natCast, Int.toNat_zero, List.nil_append, Nat.mul_one, decide_eq_true, decide_eq_false, Int.reduceLE, Int.reduceLT, Int.reduceNeg, Bool.false_or, Bool.true_or, Bool.or_false, Bool.or_true, wrapU, Int.reduceAdd, Int.reduceSub, Int.reduceMul, List.append_assoc, List.length_append, get_mid, get_mid0, set_mid, set_mid0, List.length_set, List.length_cons, List.length_nil, List.cons_append, List.getElem?_append_left, List.set_append_left, get_at, get_at0, set_at, set_at0, List.getElem?_set_self, List.getElem?_set_ne]
  refine W_loop (LtI m c0 p qv bv lv cb j rb ow xj yb z12 i) 2 (by simp only [FUEL]; omega) ⟨0, _, _, _, _, _, _, _, _, _, _, _, _, _, _, rfl, rfl, by omega, .refl _⟩ ?_
  rintro k e mm ⟨t, y15, y16, y17, y18, y19, y20, y21, y22, y23, y24, y25, y26, y27, y28, rfl, rfl, ht, hk⟩
  rcases Nat.lt_or_ge t 2 with h2 | h2
  · have hlm2 : LM mm xj c p1 s lx := ⟨hk.get hlm.get, hlm.l.keep hk, fun h0 => (hlm.nx h0).keep hk⟩
    simp (disch := first | assumption | omega | (simp only [List.length_cons, List.length_nil, List.length_set, List.length_append] <;> omega) | (simp only [get_mid, get_mid0, List.cons_append, List.append_assoc, List.getElem?_cons_zero, List.getElem?_cons_succ])) only [ek, ↓evW, ↓evQ, evB, evS, evL, List.map, AV.cells, List.all, AV.one, Bool.and_true, Bool.true_and, if_true, ↓thenQ_normal, ↓thenQ_exit, ↓thenQ_ret, ↓blockQ_normal, ↓blockQ_ret, ↓blockQ_exit, ↓CW_true, ↓CW_false, CW_true, CW_false, condT, condF, RQ_some, tupA_one, tupA_two, tupA_nil, Nat.reduceSub, Nat.reduceAdd, Nat.reduceMul, Nat.zero_add, Nat.add_zero, Nat.reduceLeDiff, Nat.reduceEqDiff, eqV, eqAll, fillA, and_self, and_true, true_and, Nat.le_refl, Bool.not_true, Bool.not_false, Bool.false_xor, Bool.true_xor, cond_true, cond_false, List.replicate, if_false, reduceIte, resAll, resA, ne_eq, decide_not, decide_true, decide_false, Int.reduceEq, Bool.not_true, Bool.not_false, not_true_eq_false, not_false_eq_true, cond_bool, cond_int, beq_self_eq_true, Int.reduceBEq, Bool.and_self, Bool.and_false, Bool.false_and, Bool.xor_false, Bool.xor_true, loadN_ldC, ldC_none, ldC_somes, stC_aggs, splice, storeN_stC, stC_int, stC_bool, stC_ptr, stC_nilp, stC_sl, stC_nils, getC_gcO, gcO_cells, W_draw_eq, ↓W_scope, ev_clear, evT, evF, evX, evM, ↓exitQ_normal, ↓exitQ_ret, ↓exitQ_exit, saA_self, saO_self, if_pos, if_neg, wrapI, get_concat, set_concat, Int.toNat_natCast, Int.toNat_zero, List.nil_append, Nat.mul_one, decide_eq_true, decide_eq_false, Int.reduceLE, Int.reduceLT, Int.reduceNeg, Bool.false_or, Bool.true_or, Bool.or_false, Bool.or_true, wrapU, Int.reduceAdd, Int.reduceSub, Int.reduceMul, List.append_assoc, List.length_append, get_mid, get_mid0, set_mid, set_mid0, List.length_set, List.length_cons, List.length_nil, List.cons_append, List.getElem?_append_left, List.set_append_left, get_at, get_at0, set_at, set_at0, List.getElem?_set_self, List.getElem?_set_ne, a197]
    refine OK_fn (lhands_run hlm2 (by omega)) ?_
    rintro h m1 ⟨k1, s1, f1⟩
    have hk1 := hk.trans k1
    have hy1 := hk1.get hy
    have e1 := Fn_eq (same_run s1 (hyl.keep hk1) (by simp only [FUEL]; omega))
    rw [← hse] at e1
    simp only [decide_true] at e1
    simp only [rlC, cfC, List.cons_append, List.nil_append] at hy1
    simp (disch := first | assumption | omega | (simp only [List.length_cons, List.length_nil, List.length_set, List.length_append] <;> omega) | (simp only [get_mid, get_mid0, List.cons_append, List.append_assoc, List.getElem?_cons_zero, List.getElem?_cons_succ])) only [ek, ↓evW, ↓evQ, evB, evS, evL, List.map, AV.cells, List.all, AV.one, Bool.and_true, Bool.true_and, if_true, ↓thenQ_normal, ↓thenQ_exit, ↓thenQ_ret, ↓blockQ_normal, ↓blockQ_ret, ↓blockQ_exit, ↓CW_true, ↓CW_false, CW_true, CW_false, condT, condF, RQ_some, tupA_one, tupA_two, tupA_nil, Nat.reduceSub, Nat.reduceAdd, Nat.reduceMul, Nat.zero_add, Nat.add_zero, Nat.reduceLeDiff, Nat.reduceEqDiff, eqV, eqAll, fillA, and_self, and_true, true_and, Nat.le_refl, Bool.not_true, Bool.not_false, Bool.false_xor, Bool.true_xor, cond_true, cond_false, List.replicate, if_false, reduceIte, resAll, resA, ne_eq, decide_not, decide_true, decide_false, Int.reduceEq, Bool.not_true, Bool.not_false, not_true_eq_false, not_false_eq_true, cond_bool, cond_int, beq_self_eq_true, Int.reduceBEq, Bool.and_self, Bool.and_false, Bool.false_and, Bool.xor_false, Bool.xor_true, loadN_ldC, ldC_none, ldC_somes, stC_aggs, splice, storeN_stC, stC_int, stC_bool, stC_ptr, stC_nilp, stC_sl, stC_nils, getC_gcO, gcO_cells, W_draw_eq, ↓W_scope, ev_clear, evT, evF, evX, evM, ↓exitQ_normal, ↓exitQ_ret, ↓exitQ_exit, saA_self, saO_self, if_pos, if_neg, wrapI, get_concat, set_concat, Int.toNat_natCast, Int.toNat_zero, List.nil_append, Nat.mul_one, decide_eq_true, decide_eq_false, Int.reduceLE, Int.reduceLT, Int.reduceNeg, Bool.false_or, Bool.true_or, Bool.or_false, Bool.or_true, wrapU, Int.reduceAdd, Int.reduceSub, Int.reduceMul, List.append_assoc, List.length_append, get_mid, get_mid0, set_mid, set_mid0, List.length_set, List.length_cons, List.length_nil, List.cons_append, List.getElem?_append_left, List.set_append_left, get_at, get_at0, set_at, set_at0, List.getElem?_set_self, List.getElem?_set_ne, hy1, a84, e1]
    generalize s.ls = hs at s1 hl
    refine W_loop (LhI mm c0 p qv bv lv cb j rb ow xj yb z12 i t hs.length h m1.length) hs.length (by simp only [FUEL]; omega) ⟨0, _, _, _, _, _, _, _, _, _, _, _, _, rfl, rfl, by omega, ⟨k1, ⟨hs, rfl, s1⟩, f1, fun q oo cap hq h0 => (Sl.lt s1 hq h0).1, s1.len⟩⟩ ?_
    rintro k e M ⟨u, w17, w18, w19, w20, w21, w22, w23, w24, w25, w26, w27, w28, rfl, rfl, hu, hF⟩
    have hln := hF.len
    rcases Nat.lt_or_ge u hs.length with hu2 | hu2
    · obtain ⟨q, oo, cap, L, rfl, b1, b2, b3, b4, hF'⟩ := hF.put hu2 77
      simp (disch := first | assumption | omega | (simp only [List.length_cons, List.length_nil, List.length_set, List.length_append] <;> omega) | (simp only [get_mid, get_mid0, List.cons_append, List.append_assoc, List.getElem?_cons_zero, List.getElem?_cons_succ])) only [ek, ↓evW, ↓evQ, evB, evS, evL, List.map, AV.cells, List.all, AV.one, Bool.and_true, Bool.true_and, if_true, ↓thenQ_normal, ↓thenQ_exit, ↓thenQ_ret, ↓blockQ_normal, ↓blockQ_ret, ↓blockQ_exit, ↓CW_true, ↓CW_false, CW_true, CW_false, condT, condF, RQ_some, tupA_one, tupA_two, tupA_nil, Nat.reduceSub, Nat.reduceAdd, Nat.reduceMul, Nat.zero_add, Nat.add_zero, Nat.reduceLeDiff, Nat.reduceEqDiff, eqV, eqAll, fillA, and_self, and_true, true_and, Nat.le_refl, Bool.not_true, Bool.not_false, Bool.false_xor, Bool.true_xor, cond_true, cond_false, List.replicate, if_false, reduceIte, resAll, resA, ne_eq, decide_not, decide_true, decide_false, Int.reduceEq, Bool.not_true, Bool.not_false, not_true_eq_false, not_false_eq_true, cond_bool, cond_int, beq_self_eq_true, Int.reduceBEq, Bool.and_self, Bool.and_false, Bool.false_and, Bool.xor_false, Bool.xor_true, loadN_ldC, ldC_none, ldC_somes, stC_aggs, splice, storeN_stC, stC_int, stC_bool, stC_ptr, stC_nilp, stC_sl, stC_nils, getC_gcO, gcO_cells, W_draw_eq, ↓W_scope, ev_clear, evT, evF, evX, evM, ↓exitQ_normal, ↓exitQ_ret, ↓exitQ_exit, saA_self, saO_self, if_pos, if_neg, wrapI, get_concat, set_concat, Int.toNat_natCast, Int.toNat_zero, List.nil_append, Nat.mul_one, decide_eq_true, decide_eq_false, Int.reduceLE, Int.reduceLT, Int.reduceNeg, Bool.false_or, Bool.true_or, Bool.or_false, Bool.or_true, wrapU, Int.reduceAdd, Int.reduceSub, Int.reduceMul, List.append_assoc, List.length_append, get_mid, get_mid0, set_mid, set_mid0, List.length_set, List.length_cons, List.length_nil, List.cons_append, List.getElem?_append_left, List.set_append_left, get_at, get_at0, set_at, set_at0, List.getElem?_set_self, List.getElem?_set_ne, ev_len, hln, b1]
      exact ⟨hs.length - (u + 1), by omega, u + 1, _, _, _, _, _, _, _, _, _, _, _, _, rfl, rfl, by omega, hF'⟩
    · simp (disch := first | assumption | omega | (simp only [List.length_cons, List.length_nil, List.length_set, List.length_append] <;> omega) | (simp only [get_mid, get_mid0, List.cons_append, List.append_assoc, List.getElem?_cons_zero, List.getElem?_cons_succ])) only [ek, ↓evW, ↓evQ, evB, evS, evL, List.map, AV.cells, List.all, AV.one, Bool.and_true, Bool.true_and, if_true, ↓thenQ_normal, ↓thenQ_exit, ↓thenQ_ret, ↓blockQ_normal, ↓blockQ_ret, ↓blockQ_exit, ↓CW_true, ↓CW_false, CW_true, CW_false, condT, condF, RQ_some, tupA_one, tupA_two, tupA_nil, Nat.reduceSub, Nat.reduceAdd, Nat.reduceMul, Nat.zero_add, Nat.add_zero, Nat.reduceLeDiff, Nat.reduceEqDiff, eqV, eqAll, fillA, and_self, and_true, true_and, Nat.le_refl, Bool.not_true, Bool.not_false, Bool.false_xor, Bool.true_xor, cond_true, cond_false, List.replicate, if_false, reduceIte, resAll, resA, ne_eq, decide_not, decide_true, decide_false, Int.reduceEq, Bool.not_true, Bool.not_false, not_true_eq_false, not_false_eq_true, cond_bool, cond_int, beq_self_eq_true, Int.reduceBEq, Bool.and_self, Bool.and_false, Bool.false_and, Bool.xor_false, Bool.xor_true, loadN_ldC, ldC_none, ldC_somes, stC_aggs, splice, storeN_stC, stC_int, stC_bool, stC_ptr, stC_nilp, stC_sl, stC_nils, getC_gcO, gcO_cells, W_draw_eq, ↓W_scope, ev_clear, evT, evF, evX, evM, ↓exitQ_normal, ↓exitQ_ret, ↓exitQ_exit, saA_self, saO_self, if_pos, if_neg, wrapI, get_concat, set_concat, Int.toNat_natCast, Int.toNat_zero, List.nil_append, Nat.mul_one, decide_eq_true, decide_eq_false, Int.reduceLE, Int.reduceLT, Int.reduceNeg, Bool.false_or, Bool.true_or, Bool.or_false, Bool.or_true, wrapU, Int.reduceAdd, Int.reduceSub, Int.reduceMul, List.append_assoc, List.length_append, get_mid, get_mid0, set_mid, set_mid0, List.length_set, List.length_cons, List.length_nil, List.cons_append, List.getElem?_append_left, List.set_append_left, get_at, get_at0, set_at, set_at0, List.getElem?_set_self, List.getElem?_set_ne, ev_len, hln]
      exact ⟨2 - (t + 1), by omega, t + 1, _, _, _, _, _, _, _, _, _, _, _, _, _, _, rfl, rfl, by omega, hk.trans hF.keep⟩
  · simp (disch := first | assumption | omega | (simp only [List.length_cons, List.length_nil, List.length_set, List.length_append] <;> omega) | (simp only [get_mid, get_mid0, List.cons_append, List.append_assoc, List.getElem?_cons_zero, List.getElem?_cons_succ])) only [ek, ↓evW, ↓evQ, evB, evS, evL, List.map, AV.cells, List.all, AV.one, Bool.and_true, Bool.true_and, if_true, ↓thenQ_normal, ↓thenQ_exit, ↓thenQ_ret, ↓blockQ_normal, ↓blockQ_ret, ↓blockQ_exit, ↓CW_true, ↓CW_false, CW_true, CW_false, condT, condF, RQ_some, tupA_one, tupA_two, tupA_nil, Nat.reduceSub, Nat.reduceAdd, Nat.reduceMul, Nat.zero_add, Nat.add_zero, Nat.reduceLeDiff, Nat.reduceEqDiff, eqV, eqAll, fillA, and_self, and_true, true_and, Nat.le_refl, Bool.not_true, Bool.not_false, Bool.false_xor, Bool.true_xor, cond_true, cond_false, List.replicate, if_false, reduceIte, resAll, resA, ne_eq, decide_not, decide_true, decide_false, Int.reduceEq, Bool.not_true, Bool.not_false, not_true_eq_false, not_false_eq_true, cond_bool, cond_int, beq_self_eq_true, Int.reduceBEq, Bool.and_self, Bool.and_false, Bool.false_and, Bool.xor_false, Bool.xor_true, loadN_ldC, ldC_none, ldC_somes, stC_aggs, splice, storeN_stC, stC_int, stC_bool, stC_ptr, stC_nilp, stC_sl, stC_nils, getC_gcO, gcO_cells, W_draw_eq, ↓W_scope, ev_clear, evT, evF, evX, evM, ↓exitQ_normal, ↓exitQ_ret, ↓exitQ_exit, saA_self, saO_self, if_pos, if_neg, wrapI, get_concat, set_concat, Int.toNat_natCast, Int.toNat_zero, List.nil_append, Nat.mul_one, decide_eq_true, decide_eq_false, Int.reduceLE, Int.reduceLT, Int.reduceNeg, Bool.false_or, Bool.true_or, Bool.or_false, Bool.or_true, wrapU, Int.reduceAdd, Int.reduceSub, Int.reduceMul, List.append_assoc, List.length_append, get_mid, get_mid0, set_mid, set_mid0, List.length_set, List.length_cons, List.length_nil, List.cons_append, List.getElem?_append_left, List.set_append_left, get_at, get_at0, set_at, set_at0, List.getElem?_set_self, List.getElem?_set_ne]
    exact ⟨hk, _, _, _, _, _, _, _, _, _, _, _, _, _, _, _, rfl⟩
end Go.Am.F09
end
section
namespace Go.Am.F09
open Go.Am.F06 Go.Am.F10
structure LyS (m0 : MM) (c c' : Cf) (p p' : Int) (j rb xj yb : Nat) (ps : List Pk) (lv : AV) (s : LS) (xs : List Int) (o : Int) (lx ly v : AV) (m : MM) : Prop where
  k0 : Keep m0 m
  lm : LM m xj c p s lx
  mem : ∃ st, m[j]? = some (.abs (.mem st)) ∧ RelM xs o st
  ref : m[rb]? = some (.cells 2 false (memC v o))
  su : SU m false xs v
  y : m[yb]? = some (.cells 12 false (rlC c' p' s ly))
  yl : SI m false s.ls ly
  yn : 0 < s.ls.length → Nx m ly
  ne : xj ≠ yb
  ok : LOk c p s
  okL : OkL c xs
  cc : s.a = 0 ∨ (c' = c ∧ p' = p)
  ps : SPk m false ps lv
theorem LyS.mv {m0 m m' : MM} {c c' : Cf} {p p' : Int} {j rb xj yb : Nat} {ps : List Pk} {lv : AV} {s : LS} {xs : List Int} {o : Int} {lx ly v : AV} {q : Nat} {L : List Int} (h : LyS m0 c c' p p' j rb xj yb ps lv s xs o lx ly v m) (hk : KeepB q m m') (hq : m[q]? = some (.cells 1 false (iC L))) (h0 : m0.length ≤ q) (hx : Off q lx) (hy : Off q ly) : LyS m0 c c' p p' j rb xj yb ps lv s xs o lx ly v m' := by
  obtain ⟨st, hj, hr⟩ := h.mem
  have g : ∀ {i : Nat} {C : Chunk Ob}, m[i]? = some C → C ≠ .cells 1 false (iC L) → m'[i]? = some C := fun hi hC => hk.get hi fun hh => by rw [hh, hq] at hi; injection hi with hi; exact hC hi.symm
  have nx : ∀ {w : AV}, Off q w → Nx m w → 0 < s.ls.length → lenA w = some s.ls.length → Nx m' w := fun {w} ho hn hp hl => by
    rcases hn with h1 | ⟨q2, oo, n, l, h1, h2⟩
    · exact .inl h1
    · rw [h1] at hl; simp only [lenA, Option.some.injEq] at hl
      exact .inr ⟨q2, oo, n, l, h1, hk.get h2 (ho _ _ _ _ h1 (by omega))⟩
  have hl0 := h.k0.1
  refine ⟨⟨by have := hk.1; omega, fun i hi => (hk.2 i (by omega) (by omega)).trans (h.k0.2 i hi)⟩, ⟨g h.lm.get (by simp), hk.off hx h.lm.l, fun hp => nx hx (h.lm.nx hp) hp h.lm.l.len⟩, ⟨st, g hj (by simp), hr⟩, g h.ref (by simp), hk.off (su_off h.su hq) h.su, g h.y (by simp), hk.off hy h.yl, fun hp => nx hy (h.yn hp) hp h.yl.len, h.ne, h.ok, h.okL, h.cc, ?_⟩
  refine Sl.stay h.ps fun q2 oo cap hw hp => ?_
  obtain ⟨h1, ro, l, h2⟩ := Sl.lt h.ps hw hp
  exact hk.2 q2 h1 fun hh => by rw [hh, hq] at h2; cases h2
theorem LyS.keep {m0 m m' : MM} {c c' : Cf} {p p' : Int} {j rb xj yb : Nat} {ps : List Pk} {lv : AV} {s : LS} {xs : List Int} {o : Int} {lx ly v : AV} (h : LyS m0 c c' p p' j rb xj yb ps lv s xs o lx ly v m) (k : Keep m m') : LyS m0 c c' p p' j rb xj yb ps lv s xs o lx ly v m' := by
  obtain ⟨st, hj, hr⟩ := h.mem
  exact ⟨h.k0.trans k, ⟨k.get h.lm.get, h.lm.l.keep k, fun hp => (h.lm.nx hp).keep k⟩, ⟨st, k.get hj, hr⟩, k.get h.ref, h.su.keep k, k.get h.y, h.yl.keep k, fun hp => (h.yn hp).keep k, h.ne, h.ok, h.okL, h.cc, h.ps.keep k⟩
structure LyB (m0 : MM) (c : Cf) (p : Int) (j xj : Nat) (ps : List Pk) (lv : AV) (s : LS) (xs : List Int) (o : Int) (lx : AV) (m : MM) : Prop where
  k0 : Keep m0 m
  lm : LM m xj c p s lx
  mem : ∃ st, m[j]? = some (.abs (.mem st)) ∧ RelM xs o st
  ps : SPk m false ps lv
theorem LyS.b {m0 m : MM} {c c' : Cf} {p p' : Int} {j rb xj yb : Nat} {ps : List Pk} {lv : AV} {s : LS} {xs : List Int} {o : Int} {lx ly v : AV} (h : LyS m0 c c' p p' j rb xj yb ps lv s xs o lx ly v m) : LyB m0 c p j xj ps lv s xs o lx m := ⟨h.k0, h.lm, h.mem, h.ps⟩
theorem LyB.keep {m0 m m' : MM} {c : Cf} {p : Int} {j xj : Nat} {ps : List Pk} {lv : AV} {s : LS} {xs : List Int} {o : Int} {lx : AV} (h : LyB m0 c p j xj ps lv s xs o lx m) (k : Keep m m') : LyB m0 c p j xj ps lv s xs o lx m' := by
  obtain ⟨st, hj, hr⟩ := h.mem
  exact ⟨h.k0.trans k, ⟨k.get h.lm.get, h.lm.l.keep k, fun hp => (h.lm.nx hp).keep k⟩, ⟨st, k.get hj, hr⟩, h.ps.keep k⟩
theorem LyB.setb {m0 m : MM} {c : Cf} {p : Int} {j xj : Nat} {ps : List Pk} {lv : AV} {s : LS} {xs : List Int} {o : Int} {lx : AV} (h : LyB m0 c p j xj ps lv s xs o lx m) {b sz : Nat} {L : List AV} (hb : m[b]? = some (.cells sz false L)) (h1 : sz ≠ 1) (h3 : sz ≠ 3) (hx : b ≠ xj) (h0 : m0.length ≤ b) (C : Chunk Ob) : LyB m0 c p j xj ps lv s xs o lx (m.set b C) := by
  obtain ⟨st, hj, hr⟩ := h.mem
  have e2 : b ≠ j := fun hh => by rw [hh, hj] at hb; cases hb
  have hn : ∀ z, z ≠ sz → ∀ ro L, m[b]? ≠ some (.cells z ro L) := fun z hz ro L hh => by rw [hb] at hh; injection hh with hh; injection hh with hh; exact hz hh.symm
  exact ⟨h.k0.set h0 _, ⟨by rw [List.getElem?_set_ne hx]; exact h.lm.get, Sl.put h.lm.l (hn 1 (fun hh => h1 hh.symm)) _, fun hp => (h.lm.nx hp).put (hn 1 (fun hh => h1 hh.symm)) _⟩, ⟨st, by rw [List.getElem?_set_ne e2]; exact hj, hr⟩, Sl.put h.ps (hn 3 (fun hh => h3 hh.symm)) _⟩
theorem LyB.step {m0 m m' : MM} {c c' : Cf} {p p' : Int} {j rb xj yb : Nat} {ps : List Pk} {lv : AV} {s s' : LS} {xs xs' : List Int} {o o' : Int} {lx : AV} (h : LyB m0 c p j xj ps lv s xs o lx m)
    (hx0 : m0.length ≤ xj) (hj0 : m0.length ≤ j) {ly' v' : AV} (hy : m[yb]? = some (.cells 12 false (rlC c' p' s' ly'))) (hyl : SI m false s'.ls ly') (hyn : 0 < s'.ls.length → Nx m ly') (hne : xj ≠ yb) (hv' : SU m false xs' v') (hrb : m[rb]? = some (.cells 2 false (memC v' o'))) (hok : LOk c p s') (hokL : OkL c xs') (hcc : s'.a = 0 ∨ (c' = c ∧ p' = p)) {r : AV} (hP : LsP m c p xj j (s', xs') o' r m') :
    r = .bool (decide (s'.a = 0)) ∧ ∃ lx2, LyS m0 c c' p p' j rb xj yb ps lv s' xs' o' lx2 ly' v' m' := by
  obtain ⟨rfl, k1, ⟨lx2, hlm⟩, st', hj', hr'⟩ := hP
  obtain ⟨st, hj, hr⟩ := h.mem
  have hnx : ∀ sz, sz ≠ 12 → ∀ ro L, m[xj]? ≠ some (.cells sz ro L) := fun sz hsz ro L hh => by rw [h.lm.get] at hh; injection hh with hh; injection hh with hh; exact hsz hh.symm
  have hnj : ∀ sz ro L, m[j]? ≠ some (.cells sz ro L) := fun sz ro L hh => by rw [hj] at hh; cases hh
  have e2 : rb ≠ xj := fun hh => hnx 2 (by decide) _ _ (by rw [← hh]; exact hrb)
  have e3 : rb ≠ j := fun hh => hnj 2 _ _ (by rw [← hh]; exact hrb)
  have e4 : yb ≠ j := fun hh => hnj 12 _ _ (by rw [← hh]; exact hy)
  have hk0 := h.k0.1
  obtain ⟨f1, f2⟩ := LM.mv (s := s') (c := c) (p := p) hyl hyn (hnx 1 (by decide)) (hnj 1) k1
  exact ⟨rfl, lx2, ⟨by have := k1.1; omega, fun i hi => (k1.2 i (by omega) (by omega) (by omega)).trans (h.k0.2 i hi)⟩, hlm, ⟨st', hj', hr'⟩, k1.get hrb e2 e3, k1.sl (szj := 0) (szk := 0) (hnx 1 (by decide)) (hnj 1) hv', k1.get hy (fun hh => hne hh.symm) e4, f1, f2, hne, hok, hokL, hcc, k1.sl (szj := 0) (szk := 0) (hnx 3 (by decide)) (hnj 3) h.ps⟩
theorem LyS.poke {m0 m m' : MM} {c c' : Cf} {p p' : Int} {j rb xj yb : Nat} {ps : List Pk} {lv : AV} {s : LS} {xs xs' : List Int} {o o' : Int} {lx ly v v' : AV} (h : LyS m0 c c' p p' j rb xj yb ps lv s xs o lx ly v m) (hj0 : m0.length ≤ j) (hr0 : m0.length ≤ rb) (k : KeepB j m m') {st' : MemSt} (hj' : m'[j]? = some (.abs (.mem st'))) (hr' : RelM xs' o' st') (hsu : SU m' false xs' v') (hokL : OkL c xs') :
    LyS m0 c c' p p' j rb xj yb ps lv s xs' o' lx ly v' (m'.set rb (.cells 2 false (memC v' o'))) := by
  obtain ⟨st, hj, hr⟩ := h.mem
  have hl := k.1
  have hk0 := h.k0.1
  have lr : rb < m.length := (List.getElem?_eq_some_iff.1 h.ref).1
  have nj : ∀ sz ro L, m[j]? ≠ some (.cells sz ro L) := fun sz ro L hh => by rw [hj] at hh; cases hh
  have n2 : rb ≠ j := fun hh => nj 2 _ _ (by rw [← hh]; exact h.ref)
  have n1 : xj ≠ rb := fun hh => by have h1 := h.lm.get; rw [hh, h.ref] at h1; cases h1
  have n3 : yb ≠ rb := fun hh => by have h1 := h.y; rw [hh, h.ref] at h1; cases h1
  have n4 : xj ≠ j := fun hh => nj 12 _ _ (by rw [← hh]; exact h.lm.get)
  have n5 : yb ≠ j := fun hh => nj 12 _ _ (by rw [← hh]; exact h.y)
  have lx' : xj < m.length := (List.getElem?_eq_some_iff.1 h.lm.get).1
  have ly' : yb < m.length := (List.getElem?_eq_some_iff.1 h.y).1
  have hrb' : m'[rb]? = some (.cells 2 false (memC v o)) := by rw [k.2 rb lr n2]; exact h.ref
  have nb : ∀ sz, sz ≠ 2 → ∀ ro L, m'[rb]? ≠ some (.cells sz ro L) := fun sz hsz ro L hh => by rw [hrb'] at hh; injection hh with hh; injection hh with hh; exact hsz hh.symm
  have row : ∀ {wr : Bool} {sz n : Nat} {l : List AV} {w : AV}, sz ≠ 2 → Sl m wr sz n l w → Sl (m'.set rb (.cells 2 false (memC v' o'))) wr sz n l w := fun hsz hs =>
    Sl.put (Sl.stay hs fun q oo cap hw h0 => by
      obtain ⟨h1, ro, L, h2⟩ := Sl.lt hs hw h0
      exact k.2 q h1 fun hh => nj _ ro L (by rw [← hh]; exact h2)) (nb _ hsz) _
  have nxr : ∀ {w : AV}, Nx m w → Nx (m'.set rb (.cells 2 false (memC v' o'))) w := fun {w} hn => by
    rcases hn with h1 | ⟨q2, oo, n, l, h1, h2⟩
    · exact .inl h1
    · exact Nx.put (v := w) (.inr ⟨q2, oo, n, l, h1, k.get h2 fun hh => nj 1 _ _ (by rw [← hh]; exact h2)⟩) (nb 1 (by decide)) _
  have hg : ∀ i, i < m.length → i ≠ j → i ≠ rb → (m'.set rb (.cells 2 false (memC v' o')))[i]? = m[i]? := fun i hi h1 h2 => by
    rw [List.getElem?_set_ne (fun hh => h2 hh.symm), k.2 i hi h1]
  exact ⟨⟨by simp only [List.length_set]; omega, fun i hi => by rw [hg i (by omega) (by omega) (by omega), h.k0.2 i hi]⟩, ⟨by rw [hg xj lx' n4 n1]; exact h.lm.get, row (by decide) h.lm.l, fun hp => nxr (h.lm.nx hp)⟩, ⟨st', by rw [List.getElem?_set_ne n2]; exact hj', hr'⟩, List.getElem?_set_self (by omega), Sl.put hsu (nb 1 (by decide)) _, by rw [hg yb ly' n5 n3]; exact h.y, row (by decide) h.yl, fun hp => nxr (h.yn hp), h.ne, h.ok, hokL, h.cc, row (by decide) h.ps⟩
def LwP (M : MM) (c0 : Cf) (p : Int) (qv bv lv : AV) (cb j rb : Nat) (ow : AV) (xj yb : Nat) (ls : List Int) (e : List AV) (m : MM) : Prop := (∃ z12 z13 z14 z15 z16 z17 z18 z19 z20 z21 z22 z23 z24 z25 z26 z27 z28 : AV, e = [.agg (cfC c0), .int .i64 p, qv, bv, lv, .ptr cb 0, .bool false, .ptr j 0, .ptr rb 0, ow, .ptr xj 0, .ptr yb 0, z12, z13, z14, z15, z16, z17, z18, z19, z20, z21, z22, z23, z24, z25, z26, z27, z28]) ∧ (m = M ∨ ∃ q, ow = .sl q 0 ls.length none ∧ M[q]? = some (.cells 1 false (iC ls)) ∧ KeepB q M m)
def LwI (M : MM) (c0 : Cf) (p : Int) (qv bv lv : AV) (cb j rb q xj yb : Nat) (n : Nat) (k : Nat) (e : List AV) (m : MM) : Prop := ∃ (u : Nat) (z13 z14 z15 z16 z17 z18 z19 z20 z21 z22 z23 z24 z25 z26 z27 z28 : AV) (ys : List Int),
  e = [.agg (cfC c0), .int .i64 p, qv, bv, lv, .ptr cb 0, .bool false, .ptr j 0, .ptr rb 0, .sl q 0 n none, .ptr xj 0, .ptr yb 0, .int .i64 u, z13, z14, z15, z16, z17, z18, z19, z20, z21, z22, z23, z24, z25, z26, z27, z28] ∧ k = n - u ∧ u ≤ n ∧ KeepB q M m ∧ ys.length = n ∧ m[q]? = some (.cells 1 false (iC ys))
set_option maxHeartbeats 16000000 in
theorem lyW_run {mB M : MM} {c0 : Cf} {p : Int} {qv bv lv ow : AV} {cb j rb xj yb : Nat} {ls : List Int} {z12 z13 z14 z15 z16 z17 z18 z19 z20 z21 z22 z23 z24 z25 z26 z27 z28 : AV} (ho : Own mB M 1 ls.length (iC ls) ow) (hn : ls.length ≤ 100) :
    W Gly lyW (fun x e m' => x = .normal ∧ LwP M c0 p qv bv lv cb j rb ow xj yb ls e m') [.agg (cfC c0), .int .i64 p, qv, bv, lv, .ptr cb 0, .bool false, .ptr j 0, .ptr rb 0, ow, .ptr xj 0, .ptr yb 0, z12, z13, z14, z15, z16, z17, z18, z19, z20, z21, z22, z23, z24, z25, z26, z27, z28] M := by
  generalize Gly = G
  have hl0 : lenA AV.nils = some 0 := rfl
  have hlq : ∀ q n, lenA (.sl q 0 n none) = some n := fun _ _ => rfl
  rcases ho with ⟨h1, _, rfl⟩ | ⟨q, rfl, hq, _, hql⟩
  · simp (disch := first | assumption | omega | (simp only [List.length_cons, List.length_nil, List.length_set, List.length_append] <;> omega) | (simp only [get_mid, get_mid0, List.cons_append, List.append_assoc, List.getElem?_cons_zero, List.getElem?_cons_succ])) only [lyW, sqN, law09_PutLayPlays, ek, ↓evW, ↓evQ, evB, evS, evL, List.map, AV.cells, List.all, AV.one, Bool.and_true, Bool.true_and, if_true, ↓thenQ_normal, ↓thenQ_exit, ↓thenQ_ret, ↓blockQ_normal, ↓blockQ_ret, ↓blockQ_exit, ↓CW_true, ↓CW_false, CW_true, CW_false, condT, condF, RQ_some, tupA_one, tupA_two, tupA_nil, Nat.reduceSub, Nat.reduceAdd, Nat.reduceMul, Nat.zero_add, Nat.add_zero, Nat.reduceLeDiff, Nat.reduceEqDiff, eqV, eqAll, fillA, and_self, and_true, true_and, Nat.le_refl, Bool.not_true, Bool.not_false, Bool.false_xor, Bool.true_xor, cond_true, cond_false, List.replicate, if_false, reduceIte, resAll, resA, ne_eq, decide_not, decide_true, decide_false, Int.reduceEq, Bool.not_true, Bool.not_false, not_true_eq_false, not_false_eq_true, cond_bool, cond_int, beq_self_eq_true, Int.reduceBEq, Bool.and_self, Bool.and_false, Bool.false_and, Bool.xor_false, Bool.xor_true, loadN_ldC, ldC_none, ldC_somes, stC_aggs, splice, storeN_stC, stC_int, stC_bool, stC_ptr, stC_nilp, stC_sl, stC_nils, getC_gcO, gcO_cells, W_draw_eq, ↓W_scope, ev_clear, evT, evF, evX, evM, ↓exitQ_normal, ↓exitQ_ret, ↓exitQ_exit, saA_self, saO_self, if_pos, if_neg, wrapI, get_concat, set_concat, Int.toNat_natCast, Int.toNat_zero, List.nil_append, Nat.mul_one, decide_eq_true, decide_eq_false, Int.reduceLE, Int.reduceLT, Int.reduceNeg, Bool.false_or, Bool.true_or, Bool.or_false, Bool.or_true, wrapU, Int.reduceAdd, Int.reduceSub, Int.reduceMul, List.append_assoc, List.length_append, get_mid, get_mid0, set_mid, set_mid0, List.length_set, List.length_cons, List.length_nil, List.cons_append, List.getElem?_append_left, List.set_append_left, get_at, get_at0, set_at, set_at0, List.getElem?_set_self, List.getElem?_set_ne]
    refine W_loop (fun k e m => m = M ∧ ∃ z13 z14 z15 z16 z17 z18 z19 z20 z21 z22 z23 z24 z25 z26 z27 z28 : AV, e = [.agg (cfC c0), .int .i64 p, qv, bv, lv, .ptr cb 0, .bool false, .ptr j 0, .ptr rb 0, .nils, .ptr xj 0, .ptr yb 0, .int .i64 0, z13, z14, z15, z16, z17, z18, z19, z20, z21, z22, z23, z24, z25, z26, z27, z28]) 0 (by simp only [FUEL]; omega) ⟨rfl, _, _, _, _, _, _, _, _, _, _, _, _, _, _, _, _, rfl⟩ ?_
    rintro k e m ⟨rfl, y13, y14, y15, y16, y17, y18, y19, y20, y21, y22, y23, y24, y25, y26, y27, y28, rfl⟩
    simp (disch := first | assumption | omega | (simp only [List.length_cons, List.length_nil, List.length_set, List.length_append] <;> omega) | (simp only [get_mid, get_mid0, List.cons_append, List.append_assoc, List.getElem?_cons_zero, List.getElem?_cons_succ])) only [ek, ↓evW, ↓evQ, evB, evS, evL, List.map, AV.cells, List.all, AV.one, Bool.and_true, Bool.true_and, if_true, ↓thenQ_normal, ↓thenQ_exit, ↓thenQ_ret, ↓blockQ_normal, ↓blockQ_ret, ↓blockQ_exit, ↓CW_true, ↓CW_false, CW_true, CW_false, condT, condF, RQ_some, tupA_one, tupA_two, tupA_nil, Nat.reduceSub, Nat.reduceAdd, Nat.reduceMul, Nat.zero_add, Nat.add_zero, Nat.reduceLeDiff, Nat.reduceEqDiff, eqV, eqAll, fillA, and_self, and_true, true_and, Nat.le_refl, Bool.not_true, Bool.not_false, Bool.false_xor, Bool.true_xor, cond_true, cond_false, List.replicate, if_false, reduceIte, resAll, resA, ne_eq, decide_not, decide_true, decide_false, Int.reduceEq, Bool.not_true, Bool.not_false, not_true_eq_false, not_false_eq_true, cond_bool, cond_int, beq_self_eq_true, Int.reduceBEq, Bool.and_self, Bool.and_false, Bool.false_and, Bool.xor_false, Bool.xor_true, loadN_ldC, ldC_none, ldC_somes, stC_aggs, splice, storeN_stC, stC_int, stC_bool, stC_ptr, stC_nilp, stC_sl, stC_nils, getC_gcO, gcO_cells, W_draw_eq, ↓W_scope, ev_clear, evT, evF, evX, evM, ↓exitQ_normal, ↓exitQ_ret, ↓exitQ_exit, saA_self, saO_self, if_pos, if_neg, wrapI, get_concat, set_concat, Int.toNat_natCast, Int.toNat_zero, List.nil_append, Nat.mul_one, decide_eq_true, decide_eq_false, Int.reduceLE, Int.reduceLT, Int.reduceNeg, Bool.false_or, Bool.true_or, Bool.or_false, Bool.or_true, wrapU, Int.reduceAdd, Int.reduceSub, Int.reduceMul, List.append_assoc, List.length_append, get_mid, get_mid0, set_mid, set_mid0, List.length_set, List.length_cons, List.length_nil, List.cons_append, List.getElem?_append_left, List.set_append_left, get_at, get_at0, set_at, set_at0, List.getElem?_set_self, List.getElem?_set_ne, ev_len, hl0, Int.ofNat_zero]
    exact ⟨⟨_, _, _, _, _, _, _, _, _, _, _, _, _, _, _, _, _, rfl⟩, .inl rfl⟩
  · simp (disch := first | assumption | omega | (simp only [List.length_cons, List.length_nil, List.length_set, List.length_append] <;> omega) | (simp only [get_mid, get_mid0, List.cons_append, List.append_assoc, List.getElem?_cons_zero, List.getElem?_cons_succ])) only [lyW, sqN, law09_PutLayPlays, ek, ↓evW, ↓evQ, evB, evS, evL, List.map, AV.cells, List.all, AV.one, Bool.and_true, Bool.true_and, if_true, ↓thenQ_normal, ↓thenQ_exit, ↓thenQ_ret, ↓blockQ_normal, ↓blockQ_ret, ↓blockQ_exit, ↓CW_true, ↓CW_false, CW_true, CW_false, condT, condF, RQ_some, tupA_one, tupA_two, tupA_nil, Nat.reduceSub, Nat.reduceAdd, Nat.reduceMul, Nat.zero_add, Nat.add_zero, Nat.reduceLeDiff, Nat.reduceEqDiff, eqV, eqAll, fillA, and_self, and_true, true_and, Nat.le_refl, Bool.not_true, Bool.not_false, Bool.false_xor, Bool.true_xor, cond_true, cond_false, List.replicate, if_false, reduceIte, resAll, resA, ne_eq, decide_not, decide_true, decide_false, Int.reduceEq, Bool.not_true, Bool.not_false, not_true_eq_false, not_false_eq_true, cond_bool, cond_int, beq_self_eq_true, Int.reduceBEq, Bool.and_self, Bool.and_false, Bool.false_and, Bool.xor_false, Bool.xor_true, loadN_ldC, ldC_none, ldC_somes, stC_aggs, splice, storeN_stC, stC_int, stC_bool, stC_ptr, stC_nilp, stC_sl, stC_nils, getC_gcO, gcO_cells, W_draw_eq, ↓W_scope, ev_clear, evT, evF, evX, evM, ↓exitQ_normal, ↓exitQ_ret, ↓exitQ_exit, saA_self, saO_self, if_pos, if_neg, wrapI, get_concat, set_concat, Int.toNat_natCast, Int.toNat_zero, List.nil_append, Nat.mul_one, decide_eq_true, decide_eq_false, Int.reduceLE, Int.reduceLT, Int.reduceNeg, Bool.false_or, Bool.true_or, Bool.or_false, Bool.or_true, wrapU, Int.reduceAdd, Int.reduceSub, Int.reduceMul, List.append_assoc, List.length_append, get_mid, get_mid0, set_mid, set_mid0, List.length_set, List.length_cons, List.length_nil, List.cons_append, List.getElem?_append_left, List.set_append_left, get_at, get_at0, set_at, set_at0, List.getElem?_set_self, List.getElem?_set_ne]
    generalize hnn : ls.length = n at hn
    refine W_loop (LwI M c0 p qv bv lv cb j rb q xj yb n) n (by simp only [FUEL]; omega) ⟨0, _, _, _, _, _, _, _, _, _, _, _, _, _, _, _, _, ls, rfl, rfl, by omega, .refl _, hnn, hq⟩ ?_
    rintro k e m ⟨u, y13, y14, y15, y16, y17, y18, y19, y20, y21, y22, y23, y24, y25, y26, y27, y28, ys, rfl, rfl, hu, hk, hys, hm⟩
    by_cases hun : u < n
    · have hset : (iC ys).set u (.int .i64 77) = iC (ys.set u 77) := by simp [iC, List.map_set]
      have hlen : (iC ys).length = n := by rw [iC_len, hys]
      simp (disch := first | assumption | omega | (simp only [List.length_cons, List.length_nil, List.length_set, List.length_append] <;> omega) | (simp only [get_mid, get_mid0, List.cons_append, List.append_assoc, List.getElem?_cons_zero, List.getElem?_cons_succ])) only [ek, ↓evW, ↓evQ, evB, evS, evL, List.map, AV.cells, List.all, AV.one, Bool.and_true, Bool.true_and, if_true, ↓thenQ_normal, ↓thenQ_exit, ↓thenQ_ret, ↓blockQ_normal, ↓blockQ_ret, ↓blockQ_exit, ↓CW_true, ↓CW_false, CW_true, CW_false, condT, condF, RQ_some, tupA_one, tupA_two, tupA_nil, Nat.reduceSub, Nat.reduceAdd, Nat.reduceMul, Nat.zero_add, Nat.add_zero, Nat.reduceLeDiff, Nat.reduceEqDiff, eqV, eqAll, fillA, and_self, and_true, true_and, Nat.le_refl, Bool.not_true, Bool.not_false, Bool.false_xor, Bool.true_xor, cond_true, cond_false, List.replicate, if_false, reduceIte, resAll, resA, ne_eq, decide_not, decide_true, decide_false, Int.reduceEq, Bool.not_true, Bool.not_false, not_true_eq_false, not_false_eq_true, cond_bool, cond_int, beq_self_eq_true, Int.reduceBEq, Bool.and_self, Bool.and_false, Bool.false_and, Bool.xor_false, Bool.xor_true, loadN_ldC, ldC_none, ldC_somes, stC_aggs, splice, storeN_stC, stC_int, stC_bool, stC_ptr, stC_nilp, stC_sl, stC_nils, getC_gcO, gcO_cells, W_draw_eq, ↓W_scope, ev_clear, evT, evF, evX, evM, ↓exitQ_normal, ↓exitQ_ret, ↓exitQ_exit, saA_self, saO_self, if_pos, if_neg, wrapI, get_concat, set_concat, Int.toNat_natCast, Int.toNat_zero, List.nil_append, Nat.mul_one, decide_eq_true, decide_eq_false, Int.reduceLE, Int.reduceLT, Int.reduceNeg, Bool.false_or, Bool.true_or, Bool.or_false, Bool.or_true, wrapU, Int.reduceAdd, Int.reduceSub, Int.reduceMul, List.append_assoc, List.length_append, get_mid, get_mid0, set_mid, set_mid0, List.length_set, List.length_cons, List.length_nil, List.cons_append, List.getElem?_append_left, List.set_append_left, get_at, get_at0, set_at, set_at0, List.getElem?_set_self, List.getElem?_set_ne, ev_len, hlq, hm, hset, hlen]
      refine ⟨n - (u + 1), by omega, u + 1, _, _, _, _, _, _, _, _, _, _, _, _, _, _, _, _, ys.set u 77, rfl, rfl, by omega, ?_, by simpa using hys, List.getElem?_set_self (List.getElem?_eq_some_iff.1 hm).1⟩
      exact ⟨by simpa using hk.1, fun a ha hne => by rw [List.getElem?_set_ne (fun h => hne h.symm)]; exact hk.2 a ha hne⟩
    · simp (disch := first | assumption | omega | (simp only [List.length_cons, List.length_nil, List.length_set, List.length_append] <;> omega) | (simp only [get_mid, get_mid0, List.cons_append, List.append_assoc, List.getElem?_cons_zero, List.getElem?_cons_succ])) only [ek, ↓evW, ↓evQ, evB, evS, evL, List.map, AV.cells, List.all, AV.one, Bool.and_true, Bool.true_and, if_true, ↓thenQ_normal, ↓thenQ_exit, ↓thenQ_ret, ↓blockQ_normal, ↓blockQ_ret, ↓blockQ_exit, ↓CW_true, ↓CW_false, CW_true, CW_false, condT, condF, RQ_some, tupA_one, tupA_two, tupA_nil, Nat.reduceSub, Nat.reduceAdd, Nat.reduceMul, Nat.zero_add, Nat.add_zero, Nat.reduceLeDiff, Nat.reduceEqDiff, eqV, eqAll, fillA, and_self, and_true, true_and, Nat.le_refl, Bool.not_true, Bool.not_false, Bool.false_xor, Bool.true_xor, cond_true, cond_false, List.replicate, if_false, reduceIte, resAll, resA, ne_eq, decide_not, decide_true, decide_false, Int.reduceEq, Bool.not_true, Bool.not_false, not_true_eq_false, not_false_eq_true, cond_bool, cond_int, beq_self_eq_true, Int.reduceBEq, Bool.and_self, Bool.and_false, Bool.false_and, Bool.xor_false, Bool.xor_true, loadN_ldC, ldC_none, ldC_somes, stC_aggs, splice, storeN_stC, stC_int, stC_bool, stC_ptr, stC_nilp, stC_sl, stC_nils, getC_gcO, gcO_cells, W_draw_eq, ↓W_scope, ev_clear, evT, evF, evX, evM, ↓exitQ_normal, ↓exitQ_ret, ↓exitQ_exit, saA_self, saO_self, if_pos, if_neg, wrapI, get_concat, set_concat, Int.toNat_natCast, Int.toNat_zero, List.nil_append, Nat.mul_one, decide_eq_true, decide_eq_false, Int.reduceLE, Int.reduceLT, Int.reduceNeg, Bool.false_or, Bool.true_or, Bool.or_false, Bool.or_true, wrapU, Int.reduceAdd, Int.reduceSub, Int.reduceMul, List.append_assoc, List.length_append, get_mid, get_mid0, set_mid, set_mid0, List.length_set, List.length_cons, List.length_nil, List.cons_append, List.getElem?_append_left, List.set_append_left, get_at, get_at0, set_at, set_at0, List.getElem?_set_self, List.getElem?_set_ne, ev_len, hlq]
      exact ⟨⟨_, _, _, _, _, _, _, _, _, _, _, _, _, _, _, _, _, rfl⟩, .inr ⟨q, by rw [hnn], hq, hk⟩⟩
end Go.Am.F09
end
section
namespace Go.Am.F09
open Go.Am.F06 Go.Am.F10
theorem rlC_len (c : Cf) (p : Int) (s : LS) (lv : AV) : (rlC c p s lv).length = 12 := rfl
theorem rlC_take (c : Cf) (p : Int) (s : LS) (lv : AV) : (rlC c p s lv).take 12 = rlC c p s lv := rfl
theorem rlC_all (c : Cf) (p : Int) (s : LS) {lv : AV} (h : lv.one = true) : (rlC c p s lv).all AV.one = true := by
  rw [List.all_eq_true]
  intro x hx
  simp only [rlC, cfC, List.cons_append, List.nil_append, List.mem_cons, List.not_mem_nil, or_false] at hx
  rcases hx with rfl | rfl | rfl | rfl | rfl | rfl | rfl | rfl | rfl | rfl | rfl | rfl <;> first | rfl | assumption
theorem rlC_a (c : Cf) (p : Int) (s : LS) (lv : AV) : (rlC c p s lv)[8]? = some (.int .i64 s.a) := rfl
theorem rlC_drop (c : Cf) (p : Int) (s : LS) (lv : AV) : (rlC c p s lv).drop 12 = [] := rfl
def LyI (m0 : MM) (c0 c c' : Cf) (p0 p p' : Int) (qv bv : AV) (cb j rb : Nat) (ow : AV) (xj yb : Nat) (ps : List Pk) (lv : AV) (k : Nat) (e : List AV) (m : MM) : Prop := ∃ (i : Nat) (s : LS) (xs : List Int) (o : Int) (lx ly v : AV) (z12 z14 z15 z16 z17 z18 z19 z20 z21 z22 z23 z24 z25 z26 z27 z28 : AV),
  e = [.agg (cfC c0), .int .i64 p0, qv, bv, lv, .ptr cb 0, .bool false, .ptr j 0, .ptr rb 0, ow, .ptr xj 0, .ptr yb 0, z12, .int .i64 i, z14, z15, z16, z17, z18, z19, z20, z21, z22, z23, z24, z25, z26, z27, z28] ∧ k = ps.length + 1 - i ∧ i ≤ ps.length ∧ 0 ≤ o ∧ o ≤ 700 + 2 * i ∧ LyS m0 c c' p p' j rb xj yb ps lv s xs o lx ly v m
theorem stepL_ok {c : Cf} {p : Int} {s : LS} {xs : List Int} (h : OkL c xs) (hw : s.a = 0 ∨ W64 s.w) : OkL c (stepL c p xs s).2 := by
  unfold stepL
  split
  · exact h
  rename_i h0
  have hw := hw.resolve_left h0
  split
  · exact h
  split
  · exact h
  split
  · exact h.set _ (wrap64_b _)
  split
  · exact h.set _ (grow_64 hw _)
  · exact h
set_option maxHeartbeats 16000000 in
theorem lbody_run {m0 m : MM} {c c' : Cf} {p p' o : Int} {qv bv lv ow lx ly v : AV} {cb j rb xj yb i : Nat} {ps : List Pk} {s : LS} {xs : List Int} {z12 z14 z15 z16 z17 z18 z19 z20 z21 z22 z23 z24 z25 z26 z27 z28 : AV} (hlenl : lenA lv = some ps.length) (hv : ∀ x, x ∈ ps → W64 x.v) (hx0 : m0.length ≤ xj) (hr0 : m0.length ≤ rb) (hy0 : m0.length ≤ yb) (hj0 : m0.length ≤ j) (hi : i ≤ ps.length) (ho0 : 0 ≤ o) (ho1 : o ≤ 700 + 2 * i) (hn : ps.length ≤ 60) (hS : LyS m0 c c' p p' j rb xj yb ps lv s xs o lx ly v m) :
    W Gly (.seq lyC (.seq (.block 3 (.seq lyT lyU)) lyI)) (thenQ (blockQ 2 (thenQ (resQ [.loc 6] fun r m' => r = .bool true ∧ Keep m0 m') (W Gly lyE (resQ [.loc 6] fun r m' => r = .bool true ∧ Keep m0 m')))) fun e' m' => ∃ k, k < ps.length + 1 - i ∧ LyI m0 c c c' p p p' qv bv cb j rb ow xj yb ps lv k e' m') [.agg (cfC c), .int .i64 p, qv, bv, lv, .ptr cb 0, .bool false, .ptr j 0, .ptr rb 0, ow, .ptr xj 0, .ptr yb 0, z12, .int .i64 i, z14, z15, z16, z17, z18, z19, z20, z21, z22, z23, z24, z25, z26, z27, z28] m := by
  have a184 : assoc Gly 184 = some (pureF worksG) := rfl
  have a196 : assoc Gly 196 = some c_put_Lay_Done := rfl
  have a68 : assoc Gly 68 = some (amFunc F10.Gsmem F10.docs_SameMem) := rfl
  have a46 : assoc Gly 46 = some (memF fun s rest => (opsAsk s rest).map fun v => (v, s)) := rfl
  have a202 : assoc Gly 202 = some (amFunc Grl2 ref09_StepLay) := rfl
  have a195 : assoc Gly 195 = some (amFunc Glst put_Lay_Step) := rfl
  have a193 : assoc Gly 193 = some (amFunc Gpk law09_poked) := rfl
  have hrest : ∀ e m', Keep m m' → LtE c p qv bv lv cb j rb ow xj yb z12 i e → W Gly lyU (blockQ 3 (thenQ (thenQ (blockQ 2 (thenQ (resQ [.loc 6] fun r m' => r = .bool true ∧ Keep m0 m') (W Gly lyE (resQ [.loc 6] fun r m' => r = .bool true ∧ Keep m0 m')))) fun e' m' => ∃ k, k < ps.length + 1 - i ∧ LyI m0 c c c' p p p' qv bv cb j rb ow xj yb ps lv k e' m') (W Gly lyI (thenQ (blockQ 2 (thenQ (resQ [.loc 6] fun r m' => r = .bool true ∧ Keep m0 m') (W Gly lyE (resQ [.loc 6] fun r m' => r = .bool true ∧ Keep m0 m')))) fun e' m' => ∃ k, k < ps.length + 1 - i ∧ LyI m0 c c c' p p p' qv bv cb j rb ow xj yb ps lv k e' m')))) e m' := by
    rintro e m1 hk1 ⟨w14, w15, w16, w17, w18, w19, w20, w21, w22, w23, w24, w25, w26, w27, w28, rfl⟩
    have hS1 := hS.keep hk1
    have hcn := cellsN_le c
    obtain ⟨st, gj, hr⟩ := hS1.mem
    have hy1 := hS1.y
    have href := hS1.ref
    have hd := ldone_eq hS1.lm.get
    have honev := slOne hS1.su
    simp only [AV.one] at honev
    have hlx : xs.length ≤ 600 := by have := hS1.okL.1; omega
    simp only [memC] at href
    have hcc := hS1.cc
    have okc : LOk c' p' s := by
      rcases hcc with h0 | ⟨e1, e2⟩
      · exact ⟨hS1.ok.w, .inl h0, hS1.ok.l⟩
      · rw [e1, e2]; exact hS1.ok
    have hst : stepL c' p' xs s = stepL c p xs s := by
      rcases hcc with h0 | ⟨e1, e2⟩
      · rw [stepL, if_pos h0, stepL, if_pos h0]
      · rw [e1, e2]
    have hx' : s.a = 0 ∨ OkL c' xs := hcc.imp id (fun h => by rw [h.1]; exact hS1.okL)
    clear hS hk1
    have ha8 := rlC_a c' p' s ly
    have hone1 := slOne hS1.yl
    have hall := rlC_all c' p' s hone1
    have hlen := rlC_len c' p' s ly
    have htake := rlC_take c' p' s ly
    by_cases ha : s.a = 0
    all_goals first | (have hdd : decide (s.a = 0) = true := decide_eq_true ha) | (have hdd : decide (s.a = 0) = false := decide_eq_false ha)
    all_goals rw [hdd] at hd
    all_goals simp (disch := first | assumption | omega | (simp only [List.length_cons, List.length_nil, List.length_set, List.length_append] <;> omega) | (simp only [get_mid, get_mid0, List.cons_append, List.append_assoc, List.getElem?_cons_zero, List.getElem?_cons_succ])) only [lyU, sqT, lyX, lyB, sqN, law09_PutLayPlays, ek, ↓evW, ↓evQ, evB, evS, evL, List.map, AV.cells, List.all, AV.one, Bool.and_true, Bool.true_and, if_true, ↓thenQ_normal, ↓thenQ_exit, ↓thenQ_ret, ↓blockQ_normal, ↓blockQ_ret, ↓blockQ_exit, ↓CW_true, ↓CW_false, CW_true, CW_false, condT, condF, RQ_some, tupA_one, tupA_two, tupA_nil, Nat.reduceSub, Nat.reduceAdd, Nat.reduceMul, Nat.zero_add, Nat.add_zero, Nat.reduceLeDiff, Nat.reduceEqDiff, eqV, eqAll, fillA, and_self, and_true, true_and, Nat.le_refl, Bool.not_true, Bool.not_false, Bool.false_xor, Bool.true_xor, cond_true, cond_false, List.replicate, if_false, reduceIte, resAll, resA, ne_eq, decide_not, decide_true, decide_false, Int.reduceEq, Bool.not_true, Bool.not_false, not_true_eq_false, not_false_eq_true, cond_bool, cond_int, beq_self_eq_true, Int.reduceBEq, Bool.and_self, Bool.and_false, Bool.false_and, Bool.xor_false, Bool.xor_true, loadN_ldC, ldC_none, ldC_somes, stC_aggs, splice, storeN_stC, stC_int, stC_bool, stC_ptr, stC_nilp, stC_sl, stC_nils, getC_gcO, gcO_cells, W_draw_eq, ↓W_scope, ev_clear, evT, evF, evX, evM, ↓exitQ_normal, ↓exitQ_ret, ↓exitQ_exit, saA_self, saO_self, if_pos, if_neg, wrapI, get_concat, set_concat, Int.toNat_natCast, Int.toNat_zero, List.nil_append, Nat.mul_one, decide_eq_true, decide_eq_false, Int.reduceLE, Int.reduceLT, Int.reduceNeg, Bool.false_or, Bool.true_or, Bool.or_false, Bool.or_true, wrapU, Int.reduceAdd, Int.reduceSub, Int.reduceMul, List.append_assoc, List.length_append, get_mid, get_mid0, set_mid, set_mid0, List.length_set, List.length_cons, List.length_nil, List.cons_append, List.getElem?_append_left, List.set_append_left, get_at, get_at0, set_at, set_at0, List.getElem?_set_self, List.getElem?_set_ne, a196, hd, hy1, ha8, hdd, href, honev, a68]
    all_goals refine OKT_fn (samemem_run gj hr hS1.su (by omega)) ?_
    all_goals rintro _ m2 ⟨rfl, k2⟩
    all_goals have hS2 := hS1.keep k2
    all_goals have hy2 := hS2.y
    all_goals have hr2 := hS2.ref
    all_goals simp only [memC] at hr2
    all_goals have gj2 := k2.get gj
    all_goals have f46 := ops_of gj2
    all_goals rw [hr.ops] at f46
    all_goals clear hS1 k2 gj href
    all_goals by_cases hie : i = ps.length
    all_goals try (simp (disch := first | assumption | omega | (simp only [List.length_cons, List.length_nil, List.length_set, List.length_append] <;> omega) | (simp only [get_mid, get_mid0, List.cons_append, List.append_assoc, List.getElem?_cons_zero, List.getElem?_cons_succ])) only [ek, ↓evW, ↓evQ, evB, evS, evL, List.map, AV.cells, List.all, AV.one, Bool.and_true, Bool.true_and, if_true, ↓thenQ_normal, ↓thenQ_exit, ↓thenQ_ret, ↓blockQ_normal, ↓blockQ_ret, ↓blockQ_exit, ↓CW_true, ↓CW_false, CW_true, CW_false, condT, condF, RQ_some, tupA_one, tupA_two, tupA_nil, Nat.reduceSub, Nat.reduceAdd, Nat.reduceMul, Nat.zero_add, Nat.add_zero, Nat.reduceLeDiff, Nat.reduceEqDiff, eqV, eqAll, fillA, and_self, and_true, true_and, Nat.le_refl, Bool.not_true, Bool.not_false, Bool.false_xor, Bool.true_xor, cond_true, cond_false, List.replicate, if_false, reduceIte, resAll, resA, ne_eq, decide_not, decide_true, decide_false, Int.reduceEq, Bool.not_true, Bool.not_false, not_true_eq_false, not_false_eq_true, cond_bool, cond_int, beq_self_eq_true, Int.reduceBEq, Bool.and_self, Bool.and_false, Bool.false_and, Bool.xor_false, Bool.xor_true, loadN_ldC, ldC_none, ldC_somes, stC_aggs, splice, storeN_stC, stC_int, stC_bool, stC_ptr, stC_nilp, stC_sl, stC_nils, getC_gcO, gcO_cells, W_draw_eq, ↓W_scope, ev_clear, evT, evF, evX, evM, ↓exitQ_normal, ↓exitQ_ret, ↓exitQ_exit, saA_self, saO_self, if_pos, if_neg, wrapI, get_concat, set_concat, Int.toNat_natCast, Int.toNat_zero, List.nil_append, Nat.mul_one, decide_eq_true, decide_eq_false, Int.reduceLE, Int.reduceLT, Int.reduceNeg, Bool.false_or, Bool.true_or, Bool.or_false, Bool.or_true, wrapU, Int.reduceAdd, Int.reduceSub, Int.reduceMul, List.append_assoc, List.length_append, get_mid, get_mid0, set_mid, set_mid0, List.length_set, List.length_cons, List.length_nil, List.cons_append, List.getElem?_append_left, List.set_append_left, get_at, get_at0, set_at, set_at0, List.getElem?_set_self, List.getElem?_set_ne, hy1, ha8, hdd, ev_len, hlenl, lyE, sqT, law09_PutLayPlays, a184, pureF, worksG]; exact hS2.k0)
    all_goals simp (disch := first | assumption | omega | (simp only [List.length_cons, List.length_nil, List.length_set, List.length_append] <;> omega) | (simp only [get_mid, get_mid0, List.cons_append, List.append_assoc, List.getElem?_cons_zero, List.getElem?_cons_succ])) only [ek, ↓evW, ↓evQ, evB, evS, evL, List.map, AV.cells, List.all, AV.one, Bool.and_true, Bool.true_and, if_true, ↓thenQ_normal, ↓thenQ_exit, ↓thenQ_ret, ↓blockQ_normal, ↓blockQ_ret, ↓blockQ_exit, ↓CW_true, ↓CW_false, CW_true, CW_false, condT, condF, RQ_some, tupA_one, tupA_two, tupA_nil, Nat.reduceSub, Nat.reduceAdd, Nat.reduceMul, Nat.zero_add, Nat.add_zero, Nat.reduceLeDiff, Nat.reduceEqDiff, eqV, eqAll, fillA, and_self, and_true, true_and, Nat.le_refl, Bool.not_true, Bool.not_false, Bool.false_xor, Bool.true_xor, cond_true, cond_false, List.replicate, if_false, reduceIte, resAll, resA, ne_eq, decide_not, decide_true, decide_false, Int.reduceEq, Bool.not_true, Bool.not_false, not_true_eq_false, not_false_eq_true, cond_bool, cond_int, beq_self_eq_true, Int.reduceBEq, Bool.and_self, Bool.and_false, Bool.false_and, Bool.xor_false, Bool.xor_true, loadN_ldC, ldC_none, ldC_somes, stC_aggs, splice, storeN_stC, stC_int, stC_bool, stC_ptr, stC_nilp, stC_sl, stC_nils, getC_gcO, gcO_cells, W_draw_eq, ↓W_scope, ev_clear, evT, evF, evX, evM, ↓exitQ_normal, ↓exitQ_ret, ↓exitQ_exit, saA_self, saO_self, if_pos, if_neg, wrapI, get_concat, set_concat, Int.toNat_natCast, Int.toNat_zero, List.nil_append, Nat.mul_one, decide_eq_true, decide_eq_false, Int.reduceLE, Int.reduceLT, Int.reduceNeg, Bool.false_or, Bool.true_or, Bool.or_false, Bool.or_true, wrapU, Int.reduceAdd, Int.reduceSub, Int.reduceMul, List.append_assoc, List.length_append, get_mid, get_mid0, set_mid, set_mid0, List.length_set, List.length_cons, List.length_nil, List.cons_append, List.getElem?_append_left, List.set_append_left, get_at, get_at0, set_at, set_at0, List.getElem?_set_self, List.getElem?_set_ne, hy1, ha8, hdd, ev_len, hlenl, a46, f46, hy2, hall, hlen, htake, hr2, honev, a202]
    all_goals (
      have hrs := rlstep_run (c := c') (p := p') (o := o) hS2.su hS2.yl hS2.yn okc hx'
      rw [hst] at hrs
      simp only [memC] at hrs
      refine OK_fn hrs ?_
      rintro _ m3 ⟨k3, ly2, v2, rfl, syl, syn, ssu⟩
      have hok3 := hS2.ok.step (.inr hS2.okL)
      have hokL3 := stepL_ok (p := p) (s := s) hS2.okL (.inr hS2.ok.w)
      have hop : o ≤ opsL s o ∧ opsL s o ≤ o + 1 := by unfold opsL; split <;> (try split) <;> (try rw [wrapU (by omega) (by omega)]) <;> omega
      have hcc3 : (stepL c p xs s).1.a = 0 ∨ (c' = c ∧ p' = p) := hcc.imp (fun h0 => by rw [stepL, if_pos h0]; exact h0) id
      have hB3 := hS2.b.keep k3
      have hy3 := k3.get hy2
      have hr3 := k3.get hr2
      have hne3 := hS2.ne
      obtain ⟨stx, hjx, hrx⟩ := hB3.mem
      have hstep := fun (m : MM) (hx : LM m xj c p s lx) (hj : m[j]? = some (.abs (.mem stx))) => lstep_run (o := o) hx hj hrx (.inr hS2.okL) hS2.ok
      clear hrs okc hx' hst hcc hS2
      generalize stepL c p xs s = sx at syl syn ssu hok3 hokL3 hcc3 hstep ⊢
      generalize opsL s o = o' at hop hstep ⊢
      obtain ⟨s', xs'⟩ := sx
      simp only at syl syn ssu hok3 hokL3 hcc3
      have ny : yb ≠ rb := fun hh => by rw [hh, hr3] at hy3; cases hy3
      have nx : rb ≠ xj := fun hh => by have h1 := hB3.lm.get; rw [← hh, hr3] at h1; cases h1
      have ly3 : yb < m3.length := (List.getElem?_eq_some_iff.1 hy3).1
      have lr3 : rb < m3.length := (List.getElem?_eq_some_iff.1 hr3).1
      have hone1' := slOne syl
      have hone' := slOne ssu
      simp only [AV.one] at hone'
      have hall' := rlC_all c' p' s' hone1'
      have hlen' := rlC_len c' p' s' ly2
      have htake' := rlC_take c' p' s' ly2
      have ha8' := rlC_a c' p' s' ly2
      have hput : ∀ {L : List AV}, L.length = 12 → splice L 0 (rlC c' p' s' ly2) = rlC c' p' s' ly2 := fun {L} hL => by
        simp only [splice, List.take_zero, List.nil_append, hlen', Nat.zero_add]
        rw [List.drop_eq_nil_of_le (by omega), List.append_nil]
      have n12 : ∀ sz, sz ≠ 12 → ∀ ro L, m3[yb]? ≠ some (.cells sz ro L) := fun sz hsz ro L hh => by rw [hy3] at hh; injection hh with hh; injection hh with hh; exact hsz hh.symm
      have n2 : ∀ sz, sz ≠ 2 → ∀ ro L, (m3.set yb (.cells 12 false (rlC c' p' s' ly2)))[rb]? ≠ some (.cells sz ro L) := fun sz hsz ro L hh => by rw [List.getElem?_set_ne ny, hr3] at hh; injection hh with hh; injection hh with hh; exact hsz hh.symm
      have hrow : ∀ {wr : Bool} {sz n : Nat} {l : List AV} {w : AV}, sz ≠ 12 → sz ≠ 2 → Sl m3 wr sz n l w → Sl ((m3.set yb (.cells 12 false (rlC c' p' s' ly2))).set rb (.cells 2 false [v2, .int .u64 o']) ++ [Chunk.cells 12 false (rlC c' p' s' ly2), Chunk.cells 2 false [v2, .int .u64 o']]) wr sz n l w := fun h12 h2 h =>
        Sl.keep ((Sl.put h (n12 _ h12) _).put (n2 _ h2) _) (Keep.app _ _)
      have G5 := hrow (by decide) (by decide) syl
      have G6 := hrow (by decide) (by decide) ssu
      have G7 := fun hp => (((syn hp).put (n12 1 (by decide)) (.cells 12 false (rlC c' p' s' ly2))).put (n2 1 (by decide)) (.cells 2 false [v2, .int .u64 o'])).keep (Keep.app _ [Chunk.cells 12 false (rlC c' p' s' ly2), Chunk.cells 2 false [v2, .int .u64 o']])
      have hB7 := ((hB3.setb hy3 (by decide) (by decide) (fun hh => hne3 hh.symm) (by omega) (.cells 12 false (rlC c' p' s' ly2))).setb (b := rb) (by rw [List.getElem?_set_ne ny]; exact hr3) (by decide) (by decide) nx (by omega) (.cells 2 false [v2, .int .u64 o'])).keep (Keep.app _ [Chunk.cells 12 false (rlC c' p' s' ly2), Chunk.cells 2 false [v2, .int .u64 o']])
      have G2 : ((m3.set yb (.cells 12 false (rlC c' p' s' ly2))).set rb (.cells 2 false [v2, .int .u64 o']) ++ [Chunk.cells 12 false (rlC c' p' s' ly2), Chunk.cells 2 false [v2, .int .u64 o']])[rb]? = some (.cells 2 false [v2, .int .u64 o']) := by
        rw [List.getElem?_append_left (by simp; omega), List.getElem?_set_self (by simp; omega)]
      have G3 : ((m3.set yb (.cells 12 false (rlC c' p' s' ly2))).set rb (.cells 2 false [v2, .int .u64 o']) ++ [Chunk.cells 12 false (rlC c' p' s' ly2), Chunk.cells 2 false [v2, .int .u64 o']])[yb]? = some (.cells 12 false (rlC c' p' s' ly2)) := by
        rw [List.getElem?_append_left (by simp; omega), List.getElem?_set_ne (fun h => ny h.symm), List.getElem?_set_self (by omega)]
      have Gj : ((m3.set yb (.cells 12 false (rlC c' p' s' ly2))).set rb (.cells 2 false [v2, .int .u64 o']) ++ [Chunk.cells 12 false (rlC c' p' s' ly2), Chunk.cells 2 false [v2, .int .u64 o']])[j]? = some (.abs (.mem stx)) := by
        have e2 : yb ≠ j := fun hh => by rw [hh, hjx] at hy3; cases hy3
        have e3 : rb ≠ j := fun hh => by rw [hh, hjx] at hr3; cases hr3
        rw [List.getElem?_append_left (by have := (List.getElem?_eq_some_iff.1 hjx).1; simpa using this), List.getElem?_set_ne e3, List.getElem?_set_ne e2]; exact hjx
      generalize hM7 : (m3.set yb (.cells 12 false (rlC c' p' s' ly2))).set rb (.cells 2 false [v2, .int .u64 o']) ++ [Chunk.cells 12 false (rlC c' p' s' ly2), Chunk.cells 2 false [v2, .int .u64 o']] = M7 at hB7 G2 G3 G5 G6 G7 Gj
      simp (disch := first | assumption | omega | (simp only [List.length_cons, List.length_nil, List.length_set, List.length_append] <;> omega) | (simp only [get_mid, get_mid0, List.cons_append, List.append_assoc, List.getElem?_cons_zero, List.getElem?_cons_succ])) only [ek, ↓evW, ↓evQ, evB, evS, evL, List.map, AV.cells, List.all, AV.one, Bool.and_true, Bool.true_and, if_true, ↓thenQ_normal, ↓thenQ_exit, ↓thenQ_ret, ↓blockQ_normal, ↓blockQ_ret, ↓blockQ_exit, ↓CW_true, ↓CW_false, CW_true, CW_false, condT, condF, RQ_some, tupA_one, tupA_two, tupA_nil, Nat.reduceSub, Nat.reduceAdd, Nat.reduceMul, Nat.zero_add, Nat.add_zero, Nat.reduceLeDiff, Nat.reduceEqDiff, eqV, eqAll, fillA, and_self, and_true, true_and, Nat.le_refl, Bool.not_true, Bool.not_false, Bool.false_xor, Bool.true_xor, cond_true, cond_false, List.replicate, if_false, reduceIte, resAll, resA, ne_eq, decide_not, decide_true, decide_false, Int.reduceEq, Bool.not_true, Bool.not_false, not_true_eq_false, not_false_eq_true, cond_bool, cond_int, beq_self_eq_true, Int.reduceBEq, Bool.and_self, Bool.and_false, Bool.false_and, Bool.xor_false, Bool.xor_true, loadN_ldC, ldC_none, ldC_somes, stC_aggs, splice, storeN_stC, stC_int, stC_bool, stC_ptr, stC_nilp, stC_sl, stC_nils, getC_gcO, gcO_cells, W_draw_eq, ↓W_scope, ev_clear, evT, evF, evX, evM, ↓exitQ_normal, ↓exitQ_ret, ↓exitQ_exit, saA_self, saO_self, if_pos, if_neg, wrapI, get_concat, set_concat, Int.toNat_natCast, Int.toNat_zero, List.nil_append, Nat.mul_one, decide_eq_true, decide_eq_false, Int.reduceLE, Int.reduceLT, Int.reduceNeg, Bool.false_or, Bool.true_or, Bool.or_false, Bool.or_true, wrapU, Int.reduceAdd, Int.reduceSub, Int.reduceMul, List.append_assoc, List.length_append, get_mid, get_mid0, set_mid, set_mid0, List.length_set, List.length_cons, List.length_nil, List.cons_append, List.getElem?_append_left, List.set_append_left, get_at, get_at0, set_at, set_at0, List.getElem?_set_self, List.getElem?_set_ne, memC, hone', hy3, hr3, hall', hlen', htake', hput, List.drop_zero, List.drop_succ_cons, List.drop_nil, List.append_nil, rlC_drop, a195]
      rw [hM7]
      refine OKT_fn (hstep _ hB7.lm Gj) ?_
      intro r8 m8 hP
      obtain ⟨rfl, lx8, hS8⟩ := LyB.step hB7 (by omega) (by omega) G3 G5 G7 hne3 G6 G2 hok3 hokL3 hcc3 hP
      obtain ⟨st8, gj8, r8⟩ := hS8.mem
      have hy8 := hS8.y
      have hr8 := hS8.ref
      have f46 := ops_of gj8
      rw [r8.ops] at f46
      have ho3 : IntKind.u64.wrap (o + 1) = o + 1 := wrapU (by omega) (by omega)
      have ho4 : ¬ (o + 1 < o') := by omega
      have hlt : i < ps.length := by omega
      obtain ⟨pk, hpk⟩ : ∃ pk, ps[i]? = some pk := ⟨_, List.getElem?_eq_getElem hlt⟩
      have hlx8 : xs'.length ≤ 600 := by have := hS8.okL.1; omega
      clear hP hM7 hB7 G2 G5 G6 G7 Gj hstep hjx hrx hB3 hy3 hr3 ly3 lr3 hrow hput syl syn ssu n12 n2
      obtain ⟨q, oo, cap, ro, L, rfl, c2, c3, c4, c5, c6, c7⟩ := spk_get hS8.ps hpk
      have hrow3 : (L.drop (oo + i * 3)).take 3 = pkC pk := by
        refine F10.pk_of (by rw [List.length_take, List.length_drop]; omega) ?_ ?_ ?_
        · rw [List.getElem?_take, if_pos (by omega), List.getElem?_drop]; exact c5
        · rw [List.getElem?_take, if_pos (by omega), List.getElem?_drop]; exact c6
        · rw [List.getElem?_take, if_pos (by omega), List.getElem?_drop]; exact c7
      have hpkl : (pkC pk).length = 3 := rfl
      have hpka : (pkC pk).all AV.one = true := rfl
      simp only [memC] at hr8
      obtain ⟨b3, hb3⟩ : ∃ b3, decide (s'.a = 0) = b3 := ⟨_, rfl⟩
      cases b3
      all_goals simp (disch := first | assumption | omega | (simp only [List.length_cons, List.length_nil, List.length_set, List.length_append] <;> omega) | (simp only [get_mid, get_mid0, List.cons_append, List.append_assoc, List.getElem?_cons_zero, List.getElem?_cons_succ])) only [ek, ↓evW, ↓evQ, evB, evS, evL, List.map, AV.cells, List.all, AV.one, Bool.and_true, Bool.true_and, if_true, ↓thenQ_normal, ↓thenQ_exit, ↓thenQ_ret, ↓blockQ_normal, ↓blockQ_ret, ↓blockQ_exit, ↓CW_true, ↓CW_false, CW_true, CW_false, condT, condF, RQ_some, tupA_one, tupA_two, tupA_nil, Nat.reduceSub, Nat.reduceAdd, Nat.reduceMul, Nat.zero_add, Nat.add_zero, Nat.reduceLeDiff, Nat.reduceEqDiff, eqV, eqAll, fillA, and_self, and_true, true_and, Nat.le_refl, Bool.not_true, Bool.not_false, Bool.false_xor, Bool.true_xor, cond_true, cond_false, List.replicate, if_false, reduceIte, resAll, resA, ne_eq, decide_not, decide_true, decide_false, Int.reduceEq, Bool.not_true, Bool.not_false, not_true_eq_false, not_false_eq_true, cond_bool, cond_int, beq_self_eq_true, Int.reduceBEq, Bool.and_self, Bool.and_false, Bool.false_and, Bool.xor_false, Bool.xor_true, loadN_ldC, ldC_none, ldC_somes, stC_aggs, splice, storeN_stC, stC_int, stC_bool, stC_ptr, stC_nilp, stC_sl, stC_nils, getC_gcO, gcO_cells, W_draw_eq, ↓W_scope, ev_clear, evT, evF, evX, evM, ↓exitQ_normal, ↓exitQ_ret, ↓exitQ_exit, saA_self, saO_self, if_pos, if_neg, wrapI, get_concat, set_concat, Int.toNat_natCast, Int.toNat_zero, List.nil_append, Nat.mul_one, decide_eq_true, decide_eq_false, Int.reduceLE, Int.reduceLT, Int.reduceNeg, Bool.false_or, Bool.true_or, Bool.or_false, Bool.or_true, wrapU, Int.reduceAdd, Int.reduceSub, Int.reduceMul, List.append_assoc, List.length_append, get_mid, get_mid0, set_mid, set_mid0, List.length_set, List.length_cons, List.length_nil, List.cons_append, List.getElem?_append_left, List.set_append_left, get_at, get_at0, set_at, set_at0, List.getElem?_set_self, List.getElem?_set_ne, hb3, G3, hy8, ha8', f46, ho3, ho4, a46, hr8, hone', ev_len, hlenl, c2, hrow3, hpka, hpkl, a193]
      all_goals have hpo := poked_run (x := pk) gj8 r8 hS8.su (by omega) (by omega) (by omega)
      all_goals simp only [memC] at hpo
      all_goals refine OK_fn hpo ?_
      all_goals rintro _ m9 ⟨k9, v9, xs9, o9, st9, rfl, su9, gj9, r9, ok9, o9a, o9b⟩
      all_goals have hS9 := hS8.poke (by omega) (by omega) k9 gj9 r9 su9 (ok9 c hS8.okL (hv _ (List.mem_of_getElem? hpk)))
      all_goals have hr9 : m9[rb]? = some (.cells 2 false [v2, .int .u64 o']) := by rw [k9.2 rb (List.getElem?_eq_some_iff.1 hr8).1 (fun hh => by rw [hh, gj8] at hr8; cases hr8)]; exact hr8
      all_goals have hone9 := slOne su9
      all_goals simp only [AV.one] at hone9
      all_goals simp (disch := first | assumption | omega | (simp only [List.length_cons, List.length_nil, List.length_set, List.length_append] <;> omega) | (simp only [get_mid, get_mid0, List.cons_append, List.append_assoc, List.getElem?_cons_zero, List.getElem?_cons_succ])) only [ek, ↓evW, ↓evQ, evB, evS, evL, List.map, AV.cells, List.all, AV.one, Bool.and_true, Bool.true_and, if_true, ↓thenQ_normal, ↓thenQ_exit, ↓thenQ_ret, ↓blockQ_normal, ↓blockQ_ret, ↓blockQ_exit, ↓CW_true, ↓CW_false, CW_true, CW_false, condT, condF, RQ_some, tupA_one, tupA_two, tupA_nil, Nat.reduceSub, Nat.reduceAdd, Nat.reduceMul, Nat.zero_add, Nat.add_zero, Nat.reduceLeDiff, Nat.reduceEqDiff, eqV, eqAll, fillA, and_self, and_true, true_and, Nat.le_refl, Bool.not_true, Bool.not_false, Bool.false_xor, Bool.true_xor, cond_true, cond_false, List.replicate, if_false, reduceIte, resAll, resA, ne_eq, decide_not, decide_true, decide_false, Int.reduceEq, Bool.not_true, Bool.not_false, not_true_eq_false, not_false_eq_true, cond_bool, cond_int, beq_self_eq_true, Int.reduceBEq, Bool.and_self, Bool.and_false, Bool.false_and, Bool.xor_false, Bool.xor_true, loadN_ldC, ldC_none, ldC_somes, stC_aggs, splice, storeN_stC, stC_int, stC_bool, stC_ptr, stC_nilp, stC_sl, stC_nils, getC_gcO, gcO_cells, W_draw_eq, ↓W_scope, ev_clear, evT, evF, evX, evM, ↓exitQ_normal, ↓exitQ_ret, ↓exitQ_exit, saA_self, saO_self, if_pos, if_neg, wrapI, get_concat, set_concat, Int.toNat_natCast, Int.toNat_zero, List.nil_append, Nat.mul_one, decide_eq_true, decide_eq_false, Int.reduceLE, Int.reduceLT, Int.reduceNeg, Bool.false_or, Bool.true_or, Bool.or_false, Bool.or_true, wrapU, Int.reduceAdd, Int.reduceSub, Int.reduceMul, List.append_assoc, List.length_append, get_mid, get_mid0, set_mid, set_mid0, List.length_set, List.length_cons, List.length_nil, List.cons_append, List.getElem?_append_left, List.set_append_left, get_at, get_at0, set_at, set_at0, List.getElem?_set_self, List.getElem?_set_ne, memC, hr9, hone9, lyI, lyB, sqN, law09_PutLayPlays]
      all_goals exact ⟨ps.length + 1 - (i + 1), by omega, i + 1, s', xs9, o9, lx8, ly2, v9, _, _, _, _, _, _, _, _, _, _, _, _, _, _, _, _, rfl, rfl, by omega, by omega, by omega, hS9⟩)
  simp (disch := first | assumption | omega | (simp only [List.length_cons, List.length_nil, List.length_set, List.length_append] <;> omega) | (simp only [get_mid, get_mid0, List.cons_append, List.append_assoc, List.getElem?_cons_zero, List.getElem?_cons_succ])) only [lyC, lyB, sqN, law09_PutLayPlays, ek, ↓evW, ↓evQ, evB, evS, evL, List.map, AV.cells, List.all, AV.one, Bool.and_true, Bool.true_and, if_true, ↓thenQ_normal, ↓thenQ_exit, ↓thenQ_ret, ↓blockQ_normal, ↓blockQ_ret, ↓blockQ_exit, ↓CW_true, ↓CW_false, CW_true, CW_false, condT, condF, RQ_some, tupA_one, tupA_two, tupA_nil, Nat.reduceSub, Nat.reduceAdd, Nat.reduceMul, Nat.zero_add, Nat.add_zero, Nat.reduceLeDiff, Nat.reduceEqDiff, eqV, eqAll, fillA, and_self, and_true, true_and, Nat.le_refl, Bool.not_true, Bool.not_false, Bool.false_xor, Bool.true_xor, cond_true, cond_false, List.replicate, if_false, reduceIte, resAll, resA, ne_eq, decide_not, decide_true, decide_false, Int.reduceEq, Bool.not_true, Bool.not_false, not_true_eq_false, not_false_eq_true, cond_bool, cond_int, beq_self_eq_true, Int.reduceBEq, Bool.and_self, Bool.and_false, Bool.false_and, Bool.xor_false, Bool.xor_true, loadN_ldC, ldC_none, ldC_somes, stC_aggs, splice, storeN_stC, stC_int, stC_bool, stC_ptr, stC_nilp, stC_sl, stC_nils, getC_gcO, gcO_cells, W_draw_eq, ↓W_scope, ev_clear, evT, evF, evX, evM, ↓exitQ_normal, ↓exitQ_ret, ↓exitQ_exit, saA_self, saO_self, if_pos, if_neg, wrapI, get_concat, set_concat, Int.toNat_natCast, Int.toNat_zero, List.nil_append, Nat.mul_one, decide_eq_true, decide_eq_false, Int.reduceLE, Int.reduceLT, Int.reduceNeg, Bool.false_or, Bool.true_or, Bool.or_false, Bool.or_true, wrapU, Int.reduceAdd, Int.reduceSub, Int.reduceMul, List.append_assoc, List.length_append, get_mid, get_mid0, set_mid, set_mid0, List.length_set, List.length_cons, List.length_nil, List.cons_append, List.getElem?_append_left, List.set_append_left, get_at, get_at0, set_at, set_at0, List.getElem?_set_self, List.getElem?_set_ne, ev_len, hlenl]
  refine W_mono (lyT_run hS.lm hS.y hS.yl (by have := hS.ok.l; omega)) ?_
  rintro _ e2 m2 ⟨rfl, hk2, hE⟩
  simp only [thenQ_normal]
  exact hrest e2 m2 hk2 hE
end Go.Am.F09
end
