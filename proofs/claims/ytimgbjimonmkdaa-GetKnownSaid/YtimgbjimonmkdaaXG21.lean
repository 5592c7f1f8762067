import Derived.Test.YtimgbjimonmkdaaXG20
set_option linter.unusedSimpArgs false
set_option linter.unusedVariables false
section
namespace Go.Am.F10
open Go.Am.F06
def ringN (c : Cf) (w : Int) : Nat := if sz w ≤ c.q then (sz w).toNat else 0
def ringAt (c : Cf) (p : Int) (xs : List Int) (w : Int) (i : Nat) : Int := IntKind.i64.wrap (xs.getD (slotA c p ((hd w + i) % 4294967296)).toNat 0)
def ringW (c : Cf) (p : Int) (xs : List Int) (w : Int) (n : Nat) : List Int := (List.range n).map (ringAt c p xs w)
def ringL (c : Cf) (p : Int) (xs : List Int) : List Int := if thereP c p then ringW c p xs (xs.getD (wrdN c p) 0) (ringN c (xs.getD (wrdN c p) 0)) else []
theorem ringW_len (c : Cf) (p : Int) (xs : List Int) (w : Int) (n : Nat) : (ringW c p xs w n).length = n := by simp [ringW]
theorem ringW_succ (c : Cf) (p : Int) (xs : List Int) (w : Int) (n : Nat) : ringW c p xs w (n + 1) = ringW c p xs w n ++ [ringAt c p xs w n] := by simp [ringW, List.range_succ]
theorem ringN_le {c : Cf} {p : Int} (h : thereP c p) (w : Int) : ringN c w ≤ 64 := by
  have := there_bounds h
  unfold ringN; split <;> omega
def Gring : List (Nat × AFun Ob) := [(47, memNF allS), (156, c_conf_Config_Cells), (159, c_conf_Config_Word), (160, c_conf_Config_Slot)]
def RnI (m M0 : MM) (c : Cf) (p : Int) (j : Nat) (xs : List Int) (w : Int) (l : AV) (k : Nat) (e : List AV) (mm : MM) : Prop := ∃ (i : Nat) (r y11 y12 y13 y14 : AV),
  e = [.agg (cfC c), .ptr j 0, .int .i64 p, .ptr m.length 0, .nils, r, l, .int .u64 w, .int .u32 (hd w), .int .u32 (tl w), .int .u32 i, y11, y12, y13, y14] ∧ k = ringN c w - i ∧ i ≤ ringN c w ∧ Keep M0 mm ∧ Own M0 mm 1 (ringW c p xs w i).length (iC (ringW c p xs w i)) r
set_option maxHeartbeats 8000000 in
theorem ring_run {m : MM} {c : Cf} {p o : Int} {xs : List Int} {j : Nat} {st : MemSt} (hj : m[j]? = some (.abs (.mem st))) (hr : RelM xs o st) (hx : OkL c xs) :
    Fn Gring docs_Ring [.agg (cfC c), .ptr j 0, .int .i64 p] m (fun r m' => Keep m m' ∧ SI m' true (ringL c p xs) r ∧ Fr m.length r ∧ Nx m' r) := by
  have a47 : assoc Gring 47 = some (memNF allS) := rfl
  have a156 : assoc Gring 156 = some c_conf_Config_Cells := rfl
  have a159 : assoc Gring 159 = some c_conf_Config_Word := rfl
  have a160 : assoc Gring 160 = some c_conf_Config_Slot := rfl
  generalize Gring = G at a47 a156 a159 a160 ⊢
  have lj : j < m.length := (List.getElem?_eq_some_iff.1 hj).1
  have hcn := cellsN_le c
  have hxl := hx.1
  have hj1 : (m ++ [Chunk.cells 6 false (cfC c)])[j]? = some (.abs (.mem st)) := by rw [List.getElem?_append_left lj]; exact hj
  obtain ⟨rfl, _, _⟩ := hr
  obtain ⟨l, f47, sl, _⟩ := all_of hj1 (by omega)
  have hlen := sl.len
  rw [hxl] at hlen
  have g0 : (m ++ [Chunk.cells 6 false (cfC c)] ++ [.cells 1 false (uC st.cells)])[m.length]? = some (Chunk.cells 6 false (cfC c)) := by rw [List.append_assoc, get_mid0]; rfl
  have hk0 : Keep m (m ++ [Chunk.cells 6 false (cfC c)] ++ [.cells 1 false (uC st.cells)]) := by rw [List.append_assoc]; exact Keep.app _ _
  generalize hM : m ++ [Chunk.cells 6 false (cfC c)] ++ [.cells 1 false (uC st.cells)] = M1 at f47 sl g0 hk0
  have hc := fun K : MM => cells_eq (M1 ++ K) c
  obtain ⟨J, hcells⟩ := cells_eq M1 c
  have hw := fun K : MM => word_run (m := M1 ++ K) c p
  have g0' := fun K : MM => (Keep.app M1 K).get g0
  simp only [cfC, List.cons_append, List.nil_append, List.append_assoc] at hcells hw g0 g0' f47
  refine Fn_of rfl ?_
  by_cases h : thereP c p
  · have hb := there_bounds h
    have ha0 := addr_b h (i := 0) (by omega) (by omega)
    have hwt : (addrA c p 0).toNat = wrdN c p := rfl
    obtain ⟨w, hw1⟩ : ∃ w, st.cells[wrdN c p]? = some w := ⟨_, List.getElem?_eq_getElem (by omega)⟩
    have hwd : st.cells.getD (wrdN c p) 0 = w := by rw [List.getD_eq_getElem?_getD, hw1]; rfl
    have hw64 : W64 w := hx.2 w (List.mem_of_getElem? hw1)
    obtain ⟨q, oo, cap, ro, L, rfl, b2, b3, b4, b5, b6⟩ := SU.get sl hw1
    have b2' := fun K : MM => (Keep.app M1 K).get b2
    simp (disch := first | assumption | omega | (simp only [List.length_cons, List.length_nil, List.length_set, List.length_append] <;> omega) | (simp only [get_mid, get_mid0, List.cons_append, List.append_assoc, List.getElem?_cons_zero, List.getElem?_cons_succ])) only [docs_Ring, ek, ↓evW, ↓evQ, evB, evS, evL, List.map, AV.cells, List.all, AV.one, Bool.and_true, Bool.true_and, if_true, ↓thenQ_normal, ↓thenQ_exit, ↓thenQ_ret, ↓blockQ_normal, ↓blockQ_ret, ↓blockQ_exit, ↓CW_true, ↓CW_false, CW_true, CW_false, condT, condF, RQ_some, tupA_one, tupA_two, tupA_nil, Nat.reduceSub, Nat.reduceAdd, Nat.reduceMul, Nat.zero_add, Nat.add_zero, Nat.reduceLeDiff, Nat.reduceEqDiff, eqV, eqAll, fillA, and_self, and_true, true_and, Nat.le_refl, Bool.not_true, Bool.not_false, Bool.false_xor, Bool.true_xor, cond_true, cond_false, List.replicate, if_false, reduceIte, resAll, resA, ne_eq, decide_not, decide_true, decide_false, Int.reduceEq, Bool.not_true, Bool.not_false, not_true_eq_false, not_false_eq_true, cond_bool, cond_int, beq_self_eq_true, Int.reduceBEq, Bool.and_self, Bool.and_false, Bool.false_and, Bool.xor_false, Bool.xor_true, loadN_ldC, ldC_none, ldC_somes, stC_aggs, splice, storeN_stC, stC_int, stC_bool, stC_ptr, stC_nilp, stC_sl, stC_nils, getC_gcO, gcO_cells, W_draw_eq, ↓W_scope, ev_clear, evT, evF, evX, evM, ↓exitQ_normal, ↓exitQ_ret, ↓exitQ_exit, saA_self, saO_self, if_pos, if_neg, wrapI, get_concat, set_concat, Int.toNat_natCast, Int.toNat_zero, List.nil_append, Nat.mul_one, decide_eq_true, decide_eq_false, Int.reduceLE, Int.reduceLT, Int.reduceNeg, Bool.false_or, Bool.true_or, Bool.or_false, Bool.or_true, wrapU, Int.reduceAdd, Int.reduceSub, Int.reduceMul, List.append_assoc, List.length_append, get_mid, get_mid0, set_mid, set_mid0, List.length_set, List.length_cons, List.length_nil, List.cons_append, List.getElem?_append_left, List.set_append_left, get_at, get_at0, set_at, set_at0, List.getElem?_set_self, List.getElem?_set_ne, cfC, a47, f47, ev_len, hlen, g0, g0', a156, hcells, a159, hw, b2', b6, hwt, shr_eq]
    have hN := ringN_le h w
    have hhb := hd_b hw64
    have eh : IntKind.u32.wrap (w / 4294967296) = hd w := by rw [wrap32]; unfold hd; unfold W64 at hw64; omega
    have et : IntKind.u32.wrap w = tl w := wrap32 w
    have esz : IntKind.u32.wrap (tl w - hd w) = sz w := wrap32 _
    have e0 : IntKind.u32.wrap c.q = c.q := by rw [wrap32]; omega
    have hsz0 : 0 ≤ sz w := by unfold sz; omega
    rw [eh, et]
    rw [ringL, if_pos h, hwd]
    clear hw g0' b2' hcells hM f47 hj hj1 hw1 b6 b4 b5
    generalize hM0 : M1 ++ _ = M0
    have hK1 : Keep M1 M0 := by rw [← hM0]; exact Keep.app _ _
    have g0 := hK1.get g0
    have b2 := hK1.get b2
    have sl := sl.keep hK1
    have hmk : Keep m M0 := hk0.trans hK1
    clear hM0 hK1 hk0
    refine W_loop (RnI m M0 c p j st.cells w (.sl q oo st.cells.length cap)) (ringN c w) (by simp only [FUEL]; omega) ⟨0, .nils, _, _, _, _, rfl, rfl, by omega, Keep.refl _, own_nil⟩ ?_
    rintro k e mm ⟨i, r, y11, y12, y13, y14, rfl, rfl, hi, hk, hown⟩
    have hone := hown.val1
    simp only [AV.one] at hone
    have gm := hk.get g0
    have bm := hk.get b2
    by_cases hle : sz w ≤ c.q
    · have hn : (ringN c w : Int) = sz w := by unfold ringN; rw [if_pos hle]; omega
      by_cases hlt : (i : Int) < sz w
      · have e1 : IntKind.u32.wrap (hd w + i) = (hd w + i) % 4294967296 := wrap32 _
        have hm0 := Int.emod_nonneg (hd w + i) (b := 4294967296) (by omega)
        have hm1 := Int.emod_lt_of_pos (hd w + i) (b := 4294967296) (by omega)
        have hs := fun M : MM => slot_eqR M h.1 p hm0 hm1
        have hsb := slot_b h hm0
        obtain ⟨x, hx2⟩ : ∃ x, st.cells[(slotA c p ((hd w + i) % 4294967296)).toNat]? = some x := ⟨_, List.getElem?_eq_getElem (by omega)⟩
        obtain ⟨q2, oo2, cap2, ro2, L2, hv, d2, d3, d4, d5, d6⟩ := SU.get (sl.keep hk) hx2
        injection hv with v1 v2 v3 v4
        subst v1; subst v2; subst v4
        rw [bm] at d2
        injection d2 with d2; injection d2 with _ d2 d2'
        subst d2; subst d2'
        have hat : ringAt c p st.cells w i = IntKind.i64.wrap x := by unfold ringAt; rw [List.getD_eq_getElem?_getD, hx2]; rfl
        obtain ⟨r', m', happ, ho', hl', hpre⟩ := own_push (hown.more [Chunk.cells 6 false (cfC c), Chunk.cells 6 false (cfC c), Chunk.cells 7 false (cfC c ++ [AV.int .i64 p]), Chunk.cells 6 false (cfC c)]) (IntKind.i64.wrap x) (by rw [ringW_len]; omega) (by have := hk.1; simp only [List.length_append]; omega)
        rw [← hat, ← ringW_succ] at ho'
        have hk' : Keep M0 m' := by
          refine ⟨by have := hk.1; simp only [List.length_append] at hl'; omega, fun a ha => ?_⟩
          have := hk.1
          rw [hpre a (by simp only [List.length_append]; omega) (.inr ha), List.getElem?_append_left (by omega)]
          exact hk.2 a ha
        have ei : IntKind.u32.wrap ((i : Int) + 1) = (i : Int) + 1 := by rw [wrap32]; omega
        have lq : q < mm.length := (List.getElem?_eq_some_iff.1 bm).1
        have lm : m.length < mm.length := (List.getElem?_eq_some_iff.1 gm).1
        simp only [cfC, List.cons_append, List.nil_append, List.append_assoc, List.length_append, List.length_cons, List.length_nil, Nat.zero_add, Nat.reduceAdd] at hs happ
        simp (disch := first | assumption | omega | (simp only [List.length_cons, List.length_nil, List.length_set, List.length_append] <;> omega) | (simp only [get_mid, get_mid0, List.cons_append, List.append_assoc, List.getElem?_cons_zero, List.getElem?_cons_succ])) only [ek, ↓evW, ↓evQ, evB, evS, evL, List.map, AV.cells, List.all, AV.one, Bool.and_true, Bool.true_and, if_true, ↓thenQ_normal, ↓thenQ_exit, ↓thenQ_ret, ↓blockQ_normal, ↓blockQ_ret, ↓blockQ_exit, ↓CW_true, ↓CW_false, CW_true, CW_false, condT, condF, RQ_some, tupA_one, tupA_two, tupA_nil, Nat.reduceSub, Nat.reduceAdd, Nat.reduceMul, Nat.zero_add, Nat.add_zero, Nat.reduceLeDiff, Nat.reduceEqDiff, eqV, eqAll, fillA, and_self, and_true, true_and, Nat.le_refl, Bool.not_true, Bool.not_false, Bool.false_xor, Bool.true_xor, cond_true, cond_false, List.replicate, if_false, reduceIte, resAll, resA, ne_eq, decide_not, decide_true, decide_false, Int.reduceEq, Bool.not_true, Bool.not_false, not_true_eq_false, not_false_eq_true, cond_bool, cond_int, beq_self_eq_true, Int.reduceBEq, Bool.and_self, Bool.and_false, Bool.false_and, Bool.xor_false, Bool.xor_true, loadN_ldC, ldC_none, ldC_somes, stC_aggs, splice, storeN_stC, stC_int, stC_bool, stC_ptr, stC_nilp, stC_sl, stC_nils, getC_gcO, gcO_cells, W_draw_eq, ↓W_scope, ev_clear, evT, evF, evX, evM, ↓exitQ_normal, ↓exitQ_ret, ↓exitQ_exit, saA_self, saO_self, if_pos, if_neg, wrapI, get_concat, set_concat, Int.toNat_natCast, Int.toNat_zero, List.nil_append, Nat.mul_one, decide_eq_true, decide_eq_false, Int.reduceLE, Int.reduceLT, Int.reduceNeg, Bool.false_or, Bool.true_or, Bool.or_false, Bool.or_true, wrapU, Int.reduceAdd, Int.reduceSub, Int.reduceMul, List.append_assoc, List.length_append, get_mid, get_mid0, set_mid, set_mid0, List.length_set, List.length_cons, List.length_nil, List.cons_append, List.getElem?_append_left, List.set_append_left, get_at, get_at0, set_at, set_at0, List.getElem?_set_self, List.getElem?_set_ne, cfC, esz, e0, gm, a160, e1, hs, ev_len, hlen, bm, d6, evA, repeatL, List.flatten_cons, List.flatten_nil, happ, hone, ei]
        exact ⟨ringN c w - (i + 1), by omega, i + 1, r', _, _, _, _, rfl, rfl, by omega, hk', ho'⟩
      · have hie : i = ringN c w := by omega
        subst hie
        simp (disch := first | assumption | omega | (simp only [List.length_cons, List.length_nil, List.length_set, List.length_append] <;> omega) | (simp only [get_mid, get_mid0, List.cons_append, List.append_assoc, List.getElem?_cons_zero, List.getElem?_cons_succ])) only [ek, ↓evW, ↓evQ, evB, evS, evL, List.map, AV.cells, List.all, AV.one, Bool.and_true, Bool.true_and, if_true, ↓thenQ_normal, ↓thenQ_exit, ↓thenQ_ret, ↓blockQ_normal, ↓blockQ_ret, ↓blockQ_exit, ↓CW_true, ↓CW_false, CW_true, CW_false, condT, condF, RQ_some, tupA_one, tupA_two, tupA_nil, Nat.reduceSub, Nat.reduceAdd, Nat.reduceMul, Nat.zero_add, Nat.add_zero, Nat.reduceLeDiff, Nat.reduceEqDiff, eqV, eqAll, fillA, and_self, and_true, true_and, Nat.le_refl, Bool.not_true, Bool.not_false, Bool.false_xor, Bool.true_xor, cond_true, cond_false, List.replicate, if_false, reduceIte, resAll, resA, ne_eq, decide_not, decide_true, decide_false, Int.reduceEq, Bool.not_true, Bool.not_false, not_true_eq_false, not_false_eq_true, cond_bool, cond_int, beq_self_eq_true, Int.reduceBEq, Bool.and_self, Bool.and_false, Bool.false_and, Bool.xor_false, Bool.xor_true, loadN_ldC, ldC_none, ldC_somes, stC_aggs, splice, storeN_stC, stC_int, stC_bool, stC_ptr, stC_nilp, stC_sl, stC_nils, getC_gcO, gcO_cells, W_draw_eq, ↓W_scope, ev_clear, evT, evF, evX, evM, ↓exitQ_normal, ↓exitQ_ret, ↓exitQ_exit, saA_self, saO_self, if_pos, if_neg, wrapI, get_concat, set_concat, Int.toNat_natCast, Int.toNat_zero, List.nil_append, Nat.mul_one, decide_eq_true, decide_eq_false, Int.reduceLE, Int.reduceLT, Int.reduceNeg, Bool.false_or, Bool.true_or, Bool.or_false, Bool.or_true, wrapU, Int.reduceAdd, Int.reduceSub, Int.reduceMul, List.append_assoc, List.length_append, get_mid, get_mid0, set_mid, set_mid0, List.length_set, List.length_cons, List.length_nil, List.cons_append, List.getElem?_append_left, List.set_append_left, get_at, get_at0, set_at, set_at0, List.getElem?_set_self, List.getElem?_set_ne, cfC, esz, e0, gm]
        exact ⟨hmk.trans hk, (Own.si hown).1, (Own.si hown).2.elim .inl (fun ⟨q, o, n, cp, h1, h2⟩ => .inr ⟨q, o, n, cp, h1, by have := hmk.1; omega⟩), hown.nx⟩
    · have hn : ringN c w = 0 := if_neg hle
      have hi0 : i = 0 := by omega
      subst hi0
      have hpos : (0 : Int) < sz w := by omega
      simp (disch := first | assumption | omega | (simp only [List.length_cons, List.length_nil, List.length_set, List.length_append] <;> omega) | (simp only [get_mid, get_mid0, List.cons_append, List.append_assoc, List.getElem?_cons_zero, List.getElem?_cons_succ])) only [ek, ↓evW, ↓evQ, evB, evS, evL, List.map, AV.cells, List.all, AV.one, Bool.and_true, Bool.true_and, if_true, ↓thenQ_normal, ↓thenQ_exit, ↓thenQ_ret, ↓blockQ_normal, ↓blockQ_ret, ↓blockQ_exit, ↓CW_true, ↓CW_false, CW_true, CW_false, condT, condF, RQ_some, tupA_one, tupA_two, tupA_nil, Nat.reduceSub, Nat.reduceAdd, Nat.reduceMul, Nat.zero_add, Nat.add_zero, Nat.reduceLeDiff, Nat.reduceEqDiff, eqV, eqAll, fillA, and_self, and_true, true_and, Nat.le_refl, Bool.not_true, Bool.not_false, Bool.false_xor, Bool.true_xor, cond_true, cond_false, List.replicate, if_false, reduceIte, resAll, resA, ne_eq, decide_not, decide_true, decide_false, Int.reduceEq, Bool.not_true, Bool.not_false, not_true_eq_false, not_false_eq_true, cond_bool, cond_int, beq_self_eq_true, Int.reduceBEq, Bool.and_self, Bool.and_false, Bool.false_and, Bool.xor_false, Bool.xor_true, loadN_ldC, ldC_none, ldC_somes, stC_aggs, splice, storeN_stC, stC_int, stC_bool, stC_ptr, stC_nilp, stC_sl, stC_nils, getC_gcO, gcO_cells, W_draw_eq, ↓W_scope, ev_clear, evT, evF, evX, evM, ↓exitQ_normal, ↓exitQ_ret, ↓exitQ_exit, saA_self, saO_self, if_pos, if_neg, wrapI, get_concat, set_concat, Int.toNat_natCast, Int.toNat_zero, List.nil_append, Nat.mul_one, decide_eq_true, decide_eq_false, Int.reduceLE, Int.reduceLT, Int.reduceNeg, Bool.false_or, Bool.true_or, Bool.or_false, Bool.or_true, wrapU, Int.reduceAdd, Int.reduceSub, Int.reduceMul, List.append_assoc, List.length_append, get_mid, get_mid0, set_mid, set_mid0, List.length_set, List.length_cons, List.length_nil, List.cons_append, List.getElem?_append_left, List.set_append_left, get_at, get_at0, set_at, set_at0, List.getElem?_set_self, List.getElem?_set_ne, cfC, esz, e0, gm, Int.ofNat_zero]
      rw [hn]
      exact ⟨hmk.trans hk, (Own.si hown).1, (Own.si hown).2.elim .inl (fun ⟨q, o, n, cp, h1, h2⟩ => .inr ⟨q, o, n, cp, h1, by have := hmk.1; omega⟩), hown.nx⟩
  · have ha0 : addrA c p 0 = -1 := if_neg h
    simp (disch := first | assumption | omega | (simp only [List.length_cons, List.length_nil, List.length_set, List.length_append] <;> omega) | (simp only [get_mid, get_mid0, List.cons_append, List.append_assoc, List.getElem?_cons_zero, List.getElem?_cons_succ])) only [docs_Ring, ek, ↓evW, ↓evQ, evB, evS, evL, List.map, AV.cells, List.all, AV.one, Bool.and_true, Bool.true_and, if_true, ↓thenQ_normal, ↓thenQ_exit, ↓thenQ_ret, ↓blockQ_normal, ↓blockQ_ret, ↓blockQ_exit, ↓CW_true, ↓CW_false, CW_true, CW_false, condT, condF, RQ_some, tupA_one, tupA_two, tupA_nil, Nat.reduceSub, Nat.reduceAdd, Nat.reduceMul, Nat.zero_add, Nat.add_zero, Nat.reduceLeDiff, Nat.reduceEqDiff, eqV, eqAll, fillA, and_self, and_true, true_and, Nat.le_refl, Bool.not_true, Bool.not_false, Bool.false_xor, Bool.true_xor, cond_true, cond_false, List.replicate, if_false, reduceIte, resAll, resA, ne_eq, decide_not, decide_true, decide_false, Int.reduceEq, Bool.not_true, Bool.not_false, not_true_eq_false, not_false_eq_true, cond_bool, cond_int, beq_self_eq_true, Int.reduceBEq, Bool.and_self, Bool.and_false, Bool.false_and, Bool.xor_false, Bool.xor_true, loadN_ldC, ldC_none, ldC_somes, stC_aggs, splice, storeN_stC, stC_int, stC_bool, stC_ptr, stC_nilp, stC_sl, stC_nils, getC_gcO, gcO_cells, W_draw_eq, ↓W_scope, ev_clear, evT, evF, evX, evM, ↓exitQ_normal, ↓exitQ_ret, ↓exitQ_exit, saA_self, saO_self, if_pos, if_neg, wrapI, get_concat, set_concat, Int.toNat_natCast, Int.toNat_zero, List.nil_append, Nat.mul_one, decide_eq_true, decide_eq_false, Int.reduceLE, Int.reduceLT, Int.reduceNeg, Bool.false_or, Bool.true_or, Bool.or_false, Bool.or_true, wrapU, Int.reduceAdd, Int.reduceSub, Int.reduceMul, List.append_assoc, List.length_append, get_mid, get_mid0, set_mid, set_mid0, List.length_set, List.length_cons, List.length_nil, List.cons_append, List.getElem?_append_left, List.set_append_left, get_at, get_at0, set_at, set_at0, List.getElem?_set_self, List.getElem?_set_ne, cfC, a47, f47, ev_len, hlen, g0, g0', a156, hcells, a159, hw, ha0]
    rw [ringL, if_neg h]
    exact ⟨hk0.trans (Keep.app _ _), Sl.nil, .inl rfl, .inl rfl⟩
end Go.Am.F10
end
section
namespace Go.Am.F10
open Go.Am.F06
def stC (c : Cf) (p : Int) : Cf := if thereP c p then c else zeroC
def stP (c : Cf) (p : Int) : Int := if thereP c p then p else 0
def stS (c : Cf) (p : Int) : GS := if thereP c p then ⟨1, 0, 0, false, 0⟩ else ⟨0, 0, 0, false, 0⟩
theorem start_is (c : Cf) (p : Int) : newG c p = gC (stC c p) (stP c p) (stS c p) ∧ rnewC c p = rC (stC c p) (stP c p) (stS c p) ∧ GOk (stC c p) (stP c p) (stS c p) ∧ ((stS c p).a = 0 ∨ stC c p = c) := by
  by_cases h : thereP c p
  · have hb := there_bounds h
    have ha := addr_b h (i := 0) (by omega) (by omega)
    simp only [stC, stP, stS, if_pos h]
    refine ⟨?_, ?_, ⟨by unfold W64; simp, .inr ⟨h, .inl rfl⟩, fun h => by cases h⟩, .inr trivial⟩
    · unfold newG; rw [if_neg (by omega)]; rfl
    · unfold rnewC; rw [if_pos h]; rfl
  · simp only [stC, stP, stS, if_neg h]
    refine ⟨?_, ?_, ⟨by unfold W64; simp, .inl rfl, fun h => by cases h⟩, .inl trivial⟩
    · unfold newG addrA; rw [if_neg h, if_pos (by decide)]; rfl
    · unfold rnewC; rw [if_neg h]; rfl
abbrev GT := GS × List Int × Int
def nextT (c : Cf) (p : Int) (t : GT) : GT := ((stepG c p t.2.1 t.1).1, (stepG c p t.2.1 t.1).2, opsG t.1 t.2.2)
inductive Ends (c : Cf) (p : Int) : GT → Nat → GT → Prop
  | done {t : GT} (h : t.1.a = 0) : Ends c p t 0 t
  | step {t f : GT} {k : Nat} (h : t.1.a ≠ 0) (hn : Ends c p (nextT c p t) k f) : Ends c p t (k + 1) f
def dW (w : Int) (i : Nat) : Int := pk ((hd w + i) % 4294967296) (tl w)
def dX (c : Cf) (p : Int) (xs : List Int) (i : Nat) : List Int := if i = 0 then xs else xs.set (wrdN c p) (dW (xs.getD (wrdN c p) 0) i)
theorem hd_pk {h t : Int} (h0 : 0 ≤ t) (h1 : t < 4294967296) : hd (pk h t) = h := by unfold hd pk; omega
theorem tl_pk {h t : Int} (h0 : 0 ≤ t) (h1 : t < 4294967296) : tl (pk h t) = t := by unfold tl pk; omega
theorem hd_dW (w : Int) (i : Nat) : hd (dW w i) = (hd w + i) % 4294967296 := hd_pk (tl_b w).1 (tl_b w).2
theorem tl_dW (w : Int) (i : Nat) : tl (dW w i) = tl w := tl_pk (tl_b w).1 (tl_b w).2
theorem dW_zero {w : Int} (h : W64 w) : dW w 0 = w := by
  have := hd_b h
  unfold dW; rw [show (hd w + ((0 : Nat) : Int)) % 4294967296 = hd w by omega]
  unfold pk hd tl; omega
theorem dW_gain (w : Int) (i : Nat) : gainW (dW w i) = dW w (i + 1) := by
  unfold gainW; rw [hd_dW, tl_dW]; unfold dW
  congr 1; omega
theorem dW_sz {w : Int} {i : Nat} (h : (i : Int) ≤ sz w) : sz (dW w i) = sz w - i := by
  unfold sz; rw [hd_dW, tl_dW]; unfold sz at h; omega
theorem dW_64 (w : Int) (i : Nat) : W64 (dW w i) := by
  have := tl_b w
  unfold dW pk W64; omega
theorem dX_ok {c d : Cf} {p : Int} {xs : List Int} (h : OkL d xs) (i : Nat) : OkL d (dX c p xs i) := by
  unfold dX; split
  · exact h
  · exact h.set _ (dW_64 _ _)
theorem dX_word {c : Cf} {p : Int} {xs : List Int} (hx : OkL c xs) (h : thereP c p) (i : Nat) : (dX c p xs i).getD (wrdN c p) 0 = dW (xs.getD (wrdN c p) 0) i := by
  have hb := there_bounds h
  have ha := addr_b h (i := 0) (by omega) (by omega)
  have hl := hx.1
  unfold dX; split
  · rename_i h0; subst h0
    exact (dW_zero (getD_64 hx.2 _)).symm
  · rw [List.getD_eq_getElem?_getD, List.getElem?_set_self (by unfold wrdN; omega)]; rfl
theorem dX_slot {c : Cf} {p : Int} {xs : List Int} (h : thereP c p) (i : Nat) {k : Int} (hk : 0 ≤ k) : (dX c p xs i).getD (slotA c p k).toNat 0 = xs.getD (slotA c p k).toNat 0 := by
  have hb := there_bounds h
  have h0 := Int.emod_nonneg k (b := c.q) (by omega)
  have hm := mul_bounds hb.2.2.2.2.1 hb.2.2.2.2.2 (q := 6 + c.q) (by omega) (by omega)
  unfold dX; split
  · rfl
  · rw [List.getD_eq_getElem?_getD, List.getElem?_set_ne, ← List.getD_eq_getElem?_getD]
    unfold wrdN slotA; rw [if_pos h.1]; unfold addrA; rw [if_pos h, if_pos h]; omega
theorem dX_next {c : Cf} {p : Int} {xs : List Int} (i : Nat) : (dX c p xs i).set (wrdN c p) (dW (xs.getD (wrdN c p) 0) (i + 1)) = dX c p xs (i + 1) := by
  rw [dX, dX, if_neg (Nat.succ_ne_zero i)]
  split
  · rfl
  · rw [List.set_set]
theorem ends_none {c : Cf} {p o : Int} {xs : List Int} (h : thereP c p) (hx : OkL c xs) {i : Nat} (hi : i = ringN c (xs.getD (wrdN c p) 0)) :
    Ends c p (⟨1, 0, 0, false, 0⟩, dX c p xs i, o) 1 (⟨0, dW (xs.getD (wrdN c p) 0) i, 0, false, 0⟩, dX c p xs i, IntKind.u64.wrap (o + 1)) := by
  have hw := dX_word hx h i
  have hw64 := getD_64 hx.2 (wrdN c p)
  generalize xs.getD (wrdN c p) 0 = w at hw hi hw64 ⊢
  refine .step (by simp) ?_
  have hz : sz (dW w i) = 0 ∨ c.q < sz (dW w i) := by
    unfold ringN at hi
    split at hi
    · have hs : 0 ≤ sz w := by unfold sz; omega
      rw [dW_sz (by omega)]; omega
    · subst hi; rw [dW_zero hw64]; omega
  have : nextT c p (⟨1, 0, 0, false, 0⟩, dX c p xs i, o) = (⟨0, dW w i, 0, false, 0⟩, dX c p xs i, IntKind.u64.wrap (o + 1)) := by
    simp only [nextT, stepG, if_true, hw, if_pos hz]; rfl
  rw [this]
  exact .done rfl
theorem ends_some {c : Cf} {p o : Int} {xs : List Int} (h : thereP c p) (hx : OkL c xs) {i : Nat} (hi : i < ringN c (xs.getD (wrdN c p) 0)) :
    Ends c p (⟨1, 0, 0, false, 0⟩, dX c p xs i, o) 3 (⟨0, dW (xs.getD (wrdN c p) 0) i, ringAt c p xs (xs.getD (wrdN c p) 0) i, true, 0⟩, dX c p xs (i + 1), IntKind.u64.wrap (IntKind.u64.wrap (IntKind.u64.wrap (o + 1) + 1) + 1)) := by
  have hw := dX_word hx h i
  have hn := dX_next (c := c) (p := p) (xs := xs) i
  generalize xs.getD (wrdN c p) 0 = w at hw hi hn ⊢
  have hz : ¬ (sz (dW w i) = 0 ∨ c.q < sz (dW w i)) := by
    unfold ringN at hi
    split at hi
    · have hs : 0 ≤ sz w := by unfold sz; omega
      rw [dW_sz (by omega)]; omega
    · omega
  have hhd : 0 ≤ hd (dW w i) := by rw [hd_dW]; omega
  have hs := dX_slot (xs := xs) h i hhd
  rw [hd_dW] at hs
  have e1 : nextT c p (⟨1, 0, 0, false, 0⟩, dX c p xs i, o) = (⟨2, dW w i, 0, false, 0⟩, dX c p xs i, IntKind.u64.wrap (o + 1)) := by
    simp only [nextT, stepG, if_true, hw, if_neg hz]; rfl
  have e2 : ∀ o, nextT c p (⟨2, dW w i, 0, false, 0⟩, dX c p xs i, o) = (⟨3, dW w i, ringAt c p xs w i, false, 0⟩, dX c p xs i, IntKind.u64.wrap (o + 1)) := fun o => by
    simp only [nextT, stepG, if_neg (show ¬ ((2 : Int) = 1) by decide), if_true, sltN, hs, ringAt, hd_dW]; rfl
  have e3 : ∀ o, nextT c p (⟨3, dW w i, ringAt c p xs w i, false, 0⟩, dX c p xs i, o) = (⟨0, dW w i, ringAt c p xs w i, true, 0⟩, dX c p xs (i + 1), IntKind.u64.wrap (o + 1)) := fun o => by
    simp only [nextT, stepG, if_neg (show ¬ ((3 : Int) = 1) by decide), if_neg (show ¬ ((3 : Int) = 2) by decide), if_true, hw, dW_gain, hn]; rfl
  refine .step (by simp) ?_
  rw [e1]
  refine .step (by simp) ?_
  rw [e2]
  refine .step (by simp) ?_
  rw [e3]
  exact .done rfl
end Go.Am.F10
end
section
namespace Go.Am.F10
open Go.Am.F06
theorem Ends.next {c : Cf} {p : Int} {t f : GT} {k : Nat} (h : Ends c p t k f) :
    ((stepG c p t.2.1 t.1).1.a = 0 → ((stepG c p t.2.1 t.1).1, (stepG c p t.2.1 t.1).2, opsG t.1 t.2.2) = f) ∧
    ((stepG c p t.2.1 t.1).1.a ≠ 0 → ∃ k2, k2 < k ∧ Ends c p ((stepG c p t.2.1 t.1).1, (stepG c p t.2.1 t.1).2, opsG t.1 t.2.2) k2 f) := by
  cases h with
  | done h0 =>
    rw [stepG_zero h0]
    refine ⟨fun _ => ?_, fun hh => absurd h0 hh⟩
    show (t.1, t.2.1, opsG t.1 t.2.2) = t
    unfold opsG; rw [if_pos h0]
  | @step _ _ k hne hn =>
    refine ⟨fun h0 => ?_, fun _ => ⟨k, by omega, hn⟩⟩
    cases hn with
    | done _ => rfl
    | step h1 _ => exact absurd h0 h1
theorem ringL_there {c : Cf} {p : Int} {xs : List Int} (h : thereP c p) : ringL c p xs = ringW c p xs (xs.getD (wrdN c p) 0) (ringN c (xs.getD (wrdN c p) 0)) := if_pos h
theorem ringL_not {c : Cf} {p : Int} {xs : List Int} (h : ¬ thereP c p) : ringL c p xs = [] := if_neg h
theorem ringL_le (c : Cf) (p : Int) (xs : List Int) : (ringL c p xs).length ≤ 64 := by
  by_cases h : thereP c p
  · rw [ringL_there h, ringW_len]; exact ringN_le h _
  · rw [ringL_not h]; simp
theorem ringW_get (c : Cf) (p : Int) (xs : List Int) (w : Int) {i n : Nat} (h : i < n) : (ringW c p xs w n)[i]? = some (ringAt c p xs w i) := by
  rw [ringW, List.getElem?_map, List.getElem?_range h]; rfl
def finO (c : Cf) (p : Int) (xs : List Int) (o : Int) : Int := if thereP c p then o + 3 * (ringL c p xs).length + 1 else o
theorem drain_some {c : Cf} {p o : Int} {xs : List Int} (hx : OkL c xs) (h0 : 0 ≤ o) (h1 : o ≤ 10000) {i : Nat} (hi : i < (ringL c p xs).length) :
    ∃ w x, (ringL c p xs)[i]? = some x ∧ Ends (stC c p) (stP c p) (stS c p, dX c p xs i, o + 3 * i) 3 (⟨0, w, x, true, 0⟩, dX c p xs (i + 1), o + 3 * ((i + 1 : Nat) : Int)) := by
  have hle := ringL_le c p xs
  by_cases h : thereP c p
  · rw [ringL_there h] at hi hle ⊢
    rw [ringW_len] at hi hle
    have he := ends_some (o := o + 3 * i) h hx hi
    rw [wrapU (x := o + 3 * i + 1) (by omega) (by omega), wrapU (x := o + 3 * i + 1 + 1) (by omega) (by omega), wrapU (x := o + 3 * i + 1 + 1 + 1) (by omega) (by omega)] at he
    rw [show o + 3 * (i : Int) + 1 + 1 + 1 = o + 3 * ((i + 1 : Nat) : Int) by omega] at he
    simp only [stC, stP, stS, if_pos h]
    exact ⟨_, _, ringW_get _ _ _ _ hi, he⟩
  · rw [ringL_not h] at hi; simp at hi
theorem drain_none {c : Cf} {p o : Int} {xs : List Int} (hx : OkL c xs) (h0 : 0 ≤ o) (h1 : o ≤ 10000) :
    ∃ k w, k ≤ 1 ∧ Ends (stC c p) (stP c p) (stS c p, dX c p xs (ringL c p xs).length, o + 3 * (ringL c p xs).length) k (⟨0, w, 0, false, 0⟩, dX c p xs (ringL c p xs).length, finO c p xs o) := by
  have hle := ringL_le c p xs
  unfold finO
  by_cases h : thereP c p
  · rw [if_pos h]
    rw [ringL_there h] at hle ⊢
    rw [ringW_len] at hle ⊢
    have he := ends_none (o := o + 3 * (ringN c (xs.getD (wrdN c p) 0) : Int)) h hx rfl
    rw [wrapU (by omega) (by omega)] at he
    simp only [stC, stP, stS, if_pos h]
    exact ⟨1, _, Nat.le_refl _, he⟩
  · rw [if_neg h, ringL_not h]
    simp only [stC, stP, stS, if_neg h]
    refine ⟨0, 0, by omega, ?_⟩
    simp only [List.length_nil, Int.ofNat_zero, Int.mul_zero, Int.add_zero]
    exact .done rfl
def Gga : List (Nat × AFun Ob) := [(137, c_get_New), (140, amFunc Gstep get_Get_Step), (141, c_get_Get_Got)]
def GaI (m : MM) (c : Cf) (p : Int) (j : Nat) (xs : List Int) (o : Int) (k : Nat) (e : List AV) (mm : MM) : Prop := ∃ (i : Nat) (r y5 y6 y7 y9 y10 y11 : AV) (st : MemSt),
  e = [.agg (cfC c), .ptr j 0, .int .i64 p, .ptr m.length 0, r, y5, y6, y7, .int .i64 i, y9, y10, y11] ∧ k = (ringL c p xs).length + 1 - i ∧ i ≤ (ringL c p xs).length ∧ KeepB j m mm ∧ mm[m.length]? = some (.cells 6 false (cfC c)) ∧ mm[j]? = some (.abs (.mem st)) ∧ RelM (dX c p xs i) (o + 3 * i) st ∧
  Own m mm 1 ((ringL c p xs).take i).length (iC ((ringL c p xs).take i)) r
def GaJ (m M2 : MM) (c : Cf) (p : Int) (j xj : Nat) (i : Nat) (r y6 y7 : AV) (f : GT) (k : Nat) (e : List AV) (mm : MM) : Prop := ∃ (t : GT) (y9 y10 y11 : AV) (st : MemSt),
  e = [.agg (cfC c), .ptr j 0, .int .i64 p, .ptr m.length 0, r, .ptr xj 0, y6, y7, .int .i64 i, y9, y10, y11] ∧ Ends (stC c p) (stP c p) t k f ∧ KeepX xj j M2 mm ∧ mm[xj]? = some (.cells 12 false (gC (stC c p) (stP c p) t.1)) ∧ mm[j]? = some (.abs (.mem st)) ∧ RelM t.2.1 t.2.2 st ∧ GOk (stC c p) (stP c p) t.1 ∧ OkL c t.2.1 ∧ (t.1.a = 0 ∨ stC c p = c)
def GaP (m : MM) (c : Cf) (p : Int) (j : Nat) (xs : List Int) (o : Int) (r : AV) (m' : MM) : Prop := KeepB j m m' ∧ SI m' true (ringL c p xs) r ∧ Fr m.length r ∧ ∃ st', m'[j]? = some (.abs (.mem st')) ∧ RelM (dX c p xs (ringL c p xs).length) (finO c p xs o) st'
set_option maxHeartbeats 8000000 in
theorem all_run {m : MM} {c : Cf} {p o : Int} {xs : List Int} {j : Nat} {st : MemSt} (hj : m[j]? = some (.abs (.mem st))) (hr : RelM xs o st) (hx : OkL c xs) (h0 : 0 ≤ o) (h1 : o ≤ 10000) :
    Fn Gga get_All [.agg (cfC c), .ptr j 0, .int .i64 p] m (GaP m c p j xs o) := by
  have a137 : assoc Gga 137 = some c_get_New := rfl
  have a140 : assoc Gga 140 = some (amFunc Gstep get_Get_Step) := rfl
  have a141 : assoc Gga 141 = some c_get_Get_Got := rfl
  generalize Gga = G at a137 a140 a141 ⊢
  have lj : j < m.length := (List.getElem?_eq_some_iff.1 hj).1
  have hle := ringL_le c p xs
  obtain ⟨q1, _, q3, q4⟩ := start_is c p
  refine Fn_of rfl ?_
  simp (disch := first | assumption | omega | (simp only [List.length_cons, List.length_nil, List.length_set, List.length_append] <;> omega) | (simp only [get_mid, get_mid0, List.cons_append, List.append_assoc, List.getElem?_cons_zero, List.getElem?_cons_succ])) only [get_All, ek, ↓evW, ↓evQ, evB, evS, evL, List.map, AV.cells, List.all, AV.one, Bool.and_true, Bool.true_and, if_true, ↓thenQ_normal, ↓thenQ_exit, ↓thenQ_ret, ↓blockQ_normal, ↓blockQ_ret, ↓blockQ_exit, ↓CW_true, ↓CW_false, CW_true, CW_false, condT, condF, RQ_some, tupA_one, tupA_two, tupA_nil, Nat.reduceSub, Nat.reduceAdd, Nat.reduceMul, Nat.zero_add, Nat.add_zero, Nat.reduceLeDiff, Nat.reduceEqDiff, eqV, eqAll, fillA, and_self, and_true, true_and, Nat.le_refl, Bool.not_true, Bool.not_false, Bool.false_xor, Bool.true_xor, cond_true, cond_false, List.replicate, if_false, reduceIte, resAll, resA, ne_eq, decide_not, decide_true, decide_false, Int.reduceEq, Bool.not_true, Bool.not_false, not_true_eq_false, not_false_eq_true, cond_bool, cond_int, beq_self_eq_true, Int.reduceBEq, Bool.and_self, Bool.and_false, Bool.false_and, Bool.xor_false, Bool.xor_true, loadN_ldC, ldC_none, ldC_somes, stC_aggs, splice, storeN_stC, stC_int, stC_bool, stC_ptr, stC_nilp, stC_sl, stC_nils, getC_gcO, gcO_cells, W_draw_eq, ↓W_scope, ev_clear, evT, evF, evX, evM, ↓exitQ_normal, ↓exitQ_ret, ↓exitQ_exit, saA_self, saO_self, if_pos, if_neg, wrapI, get_concat, set_concat, Int.toNat_natCast, Int.toNat_zero, List.nil_append, Nat.mul_one, decide_eq_true, decide_eq_false, Int.reduceLE, Int.reduceLT, Int.reduceNeg, Bool.false_or, Bool.true_or, Bool.or_false, Bool.or_true, wrapU, Int.reduceAdd, Int.reduceSub, Int.reduceMul, List.append_assoc, List.length_append, get_mid, get_mid0, set_mid, set_mid0, List.length_set, List.length_cons, List.length_nil, List.cons_append, List.getElem?_append_left, List.set_append_left, get_at, get_at0, set_at, set_at0, List.getElem?_set_self, List.getElem?_set_ne, cfC]
  refine W_loop (GaI m c p j xs o) ((ringL c p xs).length + 1) (by simp only [FUEL]; omega) ⟨0, .nils, _, _, _, _, _, _, st, rfl, by omega, by omega, .of (Keep.app _ _), get_concat, (Keep.app m _).get hj, by simpa [dX] using hr, own_nil⟩ ?_
  rintro k e mm ⟨i, r, y5, y6, y7, y9, y10, y11, st1, rfl, rfl, hi, hk, gb, gj, hr1, hown⟩
  have lb : m.length < mm.length := (List.getElem?_eq_some_iff.1 gb).1
  have ljm : j < mm.length := (List.getElem?_eq_some_iff.1 gj).1
  have hone := hown.val1
  simp only [AV.one] at hone
  have hnew := new_run (m := mm) c p
  rw [q1] at hnew
  obtain ⟨K, hK⟩ : ∃ K : MM, K = [Chunk.cells 6 false (cfC c), Chunk.cells 6 false (cfC c), Chunk.cells 7 false (cfC c ++ [AV.int .i64 p]), Chunk.cells 6 false (cfC c), Chunk.cells 12 false (gC (stC c p) (stP c p) (stS c p))] := ⟨_, rfl⟩
  have gx : (mm ++ K)[mm.length + 4]? = some (.cells 12 false (gC (stC c p) (stP c p) (stS c p))) := by rw [hK, get_mid]; rfl
  have gj2 : (mm ++ K)[j]? = some (.abs (.mem st1)) := (Keep.app mm K).get gj
  rw [← hK] at hnew
  clear hK
  have hxj : mm.length + 4 ≠ j := by omega
  simp only [cfC] at gb hnew
  simp (disch := first | assumption | omega | (simp only [List.length_cons, List.length_nil, List.length_set, List.length_append] <;> omega) | (simp only [get_mid, get_mid0, List.cons_append, List.append_assoc, List.getElem?_cons_zero, List.getElem?_cons_succ])) only [ek, ↓evW, ↓evQ, evB, evS, evL, List.map, AV.cells, List.all, AV.one, Bool.and_true, Bool.true_and, if_true, ↓thenQ_normal, ↓thenQ_exit, ↓thenQ_ret, ↓blockQ_normal, ↓blockQ_ret, ↓blockQ_exit, ↓CW_true, ↓CW_false, CW_true, CW_false, condT, condF, RQ_some, tupA_one, tupA_two, tupA_nil, Nat.reduceSub, Nat.reduceAdd, Nat.reduceMul, Nat.zero_add, Nat.add_zero, Nat.reduceLeDiff, Nat.reduceEqDiff, eqV, eqAll, fillA, and_self, and_true, true_and, Nat.le_refl, Bool.not_true, Bool.not_false, Bool.false_xor, Bool.true_xor, cond_true, cond_false, List.replicate, if_false, reduceIte, resAll, resA, ne_eq, decide_not, decide_true, decide_false, Int.reduceEq, Bool.not_true, Bool.not_false, not_true_eq_false, not_false_eq_true, cond_bool, cond_int, beq_self_eq_true, Int.reduceBEq, Bool.and_self, Bool.and_false, Bool.false_and, Bool.xor_false, Bool.xor_true, loadN_ldC, ldC_none, ldC_somes, stC_aggs, splice, storeN_stC, stC_int, stC_bool, stC_ptr, stC_nilp, stC_sl, stC_nils, getC_gcO, gcO_cells, W_draw_eq, ↓W_scope, ev_clear, evT, evF, evX, evM, ↓exitQ_normal, ↓exitQ_ret, ↓exitQ_exit, saA_self, saO_self, if_pos, if_neg, wrapI, get_concat, set_concat, Int.toNat_natCast, Int.toNat_zero, List.nil_append, Nat.mul_one, decide_eq_true, decide_eq_false, Int.reduceLE, Int.reduceLT, Int.reduceNeg, Bool.false_or, Bool.true_or, Bool.or_false, Bool.or_true, wrapU, Int.reduceAdd, Int.reduceSub, Int.reduceMul, List.append_assoc, List.length_append, get_mid, get_mid0, set_mid, set_mid0, List.length_set, List.length_cons, List.length_nil, List.cons_append, List.getElem?_append_left, List.set_append_left, get_at, get_at0, set_at, set_at0, List.getElem?_set_self, List.getElem?_set_ne, cfC, gb, a137, hnew]
  obtain ⟨f, kf, hE, hf, hcase⟩ : ∃ f kf, Ends (stC c p) (stP c p) (stS c p, dX c p xs i, o + 3 * i) kf f ∧ kf ≤ 3 ∧
      ((i < (ringL c p xs).length ∧ ∃ w x, (ringL c p xs)[i]? = some x ∧ f = (⟨0, w, x, true, 0⟩, dX c p xs (i + 1), o + 3 * ((i + 1 : Nat) : Int))) ∨
       (i = (ringL c p xs).length ∧ ∃ w, f = (⟨0, w, 0, false, 0⟩, dX c p xs i, finO c p xs o))) := by
    by_cases hin : i < (ringL c p xs).length
    · obtain ⟨w, x, hx1, h⟩ := drain_some hx h0 h1 hin
      exact ⟨_, _, h, by omega, .inl ⟨hin, w, x, hx1, rfl⟩⟩
    · have : i = (ringL c p xs).length := by omega
      obtain ⟨k, w, hk, h⟩ := drain_none (c := c) (p := p) hx h0 h1
      rw [← this] at h
      exact ⟨_, _, h, by omega, .inr ⟨this, w, rfl⟩⟩
  have hxj2 : mm.length + 4 < (mm ++ K).length := (List.getElem?_eq_some_iff.1 gx).1
  generalize hxjd : mm.length + 4 = xj at gx hxj hxj2 ⊢
  have hkM : KeepB j m (mm ++ K) := hk.trans (.of (Keep.app _ _))
  have gbM : (mm ++ K)[m.length]? = some (.cells 6 false (cfC c)) := (Keep.app mm K).get gb
  have hownM := hown.more K
  have hlM : xj = mm.length + 4 := hxjd.symm
  have lbM : m.length < xj := by omega
  refine W_loop (GaJ m (mm ++ K) c p j xj i r y6 y7 f) kf (by simp only [FUEL]; omega) ⟨_, _, _, _, st1, rfl, hE, .refl _, gx, gj2, hr1, q3, dX_ok hx i, q4⟩ ?_
  have hq : ∀ q C, m.length ≤ q → (mm ++ K)[q]? = some (Chunk.cells 1 false C) → q ≠ xj ∧ q ≠ j := fun q C _ hq => ⟨fun h => (by rw [h, gx] at hq; cases hq), fun h => (by rw [h, gj2] at hq; cases hq)⟩
  generalize mm ++ K = M2 at hkM gbM hownM hq
  clear hnew gx gj2 hxj2 hk gb gj hown hE hf q1 q3 q4 hr1 lb ljm hxjd hlM hj
  rintro kk e m2 ⟨t, z9, z10, z11, st2, rfl, hE, k2, x2, j2, r2, ok2, okL2, cc2⟩
  have okx : t.1.a = 0 ∨ OkL (stC c p) t.2.1 := cc2.elim .inl (fun h => .inr (by rw [h]; exact okL2))
  have ok' := ok2.step okx
  have okL' := stepG_ok (c := stC c p) (p := stP c p) (s := t.1) okL2
  have cc' : (stepG (stC c p) (stP c p) t.2.1 t.1).1.a = 0 ∨ stC c p = c := cc2.elim (fun h => .inl (by rw [stepG_zero h]; exact h)) .inr
  obtain ⟨hn1, hn2⟩ := hE.next
  simp (disch := first | assumption | omega | (simp only [List.length_cons, List.length_nil, List.length_set, List.length_append] <;> omega) | (simp only [get_mid, get_mid0, List.cons_append, List.append_assoc, List.getElem?_cons_zero, List.getElem?_cons_succ])) only [ek, ↓evW, ↓evQ, evB, evS, evL, List.map, AV.cells, List.all, AV.one, Bool.and_true, Bool.true_and, if_true, ↓thenQ_normal, ↓thenQ_exit, ↓thenQ_ret, ↓blockQ_normal, ↓blockQ_ret, ↓blockQ_exit, ↓CW_true, ↓CW_false, CW_true, CW_false, condT, condF, RQ_some, tupA_one, tupA_two, tupA_nil, Nat.reduceSub, Nat.reduceAdd, Nat.reduceMul, Nat.zero_add, Nat.add_zero, Nat.reduceLeDiff, Nat.reduceEqDiff, eqV, eqAll, fillA, and_self, and_true, true_and, Nat.le_refl, Bool.not_true, Bool.not_false, Bool.false_xor, Bool.true_xor, cond_true, cond_false, List.replicate, if_false, reduceIte, resAll, resA, ne_eq, decide_not, decide_true, decide_false, Int.reduceEq, Bool.not_true, Bool.not_false, not_true_eq_false, not_false_eq_true, cond_bool, cond_int, beq_self_eq_true, Int.reduceBEq, Bool.and_self, Bool.and_false, Bool.false_and, Bool.xor_false, Bool.xor_true, loadN_ldC, ldC_none, ldC_somes, stC_aggs, splice, storeN_stC, stC_int, stC_bool, stC_ptr, stC_nilp, stC_sl, stC_nils, getC_gcO, gcO_cells, W_draw_eq, ↓W_scope, ev_clear, evT, evF, evX, evM, ↓exitQ_normal, ↓exitQ_ret, ↓exitQ_exit, saA_self, saO_self, if_pos, if_neg, wrapI, get_concat, set_concat, Int.toNat_natCast, Int.toNat_zero, List.nil_append, Nat.mul_one, decide_eq_true, decide_eq_false, Int.reduceLE, Int.reduceLT, Int.reduceNeg, Bool.false_or, Bool.true_or, Bool.or_false, Bool.or_true, wrapU, Int.reduceAdd, Int.reduceSub, Int.reduceMul, List.append_assoc, List.length_append, get_mid, get_mid0, set_mid, set_mid0, List.length_set, List.length_cons, List.length_nil, List.cons_append, List.getElem?_append_left, List.set_append_left, get_at, get_at0, set_at, set_at0, List.getElem?_set_self, List.getElem?_set_ne, a140]
  refine OK_fn (step_run x2 j2 r2 ok2 okx) ?_
  generalize stepG (stC c p) (stP c p) t.2.1 t.1 = sx at ok' okL' cc' hn1 hn2
  generalize opsG t.1 t.2.2 = o' at hn1 hn2
  rintro _ m3 ⟨k3, rfl, x3, st3, j3, r3⟩
  have k23 := k2.trans k3
  by_cases ha : sx.1.a = 0
  · have hfe := hn1 ha
    subst hfe
    have g141 := got_eq x3
    rcases hcase with ⟨hin, w, x, hx1, hf⟩ | ⟨hie, w, hf⟩
    · injection hf with hf1 hf2
      injection hf2 with hf2 hf3
      rw [hf1] at g141
      simp only [if_true] at g141
      have hown3 : Own m m3 1 ((ringL c p xs).take i).length (iC ((ringL c p xs).take i)) r := hownM.keep fun q C hq1 hq2 => k23.get hq2 (hq q C hq1 hq2).1 (hq q C hq1 hq2).2
      obtain ⟨r', m', happ, ho', hl', hpre⟩ := own_push hown3 x (by rw [List.length_take]; omega) (by have := hkM.1; have := k23.1; omega)
      have htake : (ringL c p xs).take i ++ [x] = (ringL c p xs).take (i + 1) := by rw [List.take_add_one, hx1]; rfl
      rw [htake] at ho'
      simp (disch := first | assumption | omega | (simp only [List.length_cons, List.length_nil, List.length_set, List.length_append] <;> omega) | (simp only [get_mid, get_mid0, List.cons_append, List.append_assoc, List.getElem?_cons_zero, List.getElem?_cons_succ])) only [ek, ↓evW, ↓evQ, evB, evS, evL, List.map, AV.cells, List.all, AV.one, Bool.and_true, Bool.true_and, if_true, ↓thenQ_normal, ↓thenQ_exit, ↓thenQ_ret, ↓blockQ_normal, ↓blockQ_ret, ↓blockQ_exit, ↓CW_true, ↓CW_false, CW_true, CW_false, condT, condF, RQ_some, tupA_one, tupA_two, tupA_nil, Nat.reduceSub, Nat.reduceAdd, Nat.reduceMul, Nat.zero_add, Nat.add_zero, Nat.reduceLeDiff, Nat.reduceEqDiff, eqV, eqAll, fillA, and_self, and_true, true_and, Nat.le_refl, Bool.not_true, Bool.not_false, Bool.false_xor, Bool.true_xor, cond_true, cond_false, List.replicate, if_false, reduceIte, resAll, resA, ne_eq, decide_not, decide_true, decide_false, Int.reduceEq, Bool.not_true, Bool.not_false, not_true_eq_false, not_false_eq_true, cond_bool, cond_int, beq_self_eq_true, Int.reduceBEq, Bool.and_self, Bool.and_false, Bool.false_and, Bool.xor_false, Bool.xor_true, loadN_ldC, ldC_none, ldC_somes, stC_aggs, splice, storeN_stC, stC_int, stC_bool, stC_ptr, stC_nilp, stC_sl, stC_nils, getC_gcO, gcO_cells, W_draw_eq, ↓W_scope, ev_clear, evT, evF, evX, evM, ↓exitQ_normal, ↓exitQ_ret, ↓exitQ_exit, saA_self, saO_self, if_pos, if_neg, wrapI, get_concat, set_concat, Int.toNat_natCast, Int.toNat_zero, List.nil_append, Nat.mul_one, decide_eq_true, decide_eq_false, Int.reduceLE, Int.reduceLT, Int.reduceNeg, Bool.false_or, Bool.true_or, Bool.or_false, Bool.or_true, wrapU, Int.reduceAdd, Int.reduceSub, Int.reduceMul, List.append_assoc, List.length_append, get_mid, get_mid0, set_mid, set_mid0, List.length_set, List.length_cons, List.length_nil, List.cons_append, List.getElem?_append_left, List.set_append_left, get_at, get_at0, set_at, set_at0, List.getElem?_set_self, List.getElem?_set_ne, ha, a141, g141, evA, repeatL, List.flatten_cons, List.flatten_nil, happ, hone]
      have hl23 := k23.1
      have hlM := hkM.1
      have gb3 := k23.get gbM (by omega) (by omega)
      have lb3 : m.length < m3.length := (List.getElem?_eq_some_iff.1 gb3).1
      have lj3 : j < m3.length := (List.getElem?_eq_some_iff.1 j3).1
      rw [hf2, hf3] at r3
      refine ⟨(ringL c p xs).length + 1 - (i + 1), by omega, i + 1, r', _, _, _, _, _, _, st3, rfl, rfl, by omega, ⟨by omega, fun a ha hne => ?_⟩, ?_, ?_, r3, ho'⟩
      · rw [hpre a (by omega) (.inr ha), k23.2 a (by omega) (by omega) hne, hkM.2 a ha hne]
      · rw [hpre _ lb3 (.inl fun ro L h => by rw [gb3] at h; cases h)]; exact gb3
      · rw [hpre _ lj3 (.inl fun ro L h => by rw [j3] at h; cases h)]; exact j3
    · injection hf with hf1 hf2
      injection hf2 with hf2 hf3
      rw [hf1] at g141
      simp only [Bool.false_eq_true, if_false] at g141
      simp (disch := first | assumption | omega | (simp only [List.length_cons, List.length_nil, List.length_set, List.length_append] <;> omega) | (simp only [get_mid, get_mid0, List.cons_append, List.append_assoc, List.getElem?_cons_zero, List.getElem?_cons_succ])) only [ek, ↓evW, ↓evQ, evB, evS, evL, List.map, AV.cells, List.all, AV.one, Bool.and_true, Bool.true_and, if_true, ↓thenQ_normal, ↓thenQ_exit, ↓thenQ_ret, ↓blockQ_normal, ↓blockQ_ret, ↓blockQ_exit, ↓CW_true, ↓CW_false, CW_true, CW_false, condT, condF, RQ_some, tupA_one, tupA_two, tupA_nil, Nat.reduceSub, Nat.reduceAdd, Nat.reduceMul, Nat.zero_add, Nat.add_zero, Nat.reduceLeDiff, Nat.reduceEqDiff, eqV, eqAll, fillA, and_self, and_true, true_and, Nat.le_refl, Bool.not_true, Bool.not_false, Bool.false_xor, Bool.true_xor, cond_true, cond_false, List.replicate, if_false, reduceIte, resAll, resA, ne_eq, decide_not, decide_true, decide_false, Int.reduceEq, Bool.not_true, Bool.not_false, not_true_eq_false, not_false_eq_true, cond_bool, cond_int, beq_self_eq_true, Int.reduceBEq, Bool.and_self, Bool.and_false, Bool.false_and, Bool.xor_false, Bool.xor_true, loadN_ldC, ldC_none, ldC_somes, stC_aggs, splice, storeN_stC, stC_int, stC_bool, stC_ptr, stC_nilp, stC_sl, stC_nils, getC_gcO, gcO_cells, W_draw_eq, ↓W_scope, ev_clear, evT, evF, evX, evM, ↓exitQ_normal, ↓exitQ_ret, ↓exitQ_exit, saA_self, saO_self, if_pos, if_neg, wrapI, get_concat, set_concat, Int.toNat_natCast, Int.toNat_zero, List.nil_append, Nat.mul_one, decide_eq_true, decide_eq_false, Int.reduceLE, Int.reduceLT, Int.reduceNeg, Bool.false_or, Bool.true_or, Bool.or_false, Bool.or_true, wrapU, Int.reduceAdd, Int.reduceSub, Int.reduceMul, List.append_assoc, List.length_append, get_mid, get_mid0, set_mid, set_mid0, List.length_set, List.length_cons, List.length_nil, List.cons_append, List.getElem?_append_left, List.set_append_left, get_at, get_at0, set_at, set_at0, List.getElem?_set_self, List.getElem?_set_ne, ha, a141, g141]
      have hl23 := k23.1
      have hlM := hkM.1
      have hown3 : Own m m3 1 ((ringL c p xs).take i).length (iC ((ringL c p xs).take i)) r := hownM.keep fun q C hq1 hq2 => k23.get hq2 (hq q C hq1 hq2).1 (hq q C hq1 hq2).2
      rw [hf2, hf3] at r3
      subst hie
      rw [List.take_length] at hown3
      exact ⟨⟨by omega, fun a ha hne => by rw [k23.2 a (by omega) (by omega) hne, hkM.2 a ha hne]⟩, (Own.si hown3).1, (Own.si hown3).2, st3, j3, r3⟩
  · obtain ⟨k2', hlt, hE'⟩ := hn2 ha
    simp (disch := first | assumption | omega | (simp only [List.length_cons, List.length_nil, List.length_set, List.length_append] <;> omega) | (simp only [get_mid, get_mid0, List.cons_append, List.append_assoc, List.getElem?_cons_zero, List.getElem?_cons_succ])) only [ek, ↓evW, ↓evQ, evB, evS, evL, List.map, AV.cells, List.all, AV.one, Bool.and_true, Bool.true_and, if_true, ↓thenQ_normal, ↓thenQ_exit, ↓thenQ_ret, ↓blockQ_normal, ↓blockQ_ret, ↓blockQ_exit, ↓CW_true, ↓CW_false, CW_true, CW_false, condT, condF, RQ_some, tupA_one, tupA_two, tupA_nil, Nat.reduceSub, Nat.reduceAdd, Nat.reduceMul, Nat.zero_add, Nat.add_zero, Nat.reduceLeDiff, Nat.reduceEqDiff, eqV, eqAll, fillA, and_self, and_true, true_and, Nat.le_refl, Bool.not_true, Bool.not_false, Bool.false_xor, Bool.true_xor, cond_true, cond_false, List.replicate, if_false, reduceIte, resAll, resA, ne_eq, decide_not, decide_true, decide_false, Int.reduceEq, Bool.not_true, Bool.not_false, not_true_eq_false, not_false_eq_true, cond_bool, cond_int, beq_self_eq_true, Int.reduceBEq, Bool.and_self, Bool.and_false, Bool.false_and, Bool.xor_false, Bool.xor_true, loadN_ldC, ldC_none, ldC_somes, stC_aggs, splice, storeN_stC, stC_int, stC_bool, stC_ptr, stC_nilp, stC_sl, stC_nils, getC_gcO, gcO_cells, W_draw_eq, ↓W_scope, ev_clear, evT, evF, evX, evM, ↓exitQ_normal, ↓exitQ_ret, ↓exitQ_exit, saA_self, saO_self, if_pos, if_neg, wrapI, get_concat, set_concat, Int.toNat_natCast, Int.toNat_zero, List.nil_append, Nat.mul_one, decide_eq_true, decide_eq_false, Int.reduceLE, Int.reduceLT, Int.reduceNeg, Bool.false_or, Bool.true_or, Bool.or_false, Bool.or_true, wrapU, Int.reduceAdd, Int.reduceSub, Int.reduceMul, List.append_assoc, List.length_append, get_mid, get_mid0, set_mid, set_mid0, List.length_set, List.length_cons, List.length_nil, List.cons_append, List.getElem?_append_left, List.set_append_left, get_at, get_at0, set_at, set_at0, List.getElem?_set_self, List.getElem?_set_ne, ha]
    exact ⟨k2', hlt, (sx.1, sx.2, o'), _, _, _, st3, rfl, hE', k23, x3, j3, r3, ok', okL', cc'⟩
end Go.Am.F10
end
section
namespace Go.Am.F10
open Go.Am.F06
section
variable {X : Type}
theorem own_push2 {m0 m : Mem X} {xs : List Int} {v : AV} (h : Own m0 m 1 xs.length (iC xs) v) (x : Int) (hl : xs.length ≤ 100000) (hm : m0.length ≤ m.length) :
    ∃ v' m', appendA 1 8 v (.sl m.length 0 1 (some 1)) (m ++ [.cells 1 false [.int .i64 x]]) = some (v', m') ∧ Own m0 m' 1 (xs ++ [x]).length (iC (xs ++ [x])) v' ∧ m.length ≤ m'.length ∧ (∀ i, i < m.length → (∀ ys, m[i]? ≠ some (.cells 1 false (iC ys))) ∨ i < m0.length → m'[i]? = m[i]?) := by
  have hx : (m ++ [Chunk.cells 1 false [.int .i64 x]])[m.length]? = some (.cells 1 false [.int .i64 x]) := get_concat
  rw [iC_app, List.length_append]
  rcases h with ⟨h1, h2, rfl⟩ | ⟨q, rfl, hq, h2, h3⟩
  · have hxs : xs = [] := List.length_eq_zero_iff.1 h1
    subst hxs
    refine ⟨_, _, append_nils hx rfl rfl (by decide), .inr ⟨_, rfl, get_concat, by simp <;> omega, by simp⟩, by simp <;> omega, fun i hi _ => ?_⟩
    rw [List.getElem?_append_left (by simp <;> omega), List.getElem?_append_left hi]
  · have hq' : (m ++ [Chunk.cells 1 false [.int .i64 x]])[q]? = some (.cells 1 false (iC xs)) := by rw [List.getElem?_append_left h3]; exact hq
    refine ⟨_, _, append_none hq' (by rw [iC_len]; omega) hx rfl (iC_one _) rfl (by omega) (by omega), .inr ⟨_, rfl, ?_, by simp <;> omega, by simp⟩, by simp <;> omega, fun i hi ho => ?_⟩
    · have : (m ++ [Chunk.cells 1 false [AV.int .i64 x]]).length = ((m ++ [Chunk.cells 1 false [AV.int .i64 x]]).set q .dead).length := by simp
      rw [this, get_concat]
    · have hqi : q ≠ i := by
        rintro rfl
        rcases ho with ho | ho
        · exact ho _ hq
        · omega
      rw [List.getElem?_append_left (by simp <;> omega), List.getElem?_set_ne hqi, List.getElem?_append_left hi]
theorem su_push {m m' : Mem X} {n0 : Nat} {wr : Bool} {xs : List Int} {v : AV} (hs : SU m wr xs v) (hp : ∀ i, i < m.length → (∀ ys, m[i]? ≠ some (.cells 1 false (iC ys))) ∨ i < n0 → m'[i]? = m[i]?) : SU m' wr xs v := by
  refine ⟨hs.1, ?_⟩
  rcases hs.2 with h | ⟨q, o, cap, h1, h2⟩
  · exact .inl h
  · refine .inr ⟨q, o, cap, h1, fun hn => ?_⟩
    obtain ⟨ro, L, h3, h4⟩ := h2 hn
    refine ⟨ro, L, ?_, h4⟩
    rw [hp q (List.getElem?_eq_some_iff.1 h3).1 (.inl fun ys hh => ?_)]; exact h3
    rw [h3] at hh; injection hh with hh; injection hh with _ _ hh
    subst hh
    have h5 := sl_get h4.1 (j := 0) (by omega)
    rw [iC, uC, List.getElem?_map, List.getElem?_map] at h5
    obtain ⟨x, hx⟩ : ∃ x, xs[0]? = some x := ⟨_, List.getElem?_eq_getElem hn⟩
    rw [hx] at h5
    cases hy : ys[o + 0]? with
    | none => rw [hy] at h5; cases h5
    | some y => rw [hy] at h5; cases h5
theorem rC_has (c : Cf) (p : Int) (s : GS) : (rC c p s)[11]? = some (.bool s.has) := rfl
theorem rC_got (c : Cf) (p : Int) (s : GS) : (rC c p s)[10]? = some (.int .i64 (if s.has then s.seen else 0)) := rfl
end
theorem Ends.inv {c : Cf} {p : Int} {t f : GT} {k : Nat} (h : Ends c p t k f) : (t.1.a = 0 ∧ f = t) ∨ (t.1.a ≠ 0 ∧ ∃ k2, k = k2 + 1 ∧ Ends c p (nextT c p t) k2 f) := by
  cases h with
  | done h => exact .inl ⟨h, rfl⟩
  | @step _ _ k2 h hn => exact .inr ⟨h, k2, rfl, hn⟩
def Grall : List (Nat × AFun Ob) := [(150, c_ref10_New), (152, amFunc Grst ref10_Step)]
def RaI (m : MM) (c : Cf) (p : Int) (xs : List Int) (v0 : AV) (o : Int) (k : Nat) (e : List AV) (mm : MM) : Prop := ∃ (i : Nat) (r v y9 y10 y11 y12 : AV),
  e = [.agg (cfC c), .agg (memC v0 o), .int .i64 p, .ptr m.length 0, .ptr (m.length + 1) 0, .nils, .ptr (m.length + 2) 0, r, .int .i64 i, y9, y10, y11, y12] ∧ k = (ringL c p xs).length + 1 - i ∧ i ≤ (ringL c p xs).length ∧ Keep m mm ∧
  mm[m.length]? = some (.cells 6 false (cfC c)) ∧ mm[m.length + 1]? = some (.cells 2 false (memC v (o + 3 * i))) ∧ mm[m.length + 2]? = some (.cells 2 false [.nils, .int .u64 0]) ∧ SU mm false (dX c p xs i) v ∧
  Own m mm 1 ((ringL c p xs).take i).length (iC ((ringL c p xs).take i)) r
def RaJ (M2 : MM) (c : Cf) (p : Int) (v0 : AV) (o0 : Int) (cb mb rb xb : Nat) (i : Nat) (r : AV) (f : GT) (k : Nat) (e : List AV) (mm : MM) : Prop := ∃ (t : GT) (v y10 y11 y12 : AV),
  e = [.agg (cfC c), .agg (memC v0 o0), .int .i64 p, .ptr cb 0, .ptr mb 0, .nils, .ptr rb 0, r, .int .i64 i, .ptr xb 0, y10, y11, y12] ∧ Ends (stC c p) (stP c p) t k f ∧ KeepX mb xb M2 mm ∧ mm[mb]? = some (.cells 2 false (memC v t.2.2)) ∧ mm[xb]? = some (.cells 13 false (rC (stC c p) (stP c p) t.1)) ∧ SU mm false t.2.1 v ∧ GOk (stC c p) (stP c p) t.1 ∧ OkL c t.2.1 ∧ (t.1.a = 0 ∨ stC c p = c)
def RaP (m : MM) (c : Cf) (p : Int) (xs : List Int) (o : Int) (r : AV) (m' : MM) : Prop := Keep m m' ∧ ∃ l v', r = .tup [l, .agg (memC v' (finO c p xs o))] ∧ SI m' true (ringL c p xs) l ∧ Fr m.length l ∧ SU m' false (dX c p xs (ringL c p xs).length) v'
set_option maxHeartbeats 16000000 in
theorem rall_run {m : MM} {wr : Bool} {c : Cf} {p o : Int} {xs : List Int} {v : AV} (hs : SU m wr xs v) (hx : OkL c xs) (h0 : 0 ≤ o) (h1 : o ≤ 10000) :
    Fn Grall ref10_All [.agg (cfC c), .agg (memC v o), .int .i64 p] m (RaP m c p xs o) := by
  have a150 : assoc Grall 150 = some c_ref10_New := rfl
  have a152 : assoc Grall 152 = some (amFunc Grst ref10_Step) := rfl
  generalize Grall = G at a150 a152 ⊢
  have hle := ringL_le c p xs
  obtain ⟨_, q2, q3, q4⟩ := start_is c p
  have hone := slOne hs
  simp only [AV.one] at hone
  refine Fn_of rfl ?_
  simp (disch := first | assumption | omega | (simp only [List.length_cons, List.length_nil, List.length_set, List.length_append] <;> omega) | (simp only [get_mid, get_mid0, List.cons_append, List.append_assoc, List.getElem?_cons_zero, List.getElem?_cons_succ])) only [ref10_All, ek, ↓evW, ↓evQ, evB, evS, evL, List.map, AV.cells, List.all, AV.one, Bool.and_true, Bool.true_and, if_true, ↓thenQ_normal, ↓thenQ_exit, ↓thenQ_ret, ↓blockQ_normal, ↓blockQ_ret, ↓blockQ_exit, ↓CW_true, ↓CW_false, CW_true, CW_false, condT, condF, RQ_some, tupA_one, tupA_two, tupA_nil, Nat.reduceSub, Nat.reduceAdd, Nat.reduceMul, Nat.zero_add, Nat.add_zero, Nat.reduceLeDiff, Nat.reduceEqDiff, eqV, eqAll, fillA, and_self, and_true, true_and, Nat.le_refl, Bool.not_true, Bool.not_false, Bool.false_xor, Bool.true_xor, cond_true, cond_false, List.replicate, if_false, reduceIte, resAll, resA, ne_eq, decide_not, decide_true, decide_false, Int.reduceEq, Bool.not_true, Bool.not_false, not_true_eq_false, not_false_eq_true, cond_bool, cond_int, beq_self_eq_true, Int.reduceBEq, Bool.and_self, Bool.and_false, Bool.false_and, Bool.xor_false, Bool.xor_true, loadN_ldC, ldC_none, ldC_somes, stC_aggs, splice, storeN_stC, stC_int, stC_bool, stC_ptr, stC_nilp, stC_sl, stC_nils, getC_gcO, gcO_cells, W_draw_eq, ↓W_scope, ev_clear, evT, evF, evX, evM, ↓exitQ_normal, ↓exitQ_ret, ↓exitQ_exit, saA_self, saO_self, if_pos, if_neg, wrapI, get_concat, set_concat, Int.toNat_natCast, Int.toNat_zero, List.nil_append, Nat.mul_one, decide_eq_true, decide_eq_false, Int.reduceLE, Int.reduceLT, Int.reduceNeg, Bool.false_or, Bool.true_or, Bool.or_false, Bool.or_true, wrapU, Int.reduceAdd, Int.reduceSub, Int.reduceMul, List.append_assoc, List.length_append, get_mid, get_mid0, set_mid, set_mid0, List.length_set, List.length_cons, List.length_nil, List.cons_append, List.getElem?_append_left, List.set_append_left, get_at, get_at0, set_at, set_at0, List.getElem?_set_self, List.getElem?_set_ne, cfC, memC, hone]
  refine W_loop (RaI m c p xs v o) ((ringL c p xs).length + 1) (by simp only [FUEL]; omega) ⟨0, .nils, v, _, _, _, _, rfl, by omega, by omega, .app _ _, ?_, ?_, ?_, ?_, own_nil⟩ ?_
  · rw [get_mid0]; rfl
  · rw [get_mid]; simp [memC]
  · rw [get_mid]; rfl
  · simpa [dX] using (hs.keep (Keep.app _ _)).ro
  rintro k e mm ⟨i, r, v1, y9, y10, y11, y12, rfl, rfl, hi, hk, gb, gm, gr, sv, hown⟩
  have lb : m.length < mm.length := (List.getElem?_eq_some_iff.1 gb).1
  have lm : m.length + 1 < mm.length := (List.getElem?_eq_some_iff.1 gm).1
  have lr : m.length + 2 < mm.length := (List.getElem?_eq_some_iff.1 gr).1
  have hone1 := hown.val1
  have hnew := rnew_eq mm c p
  rw [q2] at hnew
  obtain ⟨K, hK⟩ : ∃ K : MM, K = [Chunk.cells 6 false (cfC c), Chunk.cells 13 false (rC (stC c p) (stP c p) (stS c p)), Chunk.cells 6 false (cfC c), Chunk.cells 6 false (cfC c), Chunk.cells 13 false (rC (stC c p) (stP c p) (stS c p))] := ⟨_, rfl⟩
  have gx : (mm ++ K)[mm.length + 4]? = some (.cells 13 false (rC (stC c p) (stP c p) (stS c p))) := by rw [hK, get_mid]; rfl
  simp only [cfC] at gb hnew hK
  simp (disch := first | assumption | omega | (simp only [List.length_cons, List.length_nil, List.length_set, List.length_append] <;> omega) | (simp only [get_mid, get_mid0, List.cons_append, List.append_assoc, List.getElem?_cons_zero, List.getElem?_cons_succ])) only [ek, ↓evW, ↓evQ, evB, evS, evL, List.map, AV.cells, List.all, AV.one, Bool.and_true, Bool.true_and, if_true, ↓thenQ_normal, ↓thenQ_exit, ↓thenQ_ret, ↓blockQ_normal, ↓blockQ_ret, ↓blockQ_exit, ↓CW_true, ↓CW_false, CW_true, CW_false, condT, condF, RQ_some, tupA_one, tupA_two, tupA_nil, Nat.reduceSub, Nat.reduceAdd, Nat.reduceMul, Nat.zero_add, Nat.add_zero, Nat.reduceLeDiff, Nat.reduceEqDiff, eqV, eqAll, fillA, and_self, and_true, true_and, Nat.le_refl, Bool.not_true, Bool.not_false, Bool.false_xor, Bool.true_xor, cond_true, cond_false, List.replicate, if_false, reduceIte, resAll, resA, ne_eq, decide_not, decide_true, decide_false, Int.reduceEq, Bool.not_true, Bool.not_false, not_true_eq_false, not_false_eq_true, cond_bool, cond_int, beq_self_eq_true, Int.reduceBEq, Bool.and_self, Bool.and_false, Bool.false_and, Bool.xor_false, Bool.xor_true, loadN_ldC, ldC_none, ldC_somes, stC_aggs, splice, storeN_stC, stC_int, stC_bool, stC_ptr, stC_nilp, stC_sl, stC_nils, getC_gcO, gcO_cells, W_draw_eq, ↓W_scope, ev_clear, evT, evF, evX, evM, ↓exitQ_normal, ↓exitQ_ret, ↓exitQ_exit, saA_self, saO_self, if_pos, if_neg, wrapI, get_concat, set_concat, Int.toNat_natCast, Int.toNat_zero, List.nil_append, Nat.mul_one, decide_eq_true, decide_eq_false, Int.reduceLE, Int.reduceLT, Int.reduceNeg, Bool.false_or, Bool.true_or, Bool.or_false, Bool.or_true, wrapU, Int.reduceAdd, Int.reduceSub, Int.reduceMul, List.append_assoc, List.length_append, get_mid, get_mid0, set_mid, set_mid0, List.length_set, List.length_cons, List.length_nil, List.cons_append, List.getElem?_append_left, List.set_append_left, get_at, get_at0, set_at, set_at0, List.getElem?_set_self, List.getElem?_set_ne, cfC, gb, a150, hnew, rC_len, rC_all, List.drop_succ_cons, List.drop_zero, List.drop_nil, List.append_nil]
  rw [← hK]
  clear hK
  obtain ⟨f, kf, hE, hf, hcase⟩ : ∃ f kf, Ends (stC c p) (stP c p) (stS c p, dX c p xs i, o + 3 * i) kf f ∧ kf ≤ 3 ∧
      ((i < (ringL c p xs).length ∧ ∃ w x, (ringL c p xs)[i]? = some x ∧ f = (⟨0, w, x, true, 0⟩, dX c p xs (i + 1), o + 3 * ((i + 1 : Nat) : Int))) ∨
       (i = (ringL c p xs).length ∧ ∃ w, f = (⟨0, w, 0, false, 0⟩, dX c p xs i, finO c p xs o))) := by
    by_cases hin : i < (ringL c p xs).length
    · obtain ⟨w, x, hx1, h⟩ := drain_some hx h0 h1 hin
      exact ⟨_, _, h, by omega, .inl ⟨hin, w, x, hx1, rfl⟩⟩
    · have : i = (ringL c p xs).length := by omega
      obtain ⟨k, w, hk, h⟩ := drain_none (c := c) (p := p) hx h0 h1
      rw [← this] at h
      exact ⟨_, _, h, by omega, .inr ⟨this, w, rfl⟩⟩
  have hkM : Keep m (mm ++ K) := hk.trans (.app _ _)
  have gbM : (mm ++ K)[m.length]? = some (.cells 6 false (cfC c)) := (Keep.app mm K).get gb
  have gmM : (mm ++ K)[m.length + 1]? = some (.cells 2 false (memC v1 (o + 3 * i))) := (Keep.app mm K).get gm
  have grM : (mm ++ K)[m.length + 2]? = some (.cells 2 false [.nils, .int .u64 0]) := (Keep.app mm K).get gr
  have svM := sv.keep (Keep.app mm K)
  have hownM := hown.more K
  have hxm : m.length + 1 ≠ mm.length + 4 ∧ m.length ≠ mm.length + 4 ∧ m.length + 2 ≠ mm.length + 4 ∧ m.length ≤ mm.length + 4 := by omega
  generalize mm.length + 4 = xb at gx hxm ⊢
  obtain ⟨d1, d2, d3, d4⟩ := hxm
  refine W_loop (RaJ (mm ++ K) c p v o m.length (m.length + 1) (m.length + 2) xb i r f) kf (by simp only [FUEL]; omega) ⟨_, _, _, _, _, rfl, hE, .refl _, gmM, gx, svM, q3, dX_ok hx i, q4⟩ ?_
  have hq : ∀ q C, (mm ++ K)[q]? = some (Chunk.cells 1 false C) → q ≠ m.length + 1 ∧ q ≠ xb := fun q C hq => ⟨fun h => (by rw [h, gmM] at hq; cases hq), fun h => (by rw [h, gx] at hq; cases hq)⟩
  generalize mm ++ K = M2 at hkM gbM gmM grM svM hownM hq
  clear hnew gx gmM svM hk gb gm gr sv hown hE hf q2 q3 q4 lb lm lr hs hone
  rintro kk e m2 ⟨t, v2, z10, z11, z12, rfl, hE, k2, g2, x2, s2, ok2, okL2, cc2⟩
  have l2 : m.length + 1 < m2.length := (List.getElem?_eq_some_iff.1 g2).1
  have lx2 : xb < m2.length := (List.getElem?_eq_some_iff.1 x2).1
  rcases hE.inv with ⟨ha, hft⟩ | ⟨hne, k, rfl, hn⟩
  · have ha' : ¬ (0 < t.1.a) := by omega
    have hown2 : Own m m2 1 ((ringL c p xs).take i).length (iC ((ringL c p xs).take i)) r := hownM.keep fun q C hq1 hq2 => k2.get hq2 (hq q C hq2).1 (hq q C hq2).2
    have gb2 := k2.get gbM (by omega) d2
    have gr2 := k2.get grM (by omega) d3
    have lb2 : m.length < m2.length := (List.getElem?_eq_some_iff.1 gb2).1
    have lr2 : m.length + 2 < m2.length := (List.getElem?_eq_some_iff.1 gr2).1
    have hl2 := k2.1
    have hlM := hkM.1
    have hkk : ∀ a, a < m.length → m2[a]? = m[a]? := fun a ha => by rw [k2.2 a (by omega) (by omega) (by omega), hkM.2 a ha]
    have hone2 := slOne s2
    simp only [AV.one] at hone2
    simp (disch := first | assumption | omega | (simp only [List.length_cons, List.length_nil, List.length_set, List.length_append] <;> omega) | (simp only [get_mid, get_mid0, List.cons_append, List.append_assoc, List.getElem?_cons_zero, List.getElem?_cons_succ])) only [ek, ↓evW, ↓evQ, evB, evS, evL, List.map, AV.cells, List.all, AV.one, Bool.and_true, Bool.true_and, if_true, ↓thenQ_normal, ↓thenQ_exit, ↓thenQ_ret, ↓blockQ_normal, ↓blockQ_ret, ↓blockQ_exit, ↓CW_true, ↓CW_false, CW_true, CW_false, condT, condF, RQ_some, tupA_one, tupA_two, tupA_nil, Nat.reduceSub, Nat.reduceAdd, Nat.reduceMul, Nat.zero_add, Nat.add_zero, Nat.reduceLeDiff, Nat.reduceEqDiff, eqV, eqAll, fillA, and_self, and_true, true_and, Nat.le_refl, Bool.not_true, Bool.not_false, Bool.false_xor, Bool.true_xor, cond_true, cond_false, List.replicate, if_false, reduceIte, resAll, resA, ne_eq, decide_not, decide_true, decide_false, Int.reduceEq, Bool.not_true, Bool.not_false, not_true_eq_false, not_false_eq_true, cond_bool, cond_int, beq_self_eq_true, Int.reduceBEq, Bool.and_self, Bool.and_false, Bool.false_and, Bool.xor_false, Bool.xor_true, loadN_ldC, ldC_none, ldC_somes, stC_aggs, splice, storeN_stC, stC_int, stC_bool, stC_ptr, stC_nilp, stC_sl, stC_nils, getC_gcO, gcO_cells, W_draw_eq, ↓W_scope, ev_clear, evT, evF, evX, evM, ↓exitQ_normal, ↓exitQ_ret, ↓exitQ_exit, saA_self, saO_self, if_pos, if_neg, wrapI, get_concat, set_concat, Int.toNat_natCast, Int.toNat_zero, List.nil_append, Nat.mul_one, decide_eq_true, decide_eq_false, Int.reduceLE, Int.reduceLT, Int.reduceNeg, Bool.false_or, Bool.true_or, Bool.or_false, Bool.or_true, wrapU, Int.reduceAdd, Int.reduceSub, Int.reduceMul, List.append_assoc, List.length_append, get_mid, get_mid0, set_mid, set_mid0, List.length_set, List.length_cons, List.length_nil, List.cons_append, List.getElem?_append_left, List.set_append_left, get_at, get_at0, set_at, set_at0, List.getElem?_set_self, List.getElem?_set_ne, x2, ha, ha', rC_len, rC_take, rC_all, rC_at, rC_has, rC_drop, List.drop_zero, List.drop_succ_cons, List.drop_nil, List.append_nil]
    rcases hcase with ⟨hin, w, x, hx1, hf⟩ | ⟨hie, w, hf⟩
    · have hhas : t.1.has = true := by rw [← hft, hf]
      have hseen : t.1.seen = x := by rw [← hft, hf]
      have hX : t.2.1 = dX c p xs (i + 1) := by rw [← hft, hf]
      have hO : t.2.2 = o + 3 * ((i + 1 : Nat) : Int) := by rw [← hft, hf]
      obtain ⟨r', m', happ, ho', hl', hpre⟩ := own_push2 hown2 x (by rw [List.length_take]; omega) (by omega)
      have htake : (ringL c p xs).take i ++ [x] = (ringL c p xs).take (i + 1) := by rw [List.take_add_one, hx1]; rfl
      rw [htake] at ho'
      rw [hX] at s2
      rw [hO] at g2
      simp only [AV.one] at hone1
      simp (disch := first | assumption | omega | (simp only [List.length_cons, List.length_nil, List.length_set, List.length_append] <;> omega) | (simp only [get_mid, get_mid0, List.cons_append, List.append_assoc, List.getElem?_cons_zero, List.getElem?_cons_succ])) only [ek, ↓evW, ↓evQ, evB, evS, evL, List.map, AV.cells, List.all, AV.one, Bool.and_true, Bool.true_and, if_true, ↓thenQ_normal, ↓thenQ_exit, ↓thenQ_ret, ↓blockQ_normal, ↓blockQ_ret, ↓blockQ_exit, ↓CW_true, ↓CW_false, CW_true, CW_false, condT, condF, RQ_some, tupA_one, tupA_two, tupA_nil, Nat.reduceSub, Nat.reduceAdd, Nat.reduceMul, Nat.zero_add, Nat.add_zero, Nat.reduceLeDiff, Nat.reduceEqDiff, eqV, eqAll, fillA, and_self, and_true, true_and, Nat.le_refl, Bool.not_true, Bool.not_false, Bool.false_xor, Bool.true_xor, cond_true, cond_false, List.replicate, if_false, reduceIte, resAll, resA, ne_eq, decide_not, decide_true, decide_false, Int.reduceEq, Bool.not_true, Bool.not_false, not_true_eq_false, not_false_eq_true, cond_bool, cond_int, beq_self_eq_true, Int.reduceBEq, Bool.and_self, Bool.and_false, Bool.false_and, Bool.xor_false, Bool.xor_true, loadN_ldC, ldC_none, ldC_somes, stC_aggs, splice, storeN_stC, stC_int, stC_bool, stC_ptr, stC_nilp, stC_sl, stC_nils, getC_gcO, gcO_cells, W_draw_eq, ↓W_scope, ev_clear, evT, evF, evX, evM, ↓exitQ_normal, ↓exitQ_ret, ↓exitQ_exit, saA_self, saO_self, if_pos, if_neg, wrapI, get_concat, set_concat, Int.toNat_natCast, Int.toNat_zero, List.nil_append, Nat.mul_one, decide_eq_true, decide_eq_false, Int.reduceLE, Int.reduceLT, Int.reduceNeg, Bool.false_or, Bool.true_or, Bool.or_false, Bool.or_true, wrapU, Int.reduceAdd, Int.reduceSub, Int.reduceMul, List.append_assoc, List.length_append, get_mid, get_mid0, set_mid, set_mid0, List.length_set, List.length_cons, List.length_nil, List.cons_append, List.getElem?_append_left, List.set_append_left, get_at, get_at0, set_at, set_at0, List.getElem?_set_self, List.getElem?_set_ne, hhas, x2, rC_len, rC_take, rC_all, rC_at, rC_got, rC_drop, hseen, evA, repeatL, List.flatten_cons, List.flatten_nil, happ, hone1]
      refine ⟨(ringL c p xs).length + 1 - (i + 1), by omega, i + 1, r', v2, _, _, _, _, rfl, rfl, by omega, ⟨by omega, fun a ha => ?_⟩, ?_, ?_, ?_, su_push s2 hpre, ho'⟩
      · rw [hpre a (by omega) (.inr ha), hkk a ha]
      · rw [hpre _ lb2 (.inl fun ys h => by rw [gb2] at h; cases h)]; exact gb2
      · rw [hpre _ l2 (.inl fun ys h => by rw [g2] at h; cases h)]; exact g2
      · rw [hpre _ lr2 (.inl fun ys h => by rw [gr2] at h; cases h)]; exact gr2
    · have hhas : t.1.has = false := by rw [← hft, hf]
      have hX : t.2.1 = dX c p xs i := by rw [← hft, hf]
      have hO : t.2.2 = finO c p xs o := by rw [← hft, hf]
      rw [hX] at s2
      rw [hO] at g2
      subst hie
      rw [List.take_length] at hown2
      simp only [memC] at g2
      simp (disch := first | assumption | omega | (simp only [List.length_cons, List.length_nil, List.length_set, List.length_append] <;> omega) | (simp only [get_mid, get_mid0, List.cons_append, List.append_assoc, List.getElem?_cons_zero, List.getElem?_cons_succ])) only [ek, ↓evW, ↓evQ, evB, evS, evL, List.map, AV.cells, List.all, AV.one, Bool.and_true, Bool.true_and, if_true, ↓thenQ_normal, ↓thenQ_exit, ↓thenQ_ret, ↓blockQ_normal, ↓blockQ_ret, ↓blockQ_exit, ↓CW_true, ↓CW_false, CW_true, CW_false, condT, condF, RQ_some, tupA_one, tupA_two, tupA_nil, Nat.reduceSub, Nat.reduceAdd, Nat.reduceMul, Nat.zero_add, Nat.add_zero, Nat.reduceLeDiff, Nat.reduceEqDiff, eqV, eqAll, fillA, and_self, and_true, true_and, Nat.le_refl, Bool.not_true, Bool.not_false, Bool.false_xor, Bool.true_xor, cond_true, cond_false, List.replicate, if_false, reduceIte, resAll, resA, ne_eq, decide_not, decide_true, decide_false, Int.reduceEq, Bool.not_true, Bool.not_false, not_true_eq_false, not_false_eq_true, cond_bool, cond_int, beq_self_eq_true, Int.reduceBEq, Bool.and_self, Bool.and_false, Bool.false_and, Bool.xor_false, Bool.xor_true, loadN_ldC, ldC_none, ldC_somes, stC_aggs, splice, storeN_stC, stC_int, stC_bool, stC_ptr, stC_nilp, stC_sl, stC_nils, getC_gcO, gcO_cells, W_draw_eq, ↓W_scope, ev_clear, evT, evF, evX, evM, ↓exitQ_normal, ↓exitQ_ret, ↓exitQ_exit, saA_self, saO_self, if_pos, if_neg, wrapI, get_concat, set_concat, Int.toNat_natCast, Int.toNat_zero, List.nil_append, Nat.mul_one, decide_eq_true, decide_eq_false, Int.reduceLE, Int.reduceLT, Int.reduceNeg, Bool.false_or, Bool.true_or, Bool.or_false, Bool.or_true, wrapU, Int.reduceAdd, Int.reduceSub, Int.reduceMul, List.append_assoc, List.length_append, get_mid, get_mid0, set_mid, set_mid0, List.length_set, List.length_cons, List.length_nil, List.cons_append, List.getElem?_append_left, List.set_append_left, get_at, get_at0, set_at, set_at0, List.getElem?_set_self, List.getElem?_set_ne, hhas, g2, gr2, hone2]
      have hbox : ∀ ro L, m2[m.length + 2]? ≠ some (.cells 1 ro L) := fun ro L h => by rw [gr2] at h; cases h
      exact ⟨⟨by simpa using (by omega : m.length ≤ m2.length), fun a ha => by rw [List.getElem?_set_ne (by omega)]; exact hkk a ha⟩, r, v2, rfl, Sl.put (Own.si hown2).1 hbox _, (Own.si hown2).2, Sl.put s2 hbox _⟩
  · have hpos : 0 < t.1.a := by
      rcases ok2.a with h | ⟨_, h⟩
      · exact absurd h hne
      · omega
    have okx : t.1.a = 0 ∨ OkL (stC c p) t.2.1 := cc2.elim .inl (fun h => .inr (by rw [h]; exact okL2))
    have ok' := ok2.step okx
    have okL' := stepG_ok (c := stC c p) (p := stP c p) (s := t.1) okL2
    have cc' : (stepG (stC c p) (stP c p) t.2.1 t.1).1.a = 0 ∨ stC c p = c := cc2.elim (fun h => absurd h hne) .inr
    have hone2 := slOne s2
    simp only [AV.one] at hone2
    simp only [memC] at g2
    simp (disch := first | assumption | omega | (simp only [List.length_cons, List.length_nil, List.length_set, List.length_append] <;> omega) | (simp only [get_mid, get_mid0, List.cons_append, List.append_assoc, List.getElem?_cons_zero, List.getElem?_cons_succ])) only [ek, ↓evW, ↓evQ, evB, evS, evL, List.map, AV.cells, List.all, AV.one, Bool.and_true, Bool.true_and, if_true, ↓thenQ_normal, ↓thenQ_exit, ↓thenQ_ret, ↓blockQ_normal, ↓blockQ_ret, ↓blockQ_exit, ↓CW_true, ↓CW_false, CW_true, CW_false, condT, condF, RQ_some, tupA_one, tupA_two, tupA_nil, Nat.reduceSub, Nat.reduceAdd, Nat.reduceMul, Nat.zero_add, Nat.add_zero, Nat.reduceLeDiff, Nat.reduceEqDiff, eqV, eqAll, fillA, and_self, and_true, true_and, Nat.le_refl, Bool.not_true, Bool.not_false, Bool.false_xor, Bool.true_xor, cond_true, cond_false, List.replicate, if_false, reduceIte, resAll, resA, ne_eq, decide_not, decide_true, decide_false, Int.reduceEq, Bool.not_true, Bool.not_false, not_true_eq_false, not_false_eq_true, cond_bool, cond_int, beq_self_eq_true, Int.reduceBEq, Bool.and_self, Bool.and_false, Bool.false_and, Bool.xor_false, Bool.xor_true, loadN_ldC, ldC_none, ldC_somes, stC_aggs, splice, storeN_stC, stC_int, stC_bool, stC_ptr, stC_nilp, stC_sl, stC_nils, getC_gcO, gcO_cells, W_draw_eq, ↓W_scope, ev_clear, evT, evF, evX, evM, ↓exitQ_normal, ↓exitQ_ret, ↓exitQ_exit, saA_self, saO_self, if_pos, if_neg, wrapI, get_concat, set_concat, Int.toNat_natCast, Int.toNat_zero, List.nil_append, Nat.mul_one, decide_eq_true, decide_eq_false, Int.reduceLE, Int.reduceLT, Int.reduceNeg, Bool.false_or, Bool.true_or, Bool.or_false, Bool.or_true, wrapU, Int.reduceAdd, Int.reduceSub, Int.reduceMul, List.append_assoc, List.length_append, get_mid, get_mid0, set_mid, set_mid0, List.length_set, List.length_cons, List.length_nil, List.cons_append, List.getElem?_append_left, List.set_append_left, get_at, get_at0, set_at, set_at0, List.getElem?_set_self, List.getElem?_set_ne, x2, hpos, g2, hone2, rC_len, rC_take, rC_all, rC_at, rC_drop, List.drop_zero, List.drop_succ_cons, List.drop_nil, List.append_nil, a152]
    refine OK_fn (rstep_run (o := t.2.2) s2 ok2 okx) ?_
    rintro _ m3 ⟨k3, v3, rfl, s3⟩
    simp only [nextT] at hn
    generalize stepG (stC c p) (stP c p) t.2.1 t.1 = sx at ok' okL' cc' hn s3 ⊢
    generalize opsG t.1 t.2.2 = o' at hn ⊢
    have g3 := k3.get g2
    have x3 := k3.get x2
    have l3 : m.length + 1 < m3.length := (List.getElem?_eq_some_iff.1 g3).1
    have lx3 : xb < m3.length := (List.getElem?_eq_some_iff.1 x3).1
    have hone3 := slOne s3
    simp only [AV.one] at hone3
    simp (disch := first | assumption | omega | (simp only [List.length_cons, List.length_nil, List.length_set, List.length_append] <;> omega) | (simp only [get_mid, get_mid0, List.cons_append, List.append_assoc, List.getElem?_cons_zero, List.getElem?_cons_succ])) only [ek, ↓evW, ↓evQ, evB, evS, evL, List.map, AV.cells, List.all, AV.one, Bool.and_true, Bool.true_and, if_true, ↓thenQ_normal, ↓thenQ_exit, ↓thenQ_ret, ↓blockQ_normal, ↓blockQ_ret, ↓blockQ_exit, ↓CW_true, ↓CW_false, CW_true, CW_false, condT, condF, RQ_some, tupA_one, tupA_two, tupA_nil, Nat.reduceSub, Nat.reduceAdd, Nat.reduceMul, Nat.zero_add, Nat.add_zero, Nat.reduceLeDiff, Nat.reduceEqDiff, eqV, eqAll, fillA, and_self, and_true, true_and, Nat.le_refl, Bool.not_true, Bool.not_false, Bool.false_xor, Bool.true_xor, cond_true, cond_false, List.replicate, if_false, reduceIte, resAll, resA, ne_eq, decide_not, decide_true, decide_false, Int.reduceEq, Bool.not_true, Bool.not_false, not_true_eq_false, not_false_eq_true, cond_bool, cond_int, beq_self_eq_true, Int.reduceBEq, Bool.and_self, Bool.and_false, Bool.false_and, Bool.xor_false, Bool.xor_true, loadN_ldC, ldC_none, ldC_somes, stC_aggs, splice, storeN_stC, stC_int, stC_bool, stC_ptr, stC_nilp, stC_sl, stC_nils, getC_gcO, gcO_cells, W_draw_eq, ↓W_scope, ev_clear, evT, evF, evX, evM, ↓exitQ_normal, ↓exitQ_ret, ↓exitQ_exit, saA_self, saO_self, if_pos, if_neg, wrapI, get_concat, set_concat, Int.toNat_natCast, Int.toNat_zero, List.nil_append, Nat.mul_one, decide_eq_true, decide_eq_false, Int.reduceLE, Int.reduceLT, Int.reduceNeg, Bool.false_or, Bool.true_or, Bool.or_false, Bool.or_true, wrapU, Int.reduceAdd, Int.reduceSub, Int.reduceMul, List.append_assoc, List.length_append, get_mid, get_mid0, set_mid, set_mid0, List.length_set, List.length_cons, List.length_nil, List.cons_append, List.getElem?_append_left, List.set_append_left, get_at, get_at0, set_at, set_at0, List.getElem?_set_self, List.getElem?_set_ne, memC, g3, x3, hone3, rC_len, rC_take, rC_all, rC_at, rC_drop, List.drop_zero, List.drop_succ_cons, List.drop_nil, List.append_nil]
    refine ⟨k, by omega, (sx.1, sx.2, o'), v3, _, _, _, rfl, hn, ((k2.trans (.of k3)).setR _).setL _, ?_, ?_, ?_, ok', okL', cc'⟩
    · rw [List.getElem?_set_self (by simpa using l3)]; rfl
    · rw [List.getElem?_set_ne d1, List.getElem?_set_self lx3]
    · exact Sl.put (Sl.put s3 (fun ro L h => by rw [x3] at h; cases h) _) (fun ro L h => by rw [List.getElem?_set_ne (fun h => d1 h.symm), g3] at h; cases h) _
end Go.Am.F10
end
