import Derived.Test.YtgfddegdjdeeoaaXG14
set_option linter.unusedSimpArgs false
set_option linter.unusedVariables false
section
namespace Go.Am.F10
open Go.Am.F06
def ringN (c : Cf) (w : Int) : Nat := if sz w ≤ c.q then (sz w).toNat else 0
def ringAt (c : Cf) (p : Int) (xs : List Int) (w : Int) (i : Nat) : Int := IntKind.i64.wrap (xs.getD (slotA c p ((hd w + i) % 4294967296)).toNat 0)
def ringW (c : Cf) (p : Int) (xs : List Int) (w : Int) (n : Nat) : List Int := (List.range n).map (ringAt c p xs w)
def ringL (c : Cf) (p : Int) (xs : List Int) : List Int := if thereP c p then ringW c p xs (xs.getD (wrdN c p) 0) (ringN c (xs.getD (wrdN c p) 0)) else []
theorem ringW_len (c : Cf) (p : Int) (xs : List Int) (w : Int) (n : Nat) : (ringW c p xs w n).length = n := by simp [ringW]
theorem ringW_succ (c : Cf) (p : Int) (xs : List Int) (w : Int) (n : Nat) : ringW c p xs w (n + 1) = ringW c p xs w n ++ [ringAt c p xs w n] := by simp [ringW, List.range_succ]
theorem ringN_le {c : Cf} {p : Int} (h : thereP c p) (w : Int) : ringN c w ≤ 64 := by
  have := there_bounds h
  unfold ringN; split <;> omega
def Gring : List (Nat × AFun Ob) := [(47, memNF allS), (156, c_conf_Config_Cells), (159, c_conf_Config_Word), (160, c_conf_Config_Slot)]
def RnI (m M0 : MM) (c : Cf) (p : Int) (j : Nat) (xs : List Int) (w : Int) (l : AV) (k : Nat) (e : List AV) (mm : MM) : Prop := ∃ (i : Nat) (r y11 y12 y13 y14 : AV),
  e = [.agg (cfC c), .ptr j 0, .int .i64 p, .ptr m.length 0, .nils, r, l, .int .u64 w, .int .u32 (hd w), .int .u32 (tl w), .int .u32 i, y11, y12, y13, y14] ∧ k = ringN c w - i ∧ i ≤ ringN c w ∧ Keep M0 mm ∧ Own M0 mm 1 (ringW c p xs w i).length (iC (ringW c p xs w i)) r
set_option maxHeartbeats 8000000 in
theorem ring_run {m : MM} {c : Cf} {p o : Int} {xs : List Int} {j : Nat} {st : MemSt} (hj : m[j]? = some (.abs (.mem st))) (hr : RelM xs o st) (hx : OkL c xs) :
    Fn Gring docs_Ring [.agg (cfC c), .ptr j 0, .int .i64 p] m (fun r m' => Keep m m' ∧ SI m' true (ringL c p xs) r ∧ Fr m.length r ∧ Nx m' r ∧ Own m m' 1 (ringL c p xs).length (iC (ringL c p xs)) r) := by
  have a47 : assoc Gring 47 = some (memNF allS) := rfl
  have a156 : assoc Gring 156 = some c_conf_Config_Cells := rfl
  have a159 : assoc Gring 159 = some c_conf_Config_Word := rfl
  have a160 : assoc Gring 160 = some c_conf_Config_Slot := rfl
  generalize Gring = G at a47 a156 a159 a160 ⊢
  have lj : j < m.length := (List.getElem?_eq_some_iff.1 hj).1
  have hcn := cellsN_le c
  have hxl := hx.1
  have hj1 : (m ++ [Chunk.cells 6 false (cfC c)])[j]? = some (.abs (.mem st)) := by rw [List.getElem?_append_left lj]; exact hj
  obtain ⟨rfl, _, _⟩ := hr
  obtain ⟨l, f47, sl, _⟩ := all_of hj1 (by omega)
  have hlen := sl.len
  rw [hxl] at hlen
  have g0 : (m ++ [Chunk.cells 6 false (cfC c)] ++ [.cells 1 false (uC st.cells)])[m.length]? = some (Chunk.cells 6 false (cfC c)) := by rw [List.append_assoc, get_mid0]; rfl
  have hk0 : Keep m (m ++ [Chunk.cells 6 false (cfC c)] ++ [.cells 1 false (uC st.cells)]) := by rw [List.append_assoc]; exact Keep.app _ _
  generalize hM : m ++ [Chunk.cells 6 false (cfC c)] ++ [.cells 1 false (uC st.cells)] = M1 at f47 sl g0 hk0
  have hc := fun K : MM => cells_eq (M1 ++ K) c
  obtain ⟨J, hcells⟩ := cells_eq M1 c
  have hw := fun K : MM => word_run (m := M1 ++ K) c p
  have g0' := fun K : MM => (Keep.app M1 K).get g0
  simp only [cfC, List.cons_append, List.nil_append, List.append_assoc] at hcells hw g0 g0' f47
  refine Fn_of rfl ?_
  by_cases h : thereP c p
  · have hb := there_bounds h
    have ha0 := addr_b h (i := 0) (by omega) (by omega)
    have hwt : (addrA c p 0).toNat = wrdN c p := rfl
    obtain ⟨w, hw1⟩ : ∃ w, st.cells[wrdN c p]? = some w := ⟨_, List.getElem?_eq_getElem (by omega)⟩
    have hwd : st.cells.getD (wrdN c p) 0 = w := by rw [List.getD_eq_getElem?_getD, hw1]; rfl
    have hw64 : W64 w := hx.2 w (List.mem_of_getElem? hw1)
    obtain ⟨q, oo, cap, ro, L, rfl, b2, b3, b4, b5, b6⟩ := SU.get sl hw1
    have b2' := fun K : MM => (Keep.app M1 K).get b2
    simp (disch := first | assumption | omega | (simp only [List.length_cons, List.length_nil, List.length_set, List.length_append] <;> omega) | (simp only [get_mid, get_mid0, List.cons_append, List.append_assoc, List.getElem?_cons_zero, List.getElem?_cons_succ])) only [docs_Ring, ek, ↓evW, ↓evQ, evB, evS, evL, List.map, AV.cells, List.all, AV.one, Bool.and_true, Bool.true_and, if_true, ↓thenQ_normal, ↓thenQ_exit, ↓thenQ_ret, ↓blockQ_normal, ↓blockQ_ret, ↓blockQ_exit, ↓CW_true, ↓CW_false, CW_true, CW_false, condT, condF, RQ_some, tupA_one, tupA_two, tupA_nil, Nat.reduceSub, Nat.reduceAdd, Nat.reduceMul, Nat.zero_add, Nat.add_zero, Nat.reduceLeDiff, Nat.reduceEqDiff, eqV, eqAll, fillA, and_self, and_true, true_and, Nat.le_refl, Bool.not_true, Bool.not_false, Bool.false_xor, Bool.true_xor, cond_true, cond_false, List.replicate, if_false, reduceIte, resAll, resA, ne_eq, decide_not, decide_true, decide_false, Int.reduceEq, Bool.not_true, Bool.not_false, not_true_eq_false, not_false_eq_true, cond_bool, cond_int, beq_self_eq_true, Int.reduceBEq, Bool.and_self, Bool.and_false, Bool.false_and, Bool.xor_false, Bool.xor_true, loadN_ldC, ldC_none, ldC_somes, stC_aggs, splice, storeN_stC, stC_int, stC_bool, stC_ptr, stC_nilp, stC_sl, stC_nils, getC_gcO, gcO_cells, W_draw_eq, ↓W_scope, ev_clear, evT, evF, evX, evM, ↓exitQ_normal, ↓exitQ_ret, ↓exitQ_exit, saA_self, saO_self, if_pos, if_neg, wrapI, get_concat, set_concat, Int.toNat_natCast, Int.toNat_zero, List.nil_append, Nat.mul_one, decide_eq_true, decide_eq_false, Int.reduceLE, Int.reduceLT, Int.reduceNeg, Bool.false_or, Bool.true_or, Bool.or_false, Bool.or_true, wrapU, Int.reduceAdd, Int.reduceSub, Int.reduceMul, List.append_assoc, List.length_append, get_mid, get_mid0, set_mid, set_mid0, List.length_set, List.length_cons, List.length_nil, List.cons_append, List.getElem?_append_left, List.set_append_left, get_at, get_at0, set_at, set_at0, List.getElem?_set_self, List.getElem?_set_ne, cfC, a47, f47, ev_len, hlen, g0, g0', a156, hcells, a159, hw, b2', b6, hwt, shr_eq]
    have hN := ringN_le h w
    have hhb := hd_b hw64
    have eh : IntKind.u32.wrap (w / 4294967296) = hd w := by rw [wrap32]; unfold hd; unfold W64 at hw64; omega
    have et : IntKind.u32.wrap w = tl w := wrap32 w
    have esz : IntKind.u32.wrap (tl w - hd w) = sz w := wrap32 _
    have e0 : IntKind.u32.wrap c.q = c.q := by rw [wrap32]; omega
    have hsz0 : 0 ≤ sz w := by unfold sz; omega
    rw [eh, et]
    rw [ringL, if_pos h, hwd]
    clear hw g0' b2' hcells hM f47 hj hj1 hw1 b6 b4 b5
    generalize hM0 : M1 ++ _ = M0
    have hK1 : Keep M1 M0 := by rw [← hM0]; exact Keep.app _ _
    have g0 := hK1.get g0
    have b2 := hK1.get b2
    have sl := sl.keep hK1
    have hmk : Keep m M0 := hk0.trans hK1
    clear hM0 hK1 hk0
    refine W_loop (RnI m M0 c p j st.cells w (.sl q oo st.cells.length cap)) (ringN c w) (by simp only [FUEL]; omega) ⟨0, .nils, _, _, _, _, rfl, rfl, by omega, Keep.refl _, own_nil⟩ ?_
    rintro k e mm ⟨i, r, y11, y12, y13, y14, rfl, rfl, hi, hk, hown⟩
    have hone := hown.val1
    simp only [AV.one] at hone
    have gm := hk.get g0
    have bm := hk.get b2
    by_cases hle : sz w ≤ c.q
    · have hn : (ringN c w : Int) = sz w := by unfold ringN; rw [if_pos hle]; omega
      by_cases hlt : (i : Int) < sz w
      · have e1 : IntKind.u32.wrap (hd w + i) = (hd w + i) % 4294967296 := wrap32 _
        have hm0 := Int.emod_nonneg (hd w + i) (b := 4294967296) (by omega)
        have hm1 := Int.emod_lt_of_pos (hd w + i) (b := 4294967296) (by omega)
        have hs := fun M : MM => slot_eqR M h.1 p hm0 hm1
        have hsb := slot_b h hm0
        obtain ⟨x, hx2⟩ : ∃ x, st.cells[(slotA c p ((hd w + i) % 4294967296)).toNat]? = some x := ⟨_, List.getElem?_eq_getElem (by omega)⟩
        obtain ⟨q2, oo2, cap2, ro2, L2, hv, d2, d3, d4, d5, d6⟩ := SU.get (sl.keep hk) hx2
        injection hv with v1 v2 v3 v4
        subst v1; subst v2; subst v4
        rw [bm] at d2
        injection d2 with d2; injection d2 with _ d2 d2'
        subst d2; subst d2'
        have hat : ringAt c p st.cells w i = IntKind.i64.wrap x := by unfold ringAt; rw [List.getD_eq_getElem?_getD, hx2]; rfl
        obtain ⟨r', m', happ, ho', hl', hpre⟩ := own_push (hown.more [Chunk.cells 6 false (cfC c), Chunk.cells 6 false (cfC c), Chunk.cells 7 false (cfC c ++ [AV.int .i64 p]), Chunk.cells 6 false (cfC c)]) (IntKind.i64.wrap x) (by rw [ringW_len]; omega) (by have := hk.1; simp only [List.length_append]; omega)
        rw [← hat, ← ringW_succ] at ho'
        have hk' : Keep M0 m' := by
          refine ⟨by have := hk.1; simp only [List.length_append] at hl'; omega, fun a ha => ?_⟩
          have := hk.1
          rw [hpre a (by simp only [List.length_append]; omega) (.inr ha), List.getElem?_append_left (by omega)]
          exact hk.2 a ha
        have ei : IntKind.u32.wrap ((i : Int) + 1) = (i : Int) + 1 := by rw [wrap32]; omega
        have lq : q < mm.length := (List.getElem?_eq_some_iff.1 bm).1
        have lm : m.length < mm.length := (List.getElem?_eq_some_iff.1 gm).1
        simp only [cfC, List.cons_append, List.nil_append, List.append_assoc, List.length_append, List.length_cons, List.length_nil, Nat.zero_add, Nat.reduceAdd] at hs happ
        simp (disch := first | assumption | omega | (simp only [List.length_cons, List.length_nil, List.length_set, List.length_append] <;> omega) | (simp only [get_mid, get_mid0, List.cons_append, List.append_assoc, List.getElem?_cons_zero, List.getElem?_cons_succ])) only [ek, ↓evW, ↓evQ, evB, evS, evL, List.map, AV.cells, List.all, AV.one, Bool.and_true, Bool.true_and, if_true, ↓thenQ_normal, ↓thenQ_exit, ↓thenQ_ret, ↓blockQ_normal, ↓blockQ_ret, ↓blockQ_exit, ↓CW_true, ↓CW_false, CW_true, CW_false, condT, condF, RQ_some, tupA_one, tupA_two, tupA_nil, Nat.reduceSub, Nat.reduceAdd, Nat.reduceMul, Nat.zero_add, Nat.add_zero, Nat.reduceLeDiff, Nat.reduceEqDiff, eqV, eqAll, fillA, and_self, and_true, true_and, Nat.le_refl, Bool.not_true, Bool.not_false, Bool.false_xor, Bool.true_xor, cond_true, cond_false, List.replicate, if_false, reduceIte, resAll, resA, ne_eq, decide_not, decide_true, decide_false, Int.reduceEq, Bool.not_true, Bool.not_false, not_true_eq_false, not_false_eq_true, cond_bool, cond_int, beq_self_eq_true, Int.reduceBEq, Bool.and_self, Bool.and_false, Bool.false_and, Bool.xor_false, Bool.xor_true, loadN_ldC, ldC_none, ldC_somes, stC_aggs, splice, storeN_stC, stC_int, stC_bool, stC_ptr, stC_nilp, stC_sl, stC_nils, getC_gcO, gcO_cells, W_draw_eq, ↓W_scope, ev_clear, evT, evF, evX, evM, ↓exitQ_normal, ↓exitQ_ret, ↓exitQ_exit, saA_self, saO_self, if_pos, if_neg, wrapI, get_concat, set_concat, Int.toNat_natCast, Int.toNat_zero, List.nil_append, Nat.mul_one, decide_eq_true, decide_eq_false, Int.reduceLE, Int.reduceLT, Int.reduceNeg, Bool.false_or, Bool.true_or, Bool.or_false, Bool.or_true, wrapU, Int.reduceAdd, Int.reduceSub, Int.reduceMul, List.append_assoc, List.length_append, get_mid, get_mid0, set_mid, set_mid0, List.length_set, List.length_cons, List.length_nil, List.cons_append, List.getElem?_append_left, List.set_append_left, get_at, get_at0, set_at, set_at0, List.getElem?_set_self, List.getElem?_set_ne, cfC, esz, e0, gm, a160, e1, hs, ev_len, hlen, bm, d6, evA, repeatL, List.flatten_cons, List.flatten_nil, happ, hone, ei]
        exact ⟨ringN c w - (i + 1), by omega, i + 1, r', _, _, _, _, rfl, rfl, by omega, hk', ho'⟩
      · have hie : i = ringN c w := by omega
        subst hie
        simp (disch := first | assumption | omega | (simp only [List.length_cons, List.length_nil, List.length_set, List.length_append] <;> omega) | (simp only [get_mid, get_mid0, List.cons_append, List.append_assoc, List.getElem?_cons_zero, List.getElem?_cons_succ])) only [ek, ↓evW, ↓evQ, evB, evS, evL, List.map, AV.cells, List.all, AV.one, Bool.and_true, Bool.true_and, if_true, ↓thenQ_normal, ↓thenQ_exit, ↓thenQ_ret, ↓blockQ_normal, ↓blockQ_ret, ↓blockQ_exit, ↓CW_true, ↓CW_false, CW_true, CW_false, condT, condF, RQ_some, tupA_one, tupA_two, tupA_nil, Nat.reduceSub, Nat.reduceAdd, Nat.reduceMul, Nat.zero_add, Nat.add_zero, Nat.reduceLeDiff, Nat.reduceEqDiff, eqV, eqAll, fillA, and_self, and_true, true_and, Nat.le_refl, Bool.not_true, Bool.not_false, Bool.false_xor, Bool.true_xor, cond_true, cond_false, List.replicate, if_false, reduceIte, resAll, resA, ne_eq, decide_not, decide_true, decide_false, Int.reduceEq, Bool.not_true, Bool.not_false, not_true_eq_false, not_false_eq_true, cond_bool, cond_int, beq_self_eq_true, Int.reduceBEq, Bool.and_self, Bool.and_false, Bool.false_and, Bool.xor_false, Bool.xor_true, loadN_ldC, ldC_none, ldC_somes, stC_aggs, splice, storeN_stC, stC_int, stC_bool, stC_ptr, stC_nilp, stC_sl, stC_nils, getC_gcO, gcO_cells, W_draw_eq, ↓W_scope, ev_clear, evT, evF, evX, evM, ↓exitQ_normal, ↓exitQ_ret, ↓exitQ_exit, saA_self, saO_self, if_pos, if_neg, wrapI, get_concat, set_concat, Int.toNat_natCast, Int.toNat_zero, List.nil_append, Nat.mul_one, decide_eq_true, decide_eq_false, Int.reduceLE, Int.reduceLT, Int.reduceNeg, Bool.false_or, Bool.true_or, Bool.or_false, Bool.or_true, wrapU, Int.reduceAdd, Int.reduceSub, Int.reduceMul, List.append_assoc, List.length_append, get_mid, get_mid0, set_mid, set_mid0, List.length_set, List.length_cons, List.length_nil, List.cons_append, List.getElem?_append_left, List.set_append_left, get_at, get_at0, set_at, set_at0, List.getElem?_set_self, List.getElem?_set_ne, cfC, esz, e0, gm]
        exact ⟨hmk.trans hk, (Own.si hown).1, (Own.si hown).2.elim .inl (fun ⟨q, o, n, cp, h1, h2⟩ => .inr ⟨q, o, n, cp, h1, by have := hmk.1; omega⟩), hown.nx, hown.base hmk.1⟩
    · have hn : ringN c w = 0 := if_neg hle
      have hi0 : i = 0 := by omega
      subst hi0
      have hpos : (0 : Int) < sz w := by omega
      simp (disch := first | assumption | omega | (simp only [List.length_cons, List.length_nil, List.length_set, List.length_append] <;> omega) | (simp only [get_mid, get_mid0, List.cons_append, List.append_assoc, List.getElem?_cons_zero, List.getElem?_cons_succ])) only [ek, ↓evW, ↓evQ, evB, evS, evL, List.map, AV.cells, List.all, AV.one, Bool.and_true, Bool.true_and, if_true, ↓thenQ_normal, ↓thenQ_exit, ↓thenQ_ret, ↓blockQ_normal, ↓blockQ_ret, ↓blockQ_exit, ↓CW_true, ↓CW_false, CW_true, CW_false, condT, condF, RQ_some, tupA_one, tupA_two, tupA_nil, Nat.reduceSub, Nat.reduceAdd, Nat.reduceMul, Nat.zero_add, Nat.add_zero, Nat.reduceLeDiff, Nat.reduceEqDiff, eqV, eqAll, fillA, and_self, and_true, true_and, Nat.le_refl, Bool.not_true, Bool.not_false, Bool.false_xor, Bool.true_xor, cond_true, cond_false, List.replicate, if_false, reduceIte, resAll, resA, ne_eq, decide_not, decide_true, decide_false, Int.reduceEq, Bool.not_true, Bool.not_false, not_true_eq_false, not_false_eq_true, cond_bool, cond_int, beq_self_eq_true, Int.reduceBEq, Bool.and_self, Bool.and_false, Bool.false_and, Bool.xor_false, Bool.xor_true, loadN_ldC, ldC_none, ldC_somes, stC_aggs, splice, storeN_stC, stC_int, stC_bool, stC_ptr, stC_nilp, stC_sl, stC_nils, getC_gcO, gcO_cells, W_draw_eq, ↓W_scope, ev_clear, evT, evF, evX, evM, ↓exitQ_normal, ↓exitQ_ret, ↓exitQ_exit, saA_self, saO_self, if_pos, if_neg, wrapI, get_concat, set_concat, Int.toNat_natCast, Int.toNat_zero, List.nil_append, Nat.mul_one, decide_eq_true, decide_eq_false, Int.reduceLE, Int.reduceLT, Int.reduceNeg, Bool.false_or, Bool.true_or, Bool.or_false, Bool.or_true, wrapU, Int.reduceAdd, Int.reduceSub, Int.reduceMul, List.append_assoc, List.length_append, get_mid, get_mid0, set_mid, set_mid0, List.length_set, List.length_cons, List.length_nil, List.cons_append, List.getElem?_append_left, List.set_append_left, get_at, get_at0, set_at, set_at0, List.getElem?_set_self, List.getElem?_set_ne, cfC, esz, e0, gm, Int.ofNat_zero]
      rw [hn]
      exact ⟨hmk.trans hk, (Own.si hown).1, (Own.si hown).2.elim .inl (fun ⟨q, o, n, cp, h1, h2⟩ => .inr ⟨q, o, n, cp, h1, by have := hmk.1; omega⟩), hown.nx, hown.base hmk.1⟩
  · have ha0 : addrA c p 0 = -1 := if_neg h
    simp (disch := first | assumption | omega | (simp only [List.length_cons, List.length_nil, List.length_set, List.length_append] <;> omega) | (simp only [get_mid, get_mid0, List.cons_append, List.append_assoc, List.getElem?_cons_zero, List.getElem?_cons_succ])) only [docs_Ring, ek, ↓evW, ↓evQ, evB, evS, evL, List.map, AV.cells, List.all, AV.one, Bool.and_true, Bool.true_and, if_true, ↓thenQ_normal, ↓thenQ_exit, ↓thenQ_ret, ↓blockQ_normal, ↓blockQ_ret, ↓blockQ_exit, ↓CW_true, ↓CW_false, CW_true, CW_false, condT, condF, RQ_some, tupA_one, tupA_two, tupA_nil, Nat.reduceSub, Nat.reduceAdd, Nat.reduceMul, Nat.zero_add, Nat.add_zero, Nat.reduceLeDiff, Nat.reduceEqDiff, eqV, eqAll, fillA, and_self, and_true, true_and, Nat.le_refl, Bool.not_true, Bool.not_false, Bool.false_xor, Bool.true_xor, cond_true, cond_false, List.replicate, if_false, reduceIte, resAll, resA, ne_eq, decide_not, decide_true, decide_false, Int.reduceEq, Bool.not_true, Bool.not_false, not_true_eq_false, not_false_eq_true, cond_bool, cond_int, beq_self_eq_true, Int.reduceBEq, Bool.and_self, Bool.and_false, Bool.false_and, Bool.xor_false, Bool.xor_true, loadN_ldC, ldC_none, ldC_somes, stC_aggs, splice, storeN_stC, stC_int, stC_bool, stC_ptr, stC_nilp, stC_sl, stC_nils, getC_gcO, gcO_cells, W_draw_eq, ↓W_scope, ev_clear, evT, evF, evX, evM, ↓exitQ_normal, ↓exitQ_ret, ↓exitQ_exit, saA_self, saO_self, if_pos, if_neg, wrapI, get_concat, set_concat, Int.toNat_natCast, Int.toNat_zero, List.nil_append, Nat.mul_one, decide_eq_true, decide_eq_false, Int.reduceLE, Int.reduceLT, Int.reduceNeg, Bool.false_or, Bool.true_or, Bool.or_false, Bool.or_true, wrapU, Int.reduceAdd, Int.reduceSub, Int.reduceMul, List.append_assoc, List.length_append, get_mid, get_mid0, set_mid, set_mid0, List.length_set, List.length_cons, List.length_nil, List.cons_append, List.getElem?_append_left, List.set_append_left, get_at, get_at0, set_at, set_at0, List.getElem?_set_self, List.getElem?_set_ne, cfC, a47, f47, ev_len, hlen, g0, g0', a156, hcells, a159, hw, ha0]
    rw [ringL, if_neg h]
    exact ⟨hk0.trans (Keep.app _ _), Sl.nil, .inl rfl, .inl rfl, own_nil⟩
end Go.Am.F10
end
section
namespace Go.Am.F10
open Go.Am.F06
def stC (c : Cf) (p : Int) : Cf := if thereP c p then c else zeroC
abbrev GT := GS × List Int × Int
def nextT (c : Cf) (p : Int) (t : GT) : GT := ((stepG c p t.2.1 t.1).1, (stepG c p t.2.1 t.1).2, opsG t.1 t.2.2)
inductive Ends (c : Cf) (p : Int) : GT → Nat → GT → Prop
  | done {t : GT} (h : t.1.a = 0) : Ends c p t 0 t
  | step {t f : GT} {k : Nat} (h : t.1.a ≠ 0) (hn : Ends c p (nextT c p t) k f) : Ends c p t (k + 1) f
def dW (w : Int) (i : Nat) : Int := pk ((hd w + i) % 4294967296) (tl w)
def dX (c : Cf) (p : Int) (xs : List Int) (i : Nat) : List Int := if i = 0 then xs else xs.set (wrdN c p) (dW (xs.getD (wrdN c p) 0) i)
theorem hd_pk {h t : Int} (h0 : 0 ≤ t) (h1 : t < 4294967296) : hd (pk h t) = h := by unfold hd pk; omega
theorem tl_pk {h t : Int} (h0 : 0 ≤ t) (h1 : t < 4294967296) : tl (pk h t) = t := by unfold tl pk; omega
theorem hd_dW (w : Int) (i : Nat) : hd (dW w i) = (hd w + i) % 4294967296 := hd_pk (tl_b w).1 (tl_b w).2
theorem tl_dW (w : Int) (i : Nat) : tl (dW w i) = tl w := tl_pk (tl_b w).1 (tl_b w).2
theorem dW_zero {w : Int} (h : W64 w) : dW w 0 = w := by
  have := hd_b h
  unfold dW; rw [show (hd w + ((0 : Nat) : Int)) % 4294967296 = hd w by omega]
  unfold pk hd tl; omega
theorem dW_gain (w : Int) (i : Nat) : gainW (dW w i) = dW w (i + 1) := by
  unfold gainW; rw [hd_dW, tl_dW]; unfold dW
  congr 1; omega
theorem dW_sz {w : Int} {i : Nat} (h : (i : Int) ≤ sz w) : sz (dW w i) = sz w - i := by
  unfold sz; rw [hd_dW, tl_dW]; unfold sz at h; omega
theorem dW_64 (w : Int) (i : Nat) : W64 (dW w i) := by
  have := tl_b w
  unfold dW pk W64; omega
theorem dX_word {c : Cf} {p : Int} {xs : List Int} (hx : OkL c xs) (h : thereP c p) (i : Nat) : (dX c p xs i).getD (wrdN c p) 0 = dW (xs.getD (wrdN c p) 0) i := by
  have hb := there_bounds h
  have ha := addr_b h (i := 0) (by omega) (by omega)
  have hl := hx.1
  unfold dX; split
  · rename_i h0; subst h0
    exact (dW_zero (getD_64 hx.2 _)).symm
  · rw [List.getD_eq_getElem?_getD, List.getElem?_set_self (by unfold wrdN; omega)]; rfl
theorem dX_slot {c : Cf} {p : Int} {xs : List Int} (h : thereP c p) (i : Nat) {k : Int} (hk : 0 ≤ k) : (dX c p xs i).getD (slotA c p k).toNat 0 = xs.getD (slotA c p k).toNat 0 := by
  have hb := there_bounds h
  have h0 := Int.emod_nonneg k (b := c.q) (by omega)
  have hm := mul_bounds hb.2.2.2.2.1 hb.2.2.2.2.2 (q := 6 + c.q) (by omega) (by omega)
  unfold dX; split
  · rfl
  · rw [List.getD_eq_getElem?_getD, List.getElem?_set_ne, ← List.getD_eq_getElem?_getD]
    unfold wrdN slotA; rw [if_pos h.1]; unfold addrA; rw [if_pos h, if_pos h]; omega
theorem dX_next {c : Cf} {p : Int} {xs : List Int} (i : Nat) : (dX c p xs i).set (wrdN c p) (dW (xs.getD (wrdN c p) 0) (i + 1)) = dX c p xs (i + 1) := by
  rw [dX, dX, if_neg (Nat.succ_ne_zero i)]
  split
  · rfl
  · rw [List.set_set]
end Go.Am.F10
end
section
namespace Go.Am.F10
open Go.Am.F06
theorem Ends.next {c : Cf} {p : Int} {t f : GT} {k : Nat} (h : Ends c p t k f) :
    ((stepG c p t.2.1 t.1).1.a = 0 → ((stepG c p t.2.1 t.1).1, (stepG c p t.2.1 t.1).2, opsG t.1 t.2.2) = f) ∧
    ((stepG c p t.2.1 t.1).1.a ≠ 0 → ∃ k2, k2 < k ∧ Ends c p ((stepG c p t.2.1 t.1).1, (stepG c p t.2.1 t.1).2, opsG t.1 t.2.2) k2 f) := by
  cases h with
  | done h0 =>
    rw [stepG_zero h0]
    refine ⟨fun _ => ?_, fun hh => absurd h0 hh⟩
    show (t.1, t.2.1, opsG t.1 t.2.2) = t
    unfold opsG; rw [if_pos h0]
  | @step _ _ k hne hn =>
    refine ⟨fun h0 => ?_, fun _ => ⟨k, by omega, hn⟩⟩
    cases hn with
    | done _ => rfl
    | step h1 _ => exact absurd h0 h1
theorem ringL_there {c : Cf} {p : Int} {xs : List Int} (h : thereP c p) : ringL c p xs = ringW c p xs (xs.getD (wrdN c p) 0) (ringN c (xs.getD (wrdN c p) 0)) := if_pos h
theorem ringL_not {c : Cf} {p : Int} {xs : List Int} (h : ¬ thereP c p) : ringL c p xs = [] := if_neg h
theorem ringL_le (c : Cf) (p : Int) (xs : List Int) : (ringL c p xs).length ≤ 64 := by
  by_cases h : thereP c p
  · rw [ringL_there h, ringW_len]; exact ringN_le h _
  · rw [ringL_not h]; simp
theorem ringW_get (c : Cf) (p : Int) (xs : List Int) (w : Int) {i n : Nat} (h : i < n) : (ringW c p xs w n)[i]? = some (ringAt c p xs w i) := by
  rw [ringW, List.getElem?_map, List.getElem?_range h]; rfl
end Go.Am.F10
end
section
namespace Go.Am.F10
open Go.Am.F06
section
variable {X : Type}
theorem own_push2 {m0 m : Mem X} {xs : List Int} {v : AV} (h : Own m0 m 1 xs.length (iC xs) v) (x : Int) (hl : xs.length ≤ 100000) (hm : m0.length ≤ m.length) :
    ∃ v' m', appendA 1 8 v (.sl m.length 0 1 (some 1)) (m ++ [.cells 1 false [.int .i64 x]]) = some (v', m') ∧ Own m0 m' 1 (xs ++ [x]).length (iC (xs ++ [x])) v' ∧ m.length ≤ m'.length ∧ (∀ i, i < m.length → (∀ ys, m[i]? ≠ some (.cells 1 false (iC ys))) ∨ i < m0.length → m'[i]? = m[i]?) := by
  have hx : (m ++ [Chunk.cells 1 false [.int .i64 x]])[m.length]? = some (.cells 1 false [.int .i64 x]) := get_concat
  rw [iC_app, List.length_append]
  rcases h with ⟨h1, h2, rfl⟩ | ⟨q, rfl, hq, h2, h3⟩
  · have hxs : xs = [] := List.length_eq_zero_iff.1 h1
    subst hxs
    refine ⟨_, _, append_nils hx rfl rfl (by decide), .inr ⟨_, rfl, get_concat, by simp <;> omega, by simp⟩, by simp <;> omega, fun i hi _ => ?_⟩
    rw [List.getElem?_append_left (by simp <;> omega), List.getElem?_append_left hi]
  · have hq' : (m ++ [Chunk.cells 1 false [.int .i64 x]])[q]? = some (.cells 1 false (iC xs)) := by rw [List.getElem?_append_left h3]; exact hq
    refine ⟨_, _, append_none hq' (by rw [iC_len]; omega) hx rfl (iC_one _) rfl (by omega) (by omega), .inr ⟨_, rfl, ?_, by simp <;> omega, by simp⟩, by simp <;> omega, fun i hi ho => ?_⟩
    · have : (m ++ [Chunk.cells 1 false [AV.int .i64 x]]).length = ((m ++ [Chunk.cells 1 false [AV.int .i64 x]]).set q .dead).length := by simp
      rw [this, get_concat]
    · have hqi : q ≠ i := by
        rintro rfl
        rcases ho with ho | ho
        · exact ho _ hq
        · omega
      rw [List.getElem?_append_left (by simp <;> omega), List.getElem?_set_ne hqi, List.getElem?_append_left hi]
end
end Go.Am.F10
end
section
namespace Go.Am.F10
open Go.Am.F06
theorem _root_.Go.Am.F06.KeepB.x {X : Type} {j : Nat} {m m' : Mem X} (h : KeepB j m m') : KeepX j j m m' := ⟨h.1, fun a ha h1 _ => h.2 a ha h1⟩
end Go.Am.F10
end
section
namespace Go.Am.F10
open Go.Am.F06
theorem ringN_pos {c : Cf} {w : Int} (h : 0 < ringN c w) : sz w ≤ c.q ∧ (ringN c w : Int) = sz w := by
  have hs : 0 ≤ sz w := by unfold sz; omega
  unfold ringN at h ⊢
  split at h
  · rename_i hh; rw [if_pos hh]; exact ⟨hh, by omega⟩
  · omega
theorem dW_inj {w : Int} {d e : Nat} (hd : d ≤ 100) (he : e ≤ 100) (h : dW w d = dW w e) : d = e := by
  have h1 := hd_dW w d
  have h2 := hd_dW w e
  rw [h, h2] at h1
  omega
structure OI (c : Cf) (p : Int) (xs : List Int) (i d g : Nat) (s : GS) : Prop where
  dl : d ≤ (ringL c p xs).length
  gl : g ≤ d
  t0 : 0 ≤ s.tries
  t1 : s.tries ≤ g
  st : s.a = 0 ∨ ((s.a = 1 ∨ (s.a = 2 ∨ s.a = 3) ∧ ∃ e, e ≤ d ∧ e < (ringL c p xs).length ∧ s.w = dW (xs.getD (wrdN c p) 0) e ∧ (s.a = 3 → s.seen = (ringL c p xs).getD e 0) ∧ s.tries + (if e < d then 1 else 0) ≤ g) ∧ (i : Int) = 3 * s.tries + s.a - 1)
theorem OI.lt {c : Cf} {p : Int} {xs : List Int} {i d g : Nat} {s : GS} (h : OI c p xs i d g s) (ha : s.a ≠ 0) : i < 200 := by
  have hle := ringL_le c p xs
  obtain ⟨h1, h2, h3, h4, h5⟩ := h
  rcases h5 with h5 | ⟨h5, h6⟩
  · exact absurd h5 ha
  · have : s.a ≤ 3 := by
      rcases h5 with h5 | ⟨h5, _⟩ <;> omega
    omega
theorem OI.step {c : Cf} {p : Int} {xs : List Int} {i d g : Nat} {s : GS} (h : OI c p xs i d g s) (hx : OkL c xs) (hp : thereP c p) (ha : s.a ≠ 0) :
    ((stepG c p (dX c p xs d) s).1.a ≠ 0 ∧ (stepG c p (dX c p xs d) s).2 = dX c p xs d ∧ OI c p xs (i + 1) d g (stepG c p (dX c p xs d) s).1) ∨
    ((stepG c p (dX c p xs d) s).1.a = 0 ∧ (stepG c p (dX c p xs d) s).1.has = s.has ∧ (stepG c p (dX c p xs d) s).2 = dX c p xs d ∧ d = (ringL c p xs).length ∧ OI c p xs (i + 1) d g (stepG c p (dX c p xs d) s).1) ∨
    ((stepG c p (dX c p xs d) s).1.a = 0 ∧ (stepG c p (dX c p xs d) s).1.has = true ∧ d < (ringL c p xs).length ∧ (stepG c p (dX c p xs d) s).1.seen = (ringL c p xs).getD d 0 ∧ (stepG c p (dX c p xs d) s).2 = dX c p xs (d + 1) ∧ OI c p xs (i + 1) (d + 1) g (stepG c p (dX c p xs d) s).1) := by
  have hle := ringL_le c p xs
  have hw := dX_word hx hp d
  have hw64 := getD_64 hx.2 (wrdN c p)
  have hlen : (ringL c p xs).length = ringN c (xs.getD (wrdN c p) 0) := by rw [ringL_there hp, ringW_len]
  have hget : ∀ e, e < (ringL c p xs).length → (ringL c p xs).getD e 0 = ringAt c p xs (xs.getD (wrdN c p) 0) e := by
    intro e he
    rw [List.getD_eq_getElem?_getD, ringL_there hp, ringW_get _ _ _ _ (by omega)]; rfl
  have hnx := dX_next (c := c) (p := p) (xs := xs) d
  obtain ⟨h1, h2, h3, h4, h5⟩ := h
  obtain ⟨a, w, seen, has, tries⟩ := s
  simp only at ha h3 h4 h5
  generalize hw0 : xs.getD (wrdN c p) 0 = w0 at hw hw64 hlen hget h5 hnx
  rcases h5 with h5 | ⟨h5 | ⟨h5 | h5, e, e1, e2, e3, e4, e5⟩, h6⟩
  · exact absurd h5 ha
  · subst h5
    have hs : stepG c p (dX c p xs d) ⟨1, w, seen, has, tries⟩ = (⟨if sz (dW w0 d) = 0 ∨ c.q < sz (dW w0 d) then 0 else 2, dW w0 d, seen, has, tries⟩, dX c p xs d) := by
      simp only [stepG, hw, if_true]
    rw [hs]
    by_cases hz : sz (dW w0 d) = 0 ∨ c.q < sz (dW w0 d)
    · rw [if_pos hz]
      refine .inr (.inl ⟨rfl, rfl, rfl, ?_, h1, h2, h3, h4, .inl rfl⟩)
      rcases Nat.eq_zero_or_pos (ringN c w0) with h0 | h0
      · omega
      · obtain ⟨q1, q2⟩ := ringN_pos h0
        have := dW_sz (w := w0) (i := d) (by omega)
        omega
    · rw [if_neg hz]
      refine .inl ⟨by simp, rfl, h1, h2, h3, h4, .inr ⟨.inr ⟨.inl rfl, d, Nat.le_refl _, ?_, by rw [hw0], fun hh => by simp at hh, by rw [if_neg (Nat.lt_irrefl _)]; simp only; omega⟩, by simp only; omega⟩⟩
      by_cases hq : sz w0 ≤ c.q
      · have h0 : ringN c w0 = (sz w0).toNat := if_pos hq
        have hs0 : 0 ≤ sz w0 := by unfold sz; omega
        have := dW_sz (w := w0) (i := d) (by omega)
        omega
      · have h0 : ringN c w0 = 0 := if_neg hq
        have hd0 : d = 0 := by omega
        subst hd0
        rw [dW_zero hw64] at hz
        omega
  · subst h5
    have hhd : 0 ≤ hd (dW w0 e) := by rw [hd_dW]; omega
    have hsl := dX_slot (xs := xs) hp d hhd
    rw [hd_dW] at hsl
    have hs : stepG c p (dX c p xs d) ⟨2, w, seen, has, tries⟩ = (⟨3, w, ringAt c p xs w0 e, has, tries⟩, dX c p xs d) := by
      simp only [stepG, if_neg (show ¬ ((2 : Int) = 1) by decide), if_true, e3, sltN, hd_dW, hsl, ringAt]
    rw [hs]
    refine .inl ⟨by simp, rfl, h1, h2, h3, h4, .inr ⟨.inr ⟨.inr rfl, e, e1, e2, by rw [hw0]; exact e3, fun _ => (hget e e2).symm, e5⟩, by simp only; omega⟩⟩
  · subst h5
    try simp only at e3 e4
    by_cases heq : dW w0 d = w
    · have hde : d = e := dW_inj (w := w0) (by omega) (by omega) (by rw [heq, e3])
      have hs : stepG c p (dX c p xs d) ⟨3, w, seen, has, tries⟩ = (⟨0, w, seen, true, tries⟩, dX c p xs (d + 1)) := by
        rw [hde] at hw hnx
        simp only [stepG, if_neg (show ¬ ((3 : Int) = 1) by decide), if_neg (show ¬ ((3 : Int) = 2) by decide), if_true, hde, hw, e3, dW_gain, hnx]
      rw [hs]
      refine .inr (.inr ⟨rfl, rfl, by omega, ?_, rfl, by omega, by omega, h3, h4, .inl rfl⟩)
      rw [hde]; exact e4 trivial
    · have hs : stepG c p (dX c p xs d) ⟨3, w, seen, has, tries⟩ = (⟨1, w, seen, has, tries + 1⟩, dX c p xs d) := by
        have ew : IntKind.i64.wrap (tries + 1) = tries + 1 := wrapI (by omega) (by omega)
        simp only [stepG, if_neg (show ¬ ((3 : Int) = 1) by decide), if_neg (show ¬ ((3 : Int) = 2) by decide), if_true, hw, if_neg heq, ew]
      have hne : e < d := by
        rcases Nat.lt_or_ge e d with h | h
        · exact h
        · exact absurd (by rw [e3]; congr 1; omega) heq
      rw [if_pos hne] at e5
      rw [hs]
      exact .inl ⟨by simp, rfl, h1, h2, by simp only; omega, by simp only at e5 ⊢; omega, .inr ⟨.inl rfl, by simp only; omega⟩⟩
end Go.Am.F10
end
section
namespace Go.Am.F10
open Go.Am.F06
section
variable {X : Type}
def q3 (k : Int) : Int := if k = 0 then 2 else if k = 1 then 4 else 8
theorem shl3 {k : Int} (h0 : 0 ≤ k) (h1 : k < 3) : shfI .shl .i64 2 k = some (.int .i64 (q3 k)) := by
  rcases (show k = 0 ∨ k = 1 ∨ k = 2 by omega) with rfl | rfl | rfl <;> rfl
def madeC (c : Cf) : Cf := ⟨1 + c.n % 4, q3 (c.q % 3), 1 + c.g % 20, 1 + c.n % 4 + 1 + c.m % 3, 2 + c.t % 6, c.s % 3⟩
theorem made_right (c : Cf) : rightP (madeC c) := by
  have e1 := Int.emod_nonneg c.n (b := 4) (by omega)
  have e2 := Int.emod_lt_of_pos c.n (b := 4) (by omega)
  have e3 := Int.emod_nonneg c.g (b := 20) (by omega)
  have e4 := Int.emod_lt_of_pos c.g (b := 20) (by omega)
  have e5 := Int.emod_nonneg c.m (b := 3) (by omega)
  have e6 := Int.emod_lt_of_pos c.m (b := 3) (by omega)
  have e7 := Int.emod_nonneg c.t (b := 6) (by omega)
  have e8 := Int.emod_lt_of_pos c.t (b := 6) (by omega)
  have e9 := Int.emod_nonneg c.s (b := 3) (by omega)
  have e10 := Int.emod_lt_of_pos c.s (b := 3) (by omega)
  refine ⟨?_, ?_, ?_, ?_, ?_, ?_⟩ <;> simp only [madeC]
  · omega
  · unfold q3 roomP; split
    · simp
    · split <;> simp
  all_goals omega
set_option maxHeartbeats 4000000 in
theorem made_eq (m : Mem X) (c : Cf) : c_docs_Made [.agg (cfC c)] m = some (.agg (cfC (madeC c)), m ++ [.cells 6 false (cfC c), .cells 6 false (cfC (madeC c))]) := by
  have a87 : assoc [(87, c_kit_Pick (X := X))] 87 = some c_kit_Pick := rfl
  have he : c_docs_Made (X := X) = amFunc [(87, c_kit_Pick)] docs_Made := rfl
  rw [he]
  generalize [(87, c_kit_Pick (X := X))] = G at a87 ⊢
  have p4 := fun m : Mem X => pick_eq m c.n 4 (by omega) (by omega)
  have p3 := fun m : Mem X => pick_eq m c.q 3 (by omega) (by omega)
  have p20 := fun m : Mem X => pick_eq m c.g 20 (by omega) (by omega)
  have p3m := fun m : Mem X => pick_eq m c.m 3 (by omega) (by omega)
  have p6 := fun m : Mem X => pick_eq m c.t 6 (by omega) (by omega)
  have p3s := fun m : Mem X => pick_eq m c.s 3 (by omega) (by omega)
  have e1 := Int.emod_nonneg c.n (b := 4) (by omega)
  have e2 := Int.emod_lt_of_pos c.n (b := 4) (by omega)
  have e3 := Int.emod_nonneg c.g (b := 20) (by omega)
  have e4 := Int.emod_lt_of_pos c.g (b := 20) (by omega)
  have e5 := Int.emod_nonneg c.m (b := 3) (by omega)
  have e6 := Int.emod_lt_of_pos c.m (b := 3) (by omega)
  have e7 := Int.emod_nonneg c.t (b := 6) (by omega)
  have e8 := Int.emod_lt_of_pos c.t (b := 6) (by omega)
  have e9 := Int.emod_nonneg c.q (b := 3) (by omega)
  have e10 := Int.emod_lt_of_pos c.q (b := 3) (by omega)
  have hsh := shl3 e9 e10
  refine Fn_eq (Fn_of rfl ?_)
  simp (disch := first | assumption | omega | (simp only [List.length_cons, List.length_nil, List.length_set, List.length_append] <;> omega) | (simp only [get_mid, get_mid0, List.cons_append, List.append_assoc, List.getElem?_cons_zero, List.getElem?_cons_succ])) only [docs_Made, ek, ↓evW, ↓evQ, evB, evS, evL, List.map, AV.cells, List.all, AV.one, Bool.and_true, Bool.true_and, if_true, ↓thenQ_normal, ↓thenQ_exit, ↓thenQ_ret, ↓blockQ_normal, ↓blockQ_ret, ↓blockQ_exit, ↓CW_true, ↓CW_false, CW_true, CW_false, condT, condF, RQ_some, tupA_one, tupA_two, tupA_nil, Nat.reduceSub, Nat.reduceAdd, Nat.reduceMul, Nat.zero_add, Nat.add_zero, Nat.reduceLeDiff, Nat.reduceEqDiff, eqV, eqAll, fillA, and_self, and_true, true_and, Nat.le_refl, Bool.not_true, Bool.not_false, Bool.false_xor, Bool.true_xor, cond_true, cond_false, List.replicate, if_false, reduceIte, resAll, resA, ne_eq, decide_not, decide_true, decide_false, Int.reduceEq, Bool.not_true, Bool.not_false, not_true_eq_false, not_false_eq_true, cond_bool, cond_int, beq_self_eq_true, Int.reduceBEq, Bool.and_self, Bool.and_false, Bool.false_and, Bool.xor_false, Bool.xor_true, loadN_ldC, ldC_none, ldC_somes, stC_aggs, splice, storeN_stC, stC_int, stC_bool, stC_ptr, stC_nilp, stC_sl, stC_nils, getC_gcO, gcO_cells, W_draw_eq, ↓W_scope, ev_clear, evT, evF, evX, evM, ↓exitQ_normal, ↓exitQ_ret, ↓exitQ_exit, saA_self, saO_self, if_pos, if_neg, wrapI, get_concat, set_concat, Int.toNat_natCast, Int.toNat_zero, List.nil_append, Nat.mul_one, decide_eq_true, decide_eq_false, Int.reduceLE, Int.reduceLT, Int.reduceNeg, Bool.false_or, Bool.true_or, Bool.or_false, Bool.or_true, wrapU, Int.reduceAdd, Int.reduceSub, Int.reduceMul, List.append_assoc, List.length_append, get_mid, get_mid0, set_mid, set_mid0, List.length_set, List.length_cons, List.length_nil, List.cons_append, List.getElem?_append_left, List.set_append_left, get_at, get_at0, set_at, set_at0, List.getElem?_set_self, List.getElem?_set_ne, cfC, madeC, a87, p4, p3, p20, p3m, p6, p3s, hsh]
def dropA (v : AV) (k : Nat) : AV := match v with | .sl q o n none => .sl q (o + k) (n - k) none | v => v
theorem _root_.Go.Am.F10.Nx.put {m : Mem X} {v : AV} (h : Nx m v) {b : Nat} (hb : ∀ ro L, m[b]? ≠ some (.cells 1 ro L)) (C : Chunk X) : Nx (m.set b C) v := by
  rcases h with h | ⟨q, o, n, l, h1, h2⟩
  · exact .inl h
  · refine .inr ⟨q, o, n, l, h1, ?_⟩
    rw [List.getElem?_set_ne (fun hq => hb _ _ (by rw [hq]; exact h2))]; exact h2
theorem _root_.Go.Am.F10.Nx.keep {m m' : Mem X} {v : AV} (h : Nx m v) (k : Keep m m') : Nx m' v := by
  rcases h with h | ⟨q, o, n, l, h1, h2⟩
  · exact .inl h
  · exact .inr ⟨q, o, n, l, h1, k.get h2⟩
theorem si_drop {m : Mem X} {wr : Bool} {xs : List Int} {v : AV} (h : SI m wr xs v) (hn : Nx m v) {k : Nat} (hk : k ≤ xs.length) : sliceA m 1 v (some k) none none = some (dropA v k) ∧ SI m wr (xs.drop k) (dropA v k) := by
  rcases hn with rfl | ⟨q, o, n, l, rfl, hq⟩
  · have h0 : xs.length = 0 := by
      rcases h.2 with ⟨_, h⟩ | ⟨_, _, _, h, _⟩
      · exact h
      · cases h
    have hx : xs = [] := List.length_eq_zero_iff.1 h0
    subst hx
    have : k = 0 := by simpa using hk
    subst this
    exact ⟨rfl, Sl.nil⟩
  · have hnl : n = xs.length := by have := h.len; simp only [lenA, Option.some.injEq] at this; exact this
    subst hnl
    refine ⟨?_, ?_, .inr ⟨q, o + k, none, by rw [List.length_drop]; rfl, fun h0 => ?_⟩⟩
    · simp only [sliceA, getC_gcO, hq, gcO_cells, Option.getD_none, Option.getD_some]
      rw [if_pos ⟨trivial, by omega, by omega⟩, Nat.mul_one]; rfl
    · rw [iC_len]; omega
    · rw [List.length_drop] at h0 ⊢
      obtain ⟨q', o', cap', ro, L, hv, h2, h3, h4, h5⟩ := h.at (by omega)
      injection hv with v1 v2 v3 v4; subst v1; subst v2; subst v4
      refine ⟨ro, L, h2, ?_, by omega, h5⟩
      rw [iC, List.map_drop, ← iC, ← h3, List.drop_take, List.drop_drop]
      congr 1; omega
end
end Go.Am.F10
end
section
namespace Go.Am.F10
open Go.Am.F06
end Go.Am.F10
end
section
namespace Go.Am.F10
open Go.Am.F06
end Go.Am.F10
end
section
namespace Go.Am.F10
open Go.Am.F06
end Go.Am.F10
end
section
namespace Go.Am.F10
open Go.Am.F06
def Rw (m : MM) (q n sz : Nat) (l : List AV) (v : AV) : Prop := (n = 0 ∧ l = [] ∧ v = .nils) ∨ (0 < n ∧ v = .sl q 0 n none ∧ m[q]? = some (.cells sz false l))
theorem Rw.nil {m : MM} {q sz : Nat} : Rw m q 0 sz [] .nils := .inl ⟨rfl, rfl, rfl⟩
theorem Rw.sl {m : MM} {q n sz : Nat} {l : List AV} {v : AV} (h : Rw m q n sz l v) (hl : l.length = n * sz) : Sl m false sz n l v := by
  rcases h with ⟨rfl, rfl, rfl⟩ | ⟨_, rfl, h⟩
  · exact Sl.nil
  · exact ⟨hl, .inr ⟨q, 0, none, rfl, fun _ => ⟨false, l, h, by rw [List.drop_zero, ← hl, List.take_length], by omega, fun h => by cases h⟩⟩⟩
theorem Rw.lt {m : MM} {q n sz : Nat} {l : List AV} {v : AV} (h : Rw m q n sz l v) (hn : 0 < n) : q < m.length := by
  rcases h with ⟨rfl, _⟩ | ⟨_, _, h⟩
  · omega
  · exact (List.getElem?_eq_some_iff.1 h).1
theorem Rw.keep {m m' : MM} {q n sz : Nat} {l : List AV} {v : AV} (h : Rw m q n sz l v) (hq : 0 < n → m'[q]? = m[q]?) : Rw m' q n sz l v := by
  rcases h with h | ⟨h1, h2, h3⟩
  · exact .inl h
  · exact .inr ⟨h1, h2, by rw [hq h1]; exact h3⟩
theorem Rw.one {m : MM} {q n sz : Nat} {l : List AV} {v : AV} (h : Rw m q n sz l v) : v.one = true := by
  rcases h with ⟨_, _, rfl⟩ | ⟨_, rfl, _⟩ <;> rfl
end Go.Am.F10
end
section
namespace Go.Am.F09
variable {X : Type}
def c_conf_within : AFun X := amFunc [] conf_within
def c_conf_Config_Right : AFun X := amFunc [(176, c_conf_within)] conf_Config_Right
def c_conf_Config_Cells : AFun X := amFunc [(157, c_conf_Config_Right)] conf_Config_Cells
def c_cell_New : AFun X := amFunc [] cell_New
def c_conf_own_at : AFun X := amFunc [(157, c_conf_Config_Right), (176, c_conf_within)] conf_own_at
def c_conf_Config_Slot : AFun X := amFunc [(157, c_conf_Config_Right), (177, c_conf_own_at)] conf_Config_Slot
def c_cell_Mem_there : AFun X := amFunc [] cell_Mem_there
def c_cell_counts_note : AFun X := amFunc [] cell_counts_note
def c_cell_Mem_Store_1 : AFun X := amFunc [] cell_Mem_Store_1
def c_cell_Mem_CAS_1 : AFun X := amFunc [] cell_Mem_CAS_1
def c_cell_Mem_Load_1 : AFun X := amFunc [] cell_Mem_Load_1
def c_put_NewLay_1 : AFun X := amFunc [] put_NewLay_1
def c_cell_Mem_access : AFun X := amFunc [(56, c_cell_Mem_there), (71, c_cell_counts_note), (49, c_cell_Mem_Store_1), (51, c_cell_Mem_CAS_1), (52, c_cell_Mem_Load_1), (213, c_put_NewLay_1)] cell_Mem_access
def c_cell_Mem_Store : AFun X := amFunc [(50, c_cell_Mem_access), (49, c_cell_Mem_Store_1)] cell_Mem_Store
def c_conf_Config_Word : AFun X := amFunc [(177, c_conf_own_at)] conf_Config_Word
def c_law09_ring : AFun X := amFunc [(156, c_conf_Config_Cells), (21, c_cell_New), (160, c_conf_Config_Slot), (22, c_cell_Mem_Store), (159, c_conf_Config_Word)] law09_ring
def c_put_from : AFun X := amFunc [(159, c_conf_Config_Word)] put_from
def c_put_New : AFun X := amFunc [(206, c_put_from)] put_New
def c_put_Put_Done : AFun X := amFunc [] put_Put_Done
def c_cell_Mem_Load : AFun X := amFunc [(50, c_cell_Mem_access), (52, c_cell_Mem_Load_1)] cell_Mem_Load
def c_word_Tail : AFun X := amFunc [] word_Tail
def c_word_Head : AFun X := amFunc [] word_Head
def c_word_Len : AFun X := amFunc [(182, c_word_Tail), (179, c_word_Head)] word_Len
def c_put_ring_load : AFun X := amFunc [(159, c_conf_Config_Word), (24, c_cell_Mem_Load), (178, c_word_Len)] put_ring_load
def c_put_Put_look : AFun X := amFunc [(219, c_put_ring_load)] put_Put_look
def c_put_ring_slot : AFun X := amFunc [(182, c_word_Tail), (160, c_conf_Config_Slot)] put_ring_slot
def c_put_Put_lay : AFun X := amFunc [(210, c_put_ring_slot), (22, c_cell_Mem_Store)] put_Put_lay
def c_word_Pack : AFun X := amFunc [] word_Pack
def c_word_Grow : AFun X := amFunc [(179, c_word_Head), (182, c_word_Tail), (183, c_word_Pack)] word_Grow
def c_cell_Mem_CAS : AFun X := amFunc [(50, c_cell_Mem_access), (51, c_cell_Mem_CAS_1)] cell_Mem_CAS
def c_put_ring_change : AFun X := amFunc [(159, c_conf_Config_Word), (23, c_cell_Mem_CAS)] put_ring_change
def c_put_Put_swing : AFun X := amFunc [(211, c_word_Grow), (212, c_put_ring_change)] put_Put_swing
def c_put_Put_half : AFun X := amFunc [] put_Put_half
def c_put_Put_take : AFun X := amFunc [(220, c_put_Put_half), (210, c_put_ring_slot), (24, c_cell_Mem_Load)] put_Put_take
def c_word_Drop : AFun X := amFunc [(179, c_word_Head), (182, c_word_Tail), (183, c_word_Pack)] word_Drop
def c_put_Put_cut : AFun X := amFunc [(220, c_put_Put_half), (221, c_word_Drop), (212, c_put_ring_change)] put_Put_cut
def c_put_ways : AFun X := amFunc [(214, c_put_Put_look), (215, c_put_Put_lay), (216, c_put_Put_swing), (217, c_put_Put_take), (218, c_put_Put_cut)] put_ways
def c_put_Put_Step : AFun X := amFunc [(191, c_put_Put_Done), (207, c_put_ways), (49, c_cell_Mem_Store_1), (51, c_cell_Mem_CAS_1), (52, c_cell_Mem_Load_1), (213, c_put_NewLay_1), (214, c_put_Put_look), (215, c_put_Put_lay), (216, c_put_Put_swing), (217, c_put_Put_take), (218, c_put_Put_cut)] put_Put_Step
def c_slices_Clone_int : AFun X := amFunc [] slices_Clone_int
def c_put_Put_Over : AFun X := amFunc [(208, c_slices_Clone_int)] put_Put_Over
def c_kit_SameInts : AFun X := amFunc [] kit_SameInts
def c_slices_Clone_uint64 : AFun X := amFunc [] slices_Clone_uint64
def c_cell_Mem_All : AFun X := amFunc [(61, c_slices_Clone_uint64)] cell_Mem_All
def c_docs_Ring : AFun X := amFunc [(47, c_cell_Mem_All), (156, c_conf_Config_Cells), (159, c_conf_Config_Word), (160, c_conf_Config_Slot)] docs_Ring
def c_docs_Thief : AFun X := amFunc [(136, c_docs_Ring), (159, c_conf_Config_Word), (24, c_cell_Mem_Load), (22, c_cell_Mem_Store)] docs_Thief
def c_law09_works : AFun X := amFunc [(205, c_law09_ring), (185, c_put_New), (186, c_put_Put_Step), (187, c_put_Put_Over), (84, c_kit_SameInts), (136, c_docs_Ring), (139, c_docs_Thief)] law09_works
def c_kit_Pick : AFun X := amFunc [] kit_Pick
def c_docs_Made : AFun X := amFunc [(87, c_kit_Pick)] docs_Made
def c_cell_Mem_Ops : AFun X := amFunc [] cell_Mem_Ops
def c_put_Lay_Done : AFun X := amFunc [] put_Lay_Done
end Go.Am.F09
end
section
namespace Go.Am.F09
variable {X : Type}
def worksG : List AV → Option AV
  | [] => some (.bool true)
  | _ => none
theorem works_run : ((c_law09_works (X := X)) [] []).map (·.1) = some (.bool true) := by kernel_rfl
theorem works_lift : Lift (c_law09_works (X := X)) (pureF worksG) := lift_pure (by
  intro args r h
  unfold worksG at h; split at h
  · injection h with h; subst h
    have := works_run (X := X)
    cases h1 : c_law09_works (X := X) [] [] with
    | none => rw [h1] at this; cases this
    | some x =>
      rw [h1] at this
      simp only [Option.map_some, Option.some.injEq] at this
      exact ⟨rfl, rfl, x.2, by rw [← this]⟩
  · cases h)
end Go.Am.F09
end
section
namespace Go.Am.F09
variable {X : Type}
theorem get_at {α : Type} {l k : List α} {n i : Nat} (h : l.length = n) : (l ++ k)[n + i]? = k[i]? := by rw [← h]; exact get_mid
theorem get_at0 {α : Type} {l k : List α} {n : Nat} (h : l.length = n) : (l ++ k)[n]? = k[0]? := by rw [← h]; exact get_mid0
theorem set_at {α : Type} {l k : List α} {n i : Nat} {y : α} (h : l.length = n) : (l ++ k).set (n + i) y = l ++ k.set i y := by rw [← h]; exact set_mid
theorem set_at0 {α : Type} {l k : List α} {n : Nat} {y : α} (h : l.length = n) : (l ++ k).set n y = l ++ k.set 0 y := by rw [← h]; exact set_mid0
theorem pick_run {G : List (Nat × AFun X)} {m : Mem X} (i n : Int) (hn : 0 < n) (hn2 : n ≤ 100000) : Fn G kit_Pick [.int .i64 i, .int .i64 n] m (fun r m' => r = .int .i64 (i % n) ∧ m' = m) := by
  refine Fn_of rfl ?_
  have h1 := Int.emod_nonneg i (b := n) (by omega)
  have h2 := Int.emod_lt_of_pos i hn
  have ht : (IntKind.i64.wrap (i.tmod n + n)).tmod n = i % n := by
    have h3 : -n < i.tmod n ∧ i.tmod n < n := by
      refine ⟨?_, Int.tmod_lt_of_pos i hn⟩
      have := Int.tmod_lt_of_pos (-i) hn
      rw [Int.neg_tmod] at this
      omega
    rw [wrapI (by omega) (by omega), Int.tmod_eq_emod_of_nonneg (by omega)]
    have hd : i.tmod n + n = i + n * (1 - i.tdiv n) := by
      have := Int.mul_tdiv_add_tmod i n
      rw [Int.mul_sub, Int.mul_one]; omega
    rw [hd, Int.add_mul_emod_self_left]
  simp (disch := first | assumption | omega | (simp only [List.length_cons, List.length_nil, List.length_set, List.length_append] <;> omega) | (simp only [get_mid, get_mid0, List.cons_append, List.append_assoc, List.getElem?_cons_zero, List.getElem?_cons_succ])) only [kit_Pick, ek, ↓evW, ↓evQ, evB, evS, evL, List.map, AV.cells, List.all, AV.one, Bool.and_true, Bool.true_and, if_true, ↓thenQ_normal, ↓thenQ_exit, ↓thenQ_ret, ↓blockQ_normal, ↓blockQ_ret, ↓blockQ_exit, ↓CW_true, ↓CW_false, CW_true, CW_false, condT, condF, RQ_some, tupA_one, tupA_two, tupA_nil, Nat.reduceSub, Nat.reduceAdd, Nat.reduceMul, Nat.zero_add, Nat.add_zero, Nat.reduceLeDiff, Nat.reduceEqDiff, eqV, eqAll, fillA, and_self, and_true, true_and, Nat.le_refl, Bool.not_true, Bool.not_false, Bool.false_xor, Bool.true_xor, cond_true, cond_false, List.replicate, if_false, reduceIte, resAll, resA, ne_eq, decide_not, decide_true, decide_false, Int.reduceEq, Bool.not_true, Bool.not_false, not_true_eq_false, not_false_eq_true, cond_bool, cond_int, beq_self_eq_true, Int.reduceBEq, Bool.and_self, Bool.and_false, Bool.false_and, Bool.xor_false, Bool.xor_true, loadN_ldC, ldC_none, ldC_somes, stC_aggs, splice, storeN_stC, stC_int, stC_bool, stC_ptr, stC_nilp, stC_sl, stC_nils, getC_gcO, gcO_cells, W_draw_eq, ↓W_scope, ev_clear, evT, evF, evX, evM, ↓exitQ_normal, ↓exitQ_ret, ↓exitQ_exit, saA_self, saO_self, if_pos, if_neg, wrapI, get_concat, set_concat, Int.toNat_natCast, Int.toNat_zero, List.nil_append, Nat.mul_one, decide_eq_true, decide_eq_false, Int.reduceLE, Int.reduceLT, Int.reduceNeg, Bool.false_or, Bool.true_or, Bool.or_false, Bool.or_true, wrapU, Int.reduceAdd, Int.reduceSub, Int.reduceMul, List.append_assoc, List.length_append, get_mid, get_mid0, set_mid, set_mid0, List.length_set, List.length_cons, List.length_nil, List.cons_append, List.getElem?_append_left, List.set_append_left, get_at, get_at0, set_at, set_at0, List.getElem?_set_self, List.getElem?_set_ne, ht]
theorem pick_eq (m : Mem X) (i n : Int) (hn : 0 < n) (hn2 : n ≤ 100000) : c_kit_Pick [.int .i64 i, .int .i64 n] m = some (.int .i64 (i % n), m) := Fn_eq (pick_run i n hn hn2)
end Go.Am.F09
end
section
namespace Go.Am.F09
open Go.Am.F06 Go.Am.F10
section
variable {X : Type}
def growW (w n : Int) : Int := pk (hd w) ((tl w + n) % 4294967296)
def dropW (w n : Int) : Int := pk (hd w) ((tl w - n) % 4294967296)
theorem grow_64 {w : Int} (h : W64 w) (n : Int) : W64 (growW w n) := by
  have := hd_b h
  unfold growW pk W64; omega
theorem drop_64 {w : Int} (h : W64 w) (n : Int) : W64 (dropW w n) := by
  have := hd_b h
  unfold dropW pk W64; omega
theorem grow_eq (m : Mem X) {w n : Int} (h : W64 w) : c_word_Grow [.int .u64 w, .int .u32 n] m = some (.int .u64 (growW w n), m) := by
  have a179 : assoc [(179, F10.c_word_Head (X := X)), (182, F10.c_word_Tail), (183, F10.c_word_Pack)] 179 = some F10.c_word_Head := rfl
  have a182 : assoc [(179, F10.c_word_Head (X := X)), (182, F10.c_word_Tail), (183, F10.c_word_Pack)] 182 = some F10.c_word_Tail := rfl
  have a183 : assoc [(179, F10.c_word_Head (X := X)), (182, F10.c_word_Tail), (183, F10.c_word_Pack)] 183 = some F10.c_word_Pack := rfl
  have he : c_word_Grow (X := X) = amFunc [(179, F10.c_word_Head), (182, F10.c_word_Tail), (183, F10.c_word_Pack)] word_Grow := rfl
  rw [he]
  generalize [(179, F10.c_word_Head (X := X)), (182, F10.c_word_Tail), (183, F10.c_word_Pack)] = G at a179 a182 a183 ⊢
  have hh := hd_b h
  have h1 := head_eq m h
  have h2 := tail_eq m w
  have hw : IntKind.u32.wrap (tl w + n) = (tl w + n) % 4294967296 := wrap32 _
  have h3 := pack_eq m (h := hd w) (t := (tl w + n) % 4294967296) hh.1 hh.2 (by omega) (by omega)
  refine Fn_eq (Fn_of rfl ?_)
  simp (disch := first | assumption | omega | (simp only [List.length_cons, List.length_nil, List.length_set, List.length_append] <;> omega) | (simp only [get_mid, get_mid0, List.cons_append, List.append_assoc, List.getElem?_cons_zero, List.getElem?_cons_succ])) only [word_Grow, ek, ↓evW, ↓evQ, evB, evS, evL, List.map, AV.cells, List.all, AV.one, Bool.and_true, Bool.true_and, if_true, ↓thenQ_normal, ↓thenQ_exit, ↓thenQ_ret, ↓blockQ_normal, ↓blockQ_ret, ↓blockQ_exit, ↓CW_true, ↓CW_false, CW_true, CW_false, condT, condF, RQ_some, tupA_one, tupA_two, tupA_nil, Nat.reduceSub, Nat.reduceAdd, Nat.reduceMul, Nat.zero_add, Nat.add_zero, Nat.reduceLeDiff, Nat.reduceEqDiff, eqV, eqAll, fillA, and_self, and_true, true_and, Nat.le_refl, Bool.not_true, Bool.not_false, Bool.false_xor, Bool.true_xor, cond_true, cond_false, List.replicate, if_false, reduceIte, resAll, resA, ne_eq, decide_not, decide_true, decide_false, Int.reduceEq, Bool.not_true, Bool.not_false, not_true_eq_false, not_false_eq_true, cond_bool, cond_int, beq_self_eq_true, Int.reduceBEq, Bool.and_self, Bool.and_false, Bool.false_and, Bool.xor_false, Bool.xor_true, loadN_ldC, ldC_none, ldC_somes, stC_aggs, splice, storeN_stC, stC_int, stC_bool, stC_ptr, stC_nilp, stC_sl, stC_nils, getC_gcO, gcO_cells, W_draw_eq, ↓W_scope, ev_clear, evT, evF, evX, evM, ↓exitQ_normal, ↓exitQ_ret, ↓exitQ_exit, saA_self, saO_self, if_pos, if_neg, wrapI, get_concat, set_concat, Int.toNat_natCast, Int.toNat_zero, List.nil_append, Nat.mul_one, decide_eq_true, decide_eq_false, Int.reduceLE, Int.reduceLT, Int.reduceNeg, Bool.false_or, Bool.true_or, Bool.or_false, Bool.or_true, wrapU, Int.reduceAdd, Int.reduceSub, Int.reduceMul, List.append_assoc, List.length_append, get_mid, get_mid0, set_mid, set_mid0, List.length_set, List.length_cons, List.length_nil, List.cons_append, List.getElem?_append_left, List.set_append_left, get_at, get_at0, set_at, set_at0, List.getElem?_set_self, List.getElem?_set_ne, a179, a182, a183, h1, h2, hw, h3, growW]
def rgC (c : Cf) (p a w k : Int) (T : List AV) : List AV := cfC c ++ (.int .i64 p :: .int .i64 a :: .int .u64 w :: .int .u32 k :: T)
def pslA (c : Cf) (p w i : Int) : Int := slotA c p ((tl w + i) % 4294967296)
theorem psl_b {c : Cf} {p w i : Int} (h : thereP c p) : 0 ≤ pslA c p w i ∧ pslA c p w i < cellsN c := slot_b h (Int.emod_nonneg _ (by omega))
theorem slot_eq {m : Mem X} {xj z : Nat} {c : Cf} {p a w k i : Int} {T : List AV} (hx : m[xj]? = some (.cells z false (rgC c p a w k T))) (hr : rightP c) : c_put_ring_slot [.ptr xj 0, .int .i64 i] m = some (.int .i64 (pslA c p w i), m ++ [.cells 6 false (cfC c), .cells 6 false (cfC c), .cells 7 false (cfC c ++ [.int .i64 p]), .cells 6 false (cfC c)]) := by
  have a182 : assoc [(182, F10.c_word_Tail (X := X)), (160, F10.c_conf_Config_Slot)] 182 = some F10.c_word_Tail := rfl
  have a160 : assoc [(182, F10.c_word_Tail (X := X)), (160, F10.c_conf_Config_Slot)] 160 = some F10.c_conf_Config_Slot := rfl
  have he : c_put_ring_slot (X := X) = amFunc [(182, F10.c_word_Tail), (160, F10.c_conf_Config_Slot)] put_ring_slot := rfl
  rw [he]
  generalize [(182, F10.c_word_Tail (X := X)), (160, F10.c_conf_Config_Slot)] = G at a182 a160 ⊢
  have h2 := tail_eq m w
  have hw : IntKind.u32.wrap (tl w + IntKind.u32.wrap i) = (tl w + i) % 4294967296 := by rw [wrap32, wrap32]; omega
  have hs := slot_eqR m hr p (i := (tl w + i) % 4294967296) (by omega) (by omega)
  have hp : slotA c p ((tl w + i) % 4294967296) = pslA c p w i := rfl
  simp only [rgC, cfC, List.cons_append, List.nil_append] at hx hs
  refine Fn_eq (Fn_of rfl ?_)
  simp (disch := first | assumption | omega | (simp only [List.length_cons, List.length_nil, List.length_set, List.length_append] <;> omega) | (simp only [get_mid, get_mid0, List.cons_append, List.append_assoc, List.getElem?_cons_zero, List.getElem?_cons_succ])) only [put_ring_slot, ek, ↓evW, ↓evQ, evB, evS, evL, List.map, AV.cells, List.all, AV.one, Bool.and_true, Bool.true_and, if_true, ↓thenQ_normal, ↓thenQ_exit, ↓thenQ_ret, ↓blockQ_normal, ↓blockQ_ret, ↓blockQ_exit, ↓CW_true, ↓CW_false, CW_true, CW_false, condT, condF, RQ_some, tupA_one, tupA_two, tupA_nil, Nat.reduceSub, Nat.reduceAdd, Nat.reduceMul, Nat.zero_add, Nat.add_zero, Nat.reduceLeDiff, Nat.reduceEqDiff, eqV, eqAll, fillA, and_self, and_true, true_and, Nat.le_refl, Bool.not_true, Bool.not_false, Bool.false_xor, Bool.true_xor, cond_true, cond_false, List.replicate, if_false, reduceIte, resAll, resA, ne_eq, decide_not, decide_true, decide_false, Int.reduceEq, Bool.not_true, Bool.not_false, not_true_eq_false, not_false_eq_true, cond_bool, cond_int, beq_self_eq_true, Int.reduceBEq, Bool.and_self, Bool.and_false, Bool.false_and, Bool.xor_false, Bool.xor_true, loadN_ldC, ldC_none, ldC_somes, stC_aggs, splice, storeN_stC, stC_int, stC_bool, stC_ptr, stC_nilp, stC_sl, stC_nils, getC_gcO, gcO_cells, W_draw_eq, ↓W_scope, ev_clear, evT, evF, evX, evM, ↓exitQ_normal, ↓exitQ_ret, ↓exitQ_exit, saA_self, saO_self, if_pos, if_neg, wrapI, get_concat, set_concat, Int.toNat_natCast, Int.toNat_zero, List.nil_append, Nat.mul_one, decide_eq_true, decide_eq_false, Int.reduceLE, Int.reduceLT, Int.reduceNeg, Bool.false_or, Bool.true_or, Bool.or_false, Bool.or_true, wrapU, Int.reduceAdd, Int.reduceSub, Int.reduceMul, List.append_assoc, List.length_append, get_mid, get_mid0, set_mid, set_mid0, List.length_set, List.length_cons, List.length_nil, List.cons_append, List.getElem?_append_left, List.set_append_left, get_at, get_at0, set_at, set_at0, List.getElem?_set_self, List.getElem?_set_ne, cfC, hx, a182, h2, hw, a160, hs, hp]
end
def Grl : List (Nat × AFun Ob) := [(159, F10.c_conf_Config_Word), (24, memF loadS), (178, F10.c_word_Len)]
def RlP (m : MM) (xj j z : Nat) (c : Cf) (p a : Int) (T : List AV) (xs : List Int) (o : Int) (r : AV) (m' : MM) : Prop := r = .int .u32 (sz (xs.getD (wrdN c p) 0)) ∧ KeepX xj j m m' ∧ m'[xj]? = some (.cells z false (rgC c p a (xs.getD (wrdN c p) 0) 0 T)) ∧ ∃ st', m'[j]? = some (.abs (.mem st')) ∧ RelM xs o st'
set_option maxHeartbeats 8000000 in
theorem rload_run {m : MM} {c : Cf} {p a w k o : Int} {T : List AV} {xs : List Int} {xj j z : Nat} {st : MemSt} (hx : m[xj]? = some (.cells z false (rgC c p a w k T))) (hj : m[j]? = some (.abs (.mem st))) (hr : RelM xs o st) (hO : OkL c xs) (hp : thereP c p) :
    Fn Grl put_ring_load [.ptr xj 0, .ptr j 0] m (RlP m xj j z c p a T xs (IntKind.u64.wrap (o + 1))) := by
  have a159 : assoc Grl 159 = some F10.c_conf_Config_Word := rfl
  have a24 : assoc Grl 24 = some (memF loadS) := rfl
  have a178 : assoc Grl 178 = some F10.c_word_Len := rfl
  generalize Grl = G at a159 a24 a178 ⊢
  have hij : xj ≠ j := fun h => by rw [h, hj] at hx; cases hx
  have lx : xj < m.length := (List.getElem?_eq_some_iff.1 hx).1
  have lj : j < m.length := (List.getElem?_eq_some_iff.1 hj).1
  have hxl := hO.1
  have hcn := cellsN_le c
  have hb := there_bounds hp
  have ha0 := addr_b hp (i := 0) (by omega) (by omega)
  have hthr : thr xs (addrA c p 0) := ⟨by omega, by omega⟩
  have hwt : (addrA c p 0).toNat = wrdN c p := rfl
  have hg := getD_64 hO.2 (wrdN c p)
  obtain ⟨st', r', _, f24, _⟩ := hr.loadE hthr
  rw [hwt] at f24
  generalize hw' : xs.getD (wrdN c p) 0 = w' at hg f24
  have f24' := fun K => f24 m K j hj
  have hwr := fun m : MM => word_run (m := m) c p
  have hz := fun m : MM => len_eq m hg
  simp only [rgC, cfC, List.cons_append, List.nil_append] at hx hwr
  refine Fn_of rfl ?_
  simp (disch := first | assumption | omega | (simp only [List.length_cons, List.length_nil, List.length_set, List.length_append] <;> omega) | (simp only [get_mid, get_mid0, List.cons_append, List.append_assoc, List.getElem?_cons_zero, List.getElem?_cons_succ])) only [put_ring_load, ek, ↓evW, ↓evQ, evB, evS, evL, List.map, AV.cells, List.all, AV.one, Bool.and_true, Bool.true_and, if_true, ↓thenQ_normal, ↓thenQ_exit, ↓thenQ_ret, ↓blockQ_normal, ↓blockQ_ret, ↓blockQ_exit, ↓CW_true, ↓CW_false, CW_true, CW_false, condT, condF, RQ_some, tupA_one, tupA_two, tupA_nil, Nat.reduceSub, Nat.reduceAdd, Nat.reduceMul, Nat.zero_add, Nat.add_zero, Nat.reduceLeDiff, Nat.reduceEqDiff, eqV, eqAll, fillA, and_self, and_true, true_and, Nat.le_refl, Bool.not_true, Bool.not_false, Bool.false_xor, Bool.true_xor, cond_true, cond_false, List.replicate, if_false, reduceIte, resAll, resA, ne_eq, decide_not, decide_true, decide_false, Int.reduceEq, Bool.not_true, Bool.not_false, not_true_eq_false, not_false_eq_true, cond_bool, cond_int, beq_self_eq_true, Int.reduceBEq, Bool.and_self, Bool.and_false, Bool.false_and, Bool.xor_false, Bool.xor_true, loadN_ldC, ldC_none, ldC_somes, stC_aggs, splice, storeN_stC, stC_int, stC_bool, stC_ptr, stC_nilp, stC_sl, stC_nils, getC_gcO, gcO_cells, W_draw_eq, ↓W_scope, ev_clear, evT, evF, evX, evM, ↓exitQ_normal, ↓exitQ_ret, ↓exitQ_exit, saA_self, saO_self, if_pos, if_neg, wrapI, get_concat, set_concat, Int.toNat_natCast, Int.toNat_zero, List.nil_append, Nat.mul_one, decide_eq_true, decide_eq_false, Int.reduceLE, Int.reduceLT, Int.reduceNeg, Bool.false_or, Bool.true_or, Bool.or_false, Bool.or_true, wrapU, Int.reduceAdd, Int.reduceSub, Int.reduceMul, List.append_assoc, List.length_append, get_mid, get_mid0, set_mid, set_mid0, List.length_set, List.length_cons, List.length_nil, List.cons_append, List.getElem?_append_left, List.set_append_left, get_at, get_at0, set_at, set_at0, List.getElem?_set_self, List.getElem?_set_ne, cfC, hx, a159, hwr, a24, f24', a178, hz, List.set_set]
  unfold RlP
  rw [hw']
  refine ⟨rfl, ?_, ?_, st', ?_, r'⟩
  · refine ⟨by simp, fun a ha h1 h2 => ?_⟩
    rw [List.getElem?_append_left (by simpa using ha), List.getElem?_set_ne (fun h => h1 h.symm), List.getElem?_set_ne (fun h => h2 h.symm)]
  · rw [List.getElem?_append_left (by simpa using lx), List.getElem?_set_self (by simpa using lx)]; rfl
  · rw [List.getElem?_append_left (by simpa using lj), List.getElem?_set_ne hij, List.getElem?_set_self lj]
def Gch : List (Nat × AFun Ob) := [(159, F10.c_conf_Config_Word), (23, memF casS)]
def ChP (m : MM) (xj j z : Nat) (c : Cf) (p w k : Int) (T : List AV) (xs : List Int) (next o : Int) (r : AV) (m' : MM) : Prop := r = .bool (decide (xs.getD (wrdN c p) 0 = w)) ∧ KeepX xj j m m' ∧ m'[xj]? = some (.cells z false (rgC c p (if xs.getD (wrdN c p) 0 = w then 0 else 1) w k T)) ∧ ∃ st', m'[j]? = some (.abs (.mem st')) ∧ RelM (if xs.getD (wrdN c p) 0 = w then xs.set (wrdN c p) next else xs) o st'
set_option maxHeartbeats 8000000 in
theorem change_run {m : MM} {c : Cf} {p a w k o next : Int} {T : List AV} {xs : List Int} {xj j z : Nat} {st : MemSt} (hx : m[xj]? = some (.cells z false (rgC c p a w k T))) (hj : m[j]? = some (.abs (.mem st))) (hr : RelM xs o st) (hO : OkL c xs) (hp : thereP c p) :
    Fn Gch put_ring_change [.ptr xj 0, .ptr j 0, .int .u64 next] m (ChP m xj j z c p w k T xs next (IntKind.u64.wrap (o + 1))) := by
  have a159 : assoc Gch 159 = some F10.c_conf_Config_Word := rfl
  have a23 : assoc Gch 23 = some (memF casS) := rfl
  generalize Gch = G at a159 a23 ⊢
  have hij : xj ≠ j := fun h => by rw [h, hj] at hx; cases hx
  have lx : xj < m.length := (List.getElem?_eq_some_iff.1 hx).1
  have lj : j < m.length := (List.getElem?_eq_some_iff.1 hj).1
  have hxl := hO.1
  have hcn := cellsN_le c
  have hb := there_bounds hp
  have ha0 := addr_b hp (i := 0) (by omega) (by omega)
  have hthr : thr xs (addrA c p 0) := ⟨by omega, by omega⟩
  have hwt : (addrA c p 0).toNat = wrdN c p := rfl
  obtain ⟨st', r', _, f23, _⟩ := hr.casE hthr w next
  rw [hwt] at f23 r'
  have f23' := fun K => f23 m K j hj
  have hwr := fun m : MM => word_run (m := m) c p
  simp only [rgC, cfC, List.cons_append, List.nil_append] at hx hwr
  refine Fn_of rfl ?_
  by_cases heq : xs.getD (wrdN c p) 0 = w
  · have hd : decide (xs.getD (wrdN c p) 0 = w) = true := decide_eq_true heq
    simp only [hd] at f23'
    simp (disch := first | assumption | omega | (simp only [List.length_cons, List.length_nil, List.length_set, List.length_append] <;> omega) | (simp only [get_mid, get_mid0, List.cons_append, List.append_assoc, List.getElem?_cons_zero, List.getElem?_cons_succ])) only [put_ring_change, ek, ↓evW, ↓evQ, evB, evS, evL, List.map, AV.cells, List.all, AV.one, Bool.and_true, Bool.true_and, if_true, ↓thenQ_normal, ↓thenQ_exit, ↓thenQ_ret, ↓blockQ_normal, ↓blockQ_ret, ↓blockQ_exit, ↓CW_true, ↓CW_false, CW_true, CW_false, condT, condF, RQ_some, tupA_one, tupA_two, tupA_nil, Nat.reduceSub, Nat.reduceAdd, Nat.reduceMul, Nat.zero_add, Nat.add_zero, Nat.reduceLeDiff, Nat.reduceEqDiff, eqV, eqAll, fillA, and_self, and_true, true_and, Nat.le_refl, Bool.not_true, Bool.not_false, Bool.false_xor, Bool.true_xor, cond_true, cond_false, List.replicate, if_false, reduceIte, resAll, resA, ne_eq, decide_not, decide_true, decide_false, Int.reduceEq, Bool.not_true, Bool.not_false, not_true_eq_false, not_false_eq_true, cond_bool, cond_int, beq_self_eq_true, Int.reduceBEq, Bool.and_self, Bool.and_false, Bool.false_and, Bool.xor_false, Bool.xor_true, loadN_ldC, ldC_none, ldC_somes, stC_aggs, splice, storeN_stC, stC_int, stC_bool, stC_ptr, stC_nilp, stC_sl, stC_nils, getC_gcO, gcO_cells, W_draw_eq, ↓W_scope, ev_clear, evT, evF, evX, evM, ↓exitQ_normal, ↓exitQ_ret, ↓exitQ_exit, saA_self, saO_self, if_pos, if_neg, wrapI, get_concat, set_concat, Int.toNat_natCast, Int.toNat_zero, List.nil_append, Nat.mul_one, decide_eq_true, decide_eq_false, Int.reduceLE, Int.reduceLT, Int.reduceNeg, Bool.false_or, Bool.true_or, Bool.or_false, Bool.or_true, wrapU, Int.reduceAdd, Int.reduceSub, Int.reduceMul, List.append_assoc, List.length_append, get_mid, get_mid0, set_mid, set_mid0, List.length_set, List.length_cons, List.length_nil, List.cons_append, List.getElem?_append_left, List.set_append_left, get_at, get_at0, set_at, set_at0, List.getElem?_set_self, List.getElem?_set_ne, cfC, hx, a159, hwr, a23, f23', List.set_set]
    unfold ChP
    rw [if_pos heq, if_pos heq, hd]
    rw [if_pos heq] at r'
    refine ⟨rfl, ?_, ?_, st', ?_, r'⟩
    · refine ⟨by simp, fun a ha h1 h2 => ?_⟩
      rw [List.getElem?_append_left (by simpa using ha), List.getElem?_set_ne (fun h => h1 h.symm), List.getElem?_set_ne (fun h => h2 h.symm)]
    · rw [List.getElem?_append_left (by simpa using lx), List.getElem?_set_self (by simpa using lx)]; rfl
    · rw [List.getElem?_append_left (by simpa using lj), List.getElem?_set_ne hij, List.getElem?_set_self lj]
  · have hd : decide (xs.getD (wrdN c p) 0 = w) = false := decide_eq_false heq
    simp only [hd] at f23'
    simp (disch := first | assumption | omega | (simp only [List.length_cons, List.length_nil, List.length_set, List.length_append] <;> omega) | (simp only [get_mid, get_mid0, List.cons_append, List.append_assoc, List.getElem?_cons_zero, List.getElem?_cons_succ])) only [put_ring_change, ek, ↓evW, ↓evQ, evB, evS, evL, List.map, AV.cells, List.all, AV.one, Bool.and_true, Bool.true_and, if_true, ↓thenQ_normal, ↓thenQ_exit, ↓thenQ_ret, ↓blockQ_normal, ↓blockQ_ret, ↓blockQ_exit, ↓CW_true, ↓CW_false, CW_true, CW_false, condT, condF, RQ_some, tupA_one, tupA_two, tupA_nil, Nat.reduceSub, Nat.reduceAdd, Nat.reduceMul, Nat.zero_add, Nat.add_zero, Nat.reduceLeDiff, Nat.reduceEqDiff, eqV, eqAll, fillA, and_self, and_true, true_and, Nat.le_refl, Bool.not_true, Bool.not_false, Bool.false_xor, Bool.true_xor, cond_true, cond_false, List.replicate, if_false, reduceIte, resAll, resA, ne_eq, decide_not, decide_true, decide_false, Int.reduceEq, Bool.not_true, Bool.not_false, not_true_eq_false, not_false_eq_true, cond_bool, cond_int, beq_self_eq_true, Int.reduceBEq, Bool.and_self, Bool.and_false, Bool.false_and, Bool.xor_false, Bool.xor_true, loadN_ldC, ldC_none, ldC_somes, stC_aggs, splice, storeN_stC, stC_int, stC_bool, stC_ptr, stC_nilp, stC_sl, stC_nils, getC_gcO, gcO_cells, W_draw_eq, ↓W_scope, ev_clear, evT, evF, evX, evM, ↓exitQ_normal, ↓exitQ_ret, ↓exitQ_exit, saA_self, saO_self, if_pos, if_neg, wrapI, get_concat, set_concat, Int.toNat_natCast, Int.toNat_zero, List.nil_append, Nat.mul_one, decide_eq_true, decide_eq_false, Int.reduceLE, Int.reduceLT, Int.reduceNeg, Bool.false_or, Bool.true_or, Bool.or_false, Bool.or_true, wrapU, Int.reduceAdd, Int.reduceSub, Int.reduceMul, List.append_assoc, List.length_append, get_mid, get_mid0, set_mid, set_mid0, List.length_set, List.length_cons, List.length_nil, List.cons_append, List.getElem?_append_left, List.set_append_left, get_at, get_at0, set_at, set_at0, List.getElem?_set_self, List.getElem?_set_ne, cfC, hx, a159, hwr, a23, f23', List.set_set]
    unfold ChP
    rw [if_neg heq, if_neg heq, hd]
    rw [if_neg heq] at r'
    refine ⟨rfl, ?_, ?_, st', ?_, r'⟩
    · refine ⟨by simp, fun a ha h1 h2 => ?_⟩
      rw [List.getElem?_append_left (by simpa using ha), List.getElem?_set_ne (fun h => h1 h.symm), List.getElem?_set_ne (fun h => h2 h.symm)]
    · rw [List.getElem?_append_left (by simpa using lx), List.getElem?_set_self (by simpa using lx)]; rfl
    · rw [List.getElem?_append_left (by simpa using lj), List.getElem?_set_ne hij, List.getElem?_set_self lj]
end Go.Am.F09
end
section
namespace Go.Am.F09
open Go.Am.F06 Go.Am.F10
structure PS where
  a : Int
  w : Int
  tk : List Int
  hs : List Int
def putC (c : Cf) (p g : Int) (s : PS) (tv hv : AV) : List AV := rgC c p s.a s.w 0 [.int .i64 g, tv, hv]
def stepP (c : Cf) (p g : Int) (xs : List Int) (s : PS) : PS × List Int :=
  if s.a = 1 then ({ s with w := xs.getD (wrdN c p) 0, tk := [], a := if c.q ≤ sz (xs.getD (wrdN c p) 0) then 4 else 2 }, xs)
  else if s.a = 2 then ({ s with a := 3 }, xs.set (pslA c p s.w 0).toNat (IntKind.u64.wrap g))
  else if s.a = 3 then (if xs.getD (wrdN c p) 0 = s.w then ({ s with a := 0, hs := [] }, xs.set (wrdN c p) (growW s.w 1)) else ({ s with a := 1 }, xs))
  else if s.a = 4 then ({ s with tk := s.tk ++ [IntKind.i64.wrap (xs.getD (pslA c p s.w (s.tk.length - c.q / 2)).toNat 0)], a := if (s.tk.length : Int) + 1 = c.q / 2 then 5 else 4 }, xs)
  else if s.a = 5 then (if xs.getD (wrdN c p) 0 = s.w then ({ s with a := 0, hs := s.tk ++ [g] }, xs.set (wrdN c p) (dropW s.w (c.q / 2))) else ({ s with a := 1 }, xs))
  else (s, xs)
structure POk (c : Cf) (p : Int) (s : PS) : Prop where
  w : W64 s.w
  a : s.a = 0 ∨ (thereP c p ∧ (s.a = 1 ∨ s.a = 2 ∨ s.a = 3 ∨ (s.a = 4 ∧ (s.tk.length : Int) < c.q / 2) ∨ (s.a = 5 ∧ (s.tk.length : Int) = c.q / 2)))
  h : s.hs.length ≤ 100
def KeepT (xj j qt : Nat) (m m' : MM) : Prop := m.length ≤ m'.length ∧ ∀ i, i < m.length → i ≠ xj → i ≠ j → i ≠ qt → m'[i]? = m[i]?
theorem KeepX.t {xj j qt : Nat} {m m' : MM} (h : KeepX xj j m m') : KeepT xj j qt m m' := ⟨h.1, fun i hi h1 h2 _ => h.2 i hi h1 h2⟩
structure PM (m : MM) (xj : Nat) (c : Cf) (p g : Int) (s : PS) (qt : Nat) (tv hv : AV) : Prop where
  get : m[xj]? = some (.cells 13 false (putC c p g s tv hv))
  t : s.a = 4 ∨ s.a = 5 → Rw m qt s.tk.length 1 (iC s.tk) tv
  one : tv.one = true
  h : SI m false s.hs hv
  off : Off qt hv
theorem si_box {m : MM} {wr : Bool} {es : List Int} {v : AV} (h : SI m wr es v) {b : Nat} (hb : ∀ ro L, m[b]? ≠ some (.cells 1 ro L)) : Off b v := by
  intro q o n c hv h0 hq
  rcases h.2 with ⟨h1, _⟩ | ⟨q2, o2, c2, h1, h2⟩
  · rw [h1] at hv; cases hv
  · rw [h1] at hv; injection hv with e1 e2 e3 e4; subst e1; subst e3; subst hq
    obtain ⟨ro, L, h3, _⟩ := h2 h0
    exact hb ro L h3
theorem _root_.Go.Am.Sl.stay {m m' : MM} {wr : Bool} {sz n : Nat} {l : List AV} {v : AV} (h : Sl m wr sz n l v) (hk : ∀ q o cap, v = .sl q o n cap → 0 < n → m'[q]? = m[q]?) : Sl m' wr sz n l v := by
  refine ⟨h.1, ?_⟩
  rcases h.2 with h1 | ⟨q, o, cap, h1, h2⟩
  · exact .inl h1
  · refine .inr ⟨q, o, cap, h1, fun h0 => ?_⟩
    obtain ⟨ro, L, h3, h4⟩ := h2 h0
    exact ⟨ro, L, by rw [hk q o cap h1 h0]; exact h3, h4⟩
theorem _root_.Go.Am.Sl.lt {m : MM} {wr : Bool} {sz n : Nat} {l : List AV} {v : AV} (h : Sl m wr sz n l v) {q o : Nat} {cap : Option Nat} (hv : v = .sl q o n cap) (h0 : 0 < n) : q < m.length ∧ ∃ ro L, m[q]? = some (.cells sz ro L) := by
  rcases h.2 with ⟨h1, _⟩ | ⟨q2, o2, c2, h1, h2⟩
  · rw [h1] at hv; cases hv
  · rw [h1] at hv; injection hv with e1 e2 e3 e4; subst e1
    obtain ⟨ro, L, h3, _⟩ := h2 h0
    exact ⟨(List.getElem?_eq_some_iff.1 h3).1, ro, L, h3⟩
theorem KeepT.si {xj j qt : Nat} {m m' : MM} (h : KeepT xj j qt m m') (hxj : ∀ ro L, m[xj]? ≠ some (.cells 1 ro L)) (hj : ∀ ro L, m[j]? ≠ some (.cells 1 ro L)) {wr : Bool} {n : Nat} {l : List AV} {v : AV} (hs : Sl m wr 1 n l v) (ho : Off qt v) : Sl m' wr 1 n l v := hs.stay fun q o cap hv h0 => by
  obtain ⟨h1, ro, L, h2⟩ := hs.lt hv h0
  exact h.2 q h1 (fun hq => hxj ro L (by rw [← hq]; exact h2)) (fun hq => hj ro L (by rw [← hq]; exact h2)) (ho q o n cap hv h0)
end Go.Am.F09
end
section
namespace Go.Am.F09
open Go.Am.F06 Go.Am.F10
end Go.Am.F09
end
section
namespace Go.Am.F09
open Go.Am.F06 Go.Am.F10
def PsP (m : MM) (c : Cf) (p g : Int) (xj j qt : Nat) (hv : AV) (x : PS × List Int) (o : Int) (r : AV) (m' : MM) : Prop := r = .bool (decide (x.1.a = 0)) ∧ KeepT xj j qt m m' ∧ ∃ tv' hv' qt', PM m' xj c p g x.1 qt' tv' hv' ∧ (qt' = xj ∨ (m.length ≤ qt' ∧ qt' < m'.length) ∨ qt' = qt) ∧ (hv' = hv ∨ Fr m.length hv') ∧ ∃ st', m'[j]? = some (.abs (.mem st')) ∧ RelM x.2 o st'
theorem stepP_zero {c : Cf} {p g : Int} {s : PS} (h : s.a = 0) (xs : List Int) : stepP c p g xs s = (s, xs) := by
  unfold stepP; rw [if_neg (by omega), if_neg (by omega), if_neg (by omega), if_neg (by omega), if_neg (by omega)]
theorem PM.more {m : MM} {xj : Nat} {c : Cf} {p g : Int} {s : PS} {qt : Nat} {tv hv : AV} (h : PM m xj c p g s qt tv hv) (K : MM) : PM (m ++ K) xj c p g s qt tv hv :=
  ⟨(Keep.app m K).get h.get, fun ha => (h.t ha).keep (fun hn => List.getElem?_append_left ((h.t ha).lt hn)), h.one, h.h.keep (.app _ _), h.off⟩
end Go.Am.F09
end
section
namespace Go.Am.F09
open Go.Am.F06 Go.Am.F10
def fromA (c : Cf) (p : Int) : Int := if thereP c p then 1 else 0
set_option maxHeartbeats 4000000 in
theorem from_eq {X : Type} (m : Mem X) (c : Cf) (p : Int) : c_put_from [.agg (cfC c), .int .i64 p] m = some (.agg (rgC c p (fromA c p) 0 0 []), m ++ [.cells 6 false (cfC c), .cells 10 false (rgC c p (fromA c p) 0 0 []), .cells 10 false (rgC c p (fromA c p) 0 0 []), .cells 6 false (cfC c), .cells 7 false (cfC c ++ [.int .i64 p]), .cells 6 false (cfC c)]) := by
  have a159 : assoc [(159, F10.c_conf_Config_Word (X := X))] 159 = some F10.c_conf_Config_Word := rfl
  have he : c_put_from (X := X) = amFunc [(159, F10.c_conf_Config_Word)] put_from := rfl
  rw [he]
  generalize [(159, F10.c_conf_Config_Word (X := X))] = G at a159 ⊢
  have hwr := fun m : Mem X => word_run (m := m) c p
  simp only [cfC, List.cons_append, List.nil_append] at hwr
  refine Fn_eq (Fn_of rfl ?_)
  by_cases h : thereP c p
  · have hb := there_bounds h
    have ha := addr_b h (i := 0) (by omega) (by omega)
    have ha0 := ha.1
    rw [fromA, if_pos h]
    simp (disch := first | assumption | omega | (simp only [List.length_cons, List.length_nil, List.length_set, List.length_append] <;> omega) | (simp only [get_mid, get_mid0, List.cons_append, List.append_assoc, List.getElem?_cons_zero, List.getElem?_cons_succ])) only [put_from, ek, ↓evW, ↓evQ, evB, evS, evL, List.map, AV.cells, List.all, AV.one, Bool.and_true, Bool.true_and, if_true, ↓thenQ_normal, ↓thenQ_exit, ↓thenQ_ret, ↓blockQ_normal, ↓blockQ_ret, ↓blockQ_exit, ↓CW_true, ↓CW_false, CW_true, CW_false, condT, condF, RQ_some, tupA_one, tupA_two, tupA_nil, Nat.reduceSub, Nat.reduceAdd, Nat.reduceMul, Nat.zero_add, Nat.add_zero, Nat.reduceLeDiff, Nat.reduceEqDiff, eqV, eqAll, fillA, and_self, and_true, true_and, Nat.le_refl, Bool.not_true, Bool.not_false, Bool.false_xor, Bool.true_xor, cond_true, cond_false, List.replicate, if_false, reduceIte, resAll, resA, ne_eq, decide_not, decide_true, decide_false, Int.reduceEq, Bool.not_true, Bool.not_false, not_true_eq_false, not_false_eq_true, cond_bool, cond_int, beq_self_eq_true, Int.reduceBEq, Bool.and_self, Bool.and_false, Bool.false_and, Bool.xor_false, Bool.xor_true, loadN_ldC, ldC_none, ldC_somes, stC_aggs, splice, storeN_stC, stC_int, stC_bool, stC_ptr, stC_nilp, stC_sl, stC_nils, getC_gcO, gcO_cells, W_draw_eq, ↓W_scope, ev_clear, evT, evF, evX, evM, ↓exitQ_normal, ↓exitQ_ret, ↓exitQ_exit, saA_self, saO_self, if_pos, if_neg, wrapI, get_concat, set_concat, Int.toNat_natCast, Int.toNat_zero, List.nil_append, Nat.mul_one, decide_eq_true, decide_eq_false, Int.reduceLE, Int.reduceLT, Int.reduceNeg, Bool.false_or, Bool.true_or, Bool.or_false, Bool.or_true, wrapU, Int.reduceAdd, Int.reduceSub, Int.reduceMul, List.append_assoc, List.length_append, get_mid, get_mid0, set_mid, set_mid0, List.length_set, List.length_cons, List.length_nil, List.cons_append, List.getElem?_append_left, List.set_append_left, get_at, get_at0, set_at, set_at0, List.getElem?_set_self, List.getElem?_set_ne, cfC, a159, hwr, rgC, List.set_set]
  · have ha : addrA c p 0 = -1 := if_neg h
    rw [fromA, if_neg h]
    simp (disch := first | assumption | omega | (simp only [List.length_cons, List.length_nil, List.length_set, List.length_append] <;> omega) | (simp only [get_mid, get_mid0, List.cons_append, List.append_assoc, List.getElem?_cons_zero, List.getElem?_cons_succ])) only [put_from, ek, ↓evW, ↓evQ, evB, evS, evL, List.map, AV.cells, List.all, AV.one, Bool.and_true, Bool.true_and, if_true, ↓thenQ_normal, ↓thenQ_exit, ↓thenQ_ret, ↓blockQ_normal, ↓blockQ_ret, ↓blockQ_exit, ↓CW_true, ↓CW_false, CW_true, CW_false, condT, condF, RQ_some, tupA_one, tupA_two, tupA_nil, Nat.reduceSub, Nat.reduceAdd, Nat.reduceMul, Nat.zero_add, Nat.add_zero, Nat.reduceLeDiff, Nat.reduceEqDiff, eqV, eqAll, fillA, and_self, and_true, true_and, Nat.le_refl, Bool.not_true, Bool.not_false, Bool.false_xor, Bool.true_xor, cond_true, cond_false, List.replicate, if_false, reduceIte, resAll, resA, ne_eq, decide_not, decide_true, decide_false, Int.reduceEq, Bool.not_true, Bool.not_false, not_true_eq_false, not_false_eq_true, cond_bool, cond_int, beq_self_eq_true, Int.reduceBEq, Bool.and_self, Bool.and_false, Bool.false_and, Bool.xor_false, Bool.xor_true, loadN_ldC, ldC_none, ldC_somes, stC_aggs, splice, storeN_stC, stC_int, stC_bool, stC_ptr, stC_nilp, stC_sl, stC_nils, getC_gcO, gcO_cells, W_draw_eq, ↓W_scope, ev_clear, evT, evF, evX, evM, ↓exitQ_normal, ↓exitQ_ret, ↓exitQ_exit, saA_self, saO_self, if_pos, if_neg, wrapI, get_concat, set_concat, Int.toNat_natCast, Int.toNat_zero, List.nil_append, Nat.mul_one, decide_eq_true, decide_eq_false, Int.reduceLE, Int.reduceLT, Int.reduceNeg, Bool.false_or, Bool.true_or, Bool.or_false, Bool.or_true, wrapU, Int.reduceAdd, Int.reduceSub, Int.reduceMul, List.append_assoc, List.length_append, get_mid, get_mid0, set_mid, set_mid0, List.length_set, List.length_cons, List.length_nil, List.cons_append, List.getElem?_append_left, List.set_append_left, get_at, get_at0, set_at, set_at0, List.getElem?_set_self, List.getElem?_set_ne, cfC, a159, hwr, rgC, ha, List.set_set]
def ClP (m : MM) (xs : List Int) (r : AV) (m' : MM) : Prop := Keep m m' ∧ SI m' true xs r ∧ Fr m.length r
theorem clone_run {m : MM} {wr : Bool} {xs : List Int} {v : AV} (h : SI m wr xs v) (hn : xs.length ≤ 100000) : Fn [] slices_Clone_int [v] m (ClP m xs) := by
  refine Fn_of rfl ?_
  rcases Nat.eq_zero_or_pos xs.length with h0 | h0
  · have hx0 : xs = [] := List.length_eq_zero_iff.1 h0
    subst hx0
    rcases h.2 with ⟨rfl, _⟩ | ⟨q, o, cap, rfl, _⟩
    · simp (disch := first | assumption | omega | (simp only [List.length_cons, List.length_nil, List.length_set, List.length_append] <;> omega) | (simp only [get_mid, get_mid0, List.cons_append, List.append_assoc, List.getElem?_cons_zero, List.getElem?_cons_succ])) only [slices_Clone_int, ek, ↓evW, ↓evQ, evB, evS, evL, List.map, AV.cells, List.all, AV.one, Bool.and_true, Bool.true_and, if_true, ↓thenQ_normal, ↓thenQ_exit, ↓thenQ_ret, ↓blockQ_normal, ↓blockQ_ret, ↓blockQ_exit, ↓CW_true, ↓CW_false, CW_true, CW_false, condT, condF, RQ_some, tupA_one, tupA_two, tupA_nil, Nat.reduceSub, Nat.reduceAdd, Nat.reduceMul, Nat.zero_add, Nat.add_zero, Nat.reduceLeDiff, Nat.reduceEqDiff, eqV, eqAll, fillA, and_self, and_true, true_and, Nat.le_refl, Bool.not_true, Bool.not_false, Bool.false_xor, Bool.true_xor, cond_true, cond_false, List.replicate, if_false, reduceIte, resAll, resA, ne_eq, decide_not, decide_true, decide_false, Int.reduceEq, Bool.not_true, Bool.not_false, not_true_eq_false, not_false_eq_true, cond_bool, cond_int, beq_self_eq_true, Int.reduceBEq, Bool.and_self, Bool.and_false, Bool.false_and, Bool.xor_false, Bool.xor_true, loadN_ldC, ldC_none, ldC_somes, stC_aggs, splice, storeN_stC, stC_int, stC_bool, stC_ptr, stC_nilp, stC_sl, stC_nils, getC_gcO, gcO_cells, W_draw_eq, ↓W_scope, ev_clear, evT, evF, evX, evM, ↓exitQ_normal, ↓exitQ_ret, ↓exitQ_exit, saA_self, saO_self, if_pos, if_neg, wrapI, get_concat, set_concat, Int.toNat_natCast, Int.toNat_zero, List.nil_append, Nat.mul_one, decide_eq_true, decide_eq_false, Int.reduceLE, Int.reduceLT, Int.reduceNeg, Bool.false_or, Bool.true_or, Bool.or_false, Bool.or_true, wrapU, Int.reduceAdd, Int.reduceSub, Int.reduceMul, List.append_assoc, List.length_append, get_mid, get_mid0, set_mid, set_mid0, List.length_set, List.length_cons, List.length_nil, List.cons_append, List.getElem?_append_left, List.set_append_left, get_at, get_at0, set_at, set_at0, List.getElem?_set_self, List.getElem?_set_ne]
      exact ⟨.refl _, Sl.nil, .inl rfl⟩
    · have happ : appendA 1 8 (.sl m.length 0 0 (some 0)) (.sl q o 0 cap) (m ++ [.cells 1 false []]) = some (.sl m.length 0 0 (some 0), m ++ [.cells 1 false []]) := rfl
      simp (disch := first | assumption | omega | (simp only [List.length_cons, List.length_nil, List.length_set, List.length_append] <;> omega) | (simp only [get_mid, get_mid0, List.cons_append, List.append_assoc, List.getElem?_cons_zero, List.getElem?_cons_succ])) only [slices_Clone_int, ek, ↓evW, ↓evQ, evB, evS, evL, List.map, AV.cells, List.all, AV.one, Bool.and_true, Bool.true_and, if_true, ↓thenQ_normal, ↓thenQ_exit, ↓thenQ_ret, ↓blockQ_normal, ↓blockQ_ret, ↓blockQ_exit, ↓CW_true, ↓CW_false, CW_true, CW_false, condT, condF, RQ_some, tupA_one, tupA_two, tupA_nil, Nat.reduceSub, Nat.reduceAdd, Nat.reduceMul, Nat.zero_add, Nat.add_zero, Nat.reduceLeDiff, Nat.reduceEqDiff, eqV, eqAll, fillA, and_self, and_true, true_and, Nat.le_refl, Bool.not_true, Bool.not_false, Bool.false_xor, Bool.true_xor, cond_true, cond_false, List.replicate, if_false, reduceIte, resAll, resA, ne_eq, decide_not, decide_true, decide_false, Int.reduceEq, Bool.not_true, Bool.not_false, not_true_eq_false, not_false_eq_true, cond_bool, cond_int, beq_self_eq_true, Int.reduceBEq, Bool.and_self, Bool.and_false, Bool.false_and, Bool.xor_false, Bool.xor_true, loadN_ldC, ldC_none, ldC_somes, stC_aggs, splice, storeN_stC, stC_int, stC_bool, stC_ptr, stC_nilp, stC_sl, stC_nils, getC_gcO, gcO_cells, W_draw_eq, ↓W_scope, ev_clear, evT, evF, evX, evM, ↓exitQ_normal, ↓exitQ_ret, ↓exitQ_exit, saA_self, saO_self, if_pos, if_neg, wrapI, get_concat, set_concat, Int.toNat_natCast, Int.toNat_zero, List.nil_append, Nat.mul_one, decide_eq_true, decide_eq_false, Int.reduceLE, Int.reduceLT, Int.reduceNeg, Bool.false_or, Bool.true_or, Bool.or_false, Bool.or_true, wrapU, Int.reduceAdd, Int.reduceSub, Int.reduceMul, List.append_assoc, List.length_append, get_mid, get_mid0, set_mid, set_mid0, List.length_set, List.length_cons, List.length_nil, List.cons_append, List.getElem?_append_left, List.set_append_left, get_at, get_at0, set_at, set_at0, List.getElem?_set_self, List.getElem?_set_ne, evA, fillA, repeatL, List.flatten_nil, happ, List.length_nil]
      exact ⟨.app _ _, ⟨rfl, .inr ⟨_, _, _, rfl, fun h => absurd h (Nat.lt_irrefl _)⟩⟩, .inr ⟨_, _, _, _, rfl, Nat.le_refl _⟩⟩
  · obtain ⟨q, o, cap, ro, L, rfl, h2, h3, h4, h5⟩ := h.at h0
    have hq : q < m.length := (List.getElem?_eq_some_iff.1 h2).1
    have hrow : rowOf (m ++ [Chunk.cells 1 false []]) 1 (.sl q o xs.length cap) = some (iC xs) := by
      simp only [rowOf, Am.getC]
      rw [List.getElem?_append_left hq, h2]
      simp only
      rw [if_neg (by omega), if_pos h4, h3]
    have hz : rowOf (m ++ [Chunk.cells 1 false []]) 1 (.sl m.length 0 0 (some 0)) = some [] := rfl
    have happ : appendA 1 8 (.sl m.length 0 0 (some 0)) (.sl q o xs.length cap) (m ++ [.cells 1 false []]) = some (.sl (m.length + 1) 0 xs.length none, m ++ [.cells 1 false [], .cells 1 false (iC xs)]) := by
      simp only [appendA, lenA, hrow, hz]
      rw [if_neg (by omega), if_neg (by omega), if_pos ⟨by omega, by omega, iC_one _⟩]
      simp
    simp (disch := first | assumption | omega | (simp only [List.length_cons, List.length_nil, List.length_set, List.length_append] <;> omega) | (simp only [get_mid, get_mid0, List.cons_append, List.append_assoc, List.getElem?_cons_zero, List.getElem?_cons_succ])) only [slices_Clone_int, ek, ↓evW, ↓evQ, evB, evS, evL, List.map, AV.cells, List.all, AV.one, Bool.and_true, Bool.true_and, if_true, ↓thenQ_normal, ↓thenQ_exit, ↓thenQ_ret, ↓blockQ_normal, ↓blockQ_ret, ↓blockQ_exit, ↓CW_true, ↓CW_false, CW_true, CW_false, condT, condF, RQ_some, tupA_one, tupA_two, tupA_nil, Nat.reduceSub, Nat.reduceAdd, Nat.reduceMul, Nat.zero_add, Nat.add_zero, Nat.reduceLeDiff, Nat.reduceEqDiff, eqV, eqAll, fillA, and_self, and_true, true_and, Nat.le_refl, Bool.not_true, Bool.not_false, Bool.false_xor, Bool.true_xor, cond_true, cond_false, List.replicate, if_false, reduceIte, resAll, resA, ne_eq, decide_not, decide_true, decide_false, Int.reduceEq, Bool.not_true, Bool.not_false, not_true_eq_false, not_false_eq_true, cond_bool, cond_int, beq_self_eq_true, Int.reduceBEq, Bool.and_self, Bool.and_false, Bool.false_and, Bool.xor_false, Bool.xor_true, loadN_ldC, ldC_none, ldC_somes, stC_aggs, splice, storeN_stC, stC_int, stC_bool, stC_ptr, stC_nilp, stC_sl, stC_nils, getC_gcO, gcO_cells, W_draw_eq, ↓W_scope, ev_clear, evT, evF, evX, evM, ↓exitQ_normal, ↓exitQ_ret, ↓exitQ_exit, saA_self, saO_self, if_pos, if_neg, wrapI, get_concat, set_concat, Int.toNat_natCast, Int.toNat_zero, List.nil_append, Nat.mul_one, decide_eq_true, decide_eq_false, Int.reduceLE, Int.reduceLT, Int.reduceNeg, Bool.false_or, Bool.true_or, Bool.or_false, Bool.or_true, wrapU, Int.reduceAdd, Int.reduceSub, Int.reduceMul, List.append_assoc, List.length_append, get_mid, get_mid0, set_mid, set_mid0, List.length_set, List.length_cons, List.length_nil, List.cons_append, List.getElem?_append_left, List.set_append_left, get_at, get_at0, set_at, set_at0, List.getElem?_set_self, List.getElem?_set_ne, evA, fillA, repeatL, List.flatten_nil, happ]
    exact ⟨.app _ _, ⟨by rw [iC_len]; omega, .inr ⟨_, _, _, rfl, fun _ => ⟨false, iC xs, by rw [get_mid]; rfl, by rw [List.drop_zero, Nat.mul_one, List.take_of_length_le (by rw [iC_len]; omega)], by rw [iC_len]; omega, fun _ => rfl⟩⟩⟩, .inr ⟨_, _, _, _, rfl, by omega⟩⟩
def Gpo : List (Nat × AFun Ob) := [(208, c_slices_Clone_int)]
end Go.Am.F09
end
