/- Facts about orders; Pick and Draw. -/
import Derived.Test.YtcalffadnfpknaaXX03
set_option linter.unusedSimpArgs false
set_option linter.unusedVariables false
namespace Go.Am.F03
variable {X : Type}

theorem Lk_iff (n : Nat) : ∀ (k : Nat) (x : Int), x ∈ Lk n k ↔ ∃ b : Nat, x = b ∧ 1 ≤ b ∧ b ≤ k ∧ Nat.gcd b n = 1
  | 0, x => by simp [Lk]; intro b _ h; omega
  | k + 1, x => by
    have ih := Lk_iff n k x
    constructor
    · intro h
      simp only [Lk] at h
      split at h
      · rename_i hg
        simp only [List.mem_append, List.mem_singleton] at h
        rcases h with h | rfl
        · obtain ⟨b, h1, h2, h3, h4⟩ := ih.1 h; exact ⟨b, h1, h2, by omega, h4⟩
        · exact ⟨k + 1, rfl, by omega, by omega, hg⟩
      · obtain ⟨b, h1, h2, h3, h4⟩ := ih.1 h; exact ⟨b, h1, h2, by omega, h4⟩
    · rintro ⟨b, rfl, h2, h3, h4⟩
      simp only [Lk]
      by_cases hb : b = k + 1
      · subst hb; rw [if_pos h4]; simp
      · have := ih.2 ⟨b, rfl, h2, by omega, h4⟩
        split
        · simp [this]
        · exact this
theorem Lk_nodup (n : Nat) : ∀ k : Nat, (Lk n k).Nodup
  | 0 => by simp [Lk]
  | k + 1 => by
    simp only [Lk]
    split
    · rw [List.nodup_append]
      refine ⟨Lk_nodup n k, by simp, fun a ha b hb => ?_⟩
      simp only [List.mem_singleton] at hb
      subst hb
      obtain ⟨c, rfl, _, h, _⟩ := (Lk_iff n k a).1 ha
      omega
    · exact Lk_nodup n k
theorem Lk_inj {n k i j : Nat} {x : Int} (hi : (Lk n k)[i]? = some x) (hj : (Lk n k)[j]? = some x) : i = j := by
  have h := Lk_nodup n k
  have hil := (List.getElem?_eq_some_iff.1 hi)
  have hjl := (List.getElem?_eq_some_iff.1 hj)
  exact (List.getElem_inj h).1 (hil.2.trans hjl.2.symm)

theorem byN_cop {n : Nat} (h1 : 1 ≤ n) (draw : Int) : Nat.gcd (byN n draw) n = 1 := by
  obtain ⟨hs, _⟩ := byN_spec h1 draw
  obtain ⟨b, hb, _, _, hg⟩ := (Lk_iff n n _).1 (List.mem_of_getElem? hs)
  have : byN n draw = b := by omega
  rw [this]; exact hg

/-- The places of an order are all different. -/
theorem atN_inj {a b n i j : Nat} (hg : Nat.gcd b n = 1) (hi : i < n) (hj : j < n) (h : atN a b n i = atN a b n j) : i = j := by
  have key : ∀ {i j : Nat}, i ≤ j → j < n → atN a b n i = atN a b n j → i = j := by
    intro i j hij hj h
    rw [atN_eq, atN_eq] at h
    have h1 : (a + j * b) % n = (a + i * b) % n := h.symm
    have h2 : n ∣ (a + j * b) - (a + i * b) := Nat.dvd_of_mod_eq_zero (Nat.sub_mod_eq_zero_of_mod_eq h1)
    have h3 : (a + j * b) - (a + i * b) = (j - i) * b := by rw [Nat.sub_mul]; omega
    rw [h3] at h2
    have h4 : n ∣ j - i := Nat.Coprime.dvd_of_dvd_mul_right (by rw [Nat.Coprime, Nat.gcd_comm]; exact hg) h2
    rcases Nat.eq_zero_or_pos (j - i) with h5 | h5
    · omega
    · have := Nat.le_of_dvd h5 h4; omega
  rcases Nat.le_total i j with h' | h'
  · exact key h' hj h
  · exact (key h' hi h.symm).symm
theorem Lo_at (a b n : Nat) : ∀ {k i : Nat}, i < k → (Lo a b n k)[i]? = some ((atN a b n i : Nat) : Int)
  | 0, i, h => by omega
  | k + 1, i, h => by
    simp only [Lo]
    by_cases hi : i < k
    · rw [List.getElem?_append_left (by rw [Lo_len]; exact hi)]; exact Lo_at a b n hi
    · have : i = k := by omega
      subst this
      rw [List.getElem?_append_right (by rw [Lo_len]; exact Nat.le_refl _), Lo_len]; simp
theorem dN_add {A : Nat} (hA : 0 < A) (x : Int) : dN A (x + A) = dN A x := by unfold dN; rw [Int.add_emod_right]
theorem dN_sub {A : Nat} (hA : 0 < A) (x : Int) : dN A (x - A) = dN A x := by unfold dN; rw [Int.sub_emod_right]

theorem pick_run {m : Mem X} {i : Int} {n : Nat} (hn : 0 < n) (hn2 : n ≤ 1000000000) : Fn [] kit_Pick [.int .i64 i, .int .i64 n] m (fun r m' => r = .int .i64 ((dN n i : Nat) : Int) ∧ m' = m) := by
  refine Fn_of rfl ?_
  have h1 := tm_bd i hn
  have h2 := draw_eq hn i
  simp (disch := first | assumption | omega | (simp only [List.length_cons, List.length_nil, List.length_set, List.length_append] <;> omega) | (simp only [get_mid, get_mid0, List.cons_append, List.append_assoc, List.getElem?_cons_zero, List.getElem?_cons_succ])) only [kit_Pick, ek, ↓evW, ↓evQ, evB, evS, evL, List.map, AV.cells, List.all, AV.one, Bool.and_true, Bool.true_and, if_true, ↓thenQ_normal, ↓thenQ_exit, ↓thenQ_ret, ↓blockQ_normal, ↓blockQ_ret, ↓blockQ_exit, ↓CW_true, ↓CW_false, CW_true, CW_false, condT, condF, RQ_some, tupA_one, tupA_two, tupA_nil, Nat.reduceSub, Nat.reduceAdd, Nat.reduceMul, Nat.zero_add, Nat.add_zero, Nat.reduceLeDiff, Nat.reduceEqDiff, eqV, eqAll, fillA, and_self, and_true, true_and, Nat.le_refl, Bool.not_true, Bool.not_false, Bool.false_xor, Bool.true_xor, cond_true, cond_false, List.replicate, if_false, reduceIte, resAll, resA, ne_eq, decide_not, decide_true, decide_false, Int.reduceEq, Bool.not_true, Bool.not_false, not_true_eq_false, not_false_eq_true, cond_bool, cond_int, beq_self_eq_true, Int.reduceBEq, Bool.and_self, Bool.and_false, Bool.false_and, Bool.xor_false, Bool.xor_true, loadN_ldC, ldC_none, ldC_somes, stC_aggs, splice, storeN_stC, stC_int, stC_bool, stC_ptr, stC_nilp, stC_sl, stC_nils, getC_gcO, gcO_cells, W_draw_eq, ↓W_scope, ev_clear, evT, evF, evX, evM, ↓exitQ_normal, ↓exitQ_ret, ↓exitQ_exit, saA_self, saO_self, if_pos, if_neg, wrapI, get_concat, set_concat, Int.toNat_natCast, Int.toNat_zero, List.nil_append, Nat.mul_one, decide_eq_true, decide_eq_false, Int.reduceLE, Int.reduceLT, Int.reduceNeg, Bool.false_or, Bool.true_or, Bool.or_false, Bool.or_true, wrapU, Int.reduceAdd, Int.reduceSub, Int.reduceMul, h2]

def Gdr : List (Nat × AFun X) := [(81, amFunc Gs stride_Strides), (96, amFunc [] slices_Index_int)]
theorem draw_run {m : Mem X} {n : Nat} (h1 : 1 ≤ n) (h2 : n ≤ 64) (start by' : Int) : Fn Gdr stride_Draw [.int .i64 n, .int .i64 start, .int .i64 by'] m (fun r m' => Keep m m' ∧ ∃ (e : Int) (is : Bool), r = .tup [.int .i64 e, .bool is] ∧
    (is = true → ∃ i : Nat, (Lk n n)[i]? = some by' ∧ 0 ≤ start ∧ start < n ∧ e = (i * n : Nat) + start) ∧ (is = false → e = 0 ∧ (by' ∉ Lk n n ∨ ¬ (0 ≤ start ∧ start < n)))) := by
  have a81 : assoc (Gdr (X := X)) 81 = some (amFunc Gs stride_Strides) := rfl
  have a96 : assoc (Gdr (X := X)) 96 = some (amFunc [] slices_Index_int) := rfl
  generalize Gdr (X := X) = G at a81 a96 ⊢
  refine Fn_of rfl ?_
  have hb := Lk_len n n
  simp (disch := first | assumption | omega | (simp only [List.length_cons, List.length_nil, List.length_set, List.length_append] <;> omega) | (simp only [get_mid, get_mid0, List.cons_append, List.append_assoc, List.getElem?_cons_zero, List.getElem?_cons_succ])) only [stride_Draw, ek, ↓evW, ↓evQ, evB, evS, evL, List.map, AV.cells, List.all, AV.one, Bool.and_true, Bool.true_and, if_true, ↓thenQ_normal, ↓thenQ_exit, ↓thenQ_ret, ↓blockQ_normal, ↓blockQ_ret, ↓blockQ_exit, ↓CW_true, ↓CW_false, CW_true, CW_false, condT, condF, RQ_some, tupA_one, tupA_two, tupA_nil, Nat.reduceSub, Nat.reduceAdd, Nat.reduceMul, Nat.zero_add, Nat.add_zero, Nat.reduceLeDiff, Nat.reduceEqDiff, eqV, eqAll, fillA, and_self, and_true, true_and, Nat.le_refl, Bool.not_true, Bool.not_false, Bool.false_xor, Bool.true_xor, cond_true, cond_false, List.replicate, if_false, reduceIte, resAll, resA, ne_eq, decide_not, decide_true, decide_false, Int.reduceEq, Bool.not_true, Bool.not_false, not_true_eq_false, not_false_eq_true, cond_bool, cond_int, beq_self_eq_true, Int.reduceBEq, Bool.and_self, Bool.and_false, Bool.false_and, Bool.xor_false, Bool.xor_true, loadN_ldC, ldC_none, ldC_somes, stC_aggs, splice, storeN_stC, stC_int, stC_bool, stC_ptr, stC_nilp, stC_sl, stC_nils, getC_gcO, gcO_cells, W_draw_eq, ↓W_scope, ev_clear, evT, evF, evX, evM, ↓exitQ_normal, ↓exitQ_ret, ↓exitQ_exit, saA_self, saO_self, if_pos, if_neg, wrapI, get_concat, set_concat, Int.toNat_natCast, Int.toNat_zero, List.nil_append, Nat.mul_one, decide_eq_true, decide_eq_false, Int.reduceLE, Int.reduceLT, Int.reduceNeg, Bool.false_or, Bool.true_or, Bool.or_false, Bool.or_true, wrapU, Int.reduceAdd, Int.reduceSub, Int.reduceMul, a81]
  refine OK_fn (strides_run h1 h2) ?_
  rintro lv m' ⟨J, rfl, ho⟩
  obtain ⟨k1, hs, _⟩ := res_own ho
  obtain ⟨r, hr, hrun⟩ := index_run hs (by simp only [FUEL]; omega) by'
  rcases hr with ⟨hr0, hr1, hr2⟩ | ⟨rfl, hr1⟩
  · obtain ⟨i, rfl⟩ : ∃ i : Nat, r = i := ⟨r.toNat, by omega⟩
    simp only [Int.toNat_natCast] at hr1 hr2
    have hil : i < (Lk n n).length := (List.getElem?_eq_some_iff.1 hr1).1
    by_cases hst : 0 ≤ start ∧ start < n
    · have hm : i * n ≤ 64 * 64 := Nat.mul_le_mul (by omega) h2
      have hc : (i : Int) * (n : Int) = ((i * n : Nat) : Int) := by simp
      generalize hin : i * n = P at hm hc
      simp (disch := first | assumption | omega | (simp only [List.length_cons, List.length_nil, List.length_set, List.length_append] <;> omega) | (simp only [get_mid, get_mid0, List.cons_append, List.append_assoc, List.getElem?_cons_zero, List.getElem?_cons_succ])) only [ek, ↓evW, ↓evQ, evB, evS, evL, List.map, AV.cells, List.all, AV.one, Bool.and_true, Bool.true_and, if_true, ↓thenQ_normal, ↓thenQ_exit, ↓thenQ_ret, ↓blockQ_normal, ↓blockQ_ret, ↓blockQ_exit, ↓CW_true, ↓CW_false, CW_true, CW_false, condT, condF, RQ_some, tupA_one, tupA_two, tupA_nil, Nat.reduceSub, Nat.reduceAdd, Nat.reduceMul, Nat.zero_add, Nat.add_zero, Nat.reduceLeDiff, Nat.reduceEqDiff, eqV, eqAll, fillA, and_self, and_true, true_and, Nat.le_refl, Bool.not_true, Bool.not_false, Bool.false_xor, Bool.true_xor, cond_true, cond_false, List.replicate, if_false, reduceIte, resAll, resA, ne_eq, decide_not, decide_true, decide_false, Int.reduceEq, Bool.not_true, Bool.not_false, not_true_eq_false, not_false_eq_true, cond_bool, cond_int, beq_self_eq_true, Int.reduceBEq, Bool.and_self, Bool.and_false, Bool.false_and, Bool.xor_false, Bool.xor_true, loadN_ldC, ldC_none, ldC_somes, stC_aggs, splice, storeN_stC, stC_int, stC_bool, stC_ptr, stC_nilp, stC_sl, stC_nils, getC_gcO, gcO_cells, W_draw_eq, ↓W_scope, ev_clear, evT, evF, evX, evM, ↓exitQ_normal, ↓exitQ_ret, ↓exitQ_exit, saA_self, saO_self, if_pos, if_neg, wrapI, get_concat, set_concat, Int.toNat_natCast, Int.toNat_zero, List.nil_append, Nat.mul_one, decide_eq_true, decide_eq_false, Int.reduceLE, Int.reduceLT, Int.reduceNeg, Bool.false_or, Bool.true_or, Bool.or_false, Bool.or_true, wrapU, Int.reduceAdd, Int.reduceSub, Int.reduceMul, a96, hrun, hc]
      exact ⟨k1, _, _, rfl, fun _ => ⟨i, hr1, hst.1, hst.2, by rw [hin]⟩, fun h => by cases h⟩
    · by_cases h0 : start < 0
      · simp (disch := first | assumption | omega | (simp only [List.length_cons, List.length_nil, List.length_set, List.length_append] <;> omega) | (simp only [get_mid, get_mid0, List.cons_append, List.append_assoc, List.getElem?_cons_zero, List.getElem?_cons_succ])) only [ek, ↓evW, ↓evQ, evB, evS, evL, List.map, AV.cells, List.all, AV.one, Bool.and_true, Bool.true_and, if_true, ↓thenQ_normal, ↓thenQ_exit, ↓thenQ_ret, ↓blockQ_normal, ↓blockQ_ret, ↓blockQ_exit, ↓CW_true, ↓CW_false, CW_true, CW_false, condT, condF, RQ_some, tupA_one, tupA_two, tupA_nil, Nat.reduceSub, Nat.reduceAdd, Nat.reduceMul, Nat.zero_add, Nat.add_zero, Nat.reduceLeDiff, Nat.reduceEqDiff, eqV, eqAll, fillA, and_self, and_true, true_and, Nat.le_refl, Bool.not_true, Bool.not_false, Bool.false_xor, Bool.true_xor, cond_true, cond_false, List.replicate, if_false, reduceIte, resAll, resA, ne_eq, decide_not, decide_true, decide_false, Int.reduceEq, Bool.not_true, Bool.not_false, not_true_eq_false, not_false_eq_true, cond_bool, cond_int, beq_self_eq_true, Int.reduceBEq, Bool.and_self, Bool.and_false, Bool.false_and, Bool.xor_false, Bool.xor_true, loadN_ldC, ldC_none, ldC_somes, stC_aggs, splice, storeN_stC, stC_int, stC_bool, stC_ptr, stC_nilp, stC_sl, stC_nils, getC_gcO, gcO_cells, W_draw_eq, ↓W_scope, ev_clear, evT, evF, evX, evM, ↓exitQ_normal, ↓exitQ_ret, ↓exitQ_exit, saA_self, saO_self, if_pos, if_neg, wrapI, get_concat, set_concat, Int.toNat_natCast, Int.toNat_zero, List.nil_append, Nat.mul_one, decide_eq_true, decide_eq_false, Int.reduceLE, Int.reduceLT, Int.reduceNeg, Bool.false_or, Bool.true_or, Bool.or_false, Bool.or_true, wrapU, Int.reduceAdd, Int.reduceSub, Int.reduceMul, a96, hrun]
        exact ⟨k1, _, _, rfl, fun h => by (cases h), fun _ => ⟨rfl, .inr hst⟩⟩
      · simp (disch := first | assumption | omega | (simp only [List.length_cons, List.length_nil, List.length_set, List.length_append] <;> omega) | (simp only [get_mid, get_mid0, List.cons_append, List.append_assoc, List.getElem?_cons_zero, List.getElem?_cons_succ])) only [ek, ↓evW, ↓evQ, evB, evS, evL, List.map, AV.cells, List.all, AV.one, Bool.and_true, Bool.true_and, if_true, ↓thenQ_normal, ↓thenQ_exit, ↓thenQ_ret, ↓blockQ_normal, ↓blockQ_ret, ↓blockQ_exit, ↓CW_true, ↓CW_false, CW_true, CW_false, condT, condF, RQ_some, tupA_one, tupA_two, tupA_nil, Nat.reduceSub, Nat.reduceAdd, Nat.reduceMul, Nat.zero_add, Nat.add_zero, Nat.reduceLeDiff, Nat.reduceEqDiff, eqV, eqAll, fillA, and_self, and_true, true_and, Nat.le_refl, Bool.not_true, Bool.not_false, Bool.false_xor, Bool.true_xor, cond_true, cond_false, List.replicate, if_false, reduceIte, resAll, resA, ne_eq, decide_not, decide_true, decide_false, Int.reduceEq, Bool.not_true, Bool.not_false, not_true_eq_false, not_false_eq_true, cond_bool, cond_int, beq_self_eq_true, Int.reduceBEq, Bool.and_self, Bool.and_false, Bool.false_and, Bool.xor_false, Bool.xor_true, loadN_ldC, ldC_none, ldC_somes, stC_aggs, splice, storeN_stC, stC_int, stC_bool, stC_ptr, stC_nilp, stC_sl, stC_nils, getC_gcO, gcO_cells, W_draw_eq, ↓W_scope, ev_clear, evT, evF, evX, evM, ↓exitQ_normal, ↓exitQ_ret, ↓exitQ_exit, saA_self, saO_self, if_pos, if_neg, wrapI, get_concat, set_concat, Int.toNat_natCast, Int.toNat_zero, List.nil_append, Nat.mul_one, decide_eq_true, decide_eq_false, Int.reduceLE, Int.reduceLT, Int.reduceNeg, Bool.false_or, Bool.true_or, Bool.or_false, Bool.or_true, wrapU, Int.reduceAdd, Int.reduceSub, Int.reduceMul, a96, hrun]
        exact ⟨k1, _, _, rfl, fun h => by (cases h), fun _ => ⟨rfl, .inr hst⟩⟩
  · simp (disch := first | assumption | omega | (simp only [List.length_cons, List.length_nil, List.length_set, List.length_append] <;> omega) | (simp only [get_mid, get_mid0, List.cons_append, List.append_assoc, List.getElem?_cons_zero, List.getElem?_cons_succ])) only [ek, ↓evW, ↓evQ, evB, evS, evL, List.map, AV.cells, List.all, AV.one, Bool.and_true, Bool.true_and, if_true, ↓thenQ_normal, ↓thenQ_exit, ↓thenQ_ret, ↓blockQ_normal, ↓blockQ_ret, ↓blockQ_exit, ↓CW_true, ↓CW_false, CW_true, CW_false, condT, condF, RQ_some, tupA_one, tupA_two, tupA_nil, Nat.reduceSub, Nat.reduceAdd, Nat.reduceMul, Nat.zero_add, Nat.add_zero, Nat.reduceLeDiff, Nat.reduceEqDiff, eqV, eqAll, fillA, and_self, and_true, true_and, Nat.le_refl, Bool.not_true, Bool.not_false, Bool.false_xor, Bool.true_xor, cond_true, cond_false, List.replicate, if_false, reduceIte, resAll, resA, ne_eq, decide_not, decide_true, decide_false, Int.reduceEq, Bool.not_true, Bool.not_false, not_true_eq_false, not_false_eq_true, cond_bool, cond_int, beq_self_eq_true, Int.reduceBEq, Bool.and_self, Bool.and_false, Bool.false_and, Bool.xor_false, Bool.xor_true, loadN_ldC, ldC_none, ldC_somes, stC_aggs, splice, storeN_stC, stC_int, stC_bool, stC_ptr, stC_nilp, stC_sl, stC_nils, getC_gcO, gcO_cells, W_draw_eq, ↓W_scope, ev_clear, evT, evF, evX, evM, ↓exitQ_normal, ↓exitQ_ret, ↓exitQ_exit, saA_self, saO_self, if_pos, if_neg, wrapI, get_concat, set_concat, Int.toNat_natCast, Int.toNat_zero, List.nil_append, Nat.mul_one, decide_eq_true, decide_eq_false, Int.reduceLE, Int.reduceLT, Int.reduceNeg, Bool.false_or, Bool.true_or, Bool.or_false, Bool.or_true, wrapU, Int.reduceAdd, Int.reduceSub, Int.reduceMul, a96, hrun]
    exact ⟨k1, _, _, rfl, fun h => by (cases h), fun _ => ⟨rfl, .inl hr1⟩⟩
end Go.Am.F03
