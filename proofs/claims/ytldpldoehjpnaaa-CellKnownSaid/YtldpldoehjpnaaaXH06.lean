/- The reference's Redo; Accesses; NewBook. -/
import Derived.Test.YtldpldoehjpnaaaXG06
set_option linter.unusedSimpArgs false
set_option linter.unusedVariables false
namespace Go.Am.F06

def xOf (e : Acc) : Int := if e.kind = 4 then IntKind.u64.wrap (e.new - e.old) else e.new
def badE (n : Nat) (es : List Acc) (e : Acc) : Prop := e.kind < 1 ∨ 4 < e.kind ∨ e.at' < 0 ∨ (n : Int) ≤ e.at' ∨ (cellsOf n es).getD e.at'.toNat 0 ≠ e.old ∨ (e.kind = 1 ∧ e.new ≠ e.old)
instance (n : Nat) (es : List Acc) (e : Acc) : Decidable (badE n es e) := by unfold badE; infer_instance
def redoL (n : Nat) : List Acc → List Acc → List Acc × Nat
  | es, [] => (es, 0)
  | es, e :: l => if badE n es e then (es, 0) else ((redoL n (stepL n es e.kind e.at' e.old (xOf e)) l).1, (redoL n (stepL n es e.kind e.at' e.old (xOf e)) l).2 + 1)

theorem stepL_len (n : Nat) (es : List Acc) (kind a old x : Int) : (stepL n es kind a old x).length ≤ es.length + 1 := by
  unfold stepL; split <;> simp
theorem stepL_ok {n : Nat} {es : List Acc} (h : okE n es) (kind a old x : Int) : okE n (stepL n es kind a old x) := by
  unfold stepL; split
  · exact h
  · rename_i e he
    unfold doE at he; split at he
    · cases he
    · injection he with he; subst he
      intro e' he'
      rcases List.mem_append.1 he' with he' | he'
      · exact h e' he'
      · simp only [List.mem_singleton] at he'; subst he'
        exact ⟨by show 0 ≤ a; omega, by show a < n; omega⟩
theorem redoL_len (n : Nat) : ∀ (l es : List Acc), (redoL n es l).1.length ≤ es.length + l.length
  | [], es => by simp [redoL]
  | e :: l, es => by
    unfold redoL; split
    · simp
    · have h1 := redoL_len n l (stepL n es e.kind e.at' e.old (xOf e))
      have h2 := stepL_len n es e.kind e.at' e.old (xOf e)
      simp only [List.length_cons]; omega

theorem redoS_L {n : Nat} : ∀ (l : List Acc) {es : List Acc} {s : MemSt}, Rel n es s → es.length + l.length ≤ 1000 → ∃ r, redoS s l = some r ∧ Rel n (redoL n es l).1 r.1 ∧ r.2 = (redoL n es l).2
  | [], es, s, h, hl => ⟨(s, 0), rfl, h, rfl⟩
  | e :: l, es, s, h, hl => by
    simp only [List.length_cons] at hl
    by_cases hb : badE n es e
    · have hno : ¬ okR s e := by
        rintro ⟨h1, h2, h3, h4, h5, h6⟩
        rw [h.cells] at h2 h3
        rw [cellsOf_len] at h2
        rcases hb with hb | hb | hb | hb | hb | hb
        · omega
        · omega
        · omega
        · omega
        · exact hb h3
        · exact hb.2 (h4 hb.1)
      refine ⟨(s, 0), by simp only [redoS, if_neg hno], ?_, ?_⟩
      · simp only [redoL, if_pos hb]; exact h
      · simp only [redoL, if_pos hb]
    · have hok : okR s e := by
        unfold badE at hb
        refine ⟨by omega, by rw [h.cells, cellsOf_len]; omega, ?_, ?_, by omega, by omega⟩
        · rw [h.cells]; exact Decidable.byContradiction fun h => hb (.inr (.inr (.inr (.inr (.inl h)))))
        · intro h1; exact Decidable.byContradiction fun h => hb (.inr (.inr (.inr (.inr (.inr ⟨h1, h⟩)))))
      obtain ⟨k1, k2, k3, k4, k5, k6⟩ := id hok
      rw [h.cells] at k2 k3
      rw [cellsOf_len] at k2
      have hd : ∀ x, doE n es e.kind e.at' e.old x = some ⟨e.kind, e.at', e.old, if e.kind = 2 ∨ e.kind = 3 then x else if e.kind = 4 then IntKind.u64.wrap (e.old + x) else e.old⟩ := fun x => by
        unfold doE
        rw [if_neg (by omega), k3]
        simp
      have hstep : ∃ s', stepS s e = some s' ∧ Rel n (stepL n es e.kind e.at' e.old (xOf e)) s' := by
        have hsl : stepL n es e.kind e.at' e.old (xOf e) = es ++ [⟨e.kind, e.at', e.old, if e.kind = 2 ∨ e.kind = 3 then xOf e else if e.kind = 4 then IntKind.u64.wrap (e.old + xOf e) else e.old⟩] := by simp only [stepL, hd]
        rw [hsl]
        have hcase : e.kind = 1 ∨ e.kind = 2 ∨ e.kind = 3 ∨ e.kind = 4 := by omega
        rcases hcase with hk | hk | hk | hk
        · obtain ⟨s', h1, h2, _⟩ := acc_in h (by omega) k1 k2 1 (fun w => (w, true))
          rw [k3] at h1 h2
          exact ⟨s', by simp [stepS, hk, h1], by simpa [hk] using h2⟩
        · obtain ⟨s', h1, h2, _⟩ := acc_in h (by omega) k1 k2 2 (fun _ => (e.new, true))
          rw [k3] at h1 h2
          exact ⟨s', by simp [stepS, hk, h1], by simpa [hk, xOf] using h2⟩
        · obtain ⟨s', h1, h2, _⟩ := acc_in h (by omega) k1 k2 3 (fun w => if w = e.old then (e.new, true) else (w, false))
          rw [k3] at h1 h2
          simp only [if_true] at h1 h2
          exact ⟨s', by simp [stepS, hk, h1], by simpa [hk, xOf] using h2⟩
        · obtain ⟨s', h1, h2, _⟩ := acc_in h (by omega) k1 k2 4 (fun w => (IntKind.u64.wrap (w + IntKind.u64.wrap (e.new - e.old)), true))
          rw [k3] at h1 h2
          refine ⟨s', by simp [stepS, hk, h1], ?_⟩
          simp only [hk, xOf, if_true]
          rw [if_neg (by decide)]
          exact h2
      obtain ⟨s', hs1, hs2⟩ := hstep
      obtain ⟨r, hr1, hr2, hr3⟩ := redoS_L l hs2 (by have := stepL_len n es e.kind e.at' e.old (xOf e); omega)
      refine ⟨(r.1, r.2 + 1), by simp only [redoS, if_pos hok, hs1, hr1, Option.map_some], ?_, ?_⟩
      · simp only [redoL, if_neg hb]; exact hr2
      · simp only [redoL, if_neg hb]; rw [hr3]

section
variable {X : Type}
def RrI (m0 : Mem X) (wr : Bool) (n : Nat) (es l : List Acc) (v lv : AV) (k : Nat) (e : List AV) (m : Mem X) : Prop := ∃ (i : Nat) (ei : List Acc) (vi y6 y7 y8 y9 y10 : AV),
  e = [.agg (bookC n v), lv, .ptr m0.length 0, .ptr (m0.length + 1) 0, .int .i64 0, .int .i64 i, y6, y7, y8, y9, y10] ∧ k = l.length - i ∧ i ≤ l.length ∧ Keep m0 m ∧ m[m0.length]? = some (.cells 2 false (bookC n vi)) ∧
    m[m0.length + 1]? = some (.cells 2 false [.int .i64 0, .nils]) ∧ SA m false ei vi ∧ Nc vi ∧ okE n ei ∧ ei.length ≤ es.length + i ∧ redoL n es l = ((redoL n ei (l.drop i)).1, i + (redoL n ei (l.drop i)).2)

def RedoP (m : Mem X) (n : Nat) (es l : List Acc) (r : AV) (m' : Mem X) : Prop := Keep m m' ∧ ∃ v', r = .tup [.agg (bookC n v'), .int .i64 (redoL n es l).2] ∧ SA m' false (redoL n es l).1 v' ∧ Nc v'
theorem sa_box {m : Mem X} {wr : Bool} {es : List Acc} {v : AV} (h : SA m wr es v) {b : Nat} {ro : Bool} {L : List AV} (hb : m[b]? = some (.cells 2 ro L)) : Off b v := by
  intro q o n c hv h0 hq
  rcases h.2 with ⟨h1, _⟩ | ⟨q2, o2, c2, h1, h2⟩
  · rw [h1] at hv; cases hv
  · rw [h1] at hv; injection hv with e1 e2 e3 e4; subst e1; subst e3; subst hq
    obtain ⟨ro, L, h3, _⟩ := h2 h0
    rw [hb] at h3; injection h3 with h3; injection h3 with h3; cases h3

set_option maxHeartbeats 8000000 in
theorem refredo_run {m0 : Mem X} {wr wr' : Bool} {n : Nat} {es l : List Acc} {v lv : AV} (hs : SA m0 wr es v) (hnc : Nc v) (hok : okE n es) (hlv : SA m0 wr' l lv) (hl : es.length + l.length ≤ 1000) :
    Fn [(55, c_ref06_At), (53, c_ref06_Do)] ref06_Redo [.agg (bookC n v), lv] m0 (RedoP m0 n es l) := by
  have a55 : assoc [(55, c_ref06_At (X := X)), (53, c_ref06_Do)] 55 = some c_ref06_At := rfl
  have a53 : assoc [(55, c_ref06_At (X := X)), (53, c_ref06_Do)] 53 = some c_ref06_Do := rfl
  generalize [(55, c_ref06_At (X := X)), (53, c_ref06_Do)] = G at a55 a53
  have hone := hs.one
  simp only [AV.one] at hone
  have hlen := hlv.len
  refine Fn_of rfl ?_
  simp (disch := first | assumption | omega | (simp only [List.length_cons, List.length_nil, List.length_set, List.length_append] <;> omega) | (simp only [get_mid, get_mid0, List.cons_append, List.append_assoc, List.getElem?_cons_zero, List.getElem?_cons_succ])) only [ref06_Redo, ek, ↓evW, ↓evQ, evB, evS, evL, List.map, AV.cells, List.all, AV.one, Bool.and_true, Bool.true_and, if_true, ↓thenQ_normal, ↓thenQ_exit, ↓thenQ_ret, ↓blockQ_normal, ↓blockQ_ret, ↓blockQ_exit, ↓CW_true, ↓CW_false, CW_true, CW_false, condT, condF, RQ_some, tupA_one, tupA_two, tupA_nil, Nat.reduceSub, Nat.reduceAdd, Nat.reduceMul, Nat.zero_add, Nat.add_zero, Nat.reduceLeDiff, Nat.reduceEqDiff, eqV, eqAll, fillA, and_self, and_true, true_and, Nat.le_refl, Bool.not_true, Bool.not_false, Bool.false_xor, Bool.true_xor, cond_true, cond_false, List.replicate, if_false, reduceIte, resAll, resA, ne_eq, decide_not, decide_true, decide_false, Int.reduceEq, Bool.not_true, Bool.not_false, not_true_eq_false, not_false_eq_true, cond_bool, cond_int, beq_self_eq_true, Int.reduceBEq, Bool.and_self, Bool.and_false, Bool.false_and, Bool.xor_false, Bool.xor_true, loadN_ldC, ldC_none, ldC_somes, stC_aggs, splice, storeN_stC, stC_int, stC_bool, stC_ptr, stC_nilp, stC_sl, stC_nils, getC_gcO, gcO_cells, W_draw_eq, ↓W_scope, ev_clear, evT, evF, evX, evM, ↓exitQ_normal, ↓exitQ_ret, ↓exitQ_exit, saA_self, saO_self, if_pos, if_neg, wrapI, get_concat, set_concat, Int.toNat_natCast, Int.toNat_zero, List.nil_append, Nat.mul_one, decide_eq_true, decide_eq_false, Int.reduceLE, Int.reduceLT, Int.reduceNeg, Bool.false_or, Bool.true_or, Bool.or_false, Bool.or_true, wrapU, Int.reduceAdd, Int.reduceSub, Int.reduceMul, List.append_assoc, List.length_append, get_mid, get_mid0, set_mid, set_mid0, List.length_set, List.length_cons, List.length_nil, List.cons_append, List.getElem?_append_left, List.set_append_left, get_at, get_at0, set_at, set_at0, List.getElem?_set_self, List.getElem?_set_ne, bookC, hone]
  refine W_loop (RrI m0 wr n es l v lv) l.length (by simp only [FUEL]; omega) ⟨0, es, v, _, _, _, _, _, rfl, rfl, by omega, Keep.app _ _, by rw [get_mid0]; rfl, by rw [get_mid]; rfl, (hs.keep (Keep.app _ _)).ro, hnc, hok, by omega, by simp⟩ ?_
  rintro k e m ⟨i, ei, vi, y6, y7, y8, y9, y10, rfl, rfl, hi, hk, hb0, hb1, sv, nv, okv, hel, hres⟩
  have hl1 : m0.length + 1 < m.length := (List.getElem?_eq_some_iff.1 hb1).1
  have hone := sv.one
  simp only [AV.one] at hone
  have fin : ∀ (K : Mem X) (c : Chunk X), redoL n es l = (ei, i) → RedoP m0 n es l (.tup [.agg [.int .i64 n, vi], .int .i64 i]) (m.set (m0.length + 1) c ++ K) := fun K c hr => by
    refine ⟨(hk.set (by omega) _).trans (Keep.app _ _), vi, by rw [hr]; rfl, ?_, nv⟩
    rw [hr]
    exact ((KeepB.at m _).off (sa_box sv hb1) sv).keep (Keep.app _ _)
  simp (disch := first | assumption | omega | (simp only [List.length_cons, List.length_nil, List.length_set, List.length_append] <;> omega) | (simp only [get_mid, get_mid0, List.cons_append, List.append_assoc, List.getElem?_cons_zero, List.getElem?_cons_succ])) only [ek, ↓evW, ↓evQ, evB, evS, evL, List.map, AV.cells, List.all, AV.one, Bool.and_true, Bool.true_and, if_true, ↓thenQ_normal, ↓thenQ_exit, ↓thenQ_ret, ↓blockQ_normal, ↓blockQ_ret, ↓blockQ_exit, ↓CW_true, ↓CW_false, CW_true, CW_false, condT, condF, RQ_some, tupA_one, tupA_two, tupA_nil, Nat.reduceSub, Nat.reduceAdd, Nat.reduceMul, Nat.zero_add, Nat.add_zero, Nat.reduceLeDiff, Nat.reduceEqDiff, eqV, eqAll, fillA, and_self, and_true, true_and, Nat.le_refl, Bool.not_true, Bool.not_false, Bool.false_xor, Bool.true_xor, cond_true, cond_false, List.replicate, if_false, reduceIte, resAll, resA, ne_eq, decide_not, decide_true, decide_false, Int.reduceEq, Bool.not_true, Bool.not_false, not_true_eq_false, not_false_eq_true, cond_bool, cond_int, beq_self_eq_true, Int.reduceBEq, Bool.and_self, Bool.and_false, Bool.false_and, Bool.xor_false, Bool.xor_true, loadN_ldC, ldC_none, ldC_somes, stC_aggs, splice, storeN_stC, stC_int, stC_bool, stC_ptr, stC_nilp, stC_sl, stC_nils, getC_gcO, gcO_cells, W_draw_eq, ↓W_scope, ev_clear, evT, evF, evX, evM, ↓exitQ_normal, ↓exitQ_ret, ↓exitQ_exit, saA_self, saO_self, if_pos, if_neg, wrapI, get_concat, set_concat, Int.toNat_natCast, Int.toNat_zero, List.nil_append, Nat.mul_one, decide_eq_true, decide_eq_false, Int.reduceLE, Int.reduceLT, Int.reduceNeg, Bool.false_or, Bool.true_or, Bool.or_false, Bool.or_true, wrapU, Int.reduceAdd, Int.reduceSub, Int.reduceMul, bookC, ev_len, hlen]
  refine CW_of (fun h => ?_) (fun h => ?_)
  · simp only [decide_eq_true_eq] at h
    obtain ⟨⟨k, a, o, w⟩, he⟩ : ∃ e, l[i]? = some e := ⟨_, List.getElem?_eq_getElem (by omega)⟩
    have hd : l.drop i = ⟨k, a, o, w⟩ :: l.drop (i + 1) := by rw [List.drop_eq_getElem?_toList_append, he]; rfl
    rw [hd] at hres
    have hvm : SA m wr' l lv := hlv.keep hk
    obtain ⟨q, oo, cap, ro, L, rfl, b2, b3, b4, b5, b6, _⟩ := hvm.get he
    simp only [accC] at b6
    simp only [bookC] at hb0
    by_cases hin : 1 ≤ k ∧ k ≤ 4 ∧ 0 ≤ a ∧ a < n
    · obtain ⟨i1, i2, i3, i4⟩ := hin
      have hat := Fn_eq (at_run (G := []) (sv.keep (Keep.app m [Chunk.cells 4 false [.int .i64 k, .int .i64 a, .int .u64 o, .int .u64 w]])) okv (by omega) i3 i4)
      simp only [bookC] at hat
      generalize hu : (cellsOf n ei).getD a.toNat 0 = u at hat
      by_cases hbad : badE n ei ⟨k, a, o, w⟩
      · simp only [redoL, if_pos hbad] at hres
        have hno : u ≠ o ∨ (k = 1 ∧ w ≠ o) := by
          rcases hbad with h | h | h | h | h | h
          · exact absurd i1 (by show ¬ 1 ≤ k; have : k < 1 := h; omega)
          · exact absurd i2 (by show ¬ k ≤ 4; have : 4 < k := h; omega)
          · exact absurd i3 (by show ¬ 0 ≤ a; have : a < 0 := h; omega)
          · exact absurd i4 (by show ¬ a < n; have : (n : Int) ≤ a := h; omega)
          · exact .inl (by rw [← hu]; exact h)
          · exact .inr h
        simp (disch := first | assumption | omega | (simp only [List.length_cons, List.length_nil, List.length_set, List.length_append] <;> omega) | (simp only [get_mid, get_mid0, List.cons_append, List.append_assoc, List.getElem?_cons_zero, List.getElem?_cons_succ])) only [ek, ↓evW, ↓evQ, evB, evS, evL, List.map, AV.cells, List.all, AV.one, Bool.and_true, Bool.true_and, if_true, ↓thenQ_normal, ↓thenQ_exit, ↓thenQ_ret, ↓blockQ_normal, ↓blockQ_ret, ↓blockQ_exit, ↓CW_true, ↓CW_false, CW_true, CW_false, condT, condF, RQ_some, tupA_one, tupA_two, tupA_nil, Nat.reduceSub, Nat.reduceAdd, Nat.reduceMul, Nat.zero_add, Nat.add_zero, Nat.reduceLeDiff, Nat.reduceEqDiff, eqV, eqAll, fillA, and_self, and_true, true_and, Nat.le_refl, Bool.not_true, Bool.not_false, Bool.false_xor, Bool.true_xor, cond_true, cond_false, List.replicate, if_false, reduceIte, resAll, resA, ne_eq, decide_not, decide_true, decide_false, Int.reduceEq, Bool.not_true, Bool.not_false, not_true_eq_false, not_false_eq_true, cond_bool, cond_int, beq_self_eq_true, Int.reduceBEq, Bool.and_self, Bool.and_false, Bool.false_and, Bool.xor_false, Bool.xor_true, loadN_ldC, ldC_none, ldC_somes, stC_aggs, splice, storeN_stC, stC_int, stC_bool, stC_ptr, stC_nilp, stC_sl, stC_nils, getC_gcO, gcO_cells, W_draw_eq, ↓W_scope, ev_clear, evT, evF, evX, evM, ↓exitQ_normal, ↓exitQ_ret, ↓exitQ_exit, saA_self, saO_self, if_pos, if_neg, wrapI, get_concat, set_concat, Int.toNat_natCast, Int.toNat_zero, List.nil_append, Nat.mul_one, decide_eq_true, decide_eq_false, Int.reduceLE, Int.reduceLT, Int.reduceNeg, Bool.false_or, Bool.true_or, Bool.or_false, Bool.or_true, wrapU, Int.reduceAdd, Int.reduceSub, Int.reduceMul, List.append_assoc, List.length_append, get_mid, get_mid0, set_mid, set_mid0, List.length_set, List.length_cons, List.length_nil, List.cons_append, List.getElem?_append_left, List.set_append_left, get_at, get_at0, set_at, set_at0, List.getElem?_set_self, List.getElem?_set_ne, b2, b6, hb0, hb1, a55, c_ref06_At, hat, hone]
        repeat' ((first | refine GK_of (fun h => ?_) (fun h => ?_) | refine CW_of (fun h => ?_) (fun h => ?_) | refine GKT_of (fun h => ?_) (fun h => ?_)) <;> (try simp only [Bool.not_eq_true', Bool.not_eq_false', decide_eq_true_eq, decide_eq_false_iff_not, Bool.and_eq_true, Bool.or_eq_true, Bool.and_eq_false_iff, Bool.or_eq_false_iff, Decidable.not_not] at h) <;> (try simp (disch := first | assumption | omega | (simp only [List.length_cons, List.length_nil, List.length_set, List.length_append] <;> omega) | (simp only [get_mid, get_mid0, List.cons_append, List.append_assoc, List.getElem?_cons_zero, List.getElem?_cons_succ])) only [ek, ↓evW, ↓evQ, evB, evS, evL, List.map, AV.cells, List.all, AV.one, Bool.and_true, Bool.true_and, if_true, ↓thenQ_normal, ↓thenQ_exit, ↓thenQ_ret, ↓blockQ_normal, ↓blockQ_ret, ↓blockQ_exit, ↓CW_true, ↓CW_false, CW_true, CW_false, condT, condF, RQ_some, tupA_one, tupA_two, tupA_nil, Nat.reduceSub, Nat.reduceAdd, Nat.reduceMul, Nat.zero_add, Nat.add_zero, Nat.reduceLeDiff, Nat.reduceEqDiff, eqV, eqAll, fillA, and_self, and_true, true_and, Nat.le_refl, Bool.not_true, Bool.not_false, Bool.false_xor, Bool.true_xor, cond_true, cond_false, List.replicate, if_false, reduceIte, resAll, resA, ne_eq, decide_not, decide_true, decide_false, Int.reduceEq, Bool.not_true, Bool.not_false, not_true_eq_false, not_false_eq_true, cond_bool, cond_int, beq_self_eq_true, Int.reduceBEq, Bool.and_self, Bool.and_false, Bool.false_and, Bool.xor_false, Bool.xor_true, loadN_ldC, ldC_none, ldC_somes, stC_aggs, splice, storeN_stC, stC_int, stC_bool, stC_ptr, stC_nilp, stC_sl, stC_nils, getC_gcO, gcO_cells, W_draw_eq, ↓W_scope, ev_clear, evT, evF, evX, evM, ↓exitQ_normal, ↓exitQ_ret, ↓exitQ_exit, saA_self, saO_self, if_pos, if_neg, wrapI, get_concat, set_concat, Int.toNat_natCast, Int.toNat_zero, List.nil_append, Nat.mul_one, decide_eq_true, decide_eq_false, Int.reduceLE, Int.reduceLT, Int.reduceNeg, Bool.false_or, Bool.true_or, Bool.or_false, Bool.or_true, wrapU, Int.reduceAdd, Int.reduceSub, Int.reduceMul, List.append_assoc, List.length_append, get_mid, get_mid0, set_mid, set_mid0, List.length_set, List.length_cons, List.length_nil, List.cons_append, List.getElem?_append_left, List.set_append_left, get_at, get_at0, set_at, set_at0, List.getElem?_set_self, List.getElem?_set_ne, b2, b6, hb0, hb1, hone]))
        all_goals (try (exfalso; rcases hno with h | ⟨h, h'⟩ <;> simp_all; done))
        all_goals exact fin _ _ (by simpa using hres)
      · have hno : u = o ∧ (k = 1 → w = o) := by
          unfold badE at hbad
          exact ⟨Decidable.byContradiction fun h => hbad (.inr (.inr (.inr (.inr (.inl (by show _ ≠ o; rw [hu]; exact h)))))), fun h1 => Decidable.byContradiction fun h => hbad (.inr (.inr (.inr (.inr (.inr ⟨h1, h⟩)))))⟩
        obtain ⟨rfl, hw⟩ := hno
        have key : ∀ (x : Int), x = xOf ⟨k, a, u, w⟩ → ∀ (M : Mem X) (y8 y9 y10 : AV), Keep m M → M.length = m.length + 2 → ∃ G', Fn [(55, c_ref06_At (X := X))] ref06_Do [.agg [.int .i64 n, vi], .int .i64 k, .int .i64 a, .int .u64 u, .int .u64 x] M G' ∧ ∀ r M', G' r M' → ∃ v' e', r = .tup [.agg [.int .i64 n, v'], .agg e', .bool true] ∧ M'[m0.length]? = some (.cells 2 false [.int .i64 n, vi]) ∧ v'.one = true ∧ m0.length < M'.length ∧
            (∃ k', k' < l.length - i ∧ RrI m0 wr n es l v (.sl q oo l.length cap) k' [.agg [.int .i64 n, v], .sl q oo l.length cap, .ptr m0.length 0, .ptr (m0.length + 1) 0, .int .i64 0, .int .i64 ((i : Int) + 1), .ptr m.length 0, .int .u64 x, y8, y9, y10] (M'.set m0.length (.cells 2 false [.int .i64 n, v']))) := by
          intro x hx M y8 y9 y10 hkM hlM
          refine ⟨_, do_run (sv.keep hkM) okv (by omega) k a u x, ?_⟩
          rintro r M' ⟨hk', hcase⟩
          have hdo : doE n ei k a u x ≠ none := by unfold doE; rw [if_neg (by omega)]; simp
          rcases hcase with ⟨h, _⟩ | ⟨e', v', h1, rfl, h2, h3, h4⟩
          · exact absurd h hdo
          · have hKm : Keep m M' := hkM.trans hk'
            have hsl : stepL n ei k a u x = ei ++ [e'] := by simp only [stepL, h1]
            have hl2 : m.length ≤ M'.length := hKm.1
            refine ⟨v', _, rfl, hKm.get hb0, h2.one, by omega, _, by omega, i + 1, ei ++ [e'], v', _, _, _, _, _, rfl, rfl, by omega, (hk.trans hKm).set (Nat.le_refl _) _, by rw [List.getElem?_set_self (by omega)]; rfl, by rw [List.getElem?_set_ne (by omega)]; exact hKm.get hb1, ?_, h4, ?_, by simp; omega, ?_⟩
            · exact (KeepB.at M' _).off (sa_box h2.ro (hKm.get hb0)) h2.ro
            · rw [← hsl]; exact stepL_ok okv _ _ _ _
            · rw [hres, ← hsl]
              simp only [redoL, if_neg hbad, ← hx]
              congr 1; omega
        have hcase : k = 1 ∨ k = 2 ∨ k = 3 ∨ k = 4 := by omega
        rcases hcase with rfl | rfl | rfl | rfl
        · have := hw rfl
          subst this
          simp (disch := first | assumption | omega | (simp only [List.length_cons, List.length_nil, List.length_set, List.length_append] <;> omega) | (simp only [get_mid, get_mid0, List.cons_append, List.append_assoc, List.getElem?_cons_zero, List.getElem?_cons_succ])) only [ek, ↓evW, ↓evQ, evB, evS, evL, List.map, AV.cells, List.all, AV.one, Bool.and_true, Bool.true_and, if_true, ↓thenQ_normal, ↓thenQ_exit, ↓thenQ_ret, ↓blockQ_normal, ↓blockQ_ret, ↓blockQ_exit, ↓CW_true, ↓CW_false, CW_true, CW_false, condT, condF, RQ_some, tupA_one, tupA_two, tupA_nil, Nat.reduceSub, Nat.reduceAdd, Nat.reduceMul, Nat.zero_add, Nat.add_zero, Nat.reduceLeDiff, Nat.reduceEqDiff, eqV, eqAll, fillA, and_self, and_true, true_and, Nat.le_refl, Bool.not_true, Bool.not_false, Bool.false_xor, Bool.true_xor, cond_true, cond_false, List.replicate, if_false, reduceIte, resAll, resA, ne_eq, decide_not, decide_true, decide_false, Int.reduceEq, Bool.not_true, Bool.not_false, not_true_eq_false, not_false_eq_true, cond_bool, cond_int, beq_self_eq_true, Int.reduceBEq, Bool.and_self, Bool.and_false, Bool.false_and, Bool.xor_false, Bool.xor_true, loadN_ldC, ldC_none, ldC_somes, stC_aggs, splice, storeN_stC, stC_int, stC_bool, stC_ptr, stC_nilp, stC_sl, stC_nils, getC_gcO, gcO_cells, W_draw_eq, ↓W_scope, ev_clear, evT, evF, evX, evM, ↓exitQ_normal, ↓exitQ_ret, ↓exitQ_exit, saA_self, saO_self, if_pos, if_neg, wrapI, get_concat, set_concat, Int.toNat_natCast, Int.toNat_zero, List.nil_append, Nat.mul_one, decide_eq_true, decide_eq_false, Int.reduceLE, Int.reduceLT, Int.reduceNeg, Bool.false_or, Bool.true_or, Bool.or_false, Bool.or_true, wrapU, Int.reduceAdd, Int.reduceSub, Int.reduceMul, List.append_assoc, List.length_append, get_mid, get_mid0, set_mid, set_mid0, List.length_set, List.length_cons, List.length_nil, List.cons_append, List.getElem?_append_left, List.set_append_left, get_at, get_at0, set_at, set_at0, List.getElem?_set_self, List.getElem?_set_ne, b2, b6, hb0, hb1, a55, c_ref06_At, hat, hone, a53, c_ref06_Do]
          obtain ⟨G', hG, hpost⟩ := key w (by simp [xOf]) (m ++ [.cells 4 false [.int .i64 1, .int .i64 a, .int .u64 w, .int .u64 w], .cells 2 false [.int .i64 n, vi]]) (.bool true) (.bool false) (.bool false) (Keep.app m _) (by simp)
          refine OK_fn hG ?_
          rintro r M' hr
          obtain ⟨v', e', rfl, h1, h2, h3, h4⟩ := hpost r M' hr
          simp only [AV.one] at h2
          simp (disch := first | assumption | omega | (simp only [List.length_cons, List.length_nil, List.length_set, List.length_append] <;> omega) | (simp only [get_mid, get_mid0, List.cons_append, List.append_assoc, List.getElem?_cons_zero, List.getElem?_cons_succ])) only [ek, ↓evW, ↓evQ, evB, evS, evL, List.map, AV.cells, List.all, AV.one, Bool.and_true, Bool.true_and, if_true, ↓thenQ_normal, ↓thenQ_exit, ↓thenQ_ret, ↓blockQ_normal, ↓blockQ_ret, ↓blockQ_exit, ↓CW_true, ↓CW_false, CW_true, CW_false, condT, condF, RQ_some, tupA_one, tupA_two, tupA_nil, Nat.reduceSub, Nat.reduceAdd, Nat.reduceMul, Nat.zero_add, Nat.add_zero, Nat.reduceLeDiff, Nat.reduceEqDiff, eqV, eqAll, fillA, and_self, and_true, true_and, Nat.le_refl, Bool.not_true, Bool.not_false, Bool.false_xor, Bool.true_xor, cond_true, cond_false, List.replicate, if_false, reduceIte, resAll, resA, ne_eq, decide_not, decide_true, decide_false, Int.reduceEq, Bool.not_true, Bool.not_false, not_true_eq_false, not_false_eq_true, cond_bool, cond_int, beq_self_eq_true, Int.reduceBEq, Bool.and_self, Bool.and_false, Bool.false_and, Bool.xor_false, Bool.xor_true, loadN_ldC, ldC_none, ldC_somes, stC_aggs, splice, storeN_stC, stC_int, stC_bool, stC_ptr, stC_nilp, stC_sl, stC_nils, getC_gcO, gcO_cells, W_draw_eq, ↓W_scope, ev_clear, evT, evF, evX, evM, ↓exitQ_normal, ↓exitQ_ret, ↓exitQ_exit, saA_self, saO_self, if_pos, if_neg, wrapI, get_concat, set_concat, Int.toNat_natCast, Int.toNat_zero, List.nil_append, Nat.mul_one, decide_eq_true, decide_eq_false, Int.reduceLE, Int.reduceLT, Int.reduceNeg, Bool.false_or, Bool.true_or, Bool.or_false, Bool.or_true, wrapU, Int.reduceAdd, Int.reduceSub, Int.reduceMul, List.append_assoc, List.length_append, get_mid, get_mid0, set_mid, set_mid0, List.length_set, List.length_cons, List.length_nil, List.cons_append, List.getElem?_append_left, List.set_append_left, get_at, get_at0, set_at, set_at0, List.getElem?_set_self, List.getElem?_set_ne, h1, h2]
          exact h4
        · skip
          simp (disch := first | assumption | omega | (simp only [List.length_cons, List.length_nil, List.length_set, List.length_append] <;> omega) | (simp only [get_mid, get_mid0, List.cons_append, List.append_assoc, List.getElem?_cons_zero, List.getElem?_cons_succ])) only [ek, ↓evW, ↓evQ, evB, evS, evL, List.map, AV.cells, List.all, AV.one, Bool.and_true, Bool.true_and, if_true, ↓thenQ_normal, ↓thenQ_exit, ↓thenQ_ret, ↓blockQ_normal, ↓blockQ_ret, ↓blockQ_exit, ↓CW_true, ↓CW_false, CW_true, CW_false, condT, condF, RQ_some, tupA_one, tupA_two, tupA_nil, Nat.reduceSub, Nat.reduceAdd, Nat.reduceMul, Nat.zero_add, Nat.add_zero, Nat.reduceLeDiff, Nat.reduceEqDiff, eqV, eqAll, fillA, and_self, and_true, true_and, Nat.le_refl, Bool.not_true, Bool.not_false, Bool.false_xor, Bool.true_xor, cond_true, cond_false, List.replicate, if_false, reduceIte, resAll, resA, ne_eq, decide_not, decide_true, decide_false, Int.reduceEq, Bool.not_true, Bool.not_false, not_true_eq_false, not_false_eq_true, cond_bool, cond_int, beq_self_eq_true, Int.reduceBEq, Bool.and_self, Bool.and_false, Bool.false_and, Bool.xor_false, Bool.xor_true, loadN_ldC, ldC_none, ldC_somes, stC_aggs, splice, storeN_stC, stC_int, stC_bool, stC_ptr, stC_nilp, stC_sl, stC_nils, getC_gcO, gcO_cells, W_draw_eq, ↓W_scope, ev_clear, evT, evF, evX, evM, ↓exitQ_normal, ↓exitQ_ret, ↓exitQ_exit, saA_self, saO_self, if_pos, if_neg, wrapI, get_concat, set_concat, Int.toNat_natCast, Int.toNat_zero, List.nil_append, Nat.mul_one, decide_eq_true, decide_eq_false, Int.reduceLE, Int.reduceLT, Int.reduceNeg, Bool.false_or, Bool.true_or, Bool.or_false, Bool.or_true, wrapU, Int.reduceAdd, Int.reduceSub, Int.reduceMul, List.append_assoc, List.length_append, get_mid, get_mid0, set_mid, set_mid0, List.length_set, List.length_cons, List.length_nil, List.cons_append, List.getElem?_append_left, List.set_append_left, get_at, get_at0, set_at, set_at0, List.getElem?_set_self, List.getElem?_set_ne, b2, b6, hb0, hb1, a55, c_ref06_At, hat, hone, a53, c_ref06_Do]
          obtain ⟨G', hG, hpost⟩ := key w (by simp [xOf]) (m ++ [.cells 4 false [.int .i64 2, .int .i64 a, .int .u64 u, .int .u64 w], .cells 2 false [.int .i64 n, vi]]) (.bool true) (.bool false) (.bool false) (Keep.app m _) (by simp)
          refine OK_fn hG ?_
          rintro r M' hr
          obtain ⟨v', e', rfl, h1, h2, h3, h4⟩ := hpost r M' hr
          simp only [AV.one] at h2
          simp (disch := first | assumption | omega | (simp only [List.length_cons, List.length_nil, List.length_set, List.length_append] <;> omega) | (simp only [get_mid, get_mid0, List.cons_append, List.append_assoc, List.getElem?_cons_zero, List.getElem?_cons_succ])) only [ek, ↓evW, ↓evQ, evB, evS, evL, List.map, AV.cells, List.all, AV.one, Bool.and_true, Bool.true_and, if_true, ↓thenQ_normal, ↓thenQ_exit, ↓thenQ_ret, ↓blockQ_normal, ↓blockQ_ret, ↓blockQ_exit, ↓CW_true, ↓CW_false, CW_true, CW_false, condT, condF, RQ_some, tupA_one, tupA_two, tupA_nil, Nat.reduceSub, Nat.reduceAdd, Nat.reduceMul, Nat.zero_add, Nat.add_zero, Nat.reduceLeDiff, Nat.reduceEqDiff, eqV, eqAll, fillA, and_self, and_true, true_and, Nat.le_refl, Bool.not_true, Bool.not_false, Bool.false_xor, Bool.true_xor, cond_true, cond_false, List.replicate, if_false, reduceIte, resAll, resA, ne_eq, decide_not, decide_true, decide_false, Int.reduceEq, Bool.not_true, Bool.not_false, not_true_eq_false, not_false_eq_true, cond_bool, cond_int, beq_self_eq_true, Int.reduceBEq, Bool.and_self, Bool.and_false, Bool.false_and, Bool.xor_false, Bool.xor_true, loadN_ldC, ldC_none, ldC_somes, stC_aggs, splice, storeN_stC, stC_int, stC_bool, stC_ptr, stC_nilp, stC_sl, stC_nils, getC_gcO, gcO_cells, W_draw_eq, ↓W_scope, ev_clear, evT, evF, evX, evM, ↓exitQ_normal, ↓exitQ_ret, ↓exitQ_exit, saA_self, saO_self, if_pos, if_neg, wrapI, get_concat, set_concat, Int.toNat_natCast, Int.toNat_zero, List.nil_append, Nat.mul_one, decide_eq_true, decide_eq_false, Int.reduceLE, Int.reduceLT, Int.reduceNeg, Bool.false_or, Bool.true_or, Bool.or_false, Bool.or_true, wrapU, Int.reduceAdd, Int.reduceSub, Int.reduceMul, List.append_assoc, List.length_append, get_mid, get_mid0, set_mid, set_mid0, List.length_set, List.length_cons, List.length_nil, List.cons_append, List.getElem?_append_left, List.set_append_left, get_at, get_at0, set_at, set_at0, List.getElem?_set_self, List.getElem?_set_ne, h1, h2]
          exact h4
        · skip
          simp (disch := first | assumption | omega | (simp only [List.length_cons, List.length_nil, List.length_set, List.length_append] <;> omega) | (simp only [get_mid, get_mid0, List.cons_append, List.append_assoc, List.getElem?_cons_zero, List.getElem?_cons_succ])) only [ek, ↓evW, ↓evQ, evB, evS, evL, List.map, AV.cells, List.all, AV.one, Bool.and_true, Bool.true_and, if_true, ↓thenQ_normal, ↓thenQ_exit, ↓thenQ_ret, ↓blockQ_normal, ↓blockQ_ret, ↓blockQ_exit, ↓CW_true, ↓CW_false, CW_true, CW_false, condT, condF, RQ_some, tupA_one, tupA_two, tupA_nil, Nat.reduceSub, Nat.reduceAdd, Nat.reduceMul, Nat.zero_add, Nat.add_zero, Nat.reduceLeDiff, Nat.reduceEqDiff, eqV, eqAll, fillA, and_self, and_true, true_and, Nat.le_refl, Bool.not_true, Bool.not_false, Bool.false_xor, Bool.true_xor, cond_true, cond_false, List.replicate, if_false, reduceIte, resAll, resA, ne_eq, decide_not, decide_true, decide_false, Int.reduceEq, Bool.not_true, Bool.not_false, not_true_eq_false, not_false_eq_true, cond_bool, cond_int, beq_self_eq_true, Int.reduceBEq, Bool.and_self, Bool.and_false, Bool.false_and, Bool.xor_false, Bool.xor_true, loadN_ldC, ldC_none, ldC_somes, stC_aggs, splice, storeN_stC, stC_int, stC_bool, stC_ptr, stC_nilp, stC_sl, stC_nils, getC_gcO, gcO_cells, W_draw_eq, ↓W_scope, ev_clear, evT, evF, evX, evM, ↓exitQ_normal, ↓exitQ_ret, ↓exitQ_exit, saA_self, saO_self, if_pos, if_neg, wrapI, get_concat, set_concat, Int.toNat_natCast, Int.toNat_zero, List.nil_append, Nat.mul_one, decide_eq_true, decide_eq_false, Int.reduceLE, Int.reduceLT, Int.reduceNeg, Bool.false_or, Bool.true_or, Bool.or_false, Bool.or_true, wrapU, Int.reduceAdd, Int.reduceSub, Int.reduceMul, List.append_assoc, List.length_append, get_mid, get_mid0, set_mid, set_mid0, List.length_set, List.length_cons, List.length_nil, List.cons_append, List.getElem?_append_left, List.set_append_left, get_at, get_at0, set_at, set_at0, List.getElem?_set_self, List.getElem?_set_ne, b2, b6, hb0, hb1, a55, c_ref06_At, hat, hone, a53, c_ref06_Do]
          obtain ⟨G', hG, hpost⟩ := key w (by simp [xOf]) (m ++ [.cells 4 false [.int .i64 3, .int .i64 a, .int .u64 u, .int .u64 w], .cells 2 false [.int .i64 n, vi]]) (.bool true) (.bool false) (.bool false) (Keep.app m _) (by simp)
          refine OK_fn hG ?_
          rintro r M' hr
          obtain ⟨v', e', rfl, h1, h2, h3, h4⟩ := hpost r M' hr
          simp only [AV.one] at h2
          simp (disch := first | assumption | omega | (simp only [List.length_cons, List.length_nil, List.length_set, List.length_append] <;> omega) | (simp only [get_mid, get_mid0, List.cons_append, List.append_assoc, List.getElem?_cons_zero, List.getElem?_cons_succ])) only [ek, ↓evW, ↓evQ, evB, evS, evL, List.map, AV.cells, List.all, AV.one, Bool.and_true, Bool.true_and, if_true, ↓thenQ_normal, ↓thenQ_exit, ↓thenQ_ret, ↓blockQ_normal, ↓blockQ_ret, ↓blockQ_exit, ↓CW_true, ↓CW_false, CW_true, CW_false, condT, condF, RQ_some, tupA_one, tupA_two, tupA_nil, Nat.reduceSub, Nat.reduceAdd, Nat.reduceMul, Nat.zero_add, Nat.add_zero, Nat.reduceLeDiff, Nat.reduceEqDiff, eqV, eqAll, fillA, and_self, and_true, true_and, Nat.le_refl, Bool.not_true, Bool.not_false, Bool.false_xor, Bool.true_xor, cond_true, cond_false, List.replicate, if_false, reduceIte, resAll, resA, ne_eq, decide_not, decide_true, decide_false, Int.reduceEq, Bool.not_true, Bool.not_false, not_true_eq_false, not_false_eq_true, cond_bool, cond_int, beq_self_eq_true, Int.reduceBEq, Bool.and_self, Bool.and_false, Bool.false_and, Bool.xor_false, Bool.xor_true, loadN_ldC, ldC_none, ldC_somes, stC_aggs, splice, storeN_stC, stC_int, stC_bool, stC_ptr, stC_nilp, stC_sl, stC_nils, getC_gcO, gcO_cells, W_draw_eq, ↓W_scope, ev_clear, evT, evF, evX, evM, ↓exitQ_normal, ↓exitQ_ret, ↓exitQ_exit, saA_self, saO_self, if_pos, if_neg, wrapI, get_concat, set_concat, Int.toNat_natCast, Int.toNat_zero, List.nil_append, Nat.mul_one, decide_eq_true, decide_eq_false, Int.reduceLE, Int.reduceLT, Int.reduceNeg, Bool.false_or, Bool.true_or, Bool.or_false, Bool.or_true, wrapU, Int.reduceAdd, Int.reduceSub, Int.reduceMul, List.append_assoc, List.length_append, get_mid, get_mid0, set_mid, set_mid0, List.length_set, List.length_cons, List.length_nil, List.cons_append, List.getElem?_append_left, List.set_append_left, get_at, get_at0, set_at, set_at0, List.getElem?_set_self, List.getElem?_set_ne, h1, h2]
          exact h4
        · skip
          simp (disch := first | assumption | omega | (simp only [List.length_cons, List.length_nil, List.length_set, List.length_append] <;> omega) | (simp only [get_mid, get_mid0, List.cons_append, List.append_assoc, List.getElem?_cons_zero, List.getElem?_cons_succ])) only [ek, ↓evW, ↓evQ, evB, evS, evL, List.map, AV.cells, List.all, AV.one, Bool.and_true, Bool.true_and, if_true, ↓thenQ_normal, ↓thenQ_exit, ↓thenQ_ret, ↓blockQ_normal, ↓blockQ_ret, ↓blockQ_exit, ↓CW_true, ↓CW_false, CW_true, CW_false, condT, condF, RQ_some, tupA_one, tupA_two, tupA_nil, Nat.reduceSub, Nat.reduceAdd, Nat.reduceMul, Nat.zero_add, Nat.add_zero, Nat.reduceLeDiff, Nat.reduceEqDiff, eqV, eqAll, fillA, and_self, and_true, true_and, Nat.le_refl, Bool.not_true, Bool.not_false, Bool.false_xor, Bool.true_xor, cond_true, cond_false, List.replicate, if_false, reduceIte, resAll, resA, ne_eq, decide_not, decide_true, decide_false, Int.reduceEq, Bool.not_true, Bool.not_false, not_true_eq_false, not_false_eq_true, cond_bool, cond_int, beq_self_eq_true, Int.reduceBEq, Bool.and_self, Bool.and_false, Bool.false_and, Bool.xor_false, Bool.xor_true, loadN_ldC, ldC_none, ldC_somes, stC_aggs, splice, storeN_stC, stC_int, stC_bool, stC_ptr, stC_nilp, stC_sl, stC_nils, getC_gcO, gcO_cells, W_draw_eq, ↓W_scope, ev_clear, evT, evF, evX, evM, ↓exitQ_normal, ↓exitQ_ret, ↓exitQ_exit, saA_self, saO_self, if_pos, if_neg, wrapI, get_concat, set_concat, Int.toNat_natCast, Int.toNat_zero, List.nil_append, Nat.mul_one, decide_eq_true, decide_eq_false, Int.reduceLE, Int.reduceLT, Int.reduceNeg, Bool.false_or, Bool.true_or, Bool.or_false, Bool.or_true, wrapU, Int.reduceAdd, Int.reduceSub, Int.reduceMul, List.append_assoc, List.length_append, get_mid, get_mid0, set_mid, set_mid0, List.length_set, List.length_cons, List.length_nil, List.cons_append, List.getElem?_append_left, List.set_append_left, get_at, get_at0, set_at, set_at0, List.getElem?_set_self, List.getElem?_set_ne, b2, b6, hb0, hb1, a55, c_ref06_At, hat, hone, a53, c_ref06_Do]
          obtain ⟨G', hG, hpost⟩ := key (IntKind.u64.wrap (w - u)) (by simp [xOf]) (m ++ [.cells 4 false [.int .i64 4, .int .i64 a, .int .u64 u, .int .u64 w], .cells 2 false [.int .i64 n, vi]]) (.bool true) (.bool false) (.bool true) (Keep.app m _) (by simp)
          refine OK_fn hG ?_
          rintro r M' hr
          obtain ⟨v', e', rfl, h1, h2, h3, h4⟩ := hpost r M' hr
          simp only [AV.one] at h2
          simp (disch := first | assumption | omega | (simp only [List.length_cons, List.length_nil, List.length_set, List.length_append] <;> omega) | (simp only [get_mid, get_mid0, List.cons_append, List.append_assoc, List.getElem?_cons_zero, List.getElem?_cons_succ])) only [ek, ↓evW, ↓evQ, evB, evS, evL, List.map, AV.cells, List.all, AV.one, Bool.and_true, Bool.true_and, if_true, ↓thenQ_normal, ↓thenQ_exit, ↓thenQ_ret, ↓blockQ_normal, ↓blockQ_ret, ↓blockQ_exit, ↓CW_true, ↓CW_false, CW_true, CW_false, condT, condF, RQ_some, tupA_one, tupA_two, tupA_nil, Nat.reduceSub, Nat.reduceAdd, Nat.reduceMul, Nat.zero_add, Nat.add_zero, Nat.reduceLeDiff, Nat.reduceEqDiff, eqV, eqAll, fillA, and_self, and_true, true_and, Nat.le_refl, Bool.not_true, Bool.not_false, Bool.false_xor, Bool.true_xor, cond_true, cond_false, List.replicate, if_false, reduceIte, resAll, resA, ne_eq, decide_not, decide_true, decide_false, Int.reduceEq, Bool.not_true, Bool.not_false, not_true_eq_false, not_false_eq_true, cond_bool, cond_int, beq_self_eq_true, Int.reduceBEq, Bool.and_self, Bool.and_false, Bool.false_and, Bool.xor_false, Bool.xor_true, loadN_ldC, ldC_none, ldC_somes, stC_aggs, splice, storeN_stC, stC_int, stC_bool, stC_ptr, stC_nilp, stC_sl, stC_nils, getC_gcO, gcO_cells, W_draw_eq, ↓W_scope, ev_clear, evT, evF, evX, evM, ↓exitQ_normal, ↓exitQ_ret, ↓exitQ_exit, saA_self, saO_self, if_pos, if_neg, wrapI, get_concat, set_concat, Int.toNat_natCast, Int.toNat_zero, List.nil_append, Nat.mul_one, decide_eq_true, decide_eq_false, Int.reduceLE, Int.reduceLT, Int.reduceNeg, Bool.false_or, Bool.true_or, Bool.or_false, Bool.or_true, wrapU, Int.reduceAdd, Int.reduceSub, Int.reduceMul, List.append_assoc, List.length_append, get_mid, get_mid0, set_mid, set_mid0, List.length_set, List.length_cons, List.length_nil, List.cons_append, List.getElem?_append_left, List.set_append_left, get_at, get_at0, set_at, set_at0, List.getElem?_set_self, List.getElem?_set_ne, h1, h2]
          exact h4
    · have hbad : badE n ei ⟨k, a, o, w⟩ := by unfold badE; show k < 1 ∨ 4 < k ∨ a < 0 ∨ (n : Int) ≤ a ∨ _; omega
      simp only [redoL, if_pos hbad] at hres
      simp (disch := first | assumption | omega | (simp only [List.length_cons, List.length_nil, List.length_set, List.length_append] <;> omega) | (simp only [get_mid, get_mid0, List.cons_append, List.append_assoc, List.getElem?_cons_zero, List.getElem?_cons_succ])) only [ek, ↓evW, ↓evQ, evB, evS, evL, List.map, AV.cells, List.all, AV.one, Bool.and_true, Bool.true_and, if_true, ↓thenQ_normal, ↓thenQ_exit, ↓thenQ_ret, ↓blockQ_normal, ↓blockQ_ret, ↓blockQ_exit, ↓CW_true, ↓CW_false, CW_true, CW_false, condT, condF, RQ_some, tupA_one, tupA_two, tupA_nil, Nat.reduceSub, Nat.reduceAdd, Nat.reduceMul, Nat.zero_add, Nat.add_zero, Nat.reduceLeDiff, Nat.reduceEqDiff, eqV, eqAll, fillA, and_self, and_true, true_and, Nat.le_refl, Bool.not_true, Bool.not_false, Bool.false_xor, Bool.true_xor, cond_true, cond_false, List.replicate, if_false, reduceIte, resAll, resA, ne_eq, decide_not, decide_true, decide_false, Int.reduceEq, Bool.not_true, Bool.not_false, not_true_eq_false, not_false_eq_true, cond_bool, cond_int, beq_self_eq_true, Int.reduceBEq, Bool.and_self, Bool.and_false, Bool.false_and, Bool.xor_false, Bool.xor_true, loadN_ldC, ldC_none, ldC_somes, stC_aggs, splice, storeN_stC, stC_int, stC_bool, stC_ptr, stC_nilp, stC_sl, stC_nils, getC_gcO, gcO_cells, W_draw_eq, ↓W_scope, ev_clear, evT, evF, evX, evM, ↓exitQ_normal, ↓exitQ_ret, ↓exitQ_exit, saA_self, saO_self, if_pos, if_neg, wrapI, get_concat, set_concat, Int.toNat_natCast, Int.toNat_zero, List.nil_append, Nat.mul_one, decide_eq_true, decide_eq_false, Int.reduceLE, Int.reduceLT, Int.reduceNeg, Bool.false_or, Bool.true_or, Bool.or_false, Bool.or_true, wrapU, Int.reduceAdd, Int.reduceSub, Int.reduceMul, List.append_assoc, List.length_append, get_mid, get_mid0, set_mid, set_mid0, List.length_set, List.length_cons, List.length_nil, List.cons_append, List.getElem?_append_left, List.set_append_left, get_at, get_at0, set_at, set_at0, List.getElem?_set_self, List.getElem?_set_ne, b2, b6, hb0, hb1, hone]
      repeat' ((first | refine GK_of (fun h => ?_) (fun h => ?_) | refine CW_of (fun h => ?_) (fun h => ?_) | refine GKT_of (fun h => ?_) (fun h => ?_)) <;> (try simp only [Bool.not_eq_true', Bool.not_eq_false', decide_eq_true_eq, decide_eq_false_iff_not, Bool.and_eq_true, Bool.or_eq_true, Bool.and_eq_false_iff, Bool.or_eq_false_iff, Decidable.not_not] at h) <;> (try simp (disch := first | assumption | omega | (simp only [List.length_cons, List.length_nil, List.length_set, List.length_append] <;> omega) | (simp only [get_mid, get_mid0, List.cons_append, List.append_assoc, List.getElem?_cons_zero, List.getElem?_cons_succ])) only [ek, ↓evW, ↓evQ, evB, evS, evL, List.map, AV.cells, List.all, AV.one, Bool.and_true, Bool.true_and, if_true, ↓thenQ_normal, ↓thenQ_exit, ↓thenQ_ret, ↓blockQ_normal, ↓blockQ_ret, ↓blockQ_exit, ↓CW_true, ↓CW_false, CW_true, CW_false, condT, condF, RQ_some, tupA_one, tupA_two, tupA_nil, Nat.reduceSub, Nat.reduceAdd, Nat.reduceMul, Nat.zero_add, Nat.add_zero, Nat.reduceLeDiff, Nat.reduceEqDiff, eqV, eqAll, fillA, and_self, and_true, true_and, Nat.le_refl, Bool.not_true, Bool.not_false, Bool.false_xor, Bool.true_xor, cond_true, cond_false, List.replicate, if_false, reduceIte, resAll, resA, ne_eq, decide_not, decide_true, decide_false, Int.reduceEq, Bool.not_true, Bool.not_false, not_true_eq_false, not_false_eq_true, cond_bool, cond_int, beq_self_eq_true, Int.reduceBEq, Bool.and_self, Bool.and_false, Bool.false_and, Bool.xor_false, Bool.xor_true, loadN_ldC, ldC_none, ldC_somes, stC_aggs, splice, storeN_stC, stC_int, stC_bool, stC_ptr, stC_nilp, stC_sl, stC_nils, getC_gcO, gcO_cells, W_draw_eq, ↓W_scope, ev_clear, evT, evF, evX, evM, ↓exitQ_normal, ↓exitQ_ret, ↓exitQ_exit, saA_self, saO_self, if_pos, if_neg, wrapI, get_concat, set_concat, Int.toNat_natCast, Int.toNat_zero, List.nil_append, Nat.mul_one, decide_eq_true, decide_eq_false, Int.reduceLE, Int.reduceLT, Int.reduceNeg, Bool.false_or, Bool.true_or, Bool.or_false, Bool.or_true, wrapU, Int.reduceAdd, Int.reduceSub, Int.reduceMul, List.append_assoc, List.length_append, get_mid, get_mid0, set_mid, set_mid0, List.length_set, List.length_cons, List.length_nil, List.cons_append, List.getElem?_append_left, List.set_append_left, get_at, get_at0, set_at, set_at0, List.getElem?_set_self, List.getElem?_set_ne, b2, b6, hb0, hb1, hone]))
      all_goals (try (exfalso; omega))
      all_goals exact fin _ _ (by simpa using hres)
  · simp only [decide_eq_false_iff_not] at h
    have hie : i = l.length := by omega
    subst hie
    rw [List.drop_length] at hres
    simp only [redoL, Nat.add_zero] at hres
    simp only [bookC] at hb0
    simp (disch := first | assumption | omega | (simp only [List.length_cons, List.length_nil, List.length_set, List.length_append] <;> omega) | (simp only [get_mid, get_mid0, List.cons_append, List.append_assoc, List.getElem?_cons_zero, List.getElem?_cons_succ])) only [ek, ↓evW, ↓evQ, evB, evS, evL, List.map, AV.cells, List.all, AV.one, Bool.and_true, Bool.true_and, if_true, ↓thenQ_normal, ↓thenQ_exit, ↓thenQ_ret, ↓blockQ_normal, ↓blockQ_ret, ↓blockQ_exit, ↓CW_true, ↓CW_false, CW_true, CW_false, condT, condF, RQ_some, tupA_one, tupA_two, tupA_nil, Nat.reduceSub, Nat.reduceAdd, Nat.reduceMul, Nat.zero_add, Nat.add_zero, Nat.reduceLeDiff, Nat.reduceEqDiff, eqV, eqAll, fillA, and_self, and_true, true_and, Nat.le_refl, Bool.not_true, Bool.not_false, Bool.false_xor, Bool.true_xor, cond_true, cond_false, List.replicate, if_false, reduceIte, resAll, resA, ne_eq, decide_not, decide_true, decide_false, Int.reduceEq, Bool.not_true, Bool.not_false, not_true_eq_false, not_false_eq_true, cond_bool, cond_int, beq_self_eq_true, Int.reduceBEq, Bool.and_self, Bool.and_false, Bool.false_and, Bool.xor_false, Bool.xor_true, loadN_ldC, ldC_none, ldC_somes, stC_aggs, splice, storeN_stC, stC_int, stC_bool, stC_ptr, stC_nilp, stC_sl, stC_nils, getC_gcO, gcO_cells, W_draw_eq, ↓W_scope, ev_clear, evT, evF, evX, evM, ↓exitQ_normal, ↓exitQ_ret, ↓exitQ_exit, saA_self, saO_self, if_pos, if_neg, wrapI, get_concat, set_concat, Int.toNat_natCast, Int.toNat_zero, List.nil_append, Nat.mul_one, decide_eq_true, decide_eq_false, Int.reduceLE, Int.reduceLT, Int.reduceNeg, Bool.false_or, Bool.true_or, Bool.or_false, Bool.or_true, wrapU, Int.reduceAdd, Int.reduceSub, Int.reduceMul, List.append_assoc, List.length_append, get_mid, get_mid0, set_mid, set_mid0, List.length_set, List.length_cons, List.length_nil, List.cons_append, List.getElem?_append_left, List.set_append_left, get_at, get_at0, set_at, set_at0, List.getElem?_set_self, List.getElem?_set_ne, ev_len, hlen, hb0, hb1, hone]
    have := fin [] (.cells 2 false [.int .i64 n, vi]) (by rw [hres])
    rwa [List.append_nil] at this
end
end Go.Am.F06
