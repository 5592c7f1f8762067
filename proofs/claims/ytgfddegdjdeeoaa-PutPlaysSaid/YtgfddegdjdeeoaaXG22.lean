import Derived.Test.YtgfddegdjdeeoaaXG21
set_option linter.unusedSimpArgs false
set_option linter.unusedVariables false
section
namespace Go.Am.F09
open Go.Am.F06 Go.Am.F10
def okN (c : Cf) (p g : Int) : Prop := thereP c p ∧ 0 ≤ g
instance (c : Cf) (p g : Int) : Decidable (okN c p g) := by unfold okN; infer_instance
def ncC (c : Cf) (p g : Int) : Cf := if okN c p g then c else zeroC
def ncP (c : Cf) (p g : Int) : Int := if okN c p g then p else 0
def ncG (c : Cf) (p g : Int) : Int := if okN c p g then g else 0
def RnP (m : MM) (c : Cf) (p g : Int) (r : AV) (m' : MM) : Prop := Keep m m' ∧ ∃ hv, r = .agg (rpC (ncC c p g) (ncP c p g) (ncG c p g) (newS c p g) .nils hv) ∧ SI m' false (newS c p g).hs hv
set_option maxHeartbeats 8000000 in
theorem rpnew_run {m : MM} {c : Cf} {p g : Int} : Fn [(169, F10.c_ref09_There)] ref09_New [.agg (cfC c), .int .i64 p, .int .i64 g] m (RnP m c p g) := by
  have a169 : assoc [(169, F10.c_ref09_There (X := Ob))] 169 = some F10.c_ref09_There := rfl
  generalize [(169, F10.c_ref09_There (X := Ob))] = G at a169 ⊢
  have hr := fun K : MM => rthere_eq (m ++ K) c p
  simp only [cfC, List.append_assoc, List.cons_append, List.nil_append] at hr
  refine Fn_of rfl ?_
  by_cases h : thereP c p
  · simp only [decide_eq_true h] at hr
    by_cases hg : 0 ≤ g
    · have hk : okN c p g := ⟨h, hg⟩
      have hn : newS c p g = ⟨1, 0, [], [g]⟩ := if_pos hk
      unfold RnP ncC ncP ncG
      rw [hn, if_pos hk, if_pos hk, if_pos hk]
      simp (disch := first | assumption | omega | (simp only [List.length_cons, List.length_nil, List.length_set, List.length_append] <;> omega) | (simp only [get_mid, get_mid0, List.cons_append, List.append_assoc, List.getElem?_cons_zero, List.getElem?_cons_succ])) only [ref09_New, ek, ↓evW, ↓evQ, evB, evS, evL, List.map, AV.cells, List.all, AV.one, Bool.and_true, Bool.true_and, if_true, ↓thenQ_normal, ↓thenQ_exit, ↓thenQ_ret, ↓blockQ_normal, ↓blockQ_ret, ↓blockQ_exit, ↓CW_true, ↓CW_false, CW_true, CW_false, condT, condF, RQ_some, tupA_one, tupA_two, tupA_nil, Nat.reduceSub, Nat.reduceAdd, Nat.reduceMul, Nat.zero_add, Nat.add_zero, Nat.reduceLeDiff, Nat.reduceEqDiff, eqV, eqAll, fillA, and_self, and_true, true_and, Nat.le_refl, Bool.not_true, Bool.not_false, Bool.false_xor, Bool.true_xor, cond_true, cond_false, List.replicate, if_false, reduceIte, resAll, resA, ne_eq, decide_not, decide_true, decide_false, Int.reduceEq, Bool.not_true, Bool.not_false, not_true_eq_false, not_false_eq_true, cond_bool, cond_int, beq_self_eq_true, Int.reduceBEq, Bool.and_self, Bool.and_false, Bool.false_and, Bool.xor_false, Bool.xor_true, loadN_ldC, ldC_none, ldC_somes, stC_aggs, splice, storeN_stC, stC_int, stC_bool, stC_ptr, stC_nilp, stC_sl, stC_nils, getC_gcO, gcO_cells, W_draw_eq, ↓W_scope, ev_clear, evT, evF, evX, evM, ↓exitQ_normal, ↓exitQ_ret, ↓exitQ_exit, saA_self, saO_self, if_pos, if_neg, wrapI, get_concat, set_concat, Int.toNat_natCast, Int.toNat_zero, List.nil_append, Nat.mul_one, decide_eq_true, decide_eq_false, Int.reduceLE, Int.reduceLT, Int.reduceNeg, Bool.false_or, Bool.true_or, Bool.or_false, Bool.or_true, wrapU, Int.reduceAdd, Int.reduceSub, Int.reduceMul, List.append_assoc, List.length_append, get_mid, get_mid0, set_mid, set_mid0, List.length_set, List.length_cons, List.length_nil, List.cons_append, List.getElem?_append_left, List.set_append_left, get_at, get_at0, set_at, set_at0, List.getElem?_set_self, List.getElem?_set_ne, cfC, a169, hr, evA, fillA, repeatL, List.flatten_cons, List.flatten_nil]
      refine ⟨.app _ _, _, rfl, ⟨rfl, .inr ⟨_, _, _, rfl, fun _ => ⟨false, _, by rw [get_mid]; rfl, rfl, by simp, fun h => by cases h⟩⟩⟩⟩
    · have hk : ¬ okN c p g := fun h => hg h.2
      have hn : newS c p g = ⟨0, 0, [], []⟩ := if_neg hk
      unfold RnP ncC ncP ncG
      rw [hn, if_neg hk, if_neg hk, if_neg hk]
      simp (disch := first | assumption | omega | (simp only [List.length_cons, List.length_nil, List.length_set, List.length_append] <;> omega) | (simp only [get_mid, get_mid0, List.cons_append, List.append_assoc, List.getElem?_cons_zero, List.getElem?_cons_succ])) only [ref09_New, ek, ↓evW, ↓evQ, evB, evS, evL, List.map, AV.cells, List.all, AV.one, Bool.and_true, Bool.true_and, if_true, ↓thenQ_normal, ↓thenQ_exit, ↓thenQ_ret, ↓blockQ_normal, ↓blockQ_ret, ↓blockQ_exit, ↓CW_true, ↓CW_false, CW_true, CW_false, condT, condF, RQ_some, tupA_one, tupA_two, tupA_nil, Nat.reduceSub, Nat.reduceAdd, Nat.reduceMul, Nat.zero_add, Nat.add_zero, Nat.reduceLeDiff, Nat.reduceEqDiff, eqV, eqAll, fillA, and_self, and_true, true_and, Nat.le_refl, Bool.not_true, Bool.not_false, Bool.false_xor, Bool.true_xor, cond_true, cond_false, List.replicate, if_false, reduceIte, resAll, resA, ne_eq, decide_not, decide_true, decide_false, Int.reduceEq, Bool.not_true, Bool.not_false, not_true_eq_false, not_false_eq_true, cond_bool, cond_int, beq_self_eq_true, Int.reduceBEq, Bool.and_self, Bool.and_false, Bool.false_and, Bool.xor_false, Bool.xor_true, loadN_ldC, ldC_none, ldC_somes, stC_aggs, splice, storeN_stC, stC_int, stC_bool, stC_ptr, stC_nilp, stC_sl, stC_nils, getC_gcO, gcO_cells, W_draw_eq, ↓W_scope, ev_clear, evT, evF, evX, evM, ↓exitQ_normal, ↓exitQ_ret, ↓exitQ_exit, saA_self, saO_self, if_pos, if_neg, wrapI, get_concat, set_concat, Int.toNat_natCast, Int.toNat_zero, List.nil_append, Nat.mul_one, decide_eq_true, decide_eq_false, Int.reduceLE, Int.reduceLT, Int.reduceNeg, Bool.false_or, Bool.true_or, Bool.or_false, Bool.or_true, wrapU, Int.reduceAdd, Int.reduceSub, Int.reduceMul, List.append_assoc, List.length_append, get_mid, get_mid0, set_mid, set_mid0, List.length_set, List.length_cons, List.length_nil, List.cons_append, List.getElem?_append_left, List.set_append_left, get_at, get_at0, set_at, set_at0, List.getElem?_set_self, List.getElem?_set_ne, cfC, a169, hr]
      exact ⟨.app _ _, .nils, rfl, Sl.nil⟩
  · simp only [decide_eq_false h] at hr
    have hk : ¬ okN c p g := fun hh => h hh.1
    have hn : newS c p g = ⟨0, 0, [], []⟩ := if_neg hk
    unfold RnP ncC ncP ncG
    rw [hn, if_neg hk, if_neg hk, if_neg hk]
    simp (disch := first | assumption | omega | (simp only [List.length_cons, List.length_nil, List.length_set, List.length_append] <;> omega) | (simp only [get_mid, get_mid0, List.cons_append, List.append_assoc, List.getElem?_cons_zero, List.getElem?_cons_succ])) only [ref09_New, ek, ↓evW, ↓evQ, evB, evS, evL, List.map, AV.cells, List.all, AV.one, Bool.and_true, Bool.true_and, if_true, ↓thenQ_normal, ↓thenQ_exit, ↓thenQ_ret, ↓blockQ_normal, ↓blockQ_ret, ↓blockQ_exit, ↓CW_true, ↓CW_false, CW_true, CW_false, condT, condF, RQ_some, tupA_one, tupA_two, tupA_nil, Nat.reduceSub, Nat.reduceAdd, Nat.reduceMul, Nat.zero_add, Nat.add_zero, Nat.reduceLeDiff, Nat.reduceEqDiff, eqV, eqAll, fillA, and_self, and_true, true_and, Nat.le_refl, Bool.not_true, Bool.not_false, Bool.false_xor, Bool.true_xor, cond_true, cond_false, List.replicate, if_false, reduceIte, resAll, resA, ne_eq, decide_not, decide_true, decide_false, Int.reduceEq, Bool.not_true, Bool.not_false, not_true_eq_false, not_false_eq_true, cond_bool, cond_int, beq_self_eq_true, Int.reduceBEq, Bool.and_self, Bool.and_false, Bool.false_and, Bool.xor_false, Bool.xor_true, loadN_ldC, ldC_none, ldC_somes, stC_aggs, splice, storeN_stC, stC_int, stC_bool, stC_ptr, stC_nilp, stC_sl, stC_nils, getC_gcO, gcO_cells, W_draw_eq, ↓W_scope, ev_clear, evT, evF, evX, evM, ↓exitQ_normal, ↓exitQ_ret, ↓exitQ_exit, saA_self, saO_self, if_pos, if_neg, wrapI, get_concat, set_concat, Int.toNat_natCast, Int.toNat_zero, List.nil_append, Nat.mul_one, decide_eq_true, decide_eq_false, Int.reduceLE, Int.reduceLT, Int.reduceNeg, Bool.false_or, Bool.true_or, Bool.or_false, Bool.or_true, wrapU, Int.reduceAdd, Int.reduceSub, Int.reduceMul, List.append_assoc, List.length_append, get_mid, get_mid0, set_mid, set_mid0, List.length_set, List.length_cons, List.length_nil, List.cons_append, List.getElem?_append_left, List.set_append_left, get_at, get_at0, set_at, set_at0, List.getElem?_set_self, List.getElem?_set_ne, cfC, a169, hr]
    exact ⟨.app _ _, .nils, rfl, Sl.nil⟩
def Gpk : List (Nat × AFun Ob) := [(87, F10.c_kit_Pick), (22, memF storeS), (65, F06.c_ref06_Store)]
def PkP (m : MM) (j : Nat) (x : Pk) (xs : List Int) (o : Int) (r : AV) (m' : MM) : Prop := KeepB j m m' ∧ ∃ v' xs' o' st', r = .agg (memC v' o') ∧ SU m' false xs' v' ∧ m'[j]? = some (.abs (.mem st')) ∧ RelM xs' o' st' ∧ (∀ c, OkL c xs → W64 x.v → OkL c xs') ∧ o ≤ o' ∧ o' ≤ o + 1
set_option maxHeartbeats 8000000 in
theorem poked_run {m : MM} {wr : Bool} {j : Nat} {x : Pk} {xs : List Int} {o : Int} {v : AV} {st : MemSt} (hj : m[j]? = some (.abs (.mem st))) (hr : RelM xs o st) (hs : SU m wr xs v) (hn : xs.length ≤ 65536) (h0 : 0 ≤ o) (h1 : o ≤ 10000) :
    Fn Gpk law09_poked [.ptr j 0, .agg (memC v o), .agg (pkC x)] m (PkP m j x xs o) := by
  have a87 : assoc Gpk 87 = some F10.c_kit_Pick := rfl
  have a22 : assoc Gpk 22 = some (memF storeS) := rfl
  have a65 : assoc Gpk 65 = some F06.c_ref06_Store := rfl
  generalize Gpk = G at a87 a22 a65 ⊢
  have hone := slOne hs
  simp only [AV.one] at hone
  have hlen := hs.len
  have lj : j < m.length := (List.getElem?_eq_some_iff.1 hj).1
  have same : ∀ K : MM, PkP m j x xs o (.agg (memC v o)) (m ++ K) := fun K => ⟨.of (.app _ _), v, xs, o, st, rfl, (hs.keep (.app _ _)).ro, (Keep.app m K).get hj, hr, fun _ h _ => h, by omega, by omega⟩
  simp only [memC] at same
  refine Fn_of rfl ?_
  cases hd : x.d with
  | false =>
    simp (disch := first | assumption | omega | (simp only [List.length_cons, List.length_nil, List.length_set, List.length_append] <;> omega) | (simp only [get_mid, get_mid0, List.cons_append, List.append_assoc, List.getElem?_cons_zero, List.getElem?_cons_succ])) only [law09_poked, ek, ↓evW, ↓evQ, evB, evS, evL, List.map, AV.cells, List.all, AV.one, Bool.and_true, Bool.true_and, if_true, ↓thenQ_normal, ↓thenQ_exit, ↓thenQ_ret, ↓blockQ_normal, ↓blockQ_ret, ↓blockQ_exit, ↓CW_true, ↓CW_false, CW_true, CW_false, condT, condF, RQ_some, tupA_one, tupA_two, tupA_nil, Nat.reduceSub, Nat.reduceAdd, Nat.reduceMul, Nat.zero_add, Nat.add_zero, Nat.reduceLeDiff, Nat.reduceEqDiff, eqV, eqAll, fillA, and_self, and_true, true_and, Nat.le_refl, Bool.not_true, Bool.not_false, Bool.false_xor, Bool.true_xor, cond_true, cond_false, List.replicate, if_false, reduceIte, resAll, resA, ne_eq, decide_not, decide_true, decide_false, Int.reduceEq, Bool.not_true, Bool.not_false, not_true_eq_false, not_false_eq_true, cond_bool, cond_int, beq_self_eq_true, Int.reduceBEq, Bool.and_self, Bool.and_false, Bool.false_and, Bool.xor_false, Bool.xor_true, loadN_ldC, ldC_none, ldC_somes, stC_aggs, splice, storeN_stC, stC_int, stC_bool, stC_ptr, stC_nilp, stC_sl, stC_nils, getC_gcO, gcO_cells, W_draw_eq, ↓W_scope, ev_clear, evT, evF, evX, evM, ↓exitQ_normal, ↓exitQ_ret, ↓exitQ_exit, saA_self, saO_self, if_pos, if_neg, wrapI, get_concat, set_concat, Int.toNat_natCast, Int.toNat_zero, List.nil_append, Nat.mul_one, decide_eq_true, decide_eq_false, Int.reduceLE, Int.reduceLT, Int.reduceNeg, Bool.false_or, Bool.true_or, Bool.or_false, Bool.or_true, wrapU, Int.reduceAdd, Int.reduceSub, Int.reduceMul, List.append_assoc, List.length_append, get_mid, get_mid0, set_mid, set_mid0, List.length_set, List.length_cons, List.length_nil, List.cons_append, List.getElem?_append_left, List.set_append_left, get_at, get_at0, set_at, set_at0, List.getElem?_set_self, List.getElem?_set_ne, memC, pkC, hone, hd]
    exact same _
  | true =>
    rcases Nat.eq_zero_or_pos xs.length with hz | hz
    · rw [hz] at hlen
      simp (disch := first | assumption | omega | (simp only [List.length_cons, List.length_nil, List.length_set, List.length_append] <;> omega) | (simp only [get_mid, get_mid0, List.cons_append, List.append_assoc, List.getElem?_cons_zero, List.getElem?_cons_succ])) only [law09_poked, ek, ↓evW, ↓evQ, evB, evS, evL, List.map, AV.cells, List.all, AV.one, Bool.and_true, Bool.true_and, if_true, ↓thenQ_normal, ↓thenQ_exit, ↓thenQ_ret, ↓blockQ_normal, ↓blockQ_ret, ↓blockQ_exit, ↓CW_true, ↓CW_false, CW_true, CW_false, condT, condF, RQ_some, tupA_one, tupA_two, tupA_nil, Nat.reduceSub, Nat.reduceAdd, Nat.reduceMul, Nat.zero_add, Nat.add_zero, Nat.reduceLeDiff, Nat.reduceEqDiff, eqV, eqAll, fillA, and_self, and_true, true_and, Nat.le_refl, Bool.not_true, Bool.not_false, Bool.false_xor, Bool.true_xor, cond_true, cond_false, List.replicate, if_false, reduceIte, resAll, resA, ne_eq, decide_not, decide_true, decide_false, Int.reduceEq, Bool.not_true, Bool.not_false, not_true_eq_false, not_false_eq_true, cond_bool, cond_int, beq_self_eq_true, Int.reduceBEq, Bool.and_self, Bool.and_false, Bool.false_and, Bool.xor_false, Bool.xor_true, loadN_ldC, ldC_none, ldC_somes, stC_aggs, splice, storeN_stC, stC_int, stC_bool, stC_ptr, stC_nilp, stC_sl, stC_nils, getC_gcO, gcO_cells, W_draw_eq, ↓W_scope, ev_clear, evT, evF, evX, evM, ↓exitQ_normal, ↓exitQ_ret, ↓exitQ_exit, saA_self, saO_self, if_pos, if_neg, wrapI, get_concat, set_concat, Int.toNat_natCast, Int.toNat_zero, List.nil_append, Nat.mul_one, decide_eq_true, decide_eq_false, Int.reduceLE, Int.reduceLT, Int.reduceNeg, Bool.false_or, Bool.true_or, Bool.or_false, Bool.or_true, wrapU, Int.reduceAdd, Int.reduceSub, Int.reduceMul, List.append_assoc, List.length_append, get_mid, get_mid0, set_mid, set_mid0, List.length_set, List.length_cons, List.length_nil, List.cons_append, List.getElem?_append_left, List.set_append_left, get_at, get_at0, set_at, set_at0, List.getElem?_set_self, List.getElem?_set_ne, memC, pkC, hone, hd, ev_len, hlen, Int.ofNat_zero]
      exact same _
    · have hpick := fun m : MM => F10.pick_eq m x.a xs.length (by omega) (by omega)
      have hm0 := Int.emod_nonneg x.a (b := (xs.length : Int)) (by omega)
      have hm1 := Int.emod_lt_of_pos x.a (b := (xs.length : Int)) (by omega)
      have hthr : thr xs (x.a % (xs.length : Int)) := ⟨hm0, hm1⟩
      obtain ⟨st9, r9, _, f22, _⟩ := hr.storeE hthr x.v
      have f22' := fun K => f22 m K j hj
      simp (disch := first | assumption | omega | (simp only [List.length_cons, List.length_nil, List.length_set, List.length_append] <;> omega) | (simp only [get_mid, get_mid0, List.cons_append, List.append_assoc, List.getElem?_cons_zero, List.getElem?_cons_succ])) only [law09_poked, ek, ↓evW, ↓evQ, evB, evS, evL, List.map, AV.cells, List.all, AV.one, Bool.and_true, Bool.true_and, if_true, ↓thenQ_normal, ↓thenQ_exit, ↓thenQ_ret, ↓blockQ_normal, ↓blockQ_ret, ↓blockQ_exit, ↓CW_true, ↓CW_false, CW_true, CW_false, condT, condF, RQ_some, tupA_one, tupA_two, tupA_nil, Nat.reduceSub, Nat.reduceAdd, Nat.reduceMul, Nat.zero_add, Nat.add_zero, Nat.reduceLeDiff, Nat.reduceEqDiff, eqV, eqAll, fillA, and_self, and_true, true_and, Nat.le_refl, Bool.not_true, Bool.not_false, Bool.false_xor, Bool.true_xor, cond_true, cond_false, List.replicate, if_false, reduceIte, resAll, resA, ne_eq, decide_not, decide_true, decide_false, Int.reduceEq, Bool.not_true, Bool.not_false, not_true_eq_false, not_false_eq_true, cond_bool, cond_int, beq_self_eq_true, Int.reduceBEq, Bool.and_self, Bool.and_false, Bool.false_and, Bool.xor_false, Bool.xor_true, loadN_ldC, ldC_none, ldC_somes, stC_aggs, splice, storeN_stC, stC_int, stC_bool, stC_ptr, stC_nilp, stC_sl, stC_nils, getC_gcO, gcO_cells, W_draw_eq, ↓W_scope, ev_clear, evT, evF, evX, evM, ↓exitQ_normal, ↓exitQ_ret, ↓exitQ_exit, saA_self, saO_self, if_pos, if_neg, wrapI, get_concat, set_concat, Int.toNat_natCast, Int.toNat_zero, List.nil_append, Nat.mul_one, decide_eq_true, decide_eq_false, Int.reduceLE, Int.reduceLT, Int.reduceNeg, Bool.false_or, Bool.true_or, Bool.or_false, Bool.or_true, wrapU, Int.reduceAdd, Int.reduceSub, Int.reduceMul, List.append_assoc, List.length_append, get_mid, get_mid0, set_mid, set_mid0, List.length_set, List.length_cons, List.length_nil, List.cons_append, List.getElem?_append_left, List.set_append_left, get_at, get_at0, set_at, set_at0, List.getElem?_set_self, List.getElem?_set_ne, memC, pkC, hone, hd, ev_len, hlen, a87, hpick, a22, f22', a65, F06.c_ref06_Store]
      have nj : ∀ ro L, m[j]? ≠ some (.cells 1 ro L) := fun ro L h => by rw [hj] at h; cases h
      have hst := fun K : MM => refstore_run ((Sl.put hs nj (.abs (.mem st9))).keep (Keep.app _ K)) (by omega) o (x.a % (xs.length : Int)) x.v
      simp only [memC] at hst
      refine OK_fn (hst _) ?_
      rintro _ m1 ⟨k1, v', rfl, s1⟩
      simp only [if_pos hthr] at s1 ⊢
      have hl := k1.1
      simp only [List.length_append, List.length_set, List.length_cons, List.length_nil] at hl
      have g2 := k1.get (i := m.length + 2) (c := .cells 2 false [.nils, .int .u64 0]) (by rw [show m.length + 2 = (m.set j (.abs (.mem st9))).length + 2 by simp, get_mid]; rfl)
      have gj := k1.get (i := j) (c := .abs (.mem st9)) (by rw [List.getElem?_append_left (by simpa using lj), List.getElem?_set_self lj])
      have l2 : m.length + 2 < m1.length := (List.getElem?_eq_some_iff.1 g2).1
      have hone' := slOne s1
      simp only [AV.one] at hone'
      have hw : IntKind.u64.wrap (o + 1) = o + 1 := wrapU (by omega) (by omega)
      rw [hw] at r9
      simp (disch := first | assumption | omega | (simp only [List.length_cons, List.length_nil, List.length_set, List.length_append] <;> omega) | (simp only [get_mid, get_mid0, List.cons_append, List.append_assoc, List.getElem?_cons_zero, List.getElem?_cons_succ])) only [ek, ↓evW, ↓evQ, evB, evS, evL, List.map, AV.cells, List.all, AV.one, Bool.and_true, Bool.true_and, if_true, ↓thenQ_normal, ↓thenQ_exit, ↓thenQ_ret, ↓blockQ_normal, ↓blockQ_ret, ↓blockQ_exit, ↓CW_true, ↓CW_false, CW_true, CW_false, condT, condF, RQ_some, tupA_one, tupA_two, tupA_nil, Nat.reduceSub, Nat.reduceAdd, Nat.reduceMul, Nat.zero_add, Nat.add_zero, Nat.reduceLeDiff, Nat.reduceEqDiff, eqV, eqAll, fillA, and_self, and_true, true_and, Nat.le_refl, Bool.not_true, Bool.not_false, Bool.false_xor, Bool.true_xor, cond_true, cond_false, List.replicate, if_false, reduceIte, resAll, resA, ne_eq, decide_not, decide_true, decide_false, Int.reduceEq, Bool.not_true, Bool.not_false, not_true_eq_false, not_false_eq_true, cond_bool, cond_int, beq_self_eq_true, Int.reduceBEq, Bool.and_self, Bool.and_false, Bool.false_and, Bool.xor_false, Bool.xor_true, loadN_ldC, ldC_none, ldC_somes, stC_aggs, splice, storeN_stC, stC_int, stC_bool, stC_ptr, stC_nilp, stC_sl, stC_nils, getC_gcO, gcO_cells, W_draw_eq, ↓W_scope, ev_clear, evT, evF, evX, evM, ↓exitQ_normal, ↓exitQ_ret, ↓exitQ_exit, saA_self, saO_self, if_pos, if_neg, wrapI, get_concat, set_concat, Int.toNat_natCast, Int.toNat_zero, List.nil_append, Nat.mul_one, decide_eq_true, decide_eq_false, Int.reduceLE, Int.reduceLT, Int.reduceNeg, Bool.false_or, Bool.true_or, Bool.or_false, Bool.or_true, wrapU, Int.reduceAdd, Int.reduceSub, Int.reduceMul, List.append_assoc, List.length_append, get_mid, get_mid0, set_mid, set_mid0, List.length_set, List.length_cons, List.length_nil, List.cons_append, List.getElem?_append_left, List.set_append_left, get_at, get_at0, set_at, set_at0, List.getElem?_set_self, List.getElem?_set_ne, memC, g2, hone', hw]
      refine ⟨⟨by simp only [List.length_set]; omega, fun i hi hne => ?_⟩, v', _, o + 1, st9, rfl, Sl.put s1 (fun ro L h => by rw [g2] at h; cases h) _, ?_, r9, fun c hc hv => hc.set _ hv, by omega, by omega⟩
      · rw [List.getElem?_set_ne (by omega), k1.2 i (by simp; omega), List.getElem?_append_left (by simpa using hi), List.getElem?_set_ne (fun h => hne h.symm)]
      · rw [List.getElem?_set_ne (by omega)]; exact gj
theorem si_put {m : MM} {xs : List Int} {q o n : Nat} {cap : Option Nat} {L : List AV} (h : SI m true xs (.sl q o n cap)) (hq : m[q]? = some (.cells 1 false L)) {i : Nat} (hi : i < xs.length) (x : Int) : SI (m.set q (.cells 1 false (L.set (o + i) (.int .i64 x)))) true (xs.set i x) (.sl q o n cap) := by
  obtain ⟨hlen, hsl⟩ := h
  rcases hsl with ⟨h, _⟩ | ⟨q', o', cap', h, h5⟩
  · cases h
  · injection h with e1 e2 e3 e4; subst e1; subst e2; subst e3; subst e4
    obtain ⟨ro, L', d1, d2, d3, d4⟩ := h5 (by omega)
    rw [hq] at d1; injection d1 with d1; injection d1 with _ _ d1; subst d1
    refine ⟨by simp [iC_len], .inr ⟨q, o, cap, by rw [List.length_set], fun _ => ⟨false, _, List.getElem?_set_self (List.getElem?_eq_some_iff.1 hq).1, ?_, by simpa using d3, fun _ => rfl⟩⟩⟩
    rw [List.length_set, List.drop_set, if_neg (by omega), List.take_set, d2, iC, iC, List.map_set]
    congr 1; omega
end Go.Am.F09
end
section
namespace Go.Am.F09
open Go.Am.F06 Go.Am.F10
def Gpy : List (Nat × AFun Ob) := [(184, pureF worksG), (134, F10.c_docs_Filled), (135, amFunc F10.Gmem F10.docs_Mem), (185, c_put_New), (147, F10.c_docs_Config), (189, c_ref09_New), (190, amFunc Gpo put_Put_Hands), (187, amFunc Gpo put_Put_Over), (84, F10.c_kit_SameInts), (191, c_put_Put_Done), (68, amFunc F10.Gsmem F10.docs_SameMem), (46, memF fun s rest => (opsAsk s rest).map fun v => (v, s)), (192, amFunc Grp ref09_Step), (186, amFunc Gpst put_Put_Step), (193, amFunc Gpk law09_poked)]
def pyB : AC := match sqN 4 law09_PutPlays.body with | .seq _ (.block _ (.loop b)) => b | _ => .skip
def pyC : AC := match pyB with | .seq c _ => c | _ => .skip
def pyX : AC := match pyB with | .seq _ (.seq (.block _ r) _) => r | _ => .skip
def pyI : AC := match pyB with | .seq _ (.seq _ i) => i | _ => .skip
def pyT : AC := sqN 2 pyX
def pyU : AC := sqT 3 pyX
def pyE : AC := sqT 5 law09_PutPlays.body
theorem pplays_body : law09_PutPlays = { nloc := 31, npar := 5, res := [.loc 6], body := .seq (sqN 0 law09_PutPlays.body) (.seq (sqN 1 law09_PutPlays.body) (.seq (sqN 2 law09_PutPlays.body) (.seq (sqN 3 law09_PutPlays.body) (.seq (.seq (.region [⟨.mov, [.c (.int .i64 0)], some 11, none⟩]) (.block 0 (.loop (.seq pyC (.seq (.block 1 (.seq (sqN 0 pyX) (.seq (sqN 1 pyX) (.seq pyT pyU)))) pyI))))) pyE)))) } := rfl
structure Fl (mm M : MM) (n : Nat) (h : AV) (B : Nat) : Prop where
  keep : Keep mm M
  row : ∃ ys : List Int, ys.length = n ∧ SI M true ys h
  lo : Fr mm.length h
  hi : ∀ q o cap, h = .sl q o n cap → 0 < n → q < B
  len : lenA h = some n
theorem Fl.put {mm M : MM} {n : Nat} {h : AV} {B k : Nat} (hf : Fl mm M n h B) (hk : k < n) (x : Int) : ∃ q o cap L, h = .sl q o n cap ∧ M[q]? = some (.cells 1 false L) ∧ o + k < L.length ∧ mm.length ≤ q ∧ q < B ∧ Fl mm (M.set q (.cells 1 false (L.set (o + k) (.int .i64 x)))) n h B := by
  obtain ⟨hk0, ⟨ys, rfl, hs⟩, hlo, hhi, hln⟩ := hf
  obtain ⟨q, o, cap, ro, L, rfl, h2, h3, h4, h5⟩ := hs.at (by omega)
  have := h5 rfl
  subst this
  have hq : mm.length ≤ q := by
    rcases hlo with h | ⟨_, _, _, _, h, h'⟩
    · cases h
    · injection h with e1; omega
  exact ⟨q, o, cap, L, rfl, h2, by omega, hq, hhi _ _ _ rfl (by omega), hk0.set hq _, ⟨ys.set k x, by simp, si_put hs h2 hk x⟩, hlo, hhi, hln⟩
def PtE (c0 : Cf) (p g : Int) (bv lv : AV) (cb j rb xj yb i : Nat) (ov : AV) (e : List AV) : Prop := ∃ z13 z14 z15 z16 z17 z18 z19 z20 z21 z22 z23 z24 z25 z26 z27 z28 z29 z30 : AV,
  e = [.agg (cfC c0), .int .i64 p, .int .i64 g, bv, lv, .ptr cb 0, .bool false, .ptr j 0, .ptr rb 0, .ptr xj 0, .ptr yb 0, .int .i64 i, ov, z13, z14, z15, z16, z17, z18, z19, z20, z21, z22, z23, z24, z25, z26, z27, z28, z29, z30]
def PtI (m0 : MM) (c0 : Cf) (p g : Int) (bv lv : AV) (cb j rb xj yb i : Nat) (ov : AV) (k : Nat) (e : List AV) (m : MM) : Prop := ∃ (t : Nat) (z14 z15 z16 z17 z18 z19 z20 z21 z22 z23 z24 z25 z26 z27 z28 z29 z30 : AV),
  e = [.agg (cfC c0), .int .i64 p, .int .i64 g, bv, lv, .ptr cb 0, .bool false, .ptr j 0, .ptr rb 0, .ptr xj 0, .ptr yb 0, .int .i64 i, ov, .int .i64 t, z14, z15, z16, z17, z18, z19, z20, z21, z22, z23, z24, z25, z26, z27, z28, z29, z30] ∧ k = 2 - t ∧ t ≤ 2 ∧ Keep m0 m
def FhI (mm M1 : MM) (c0 : Cf) (p g : Int) (bv lv : AV) (cb j rb xj yb i t n : Nat) (ov h o : AV) (B : Nat) (k : Nat) (e : List AV) (m : MM) : Prop := ∃ (u : Nat) (z17 z18 z19 z20 z21 z22 z23 z24 z25 z26 z27 z28 z29 z30 : AV),
  e = [.agg (cfC c0), .int .i64 p, .int .i64 g, bv, lv, .ptr cb 0, .bool false, .ptr j 0, .ptr rb 0, .ptr xj 0, .ptr yb 0, .int .i64 i, ov, .int .i64 t, h, o, .int .i64 u, z17, z18, z19, z20, z21, z22, z23, z24, z25, z26, z27, z28, z29, z30] ∧ k = n - u ∧ u ≤ n ∧ Fl mm m n h B ∧ M1.length ≤ m.length ∧ ∀ a, a < M1.length → B ≤ a → m[a]? = M1[a]?
def FoI (mm : MM) (c0 : Cf) (p g : Int) (bv lv : AV) (cb j rb xj yb i t n : Nat) (ov h o z16 : AV) (B : Nat) (k : Nat) (e : List AV) (m : MM) : Prop := ∃ (u : Nat) (z18 z19 z20 z21 z22 z23 z24 z25 z26 z27 z28 z29 z30 : AV),
  e = [.agg (cfC c0), .int .i64 p, .int .i64 g, bv, lv, .ptr cb 0, .bool false, .ptr j 0, .ptr rb 0, .ptr xj 0, .ptr yb 0, .int .i64 i, ov, .int .i64 t, h, o, z16, .int .i64 u, z18, z19, z20, z21, z22, z23, z24, z25, z26, z27, z28, z29, z30] ∧ k = n - u ∧ u ≤ n ∧ Fl mm m n o B
set_option maxHeartbeats 16000000 in
theorem pyT_run {m : MM} {c0 c c' : Cf} {p g p1 p' g1 g' : Int} {bv lv ov tv hv ytv yhv : AV} {cb j rb xj yb i qt : Nat} {s : PS} {z13 z14 z15 z16 z17 z18 z19 z20 z21 z22 z23 z24 z25 z26 z27 z28 z29 z30 : AV}
    (hpm : PM m xj c p1 g1 s qt tv hv) (hy : m[yb]? = some (.cells 12 false (rpC c' p' g' s ytv yhv))) (hyh : SI m false s.hs yhv) (hl : s.hs.length ≤ 100) (hov : SI m false (if s.a = 0 then s.hs else []) ov) :
    W Gpy pyT (fun x e m' => x = .normal ∧ Keep m m' ∧ PtE c0 p g bv lv cb j rb xj yb i ov e) [.agg (cfC c0), .int .i64 p, .int .i64 g, bv, lv, .ptr cb 0, .bool false, .ptr j 0, .ptr rb 0, .ptr xj 0, .ptr yb 0, .int .i64 i, ov, z13, z14, z15, z16, z17, z18, z19, z20, z21, z22, z23, z24, z25, z26, z27, z28, z29, z30] m := by
  have a190 : assoc Gpy 190 = some (amFunc Gpo put_Put_Hands) := rfl
  have a187 : assoc Gpy 187 = some (amFunc Gpo put_Put_Over) := rfl
  have a84 : assoc Gpy 84 = some F10.c_kit_SameInts := rfl
  have hse : F10.c_kit_SameInts (X := Ob) = amFunc [] F10.kit_SameInts := rfl
  have hl2 : (if s.a = 0 then s.hs else []).length ≤ 100 := by
    split
    · exact hl
    · simp
  generalize Gpy = G at a190 a187 a84 ⊢
  simp (disch := first | assumption | omega | (simp only [List.length_cons, List.length_nil, List.length_set, List.length_append] <;> omega) | (simp only [get_mid, get_mid0, List.cons_append, List.append_assoc, List.getElem?_cons_zero, List.getElem?_cons_succ])) only [pyT, pyX, pyB, sqN, law09_PutPlays, ek, ↓evW, ↓evQ, evB, evS, evL, List.map, AV.cells, List.all, AV.one, Bool.and_true, Bool.true_and, if_true, ↓thenQ_normal, ↓thenQ_exit, ↓thenQ_ret, ↓blockQ_normal, ↓blockQ_ret, ↓blockQ_exit, ↓CW_true, ↓CW_false, CW_true, CW_false, condT, condF, RQ_some, tupA_one, tupA_two, tupA_nil, Nat.reduceSub, Nat.reduceAdd, Nat.reduceMul, Nat.zero_add, Nat.add_zero, Nat.reduceLeDiff, Nat.reduceEqDiff, eqV, eqAll, fillA, and_self, and_true, true_and, Nat.le_refl, Bool.not_true, Bool.not_false, Bool.false_xor, Bool.true_xor, cond_true, cond_false, List.replicate, if_false, reduceIte, resAll, resA, ne_eq, decide_not, decide_true, decide_false, Int.reduceEq, Bool.not_true, Bool.not_false, not_true_eq_false, not_false_eq_true, cond_bool, cond_int, beq_self_eq_true, Int.reduceBEq, Bool.and_self, Bool.and_false, Bool.false_and, Bool.xor_false, Bool.xor_true, loadN_ldC, ldC_none, ldC_somes, stC_aggs, splice, storeN_stC, stC_int, stC_bool, stC_ptr, stC_nilp, stC_sl, stC_nils, getC_gcO, gcO_cells, W_draw_eq, ↓W_scope, ev_clear, evT, evF, evX, evM, ↓exitQ_normal, ↓exitQ_ret, ↓exitQ_exit, saA_self, saO_self, if_pos, if_neg, wrapI, get_concat, set_concat, Int.toNat_natCast, Int.toNat_zero, List.nil_append, Nat.mul_one, decide_eq_true, decide_eq_false, Int.reduceLE, Int.reduceLT, Int.reduceNeg, Bool.false_or, Bool.true_or, Bool.or_false, Bool.or_true, wrapU, Int.reduceAdd, Int.reduceSub, Int.reduceMul, List.append_assoc, List.length_append, get_mid, get_mid0, set_mid, set_mid0, List.length_set, List.length_cons, List.length_nil, List.cons_append, List.getElem?_append_left, List.set_append_left, get_at, get_at0, set_at, set_at0, List.getElem?_set_self, List.getElem?_set_ne]
  refine W_loop (PtI m c0 p g bv lv cb j rb xj yb i ov) 2 (by simp only [FUEL]; omega) ⟨0, _, _, _, _, _, _, _, _, _, _, _, _, _, _, _, _, _, rfl, rfl, by omega, .refl _⟩ ?_
  rintro k e mm ⟨t, y14, y15, y16, y17, y18, y19, y20, y21, y22, y23, y24, y25, y26, y27, y28, y29, y30, rfl, rfl, ht, hk⟩
  rcases Nat.lt_or_ge t 2 with h2 | h2
  · simp (disch := first | assumption | omega | (simp only [List.length_cons, List.length_nil, List.length_set, List.length_append] <;> omega) | (simp only [get_mid, get_mid0, List.cons_append, List.append_assoc, List.getElem?_cons_zero, List.getElem?_cons_succ])) only [ek, ↓evW, ↓evQ, evB, evS, evL, List.map, AV.cells, List.all, AV.one, Bool.and_true, Bool.true_and, if_true, ↓thenQ_normal, ↓thenQ_exit, ↓thenQ_ret, ↓blockQ_normal, ↓blockQ_ret, ↓blockQ_exit, ↓CW_true, ↓CW_false, CW_true, CW_false, condT, condF, RQ_some, tupA_one, tupA_two, tupA_nil, Nat.reduceSub, Nat.reduceAdd, Nat.reduceMul, Nat.zero_add, Nat.add_zero, Nat.reduceLeDiff, Nat.reduceEqDiff, eqV, eqAll, fillA, and_self, and_true, true_and, Nat.le_refl, Bool.not_true, Bool.not_false, Bool.false_xor, Bool.true_xor, cond_true, cond_false, List.replicate, if_false, reduceIte, resAll, resA, ne_eq, decide_not, decide_true, decide_false, Int.reduceEq, Bool.not_true, Bool.not_false, not_true_eq_false, not_false_eq_true, cond_bool, cond_int, beq_self_eq_true, Int.reduceBEq, Bool.and_self, Bool.and_false, Bool.false_and, Bool.xor_false, Bool.xor_true, loadN_ldC, ldC_none, ldC_somes, stC_aggs, splice, storeN_stC, stC_int, stC_bool, stC_ptr, stC_nilp, stC_sl, stC_nils, getC_gcO, gcO_cells, W_draw_eq, ↓W_scope, ev_clear, evT, evF, evX, evM, ↓exitQ_normal, ↓exitQ_ret, ↓exitQ_exit, saA_self, saO_self, if_pos, if_neg, wrapI, get_concat, set_concat, Int.toNat_natCast, Int.toNat_zero, List.nil_append, Nat.mul_one, decide_eq_true, decide_eq_false, Int.reduceLE, Int.reduceLT, Int.reduceNeg, Bool.false_or, Bool.true_or, Bool.or_false, Bool.or_true, wrapU, Int.reduceAdd, Int.reduceSub, Int.reduceMul, List.append_assoc, List.length_append, get_mid, get_mid0, set_mid, set_mid0, List.length_set, List.length_cons, List.length_nil, List.cons_append, List.getElem?_append_left, List.set_append_left, get_at, get_at0, set_at, set_at0, List.getElem?_set_self, List.getElem?_set_ne, a190]
    refine OK_fn (phands_run (PM.keep hpm hk) (by omega)) ?_
    rintro h m1 ⟨k1, s1, f1⟩
    have hk1 := hk.trans k1
    simp (disch := first | assumption | omega | (simp only [List.length_cons, List.length_nil, List.length_set, List.length_append] <;> omega) | (simp only [get_mid, get_mid0, List.cons_append, List.append_assoc, List.getElem?_cons_zero, List.getElem?_cons_succ])) only [ek, ↓evW, ↓evQ, evB, evS, evL, List.map, AV.cells, List.all, AV.one, Bool.and_true, Bool.true_and, if_true, ↓thenQ_normal, ↓thenQ_exit, ↓thenQ_ret, ↓blockQ_normal, ↓blockQ_ret, ↓blockQ_exit, ↓CW_true, ↓CW_false, CW_true, CW_false, condT, condF, RQ_some, tupA_one, tupA_two, tupA_nil, Nat.reduceSub, Nat.reduceAdd, Nat.reduceMul, Nat.zero_add, Nat.add_zero, Nat.reduceLeDiff, Nat.reduceEqDiff, eqV, eqAll, fillA, and_self, and_true, true_and, Nat.le_refl, Bool.not_true, Bool.not_false, Bool.false_xor, Bool.true_xor, cond_true, cond_false, List.replicate, if_false, reduceIte, resAll, resA, ne_eq, decide_not, decide_true, decide_false, Int.reduceEq, Bool.not_true, Bool.not_false, not_true_eq_false, not_false_eq_true, cond_bool, cond_int, beq_self_eq_true, Int.reduceBEq, Bool.and_self, Bool.and_false, Bool.false_and, Bool.xor_false, Bool.xor_true, loadN_ldC, ldC_none, ldC_somes, stC_aggs, splice, storeN_stC, stC_int, stC_bool, stC_ptr, stC_nilp, stC_sl, stC_nils, getC_gcO, gcO_cells, W_draw_eq, ↓W_scope, ev_clear, evT, evF, evX, evM, ↓exitQ_normal, ↓exitQ_ret, ↓exitQ_exit, saA_self, saO_self, if_pos, if_neg, wrapI, get_concat, set_concat, Int.toNat_natCast, Int.toNat_zero, List.nil_append, Nat.mul_one, decide_eq_true, decide_eq_false, Int.reduceLE, Int.reduceLT, Int.reduceNeg, Bool.false_or, Bool.true_or, Bool.or_false, Bool.or_true, wrapU, Int.reduceAdd, Int.reduceSub, Int.reduceMul, List.append_assoc, List.length_append, get_mid, get_mid0, set_mid, set_mid0, List.length_set, List.length_cons, List.length_nil, List.cons_append, List.getElem?_append_left, List.set_append_left, get_at, get_at0, set_at, set_at0, List.getElem?_set_self, List.getElem?_set_ne, a187]
    refine OK_fn (pover_run (PM.keep hpm hk1) (by omega)) ?_
    rintro o m2 ⟨k2, s2, f2⟩
    have hk2 := hk1.trans k2
    have s1' := s1.keep k2
    have hy2 := hk2.get hy
    have e1 := Fn_eq (same_run s1' (hyh.keep hk2) (by simp only [FUEL]; omega))
    have e2 := Fn_eq (same_run s2 (hov.keep hk2) (by simp only [FUEL]; omega))
    rw [← hse] at e1 e2
    simp only [decide_true] at e1 e2
    simp only [rpC, cfC, List.cons_append, List.nil_append] at hy2
    simp (disch := first | assumption | omega | (simp only [List.length_cons, List.length_nil, List.length_set, List.length_append] <;> omega) | (simp only [get_mid, get_mid0, List.cons_append, List.append_assoc, List.getElem?_cons_zero, List.getElem?_cons_succ])) only [ek, ↓evW, ↓evQ, evB, evS, evL, List.map, AV.cells, List.all, AV.one, Bool.and_true, Bool.true_and, if_true, ↓thenQ_normal, ↓thenQ_exit, ↓thenQ_ret, ↓blockQ_normal, ↓blockQ_ret, ↓blockQ_exit, ↓CW_true, ↓CW_false, CW_true, CW_false, condT, condF, RQ_some, tupA_one, tupA_two, tupA_nil, Nat.reduceSub, Nat.reduceAdd, Nat.reduceMul, Nat.zero_add, Nat.add_zero, Nat.reduceLeDiff, Nat.reduceEqDiff, eqV, eqAll, fillA, and_self, and_true, true_and, Nat.le_refl, Bool.not_true, Bool.not_false, Bool.false_xor, Bool.true_xor, cond_true, cond_false, List.replicate, if_false, reduceIte, resAll, resA, ne_eq, decide_not, decide_true, decide_false, Int.reduceEq, Bool.not_true, Bool.not_false, not_true_eq_false, not_false_eq_true, cond_bool, cond_int, beq_self_eq_true, Int.reduceBEq, Bool.and_self, Bool.and_false, Bool.false_and, Bool.xor_false, Bool.xor_true, loadN_ldC, ldC_none, ldC_somes, stC_aggs, splice, storeN_stC, stC_int, stC_bool, stC_ptr, stC_nilp, stC_sl, stC_nils, getC_gcO, gcO_cells, W_draw_eq, ↓W_scope, ev_clear, evT, evF, evX, evM, ↓exitQ_normal, ↓exitQ_ret, ↓exitQ_exit, saA_self, saO_self, if_pos, if_neg, wrapI, get_concat, set_concat, Int.toNat_natCast, Int.toNat_zero, List.nil_append, Nat.mul_one, decide_eq_true, decide_eq_false, Int.reduceLE, Int.reduceLT, Int.reduceNeg, Bool.false_or, Bool.true_or, Bool.or_false, Bool.or_true, wrapU, Int.reduceAdd, Int.reduceSub, Int.reduceMul, List.append_assoc, List.length_append, get_mid, get_mid0, set_mid, set_mid0, List.length_set, List.length_cons, List.length_nil, List.cons_append, List.getElem?_append_left, List.set_append_left, get_at, get_at0, set_at, set_at0, List.getElem?_set_self, List.getElem?_set_ne, hy2, a84, e1, e2]
    generalize s.hs = hs at s1' s1 hl
    generalize (if s.a = 0 then _ else _) = os at s2 hl2
    refine W_loop (FhI mm m2 c0 p g bv lv cb j rb xj yb i t hs.length ov h o m1.length) hs.length (by simp only [FUEL]; omega) ⟨0, _, _, _, _, _, _, _, _, _, _, _, _, _, _, rfl, rfl, by omega, ⟨k1.trans k2, ⟨hs, rfl, s1'⟩, f1, fun q oo cap hq h0 => (Sl.lt s1 hq h0).1, s1.len⟩, Nat.le_refl _, fun _ _ _ => rfl⟩ ?_
    rintro k e M ⟨u, w17, w18, w19, w20, w21, w22, w23, w24, w25, w26, w27, w28, w29, w30, rfl, rfl, hu, hF, hlM, hM⟩
    have hln := hF.len
    rcases Nat.lt_or_ge u hs.length with hu2 | hu2
    · obtain ⟨q, oo, cap, L, rfl, b1, b2, b3, b4, hF'⟩ := hF.put hu2 77
      simp (disch := first | assumption | omega | (simp only [List.length_cons, List.length_nil, List.length_set, List.length_append] <;> omega) | (simp only [get_mid, get_mid0, List.cons_append, List.append_assoc, List.getElem?_cons_zero, List.getElem?_cons_succ])) only [ek, ↓evW, ↓evQ, evB, evS, evL, List.map, AV.cells, List.all, AV.one, Bool.and_true, Bool.true_and, if_true, ↓thenQ_normal, ↓thenQ_exit, ↓thenQ_ret, ↓blockQ_normal, ↓blockQ_ret, ↓blockQ_exit, ↓CW_true, ↓CW_false, CW_true, CW_false, condT, condF, RQ_some, tupA_one, tupA_two, tupA_nil, Nat.reduceSub, Nat.reduceAdd, Nat.reduceMul, Nat.zero_add, Nat.add_zero, Nat.reduceLeDiff, Nat.reduceEqDiff, eqV, eqAll, fillA, and_self, and_true, true_and, Nat.le_refl, Bool.not_true, Bool.not_false, Bool.false_xor, Bool.true_xor, cond_true, cond_false, List.replicate, if_false, reduceIte, resAll, resA, ne_eq, decide_not, decide_true, decide_false, Int.reduceEq, Bool.not_true, Bool.not_false, not_true_eq_false, not_false_eq_true, cond_bool, cond_int, beq_self_eq_true, Int.reduceBEq, Bool.and_self, Bool.and_false, Bool.false_and, Bool.xor_false, Bool.xor_true, loadN_ldC, ldC_none, ldC_somes, stC_aggs, splice, storeN_stC, stC_int, stC_bool, stC_ptr, stC_nilp, stC_sl, stC_nils, getC_gcO, gcO_cells, W_draw_eq, ↓W_scope, ev_clear, evT, evF, evX, evM, ↓exitQ_normal, ↓exitQ_ret, ↓exitQ_exit, saA_self, saO_self, if_pos, if_neg, wrapI, get_concat, set_concat, Int.toNat_natCast, Int.toNat_zero, List.nil_append, Nat.mul_one, decide_eq_true, decide_eq_false, Int.reduceLE, Int.reduceLT, Int.reduceNeg, Bool.false_or, Bool.true_or, Bool.or_false, Bool.or_true, wrapU, Int.reduceAdd, Int.reduceSub, Int.reduceMul, List.append_assoc, List.length_append, get_mid, get_mid0, set_mid, set_mid0, List.length_set, List.length_cons, List.length_nil, List.cons_append, List.getElem?_append_left, List.set_append_left, get_at, get_at0, set_at, set_at0, List.getElem?_set_self, List.getElem?_set_ne, ev_len, hln, b1]
      refine ⟨hs.length - (u + 1), by omega, u + 1, _, _, _, _, _, _, _, _, _, _, _, _, _, _, rfl, rfl, by omega, hF', by simpa using hlM, fun a ha hB => by rw [List.getElem?_set_ne (by omega)]; exact hM a ha hB⟩
    · simp (disch := first | assumption | omega | (simp only [List.length_cons, List.length_nil, List.length_set, List.length_append] <;> omega) | (simp only [get_mid, get_mid0, List.cons_append, List.append_assoc, List.getElem?_cons_zero, List.getElem?_cons_succ])) only [ek, ↓evW, ↓evQ, evB, evS, evL, List.map, AV.cells, List.all, AV.one, Bool.and_true, Bool.true_and, if_true, ↓thenQ_normal, ↓thenQ_exit, ↓thenQ_ret, ↓blockQ_normal, ↓blockQ_ret, ↓blockQ_exit, ↓CW_true, ↓CW_false, CW_true, CW_false, condT, condF, RQ_some, tupA_one, tupA_two, tupA_nil, Nat.reduceSub, Nat.reduceAdd, Nat.reduceMul, Nat.zero_add, Nat.add_zero, Nat.reduceLeDiff, Nat.reduceEqDiff, eqV, eqAll, fillA, and_self, and_true, true_and, Nat.le_refl, Bool.not_true, Bool.not_false, Bool.false_xor, Bool.true_xor, cond_true, cond_false, List.replicate, if_false, reduceIte, resAll, resA, ne_eq, decide_not, decide_true, decide_false, Int.reduceEq, Bool.not_true, Bool.not_false, not_true_eq_false, not_false_eq_true, cond_bool, cond_int, beq_self_eq_true, Int.reduceBEq, Bool.and_self, Bool.and_false, Bool.false_and, Bool.xor_false, Bool.xor_true, loadN_ldC, ldC_none, ldC_somes, stC_aggs, splice, storeN_stC, stC_int, stC_bool, stC_ptr, stC_nilp, stC_sl, stC_nils, getC_gcO, gcO_cells, W_draw_eq, ↓W_scope, ev_clear, evT, evF, evX, evM, ↓exitQ_normal, ↓exitQ_ret, ↓exitQ_exit, saA_self, saO_self, if_pos, if_neg, wrapI, get_concat, set_concat, Int.toNat_natCast, Int.toNat_zero, List.nil_append, Nat.mul_one, decide_eq_true, decide_eq_false, Int.reduceLE, Int.reduceLT, Int.reduceNeg, Bool.false_or, Bool.true_or, Bool.or_false, Bool.or_true, wrapU, Int.reduceAdd, Int.reduceSub, Int.reduceMul, List.append_assoc, List.length_append, get_mid, get_mid0, set_mid, set_mid0, List.length_set, List.length_cons, List.length_nil, List.cons_append, List.getElem?_append_left, List.set_append_left, get_at, get_at0, set_at, set_at0, List.getElem?_set_self, List.getElem?_set_ne, ev_len, hln]
      have so : SI M true os o := Sl.stay s2 fun q oo cap hq h0 => by
        refine hM q (Sl.lt s2 hq h0).1 ?_
        rcases f2 with h | ⟨_, _, _, _, h, h'⟩
        · rw [h] at hq; cases hq
        · rw [h] at hq; injection hq with e1; omega
      have hFo : Fl mm M os.length o M.length := ⟨hF.keep, ⟨os, rfl, so⟩, by
        rcases f2 with h | ⟨_, _, _, _, h, h'⟩
        · exact .inl h
        · exact .inr ⟨_, _, _, _, h, Nat.le_trans k1.1 h'⟩, fun q oo cap hq h0 => (Sl.lt so hq h0).1, so.len⟩
      refine W_loop (FoI mm c0 p g bv lv cb j rb xj yb i t os.length ov h o _ M.length) os.length (by simp only [FUEL]; omega) ⟨0, _, _, _, _, _, _, _, _, _, _, _, _, _, rfl, rfl, by omega, hFo⟩ ?_
      rintro k e M2 ⟨u2, v18, v19, v20, v21, v22, v23, v24, v25, v26, v27, v28, v29, v30, rfl, rfl, hu3, hG⟩
      have hlo := hG.len
      rcases Nat.lt_or_ge u2 os.length with hu4 | hu4
      · obtain ⟨q, oo, cap, L, rfl, b1, b2, b3, b4, hG'⟩ := hG.put hu4 77
        simp (disch := first | assumption | omega | (simp only [List.length_cons, List.length_nil, List.length_set, List.length_append] <;> omega) | (simp only [get_mid, get_mid0, List.cons_append, List.append_assoc, List.getElem?_cons_zero, List.getElem?_cons_succ])) only [ek, ↓evW, ↓evQ, evB, evS, evL, List.map, AV.cells, List.all, AV.one, Bool.and_true, Bool.true_and, if_true, ↓thenQ_normal, ↓thenQ_exit, ↓thenQ_ret, ↓blockQ_normal, ↓blockQ_ret, ↓blockQ_exit, ↓CW_true, ↓CW_false, CW_true, CW_false, condT, condF, RQ_some, tupA_one, tupA_two, tupA_nil, Nat.reduceSub, Nat.reduceAdd, Nat.reduceMul, Nat.zero_add, Nat.add_zero, Nat.reduceLeDiff, Nat.reduceEqDiff, eqV, eqAll, fillA, and_self, and_true, true_and, Nat.le_refl, Bool.not_true, Bool.not_false, Bool.false_xor, Bool.true_xor, cond_true, cond_false, List.replicate, if_false, reduceIte, resAll, resA, ne_eq, decide_not, decide_true, decide_false, Int.reduceEq, Bool.not_true, Bool.not_false, not_true_eq_false, not_false_eq_true, cond_bool, cond_int, beq_self_eq_true, Int.reduceBEq, Bool.and_self, Bool.and_false, Bool.false_and, Bool.xor_false, Bool.xor_true, loadN_ldC, ldC_none, ldC_somes, stC_aggs, splice, storeN_stC, stC_int, stC_bool, stC_ptr, stC_nilp, stC_sl, stC_nils, getC_gcO, gcO_cells, W_draw_eq, ↓W_scope, ev_clear, evT, evF, evX, evM, ↓exitQ_normal, ↓exitQ_ret, ↓exitQ_exit, saA_self, saO_self, if_pos, if_neg, wrapI, get_concat, set_concat, Int.toNat_natCast, Int.toNat_zero, List.nil_append, Nat.mul_one, decide_eq_true, decide_eq_false, Int.reduceLE, Int.reduceLT, Int.reduceNeg, Bool.false_or, Bool.true_or, Bool.or_false, Bool.or_true, wrapU, Int.reduceAdd, Int.reduceSub, Int.reduceMul, List.append_assoc, List.length_append, get_mid, get_mid0, set_mid, set_mid0, List.length_set, List.length_cons, List.length_nil, List.cons_append, List.getElem?_append_left, List.set_append_left, get_at, get_at0, set_at, set_at0, List.getElem?_set_self, List.getElem?_set_ne, ev_len, hlo, b1]
        exact ⟨os.length - (u2 + 1), by omega, u2 + 1, _, _, _, _, _, _, _, _, _, _, _, _, _, rfl, rfl, by omega, hG'⟩
      · simp (disch := first | assumption | omega | (simp only [List.length_cons, List.length_nil, List.length_set, List.length_append] <;> omega) | (simp only [get_mid, get_mid0, List.cons_append, List.append_assoc, List.getElem?_cons_zero, List.getElem?_cons_succ])) only [ek, ↓evW, ↓evQ, evB, evS, evL, List.map, AV.cells, List.all, AV.one, Bool.and_true, Bool.true_and, if_true, ↓thenQ_normal, ↓thenQ_exit, ↓thenQ_ret, ↓blockQ_normal, ↓blockQ_ret, ↓blockQ_exit, ↓CW_true, ↓CW_false, CW_true, CW_false, condT, condF, RQ_some, tupA_one, tupA_two, tupA_nil, Nat.reduceSub, Nat.reduceAdd, Nat.reduceMul, Nat.zero_add, Nat.add_zero, Nat.reduceLeDiff, Nat.reduceEqDiff, eqV, eqAll, fillA, and_self, and_true, true_and, Nat.le_refl, Bool.not_true, Bool.not_false, Bool.false_xor, Bool.true_xor, cond_true, cond_false, List.replicate, if_false, reduceIte, resAll, resA, ne_eq, decide_not, decide_true, decide_false, Int.reduceEq, Bool.not_true, Bool.not_false, not_true_eq_false, not_false_eq_true, cond_bool, cond_int, beq_self_eq_true, Int.reduceBEq, Bool.and_self, Bool.and_false, Bool.false_and, Bool.xor_false, Bool.xor_true, loadN_ldC, ldC_none, ldC_somes, stC_aggs, splice, storeN_stC, stC_int, stC_bool, stC_ptr, stC_nilp, stC_sl, stC_nils, getC_gcO, gcO_cells, W_draw_eq, ↓W_scope, ev_clear, evT, evF, evX, evM, ↓exitQ_normal, ↓exitQ_ret, ↓exitQ_exit, saA_self, saO_self, if_pos, if_neg, wrapI, get_concat, set_concat, Int.toNat_natCast, Int.toNat_zero, List.nil_append, Nat.mul_one, decide_eq_true, decide_eq_false, Int.reduceLE, Int.reduceLT, Int.reduceNeg, Bool.false_or, Bool.true_or, Bool.or_false, Bool.or_true, wrapU, Int.reduceAdd, Int.reduceSub, Int.reduceMul, List.append_assoc, List.length_append, get_mid, get_mid0, set_mid, set_mid0, List.length_set, List.length_cons, List.length_nil, List.cons_append, List.getElem?_append_left, List.set_append_left, get_at, get_at0, set_at, set_at0, List.getElem?_set_self, List.getElem?_set_ne, ev_len, hlo]
        exact ⟨2 - (t + 1), by omega, t + 1, _, _, _, _, _, _, _, _, _, _, _, _, _, _, _, _, _, rfl, rfl, by omega, hk.trans hG.keep⟩
  · simp (disch := first | assumption | omega | (simp only [List.length_cons, List.length_nil, List.length_set, List.length_append] <;> omega) | (simp only [get_mid, get_mid0, List.cons_append, List.append_assoc, List.getElem?_cons_zero, List.getElem?_cons_succ])) only [ek, ↓evW, ↓evQ, evB, evS, evL, List.map, AV.cells, List.all, AV.one, Bool.and_true, Bool.true_and, if_true, ↓thenQ_normal, ↓thenQ_exit, ↓thenQ_ret, ↓blockQ_normal, ↓blockQ_ret, ↓blockQ_exit, ↓CW_true, ↓CW_false, CW_true, CW_false, condT, condF, RQ_some, tupA_one, tupA_two, tupA_nil, Nat.reduceSub, Nat.reduceAdd, Nat.reduceMul, Nat.zero_add, Nat.add_zero, Nat.reduceLeDiff, Nat.reduceEqDiff, eqV, eqAll, fillA, and_self, and_true, true_and, Nat.le_refl, Bool.not_true, Bool.not_false, Bool.false_xor, Bool.true_xor, cond_true, cond_false, List.replicate, if_false, reduceIte, resAll, resA, ne_eq, decide_not, decide_true, decide_false, Int.reduceEq, Bool.not_true, Bool.not_false, not_true_eq_false, not_false_eq_true, cond_bool, cond_int, beq_self_eq_true, Int.reduceBEq, Bool.and_self, Bool.and_false, Bool.false_and, Bool.xor_false, Bool.xor_true, loadN_ldC, ldC_none, ldC_somes, stC_aggs, splice, storeN_stC, stC_int, stC_bool, stC_ptr, stC_nilp, stC_sl, stC_nils, getC_gcO, gcO_cells, W_draw_eq, ↓W_scope, ev_clear, evT, evF, evX, evM, ↓exitQ_normal, ↓exitQ_ret, ↓exitQ_exit, saA_self, saO_self, if_pos, if_neg, wrapI, get_concat, set_concat, Int.toNat_natCast, Int.toNat_zero, List.nil_append, Nat.mul_one, decide_eq_true, decide_eq_false, Int.reduceLE, Int.reduceLT, Int.reduceNeg, Bool.false_or, Bool.true_or, Bool.or_false, Bool.or_true, wrapU, Int.reduceAdd, Int.reduceSub, Int.reduceMul, List.append_assoc, List.length_append, get_mid, get_mid0, set_mid, set_mid0, List.length_set, List.length_cons, List.length_nil, List.cons_append, List.getElem?_append_left, List.set_append_left, get_at, get_at0, set_at, set_at0, List.getElem?_set_self, List.getElem?_set_ne]
    exact ⟨hk, _, _, _, _, _, _, _, _, _, _, _, _, _, _, _, _, _, _, rfl⟩
end Go.Am.F09
end
section
namespace Go.Am.F09
open Go.Am.F06 Go.Am.F10
theorem PM.norm {m : MM} {xj : Nat} {c : Cf} {p g : Int} {s : PS} {qt : Nat} {tv hv : AV} (h : PM m xj c p g s qt tv hv) : ∃ qt', PM m xj c p g s qt' tv hv ∧ (qt' = xj ∨ (qt' = qt ∧ ∃ l, m[qt]? = some (.cells 1 false (iC l)))) := by
  have hx : ∀ ro L, m[xj]? ≠ some (.cells 1 ro L) := fun ro L hh => by rw [h.get] at hh; cases hh
  by_cases ha : s.a = 4 ∨ s.a = 5
  · rcases h.t ha with ht | ⟨h0, h1, h2⟩
    · exact ⟨xj, ⟨h.get, fun _ => .inl ht, h.one, h.h, si_box h.h hx⟩, .inl rfl⟩
    · exact ⟨qt, h, .inr ⟨rfl, _, h2⟩⟩
  · exact ⟨xj, ⟨h.get, fun hh => absurd hh ha, h.one, h.h, si_box h.h hx⟩, .inl rfl⟩
theorem su_off {m : MM} {wr : Bool} {xs : List Int} {v : AV} (hs : SU m wr xs v) {b : Nat} {l : List Int} (hb : m[b]? = some (.cells 1 false (iC l))) : Off b v := by
  intro q o n c hv h0 hq
  rcases hs.2 with ⟨h1, _⟩ | ⟨q2, o2, c2, h1, h2⟩
  · rw [h1] at hv; cases hv
  · rw [h1] at hv; injection hv with e1 e2 e3 e4; subst e1; subst e3; subst hq
    obtain ⟨ro, L, h3, h4⟩ := h2 h0
    rw [hb] at h3; injection h3 with h3; injection h3 with _ _ h3
    subst h3
    have h5 := sl_get h4.1 (j := 0) (by omega)
    rw [iC, uC, List.getElem?_map, List.getElem?_map] at h5
    obtain ⟨x, hx⟩ : ∃ x, xs[0]? = some x := ⟨_, List.getElem?_eq_getElem h0⟩
    rw [hx] at h5
    cases hy : l[o2 + 0]? with
    | none => rw [hy] at h5; cases h5
    | some y => rw [hy] at h5; cases h5
theorem su_box2 {m : MM} {wr : Bool} {xs : List Int} {v : AV} (hs : SU m wr xs v) {b : Nat} (hb : ∀ ro L, m[b]? ≠ some (.cells 1 ro L)) : Off b v := by
  intro q o n c hv h0 hq
  obtain ⟨_, ro, L, h⟩ := Sl.lt (n := xs.length) hs (by rw [hv]; congr 1; have := hs.len; rw [hv] at this; simpa [lenA] using this) (by
    have := hs.len; rw [hv] at this; simp only [lenA, Option.some.injEq] at this; omega) (q := q) (o := o) (cap := c)
  exact hb ro L (by rw [← hq]; exact h)
structure PyS (m0 : MM) (c0 c c' : Cf) (p p' g g' : Int) (cb j rb xj yb : Nat) (ps : List Pk) (lv : AV) (s : PS) (xs : List Int) (o : Int) (tv hv ytv yhv v : AV) (qt : Nat) (m : MM) : Prop where
  k0 : Keep m0 m
  pm : PM m xj c p g s qt tv hv
  qr : qt = xj ∨ ∃ l, m[qt]? = some (.cells 1 false (iC l))
  bq : m0.length ≤ qt
  mem : ∃ st, m[j]? = some (.abs (.mem st)) ∧ RelM xs o st
  ref : m[rb]? = some (.cells 2 false (memC v o))
  su : SU m false xs v
  y : m[yb]? = some (.cells 12 false (rpC c' p' g' s ytv yhv))
  yt : SI m false s.tk ytv
  yh : SI m false s.hs yhv
  ot : Off qt ytv
  oh : Off qt yhv
  ok : POk c p s
  okL : OkL c xs
  cc : s.a = 0 ∨ (c' = c ∧ p' = p ∧ g' = g)
  ps : SPk m false ps lv
theorem PyS.keep {m0 m m' : MM} {c0 c c' : Cf} {p p' g g' : Int} {cb j rb xj yb : Nat} {ps : List Pk} {lv : AV} {s : PS} {xs : List Int} {o : Int} {tv hv ytv yhv v : AV} {qt : Nat} (h : PyS m0 c0 c c' p p' g g' cb j rb xj yb ps lv s xs o tv hv ytv yhv v qt m) (k : Keep m m') : PyS m0 c0 c c' p p' g g' cb j rb xj yb ps lv s xs o tv hv ytv yhv v qt m' := by
  obtain ⟨st, hj, hr⟩ := h.mem
  exact ⟨h.k0.trans k, PM.keep h.pm k, h.qr.imp id (fun ⟨l, hl⟩ => ⟨l, k.get hl⟩), h.bq, ⟨st, k.get hj, hr⟩, k.get h.ref, h.su.keep k, k.get h.y, h.yt.keep k, h.yh.keep k, h.ot, h.oh, h.ok, h.okL, h.cc, h.ps.keep k⟩
structure PyB (m0 : MM) (c : Cf) (p g : Int) (j xj : Nat) (ps : List Pk) (lv : AV) (s : PS) (xs : List Int) (o : Int) (tv hv : AV) (qt : Nat) (m : MM) : Prop where
  k0 : Keep m0 m
  pm : PM m xj c p g s qt tv hv
  qr : qt = xj ∨ ∃ l, m[qt]? = some (.cells 1 false (iC l))
  bq : m0.length ≤ qt
  mem : ∃ st, m[j]? = some (.abs (.mem st)) ∧ RelM xs o st
  ok : POk c p s
  okL : OkL c xs
  ps : SPk m false ps lv
theorem PyS.b {m0 m : MM} {c0 c c' : Cf} {p p' g g' : Int} {cb j rb xj yb : Nat} {ps : List Pk} {lv : AV} {s : PS} {xs : List Int} {o : Int} {tv hv ytv yhv v : AV} {qt : Nat} (h : PyS m0 c0 c c' p p' g g' cb j rb xj yb ps lv s xs o tv hv ytv yhv v qt m) : PyB m0 c p g j xj ps lv s xs o tv hv qt m := ⟨h.k0, h.pm, h.qr, h.bq, h.mem, h.ok, h.okL, h.ps⟩
theorem PyB.ne {m0 m : MM} {c : Cf} {p g : Int} {j xj : Nat} {ps : List Pk} {lv : AV} {s : PS} {xs : List Int} {o : Int} {tv hv : AV} {qt : Nat} (h : PyB m0 c p g j xj ps lv s xs o tv hv qt m) {b sz : Nat} {L : List AV} (hb : m[b]? = some (.cells sz false L)) (h1 : sz ≠ 1) (h2 : sz ≠ 13) : b ≠ xj ∧ b ≠ j ∧ b ≠ qt := by
  obtain ⟨st, hj, _⟩ := h.mem
  refine ⟨fun hh => ?_, fun hh => ?_, fun hh => ?_⟩
  · rw [hh, h.pm.get] at hb; injection hb with hb; injection hb with hb; exact h2 hb.symm
  · rw [hh, hj] at hb; cases hb
  · rcases h.qr with hq | ⟨l, hl⟩
    · rw [hh, hq, h.pm.get] at hb; injection hb with hb; injection hb with hb; exact h2 hb.symm
    · rw [hh, hl] at hb; injection hb with hb; injection hb with hb; exact h1 hb.symm
theorem PyS.ne {m0 m : MM} {c0 c c' : Cf} {p p' g g' : Int} {cb j rb xj yb : Nat} {ps : List Pk} {lv : AV} {s : PS} {xs : List Int} {o : Int} {tv hv ytv yhv v : AV} {qt : Nat} (h : PyS m0 c0 c c' p p' g g' cb j rb xj yb ps lv s xs o tv hv ytv yhv v qt m) {b sz : Nat} {L : List AV} (hb : m[b]? = some (.cells sz false L)) (h1 : sz ≠ 1) (h2 : sz ≠ 13) : b ≠ xj ∧ b ≠ j ∧ b ≠ qt := h.b.ne hb h1 h2
theorem PyB.keep {m0 m m' : MM} {c : Cf} {p g : Int} {j xj : Nat} {ps : List Pk} {lv : AV} {s : PS} {xs : List Int} {o : Int} {tv hv : AV} {qt : Nat} (h : PyB m0 c p g j xj ps lv s xs o tv hv qt m) (k : Keep m m') : PyB m0 c p g j xj ps lv s xs o tv hv qt m' := by
  obtain ⟨st, hj, hr⟩ := h.mem
  exact ⟨h.k0.trans k, PM.keep h.pm k, h.qr.imp id (fun ⟨l, hl⟩ => ⟨l, k.get hl⟩), h.bq, ⟨st, k.get hj, hr⟩, h.ok, h.okL, h.ps.keep k⟩
theorem PyB.setb {m0 m : MM} {c : Cf} {p g : Int} {j xj : Nat} {ps : List Pk} {lv : AV} {s : PS} {xs : List Int} {o : Int} {tv hv : AV} {qt : Nat} (h : PyB m0 c p g j xj ps lv s xs o tv hv qt m) {b sz : Nat} {L : List AV} (hb : m[b]? = some (.cells sz false L)) (h1 : sz ≠ 1) (h2 : sz ≠ 13) (h3 : sz ≠ 3) (h0 : m0.length ≤ b) (C : Chunk Ob) : PyB m0 c p g j xj ps lv s xs o tv hv qt (m.set b C) := by
  obtain ⟨e1, e2, e3⟩ := h.ne hb h1 h2
  obtain ⟨st, hj, hr⟩ := h.mem
  have hn : ∀ z, z ≠ sz → ∀ ro L, m[b]? ≠ some (.cells z ro L) := fun z hz ro L hh => by rw [hb] at hh; injection hh with hh; injection hh with hh; exact hz hh.symm
  exact ⟨h.k0.set h0 _, PM.stay h.pm (fun i _ hi => List.getElem?_set_ne (fun hh => hi hh.symm)) (fun hh => e1 hh.symm) (fun hh => e3 hh.symm) (si_box h.pm.h (hn 1 (fun hh => h1 hh.symm))), h.qr.imp id (fun ⟨l, hl⟩ => ⟨l, by rw [List.getElem?_set_ne e3]; exact hl⟩), h.bq, ⟨st, by rw [List.getElem?_set_ne e2]; exact hj, hr⟩, h.ok, h.okL, Sl.put h.ps (hn 3 (fun hh => h3 hh.symm)) _⟩
theorem PyB.step {m0 m m' : MM} {c0 c c' : Cf} {p p' g g' : Int} {cb j rb xj yb : Nat} {ps : List Pk} {lv : AV} {s s' : PS} {xs xs' : List Int} {o o' : Int} {tv hv : AV} {qt : Nat} (h : PyB m0 c p g j xj ps lv s xs o tv hv qt m)
    (hx0 : m0.length ≤ xj) (hj0 : m0.length ≤ j) {ytv' yhv' v' : AV} (hy : m[yb]? = some (.cells 12 false (rpC c' p' g' s' ytv' yhv'))) (hyt : SI m false s'.tk ytv') (hyh : SI m false s'.hs yhv') (hot : Off qt ytv') (hoh : Off qt yhv') (hv' : SU m false xs' v') (hrb : m[rb]? = some (.cells 2 false (memC v' o'))) (hok : POk c p s') (hokL : OkL c xs') (hcc : s'.a = 0 ∨ (c' = c ∧ p' = p ∧ g' = g)) {r : AV} (hP : PsP m c p g xj j qt hv (s', xs') o' r m') :
    r = .bool (decide (s'.a = 0)) ∧ ∃ tv2 hv2 qt2, PyS m0 c0 c c' p p' g g' cb j rb xj yb ps lv s' xs' o' tv2 hv2 ytv' yhv' v' qt2 m' := by
  obtain ⟨rfl, k1, tv2, hv2, qt', hpm, hq, hh, st', hj', hr'⟩ := hP
  obtain ⟨st, hj, hr⟩ := h.mem
  obtain ⟨qt2, hpm2, hq2⟩ := PM.norm hpm
  have hnx : ∀ ro L, m[xj]? ≠ some (.cells 1 ro L) := fun ro L hh => by rw [h.pm.get] at hh; cases hh
  have hnj : ∀ ro L, m[j]? ≠ some (.cells 1 ro L) := fun ro L hh => by rw [hj] at hh; cases hh
  have hl := k1.1
  have hk0 := h.k0.1
  have hbox : ∀ {b sz : Nat} {L : List AV}, m[b]? = some (.cells sz false L) → sz ≠ 1 → sz ≠ 13 → m'[b]? = some (.cells sz false L) := fun hb h1 h2 => by
    obtain ⟨e1, e2, e3⟩ := h.ne hb h1 h2
    rw [k1.2 _ (List.getElem?_eq_some_iff.1 hb).1 e1 e2 e3]; exact hb
  have hsoff : Off qt v' := by
    rcases h.qr with hq | ⟨l, hl⟩
    · rw [hq]; exact su_box2 hv' hnx
    · exact su_off hv' hl
  have hqt2 : qt2 = xj ∨ (m.length ≤ qt2 ∧ qt2 < m'.length) ∨ qt2 = qt := by
    rcases hq2 with h1 | ⟨h1, _⟩
    · exact .inl h1
    · rw [h1]; exact hq
  have hoff2 : ∀ {w : AV} {n : Nat} {l : List AV}, Sl m false 1 n l w → Off qt w → Off qt2 w := fun {w n l} hs ho => by
    have hlen := hs.len
    have hlt : ∀ q o k cap, w = .sl q o k cap → 0 < k → q < m.length ∧ ∃ ro L, m[q]? = some (.cells 1 ro L) := fun q o k cap hw hk => by
      rw [hw] at hlen; simp only [lenA, Option.some.injEq] at hlen; subst hlen
      exact Sl.lt hs hw hk
    rcases hqt2 with e | ⟨e, _⟩ | e
    · rw [e]; intro q o k cap hw hk hh
      obtain ⟨_, ro, L, h3⟩ := hlt q o k cap hw hk
      exact hnx ro L (by rw [← hh]; exact h3)
    · intro q o k cap hw hk hh
      have := (hlt q o k cap hw hk).1
      omega
    · rw [e]; exact ho
  refine ⟨rfl, tv2, hv2, qt2, ⟨⟨by omega, fun i hi => ?_⟩, hpm2, ?_, ?_, ⟨st', hj', hr'⟩, hbox hrb (by decide) (by decide), k1.si hnx hnj hv' hsoff, hbox hy (by decide) (by decide), k1.si hnx hnj hyt hot, k1.si hnx hnj hyh hoh, hoff2 hyt hot, hoff2 hyh hoh, hok, hokL, hcc, ?_⟩⟩
  · have := h.bq
    rw [k1.2 i (by omega) (by omega) (by omega) (by omega), h.k0.2 i hi]
  · rcases hq2 with h1 | ⟨h1, l, h2⟩
    · exact .inl h1
    · exact .inr ⟨l, by rw [h1]; exact h2⟩
  · have := h.bq
    rcases hqt2 with e | ⟨e, _⟩ | e <;> omega
  · refine Sl.stay h.ps fun q o cap hw h0 => ?_
    obtain ⟨h1, ro, L, h2⟩ := Sl.lt h.ps hw h0
    have e1 : q ≠ xj := fun hh => by rw [hh, h.pm.get] at h2; cases h2
    have e2 : q ≠ j := fun hh => by rw [hh, hj] at h2; cases h2
    have e3 : q ≠ qt := fun hh => by
      rcases h.qr with hq | ⟨l, hl⟩
      · exact e1 (by rw [hh, hq])
      · rw [hh, hl] at h2; cases h2
    exact k1.2 q h1 e1 e2 e3
end Go.Am.F09
end
section
namespace Go.Am.F10
open Go.Am.F06
variable {X : Type}
theorem rows_arg {α : Type} {f : α → List AV} {sz : Nat} (hf : ∀ x, (f x).length = sz) {m : Mem X} {i len cap : Nat} (hl : 0 < len → ∃ l, m[i]? = some (.cells sz true l) ∧ l.length = len * sz ∧ ∀ k, k < len → ∃ x : α, (l.drop (k * sz)).take sz = f x) :
    ∃ ws : List α, Sl m false sz ws.length (ws.flatMap f) (.sl i 0 len (some cap)) := by
  by_cases h0 : 0 < len
  · obtain ⟨l, h2, h3, h4⟩ := hl h0
    obtain ⟨ws, e1, e2⟩ := rows_of hf len h3 h4
    subst e1; subst e2
    have hlen := rows_len hf ws
    exact ⟨ws, hlen, .inr ⟨i, 0, some cap, rfl, fun _ => ⟨true, _, h2, by rw [List.drop_zero, ← hlen, List.take_length], by omega, fun h => by cases h⟩⟩⟩
  · have : len = 0 := by omega
    subst this
    exact ⟨[], by simp, .inr ⟨i, 0, some cap, rfl, fun h => absurd h (Nat.lt_irrefl _)⟩⟩
theorem flat_byte (ws : List {z : Int // 0 ≤ z ∧ z < 256}) : ws.flatMap (fun x => [AV.int .u8 x.1]) = (ws.map Subtype.val).map (AV.int .u8) := by
  induction ws with
  | nil => rfl
  | cons a ws ih => rw [List.flatMap_cons, ih]; rfl
theorem byte_arg {m : Mem X} {i len cap : Nat} (hl : 0 < len → ∃ l, m[i]? = some (.cells 1 true l) ∧ l.length = len * 1 ∧ ∀ k, k < len → ∃ z : Int, (l.drop (k * 1)).take 1 = [.int .u8 z] ∧ 0 ≤ z ∧ z < 256) :
    ∃ bs : List Int, SB m bs (.sl i 0 len (some cap)) ∧ ∀ x, x ∈ bs → 0 ≤ x ∧ x < 256 := by
  obtain ⟨ws, h⟩ := rows_arg (f := fun x : {z : Int // 0 ≤ z ∧ z < 256} => [AV.int .u8 x.1]) (sz := 1) (m := m) (i := i) (len := len) (cap := cap) (fun _ => rfl) (fun h0 => by
    obtain ⟨l, h1, h2, h3⟩ := hl h0
    exact ⟨l, h1, h2, fun k hk => by obtain ⟨z, e, b1, b2⟩ := h3 k hk; exact ⟨⟨z, b1, b2⟩, e⟩⟩)
  rw [flat_byte] at h
  refine ⟨ws.map Subtype.val, by show Sl m false _ (ws.map Subtype.val).length _ _; rw [List.length_map]; exact h, fun x hx => ?_⟩
  obtain ⟨a, _, rfl⟩ := List.mem_map.1 hx
  exact a.2
theorem flat_pk (ws : List {x : Pk // W64 x.v}) : ws.flatMap (fun x => pkC x.1) = (ws.map Subtype.val).flatMap pkC := by
  induction ws with
  | nil => rfl
  | cons a ws ih => rw [List.flatMap_cons, ih]; rfl
theorem pk_arg {m : Mem X} {i len cap : Nat} (hl : 0 < len → ∃ l, m[i]? = some (.cells 3 true l) ∧ l.length = len * 3 ∧ ∀ k, k < len → ∃ x : Pk, (l.drop (k * 3)).take 3 = pkC x ∧ W64 x.v) :
    ∃ ps : List Pk, SPk m false ps (.sl i 0 len (some cap)) ∧ ∀ x, x ∈ ps → W64 x.v := by
  obtain ⟨ws, h⟩ := rows_arg (f := fun x : {x : Pk // W64 x.v} => pkC x.1) (sz := 3) (m := m) (i := i) (len := len) (cap := cap) (fun _ => rfl) (fun h0 => by
    obtain ⟨l, h1, h2, h3⟩ := hl h0
    exact ⟨l, h1, h2, fun k hk => by obtain ⟨z, e, b⟩ := h3 k hk; exact ⟨⟨z, b⟩, e⟩⟩)
  rw [flat_pk] at h
  refine ⟨ws.map Subtype.val, by show Sl m false _ (ws.map Subtype.val).length _ _; rw [List.length_map]; exact h, fun x hx => ?_⟩
  obtain ⟨a, _, rfl⟩ := List.mem_map.1 hx
  exact a.2
theorem pk_of {as : List AV} (hl : as.length = 3) {d : Bool} {a v : Int} (h0 : as[0]? = some (.bool d)) (h1 : as[1]? = some (.int .i64 a)) (h2 : as[2]? = some (.int .u64 v)) : as = pkC ⟨d, a, v⟩ := by
  match as, hl with
  | [x, y, z], _ =>
    simp only [List.getElem?_cons_zero, List.getElem?_cons_succ, Option.some.injEq] at h0 h1 h2
    subst h0; subst h1; subst h2; rfl
end Go.Am.F10
end
