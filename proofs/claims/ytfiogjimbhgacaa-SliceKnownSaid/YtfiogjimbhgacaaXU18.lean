/- SliceTells on the abstract machine. -/
import Derived.Test.YtfiogjimbhgacaaXT18
import Derived.Test.YtfiogjimbhgacaaXQ18
set_option linter.unusedSimpArgs false
set_option linter.unusedVariables false
namespace Go.Am.F18
variable {X : Type}

def Rd (l : List AV) (o n : Nat) (g : Nat → Gl) : Prop :=
  ∀ i, i < n → l[o + i * 5 + 1]? = some (.int .i64 (g i).stat) ∧ l[o + i * 5 + 2]? = some (.int .u64 (g i).tick) ∧ l[o + i * 5 + 3]? = some (.int .u64 (g i).sys) ∧ l[o + i * 5 + 4]? = some (.int .i64 (g i).now)
theorem Rd.r1 {l : List AV} {o n : Nat} {g : Nat → Gl} (h : Rd l o n g) {i : Nat} (hi : i < n) : l[o + i * 5 + 1]? = some (.int .i64 (g i).stat) := (h i hi).1
theorem Rd.r2 {l : List AV} {o n : Nat} {g : Nat → Gl} (h : Rd l o n g) {i : Nat} (hi : i < n) : l[o + i * 5 + 2]? = some (.int .u64 (g i).tick) := (h i hi).2.1
theorem Rd.r3 {l : List AV} {o n : Nat} {g : Nat → Gl} (h : Rd l o n g) {i : Nat} (hi : i < n) : l[o + i * 5 + 3]? = some (.int .u64 (g i).sys) := (h i hi).2.2.1
theorem Rd.r4 {l : List AV} {o n : Nat} {g : Nat → Gl} (h : Rd l o n g) {i : Nat} (hi : i < n) : l[o + i * 5 + 4]? = some (.int .i64 (g i).now) := (h i hi).2.2.2

theorem same_run (m : Mem X) {l : List AV} {o n c : Nat} {ro : Bool} {cp : Option Nat} {g : Nat → Gl} (hr : Rd l o n g) (hm : m[c]? = some (.cells 5 ro l)) (hn : n ≤ 60) (a b : Nat) (hb : b < n) :
    Fn [] law18_same [.sl c o n cp, .int .i64 a, .int .i64 b] m (fun r m' => ∃ t : Bool, r = .bool t ∧ (t = true ↔ ∀ j, a ≤ j → j ≤ b → (g j).tick = (g b).tick) ∧ m' = m) := by
  refine Fn_of rfl ?_
  simp (disch := first | assumption | omega | (simp only [List.length_cons, List.length_nil, List.length_set, List.length_append] <;> omega) | (simp only [get_mid, get_mid0, List.cons_append, List.append_assoc, List.getElem?_cons_zero, List.getElem?_cons_succ])) only [law18_same, ek, ↓evW, ↓evQ, evB, evS, evL, List.map, AV.cells, List.all, AV.one, Bool.and_true, Bool.true_and, if_true, ↓thenQ_normal, ↓thenQ_exit, ↓thenQ_ret, ↓blockQ_normal, ↓blockQ_ret, ↓blockQ_exit, ↓CW_true, ↓CW_false, CW_true, CW_false, condT, condF, RQ_some, tupA_one, tupA_two, tupA_nil, Nat.reduceSub, Nat.reduceAdd, Nat.reduceMul, Nat.zero_add, Nat.add_zero, Nat.reduceLeDiff, Nat.reduceEqDiff, eqV, eqAll, fillA, and_self, and_true, true_and, Nat.le_refl, Bool.not_true, Bool.not_false, Bool.false_xor, Bool.true_xor, cond_true, cond_false, List.replicate, if_false, reduceIte, resAll, resA, ne_eq, decide_not, decide_true, decide_false, Int.reduceEq, Bool.not_true, Bool.not_false, not_true_eq_false, not_false_eq_true, cond_bool, cond_int, beq_self_eq_true, Int.reduceBEq, Bool.and_self, Bool.and_false, Bool.false_and, Bool.xor_false, Bool.xor_true, loadN_ldC, ldC_none, ldC_somes, stC_aggs, splice, storeN_stC, stC_int, stC_bool, stC_ptr, stC_nilp, stC_sl, stC_nils, getC_gcO, gcO_cells, W_draw_eq, evT, evF, evX, evM, ↓exitQ_normal, ↓exitQ_ret, ↓exitQ_exit, saA_self, saO_self, if_pos, wrapI, get_concat, set_concat, Int.toNat_natCast, Int.toNat_zero, List.nil_append, Nat.mul_one, decide_eq_true, decide_eq_false, Int.reduceLE, Int.reduceLT, Int.reduceNeg, Bool.false_or, Bool.true_or, Bool.or_false, Bool.or_true, wrapU, Int.reduceAdd, Int.reduceSub, Int.reduceMul]
  refine W_loop (fun k e m' => ∃ (j : Nat) (x y : AV), e = [.sl c o n cp, .int .i64 a, .int .i64 b, .bool false, .int .i64 j, x, y] ∧ a ≤ j ∧ k = b + 1 - j ∧ m' = m ∧ ∀ i, a ≤ i → i < j → (g i).tick = (g b).tick)
    (b + 1 - a) (by simp only [FUEL]; omega) ⟨a, _, _, rfl, Nat.le_refl _, rfl, rfl, fun i h1 h2 => by omega⟩ ?_
  rintro k e m' ⟨j, x, y, rfl, haj, rfl, rfl, hj⟩
  simp (disch := first | assumption | omega | (simp only [List.length_cons, List.length_nil, List.length_set, List.length_append] <;> omega) | (simp only [get_mid, get_mid0, List.cons_append, List.append_assoc, List.getElem?_cons_zero, List.getElem?_cons_succ])) only [ek, ↓evW, ↓evQ, evB, evS, evL, List.map, AV.cells, List.all, AV.one, Bool.and_true, Bool.true_and, if_true, ↓thenQ_normal, ↓thenQ_exit, ↓thenQ_ret, ↓blockQ_normal, ↓blockQ_ret, ↓blockQ_exit, ↓CW_true, ↓CW_false, CW_true, CW_false, condT, condF, RQ_some, tupA_one, tupA_two, tupA_nil, Nat.reduceSub, Nat.reduceAdd, Nat.reduceMul, Nat.zero_add, Nat.add_zero, Nat.reduceLeDiff, Nat.reduceEqDiff, eqV, eqAll, fillA, and_self, and_true, true_and, Nat.le_refl, Bool.not_true, Bool.not_false, Bool.false_xor, Bool.true_xor, cond_true, cond_false, List.replicate, if_false, reduceIte, resAll, resA, ne_eq, decide_not, decide_true, decide_false, Int.reduceEq, Bool.not_true, Bool.not_false, not_true_eq_false, not_false_eq_true, cond_bool, cond_int, beq_self_eq_true, Int.reduceBEq, Bool.and_self, Bool.and_false, Bool.false_and, Bool.xor_false, Bool.xor_true, loadN_ldC, ldC_none, ldC_somes, stC_aggs, splice, storeN_stC, stC_int, stC_bool, stC_ptr, stC_nilp, stC_sl, stC_nils, getC_gcO, gcO_cells, W_draw_eq, evT, evF, evX, evM, ↓exitQ_normal, ↓exitQ_ret, ↓exitQ_exit, saA_self, saO_self, if_pos, wrapI, get_concat, set_concat, Int.toNat_natCast, Int.toNat_zero, List.nil_append, Nat.mul_one, decide_eq_true, decide_eq_false, Int.reduceLE, Int.reduceLT, Int.reduceNeg, Bool.false_or, Bool.true_or, Bool.or_false, Bool.or_true, wrapU, Int.reduceAdd, Int.reduceSub, Int.reduceMul]
  refine CW_of (fun h => ?_) (fun h => ?_)
  · simp only [decide_eq_true_eq] at h
    simp (disch := first | assumption | omega | (simp only [List.length_cons, List.length_nil, List.length_set, List.length_append] <;> omega) | (simp only [get_mid, get_mid0, List.cons_append, List.append_assoc, List.getElem?_cons_zero, List.getElem?_cons_succ])) only [ek, ↓evW, ↓evQ, evB, evS, evL, List.map, AV.cells, List.all, AV.one, Bool.and_true, Bool.true_and, if_true, ↓thenQ_normal, ↓thenQ_exit, ↓thenQ_ret, ↓blockQ_normal, ↓blockQ_ret, ↓blockQ_exit, ↓CW_true, ↓CW_false, CW_true, CW_false, condT, condF, RQ_some, tupA_one, tupA_two, tupA_nil, Nat.reduceSub, Nat.reduceAdd, Nat.reduceMul, Nat.zero_add, Nat.add_zero, Nat.reduceLeDiff, Nat.reduceEqDiff, eqV, eqAll, fillA, and_self, and_true, true_and, Nat.le_refl, Bool.not_true, Bool.not_false, Bool.false_xor, Bool.true_xor, cond_true, cond_false, List.replicate, if_false, reduceIte, resAll, resA, ne_eq, decide_not, decide_true, decide_false, Int.reduceEq, Bool.not_true, Bool.not_false, not_true_eq_false, not_false_eq_true, cond_bool, cond_int, beq_self_eq_true, Int.reduceBEq, Bool.and_self, Bool.and_false, Bool.false_and, Bool.xor_false, Bool.xor_true, loadN_ldC, ldC_none, ldC_somes, stC_aggs, splice, storeN_stC, stC_int, stC_bool, stC_ptr, stC_nilp, stC_sl, stC_nils, getC_gcO, gcO_cells, W_draw_eq, evT, evF, evX, evM, ↓exitQ_normal, ↓exitQ_ret, ↓exitQ_exit, saA_self, saO_self, if_pos, wrapI, get_concat, set_concat, Int.toNat_natCast, Int.toNat_zero, List.nil_append, Nat.mul_one, decide_eq_true, decide_eq_false, Int.reduceLE, Int.reduceLT, Int.reduceNeg, Bool.false_or, Bool.true_or, Bool.or_false, Bool.or_true, wrapU, Int.reduceAdd, Int.reduceSub, Int.reduceMul, hm, hr.r2]
    refine CW_of (fun h' => ?_) (fun h' => ?_)
    · simp only [Bool.not_eq_true', decide_eq_false_iff_not] at h'
      simp (disch := first | assumption | omega | (simp only [List.length_cons, List.length_nil, List.length_set, List.length_append] <;> omega) | (simp only [get_mid, get_mid0, List.cons_append, List.append_assoc, List.getElem?_cons_zero, List.getElem?_cons_succ])) only [ek, ↓evW, ↓evQ, evB, evS, evL, List.map, AV.cells, List.all, AV.one, Bool.and_true, Bool.true_and, if_true, ↓thenQ_normal, ↓thenQ_exit, ↓thenQ_ret, ↓blockQ_normal, ↓blockQ_ret, ↓blockQ_exit, ↓CW_true, ↓CW_false, CW_true, CW_false, condT, condF, RQ_some, tupA_one, tupA_two, tupA_nil, Nat.reduceSub, Nat.reduceAdd, Nat.reduceMul, Nat.zero_add, Nat.add_zero, Nat.reduceLeDiff, Nat.reduceEqDiff, eqV, eqAll, fillA, and_self, and_true, true_and, Nat.le_refl, Bool.not_true, Bool.not_false, Bool.false_xor, Bool.true_xor, cond_true, cond_false, List.replicate, if_false, reduceIte, resAll, resA, ne_eq, decide_not, decide_true, decide_false, Int.reduceEq, Bool.not_true, Bool.not_false, not_true_eq_false, not_false_eq_true, cond_bool, cond_int, beq_self_eq_true, Int.reduceBEq, Bool.and_self, Bool.and_false, Bool.false_and, Bool.xor_false, Bool.xor_true, loadN_ldC, ldC_none, ldC_somes, stC_aggs, splice, storeN_stC, stC_int, stC_bool, stC_ptr, stC_nilp, stC_sl, stC_nils, getC_gcO, gcO_cells, W_draw_eq, evT, evF, evX, evM, ↓exitQ_normal, ↓exitQ_ret, ↓exitQ_exit, saA_self, saO_self, if_pos, wrapI, get_concat, set_concat, Int.toNat_natCast, Int.toNat_zero, List.nil_append, Nat.mul_one, decide_eq_true, decide_eq_false, Int.reduceLE, Int.reduceLT, Int.reduceNeg, Bool.false_or, Bool.true_or, Bool.or_false, Bool.or_true, wrapU, Int.reduceAdd, Int.reduceSub, Int.reduceMul]
      exact ⟨false, rfl, by simp; exact ⟨j, haj, by omega, h'⟩⟩
    · simp only [Bool.not_eq_false', decide_eq_true_eq] at h'
      simp (disch := first | assumption | omega | (simp only [List.length_cons, List.length_nil, List.length_set, List.length_append] <;> omega) | (simp only [get_mid, get_mid0, List.cons_append, List.append_assoc, List.getElem?_cons_zero, List.getElem?_cons_succ])) only [ek, ↓evW, ↓evQ, evB, evS, evL, List.map, AV.cells, List.all, AV.one, Bool.and_true, Bool.true_and, if_true, ↓thenQ_normal, ↓thenQ_exit, ↓thenQ_ret, ↓blockQ_normal, ↓blockQ_ret, ↓blockQ_exit, ↓CW_true, ↓CW_false, CW_true, CW_false, condT, condF, RQ_some, tupA_one, tupA_two, tupA_nil, Nat.reduceSub, Nat.reduceAdd, Nat.reduceMul, Nat.zero_add, Nat.add_zero, Nat.reduceLeDiff, Nat.reduceEqDiff, eqV, eqAll, fillA, and_self, and_true, true_and, Nat.le_refl, Bool.not_true, Bool.not_false, Bool.false_xor, Bool.true_xor, cond_true, cond_false, List.replicate, if_false, reduceIte, resAll, resA, ne_eq, decide_not, decide_true, decide_false, Int.reduceEq, Bool.not_true, Bool.not_false, not_true_eq_false, not_false_eq_true, cond_bool, cond_int, beq_self_eq_true, Int.reduceBEq, Bool.and_self, Bool.and_false, Bool.false_and, Bool.xor_false, Bool.xor_true, loadN_ldC, ldC_none, ldC_somes, stC_aggs, splice, storeN_stC, stC_int, stC_bool, stC_ptr, stC_nilp, stC_sl, stC_nils, getC_gcO, gcO_cells, W_draw_eq, evT, evF, evX, evM, ↓exitQ_normal, ↓exitQ_ret, ↓exitQ_exit, saA_self, saO_self, if_pos, wrapI, get_concat, set_concat, Int.toNat_natCast, Int.toNat_zero, List.nil_append, Nat.mul_one, decide_eq_true, decide_eq_false, Int.reduceLE, Int.reduceLT, Int.reduceNeg, Bool.false_or, Bool.true_or, Bool.or_false, Bool.or_true, wrapU, Int.reduceAdd, Int.reduceSub, Int.reduceMul]
      refine ⟨_, (by omega : b + 1 - (j + 1) < _), j + 1, _, _, rfl, by omega, rfl, fun i h1 h2 => ?_⟩
      by_cases hij : i = j
      · subst hij; exact h'
      · exact hj i h1 (by omega)
  · simp only [decide_eq_false_iff_not] at h
    simp (disch := first | assumption | omega | (simp only [List.length_cons, List.length_nil, List.length_set, List.length_append] <;> omega) | (simp only [get_mid, get_mid0, List.cons_append, List.append_assoc, List.getElem?_cons_zero, List.getElem?_cons_succ])) only [ek, ↓evW, ↓evQ, evB, evS, evL, List.map, AV.cells, List.all, AV.one, Bool.and_true, Bool.true_and, if_true, ↓thenQ_normal, ↓thenQ_exit, ↓thenQ_ret, ↓blockQ_normal, ↓blockQ_ret, ↓blockQ_exit, ↓CW_true, ↓CW_false, CW_true, CW_false, condT, condF, RQ_some, tupA_one, tupA_two, tupA_nil, Nat.reduceSub, Nat.reduceAdd, Nat.reduceMul, Nat.zero_add, Nat.add_zero, Nat.reduceLeDiff, Nat.reduceEqDiff, eqV, eqAll, fillA, and_self, and_true, true_and, Nat.le_refl, Bool.not_true, Bool.not_false, Bool.false_xor, Bool.true_xor, cond_true, cond_false, List.replicate, if_false, reduceIte, resAll, resA, ne_eq, decide_not, decide_true, decide_false, Int.reduceEq, Bool.not_true, Bool.not_false, not_true_eq_false, not_false_eq_true, cond_bool, cond_int, beq_self_eq_true, Int.reduceBEq, Bool.and_self, Bool.and_false, Bool.false_and, Bool.xor_false, Bool.xor_true, loadN_ldC, ldC_none, ldC_somes, stC_aggs, splice, storeN_stC, stC_int, stC_bool, stC_ptr, stC_nilp, stC_sl, stC_nils, getC_gcO, gcO_cells, W_draw_eq, evT, evF, evX, evM, ↓exitQ_normal, ↓exitQ_ret, ↓exitQ_exit, saA_self, saO_self, if_pos, wrapI, get_concat, set_concat, Int.toNat_natCast, Int.toNat_zero, List.nil_append, Nat.mul_one, decide_eq_true, decide_eq_false, Int.reduceLE, Int.reduceLT, Int.reduceNeg, Bool.false_or, Bool.true_or, Bool.or_false, Bool.or_true, wrapU, Int.reduceAdd, Int.reduceSub, Int.reduceMul]
    exact ⟨true, rfl, by simp; exact fun i h1 h2 => hj i h1 (by omega)⟩

def Gtells : List (Nat × AFun X) := [(0, pureF worksG), (1, pureF lookG), (2, amFunc [] law18_same)]

def seenCells (s : Seen) : List AV := [.bool s.is, .int .u64 s.tick, .int .i64 s.tickAt, .bool s.call, .int .u64 s.sys, .int .i64 s.sysAt]

/-- Ahead of look i. -/
def TInv {X : Type} (m0 : Mem X) (c o : Nat) (cp : Option Nat) (n : Nat) (g : Nat → Gl) (k : Nat) (e : List AV) (m : Mem X) : Prop := ∃ (i : Nat) (s : Seen) (tl : List AV) (junk : Mem X) (x6 x7 x8 x9 x10 x11 x12 x13 x14 x15 x16 x17 x18 x19 : AV),
    e = [.sl c o n cp, .bool false, .ptr m0.length 0, .int .i64 (S g i), .sl (m0.length + 1) 0 n (some n), .int .i64 i, x6, x7, x8, x9, x10, x11, x12, x13, x14, x15, x16, x17, x18, x19] ∧
    m = m0 ++ .cells 6 false (seenCells s) :: .cells 1 false tl :: junk ∧ k = n - i ∧ i ≤ n ∧ Inv g i s ∧ tl.length = n ∧ ∀ j, j < i → tl[j]? = some (.int .i64 (S g (j + 1)))

/-- Within look i, ahead of place k (from above). -/
def KInv (m0 : Mem X) (c o : Nat) (cp : Option Nat) (n : Nat) (g : Nat → Gl) (i : Nat) (s : Seen) (tl : List AV) (nn : Int) (k : Nat) (e : List AV) (m : Mem X) : Prop := ∃ (slow call calls : Bool) (z : Int) (junk : Mem X) (x6 x12 x13 x14 x15 x16 x17 x18 x19 : AV),
    e = [.sl c o n cp, .bool false, .ptr m0.length 0, .int .i64 (S g (i + 1)), .sl (m0.length + 1) 0 n (some n), .int .i64 i, x6, .int .i64 nn, .bool slow, .bool call, .bool calls, .int .i64 z, x12, x13, x14, x15, x16, x17, x18, x19] ∧
    m = m0 ++ .cells 6 false (seenCells s) :: .cells 1 false tl :: junk ∧ z = k - 1 ∧ k ≤ i + 1 ∧
    (∀ j, k ≤ j → j ≤ i → active g j) ∧ (calls = true ↔ calling g i ∧ ∀ j, k ≤ j → j ≤ i → calling g j ∧ sys g j = sys g i) ∧
    (call = true ↔ ∃ j, k ≤ j ∧ R (calling g) (sys g) i j ∧ 10000000 ≤ S g (i + 1) - S g (j + 1)) ∧ (slow = true ↔ ∃ j, k ≤ j ∧ R (active g) (tick g) i j ∧ 10000000 ≤ S g (i + 1) - S g (j + 1))

section
variable {g : Nat → Gl} {i k : Nat} {slow call calls : Bool}
theorem kend_not (hac : ∀ j, k + 1 ≤ j → j ≤ i → active g j) (hk : k + 1 ≤ i + 1) (h1 : ¬ (g k).stat = 1) (h2 : ¬ (g k).stat = 2) (hcall : call = true ↔ ∃ j, k + 1 ≤ j ∧ R (calling g) (sys g) i j ∧ 10000000 ≤ S g (i + 1) - S g (j + 1))
    (hslow : slow = true ↔ ∃ j, k + 1 ≤ j ∧ R (active g) (tick g) i j ∧ 10000000 ≤ S g (i + 1) - S g (j + 1)) : (call = true ↔ callP g i) ∧ (slow = true ↔ slowP g i) := by
  constructor
  · rw [hcall]
    constructor
    · rintro ⟨j, h3, h4⟩; exact ⟨j, h4⟩
    · rintro ⟨j, h4⟩
      by_cases hj : k + 1 ≤ j
      · exact ⟨j, hj, h4⟩
      · exact absurd (h4.1.2 k (by omega) (by omega)).1 h2
  · rw [hslow]
    constructor
    · rintro ⟨j, h3, h4⟩; exact ⟨j, h4⟩
    · rintro ⟨j, h4⟩
      by_cases hj : k + 1 ≤ j
      · exact ⟨j, hj, h4⟩
      · rcases (h4.1.2 k (by omega) (by omega)).1 with h | h
        · exact absurd h h1
        · exact absurd h h2
theorem kcalls (hk : k + 1 ≤ i + 1) (hcalls : calls = true ↔ calling g i ∧ ∀ j, k + 1 ≤ j → j ≤ i → calling g j ∧ sys g j = sys g i) :
    (calling g i ∧ ∀ j, k ≤ j → j ≤ i → calling g j ∧ sys g j = sys g i) ↔ (calls = true ∧ (g k).stat = 2 ∧ (g k).sys = (g i).sys) := by
  rw [hcalls]
  constructor
  · rintro ⟨h1, h2⟩
    exact ⟨⟨h1, fun j h3 h4 => h2 j (by omega) h4⟩, h2 k (Nat.le_refl _) (by omega)⟩
  · rintro ⟨⟨h1, h2⟩, h3⟩
    refine ⟨h1, fun j h4 h5 => ?_⟩
    by_cases hj : j = k
    · subst hj; exact h3
    · exact h2 j (by omega) h5
theorem kcall (hk : k + 1 ≤ i + 1) (hcalls : calls = true ↔ calling g i ∧ ∀ j, k + 1 ≤ j → j ≤ i → calling g j ∧ sys g j = sys g i)
    (hcall : call = true ↔ ∃ j, k + 1 ≤ j ∧ R (calling g) (sys g) i j ∧ 10000000 ≤ S g (i + 1) - S g (j + 1)) :
    (∃ j, k ≤ j ∧ R (calling g) (sys g) i j ∧ 10000000 ≤ S g (i + 1) - S g (j + 1)) ↔ (call = true ∨ (calls = true ∧ (g k).stat = 2 ∧ (g k).sys = (g i).sys) ∧ 10000000 ≤ S g (i + 1) - S g (k + 1)) := by
  rw [hcall, ← kcalls hk hcalls]
  constructor
  · rintro ⟨j, h1, h2, h3⟩
    by_cases hj : k + 1 ≤ j
    · exact .inl ⟨j, hj, h2, h3⟩
    · have : j = k := by omega
      subst this
      exact .inr ⟨⟨(h2.2 i h2.1 (Nat.le_refl _)).1, h2.2⟩, h3⟩
  · rintro (⟨j, h1, h2⟩ | ⟨⟨h1, h2⟩, h3⟩)
    · exact ⟨j, by omega, h2⟩
    · exact ⟨k, Nat.le_refl _, ⟨by omega, h2⟩, h3⟩
theorem kslow (hk : k + 1 ≤ i + 1) (hac : ∀ j, k + 1 ≤ j → j ≤ i → active g j) (hslow : slow = true ↔ ∃ j, k + 1 ≤ j ∧ R (active g) (tick g) i j ∧ 10000000 ≤ S g (i + 1) - S g (j + 1)) (h : (g k).stat = 1 ∨ (g k).stat = 2) :
    (∀ j, k ≤ j → j ≤ i → active g j) ∧
    ((∃ j, k ≤ j ∧ R (active g) (tick g) i j ∧ 10000000 ≤ S g (i + 1) - S g (j + 1)) ↔ (slow = true ∨ (∀ j, k ≤ j → j ≤ i → (g j).tick = (g i).tick) ∧ 10000000 ≤ S g (i + 1) - S g (k + 1))) := by
  have ha : ∀ j, k ≤ j → j ≤ i → active g j := fun j h1 h2 => by
    by_cases hj : j = k
    · subst hj; exact h
    · exact hac j (by omega) h2
  refine ⟨ha, ?_⟩
  rw [hslow]
  constructor
  · rintro ⟨j, h1, h2, h3⟩
    by_cases hj : k + 1 ≤ j
    · exact .inl ⟨j, hj, h2, h3⟩
    · have : j = k := by omega
      subst this
      exact .inr ⟨fun a b c => (h2.2 a b c).2, h3⟩
  · rintro (⟨j, h1, h2⟩ | ⟨h2, h3⟩)
    · exact ⟨j, by omega, h2⟩
    · exact ⟨k, Nat.le_refl _, ⟨by omega, fun a b c => ⟨ha a b c, h2 a b c⟩⟩, h3⟩
theorem kbreak (hk : k + 1 ≤ i + 1) (hcalls : calls = true ↔ calling g i ∧ ∀ j, k + 1 ≤ j → j ≤ i → calling g j ∧ sys g j = sys g i)
    (hcall : call = true ↔ ∃ j, k + 1 ≤ j ∧ R (calling g) (sys g) i j ∧ 10000000 ≤ S g (i + 1) - S g (j + 1)) (hslow : slow = true ↔ ∃ j, k + 1 ≤ j ∧ R (active g) (tick g) i j ∧ 10000000 ≤ S g (i + 1) - S g (j + 1))
    (ht : ¬ (g k).tick = (g i).tick) (hc : ¬ (calls = true ∧ (g k).stat = 2 ∧ (g k).sys = (g i).sys)) : (call = true ↔ callP g i) ∧ (slow = true ↔ slowP g i) := by
  constructor
  · rw [hcall]
    constructor
    · rintro ⟨j, h3, h4⟩; exact ⟨j, h4⟩
    · rintro ⟨j, h4⟩
      by_cases hj : k + 1 ≤ j
      · exact ⟨j, hj, h4⟩
      · exact absurd ((kcalls hk hcalls).1 ⟨(h4.1.2 i h4.1.1 (Nat.le_refl _)).1, fun a b c => h4.1.2 a (by omega) c⟩) hc
  · rw [hslow]
    constructor
    · rintro ⟨j, h3, h4⟩; exact ⟨j, h4⟩
    · rintro ⟨j, h4⟩
      by_cases hj : k + 1 ≤ j
      · exact ⟨j, hj, h4⟩
      · exact absurd (h4.1.2 k (by omega) (by omega)).2 ht
end

/-- Behind them. -/
def KEnd (m0 : Mem X) (c o : Nat) (cp : Option Nat) (n : Nat) (g : Nat → Gl) (i : Nat) (s : Seen) (tl : List AV) (nn : Int) (e : List AV) (m : Mem X) : Prop := ∃ (slow call : Bool) (junk : Mem X) (x6 x10 x11 x12 x13 x14 x15 x16 x17 x18 x19 : AV),
    e = [.sl c o n cp, .bool false, .ptr m0.length 0, .int .i64 (S g (i + 1)), .sl (m0.length + 1) 0 n (some n), .int .i64 i, x6, .int .i64 nn, .bool slow, .bool call, x10, x11, x12, x13, x14, x15, x16, x17, x18, x19] ∧
    m = m0 ++ .cells 6 false (seenCells s) :: .cells 1 false tl :: junk ∧ (call = true ↔ callP g i) ∧ (slow = true ↔ slowP g i)

set_option maxHeartbeats 4000000 in
theorem tells_run {m0 : Mem X} {c o : Nat} {ro : Bool} {cp : Option Nat} {l : List AV} {n : Nat} {g : Nat → Gl} (hc : c < m0.length) (hm0 : 0 < n → m0[c]? = some (.cells 5 ro l)) (hr : Rd l o n g) (hn : n ≤ 60) :
    Fn (Gtells (X := X)) law18_SliceTells [.sl c o n cp] m0 (fun r m' => r = .bool true ∧ ∃ J, m' = m0 ++ J) := by
  have a0 : assoc (Gtells (X := X)) 0 = some (pureF worksG) := rfl
  have a1 : assoc (Gtells (X := X)) 1 = some (pureF lookG) := rfl
  have a2 : assoc (Gtells (X := X)) 2 = some (amFunc [] law18_same) := rfl
  generalize Gtells (X := X) = G at a0 a1 a2 ⊢
  refine Fn_of rfl ?_
  simp (disch := first | assumption | omega | (simp only [List.length_cons, List.length_nil, List.length_set, List.length_append] <;> omega) | (simp only [get_mid, get_mid0, List.cons_append, List.append_assoc, List.getElem?_cons_zero, List.getElem?_cons_succ])) only [law18_SliceTells, ek, ↓evW, ↓evQ, evB, evS, evL, List.map, AV.cells, List.all, AV.one, Bool.and_true, Bool.true_and, if_true, ↓thenQ_normal, ↓thenQ_exit, ↓thenQ_ret, ↓blockQ_normal, ↓blockQ_ret, ↓blockQ_exit, ↓CW_true, ↓CW_false, CW_true, CW_false, condT, condF, RQ_some, tupA_one, tupA_two, tupA_nil, Nat.reduceSub, Nat.reduceAdd, Nat.reduceMul, Nat.zero_add, Nat.add_zero, Nat.reduceLeDiff, Nat.reduceEqDiff, eqV, eqAll, fillA, and_self, and_true, true_and, Nat.le_refl, Bool.not_true, Bool.not_false, Bool.false_xor, Bool.true_xor, cond_true, cond_false, List.replicate, if_false, reduceIte, resAll, resA, ne_eq, decide_not, decide_true, decide_false, Int.reduceEq, Bool.not_true, Bool.not_false, not_true_eq_false, not_false_eq_true, cond_bool, cond_int, beq_self_eq_true, Int.reduceBEq, Bool.and_self, Bool.and_false, Bool.false_and, Bool.xor_false, Bool.xor_true, loadN_ldC, ldC_none, ldC_somes, stC_aggs, splice, storeN_stC, stC_int, stC_bool, stC_ptr, stC_nilp, stC_sl, stC_nils, getC_gcO, gcO_cells, W_draw_eq, evT, evF, evX, evM, ↓exitQ_normal, ↓exitQ_ret, ↓exitQ_exit, saA_self, saO_self, if_pos, wrapI, get_concat, set_concat, Int.toNat_natCast, Int.toNat_zero, List.nil_append, Nat.mul_one, decide_eq_true, decide_eq_false, Int.reduceLE, Int.reduceLT, Int.reduceNeg, Bool.false_or, Bool.true_or, Bool.or_false, Bool.or_true, wrapU, Int.reduceAdd, Int.reduceSub, Int.reduceMul, List.append_assoc, List.length_append, get_mid, get_mid0, set_mid, set_mid0, evC]
  refine W_loop (TInv m0 c o cp n g) n (by simp only [FUEL]; omega)
    ⟨0, ⟨false, 0, 0, false, 0, 0⟩, _, [], _, _, _, _, _, _, _, _, _, _, _, _, _, _, rfl, rfl, rfl, Nat.zero_le _, inv_zero g, by simp [repeatL], fun j h => by omega⟩ ?_
  rintro k e m' ⟨i, s, tl, junk, x6, x7, x8, x9, x10, x11, x12, x13, x14, x15, x16, x17, x18, x19, rfl, rfl, rfl, hi, hinv, htl, ht⟩
  simp (disch := first | assumption | omega | (simp only [List.length_cons, List.length_nil, List.length_set, List.length_append] <;> omega) | (simp only [get_mid, get_mid0, List.cons_append, List.append_assoc, List.getElem?_cons_zero, List.getElem?_cons_succ])) only [ek, ↓evW, ↓evQ, evB, evS, evL, List.map, AV.cells, List.all, AV.one, Bool.and_true, Bool.true_and, if_true, ↓thenQ_normal, ↓thenQ_exit, ↓thenQ_ret, ↓blockQ_normal, ↓blockQ_ret, ↓blockQ_exit, ↓CW_true, ↓CW_false, CW_true, CW_false, condT, condF, RQ_some, tupA_one, tupA_two, tupA_nil, Nat.reduceSub, Nat.reduceAdd, Nat.reduceMul, Nat.zero_add, Nat.add_zero, Nat.reduceLeDiff, Nat.reduceEqDiff, eqV, eqAll, fillA, and_self, and_true, true_and, Nat.le_refl, Bool.not_true, Bool.not_false, Bool.false_xor, Bool.true_xor, cond_true, cond_false, List.replicate, if_false, reduceIte, resAll, resA, ne_eq, decide_not, decide_true, decide_false, Int.reduceEq, Bool.not_true, Bool.not_false, not_true_eq_false, not_false_eq_true, cond_bool, cond_int, beq_self_eq_true, Int.reduceBEq, Bool.and_self, Bool.and_false, Bool.false_and, Bool.xor_false, Bool.xor_true, loadN_ldC, ldC_none, ldC_somes, stC_aggs, splice, storeN_stC, stC_int, stC_bool, stC_ptr, stC_nilp, stC_sl, stC_nils, getC_gcO, gcO_cells, W_draw_eq, evT, evF, evX, evM, ↓exitQ_normal, ↓exitQ_ret, ↓exitQ_exit, saA_self, saO_self, if_pos, wrapI, get_concat, set_concat, Int.toNat_natCast, Int.toNat_zero, List.nil_append, Nat.mul_one, decide_eq_true, decide_eq_false, Int.reduceLE, Int.reduceLT, Int.reduceNeg, Bool.false_or, Bool.true_or, Bool.or_false, Bool.or_true, wrapU, Int.reduceAdd, Int.reduceSub, Int.reduceMul, List.append_assoc, List.length_append, get_mid, get_mid0, set_mid, set_mid0]
  refine CW_of (fun h => ?_) (fun h => ?_)
  · simp only [decide_eq_true_eq] at h
    have hlt : i < n := by omega
    have hm : ∀ L, (m0 ++ L)[c]? = some (.cells 5 ro l) := fun L => (get_app hc).trans (hm0 (by omega))
    have hb1 := tm_lt (g i).now
    have hb2 := D_bd (g i).now
    have hb3 := S_le g i
    have hb4 := S_nonneg g i
    have hD : ((g i).now.tmod 20000000 + 20000000).tmod 20000000 = D (g i).now := rfl
    have hS : S g i + D (g i).now = S g (i + 1) := rfl
    obtain ⟨hinv', hw1, hw2, hw3⟩ := look_law (by omega) hinv
    obtain ⟨s', nn, hl⟩ : ∃ s' nn, look s (g i).stat (g i).tick (g i).sys (S g (i + 1)) = (s', nn) := ⟨_, _, rfl⟩
    rw [hl] at hinv' hw1 hw2 hw3
    have hl' : look ⟨s.is, s.tick, s.tickAt, s.call, s.sys, s.sysAt⟩ (g i).stat (g i).tick (g i).sys (S g (i + 1)) = (s', nn) := hl
    simp (disch := first | assumption | omega | (simp only [List.length_cons, List.length_nil, List.length_set, List.length_append] <;> omega) | (simp only [get_mid, get_mid0, List.cons_append, List.append_assoc, List.getElem?_cons_zero, List.getElem?_cons_succ])) only [ek, ↓evW, ↓evQ, evB, evS, evL, List.map, AV.cells, List.all, AV.one, Bool.and_true, Bool.true_and, if_true, ↓thenQ_normal, ↓thenQ_exit, ↓thenQ_ret, ↓blockQ_normal, ↓blockQ_ret, ↓blockQ_exit, ↓CW_true, ↓CW_false, CW_true, CW_false, condT, condF, RQ_some, tupA_one, tupA_two, tupA_nil, Nat.reduceSub, Nat.reduceAdd, Nat.reduceMul, Nat.zero_add, Nat.add_zero, Nat.reduceLeDiff, Nat.reduceEqDiff, eqV, eqAll, fillA, and_self, and_true, true_and, Nat.le_refl, Bool.not_true, Bool.not_false, Bool.false_xor, Bool.true_xor, cond_true, cond_false, List.replicate, if_false, reduceIte, resAll, resA, ne_eq, decide_not, decide_true, decide_false, Int.reduceEq, Bool.not_true, Bool.not_false, not_true_eq_false, not_false_eq_true, cond_bool, cond_int, beq_self_eq_true, Int.reduceBEq, Bool.and_self, Bool.and_false, Bool.false_and, Bool.xor_false, Bool.xor_true, loadN_ldC, ldC_none, ldC_somes, stC_aggs, splice, storeN_stC, stC_int, stC_bool, stC_ptr, stC_nilp, stC_sl, stC_nils, getC_gcO, gcO_cells, W_draw_eq, evT, evF, evX, evM, ↓exitQ_normal, ↓exitQ_ret, ↓exitQ_exit, saA_self, saO_self, if_pos, wrapI, get_concat, set_concat, Int.toNat_natCast, Int.toNat_zero, List.nil_append, Nat.mul_one, decide_eq_true, decide_eq_false, Int.reduceLE, Int.reduceLT, Int.reduceNeg, Bool.false_or, Bool.true_or, Bool.or_false, Bool.or_true, wrapU, Int.reduceAdd, Int.reduceSub, Int.reduceMul, List.append_assoc, List.length_append, get_mid, get_mid0, set_mid, set_mid0, hm, hr.r1, hr.r2, hr.r3, hr.r4, hD, hS, a1, pureF, lookG, seenCells, hl', Seen.av]
    have ht' : ∀ j, j ≤ i → (tl.set i (.int .i64 (S g (i + 1))))[j]? = some (.int .i64 (S g (j + 1))) := by
      intro j hj
      rw [List.getElem?_set]
      by_cases hij : i = j
      · subst hij; rw [if_pos rfl, if_pos (by omega)]
      · rw [if_neg hij]; exact ht j (by omega)
    have htl' : (tl.set i (.int .i64 (S g (i + 1)))).length = n := by simp [htl]
    clear ht htl
    generalize tl.set i (.int .i64 (S g (i + 1))) = tl at ht' htl' ⊢
    have hb5 := S_le g (i + 1)
    refine W_loopE 2 (KInv m0 c o cp n g i s' tl nn) (KEnd m0 c o cp n g i s' tl nn) (i + 1) (by simp only [FUEL]; omega) ?_ ?_ ?_
    · refine ⟨false, false, _, _, _, _, _, _, _, _, _, _, _, _, rfl, rfl, by omega, Nat.le_refl _, fun j h1 h2 => by omega, ?_, ?_, ?_⟩
      · simp only [decide_eq_true_eq]
        exact ⟨fun h => ⟨h, fun j h1 h2 => by omega⟩, fun h => h.1⟩
      · refine ⟨fun h => by simp at h, ?_⟩
        rintro ⟨j, h1, h2, _⟩
        have := h2.1; omega
      · refine ⟨fun h => by simp at h, ?_⟩
        rintro ⟨j, h1, h2, _⟩
        have := h2.1; omega
    · rintro k e m' ⟨slow, call, calls, z, junk, x6, x12, x13, x14, x15, x16, x17, x18, x19, rfl, rfl, hz, hk, hac, hcalls, hcall, hslow⟩
      cases k with
      | zero =>
        have hz : z = -1 := by omega
        subst hz
        simp (disch := first | assumption | omega | (simp only [List.length_cons, List.length_nil, List.length_set, List.length_append] <;> omega) | (simp only [get_mid, get_mid0, List.cons_append, List.append_assoc, List.getElem?_cons_zero, List.getElem?_cons_succ])) only [ek, ↓evW, ↓evQ, evB, evS, evL, List.map, AV.cells, List.all, AV.one, Bool.and_true, Bool.true_and, if_true, ↓thenQ_normal, ↓thenQ_exit, ↓thenQ_ret, ↓blockQ_normal, ↓blockQ_ret, ↓blockQ_exit, ↓CW_true, ↓CW_false, CW_true, CW_false, condT, condF, RQ_some, tupA_one, tupA_two, tupA_nil, Nat.reduceSub, Nat.reduceAdd, Nat.reduceMul, Nat.zero_add, Nat.add_zero, Nat.reduceLeDiff, Nat.reduceEqDiff, eqV, eqAll, fillA, and_self, and_true, true_and, Nat.le_refl, Bool.not_true, Bool.not_false, Bool.false_xor, Bool.true_xor, cond_true, cond_false, List.replicate, if_false, reduceIte, resAll, resA, ne_eq, decide_not, decide_true, decide_false, Int.reduceEq, Bool.not_true, Bool.not_false, not_true_eq_false, not_false_eq_true, cond_bool, cond_int, beq_self_eq_true, Int.reduceBEq, Bool.and_self, Bool.and_false, Bool.false_and, Bool.xor_false, Bool.xor_true, loadN_ldC, ldC_none, ldC_somes, stC_aggs, splice, storeN_stC, stC_int, stC_bool, stC_ptr, stC_nilp, stC_sl, stC_nils, getC_gcO, gcO_cells, W_draw_eq, evT, evF, evX, evM, ↓exitQ_normal, ↓exitQ_ret, ↓exitQ_exit, saA_self, saO_self, if_pos, wrapI, get_concat, set_concat, Int.toNat_natCast, Int.toNat_zero, List.nil_append, Nat.mul_one, decide_eq_true, decide_eq_false, Int.reduceLE, Int.reduceLT, Int.reduceNeg, Bool.false_or, Bool.true_or, Bool.or_false, Bool.or_true, wrapU, Int.reduceAdd, Int.reduceSub, Int.reduceMul, List.append_assoc, List.length_append, get_mid, get_mid0, set_mid, set_mid0]
        exact ⟨slow, call, _, _, _, _, _, _, _, _, _, _, _, _, rfl, rfl, by simpa [callP] using hcall, by simpa [slowP] using hslow⟩
      | succ k =>
        have hz : z = k := by omega
        subst hz
        have hki : k < n := by omega
        have hb6 := S_nonneg g (k + 1)
        have hb7 := S_mono g (k + 1) (i + 1) (by omega)
        have e0 : ¬ (g k).stat = 1 → ¬ (g k).stat = 2 → _ := fun h1 h2 => kend_not hac hk h1 h2 hcall hslow
        have e1 := kcalls hk hcalls
        have e2 := kcall hk hcalls hcall
        have e3 := kslow hk hac hslow
        have e4 := kbreak hk hcalls hcall hslow
        simp (disch := first | assumption | omega | (simp only [List.length_cons, List.length_nil, List.length_set, List.length_append] <;> omega) | (simp only [get_mid, get_mid0, List.cons_append, List.append_assoc, List.getElem?_cons_zero, List.getElem?_cons_succ])) only [ek, ↓evW, ↓evQ, evB, evS, evL, List.map, AV.cells, List.all, AV.one, Bool.and_true, Bool.true_and, if_true, ↓thenQ_normal, ↓thenQ_exit, ↓thenQ_ret, ↓blockQ_normal, ↓blockQ_ret, ↓blockQ_exit, ↓CW_true, ↓CW_false, CW_true, CW_false, condT, condF, RQ_some, tupA_one, tupA_two, tupA_nil, Nat.reduceSub, Nat.reduceAdd, Nat.reduceMul, Nat.zero_add, Nat.add_zero, Nat.reduceLeDiff, Nat.reduceEqDiff, eqV, eqAll, fillA, and_self, and_true, true_and, Nat.le_refl, Bool.not_true, Bool.not_false, Bool.false_xor, Bool.true_xor, cond_true, cond_false, List.replicate, if_false, reduceIte, resAll, resA, ne_eq, decide_not, decide_true, decide_false, Int.reduceEq, Bool.not_true, Bool.not_false, not_true_eq_false, not_false_eq_true, cond_bool, cond_int, beq_self_eq_true, Int.reduceBEq, Bool.and_self, Bool.and_false, Bool.false_and, Bool.xor_false, Bool.xor_true, loadN_ldC, ldC_none, ldC_somes, stC_aggs, splice, storeN_stC, stC_int, stC_bool, stC_ptr, stC_nilp, stC_sl, stC_nils, getC_gcO, gcO_cells, W_draw_eq, evT, evF, evX, evM, ↓exitQ_normal, ↓exitQ_ret, ↓exitQ_exit, saA_self, saO_self, if_pos, wrapI, get_concat, set_concat, Int.toNat_natCast, Int.toNat_zero, List.nil_append, Nat.mul_one, decide_eq_true, decide_eq_false, Int.reduceLE, Int.reduceLT, Int.reduceNeg, Bool.false_or, Bool.true_or, Bool.or_false, Bool.or_true, wrapU, Int.reduceAdd, Int.reduceSub, Int.reduceMul, List.append_assoc, List.length_append, get_mid, get_mid0, set_mid, set_mid0, hm, hr.r1, hr.r2, hr.r3, hr.r4]
        repeat' ((first | refine GK_of (fun h => ?_) (fun h => ?_) | refine CW_of (fun h => ?_) (fun h => ?_) | refine GKT_of (fun h => ?_) (fun h => ?_)) <;> (try simp only [Bool.not_eq_true', Bool.not_eq_false', decide_eq_true_eq, decide_eq_false_iff_not, Bool.and_eq_true, Bool.or_eq_true, Bool.and_eq_false_iff, Bool.or_eq_false_iff, Decidable.not_not] at h) <;> (try simp (disch := first | assumption | omega | (simp only [List.length_cons, List.length_nil, List.length_set, List.length_append] <;> omega) | (simp only [get_mid, get_mid0, List.cons_append, List.append_assoc, List.getElem?_cons_zero, List.getElem?_cons_succ])) only [ek, ↓evW, ↓evQ, evB, evS, evL, List.map, AV.cells, List.all, AV.one, Bool.and_true, Bool.true_and, if_true, ↓thenQ_normal, ↓thenQ_exit, ↓thenQ_ret, ↓blockQ_normal, ↓blockQ_ret, ↓blockQ_exit, ↓CW_true, ↓CW_false, CW_true, CW_false, condT, condF, RQ_some, tupA_one, tupA_two, tupA_nil, Nat.reduceSub, Nat.reduceAdd, Nat.reduceMul, Nat.zero_add, Nat.add_zero, Nat.reduceLeDiff, Nat.reduceEqDiff, eqV, eqAll, fillA, and_self, and_true, true_and, Nat.le_refl, Bool.not_true, Bool.not_false, Bool.false_xor, Bool.true_xor, cond_true, cond_false, List.replicate, if_false, reduceIte, resAll, resA, ne_eq, decide_not, decide_true, decide_false, Int.reduceEq, Bool.not_true, Bool.not_false, not_true_eq_false, not_false_eq_true, cond_bool, cond_int, beq_self_eq_true, Int.reduceBEq, Bool.and_self, Bool.and_false, Bool.false_and, Bool.xor_false, Bool.xor_true, loadN_ldC, ldC_none, ldC_somes, stC_aggs, splice, storeN_stC, stC_int, stC_bool, stC_ptr, stC_nilp, stC_sl, stC_nils, getC_gcO, gcO_cells, W_draw_eq, evT, evF, evX, evM, ↓exitQ_normal, ↓exitQ_ret, ↓exitQ_exit, saA_self, saO_self, if_pos, wrapI, get_concat, set_concat, Int.toNat_natCast, Int.toNat_zero, List.nil_append, Nat.mul_one, decide_eq_true, decide_eq_false, Int.reduceLE, Int.reduceLT, Int.reduceNeg, Bool.false_or, Bool.true_or, Bool.or_false, Bool.or_true, wrapU, Int.reduceAdd, Int.reduceSub, Int.reduceMul, List.append_assoc, List.length_append, get_mid, get_mid0, set_mid, set_mid0, hm, hr.r1, hr.r2, hr.r3, hr.r4, h, a2, ht']))
        all_goals try (refine OK_fn (same_run _ hr (hm _) hn k i hlt) ?_; rintro r m' ⟨t, rfl, hsame, rfl⟩; (try simp (disch := first | assumption | omega | (simp only [List.length_cons, List.length_nil, List.length_set, List.length_append] <;> omega) | (simp only [get_mid, get_mid0, List.cons_append, List.append_assoc, List.getElem?_cons_zero, List.getElem?_cons_succ])) only [ek, ↓evW, ↓evQ, evB, evS, evL, List.map, AV.cells, List.all, AV.one, Bool.and_true, Bool.true_and, if_true, ↓thenQ_normal, ↓thenQ_exit, ↓thenQ_ret, ↓blockQ_normal, ↓blockQ_ret, ↓blockQ_exit, ↓CW_true, ↓CW_false, CW_true, CW_false, condT, condF, RQ_some, tupA_one, tupA_two, tupA_nil, Nat.reduceSub, Nat.reduceAdd, Nat.reduceMul, Nat.zero_add, Nat.add_zero, Nat.reduceLeDiff, Nat.reduceEqDiff, eqV, eqAll, fillA, and_self, and_true, true_and, Nat.le_refl, Bool.not_true, Bool.not_false, Bool.false_xor, Bool.true_xor, cond_true, cond_false, List.replicate, if_false, reduceIte, resAll, resA, ne_eq, decide_not, decide_true, decide_false, Int.reduceEq, Bool.not_true, Bool.not_false, not_true_eq_false, not_false_eq_true, cond_bool, cond_int, beq_self_eq_true, Int.reduceBEq, Bool.and_self, Bool.and_false, Bool.false_and, Bool.xor_false, Bool.xor_true, loadN_ldC, ldC_none, ldC_somes, stC_aggs, splice, storeN_stC, stC_int, stC_bool, stC_ptr, stC_nilp, stC_sl, stC_nils, getC_gcO, gcO_cells, W_draw_eq, evT, evF, evX, evM, ↓exitQ_normal, ↓exitQ_ret, ↓exitQ_exit, saA_self, saO_self, if_pos, wrapI, get_concat, set_concat, Int.toNat_natCast, Int.toNat_zero, List.nil_append, Nat.mul_one, decide_eq_true, decide_eq_false, Int.reduceLE, Int.reduceLT, Int.reduceNeg, Bool.false_or, Bool.true_or, Bool.or_false, Bool.or_true, wrapU, Int.reduceAdd, Int.reduceSub, Int.reduceMul, List.append_assoc, List.length_append, get_mid, get_mid0, set_mid, set_mid0, hm, hr.r1, hr.r2, hr.r3, hr.r4, a2, ht']))
        all_goals repeat' ((first | refine GK_of (fun h => ?_) (fun h => ?_) | refine CW_of (fun h => ?_) (fun h => ?_) | refine GKT_of (fun h => ?_) (fun h => ?_)) <;> (try simp only [Bool.not_eq_true', Bool.not_eq_false', decide_eq_true_eq, decide_eq_false_iff_not, Bool.and_eq_true, Bool.or_eq_true, Bool.and_eq_false_iff, Bool.or_eq_false_iff, Decidable.not_not] at h) <;> (try simp (disch := first | assumption | omega | (simp only [List.length_cons, List.length_nil, List.length_set, List.length_append] <;> omega) | (simp only [get_mid, get_mid0, List.cons_append, List.append_assoc, List.getElem?_cons_zero, List.getElem?_cons_succ])) only [ek, ↓evW, ↓evQ, evB, evS, evL, List.map, AV.cells, List.all, AV.one, Bool.and_true, Bool.true_and, if_true, ↓thenQ_normal, ↓thenQ_exit, ↓thenQ_ret, ↓blockQ_normal, ↓blockQ_ret, ↓blockQ_exit, ↓CW_true, ↓CW_false, CW_true, CW_false, condT, condF, RQ_some, tupA_one, tupA_two, tupA_nil, Nat.reduceSub, Nat.reduceAdd, Nat.reduceMul, Nat.zero_add, Nat.add_zero, Nat.reduceLeDiff, Nat.reduceEqDiff, eqV, eqAll, fillA, and_self, and_true, true_and, Nat.le_refl, Bool.not_true, Bool.not_false, Bool.false_xor, Bool.true_xor, cond_true, cond_false, List.replicate, if_false, reduceIte, resAll, resA, ne_eq, decide_not, decide_true, decide_false, Int.reduceEq, Bool.not_true, Bool.not_false, not_true_eq_false, not_false_eq_true, cond_bool, cond_int, beq_self_eq_true, Int.reduceBEq, Bool.and_self, Bool.and_false, Bool.false_and, Bool.xor_false, Bool.xor_true, loadN_ldC, ldC_none, ldC_somes, stC_aggs, splice, storeN_stC, stC_int, stC_bool, stC_ptr, stC_nilp, stC_sl, stC_nils, getC_gcO, gcO_cells, W_draw_eq, evT, evF, evX, evM, ↓exitQ_normal, ↓exitQ_ret, ↓exitQ_exit, saA_self, saO_self, if_pos, wrapI, get_concat, set_concat, Int.toNat_natCast, Int.toNat_zero, List.nil_append, Nat.mul_one, decide_eq_true, decide_eq_false, Int.reduceLE, Int.reduceLT, Int.reduceNeg, Bool.false_or, Bool.true_or, Bool.or_false, Bool.or_true, wrapU, Int.reduceAdd, Int.reduceSub, Int.reduceMul, List.append_assoc, List.length_append, get_mid, get_mid0, set_mid, set_mid0, hm, hr.r1, hr.r2, hr.r3, hr.r4, h, a2, ht']))
        all_goals clear hr hm hm0 hc a0 a1 a2 hinv hinv' hw1 hw2 hw3 hl hl' ht' htl' hb1 hb2 hb3 hb4 hD hS hb5 hb6 hb7
        all_goals clear hac hcalls hcall hslow hz
        all_goals first
          | (refine ⟨_, _, _, _, _, _, _, _, _, _, _, _, _, _, rfl, rfl, ?_, ?_⟩ <;> grind)
          | (refine ⟨k, by omega, _, _, _, _, _, _, _, _, _, _, _, _, _, _, rfl, rfl, rfl, by omega, (e3 (by grind)).1, Iff.trans ?_ e1.symm, Iff.trans ?_ e2.symm, Iff.trans ?_ (e3 (by grind)).2.symm⟩ <;> grind)
    · rintro e m' ⟨slow, call, junk, x6, x10, x11, x12, x13, x14, x15, x16, x17, x18, x19, rfl, rfl, hcall, hslow⟩
      have hnn : (call = true → nn = 2) ∧ (call = false → slow = true → nn = 1) ∧ (call = false → slow = false → nn = 0) := by
        refine ⟨fun h => hw1 (hcall.1 h), fun h h' => hw2 (fun k => ?_) (hslow.1 h'), fun h h' => hw3 (fun k => ?_) (fun k => ?_)⟩
        · rw [hcall.2 k] at h; cases h
        · rw [hcall.2 k] at h; cases h
        · rw [hslow.2 k] at h'; cases h'
      have hend : ∀ (x6 x8 x9 x10 x11 x12 x13 x14 x15 x16 x17 x18 x19 : AV) (junk : Mem X), ∃ k, k < n - i ∧ TInv m0 c o cp n g k
          [.sl c o n cp, .bool false, .ptr m0.length 0, .int .i64 (S g (i + 1)), .sl (m0.length + 1) 0 n (some n), .int .i64 (i + 1), x6, .int .i64 nn, x8, x9, x10, x11, x12, x13, x14, x15, x16, x17, x18, x19]
          (m0 ++ .cells 6 false (seenCells s') :: .cells 1 false tl :: junk) := fun x6 x8 x9 x10 x11 x12 x13 x14 x15 x16 x17 x18 x19 junk =>
        ⟨n - (i + 1), by omega, i + 1, s', tl, junk, _, _, _, _, _, _, _, _, _, _, _, _, _, _, rfl, rfl, rfl, by omega, hinv', htl', fun j hj => ht' j (by omega)⟩
      cases call with
      | true =>
        obtain rfl : nn = 2 := hnn.1 rfl
        cases slow <;> simp (disch := first | assumption | omega | (simp only [List.length_cons, List.length_nil, List.length_set, List.length_append] <;> omega) | (simp only [get_mid, get_mid0, List.cons_append, List.append_assoc, List.getElem?_cons_zero, List.getElem?_cons_succ])) only [ek, ↓evW, ↓evQ, evB, evS, evL, List.map, AV.cells, List.all, AV.one, Bool.and_true, Bool.true_and, if_true, ↓thenQ_normal, ↓thenQ_exit, ↓thenQ_ret, ↓blockQ_normal, ↓blockQ_ret, ↓blockQ_exit, ↓CW_true, ↓CW_false, CW_true, CW_false, condT, condF, RQ_some, tupA_one, tupA_two, tupA_nil, Nat.reduceSub, Nat.reduceAdd, Nat.reduceMul, Nat.zero_add, Nat.add_zero, Nat.reduceLeDiff, Nat.reduceEqDiff, eqV, eqAll, fillA, and_self, and_true, true_and, Nat.le_refl, Bool.not_true, Bool.not_false, Bool.false_xor, Bool.true_xor, cond_true, cond_false, List.replicate, if_false, reduceIte, resAll, resA, ne_eq, decide_not, decide_true, decide_false, Int.reduceEq, Bool.not_true, Bool.not_false, not_true_eq_false, not_false_eq_true, cond_bool, cond_int, beq_self_eq_true, Int.reduceBEq, Bool.and_self, Bool.and_false, Bool.false_and, Bool.xor_false, Bool.xor_true, loadN_ldC, ldC_none, ldC_somes, stC_aggs, splice, storeN_stC, stC_int, stC_bool, stC_ptr, stC_nilp, stC_sl, stC_nils, getC_gcO, gcO_cells, W_draw_eq, evT, evF, evX, evM, ↓exitQ_normal, ↓exitQ_ret, ↓exitQ_exit, saA_self, saO_self, if_pos, wrapI, get_concat, set_concat, Int.toNat_natCast, Int.toNat_zero, List.nil_append, Nat.mul_one, decide_eq_true, decide_eq_false, Int.reduceLE, Int.reduceLT, Int.reduceNeg, Bool.false_or, Bool.true_or, Bool.or_false, Bool.or_true, wrapU, Int.reduceAdd, Int.reduceSub, Int.reduceMul, List.append_assoc, List.length_append, get_mid, get_mid0, set_mid, set_mid0] <;> exact hend _ _ _ _ _ _ _ _ _ _ _ _ _ _
      | false =>
        cases slow with
        | true =>
          obtain rfl : nn = 1 := hnn.2.1 rfl rfl
          simp (disch := first | assumption | omega | (simp only [List.length_cons, List.length_nil, List.length_set, List.length_append] <;> omega) | (simp only [get_mid, get_mid0, List.cons_append, List.append_assoc, List.getElem?_cons_zero, List.getElem?_cons_succ])) only [ek, ↓evW, ↓evQ, evB, evS, evL, List.map, AV.cells, List.all, AV.one, Bool.and_true, Bool.true_and, if_true, ↓thenQ_normal, ↓thenQ_exit, ↓thenQ_ret, ↓blockQ_normal, ↓blockQ_ret, ↓blockQ_exit, ↓CW_true, ↓CW_false, CW_true, CW_false, condT, condF, RQ_some, tupA_one, tupA_two, tupA_nil, Nat.reduceSub, Nat.reduceAdd, Nat.reduceMul, Nat.zero_add, Nat.add_zero, Nat.reduceLeDiff, Nat.reduceEqDiff, eqV, eqAll, fillA, and_self, and_true, true_and, Nat.le_refl, Bool.not_true, Bool.not_false, Bool.false_xor, Bool.true_xor, cond_true, cond_false, List.replicate, if_false, reduceIte, resAll, resA, ne_eq, decide_not, decide_true, decide_false, Int.reduceEq, Bool.not_true, Bool.not_false, not_true_eq_false, not_false_eq_true, cond_bool, cond_int, beq_self_eq_true, Int.reduceBEq, Bool.and_self, Bool.and_false, Bool.false_and, Bool.xor_false, Bool.xor_true, loadN_ldC, ldC_none, ldC_somes, stC_aggs, splice, storeN_stC, stC_int, stC_bool, stC_ptr, stC_nilp, stC_sl, stC_nils, getC_gcO, gcO_cells, W_draw_eq, evT, evF, evX, evM, ↓exitQ_normal, ↓exitQ_ret, ↓exitQ_exit, saA_self, saO_self, if_pos, wrapI, get_concat, set_concat, Int.toNat_natCast, Int.toNat_zero, List.nil_append, Nat.mul_one, decide_eq_true, decide_eq_false, Int.reduceLE, Int.reduceLT, Int.reduceNeg, Bool.false_or, Bool.true_or, Bool.or_false, Bool.or_true, wrapU, Int.reduceAdd, Int.reduceSub, Int.reduceMul, List.append_assoc, List.length_append, get_mid, get_mid0, set_mid, set_mid0]
          exact hend _ _ _ _ _ _ _ _ _ _ _ _ _ _
        | false =>
          obtain rfl : nn = 0 := hnn.2.2 rfl rfl
          simp (disch := first | assumption | omega | (simp only [List.length_cons, List.length_nil, List.length_set, List.length_append] <;> omega) | (simp only [get_mid, get_mid0, List.cons_append, List.append_assoc, List.getElem?_cons_zero, List.getElem?_cons_succ])) only [ek, ↓evW, ↓evQ, evB, evS, evL, List.map, AV.cells, List.all, AV.one, Bool.and_true, Bool.true_and, if_true, ↓thenQ_normal, ↓thenQ_exit, ↓thenQ_ret, ↓blockQ_normal, ↓blockQ_ret, ↓blockQ_exit, ↓CW_true, ↓CW_false, CW_true, CW_false, condT, condF, RQ_some, tupA_one, tupA_two, tupA_nil, Nat.reduceSub, Nat.reduceAdd, Nat.reduceMul, Nat.zero_add, Nat.add_zero, Nat.reduceLeDiff, Nat.reduceEqDiff, eqV, eqAll, fillA, and_self, and_true, true_and, Nat.le_refl, Bool.not_true, Bool.not_false, Bool.false_xor, Bool.true_xor, cond_true, cond_false, List.replicate, if_false, reduceIte, resAll, resA, ne_eq, decide_not, decide_true, decide_false, Int.reduceEq, Bool.not_true, Bool.not_false, not_true_eq_false, not_false_eq_true, cond_bool, cond_int, beq_self_eq_true, Int.reduceBEq, Bool.and_self, Bool.and_false, Bool.false_and, Bool.xor_false, Bool.xor_true, loadN_ldC, ldC_none, ldC_somes, stC_aggs, splice, storeN_stC, stC_int, stC_bool, stC_ptr, stC_nilp, stC_sl, stC_nils, getC_gcO, gcO_cells, W_draw_eq, evT, evF, evX, evM, ↓exitQ_normal, ↓exitQ_ret, ↓exitQ_exit, saA_self, saO_self, if_pos, wrapI, get_concat, set_concat, Int.toNat_natCast, Int.toNat_zero, List.nil_append, Nat.mul_one, decide_eq_true, decide_eq_false, Int.reduceLE, Int.reduceLT, Int.reduceNeg, Bool.false_or, Bool.true_or, Bool.or_false, Bool.or_true, wrapU, Int.reduceAdd, Int.reduceSub, Int.reduceMul, List.append_assoc, List.length_append, get_mid, get_mid0, set_mid, set_mid0]
          exact hend _ _ _ _ _ _ _ _ _ _ _ _ _ _
  · simp (disch := first | assumption | omega | (simp only [List.length_cons, List.length_nil, List.length_set, List.length_append] <;> omega) | (simp only [get_mid, get_mid0, List.cons_append, List.append_assoc, List.getElem?_cons_zero, List.getElem?_cons_succ])) only [ek, ↓evW, ↓evQ, evB, evS, evL, List.map, AV.cells, List.all, AV.one, Bool.and_true, Bool.true_and, if_true, ↓thenQ_normal, ↓thenQ_exit, ↓thenQ_ret, ↓blockQ_normal, ↓blockQ_ret, ↓blockQ_exit, ↓CW_true, ↓CW_false, CW_true, CW_false, condT, condF, RQ_some, tupA_one, tupA_two, tupA_nil, Nat.reduceSub, Nat.reduceAdd, Nat.reduceMul, Nat.zero_add, Nat.add_zero, Nat.reduceLeDiff, Nat.reduceEqDiff, eqV, eqAll, fillA, and_self, and_true, true_and, Nat.le_refl, Bool.not_true, Bool.not_false, Bool.false_xor, Bool.true_xor, cond_true, cond_false, List.replicate, if_false, reduceIte, resAll, resA, ne_eq, decide_not, decide_true, decide_false, Int.reduceEq, Bool.not_true, Bool.not_false, not_true_eq_false, not_false_eq_true, cond_bool, cond_int, beq_self_eq_true, Int.reduceBEq, Bool.and_self, Bool.and_false, Bool.false_and, Bool.xor_false, Bool.xor_true, loadN_ldC, ldC_none, ldC_somes, stC_aggs, splice, storeN_stC, stC_int, stC_bool, stC_ptr, stC_nilp, stC_sl, stC_nils, getC_gcO, gcO_cells, W_draw_eq, evT, evF, evX, evM, ↓exitQ_normal, ↓exitQ_ret, ↓exitQ_exit, saA_self, saO_self, if_pos, wrapI, get_concat, set_concat, Int.toNat_natCast, Int.toNat_zero, List.nil_append, Nat.mul_one, decide_eq_true, decide_eq_false, Int.reduceLE, Int.reduceLT, Int.reduceNeg, Bool.false_or, Bool.true_or, Bool.or_false, Bool.or_true, wrapU, Int.reduceAdd, Int.reduceSub, Int.reduceMul, List.append_assoc, List.length_append, get_mid, get_mid0, set_mid, set_mid0, a0, pureF, worksG]
    exact ⟨_, rfl⟩

/-- A short answer where there are too many. -/
theorem tells_long (m : Mem X) {c o n : Nat} {cap : Option Nat} (hn : 60 < n) : Fn (Gtells (X := X)) law18_SliceTells [.sl c o n cap] m (fun r m' => r = .bool true ∧ ∃ J, m' = m ++ J) := by
  have a0 : assoc (Gtells (X := X)) 0 = some (pureF worksG) := rfl
  generalize Gtells (X := X) = G at a0 ⊢
  refine Fn_of rfl ?_
  simp (disch := first | assumption | omega | (simp only [List.length_cons, List.length_nil, List.length_set, List.length_append] <;> omega) | (simp only [get_mid, get_mid0, List.cons_append, List.append_assoc, List.getElem?_cons_zero, List.getElem?_cons_succ])) only [law18_SliceTells, ek, ↓evW, ↓evQ, evB, evS, evL, List.map, AV.cells, List.all, AV.one, Bool.and_true, Bool.true_and, if_true, ↓thenQ_normal, ↓thenQ_exit, ↓thenQ_ret, ↓blockQ_normal, ↓blockQ_ret, ↓blockQ_exit, ↓CW_true, ↓CW_false, CW_true, CW_false, condT, condF, RQ_some, tupA_one, tupA_two, tupA_nil, Nat.reduceSub, Nat.reduceAdd, Nat.reduceMul, Nat.zero_add, Nat.add_zero, Nat.reduceLeDiff, Nat.reduceEqDiff, eqV, eqAll, fillA, and_self, and_true, true_and, Nat.le_refl, Bool.not_true, Bool.not_false, Bool.false_xor, Bool.true_xor, cond_true, cond_false, List.replicate, if_false, reduceIte, resAll, resA, ne_eq, decide_not, decide_true, decide_false, Int.reduceEq, Bool.not_true, Bool.not_false, not_true_eq_false, not_false_eq_true, cond_bool, cond_int, beq_self_eq_true, Int.reduceBEq, Bool.and_self, Bool.and_false, Bool.false_and, Bool.xor_false, Bool.xor_true, loadN_ldC, ldC_none, ldC_somes, stC_aggs, splice, storeN_stC, stC_int, stC_bool, stC_ptr, stC_nilp, stC_sl, stC_nils, getC_gcO, gcO_cells, W_draw_eq, evT, evF, evX, evM, ↓exitQ_normal, ↓exitQ_ret, ↓exitQ_exit, saA_self, saO_self, if_pos, wrapI, get_concat, set_concat, Int.toNat_natCast, Int.toNat_zero, List.nil_append, Nat.mul_one, decide_eq_true, decide_eq_false, Int.reduceLE, Int.reduceLT, Int.reduceNeg, Bool.false_or, Bool.true_or, Bool.or_false, Bool.or_true, wrapU, Int.reduceAdd, Int.reduceSub, Int.reduceMul, List.append_assoc, List.length_append, get_mid, get_mid0, set_mid, set_mid0, a0, pureF, worksG]
  exact ⟨[], by simp⟩

/-- No looks. -/
theorem tells_nil (m : Mem X) : Fn (Gtells (X := X)) law18_SliceTells [.nils] m (fun r m' => r = .bool true) := by
  have a0 : assoc (Gtells (X := X)) 0 = some (pureF worksG) := rfl
  generalize Gtells (X := X) = G at a0 ⊢
  refine Fn_of rfl ?_
  simp (disch := first | assumption | omega | (simp only [List.length_cons, List.length_nil, List.length_set, List.length_append] <;> omega) | (simp only [get_mid, get_mid0, List.cons_append, List.append_assoc, List.getElem?_cons_zero, List.getElem?_cons_succ])) only [law18_SliceTells, ek, ↓evW, ↓evQ, evB, evS, evL, List.map, AV.cells, List.all, AV.one, Bool.and_true, Bool.true_and, if_true, ↓thenQ_normal, ↓thenQ_exit, ↓thenQ_ret, ↓blockQ_normal, ↓blockQ_ret, ↓blockQ_exit, ↓CW_true, ↓CW_false, CW_true, CW_false, condT, condF, RQ_some, tupA_one, tupA_two, tupA_nil, Nat.reduceSub, Nat.reduceAdd, Nat.reduceMul, Nat.zero_add, Nat.add_zero, Nat.reduceLeDiff, Nat.reduceEqDiff, eqV, eqAll, fillA, and_self, and_true, true_and, Nat.le_refl, Bool.not_true, Bool.not_false, Bool.false_xor, Bool.true_xor, cond_true, cond_false, List.replicate, if_false, reduceIte, resAll, resA, ne_eq, decide_not, decide_true, decide_false, Int.reduceEq, Bool.not_true, Bool.not_false, not_true_eq_false, not_false_eq_true, cond_bool, cond_int, beq_self_eq_true, Int.reduceBEq, Bool.and_self, Bool.and_false, Bool.false_and, Bool.xor_false, Bool.xor_true, loadN_ldC, ldC_none, ldC_somes, stC_aggs, splice, storeN_stC, stC_int, stC_bool, stC_ptr, stC_nilp, stC_sl, stC_nils, getC_gcO, gcO_cells, W_draw_eq, evT, evF, evX, evM, ↓exitQ_normal, ↓exitQ_ret, ↓exitQ_exit, saA_self, saO_self, if_pos, wrapI, get_concat, set_concat, Int.toNat_natCast, Int.toNat_zero, List.nil_append, Nat.mul_one, decide_eq_true, decide_eq_false, Int.reduceLE, Int.reduceLT, Int.reduceNeg, Bool.false_or, Bool.true_or, Bool.or_false, Bool.or_true, wrapU, Int.reduceAdd, Int.reduceSub, Int.reduceMul, List.append_assoc, List.length_append, get_mid, get_mid0, set_mid, set_mid0, evC]
  refine W_loop (fun k e m' => ∃ (x5 x6 x7 x8 x9 x10 x11 x12 x13 x14 x15 x16 x17 x18 x19 : AV), e = [.nils, .bool false, .ptr m.length 0, .int .i64 0, .sl (m.length + 1) 0 0 (some 0), .int .i64 0, x6, x7, x8, x9, x10, x11, x12, x13, x14, x15, x16, x17, x18, x19]) 0 (by simp [FUEL]) ⟨.nilp, _, _, _, _, _, _, _, _, _, _, _, _, _, _, rfl⟩ ?_
  rintro k e m' ⟨x5, x6, x7, x8, x9, x10, x11, x12, x13, x14, x15, x16, x17, x18, x19, rfl⟩
  simp (disch := first | assumption | omega | (simp only [List.length_cons, List.length_nil, List.length_set, List.length_append] <;> omega) | (simp only [get_mid, get_mid0, List.cons_append, List.append_assoc, List.getElem?_cons_zero, List.getElem?_cons_succ])) only [ek, ↓evW, ↓evQ, evB, evS, evL, List.map, AV.cells, List.all, AV.one, Bool.and_true, Bool.true_and, if_true, ↓thenQ_normal, ↓thenQ_exit, ↓thenQ_ret, ↓blockQ_normal, ↓blockQ_ret, ↓blockQ_exit, ↓CW_true, ↓CW_false, CW_true, CW_false, condT, condF, RQ_some, tupA_one, tupA_two, tupA_nil, Nat.reduceSub, Nat.reduceAdd, Nat.reduceMul, Nat.zero_add, Nat.add_zero, Nat.reduceLeDiff, Nat.reduceEqDiff, eqV, eqAll, fillA, and_self, and_true, true_and, Nat.le_refl, Bool.not_true, Bool.not_false, Bool.false_xor, Bool.true_xor, cond_true, cond_false, List.replicate, if_false, reduceIte, resAll, resA, ne_eq, decide_not, decide_true, decide_false, Int.reduceEq, Bool.not_true, Bool.not_false, not_true_eq_false, not_false_eq_true, cond_bool, cond_int, beq_self_eq_true, Int.reduceBEq, Bool.and_self, Bool.and_false, Bool.false_and, Bool.xor_false, Bool.xor_true, loadN_ldC, ldC_none, ldC_somes, stC_aggs, splice, storeN_stC, stC_int, stC_bool, stC_ptr, stC_nilp, stC_sl, stC_nils, getC_gcO, gcO_cells, W_draw_eq, evT, evF, evX, evM, ↓exitQ_normal, ↓exitQ_ret, ↓exitQ_exit, saA_self, saO_self, if_pos, wrapI, get_concat, set_concat, Int.toNat_natCast, Int.toNat_zero, List.nil_append, Nat.mul_one, decide_eq_true, decide_eq_false, Int.reduceLE, Int.reduceLT, Int.reduceNeg, Bool.false_or, Bool.true_or, Bool.or_false, Bool.or_true, wrapU, Int.reduceAdd, Int.reduceSub, Int.reduceMul, List.append_assoc, List.length_append, get_mid, get_mid0, set_mid, set_mid0, a0, pureF, worksG]
end Go.Am.F18
