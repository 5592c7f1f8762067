import Derived.Test.YtimgbjimonmkdaaXG16
set_option linter.unusedSimpArgs false
set_option linter.unusedVariables false
section
namespace Go.Am.F10
open Go.Am.F06
theorem memF_app {step : MemSt → List AV → Option (AV × MemSt)} {M : MM} {j : Nat} {s s' : MemSt} {rest : List AV} {v : AV} (h : memF step (.ptr j 0 :: rest) M = some (v, M.set j (.abs (.mem s')))) (hs : M[j]? = some (.abs (.mem s))) (hst : step s rest = some (v, s')) (K : MM) : memF step (.ptr j 0 :: rest) (M ++ K) = some (v, M.set j (.abs (.mem s')) ++ K) := by
  have lj : j < M.length := (List.getElem?_eq_some_iff.1 hs).1
  simp only [memF]
  rw [List.getElem?_append_left lj, hs]
  simp only [hst, List.set_append_left _ _ lj]
theorem RelM.loadE {xs : List Int} {o : Int} {s : MemSt} (h : RelM xs o s) {a : Int} (ha : thr xs a) :
    ∃ s', RelM xs (IntKind.u64.wrap (o + 1)) s' ∧ loadS s [.int .i64 a] = some (.int .u64 (xs.getD a.toNat 0), s') ∧ (∀ (M K : MM) (j : Nat), M[j]? = some (.abs (.mem s)) → memF loadS [.ptr j 0, .int .i64 a] (M ++ K) = some (.int .u64 (xs.getD a.toNat 0), M.set j (.abs (.mem s')) ++ K)) ∧ ∀ (M : MM) (j : Nat), M[j]? = some (.abs (.mem s)) → memF loadS [.ptr j 0, .int .i64 a] M = some (.int .u64 (xs.getD a.toNat 0), M.set j (.abs (.mem s'))) := by
  obtain ⟨k, rfl⟩ : ∃ k : Nat, a = k := ⟨a.toNat, by have := ha.1; omega⟩
  have ha' : k < xs.length := by have := ha.2; omega
  obtain ⟨s', h1, h2⟩ := h.acc ha' 1 (fun w => (w, true))
  rw [getD_set ha'] at h2
  have hs : loadS s [.int .i64 k] = some (.int .u64 (xs.getD k 0), s') := by simp only [loadS, h1, Option.map_some]
  exact ⟨s', h2, hs, fun M K j hM => memF_app (memF_of hM hs) hM hs K, fun M j hM => memF_of hM hs⟩
theorem RelM.storeE {xs : List Int} {o : Int} {s : MemSt} (h : RelM xs o s) {a : Int} (ha : thr xs a) (x : Int) :
    ∃ s', RelM (xs.set a.toNat x) (IntKind.u64.wrap (o + 1)) s' ∧ storeS s [.int .i64 a, .int .u64 x] = some (.tup [], s') ∧ (∀ (M K : MM) (j : Nat), M[j]? = some (.abs (.mem s)) → memF storeS [.ptr j 0, .int .i64 a, .int .u64 x] (M ++ K) = some (.tup [], M.set j (.abs (.mem s')) ++ K)) ∧ ∀ (M : MM) (j : Nat), M[j]? = some (.abs (.mem s)) → memF storeS [.ptr j 0, .int .i64 a, .int .u64 x] M = some (.tup [], M.set j (.abs (.mem s'))) := by
  obtain ⟨k, rfl⟩ : ∃ k : Nat, a = k := ⟨a.toNat, by have := ha.1; omega⟩
  have ha' : k < xs.length := by have := ha.2; omega
  obtain ⟨s', h1, h2⟩ := h.acc ha' 2 (fun w => (x, true))
  have hs : storeS s [.int .i64 k, .int .u64 x] = some (.tup [], s') := by simp only [storeS, h1, Option.map_some]
  exact ⟨s', h2, hs, fun M K j hM => memF_app (memF_of hM hs) hM hs K, fun M j hM => memF_of hM hs⟩
theorem RelM.casE {xs : List Int} {o : Int} {s : MemSt} (h : RelM xs o s) {a : Int} (ha : thr xs a) (x y : Int) :
    ∃ s', RelM (if xs.getD a.toNat 0 = x then xs.set a.toNat y else xs) (IntKind.u64.wrap (o + 1)) s' ∧ casS s [.int .i64 a, .int .u64 x, .int .u64 y] = some (.bool (decide (xs.getD a.toNat 0 = x)), s') ∧ (∀ (M K : MM) (j : Nat), M[j]? = some (.abs (.mem s)) → memF casS [.ptr j 0, .int .i64 a, .int .u64 x, .int .u64 y] (M ++ K) = some (.bool (decide (xs.getD a.toNat 0 = x)), M.set j (.abs (.mem s')) ++ K)) ∧ ∀ (M : MM) (j : Nat), M[j]? = some (.abs (.mem s)) → memF casS [.ptr j 0, .int .i64 a, .int .u64 x, .int .u64 y] M = some (.bool (decide (xs.getD a.toNat 0 = x)), M.set j (.abs (.mem s'))) := by
  obtain ⟨k, rfl⟩ : ∃ k : Nat, a = k := ⟨a.toNat, by have := ha.1; omega⟩
  have ha' : k < xs.length := by have := ha.2; omega
  obtain ⟨s', h1, h2⟩ := h.acc ha' 3 (fun w => if w = x then (y, true) else (w, false))
  have hs : casS s [.int .i64 k, .int .u64 x, .int .u64 y] = some (.bool (decide (xs.getD k 0 = x)), s') := by
    simp only [casS, h1, Option.map_some]
    by_cases hx : xs.getD k 0 = x
    · simp only [if_pos hx, decide_eq_true hx]
    · simp only [if_neg hx, decide_eq_false hx]
  refine ⟨s', ?_, hs, fun M K j hM => memF_app (memF_of hM hs) hM hs K, fun M j hM => memF_of hM hs⟩
  rw [Int.toNat_natCast]
  by_cases hx : xs.getD k 0 = x
  · simp only [if_pos hx] at h2 ⊢; exact h2
  · simp only [if_neg hx, getD_set ha'] at h2 ⊢; exact h2
def Glook : List (Nat × AFun Ob) := [(159, c_conf_Config_Word), (24, memF loadS), (178, c_word_Len)]
def Gcopy : List (Nat × AFun Ob) := [(179, c_word_Head), (160, c_conf_Config_Slot), (24, memF loadS)]
def Ggain : List (Nat × AFun Ob) := [(159, c_conf_Config_Word), (180, c_word_Gain), (23, memF casS)]
def GsQ (m : MM) (c : Cf) (p : Int) (j i : Nat) (x : GS × List Int) (o a0 : Int) (r : AV) (m' : MM) : Prop := KeepX j i m m' ∧ r = .int .i64 x.1.a ∧ m'[j]? = some (.cells 12 false (gC c p { x.1 with a := a0 })) ∧ ∃ st', m'[i]? = some (.abs (.mem st')) ∧ RelM x.2 o st'
theorem GsQ.of {m : MM} {c : Cf} {p : Int} {j i : Nat} {x : GS × List Int} {o a0 : Int} {st' : MemSt} {r : AV} {C : List AV} (hij : j ≠ i) (li : i < m.length) (lj : j < m.length) (hr : RelM x.2 o st') (hC : C = gC c p { x.1 with a := a0 }) (hv : r = .int .i64 x.1.a) (K : MM) :
    GsQ m c p j i x o a0 r ((m.set i (.abs (.mem st'))).set j (.cells 12 false C) ++ K) := by
  subst hC
  refine ⟨(((KeepX.refl m).setR _).setL _).app K, hv, ?_, st', ?_, hr⟩
  · rw [List.getElem?_append_left (by simpa using lj), List.getElem?_set_self (by simpa using lj)]
  · rw [List.getElem?_append_left (by simpa using li), List.getElem?_set_ne hij, List.getElem?_set_self li]
set_option maxHeartbeats 8000000 in
theorem look_run {m : MM} {c : Cf} {p o : Int} {s : GS} {xs : List Int} {j i : Nat} {st : MemSt} (hj : m[j]? = some (.cells 12 false (gC c p s))) (hi : m[i]? = some (.abs (.mem st))) (hr : RelM xs o st) (hok : GOk c p s) (hx : OkL c xs) (ha : s.a = 1) :
    Fn Glook get_Get_look [.ptr j 0, .ptr i 0] m (GsQ m c p j i (stepG c p xs s) (opsG s o) 1) := by
  have a159 : assoc Glook 159 = some c_conf_Config_Word := rfl
  have a24 : assoc Glook 24 = some (memF loadS) := rfl
  have a178 : assoc Glook 178 = some c_word_Len := rfl
  generalize Glook = G at a159 a24 a178 ⊢
  have hij : j ≠ i := fun h => by rw [h, hi] at hj; cases hj
  have lj : j < m.length := (List.getElem?_eq_some_iff.1 hj).1
  have li : i < m.length := (List.getElem?_eq_some_iff.1 hi).1
  obtain ⟨a, w, seen, has, tries⟩ := s
  simp only at ha
  subst ha
  obtain ⟨hw, hok1, hok2⟩ := hok
  simp only at hw hok1 hok2
  have hth : thereP c p := by rcases hok1 with h | h
                              · omega
                              · exact h.1
  have hn : has = false := by cases has with | false => rfl | true => exact absurd (hok2 rfl) (by omega)
  subst hn
  have hb := there_bounds hth
  have hxl := hx.1
  have hcn := cellsN_le c
  have ha0 := addr_b hth (i := 0) (by omega) (by omega)
  have hthr : thr xs (addrA c p 0) := ⟨by omega, by omega⟩
  have hwt : (addrA c p 0).toNat = wrdN c p := rfl
  have hg := getD_64 hx.2 (wrdN c p)
  obtain ⟨st', r', _, f24, _⟩ := hr.loadE hthr
  rw [hwt] at f24
  generalize he : stepG c p xs ⟨1, w, seen, false, tries⟩ = sx
  have ho : opsG ⟨1, w, seen, false, tries⟩ o = IntKind.u64.wrap (o + 1) := rfl
  rw [ho]
  simp only [stepG] at he
  generalize xs.getD (wrdN c p) 0 = w' at hg f24 he
  rw [if_pos trivial] at he
  have hwr := fun m : MM => word_run (m := m) c p
  have hz := fun m : MM => len_eq m hg
  have e0 : IntKind.u32.wrap c.q = c.q := by rw [wrap32]; omega
  simp only [cfC, List.cons_append, List.nil_append] at hwr
  simp only [gC, getC, cfC, List.cons_append, List.nil_append] at hj
  refine Fn_of rfl ?_
  simp (disch := first | assumption | omega | (simp only [List.length_cons, List.length_nil, List.length_set, List.length_append] <;> omega) | (simp only [get_mid, get_mid0, List.cons_append, List.append_assoc, List.getElem?_cons_zero, List.getElem?_cons_succ])) only [get_Get_look, ek, ↓evW, ↓evQ, evB, evS, evL, List.map, AV.cells, List.all, AV.one, Bool.and_true, Bool.true_and, if_true, ↓thenQ_normal, ↓thenQ_exit, ↓thenQ_ret, ↓blockQ_normal, ↓blockQ_ret, ↓blockQ_exit, ↓CW_true, ↓CW_false, CW_true, CW_false, condT, condF, RQ_some, tupA_one, tupA_two, tupA_nil, Nat.reduceSub, Nat.reduceAdd, Nat.reduceMul, Nat.zero_add, Nat.add_zero, Nat.reduceLeDiff, Nat.reduceEqDiff, eqV, eqAll, fillA, and_self, and_true, true_and, Nat.le_refl, Bool.not_true, Bool.not_false, Bool.false_xor, Bool.true_xor, cond_true, cond_false, List.replicate, if_false, reduceIte, resAll, resA, ne_eq, decide_not, decide_true, decide_false, Int.reduceEq, Bool.not_true, Bool.not_false, not_true_eq_false, not_false_eq_true, cond_bool, cond_int, beq_self_eq_true, Int.reduceBEq, Bool.and_self, Bool.and_false, Bool.false_and, Bool.xor_false, Bool.xor_true, loadN_ldC, ldC_none, ldC_somes, stC_aggs, splice, storeN_stC, stC_int, stC_bool, stC_ptr, stC_nilp, stC_sl, stC_nils, getC_gcO, gcO_cells, W_draw_eq, ↓W_scope, ev_clear, evT, evF, evX, evM, ↓exitQ_normal, ↓exitQ_ret, ↓exitQ_exit, saA_self, saO_self, if_pos, if_neg, wrapI, get_concat, set_concat, Int.toNat_natCast, Int.toNat_zero, List.nil_append, Nat.mul_one, decide_eq_true, decide_eq_false, Int.reduceLE, Int.reduceLT, Int.reduceNeg, Bool.false_or, Bool.true_or, Bool.or_false, Bool.or_true, wrapU, Int.reduceAdd, Int.reduceSub, Int.reduceMul, List.append_assoc, List.length_append, get_mid, get_mid0, set_mid, set_mid0, List.length_set, List.length_cons, List.length_nil, List.cons_append, List.getElem?_append_left, List.set_append_left, get_at, get_at0, set_at, set_at0, List.getElem?_set_self, List.getElem?_set_ne, hj, hi, a159, hwr, a24, f24, a178, hz, e0, cfC]
  by_cases h0 : sz w' = 0
  · have hb : (sz w' = 0 ∨ c.q < sz w') := .inl h0
    rw [if_pos hb] at he
    subst he
    simp (disch := first | assumption | omega | (simp only [List.length_cons, List.length_nil, List.length_set, List.length_append] <;> omega) | (simp only [get_mid, get_mid0, List.cons_append, List.append_assoc, List.getElem?_cons_zero, List.getElem?_cons_succ])) only [ek, ↓evW, ↓evQ, evB, evS, evL, List.map, AV.cells, List.all, AV.one, Bool.and_true, Bool.true_and, if_true, ↓thenQ_normal, ↓thenQ_exit, ↓thenQ_ret, ↓blockQ_normal, ↓blockQ_ret, ↓blockQ_exit, ↓CW_true, ↓CW_false, CW_true, CW_false, condT, condF, RQ_some, tupA_one, tupA_two, tupA_nil, Nat.reduceSub, Nat.reduceAdd, Nat.reduceMul, Nat.zero_add, Nat.add_zero, Nat.reduceLeDiff, Nat.reduceEqDiff, eqV, eqAll, fillA, and_self, and_true, true_and, Nat.le_refl, Bool.not_true, Bool.not_false, Bool.false_xor, Bool.true_xor, cond_true, cond_false, List.replicate, if_false, reduceIte, resAll, resA, ne_eq, decide_not, decide_true, decide_false, Int.reduceEq, Bool.not_true, Bool.not_false, not_true_eq_false, not_false_eq_true, cond_bool, cond_int, beq_self_eq_true, Int.reduceBEq, Bool.and_self, Bool.and_false, Bool.false_and, Bool.xor_false, Bool.xor_true, loadN_ldC, ldC_none, ldC_somes, stC_aggs, splice, storeN_stC, stC_int, stC_bool, stC_ptr, stC_nilp, stC_sl, stC_nils, getC_gcO, gcO_cells, W_draw_eq, ↓W_scope, ev_clear, evT, evF, evX, evM, ↓exitQ_normal, ↓exitQ_ret, ↓exitQ_exit, saA_self, saO_self, if_pos, if_neg, wrapI, get_concat, set_concat, Int.toNat_natCast, Int.toNat_zero, List.nil_append, Nat.mul_one, decide_eq_true, decide_eq_false, Int.reduceLE, Int.reduceLT, Int.reduceNeg, Bool.false_or, Bool.true_or, Bool.or_false, Bool.or_true, wrapU, Int.reduceAdd, Int.reduceSub, Int.reduceMul, List.append_assoc, List.length_append, get_mid, get_mid0, set_mid, set_mid0, List.length_set, List.length_cons, List.length_nil, List.cons_append, List.getElem?_append_left, List.set_append_left, get_at, get_at0, set_at, set_at0, List.getElem?_set_self, List.getElem?_set_ne, h0]
    exact GsQ.of hij li lj r' rfl rfl _
  · by_cases h1 : c.q < sz w'
    · have hb : (sz w' = 0 ∨ c.q < sz w') := .inr h1
      rw [if_pos hb] at he
      subst he
      simp (disch := first | assumption | omega | (simp only [List.length_cons, List.length_nil, List.length_set, List.length_append] <;> omega) | (simp only [get_mid, get_mid0, List.cons_append, List.append_assoc, List.getElem?_cons_zero, List.getElem?_cons_succ])) only [ek, ↓evW, ↓evQ, evB, evS, evL, List.map, AV.cells, List.all, AV.one, Bool.and_true, Bool.true_and, if_true, ↓thenQ_normal, ↓thenQ_exit, ↓thenQ_ret, ↓blockQ_normal, ↓blockQ_ret, ↓blockQ_exit, ↓CW_true, ↓CW_false, CW_true, CW_false, condT, condF, RQ_some, tupA_one, tupA_two, tupA_nil, Nat.reduceSub, Nat.reduceAdd, Nat.reduceMul, Nat.zero_add, Nat.add_zero, Nat.reduceLeDiff, Nat.reduceEqDiff, eqV, eqAll, fillA, and_self, and_true, true_and, Nat.le_refl, Bool.not_true, Bool.not_false, Bool.false_xor, Bool.true_xor, cond_true, cond_false, List.replicate, if_false, reduceIte, resAll, resA, ne_eq, decide_not, decide_true, decide_false, Int.reduceEq, Bool.not_true, Bool.not_false, not_true_eq_false, not_false_eq_true, cond_bool, cond_int, beq_self_eq_true, Int.reduceBEq, Bool.and_self, Bool.and_false, Bool.false_and, Bool.xor_false, Bool.xor_true, loadN_ldC, ldC_none, ldC_somes, stC_aggs, splice, storeN_stC, stC_int, stC_bool, stC_ptr, stC_nilp, stC_sl, stC_nils, getC_gcO, gcO_cells, W_draw_eq, ↓W_scope, ev_clear, evT, evF, evX, evM, ↓exitQ_normal, ↓exitQ_ret, ↓exitQ_exit, saA_self, saO_self, if_pos, if_neg, wrapI, get_concat, set_concat, Int.toNat_natCast, Int.toNat_zero, List.nil_append, Nat.mul_one, decide_eq_true, decide_eq_false, Int.reduceLE, Int.reduceLT, Int.reduceNeg, Bool.false_or, Bool.true_or, Bool.or_false, Bool.or_true, wrapU, Int.reduceAdd, Int.reduceSub, Int.reduceMul, List.append_assoc, List.length_append, get_mid, get_mid0, set_mid, set_mid0, List.length_set, List.length_cons, List.length_nil, List.cons_append, List.getElem?_append_left, List.set_append_left, get_at, get_at0, set_at, set_at0, List.getElem?_set_self, List.getElem?_set_ne, h0, h1, e0]
      exact GsQ.of hij li lj r' rfl rfl _
    · have hb : ¬ (sz w' = 0 ∨ c.q < sz w') := fun h => h.elim h0 h1
      rw [if_neg hb] at he
      subst he
      simp (disch := first | assumption | omega | (simp only [List.length_cons, List.length_nil, List.length_set, List.length_append] <;> omega) | (simp only [get_mid, get_mid0, List.cons_append, List.append_assoc, List.getElem?_cons_zero, List.getElem?_cons_succ])) only [ek, ↓evW, ↓evQ, evB, evS, evL, List.map, AV.cells, List.all, AV.one, Bool.and_true, Bool.true_and, if_true, ↓thenQ_normal, ↓thenQ_exit, ↓thenQ_ret, ↓blockQ_normal, ↓blockQ_ret, ↓blockQ_exit, ↓CW_true, ↓CW_false, CW_true, CW_false, condT, condF, RQ_some, tupA_one, tupA_two, tupA_nil, Nat.reduceSub, Nat.reduceAdd, Nat.reduceMul, Nat.zero_add, Nat.add_zero, Nat.reduceLeDiff, Nat.reduceEqDiff, eqV, eqAll, fillA, and_self, and_true, true_and, Nat.le_refl, Bool.not_true, Bool.not_false, Bool.false_xor, Bool.true_xor, cond_true, cond_false, List.replicate, if_false, reduceIte, resAll, resA, ne_eq, decide_not, decide_true, decide_false, Int.reduceEq, Bool.not_true, Bool.not_false, not_true_eq_false, not_false_eq_true, cond_bool, cond_int, beq_self_eq_true, Int.reduceBEq, Bool.and_self, Bool.and_false, Bool.false_and, Bool.xor_false, Bool.xor_true, loadN_ldC, ldC_none, ldC_somes, stC_aggs, splice, storeN_stC, stC_int, stC_bool, stC_ptr, stC_nilp, stC_sl, stC_nils, getC_gcO, gcO_cells, W_draw_eq, ↓W_scope, ev_clear, evT, evF, evX, evM, ↓exitQ_normal, ↓exitQ_ret, ↓exitQ_exit, saA_self, saO_self, if_pos, if_neg, wrapI, get_concat, set_concat, Int.toNat_natCast, Int.toNat_zero, List.nil_append, Nat.mul_one, decide_eq_true, decide_eq_false, Int.reduceLE, Int.reduceLT, Int.reduceNeg, Bool.false_or, Bool.true_or, Bool.or_false, Bool.or_true, wrapU, Int.reduceAdd, Int.reduceSub, Int.reduceMul, List.append_assoc, List.length_append, get_mid, get_mid0, set_mid, set_mid0, List.length_set, List.length_cons, List.length_nil, List.cons_append, List.getElem?_append_left, List.set_append_left, get_at, get_at0, set_at, set_at0, List.getElem?_set_self, List.getElem?_set_ne, h0, h1, e0]
      exact GsQ.of hij li lj r' rfl rfl _
set_option maxHeartbeats 8000000 in
theorem copy_run {m : MM} {c : Cf} {p o : Int} {s : GS} {xs : List Int} {j i : Nat} {st : MemSt} (hj : m[j]? = some (.cells 12 false (gC c p s))) (hi : m[i]? = some (.abs (.mem st))) (hr : RelM xs o st) (hok : GOk c p s) (hx : OkL c xs) (ha : s.a = 2) :
    Fn Gcopy get_Get_copy [.ptr j 0, .ptr i 0] m (GsQ m c p j i (stepG c p xs s) (opsG s o) 2) := by
  have a179 : assoc Gcopy 179 = some c_word_Head := rfl
  have a24 : assoc Gcopy 24 = some (memF loadS) := rfl
  have a160 : assoc Gcopy 160 = some c_conf_Config_Slot := rfl
  generalize Gcopy = G at a179 a24 a160 ⊢
  have hij : j ≠ i := fun h => by rw [h, hi] at hj; cases hj
  have lj : j < m.length := (List.getElem?_eq_some_iff.1 hj).1
  have li : i < m.length := (List.getElem?_eq_some_iff.1 hi).1
  obtain ⟨a, w, seen, has, tries⟩ := s
  simp only at ha
  subst ha
  obtain ⟨hw, hok1, hok2⟩ := hok
  simp only at hw hok1 hok2
  have hth : thereP c p := by rcases hok1 with h | h
                              · omega
                              · exact h.1
  have hn : has = false := by cases has with | false => rfl | true => exact absurd (hok2 rfl) (by omega)
  subst hn
  have hb := there_bounds hth
  have hxl := hx.1
  have hcn := cellsN_le c
  have hhb := hd_b hw
  have hsb := slot_b hth hhb.1
  have hthr : thr xs (slotA c p (hd w)) := ⟨by omega, by omega⟩
  have hwt : (slotA c p (hd w)).toNat = sltN c p w := rfl
  obtain ⟨st', r', _, f24, _⟩ := hr.loadE hthr
  rw [hwt] at f24
  generalize he : stepG c p xs ⟨2, w, seen, false, tries⟩ = sx
  have ho : opsG ⟨2, w, seen, false, tries⟩ o = IntKind.u64.wrap (o + 1) := rfl
  rw [ho]
  simp only [stepG] at he
  generalize xs.getD (sltN c p w) 0 = w' at f24 he
  rw [if_neg (by decide), if_pos trivial] at he
  subst he
  have hh := fun m : MM => head_eq m hw
  have hsl := fun m : MM => slot_eqR m hth.1 p hhb.1 hhb.2
  simp only [cfC, List.cons_append, List.nil_append] at hsl
  simp only [gC, getC, cfC, List.cons_append, List.nil_append] at hj
  refine Fn_of rfl ?_
  simp (disch := first | assumption | omega | (simp only [List.length_cons, List.length_nil, List.length_set, List.length_append] <;> omega) | (simp only [get_mid, get_mid0, List.cons_append, List.append_assoc, List.getElem?_cons_zero, List.getElem?_cons_succ])) only [get_Get_copy, ek, ↓evW, ↓evQ, evB, evS, evL, List.map, AV.cells, List.all, AV.one, Bool.and_true, Bool.true_and, if_true, ↓thenQ_normal, ↓thenQ_exit, ↓thenQ_ret, ↓blockQ_normal, ↓blockQ_ret, ↓blockQ_exit, ↓CW_true, ↓CW_false, CW_true, CW_false, condT, condF, RQ_some, tupA_one, tupA_two, tupA_nil, Nat.reduceSub, Nat.reduceAdd, Nat.reduceMul, Nat.zero_add, Nat.add_zero, Nat.reduceLeDiff, Nat.reduceEqDiff, eqV, eqAll, fillA, and_self, and_true, true_and, Nat.le_refl, Bool.not_true, Bool.not_false, Bool.false_xor, Bool.true_xor, cond_true, cond_false, List.replicate, if_false, reduceIte, resAll, resA, ne_eq, decide_not, decide_true, decide_false, Int.reduceEq, Bool.not_true, Bool.not_false, not_true_eq_false, not_false_eq_true, cond_bool, cond_int, beq_self_eq_true, Int.reduceBEq, Bool.and_self, Bool.and_false, Bool.false_and, Bool.xor_false, Bool.xor_true, loadN_ldC, ldC_none, ldC_somes, stC_aggs, splice, storeN_stC, stC_int, stC_bool, stC_ptr, stC_nilp, stC_sl, stC_nils, getC_gcO, gcO_cells, W_draw_eq, ↓W_scope, ev_clear, evT, evF, evX, evM, ↓exitQ_normal, ↓exitQ_ret, ↓exitQ_exit, saA_self, saO_self, if_pos, if_neg, wrapI, get_concat, set_concat, Int.toNat_natCast, Int.toNat_zero, List.nil_append, Nat.mul_one, decide_eq_true, decide_eq_false, Int.reduceLE, Int.reduceLT, Int.reduceNeg, Bool.false_or, Bool.true_or, Bool.or_false, Bool.or_true, wrapU, Int.reduceAdd, Int.reduceSub, Int.reduceMul, List.append_assoc, List.length_append, get_mid, get_mid0, set_mid, set_mid0, List.length_set, List.length_cons, List.length_nil, List.cons_append, List.getElem?_append_left, List.set_append_left, get_at, get_at0, set_at, set_at0, List.getElem?_set_self, List.getElem?_set_ne, hj, hi, a160, hsl, a24, f24, a179, hh, cfC]
  exact GsQ.of hij li lj r' rfl rfl _
set_option maxHeartbeats 8000000 in
theorem gain_run {m : MM} {c : Cf} {p o : Int} {s : GS} {xs : List Int} {j i : Nat} {st : MemSt} (hj : m[j]? = some (.cells 12 false (gC c p s))) (hi : m[i]? = some (.abs (.mem st))) (hr : RelM xs o st) (hok : GOk c p s) (hx : OkL c xs) (ha : s.a = 3) :
    Fn Ggain get_Get_gain [.ptr j 0, .ptr i 0] m (GsQ m c p j i (stepG c p xs s) (opsG s o) 3) := by
  have a159 : assoc Ggain 159 = some c_conf_Config_Word := rfl
  have a23 : assoc Ggain 23 = some (memF casS) := rfl
  have a180 : assoc Ggain 180 = some c_word_Gain := rfl
  generalize Ggain = G at a159 a23 a180 ⊢
  have hij : j ≠ i := fun h => by rw [h, hi] at hj; cases hj
  have lj : j < m.length := (List.getElem?_eq_some_iff.1 hj).1
  have li : i < m.length := (List.getElem?_eq_some_iff.1 hi).1
  obtain ⟨a, w, seen, has, tries⟩ := s
  simp only at ha
  subst ha
  obtain ⟨hw, hok1, hok2⟩ := hok
  simp only at hw hok1 hok2
  have hth : thereP c p := by rcases hok1 with h | h
                              · omega
                              · exact h.1
  have hn : has = false := by cases has with | false => rfl | true => exact absurd (hok2 rfl) (by omega)
  subst hn
  have hb := there_bounds hth
  have hxl := hx.1
  have hcn := cellsN_le c
  have ha0 := addr_b hth (i := 0) (by omega) (by omega)
  have hthr : thr xs (addrA c p 0) := ⟨by omega, by omega⟩
  have hwt : (addrA c p 0).toNat = wrdN c p := rfl
  obtain ⟨st', r', _, f23, _⟩ := hr.casE hthr w (gainW w)
  rw [hwt] at f23 r'
  generalize he : stepG c p xs ⟨3, w, seen, false, tries⟩ = sx
  have ho : opsG ⟨3, w, seen, false, tries⟩ o = IntKind.u64.wrap (o + 1) := rfl
  rw [ho]
  simp only [stepG] at he
  rw [if_neg (by decide), if_neg (by decide), if_pos trivial] at he
  have hwr := fun m : MM => word_run (m := m) c p
  have hgn := fun m : MM => gain_eq m hw
  simp only [cfC, List.cons_append, List.nil_append] at hwr
  simp only [gC, getC, cfC, List.cons_append, List.nil_append] at hj
  refine Fn_of rfl ?_
  by_cases heq : xs.getD (wrdN c p) 0 = w
  · rw [if_pos heq] at he r'
    subst he
    have hd : decide (xs.getD (wrdN c p) 0 = w) = true := decide_eq_true heq
    simp only [hd] at f23
    simp (disch := first | assumption | omega | (simp only [List.length_cons, List.length_nil, List.length_set, List.length_append] <;> omega) | (simp only [get_mid, get_mid0, List.cons_append, List.append_assoc, List.getElem?_cons_zero, List.getElem?_cons_succ])) only [get_Get_gain, ek, ↓evW, ↓evQ, evB, evS, evL, List.map, AV.cells, List.all, AV.one, Bool.and_true, Bool.true_and, if_true, ↓thenQ_normal, ↓thenQ_exit, ↓thenQ_ret, ↓blockQ_normal, ↓blockQ_ret, ↓blockQ_exit, ↓CW_true, ↓CW_false, CW_true, CW_false, condT, condF, RQ_some, tupA_one, tupA_two, tupA_nil, Nat.reduceSub, Nat.reduceAdd, Nat.reduceMul, Nat.zero_add, Nat.add_zero, Nat.reduceLeDiff, Nat.reduceEqDiff, eqV, eqAll, fillA, and_self, and_true, true_and, Nat.le_refl, Bool.not_true, Bool.not_false, Bool.false_xor, Bool.true_xor, cond_true, cond_false, List.replicate, if_false, reduceIte, resAll, resA, ne_eq, decide_not, decide_true, decide_false, Int.reduceEq, Bool.not_true, Bool.not_false, not_true_eq_false, not_false_eq_true, cond_bool, cond_int, beq_self_eq_true, Int.reduceBEq, Bool.and_self, Bool.and_false, Bool.false_and, Bool.xor_false, Bool.xor_true, loadN_ldC, ldC_none, ldC_somes, stC_aggs, splice, storeN_stC, stC_int, stC_bool, stC_ptr, stC_nilp, stC_sl, stC_nils, getC_gcO, gcO_cells, W_draw_eq, ↓W_scope, ev_clear, evT, evF, evX, evM, ↓exitQ_normal, ↓exitQ_ret, ↓exitQ_exit, saA_self, saO_self, if_pos, if_neg, wrapI, get_concat, set_concat, Int.toNat_natCast, Int.toNat_zero, List.nil_append, Nat.mul_one, decide_eq_true, decide_eq_false, Int.reduceLE, Int.reduceLT, Int.reduceNeg, Bool.false_or, Bool.true_or, Bool.or_false, Bool.or_true, wrapU, Int.reduceAdd, Int.reduceSub, Int.reduceMul, List.append_assoc, List.length_append, get_mid, get_mid0, set_mid, set_mid0, List.length_set, List.length_cons, List.length_nil, List.cons_append, List.getElem?_append_left, List.set_append_left, get_at, get_at0, set_at, set_at0, List.getElem?_set_self, List.getElem?_set_ne, hj, hi, a159, hwr, a180, hgn, a23, f23, cfC]
    exact GsQ.of hij li lj r' rfl rfl _
  · rw [if_neg heq] at he r'
    subst he
    have hd : decide (xs.getD (wrdN c p) 0 = w) = false := decide_eq_false heq
    simp only [hd] at f23
    simp (disch := first | assumption | omega | (simp only [List.length_cons, List.length_nil, List.length_set, List.length_append] <;> omega) | (simp only [get_mid, get_mid0, List.cons_append, List.append_assoc, List.getElem?_cons_zero, List.getElem?_cons_succ])) only [get_Get_gain, ek, ↓evW, ↓evQ, evB, evS, evL, List.map, AV.cells, List.all, AV.one, Bool.and_true, Bool.true_and, if_true, ↓thenQ_normal, ↓thenQ_exit, ↓thenQ_ret, ↓blockQ_normal, ↓blockQ_ret, ↓blockQ_exit, ↓CW_true, ↓CW_false, CW_true, CW_false, condT, condF, RQ_some, tupA_one, tupA_two, tupA_nil, Nat.reduceSub, Nat.reduceAdd, Nat.reduceMul, Nat.zero_add, Nat.add_zero, Nat.reduceLeDiff, Nat.reduceEqDiff, eqV, eqAll, fillA, and_self, and_true, true_and, Nat.le_refl, Bool.not_true, Bool.not_false, Bool.false_xor, Bool.true_xor, cond_true, cond_false, List.replicate, if_false, reduceIte, resAll, resA, ne_eq, decide_not, decide_true, decide_false, Int.reduceEq, Bool.not_true, Bool.not_false, not_true_eq_false, not_false_eq_true, cond_bool, cond_int, beq_self_eq_true, Int.reduceBEq, Bool.and_self, Bool.and_false, Bool.false_and, Bool.xor_false, Bool.xor_true, loadN_ldC, ldC_none, ldC_somes, stC_aggs, splice, storeN_stC, stC_int, stC_bool, stC_ptr, stC_nilp, stC_sl, stC_nils, getC_gcO, gcO_cells, W_draw_eq, ↓W_scope, ev_clear, evT, evF, evX, evM, ↓exitQ_normal, ↓exitQ_ret, ↓exitQ_exit, saA_self, saO_self, if_pos, if_neg, wrapI, get_concat, set_concat, Int.toNat_natCast, Int.toNat_zero, List.nil_append, Nat.mul_one, decide_eq_true, decide_eq_false, Int.reduceLE, Int.reduceLT, Int.reduceNeg, Bool.false_or, Bool.true_or, Bool.or_false, Bool.or_true, wrapU, Int.reduceAdd, Int.reduceSub, Int.reduceMul, List.append_assoc, List.length_append, get_mid, get_mid0, set_mid, set_mid0, List.length_set, List.length_cons, List.length_nil, List.cons_append, List.getElem?_append_left, List.set_append_left, get_at, get_at0, set_at, set_at0, List.getElem?_set_self, List.getElem?_set_ne, hj, hi, a159, hwr, a180, hgn, a23, f23, cfC, List.set_set]
    exact GsQ.of hij li lj r' rfl rfl _
def Gstep : List (Nat × AFun Ob) := [(138, c_get_Get_Done), (166, amFunc Glook get_Get_look), (167, amFunc Gcopy get_Get_copy), (168, amFunc Ggain get_Get_gain)]
def GsP (m : MM) (c : Cf) (p : Int) (j i : Nat) (x : GS × List Int) (o : Int) (r : AV) (m' : MM) : Prop := KeepX j i m m' ∧ r = .bool (decide (x.1.a = 0)) ∧ m'[j]? = some (.cells 12 false (gC c p x.1)) ∧ ∃ st', m'[i]? = some (.abs (.mem st')) ∧ RelM x.2 o st'
set_option maxHeartbeats 8000000 in
theorem step_run {m : MM} {c : Cf} {p o : Int} {s : GS} {xs : List Int} {j i : Nat} {st : MemSt} (hj : m[j]? = some (.cells 12 false (gC c p s))) (hi : m[i]? = some (.abs (.mem st))) (hr : RelM xs o st) (hok : GOk c p s) (hx0 : s.a = 0 ∨ OkL c xs) :
    Fn Gstep get_Get_Step [.ptr j 0, .ptr i 0] m (GsP m c p j i (stepG c p xs s) (opsG s o)) := by
  have a138 : assoc Gstep 138 = some c_get_Get_Done := rfl
  have a166 : assoc Gstep 166 = some (amFunc Glook get_Get_look) := rfl
  have a167 : assoc Gstep 167 = some (amFunc Gcopy get_Get_copy) := rfl
  have a168 : assoc Gstep 168 = some (amFunc Ggain get_Get_gain) := rfl
  generalize Gstep = G at a138 a166 a167 a168 ⊢
  have hij : j ≠ i := fun h => by rw [h, hi] at hj; cases hj
  have lj : j < m.length := (List.getElem?_eq_some_iff.1 hj).1
  have li : i < m.length := (List.getElem?_eq_some_iff.1 hi).1
  have hdone := done_eq hj
  refine Fn_of rfl ?_
  by_cases h0 : s.a = 0
  · have e : stepG c p xs s = (s, xs) := stepG_zero h0 xs
    have e2 : opsG s o = o := if_pos h0
    rw [decide_eq_true h0] at hdone
    rw [e, e2]
    simp (disch := first | assumption | omega | (simp only [List.length_cons, List.length_nil, List.length_set, List.length_append] <;> omega) | (simp only [get_mid, get_mid0, List.cons_append, List.append_assoc, List.getElem?_cons_zero, List.getElem?_cons_succ])) only [get_Get_Step, ek, ↓evW, ↓evQ, evB, evS, evL, List.map, AV.cells, List.all, AV.one, Bool.and_true, Bool.true_and, if_true, ↓thenQ_normal, ↓thenQ_exit, ↓thenQ_ret, ↓blockQ_normal, ↓blockQ_ret, ↓blockQ_exit, ↓CW_true, ↓CW_false, CW_true, CW_false, condT, condF, RQ_some, tupA_one, tupA_two, tupA_nil, Nat.reduceSub, Nat.reduceAdd, Nat.reduceMul, Nat.zero_add, Nat.add_zero, Nat.reduceLeDiff, Nat.reduceEqDiff, eqV, eqAll, fillA, and_self, and_true, true_and, Nat.le_refl, Bool.not_true, Bool.not_false, Bool.false_xor, Bool.true_xor, cond_true, cond_false, List.replicate, if_false, reduceIte, resAll, resA, ne_eq, decide_not, decide_true, decide_false, Int.reduceEq, Bool.not_true, Bool.not_false, not_true_eq_false, not_false_eq_true, cond_bool, cond_int, beq_self_eq_true, Int.reduceBEq, Bool.and_self, Bool.and_false, Bool.false_and, Bool.xor_false, Bool.xor_true, loadN_ldC, ldC_none, ldC_somes, stC_aggs, splice, storeN_stC, stC_int, stC_bool, stC_ptr, stC_nilp, stC_sl, stC_nils, getC_gcO, gcO_cells, W_draw_eq, ↓W_scope, ev_clear, evT, evF, evX, evM, ↓exitQ_normal, ↓exitQ_ret, ↓exitQ_exit, saA_self, saO_self, if_pos, if_neg, wrapI, get_concat, set_concat, Int.toNat_natCast, Int.toNat_zero, List.nil_append, Nat.mul_one, decide_eq_true, decide_eq_false, Int.reduceLE, Int.reduceLT, Int.reduceNeg, Bool.false_or, Bool.true_or, Bool.or_false, Bool.or_true, wrapU, Int.reduceAdd, Int.reduceSub, Int.reduceMul, List.append_assoc, List.length_append, get_mid, get_mid0, set_mid, set_mid0, List.length_set, List.length_cons, List.length_nil, List.cons_append, List.getElem?_append_left, List.set_append_left, get_at, get_at0, set_at, set_at0, List.getElem?_set_self, List.getElem?_set_ne, a138, hdone]
    exact ⟨.refl _, by rw [decide_eq_true h0], hj, st, hi, hr⟩
  · have hx : OkL c xs := hx0.resolve_left h0
    rw [decide_eq_false h0] at hdone
    have hj0 := hj
    simp only [gC, getC, cfC, List.cons_append, List.nil_append] at hj
    have hok1 := hok.a
    have hj1 := (Keep.app m [.cells 4 false [.nilf, .fn 166 [] [], .fn 167 [] [], .fn 168 [] []]]).get hj0
    have hi1 := (Keep.app m [.cells 4 false [.nilf, .fn 166 [] [], .fn 167 [] [], .fn 168 [] []]]).get hi
    rcases (show s.a = 1 ∨ s.a = 2 ∨ s.a = 3 by omega) with h1 | h1 | h1
    · simp (disch := first | assumption | omega | (simp only [List.length_cons, List.length_nil, List.length_set, List.length_append] <;> omega) | (simp only [get_mid, get_mid0, List.cons_append, List.append_assoc, List.getElem?_cons_zero, List.getElem?_cons_succ])) only [get_Get_Step, ek, ↓evW, ↓evQ, evB, evS, evL, List.map, AV.cells, List.all, AV.one, Bool.and_true, Bool.true_and, if_true, ↓thenQ_normal, ↓thenQ_exit, ↓thenQ_ret, ↓blockQ_normal, ↓blockQ_ret, ↓blockQ_exit, ↓CW_true, ↓CW_false, CW_true, CW_false, condT, condF, RQ_some, tupA_one, tupA_two, tupA_nil, Nat.reduceSub, Nat.reduceAdd, Nat.reduceMul, Nat.zero_add, Nat.add_zero, Nat.reduceLeDiff, Nat.reduceEqDiff, eqV, eqAll, fillA, and_self, and_true, true_and, Nat.le_refl, Bool.not_true, Bool.not_false, Bool.false_xor, Bool.true_xor, cond_true, cond_false, List.replicate, if_false, reduceIte, resAll, resA, ne_eq, decide_not, decide_true, decide_false, Int.reduceEq, Bool.not_true, Bool.not_false, not_true_eq_false, not_false_eq_true, cond_bool, cond_int, beq_self_eq_true, Int.reduceBEq, Bool.and_self, Bool.and_false, Bool.false_and, Bool.xor_false, Bool.xor_true, loadN_ldC, ldC_none, ldC_somes, stC_aggs, splice, storeN_stC, stC_int, stC_bool, stC_ptr, stC_nilp, stC_sl, stC_nils, getC_gcO, gcO_cells, W_draw_eq, ↓W_scope, ev_clear, evT, evF, evX, evM, ↓exitQ_normal, ↓exitQ_ret, ↓exitQ_exit, saA_self, saO_self, if_pos, if_neg, wrapI, get_concat, set_concat, Int.toNat_natCast, Int.toNat_zero, List.nil_append, Nat.mul_one, decide_eq_true, decide_eq_false, Int.reduceLE, Int.reduceLT, Int.reduceNeg, Bool.false_or, Bool.true_or, Bool.or_false, Bool.or_true, wrapU, Int.reduceAdd, Int.reduceSub, Int.reduceMul, List.append_assoc, List.length_append, get_mid, get_mid0, set_mid, set_mid0, List.length_set, List.length_cons, List.length_nil, List.cons_append, List.getElem?_append_left, List.set_append_left, get_at, get_at0, set_at, set_at0, List.getElem?_set_self, List.getElem?_set_ne, a138, hdone, hj, h1, Int.reduceToNat, List.getElem?_cons_succ, List.getElem?_cons_zero, List.append_nil, a166]
      refine OK_fn (look_run hj1 hi1 hr hok hx h1) ?_
      rintro _ m1 ⟨k1, rfl, j1, st', i1, r1⟩
      have lj1 : j < m1.length := (List.getElem?_eq_some_iff.1 j1).1
      simp only [gC, getC, cfC, List.cons_append, List.nil_append] at j1
      simp (disch := first | assumption | omega | (simp only [List.length_cons, List.length_nil, List.length_set, List.length_append] <;> omega) | (simp only [get_mid, get_mid0, List.cons_append, List.append_assoc, List.getElem?_cons_zero, List.getElem?_cons_succ])) only [ek, ↓evW, ↓evQ, evB, evS, evL, List.map, AV.cells, List.all, AV.one, Bool.and_true, Bool.true_and, if_true, ↓thenQ_normal, ↓thenQ_exit, ↓thenQ_ret, ↓blockQ_normal, ↓blockQ_ret, ↓blockQ_exit, ↓CW_true, ↓CW_false, CW_true, CW_false, condT, condF, RQ_some, tupA_one, tupA_two, tupA_nil, Nat.reduceSub, Nat.reduceAdd, Nat.reduceMul, Nat.zero_add, Nat.add_zero, Nat.reduceLeDiff, Nat.reduceEqDiff, eqV, eqAll, fillA, and_self, and_true, true_and, Nat.le_refl, Bool.not_true, Bool.not_false, Bool.false_xor, Bool.true_xor, cond_true, cond_false, List.replicate, if_false, reduceIte, resAll, resA, ne_eq, decide_not, decide_true, decide_false, Int.reduceEq, Bool.not_true, Bool.not_false, not_true_eq_false, not_false_eq_true, cond_bool, cond_int, beq_self_eq_true, Int.reduceBEq, Bool.and_self, Bool.and_false, Bool.false_and, Bool.xor_false, Bool.xor_true, loadN_ldC, ldC_none, ldC_somes, stC_aggs, splice, storeN_stC, stC_int, stC_bool, stC_ptr, stC_nilp, stC_sl, stC_nils, getC_gcO, gcO_cells, W_draw_eq, ↓W_scope, ev_clear, evT, evF, evX, evM, ↓exitQ_normal, ↓exitQ_ret, ↓exitQ_exit, saA_self, saO_self, if_pos, if_neg, wrapI, get_concat, set_concat, Int.toNat_natCast, Int.toNat_zero, List.nil_append, Nat.mul_one, decide_eq_true, decide_eq_false, Int.reduceLE, Int.reduceLT, Int.reduceNeg, Bool.false_or, Bool.true_or, Bool.or_false, Bool.or_true, wrapU, Int.reduceAdd, Int.reduceSub, Int.reduceMul, List.append_assoc, List.length_append, get_mid, get_mid0, set_mid, set_mid0, List.length_set, List.length_cons, List.length_nil, List.cons_append, List.getElem?_append_left, List.set_append_left, get_at, get_at0, set_at, set_at0, List.getElem?_set_self, List.getElem?_set_ne, j1]
      refine ⟨((KeepX.of (Keep.app m _)).trans k1).setL _, rfl, ?_, st', ?_, r1⟩
      · rw [List.getElem?_set_self lj1]; rfl
      · rw [List.getElem?_set_ne hij]; exact i1
    · simp (disch := first | assumption | omega | (simp only [List.length_cons, List.length_nil, List.length_set, List.length_append] <;> omega) | (simp only [get_mid, get_mid0, List.cons_append, List.append_assoc, List.getElem?_cons_zero, List.getElem?_cons_succ])) only [get_Get_Step, ek, ↓evW, ↓evQ, evB, evS, evL, List.map, AV.cells, List.all, AV.one, Bool.and_true, Bool.true_and, if_true, ↓thenQ_normal, ↓thenQ_exit, ↓thenQ_ret, ↓blockQ_normal, ↓blockQ_ret, ↓blockQ_exit, ↓CW_true, ↓CW_false, CW_true, CW_false, condT, condF, RQ_some, tupA_one, tupA_two, tupA_nil, Nat.reduceSub, Nat.reduceAdd, Nat.reduceMul, Nat.zero_add, Nat.add_zero, Nat.reduceLeDiff, Nat.reduceEqDiff, eqV, eqAll, fillA, and_self, and_true, true_and, Nat.le_refl, Bool.not_true, Bool.not_false, Bool.false_xor, Bool.true_xor, cond_true, cond_false, List.replicate, if_false, reduceIte, resAll, resA, ne_eq, decide_not, decide_true, decide_false, Int.reduceEq, Bool.not_true, Bool.not_false, not_true_eq_false, not_false_eq_true, cond_bool, cond_int, beq_self_eq_true, Int.reduceBEq, Bool.and_self, Bool.and_false, Bool.false_and, Bool.xor_false, Bool.xor_true, loadN_ldC, ldC_none, ldC_somes, stC_aggs, splice, storeN_stC, stC_int, stC_bool, stC_ptr, stC_nilp, stC_sl, stC_nils, getC_gcO, gcO_cells, W_draw_eq, ↓W_scope, ev_clear, evT, evF, evX, evM, ↓exitQ_normal, ↓exitQ_ret, ↓exitQ_exit, saA_self, saO_self, if_pos, if_neg, wrapI, get_concat, set_concat, Int.toNat_natCast, Int.toNat_zero, List.nil_append, Nat.mul_one, decide_eq_true, decide_eq_false, Int.reduceLE, Int.reduceLT, Int.reduceNeg, Bool.false_or, Bool.true_or, Bool.or_false, Bool.or_true, wrapU, Int.reduceAdd, Int.reduceSub, Int.reduceMul, List.append_assoc, List.length_append, get_mid, get_mid0, set_mid, set_mid0, List.length_set, List.length_cons, List.length_nil, List.cons_append, List.getElem?_append_left, List.set_append_left, get_at, get_at0, set_at, set_at0, List.getElem?_set_self, List.getElem?_set_ne, a138, hdone, hj, h1, Int.reduceToNat, List.getElem?_cons_succ, List.getElem?_cons_zero, List.append_nil, a167]
      refine OK_fn (copy_run hj1 hi1 hr hok hx h1) ?_
      rintro _ m1 ⟨k1, rfl, j1, st', i1, r1⟩
      have lj1 : j < m1.length := (List.getElem?_eq_some_iff.1 j1).1
      simp only [gC, getC, cfC, List.cons_append, List.nil_append] at j1
      simp (disch := first | assumption | omega | (simp only [List.length_cons, List.length_nil, List.length_set, List.length_append] <;> omega) | (simp only [get_mid, get_mid0, List.cons_append, List.append_assoc, List.getElem?_cons_zero, List.getElem?_cons_succ])) only [ek, ↓evW, ↓evQ, evB, evS, evL, List.map, AV.cells, List.all, AV.one, Bool.and_true, Bool.true_and, if_true, ↓thenQ_normal, ↓thenQ_exit, ↓thenQ_ret, ↓blockQ_normal, ↓blockQ_ret, ↓blockQ_exit, ↓CW_true, ↓CW_false, CW_true, CW_false, condT, condF, RQ_some, tupA_one, tupA_two, tupA_nil, Nat.reduceSub, Nat.reduceAdd, Nat.reduceMul, Nat.zero_add, Nat.add_zero, Nat.reduceLeDiff, Nat.reduceEqDiff, eqV, eqAll, fillA, and_self, and_true, true_and, Nat.le_refl, Bool.not_true, Bool.not_false, Bool.false_xor, Bool.true_xor, cond_true, cond_false, List.replicate, if_false, reduceIte, resAll, resA, ne_eq, decide_not, decide_true, decide_false, Int.reduceEq, Bool.not_true, Bool.not_false, not_true_eq_false, not_false_eq_true, cond_bool, cond_int, beq_self_eq_true, Int.reduceBEq, Bool.and_self, Bool.and_false, Bool.false_and, Bool.xor_false, Bool.xor_true, loadN_ldC, ldC_none, ldC_somes, stC_aggs, splice, storeN_stC, stC_int, stC_bool, stC_ptr, stC_nilp, stC_sl, stC_nils, getC_gcO, gcO_cells, W_draw_eq, ↓W_scope, ev_clear, evT, evF, evX, evM, ↓exitQ_normal, ↓exitQ_ret, ↓exitQ_exit, saA_self, saO_self, if_pos, if_neg, wrapI, get_concat, set_concat, Int.toNat_natCast, Int.toNat_zero, List.nil_append, Nat.mul_one, decide_eq_true, decide_eq_false, Int.reduceLE, Int.reduceLT, Int.reduceNeg, Bool.false_or, Bool.true_or, Bool.or_false, Bool.or_true, wrapU, Int.reduceAdd, Int.reduceSub, Int.reduceMul, List.append_assoc, List.length_append, get_mid, get_mid0, set_mid, set_mid0, List.length_set, List.length_cons, List.length_nil, List.cons_append, List.getElem?_append_left, List.set_append_left, get_at, get_at0, set_at, set_at0, List.getElem?_set_self, List.getElem?_set_ne, j1]
      refine ⟨((KeepX.of (Keep.app m _)).trans k1).setL _, rfl, ?_, st', ?_, r1⟩
      · rw [List.getElem?_set_self lj1]; rfl
      · rw [List.getElem?_set_ne hij]; exact i1
    · simp (disch := first | assumption | omega | (simp only [List.length_cons, List.length_nil, List.length_set, List.length_append] <;> omega) | (simp only [get_mid, get_mid0, List.cons_append, List.append_assoc, List.getElem?_cons_zero, List.getElem?_cons_succ])) only [get_Get_Step, ek, ↓evW, ↓evQ, evB, evS, evL, List.map, AV.cells, List.all, AV.one, Bool.and_true, Bool.true_and, if_true, ↓thenQ_normal, ↓thenQ_exit, ↓thenQ_ret, ↓blockQ_normal, ↓blockQ_ret, ↓blockQ_exit, ↓CW_true, ↓CW_false, CW_true, CW_false, condT, condF, RQ_some, tupA_one, tupA_two, tupA_nil, Nat.reduceSub, Nat.reduceAdd, Nat.reduceMul, Nat.zero_add, Nat.add_zero, Nat.reduceLeDiff, Nat.reduceEqDiff, eqV, eqAll, fillA, and_self, and_true, true_and, Nat.le_refl, Bool.not_true, Bool.not_false, Bool.false_xor, Bool.true_xor, cond_true, cond_false, List.replicate, if_false, reduceIte, resAll, resA, ne_eq, decide_not, decide_true, decide_false, Int.reduceEq, Bool.not_true, Bool.not_false, not_true_eq_false, not_false_eq_true, cond_bool, cond_int, beq_self_eq_true, Int.reduceBEq, Bool.and_self, Bool.and_false, Bool.false_and, Bool.xor_false, Bool.xor_true, loadN_ldC, ldC_none, ldC_somes, stC_aggs, splice, storeN_stC, stC_int, stC_bool, stC_ptr, stC_nilp, stC_sl, stC_nils, getC_gcO, gcO_cells, W_draw_eq, ↓W_scope, ev_clear, evT, evF, evX, evM, ↓exitQ_normal, ↓exitQ_ret, ↓exitQ_exit, saA_self, saO_self, if_pos, if_neg, wrapI, get_concat, set_concat, Int.toNat_natCast, Int.toNat_zero, List.nil_append, Nat.mul_one, decide_eq_true, decide_eq_false, Int.reduceLE, Int.reduceLT, Int.reduceNeg, Bool.false_or, Bool.true_or, Bool.or_false, Bool.or_true, wrapU, Int.reduceAdd, Int.reduceSub, Int.reduceMul, List.append_assoc, List.length_append, get_mid, get_mid0, set_mid, set_mid0, List.length_set, List.length_cons, List.length_nil, List.cons_append, List.getElem?_append_left, List.set_append_left, get_at, get_at0, set_at, set_at0, List.getElem?_set_self, List.getElem?_set_ne, a138, hdone, hj, h1, Int.reduceToNat, List.getElem?_cons_succ, List.getElem?_cons_zero, List.append_nil, a168]
      refine OK_fn (gain_run hj1 hi1 hr hok hx h1) ?_
      rintro _ m1 ⟨k1, rfl, j1, st', i1, r1⟩
      have lj1 : j < m1.length := (List.getElem?_eq_some_iff.1 j1).1
      simp only [gC, getC, cfC, List.cons_append, List.nil_append] at j1
      simp (disch := first | assumption | omega | (simp only [List.length_cons, List.length_nil, List.length_set, List.length_append] <;> omega) | (simp only [get_mid, get_mid0, List.cons_append, List.append_assoc, List.getElem?_cons_zero, List.getElem?_cons_succ])) only [ek, ↓evW, ↓evQ, evB, evS, evL, List.map, AV.cells, List.all, AV.one, Bool.and_true, Bool.true_and, if_true, ↓thenQ_normal, ↓thenQ_exit, ↓thenQ_ret, ↓blockQ_normal, ↓blockQ_ret, ↓blockQ_exit, ↓CW_true, ↓CW_false, CW_true, CW_false, condT, condF, RQ_some, tupA_one, tupA_two, tupA_nil, Nat.reduceSub, Nat.reduceAdd, Nat.reduceMul, Nat.zero_add, Nat.add_zero, Nat.reduceLeDiff, Nat.reduceEqDiff, eqV, eqAll, fillA, and_self, and_true, true_and, Nat.le_refl, Bool.not_true, Bool.not_false, Bool.false_xor, Bool.true_xor, cond_true, cond_false, List.replicate, if_false, reduceIte, resAll, resA, ne_eq, decide_not, decide_true, decide_false, Int.reduceEq, Bool.not_true, Bool.not_false, not_true_eq_false, not_false_eq_true, cond_bool, cond_int, beq_self_eq_true, Int.reduceBEq, Bool.and_self, Bool.and_false, Bool.false_and, Bool.xor_false, Bool.xor_true, loadN_ldC, ldC_none, ldC_somes, stC_aggs, splice, storeN_stC, stC_int, stC_bool, stC_ptr, stC_nilp, stC_sl, stC_nils, getC_gcO, gcO_cells, W_draw_eq, ↓W_scope, ev_clear, evT, evF, evX, evM, ↓exitQ_normal, ↓exitQ_ret, ↓exitQ_exit, saA_self, saO_self, if_pos, if_neg, wrapI, get_concat, set_concat, Int.toNat_natCast, Int.toNat_zero, List.nil_append, Nat.mul_one, decide_eq_true, decide_eq_false, Int.reduceLE, Int.reduceLT, Int.reduceNeg, Bool.false_or, Bool.true_or, Bool.or_false, Bool.or_true, wrapU, Int.reduceAdd, Int.reduceSub, Int.reduceMul, List.append_assoc, List.length_append, get_mid, get_mid0, set_mid, set_mid0, List.length_set, List.length_cons, List.length_nil, List.cons_append, List.getElem?_append_left, List.set_append_left, get_at, get_at0, set_at, set_at0, List.getElem?_set_self, List.getElem?_set_ne, j1]
      refine ⟨((KeepX.of (Keep.app m _)).trans k1).setL _, rfl, ?_, st', ?_, r1⟩
      · rw [List.getElem?_set_self lj1]; rfl
      · rw [List.getElem?_set_ne hij]; exact i1
end Go.Am.F10
end
section
namespace Go.Am.F10
open Go.Am.F06
theorem _root_.Go.Am.Sl.put {X : Type} {m : Mem X} {wr : Bool} {sz n : Nat} {l : List AV} {v : AV} (h : Sl m wr sz n l v) {b : Nat} (hb : ∀ ro L, m[b]? ≠ some (.cells sz ro L)) (C : Chunk X) : Sl (m.set b C) wr sz n l v := by
  refine ⟨h.1, ?_⟩
  rcases h.2 with h1 | ⟨q, o, cap, h1, h2⟩
  · exact .inl h1
  · refine .inr ⟨q, o, cap, h1, fun h0 => ?_⟩
    obtain ⟨ro, L, h3, h4⟩ := h2 h0
    refine ⟨ro, L, ?_, h4⟩
    rw [List.getElem?_set_ne (fun hq => hb ro L (by rw [hq]; exact h3))]; exact h3
end Go.Am.F10
end
section
namespace Go.Am.F10
open Go.Am.F06
end Go.Am.F10
end
section
namespace Go.Am.F10
variable {X : Type}
def iC (xs : List Int) : List AV := xs.map (AV.int .i64)
theorem iC_at {xs : List Int} {k : Nat} {x : Int} (h : xs[k]? = some x) : (iC xs)[k]? = some (.int .i64 x) := by simp [iC, h]
theorem iC_len (xs : List Int) : (iC xs).length = xs.length := by simp [iC]
theorem iC_one (xs : List Int) : (iC xs).all AV.one = true := by simp [iC, AV.one]
theorem iC_app (xs : List Int) (x : Int) : iC (xs ++ [x]) = iC xs ++ [.int .i64 x] := by simp [iC]
abbrev SI (m : Mem X) (wr : Bool) (xs : List Int) (v : AV) : Prop := Sl m wr 1 xs.length (iC xs) v
theorem SI.val {m : Mem X} {wr : Bool} {xs : List Int} {v : AV} (h : SI m wr xs v) (hn : 0 < xs.length) : ∃ q o cap ro L, v = .sl q o xs.length cap ∧ m[q]? = some (.cells 1 ro L) ∧ (wr = true → ro = false) ∧ o + xs.length ≤ L.length ∧ ∀ (i : Nat) (x : Int), xs[i]? = some x → L[o + i]? = some (.int .i64 x) := by
  obtain ⟨q, o, cap, ro, L, h1, h2, h3, h4, h5⟩ := h.at hn
  refine ⟨q, o, cap, ro, L, h1, h2, h5, by omega, fun i x hx => ?_⟩
  have hi : i < xs.length := (List.getElem?_eq_some_iff.1 hx).1
  rw [sl_get h3 (by omega)]; exact iC_at hx
def MInv (n : Nat) (a b : AV) (xs ys : List Int) (m0 : Mem X) (k : Nat) (e : List AV) (m : Mem X) : Prop := ∃ (i : Nat) (x4 x5 x6 : AV),
  e = [a, b, .bool false, .int .i64 i, x4, x5, x6] ∧ m = m0 ∧ k = n - i ∧ i ≤ n ∧ ∀ j, j < i → xs[j]? = ys[j]?
theorem same_run {m : Mem X} {w1 w2 : Bool} {xs ys : List Int} {a b : AV} (ha : SI m w1 xs a) (hb : SI m w2 ys b) (hx : xs.length < FUEL) : Fn [] kit_SameInts [a, b] m (fun r m' => r = .bool (decide (xs = ys)) ∧ m' = m) := by
  refine Fn_of rfl ?_
  have hF : xs.length < 1099511627776 := hx
  have h1 := ha.len
  have h2 := hb.len
  by_cases hn : xs.length = ys.length
  · rcases Nat.eq_zero_or_pos xs.length with h0 | h0
    · have hx0 : xs = [] := List.length_eq_zero_iff.1 h0
      have hy0 : ys = [] := List.length_eq_zero_iff.1 (by omega)
      rw [hx0] at h1; rw [hy0] at h2
      subst hx0; subst hy0
      simp (disch := first | assumption | omega | (simp only [List.length_cons, List.length_nil, List.length_set, List.length_append] <;> omega) | (simp only [get_mid, get_mid0, List.cons_append, List.append_assoc, List.getElem?_cons_zero, List.getElem?_cons_succ])) only [kit_SameInts, ek, ↓evW, ↓evQ, evB, evS, evL, List.map, AV.cells, List.all, AV.one, Bool.and_true, Bool.true_and, if_true, ↓thenQ_normal, ↓thenQ_exit, ↓thenQ_ret, ↓blockQ_normal, ↓blockQ_ret, ↓blockQ_exit, ↓CW_true, ↓CW_false, CW_true, CW_false, condT, condF, RQ_some, tupA_one, tupA_two, tupA_nil, Nat.reduceSub, Nat.reduceAdd, Nat.reduceMul, Nat.zero_add, Nat.add_zero, Nat.reduceLeDiff, Nat.reduceEqDiff, eqV, eqAll, fillA, and_self, and_true, true_and, Nat.le_refl, Bool.not_true, Bool.not_false, Bool.false_xor, Bool.true_xor, cond_true, cond_false, List.replicate, if_false, reduceIte, resAll, resA, ne_eq, decide_not, decide_true, decide_false, Int.reduceEq, Bool.not_true, Bool.not_false, not_true_eq_false, not_false_eq_true, cond_bool, cond_int, beq_self_eq_true, Int.reduceBEq, Bool.and_self, Bool.and_false, Bool.false_and, Bool.xor_false, Bool.xor_true, loadN_ldC, ldC_none, ldC_somes, stC_aggs, splice, storeN_stC, stC_int, stC_bool, stC_ptr, stC_nilp, stC_sl, stC_nils, getC_gcO, gcO_cells, W_draw_eq, ↓W_scope, ev_clear, evT, evF, evX, evM, ↓exitQ_normal, ↓exitQ_ret, ↓exitQ_exit, saA_self, saO_self, if_pos, if_neg, wrapI, get_concat, set_concat, Int.toNat_natCast, Int.toNat_zero, List.nil_append, Nat.mul_one, decide_eq_true, decide_eq_false, Int.reduceLE, Int.reduceLT, Int.reduceNeg, Bool.false_or, Bool.true_or, Bool.or_false, Bool.or_true, wrapU, Int.reduceAdd, Int.reduceSub, Int.reduceMul, ev_len, h1, h2]
      refine W_loop (fun k e m' => ∃ x4 x5 x6 : AV, e = [a, b, .bool false, .int .i64 0, x4, x5, x6] ∧ m' = m) 0 (by simp [FUEL]) ⟨_, _, _, rfl, rfl⟩ ?_
      rintro k e m' ⟨x4, x5, x6, rfl, rfl⟩
      simp (disch := first | assumption | omega | (simp only [List.length_cons, List.length_nil, List.length_set, List.length_append] <;> omega) | (simp only [get_mid, get_mid0, List.cons_append, List.append_assoc, List.getElem?_cons_zero, List.getElem?_cons_succ])) only [ek, ↓evW, ↓evQ, evB, evS, evL, List.map, AV.cells, List.all, AV.one, Bool.and_true, Bool.true_and, if_true, ↓thenQ_normal, ↓thenQ_exit, ↓thenQ_ret, ↓blockQ_normal, ↓blockQ_ret, ↓blockQ_exit, ↓CW_true, ↓CW_false, CW_true, CW_false, condT, condF, RQ_some, tupA_one, tupA_two, tupA_nil, Nat.reduceSub, Nat.reduceAdd, Nat.reduceMul, Nat.zero_add, Nat.add_zero, Nat.reduceLeDiff, Nat.reduceEqDiff, eqV, eqAll, fillA, and_self, and_true, true_and, Nat.le_refl, Bool.not_true, Bool.not_false, Bool.false_xor, Bool.true_xor, cond_true, cond_false, List.replicate, if_false, reduceIte, resAll, resA, ne_eq, decide_not, decide_true, decide_false, Int.reduceEq, Bool.not_true, Bool.not_false, not_true_eq_false, not_false_eq_true, cond_bool, cond_int, beq_self_eq_true, Int.reduceBEq, Bool.and_self, Bool.and_false, Bool.false_and, Bool.xor_false, Bool.xor_true, loadN_ldC, ldC_none, ldC_somes, stC_aggs, splice, storeN_stC, stC_int, stC_bool, stC_ptr, stC_nilp, stC_sl, stC_nils, getC_gcO, gcO_cells, W_draw_eq, ↓W_scope, ev_clear, evT, evF, evX, evM, ↓exitQ_normal, ↓exitQ_ret, ↓exitQ_exit, saA_self, saO_self, if_pos, if_neg, wrapI, get_concat, set_concat, Int.toNat_natCast, Int.toNat_zero, List.nil_append, Nat.mul_one, decide_eq_true, decide_eq_false, Int.reduceLE, Int.reduceLT, Int.reduceNeg, Bool.false_or, Bool.true_or, Bool.or_false, Bool.or_true, wrapU, Int.reduceAdd, Int.reduceSub, Int.reduceMul, ev_len, h1]
    · obtain ⟨q, o, cap, ro, L, rfl, hq, _, hL, hat⟩ := ha.val h0
      obtain ⟨q', o', cap', ro', L', rfl, hq', _, hL', hat'⟩ := hb.val (by omega)
      simp (disch := first | assumption | omega | (simp only [List.length_cons, List.length_nil, List.length_set, List.length_append] <;> omega) | (simp only [get_mid, get_mid0, List.cons_append, List.append_assoc, List.getElem?_cons_zero, List.getElem?_cons_succ])) only [kit_SameInts, ek, ↓evW, ↓evQ, evB, evS, evL, List.map, AV.cells, List.all, AV.one, Bool.and_true, Bool.true_and, if_true, ↓thenQ_normal, ↓thenQ_exit, ↓thenQ_ret, ↓blockQ_normal, ↓blockQ_ret, ↓blockQ_exit, ↓CW_true, ↓CW_false, CW_true, CW_false, condT, condF, RQ_some, tupA_one, tupA_two, tupA_nil, Nat.reduceSub, Nat.reduceAdd, Nat.reduceMul, Nat.zero_add, Nat.add_zero, Nat.reduceLeDiff, Nat.reduceEqDiff, eqV, eqAll, fillA, and_self, and_true, true_and, Nat.le_refl, Bool.not_true, Bool.not_false, Bool.false_xor, Bool.true_xor, cond_true, cond_false, List.replicate, if_false, reduceIte, resAll, resA, ne_eq, decide_not, decide_true, decide_false, Int.reduceEq, Bool.not_true, Bool.not_false, not_true_eq_false, not_false_eq_true, cond_bool, cond_int, beq_self_eq_true, Int.reduceBEq, Bool.and_self, Bool.and_false, Bool.false_and, Bool.xor_false, Bool.xor_true, loadN_ldC, ldC_none, ldC_somes, stC_aggs, splice, storeN_stC, stC_int, stC_bool, stC_ptr, stC_nilp, stC_sl, stC_nils, getC_gcO, gcO_cells, W_draw_eq, ↓W_scope, ev_clear, evT, evF, evX, evM, ↓exitQ_normal, ↓exitQ_ret, ↓exitQ_exit, saA_self, saO_self, if_pos, if_neg, wrapI, get_concat, set_concat, Int.toNat_natCast, Int.toNat_zero, List.nil_append, Nat.mul_one, decide_eq_true, decide_eq_false, Int.reduceLE, Int.reduceLT, Int.reduceNeg, Bool.false_or, Bool.true_or, Bool.or_false, Bool.or_true, wrapU, Int.reduceAdd, Int.reduceSub, Int.reduceMul]
      refine W_loop (MInv xs.length (.sl q o xs.length cap) (.sl q' o' ys.length cap') xs ys m) xs.length hx ⟨0, _, _, _, rfl, rfl, rfl, Nat.zero_le _, fun j hj => by omega⟩ ?_
      rintro k e m' ⟨i, x4, x5, x6, rfl, rfl, rfl, hi, heq⟩
      simp (disch := first | assumption | omega | (simp only [List.length_cons, List.length_nil, List.length_set, List.length_append] <;> omega) | (simp only [get_mid, get_mid0, List.cons_append, List.append_assoc, List.getElem?_cons_zero, List.getElem?_cons_succ])) only [ek, ↓evW, ↓evQ, evB, evS, evL, List.map, AV.cells, List.all, AV.one, Bool.and_true, Bool.true_and, if_true, ↓thenQ_normal, ↓thenQ_exit, ↓thenQ_ret, ↓blockQ_normal, ↓blockQ_ret, ↓blockQ_exit, ↓CW_true, ↓CW_false, CW_true, CW_false, condT, condF, RQ_some, tupA_one, tupA_two, tupA_nil, Nat.reduceSub, Nat.reduceAdd, Nat.reduceMul, Nat.zero_add, Nat.add_zero, Nat.reduceLeDiff, Nat.reduceEqDiff, eqV, eqAll, fillA, and_self, and_true, true_and, Nat.le_refl, Bool.not_true, Bool.not_false, Bool.false_xor, Bool.true_xor, cond_true, cond_false, List.replicate, if_false, reduceIte, resAll, resA, ne_eq, decide_not, decide_true, decide_false, Int.reduceEq, Bool.not_true, Bool.not_false, not_true_eq_false, not_false_eq_true, cond_bool, cond_int, beq_self_eq_true, Int.reduceBEq, Bool.and_self, Bool.and_false, Bool.false_and, Bool.xor_false, Bool.xor_true, loadN_ldC, ldC_none, ldC_somes, stC_aggs, splice, storeN_stC, stC_int, stC_bool, stC_ptr, stC_nilp, stC_sl, stC_nils, getC_gcO, gcO_cells, W_draw_eq, ↓W_scope, ev_clear, evT, evF, evX, evM, ↓exitQ_normal, ↓exitQ_ret, ↓exitQ_exit, saA_self, saO_self, if_pos, if_neg, wrapI, get_concat, set_concat, Int.toNat_natCast, Int.toNat_zero, List.nil_append, Nat.mul_one, decide_eq_true, decide_eq_false, Int.reduceLE, Int.reduceLT, Int.reduceNeg, Bool.false_or, Bool.true_or, Bool.or_false, Bool.or_true, wrapU, Int.reduceAdd, Int.reduceSub, Int.reduceMul]
      refine CW_of (fun h => ?_) (fun h => ?_)
      · simp only [decide_eq_true_eq] at h
        obtain ⟨x, hxi⟩ : ∃ x, xs[i]? = some x := ⟨_, List.getElem?_eq_getElem (by omega)⟩
        obtain ⟨y, hyi⟩ : ∃ y, ys[i]? = some y := ⟨_, List.getElem?_eq_getElem (by omega)⟩
        simp (disch := first | assumption | omega | (simp only [List.length_cons, List.length_nil, List.length_set, List.length_append] <;> omega) | (simp only [get_mid, get_mid0, List.cons_append, List.append_assoc, List.getElem?_cons_zero, List.getElem?_cons_succ])) only [ek, ↓evW, ↓evQ, evB, evS, evL, List.map, AV.cells, List.all, AV.one, Bool.and_true, Bool.true_and, if_true, ↓thenQ_normal, ↓thenQ_exit, ↓thenQ_ret, ↓blockQ_normal, ↓blockQ_ret, ↓blockQ_exit, ↓CW_true, ↓CW_false, CW_true, CW_false, condT, condF, RQ_some, tupA_one, tupA_two, tupA_nil, Nat.reduceSub, Nat.reduceAdd, Nat.reduceMul, Nat.zero_add, Nat.add_zero, Nat.reduceLeDiff, Nat.reduceEqDiff, eqV, eqAll, fillA, and_self, and_true, true_and, Nat.le_refl, Bool.not_true, Bool.not_false, Bool.false_xor, Bool.true_xor, cond_true, cond_false, List.replicate, if_false, reduceIte, resAll, resA, ne_eq, decide_not, decide_true, decide_false, Int.reduceEq, Bool.not_true, Bool.not_false, not_true_eq_false, not_false_eq_true, cond_bool, cond_int, beq_self_eq_true, Int.reduceBEq, Bool.and_self, Bool.and_false, Bool.false_and, Bool.xor_false, Bool.xor_true, loadN_ldC, ldC_none, ldC_somes, stC_aggs, splice, storeN_stC, stC_int, stC_bool, stC_ptr, stC_nilp, stC_sl, stC_nils, getC_gcO, gcO_cells, W_draw_eq, ↓W_scope, ev_clear, evT, evF, evX, evM, ↓exitQ_normal, ↓exitQ_ret, ↓exitQ_exit, saA_self, saO_self, if_pos, if_neg, wrapI, get_concat, set_concat, Int.toNat_natCast, Int.toNat_zero, List.nil_append, Nat.mul_one, decide_eq_true, decide_eq_false, Int.reduceLE, Int.reduceLT, Int.reduceNeg, Bool.false_or, Bool.true_or, Bool.or_false, Bool.or_true, wrapU, Int.reduceAdd, Int.reduceSub, Int.reduceMul, hq, hq', hat i x hxi, hat' i y hyi]
        by_cases hxy : x = y
        · subst hxy
          simp (disch := first | assumption | omega | (simp only [List.length_cons, List.length_nil, List.length_set, List.length_append] <;> omega) | (simp only [get_mid, get_mid0, List.cons_append, List.append_assoc, List.getElem?_cons_zero, List.getElem?_cons_succ])) only [ek, ↓evW, ↓evQ, evB, evS, evL, List.map, AV.cells, List.all, AV.one, Bool.and_true, Bool.true_and, if_true, ↓thenQ_normal, ↓thenQ_exit, ↓thenQ_ret, ↓blockQ_normal, ↓blockQ_ret, ↓blockQ_exit, ↓CW_true, ↓CW_false, CW_true, CW_false, condT, condF, RQ_some, tupA_one, tupA_two, tupA_nil, Nat.reduceSub, Nat.reduceAdd, Nat.reduceMul, Nat.zero_add, Nat.add_zero, Nat.reduceLeDiff, Nat.reduceEqDiff, eqV, eqAll, fillA, and_self, and_true, true_and, Nat.le_refl, Bool.not_true, Bool.not_false, Bool.false_xor, Bool.true_xor, cond_true, cond_false, List.replicate, if_false, reduceIte, resAll, resA, ne_eq, decide_not, decide_true, decide_false, Int.reduceEq, Bool.not_true, Bool.not_false, not_true_eq_false, not_false_eq_true, cond_bool, cond_int, beq_self_eq_true, Int.reduceBEq, Bool.and_self, Bool.and_false, Bool.false_and, Bool.xor_false, Bool.xor_true, loadN_ldC, ldC_none, ldC_somes, stC_aggs, splice, storeN_stC, stC_int, stC_bool, stC_ptr, stC_nilp, stC_sl, stC_nils, getC_gcO, gcO_cells, W_draw_eq, ↓W_scope, ev_clear, evT, evF, evX, evM, ↓exitQ_normal, ↓exitQ_ret, ↓exitQ_exit, saA_self, saO_self, if_pos, if_neg, wrapI, get_concat, set_concat, Int.toNat_natCast, Int.toNat_zero, List.nil_append, Nat.mul_one, decide_eq_true, decide_eq_false, Int.reduceLE, Int.reduceLT, Int.reduceNeg, Bool.false_or, Bool.true_or, Bool.or_false, Bool.or_true, wrapU, Int.reduceAdd, Int.reduceSub, Int.reduceMul]
          refine ⟨_, by omega, i + 1, _, _, _, rfl, rfl, rfl, by omega, fun j hj => ?_⟩
          by_cases hji : j = i
          · subst hji; rw [hxi, hyi]
          · exact heq j (by omega)
        · simp (disch := first | assumption | omega | (simp only [List.length_cons, List.length_nil, List.length_set, List.length_append] <;> omega) | (simp only [get_mid, get_mid0, List.cons_append, List.append_assoc, List.getElem?_cons_zero, List.getElem?_cons_succ])) only [ek, ↓evW, ↓evQ, evB, evS, evL, List.map, AV.cells, List.all, AV.one, Bool.and_true, Bool.true_and, if_true, ↓thenQ_normal, ↓thenQ_exit, ↓thenQ_ret, ↓blockQ_normal, ↓blockQ_ret, ↓blockQ_exit, ↓CW_true, ↓CW_false, CW_true, CW_false, condT, condF, RQ_some, tupA_one, tupA_two, tupA_nil, Nat.reduceSub, Nat.reduceAdd, Nat.reduceMul, Nat.zero_add, Nat.add_zero, Nat.reduceLeDiff, Nat.reduceEqDiff, eqV, eqAll, fillA, and_self, and_true, true_and, Nat.le_refl, Bool.not_true, Bool.not_false, Bool.false_xor, Bool.true_xor, cond_true, cond_false, List.replicate, if_false, reduceIte, resAll, resA, ne_eq, decide_not, decide_true, decide_false, Int.reduceEq, Bool.not_true, Bool.not_false, not_true_eq_false, not_false_eq_true, cond_bool, cond_int, beq_self_eq_true, Int.reduceBEq, Bool.and_self, Bool.and_false, Bool.false_and, Bool.xor_false, Bool.xor_true, loadN_ldC, ldC_none, ldC_somes, stC_aggs, splice, storeN_stC, stC_int, stC_bool, stC_ptr, stC_nilp, stC_sl, stC_nils, getC_gcO, gcO_cells, W_draw_eq, ↓W_scope, ev_clear, evT, evF, evX, evM, ↓exitQ_normal, ↓exitQ_ret, ↓exitQ_exit, saA_self, saO_self, if_pos, if_neg, wrapI, get_concat, set_concat, Int.toNat_natCast, Int.toNat_zero, List.nil_append, Nat.mul_one, decide_eq_true, decide_eq_false, Int.reduceLE, Int.reduceLT, Int.reduceNeg, Bool.false_or, Bool.true_or, Bool.or_false, Bool.or_true, wrapU, Int.reduceAdd, Int.reduceSub, Int.reduceMul, hxy]
          have : ¬ xs = ys := fun h => by rw [h, hyi] at hxi; injection hxi with hxi; exact hxy hxi.symm
          simp [this]
      · simp only [decide_eq_false_iff_not] at h
        simp (disch := first | assumption | omega | (simp only [List.length_cons, List.length_nil, List.length_set, List.length_append] <;> omega) | (simp only [get_mid, get_mid0, List.cons_append, List.append_assoc, List.getElem?_cons_zero, List.getElem?_cons_succ])) only [ek, ↓evW, ↓evQ, evB, evS, evL, List.map, AV.cells, List.all, AV.one, Bool.and_true, Bool.true_and, if_true, ↓thenQ_normal, ↓thenQ_exit, ↓thenQ_ret, ↓blockQ_normal, ↓blockQ_ret, ↓blockQ_exit, ↓CW_true, ↓CW_false, CW_true, CW_false, condT, condF, RQ_some, tupA_one, tupA_two, tupA_nil, Nat.reduceSub, Nat.reduceAdd, Nat.reduceMul, Nat.zero_add, Nat.add_zero, Nat.reduceLeDiff, Nat.reduceEqDiff, eqV, eqAll, fillA, and_self, and_true, true_and, Nat.le_refl, Bool.not_true, Bool.not_false, Bool.false_xor, Bool.true_xor, cond_true, cond_false, List.replicate, if_false, reduceIte, resAll, resA, ne_eq, decide_not, decide_true, decide_false, Int.reduceEq, Bool.not_true, Bool.not_false, not_true_eq_false, not_false_eq_true, cond_bool, cond_int, beq_self_eq_true, Int.reduceBEq, Bool.and_self, Bool.and_false, Bool.false_and, Bool.xor_false, Bool.xor_true, loadN_ldC, ldC_none, ldC_somes, stC_aggs, splice, storeN_stC, stC_int, stC_bool, stC_ptr, stC_nilp, stC_sl, stC_nils, getC_gcO, gcO_cells, W_draw_eq, ↓W_scope, ev_clear, evT, evF, evX, evM, ↓exitQ_normal, ↓exitQ_ret, ↓exitQ_exit, saA_self, saO_self, if_pos, if_neg, wrapI, get_concat, set_concat, Int.toNat_natCast, Int.toNat_zero, List.nil_append, Nat.mul_one, decide_eq_true, decide_eq_false, Int.reduceLE, Int.reduceLT, Int.reduceNeg, Bool.false_or, Bool.true_or, Bool.or_false, Bool.or_true, wrapU, Int.reduceAdd, Int.reduceSub, Int.reduceMul]
        have : xs = ys := List.ext_getElem? fun j => by
          by_cases hj : j < i
          · exact heq j hj
          · rw [List.getElem?_eq_none (by omega), List.getElem?_eq_none (by omega)]
        simp [this]
  · have hne : ¬ ((xs.length : Int) = ys.length) := by omega
    have : ¬ xs = ys := fun h => hn (by rw [h])
    simp (disch := first | assumption | omega | (simp only [List.length_cons, List.length_nil, List.length_set, List.length_append] <;> omega) | (simp only [get_mid, get_mid0, List.cons_append, List.append_assoc, List.getElem?_cons_zero, List.getElem?_cons_succ])) only [kit_SameInts, ek, ↓evW, ↓evQ, evB, evS, evL, List.map, AV.cells, List.all, AV.one, Bool.and_true, Bool.true_and, if_true, ↓thenQ_normal, ↓thenQ_exit, ↓thenQ_ret, ↓blockQ_normal, ↓blockQ_ret, ↓blockQ_exit, ↓CW_true, ↓CW_false, CW_true, CW_false, condT, condF, RQ_some, tupA_one, tupA_two, tupA_nil, Nat.reduceSub, Nat.reduceAdd, Nat.reduceMul, Nat.zero_add, Nat.add_zero, Nat.reduceLeDiff, Nat.reduceEqDiff, eqV, eqAll, fillA, and_self, and_true, true_and, Nat.le_refl, Bool.not_true, Bool.not_false, Bool.false_xor, Bool.true_xor, cond_true, cond_false, List.replicate, if_false, reduceIte, resAll, resA, ne_eq, decide_not, decide_true, decide_false, Int.reduceEq, Bool.not_true, Bool.not_false, not_true_eq_false, not_false_eq_true, cond_bool, cond_int, beq_self_eq_true, Int.reduceBEq, Bool.and_self, Bool.and_false, Bool.false_and, Bool.xor_false, Bool.xor_true, loadN_ldC, ldC_none, ldC_somes, stC_aggs, splice, storeN_stC, stC_int, stC_bool, stC_ptr, stC_nilp, stC_sl, stC_nils, getC_gcO, gcO_cells, W_draw_eq, ↓W_scope, ev_clear, evT, evF, evX, evM, ↓exitQ_normal, ↓exitQ_ret, ↓exitQ_exit, saA_self, saO_self, if_pos, if_neg, wrapI, get_concat, set_concat, Int.toNat_natCast, Int.toNat_zero, List.nil_append, Nat.mul_one, decide_eq_true, decide_eq_false, Int.reduceLE, Int.reduceLT, Int.reduceNeg, Bool.false_or, Bool.true_or, Bool.or_false, Bool.or_true, wrapU, Int.reduceAdd, Int.reduceSub, Int.reduceMul, ev_len, h1, h2, hne, this]
theorem _root_.Go.Am.Own.si {m0 m : Mem X} {xs : List Int} {v : AV} (h : Own m0 m 1 xs.length (iC xs) v) : SI m true xs v ∧ Fr m0.length v := Own.sl h (by rw [iC_len]; omega)
theorem _root_.Go.Am.Own.val1 {m0 m : Mem X} {xs : List Int} {v : AV} (h : Own m0 m 1 xs.length (iC xs) v) : v.one = true := by
  rcases h with ⟨_, _, rfl⟩ | ⟨q, rfl, _⟩ <;> rfl
theorem _root_.Go.Am.Own.more {m0 m : Mem X} {n : Nat} {l : List AV} {lv : AV} (h : Own m0 m 1 n l lv) (K : Mem X) : Own m0 (m ++ K) 1 n l lv := by
  rcases h with h | ⟨q, h1, h2, h3, h4⟩
  · exact .inl h
  · exact .inr ⟨q, h1, by rw [List.getElem?_append_left h4]; exact h2, h3, by rw [List.length_append]; omega⟩
theorem _root_.Go.Am.Own.keep {m0 m m' : Mem X} {n : Nat} {l : List AV} {lv : AV} (h : Own m0 m 1 n l lv) (hk : ∀ q C, m0.length ≤ q → m[q]? = some (.cells 1 false C) → m'[q]? = some (.cells 1 false C)) : Own m0 m' 1 n l lv := by
  rcases h with h | ⟨q, h1, h2, h3, h4⟩
  · exact .inl h
  · have := hk q _ h3 h2
    exact .inr ⟨q, h1, this, h3, (List.getElem?_eq_some_iff.1 this).1⟩
def Nx (m : Mem X) (v : AV) : Prop := v = .nils ∨ ∃ q o n l, v = .sl q o n none ∧ m[q]? = some (.cells 1 false l)
theorem _root_.Go.Am.Own.nx {m0 m : Mem X} {n : Nat} {l : List AV} {v : AV} (h : Own m0 m 1 n l v) : Nx m v := by
  rcases h with ⟨_, _, rfl⟩ | ⟨q, rfl, h1, _⟩
  · exact .inl rfl
  · exact .inr ⟨_, _, _, _, rfl, h1⟩
theorem own_push {m0 m : Mem X} {xs : List Int} {v : AV} (h : Own m0 m 1 xs.length (iC xs) v) (x : Int) (hl : xs.length ≤ 100000) (hm : m0.length ≤ m.length) :
    ∃ v' m', appendA 1 8 v (.sl m.length 0 1 (some 1)) (m ++ [.cells 1 false [.int .i64 x]]) = some (v', m') ∧ Own m0 m' 1 (xs ++ [x]).length (iC (xs ++ [x])) v' ∧ m.length ≤ m'.length ∧ (∀ i, i < m.length → (∀ ro L, m[i]? ≠ some (.cells 1 ro L)) ∨ i < m0.length → m'[i]? = m[i]?) := by
  have hx : (m ++ [Chunk.cells 1 false [.int .i64 x]])[m.length]? = some (.cells 1 false [.int .i64 x]) := get_concat
  rw [iC_app, List.length_append]
  rcases h with ⟨h1, h2, rfl⟩ | ⟨q, rfl, hq, h2, h3⟩
  · have hxs : xs = [] := List.length_eq_zero_iff.1 h1
    subst hxs
    refine ⟨_, _, append_nils hx rfl rfl (by decide), .inr ⟨_, rfl, get_concat, by simp <;> omega, by simp⟩, by simp <;> omega, fun i hi _ => ?_⟩
    rw [List.getElem?_append_left (by simp <;> omega), List.getElem?_append_left hi]
  · have hq' : (m ++ [Chunk.cells 1 false [.int .i64 x]])[q]? = some (.cells 1 false (iC xs)) := by rw [List.getElem?_append_left h3]; exact hq
    refine ⟨_, _, append_none hq' (by rw [iC_len]; omega) hx rfl (iC_one _) rfl (by omega) (by omega), .inr ⟨_, rfl, ?_, by simp <;> omega, by simp⟩, by simp <;> omega, fun i hi ho => ?_⟩
    · have : (m ++ [Chunk.cells 1 false [AV.int .i64 x]]).length = ((m ++ [Chunk.cells 1 false [AV.int .i64 x]]).set q .dead).length := by simp
      rw [this, get_concat]
    · have hqi : q ≠ i := by
        rintro rfl
        rcases ho with ho | ho
        · exact ho _ _ hq
        · omega
      rw [List.getElem?_append_left (by simp <;> omega), List.getElem?_set_ne hqi, List.getElem?_append_left hi]
end Go.Am.F10
end
section
namespace Go.Am.F10
open Go.Am.F06
def ringN (c : Cf) (w : Int) : Nat := if sz w ≤ c.q then (sz w).toNat else 0
def ringAt (c : Cf) (p : Int) (xs : List Int) (w : Int) (i : Nat) : Int := IntKind.i64.wrap (xs.getD (slotA c p ((hd w + i) % 4294967296)).toNat 0)
def ringW (c : Cf) (p : Int) (xs : List Int) (w : Int) (n : Nat) : List Int := (List.range n).map (ringAt c p xs w)
def ringL (c : Cf) (p : Int) (xs : List Int) : List Int := if thereP c p then ringW c p xs (xs.getD (wrdN c p) 0) (ringN c (xs.getD (wrdN c p) 0)) else []
theorem ringW_len (c : Cf) (p : Int) (xs : List Int) (w : Int) (n : Nat) : (ringW c p xs w n).length = n := by simp [ringW]
theorem ringW_succ (c : Cf) (p : Int) (xs : List Int) (w : Int) (n : Nat) : ringW c p xs w (n + 1) = ringW c p xs w n ++ [ringAt c p xs w n] := by simp [ringW, List.range_succ]
theorem ringN_le {c : Cf} {p : Int} (h : thereP c p) (w : Int) : ringN c w ≤ 64 := by
  have := there_bounds h
  unfold ringN; split <;> omega
def Gring : List (Nat × AFun Ob) := [(47, memNF allS), (156, c_conf_Config_Cells), (159, c_conf_Config_Word), (160, c_conf_Config_Slot)]
def RnI (m M0 : MM) (c : Cf) (p : Int) (j : Nat) (xs : List Int) (w : Int) (l : AV) (k : Nat) (e : List AV) (mm : MM) : Prop := ∃ (i : Nat) (r y11 y12 y13 y14 : AV),
  e = [.agg (cfC c), .ptr j 0, .int .i64 p, .ptr m.length 0, .nils, r, l, .int .u64 w, .int .u32 (hd w), .int .u32 (tl w), .int .u32 i, y11, y12, y13, y14] ∧ k = ringN c w - i ∧ i ≤ ringN c w ∧ Keep M0 mm ∧ Own M0 mm 1 (ringW c p xs w i).length (iC (ringW c p xs w i)) r
set_option maxHeartbeats 8000000 in
theorem ring_run {m : MM} {c : Cf} {p o : Int} {xs : List Int} {j : Nat} {st : MemSt} (hj : m[j]? = some (.abs (.mem st))) (hr : RelM xs o st) (hx : OkL c xs) :
    Fn Gring docs_Ring [.agg (cfC c), .ptr j 0, .int .i64 p] m (fun r m' => Keep m m' ∧ SI m' true (ringL c p xs) r ∧ Fr m.length r ∧ Nx m' r) := by
  have a47 : assoc Gring 47 = some (memNF allS) := rfl
  have a156 : assoc Gring 156 = some c_conf_Config_Cells := rfl
  have a159 : assoc Gring 159 = some c_conf_Config_Word := rfl
  have a160 : assoc Gring 160 = some c_conf_Config_Slot := rfl
  generalize Gring = G at a47 a156 a159 a160 ⊢
  have lj : j < m.length := (List.getElem?_eq_some_iff.1 hj).1
  have hcn := cellsN_le c
  have hxl := hx.1
  have hj1 : (m ++ [Chunk.cells 6 false (cfC c)])[j]? = some (.abs (.mem st)) := by rw [List.getElem?_append_left lj]; exact hj
  obtain ⟨rfl, _, _⟩ := hr
  obtain ⟨l, f47, sl, _⟩ := all_of hj1 (by omega)
  have hlen := sl.len
  rw [hxl] at hlen
  have g0 : (m ++ [Chunk.cells 6 false (cfC c)] ++ [.cells 1 false (uC st.cells)])[m.length]? = some (Chunk.cells 6 false (cfC c)) := by rw [List.append_assoc, get_mid0]; rfl
  have hk0 : Keep m (m ++ [Chunk.cells 6 false (cfC c)] ++ [.cells 1 false (uC st.cells)]) := by rw [List.append_assoc]; exact Keep.app _ _
  generalize hM : m ++ [Chunk.cells 6 false (cfC c)] ++ [.cells 1 false (uC st.cells)] = M1 at f47 sl g0 hk0
  have hc := fun K : MM => cells_eq (M1 ++ K) c
  obtain ⟨J, hcells⟩ := cells_eq M1 c
  have hw := fun K : MM => word_run (m := M1 ++ K) c p
  have g0' := fun K : MM => (Keep.app M1 K).get g0
  simp only [cfC, List.cons_append, List.nil_append, List.append_assoc] at hcells hw g0 g0' f47
  refine Fn_of rfl ?_
  by_cases h : thereP c p
  · have hb := there_bounds h
    have ha0 := addr_b h (i := 0) (by omega) (by omega)
    have hwt : (addrA c p 0).toNat = wrdN c p := rfl
    obtain ⟨w, hw1⟩ : ∃ w, st.cells[wrdN c p]? = some w := ⟨_, List.getElem?_eq_getElem (by omega)⟩
    have hwd : st.cells.getD (wrdN c p) 0 = w := by rw [List.getD_eq_getElem?_getD, hw1]; rfl
    have hw64 : W64 w := hx.2 w (List.mem_of_getElem? hw1)
    obtain ⟨q, oo, cap, ro, L, rfl, b2, b3, b4, b5, b6⟩ := SU.get sl hw1
    have b2' := fun K : MM => (Keep.app M1 K).get b2
    simp (disch := first | assumption | omega | (simp only [List.length_cons, List.length_nil, List.length_set, List.length_append] <;> omega) | (simp only [get_mid, get_mid0, List.cons_append, List.append_assoc, List.getElem?_cons_zero, List.getElem?_cons_succ])) only [docs_Ring, ek, ↓evW, ↓evQ, evB, evS, evL, List.map, AV.cells, List.all, AV.one, Bool.and_true, Bool.true_and, if_true, ↓thenQ_normal, ↓thenQ_exit, ↓thenQ_ret, ↓blockQ_normal, ↓blockQ_ret, ↓blockQ_exit, ↓CW_true, ↓CW_false, CW_true, CW_false, condT, condF, RQ_some, tupA_one, tupA_two, tupA_nil, Nat.reduceSub, Nat.reduceAdd, Nat.reduceMul, Nat.zero_add, Nat.add_zero, Nat.reduceLeDiff, Nat.reduceEqDiff, eqV, eqAll, fillA, and_self, and_true, true_and, Nat.le_refl, Bool.not_true, Bool.not_false, Bool.false_xor, Bool.true_xor, cond_true, cond_false, List.replicate, if_false, reduceIte, resAll, resA, ne_eq, decide_not, decide_true, decide_false, Int.reduceEq, Bool.not_true, Bool.not_false, not_true_eq_false, not_false_eq_true, cond_bool, cond_int, beq_self_eq_true, Int.reduceBEq, Bool.and_self, Bool.and_false, Bool.false_and, Bool.xor_false, Bool.xor_true, loadN_ldC, ldC_none, ldC_somes, stC_aggs, splice, storeN_stC, stC_int, stC_bool, stC_ptr, stC_nilp, stC_sl, stC_nils, getC_gcO, gcO_cells, W_draw_eq, ↓W_scope, ev_clear, evT, evF, evX, evM, ↓exitQ_normal, ↓exitQ_ret, ↓exitQ_exit, saA_self, saO_self, if_pos, if_neg, wrapI, get_concat, set_concat, Int.toNat_natCast, Int.toNat_zero, List.nil_append, Nat.mul_one, decide_eq_true, decide_eq_false, Int.reduceLE, Int.reduceLT, Int.reduceNeg, Bool.false_or, Bool.true_or, Bool.or_false, Bool.or_true, wrapU, Int.reduceAdd, Int.reduceSub, Int.reduceMul, List.append_assoc, List.length_append, get_mid, get_mid0, set_mid, set_mid0, List.length_set, List.length_cons, List.length_nil, List.cons_append, List.getElem?_append_left, List.set_append_left, get_at, get_at0, set_at, set_at0, List.getElem?_set_self, List.getElem?_set_ne, cfC, a47, f47, ev_len, hlen, g0, g0', a156, hcells, a159, hw, b2', b6, hwt, shr_eq]
    have hN := ringN_le h w
    have hhb := hd_b hw64
    have eh : IntKind.u32.wrap (w / 4294967296) = hd w := by rw [wrap32]; unfold hd; unfold W64 at hw64; omega
    have et : IntKind.u32.wrap w = tl w := wrap32 w
    have esz : IntKind.u32.wrap (tl w - hd w) = sz w := wrap32 _
    have e0 : IntKind.u32.wrap c.q = c.q := by rw [wrap32]; omega
    have hsz0 : 0 ≤ sz w := by unfold sz; omega
    rw [eh, et]
    rw [ringL, if_pos h, hwd]
    clear hw g0' b2' hcells hM f47 hj hj1 hw1 b6 b4 b5
    generalize hM0 : M1 ++ _ = M0
    have hK1 : Keep M1 M0 := by rw [← hM0]; exact Keep.app _ _
    have g0 := hK1.get g0
    have b2 := hK1.get b2
    have sl := sl.keep hK1
    have hmk : Keep m M0 := hk0.trans hK1
    clear hM0 hK1 hk0
    refine W_loop (RnI m M0 c p j st.cells w (.sl q oo st.cells.length cap)) (ringN c w) (by simp only [FUEL]; omega) ⟨0, .nils, _, _, _, _, rfl, rfl, by omega, Keep.refl _, own_nil⟩ ?_
    rintro k e mm ⟨i, r, y11, y12, y13, y14, rfl, rfl, hi, hk, hown⟩
    have hone := hown.val1
    simp only [AV.one] at hone
    have gm := hk.get g0
    have bm := hk.get b2
    by_cases hle : sz w ≤ c.q
    · have hn : (ringN c w : Int) = sz w := by unfold ringN; rw [if_pos hle]; omega
      by_cases hlt : (i : Int) < sz w
      · have e1 : IntKind.u32.wrap (hd w + i) = (hd w + i) % 4294967296 := wrap32 _
        have hm0 := Int.emod_nonneg (hd w + i) (b := 4294967296) (by omega)
        have hm1 := Int.emod_lt_of_pos (hd w + i) (b := 4294967296) (by omega)
        have hs := fun M : MM => slot_eqR M h.1 p hm0 hm1
        have hsb := slot_b h hm0
        obtain ⟨x, hx2⟩ : ∃ x, st.cells[(slotA c p ((hd w + i) % 4294967296)).toNat]? = some x := ⟨_, List.getElem?_eq_getElem (by omega)⟩
        obtain ⟨q2, oo2, cap2, ro2, L2, hv, d2, d3, d4, d5, d6⟩ := SU.get (sl.keep hk) hx2
        injection hv with v1 v2 v3 v4
        subst v1; subst v2; subst v4
        rw [bm] at d2
        injection d2 with d2; injection d2 with _ d2 d2'
        subst d2; subst d2'
        have hat : ringAt c p st.cells w i = IntKind.i64.wrap x := by unfold ringAt; rw [List.getD_eq_getElem?_getD, hx2]; rfl
        obtain ⟨r', m', happ, ho', hl', hpre⟩ := own_push (hown.more [Chunk.cells 6 false (cfC c), Chunk.cells 6 false (cfC c), Chunk.cells 7 false (cfC c ++ [AV.int .i64 p]), Chunk.cells 6 false (cfC c)]) (IntKind.i64.wrap x) (by rw [ringW_len]; omega) (by have := hk.1; simp only [List.length_append]; omega)
        rw [← hat, ← ringW_succ] at ho'
        have hk' : Keep M0 m' := by
          refine ⟨by have := hk.1; simp only [List.length_append] at hl'; omega, fun a ha => ?_⟩
          have := hk.1
          rw [hpre a (by simp only [List.length_append]; omega) (.inr ha), List.getElem?_append_left (by omega)]
          exact hk.2 a ha
        have ei : IntKind.u32.wrap ((i : Int) + 1) = (i : Int) + 1 := by rw [wrap32]; omega
        have lq : q < mm.length := (List.getElem?_eq_some_iff.1 bm).1
        have lm : m.length < mm.length := (List.getElem?_eq_some_iff.1 gm).1
        simp only [cfC, List.cons_append, List.nil_append, List.append_assoc, List.length_append, List.length_cons, List.length_nil, Nat.zero_add, Nat.reduceAdd] at hs happ
        simp (disch := first | assumption | omega | (simp only [List.length_cons, List.length_nil, List.length_set, List.length_append] <;> omega) | (simp only [get_mid, get_mid0, List.cons_append, List.append_assoc, List.getElem?_cons_zero, List.getElem?_cons_succ])) only [ek, ↓evW, ↓evQ, evB, evS, evL, List.map, AV.cells, List.all, AV.one, Bool.and_true, Bool.true_and, if_true, ↓thenQ_normal, ↓thenQ_exit, ↓thenQ_ret, ↓blockQ_normal, ↓blockQ_ret, ↓blockQ_exit, ↓CW_true, ↓CW_false, CW_true, CW_false, condT, condF, RQ_some, tupA_one, tupA_two, tupA_nil, Nat.reduceSub, Nat.reduceAdd, Nat.reduceMul, Nat.zero_add, Nat.add_zero, Nat.reduceLeDiff, Nat.reduceEqDiff, eqV, eqAll, fillA, and_self, and_true, true_and, Nat.le_refl, Bool.not_true, Bool.not_false, Bool.false_xor, Bool.true_xor, cond_true, cond_false, List.replicate, if_false, reduceIte, resAll, resA, ne_eq, decide_not, decide_true, decide_false, Int.reduceEq, Bool.not_true, Bool.not_false, not_true_eq_false, not_false_eq_true, cond_bool, cond_int, beq_self_eq_true, Int.reduceBEq, Bool.and_self, Bool.and_false, Bool.false_and, Bool.xor_false, Bool.xor_true, loadN_ldC, ldC_none, ldC_somes, stC_aggs, splice, storeN_stC, stC_int, stC_bool, stC_ptr, stC_nilp, stC_sl, stC_nils, getC_gcO, gcO_cells, W_draw_eq, ↓W_scope, ev_clear, evT, evF, evX, evM, ↓exitQ_normal, ↓exitQ_ret, ↓exitQ_exit, saA_self, saO_self, if_pos, if_neg, wrapI, get_concat, set_concat, Int.toNat_natCast, Int.toNat_zero, List.nil_append, Nat.mul_one, decide_eq_true, decide_eq_false, Int.reduceLE, Int.reduceLT, Int.reduceNeg, Bool.false_or, Bool.true_or, Bool.or_false, Bool.or_true, wrapU, Int.reduceAdd, Int.reduceSub, Int.reduceMul, List.append_assoc, List.length_append, get_mid, get_mid0, set_mid, set_mid0, List.length_set, List.length_cons, List.length_nil, List.cons_append, List.getElem?_append_left, List.set_append_left, get_at, get_at0, set_at, set_at0, List.getElem?_set_self, List.getElem?_set_ne, cfC, esz, e0, gm, a160, e1, hs, ev_len, hlen, bm, d6, evA, repeatL, List.flatten_cons, List.flatten_nil, happ, hone, ei]
        exact ⟨ringN c w - (i + 1), by omega, i + 1, r', _, _, _, _, rfl, rfl, by omega, hk', ho'⟩
      · have hie : i = ringN c w := by omega
        subst hie
        simp (disch := first | assumption | omega | (simp only [List.length_cons, List.length_nil, List.length_set, List.length_append] <;> omega) | (simp only [get_mid, get_mid0, List.cons_append, List.append_assoc, List.getElem?_cons_zero, List.getElem?_cons_succ])) only [ek, ↓evW, ↓evQ, evB, evS, evL, List.map, AV.cells, List.all, AV.one, Bool.and_true, Bool.true_and, if_true, ↓thenQ_normal, ↓thenQ_exit, ↓thenQ_ret, ↓blockQ_normal, ↓blockQ_ret, ↓blockQ_exit, ↓CW_true, ↓CW_false, CW_true, CW_false, condT, condF, RQ_some, tupA_one, tupA_two, tupA_nil, Nat.reduceSub, Nat.reduceAdd, Nat.reduceMul, Nat.zero_add, Nat.add_zero, Nat.reduceLeDiff, Nat.reduceEqDiff, eqV, eqAll, fillA, and_self, and_true, true_and, Nat.le_refl, Bool.not_true, Bool.not_false, Bool.false_xor, Bool.true_xor, cond_true, cond_false, List.replicate, if_false, reduceIte, resAll, resA, ne_eq, decide_not, decide_true, decide_false, Int.reduceEq, Bool.not_true, Bool.not_false, not_true_eq_false, not_false_eq_true, cond_bool, cond_int, beq_self_eq_true, Int.reduceBEq, Bool.and_self, Bool.and_false, Bool.false_and, Bool.xor_false, Bool.xor_true, loadN_ldC, ldC_none, ldC_somes, stC_aggs, splice, storeN_stC, stC_int, stC_bool, stC_ptr, stC_nilp, stC_sl, stC_nils, getC_gcO, gcO_cells, W_draw_eq, ↓W_scope, ev_clear, evT, evF, evX, evM, ↓exitQ_normal, ↓exitQ_ret, ↓exitQ_exit, saA_self, saO_self, if_pos, if_neg, wrapI, get_concat, set_concat, Int.toNat_natCast, Int.toNat_zero, List.nil_append, Nat.mul_one, decide_eq_true, decide_eq_false, Int.reduceLE, Int.reduceLT, Int.reduceNeg, Bool.false_or, Bool.true_or, Bool.or_false, Bool.or_true, wrapU, Int.reduceAdd, Int.reduceSub, Int.reduceMul, List.append_assoc, List.length_append, get_mid, get_mid0, set_mid, set_mid0, List.length_set, List.length_cons, List.length_nil, List.cons_append, List.getElem?_append_left, List.set_append_left, get_at, get_at0, set_at, set_at0, List.getElem?_set_self, List.getElem?_set_ne, cfC, esz, e0, gm]
        exact ⟨hmk.trans hk, (Own.si hown).1, (Own.si hown).2.elim .inl (fun ⟨q, o, n, cp, h1, h2⟩ => .inr ⟨q, o, n, cp, h1, by have := hmk.1; omega⟩), hown.nx⟩
    · have hn : ringN c w = 0 := if_neg hle
      have hi0 : i = 0 := by omega
      subst hi0
      have hpos : (0 : Int) < sz w := by omega
      simp (disch := first | assumption | omega | (simp only [List.length_cons, List.length_nil, List.length_set, List.length_append] <;> omega) | (simp only [get_mid, get_mid0, List.cons_append, List.append_assoc, List.getElem?_cons_zero, List.getElem?_cons_succ])) only [ek, ↓evW, ↓evQ, evB, evS, evL, List.map, AV.cells, List.all, AV.one, Bool.and_true, Bool.true_and, if_true, ↓thenQ_normal, ↓thenQ_exit, ↓thenQ_ret, ↓blockQ_normal, ↓blockQ_ret, ↓blockQ_exit, ↓CW_true, ↓CW_false, CW_true, CW_false, condT, condF, RQ_some, tupA_one, tupA_two, tupA_nil, Nat.reduceSub, Nat.reduceAdd, Nat.reduceMul, Nat.zero_add, Nat.add_zero, Nat.reduceLeDiff, Nat.reduceEqDiff, eqV, eqAll, fillA, and_self, and_true, true_and, Nat.le_refl, Bool.not_true, Bool.not_false, Bool.false_xor, Bool.true_xor, cond_true, cond_false, List.replicate, if_false, reduceIte, resAll, resA, ne_eq, decide_not, decide_true, decide_false, Int.reduceEq, Bool.not_true, Bool.not_false, not_true_eq_false, not_false_eq_true, cond_bool, cond_int, beq_self_eq_true, Int.reduceBEq, Bool.and_self, Bool.and_false, Bool.false_and, Bool.xor_false, Bool.xor_true, loadN_ldC, ldC_none, ldC_somes, stC_aggs, splice, storeN_stC, stC_int, stC_bool, stC_ptr, stC_nilp, stC_sl, stC_nils, getC_gcO, gcO_cells, W_draw_eq, ↓W_scope, ev_clear, evT, evF, evX, evM, ↓exitQ_normal, ↓exitQ_ret, ↓exitQ_exit, saA_self, saO_self, if_pos, if_neg, wrapI, get_concat, set_concat, Int.toNat_natCast, Int.toNat_zero, List.nil_append, Nat.mul_one, decide_eq_true, decide_eq_false, Int.reduceLE, Int.reduceLT, Int.reduceNeg, Bool.false_or, Bool.true_or, Bool.or_false, Bool.or_true, wrapU, Int.reduceAdd, Int.reduceSub, Int.reduceMul, List.append_assoc, List.length_append, get_mid, get_mid0, set_mid, set_mid0, List.length_set, List.length_cons, List.length_nil, List.cons_append, List.getElem?_append_left, List.set_append_left, get_at, get_at0, set_at, set_at0, List.getElem?_set_self, List.getElem?_set_ne, cfC, esz, e0, gm, Int.ofNat_zero]
      rw [hn]
      exact ⟨hmk.trans hk, (Own.si hown).1, (Own.si hown).2.elim .inl (fun ⟨q, o, n, cp, h1, h2⟩ => .inr ⟨q, o, n, cp, h1, by have := hmk.1; omega⟩), hown.nx⟩
  · have ha0 : addrA c p 0 = -1 := if_neg h
    simp (disch := first | assumption | omega | (simp only [List.length_cons, List.length_nil, List.length_set, List.length_append] <;> omega) | (simp only [get_mid, get_mid0, List.cons_append, List.append_assoc, List.getElem?_cons_zero, List.getElem?_cons_succ])) only [docs_Ring, ek, ↓evW, ↓evQ, evB, evS, evL, List.map, AV.cells, List.all, AV.one, Bool.and_true, Bool.true_and, if_true, ↓thenQ_normal, ↓thenQ_exit, ↓thenQ_ret, ↓blockQ_normal, ↓blockQ_ret, ↓blockQ_exit, ↓CW_true, ↓CW_false, CW_true, CW_false, condT, condF, RQ_some, tupA_one, tupA_two, tupA_nil, Nat.reduceSub, Nat.reduceAdd, Nat.reduceMul, Nat.zero_add, Nat.add_zero, Nat.reduceLeDiff, Nat.reduceEqDiff, eqV, eqAll, fillA, and_self, and_true, true_and, Nat.le_refl, Bool.not_true, Bool.not_false, Bool.false_xor, Bool.true_xor, cond_true, cond_false, List.replicate, if_false, reduceIte, resAll, resA, ne_eq, decide_not, decide_true, decide_false, Int.reduceEq, Bool.not_true, Bool.not_false, not_true_eq_false, not_false_eq_true, cond_bool, cond_int, beq_self_eq_true, Int.reduceBEq, Bool.and_self, Bool.and_false, Bool.false_and, Bool.xor_false, Bool.xor_true, loadN_ldC, ldC_none, ldC_somes, stC_aggs, splice, storeN_stC, stC_int, stC_bool, stC_ptr, stC_nilp, stC_sl, stC_nils, getC_gcO, gcO_cells, W_draw_eq, ↓W_scope, ev_clear, evT, evF, evX, evM, ↓exitQ_normal, ↓exitQ_ret, ↓exitQ_exit, saA_self, saO_self, if_pos, if_neg, wrapI, get_concat, set_concat, Int.toNat_natCast, Int.toNat_zero, List.nil_append, Nat.mul_one, decide_eq_true, decide_eq_false, Int.reduceLE, Int.reduceLT, Int.reduceNeg, Bool.false_or, Bool.true_or, Bool.or_false, Bool.or_true, wrapU, Int.reduceAdd, Int.reduceSub, Int.reduceMul, List.append_assoc, List.length_append, get_mid, get_mid0, set_mid, set_mid0, List.length_set, List.length_cons, List.length_nil, List.cons_append, List.getElem?_append_left, List.set_append_left, get_at, get_at0, set_at, set_at0, List.getElem?_set_self, List.getElem?_set_ne, cfC, a47, f47, ev_len, hlen, g0, g0', a156, hcells, a159, hw, ha0]
    rw [ringL, if_neg h]
    exact ⟨hk0.trans (Keep.app _ _), Sl.nil, .inl rfl, .inl rfl⟩
end Go.Am.F10
end
section
namespace Go.Am.F10
open Go.Am.F06
def stC (c : Cf) (p : Int) : Cf := if thereP c p then c else zeroC
def stP (c : Cf) (p : Int) : Int := if thereP c p then p else 0
def stS (c : Cf) (p : Int) : GS := if thereP c p then ⟨1, 0, 0, false, 0⟩ else ⟨0, 0, 0, false, 0⟩
theorem start_is (c : Cf) (p : Int) : newG c p = gC (stC c p) (stP c p) (stS c p) ∧ rnewC c p = rC (stC c p) (stP c p) (stS c p) ∧ GOk (stC c p) (stP c p) (stS c p) ∧ ((stS c p).a = 0 ∨ stC c p = c) := by
  by_cases h : thereP c p
  · have hb := there_bounds h
    have ha := addr_b h (i := 0) (by omega) (by omega)
    simp only [stC, stP, stS, if_pos h]
    refine ⟨?_, ?_, ⟨by unfold W64; simp, .inr ⟨h, .inl rfl⟩, fun h => by cases h⟩, .inr trivial⟩
    · unfold newG; rw [if_neg (by omega)]; rfl
    · unfold rnewC; rw [if_pos h]; rfl
  · simp only [stC, stP, stS, if_neg h]
    refine ⟨?_, ?_, ⟨by unfold W64; simp, .inl rfl, fun h => by cases h⟩, .inl trivial⟩
    · unfold newG addrA; rw [if_neg h, if_pos (by decide)]; rfl
    · unfold rnewC; rw [if_neg h]; rfl
abbrev GT := GS × List Int × Int
def nextT (c : Cf) (p : Int) (t : GT) : GT := ((stepG c p t.2.1 t.1).1, (stepG c p t.2.1 t.1).2, opsG t.1 t.2.2)
inductive Ends (c : Cf) (p : Int) : GT → Nat → GT → Prop
  | done {t : GT} (h : t.1.a = 0) : Ends c p t 0 t
  | step {t f : GT} {k : Nat} (h : t.1.a ≠ 0) (hn : Ends c p (nextT c p t) k f) : Ends c p t (k + 1) f
def dW (w : Int) (i : Nat) : Int := pk ((hd w + i) % 4294967296) (tl w)
def dX (c : Cf) (p : Int) (xs : List Int) (i : Nat) : List Int := if i = 0 then xs else xs.set (wrdN c p) (dW (xs.getD (wrdN c p) 0) i)
theorem hd_pk {h t : Int} (h0 : 0 ≤ t) (h1 : t < 4294967296) : hd (pk h t) = h := by unfold hd pk; omega
theorem tl_pk {h t : Int} (h0 : 0 ≤ t) (h1 : t < 4294967296) : tl (pk h t) = t := by unfold tl pk; omega
theorem hd_dW (w : Int) (i : Nat) : hd (dW w i) = (hd w + i) % 4294967296 := hd_pk (tl_b w).1 (tl_b w).2
theorem tl_dW (w : Int) (i : Nat) : tl (dW w i) = tl w := tl_pk (tl_b w).1 (tl_b w).2
theorem dW_zero {w : Int} (h : W64 w) : dW w 0 = w := by
  have := hd_b h
  unfold dW; rw [show (hd w + ((0 : Nat) : Int)) % 4294967296 = hd w by omega]
  unfold pk hd tl; omega
theorem dW_gain (w : Int) (i : Nat) : gainW (dW w i) = dW w (i + 1) := by
  unfold gainW; rw [hd_dW, tl_dW]; unfold dW
  congr 1; omega
theorem dW_sz {w : Int} {i : Nat} (h : (i : Int) ≤ sz w) : sz (dW w i) = sz w - i := by
  unfold sz; rw [hd_dW, tl_dW]; unfold sz at h; omega
theorem dW_64 (w : Int) (i : Nat) : W64 (dW w i) := by
  have := tl_b w
  unfold dW pk W64; omega
theorem dX_ok {c d : Cf} {p : Int} {xs : List Int} (h : OkL d xs) (i : Nat) : OkL d (dX c p xs i) := by
  unfold dX; split
  · exact h
  · exact h.set _ (dW_64 _ _)
theorem dX_word {c : Cf} {p : Int} {xs : List Int} (hx : OkL c xs) (h : thereP c p) (i : Nat) : (dX c p xs i).getD (wrdN c p) 0 = dW (xs.getD (wrdN c p) 0) i := by
  have hb := there_bounds h
  have ha := addr_b h (i := 0) (by omega) (by omega)
  have hl := hx.1
  unfold dX; split
  · rename_i h0; subst h0
    exact (dW_zero (getD_64 hx.2 _)).symm
  · rw [List.getD_eq_getElem?_getD, List.getElem?_set_self (by unfold wrdN; omega)]; rfl
theorem dX_slot {c : Cf} {p : Int} {xs : List Int} (h : thereP c p) (i : Nat) {k : Int} (hk : 0 ≤ k) : (dX c p xs i).getD (slotA c p k).toNat 0 = xs.getD (slotA c p k).toNat 0 := by
  have hb := there_bounds h
  have h0 := Int.emod_nonneg k (b := c.q) (by omega)
  have hm := mul_bounds hb.2.2.2.2.1 hb.2.2.2.2.2 (q := 6 + c.q) (by omega) (by omega)
  unfold dX; split
  · rfl
  · rw [List.getD_eq_getElem?_getD, List.getElem?_set_ne, ← List.getD_eq_getElem?_getD]
    unfold wrdN slotA; rw [if_pos h.1]; unfold addrA; rw [if_pos h, if_pos h]; omega
theorem dX_next {c : Cf} {p : Int} {xs : List Int} (i : Nat) : (dX c p xs i).set (wrdN c p) (dW (xs.getD (wrdN c p) 0) (i + 1)) = dX c p xs (i + 1) := by
  rw [dX, dX, if_neg (Nat.succ_ne_zero i)]
  split
  · rfl
  · rw [List.set_set]
end Go.Am.F10
end
