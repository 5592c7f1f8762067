import Derived.Test.YtimgbjimonmkdaaXG18
set_option linter.unusedSimpArgs false
set_option linter.unusedVariables false
section
namespace Go.Am.F10
open Go.Am.F06
theorem memF_app {step : MemSt → List AV → Option (AV × MemSt)} {M : MM} {j : Nat} {s s' : MemSt} {rest : List AV} {v : AV} (h : memF step (.ptr j 0 :: rest) M = some (v, M.set j (.abs (.mem s')))) (hs : M[j]? = some (.abs (.mem s))) (hst : step s rest = some (v, s')) (K : MM) : memF step (.ptr j 0 :: rest) (M ++ K) = some (v, M.set j (.abs (.mem s')) ++ K) := by
  have lj : j < M.length := (List.getElem?_eq_some_iff.1 hs).1
  simp only [memF]
  rw [List.getElem?_append_left lj, hs]
  simp only [hst, List.set_append_left _ _ lj]
theorem RelM.loadE {xs : List Int} {o : Int} {s : MemSt} (h : RelM xs o s) {a : Int} (ha : thr xs a) :
    ∃ s', RelM xs (IntKind.u64.wrap (o + 1)) s' ∧ loadS s [.int .i64 a] = some (.int .u64 (xs.getD a.toNat 0), s') ∧ (∀ (M K : MM) (j : Nat), M[j]? = some (.abs (.mem s)) → memF loadS [.ptr j 0, .int .i64 a] (M ++ K) = some (.int .u64 (xs.getD a.toNat 0), M.set j (.abs (.mem s')) ++ K)) ∧ ∀ (M : MM) (j : Nat), M[j]? = some (.abs (.mem s)) → memF loadS [.ptr j 0, .int .i64 a] M = some (.int .u64 (xs.getD a.toNat 0), M.set j (.abs (.mem s'))) := by
  obtain ⟨k, rfl⟩ : ∃ k : Nat, a = k := ⟨a.toNat, by have := ha.1; omega⟩
  have ha' : k < xs.length := by have := ha.2; omega
  obtain ⟨s', h1, h2⟩ := h.acc ha' 1 (fun w => (w, true))
  rw [getD_set ha'] at h2
  have hs : loadS s [.int .i64 k] = some (.int .u64 (xs.getD k 0), s') := by simp only [loadS, h1, Option.map_some]
  exact ⟨s', h2, hs, fun M K j hM => memF_app (memF_of hM hs) hM hs K, fun M j hM => memF_of hM hs⟩
theorem RelM.storeE {xs : List Int} {o : Int} {s : MemSt} (h : RelM xs o s) {a : Int} (ha : thr xs a) (x : Int) :
    ∃ s', RelM (xs.set a.toNat x) (IntKind.u64.wrap (o + 1)) s' ∧ storeS s [.int .i64 a, .int .u64 x] = some (.tup [], s') ∧ (∀ (M K : MM) (j : Nat), M[j]? = some (.abs (.mem s)) → memF storeS [.ptr j 0, .int .i64 a, .int .u64 x] (M ++ K) = some (.tup [], M.set j (.abs (.mem s')) ++ K)) ∧ ∀ (M : MM) (j : Nat), M[j]? = some (.abs (.mem s)) → memF storeS [.ptr j 0, .int .i64 a, .int .u64 x] M = some (.tup [], M.set j (.abs (.mem s'))) := by
  obtain ⟨k, rfl⟩ : ∃ k : Nat, a = k := ⟨a.toNat, by have := ha.1; omega⟩
  have ha' : k < xs.length := by have := ha.2; omega
  obtain ⟨s', h1, h2⟩ := h.acc ha' 2 (fun w => (x, true))
  have hs : storeS s [.int .i64 k, .int .u64 x] = some (.tup [], s') := by simp only [storeS, h1, Option.map_some]
  exact ⟨s', h2, hs, fun M K j hM => memF_app (memF_of hM hs) hM hs K, fun M j hM => memF_of hM hs⟩
theorem RelM.casE {xs : List Int} {o : Int} {s : MemSt} (h : RelM xs o s) {a : Int} (ha : thr xs a) (x y : Int) :
    ∃ s', RelM (if xs.getD a.toNat 0 = x then xs.set a.toNat y else xs) (IntKind.u64.wrap (o + 1)) s' ∧ casS s [.int .i64 a, .int .u64 x, .int .u64 y] = some (.bool (decide (xs.getD a.toNat 0 = x)), s') ∧ (∀ (M K : MM) (j : Nat), M[j]? = some (.abs (.mem s)) → memF casS [.ptr j 0, .int .i64 a, .int .u64 x, .int .u64 y] (M ++ K) = some (.bool (decide (xs.getD a.toNat 0 = x)), M.set j (.abs (.mem s')) ++ K)) ∧ ∀ (M : MM) (j : Nat), M[j]? = some (.abs (.mem s)) → memF casS [.ptr j 0, .int .i64 a, .int .u64 x, .int .u64 y] M = some (.bool (decide (xs.getD a.toNat 0 = x)), M.set j (.abs (.mem s'))) := by
  obtain ⟨k, rfl⟩ : ∃ k : Nat, a = k := ⟨a.toNat, by have := ha.1; omega⟩
  have ha' : k < xs.length := by have := ha.2; omega
  obtain ⟨s', h1, h2⟩ := h.acc ha' 3 (fun w => if w = x then (y, true) else (w, false))
  have hs : casS s [.int .i64 k, .int .u64 x, .int .u64 y] = some (.bool (decide (xs.getD k 0 = x)), s') := by
    simp only [casS, h1, Option.map_some]
    by_cases hx : xs.getD k 0 = x
    · simp only [if_pos hx, decide_eq_true hx]
    · simp only [if_neg hx, decide_eq_false hx]
  refine ⟨s', ?_, hs, fun M K j hM => memF_app (memF_of hM hs) hM hs K, fun M j hM => memF_of hM hs⟩
  rw [Int.toNat_natCast]
  by_cases hx : xs.getD k 0 = x
  · simp only [if_pos hx] at h2 ⊢; exact h2
  · simp only [if_neg hx, getD_set ha'] at h2 ⊢; exact h2
def Glook : List (Nat × AFun Ob) := [(159, c_conf_Config_Word), (24, memF loadS), (178, c_word_Len)]
def Gcopy : List (Nat × AFun Ob) := [(179, c_word_Head), (160, c_conf_Config_Slot), (24, memF loadS)]
def Ggain : List (Nat × AFun Ob) := [(159, c_conf_Config_Word), (180, c_word_Gain), (23, memF casS)]
def GsQ (m : MM) (c : Cf) (p : Int) (j i : Nat) (x : GS × List Int) (o a0 : Int) (r : AV) (m' : MM) : Prop := KeepX j i m m' ∧ r = .int .i64 x.1.a ∧ m'[j]? = some (.cells 12 false (gC c p { x.1 with a := a0 })) ∧ ∃ st', m'[i]? = some (.abs (.mem st')) ∧ RelM x.2 o st'
theorem GsQ.of {m : MM} {c : Cf} {p : Int} {j i : Nat} {x : GS × List Int} {o a0 : Int} {st' : MemSt} {r : AV} {C : List AV} (hij : j ≠ i) (li : i < m.length) (lj : j < m.length) (hr : RelM x.2 o st') (hC : C = gC c p { x.1 with a := a0 }) (hv : r = .int .i64 x.1.a) (K : MM) :
    GsQ m c p j i x o a0 r ((m.set i (.abs (.mem st'))).set j (.cells 12 false C) ++ K) := by
  subst hC
  refine ⟨(((KeepX.refl m).setR _).setL _).app K, hv, ?_, st', ?_, hr⟩
  · rw [List.getElem?_append_left (by simpa using lj), List.getElem?_set_self (by simpa using lj)]
  · rw [List.getElem?_append_left (by simpa using li), List.getElem?_set_ne hij, List.getElem?_set_self li]
set_option maxHeartbeats 8000000 in
theorem look_run {m : MM} {c : Cf} {p o : Int} {s : GS} {xs : List Int} {j i : Nat} {st : MemSt} (hj : m[j]? = some (.cells 12 false (gC c p s))) (hi : m[i]? = some (.abs (.mem st))) (hr : RelM xs o st) (hok : GOk c p s) (hx : OkL c xs) (ha : s.a = 1) :
    Fn Glook get_Get_look [.ptr j 0, .ptr i 0] m (GsQ m c p j i (stepG c p xs s) (opsG s o) 1) := by
  have a159 : assoc Glook 159 = some c_conf_Config_Word := rfl
  have a24 : assoc Glook 24 = some (memF loadS) := rfl
  have a178 : assoc Glook 178 = some c_word_Len := rfl
  generalize Glook = G at a159 a24 a178 ⊢
  have hij : j ≠ i := fun h => by rw [h, hi] at hj; cases hj
  have lj : j < m.length := (List.getElem?_eq_some_iff.1 hj).1
  have li : i < m.length := (List.getElem?_eq_some_iff.1 hi).1
  obtain ⟨a, w, seen, has, tries⟩ := s
  simp only at ha
  subst ha
  obtain ⟨hw, hok1, hok2⟩ := hok
  simp only at hw hok1 hok2
  have hth : thereP c p := by rcases hok1 with h | h
                              · omega
                              · exact h.1
  have hn : has = false := by cases has with | false => rfl | true => exact absurd (hok2 rfl) (by omega)
  subst hn
  have hb := there_bounds hth
  have hxl := hx.1
  have hcn := cellsN_le c
  have ha0 := addr_b hth (i := 0) (by omega) (by omega)
  have hthr : thr xs (addrA c p 0) := ⟨by omega, by omega⟩
  have hwt : (addrA c p 0).toNat = wrdN c p := rfl
  have hg := getD_64 hx.2 (wrdN c p)
  obtain ⟨st', r', _, f24, _⟩ := hr.loadE hthr
  rw [hwt] at f24
  generalize he : stepG c p xs ⟨1, w, seen, false, tries⟩ = sx
  have ho : opsG ⟨1, w, seen, false, tries⟩ o = IntKind.u64.wrap (o + 1) := rfl
  rw [ho]
  simp only [stepG] at he
  generalize xs.getD (wrdN c p) 0 = w' at hg f24 he
  rw [if_pos trivial] at he
  have hwr := fun m : MM => word_run (m := m) c p
  have hz := fun m : MM => len_eq m hg
  have e0 : IntKind.u32.wrap c.q = c.q := by rw [wrap32]; omega
  simp only [cfC, List.cons_append, List.nil_append] at hwr
  simp only [gC, getC, cfC, List.cons_append, List.nil_append] at hj
  refine Fn_of rfl ?_
  simp (disch := first | assumption | omega | (simp only [List.length_cons, List.length_nil, List.length_set, List.length_append] <;> omega) | (simp only [get_mid, get_mid0, List.cons_append, List.append_assoc, List.getElem?_cons_zero, List.getElem?_cons_succ])) only [get_Get_look, ek, ↓evW, ↓evQ, evB, evS, evL, List.map, AV.cells, List.all, AV.one, Bool.and_true, Bool.true_and, if_true, ↓thenQ_normal, ↓thenQ_exit, ↓thenQ_ret, ↓blockQ_normal, ↓blockQ_ret, ↓blockQ_exit, ↓CW_true, ↓CW_false, CW_true, CW_false, condT, condF, RQ_some, tupA_one, tupA_two, tupA_nil, Nat.reduceSub, Nat.reduceAdd, Nat.reduceMul, Nat.zero_add, Nat.add_zero, Nat.reduceLeDiff, Nat.reduceEqDiff, eqV, eqAll, fillA, and_self, and_true, true_and, Nat.le_refl, Bool.not_true, Bool.not_false, Bool.false_xor, Bool.true_xor, cond_true, cond_false, List.replicate, if_false, reduceIte, resAll, resA, ne_eq, decide_not, decide_true, decide_false, Int.reduceEq, Bool.not_true, Bool.not_false, not_true_eq_false, not_false_eq_true, cond_bool, cond_int, beq_self_eq_true, Int.reduceBEq, Bool.and_self, Bool.and_false, Bool.false_and, Bool.xor_false, Bool.xor_true, loadN_ldC, ldC_none, ldC_somes, stC_aggs, splice, storeN_stC, stC_int, stC_bool, stC_ptr, stC_nilp, stC_sl, stC_nils, getC_gcO, gcO_cells, W_draw_eq, ↓W_scope, ev_clear, evT, evF, evX, evM, ↓exitQ_normal, ↓exitQ_ret, ↓exitQ_exit, saA_self, saO_self, if_pos, if_neg, wrapI, get_concat, set_concat, Int.toNat_natCast, Int.toNat_zero, List.nil_append, Nat.mul_one, decide_eq_true, decide_eq_false, Int.reduceLE, Int.reduceLT, Int.reduceNeg, Bool.false_or, Bool.true_or, Bool.or_false, Bool.or_true, wrapU, Int.reduceAdd, Int.reduceSub, Int.reduceMul, List.append_assoc, List.length_append, get_mid, get_mid0, set_mid, set_mid0, List.length_set, List.length_cons, List.length_nil, List.cons_append, List.getElem?_append_left, List.set_append_left, get_at, get_at0, set_at, set_at0, List.getElem?_set_self, List.getElem?_set_ne, hj, hi, a159, hwr, a24, f24, a178, hz, e0, cfC]
  by_cases h0 : sz w' = 0
  · have hb : (sz w' = 0 ∨ c.q < sz w') := .inl h0
    rw [if_pos hb] at he
    subst he
    simp (disch := first | assumption | omega | (simp only [List.length_cons, List.length_nil, List.length_set, List.length_append] <;> omega) | (simp only [get_mid, get_mid0, List.cons_append, List.append_assoc, List.getElem?_cons_zero, List.getElem?_cons_succ])) only [ek, ↓evW, ↓evQ, evB, evS, evL, List.map, AV.cells, List.all, AV.one, Bool.and_true, Bool.true_and, if_true, ↓thenQ_normal, ↓thenQ_exit, ↓thenQ_ret, ↓blockQ_normal, ↓blockQ_ret, ↓blockQ_exit, ↓CW_true, ↓CW_false, CW_true, CW_false, condT, condF, RQ_some, tupA_one, tupA_two, tupA_nil, Nat.reduceSub, Nat.reduceAdd, Nat.reduceMul, Nat.zero_add, Nat.add_zero, Nat.reduceLeDiff, Nat.reduceEqDiff, eqV, eqAll, fillA, and_self, and_true, true_and, Nat.le_refl, Bool.not_true, Bool.not_false, Bool.false_xor, Bool.true_xor, cond_true, cond_false, List.replicate, if_false, reduceIte, resAll, resA, ne_eq, decide_not, decide_true, decide_false, Int.reduceEq, Bool.not_true, Bool.not_false, not_true_eq_false, not_false_eq_true, cond_bool, cond_int, beq_self_eq_true, Int.reduceBEq, Bool.and_self, Bool.and_false, Bool.false_and, Bool.xor_false, Bool.xor_true, loadN_ldC, ldC_none, ldC_somes, stC_aggs, splice, storeN_stC, stC_int, stC_bool, stC_ptr, stC_nilp, stC_sl, stC_nils, getC_gcO, gcO_cells, W_draw_eq, ↓W_scope, ev_clear, evT, evF, evX, evM, ↓exitQ_normal, ↓exitQ_ret, ↓exitQ_exit, saA_self, saO_self, if_pos, if_neg, wrapI, get_concat, set_concat, Int.toNat_natCast, Int.toNat_zero, List.nil_append, Nat.mul_one, decide_eq_true, decide_eq_false, Int.reduceLE, Int.reduceLT, Int.reduceNeg, Bool.false_or, Bool.true_or, Bool.or_false, Bool.or_true, wrapU, Int.reduceAdd, Int.reduceSub, Int.reduceMul, List.append_assoc, List.length_append, get_mid, get_mid0, set_mid, set_mid0, List.length_set, List.length_cons, List.length_nil, List.cons_append, List.getElem?_append_left, List.set_append_left, get_at, get_at0, set_at, set_at0, List.getElem?_set_self, List.getElem?_set_ne, h0]
    exact GsQ.of hij li lj r' rfl rfl _
  · by_cases h1 : c.q < sz w'
    · have hb : (sz w' = 0 ∨ c.q < sz w') := .inr h1
      rw [if_pos hb] at he
      subst he
      simp (disch := first | assumption | omega | (simp only [List.length_cons, List.length_nil, List.length_set, List.length_append] <;> omega) | (simp only [get_mid, get_mid0, List.cons_append, List.append_assoc, List.getElem?_cons_zero, List.getElem?_cons_succ])) only [ek, ↓evW, ↓evQ, evB, evS, evL, List.map, AV.cells, List.all, AV.one, Bool.and_true, Bool.true_and, if_true, ↓thenQ_normal, ↓thenQ_exit, ↓thenQ_ret, ↓blockQ_normal, ↓blockQ_ret, ↓blockQ_exit, ↓CW_true, ↓CW_false, CW_true, CW_false, condT, condF, RQ_some, tupA_one, tupA_two, tupA_nil, Nat.reduceSub, Nat.reduceAdd, Nat.reduceMul, Nat.zero_add, Nat.add_zero, Nat.reduceLeDiff, Nat.reduceEqDiff, eqV, eqAll, fillA, and_self, and_true, true_and, Nat.le_refl, Bool.not_true, Bool.not_false, Bool.false_xor, Bool.true_xor, cond_true, cond_false, List.replicate, if_false, reduceIte, resAll, resA, ne_eq, decide_not, decide_true, decide_false, Int.reduceEq, Bool.not_true, Bool.not_false, not_true_eq_false, not_false_eq_true, cond_bool, cond_int, beq_self_eq_true, Int.reduceBEq, Bool.and_self, Bool.and_false, Bool.false_and, Bool.xor_false, Bool.xor_true, loadN_ldC, ldC_none, ldC_somes, stC_aggs, splice, storeN_stC, stC_int, stC_bool, stC_ptr, stC_nilp, stC_sl, stC_nils, getC_gcO, gcO_cells, W_draw_eq, ↓W_scope, ev_clear, evT, evF, evX, evM, ↓exitQ_normal, ↓exitQ_ret, ↓exitQ_exit, saA_self, saO_self, if_pos, if_neg, wrapI, get_concat, set_concat, Int.toNat_natCast, Int.toNat_zero, List.nil_append, Nat.mul_one, decide_eq_true, decide_eq_false, Int.reduceLE, Int.reduceLT, Int.reduceNeg, Bool.false_or, Bool.true_or, Bool.or_false, Bool.or_true, wrapU, Int.reduceAdd, Int.reduceSub, Int.reduceMul, List.append_assoc, List.length_append, get_mid, get_mid0, set_mid, set_mid0, List.length_set, List.length_cons, List.length_nil, List.cons_append, List.getElem?_append_left, List.set_append_left, get_at, get_at0, set_at, set_at0, List.getElem?_set_self, List.getElem?_set_ne, h0, h1, e0]
      exact GsQ.of hij li lj r' rfl rfl _
    · have hb : ¬ (sz w' = 0 ∨ c.q < sz w') := fun h => h.elim h0 h1
      rw [if_neg hb] at he
      subst he
      simp (disch := first | assumption | omega | (simp only [List.length_cons, List.length_nil, List.length_set, List.length_append] <;> omega) | (simp only [get_mid, get_mid0, List.cons_append, List.append_assoc, List.getElem?_cons_zero, List.getElem?_cons_succ])) only [ek, ↓evW, ↓evQ, evB, evS, evL, List.map, AV.cells, List.all, AV.one, Bool.and_true, Bool.true_and, if_true, ↓thenQ_normal, ↓thenQ_exit, ↓thenQ_ret, ↓blockQ_normal, ↓blockQ_ret, ↓blockQ_exit, ↓CW_true, ↓CW_false, CW_true, CW_false, condT, condF, RQ_some, tupA_one, tupA_two, tupA_nil, Nat.reduceSub, Nat.reduceAdd, Nat.reduceMul, Nat.zero_add, Nat.add_zero, Nat.reduceLeDiff, Nat.reduceEqDiff, eqV, eqAll, fillA, and_self, and_true, true_and, Nat.le_refl, Bool.not_true, Bool.not_false, Bool.false_xor, Bool.true_xor, cond_true, cond_false, List.replicate, if_false, reduceIte, resAll, resA, ne_eq, decide_not, decide_true, decide_false, Int.reduceEq, Bool.not_true, Bool.not_false, not_true_eq_false, not_false_eq_true, cond_bool, cond_int, beq_self_eq_true, Int.reduceBEq, Bool.and_self, Bool.and_false, Bool.false_and, Bool.xor_false, Bool.xor_true, loadN_ldC, ldC_none, ldC_somes, stC_aggs, splice, storeN_stC, stC_int, stC_bool, stC_ptr, stC_nilp, stC_sl, stC_nils, getC_gcO, gcO_cells, W_draw_eq, ↓W_scope, ev_clear, evT, evF, evX, evM, ↓exitQ_normal, ↓exitQ_ret, ↓exitQ_exit, saA_self, saO_self, if_pos, if_neg, wrapI, get_concat, set_concat, Int.toNat_natCast, Int.toNat_zero, List.nil_append, Nat.mul_one, decide_eq_true, decide_eq_false, Int.reduceLE, Int.reduceLT, Int.reduceNeg, Bool.false_or, Bool.true_or, Bool.or_false, Bool.or_true, wrapU, Int.reduceAdd, Int.reduceSub, Int.reduceMul, List.append_assoc, List.length_append, get_mid, get_mid0, set_mid, set_mid0, List.length_set, List.length_cons, List.length_nil, List.cons_append, List.getElem?_append_left, List.set_append_left, get_at, get_at0, set_at, set_at0, List.getElem?_set_self, List.getElem?_set_ne, h0, h1, e0]
      exact GsQ.of hij li lj r' rfl rfl _
set_option maxHeartbeats 8000000 in
theorem copy_run {m : MM} {c : Cf} {p o : Int} {s : GS} {xs : List Int} {j i : Nat} {st : MemSt} (hj : m[j]? = some (.cells 12 false (gC c p s))) (hi : m[i]? = some (.abs (.mem st))) (hr : RelM xs o st) (hok : GOk c p s) (hx : OkL c xs) (ha : s.a = 2) :
    Fn Gcopy get_Get_copy [.ptr j 0, .ptr i 0] m (GsQ m c p j i (stepG c p xs s) (opsG s o) 2) := by
  have a179 : assoc Gcopy 179 = some c_word_Head := rfl
  have a24 : assoc Gcopy 24 = some (memF loadS) := rfl
  have a160 : assoc Gcopy 160 = some c_conf_Config_Slot := rfl
  generalize Gcopy = G at a179 a24 a160 ⊢
  have hij : j ≠ i := fun h => by rw [h, hi] at hj; cases hj
  have lj : j < m.length := (List.getElem?_eq_some_iff.1 hj).1
  have li : i < m.length := (List.getElem?_eq_some_iff.1 hi).1
  obtain ⟨a, w, seen, has, tries⟩ := s
  simp only at ha
  subst ha
  obtain ⟨hw, hok1, hok2⟩ := hok
  simp only at hw hok1 hok2
  have hth : thereP c p := by rcases hok1 with h | h
                              · omega
                              · exact h.1
  have hn : has = false := by cases has with | false => rfl | true => exact absurd (hok2 rfl) (by omega)
  subst hn
  have hb := there_bounds hth
  have hxl := hx.1
  have hcn := cellsN_le c
  have hhb := hd_b hw
  have hsb := slot_b hth hhb.1
  have hthr : thr xs (slotA c p (hd w)) := ⟨by omega, by omega⟩
  have hwt : (slotA c p (hd w)).toNat = sltN c p w := rfl
  obtain ⟨st', r', _, f24, _⟩ := hr.loadE hthr
  rw [hwt] at f24
  generalize he : stepG c p xs ⟨2, w, seen, false, tries⟩ = sx
  have ho : opsG ⟨2, w, seen, false, tries⟩ o = IntKind.u64.wrap (o + 1) := rfl
  rw [ho]
  simp only [stepG] at he
  generalize xs.getD (sltN c p w) 0 = w' at f24 he
  rw [if_neg (by decide), if_pos trivial] at he
  subst he
  have hh := fun m : MM => head_eq m hw
  have hsl := fun m : MM => slot_eqR m hth.1 p hhb.1 hhb.2
  simp only [cfC, List.cons_append, List.nil_append] at hsl
  simp only [gC, getC, cfC, List.cons_append, List.nil_append] at hj
  refine Fn_of rfl ?_
  simp (disch := first | assumption | omega | (simp only [List.length_cons, List.length_nil, List.length_set, List.length_append] <;> omega) | (simp only [get_mid, get_mid0, List.cons_append, List.append_assoc, List.getElem?_cons_zero, List.getElem?_cons_succ])) only [get_Get_copy, ek, ↓evW, ↓evQ, evB, evS, evL, List.map, AV.cells, List.all, AV.one, Bool.and_true, Bool.true_and, if_true, ↓thenQ_normal, ↓thenQ_exit, ↓thenQ_ret, ↓blockQ_normal, ↓blockQ_ret, ↓blockQ_exit, ↓CW_true, ↓CW_false, CW_true, CW_false, condT, condF, RQ_some, tupA_one, tupA_two, tupA_nil, Nat.reduceSub, Nat.reduceAdd, Nat.reduceMul, Nat.zero_add, Nat.add_zero, Nat.reduceLeDiff, Nat.reduceEqDiff, eqV, eqAll, fillA, and_self, and_true, true_and, Nat.le_refl, Bool.not_true, Bool.not_false, Bool.false_xor, Bool.true_xor, cond_true, cond_false, List.replicate, if_false, reduceIte, resAll, resA, ne_eq, decide_not, decide_true, decide_false, Int.reduceEq, Bool.not_true, Bool.not_false, not_true_eq_false, not_false_eq_true, cond_bool, cond_int, beq_self_eq_true, Int.reduceBEq, Bool.and_self, Bool.and_false, Bool.false_and, Bool.xor_false, Bool.xor_true, loadN_ldC, ldC_none, ldC_somes, stC_aggs, splice, storeN_stC, stC_int, stC_bool, stC_ptr, stC_nilp, stC_sl, stC_nils, getC_gcO, gcO_cells, W_draw_eq, ↓W_scope, ev_clear, evT, evF, evX, evM, ↓exitQ_normal, ↓exitQ_ret, ↓exitQ_exit, saA_self, saO_self, if_pos, if_neg, wrapI, get_concat, set_concat, Int.toNat_natCast, Int.toNat_zero, List.nil_append, Nat.mul_one, decide_eq_true, decide_eq_false, Int.reduceLE, Int.reduceLT, Int.reduceNeg, Bool.false_or, Bool.true_or, Bool.or_false, Bool.or_true, wrapU, Int.reduceAdd, Int.reduceSub, Int.reduceMul, List.append_assoc, List.length_append, get_mid, get_mid0, set_mid, set_mid0, List.length_set, List.length_cons, List.length_nil, List.cons_append, List.getElem?_append_left, List.set_append_left, get_at, get_at0, set_at, set_at0, List.getElem?_set_self, List.getElem?_set_ne, hj, hi, a160, hsl, a24, f24, a179, hh, cfC]
  exact GsQ.of hij li lj r' rfl rfl _
set_option maxHeartbeats 8000000 in
theorem gain_run {m : MM} {c : Cf} {p o : Int} {s : GS} {xs : List Int} {j i : Nat} {st : MemSt} (hj : m[j]? = some (.cells 12 false (gC c p s))) (hi : m[i]? = some (.abs (.mem st))) (hr : RelM xs o st) (hok : GOk c p s) (hx : OkL c xs) (ha : s.a = 3) :
    Fn Ggain get_Get_gain [.ptr j 0, .ptr i 0] m (GsQ m c p j i (stepG c p xs s) (opsG s o) 3) := by
  have a159 : assoc Ggain 159 = some c_conf_Config_Word := rfl
  have a23 : assoc Ggain 23 = some (memF casS) := rfl
  have a180 : assoc Ggain 180 = some c_word_Gain := rfl
  generalize Ggain = G at a159 a23 a180 ⊢
  have hij : j ≠ i := fun h => by rw [h, hi] at hj; cases hj
  have lj : j < m.length := (List.getElem?_eq_some_iff.1 hj).1
  have li : i < m.length := (List.getElem?_eq_some_iff.1 hi).1
  obtain ⟨a, w, seen, has, tries⟩ := s
  simp only at ha
  subst ha
  obtain ⟨hw, hok1, hok2⟩ := hok
  simp only at hw hok1 hok2
  have hth : thereP c p := by rcases hok1 with h | h
                              · omega
                              · exact h.1
  have hn : has = false := by cases has with | false => rfl | true => exact absurd (hok2 rfl) (by omega)
  subst hn
  have hb := there_bounds hth
  have hxl := hx.1
  have hcn := cellsN_le c
  have ha0 := addr_b hth (i := 0) (by omega) (by omega)
  have hthr : thr xs (addrA c p 0) := ⟨by omega, by omega⟩
  have hwt : (addrA c p 0).toNat = wrdN c p := rfl
  obtain ⟨st', r', _, f23, _⟩ := hr.casE hthr w (gainW w)
  rw [hwt] at f23 r'
  generalize he : stepG c p xs ⟨3, w, seen, false, tries⟩ = sx
  have ho : opsG ⟨3, w, seen, false, tries⟩ o = IntKind.u64.wrap (o + 1) := rfl
  rw [ho]
  simp only [stepG] at he
  rw [if_neg (by decide), if_neg (by decide), if_pos trivial] at he
  have hwr := fun m : MM => word_run (m := m) c p
  have hgn := fun m : MM => gain_eq m hw
  simp only [cfC, List.cons_append, List.nil_append] at hwr
  simp only [gC, getC, cfC, List.cons_append, List.nil_append] at hj
  refine Fn_of rfl ?_
  by_cases heq : xs.getD (wrdN c p) 0 = w
  · rw [if_pos heq] at he r'
    subst he
    have hd : decide (xs.getD (wrdN c p) 0 = w) = true := decide_eq_true heq
    simp only [hd] at f23
    simp (disch := first | assumption | omega | (simp only [List.length_cons, List.length_nil, List.length_set, List.length_append] <;> omega) | (simp only [get_mid, get_mid0, List.cons_append, List.append_assoc, List.getElem?_cons_zero, List.getElem?_cons_succ])) only [get_Get_gain, ek, ↓evW, ↓evQ, evB, evS, evL, List.map, AV.cells, List.all, AV.one, Bool.and_true, Bool.true_and, if_true, ↓thenQ_normal, ↓thenQ_exit, ↓thenQ_ret, ↓blockQ_normal, ↓blockQ_ret, ↓blockQ_exit, ↓CW_true, ↓CW_false, CW_true, CW_false, condT, condF, RQ_some, tupA_one, tupA_two, tupA_nil, Nat.reduceSub, Nat.reduceAdd, Nat.reduceMul, Nat.zero_add, Nat.add_zero, Nat.reduceLeDiff, Nat.reduceEqDiff, eqV, eqAll, fillA, and_self, and_true, true_and, Nat.le_refl, Bool.not_true, Bool.not_false, Bool.false_xor, Bool.true_xor, cond_true, cond_false, List.replicate, if_false, reduceIte, resAll, resA, ne_eq, decide_not, decide_true, decide_false, Int.reduceEq, Bool.not_true, Bool.not_false, not_true_eq_false, not_false_eq_true, cond_bool, cond_int, beq_self_eq_true, Int.reduceBEq, Bool.and_self, Bool.and_false, Bool.false_and, Bool.xor_false, Bool.xor_true, loadN_ldC, ldC_none, ldC_somes, stC_aggs, splice, storeN_stC, stC_int, stC_bool, stC_ptr, stC_nilp, stC_sl, stC_nils, getC_gcO, gcO_cells, W_draw_eq, ↓W_scope, ev_clear, evT, evF, evX, evM, ↓exitQ_normal, ↓exitQ_ret, ↓exitQ_exit, saA_self, saO_self, if_pos, if_neg, wrapI, get_concat, set_concat, Int.toNat_natCast, Int.toNat_zero, List.nil_append, Nat.mul_one, decide_eq_true, decide_eq_false, Int.reduceLE, Int.reduceLT, Int.reduceNeg, Bool.false_or, Bool.true_or, Bool.or_false, Bool.or_true, wrapU, Int.reduceAdd, Int.reduceSub, Int.reduceMul, List.append_assoc, List.length_append, get_mid, get_mid0, set_mid, set_mid0, List.length_set, List.length_cons, List.length_nil, List.cons_append, List.getElem?_append_left, List.set_append_left, get_at, get_at0, set_at, set_at0, List.getElem?_set_self, List.getElem?_set_ne, hj, hi, a159, hwr, a180, hgn, a23, f23, cfC]
    exact GsQ.of hij li lj r' rfl rfl _
  · rw [if_neg heq] at he r'
    subst he
    have hd : decide (xs.getD (wrdN c p) 0 = w) = false := decide_eq_false heq
    simp only [hd] at f23
    simp (disch := first | assumption | omega | (simp only [List.length_cons, List.length_nil, List.length_set, List.length_append] <;> omega) | (simp only [get_mid, get_mid0, List.cons_append, List.append_assoc, List.getElem?_cons_zero, List.getElem?_cons_succ])) only [get_Get_gain, ek, ↓evW, ↓evQ, evB, evS, evL, List.map, AV.cells, List.all, AV.one, Bool.and_true, Bool.true_and, if_true, ↓thenQ_normal, ↓thenQ_exit, ↓thenQ_ret, ↓blockQ_normal, ↓blockQ_ret, ↓blockQ_exit, ↓CW_true, ↓CW_false, CW_true, CW_false, condT, condF, RQ_some, tupA_one, tupA_two, tupA_nil, Nat.reduceSub, Nat.reduceAdd, Nat.reduceMul, Nat.zero_add, Nat.add_zero, Nat.reduceLeDiff, Nat.reduceEqDiff, eqV, eqAll, fillA, and_self, and_true, true_and, Nat.le_refl, Bool.not_true, Bool.not_false, Bool.false_xor, Bool.true_xor, cond_true, cond_false, List.replicate, if_false, reduceIte, resAll, resA, ne_eq, decide_not, decide_true, decide_false, Int.reduceEq, Bool.not_true, Bool.not_false, not_true_eq_false, not_false_eq_true, cond_bool, cond_int, beq_self_eq_true, Int.reduceBEq, Bool.and_self, Bool.and_false, Bool.false_and, Bool.xor_false, Bool.xor_true, loadN_ldC, ldC_none, ldC_somes, stC_aggs, splice, storeN_stC, stC_int, stC_bool, stC_ptr, stC_nilp, stC_sl, stC_nils, getC_gcO, gcO_cells, W_draw_eq, ↓W_scope, ev_clear, evT, evF, evX, evM, ↓exitQ_normal, ↓exitQ_ret, ↓exitQ_exit, saA_self, saO_self, if_pos, if_neg, wrapI, get_concat, set_concat, Int.toNat_natCast, Int.toNat_zero, List.nil_append, Nat.mul_one, decide_eq_true, decide_eq_false, Int.reduceLE, Int.reduceLT, Int.reduceNeg, Bool.false_or, Bool.true_or, Bool.or_false, Bool.or_true, wrapU, Int.reduceAdd, Int.reduceSub, Int.reduceMul, List.append_assoc, List.length_append, get_mid, get_mid0, set_mid, set_mid0, List.length_set, List.length_cons, List.length_nil, List.cons_append, List.getElem?_append_left, List.set_append_left, get_at, get_at0, set_at, set_at0, List.getElem?_set_self, List.getElem?_set_ne, hj, hi, a159, hwr, a180, hgn, a23, f23, cfC, List.set_set]
    exact GsQ.of hij li lj r' rfl rfl _
def Gstep : List (Nat × AFun Ob) := [(138, c_get_Get_Done), (166, amFunc Glook get_Get_look), (167, amFunc Gcopy get_Get_copy), (168, amFunc Ggain get_Get_gain)]
def GsP (m : MM) (c : Cf) (p : Int) (j i : Nat) (x : GS × List Int) (o : Int) (r : AV) (m' : MM) : Prop := KeepX j i m m' ∧ r = .bool (decide (x.1.a = 0)) ∧ m'[j]? = some (.cells 12 false (gC c p x.1)) ∧ ∃ st', m'[i]? = some (.abs (.mem st')) ∧ RelM x.2 o st'
set_option maxHeartbeats 8000000 in
theorem step_run {m : MM} {c : Cf} {p o : Int} {s : GS} {xs : List Int} {j i : Nat} {st : MemSt} (hj : m[j]? = some (.cells 12 false (gC c p s))) (hi : m[i]? = some (.abs (.mem st))) (hr : RelM xs o st) (hok : GOk c p s) (hx0 : s.a = 0 ∨ OkL c xs) :
    Fn Gstep get_Get_Step [.ptr j 0, .ptr i 0] m (GsP m c p j i (stepG c p xs s) (opsG s o)) := by
  have a138 : assoc Gstep 138 = some c_get_Get_Done := rfl
  have a166 : assoc Gstep 166 = some (amFunc Glook get_Get_look) := rfl
  have a167 : assoc Gstep 167 = some (amFunc Gcopy get_Get_copy) := rfl
  have a168 : assoc Gstep 168 = some (amFunc Ggain get_Get_gain) := rfl
  generalize Gstep = G at a138 a166 a167 a168 ⊢
  have hij : j ≠ i := fun h => by rw [h, hi] at hj; cases hj
  have lj : j < m.length := (List.getElem?_eq_some_iff.1 hj).1
  have li : i < m.length := (List.getElem?_eq_some_iff.1 hi).1
  have hdone := done_eq hj
  refine Fn_of rfl ?_
  by_cases h0 : s.a = 0
  · have e : stepG c p xs s = (s, xs) := stepG_zero h0 xs
    have e2 : opsG s o = o := if_pos h0
    rw [decide_eq_true h0] at hdone
    rw [e, e2]
    simp (disch := first | assumption | omega | (simp only [List.length_cons, List.length_nil, List.length_set, List.length_append] <;> omega) | (simp only [get_mid, get_mid0, List.cons_append, List.append_assoc, List.getElem?_cons_zero, List.getElem?_cons_succ])) only [get_Get_Step, ek, ↓evW, ↓evQ, evB, evS, evL, List.map, AV.cells, List.all, AV.one, Bool.and_true, Bool.true_and, if_true, ↓thenQ_normal, ↓thenQ_exit, ↓thenQ_ret, ↓blockQ_normal, ↓blockQ_ret, ↓blockQ_exit, ↓CW_true, ↓CW_false, CW_true, CW_false, condT, condF, RQ_some, tupA_one, tupA_two, tupA_nil, Nat.reduceSub, Nat.reduceAdd, Nat.reduceMul, Nat.zero_add, Nat.add_zero, Nat.reduceLeDiff, Nat.reduceEqDiff, eqV, eqAll, fillA, and_self, and_true, true_and, Nat.le_refl, Bool.not_true, Bool.not_false, Bool.false_xor, Bool.true_xor, cond_true, cond_false, List.replicate, if_false, reduceIte, resAll, resA, ne_eq, decide_not, decide_true, decide_false, Int.reduceEq, Bool.not_true, Bool.not_false, not_true_eq_false, not_false_eq_true, cond_bool, cond_int, beq_self_eq_true, Int.reduceBEq, Bool.and_self, Bool.and_false, Bool.false_and, Bool.xor_false, Bool.xor_true, loadN_ldC, ldC_none, ldC_somes, stC_aggs, splice, storeN_stC, stC_int, stC_bool, stC_ptr, stC_nilp, stC_sl, stC_nils, getC_gcO, gcO_cells, W_draw_eq, ↓W_scope, ev_clear, evT, evF, evX, evM, ↓exitQ_normal, ↓exitQ_ret, ↓exitQ_exit, saA_self, saO_self, if_pos, if_neg, wrapI, get_concat, set_concat, Int.toNat_natCast, Int.toNat_zero, List.nil_append, Nat.mul_one, decide_eq_true, decide_eq_false, Int.reduceLE, Int.reduceLT, Int.reduceNeg, Bool.false_or, Bool.true_or, Bool.or_false, Bool.or_true, wrapU, Int.reduceAdd, Int.reduceSub, Int.reduceMul, List.append_assoc, List.length_append, get_mid, get_mid0, set_mid, set_mid0, List.length_set, List.length_cons, List.length_nil, List.cons_append, List.getElem?_append_left, List.set_append_left, get_at, get_at0, set_at, set_at0, List.getElem?_set_self, List.getElem?_set_ne, a138, hdone]
    exact ⟨.refl _, by rw [decide_eq_true h0], hj, st, hi, hr⟩
  · have hx : OkL c xs := hx0.resolve_left h0
    rw [decide_eq_false h0] at hdone
    have hj0 := hj
    simp only [gC, getC, cfC, List.cons_append, List.nil_append] at hj
    have hok1 := hok.a
    have hj1 := (Keep.app m [.cells 4 false [.nilf, .fn 166 [] [], .fn 167 [] [], .fn 168 [] []]]).get hj0
    have hi1 := (Keep.app m [.cells 4 false [.nilf, .fn 166 [] [], .fn 167 [] [], .fn 168 [] []]]).get hi
    rcases (show s.a = 1 ∨ s.a = 2 ∨ s.a = 3 by omega) with h1 | h1 | h1
    · simp (disch := first | assumption | omega | (simp only [List.length_cons, List.length_nil, List.length_set, List.length_append] <;> omega) | (simp only [get_mid, get_mid0, List.cons_append, List.append_assoc, List.getElem?_cons_zero, List.getElem?_cons_succ])) only [get_Get_Step, ek, ↓evW, ↓evQ, evB, evS, evL, List.map, AV.cells, List.all, AV.one, Bool.and_true, Bool.true_and, if_true, ↓thenQ_normal, ↓thenQ_exit, ↓thenQ_ret, ↓blockQ_normal, ↓blockQ_ret, ↓blockQ_exit, ↓CW_true, ↓CW_false, CW_true, CW_false, condT, condF, RQ_some, tupA_one, tupA_two, tupA_nil, Nat.reduceSub, Nat.reduceAdd, Nat.reduceMul, Nat.zero_add, Nat.add_zero, Nat.reduceLeDiff, Nat.reduceEqDiff, eqV, eqAll, fillA, and_self, and_true, true_and, Nat.le_refl, Bool.not_true, Bool.not_false, Bool.false_xor, Bool.true_xor, cond_true, cond_false, List.replicate, if_false, reduceIte, resAll, resA, ne_eq, decide_not, decide_true, decide_false, Int.reduceEq, Bool.not_true, Bool.not_false, not_true_eq_false, not_false_eq_true, cond_bool, cond_int, beq_self_eq_true, Int.reduceBEq, Bool.and_self, Bool.and_false, Bool.false_and, Bool.xor_false, Bool.xor_true, loadN_ldC, ldC_none, ldC_somes, stC_aggs, splice, storeN_stC, stC_int, stC_bool, stC_ptr, stC_nilp, stC_sl, stC_nils, getC_gcO, gcO_cells, W_draw_eq, ↓W_scope, ev_clear, evT, evF, evX, evM, ↓exitQ_normal, ↓exitQ_ret, ↓exitQ_exit, saA_self, saO_self, if_pos, if_neg, wrapI, get_concat, set_concat, Int.toNat_natCast, Int.toNat_zero, List.nil_append, Nat.mul_one, decide_eq_true, decide_eq_false, Int.reduceLE, Int.reduceLT, Int.reduceNeg, Bool.false_or, Bool.true_or, Bool.or_false, Bool.or_true, wrapU, Int.reduceAdd, Int.reduceSub, Int.reduceMul, List.append_assoc, List.length_append, get_mid, get_mid0, set_mid, set_mid0, List.length_set, List.length_cons, List.length_nil, List.cons_append, List.getElem?_append_left, List.set_append_left, get_at, get_at0, set_at, set_at0, List.getElem?_set_self, List.getElem?_set_ne, a138, hdone, hj, h1, Int.reduceToNat, List.getElem?_cons_succ, List.getElem?_cons_zero, List.append_nil, a166]
      refine OK_fn (look_run hj1 hi1 hr hok hx h1) ?_
      rintro _ m1 ⟨k1, rfl, j1, st', i1, r1⟩
      have lj1 : j < m1.length := (List.getElem?_eq_some_iff.1 j1).1
      simp only [gC, getC, cfC, List.cons_append, List.nil_append] at j1
      simp (disch := first | assumption | omega | (simp only [List.length_cons, List.length_nil, List.length_set, List.length_append] <;> omega) | (simp only [get_mid, get_mid0, List.cons_append, List.append_assoc, List.getElem?_cons_zero, List.getElem?_cons_succ])) only [ek, ↓evW, ↓evQ, evB, evS, evL, List.map, AV.cells, List.all, AV.one, Bool.and_true, Bool.true_and, if_true, ↓thenQ_normal, ↓thenQ_exit, ↓thenQ_ret, ↓blockQ_normal, ↓blockQ_ret, ↓blockQ_exit, ↓CW_true, ↓CW_false, CW_true, CW_false, condT, condF, RQ_some, tupA_one, tupA_two, tupA_nil, Nat.reduceSub, Nat.reduceAdd, Nat.reduceMul, Nat.zero_add, Nat.add_zero, Nat.reduceLeDiff, Nat.reduceEqDiff, eqV, eqAll, fillA, and_self, and_true, true_and, Nat.le_refl, Bool.not_true, Bool.not_false, Bool.false_xor, Bool.true_xor, cond_true, cond_false, List.replicate, if_false, reduceIte, resAll, resA, ne_eq, decide_not, decide_true, decide_false, Int.reduceEq, Bool.not_true, Bool.not_false, not_true_eq_false, not_false_eq_true, cond_bool, cond_int, beq_self_eq_true, Int.reduceBEq, Bool.and_self, Bool.and_false, Bool.false_and, Bool.xor_false, Bool.xor_true, loadN_ldC, ldC_none, ldC_somes, stC_aggs, splice, storeN_stC, stC_int, stC_bool, stC_ptr, stC_nilp, stC_sl, stC_nils, getC_gcO, gcO_cells, W_draw_eq, ↓W_scope, ev_clear, evT, evF, evX, evM, ↓exitQ_normal, ↓exitQ_ret, ↓exitQ_exit, saA_self, saO_self, if_pos, if_neg, wrapI, get_concat, set_concat, Int.toNat_natCast, Int.toNat_zero, List.nil_append, Nat.mul_one, decide_eq_true, decide_eq_false, Int.reduceLE, Int.reduceLT, Int.reduceNeg, Bool.false_or, Bool.true_or, Bool.or_false, Bool.or_true, wrapU, Int.reduceAdd, Int.reduceSub, Int.reduceMul, List.append_assoc, List.length_append, get_mid, get_mid0, set_mid, set_mid0, List.length_set, List.length_cons, List.length_nil, List.cons_append, List.getElem?_append_left, List.set_append_left, get_at, get_at0, set_at, set_at0, List.getElem?_set_self, List.getElem?_set_ne, j1]
      refine ⟨((KeepX.of (Keep.app m _)).trans k1).setL _, rfl, ?_, st', ?_, r1⟩
      · rw [List.getElem?_set_self lj1]; rfl
      · rw [List.getElem?_set_ne hij]; exact i1
    · simp (disch := first | assumption | omega | (simp only [List.length_cons, List.length_nil, List.length_set, List.length_append] <;> omega) | (simp only [get_mid, get_mid0, List.cons_append, List.append_assoc, List.getElem?_cons_zero, List.getElem?_cons_succ])) only [get_Get_Step, ek, ↓evW, ↓evQ, evB, evS, evL, List.map, AV.cells, List.all, AV.one, Bool.and_true, Bool.true_and, if_true, ↓thenQ_normal, ↓thenQ_exit, ↓thenQ_ret, ↓blockQ_normal, ↓blockQ_ret, ↓blockQ_exit, ↓CW_true, ↓CW_false, CW_true, CW_false, condT, condF, RQ_some, tupA_one, tupA_two, tupA_nil, Nat.reduceSub, Nat.reduceAdd, Nat.reduceMul, Nat.zero_add, Nat.add_zero, Nat.reduceLeDiff, Nat.reduceEqDiff, eqV, eqAll, fillA, and_self, and_true, true_and, Nat.le_refl, Bool.not_true, Bool.not_false, Bool.false_xor, Bool.true_xor, cond_true, cond_false, List.replicate, if_false, reduceIte, resAll, resA, ne_eq, decide_not, decide_true, decide_false, Int.reduceEq, Bool.not_true, Bool.not_false, not_true_eq_false, not_false_eq_true, cond_bool, cond_int, beq_self_eq_true, Int.reduceBEq, Bool.and_self, Bool.and_false, Bool.false_and, Bool.xor_false, Bool.xor_true, loadN_ldC, ldC_none, ldC_somes, stC_aggs, splice, storeN_stC, stC_int, stC_bool, stC_ptr, stC_nilp, stC_sl, stC_nils, getC_gcO, gcO_cells, W_draw_eq, ↓W_scope, ev_clear, evT, evF, evX, evM, ↓exitQ_normal, ↓exitQ_ret, ↓exitQ_exit, saA_self, saO_self, if_pos, if_neg, wrapI, get_concat, set_concat, Int.toNat_natCast, Int.toNat_zero, List.nil_append, Nat.mul_one, decide_eq_true, decide_eq_false, Int.reduceLE, Int.reduceLT, Int.reduceNeg, Bool.false_or, Bool.true_or, Bool.or_false, Bool.or_true, wrapU, Int.reduceAdd, Int.reduceSub, Int.reduceMul, List.append_assoc, List.length_append, get_mid, get_mid0, set_mid, set_mid0, List.length_set, List.length_cons, List.length_nil, List.cons_append, List.getElem?_append_left, List.set_append_left, get_at, get_at0, set_at, set_at0, List.getElem?_set_self, List.getElem?_set_ne, a138, hdone, hj, h1, Int.reduceToNat, List.getElem?_cons_succ, List.getElem?_cons_zero, List.append_nil, a167]
      refine OK_fn (copy_run hj1 hi1 hr hok hx h1) ?_
      rintro _ m1 ⟨k1, rfl, j1, st', i1, r1⟩
      have lj1 : j < m1.length := (List.getElem?_eq_some_iff.1 j1).1
      simp only [gC, getC, cfC, List.cons_append, List.nil_append] at j1
      simp (disch := first | assumption | omega | (simp only [List.length_cons, List.length_nil, List.length_set, List.length_append] <;> omega) | (simp only [get_mid, get_mid0, List.cons_append, List.append_assoc, List.getElem?_cons_zero, List.getElem?_cons_succ])) only [ek, ↓evW, ↓evQ, evB, evS, evL, List.map, AV.cells, List.all, AV.one, Bool.and_true, Bool.true_and, if_true, ↓thenQ_normal, ↓thenQ_exit, ↓thenQ_ret, ↓blockQ_normal, ↓blockQ_ret, ↓blockQ_exit, ↓CW_true, ↓CW_false, CW_true, CW_false, condT, condF, RQ_some, tupA_one, tupA_two, tupA_nil, Nat.reduceSub, Nat.reduceAdd, Nat.reduceMul, Nat.zero_add, Nat.add_zero, Nat.reduceLeDiff, Nat.reduceEqDiff, eqV, eqAll, fillA, and_self, and_true, true_and, Nat.le_refl, Bool.not_true, Bool.not_false, Bool.false_xor, Bool.true_xor, cond_true, cond_false, List.replicate, if_false, reduceIte, resAll, resA, ne_eq, decide_not, decide_true, decide_false, Int.reduceEq, Bool.not_true, Bool.not_false, not_true_eq_false, not_false_eq_true, cond_bool, cond_int, beq_self_eq_true, Int.reduceBEq, Bool.and_self, Bool.and_false, Bool.false_and, Bool.xor_false, Bool.xor_true, loadN_ldC, ldC_none, ldC_somes, stC_aggs, splice, storeN_stC, stC_int, stC_bool, stC_ptr, stC_nilp, stC_sl, stC_nils, getC_gcO, gcO_cells, W_draw_eq, ↓W_scope, ev_clear, evT, evF, evX, evM, ↓exitQ_normal, ↓exitQ_ret, ↓exitQ_exit, saA_self, saO_self, if_pos, if_neg, wrapI, get_concat, set_concat, Int.toNat_natCast, Int.toNat_zero, List.nil_append, Nat.mul_one, decide_eq_true, decide_eq_false, Int.reduceLE, Int.reduceLT, Int.reduceNeg, Bool.false_or, Bool.true_or, Bool.or_false, Bool.or_true, wrapU, Int.reduceAdd, Int.reduceSub, Int.reduceMul, List.append_assoc, List.length_append, get_mid, get_mid0, set_mid, set_mid0, List.length_set, List.length_cons, List.length_nil, List.cons_append, List.getElem?_append_left, List.set_append_left, get_at, get_at0, set_at, set_at0, List.getElem?_set_self, List.getElem?_set_ne, j1]
      refine ⟨((KeepX.of (Keep.app m _)).trans k1).setL _, rfl, ?_, st', ?_, r1⟩
      · rw [List.getElem?_set_self lj1]; rfl
      · rw [List.getElem?_set_ne hij]; exact i1
    · simp (disch := first | assumption | omega | (simp only [List.length_cons, List.length_nil, List.length_set, List.length_append] <;> omega) | (simp only [get_mid, get_mid0, List.cons_append, List.append_assoc, List.getElem?_cons_zero, List.getElem?_cons_succ])) only [get_Get_Step, ek, ↓evW, ↓evQ, evB, evS, evL, List.map, AV.cells, List.all, AV.one, Bool.and_true, Bool.true_and, if_true, ↓thenQ_normal, ↓thenQ_exit, ↓thenQ_ret, ↓blockQ_normal, ↓blockQ_ret, ↓blockQ_exit, ↓CW_true, ↓CW_false, CW_true, CW_false, condT, condF, RQ_some, tupA_one, tupA_two, tupA_nil, Nat.reduceSub, Nat.reduceAdd, Nat.reduceMul, Nat.zero_add, Nat.add_zero, Nat.reduceLeDiff, Nat.reduceEqDiff, eqV, eqAll, fillA, and_self, and_true, true_and, Nat.le_refl, Bool.not_true, Bool.not_false, Bool.false_xor, Bool.true_xor, cond_true, cond_false, List.replicate, if_false, reduceIte, resAll, resA, ne_eq, decide_not, decide_true, decide_false, Int.reduceEq, Bool.not_true, Bool.not_false, not_true_eq_false, not_false_eq_true, cond_bool, cond_int, beq_self_eq_true, Int.reduceBEq, Bool.and_self, Bool.and_false, Bool.false_and, Bool.xor_false, Bool.xor_true, loadN_ldC, ldC_none, ldC_somes, stC_aggs, splice, storeN_stC, stC_int, stC_bool, stC_ptr, stC_nilp, stC_sl, stC_nils, getC_gcO, gcO_cells, W_draw_eq, ↓W_scope, ev_clear, evT, evF, evX, evM, ↓exitQ_normal, ↓exitQ_ret, ↓exitQ_exit, saA_self, saO_self, if_pos, if_neg, wrapI, get_concat, set_concat, Int.toNat_natCast, Int.toNat_zero, List.nil_append, Nat.mul_one, decide_eq_true, decide_eq_false, Int.reduceLE, Int.reduceLT, Int.reduceNeg, Bool.false_or, Bool.true_or, Bool.or_false, Bool.or_true, wrapU, Int.reduceAdd, Int.reduceSub, Int.reduceMul, List.append_assoc, List.length_append, get_mid, get_mid0, set_mid, set_mid0, List.length_set, List.length_cons, List.length_nil, List.cons_append, List.getElem?_append_left, List.set_append_left, get_at, get_at0, set_at, set_at0, List.getElem?_set_self, List.getElem?_set_ne, a138, hdone, hj, h1, Int.reduceToNat, List.getElem?_cons_succ, List.getElem?_cons_zero, List.append_nil, a168]
      refine OK_fn (gain_run hj1 hi1 hr hok hx h1) ?_
      rintro _ m1 ⟨k1, rfl, j1, st', i1, r1⟩
      have lj1 : j < m1.length := (List.getElem?_eq_some_iff.1 j1).1
      simp only [gC, getC, cfC, List.cons_append, List.nil_append] at j1
      simp (disch := first | assumption | omega | (simp only [List.length_cons, List.length_nil, List.length_set, List.length_append] <;> omega) | (simp only [get_mid, get_mid0, List.cons_append, List.append_assoc, List.getElem?_cons_zero, List.getElem?_cons_succ])) only [ek, ↓evW, ↓evQ, evB, evS, evL, List.map, AV.cells, List.all, AV.one, Bool.and_true, Bool.true_and, if_true, ↓thenQ_normal, ↓thenQ_exit, ↓thenQ_ret, ↓blockQ_normal, ↓blockQ_ret, ↓blockQ_exit, ↓CW_true, ↓CW_false, CW_true, CW_false, condT, condF, RQ_some, tupA_one, tupA_two, tupA_nil, Nat.reduceSub, Nat.reduceAdd, Nat.reduceMul, Nat.zero_add, Nat.add_zero, Nat.reduceLeDiff, Nat.reduceEqDiff, eqV, eqAll, fillA, and_self, and_true, true_and, Nat.le_refl, Bool.not_true, Bool.not_false, Bool.false_xor, Bool.true_xor, cond_true, cond_false, List.replicate, if_false, reduceIte, resAll, resA, ne_eq, decide_not, decide_true, decide_false, Int.reduceEq, Bool.not_true, Bool.not_false, not_true_eq_false, not_false_eq_true, cond_bool, cond_int, beq_self_eq_true, Int.reduceBEq, Bool.and_self, Bool.and_false, Bool.false_and, Bool.xor_false, Bool.xor_true, loadN_ldC, ldC_none, ldC_somes, stC_aggs, splice, storeN_stC, stC_int, stC_bool, stC_ptr, stC_nilp, stC_sl, stC_nils, getC_gcO, gcO_cells, W_draw_eq, ↓W_scope, ev_clear, evT, evF, evX, evM, ↓exitQ_normal, ↓exitQ_ret, ↓exitQ_exit, saA_self, saO_self, if_pos, if_neg, wrapI, get_concat, set_concat, Int.toNat_natCast, Int.toNat_zero, List.nil_append, Nat.mul_one, decide_eq_true, decide_eq_false, Int.reduceLE, Int.reduceLT, Int.reduceNeg, Bool.false_or, Bool.true_or, Bool.or_false, Bool.or_true, wrapU, Int.reduceAdd, Int.reduceSub, Int.reduceMul, List.append_assoc, List.length_append, get_mid, get_mid0, set_mid, set_mid0, List.length_set, List.length_cons, List.length_nil, List.cons_append, List.getElem?_append_left, List.set_append_left, get_at, get_at0, set_at, set_at0, List.getElem?_set_self, List.getElem?_set_ne, j1]
      refine ⟨((KeepX.of (Keep.app m _)).trans k1).setL _, rfl, ?_, st', ?_, r1⟩
      · rw [List.getElem?_set_self lj1]; rfl
      · rw [List.getElem?_set_ne hij]; exact i1
end Go.Am.F10
end
section
namespace Go.Am.F10
open Go.Am.F06
theorem _root_.Go.Am.Sl.put {X : Type} {m : Mem X} {wr : Bool} {sz n : Nat} {l : List AV} {v : AV} (h : Sl m wr sz n l v) {b : Nat} (hb : ∀ ro L, m[b]? ≠ some (.cells sz ro L)) (C : Chunk X) : Sl (m.set b C) wr sz n l v := by
  refine ⟨h.1, ?_⟩
  rcases h.2 with h1 | ⟨q, o, cap, h1, h2⟩
  · exact .inl h1
  · refine .inr ⟨q, o, cap, h1, fun h0 => ?_⟩
    obtain ⟨ro, L, h3, h4⟩ := h2 h0
    refine ⟨ro, L, ?_, h4⟩
    rw [List.getElem?_set_ne (fun hq => hb ro L (by rw [hq]; exact h3))]; exact h3
def Gsmem : List (Nat × AFun Ob) := [(34, memF fun s rest => (lenAsk s rest).map fun v => (v, s)), (46, memF fun s rest => (opsAsk s rest).map fun v => (v, s)), (47, memNF allS), (58, F06.c_docs_SameCells)]
set_option maxHeartbeats 8000000 in
theorem samemem_run {m : MM} {wr : Bool} {j : Nat} {xs : List Int} {o : Int} {v : AV} {s : MemSt} (hj : m[j]? = some (.abs (.mem s))) (hr : RelM xs o s) (hs : SU m wr xs v) (hn : xs.length ≤ 65536) :
    Fn Gsmem docs_SameMem [.ptr j 0, .agg (memC v o)] m (fun r m' => r = .bool true ∧ Keep m m') := by
  have a34 : assoc Gsmem 34 = some (memF fun s rest => (lenAsk s rest).map fun v => (v, s)) := rfl
  have a46 : assoc Gsmem 46 = some (memF fun s rest => (opsAsk s rest).map fun v => (v, s)) := rfl
  have a47 : assoc Gsmem 47 = some (memNF allS) := rfl
  have a58 : assoc Gsmem 58 = some F06.c_docs_SameCells := rfl
  generalize Gsmem = G at a34 a46 a47 a58 ⊢
  obtain ⟨rfl, rfl, hlog⟩ := hr
  have hone := slOne hs
  simp only [AV.one] at hone
  have hlen := hs.len
  have lj : j < m.length := (List.getElem?_eq_some_iff.1 hj).1
  have hj1 : (m ++ [Chunk.cells 2 false [v, .int .u64 s.ops]])[j]? = some (.abs (.mem s)) := by rw [List.getElem?_append_left lj]; exact hj
  have f34 := len_of hj1
  have f46 := ops_of hj1
  obtain ⟨l1, f47, s47, q47⟩ := all_of hj1 (by omega)
  have hs2 : SU (m ++ [Chunk.cells 2 false [v, .int .u64 s.ops]] ++ [.cells 1 false (uC s.cells)]) wr s.cells v := (hs.keep (Keep.app m _)).keep (Keep.app _ _)
  generalize hC : Chunk.cells 1 false (uC s.cells) = C at f47 s47 hs2
  have g1 : (m ++ [Chunk.cells 2 false [v, .int .u64 s.ops]])[m.length]? = some (Chunk.cells 2 false [v, .int .u64 s.ops]) := get_concat
  have g2 : (m ++ [Chunk.cells 2 false [v, .int .u64 s.ops]] ++ [C])[m.length]? = some (Chunk.cells 2 false [v, .int .u64 s.ops]) := by rw [List.getElem?_append_left (by simp)]; exact g1
  have hoff : Off (slq l1) v := by
    rw [q47]; exact sl_off hs (by simp)
  refine Fn_of rfl ?_
  simp (disch := first | assumption | omega | (simp only [List.length_cons, List.length_nil, List.length_set, List.length_append] <;> omega) | (simp only [get_mid, get_mid0, List.cons_append, List.append_assoc, List.getElem?_cons_zero, List.getElem?_cons_succ])) only [docs_SameMem, ek, ↓evW, ↓evQ, evB, evS, evL, List.map, AV.cells, List.all, AV.one, Bool.and_true, Bool.true_and, if_true, ↓thenQ_normal, ↓thenQ_exit, ↓thenQ_ret, ↓blockQ_normal, ↓blockQ_ret, ↓blockQ_exit, ↓CW_true, ↓CW_false, CW_true, CW_false, condT, condF, RQ_some, tupA_one, tupA_two, tupA_nil, Nat.reduceSub, Nat.reduceAdd, Nat.reduceMul, Nat.zero_add, Nat.add_zero, Nat.reduceLeDiff, Nat.reduceEqDiff, eqV, eqAll, fillA, and_self, and_true, true_and, Nat.le_refl, Bool.not_true, Bool.not_false, Bool.false_xor, Bool.true_xor, cond_true, cond_false, List.replicate, if_false, reduceIte, resAll, resA, ne_eq, decide_not, decide_true, decide_false, Int.reduceEq, Bool.not_true, Bool.not_false, not_true_eq_false, not_false_eq_true, cond_bool, cond_int, beq_self_eq_true, Int.reduceBEq, Bool.and_self, Bool.and_false, Bool.false_and, Bool.xor_false, Bool.xor_true, loadN_ldC, ldC_none, ldC_somes, stC_aggs, splice, storeN_stC, stC_int, stC_bool, stC_ptr, stC_nilp, stC_sl, stC_nils, getC_gcO, gcO_cells, W_draw_eq, ↓W_scope, ev_clear, evT, evF, evX, evM, ↓exitQ_normal, ↓exitQ_ret, ↓exitQ_exit, saA_self, saO_self, if_pos, if_neg, wrapI, get_concat, set_concat, Int.toNat_natCast, Int.toNat_zero, List.nil_append, Nat.mul_one, decide_eq_true, decide_eq_false, Int.reduceLE, Int.reduceLT, Int.reduceNeg, Bool.false_or, Bool.true_or, Bool.or_false, Bool.or_true, wrapU, Int.reduceAdd, Int.reduceSub, Int.reduceMul, memC, hone, ev_len, hlen, g1, a34, f34, a46, f46, a47, f47, g2, a58, F06.c_docs_SameCells]
  refine OKT_fn (samecells_run s47 hs2 hoff (by omega)) ?_
  rintro _ M4 ⟨rfl, k4⟩
  have hl4 : m.length + 2 ≤ M4.length := by have := k4.1; simpa using this
  have hK4 : Keep m M4 := by
    refine ⟨by omega, fun i hi => ?_⟩
    rw [k4.2 i (by simp; omega) (by rw [q47]; simp; omega), List.getElem?_append_left (by simp; omega), List.getElem?_append_left hi]
  simp (disch := first | assumption | omega | (simp only [List.length_cons, List.length_nil, List.length_set, List.length_append] <;> omega) | (simp only [get_mid, get_mid0, List.cons_append, List.append_assoc, List.getElem?_cons_zero, List.getElem?_cons_succ])) only [ek, ↓evW, ↓evQ, evB, evS, evL, List.map, AV.cells, List.all, AV.one, Bool.and_true, Bool.true_and, if_true, ↓thenQ_normal, ↓thenQ_exit, ↓thenQ_ret, ↓blockQ_normal, ↓blockQ_ret, ↓blockQ_exit, ↓CW_true, ↓CW_false, CW_true, CW_false, condT, condF, RQ_some, tupA_one, tupA_two, tupA_nil, Nat.reduceSub, Nat.reduceAdd, Nat.reduceMul, Nat.zero_add, Nat.add_zero, Nat.reduceLeDiff, Nat.reduceEqDiff, eqV, eqAll, fillA, and_self, and_true, true_and, Nat.le_refl, Bool.not_true, Bool.not_false, Bool.false_xor, Bool.true_xor, cond_true, cond_false, List.replicate, if_false, reduceIte, resAll, resA, ne_eq, decide_not, decide_true, decide_false, Int.reduceEq, Bool.not_true, Bool.not_false, not_true_eq_false, not_false_eq_true, cond_bool, cond_int, beq_self_eq_true, Int.reduceBEq, Bool.and_self, Bool.and_false, Bool.false_and, Bool.xor_false, Bool.xor_true, loadN_ldC, ldC_none, ldC_somes, stC_aggs, splice, storeN_stC, stC_int, stC_bool, stC_ptr, stC_nilp, stC_sl, stC_nils, getC_gcO, gcO_cells, W_draw_eq, ↓W_scope, ev_clear, evT, evF, evX, evM, ↓exitQ_normal, ↓exitQ_ret, ↓exitQ_exit, saA_self, saO_self, if_pos, if_neg, wrapI, get_concat, set_concat, Int.toNat_natCast, Int.toNat_zero, List.nil_append, Nat.mul_one, decide_eq_true, decide_eq_false, Int.reduceLE, Int.reduceLT, Int.reduceNeg, Bool.false_or, Bool.true_or, Bool.or_false, Bool.or_true, wrapU, Int.reduceAdd, Int.reduceSub, Int.reduceMul, g1, g2]
  exact hK4
def Gis : List (Nat × AFun Ob) := [(144, c_get_Get_Hands), (141, c_get_Get_Got), (142, c_get_Get_Tries), (138, c_get_Get_Done)]
theorem hands_has {X : Type} {m : Mem X} {j : Nat} {c : Cf} {p a w seen tries : Int} (hj : m[j]? = some (.cells 12 false (getC c p a w seen true tries))) : c_get_Get_Hands [.ptr j 0] m = some (.sl m.length 0 1 (some 1), m ++ [.cells 1 false [.int .i64 seen]]) := by
  have a141 : assoc [(141, c_get_Get_Got (X := X))] 141 = some c_get_Get_Got := rfl
  have he : c_get_Get_Hands (X := X) = amFunc [(141, c_get_Get_Got)] get_Get_Hands := rfl
  rw [he]
  generalize [(141, c_get_Get_Got (X := X))] = G at a141 ⊢
  have hg := got_eq hj
  simp only [if_true] at hg
  refine Fn_eq (Fn_of rfl ?_)
  simp (disch := first | assumption | omega | (simp only [List.length_cons, List.length_nil, List.length_set, List.length_append] <;> omega) | (simp only [get_mid, get_mid0, List.cons_append, List.append_assoc, List.getElem?_cons_zero, List.getElem?_cons_succ])) only [get_Get_Hands, ek, ↓evW, ↓evQ, evB, evS, evL, List.map, AV.cells, List.all, AV.one, Bool.and_true, Bool.true_and, if_true, ↓thenQ_normal, ↓thenQ_exit, ↓thenQ_ret, ↓blockQ_normal, ↓blockQ_ret, ↓blockQ_exit, ↓CW_true, ↓CW_false, CW_true, CW_false, condT, condF, RQ_some, tupA_one, tupA_two, tupA_nil, Nat.reduceSub, Nat.reduceAdd, Nat.reduceMul, Nat.zero_add, Nat.add_zero, Nat.reduceLeDiff, Nat.reduceEqDiff, eqV, eqAll, fillA, and_self, and_true, true_and, Nat.le_refl, Bool.not_true, Bool.not_false, Bool.false_xor, Bool.true_xor, cond_true, cond_false, List.replicate, if_false, reduceIte, resAll, resA, ne_eq, decide_not, decide_true, decide_false, Int.reduceEq, Bool.not_true, Bool.not_false, not_true_eq_false, not_false_eq_true, cond_bool, cond_int, beq_self_eq_true, Int.reduceBEq, Bool.and_self, Bool.and_false, Bool.false_and, Bool.xor_false, Bool.xor_true, loadN_ldC, ldC_none, ldC_somes, stC_aggs, splice, storeN_stC, stC_int, stC_bool, stC_ptr, stC_nilp, stC_sl, stC_nils, getC_gcO, gcO_cells, W_draw_eq, ↓W_scope, ev_clear, evT, evF, evX, evM, ↓exitQ_normal, ↓exitQ_ret, ↓exitQ_exit, saA_self, saO_self, if_pos, if_neg, wrapI, get_concat, set_concat, Int.toNat_natCast, Int.toNat_zero, List.nil_append, Nat.mul_one, decide_eq_true, decide_eq_false, Int.reduceLE, Int.reduceLT, Int.reduceNeg, Bool.false_or, Bool.true_or, Bool.or_false, Bool.or_true, wrapU, Int.reduceAdd, Int.reduceSub, Int.reduceMul, List.append_assoc, List.length_append, get_mid, get_mid0, set_mid, set_mid0, List.length_set, List.length_cons, List.length_nil, List.cons_append, List.getElem?_append_left, List.set_append_left, get_at, get_at0, set_at, set_at0, List.getElem?_set_self, List.getElem?_set_ne, a141, hg, evA, repeatL, List.flatten_cons, List.flatten_nil]
set_option maxHeartbeats 8000000 in
theorem is_run {m : MM} {j : Nat} {c : Cf} {p : Int} {s : GS} (hj : m[j]? = some (.cells 12 false (gC c p s))) :
    Fn Gis law10_is [.ptr j 0, .agg (rC c p s), .bool s.has] m (fun r m' => r = .bool true ∧ Keep m m') := by
  have a144 : assoc Gis 144 = some c_get_Get_Hands := rfl
  have a141 : assoc Gis 141 = some c_get_Get_Got := rfl
  have a142 : assoc Gis 142 = some c_get_Get_Tries := rfl
  have a138 : assoc Gis 138 = some c_get_Get_Done := rfl
  generalize Gis = G at a144 a141 a142 a138 ⊢
  obtain ⟨a, w, seen, has, tries⟩ := s
  have hK := fun K : MM => (Keep.app m K).get hj
  have f141 := fun K : MM => got_eq (hK K)
  have f142 := fun K : MM => tries_eq (hK K)
  have f138 := fun K : MM => done_eq (hK K)
  refine Fn_of rfl ?_
  cases has with
  | false =>
    have f144 := fun K : MM => hands_eq (hK K)
    simp only [rC, rgC, cfC, List.cons_append, List.nil_append, Bool.false_eq_true, if_false] at f141 ⊢
    by_cases ha : a = 0
    · subst ha
      simp only [decide_true] at f138
      simp (disch := first | assumption | omega | (simp only [List.length_cons, List.length_nil, List.length_set, List.length_append] <;> omega) | (simp only [get_mid, get_mid0, List.cons_append, List.append_assoc, List.getElem?_cons_zero, List.getElem?_cons_succ])) only [law10_is, ek, ↓evW, ↓evQ, evB, evS, evL, List.map, AV.cells, List.all, AV.one, Bool.and_true, Bool.true_and, if_true, ↓thenQ_normal, ↓thenQ_exit, ↓thenQ_ret, ↓blockQ_normal, ↓blockQ_ret, ↓blockQ_exit, ↓CW_true, ↓CW_false, CW_true, CW_false, condT, condF, RQ_some, tupA_one, tupA_two, tupA_nil, Nat.reduceSub, Nat.reduceAdd, Nat.reduceMul, Nat.zero_add, Nat.add_zero, Nat.reduceLeDiff, Nat.reduceEqDiff, eqV, eqAll, fillA, and_self, and_true, true_and, Nat.le_refl, Bool.not_true, Bool.not_false, Bool.false_xor, Bool.true_xor, cond_true, cond_false, List.replicate, if_false, reduceIte, resAll, resA, ne_eq, decide_not, decide_true, decide_false, Int.reduceEq, Bool.not_true, Bool.not_false, not_true_eq_false, not_false_eq_true, cond_bool, cond_int, beq_self_eq_true, Int.reduceBEq, Bool.and_self, Bool.and_false, Bool.false_and, Bool.xor_false, Bool.xor_true, loadN_ldC, ldC_none, ldC_somes, stC_aggs, splice, storeN_stC, stC_int, stC_bool, stC_ptr, stC_nilp, stC_sl, stC_nils, getC_gcO, gcO_cells, W_draw_eq, ↓W_scope, ev_clear, evT, evF, evX, evM, ↓exitQ_normal, ↓exitQ_ret, ↓exitQ_exit, saA_self, saO_self, if_pos, if_neg, wrapI, get_concat, set_concat, Int.toNat_natCast, Int.toNat_zero, List.nil_append, Nat.mul_one, decide_eq_true, decide_eq_false, Int.reduceLE, Int.reduceLT, Int.reduceNeg, Bool.false_or, Bool.true_or, Bool.or_false, Bool.or_true, wrapU, Int.reduceAdd, Int.reduceSub, Int.reduceMul, List.append_assoc, List.length_append, get_mid, get_mid0, set_mid, set_mid0, List.length_set, List.length_cons, List.length_nil, List.cons_append, List.getElem?_append_left, List.set_append_left, get_at, get_at0, set_at, set_at0, List.getElem?_set_self, List.getElem?_set_ne, a144, f144, a141, f141, a142, f142, a138, f138]
      exact Keep.app _ _
    · simp only [decide_eq_false ha] at f138
      simp (disch := first | assumption | omega | (simp only [List.length_cons, List.length_nil, List.length_set, List.length_append] <;> omega) | (simp only [get_mid, get_mid0, List.cons_append, List.append_assoc, List.getElem?_cons_zero, List.getElem?_cons_succ])) only [law10_is, ek, ↓evW, ↓evQ, evB, evS, evL, List.map, AV.cells, List.all, AV.one, Bool.and_true, Bool.true_and, if_true, ↓thenQ_normal, ↓thenQ_exit, ↓thenQ_ret, ↓blockQ_normal, ↓blockQ_ret, ↓blockQ_exit, ↓CW_true, ↓CW_false, CW_true, CW_false, condT, condF, RQ_some, tupA_one, tupA_two, tupA_nil, Nat.reduceSub, Nat.reduceAdd, Nat.reduceMul, Nat.zero_add, Nat.add_zero, Nat.reduceLeDiff, Nat.reduceEqDiff, eqV, eqAll, fillA, and_self, and_true, true_and, Nat.le_refl, Bool.not_true, Bool.not_false, Bool.false_xor, Bool.true_xor, cond_true, cond_false, List.replicate, if_false, reduceIte, resAll, resA, ne_eq, decide_not, decide_true, decide_false, Int.reduceEq, Bool.not_true, Bool.not_false, not_true_eq_false, not_false_eq_true, cond_bool, cond_int, beq_self_eq_true, Int.reduceBEq, Bool.and_self, Bool.and_false, Bool.false_and, Bool.xor_false, Bool.xor_true, loadN_ldC, ldC_none, ldC_somes, stC_aggs, splice, storeN_stC, stC_int, stC_bool, stC_ptr, stC_nilp, stC_sl, stC_nils, getC_gcO, gcO_cells, W_draw_eq, ↓W_scope, ev_clear, evT, evF, evX, evM, ↓exitQ_normal, ↓exitQ_ret, ↓exitQ_exit, saA_self, saO_self, if_pos, if_neg, wrapI, get_concat, set_concat, Int.toNat_natCast, Int.toNat_zero, List.nil_append, Nat.mul_one, decide_eq_true, decide_eq_false, Int.reduceLE, Int.reduceLT, Int.reduceNeg, Bool.false_or, Bool.true_or, Bool.or_false, Bool.or_true, wrapU, Int.reduceAdd, Int.reduceSub, Int.reduceMul, List.append_assoc, List.length_append, get_mid, get_mid0, set_mid, set_mid0, List.length_set, List.length_cons, List.length_nil, List.cons_append, List.getElem?_append_left, List.set_append_left, get_at, get_at0, set_at, set_at0, List.getElem?_set_self, List.getElem?_set_ne, a144, f144, a141, f141, a142, f142, a138, f138, ha]
      exact Keep.app _ _
  | true =>
    have f144 := fun K : MM => hands_has (hK K)
    simp only [rC, rgC, cfC, List.cons_append, List.nil_append, if_true] at f141 ⊢
    by_cases ha : a = 0
    · subst ha
      simp only [decide_true] at f138
      simp (disch := first | assumption | omega | (simp only [List.length_cons, List.length_nil, List.length_set, List.length_append] <;> omega) | (simp only [get_mid, get_mid0, List.cons_append, List.append_assoc, List.getElem?_cons_zero, List.getElem?_cons_succ])) only [law10_is, ek, ↓evW, ↓evQ, evB, evS, evL, List.map, AV.cells, List.all, AV.one, Bool.and_true, Bool.true_and, if_true, ↓thenQ_normal, ↓thenQ_exit, ↓thenQ_ret, ↓blockQ_normal, ↓blockQ_ret, ↓blockQ_exit, ↓CW_true, ↓CW_false, CW_true, CW_false, condT, condF, RQ_some, tupA_one, tupA_two, tupA_nil, Nat.reduceSub, Nat.reduceAdd, Nat.reduceMul, Nat.zero_add, Nat.add_zero, Nat.reduceLeDiff, Nat.reduceEqDiff, eqV, eqAll, fillA, and_self, and_true, true_and, Nat.le_refl, Bool.not_true, Bool.not_false, Bool.false_xor, Bool.true_xor, cond_true, cond_false, List.replicate, if_false, reduceIte, resAll, resA, ne_eq, decide_not, decide_true, decide_false, Int.reduceEq, Bool.not_true, Bool.not_false, not_true_eq_false, not_false_eq_true, cond_bool, cond_int, beq_self_eq_true, Int.reduceBEq, Bool.and_self, Bool.and_false, Bool.false_and, Bool.xor_false, Bool.xor_true, loadN_ldC, ldC_none, ldC_somes, stC_aggs, splice, storeN_stC, stC_int, stC_bool, stC_ptr, stC_nilp, stC_sl, stC_nils, getC_gcO, gcO_cells, W_draw_eq, ↓W_scope, ev_clear, evT, evF, evX, evM, ↓exitQ_normal, ↓exitQ_ret, ↓exitQ_exit, saA_self, saO_self, if_pos, if_neg, wrapI, get_concat, set_concat, Int.toNat_natCast, Int.toNat_zero, List.nil_append, Nat.mul_one, decide_eq_true, decide_eq_false, Int.reduceLE, Int.reduceLT, Int.reduceNeg, Bool.false_or, Bool.true_or, Bool.or_false, Bool.or_true, wrapU, Int.reduceAdd, Int.reduceSub, Int.reduceMul, List.append_assoc, List.length_append, get_mid, get_mid0, set_mid, set_mid0, List.length_set, List.length_cons, List.length_nil, List.cons_append, List.getElem?_append_left, List.set_append_left, get_at, get_at0, set_at, set_at0, List.getElem?_set_self, List.getElem?_set_ne, a144, f144, a141, f141, a142, f142, a138, f138]
      exact Keep.app _ _
    · simp only [decide_eq_false ha] at f138
      simp (disch := first | assumption | omega | (simp only [List.length_cons, List.length_nil, List.length_set, List.length_append] <;> omega) | (simp only [get_mid, get_mid0, List.cons_append, List.append_assoc, List.getElem?_cons_zero, List.getElem?_cons_succ])) only [law10_is, ek, ↓evW, ↓evQ, evB, evS, evL, List.map, AV.cells, List.all, AV.one, Bool.and_true, Bool.true_and, if_true, ↓thenQ_normal, ↓thenQ_exit, ↓thenQ_ret, ↓blockQ_normal, ↓blockQ_ret, ↓blockQ_exit, ↓CW_true, ↓CW_false, CW_true, CW_false, condT, condF, RQ_some, tupA_one, tupA_two, tupA_nil, Nat.reduceSub, Nat.reduceAdd, Nat.reduceMul, Nat.zero_add, Nat.add_zero, Nat.reduceLeDiff, Nat.reduceEqDiff, eqV, eqAll, fillA, and_self, and_true, true_and, Nat.le_refl, Bool.not_true, Bool.not_false, Bool.false_xor, Bool.true_xor, cond_true, cond_false, List.replicate, if_false, reduceIte, resAll, resA, ne_eq, decide_not, decide_true, decide_false, Int.reduceEq, Bool.not_true, Bool.not_false, not_true_eq_false, not_false_eq_true, cond_bool, cond_int, beq_self_eq_true, Int.reduceBEq, Bool.and_self, Bool.and_false, Bool.false_and, Bool.xor_false, Bool.xor_true, loadN_ldC, ldC_none, ldC_somes, stC_aggs, splice, storeN_stC, stC_int, stC_bool, stC_ptr, stC_nilp, stC_sl, stC_nils, getC_gcO, gcO_cells, W_draw_eq, ↓W_scope, ev_clear, evT, evF, evX, evM, ↓exitQ_normal, ↓exitQ_ret, ↓exitQ_exit, saA_self, saO_self, if_pos, if_neg, wrapI, get_concat, set_concat, Int.toNat_natCast, Int.toNat_zero, List.nil_append, Nat.mul_one, decide_eq_true, decide_eq_false, Int.reduceLE, Int.reduceLT, Int.reduceNeg, Bool.false_or, Bool.true_or, Bool.or_false, Bool.or_true, wrapU, Int.reduceAdd, Int.reduceSub, Int.reduceMul, List.append_assoc, List.length_append, get_mid, get_mid0, set_mid, set_mid0, List.length_set, List.length_cons, List.length_nil, List.cons_append, List.getElem?_append_left, List.set_append_left, get_at, get_at0, set_at, set_at0, List.getElem?_set_self, List.getElem?_set_ne, a144, f144, a141, f141, a142, f142, a138, f138, ha]
      exact Keep.app _ _
structure Pk where
  d : Bool
  a : Int
  v : Int
def pkC (x : Pk) : List AV := [.bool x.d, .int .i64 x.a, .int .u64 x.v]
abbrev SPk {X : Type} (m : Mem X) (wr : Bool) (es : List Pk) (v : AV) : Prop := Sl m wr 3 es.length (es.flatMap pkC) v
theorem spk_get {X : Type} {m : Mem X} {wr : Bool} {es : List Pk} {v : AV} (h : SPk m wr es v) {i : Nat} {e : Pk} (he : es[i]? = some e) : ∃ q o cap ro L, v = .sl q o es.length cap ∧ m[q]? = some (.cells 3 ro L) ∧ i < es.length ∧ o + i * 3 + 3 ≤ L.length ∧
    L[o + i * 3]? = some (.bool e.d) ∧ L[o + i * 3 + 1]? = some (.int .i64 e.a) ∧ L[o + i * 3 + 2]? = some (.int .u64 e.v) := by
  have hi : i < es.length := (List.getElem?_eq_some_iff.1 he).1
  obtain ⟨q, o, cap, ro, L, rfl, h2, h3, h4, h5⟩ := h.at (by omega)
  have hL : ∀ k, k < 3 → L[o + i * 3 + k]? = (pkC e)[k]? := by
    intro k hk
    rw [Nat.add_assoc, sl_get h3 (by omega), rows_at (f := pkC) (sz := 3) (fun _ => rfl) he hk]
  exact ⟨q, o, cap, ro, L, rfl, h2, hi, by omega, hL 0 (by omega), hL 1 (by omega), hL 2 (by omega)⟩
end Go.Am.F10
end
