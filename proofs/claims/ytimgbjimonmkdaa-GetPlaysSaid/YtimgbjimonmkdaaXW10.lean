import Derived.Test.YtimgbjimonmkdaaXV10
import Derived.Test.YtimgbjimonmkdaaXE06
set_option linter.unusedSimpArgs false
set_option linter.unusedVariables false
namespace Go.Am.F10
open Go.Am.F06
structure RelM (xs : List Int) (o : Int) (s : MemSt) : Prop where
  cells : s.cells = xs
  ops : s.ops = o
  log : s.log.length ≤ 256
theorem RelM.new (n : Int) : RelM (List.replicate (bN n) 0) 0 (newSt n) := ⟨rfl, rfl, by simp [newSt]⟩
theorem getD_set {xs : List Int} {a : Nat} (h : a < xs.length) : xs.set a (xs.getD a 0) = xs := by
  apply List.ext_getElem?
  intro j
  by_cases hj : a = j
  · subst hj
    rw [List.getElem?_set_self h, List.getD_eq_getElem?_getD, List.getElem?_eq_getElem h]; rfl
  · rw [List.getElem?_set_ne hj]
theorem RelM.acc {xs : List Int} {o : Int} {s : MemSt} (h : RelM xs o s) {a : Nat} (ha : a < xs.length) (k : Int) (g : Int → Int × Bool) :
    ∃ s', accS k g s a = some (xs.getD a 0, (g (xs.getD a 0)).2, s') ∧ RelM (xs.set a (g (xs.getD a 0)).1) (IntKind.u64.wrap (o + 1)) s' := by
  obtain ⟨rfl, rfl, hl⟩ := h
  refine ⟨noted { s with cells := s.cells.set a (g (s.cells.getD a 0)).1 } ⟨k, a, s.cells.getD a 0, (g (s.cells.getD a 0)).1⟩ (g (s.cells.getD a 0)).2, ?_, rfl, rfl, ?_⟩
  · unfold accS
    rw [if_pos hl, if_pos (by omega), Int.toNat_natCast]
  · show (logMore _ _).2.length ≤ 256
    unfold logMore
    split
    · rename_i h2; simp only [List.length_append, List.length_cons, List.length_nil]; simp only at h2; omega
    · simp only [List.length_append, List.length_drop, List.length_cons, List.length_nil]; omega
theorem RelM.load {M : MM} {j : Nat} {xs : List Int} {o : Int} {s : MemSt} (h : RelM xs o s) (hM : M[j]? = some (.abs (.mem s))) {a : Nat} (ha : a < xs.length) :
    ∃ s', memF loadS [.ptr j 0, .int .i64 a] M = some (.int .u64 (xs.getD a 0), M.set j (.abs (.mem s'))) ∧ RelM xs (IntKind.u64.wrap (o + 1)) s' := by
  obtain ⟨s', h1, h2⟩ := h.acc ha 1 (fun w => (w, true))
  rw [getD_set ha] at h2
  exact ⟨s', by simp only [memF, hM, loadS, h1, Option.map_some], h2⟩
theorem RelM.store {M : MM} {j : Nat} {xs : List Int} {o : Int} {s : MemSt} (h : RelM xs o s) (hM : M[j]? = some (.abs (.mem s))) {a : Nat} (ha : a < xs.length) (x : Int) :
    ∃ s', memF storeS [.ptr j 0, .int .i64 a, .int .u64 x] M = some (.tup [], M.set j (.abs (.mem s'))) ∧ RelM (xs.set a x) (IntKind.u64.wrap (o + 1)) s' := by
  obtain ⟨s', h1, h2⟩ := h.acc ha 2 (fun w => (x, true))
  exact ⟨s', by simp only [memF, hM, storeS, h1, Option.map_some], h2⟩
def KeepX {X : Type} (j k : Nat) (m m' : Mem X) : Prop := m.length ≤ m'.length ∧ ∀ i, i < m.length → i ≠ j → i ≠ k → m'[i]? = m[i]?
section
variable {X : Type} {j k : Nat}
theorem KeepX.refl (m : Mem X) : KeepX j k m m := ⟨Nat.le_refl _, fun _ _ _ _ => rfl⟩
theorem KeepX.trans {m m' m'' : Mem X} (h : KeepX j k m m') (i : KeepX j k m' m'') : KeepX j k m m'' :=
  ⟨Nat.le_trans h.1 i.1, fun a ha h1 h2 => (i.2 a (Nat.lt_of_lt_of_le ha h.1) h1 h2).trans (h.2 a ha h1 h2)⟩
theorem KeepX.of {m m' : Mem X} (h : Keep m m') : KeepX j k m m' := ⟨h.1, fun i hi _ _ => h.2 i hi⟩
theorem KeepX.setL {m m' : Mem X} (h : KeepX j k m m') (c : Chunk X) : KeepX j k m (m'.set j c) := ⟨by simpa using h.1, fun i hi h1 h2 => by rw [List.getElem?_set_ne (fun h => h1 h.symm)]; exact h.2 i hi h1 h2⟩
theorem KeepX.setR {m m' : Mem X} (h : KeepX j k m m') (c : Chunk X) : KeepX j k m (m'.set k c) := ⟨by simpa using h.1, fun i hi h1 h2 => by rw [List.getElem?_set_ne (fun h => h2 h.symm)]; exact h.2 i hi h1 h2⟩
theorem KeepX.set {m m' : Mem X} (h : KeepX j k m m') {q : Nat} (hq : m.length ≤ q) (c : Chunk X) : KeepX j k m (m'.set q c) := ⟨by simpa using h.1, fun i hi h1 h2 => by rw [List.getElem?_set_ne (by omega)]; exact h.2 i hi h1 h2⟩
theorem KeepX.app {m m' : Mem X} (h : KeepX j k m m') (K : Mem X) : KeepX j k m (m' ++ K) := h.trans (.of (Keep.app _ _))
theorem KeepX.get {m m' : Mem X} (h : KeepX j k m m') {i : Nat} {c : Chunk X} (hi : m[i]? = some c) (h1 : i ≠ j) (h2 : i ≠ k) : m'[i]? = some c := (h.2 i (List.getElem?_eq_some_iff.1 hi).1 h1 h2).trans hi
theorem KeepX.sl {m m' : Mem X} (h : KeepX j k m m') {szj szk : Nat} {wr : Bool} {sz n : Nat} {l : List AV} {v : AV} (hj : ∀ ro L, m[j]? ≠ some (.cells sz ro L)) (hk : ∀ ro L, m[k]? ≠ some (.cells sz ro L)) (hs : Sl m wr sz n l v) : Sl m' wr sz n l v := by
  refine ⟨hs.1, ?_⟩
  rcases hs.2 with h1 | ⟨q, o, cap, h1, h2⟩
  · exact .inl h1
  · refine .inr ⟨q, o, cap, h1, fun h0 => ?_⟩
    obtain ⟨ro, L, h3, h4⟩ := h2 h0
    refine ⟨ro, L, h.get h3 (fun hq => ?_) (fun hq => ?_), h4⟩
    · rw [hq] at h3; exact hj _ _ h3
    · rw [hq] at h3; exact hk _ _ h3
end
theorem take_more {xs : List Int} {i : Nat} {x : Int} (h : xs[i]? = some x) (n : Nat) (hn : n = xs.length) : (xs.take i ++ List.replicate (n - i) 0).set i x = xs.take (i + 1) ++ List.replicate (n - (i + 1)) 0 := by
  subst hn
  have hi : i < xs.length := (List.getElem?_eq_some_iff.1 h).1
  have hl : (xs.take i).length = i := by rw [List.length_take]; omega
  rw [List.set_append_right _ _ (by omega), hl, Nat.sub_self, List.take_add_one, h]
  obtain ⟨k, hk⟩ : ∃ k, xs.length - i = k + 1 := ⟨xs.length - i - 1, by omega⟩
  rw [hk, List.replicate_succ, List.set_cons_zero, show xs.length - (i + 1) = k by omega]
  simp
def Gmem : List (Nat × AFun Ob) := [(21, newF), (63, c_ref06_New), (22, memF storeS), (65, c_ref06_Store)]
def MmI (m0 m1 : MM) (xs : List Int) (cv : AV) (k : Nat) (e : List AV) (m : MM) : Prop := ∃ (i : Nat) (s : MemSt) (v y6 : AV),
  e = [cv, .nilp, .ptr m0.length 0, .ptr (m0.length + 1) 0, .ptr m1.length 0, .int .i64 i, y6] ∧ k = xs.length - i ∧ i ≤ xs.length ∧ Keep m0 m ∧ m[m0.length]? = some (.cells 2 false [.nils, .int .u64 0]) ∧ m[m0.length + 1]? = some (.abs (.mem s)) ∧ m[m1.length]? = some (.cells 2 false (memC v i)) ∧
  RelM (xs.take i ++ List.replicate (xs.length - i) 0) i s ∧ SU m false (xs.take i ++ List.replicate (xs.length - i) 0) v
set_option maxHeartbeats 4000000 in
theorem mem_run {m0 : MM} {wr : Bool} {xs : List Int} {cv : AV} (hc : SU m0 wr xs cv) (hn : xs.length ≤ 65536) :
    Fn Gmem docs_Mem [cv] m0 (fun r m' => ∃ s v, r = .tup [.ptr (m0.length + 1) 0, .agg (memC v xs.length)] ∧ Keep m0 m' ∧ m'[m0.length + 1]? = some (.abs (.mem s)) ∧ RelM xs xs.length s ∧ SU m' false xs v) := by
  have a21 : assoc Gmem 21 = some newF := rfl
  have a63 : assoc Gmem 63 = some c_ref06_New := rfl
  have a22 : assoc Gmem 22 = some (memF storeS) := rfl
  have a65 : assoc Gmem 65 = some c_ref06_Store := rfl
  generalize Gmem = G at a21 a63 a22 a65 ⊢
  have hlen := hc.len
  have hbN : bN (xs.length : Int) = xs.length := by unfold bN; omega
  have hnew : ∀ M : MM, newF [.int .i64 xs.length] M = some (.ptr M.length 0, M ++ [.abs (.mem (newSt xs.length))]) := fun M => rfl
  refine Fn_of rfl ?_
  simp (disch := first | assumption | omega | (simp only [List.length_cons, List.length_nil, List.length_set, List.length_append] <;> omega) | (simp only [get_mid, get_mid0, List.cons_append, List.append_assoc, List.getElem?_cons_zero, List.getElem?_cons_succ])) only [docs_Mem, ek, ↓evW, ↓evQ, evB, evS, evL, List.map, AV.cells, List.all, AV.one, Bool.and_true, Bool.true_and, if_true, ↓thenQ_normal, ↓thenQ_exit, ↓thenQ_ret, ↓blockQ_normal, ↓blockQ_ret, ↓blockQ_exit, ↓CW_true, ↓CW_false, CW_true, CW_false, condT, condF, RQ_some, tupA_one, tupA_two, tupA_nil, Nat.reduceSub, Nat.reduceAdd, Nat.reduceMul, Nat.zero_add, Nat.add_zero, Nat.reduceLeDiff, Nat.reduceEqDiff, eqV, eqAll, fillA, and_self, and_true, true_and, Nat.le_refl, Bool.not_true, Bool.not_false, Bool.false_xor, Bool.true_xor, cond_true, cond_false, List.replicate, if_false, reduceIte, resAll, resA, ne_eq, decide_not, decide_true, decide_false, Int.reduceEq, Bool.not_true, Bool.not_false, not_true_eq_false, not_false_eq_true, cond_bool, cond_int, beq_self_eq_true, Int.reduceBEq, Bool.and_self, Bool.and_false, Bool.false_and, Bool.xor_false, Bool.xor_true, loadN_ldC, ldC_none, ldC_somes, stC_aggs, splice, storeN_stC, stC_int, stC_bool, stC_ptr, stC_nilp, stC_sl, stC_nils, getC_gcO, gcO_cells, W_draw_eq, ↓W_scope, ev_clear, evT, evF, evX, evM, ↓exitQ_normal, ↓exitQ_ret, ↓exitQ_exit, saA_self, saO_self, if_pos, if_neg, wrapI, get_concat, set_concat, Int.toNat_natCast, Int.toNat_zero, List.nil_append, Nat.mul_one, decide_eq_true, decide_eq_false, Int.reduceLE, Int.reduceLT, Int.reduceNeg, Bool.false_or, Bool.true_or, Bool.or_false, Bool.or_true, wrapU, Int.reduceAdd, Int.reduceSub, Int.reduceMul, List.append_assoc, List.length_append, get_mid, get_mid0, set_mid, set_mid0, List.length_set, List.length_cons, List.length_nil, List.cons_append, List.getElem?_append_left, List.set_append_left, get_at, get_at0, set_at, set_at0, List.getElem?_set_self, List.getElem?_set_ne, ev_len, hlen, a21, hnew, a63, c_ref06_New]
  refine OK_fn (refnew_run _) ?_
  rintro _ m1 ⟨v0, rfl, k1, s1⟩
  have hone := slOne s1
  simp only [AV.one] at hone
  rw [hbN, cellsOf_nil] at s1
  have hr := RelM.new (xs.length : Int)
  rw [hbN] at hr
  simp (disch := first | assumption | omega | (simp only [List.length_cons, List.length_nil, List.length_set, List.length_append] <;> omega) | (simp only [get_mid, get_mid0, List.cons_append, List.append_assoc, List.getElem?_cons_zero, List.getElem?_cons_succ])) only [ek, ↓evW, ↓evQ, evB, evS, evL, List.map, AV.cells, List.all, AV.one, Bool.and_true, Bool.true_and, if_true, ↓thenQ_normal, ↓thenQ_exit, ↓thenQ_ret, ↓blockQ_normal, ↓blockQ_ret, ↓blockQ_exit, ↓CW_true, ↓CW_false, CW_true, CW_false, condT, condF, RQ_some, tupA_one, tupA_two, tupA_nil, Nat.reduceSub, Nat.reduceAdd, Nat.reduceMul, Nat.zero_add, Nat.add_zero, Nat.reduceLeDiff, Nat.reduceEqDiff, eqV, eqAll, fillA, and_self, and_true, true_and, Nat.le_refl, Bool.not_true, Bool.not_false, Bool.false_xor, Bool.true_xor, cond_true, cond_false, List.replicate, if_false, reduceIte, resAll, resA, ne_eq, decide_not, decide_true, decide_false, Int.reduceEq, Bool.not_true, Bool.not_false, not_true_eq_false, not_false_eq_true, cond_bool, cond_int, beq_self_eq_true, Int.reduceBEq, Bool.and_self, Bool.and_false, Bool.false_and, Bool.xor_false, Bool.xor_true, loadN_ldC, ldC_none, ldC_somes, stC_aggs, splice, storeN_stC, stC_int, stC_bool, stC_ptr, stC_nilp, stC_sl, stC_nils, getC_gcO, gcO_cells, W_draw_eq, ↓W_scope, ev_clear, evT, evF, evX, evM, ↓exitQ_normal, ↓exitQ_ret, ↓exitQ_exit, saA_self, saO_self, if_pos, if_neg, wrapI, get_concat, set_concat, Int.toNat_natCast, Int.toNat_zero, List.nil_append, Nat.mul_one, decide_eq_true, decide_eq_false, Int.reduceLE, Int.reduceLT, Int.reduceNeg, Bool.false_or, Bool.true_or, Bool.or_false, Bool.or_true, wrapU, Int.reduceAdd, Int.reduceSub, Int.reduceMul, List.append_assoc, List.length_append, get_mid, get_mid0, set_mid, set_mid0, List.length_set, List.length_cons, List.length_nil, List.cons_append, List.getElem?_append_left, List.set_append_left, get_at, get_at0, set_at, set_at0, List.getElem?_set_self, List.getElem?_set_ne, memC, hone]
  have g0 : m1[m0.length]? = some (Chunk.cells 2 false [.nils, .int .u64 0]) := k1.get (by rw [get_mid0]; rfl)
  have g1 : m1[m0.length + 1]? = some (.abs (.mem (newSt xs.length))) := k1.get (by rw [get_mid]; rfl)
  have l1 : m0.length + 1 < m1.length := (List.getElem?_eq_some_iff.1 g1).1
  have kk : Keep m0 m1 := (Keep.app m0 _).trans k1
  refine W_loop (MmI m0 m1 xs cv) xs.length (by simp only [FUEL]; omega) ⟨0, newSt xs.length, v0, _, rfl, rfl, by omega, kk.trans (Keep.app _ _), (Keep.app m1 _).get g0, (Keep.app m1 _).get g1, by rw [get_concat]; rfl, hr, (s1.keep (Keep.app _ _)).ro⟩ ?_
  rintro k e m ⟨i, s, v, y6, rfl, rfl, hi, hk, b0, b1, b2, hr, sv⟩
  have hl2 : m1.length < m.length := (List.getElem?_eq_some_iff.1 b2).1
  have hone := slOne sv
  simp only [AV.one] at hone
  have hlen2 := sv.len
  have hll : (xs.take i ++ List.replicate (xs.length - i) 0).length = xs.length := by simp only [List.length_append, List.length_take, List.length_replicate]; omega
  rw [hll] at hlen2
  simp only [memC] at b2
  simp (disch := first | assumption | omega | (simp only [List.length_cons, List.length_nil, List.length_set, List.length_append] <;> omega) | (simp only [get_mid, get_mid0, List.cons_append, List.append_assoc, List.getElem?_cons_zero, List.getElem?_cons_succ])) only [ek, ↓evW, ↓evQ, evB, evS, evL, List.map, AV.cells, List.all, AV.one, Bool.and_true, Bool.true_and, if_true, ↓thenQ_normal, ↓thenQ_exit, ↓thenQ_ret, ↓blockQ_normal, ↓blockQ_ret, ↓blockQ_exit, ↓CW_true, ↓CW_false, CW_true, CW_false, condT, condF, RQ_some, tupA_one, tupA_two, tupA_nil, Nat.reduceSub, Nat.reduceAdd, Nat.reduceMul, Nat.zero_add, Nat.add_zero, Nat.reduceLeDiff, Nat.reduceEqDiff, eqV, eqAll, fillA, and_self, and_true, true_and, Nat.le_refl, Bool.not_true, Bool.not_false, Bool.false_xor, Bool.true_xor, cond_true, cond_false, List.replicate, if_false, reduceIte, resAll, resA, ne_eq, decide_not, decide_true, decide_false, Int.reduceEq, Bool.not_true, Bool.not_false, not_true_eq_false, not_false_eq_true, cond_bool, cond_int, beq_self_eq_true, Int.reduceBEq, Bool.and_self, Bool.and_false, Bool.false_and, Bool.xor_false, Bool.xor_true, loadN_ldC, ldC_none, ldC_somes, stC_aggs, splice, storeN_stC, stC_int, stC_bool, stC_ptr, stC_nilp, stC_sl, stC_nils, getC_gcO, gcO_cells, W_draw_eq, ↓W_scope, ev_clear, evT, evF, evX, evM, ↓exitQ_normal, ↓exitQ_ret, ↓exitQ_exit, saA_self, saO_self, if_pos, if_neg, wrapI, get_concat, set_concat, Int.toNat_natCast, Int.toNat_zero, List.nil_append, Nat.mul_one, decide_eq_true, decide_eq_false, Int.reduceLE, Int.reduceLT, Int.reduceNeg, Bool.false_or, Bool.true_or, Bool.or_false, Bool.or_true, wrapU, Int.reduceAdd, Int.reduceSub, Int.reduceMul, List.append_assoc, List.length_append, get_mid, get_mid0, set_mid, set_mid0, List.length_set, List.length_cons, List.length_nil, List.cons_append, List.getElem?_append_left, List.set_append_left, get_at, get_at0, set_at, set_at0, List.getElem?_set_self, List.getElem?_set_ne, ev_len, hlen]
  by_cases hi2 : i < xs.length
  · obtain ⟨x, hx⟩ : ∃ x, xs[i]? = some x := ⟨_, List.getElem?_eq_getElem (by omega)⟩
    obtain ⟨q, oo, cap, ro, L, rfl, c2, c3, c4, c5, c6⟩ := SU.get (hc.keep hk) hx
    have hqm : q < m.length := (List.getElem?_eq_some_iff.1 c2).1
    obtain ⟨s', f22, r'⟩ := hr.store b1 (a := i) (by omega) x
    have hmore := take_more hx _ rfl
    rw [hmore] at r'
    rw [wrapU (by omega) (by omega)] at r'
    have e1 : q ≠ m0.length + 1 := fun h => by rw [h, b1] at c2; cases c2
    have hq1 : (m.set (m0.length + 1) (.abs (.mem s')))[q]? = some (.cells 1 ro L) := by rw [List.getElem?_set_ne (fun h => e1 h.symm)]; exact c2
    have hsv : SU (m.set (m0.length + 1) (.abs (.mem s'))) false (xs.take i ++ List.replicate (xs.length - i) 0) v := (KeepB.at m _).sl b1 sv
    have hst := refstore_run hsv (by omega) i i x
    have ht : thr (xs.take i ++ List.replicate (xs.length - i) 0) i := ⟨by omega, by omega⟩
    rw [if_pos ht, if_pos ht, Int.toNat_natCast, hmore, wrapU (by omega) (by omega)] at hst
    simp (disch := first | assumption | omega | (simp only [List.length_cons, List.length_nil, List.length_set, List.length_append] <;> omega) | (simp only [get_mid, get_mid0, List.cons_append, List.append_assoc, List.getElem?_cons_zero, List.getElem?_cons_succ])) only [ek, ↓evW, ↓evQ, evB, evS, evL, List.map, AV.cells, List.all, AV.one, Bool.and_true, Bool.true_and, if_true, ↓thenQ_normal, ↓thenQ_exit, ↓thenQ_ret, ↓blockQ_normal, ↓blockQ_ret, ↓blockQ_exit, ↓CW_true, ↓CW_false, CW_true, CW_false, condT, condF, RQ_some, tupA_one, tupA_two, tupA_nil, Nat.reduceSub, Nat.reduceAdd, Nat.reduceMul, Nat.zero_add, Nat.add_zero, Nat.reduceLeDiff, Nat.reduceEqDiff, eqV, eqAll, fillA, and_self, and_true, true_and, Nat.le_refl, Bool.not_true, Bool.not_false, Bool.false_xor, Bool.true_xor, cond_true, cond_false, List.replicate, if_false, reduceIte, resAll, resA, ne_eq, decide_not, decide_true, decide_false, Int.reduceEq, Bool.not_true, Bool.not_false, not_true_eq_false, not_false_eq_true, cond_bool, cond_int, beq_self_eq_true, Int.reduceBEq, Bool.and_self, Bool.and_false, Bool.false_and, Bool.xor_false, Bool.xor_true, loadN_ldC, ldC_none, ldC_somes, stC_aggs, splice, storeN_stC, stC_int, stC_bool, stC_ptr, stC_nilp, stC_sl, stC_nils, getC_gcO, gcO_cells, W_draw_eq, ↓W_scope, ev_clear, evT, evF, evX, evM, ↓exitQ_normal, ↓exitQ_ret, ↓exitQ_exit, saA_self, saO_self, if_pos, if_neg, wrapI, get_concat, set_concat, Int.toNat_natCast, Int.toNat_zero, List.nil_append, Nat.mul_one, decide_eq_true, decide_eq_false, Int.reduceLE, Int.reduceLT, Int.reduceNeg, Bool.false_or, Bool.true_or, Bool.or_false, Bool.or_true, wrapU, Int.reduceAdd, Int.reduceSub, Int.reduceMul, List.append_assoc, List.length_append, get_mid, get_mid0, set_mid, set_mid0, List.length_set, List.length_cons, List.length_nil, List.cons_append, List.getElem?_append_left, List.set_append_left, get_at, get_at0, set_at, set_at0, List.getElem?_set_self, List.getElem?_set_ne, ev_len, hlen, hlen2, b2, c2, c6, a22, f22, hq1, a65, c_ref06_Store]
    refine OK_fn hst ?_
    rintro _ m2 ⟨k2, v', rfl, s2⟩
    have hone' := slOne s2
    simp only [AV.one] at hone'
    have d0 : m2[m0.length]? = some (Chunk.cells 2 false [.nils, .int .u64 0]) := k2.get (by rw [List.getElem?_set_ne (by omega)]; exact b0)
    have d1 : m2[m0.length + 1]? = some (.abs (.mem s')) := k2.get (List.getElem?_set_self (by omega))
    have d2 : m2[m1.length]? = some (Chunk.cells 2 false [v, .int .u64 i]) := k2.get (by rw [List.getElem?_set_ne (by omega)]; exact b2)
    have hl3 : m1.length < m2.length := (List.getElem?_eq_some_iff.1 d2).1
    simp (disch := first | assumption | omega | (simp only [List.length_cons, List.length_nil, List.length_set, List.length_append] <;> omega) | (simp only [get_mid, get_mid0, List.cons_append, List.append_assoc, List.getElem?_cons_zero, List.getElem?_cons_succ])) only [ek, ↓evW, ↓evQ, evB, evS, evL, List.map, AV.cells, List.all, AV.one, Bool.and_true, Bool.true_and, if_true, ↓thenQ_normal, ↓thenQ_exit, ↓thenQ_ret, ↓blockQ_normal, ↓blockQ_ret, ↓blockQ_exit, ↓CW_true, ↓CW_false, CW_true, CW_false, condT, condF, RQ_some, tupA_one, tupA_two, tupA_nil, Nat.reduceSub, Nat.reduceAdd, Nat.reduceMul, Nat.zero_add, Nat.add_zero, Nat.reduceLeDiff, Nat.reduceEqDiff, eqV, eqAll, fillA, and_self, and_true, true_and, Nat.le_refl, Bool.not_true, Bool.not_false, Bool.false_xor, Bool.true_xor, cond_true, cond_false, List.replicate, if_false, reduceIte, resAll, resA, ne_eq, decide_not, decide_true, decide_false, Int.reduceEq, Bool.not_true, Bool.not_false, not_true_eq_false, not_false_eq_true, cond_bool, cond_int, beq_self_eq_true, Int.reduceBEq, Bool.and_self, Bool.and_false, Bool.false_and, Bool.xor_false, Bool.xor_true, loadN_ldC, ldC_none, ldC_somes, stC_aggs, splice, storeN_stC, stC_int, stC_bool, stC_ptr, stC_nilp, stC_sl, stC_nils, getC_gcO, gcO_cells, W_draw_eq, ↓W_scope, ev_clear, evT, evF, evX, evM, ↓exitQ_normal, ↓exitQ_ret, ↓exitQ_exit, saA_self, saO_self, if_pos, if_neg, wrapI, get_concat, set_concat, Int.toNat_natCast, Int.toNat_zero, List.nil_append, Nat.mul_one, decide_eq_true, decide_eq_false, Int.reduceLE, Int.reduceLT, Int.reduceNeg, Bool.false_or, Bool.true_or, Bool.or_false, Bool.or_true, wrapU, Int.reduceAdd, Int.reduceSub, Int.reduceMul, List.append_assoc, List.length_append, get_mid, get_mid0, set_mid, set_mid0, List.length_set, List.length_cons, List.length_nil, List.cons_append, List.getElem?_append_left, List.set_append_left, get_at, get_at0, set_at, set_at0, List.getElem?_set_self, List.getElem?_set_ne, memC, d2, hone']
    refine ⟨_, by omega, i + 1, s', v', _, rfl, rfl, by omega, ((hk.set (by omega) _).trans k2).set (by omega) _, ?_, ?_, List.getElem?_set_self hl3, r', (KeepB.at _ _).off (su_box s2 d2) s2⟩
    · rw [List.getElem?_set_ne (by omega)]; exact d0
    · rw [List.getElem?_set_ne (by omega)]; exact d1
  · have hie : i = xs.length := by omega
    subst hie
    have hz : xs.take xs.length ++ List.replicate (xs.length - xs.length) 0 = xs := by rw [List.take_length, Nat.sub_self]; simp
    rw [hz] at hr sv
    simp (disch := first | assumption | omega | (simp only [List.length_cons, List.length_nil, List.length_set, List.length_append] <;> omega) | (simp only [get_mid, get_mid0, List.cons_append, List.append_assoc, List.getElem?_cons_zero, List.getElem?_cons_succ])) only [ek, ↓evW, ↓evQ, evB, evS, evL, List.map, AV.cells, List.all, AV.one, Bool.and_true, Bool.true_and, if_true, ↓thenQ_normal, ↓thenQ_exit, ↓thenQ_ret, ↓blockQ_normal, ↓blockQ_ret, ↓blockQ_exit, ↓CW_true, ↓CW_false, CW_true, CW_false, condT, condF, RQ_some, tupA_one, tupA_two, tupA_nil, Nat.reduceSub, Nat.reduceAdd, Nat.reduceMul, Nat.zero_add, Nat.add_zero, Nat.reduceLeDiff, Nat.reduceEqDiff, eqV, eqAll, fillA, and_self, and_true, true_and, Nat.le_refl, Bool.not_true, Bool.not_false, Bool.false_xor, Bool.true_xor, cond_true, cond_false, List.replicate, if_false, reduceIte, resAll, resA, ne_eq, decide_not, decide_true, decide_false, Int.reduceEq, Bool.not_true, Bool.not_false, not_true_eq_false, not_false_eq_true, cond_bool, cond_int, beq_self_eq_true, Int.reduceBEq, Bool.and_self, Bool.and_false, Bool.false_and, Bool.xor_false, Bool.xor_true, loadN_ldC, ldC_none, ldC_somes, stC_aggs, splice, storeN_stC, stC_int, stC_bool, stC_ptr, stC_nilp, stC_sl, stC_nils, getC_gcO, gcO_cells, W_draw_eq, ↓W_scope, ev_clear, evT, evF, evX, evM, ↓exitQ_normal, ↓exitQ_ret, ↓exitQ_exit, saA_self, saO_self, if_pos, if_neg, wrapI, get_concat, set_concat, Int.toNat_natCast, Int.toNat_zero, List.nil_append, Nat.mul_one, decide_eq_true, decide_eq_false, Int.reduceLE, Int.reduceLT, Int.reduceNeg, Bool.false_or, Bool.true_or, Bool.or_false, Bool.or_true, wrapU, Int.reduceAdd, Int.reduceSub, Int.reduceMul, List.append_assoc, List.length_append, get_mid, get_mid0, set_mid, set_mid0, List.length_set, List.length_cons, List.length_nil, List.cons_append, List.getElem?_append_left, List.set_append_left, get_at, get_at0, set_at, set_at0, List.getElem?_set_self, List.getElem?_set_ne, ev_len, hlen, b0, b2, hone]
    exact ⟨s, v, rfl, hk.set (by omega) _, b1, hr, (KeepB.at _ _).off (su_box sv b0) sv⟩
end Go.Am.F10
