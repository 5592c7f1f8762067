/- does: an act on a memory and on the book. -/
import Derived.Test.YtldpldoehjpnaaaXB06
set_option linter.unusedSimpArgs false
set_option linter.unusedVariables false
namespace Go.Am.F06

/-- What was there is there, but for chunk k. -/
def KeepB {X : Type} (k : Nat) (m m' : Mem X) : Prop := m.length ≤ m'.length ∧ ∀ i, i < m.length → i ≠ k → m'[i]? = m[i]?
section
variable {X : Type} {k : Nat}
theorem KeepB.refl (m : Mem X) : KeepB k m m := ⟨Nat.le_refl _, fun _ _ _ => rfl⟩
theorem KeepB.trans {m m' m'' : Mem X} (h : KeepB k m m') (j : KeepB k m' m'') : KeepB k m m'' :=
  ⟨Nat.le_trans h.1 j.1, fun i hi hk => (j.2 i (Nat.lt_of_lt_of_le hi h.1) hk).trans (h.2 i hi hk)⟩
theorem KeepB.of {m m' : Mem X} (h : Keep m m') : KeepB k m m' := ⟨h.1, fun i hi _ => h.2 i hi⟩
theorem KeepB.app (m J : Mem X) : KeepB k m (m ++ J) := .of (Keep.app m J)
theorem KeepB.at (m : Mem X) (c : Chunk X) : KeepB k m (m.set k c) := ⟨by simp, fun i hi hk => by rw [List.getElem?_set_ne (fun h => hk h.symm)]⟩
theorem KeepB.set {m m' : Mem X} (h : KeepB k m m') {q : Nat} (hq : m.length ≤ q) (c : Chunk X) : KeepB k m (m'.set q c) :=
  ⟨by simpa using h.1, fun i hi hk => by rw [List.getElem?_set_ne (by omega)]; exact h.2 i hi hk⟩
theorem KeepB.get {m m' : Mem X} (h : KeepB k m m') {i : Nat} {c : Chunk X} (hi : m[i]? = some c) (hk : i ≠ k) : m'[i]? = some c := (h.2 i (List.getElem?_eq_some_iff.1 hi).1 hk).trans hi
theorem KeepB.sl {m m' : Mem X} (h : KeepB k m m') {x : X} (hk : m[k]? = some (.abs x)) {wr : Bool} {sz n : Nat} {l : List AV} {v : AV} (hs : Sl m wr sz n l v) : Sl m' wr sz n l v := by
  refine ⟨hs.1, ?_⟩
  rcases hs.2 with h1 | ⟨q, o, cap, h1, h2⟩
  · exact .inl h1
  · refine .inr ⟨q, o, cap, h1, fun h0 => ?_⟩
    obtain ⟨ro, L, h3, h4⟩ := h2 h0
    refine ⟨ro, L, h.get h3 (fun hq => ?_), h4⟩
    rw [hq, hk] at h3; injection h3 with h3; cases h3
theorem get_at {α : Type} {l k : List α} {n i : Nat} (h : l.length = n) : (l ++ k)[n + i]? = k[i]? := by rw [← h]; exact get_mid
theorem get_at0 {α : Type} {l k : List α} {n : Nat} (h : l.length = n) : (l ++ k)[n]? = k[0]? := by rw [← h]; exact get_mid0
theorem set_at {α : Type} {l k : List α} {n i : Nat} {y : α} (h : l.length = n) : (l ++ k).set (n + i) y = l ++ k.set i y := by rw [← h]; exact set_mid
theorem set_at0 {α : Type} {l k : List α} {n : Nat} {y : α} (h : l.length = n) : (l ++ k).set n y = l ++ k.set 0 y := by rw [← h]; exact set_mid0
end

structure Rel (n : Nat) (es : List Acc) (s : MemSt) : Prop where
  cells : s.cells = cellsOf n es
  ops : s.ops = es.length
  log : s.log = es.drop (es.length - 256)
  ok : okE n es

def cnt (s : MemSt) : List Int := [s.loads, s.stores, s.swaps, s.fails, s.adds]
def cntB (k : Int) (ok : Bool) : List Int → List Int
  | [a, b, c, d, e] => [if k = 1 then IntKind.u64.wrap (a + 1) else a, if k = 2 then IntKind.u64.wrap (b + 1) else b, if k = 3 ∧ ok = true then IntKind.u64.wrap (c + 1) else c,
      if k = 3 ∧ ok = false then IntKind.u64.wrap (d + 1) else d, if k ≠ 1 ∧ k ≠ 2 ∧ k ≠ 3 then IntKind.u64.wrap (e + 1) else e]
  | l => l

theorem Rel.logLen {n : Nat} {es : List Acc} {s : MemSt} (h : Rel n es s) : s.log.length ≤ 256 := by rw [h.log, List.length_drop]; omega
theorem acc_out {n : Nat} {es : List Acc} {s : MemSt} (h : Rel n es s) {a : Int} (ha : ¬ (0 ≤ a ∧ a < n)) (k : Int) (g : Int → Int × Bool) : accS k g s a = some (0, false, s) := by
  unfold accS
  rw [if_pos h.logLen, if_neg (by rw [h.cells, cellsOf_len]; exact ha)]
set_option maxRecDepth 20000 in
theorem drop_more {es : List Acc} {s : MemSt} (h : s.log = es.drop (es.length - 256)) (e : Acc) : (logMore s e).2 = (es ++ [e]).drop ((es ++ [e]).length - 256) := by
  have hl : s.log.length = es.length - (es.length - 256) := by rw [h, List.length_drop]
  have hl2 : (es ++ [e]).length = es.length + 1 := by simp
  unfold logMore
  rw [hl2]
  by_cases hc : es.length < 256
  · have e1 : es.length - 256 = 0 := by omega
    have e2 : es.length + 1 - 256 = 0 := by omega
    rw [if_pos (by omega), h, e1, e2]; rfl
  · rw [if_neg (by omega), h]
    show List.drop 1 _ ++ [e] = _
    rw [List.drop_drop, List.drop_append_of_le_length (by omega)]
    congr 2; omega
theorem acc_in {n : Nat} {es : List Acc} {s : MemSt} (h : Rel n es s) (hn : es.length ≤ 1000) {a : Int} (h0 : 0 ≤ a) (h1 : a < n) (k : Int) (g : Int → Int × Bool) :
    ∃ s', accS k g s a = some ((cellsOf n es).getD a.toNat 0, (g ((cellsOf n es).getD a.toNat 0)).2, s') ∧ Rel n (es ++ [⟨k, a, (cellsOf n es).getD a.toNat 0, (g ((cellsOf n es).getD a.toNat 0)).1⟩]) s' ∧ cnt s' = cntB k (g ((cellsOf n es).getD a.toNat 0)).2 (cnt s) := by
  have hl := h.logLen
  generalize hw : (cellsOf n es).getD a.toNat 0 = w
  have hacc : accS k g s a = some (w, (g w).2, noted { s with cells := s.cells.set a.toNat (g w).1 } ⟨k, a, w, (g w).1⟩ (g w).2) := by
    unfold accS
    rw [if_pos hl, if_pos (by rw [h.cells, cellsOf_len]; exact ⟨h0, h1⟩), h.cells, hw]
  refine ⟨_, hacc, ⟨?_, ?_, ?_, ?_⟩, rfl⟩
  · rw [cellsOf_app, ← h.cells]; rfl
  · simp only [noted, List.length_append, List.length_cons, List.length_nil]
    rw [h.ops, wrapU (by omega) (by omega)]; omega
  · exact drop_more h.log _
  · intro e he
    rcases List.mem_append.1 he with he | he
    · exact h.ok e he
    · simp only [List.mem_singleton] at he; subst he; exact ⟨h0, h1⟩

def stepL (n : Nat) (es : List Acc) (kind a old x : Int) : List Acc := match doE n es kind a old x with
  | none => es
  | some e => es ++ [e]
def stepC (n : Nat) (es : List Acc) (kind a old x : Int) (c : List Int) : List Int := match doE n es kind a old x with
  | none => c
  | some e => cntB e.kind (decide (e.old = old)) c
def actC (kind a old x : Int) : List AV := [.int .i64 kind, .int .i64 a, .int .u64 old, .int .u64 x]

def Gdoes : List (Nat × AFun Ob) := [(53, c_ref06_Do), (24, memF loadS), (22, memF storeS), (23, memF casS), (54, c_ref06_Swapped), (44, memF addS)]
def DoesP (m : MM) (j n : Nat) (es : List Acc) (s : MemSt) (kind a old x : Int) (r : AV) (m' : MM) : Prop := KeepB j m m' ∧ ∃ v' s', r = .tup [.agg (bookC n v'), .bool true] ∧ m'[j]? = some (.abs (.mem s')) ∧
  SA m' false (stepL n es kind a old x) v' ∧ Nc v' ∧ Rel n (stepL n es kind a old x) s' ∧ cnt s' = stepC n es kind a old x (cnt s)
theorem swap_run {X : Type} {G : List (Nat × AFun X)} {m : Mem X} (e : Acc) (old : Int) : Fn G ref06_Swapped [.agg (accC e), .int .u64 old] m (fun r m' => r = .bool (decide (e.kind = 3) && decide (e.old = old)) ∧ m' = m ++ [.cells 4 false (accC e)]) := by
  refine Fn_of rfl ?_
  simp (disch := first | assumption | omega | (simp only [List.length_cons, List.length_nil, List.length_set, List.length_append] <;> omega) | (simp only [get_mid, get_mid0, List.cons_append, List.append_assoc, List.getElem?_cons_zero, List.getElem?_cons_succ])) only [ref06_Swapped, ek, ↓evW, ↓evQ, evB, evS, evL, List.map, AV.cells, List.all, AV.one, Bool.and_true, Bool.true_and, if_true, ↓thenQ_normal, ↓thenQ_exit, ↓thenQ_ret, ↓blockQ_normal, ↓blockQ_ret, ↓blockQ_exit, ↓CW_true, ↓CW_false, CW_true, CW_false, condT, condF, RQ_some, tupA_one, tupA_two, tupA_nil, Nat.reduceSub, Nat.reduceAdd, Nat.reduceMul, Nat.zero_add, Nat.add_zero, Nat.reduceLeDiff, Nat.reduceEqDiff, eqV, eqAll, fillA, and_self, and_true, true_and, Nat.le_refl, Bool.not_true, Bool.not_false, Bool.false_xor, Bool.true_xor, cond_true, cond_false, List.replicate, if_false, reduceIte, resAll, resA, ne_eq, decide_not, decide_true, decide_false, Int.reduceEq, Bool.not_true, Bool.not_false, not_true_eq_false, not_false_eq_true, cond_bool, cond_int, beq_self_eq_true, Int.reduceBEq, Bool.and_self, Bool.and_false, Bool.false_and, Bool.xor_false, Bool.xor_true, loadN_ldC, ldC_none, ldC_somes, stC_aggs, splice, storeN_stC, stC_int, stC_bool, stC_ptr, stC_nilp, stC_sl, stC_nils, getC_gcO, gcO_cells, W_draw_eq, ↓W_scope, ev_clear, evT, evF, evX, evM, ↓exitQ_normal, ↓exitQ_ret, ↓exitQ_exit, saA_self, saO_self, if_pos, if_neg, wrapI, get_concat, set_concat, Int.toNat_natCast, Int.toNat_zero, List.nil_append, Nat.mul_one, decide_eq_true, decide_eq_false, Int.reduceLE, Int.reduceLT, Int.reduceNeg, Bool.false_or, Bool.true_or, Bool.or_false, Bool.or_true, wrapU, Int.reduceAdd, Int.reduceSub, Int.reduceMul, List.append_assoc, List.length_append, get_mid, get_mid0, set_mid, set_mid0, List.length_set, List.length_cons, List.length_nil, List.cons_append, List.getElem?_append_left, List.set_append_left, get_at, get_at0, set_at, set_at0, List.getElem?_set_self, List.getElem?_set_ne, accC]
  repeat' ((first | refine GK_of (fun h => ?_) (fun h => ?_) | refine CW_of (fun h => ?_) (fun h => ?_) | refine GKT_of (fun h => ?_) (fun h => ?_)) <;> (try simp only [Bool.not_eq_true', Bool.not_eq_false', decide_eq_true_eq, decide_eq_false_iff_not, Bool.and_eq_true, Bool.or_eq_true, Bool.and_eq_false_iff, Bool.or_eq_false_iff, Decidable.not_not] at h) <;> (try simp (disch := first | assumption | omega | (simp only [List.length_cons, List.length_nil, List.length_set, List.length_append] <;> omega) | (simp only [get_mid, get_mid0, List.cons_append, List.append_assoc, List.getElem?_cons_zero, List.getElem?_cons_succ])) only [ek, ↓evW, ↓evQ, evB, evS, evL, List.map, AV.cells, List.all, AV.one, Bool.and_true, Bool.true_and, if_true, ↓thenQ_normal, ↓thenQ_exit, ↓thenQ_ret, ↓blockQ_normal, ↓blockQ_ret, ↓blockQ_exit, ↓CW_true, ↓CW_false, CW_true, CW_false, condT, condF, RQ_some, tupA_one, tupA_two, tupA_nil, Nat.reduceSub, Nat.reduceAdd, Nat.reduceMul, Nat.zero_add, Nat.add_zero, Nat.reduceLeDiff, Nat.reduceEqDiff, eqV, eqAll, fillA, and_self, and_true, true_and, Nat.le_refl, Bool.not_true, Bool.not_false, Bool.false_xor, Bool.true_xor, cond_true, cond_false, List.replicate, if_false, reduceIte, resAll, resA, ne_eq, decide_not, decide_true, decide_false, Int.reduceEq, Bool.not_true, Bool.not_false, not_true_eq_false, not_false_eq_true, cond_bool, cond_int, beq_self_eq_true, Int.reduceBEq, Bool.and_self, Bool.and_false, Bool.false_and, Bool.xor_false, Bool.xor_true, loadN_ldC, ldC_none, ldC_somes, stC_aggs, splice, storeN_stC, stC_int, stC_bool, stC_ptr, stC_nilp, stC_sl, stC_nils, getC_gcO, gcO_cells, W_draw_eq, ↓W_scope, ev_clear, evT, evF, evX, evM, ↓exitQ_normal, ↓exitQ_ret, ↓exitQ_exit, saA_self, saO_self, if_pos, if_neg, wrapI, get_concat, set_concat, Int.toNat_natCast, Int.toNat_zero, List.nil_append, Nat.mul_one, decide_eq_true, decide_eq_false, Int.reduceLE, Int.reduceLT, Int.reduceNeg, Bool.false_or, Bool.true_or, Bool.or_false, Bool.or_true, wrapU, Int.reduceAdd, Int.reduceSub, Int.reduceMul, List.append_assoc, List.length_append, get_mid, get_mid0, set_mid, set_mid0, List.length_set, List.length_cons, List.length_nil, List.cons_append, List.getElem?_append_left, List.set_append_left, get_at, get_at0, set_at, set_at0, List.getElem?_set_self, List.getElem?_set_ne, accC]))
  all_goals simp_all

theorem memF_of {step : MemSt → List AV → Option (AV × MemSt)} {M : MM} {j : Nat} {s s' : MemSt} {rest : List AV} {v : AV} (hM : M[j]? = some (.abs (.mem s))) (h : step s rest = some (v, s')) : memF step (.ptr j 0 :: rest) M = some (v, M.set j (.abs (.mem s'))) := by
  simp only [memF, hM, h]

def doesT : AC := sqT 2 law06_does.body
theorem does_body : law06_does = { nloc := 15, npar := 3, res := [.cell 5 (some 2), .loc 6], body := .seq (sqN 0 law06_does.body) (.seq (sqN 1 law06_does.body) doesT) } := rfl

set_option maxHeartbeats 8000000 in
theorem does_tail {M : MM} {j k q n : Nat} {s s' : MemSt} {v' : AV} {e : Acc} {ok : Bool} {kind a old x : Int} (hj : M[j]? = some (.abs (.mem s))) (h1 : M[k + 1]? = some (.cells 4 false (actC kind a old x))) (h2 : M[k + 2]? = some (.cells 2 false [.int .i64 0, .nils])) (hone : v'.one = true)
    (h3 : M[q]? = some (.cells 2 false [.int .i64 n, v'])) (h4 : M[q + 1]? = some (.cells 4 false (accC e))) (x1 x2 : AV) (hkq : k + 2 < q) (hjk : j < k)
    (hacc : (kind = 1 ∧ ∃ b, accS 1 (fun w => (w, true)) s a = some (e.old, b, s')) ∨ (kind = 2 ∧ ∃ o b, accS 2 (fun _ => (x, true)) s a = some (o, b, s')) ∨ (kind = 3 ∧ ∃ o, accS 3 (fun w => if w = old then (x, true) else (w, false)) s a = some (o, ok && (decide (e.kind = 3) && decide (e.old = old)), s')) ∨
      (kind = 4 ∧ ∃ b, accS 4 (fun w => (IntKind.u64.wrap (w + x), true)) s a = some (e.old, b, s')) ∨ (kind ≠ 1 ∧ kind ≠ 2 ∧ kind ≠ 3 ∧ kind ≠ 4 ∧ s' = s))
    {Q : AV → MM → Prop} (hQ : ∀ M', M.length ≤ M'.length → (∀ i, i < M.length → i ≠ j → i ≠ k + 2 → M'[i]? = M[i]?) → M'[j]? = some (.abs (.mem s')) → Q (.tup [.agg (bookC n v'), .bool true]) M') :
    W Gdoes doesT (resQ [.cell 5 (some 2), .loc 6] Q) [.ptr j 0, x1, x2, .ptr k 0, .ptr (k + 1) 0, .ptr (k + 2) 0, .bool false, .ptr q 0, .ptr (q + 1) 0, .bool ok, .skip, .skip, .skip, .skip, .skip] M := by
  have a24 : assoc Gdoes 24 = some (memF loadS) := rfl
  have a22 : assoc Gdoes 22 = some (memF storeS) := rfl
  have a23 : assoc Gdoes 23 = some (memF casS) := rfl
  have a54 : assoc Gdoes 54 = some c_ref06_Swapped := rfl
  have a44 : assoc Gdoes 44 = some (memF addS) := rfl
  generalize Gdoes = G at a24 a22 a23 a54 a44
  simp only [AV.one] at hone
  have l1 : j < M.length := (List.getElem?_eq_some_iff.1 hj).1
  have l4 : q + 1 < M.length := (List.getElem?_eq_some_iff.1 h4).1
  have hal : (accC e).length = 4 := rfl
  have htk : (accC e).take 4 = accC e := rfl
  have hg : (accC e)[2]? = some (.int .u64 e.old) := rfl
  have hgA : ∀ k : Nat, (actC kind a old x)[k]? = [AV.int .i64 kind, .int .i64 a, .int .u64 old, .int .u64 x][k]? := fun _ => rfl
  rcases hacc with ⟨rfl, b, hacc⟩ | ⟨rfl, o, b, hacc⟩ | ⟨rfl, o, hacc⟩ | ⟨rfl, b, hacc⟩ | ⟨c1, c2, c3, c4, rfl⟩
  · have hF := memF_of (step := loadS) (rest := [.int .i64 a]) (v := .int .u64 e.old) (s' := s') hj (by simp only [loadS, hacc, Option.map_some])
    simp (disch := first | assumption | omega | (simp only [List.length_cons, List.length_nil, List.length_set, List.length_append] <;> omega) | (simp only [get_mid, get_mid0, List.cons_append, List.append_assoc, List.getElem?_cons_zero, List.getElem?_cons_succ])) only [doesT, sqT, law06_does, ek, ↓evW, ↓evQ, evB, evS, evL, List.map, AV.cells, List.all, AV.one, Bool.and_true, Bool.true_and, if_true, ↓thenQ_normal, ↓thenQ_exit, ↓thenQ_ret, ↓blockQ_normal, ↓blockQ_ret, ↓blockQ_exit, ↓CW_true, ↓CW_false, CW_true, CW_false, condT, condF, RQ_some, tupA_one, tupA_two, tupA_nil, Nat.reduceSub, Nat.reduceAdd, Nat.reduceMul, Nat.zero_add, Nat.add_zero, Nat.reduceLeDiff, Nat.reduceEqDiff, eqV, eqAll, fillA, and_self, and_true, true_and, Nat.le_refl, Bool.not_true, Bool.not_false, Bool.false_xor, Bool.true_xor, cond_true, cond_false, List.replicate, if_false, reduceIte, resAll, resA, ne_eq, decide_not, decide_true, decide_false, Int.reduceEq, Bool.not_true, Bool.not_false, not_true_eq_false, not_false_eq_true, cond_bool, cond_int, beq_self_eq_true, Int.reduceBEq, Bool.and_self, Bool.and_false, Bool.false_and, Bool.xor_false, Bool.xor_true, loadN_ldC, ldC_none, ldC_somes, stC_aggs, splice, storeN_stC, stC_int, stC_bool, stC_ptr, stC_nilp, stC_sl, stC_nils, getC_gcO, gcO_cells, W_draw_eq, ↓W_scope, ev_clear, evT, evF, evX, evM, ↓exitQ_normal, ↓exitQ_ret, ↓exitQ_exit, saA_self, saO_self, if_pos, if_neg, wrapI, get_concat, set_concat, Int.toNat_natCast, Int.toNat_zero, List.nil_append, Nat.mul_one, decide_eq_true, decide_eq_false, Int.reduceLE, Int.reduceLT, Int.reduceNeg, Bool.false_or, Bool.true_or, Bool.or_false, Bool.or_true, wrapU, Int.reduceAdd, Int.reduceSub, Int.reduceMul, List.append_assoc, List.length_append, get_mid, get_mid0, set_mid, set_mid0, List.length_set, List.length_cons, List.length_nil, List.cons_append, List.getElem?_append_left, List.set_append_left, get_at, get_at0, set_at, set_at0, List.getElem?_set_self, List.getElem?_set_ne, h1, hgA, a24, h3, hF, h4, hg, h2, hone]
    refine hQ _ (by simp) (fun i h5 h6 h7 => by rw [List.getElem?_set_ne (by omega), List.getElem?_set_ne (by omega)]) (by rw [List.getElem?_set_ne (by omega), List.getElem?_set_self l1])
  · have hF := memF_of (step := storeS) (rest := [.int .i64 a, .int .u64 x]) (v := .tup []) (s' := s') hj (by simp only [storeS, hacc, Option.map_some])
    simp (disch := first | assumption | omega | (simp only [List.length_cons, List.length_nil, List.length_set, List.length_append] <;> omega) | (simp only [get_mid, get_mid0, List.cons_append, List.append_assoc, List.getElem?_cons_zero, List.getElem?_cons_succ])) only [doesT, sqT, law06_does, ek, ↓evW, ↓evQ, evB, evS, evL, List.map, AV.cells, List.all, AV.one, Bool.and_true, Bool.true_and, if_true, ↓thenQ_normal, ↓thenQ_exit, ↓thenQ_ret, ↓blockQ_normal, ↓blockQ_ret, ↓blockQ_exit, ↓CW_true, ↓CW_false, CW_true, CW_false, condT, condF, RQ_some, tupA_one, tupA_two, tupA_nil, Nat.reduceSub, Nat.reduceAdd, Nat.reduceMul, Nat.zero_add, Nat.add_zero, Nat.reduceLeDiff, Nat.reduceEqDiff, eqV, eqAll, fillA, and_self, and_true, true_and, Nat.le_refl, Bool.not_true, Bool.not_false, Bool.false_xor, Bool.true_xor, cond_true, cond_false, List.replicate, if_false, reduceIte, resAll, resA, ne_eq, decide_not, decide_true, decide_false, Int.reduceEq, Bool.not_true, Bool.not_false, not_true_eq_false, not_false_eq_true, cond_bool, cond_int, beq_self_eq_true, Int.reduceBEq, Bool.and_self, Bool.and_false, Bool.false_and, Bool.xor_false, Bool.xor_true, loadN_ldC, ldC_none, ldC_somes, stC_aggs, splice, storeN_stC, stC_int, stC_bool, stC_ptr, stC_nilp, stC_sl, stC_nils, getC_gcO, gcO_cells, W_draw_eq, ↓W_scope, ev_clear, evT, evF, evX, evM, ↓exitQ_normal, ↓exitQ_ret, ↓exitQ_exit, saA_self, saO_self, if_pos, if_neg, wrapI, get_concat, set_concat, Int.toNat_natCast, Int.toNat_zero, List.nil_append, Nat.mul_one, decide_eq_true, decide_eq_false, Int.reduceLE, Int.reduceLT, Int.reduceNeg, Bool.false_or, Bool.true_or, Bool.or_false, Bool.or_true, wrapU, Int.reduceAdd, Int.reduceSub, Int.reduceMul, List.append_assoc, List.length_append, get_mid, get_mid0, set_mid, set_mid0, List.length_set, List.length_cons, List.length_nil, List.cons_append, List.getElem?_append_left, List.set_append_left, get_at, get_at0, set_at, set_at0, List.getElem?_set_self, List.getElem?_set_ne, h1, hgA, a22, h3, hF, h4, hg, h2, hone]
    refine hQ _ (by simp) (fun i h5 h6 h7 => by rw [List.getElem?_set_ne (by omega), List.getElem?_set_ne (by omega)]) (by rw [List.getElem?_set_ne (by omega), List.getElem?_set_self l1])
  · have hF := memF_of (step := casS) (rest := [.int .i64 a, .int .u64 old, .int .u64 x]) (v := .bool (ok && (decide (e.kind = 3) && decide (e.old = old)))) (s' := s') hj (by simp only [casS, hacc, Option.map_some])
    have hsw := fun (m : MM) => Fn_eq (swap_run (G := []) (m := m) e old)
    cases ok with
    | true =>
      simp only [Bool.true_and] at hF
      simp (disch := first | assumption | omega | (simp only [List.length_cons, List.length_nil, List.length_set, List.length_append] <;> omega) | (simp only [get_mid, get_mid0, List.cons_append, List.append_assoc, List.getElem?_cons_zero, List.getElem?_cons_succ])) only [doesT, sqT, law06_does, ek, ↓evW, ↓evQ, evB, evS, evL, List.map, AV.cells, List.all, AV.one, Bool.and_true, Bool.true_and, if_true, ↓thenQ_normal, ↓thenQ_exit, ↓thenQ_ret, ↓blockQ_normal, ↓blockQ_ret, ↓blockQ_exit, ↓CW_true, ↓CW_false, CW_true, CW_false, condT, condF, RQ_some, tupA_one, tupA_two, tupA_nil, Nat.reduceSub, Nat.reduceAdd, Nat.reduceMul, Nat.zero_add, Nat.add_zero, Nat.reduceLeDiff, Nat.reduceEqDiff, eqV, eqAll, fillA, and_self, and_true, true_and, Nat.le_refl, Bool.not_true, Bool.not_false, Bool.false_xor, Bool.true_xor, cond_true, cond_false, List.replicate, if_false, reduceIte, resAll, resA, ne_eq, decide_not, decide_true, decide_false, Int.reduceEq, Bool.not_true, Bool.not_false, not_true_eq_false, not_false_eq_true, cond_bool, cond_int, beq_self_eq_true, Int.reduceBEq, Bool.and_self, Bool.and_false, Bool.false_and, Bool.xor_false, Bool.xor_true, loadN_ldC, ldC_none, ldC_somes, stC_aggs, splice, storeN_stC, stC_int, stC_bool, stC_ptr, stC_nilp, stC_sl, stC_nils, getC_gcO, gcO_cells, W_draw_eq, ↓W_scope, ev_clear, evT, evF, evX, evM, ↓exitQ_normal, ↓exitQ_ret, ↓exitQ_exit, saA_self, saO_self, if_pos, if_neg, wrapI, get_concat, set_concat, Int.toNat_natCast, Int.toNat_zero, List.nil_append, Nat.mul_one, decide_eq_true, decide_eq_false, Int.reduceLE, Int.reduceLT, Int.reduceNeg, Bool.false_or, Bool.true_or, Bool.or_false, Bool.or_true, wrapU, Int.reduceAdd, Int.reduceSub, Int.reduceMul, List.append_assoc, List.length_append, get_mid, get_mid0, set_mid, set_mid0, List.length_set, List.length_cons, List.length_nil, List.cons_append, List.getElem?_append_left, List.set_append_left, get_at, get_at0, set_at, set_at0, List.getElem?_set_self, List.getElem?_set_ne, h1, hgA, a23, h3, hF, h4, hg, h2, hone, hal, htk, a54, c_ref06_Swapped, hsw]
      refine hQ _ (by simp) (fun i h5 h6 h7 => ?_) ?_
      · rw [List.getElem?_append_left (by simpa using h5), List.getElem?_set_ne (by omega), List.getElem?_set_ne (by omega)]
      · rw [List.getElem?_append_left (by simpa using l1), List.getElem?_set_ne (by omega), List.getElem?_set_self l1]
    | false =>
      simp only [Bool.false_and] at hF
      simp (disch := first | assumption | omega | (simp only [List.length_cons, List.length_nil, List.length_set, List.length_append] <;> omega) | (simp only [get_mid, get_mid0, List.cons_append, List.append_assoc, List.getElem?_cons_zero, List.getElem?_cons_succ])) only [doesT, sqT, law06_does, ek, ↓evW, ↓evQ, evB, evS, evL, List.map, AV.cells, List.all, AV.one, Bool.and_true, Bool.true_and, if_true, ↓thenQ_normal, ↓thenQ_exit, ↓thenQ_ret, ↓blockQ_normal, ↓blockQ_ret, ↓blockQ_exit, ↓CW_true, ↓CW_false, CW_true, CW_false, condT, condF, RQ_some, tupA_one, tupA_two, tupA_nil, Nat.reduceSub, Nat.reduceAdd, Nat.reduceMul, Nat.zero_add, Nat.add_zero, Nat.reduceLeDiff, Nat.reduceEqDiff, eqV, eqAll, fillA, and_self, and_true, true_and, Nat.le_refl, Bool.not_true, Bool.not_false, Bool.false_xor, Bool.true_xor, cond_true, cond_false, List.replicate, if_false, reduceIte, resAll, resA, ne_eq, decide_not, decide_true, decide_false, Int.reduceEq, Bool.not_true, Bool.not_false, not_true_eq_false, not_false_eq_true, cond_bool, cond_int, beq_self_eq_true, Int.reduceBEq, Bool.and_self, Bool.and_false, Bool.false_and, Bool.xor_false, Bool.xor_true, loadN_ldC, ldC_none, ldC_somes, stC_aggs, splice, storeN_stC, stC_int, stC_bool, stC_ptr, stC_nilp, stC_sl, stC_nils, getC_gcO, gcO_cells, W_draw_eq, ↓W_scope, ev_clear, evT, evF, evX, evM, ↓exitQ_normal, ↓exitQ_ret, ↓exitQ_exit, saA_self, saO_self, if_pos, if_neg, wrapI, get_concat, set_concat, Int.toNat_natCast, Int.toNat_zero, List.nil_append, Nat.mul_one, decide_eq_true, decide_eq_false, Int.reduceLE, Int.reduceLT, Int.reduceNeg, Bool.false_or, Bool.true_or, Bool.or_false, Bool.or_true, wrapU, Int.reduceAdd, Int.reduceSub, Int.reduceMul, List.append_assoc, List.length_append, get_mid, get_mid0, set_mid, set_mid0, List.length_set, List.length_cons, List.length_nil, List.cons_append, List.getElem?_append_left, List.set_append_left, get_at, get_at0, set_at, set_at0, List.getElem?_set_self, List.getElem?_set_ne, h1, hgA, a23, h3, hF, h4, hg, h2, hone]
      refine hQ _ (by simp) (fun i h5 h6 h7 => by rw [List.getElem?_set_ne (by omega), List.getElem?_set_ne (by omega)]) (by rw [List.getElem?_set_ne (by omega), List.getElem?_set_self l1])
  · have hF := memF_of (step := addS) (rest := [.int .i64 a, .int .u64 x]) (v := .int .u64 e.old) (s' := s') hj (by simp only [addS, hacc, Option.map_some])
    simp (disch := first | assumption | omega | (simp only [List.length_cons, List.length_nil, List.length_set, List.length_append] <;> omega) | (simp only [get_mid, get_mid0, List.cons_append, List.append_assoc, List.getElem?_cons_zero, List.getElem?_cons_succ])) only [doesT, sqT, law06_does, ek, ↓evW, ↓evQ, evB, evS, evL, List.map, AV.cells, List.all, AV.one, Bool.and_true, Bool.true_and, if_true, ↓thenQ_normal, ↓thenQ_exit, ↓thenQ_ret, ↓blockQ_normal, ↓blockQ_ret, ↓blockQ_exit, ↓CW_true, ↓CW_false, CW_true, CW_false, condT, condF, RQ_some, tupA_one, tupA_two, tupA_nil, Nat.reduceSub, Nat.reduceAdd, Nat.reduceMul, Nat.zero_add, Nat.add_zero, Nat.reduceLeDiff, Nat.reduceEqDiff, eqV, eqAll, fillA, and_self, and_true, true_and, Nat.le_refl, Bool.not_true, Bool.not_false, Bool.false_xor, Bool.true_xor, cond_true, cond_false, List.replicate, if_false, reduceIte, resAll, resA, ne_eq, decide_not, decide_true, decide_false, Int.reduceEq, Bool.not_true, Bool.not_false, not_true_eq_false, not_false_eq_true, cond_bool, cond_int, beq_self_eq_true, Int.reduceBEq, Bool.and_self, Bool.and_false, Bool.false_and, Bool.xor_false, Bool.xor_true, loadN_ldC, ldC_none, ldC_somes, stC_aggs, splice, storeN_stC, stC_int, stC_bool, stC_ptr, stC_nilp, stC_sl, stC_nils, getC_gcO, gcO_cells, W_draw_eq, ↓W_scope, ev_clear, evT, evF, evX, evM, ↓exitQ_normal, ↓exitQ_ret, ↓exitQ_exit, saA_self, saO_self, if_pos, if_neg, wrapI, get_concat, set_concat, Int.toNat_natCast, Int.toNat_zero, List.nil_append, Nat.mul_one, decide_eq_true, decide_eq_false, Int.reduceLE, Int.reduceLT, Int.reduceNeg, Bool.false_or, Bool.true_or, Bool.or_false, Bool.or_true, wrapU, Int.reduceAdd, Int.reduceSub, Int.reduceMul, List.append_assoc, List.length_append, get_mid, get_mid0, set_mid, set_mid0, List.length_set, List.length_cons, List.length_nil, List.cons_append, List.getElem?_append_left, List.set_append_left, get_at, get_at0, set_at, set_at0, List.getElem?_set_self, List.getElem?_set_ne, h1, hgA, a44, h3, hF, h4, hg, h2, hone]
    refine hQ _ (by simp) (fun i h5 h6 h7 => by rw [List.getElem?_set_ne (by omega), List.getElem?_set_ne (by omega)]) (by rw [List.getElem?_set_ne (by omega), List.getElem?_set_self l1])
  · simp (disch := first | assumption | omega | (simp only [List.length_cons, List.length_nil, List.length_set, List.length_append] <;> omega) | (simp only [get_mid, get_mid0, List.cons_append, List.append_assoc, List.getElem?_cons_zero, List.getElem?_cons_succ])) only [doesT, sqT, law06_does, ek, ↓evW, ↓evQ, evB, evS, evL, List.map, AV.cells, List.all, AV.one, Bool.and_true, Bool.true_and, if_true, ↓thenQ_normal, ↓thenQ_exit, ↓thenQ_ret, ↓blockQ_normal, ↓blockQ_ret, ↓blockQ_exit, ↓CW_true, ↓CW_false, CW_true, CW_false, condT, condF, RQ_some, tupA_one, tupA_two, tupA_nil, Nat.reduceSub, Nat.reduceAdd, Nat.reduceMul, Nat.zero_add, Nat.add_zero, Nat.reduceLeDiff, Nat.reduceEqDiff, eqV, eqAll, fillA, and_self, and_true, true_and, Nat.le_refl, Bool.not_true, Bool.not_false, Bool.false_xor, Bool.true_xor, cond_true, cond_false, List.replicate, if_false, reduceIte, resAll, resA, ne_eq, decide_not, decide_true, decide_false, Int.reduceEq, Bool.not_true, Bool.not_false, not_true_eq_false, not_false_eq_true, cond_bool, cond_int, beq_self_eq_true, Int.reduceBEq, Bool.and_self, Bool.and_false, Bool.false_and, Bool.xor_false, Bool.xor_true, loadN_ldC, ldC_none, ldC_somes, stC_aggs, splice, storeN_stC, stC_int, stC_bool, stC_ptr, stC_nilp, stC_sl, stC_nils, getC_gcO, gcO_cells, W_draw_eq, ↓W_scope, ev_clear, evT, evF, evX, evM, ↓exitQ_normal, ↓exitQ_ret, ↓exitQ_exit, saA_self, saO_self, if_pos, if_neg, wrapI, get_concat, set_concat, Int.toNat_natCast, Int.toNat_zero, List.nil_append, Nat.mul_one, decide_eq_true, decide_eq_false, Int.reduceLE, Int.reduceLT, Int.reduceNeg, Bool.false_or, Bool.true_or, Bool.or_false, Bool.or_true, wrapU, Int.reduceAdd, Int.reduceSub, Int.reduceMul, List.append_assoc, List.length_append, get_mid, get_mid0, set_mid, set_mid0, List.length_set, List.length_cons, List.length_nil, List.cons_append, List.getElem?_append_left, List.set_append_left, get_at, get_at0, set_at, set_at0, List.getElem?_set_self, List.getElem?_set_ne, h1, hgA, h3, h4, hg, h2, hone]
    repeat' ((first | refine GK_of (fun h => ?_) (fun h => ?_) | refine CW_of (fun h => ?_) (fun h => ?_) | refine GKT_of (fun h => ?_) (fun h => ?_)) <;> (try simp only [Bool.not_eq_true', Bool.not_eq_false', decide_eq_true_eq, decide_eq_false_iff_not, Bool.and_eq_true, Bool.or_eq_true, Bool.and_eq_false_iff, Bool.or_eq_false_iff, Decidable.not_not] at h) <;> (try simp (disch := first | assumption | omega | (simp only [List.length_cons, List.length_nil, List.length_set, List.length_append] <;> omega) | (simp only [get_mid, get_mid0, List.cons_append, List.append_assoc, List.getElem?_cons_zero, List.getElem?_cons_succ])) only [ek, ↓evW, ↓evQ, evB, evS, evL, List.map, AV.cells, List.all, AV.one, Bool.and_true, Bool.true_and, if_true, ↓thenQ_normal, ↓thenQ_exit, ↓thenQ_ret, ↓blockQ_normal, ↓blockQ_ret, ↓blockQ_exit, ↓CW_true, ↓CW_false, CW_true, CW_false, condT, condF, RQ_some, tupA_one, tupA_two, tupA_nil, Nat.reduceSub, Nat.reduceAdd, Nat.reduceMul, Nat.zero_add, Nat.add_zero, Nat.reduceLeDiff, Nat.reduceEqDiff, eqV, eqAll, fillA, and_self, and_true, true_and, Nat.le_refl, Bool.not_true, Bool.not_false, Bool.false_xor, Bool.true_xor, cond_true, cond_false, List.replicate, if_false, reduceIte, resAll, resA, ne_eq, decide_not, decide_true, decide_false, Int.reduceEq, Bool.not_true, Bool.not_false, not_true_eq_false, not_false_eq_true, cond_bool, cond_int, beq_self_eq_true, Int.reduceBEq, Bool.and_self, Bool.and_false, Bool.false_and, Bool.xor_false, Bool.xor_true, loadN_ldC, ldC_none, ldC_somes, stC_aggs, splice, storeN_stC, stC_int, stC_bool, stC_ptr, stC_nilp, stC_sl, stC_nils, getC_gcO, gcO_cells, W_draw_eq, ↓W_scope, ev_clear, evT, evF, evX, evM, ↓exitQ_normal, ↓exitQ_ret, ↓exitQ_exit, saA_self, saO_self, if_pos, if_neg, wrapI, get_concat, set_concat, Int.toNat_natCast, Int.toNat_zero, List.nil_append, Nat.mul_one, decide_eq_true, decide_eq_false, Int.reduceLE, Int.reduceLT, Int.reduceNeg, Bool.false_or, Bool.true_or, Bool.or_false, Bool.or_true, wrapU, Int.reduceAdd, Int.reduceSub, Int.reduceMul, List.append_assoc, List.length_append, get_mid, get_mid0, set_mid, set_mid0, List.length_set, List.length_cons, List.length_nil, List.cons_append, List.getElem?_append_left, List.set_append_left, get_at, get_at0, set_at, set_at0, List.getElem?_set_self, List.getElem?_set_ne, h1, hgA, h3, h4, hg, h2, hone]))
    all_goals (try (exfalso; omega))
    refine hQ _ (by simp) (fun i h5 h6 h7 => by rw [List.getElem?_set_ne (by omega)]) (by rw [List.getElem?_set_ne (by omega)]; exact hj)

set_option maxHeartbeats 8000000 in
theorem does_run {m : MM} {wr : Bool} {j n : Nat} {es : List Acc} {v : AV} {s : MemSt} (hj : m[j]? = some (.abs (.mem s))) (hr : Rel n es s) (hs : SA m wr es v) (hnc : Nc v) (hn : es.length ≤ 1000) (kind a old x : Int) :
    Fn Gdoes law06_does [.ptr j 0, .agg (bookC n v), .agg (actC kind a old x)] m (DoesP m j n es s kind a old x) := by
  have a53 : assoc Gdoes 53 = some c_ref06_Do := rfl
  have hone := hs.one
  simp only [AV.one] at hone
  have lj : j < m.length := (List.getElem?_eq_some_iff.1 hj).1
  rw [does_body]
  generalize hG : Gdoes = G at a53
  refine Fn_of rfl ?_
  simp (disch := first | assumption | omega | (simp only [List.length_cons, List.length_nil, List.length_set, List.length_append] <;> omega) | (simp only [get_mid, get_mid0, List.cons_append, List.append_assoc, List.getElem?_cons_zero, List.getElem?_cons_succ])) only [sqN, law06_does, ek, ↓evW, ↓evQ, evB, evS, evL, List.map, AV.cells, List.all, AV.one, Bool.and_true, Bool.true_and, if_true, ↓thenQ_normal, ↓thenQ_exit, ↓thenQ_ret, ↓blockQ_normal, ↓blockQ_ret, ↓blockQ_exit, ↓CW_true, ↓CW_false, CW_true, CW_false, condT, condF, RQ_some, tupA_one, tupA_two, tupA_nil, Nat.reduceSub, Nat.reduceAdd, Nat.reduceMul, Nat.zero_add, Nat.add_zero, Nat.reduceLeDiff, Nat.reduceEqDiff, eqV, eqAll, fillA, and_self, and_true, true_and, Nat.le_refl, Bool.not_true, Bool.not_false, Bool.false_xor, Bool.true_xor, cond_true, cond_false, List.replicate, if_false, reduceIte, resAll, resA, ne_eq, decide_not, decide_true, decide_false, Int.reduceEq, Bool.not_true, Bool.not_false, not_true_eq_false, not_false_eq_true, cond_bool, cond_int, beq_self_eq_true, Int.reduceBEq, Bool.and_self, Bool.and_false, Bool.false_and, Bool.xor_false, Bool.xor_true, loadN_ldC, ldC_none, ldC_somes, stC_aggs, splice, storeN_stC, stC_int, stC_bool, stC_ptr, stC_nilp, stC_sl, stC_nils, getC_gcO, gcO_cells, W_draw_eq, ↓W_scope, ev_clear, evT, evF, evX, evM, ↓exitQ_normal, ↓exitQ_ret, ↓exitQ_exit, saA_self, saO_self, if_pos, if_neg, wrapI, get_concat, set_concat, Int.toNat_natCast, Int.toNat_zero, List.nil_append, Nat.mul_one, decide_eq_true, decide_eq_false, Int.reduceLE, Int.reduceLT, Int.reduceNeg, Bool.false_or, Bool.true_or, Bool.or_false, Bool.or_true, wrapU, Int.reduceAdd, Int.reduceSub, Int.reduceMul, List.append_assoc, List.length_append, get_mid, get_mid0, set_mid, set_mid0, List.length_set, List.length_cons, List.length_nil, List.cons_append, List.getElem?_append_left, List.set_append_left, get_at, get_at0, set_at, set_at0, List.getElem?_set_self, List.getElem?_set_ne, bookC, actC, hone, a53, c_ref06_Do]
  refine OK_fn (do_run (v := v) (hs.keep (Keep.app m _)) hr.ok hn kind a old x) ?_
  rintro r m1 ⟨hk, hcase⟩
  have hj1 : m1[j]? = some (.abs (.mem s)) := hk.get (by rw [List.getElem?_append_left lj]; exact hj)
  have g1 : m1[m.length + 1]? = some (.cells 4 false (actC kind a old x)) := hk.get (by rw [get_mid]; rfl)
  have g2 : m1[m.length + 2]? = some (.cells 2 false [.int .i64 0, .nils]) := hk.get (by rw [get_mid]; rfl)
  have l1 : m.length + 3 ≤ m1.length := by have := hk.1; simpa using this
  have hkm : Keep m m1 := (Keep.app m _).trans hk
  have lj1 : j < m1.length := by omega
  rcases hcase with ⟨hd, rfl⟩ | ⟨e, v', hd, rfl, hsa, hf, hnc'⟩
  · have hal : (accC ⟨0, 0, 0, 0⟩).all AV.one = true := rfl
    have hal2 : (accC ⟨0, 0, 0, 0⟩).length = 4 := rfl
    have hal3 : ((accC ⟨0, 0, 0, 0⟩) ++ List.drop 4 [AV.int .i64 0, .int .i64 0, .int .u64 0, .int .u64 0]) = accC ⟨0, 0, 0, 0⟩ := rfl
    simp (disch := first | assumption | omega | (simp only [List.length_cons, List.length_nil, List.length_set, List.length_append] <;> omega) | (simp only [get_mid, get_mid0, List.cons_append, List.append_assoc, List.getElem?_cons_zero, List.getElem?_cons_succ])) only [ek, ↓evW, ↓evQ, evB, evS, evL, List.map, AV.cells, List.all, AV.one, Bool.and_true, Bool.true_and, if_true, ↓thenQ_normal, ↓thenQ_exit, ↓thenQ_ret, ↓blockQ_normal, ↓blockQ_ret, ↓blockQ_exit, ↓CW_true, ↓CW_false, CW_true, CW_false, condT, condF, RQ_some, tupA_one, tupA_two, tupA_nil, Nat.reduceSub, Nat.reduceAdd, Nat.reduceMul, Nat.zero_add, Nat.add_zero, Nat.reduceLeDiff, Nat.reduceEqDiff, eqV, eqAll, fillA, and_self, and_true, true_and, Nat.le_refl, Bool.not_true, Bool.not_false, Bool.false_xor, Bool.true_xor, cond_true, cond_false, List.replicate, if_false, reduceIte, resAll, resA, ne_eq, decide_not, decide_true, decide_false, Int.reduceEq, Bool.not_true, Bool.not_false, not_true_eq_false, not_false_eq_true, cond_bool, cond_int, beq_self_eq_true, Int.reduceBEq, Bool.and_self, Bool.and_false, Bool.false_and, Bool.xor_false, Bool.xor_true, loadN_ldC, ldC_none, ldC_somes, stC_aggs, splice, storeN_stC, stC_int, stC_bool, stC_ptr, stC_nilp, stC_sl, stC_nils, getC_gcO, gcO_cells, W_draw_eq, ↓W_scope, ev_clear, evT, evF, evX, evM, ↓exitQ_normal, ↓exitQ_ret, ↓exitQ_exit, saA_self, saO_self, if_pos, if_neg, wrapI, get_concat, set_concat, Int.toNat_natCast, Int.toNat_zero, List.nil_append, Nat.mul_one, decide_eq_true, decide_eq_false, Int.reduceLE, Int.reduceLT, Int.reduceNeg, Bool.false_or, Bool.true_or, Bool.or_false, Bool.or_true, wrapU, Int.reduceAdd, Int.reduceSub, Int.reduceMul, List.append_assoc, List.length_append, get_mid, get_mid0, set_mid, set_mid0, List.length_set, List.length_cons, List.length_nil, List.cons_append, List.getElem?_append_left, List.set_append_left, get_at, get_at0, set_at, set_at0, List.getElem?_set_self, List.getElem?_set_ne, hone, bookC, hal, hal2, hal3]
    subst hG
    refine does_tail (n := n) (s' := s) (v' := v) (e := ⟨0, 0, 0, 0⟩) (ok := false) (kind := kind) (a := a) (old := old) (x := x) (by rw [List.getElem?_append_left lj1]; exact hj1) (by rw [List.getElem?_append_left (by omega)]; exact g1) (by rw [List.getElem?_append_left (by omega)]; exact g2) hs.one (by rw [get_mid0]; rfl) (by rw [get_mid]; rfl) _ _ (by omega) (by omega) ?_ ?_
    · have hout : ¬ (1 ≤ kind ∧ kind ≤ 4) ∨ ¬ (0 ≤ a ∧ a < n) := by
        unfold doE at hd; split at hd
        · rename_i h; omega
        · cases hd
      by_cases hk1 : kind = 1
      · exact .inl ⟨hk1, _, acc_out hr (by omega) _ _⟩
      by_cases hk2 : kind = 2
      · exact .inr (.inl ⟨hk2, _, _, acc_out hr (by omega) _ _⟩)
      by_cases hk3 : kind = 3
      · exact .inr (.inr (.inl ⟨hk3, _, acc_out hr (by omega) _ _⟩))
      by_cases hk4 : kind = 4
      · exact .inr (.inr (.inr (.inl ⟨hk4, _, acc_out hr (by omega) _ _⟩)))
      exact .inr (.inr (.inr (.inr ⟨hk1, hk2, hk3, hk4, rfl⟩)))
    · intro M' c1 c2 c3
      simp only [List.length_append] at c1 c2
      have hK : KeepB j m M' := ⟨by omega, fun i hi hij => by rw [c2 i (by omega) hij (by omega), List.getElem?_append_left (by omega)]; exact hkm.2 i hi⟩
      refine ⟨hK, v, s, rfl, c3, ?_, hnc, ?_, ?_⟩
      · simp only [stepL, hd]; exact (hK.sl hj hs).ro
      · simp only [stepL, hd]; exact hr
      · simp only [stepC, hd]
  · have hal : (accC e).all AV.one = true := rfl
    have hal2 : (accC e).length = 4 := rfl
    have hal3 : ((accC e) ++ List.drop 4 [AV.int .i64 0, .int .i64 0, .int .u64 0, .int .u64 0]) = accC e := by simp
    have hone' := hsa.one
    simp only [AV.one] at hone'
    simp (disch := first | assumption | omega | (simp only [List.length_cons, List.length_nil, List.length_set, List.length_append] <;> omega) | (simp only [get_mid, get_mid0, List.cons_append, List.append_assoc, List.getElem?_cons_zero, List.getElem?_cons_succ])) only [ek, ↓evW, ↓evQ, evB, evS, evL, List.map, AV.cells, List.all, AV.one, Bool.and_true, Bool.true_and, if_true, ↓thenQ_normal, ↓thenQ_exit, ↓thenQ_ret, ↓blockQ_normal, ↓blockQ_ret, ↓blockQ_exit, ↓CW_true, ↓CW_false, CW_true, CW_false, condT, condF, RQ_some, tupA_one, tupA_two, tupA_nil, Nat.reduceSub, Nat.reduceAdd, Nat.reduceMul, Nat.zero_add, Nat.add_zero, Nat.reduceLeDiff, Nat.reduceEqDiff, eqV, eqAll, fillA, and_self, and_true, true_and, Nat.le_refl, Bool.not_true, Bool.not_false, Bool.false_xor, Bool.true_xor, cond_true, cond_false, List.replicate, if_false, reduceIte, resAll, resA, ne_eq, decide_not, decide_true, decide_false, Int.reduceEq, Bool.not_true, Bool.not_false, not_true_eq_false, not_false_eq_true, cond_bool, cond_int, beq_self_eq_true, Int.reduceBEq, Bool.and_self, Bool.and_false, Bool.false_and, Bool.xor_false, Bool.xor_true, loadN_ldC, ldC_none, ldC_somes, stC_aggs, splice, storeN_stC, stC_int, stC_bool, stC_ptr, stC_nilp, stC_sl, stC_nils, getC_gcO, gcO_cells, W_draw_eq, ↓W_scope, ev_clear, evT, evF, evX, evM, ↓exitQ_normal, ↓exitQ_ret, ↓exitQ_exit, saA_self, saO_self, if_pos, if_neg, wrapI, get_concat, set_concat, Int.toNat_natCast, Int.toNat_zero, List.nil_append, Nat.mul_one, decide_eq_true, decide_eq_false, Int.reduceLE, Int.reduceLT, Int.reduceNeg, Bool.false_or, Bool.true_or, Bool.or_false, Bool.or_true, wrapU, Int.reduceAdd, Int.reduceSub, Int.reduceMul, List.append_assoc, List.length_append, get_mid, get_mid0, set_mid, set_mid0, List.length_set, List.length_cons, List.length_nil, List.cons_append, List.getElem?_append_left, List.set_append_left, get_at, get_at0, set_at, set_at0, List.getElem?_set_self, List.getElem?_set_ne, hone', bookC, hal, hal2, hal3]
    subst hG
    have hin : 1 ≤ kind ∧ kind ≤ 4 ∧ 0 ≤ a ∧ a < n ∧ e = ⟨kind, a, (cellsOf n es).getD a.toNat 0, if kind = 2 ∨ (kind = 3 ∧ (cellsOf n es).getD a.toNat 0 = old) then x else if kind = 4 then IntKind.u64.wrap ((cellsOf n es).getD a.toNat 0 + x) else (cellsOf n es).getD a.toNat 0⟩ := by
      unfold doE at hd; split at hd
      · cases hd
      · rename_i h
        injection hd with hd
        exact ⟨by omega, by omega, by omega, by omega, hd.symm⟩
    obtain ⟨i1, i2, i3, i4, he⟩ := hin
    have hS : ∃ s', Rel n (es ++ [e]) s' ∧ cnt s' = cntB e.kind (decide (e.old = old)) (cnt s) ∧ ((kind = 1 ∧ ∃ b, accS 1 (fun w => (w, true)) s a = some (e.old, b, s')) ∨ (kind = 2 ∧ ∃ o b, accS 2 (fun _ => (x, true)) s a = some (o, b, s')) ∨ (kind = 3 ∧ ∃ o, accS 3 (fun w => if w = old then (x, true) else (w, false)) s a = some (o, true && (decide (e.kind = 3) && decide (e.old = old)), s')) ∨
      (kind = 4 ∧ ∃ b, accS 4 (fun w => (IntKind.u64.wrap (w + x), true)) s a = some (e.old, b, s')) ∨ (kind ≠ 1 ∧ kind ≠ 2 ∧ kind ≠ 3 ∧ kind ≠ 4 ∧ s' = s)) := by
      generalize hw : (cellsOf n es).getD a.toNat 0 = w at he
      subst he
      have hc : ∀ k : Int, k ≠ 3 → ∀ b b' c, cntB k b c = cntB k b' c := by
        intro k hk b b' c
        unfold cntB
        split
        · simp [hk]
        · rfl
      rcases (show kind = 1 ∨ kind = 2 ∨ kind = 3 ∨ kind = 4 by omega) with rfl | rfl | rfl | rfl
      · obtain ⟨s', h1, h2, h3⟩ := acc_in hr hn i3 i4 1 (fun w => (w, true))
        rw [hw] at h1 h2 h3
        exact ⟨s', by simpa using h2, by rw [h3]; exact hc 1 (by decide) _ _ _, .inl ⟨rfl, _, h1⟩⟩
      · obtain ⟨s', h1, h2, h3⟩ := acc_in hr hn i3 i4 2 (fun _ => (x, true))
        rw [hw] at h1 h2
        exact ⟨s', by simpa using h2, by rw [h3]; exact hc 2 (by decide) _ _ _, .inr (.inl ⟨rfl, _, _, h1⟩)⟩
      · obtain ⟨s', h1, h2, h3⟩ := acc_in hr hn i3 i4 3 (fun w => if w = old then (x, true) else (w, false))
        rw [hw] at h1 h2 h3
        by_cases hwo : w = old
        · simp only [if_pos hwo] at h1 h2 h3
          exact ⟨s', by simpa [hwo] using h2, by rw [h3]; simp [hwo], .inr (.inr (.inl ⟨rfl, w, by rw [h1]; simp [hwo]⟩))⟩
        · simp only [if_neg hwo] at h1 h2 h3
          exact ⟨s', by simpa [hwo] using h2, by rw [h3]; simp [hwo], .inr (.inr (.inl ⟨rfl, w, by rw [h1]; simp [hwo]⟩))⟩
      · obtain ⟨s', h1, h2, h3⟩ := acc_in hr hn i3 i4 4 (fun w => (IntKind.u64.wrap (w + x), true))
        rw [hw] at h1 h2 h3
        exact ⟨s', by simpa using h2, by rw [h3]; exact hc 4 (by decide) _ _ _, .inr (.inr (.inr (.inl ⟨rfl, _, h1⟩)))⟩
    obtain ⟨s', hr', hc', hacc⟩ := hS
    refine does_tail (n := n) (s' := s') (v' := v') (e := e) (ok := true) (kind := kind) (a := a) (old := old) (x := x) (by rw [List.getElem?_append_left lj1]; exact hj1) (by rw [List.getElem?_append_left (by omega)]; exact g1) (by rw [List.getElem?_append_left (by omega)]; exact g2) hsa.one (by rw [get_mid0]; rfl) (by rw [get_mid]; rfl) _ _ (by omega) (by omega) hacc ?_
    intro M' c1 c2 c3
    simp only [List.length_append] at c1 c2
    have hK : KeepB j m M' := ⟨by omega, fun i hi hij => by rw [c2 i (by omega) hij (by omega), List.getElem?_append_left (by omega)]; exact hkm.2 i hi⟩
    refine ⟨hK, v', s', rfl, c3, ?_, hnc', ?_, ?_⟩
    · simp only [stepL, hd]
      refine ⟨hsa.1, ?_⟩
      rcases hsa.2 with h | ⟨q, o, cap, h, h2⟩
      · exact .inl h
      · refine .inr ⟨q, o, cap, h, fun h0 => ?_⟩
        obtain ⟨ro, L, h3, h4, h5, _⟩ := h2 h0
        have hq : m.length + 3 ≤ q := by
          rcases hf with hf | ⟨_, _, _, _, hf, hf'⟩
          · rw [hf] at h; cases h
          · rw [hf] at h; injection h with e1; subst e1; simpa using hf'
        have hql : q < m1.length := (List.getElem?_eq_some_iff.1 h3).1
        exact ⟨ro, L, by rw [c2 q (by omega) (by omega) (by omega), List.getElem?_append_left hql]; exact h3, h4, h5, fun h => by cases h⟩
    · simp only [stepL, hd]; exact hr'
    · simp only [stepC, hd]; exact hc'
end Go.Am.F06
