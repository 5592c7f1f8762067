/- CellPlays. -/
import Derived.Test.YtldpldoehjpnaaaXQ06
set_option linter.unusedSimpArgs false
set_option linter.unusedVariables false
namespace Go.Am.F06

def Gplay : List (Nat × AFun Ob) := [(25, pureF worksG), (21, newF), (34, memF fun s rest => (lenAsk s rest).map fun v => (v, s)), (27, c_ref06_NewBook), (35, copyF), (28, amFunc Gdoes law06_does), (36, memF fun s rest => (lastAsk s rest).map fun v => (v, s)),
  (37, amFunc Gmems law06_mems), (32, amFunc Gsb docs_SameBook), (38, c_docs_Access), (39, memF fun s rest => (countAsk s rest).map fun v => (v, s)), (40, amFunc Gcnt law06_count), (41, amFunc Gsame cell_Same)]

theorem last_of {M : MM} {j : Nat} {s : MemSt} (hM : M[j]? = some (.abs (.mem s))) (hl : s.log.length ≤ 65536) : memF (fun s rest => (lastAsk s rest).map fun v => (v, s)) [.ptr j 0] M = some (.tup [.agg (accC (s.log.getLast?.getD ⟨0, 0, 0, 0⟩)), .bool (decide (s.log ≠ []))], M) := by
  simp only [memF, hM, lastAsk, if_pos hl, Option.map_some, set_same hM]
theorem count_of {M : MM} {j : Nat} {s : MemSt} (hM : M[j]? = some (.abs (.mem s))) : memF (fun s rest => (countAsk s rest).map fun v => (v, s)) [.ptr j 0] M = some (.agg (cC (cnt s)), M) := by
  simp only [memF, hM, countAsk, Option.map_some, set_same hM]; rfl
theorem copy_of {M : MM} {j : Nat} {s : MemSt} (hM : M[j]? = some (.abs (.mem s))) (h1 : s.cells.length ≤ 65536) (h2 : s.log.length ≤ 65536) : copyF [.ptr j 0] M = some (.ptr M.length 0, M ++ [.abs (.mem { s with ck := false, pre := [] })]) := by
  simp only [copyF, hM]
  rw [if_pos ⟨h1, h2⟩]
theorem rel_copy {n : Nat} {es : List Acc} {s : MemSt} (h : Rel n es s) : Rel n es { s with ck := false, pre := [] } := ⟨h.cells, h.ops, h.log, h.ok⟩

/-- A room that holds what is there. -/
def Cp (v : AV) : Prop := ∀ q o n c, v = .sl q o n (some c) → n ≤ c
theorem sa_takeC {X : Type} {m : Mem X} {wr : Bool} {es : List Acc} {v : AV} (h : SA m wr es v) (hc : Cp v) (h0 : 0 < es.length) {k : Nat} (hk : k ≤ es.length) : ∃ r, sliceA m 4 v none (some k) none = some r ∧ SA m wr (es.take k) r := by
  obtain ⟨q, o, cap, ro, L, rfl, h2, h3, h4, h5⟩ := h.at h0
  have hsa : ∀ cap', SA m wr (es.take k) (.sl q o k cap') := fun cap' => by
    refine ⟨by rw [accs_len], .inr ⟨q, o, cap', by rw [List.length_take, Nat.min_eq_left hk], fun h0 => ⟨ro, L, h2, ?_, ?_, h5⟩⟩⟩
    · rw [List.length_take, Nat.min_eq_left hk]
      have := congrArg (List.take (k * 4)) h3
      rw [List.take_take, Nat.min_eq_left (by omega)] at this
      rw [this]
      have ht := accs_len (es.take k)
      rw [List.length_take, Nat.min_eq_left hk] at ht
      conv => lhs; rw [← List.take_append_drop k es, List.flatMap_append]
      rw [← ht, List.take_left]
    · rw [List.length_take, Nat.min_eq_left hk]; omega
  cases cap with
  | none =>
    refine ⟨.sl q o k none, ?_, hsa _⟩
    simp only [sliceA, getC_gcO, h2, gcO_cells, Option.getD_none, Option.getD_some]
    rw [if_pos ⟨trivial, by omega, by omega⟩]; simp
  | some c =>
    have := hc _ _ _ _ rfl
    refine ⟨.sl q o k (some c), ?_, hsa _⟩
    simp only [sliceA, Option.getD_none, Option.getD_some]
    rw [if_pos ⟨Nat.le_refl _, by omega, by omega, .inl trivial⟩]
    simp

def PlI (M : MM) (n : Int) (l : List Acc) (lv : AV) (k : Nat) (e : List AV) (m : MM) : Prop := ∃ (i : Nat) (s : MemSt) (vi y6 y7 y8 y9 y10 y11 y12 y13 y14 y15 y16 : AV),
  e = [.int .i64 n, lv, .bool false, .ptr M.length 0, .ptr (M.length + 2) 0, .int .i64 i, y6, y7, y8, y9, y10, y11, y12, y13, y14, y15, y16] ∧ k = l.length - i ∧ i ≤ l.length ∧ Keep M m ∧
    Pair m M.length (M.length + 2) (bN n) (playC (bN n) (l.take i)).1 s vi ∧ cnt s = (playC (bN n) (l.take i)).2

set_option maxHeartbeats 16000000 in
theorem plays_run {M : MM} {wr : Bool} {n : Int} {l : List Acc} {lv : AV} (hlv : SA M wr l lv) (hcp : Cp lv) :
    Fn Gplay law06_CellPlays [.int .i64 n, lv] M (fun r m' => r = .bool true ∧ Keep M m') := by
  have a25 : assoc Gplay 25 = some (pureF worksG) := rfl
  have a21 : assoc Gplay 21 = some newF := rfl
  have a34 : assoc Gplay 34 = some (memF fun s rest => (lenAsk s rest).map fun v => (v, s)) := rfl
  have a27 : assoc Gplay 27 = some c_ref06_NewBook := rfl
  have a35 : assoc Gplay 35 = some copyF := rfl
  have a28 : assoc Gplay 28 = some (amFunc Gdoes law06_does) := rfl
  have a36 : assoc Gplay 36 = some (memF fun s rest => (lastAsk s rest).map fun v => (v, s)) := rfl
  have a37 : assoc Gplay 37 = some (amFunc Gmems law06_mems) := rfl
  have a32 : assoc Gplay 32 = some (amFunc Gsb docs_SameBook) := rfl
  have a38 : assoc Gplay 38 = some c_docs_Access := rfl
  have a39 : assoc Gplay 39 = some (memF fun s rest => (countAsk s rest).map fun v => (v, s)) := rfl
  have a40 : assoc Gplay 40 = some (amFunc Gcnt law06_count) := rfl
  have a41 : assoc Gplay 41 = some (amFunc Gsame cell_Same) := rfl
  generalize Gplay = G at a25 a21 a34 a27 a35 a28 a36 a37 a32 a38 a39 a40 a41 ⊢
  have hll := hlv.len
  refine Fn_of rfl ?_
  by_cases hbig : 60 < l.length
  · simp (disch := first | assumption | omega | (simp only [List.length_cons, List.length_nil, List.length_set, List.length_append] <;> omega) | (simp only [get_mid, get_mid0, List.cons_append, List.append_assoc, List.getElem?_cons_zero, List.getElem?_cons_succ])) only [law06_CellPlays, ek, ↓evW, ↓evQ, evB, evS, evL, List.map, AV.cells, List.all, AV.one, Bool.and_true, Bool.true_and, if_true, ↓thenQ_normal, ↓thenQ_exit, ↓thenQ_ret, ↓blockQ_normal, ↓blockQ_ret, ↓blockQ_exit, ↓CW_true, ↓CW_false, CW_true, CW_false, condT, condF, RQ_some, tupA_one, tupA_two, tupA_nil, Nat.reduceSub, Nat.reduceAdd, Nat.reduceMul, Nat.zero_add, Nat.add_zero, Nat.reduceLeDiff, Nat.reduceEqDiff, eqV, eqAll, fillA, and_self, and_true, true_and, Nat.le_refl, Bool.not_true, Bool.not_false, Bool.false_xor, Bool.true_xor, cond_true, cond_false, List.replicate, if_false, reduceIte, resAll, resA, ne_eq, decide_not, decide_true, decide_false, Int.reduceEq, Bool.not_true, Bool.not_false, not_true_eq_false, not_false_eq_true, cond_bool, cond_int, beq_self_eq_true, Int.reduceBEq, Bool.and_self, Bool.and_false, Bool.false_and, Bool.xor_false, Bool.xor_true, loadN_ldC, ldC_none, ldC_somes, stC_aggs, splice, storeN_stC, stC_int, stC_bool, stC_ptr, stC_nilp, stC_sl, stC_nils, getC_gcO, gcO_cells, W_draw_eq, ↓W_scope, ev_clear, evT, evF, evX, evM, ↓exitQ_normal, ↓exitQ_ret, ↓exitQ_exit, saA_self, saO_self, if_pos, if_neg, wrapI, get_concat, set_concat, Int.toNat_natCast, Int.toNat_zero, List.nil_append, Nat.mul_one, decide_eq_true, decide_eq_false, Int.reduceLE, Int.reduceLT, Int.reduceNeg, Bool.false_or, Bool.true_or, Bool.or_false, Bool.or_true, wrapU, Int.reduceAdd, Int.reduceSub, Int.reduceMul, ev_len, hll, a25, pureF, worksG]
    exact Keep.refl _
  by_cases hn : 40 < n
  · have hnl := len_of (M := M ++ [.abs (.mem (newSt n))]) (j := M.length) (s := newSt n) get_concat
    have hcl : (newSt n).cells.length = bN n := by rw [(rel_new n).cells, cellsOf_len]
    rw [hcl] at hnl
    by_cases hn2 : n ≤ 65536
    · simp (disch := first | assumption | omega | (simp only [List.length_cons, List.length_nil, List.length_set, List.length_append] <;> omega) | (simp only [get_mid, get_mid0, List.cons_append, List.append_assoc, List.getElem?_cons_zero, List.getElem?_cons_succ])) only [law06_CellPlays, ek, ↓evW, ↓evQ, evB, evS, evL, List.map, AV.cells, List.all, AV.one, Bool.and_true, Bool.true_and, if_true, ↓thenQ_normal, ↓thenQ_exit, ↓thenQ_ret, ↓blockQ_normal, ↓blockQ_ret, ↓blockQ_exit, ↓CW_true, ↓CW_false, CW_true, CW_false, condT, condF, RQ_some, tupA_one, tupA_two, tupA_nil, Nat.reduceSub, Nat.reduceAdd, Nat.reduceMul, Nat.zero_add, Nat.add_zero, Nat.reduceLeDiff, Nat.reduceEqDiff, eqV, eqAll, fillA, and_self, and_true, true_and, Nat.le_refl, Bool.not_true, Bool.not_false, Bool.false_xor, Bool.true_xor, cond_true, cond_false, List.replicate, if_false, reduceIte, resAll, resA, ne_eq, decide_not, decide_true, decide_false, Int.reduceEq, Bool.not_true, Bool.not_false, not_true_eq_false, not_false_eq_true, cond_bool, cond_int, beq_self_eq_true, Int.reduceBEq, Bool.and_self, Bool.and_false, Bool.false_and, Bool.xor_false, Bool.xor_true, loadN_ldC, ldC_none, ldC_somes, stC_aggs, splice, storeN_stC, stC_int, stC_bool, stC_ptr, stC_nilp, stC_sl, stC_nils, getC_gcO, gcO_cells, W_draw_eq, ↓W_scope, ev_clear, evT, evF, evX, evM, ↓exitQ_normal, ↓exitQ_ret, ↓exitQ_exit, saA_self, saO_self, if_pos, if_neg, wrapI, get_concat, set_concat, Int.toNat_natCast, Int.toNat_zero, List.nil_append, Nat.mul_one, decide_eq_true, decide_eq_false, Int.reduceLE, Int.reduceLT, Int.reduceNeg, Bool.false_or, Bool.true_or, Bool.or_false, Bool.or_true, wrapU, Int.reduceAdd, Int.reduceSub, Int.reduceMul, ev_len, hll, a25, pureF, worksG]
      exact Keep.refl _
    · have hb : ((bN n : Nat) : Int) = 65536 := by unfold bN; omega
      rw [hb] at hnl
      simp (disch := first | assumption | omega | (simp only [List.length_cons, List.length_nil, List.length_set, List.length_append] <;> omega) | (simp only [get_mid, get_mid0, List.cons_append, List.append_assoc, List.getElem?_cons_zero, List.getElem?_cons_succ])) only [law06_CellPlays, ek, ↓evW, ↓evQ, evB, evS, evL, List.map, AV.cells, List.all, AV.one, Bool.and_true, Bool.true_and, if_true, ↓thenQ_normal, ↓thenQ_exit, ↓thenQ_ret, ↓blockQ_normal, ↓blockQ_ret, ↓blockQ_exit, ↓CW_true, ↓CW_false, CW_true, CW_false, condT, condF, RQ_some, tupA_one, tupA_two, tupA_nil, Nat.reduceSub, Nat.reduceAdd, Nat.reduceMul, Nat.zero_add, Nat.add_zero, Nat.reduceLeDiff, Nat.reduceEqDiff, eqV, eqAll, fillA, and_self, and_true, true_and, Nat.le_refl, Bool.not_true, Bool.not_false, Bool.false_xor, Bool.true_xor, cond_true, cond_false, List.replicate, if_false, reduceIte, resAll, resA, ne_eq, decide_not, decide_true, decide_false, Int.reduceEq, Bool.not_true, Bool.not_false, not_true_eq_false, not_false_eq_true, cond_bool, cond_int, beq_self_eq_true, Int.reduceBEq, Bool.and_self, Bool.and_false, Bool.false_and, Bool.xor_false, Bool.xor_true, loadN_ldC, ldC_none, ldC_somes, stC_aggs, splice, storeN_stC, stC_int, stC_bool, stC_ptr, stC_nilp, stC_sl, stC_nils, getC_gcO, gcO_cells, W_draw_eq, ↓W_scope, ev_clear, evT, evF, evX, evM, ↓exitQ_normal, ↓exitQ_ret, ↓exitQ_exit, saA_self, saO_self, if_pos, if_neg, wrapI, get_concat, set_concat, Int.toNat_natCast, Int.toNat_zero, List.nil_append, Nat.mul_one, decide_eq_true, decide_eq_false, Int.reduceLE, Int.reduceLT, Int.reduceNeg, Bool.false_or, Bool.true_or, Bool.or_false, Bool.or_true, wrapU, Int.reduceAdd, Int.reduceSub, Int.reduceMul, ev_len, hll, a21, new_of, a34, hnl, a25, pureF, worksG]
      exact Keep.app _ _
  have hnb := Fn_eq (newbook_run (G := []) (m := M ++ [.abs (.mem (newSt n))]) n)
  simp only [List.append_assoc, List.cons_append, List.nil_append] at hnb
  have hbn : bN n ≤ 40 := by unfold bN; omega
  simp (disch := first | assumption | omega | (simp only [List.length_cons, List.length_nil, List.length_set, List.length_append] <;> omega) | (simp only [get_mid, get_mid0, List.cons_append, List.append_assoc, List.getElem?_cons_zero, List.getElem?_cons_succ])) only [law06_CellPlays, ek, ↓evW, ↓evQ, evB, evS, evL, List.map, AV.cells, List.all, AV.one, Bool.and_true, Bool.true_and, if_true, ↓thenQ_normal, ↓thenQ_exit, ↓thenQ_ret, ↓blockQ_normal, ↓blockQ_ret, ↓blockQ_exit, ↓CW_true, ↓CW_false, CW_true, CW_false, condT, condF, RQ_some, tupA_one, tupA_two, tupA_nil, Nat.reduceSub, Nat.reduceAdd, Nat.reduceMul, Nat.zero_add, Nat.add_zero, Nat.reduceLeDiff, Nat.reduceEqDiff, eqV, eqAll, fillA, and_self, and_true, true_and, Nat.le_refl, Bool.not_true, Bool.not_false, Bool.false_xor, Bool.true_xor, cond_true, cond_false, List.replicate, if_false, reduceIte, resAll, resA, ne_eq, decide_not, decide_true, decide_false, Int.reduceEq, Bool.not_true, Bool.not_false, not_true_eq_false, not_false_eq_true, cond_bool, cond_int, beq_self_eq_true, Int.reduceBEq, Bool.and_self, Bool.and_false, Bool.false_and, Bool.xor_false, Bool.xor_true, loadN_ldC, ldC_none, ldC_somes, stC_aggs, splice, storeN_stC, stC_int, stC_bool, stC_ptr, stC_nilp, stC_sl, stC_nils, getC_gcO, gcO_cells, W_draw_eq, ↓W_scope, ev_clear, evT, evF, evX, evM, ↓exitQ_normal, ↓exitQ_ret, ↓exitQ_exit, saA_self, saO_self, if_pos, if_neg, wrapI, get_concat, set_concat, Int.toNat_natCast, Int.toNat_zero, List.nil_append, Nat.mul_one, decide_eq_true, decide_eq_false, Int.reduceLE, Int.reduceLT, Int.reduceNeg, Bool.false_or, Bool.true_or, Bool.or_false, Bool.or_true, wrapU, Int.reduceAdd, Int.reduceSub, Int.reduceMul, List.append_assoc, List.length_append, get_mid, get_mid0, set_mid, set_mid0, List.length_set, List.length_cons, List.length_nil, List.cons_append, List.getElem?_append_left, List.set_append_left, get_at, get_at0, set_at, set_at0, List.getElem?_set_self, List.getElem?_set_ne, ev_len, hll, a21, new_of, a27, c_ref06_NewBook, hnb, bookC]
  refine W_loop (PlI M n l lv) l.length (by simp only [FUEL]; omega) ⟨0, newSt n, .nils, _, _, _, _, _, _, _, _, _, _, _, rfl, rfl, by omega, Keep.app _ _, ⟨by rw [get_mid0]; rfl, by rw [get_mid]; rfl, Sl.nil, .inl rfl, rel_new n⟩, rfl⟩ ?_
  clear hnb
  rintro k e m ⟨i, s, vi, y6, y7, y8, y9, y10, y11, y12, y13, y14, y15, y16, rfl, rfl, hi, hk, ⟨p1, p2, p3, p4, p5⟩, hcnt⟩
  have hlm : M.length + 2 < m.length := (List.getElem?_eq_some_iff.1 p2).1
  have hone := p3.one
  simp only [AV.one] at hone
  simp only [bookC] at p2
  simp (disch := first | assumption | omega | (simp only [List.length_cons, List.length_nil, List.length_set, List.length_append] <;> omega) | (simp only [get_mid, get_mid0, List.cons_append, List.append_assoc, List.getElem?_cons_zero, List.getElem?_cons_succ])) only [ek, ↓evW, ↓evQ, evB, evS, evL, List.map, AV.cells, List.all, AV.one, Bool.and_true, Bool.true_and, if_true, ↓thenQ_normal, ↓thenQ_exit, ↓thenQ_ret, ↓blockQ_normal, ↓blockQ_ret, ↓blockQ_exit, ↓CW_true, ↓CW_false, CW_true, CW_false, condT, condF, RQ_some, tupA_one, tupA_two, tupA_nil, Nat.reduceSub, Nat.reduceAdd, Nat.reduceMul, Nat.zero_add, Nat.add_zero, Nat.reduceLeDiff, Nat.reduceEqDiff, eqV, eqAll, fillA, and_self, and_true, true_and, Nat.le_refl, Bool.not_true, Bool.not_false, Bool.false_xor, Bool.true_xor, cond_true, cond_false, List.replicate, if_false, reduceIte, resAll, resA, ne_eq, decide_not, decide_true, decide_false, Int.reduceEq, Bool.not_true, Bool.not_false, not_true_eq_false, not_false_eq_true, cond_bool, cond_int, beq_self_eq_true, Int.reduceBEq, Bool.and_self, Bool.and_false, Bool.false_and, Bool.xor_false, Bool.xor_true, loadN_ldC, ldC_none, ldC_somes, stC_aggs, splice, storeN_stC, stC_int, stC_bool, stC_ptr, stC_nilp, stC_sl, stC_nils, getC_gcO, gcO_cells, W_draw_eq, ↓W_scope, ev_clear, evT, evF, evX, evM, ↓exitQ_normal, ↓exitQ_ret, ↓exitQ_exit, saA_self, saO_self, if_pos, if_neg, wrapI, get_concat, set_concat, Int.toNat_natCast, Int.toNat_zero, List.nil_append, Nat.mul_one, decide_eq_true, decide_eq_false, Int.reduceLE, Int.reduceLT, Int.reduceNeg, Bool.false_or, Bool.true_or, Bool.or_false, Bool.or_true, wrapU, Int.reduceAdd, Int.reduceSub, Int.reduceMul, ev_len, hll]
  refine CW_of (fun h => ?_) (fun h => ?_)
  · simp only [decide_eq_true_eq] at h
    obtain ⟨e, he⟩ : ∃ e, l[i]? = some e := ⟨_, List.getElem?_eq_getElem (by omega)⟩
    have hp := playC_take (n := bN n) he
    have hpl := playC_len (bN n) (l.take i)
    rw [List.length_take] at hpl
    generalize playC (bN n) (l.take i) = p at hp hpl p3 p5 hcnt
    obtain ⟨es, c⟩ := p
    simp only at hp hpl p3 p5 hcnt
    have hlvm : SA m wr l lv := hlv.keep hk
    have hlog := p5.logLen
    have hcl : s.cells.length = bN n := by rw [p5.cells, cellsOf_len]
    have hcopy := copy_of (M := m ++ [Chunk.cells 2 false [.int .i64 0, .nils]]) (j := M.length) (s := s) (by rw [List.getElem?_append_left (by omega)]; exact p1) (by omega) (by omega)
    simp only [List.append_assoc, List.cons_append, List.nil_append, List.length_append, List.length_cons, List.length_nil, Nat.zero_add] at hcopy
    have hdoes := does_run (j := M.length) (s := s) (es := es) (v := vi) (n := bN n) (m := m ++ [Chunk.cells 2 false [.int .i64 (bN n), vi], .abs (.mem { s with ck := false, pre := [] }), Chunk.cells 2 false [.int .i64 0, .nils]]) (by rw [List.getElem?_append_left (by omega)]; exact p1) p5 (p3.keep (Keep.app _ _)) p4 (by omega) e.kind e.at' e.old e.new
    obtain ⟨q, oo, cap, ro, L, rfl, c2, c3, c4, c5, c6, _⟩ := hlvm.get he
    have hqm : q < m.length := (List.getElem?_eq_some_iff.1 c2).1
    simp (disch := first | assumption | omega | (simp only [List.length_cons, List.length_nil, List.length_set, List.length_append] <;> omega) | (simp only [get_mid, get_mid0, List.cons_append, List.append_assoc, List.getElem?_cons_zero, List.getElem?_cons_succ])) only [ek, ↓evW, ↓evQ, evB, evS, evL, List.map, AV.cells, List.all, AV.one, Bool.and_true, Bool.true_and, if_true, ↓thenQ_normal, ↓thenQ_exit, ↓thenQ_ret, ↓blockQ_normal, ↓blockQ_ret, ↓blockQ_exit, ↓CW_true, ↓CW_false, CW_true, CW_false, condT, condF, RQ_some, tupA_one, tupA_two, tupA_nil, Nat.reduceSub, Nat.reduceAdd, Nat.reduceMul, Nat.zero_add, Nat.add_zero, Nat.reduceLeDiff, Nat.reduceEqDiff, eqV, eqAll, fillA, and_self, and_true, true_and, Nat.le_refl, Bool.not_true, Bool.not_false, Bool.false_xor, Bool.true_xor, cond_true, cond_false, List.replicate, if_false, reduceIte, resAll, resA, ne_eq, decide_not, decide_true, decide_false, Int.reduceEq, Bool.not_true, Bool.not_false, not_true_eq_false, not_false_eq_true, cond_bool, cond_int, beq_self_eq_true, Int.reduceBEq, Bool.and_self, Bool.and_false, Bool.false_and, Bool.xor_false, Bool.xor_true, loadN_ldC, ldC_none, ldC_somes, stC_aggs, splice, storeN_stC, stC_int, stC_bool, stC_ptr, stC_nilp, stC_sl, stC_nils, getC_gcO, gcO_cells, W_draw_eq, ↓W_scope, ev_clear, evT, evF, evX, evM, ↓exitQ_normal, ↓exitQ_ret, ↓exitQ_exit, saA_self, saO_self, if_pos, if_neg, wrapI, get_concat, set_concat, Int.toNat_natCast, Int.toNat_zero, List.nil_append, Nat.mul_one, decide_eq_true, decide_eq_false, Int.reduceLE, Int.reduceLT, Int.reduceNeg, Bool.false_or, Bool.true_or, Bool.or_false, Bool.or_true, wrapU, Int.reduceAdd, Int.reduceSub, Int.reduceMul, List.append_assoc, List.length_append, get_mid, get_mid0, set_mid, set_mid0, List.length_set, List.length_cons, List.length_nil, List.cons_append, List.getElem?_append_left, List.set_append_left, get_at, get_at0, set_at, set_at0, List.getElem?_set_self, List.getElem?_set_ne, a35, hcopy, p2, hone, c2, c6, accC, a28]
    refine OKT_fn hdoes ?_
    rintro r m1 ⟨hk1, v', s', rfl, q1, q3, q4, q5, q7⟩
    have hjm : (m ++ [Chunk.cells 2 false [.int .i64 (bN n), vi], .abs (.mem { s with ck := false, pre := [] }), Chunk.cells 2 false [.int .i64 0, .nils]])[M.length]? = some (.abs (.mem s)) := by rw [List.getElem?_append_left (by omega)]; exact p1
    have hlm1 : m.length + 3 ≤ m1.length := by have := hk1.1; simpa using this
    have q2 : m1[M.length + 2]? = some (.cells 2 false [.int .i64 (bN n), vi]) := hk1.get (by rw [List.getElem?_append_left (by omega)]; exact p2) (by omega)
    have q6 : m1[m.length + 2]? = some (.cells 2 false [.int .i64 0, .nils]) := hk1.get (by rw [get_mid]; rfl) (by omega)
    have q8 : m1[m.length]? = some (.cells 2 false [.int .i64 (bN n), vi]) := hk1.get (by rw [get_mid0]; rfl) (by omega)
    have q9 : m1[m.length + 1]? = some (.abs (.mem { s with ck := false, pre := [] })) := hk1.get (by rw [get_mid]; rfl) (by omega)
    have hone' := q3.one
    simp only [AV.one] at hone'
    have hKm : Keep M m1 := ⟨by omega, fun x hx => by rw [hk1.2 x (by simp; omega) (by omega), List.getElem?_append_left (by omega)]; exact hk.2 x hx⟩
    have t1 : SA m1 false es vi := hk1.sl hjm (p3.keep (Keep.app _ _))
    obtain ⟨r1, r2, rs, r4, r5⟩ := pair_set (c := m.length + 2) q1 q2 q6 q3 q4 q5 (by omega) (by omega) (by omega) [.int .i64 (bN n), v']
    have t2 : SA ((m1.set (m.length + 2) (.cells 2 false [.int .i64 (bN n), v'])).set (M.length + 2) (.cells 2 false (bookC (bN n) v'))) false es vi := by
      have h1 : SA (m1.set (m.length + 2) (.cells 2 false [.int .i64 (bN n), v'])) false es vi := (KeepB.at m1 _).off (sa_box t1 q6) t1
      exact (KeepB.at _ _).off (sa_box h1 (by rw [List.getElem?_set_ne (by omega)]; exact q2)) h1
    have hKm2 : Keep M ((m1.set (m.length + 2) (.cells 2 false [.int .i64 (bN n), v'])).set (M.length + 2) (.cells 2 false (bookC (bN n) v'))) := (hKm.set (by omega) _).set (by omega) _
    have r8 : ((m1.set (m.length + 2) (.cells 2 false [.int .i64 (bN n), v'])).set (M.length + 2) (.cells 2 false (bookC (bN n) v')))[m.length]? = some (.cells 2 false [.int .i64 (bN n), vi]) := by
      rw [List.getElem?_set_ne (by omega), List.getElem?_set_ne (by omega)]; exact q8
    have r9 : ((m1.set (m.length + 2) (.cells 2 false [.int .i64 (bN n), v'])).set (M.length + 2) (.cells 2 false (bookC (bN n) v')))[m.length + 1]? = some (.abs (.mem { s with ck := false, pre := [] })) := by
      rw [List.getElem?_set_ne (by omega), List.getElem?_set_ne (by omega)]; exact q9
    simp (disch := first | assumption | omega | (simp only [List.length_cons, List.length_nil, List.length_set, List.length_append] <;> omega) | (simp only [get_mid, get_mid0, List.cons_append, List.append_assoc, List.getElem?_cons_zero, List.getElem?_cons_succ])) only [ek, ↓evW, ↓evQ, evB, evS, evL, List.map, AV.cells, List.all, AV.one, Bool.and_true, Bool.true_and, if_true, ↓thenQ_normal, ↓thenQ_exit, ↓thenQ_ret, ↓blockQ_normal, ↓blockQ_ret, ↓blockQ_exit, ↓CW_true, ↓CW_false, CW_true, CW_false, condT, condF, RQ_some, tupA_one, tupA_two, tupA_nil, Nat.reduceSub, Nat.reduceAdd, Nat.reduceMul, Nat.zero_add, Nat.add_zero, Nat.reduceLeDiff, Nat.reduceEqDiff, eqV, eqAll, fillA, and_self, and_true, true_and, Nat.le_refl, Bool.not_true, Bool.not_false, Bool.false_xor, Bool.true_xor, cond_true, cond_false, List.replicate, if_false, reduceIte, resAll, resA, ne_eq, decide_not, decide_true, decide_false, Int.reduceEq, Bool.not_true, Bool.not_false, not_true_eq_false, not_false_eq_true, cond_bool, cond_int, beq_self_eq_true, Int.reduceBEq, Bool.and_self, Bool.and_false, Bool.false_and, Bool.xor_false, Bool.xor_true, loadN_ldC, ldC_none, ldC_somes, stC_aggs, splice, storeN_stC, stC_int, stC_bool, stC_ptr, stC_nilp, stC_sl, stC_nils, getC_gcO, gcO_cells, W_draw_eq, ↓W_scope, ev_clear, evT, evF, evX, evM, ↓exitQ_normal, ↓exitQ_ret, ↓exitQ_exit, saA_self, saO_self, if_pos, if_neg, wrapI, get_concat, set_concat, Int.toNat_natCast, Int.toNat_zero, List.nil_append, Nat.mul_one, decide_eq_true, decide_eq_false, Int.reduceLE, Int.reduceLT, Int.reduceNeg, Bool.false_or, Bool.true_or, Bool.or_false, Bool.or_true, wrapU, Int.reduceAdd, Int.reduceSub, Int.reduceMul, List.append_assoc, List.length_append, get_mid, get_mid0, set_mid, set_mid0, List.length_set, List.length_cons, List.length_nil, List.cons_append, List.getElem?_append_left, List.set_append_left, get_at, get_at0, set_at, set_at0, List.getElem?_set_self, List.getElem?_set_ne, bookC, q6, q8, q2, hone', q1]
    simp only [bookC] at r1 r2 rs t2 hKm2 r8 r9
    generalize ((m1.set (m.length + 2) (.cells 2 false [.int .i64 (bN n), v'])).set (M.length + 2) (.cells 2 false [.int .i64 (bN n), v'])) = m2 at r1 r2 rs t2 hKm2 r8 r9 ⊢
    have es'l := stepL_len (bN n) es e.kind e.at' e.old e.new
    have hpe : (playC (bN n) (l.take (i + 1))).1 = stepL (bN n) es e.kind e.at' e.old e.new := by rw [hp]
    have hpc : (playC (bN n) (l.take (i + 1))).2 = cnt s' := by rw [hp, q7, hcnt]
    generalize stepL (bN n) es e.kind e.at' e.old e.new = es' at rs r5 es'l hpe
    clear hp q1 q2 q3 q5 q6 q7 q8 q9 t1 hjm hk1 hKm hdoes hcopy p1 p2 hone p3 hcnt hlm1 he
    have hlog' : s'.log = es' := by rw [r5.log, show es'.length - 256 = 0 by omega]; rfl
    have hlast := last_of r1 (by rw [hlog']; omega)
    rw [hlog'] at hlast
    have lm2 : m.length + 1 < m2.length := (List.getElem?_eq_some_iff.1 r9).1
    generalize hle : es'.getLast?.getD ⟨0, 0, 0, 0⟩ = le at hlast
    have hal : (accC le).all AV.one = true := rfl
    have hal2 : (accC le).length = 4 := rfl
    have htk : (accC le).take 4 = accC le := rfl
    obtain ⟨r3, hsl3, hsa3⟩ := sa_takeC (hlv.keep (hKm2.trans (Keep.app m2 [.cells 4 false (accC le)]))) hcp (by omega) (k := i + 1) (by omega)
    have hmems := mems_run (m0 := m2 ++ [.cells 4 false (accC le)]) (j := M.length) (nn := n) (s := s') (by rw [List.getElem?_append_left (by omega)]; exact r1) (by rw [hpe]; exact r5) hsa3 (by rw [List.length_take]; omega)
    have hti : ((i : Int) + 1).toNat = i + 1 := by omega
    simp (disch := first | assumption | omega | (simp only [List.length_cons, List.length_nil, List.length_set, List.length_append] <;> omega) | (simp only [get_mid, get_mid0, List.cons_append, List.append_assoc, List.getElem?_cons_zero, List.getElem?_cons_succ])) only [ek, ↓evW, ↓evQ, evB, evS, evL, List.map, AV.cells, List.all, AV.one, Bool.and_true, Bool.true_and, if_true, ↓thenQ_normal, ↓thenQ_exit, ↓thenQ_ret, ↓blockQ_normal, ↓blockQ_ret, ↓blockQ_exit, ↓CW_true, ↓CW_false, CW_true, CW_false, condT, condF, RQ_some, tupA_one, tupA_two, tupA_nil, Nat.reduceSub, Nat.reduceAdd, Nat.reduceMul, Nat.zero_add, Nat.add_zero, Nat.reduceLeDiff, Nat.reduceEqDiff, eqV, eqAll, fillA, and_self, and_true, true_and, Nat.le_refl, Bool.not_true, Bool.not_false, Bool.false_xor, Bool.true_xor, cond_true, cond_false, List.replicate, if_false, reduceIte, resAll, resA, ne_eq, decide_not, decide_true, decide_false, Int.reduceEq, Bool.not_true, Bool.not_false, not_true_eq_false, not_false_eq_true, cond_bool, cond_int, beq_self_eq_true, Int.reduceBEq, Bool.and_self, Bool.and_false, Bool.false_and, Bool.xor_false, Bool.xor_true, loadN_ldC, ldC_none, ldC_somes, stC_aggs, splice, storeN_stC, stC_int, stC_bool, stC_ptr, stC_nilp, stC_sl, stC_nils, getC_gcO, gcO_cells, W_draw_eq, ↓W_scope, ev_clear, evT, evF, evX, evM, ↓exitQ_normal, ↓exitQ_ret, ↓exitQ_exit, saA_self, saO_self, if_pos, if_neg, wrapI, get_concat, set_concat, Int.toNat_natCast, Int.toNat_zero, List.nil_append, Nat.mul_one, decide_eq_true, decide_eq_false, Int.reduceLE, Int.reduceLT, Int.reduceNeg, Bool.false_or, Bool.true_or, Bool.or_false, Bool.or_true, wrapU, Int.reduceAdd, Int.reduceSub, Int.reduceMul, List.append_assoc, List.length_append, get_mid, get_mid0, set_mid, set_mid0, List.length_set, List.length_cons, List.length_nil, List.cons_append, List.getElem?_append_left, List.set_append_left, get_at, get_at0, set_at, set_at0, List.getElem?_set_self, List.getElem?_set_ne, List.append_nil, a36, hlast, hal, hal2, evA, hti, hsl3, a37]
    refine OK_fn hmems ?_
    rintro _ m4 ⟨rfl, k4⟩
    have k24 : Keep m2 m4 := (Keep.app m2 _).trans k4
    have u1 := k24.get r1
    have u2 := k24.get r2
    have u8 := k24.get r8
    have u9 := k24.get r9
    have u10 : m4[m2.length]? = some (.cells 4 false (accC le)) := k4.get get_concat
    have us : SA m4 false es' v' := rs.keep k24
    have hsb := samebook_run u1 r5 us r4 (by omega) (by omega)
    simp (disch := first | assumption | omega | (simp only [List.length_cons, List.length_nil, List.length_set, List.length_append] <;> omega) | (simp only [get_mid, get_mid0, List.cons_append, List.append_assoc, List.getElem?_cons_zero, List.getElem?_cons_succ])) only [ek, ↓evW, ↓evQ, evB, evS, evL, List.map, AV.cells, List.all, AV.one, Bool.and_true, Bool.true_and, if_true, ↓thenQ_normal, ↓thenQ_exit, ↓thenQ_ret, ↓blockQ_normal, ↓blockQ_ret, ↓blockQ_exit, ↓CW_true, ↓CW_false, CW_true, CW_false, condT, condF, RQ_some, tupA_one, tupA_two, tupA_nil, Nat.reduceSub, Nat.reduceAdd, Nat.reduceMul, Nat.zero_add, Nat.add_zero, Nat.reduceLeDiff, Nat.reduceEqDiff, eqV, eqAll, fillA, and_self, and_true, true_and, Nat.le_refl, Bool.not_true, Bool.not_false, Bool.false_xor, Bool.true_xor, cond_true, cond_false, List.replicate, if_false, reduceIte, resAll, resA, ne_eq, decide_not, decide_true, decide_false, Int.reduceEq, Bool.not_true, Bool.not_false, not_true_eq_false, not_false_eq_true, cond_bool, cond_int, beq_self_eq_true, Int.reduceBEq, Bool.and_self, Bool.and_false, Bool.false_and, Bool.xor_false, Bool.xor_true, loadN_ldC, ldC_none, ldC_somes, stC_aggs, splice, storeN_stC, stC_int, stC_bool, stC_ptr, stC_nilp, stC_sl, stC_nils, getC_gcO, gcO_cells, W_draw_eq, ↓W_scope, ev_clear, evT, evF, evX, evM, ↓exitQ_normal, ↓exitQ_ret, ↓exitQ_exit, saA_self, saO_self, if_pos, if_neg, wrapI, get_concat, set_concat, Int.toNat_natCast, Int.toNat_zero, List.nil_append, Nat.mul_one, decide_eq_true, decide_eq_false, Int.reduceLE, Int.reduceLT, Int.reduceNeg, Bool.false_or, Bool.true_or, Bool.or_false, Bool.or_true, wrapU, Int.reduceAdd, Int.reduceSub, Int.reduceMul, List.append_assoc, List.length_append, get_mid, get_mid0, set_mid, set_mid0, List.length_set, List.length_cons, List.length_nil, List.cons_append, List.getElem?_append_left, List.set_append_left, get_at, get_at0, set_at, set_at0, List.getElem?_set_self, List.getElem?_set_ne, u2, a32]
    refine OKT_fn hsb ?_
    rintro _ m5 ⟨rfl, k5⟩
    have w1 := k5.get u1
    have w2 := k5.get u2
    have w8 := k5.get u8
    have w9 := k5.get u9
    have w10 := k5.get u10
    have hsb2 := samebook_run w9 (rel_copy ‹Rel (bN n) es s›) (t2.keep (k24.trans k5)) p4 (by omega) (by omega)
    simp (disch := first | assumption | omega | (simp only [List.length_cons, List.length_nil, List.length_set, List.length_append] <;> omega) | (simp only [get_mid, get_mid0, List.cons_append, List.append_assoc, List.getElem?_cons_zero, List.getElem?_cons_succ])) only [ek, ↓evW, ↓evQ, evB, evS, evL, List.map, AV.cells, List.all, AV.one, Bool.and_true, Bool.true_and, if_true, ↓thenQ_normal, ↓thenQ_exit, ↓thenQ_ret, ↓blockQ_normal, ↓blockQ_ret, ↓blockQ_exit, ↓CW_true, ↓CW_false, CW_true, CW_false, condT, condF, RQ_some, tupA_one, tupA_two, tupA_nil, Nat.reduceSub, Nat.reduceAdd, Nat.reduceMul, Nat.zero_add, Nat.add_zero, Nat.reduceLeDiff, Nat.reduceEqDiff, eqV, eqAll, fillA, and_self, and_true, true_and, Nat.le_refl, Bool.not_true, Bool.not_false, Bool.false_xor, Bool.true_xor, cond_true, cond_false, List.replicate, if_false, reduceIte, resAll, resA, ne_eq, decide_not, decide_true, decide_false, Int.reduceEq, Bool.not_true, Bool.not_false, not_true_eq_false, not_false_eq_true, cond_bool, cond_int, beq_self_eq_true, Int.reduceBEq, Bool.and_self, Bool.and_false, Bool.false_and, Bool.xor_false, Bool.xor_true, loadN_ldC, ldC_none, ldC_somes, stC_aggs, splice, storeN_stC, stC_int, stC_bool, stC_ptr, stC_nilp, stC_sl, stC_nils, getC_gcO, gcO_cells, W_draw_eq, ↓W_scope, ev_clear, evT, evF, evX, evM, ↓exitQ_normal, ↓exitQ_ret, ↓exitQ_exit, saA_self, saO_self, if_pos, if_neg, wrapI, get_concat, set_concat, Int.toNat_natCast, Int.toNat_zero, List.nil_append, Nat.mul_one, decide_eq_true, decide_eq_false, Int.reduceLE, Int.reduceLT, Int.reduceNeg, Bool.false_or, Bool.true_or, Bool.or_false, Bool.or_true, wrapU, Int.reduceAdd, Int.reduceSub, Int.reduceMul, List.append_assoc, List.length_append, get_mid, get_mid0, set_mid, set_mid0, List.length_set, List.length_cons, List.length_nil, List.cons_append, List.getElem?_append_left, List.set_append_left, get_at, get_at0, set_at, set_at0, List.getElem?_set_self, List.getElem?_set_ne, w8, a32]
    refine OKT_fn hsb2 ?_
    rintro _ m6 ⟨rfl, k6⟩
    have x1 := k6.get w1
    have x2 := k6.get w2
    have x10 := k6.get w10
    have xs : SA m6 false es' v' := us.keep (k5.trans k6)
    have hlen' := xs.len
    have k26 : Keep m2 m6 := k24.trans (k5.trans k6)
    have fin : ∀ (K : MM) (y6 y7 y8 y9 y10 y11 y12 y13 y14 y15 y16 : AV), ∃ k', k' < l.length - i ∧ PlI M n l (.sl q oo l.length cap) k' [.int .i64 n, .sl q oo l.length cap, .bool false, .ptr M.length 0, .ptr (M.length + 2) 0, .int .i64 ((i : Int) + 1), y6, y7, y8, y9, y10, y11, y12, y13, y14, y15, y16] (m6 ++ K) := fun K y6 y7 y8 y9 y10 y11 y12 y13 y14 y15 y16 =>
      ⟨_, by omega, i + 1, s', v', _, _, _, _, _, _, _, _, _, _, _, rfl, rfl, by omega, (hKm2.trans k26).trans (Keep.app _ _), ⟨(Keep.app m6 K).get x1, (Keep.app m6 K).get x2, by rw [hpe]; exact xs.keep (Keep.app m6 K), r4, by rw [hpe]; exact r5⟩, hpc.symm⟩
    by_cases h0 : es' = []
    · have hz : (es'.length : Int) = 0 := by simp [h0]
      simp (disch := first | assumption | omega | (simp only [List.length_cons, List.length_nil, List.length_set, List.length_append] <;> omega) | (simp only [get_mid, get_mid0, List.cons_append, List.append_assoc, List.getElem?_cons_zero, List.getElem?_cons_succ])) only [ek, ↓evW, ↓evQ, evB, evS, evL, List.map, AV.cells, List.all, AV.one, Bool.and_true, Bool.true_and, if_true, ↓thenQ_normal, ↓thenQ_exit, ↓thenQ_ret, ↓blockQ_normal, ↓blockQ_ret, ↓blockQ_exit, ↓CW_true, ↓CW_false, CW_true, CW_false, condT, condF, RQ_some, tupA_one, tupA_two, tupA_nil, Nat.reduceSub, Nat.reduceAdd, Nat.reduceMul, Nat.zero_add, Nat.add_zero, Nat.reduceLeDiff, Nat.reduceEqDiff, eqV, eqAll, fillA, and_self, and_true, true_and, Nat.le_refl, Bool.not_true, Bool.not_false, Bool.false_xor, Bool.true_xor, cond_true, cond_false, List.replicate, if_false, reduceIte, resAll, resA, ne_eq, decide_not, decide_true, decide_false, Int.reduceEq, Bool.not_true, Bool.not_false, not_true_eq_false, not_false_eq_true, cond_bool, cond_int, beq_self_eq_true, Int.reduceBEq, Bool.and_self, Bool.and_false, Bool.false_and, Bool.xor_false, Bool.xor_true, loadN_ldC, ldC_none, ldC_somes, stC_aggs, splice, storeN_stC, stC_int, stC_bool, stC_ptr, stC_nilp, stC_sl, stC_nils, getC_gcO, gcO_cells, W_draw_eq, ↓W_scope, ev_clear, evT, evF, evX, evM, ↓exitQ_normal, ↓exitQ_ret, ↓exitQ_exit, saA_self, saO_self, if_pos, if_neg, wrapI, get_concat, set_concat, Int.toNat_natCast, Int.toNat_zero, List.nil_append, Nat.mul_one, decide_eq_true, decide_eq_false, Int.reduceLE, Int.reduceLT, Int.reduceNeg, Bool.false_or, Bool.true_or, Bool.or_false, Bool.or_true, wrapU, Int.reduceAdd, Int.reduceSub, Int.reduceMul, List.append_assoc, List.length_append, get_mid, get_mid0, set_mid, set_mid0, List.length_set, List.length_cons, List.length_nil, List.cons_append, List.getElem?_append_left, List.set_append_left, get_at, get_at0, set_at, set_at0, List.getElem?_set_self, List.getElem?_set_ne, x2, w2, u2, ev_len, hlen', hz]
      have := fin [] (.ptr (m.length + 1) 0) (.ptr m.length 0) (.ptr (m.length + 2) 0) (.bool true) (.ptr m2.length 0) (.bool false) y12 y13 (.bool true) (.bool false) (.bool false)
      rwa [List.append_nil] at this
    · obtain ⟨n1, hn1⟩ : ∃ n1, es'.length = n1 + 1 := ⟨es'.length - 1, by
        have : es'.length ≠ 0 := fun h => h0 (List.length_eq_zero_iff.1 h)
        omega⟩
      have hgl : es'[n1]? = some le := by
        rw [← hle, List.getLast?_eq_getElem?, hn1, Nat.add_sub_cancel]
        rw [List.getElem?_eq_getElem (by omega)]; rfl
      obtain ⟨q5, o5, cap5, ro5, L5, rfl, d2, d3, d4, d5, d6, _⟩ := SA.get xs hgl
      have hq5 : q5 < m6.length := (List.getElem?_eq_some_iff.1 d2).1
      have hacc := Fn_eq (dacc_run (G := []) (m := m6) le)
      have heq : eqAll [true, true, true, true] (accC le) (accC le) = some true := by simp [accC, eqV, eqAll]
      have ht1 : ((es'.length : Int) - 1).toNat = n1 := by omega
      have hpos : (0 : Int) < es'.length := by omega
      have hlt : (es'.length : Int) - 1 < es'.length := by omega
      have lm6 : m2.length < m6.length := (List.getElem?_eq_some_iff.1 x10).1
      have lb6 : M.length + 2 < m6.length := (List.getElem?_eq_some_iff.1 x2).1
      simp (disch := first | assumption | omega | (simp only [List.length_cons, List.length_nil, List.length_set, List.length_append] <;> omega) | (simp only [get_mid, get_mid0, List.cons_append, List.append_assoc, List.getElem?_cons_zero, List.getElem?_cons_succ])) only [ek, ↓evW, ↓evQ, evB, evS, evL, List.map, AV.cells, List.all, AV.one, Bool.and_true, Bool.true_and, if_true, ↓thenQ_normal, ↓thenQ_exit, ↓thenQ_ret, ↓blockQ_normal, ↓blockQ_ret, ↓blockQ_exit, ↓CW_true, ↓CW_false, CW_true, CW_false, condT, condF, RQ_some, tupA_one, tupA_two, tupA_nil, Nat.reduceSub, Nat.reduceAdd, Nat.reduceMul, Nat.zero_add, Nat.add_zero, Nat.reduceLeDiff, Nat.reduceEqDiff, eqV, eqAll, fillA, and_self, and_true, true_and, Nat.le_refl, Bool.not_true, Bool.not_false, Bool.false_xor, Bool.true_xor, cond_true, cond_false, List.replicate, if_false, reduceIte, resAll, resA, ne_eq, decide_not, decide_true, decide_false, Int.reduceEq, Bool.not_true, Bool.not_false, not_true_eq_false, not_false_eq_true, cond_bool, cond_int, beq_self_eq_true, Int.reduceBEq, Bool.and_self, Bool.and_false, Bool.false_and, Bool.xor_false, Bool.xor_true, loadN_ldC, ldC_none, ldC_somes, stC_aggs, splice, storeN_stC, stC_int, stC_bool, stC_ptr, stC_nilp, stC_sl, stC_nils, getC_gcO, gcO_cells, W_draw_eq, ↓W_scope, ev_clear, evT, evF, evX, evM, ↓exitQ_normal, ↓exitQ_ret, ↓exitQ_exit, saA_self, saO_self, if_pos, if_neg, wrapI, get_concat, set_concat, Int.toNat_natCast, Int.toNat_zero, List.nil_append, Nat.mul_one, decide_eq_true, decide_eq_false, Int.reduceLE, Int.reduceLT, Int.reduceNeg, Bool.false_or, Bool.true_or, Bool.or_false, Bool.or_true, wrapU, Int.reduceAdd, Int.reduceSub, Int.reduceMul, List.append_assoc, List.length_append, get_mid, get_mid0, set_mid, set_mid0, List.length_set, List.length_cons, List.length_nil, List.cons_append, List.getElem?_append_left, List.set_append_left, get_at, get_at0, set_at, set_at0, List.getElem?_set_self, List.getElem?_set_ne, x2, w2, u2, ev_len, hlen', h0, x10, hal2, htk, a38, c_docs_Access, hacc, d2, d6, ht1, heq]
      exact fin _ _ _ _ _ _ _ _ _ _ _ _
  · simp only [decide_eq_false_iff_not] at h
    have hie : i = l.length := by omega
    subst hie
    rw [List.take_length] at p3 p5 hcnt
    have hpl := playC_len (bN n) l
    have hcount := count_of p1
    have hlog := p5.logLen
    have hcl : s.cells.length = bN n := by rw [p5.cells, cellsOf_len]
    have heq : eqAll [true, true, true, true, true] (cC (cnt s)) (cC (cnt s)) = some true := by simp [cC, cnt, eqV, eqAll]
    have hcr := count_run (nn := n) (hlv.keep hk) (by omega)
    rw [← hcnt] at hcr
    simp (disch := first | assumption | omega | (simp only [List.length_cons, List.length_nil, List.length_set, List.length_append] <;> omega) | (simp only [get_mid, get_mid0, List.cons_append, List.append_assoc, List.getElem?_cons_zero, List.getElem?_cons_succ])) only [ek, ↓evW, ↓evQ, evB, evS, evL, List.map, AV.cells, List.all, AV.one, Bool.and_true, Bool.true_and, if_true, ↓thenQ_normal, ↓thenQ_exit, ↓thenQ_ret, ↓blockQ_normal, ↓blockQ_ret, ↓blockQ_exit, ↓CW_true, ↓CW_false, CW_true, CW_false, condT, condF, RQ_some, tupA_one, tupA_two, tupA_nil, Nat.reduceSub, Nat.reduceAdd, Nat.reduceMul, Nat.zero_add, Nat.add_zero, Nat.reduceLeDiff, Nat.reduceEqDiff, eqV, eqAll, fillA, and_self, and_true, true_and, Nat.le_refl, Bool.not_true, Bool.not_false, Bool.false_xor, Bool.true_xor, cond_true, cond_false, List.replicate, if_false, reduceIte, resAll, resA, ne_eq, decide_not, decide_true, decide_false, Int.reduceEq, Bool.not_true, Bool.not_false, not_true_eq_false, not_false_eq_true, cond_bool, cond_int, beq_self_eq_true, Int.reduceBEq, Bool.and_self, Bool.and_false, Bool.false_and, Bool.xor_false, Bool.xor_true, loadN_ldC, ldC_none, ldC_somes, stC_aggs, splice, storeN_stC, stC_int, stC_bool, stC_ptr, stC_nilp, stC_sl, stC_nils, getC_gcO, gcO_cells, W_draw_eq, ↓W_scope, ev_clear, evT, evF, evX, evM, ↓exitQ_normal, ↓exitQ_ret, ↓exitQ_exit, saA_self, saO_self, if_pos, if_neg, wrapI, get_concat, set_concat, Int.toNat_natCast, Int.toNat_zero, List.nil_append, Nat.mul_one, decide_eq_true, decide_eq_false, Int.reduceLE, Int.reduceLT, Int.reduceNeg, Bool.false_or, Bool.true_or, Bool.or_false, Bool.or_true, wrapU, Int.reduceAdd, Int.reduceSub, Int.reduceMul, a39, hcount, a40]
    refine OK_fn hcr ?_
    rintro _ m1 ⟨rfl, k1⟩
    have q1 := k1.get p1
    have q2 := k1.get p2
    have lm1 : M.length < m1.length := (List.getElem?_eq_some_iff.1 q1).1
    have hcopy := copy_of q1 (by omega) (by omega)
    obtain ⟨J, hsame⟩ := same_mem (M := m1 ++ [.abs (.mem { s with ck := false, pre := [] })]) (i := M.length) (j := m1.length) (s := s) (t := { s with ck := false, pre := [] }) (by rw [List.getElem?_append_left lm1]; exact q1) get_concat (by omega) (by show s.cells.length ≤ _; omega)
    have hd : decide (s.cells = ({ s with ck := false, pre := [] } : MemSt).cells) = true := by simp
    rw [hd] at hsame
    have kk : Keep m1 (m1 ++ [.abs (.mem { s with ck := false, pre := [] })] ++ J) := (Keep.app _ _).trans (Keep.app _ _)
    have hsb := samebook_run (kk.get q1) p5 ((p3.keep k1).keep kk) p4 (by omega) (by omega)
    have hb := kk.get q2
    simp only [bookC] at hsb
    simp (disch := first | assumption | omega | (simp only [List.length_cons, List.length_nil, List.length_set, List.length_append] <;> omega) | (simp only [get_mid, get_mid0, List.cons_append, List.append_assoc, List.getElem?_cons_zero, List.getElem?_cons_succ])) only [ek, ↓evW, ↓evQ, evB, evS, evL, List.map, AV.cells, List.all, AV.one, Bool.and_true, Bool.true_and, if_true, ↓thenQ_normal, ↓thenQ_exit, ↓thenQ_ret, ↓blockQ_normal, ↓blockQ_ret, ↓blockQ_exit, ↓CW_true, ↓CW_false, CW_true, CW_false, condT, condF, RQ_some, tupA_one, tupA_two, tupA_nil, Nat.reduceSub, Nat.reduceAdd, Nat.reduceMul, Nat.zero_add, Nat.add_zero, Nat.reduceLeDiff, Nat.reduceEqDiff, eqV, eqAll, fillA, and_self, and_true, true_and, Nat.le_refl, Bool.not_true, Bool.not_false, Bool.false_xor, Bool.true_xor, cond_true, cond_false, List.replicate, if_false, reduceIte, resAll, resA, ne_eq, decide_not, decide_true, decide_false, Int.reduceEq, Bool.not_true, Bool.not_false, not_true_eq_false, not_false_eq_true, cond_bool, cond_int, beq_self_eq_true, Int.reduceBEq, Bool.and_self, Bool.and_false, Bool.false_and, Bool.xor_false, Bool.xor_true, loadN_ldC, ldC_none, ldC_somes, stC_aggs, splice, storeN_stC, stC_int, stC_bool, stC_ptr, stC_nilp, stC_sl, stC_nils, getC_gcO, gcO_cells, W_draw_eq, ↓W_scope, ev_clear, evT, evF, evX, evM, ↓exitQ_normal, ↓exitQ_ret, ↓exitQ_exit, saA_self, saO_self, if_pos, if_neg, wrapI, get_concat, set_concat, Int.toNat_natCast, Int.toNat_zero, List.nil_append, Nat.mul_one, decide_eq_true, decide_eq_false, Int.reduceLE, Int.reduceLT, Int.reduceNeg, Bool.false_or, Bool.true_or, Bool.or_false, Bool.or_true, wrapU, Int.reduceAdd, Int.reduceSub, Int.reduceMul, heq, a35, hcopy, a41, hsame, hb, a32]
    refine OK_fn hsb ?_
    rintro _ m3 ⟨rfl, hk3⟩
    simp (disch := first | assumption | omega | (simp only [List.length_cons, List.length_nil, List.length_set, List.length_append] <;> omega) | (simp only [get_mid, get_mid0, List.cons_append, List.append_assoc, List.getElem?_cons_zero, List.getElem?_cons_succ])) only [ek, ↓evW, ↓evQ, evB, evS, evL, List.map, AV.cells, List.all, AV.one, Bool.and_true, Bool.true_and, if_true, ↓thenQ_normal, ↓thenQ_exit, ↓thenQ_ret, ↓blockQ_normal, ↓blockQ_ret, ↓blockQ_exit, ↓CW_true, ↓CW_false, CW_true, CW_false, condT, condF, RQ_some, tupA_one, tupA_two, tupA_nil, Nat.reduceSub, Nat.reduceAdd, Nat.reduceMul, Nat.zero_add, Nat.add_zero, Nat.reduceLeDiff, Nat.reduceEqDiff, eqV, eqAll, fillA, and_self, and_true, true_and, Nat.le_refl, Bool.not_true, Bool.not_false, Bool.false_xor, Bool.true_xor, cond_true, cond_false, List.replicate, if_false, reduceIte, resAll, resA, ne_eq, decide_not, decide_true, decide_false, Int.reduceEq, Bool.not_true, Bool.not_false, not_true_eq_false, not_false_eq_true, cond_bool, cond_int, beq_self_eq_true, Int.reduceBEq, Bool.and_self, Bool.and_false, Bool.false_and, Bool.xor_false, Bool.xor_true, loadN_ldC, ldC_none, ldC_somes, stC_aggs, splice, storeN_stC, stC_int, stC_bool, stC_ptr, stC_nilp, stC_sl, stC_nils, getC_gcO, gcO_cells, W_draw_eq, ↓W_scope, ev_clear, evT, evF, evX, evM, ↓exitQ_normal, ↓exitQ_ret, ↓exitQ_exit, saA_self, saO_self, if_pos, if_neg, wrapI, get_concat, set_concat, Int.toNat_natCast, Int.toNat_zero, List.nil_append, Nat.mul_one, decide_eq_true, decide_eq_false, Int.reduceLE, Int.reduceLT, Int.reduceNeg, Bool.false_or, Bool.true_or, Bool.or_false, Bool.or_true, wrapU, Int.reduceAdd, Int.reduceSub, Int.reduceMul, a25, pureF, worksG]
    exact ((hk.trans k1).trans kk).trans hk3
end Go.Am.F06
