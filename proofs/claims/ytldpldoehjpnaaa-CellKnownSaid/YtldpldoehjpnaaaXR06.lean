/- CellLogs. -/
import Derived.Test.YtldpldoehjpnaaaXK06
set_option linter.unusedSimpArgs false
set_option linter.unusedVariables false
namespace Go.Am.F06

def Glogs : List (Nat × AFun Ob) := [(25, pureF worksG), (21, newF), (27, c_ref06_NewBook), (28, amFunc Gdoes law06_does), (43, memNF logS), (31, redoF), (41, amFunc Gsame cell_Same), (34, memF fun s rest => (lenAsk s rest).map fun v => (v, s)), (44, memF addS)]

def LgI (M : MM) (n cut : Int) (l : List Acc) (lv : AV) (k : Nat) (e : List AV) (m : MM) : Prop := ∃ (i : Nat) (es : List Acc) (s : MemSt) (vi y7 y8 y9 y10 y11 y12 y13 y14 y15 y16 y17 y18 y19 y20 y21 y22 y23 : AV),
  e = [.int .i64 n, lv, .int .u8 cut, .bool false, .ptr M.length 0, .ptr (M.length + 2) 0, .int .i64 i, y7, y8, y9, y10, y11, y12, y13, y14, y15, y16, y17, y18, y19, y20, y21, y22, y23] ∧ k = l.length - i ∧ i ≤ l.length ∧ Keep M m ∧ Pair m M.length (M.length + 2) (bN n) es s vi ∧ es.length ≤ i ∧ Ch (bN n) [] es

def CmpI (M : MM) (es : List Acc) (env : Int → AV → AV → List AV) (k : Nat) (e : List AV) (m : MM) : Prop := ∃ (i : Nat) (y21 y22 : AV), e = env i y21 y22 ∧ m = M ∧ k = es.length - i ∧ i ≤ es.length
def logsT : AC := sqT 5 law06_CellLogs.body
theorem logs_body : law06_CellLogs = { nloc := 24, npar := 3, res := [.loc 3], body := .seq (sqN 0 law06_CellLogs.body) (.seq (sqN 1 law06_CellLogs.body) (.seq (sqN 2 law06_CellLogs.body) (.seq (sqN 3 law06_CellLogs.body) (.seq (sqN 4 law06_CellLogs.body) logsT)))) } := rfl

set_option maxHeartbeats 8000000 in
theorem logs_tail {M0 M : MM} {j : Nat} {n cut : Int} {es : List Acc} {s : MemSt} (hkk : Keep M0 M) (hj : M[j]? = some (.abs (.mem s))) (hr : Rel (bN n) es s) (hch : Ch (bN n) [] es) (hl : es.length ≤ 200) (hn : n ≤ 40) (hc0 : 0 ≤ cut) (hc1 : cut ≤ 255) (x1 x5 x6 x7 x8 x9 x10 x11 x12 x13 x14 x15 x16 x17 x18 x19 x20 x21 x22 x23 : AV) :
    W Glogs logsT (resQ [.loc 3] (fun r m' => r = .bool true ∧ Keep M0 m')) [.int .i64 n, x1, .int .u8 cut, .bool false, .ptr j 0, x5, x6, x7, x8, x9, x10, x11, x12, x13, x14, x15, x16, x17, x18, x19, x20, x21, x22, x23] M := by
  have a25 : assoc Glogs 25 = some (pureF worksG) := rfl
  have a21 : assoc Glogs 21 = some newF := rfl
  have a43 : assoc Glogs 43 = some (memNF logS) := rfl
  have a31 : assoc Glogs 31 = some redoF := rfl
  have a41 : assoc Glogs 41 = some (amFunc Gsame cell_Same) := rfl
  have a34 : assoc Glogs 34 = some (memF fun s rest => (lenAsk s rest).map fun v => (v, s)) := rfl
  have a44 : assoc Glogs 44 = some (memF addS) := rfl
  generalize Glogs = G at a25 a21 a43 a31 a41 a34 a44 ⊢
  have hlog : s.log = es := by rw [hr.log, show es.length - 256 = 0 by omega]; rfl
  have lj : j < M.length := (List.getElem?_eq_some_iff.1 hj).1
  have hbn : bN n ≤ 40 := by unfold bN; omega
  obtain ⟨lv, c, f43, s43, _, _, hnc⟩ := log_of hj (by rw [hlog]; omega)
  rw [hlog] at s43
  have hlen := s43.len
  obtain ⟨k, hk, hkl⟩ : ∃ k : Nat, cut.tmod ((es.length : Int) + 1) = k ∧ k ≤ es.length := by
    rw [Int.tmod_eq_emod_of_nonneg hc0]
    have h1 := Int.emod_nonneg cut (b := (es.length : Int) + 1) (by omega)
    have h2 := Int.emod_lt_of_pos cut (b := (es.length : Int) + 1) (by omega)
    exact ⟨(cut % ((es.length : Int) + 1)).toNat, by omega, by omega⟩
  -- a: all of it
  have hchs := (ch_app (es.take k) (n := bN n) (es := []) (b := es.drop k)).1 (by rw [List.take_append_drop]; exact hch)
  rw [List.nil_append] at hchs
  have htl : (es.take k).length = k := by rw [List.length_take]; omega
  have hdl : (es.drop k).length = es.length - k := by rw [List.length_drop]
  obtain ⟨⟨sa, ka⟩, ra1, ra2, ra3⟩ := redoS_L es (rel_new n) (by simp; omega)
  rw [ch_redo es hch] at ra2 ra3
  simp only [List.nil_append] at ra2 ra3
  obtain ⟨⟨sb, kb⟩, rb1, rb2, rb3⟩ := redoS_L (es.take k) (rel_new n) (by simp; omega)
  rw [ch_redo _ hchs.1] at rb2 rb3
  simp only [List.nil_append] at rb2 rb3
  rw [htl] at rb3
  obtain ⟨⟨sd, kd⟩, rd1, rd2, rd3⟩ := redoS_L (es.drop k) rb2 (by rw [htl, hdl]; omega)
  rw [ch_redo _ hchs.2] at rd2 rd3
  simp only [List.take_append_drop] at rd2 rd3
  rw [hdl] at rd3
  have rb3 := rb3.symm
  subst ra3; subst rb3; subst rd3
  have sK : ∀ K : MM, SA (M ++ (c :: K)) true es lv := fun K => by
    have h : SA (M ++ [c] ++ K) true es lv := s43.keep (Keep.app _ K)
    rwa [List.append_assoc, List.singleton_append] at h
  have h1 : redoF [.ptr (M.length + 1) 0, lv] (M ++ [c, .abs (.mem (newSt n)), .abs (.mem (newSt n))]) = some (.int .i64 es.length, M ++ [c, .abs (.mem sa), .abs (.mem (newSt n))]) := by
    rw [redo_of (s := newSt n) (M := M ++ [c, .abs (.mem (newSt n)), .abs (.mem (newSt n))]) (by rw [get_mid]; rfl) (sK _) (by omega) ra1, set_mid]; rfl
  obtain ⟨r1, e1, s1⟩ := sa_take (sK [.abs (.mem sa), .abs (.mem (newSt n))]) hnc hkl
  have h2 : redoF [.ptr (M.length + 2) 0, r1] (M ++ [c, .abs (.mem sa), .abs (.mem (newSt n))]) = some (.int .i64 k, M ++ [c, .abs (.mem sa), .abs (.mem sb)]) := by
    rw [redo_of (s := newSt n) (M := M ++ [c, .abs (.mem sa), .abs (.mem (newSt n))]) (by rw [get_mid]; rfl) s1 (by omega) rb1, set_mid]; rfl
  obtain ⟨r2, e2, s2⟩ := sa_drop (sK [.abs (.mem sa), .abs (.mem sb)]) hnc hkl
  have h3 : redoF [.ptr (M.length + 2) 0, r2] (M ++ [c, .abs (.mem sa), .abs (.mem sb)]) = some (.int .i64 ((es.length - k : Nat) : Int), M ++ [c, .abs (.mem sa), .abs (.mem sd)]) := by
    rw [redo_of (s := sb) (M := M ++ [c, .abs (.mem sa), .abs (.mem sb)]) (by rw [get_mid]; rfl) s2 (by omega) rd1, set_mid]; rfl
  have hloga : sa.log = es := by rw [ra2.log, show es.length - 256 = 0 by omega]; rfl
  obtain ⟨la, ca, f43a, s43a, _, _, _⟩ := log_of (M := M ++ [c, .abs (.mem sa), .abs (.mem sd)]) (j := M.length + 1) (s := sa) (by rw [get_mid]; rfl) (by rw [hloga]; omega)
  rw [hloga] at s43a
  simp only [List.append_assoc, List.cons_append, List.nil_append] at f43a s43a
  have hlena := s43a.len
  have hcut : IntKind.i64.wrap cut = cut := wrapI (by omega) (by omega)
  have hcast : ((es.length - k : Nat) : Int) = es.length - k := by omega
  rw [hcast] at h3
  simp (disch := first | assumption | omega | (simp only [List.length_cons, List.length_nil, List.length_set, List.length_append] <;> omega) | (simp only [get_mid, get_mid0, List.cons_append, List.append_assoc, List.getElem?_cons_zero, List.getElem?_cons_succ])) only [logsT, sqT, law06_CellLogs, ek, ↓evW, ↓evQ, evB, evS, evL, List.map, AV.cells, List.all, AV.one, Bool.and_true, Bool.true_and, if_true, ↓thenQ_normal, ↓thenQ_exit, ↓thenQ_ret, ↓blockQ_normal, ↓blockQ_ret, ↓blockQ_exit, ↓CW_true, ↓CW_false, CW_true, CW_false, condT, condF, RQ_some, tupA_one, tupA_two, tupA_nil, Nat.reduceSub, Nat.reduceAdd, Nat.reduceMul, Nat.zero_add, Nat.add_zero, Nat.reduceLeDiff, Nat.reduceEqDiff, eqV, eqAll, fillA, and_self, and_true, true_and, Nat.le_refl, Bool.not_true, Bool.not_false, Bool.false_xor, Bool.true_xor, cond_true, cond_false, List.replicate, if_false, reduceIte, resAll, resA, ne_eq, decide_not, decide_true, decide_false, Int.reduceEq, Bool.not_true, Bool.not_false, not_true_eq_false, not_false_eq_true, cond_bool, cond_int, beq_self_eq_true, Int.reduceBEq, Bool.and_self, Bool.and_false, Bool.false_and, Bool.xor_false, Bool.xor_true, loadN_ldC, ldC_none, ldC_somes, stC_aggs, splice, storeN_stC, stC_int, stC_bool, stC_ptr, stC_nilp, stC_sl, stC_nils, getC_gcO, gcO_cells, W_draw_eq, ↓W_scope, ev_clear, evT, evF, evX, evM, ↓exitQ_normal, ↓exitQ_ret, ↓exitQ_exit, saA_self, saO_self, if_pos, if_neg, wrapI, get_concat, set_concat, Int.toNat_natCast, Int.toNat_zero, List.nil_append, Nat.mul_one, decide_eq_true, decide_eq_false, Int.reduceLE, Int.reduceLT, Int.reduceNeg, Bool.false_or, Bool.true_or, Bool.or_false, Bool.or_true, wrapU, Int.reduceAdd, Int.reduceSub, Int.reduceMul, List.append_assoc, List.length_append, get_mid, get_mid0, set_mid, set_mid0, List.length_set, List.length_cons, List.length_nil, List.cons_append, List.getElem?_append_left, List.set_append_left, get_at, get_at0, set_at, set_at0, List.getElem?_set_self, List.getElem?_set_ne, ev_len, a43, f43, hcut, hlen, hk, a21, new_of, a31, h1, evA, e1, h2, e2, h3, f43a, hlena]
  have hA : (M ++ [c, .abs (.mem sa), .abs (.mem sd), ca])[M.length + 1]? = some (.abs (.mem sa)) := by rw [get_mid]; rfl
  have hD : (M ++ [c, .abs (.mem sa), .abs (.mem sd), ca])[M.length + 2]? = some (.abs (.mem sd)) := by rw [get_mid]; rfl
  have hK4 : Keep M0 (M ++ [c, .abs (.mem sa), .abs (.mem sd), ca]) := hkk.trans (Keep.app _ _)
  have hJ : (M ++ [c, .abs (.mem sa), .abs (.mem sd), ca])[j]? = some (.abs (.mem s)) := by rw [List.getElem?_append_left lj]; exact hj
  have slv := sK [.abs (.mem sa), .abs (.mem sd), ca]
  clear h1 h2 h3 e1 e2 s1 s2 f43a f43 sK
  generalize (M ++ [c, .abs (.mem sa), .abs (.mem sd), ca]) = M4 at hA hD hJ slv s43a hK4 ⊢
  refine W_loop (CmpI M4 es (fun i y21 y22 => [.int .i64 n, x1, .int .u8 cut, .bool false, .ptr j 0, x5, x6, x7, x8, lv, .int .i64 k, .ptr (M.length + 1) 0, .ptr (M.length + 2) 0, la, .int .i64 i, x15, x16, x17, x18, .bool false, .bool false, y21, y22, x23])) es.length (by simp only [FUEL]; omega) ⟨0, _, _, rfl, rfl, rfl, by omega⟩ ?_
  rintro k' e m ⟨i, y21, y22, rfl, rfl, rfl, hi⟩
  simp (disch := first | assumption | omega | (simp only [List.length_cons, List.length_nil, List.length_set, List.length_append] <;> omega) | (simp only [get_mid, get_mid0, List.cons_append, List.append_assoc, List.getElem?_cons_zero, List.getElem?_cons_succ])) only [ek, ↓evW, ↓evQ, evB, evS, evL, List.map, AV.cells, List.all, AV.one, Bool.and_true, Bool.true_and, if_true, ↓thenQ_normal, ↓thenQ_exit, ↓thenQ_ret, ↓blockQ_normal, ↓blockQ_ret, ↓blockQ_exit, ↓CW_true, ↓CW_false, CW_true, CW_false, condT, condF, RQ_some, tupA_one, tupA_two, tupA_nil, Nat.reduceSub, Nat.reduceAdd, Nat.reduceMul, Nat.zero_add, Nat.add_zero, Nat.reduceLeDiff, Nat.reduceEqDiff, eqV, eqAll, fillA, and_self, and_true, true_and, Nat.le_refl, Bool.not_true, Bool.not_false, Bool.false_xor, Bool.true_xor, cond_true, cond_false, List.replicate, if_false, reduceIte, resAll, resA, ne_eq, decide_not, decide_true, decide_false, Int.reduceEq, Bool.not_true, Bool.not_false, not_true_eq_false, not_false_eq_true, cond_bool, cond_int, beq_self_eq_true, Int.reduceBEq, Bool.and_self, Bool.and_false, Bool.false_and, Bool.xor_false, Bool.xor_true, loadN_ldC, ldC_none, ldC_somes, stC_aggs, splice, storeN_stC, stC_int, stC_bool, stC_ptr, stC_nilp, stC_sl, stC_nils, getC_gcO, gcO_cells, W_draw_eq, ↓W_scope, ev_clear, evT, evF, evX, evM, ↓exitQ_normal, ↓exitQ_ret, ↓exitQ_exit, saA_self, saO_self, if_pos, if_neg, wrapI, get_concat, set_concat, Int.toNat_natCast, Int.toNat_zero, List.nil_append, Nat.mul_one, decide_eq_true, decide_eq_false, Int.reduceLE, Int.reduceLT, Int.reduceNeg, Bool.false_or, Bool.true_or, Bool.or_false, Bool.or_true, wrapU, Int.reduceAdd, Int.reduceSub, Int.reduceMul, ev_len, hlen]
  refine CW_of (fun h => ?_) (fun h => ?_)
  · simp only [decide_eq_true_eq] at h
    obtain ⟨e, he⟩ : ∃ e, es[i]? = some e := ⟨_, List.getElem?_eq_getElem (by omega)⟩
    obtain ⟨q, o, cap, ro, L, rfl, b2, b3, b4, b5, b6, _⟩ := slv.get he
    obtain ⟨q2, o2, cap2, ro2, L2, rfl, c2, c3, c4, c5, c6, _⟩ := SA.get s43a he
    have heq : eqAll [true, true, true, true] (accC e) (accC e) = some true := by simp [accC, eqV, eqAll]
    simp (disch := first | assumption | omega | (simp only [List.length_cons, List.length_nil, List.length_set, List.length_append] <;> omega) | (simp only [get_mid, get_mid0, List.cons_append, List.append_assoc, List.getElem?_cons_zero, List.getElem?_cons_succ])) only [ek, ↓evW, ↓evQ, evB, evS, evL, List.map, AV.cells, List.all, AV.one, Bool.and_true, Bool.true_and, if_true, ↓thenQ_normal, ↓thenQ_exit, ↓thenQ_ret, ↓blockQ_normal, ↓blockQ_ret, ↓blockQ_exit, ↓CW_true, ↓CW_false, CW_true, CW_false, condT, condF, RQ_some, tupA_one, tupA_two, tupA_nil, Nat.reduceSub, Nat.reduceAdd, Nat.reduceMul, Nat.zero_add, Nat.add_zero, Nat.reduceLeDiff, Nat.reduceEqDiff, eqV, eqAll, fillA, and_self, and_true, true_and, Nat.le_refl, Bool.not_true, Bool.not_false, Bool.false_xor, Bool.true_xor, cond_true, cond_false, List.replicate, if_false, reduceIte, resAll, resA, ne_eq, decide_not, decide_true, decide_false, Int.reduceEq, Bool.not_true, Bool.not_false, not_true_eq_false, not_false_eq_true, cond_bool, cond_int, beq_self_eq_true, Int.reduceBEq, Bool.and_self, Bool.and_false, Bool.false_and, Bool.xor_false, Bool.xor_true, loadN_ldC, ldC_none, ldC_somes, stC_aggs, splice, storeN_stC, stC_int, stC_bool, stC_ptr, stC_nilp, stC_sl, stC_nils, getC_gcO, gcO_cells, W_draw_eq, ↓W_scope, ev_clear, evT, evF, evX, evM, ↓exitQ_normal, ↓exitQ_ret, ↓exitQ_exit, saA_self, saO_self, if_pos, if_neg, wrapI, get_concat, set_concat, Int.toNat_natCast, Int.toNat_zero, List.nil_append, Nat.mul_one, decide_eq_true, decide_eq_false, Int.reduceLE, Int.reduceLT, Int.reduceNeg, Bool.false_or, Bool.true_or, Bool.or_false, Bool.or_true, wrapU, Int.reduceAdd, Int.reduceSub, Int.reduceMul, b2, b6, c2, c6, heq]
    exact ⟨_, by omega, i + 1, _, _, rfl, rfl, rfl, by omega⟩
  · clear h hi
    have hsc : s.cells = cellsOf (bN n) es := hr.cells
    have hac : sa.cells = cellsOf (bN n) es := ra2.cells
    have hdc : sd.cells = cellsOf (bN n) es := rd2.cells
    have hcl := cellsOf_len (bN n) es
    obtain ⟨J1, f1⟩ := same_mem hA hJ (by rw [hac]; omega) (by rw [hsc]; omega)
    obtain ⟨J2, f2⟩ := same_mem (M := m ++ J1) (i := M.length + 2) (j := j) (s := sd) (t := s) (by rw [List.getElem?_append_left (List.getElem?_eq_some_iff.1 hD).1]; exact hD) (by rw [List.getElem?_append_left (List.getElem?_eq_some_iff.1 hJ).1]; exact hJ) (by rw [hdc]; omega) (by rw [hsc]; omega)
    have hd1 : decide (sa.cells = s.cells) = true := by rw [hac, hsc]; simp
    have hd2 : decide (sd.cells = s.cells) = true := by rw [hdc, hsc]; simp
    rw [hd1] at f1; rw [hd2] at f2
    have gJ : ∀ K : MM, (m ++ K)[j]? = some (.abs (.mem s)) := fun K => by rw [List.getElem?_append_left (List.getElem?_eq_some_iff.1 hJ).1]; exact hJ
    have gA : ∀ K : MM, (m ++ K)[M.length + 1]? = some (.abs (.mem sa)) := fun K => by rw [List.getElem?_append_left (List.getElem?_eq_some_iff.1 hA).1]; exact hA
    have f3 := len_of (gJ (J1 ++ J2))
    rw [← List.append_assoc, hsc, hcl] at f3
    simp (disch := first | assumption | omega | (simp only [List.length_cons, List.length_nil, List.length_set, List.length_append] <;> omega) | (simp only [get_mid, get_mid0, List.cons_append, List.append_assoc, List.getElem?_cons_zero, List.getElem?_cons_succ])) only [ek, ↓evW, ↓evQ, evB, evS, evL, List.map, AV.cells, List.all, AV.one, Bool.and_true, Bool.true_and, if_true, ↓thenQ_normal, ↓thenQ_exit, ↓thenQ_ret, ↓blockQ_normal, ↓blockQ_ret, ↓blockQ_exit, ↓CW_true, ↓CW_false, CW_true, CW_false, condT, condF, RQ_some, tupA_one, tupA_two, tupA_nil, Nat.reduceSub, Nat.reduceAdd, Nat.reduceMul, Nat.zero_add, Nat.add_zero, Nat.reduceLeDiff, Nat.reduceEqDiff, eqV, eqAll, fillA, and_self, and_true, true_and, Nat.le_refl, Bool.not_true, Bool.not_false, Bool.false_xor, Bool.true_xor, cond_true, cond_false, List.replicate, if_false, reduceIte, resAll, resA, ne_eq, decide_not, decide_true, decide_false, Int.reduceEq, Bool.not_true, Bool.not_false, not_true_eq_false, not_false_eq_true, cond_bool, cond_int, beq_self_eq_true, Int.reduceBEq, Bool.and_self, Bool.and_false, Bool.false_and, Bool.xor_false, Bool.xor_true, loadN_ldC, ldC_none, ldC_somes, stC_aggs, splice, storeN_stC, stC_int, stC_bool, stC_ptr, stC_nilp, stC_sl, stC_nils, getC_gcO, gcO_cells, W_draw_eq, ↓W_scope, ev_clear, evT, evF, evX, evM, ↓exitQ_normal, ↓exitQ_ret, ↓exitQ_exit, saA_self, saO_self, if_pos, if_neg, wrapI, get_concat, set_concat, Int.toNat_natCast, Int.toNat_zero, List.nil_append, Nat.mul_one, decide_eq_true, decide_eq_false, Int.reduceLE, Int.reduceLT, Int.reduceNeg, Bool.false_or, Bool.true_or, Bool.or_false, Bool.or_true, wrapU, Int.reduceAdd, Int.reduceSub, Int.reduceMul, a41, f1, f2, a34, f3]
    by_cases h0 : bN n = 0
    · have hz : ((bN n : Nat) : Int) = 0 := by omega
      have hnil : cellsOf (bN n) es = [] := List.length_eq_zero_iff.1 (by omega)
      have f4 := len_of (gJ (J1 ++ J2))
      obtain ⟨J3, f5⟩ := same_mem (gA (J1 ++ J2)) (gJ (J1 ++ J2)) (by rw [hac]; omega) (by rw [hsc]; omega)
      rw [hd1, ← List.append_assoc] at f5
      have gJ3 : (m ++ J1 ++ J2 ++ J3)[j]? = some (.abs (.mem s)) := by rw [List.append_assoc, List.append_assoc]; exact gJ _
      obtain ⟨J4, f6⟩ := same_nilp gJ3 (by rw [hsc]; omega)
      rw [show decide ([] = s.cells) = true by rw [hsc, hnil]; rfl] at f6
      simp (disch := first | assumption | omega | (simp only [List.length_cons, List.length_nil, List.length_set, List.length_append] <;> omega) | (simp only [get_mid, get_mid0, List.cons_append, List.append_assoc, List.getElem?_cons_zero, List.getElem?_cons_succ])) only [ek, ↓evW, ↓evQ, evB, evS, evL, List.map, AV.cells, List.all, AV.one, Bool.and_true, Bool.true_and, if_true, ↓thenQ_normal, ↓thenQ_exit, ↓thenQ_ret, ↓blockQ_normal, ↓blockQ_ret, ↓blockQ_exit, ↓CW_true, ↓CW_false, CW_true, CW_false, condT, condF, RQ_some, tupA_one, tupA_two, tupA_nil, Nat.reduceSub, Nat.reduceAdd, Nat.reduceMul, Nat.zero_add, Nat.add_zero, Nat.reduceLeDiff, Nat.reduceEqDiff, eqV, eqAll, fillA, and_self, and_true, true_and, Nat.le_refl, Bool.not_true, Bool.not_false, Bool.false_xor, Bool.true_xor, cond_true, cond_false, List.replicate, if_false, reduceIte, resAll, resA, ne_eq, decide_not, decide_true, decide_false, Int.reduceEq, Bool.not_true, Bool.not_false, not_true_eq_false, not_false_eq_true, cond_bool, cond_int, beq_self_eq_true, Int.reduceBEq, Bool.and_self, Bool.and_false, Bool.false_and, Bool.xor_false, Bool.xor_true, loadN_ldC, ldC_none, ldC_somes, stC_aggs, splice, storeN_stC, stC_int, stC_bool, stC_ptr, stC_nilp, stC_sl, stC_nils, getC_gcO, gcO_cells, W_draw_eq, ↓W_scope, ev_clear, evT, evF, evX, evM, ↓exitQ_normal, ↓exitQ_ret, ↓exitQ_exit, saA_self, saO_self, if_pos, if_neg, wrapI, get_concat, set_concat, Int.toNat_natCast, Int.toNat_zero, List.nil_append, Nat.mul_one, decide_eq_true, decide_eq_false, Int.reduceLE, Int.reduceLT, Int.reduceNeg, Bool.false_or, Bool.true_or, Bool.or_false, Bool.or_true, wrapU, Int.reduceAdd, Int.reduceSub, Int.reduceMul, hz, a34, f3, a41, f5, f6, a25, pureF, worksG]
      exact (((hK4.trans (Keep.app _ _)).trans (Keep.app _ _)).trans (Keep.app _ _)).trans (Keep.app _ _)
    · have hkr : (k : Int).tmod (bN n) = ((k % bN n : Nat) : Int) := by rw [Int.tmod_eq_emod_of_nonneg (by omega)]; simp
      have hlt : k % bN n < bN n := Nat.mod_lt _ (by omega)
      obtain ⟨sz, g1, g2, _⟩ := acc_in ra2 (by omega) (a := ((k % bN n : Nat) : Int)) (by omega) (by omega) 4 (fun w => (IntKind.u64.wrap (w + 1), true))
      have f4 := memF_of (step := addS) (rest := [.int .i64 ((k % bN n : Nat) : Int), .int .u64 1]) (v := .int .u64 ((cellsOf (bN n) es).getD ((k % bN n : Nat) : Int).toNat 0)) (s' := sz) (gA (J1 ++ J2)) (by simp only [addS, g1, Option.map_some])
      rw [← List.append_assoc] at f4
      have hjne : j ≠ M.length + 1 := by omega
      have lA : M.length + 1 < (m ++ J1 ++ J2).length := by have := (List.getElem?_eq_some_iff.1 hA).1; simp; omega
      have gJ5 : ((m ++ J1 ++ J2).set (M.length + 1) (.abs (.mem sz)))[j]? = some (.abs (.mem s)) := by rw [List.getElem?_set_ne (fun h => hjne h.symm), List.append_assoc]; exact gJ _
      have hzc := g2.cells
      rw [cellsOf_app] at hzc
      obtain ⟨J3, f5⟩ := same_mem (List.getElem?_set_self lA) gJ5 (by rw [hzc, List.length_set]; omega) (by rw [hsc]; omega)
      have hne : decide (sz.cells = s.cells) = false := by
        rw [hzc, hsc, decide_eq_false_iff_not]
        intro h
        have h1 := congrArg (fun l : List Int => l[k % bN n]?) h
        simp only [Int.toNat_natCast] at h1
        rw [List.getElem?_set_self (by omega)] at h1
        rw [List.getElem?_eq_getElem (by omega)] at h1
        injection h1 with h1
        rw [List.getD_eq_getElem?_getD, List.getElem?_eq_getElem (by omega)] at h1
        simp only [Option.getD_some] at h1
        generalize (cellsOf (bN n) es)[k % bN n] = w at h1
        have hmod : IntKind.u64.wrap (w + 1) = (w + 1) % 18446744073709551616 := by
          simp only [IntKind.wrap, IntKind.bits, IntKind.signed, Bool.false_and]; simp
        rw [hmod] at h1
        omega
      rw [hne] at f5
      have gJ6 : ∀ K : MM, ((m ++ J1 ++ J2).set (M.length + 1) (.abs (.mem sz)) ++ J3 ++ K)[j]? = some (.abs (.mem s)) := fun K => by
        rw [List.append_assoc, List.getElem?_append_left (List.getElem?_eq_some_iff.1 gJ5).1]; exact gJ5
      have hn1 : IntKind.i64.wrap (n + 1) = n + 1 := by
        have : 0 < bN n := by omega
        unfold bN at this
        exact wrapI (by omega) (by omega)
      obtain ⟨J4, f6⟩ := same_mem (gJ6 [.abs (.mem (newSt (n + 1)))]) (j := ((m ++ J1 ++ J2).set (M.length + 1) (.abs (.mem sz)) ++ J3).length) (t := newSt (n + 1)) get_concat (by rw [hsc]; omega) (by
        have := (rel_new (n + 1)).cells
        rw [this, cellsOf_len]; exact bN_le _)
      have hne2 : decide (s.cells = (newSt (n + 1)).cells) = false := by
        rw [decide_eq_false_iff_not]
        intro h
        have h1 := congrArg List.length h
        rw [hsc, (rel_new (n + 1)).cells, cellsOf_len, cellsOf_len] at h1
        unfold bN at h1 h0
        omega
      rw [hne2] at f6
      simp (disch := first | assumption | omega | (simp only [List.length_cons, List.length_nil, List.length_set, List.length_append] <;> omega) | (simp only [get_mid, get_mid0, List.cons_append, List.append_assoc, List.getElem?_cons_zero, List.getElem?_cons_succ])) only [ek, ↓evW, ↓evQ, evB, evS, evL, List.map, AV.cells, List.all, AV.one, Bool.and_true, Bool.true_and, if_true, ↓thenQ_normal, ↓thenQ_exit, ↓thenQ_ret, ↓blockQ_normal, ↓blockQ_ret, ↓blockQ_exit, ↓CW_true, ↓CW_false, CW_true, CW_false, condT, condF, RQ_some, tupA_one, tupA_two, tupA_nil, Nat.reduceSub, Nat.reduceAdd, Nat.reduceMul, Nat.zero_add, Nat.add_zero, Nat.reduceLeDiff, Nat.reduceEqDiff, eqV, eqAll, fillA, and_self, and_true, true_and, Nat.le_refl, Bool.not_true, Bool.not_false, Bool.false_xor, Bool.true_xor, cond_true, cond_false, List.replicate, if_false, reduceIte, resAll, resA, ne_eq, decide_not, decide_true, decide_false, Int.reduceEq, Bool.not_true, Bool.not_false, not_true_eq_false, not_false_eq_true, cond_bool, cond_int, beq_self_eq_true, Int.reduceBEq, Bool.and_self, Bool.and_false, Bool.false_and, Bool.xor_false, Bool.xor_true, loadN_ldC, ldC_none, ldC_somes, stC_aggs, splice, storeN_stC, stC_int, stC_bool, stC_ptr, stC_nilp, stC_sl, stC_nils, getC_gcO, gcO_cells, W_draw_eq, ↓W_scope, ev_clear, evT, evF, evX, evM, ↓exitQ_normal, ↓exitQ_ret, ↓exitQ_exit, saA_self, saO_self, if_pos, if_neg, wrapI, get_concat, set_concat, Int.toNat_natCast, Int.toNat_zero, List.nil_append, Nat.mul_one, decide_eq_true, decide_eq_false, Int.reduceLE, Int.reduceLT, Int.reduceNeg, Bool.false_or, Bool.true_or, Bool.or_false, Bool.or_true, wrapU, Int.reduceAdd, Int.reduceSub, Int.reduceMul, a34, f3, hkr, a44, f4, a41, f5, hn1, a21, new_of, f6, a25, pureF, worksG]
      exact ((((((hK4.trans (Keep.app _ _)).trans (Keep.app _ _)).set (by have := hkk.1; omega) _).trans (Keep.app _ _)).trans (Keep.app _ _)).trans (Keep.app _ _))

set_option maxHeartbeats 8000000 in
theorem logs_run {M : MM} {wr : Bool} {n cut : Int} {l : List Acc} {lv : AV} (hlv : SA M wr l lv) (hc0 : 0 ≤ cut) (hc1 : cut ≤ 255) :
    Fn Glogs law06_CellLogs [.int .i64 n, lv, .int .u8 cut] M (fun r m' => r = .bool true ∧ Keep M m') := by
  have a25 : assoc Glogs 25 = some (pureF worksG) := rfl
  have a21 : assoc Glogs 21 = some newF := rfl
  have a27 : assoc Glogs 27 = some c_ref06_NewBook := rfl
  have a28 : assoc Glogs 28 = some (amFunc Gdoes law06_does) := rfl
  have htail := fun {M0 M : MM} {j : Nat} {es : List Acc} {s : MemSt} (hkk : Keep M0 M) (hj : M[j]? = some (.abs (.mem s))) (hr : Rel (bN n) es s) (hch : Ch (bN n) [] es) (hl : es.length ≤ 200) (hn : n ≤ 40) x1 x5 x6 x7 x8 x9 x10 x11 x12 x13 x14 x15 x16 x17 x18 x19 x20 x21 x22 x23 => logs_tail (n := n) hkk hj hr hch hl hn hc0 hc1 x1 x5 x6 x7 x8 x9 x10 x11 x12 x13 x14 x15 x16 x17 x18 x19 x20 x21 x22 x23
  generalize Glogs = G at a25 a21 a27 a28 htail ⊢
  have hll := hlv.len
  rw [logs_body]
  refine Fn_of rfl ?_
  by_cases hbig : 200 < l.length ∨ 40 < n
  · simp (disch := first | assumption | omega | (simp only [List.length_cons, List.length_nil, List.length_set, List.length_append] <;> omega) | (simp only [get_mid, get_mid0, List.cons_append, List.append_assoc, List.getElem?_cons_zero, List.getElem?_cons_succ])) only [sqN, law06_CellLogs, ek, ↓evW, ↓evQ, evB, evS, evL, List.map, AV.cells, List.all, AV.one, Bool.and_true, Bool.true_and, if_true, ↓thenQ_normal, ↓thenQ_exit, ↓thenQ_ret, ↓blockQ_normal, ↓blockQ_ret, ↓blockQ_exit, ↓CW_true, ↓CW_false, CW_true, CW_false, condT, condF, RQ_some, tupA_one, tupA_two, tupA_nil, Nat.reduceSub, Nat.reduceAdd, Nat.reduceMul, Nat.zero_add, Nat.add_zero, Nat.reduceLeDiff, Nat.reduceEqDiff, eqV, eqAll, fillA, and_self, and_true, true_and, Nat.le_refl, Bool.not_true, Bool.not_false, Bool.false_xor, Bool.true_xor, cond_true, cond_false, List.replicate, if_false, reduceIte, resAll, resA, ne_eq, decide_not, decide_true, decide_false, Int.reduceEq, Bool.not_true, Bool.not_false, not_true_eq_false, not_false_eq_true, cond_bool, cond_int, beq_self_eq_true, Int.reduceBEq, Bool.and_self, Bool.and_false, Bool.false_and, Bool.xor_false, Bool.xor_true, loadN_ldC, ldC_none, ldC_somes, stC_aggs, splice, storeN_stC, stC_int, stC_bool, stC_ptr, stC_nilp, stC_sl, stC_nils, getC_gcO, gcO_cells, W_draw_eq, ↓W_scope, ev_clear, evT, evF, evX, evM, ↓exitQ_normal, ↓exitQ_ret, ↓exitQ_exit, saA_self, saO_self, if_pos, if_neg, wrapI, get_concat, set_concat, Int.toNat_natCast, Int.toNat_zero, List.nil_append, Nat.mul_one, decide_eq_true, decide_eq_false, Int.reduceLE, Int.reduceLT, Int.reduceNeg, Bool.false_or, Bool.true_or, Bool.or_false, Bool.or_true, wrapU, Int.reduceAdd, Int.reduceSub, Int.reduceMul, ev_len, hll, a25, pureF, worksG]
    repeat' ((first | refine GK_of (fun h => ?_) (fun h => ?_) | refine CW_of (fun h => ?_) (fun h => ?_) | refine GKT_of (fun h => ?_) (fun h => ?_)) <;> (try simp only [Bool.not_eq_true', Bool.not_eq_false', decide_eq_true_eq, decide_eq_false_iff_not, Bool.and_eq_true, Bool.or_eq_true, Bool.and_eq_false_iff, Bool.or_eq_false_iff, Decidable.not_not] at h) <;> (try simp (disch := first | assumption | omega | (simp only [List.length_cons, List.length_nil, List.length_set, List.length_append] <;> omega) | (simp only [get_mid, get_mid0, List.cons_append, List.append_assoc, List.getElem?_cons_zero, List.getElem?_cons_succ])) only [ek, ↓evW, ↓evQ, evB, evS, evL, List.map, AV.cells, List.all, AV.one, Bool.and_true, Bool.true_and, if_true, ↓thenQ_normal, ↓thenQ_exit, ↓thenQ_ret, ↓blockQ_normal, ↓blockQ_ret, ↓blockQ_exit, ↓CW_true, ↓CW_false, CW_true, CW_false, condT, condF, RQ_some, tupA_one, tupA_two, tupA_nil, Nat.reduceSub, Nat.reduceAdd, Nat.reduceMul, Nat.zero_add, Nat.add_zero, Nat.reduceLeDiff, Nat.reduceEqDiff, eqV, eqAll, fillA, and_self, and_true, true_and, Nat.le_refl, Bool.not_true, Bool.not_false, Bool.false_xor, Bool.true_xor, cond_true, cond_false, List.replicate, if_false, reduceIte, resAll, resA, ne_eq, decide_not, decide_true, decide_false, Int.reduceEq, Bool.not_true, Bool.not_false, not_true_eq_false, not_false_eq_true, cond_bool, cond_int, beq_self_eq_true, Int.reduceBEq, Bool.and_self, Bool.and_false, Bool.false_and, Bool.xor_false, Bool.xor_true, loadN_ldC, ldC_none, ldC_somes, stC_aggs, splice, storeN_stC, stC_int, stC_bool, stC_ptr, stC_nilp, stC_sl, stC_nils, getC_gcO, gcO_cells, W_draw_eq, ↓W_scope, ev_clear, evT, evF, evX, evM, ↓exitQ_normal, ↓exitQ_ret, ↓exitQ_exit, saA_self, saO_self, if_pos, if_neg, wrapI, get_concat, set_concat, Int.toNat_natCast, Int.toNat_zero, List.nil_append, Nat.mul_one, decide_eq_true, decide_eq_false, Int.reduceLE, Int.reduceLT, Int.reduceNeg, Bool.false_or, Bool.true_or, Bool.or_false, Bool.or_true, wrapU, Int.reduceAdd, Int.reduceSub, Int.reduceMul, ev_len, hll, a25, pureF, worksG]))
    all_goals first | exact Keep.refl _ | (exfalso; omega)
  · obtain ⟨b1, b3⟩ : l.length ≤ 200 ∧ n ≤ 40 := by omega
    have hnb := Fn_eq (newbook_run (G := []) (m := M ++ [.abs (.mem (newSt n))]) n)
    simp only [List.append_assoc, List.cons_append, List.nil_append] at hnb
    simp (disch := first | assumption | omega | (simp only [List.length_cons, List.length_nil, List.length_set, List.length_append] <;> omega) | (simp only [get_mid, get_mid0, List.cons_append, List.append_assoc, List.getElem?_cons_zero, List.getElem?_cons_succ])) only [sqN, law06_CellLogs, ek, ↓evW, ↓evQ, evB, evS, evL, List.map, AV.cells, List.all, AV.one, Bool.and_true, Bool.true_and, if_true, ↓thenQ_normal, ↓thenQ_exit, ↓thenQ_ret, ↓blockQ_normal, ↓blockQ_ret, ↓blockQ_exit, ↓CW_true, ↓CW_false, CW_true, CW_false, condT, condF, RQ_some, tupA_one, tupA_two, tupA_nil, Nat.reduceSub, Nat.reduceAdd, Nat.reduceMul, Nat.zero_add, Nat.add_zero, Nat.reduceLeDiff, Nat.reduceEqDiff, eqV, eqAll, fillA, and_self, and_true, true_and, Nat.le_refl, Bool.not_true, Bool.not_false, Bool.false_xor, Bool.true_xor, cond_true, cond_false, List.replicate, if_false, reduceIte, resAll, resA, ne_eq, decide_not, decide_true, decide_false, Int.reduceEq, Bool.not_true, Bool.not_false, not_true_eq_false, not_false_eq_true, cond_bool, cond_int, beq_self_eq_true, Int.reduceBEq, Bool.and_self, Bool.and_false, Bool.false_and, Bool.xor_false, Bool.xor_true, loadN_ldC, ldC_none, ldC_somes, stC_aggs, splice, storeN_stC, stC_int, stC_bool, stC_ptr, stC_nilp, stC_sl, stC_nils, getC_gcO, gcO_cells, W_draw_eq, ↓W_scope, ev_clear, evT, evF, evX, evM, ↓exitQ_normal, ↓exitQ_ret, ↓exitQ_exit, saA_self, saO_self, if_pos, if_neg, wrapI, get_concat, set_concat, Int.toNat_natCast, Int.toNat_zero, List.nil_append, Nat.mul_one, decide_eq_true, decide_eq_false, Int.reduceLE, Int.reduceLT, Int.reduceNeg, Bool.false_or, Bool.true_or, Bool.or_false, Bool.or_true, wrapU, Int.reduceAdd, Int.reduceSub, Int.reduceMul, List.append_assoc, List.length_append, get_mid, get_mid0, set_mid, set_mid0, List.length_set, List.length_cons, List.length_nil, List.cons_append, List.getElem?_append_left, List.set_append_left, get_at, get_at0, set_at, set_at0, List.getElem?_set_self, List.getElem?_set_ne, ev_len, hll, a21, new_of, a27, c_ref06_NewBook, hnb, bookC]
    refine W_loop (LgI M n cut l lv) l.length (by simp only [FUEL]; omega) ⟨0, [], newSt n, .nils, _, _, _, _, _, _, _, _, _, _, _, _, _, _, _, _, _, rfl, rfl, by omega, Keep.app _ _, ⟨by rw [get_mid0]; rfl, by rw [get_mid]; rfl, Sl.nil, .inl rfl, rel_new n⟩, by simp, trivial⟩ ?_
    clear hnb
    rintro k e m ⟨i, es, s, vi, y7, y8, y9, y10, y11, y12, y13, y14, y15, y16, y17, y18, y19, y20, y21, y22, y23, rfl, rfl, hi, hk, ⟨p1, p2, p3, p4, p5⟩, hel, hch⟩
    have hlm : M.length + 2 < m.length := (List.getElem?_eq_some_iff.1 p2).1
    have hone := p3.one
    simp only [AV.one] at hone
    simp (disch := first | assumption | omega | (simp only [List.length_cons, List.length_nil, List.length_set, List.length_append] <;> omega) | (simp only [get_mid, get_mid0, List.cons_append, List.append_assoc, List.getElem?_cons_zero, List.getElem?_cons_succ])) only [ek, ↓evW, ↓evQ, evB, evS, evL, List.map, AV.cells, List.all, AV.one, Bool.and_true, Bool.true_and, if_true, ↓thenQ_normal, ↓thenQ_exit, ↓thenQ_ret, ↓blockQ_normal, ↓blockQ_ret, ↓blockQ_exit, ↓CW_true, ↓CW_false, CW_true, CW_false, condT, condF, RQ_some, tupA_one, tupA_two, tupA_nil, Nat.reduceSub, Nat.reduceAdd, Nat.reduceMul, Nat.zero_add, Nat.add_zero, Nat.reduceLeDiff, Nat.reduceEqDiff, eqV, eqAll, fillA, and_self, and_true, true_and, Nat.le_refl, Bool.not_true, Bool.not_false, Bool.false_xor, Bool.true_xor, cond_true, cond_false, List.replicate, if_false, reduceIte, resAll, resA, ne_eq, decide_not, decide_true, decide_false, Int.reduceEq, Bool.not_true, Bool.not_false, not_true_eq_false, not_false_eq_true, cond_bool, cond_int, beq_self_eq_true, Int.reduceBEq, Bool.and_self, Bool.and_false, Bool.false_and, Bool.xor_false, Bool.xor_true, loadN_ldC, ldC_none, ldC_somes, stC_aggs, splice, storeN_stC, stC_int, stC_bool, stC_ptr, stC_nilp, stC_sl, stC_nils, getC_gcO, gcO_cells, W_draw_eq, ↓W_scope, ev_clear, evT, evF, evX, evM, ↓exitQ_normal, ↓exitQ_ret, ↓exitQ_exit, saA_self, saO_self, if_pos, if_neg, wrapI, get_concat, set_concat, Int.toNat_natCast, Int.toNat_zero, List.nil_append, Nat.mul_one, decide_eq_true, decide_eq_false, Int.reduceLE, Int.reduceLT, Int.reduceNeg, Bool.false_or, Bool.true_or, Bool.or_false, Bool.or_true, wrapU, Int.reduceAdd, Int.reduceSub, Int.reduceMul, ev_len, hll]
    refine CW_of (fun h => ?_) (fun h => ?_)
    · simp only [decide_eq_true_eq] at h
      obtain ⟨e, he⟩ : ∃ e, l[i]? = some e := ⟨_, List.getElem?_eq_getElem (by omega)⟩
      have hlvm : SA m wr l lv := hlv.keep hk
      obtain ⟨q, oo, cap, ro, L, rfl, c2, c3, c4, c5, c6, _⟩ := hlvm.get he
      have hqm : q < m.length := (List.getElem?_eq_some_iff.1 c2).1
      simp only [bookC] at p2
      have hdoes := does_run (j := M.length) (s := s) (es := es) (v := vi) (n := bN n) (m := m ++ [Chunk.cells 2 false [.int .i64 0, .nils]]) (by rw [List.getElem?_append_left (by omega)]; exact p1) p5 (p3.keep (Keep.app _ _)) p4 (by omega) e.kind e.at' e.old e.new
      simp (disch := first | assumption | omega | (simp only [List.length_cons, List.length_nil, List.length_set, List.length_append] <;> omega) | (simp only [get_mid, get_mid0, List.cons_append, List.append_assoc, List.getElem?_cons_zero, List.getElem?_cons_succ])) only [ek, ↓evW, ↓evQ, evB, evS, evL, List.map, AV.cells, List.all, AV.one, Bool.and_true, Bool.true_and, if_true, ↓thenQ_normal, ↓thenQ_exit, ↓thenQ_ret, ↓blockQ_normal, ↓blockQ_ret, ↓blockQ_exit, ↓CW_true, ↓CW_false, CW_true, CW_false, condT, condF, RQ_some, tupA_one, tupA_two, tupA_nil, Nat.reduceSub, Nat.reduceAdd, Nat.reduceMul, Nat.zero_add, Nat.add_zero, Nat.reduceLeDiff, Nat.reduceEqDiff, eqV, eqAll, fillA, and_self, and_true, true_and, Nat.le_refl, Bool.not_true, Bool.not_false, Bool.false_xor, Bool.true_xor, cond_true, cond_false, List.replicate, if_false, reduceIte, resAll, resA, ne_eq, decide_not, decide_true, decide_false, Int.reduceEq, Bool.not_true, Bool.not_false, not_true_eq_false, not_false_eq_true, cond_bool, cond_int, beq_self_eq_true, Int.reduceBEq, Bool.and_self, Bool.and_false, Bool.false_and, Bool.xor_false, Bool.xor_true, loadN_ldC, ldC_none, ldC_somes, stC_aggs, splice, storeN_stC, stC_int, stC_bool, stC_ptr, stC_nilp, stC_sl, stC_nils, getC_gcO, gcO_cells, W_draw_eq, ↓W_scope, ev_clear, evT, evF, evX, evM, ↓exitQ_normal, ↓exitQ_ret, ↓exitQ_exit, saA_self, saO_self, if_pos, if_neg, wrapI, get_concat, set_concat, Int.toNat_natCast, Int.toNat_zero, List.nil_append, Nat.mul_one, decide_eq_true, decide_eq_false, Int.reduceLE, Int.reduceLT, Int.reduceNeg, Bool.false_or, Bool.true_or, Bool.or_false, Bool.or_true, wrapU, Int.reduceAdd, Int.reduceSub, Int.reduceMul, List.append_assoc, List.length_append, get_mid, get_mid0, set_mid, set_mid0, List.length_set, List.length_cons, List.length_nil, List.cons_append, List.getElem?_append_left, List.set_append_left, get_at, get_at0, set_at, set_at0, List.getElem?_set_self, List.getElem?_set_ne, c2, c6, p2, a28, accC]
      refine OKT_fn hdoes ?_
      rintro r m1 ⟨hk1, v', s', rfl, q1, q3, q4, q5, _⟩
      have hlm1 : m.length + 1 ≤ m1.length := by have := hk1.1; simpa using this
      have q2 : m1[M.length + 2]? = some (.cells 2 false [.int .i64 (bN n), vi]) := hk1.get (by rw [List.getElem?_append_left (by omega)]; exact p2) (by omega)
      have q6 : m1[m.length]? = some (.cells 2 false [.int .i64 0, .nils]) := hk1.get (by rw [get_mid0]; rfl) (by omega)
      have hone' := q3.one
      simp only [AV.one] at hone'
      simp (disch := first | assumption | omega | (simp only [List.length_cons, List.length_nil, List.length_set, List.length_append] <;> omega) | (simp only [get_mid, get_mid0, List.cons_append, List.append_assoc, List.getElem?_cons_zero, List.getElem?_cons_succ])) only [ek, ↓evW, ↓evQ, evB, evS, evL, List.map, AV.cells, List.all, AV.one, Bool.and_true, Bool.true_and, if_true, ↓thenQ_normal, ↓thenQ_exit, ↓thenQ_ret, ↓blockQ_normal, ↓blockQ_ret, ↓blockQ_exit, ↓CW_true, ↓CW_false, CW_true, CW_false, condT, condF, RQ_some, tupA_one, tupA_two, tupA_nil, Nat.reduceSub, Nat.reduceAdd, Nat.reduceMul, Nat.zero_add, Nat.add_zero, Nat.reduceLeDiff, Nat.reduceEqDiff, eqV, eqAll, fillA, and_self, and_true, true_and, Nat.le_refl, Bool.not_true, Bool.not_false, Bool.false_xor, Bool.true_xor, cond_true, cond_false, List.replicate, if_false, reduceIte, resAll, resA, ne_eq, decide_not, decide_true, decide_false, Int.reduceEq, Bool.not_true, Bool.not_false, not_true_eq_false, not_false_eq_true, cond_bool, cond_int, beq_self_eq_true, Int.reduceBEq, Bool.and_self, Bool.and_false, Bool.false_and, Bool.xor_false, Bool.xor_true, loadN_ldC, ldC_none, ldC_somes, stC_aggs, splice, storeN_stC, stC_int, stC_bool, stC_ptr, stC_nilp, stC_sl, stC_nils, getC_gcO, gcO_cells, W_draw_eq, ↓W_scope, ev_clear, evT, evF, evX, evM, ↓exitQ_normal, ↓exitQ_ret, ↓exitQ_exit, saA_self, saO_self, if_pos, if_neg, wrapI, get_concat, set_concat, Int.toNat_natCast, Int.toNat_zero, List.nil_append, Nat.mul_one, decide_eq_true, decide_eq_false, Int.reduceLE, Int.reduceLT, Int.reduceNeg, Bool.false_or, Bool.true_or, Bool.or_false, Bool.or_true, wrapU, Int.reduceAdd, Int.reduceSub, Int.reduceMul, List.append_assoc, List.length_append, get_mid, get_mid0, set_mid, set_mid0, List.length_set, List.length_cons, List.length_nil, List.cons_append, List.getElem?_append_left, List.set_append_left, get_at, get_at0, set_at, set_at0, List.getElem?_set_self, List.getElem?_set_ne, bookC, q6, q2, hone', q1]
      have hel2 := stepL_len (bN n) es e.kind e.at' e.old e.new
      have hKm : Keep M m1 := ⟨by omega, fun x hx => by rw [hk1.2 x (by simp; omega) (by omega), List.getElem?_append_left (by omega)]; exact hk.2 x hx⟩
      exact ⟨_, by omega, i + 1, _, s', v', _, _, _, _, _, _, _, _, _, _, _, _, _, _, _, _, _, rfl, rfl, by omega, (hKm.set (by omega) _).set (by omega) _, pair_set q1 q2 q6 q3 q4 q5 (by omega) (by omega) (by omega) _, by omega, ch_step hch _ _ _ _⟩
    · simp only [decide_eq_false_iff_not] at h
      simp (disch := first | assumption | omega | (simp only [List.length_cons, List.length_nil, List.length_set, List.length_append] <;> omega) | (simp only [get_mid, get_mid0, List.cons_append, List.append_assoc, List.getElem?_cons_zero, List.getElem?_cons_succ])) only [ek, ↓evW, ↓evQ, evB, evS, evL, List.map, AV.cells, List.all, AV.one, Bool.and_true, Bool.true_and, if_true, ↓thenQ_normal, ↓thenQ_exit, ↓thenQ_ret, ↓blockQ_normal, ↓blockQ_ret, ↓blockQ_exit, ↓CW_true, ↓CW_false, CW_true, CW_false, condT, condF, RQ_some, tupA_one, tupA_two, tupA_nil, Nat.reduceSub, Nat.reduceAdd, Nat.reduceMul, Nat.zero_add, Nat.add_zero, Nat.reduceLeDiff, Nat.reduceEqDiff, eqV, eqAll, fillA, and_self, and_true, true_and, Nat.le_refl, Bool.not_true, Bool.not_false, Bool.false_xor, Bool.true_xor, cond_true, cond_false, List.replicate, if_false, reduceIte, resAll, resA, ne_eq, decide_not, decide_true, decide_false, Int.reduceEq, Bool.not_true, Bool.not_false, not_true_eq_false, not_false_eq_true, cond_bool, cond_int, beq_self_eq_true, Int.reduceBEq, Bool.and_self, Bool.and_false, Bool.false_and, Bool.xor_false, Bool.xor_true, loadN_ldC, ldC_none, ldC_somes, stC_aggs, splice, storeN_stC, stC_int, stC_bool, stC_ptr, stC_nilp, stC_sl, stC_nils, getC_gcO, gcO_cells, W_draw_eq, ↓W_scope, ev_clear, evT, evF, evX, evM, ↓exitQ_normal, ↓exitQ_ret, ↓exitQ_exit, saA_self, saO_self, if_pos, if_neg, wrapI, get_concat, set_concat, Int.toNat_natCast, Int.toNat_zero, List.nil_append, Nat.mul_one, decide_eq_true, decide_eq_false, Int.reduceLE, Int.reduceLT, Int.reduceNeg, Bool.false_or, Bool.true_or, Bool.or_false, Bool.or_true, wrapU, Int.reduceAdd, Int.reduceSub, Int.reduceMul]
      exact htail hk p1 p5 hch (by omega) b3 _ _ _ _ _ _ _ _ _ _ _ _ _ _ _ _ _ _ _ _
end Go.Am.F06
