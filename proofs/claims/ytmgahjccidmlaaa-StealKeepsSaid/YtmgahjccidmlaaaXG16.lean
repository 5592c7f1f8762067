import Derived.Test.YtmgahjccidmlaaaXG15
set_option linter.unusedSimpArgs false
set_option linter.unusedVariables false
section
namespace Go.Am.F06
section
variable {X : Type} {m : Mem X} {i : Nat}
theorem ms_root (hi : i < m.length) (R : Chunk X) (L : Mem X) : (m.set i R ++ L)[i]? = some R := by rw [List.getElem?_append_left (by simpa using hi), List.getElem?_set_self hi]
theorem ms_mid (R : Chunk X) (L : Mem X) (k : Nat) : (m.set i R ++ L)[m.length + k]? = L[k]? := by
  have := get_mid (l := m.set i R) (k := L) (i := k)
  rwa [List.length_set] at this
theorem ms_mid0 (R : Chunk X) (L : Mem X) : (m.set i R ++ L)[m.length]? = L[0]? := ms_mid R L 0
theorem ms_set (hi : i < m.length) (R R' : Chunk X) (L : Mem X) : (m.set i R ++ L).set i R' = m.set i R' ++ L := by rw [List.set_append_left _ _ (by simpa using hi), List.set_set]
theorem ms_setk (R c : Chunk X) (L : Mem X) (k : Nat) : (m.set i R ++ L).set (m.length + k) c = m.set i R ++ L.set k c := by
  have := set_mid (l := m.set i R) (k := L) (i := k) (y := c)
  rwa [List.length_set] at this
theorem ms_set0 (R c : Chunk X) (L : Mem X) : (m.set i R ++ L).set m.length c = m.set i R ++ L.set 0 c := ms_setk R c L 0
theorem ms_other {j : Nat} (hj : j < m.length) (hji : j ≠ i) (R : Chunk X) (L : Mem X) : (m.set i R ++ L)[j]? = m[j]? := by
  rw [List.getElem?_append_left (by simpa using hj), List.getElem?_set_ne (fun h => hji h.symm)]
end
theorem cv_len (i k1 : Nat) (s : MemSt) : lenA (cvA i k1 s) = some s.cells.length := by
  unfold cvA; split
  · rename_i h; simp [lenA, h]
  · rfl
theorem there_run {m : MM} {i : Nat} (hi : i < m.length) (s : MemSt) (lv : AV) (k1 : Nat) (L : MM) (a : Int) :
    c_cell_Mem_there [.ptr i 0, .int .i64 a] (m.set i (.cells 8 false (rootL s lv (cvA i k1 s))) ++ L) = some (.bool (decide (0 ≤ a) && decide (a < s.cells.length)), m.set i (.cells 8 false (rootL s lv (cvA i k1 s))) ++ L) := by
  refine Fn_eq ?_
  refine Fn_of rfl ?_
  have hr := ms_root hi (m := m)
  have hl := cv_len i k1 s
  simp (disch := first | assumption | omega | (simp only [zl] <;> omega) | (simp only [zn])) only [cell_Mem_there, ↓zd, zk, Nat.reduceSub, Nat.reduceAdd, Nat.reduceMul, Nat.reduceLeDiff, Nat.reduceEqDiff, reduceIte, Int.reduceEq, Int.reduceBEq, Int.reduceLE, Int.reduceLT, Int.reduceNeg, Int.reduceAdd, Int.reduceSub, Int.reduceMul, List.map, AV.cells, List.all, AV.one, eqV, eqAll, splice, fillA, List.replicate, resAll, resA, rootL, hr]
  repeat' ((first | refine GK_of (fun h => ?_) (fun h => ?_) | refine CW_of (fun h => ?_) (fun h => ?_) | refine GKT_of (fun h => ?_) (fun h => ?_)) <;> (try simp only [Bool.not_eq_true', Bool.not_eq_false', decide_eq_true_eq, decide_eq_false_iff_not, Bool.and_eq_true, Bool.or_eq_true, Bool.and_eq_false_iff, Bool.or_eq_false_iff, Decidable.not_not] at h) <;> (try simp (disch := first | assumption | omega | (simp only [zl] <;> omega) | (simp only [zn])) only [↓zd, zk, Nat.reduceSub, Nat.reduceAdd, Nat.reduceMul, Nat.reduceLeDiff, Nat.reduceEqDiff, reduceIte, Int.reduceEq, Int.reduceBEq, Int.reduceLE, Int.reduceLT, Int.reduceNeg, Int.reduceAdd, Int.reduceSub, Int.reduceMul, List.map, AV.cells, List.all, AV.one, eqV, eqAll, splice, fillA, List.replicate, resAll, resA, rootL, hr, ev_len, hl, h]))
  all_goals (try simp_all)
def logMore (s : MemSt) (e : Acc) : List Acc × List Acc := if s.log.length < 256 then ([], s.log ++ [e]) else (s.log.take 1, s.log.drop 1 ++ [e])
def noted (s : MemSt) (e : Acc) (ok : Bool) : MemSt :=
  { s with ops := IntKind.u64.wrap (s.ops + 1),
           loads := if e.kind = 1 then IntKind.u64.wrap (s.loads + 1) else s.loads,
           stores := if e.kind = 2 then IntKind.u64.wrap (s.stores + 1) else s.stores,
           swaps := if e.kind = 3 ∧ ok = true then IntKind.u64.wrap (s.swaps + 1) else s.swaps,
           fails := if e.kind = 3 ∧ ok = false then IntKind.u64.wrap (s.fails + 1) else s.fails,
           adds := if e.kind ≠ 1 ∧ e.kind ≠ 2 ∧ e.kind ≠ 3 then IntKind.u64.wrap (s.adds + 1) else s.adds,
           pre := (logMore s e).1, log := (logMore s e).2 }
theorem accs_len (l : List Acc) : (l.flatMap accC).length = l.length * 4 := rows_len (f := accC) (fun _ => rfl) l
theorem accs_one (l : List Acc) : (l.flatMap accC).all AV.one = true := rows_one fun _ => rfl
theorem accs_drop (a b : List Acc) : (((a ++ b).flatMap accC).drop (a.length * 4)) = b.flatMap accC := by
  rw [List.flatMap_append, ← accs_len a, List.drop_left]
def LogAt (n : Nat) (M : MM) (lv : AV) (s : MemSt) : Prop := (s.log = [] ∧ lv = .nils) ∨ ∃ k2, s.log ≠ [] ∧ lv = .sl k2 (s.pre.length * 4) s.log.length none ∧ n + 1 ≤ k2 ∧ M[k2]? = some (.cells 4 false ((s.pre ++ s.log).flatMap accC))
theorem log_app {m L : MM} {i : Nat} (hi : i < m.length) {s : MemSt} {lv : AV} {R0 b : Chunk Ob} (e : Acc) (h : LogAt m.length (m.set i R0 ++ L) lv s) (hl : s.log.length ≤ 300) (hL : 0 < L.length) : ∃ (q : Nat) (L2 : MM), (∀ R, appendA 4 32 lv (.sl (m.length + (L.length + 1)) 0 1 (some 1)) (m.set i R ++ (L ++ [b, .cells 4 false (accC e)])) = some (.sl (m.length + q) 0 (s.log.length + 1) none, m.set i R ++ L2)) ∧
    L2[q]? = some (.cells 4 false ((s.log ++ [e]).flatMap accC)) ∧ 1 ≤ q ∧ L2[0]? = L[0]? := by
  have hj : ∀ R, (m.set i R ++ (L ++ [b, Chunk.cells 4 false (accC e)]))[m.length + (L.length + 1)]? = some (.cells 4 false (accC e)) := fun R => by rw [ms_mid, get_mid]; rfl
  have hlen : ∀ R, (m.set i R ++ (L ++ [b, Chunk.cells 4 false (accC e)])).length = m.length + (L.length + 2) := fun R => by simp
  rcases h with ⟨h0, rfl⟩ | ⟨k2, h0, rfl, h2, h3⟩
  · refine ⟨L.length + 2, L ++ [b, .cells 4 false (accC e), .cells 4 false (accC e)], fun R => ?_, ?_, by omega, by rw [List.getElem?_append_left hL]⟩
    · rw [append_nils (sz := 4) (hj R) rfl rfl (by omega), hlen, h0]; simp
    · rw [get_mid, h0]; simp
  · have hk : k2 < m.length + L.length := by
      have := (List.getElem?_eq_some_iff.1 h3).1
      simp at this; exact this
    have hM : ∀ R, (m.set i R ++ (L ++ [b, Chunk.cells 4 false (accC e)]))[k2]? = some (.cells 4 false ((s.pre ++ s.log).flatMap accC)) := fun R => by
      rw [List.getElem?_append_right (by simp; omega), List.length_set]
      rw [List.getElem?_append_right (by simp; omega), List.length_set] at h3
      rw [List.getElem?_append_left (by omega)]; exact h3
    refine ⟨L.length + 2, (L ++ [b, .cells 4 false (accC e)]).set (k2 - m.length) .dead ++ [.cells 4 false ((s.log ++ [e]).flatMap accC)], fun R => ?_, ?_, by omega, ?_⟩
    · have hr : rowOf (m.set i R ++ (L ++ [b, Chunk.cells 4 false (accC e)])) 4 (.sl (m.length + (L.length + 1)) 0 1 (some 1)) = some (accC e) := by
        simp only [rowOf, getC, hj R]
        rw [if_neg (by omega), if_pos (by simp [accC]), List.drop_zero, List.take_of_length_le (by simp [accC])]
      have hd := accs_drop s.pre s.log
      have hlp := accs_len (s.pre ++ s.log)
      rw [List.length_append] at hlp
      have hl2 := accs_len s.log
      have ht : (((s.pre ++ s.log).flatMap accC).drop (s.pre.length * 4)).take (s.log.length * 4) = s.log.flatMap accC := by rw [hd, List.take_of_length_le (by omega)]
      simp only [appendA, lenA, hr, getC, hM R]
      rw [if_neg (by omega), if_pos ⟨trivial, by omega, by omega, by omega, by rw [ht, List.all_append, accs_one]; rfl⟩, ht, hlen, List.set_append_right _ _ (by simp; omega), List.length_set, List.append_assoc, List.flatMap_append]
      simp
    · rw [List.getElem?_append_right (by simp)]; simp
    · rw [List.getElem?_append_left (by simp), List.getElem?_set_ne (by omega), List.getElem?_append_left hL]
def noteA : AC := match cell_counts_note.body with | .seq a _ => a | _ => .skip
def noteB : AC := match cell_counts_note.body with | .seq _ (.seq a _) => a | _ => .skip
def noteC : AC := match cell_counts_note.body with | .seq _ (.seq _ (.seq a _)) => a | _ => .skip
def noteT : AC := match cell_counts_note.body with | .seq _ (.seq _ (.seq _ a)) => a | _ => .skip
theorem note_body : cell_counts_note = { nloc := 9, npar := 3, res := [], body := .seq noteA (.seq noteB (.seq noteC noteT)) } := rfl
def R8 (u0 u1 u2 u3 u4 u5 : Int) (lv cv : AV) : Chunk Ob := .cells 8 false [.int .u64 u0, .int .u64 u1, .int .u64 u2, .int .u64 u3, .int .u64 u4, .int .u64 u5, lv, cv]
set_option maxHeartbeats 4000000 in
theorem tail_run {m L : MM} {i : Nat} (hi : i < m.length) {s : MemSt} {lv cv : AV} {R0 : Chunk Ob} (e : Acc) (ok : Bool) (u0 u1 u2 u3 u4 u5 : Int) (x4 x5 x6 x7 x8 : AV) (h : LogAt m.length (m.set i R0 ++ L) lv s) (hl : s.log.length ≤ 256) (hL : 0 < L.length)
    {Q : AX → List AV → MM → Prop} (hQ : ∀ e' lv' L', (∀ R, LogAt m.length (m.set i R ++ L') lv' { s with pre := (logMore s e).1, log := (logMore s e).2 }) → L'[0]? = L[0]? → Q .normal e' (m.set i (R8 u0 u1 u2 u3 u4 u5 lv' cv) ++ L')) :
    W [] noteT Q [.ptr i 0, .agg (accC e), .bool ok, .ptr (m.length + L.length) 0, x4, x5, x6, x7, x8] (m.set i (R8 u0 u1 u2 u3 u4 u5 lv cv) ++ (L ++ [.cells 4 false (accC e)])) := by
  have hr := ms_root hi (m := m)
  have hset := ms_set hi (m := m)
  obtain ⟨q, L2, happ, hL2, hq1, hL20⟩ := log_app hi (b := .cells 4 false (accC e)) e h (by omega) hL
  have hone : (accC e).all AV.one = true := rfl
  have hal : (accC e).length = 4 := rfl
  have htk : (accC e).take 4 = accC e := rfl
  have hrep : repeatL 1 [AV.int .i64 0, .int .i64 0, .int .u64 0, .int .u64 0] = [AV.int .i64 0, .int .i64 0, .int .u64 0, .int .u64 0] := rfl
  simp (disch := first | assumption | omega | (simp only [zl] <;> omega) | (simp only [zn])) only [noteT, cell_counts_note, ↓zd, zk, Nat.reduceSub, Nat.reduceAdd, Nat.reduceMul, Nat.reduceLeDiff, Nat.reduceEqDiff, reduceIte, Int.reduceEq, Int.reduceBEq, Int.reduceLE, Int.reduceLT, Int.reduceNeg, Int.reduceAdd, Int.reduceSub, Int.reduceMul, List.map, AV.cells, List.all, AV.one, eqV, eqAll, splice, fillA, List.replicate, resAll, resA, zm, List.length_set, R8, hr, hset, ms_mid, ms_mid0, evA, hone, hal, htk, hrep, happ, List.length_cons, List.length_nil, List.drop_succ_cons, List.drop_zero, List.append_nil]
  (first | refine GK_of (fun h => ?_) (fun h => ?_) | refine CW_of (fun h => ?_) (fun h => ?_) | refine GKT_of (fun h => ?_) (fun h => ?_)) <;> (try simp only [Bool.not_eq_true', Bool.not_eq_false', decide_eq_true_eq, decide_eq_false_iff_not, Bool.and_eq_true, Bool.or_eq_true, Bool.and_eq_false_iff, Bool.or_eq_false_iff, Decidable.not_not] at h)
  · have hsl : ∀ R, amOp [] (.slice 4 true false false) [.sl (m.length + q) 0 (s.log.length + 1) none, .int .i64 1] (m.set i R ++ L2) = some (.sl (m.length + q) 4 s.log.length none, m.set i R ++ L2) := fun R => by
      have hg : getC (m.set i R ++ L2) (m.length + q) = some (4, false, (s.log ++ [e]).flatMap accC) := by simp only [getC, ms_mid, hL2]
      simp [amOp, optN, sliceA, hg]
    simp (disch := first | assumption | omega | (simp only [zl] <;> omega) | (simp only [zn])) only [↓zd, zk, Nat.reduceSub, Nat.reduceAdd, Nat.reduceMul, Nat.reduceLeDiff, Nat.reduceEqDiff, reduceIte, Int.reduceEq, Int.reduceBEq, Int.reduceLE, Int.reduceLT, Int.reduceNeg, Int.reduceAdd, Int.reduceSub, Int.reduceMul, List.map, AV.cells, List.all, AV.one, eqV, eqAll, splice, fillA, List.replicate, resAll, resA, zm, List.length_set, hr, hset, hsl]
    have hd : s.log.drop 1 ++ [e] ≠ [] := by simp
    have h256 : s.log.length = 256 := by omega
    have hlm : logMore s e = (s.log.take 1, s.log.drop 1 ++ [e]) := if_neg (by omega)
    refine hQ _ _ _ (fun R => .inr ⟨m.length + q, ?_, ?_, by omega, ?_⟩) hL20
    · simp only [hlm]; exact hd
    · simp only [hlm, List.length_take, List.length_append, List.length_drop, List.length_cons, List.length_nil, h256]; rfl
    · simp only [hlm]; rw [ms_mid, hL2, ← List.append_assoc, List.take_append_drop]
  · simp (disch := first | assumption | omega | (simp only [zl] <;> omega) | (simp only [zn])) only [↓zd, zk, Nat.reduceSub, Nat.reduceAdd, Nat.reduceMul, Nat.reduceLeDiff, Nat.reduceEqDiff, reduceIte, Int.reduceEq, Int.reduceBEq, Int.reduceLE, Int.reduceLT, Int.reduceNeg, Int.reduceAdd, Int.reduceSub, Int.reduceMul, List.map, AV.cells, List.all, AV.one, eqV, eqAll, splice, fillA, List.replicate, resAll, resA, zm, List.length_set, hr, hset]
    refine hQ _ _ _ (fun R => .inr ⟨m.length + q, ?_, ?_, by omega, ?_⟩) hL20
    · simp only [logMore, if_pos (show s.log.length < 256 by omega)]; simp
    · simp only [logMore, if_pos (show s.log.length < 256 by omega)]; simp
    · simp only [logMore, if_pos (show s.log.length < 256 by omega)]; rw [ms_mid, hL2]; simp
set_option maxHeartbeats 4000000 in
theorem note_run {m L : MM} {i : Nat} (hi : i < m.length) {s : MemSt} {lv cv : AV} {R0 : Chunk Ob} (e : Acc) (ok : Bool) (hlog : LogAt m.length (m.set i R0 ++ L) lv s) (hl : s.log.length ≤ 256) (hL : 0 < L.length) :
    Fn [] cell_counts_note [.ptr i 0, .agg (accC e), .bool ok] (m.set i (.cells 8 false (rootL s lv cv)) ++ L) (fun v M => v = .tup [] ∧ ∃ lv' L', M = m.set i (.cells 8 false (rootL (noted s e ok) lv' cv)) ++ L' ∧ (∀ R, LogAt m.length (m.set i R ++ L') lv' (noted s e ok)) ∧ L'[0]? = L[0]?) := by
  rw [note_body]
  refine Fn_of rfl ?_
  have hr := ms_root hi (m := m)
  have hset := ms_set hi (m := m)
  have hal : (accC e).length = 4 := rfl
  have hg : (accC e)[0]? = some (.int .i64 e.kind) := rfl
  have hone : (accC e).all AV.one = true := rfl
  simp (disch := first | assumption | omega | (simp only [zl] <;> omega) | (simp only [zn])) only [noteA, noteB, noteC, cell_counts_note, ↓zd, zk, Nat.reduceSub, Nat.reduceAdd, Nat.reduceMul, Nat.reduceLeDiff, Nat.reduceEqDiff, reduceIte, Int.reduceEq, Int.reduceBEq, Int.reduceLE, Int.reduceLT, Int.reduceNeg, Int.reduceAdd, Int.reduceSub, Int.reduceMul, List.map, AV.cells, List.all, AV.one, eqV, eqAll, splice, fillA, List.replicate, resAll, resA, zm, List.length_set, rootL, hr, hset, ms_mid, ms_mid0, hal, hg, hone]
  repeat' (first | refine tail_run hi e ok _ _ _ _ _ _ _ _ _ _ _ hlog hl hL (fun e' lv' L' h1 h2 => ?_) | ((first | refine GK_of (fun h => ?_) (fun h => ?_) | refine CW_of (fun h => ?_) (fun h => ?_) | refine GKT_of (fun h => ?_) (fun h => ?_)) <;> (try simp only [Bool.not_eq_true', Bool.not_eq_false', decide_eq_true_eq, decide_eq_false_iff_not, Bool.and_eq_true, Bool.or_eq_true, Bool.and_eq_false_iff, Bool.or_eq_false_iff, Decidable.not_not] at h) <;> (try simp (disch := first | assumption | omega | (simp only [zl] <;> omega) | (simp only [zn])) only [↓zd, zk, Nat.reduceSub, Nat.reduceAdd, Nat.reduceMul, Nat.reduceLeDiff, Nat.reduceEqDiff, reduceIte, Int.reduceEq, Int.reduceBEq, Int.reduceLE, Int.reduceLT, Int.reduceNeg, Int.reduceAdd, Int.reduceSub, Int.reduceMul, List.map, AV.cells, List.all, AV.one, eqV, eqAll, splice, fillA, List.replicate, resAll, resA, zm, List.length_set, hr, hset, ms_mid, ms_mid0, hal, hg, hone])))
  all_goals simp (disch := first | assumption | omega | (simp only [zl] <;> omega) | (simp only [zn])) only [↓zd, zk, Nat.reduceSub, Nat.reduceAdd, Nat.reduceMul, Nat.reduceLeDiff, Nat.reduceEqDiff, reduceIte, Int.reduceEq, Int.reduceBEq, Int.reduceLE, Int.reduceLT, Int.reduceNeg, Int.reduceAdd, Int.reduceSub, Int.reduceMul, List.map, AV.cells, List.all, AV.one, eqV, eqAll, splice, fillA, List.replicate, resAll, resA, zm]
  all_goals refine ⟨lv', L', ?_, fun R => h1 R, h2⟩
  all_goals clear hlog hr hset hl hL h1 h2 hal hg hone
  all_goals simp_all [noted, R8]
theorem logAt_set0 {m L : MM} {i : Nat} {s : MemSt} {lv : AV} {R R' c : Chunk Ob} (hi : i < m.length) (h : LogAt m.length (m.set i R ++ L) lv s) : LogAt m.length (m.set i R' ++ L.set 0 c) lv s := by
  rcases h with h | ⟨k2, h0, h1, h2, h3⟩
  · exact .inl h
  · refine .inr ⟨k2, h0, h1, h2, ?_⟩
    rw [List.getElem?_append_right (by simp; omega), List.length_set] at h3 ⊢
    rw [List.getElem?_set_ne (by omega)]; exact h3
set_option maxHeartbeats 4000000 in
theorem access_run {m L : MM} {i : Nat} (hi : i < m.length) {s : MemSt} {lv : AV} {cap : Option Nat} {k a : Int} {f : Nat} {c : List AV} {F : AFun Ob} {old new : Int} {ok : Bool}
    (hlog : LogAt m.length (m.set i (.cells 8 false (rootL s lv (.sl m.length 0 s.cells.length cap))) ++ L) lv s) (hl : s.log.length ≤ 256) (hc : L[0]? = some (.cells 1 false (uC s.cells))) (ha0 : 0 ≤ a) (ha1 : a < s.cells.length) (hold : s.cells[a.toNat]? = some old)
    (hth : c_cell_Mem_there [.ptr i 0, .int .i64 a] (m.set i (.cells 8 false (rootL s lv (.sl m.length 0 s.cells.length cap))) ++ L) = some (.bool true, m.set i (.cells 8 false (rootL s lv (.sl m.length 0 s.cells.length cap))) ++ L))
    {G : List (Nat × AFun Ob)} (h56 : assoc G 56 = some c_cell_Mem_there) (h71 : assoc G 71 = some c_cell_counts_note) (hf : assoc G f = some F) (hF : F (.int .u64 old :: c) (m.set i (.cells 8 false (rootL s lv (.sl m.length 0 s.cells.length cap))) ++ L) = some (.tup [.int .u64 new, .bool ok], m.set i (.cells 8 false (rootL s lv (.sl m.length 0 s.cells.length cap))) ++ L)) :
    Fn G cell_Mem_access [.ptr i 0, .int .i64 k, .int .i64 a, .fn f [] c] (m.set i (.cells 8 false (rootL s lv (.sl m.length 0 s.cells.length cap))) ++ L) (fun v M => v = .tup [.int .u64 old, .bool ok] ∧
      ∃ lv' L', M = m.set i (.cells 8 false (rootL (noted { s with cells := s.cells.set a.toNat new } ⟨k, a, old, new⟩ ok) lv' (.sl m.length 0 s.cells.length cap))) ++ L' ∧
        (∀ R, LogAt m.length (m.set i R ++ L') lv' (noted { s with cells := s.cells.set a.toNat new } ⟨k, a, old, new⟩ ok)) ∧ L'[0]? = some (.cells 1 false (uC (s.cells.set a.toNat new)))) := by
  refine Fn_of rfl ?_
  have hr := ms_root hi (m := m)
  have hset := ms_set hi (m := m)
  have hu : (uC s.cells)[a.toNat]? = some (.int .u64 old) := by simp [uC, hold]
  have hul : (uC s.cells).length = s.cells.length := by simp [uC]
  have hr7 : ∀ (s : MemSt) lv cv, (rootL s lv cv)[7]? = some cv := fun _ _ _ => rfl
  simp (disch := first | assumption | omega | (simp only [zl] <;> omega) | (simp only [zn])) only [cell_Mem_access, ↓zd, zk, Nat.reduceSub, Nat.reduceAdd, Nat.reduceMul, Nat.reduceLeDiff, Nat.reduceEqDiff, reduceIte, Int.reduceEq, Int.reduceBEq, Int.reduceLE, Int.reduceLT, Int.reduceNeg, Int.reduceAdd, Int.reduceSub, Int.reduceMul, List.map, AV.cells, List.all, AV.one, eqV, eqAll, splice, fillA, List.replicate, resAll, resA, hr, hset, ms_mid, ms_mid0, ms_set0, h56, hth, hc, hu, hul, hf, hF, hr7]
  simp only [h71]
  have hlog2 : LogAt m.length (m.set i (.cells 8 false (rootL s lv (.sl m.length 0 s.cells.length cap))) ++ L.set 0 (.cells 1 false ((uC s.cells).set a.toNat (.int .u64 new)))) lv { s with cells := s.cells.set a.toNat new } := logAt_set0 hi hlog
  have hset2 : (uC s.cells).set a.toNat (.int .u64 new) = uC (s.cells.set a.toNat new) := by simp [uC, List.map_set]
  have hL : 0 < (L.set 0 (.cells 1 false ((uC s.cells).set a.toNat (.int .u64 new)))).length := by
    have := (List.getElem?_eq_some_iff.1 hc).1
    simpa using this
  refine OK_fn (note_run (s := { s with cells := s.cells.set a.toNat new }) (cv := .sl m.length 0 s.cells.length cap) hi ⟨k, a, old, new⟩ ok hlog2 hl hL) ?_
  rintro v M ⟨rfl, lv', L', rfl, h1, h2⟩
  simp (disch := first | assumption | omega | (simp only [zl] <;> omega) | (simp only [zn])) only [↓zd, zk, Nat.reduceSub, Nat.reduceAdd, Nat.reduceMul, Nat.reduceLeDiff, Nat.reduceEqDiff, reduceIte, Int.reduceEq, Int.reduceBEq, Int.reduceLE, Int.reduceLT, Int.reduceNeg, Int.reduceAdd, Int.reduceSub, Int.reduceMul, List.map, AV.cells, List.all, AV.one, eqV, eqAll, splice, fillA, List.replicate, resAll, resA]
  refine ⟨lv', L', rfl, h1, ?_⟩
  rw [h2, List.getElem?_set_self (List.getElem?_eq_some_iff.1 hc).1, hset2]
def accS (k : Int) (g : Int → Int × Bool) (s : MemSt) (a : Int) : Option (Int × Bool × MemSt) :=
  if s.log.length ≤ 256 then
    if 0 ≤ a ∧ a < s.cells.length then
      some (s.cells.getD a.toNat 0, (g (s.cells.getD a.toNat 0)).2, noted { s with cells := s.cells.set a.toNat (g (s.cells.getD a.toNat 0)).1 } ⟨k, a, s.cells.getD a.toNat 0, (g (s.cells.getD a.toNat 0)).1⟩ (g (s.cells.getD a.toNat 0)).2)
    else some (0, false, s)
  else none
set_option maxHeartbeats 4000000 in
theorem acc_run {m L : MM} {i : Nat} (hi : i < m.length) {s s' : MemSt} {lv : AV} {k a : Int} {f : Nat} {c : List AV} {F : AFun Ob} {g : Int → Int × Bool} {o : Int} {ok : Bool}
    (hlog : ∀ R, LogAt m.length (m.set i R ++ L) lv s) (hc : L[0]? = some (.cells 1 false (uC s.cells)))
    {G : List (Nat × AFun Ob)} (h56 : assoc G 56 = some c_cell_Mem_there) (h71 : assoc G 71 = some c_cell_counts_note) (hf : assoc G f = some F) (hF : ∀ w R, F (.int .u64 w :: c) (m.set i R ++ L) = some (.tup [.int .u64 (g w).1, .bool (g w).2], m.set i R ++ L)) (hs : accS k g s a = some (o, ok, s')) :
    Fn G cell_Mem_access [.ptr i 0, .int .i64 k, .int .i64 a, .fn f [] c] (m.set i (.cells 8 false (rootL s lv (cvA i m.length s))) ++ L) (fun v M => v = .tup [.int .u64 o, .bool ok] ∧
      ∃ lv' L', M = m.set i (.cells 8 false (rootL s' lv' (cvA i m.length s'))) ++ L' ∧ (∀ R, LogAt m.length (m.set i R ++ L') lv' s') ∧ L'[0]? = some (.cells 1 false (uC s'.cells))) := by
  have hth := there_run hi s lv m.length L a
  unfold accS at hs
  split at hs
  case isFalse => cases hs
  rename_i hl
  split at hs
  · rename_i ha
    simp only [Option.some.injEq, Prod.mk.injEq] at hs
    obtain ⟨rfl, rfl, rfl⟩ := hs
    have hlt : a.toNat < s.cells.length := by omega
    have hne : s.cells ≠ [] := fun h => by rw [h] at hlt; simp at hlt
    have hne' : s.cells.set a.toNat (g (s.cells.getD a.toNat 0)).1 ≠ [] := fun h => hne (by simpa using h)
    have hold : s.cells[a.toNat]? = some (s.cells.getD a.toNat 0) := by rw [List.getD_eq_getElem?_getD, List.getElem?_eq_getElem hlt]; rfl
    have hcv : cvA i m.length s = .sl m.length 0 s.cells.length (if s.ck then some s.cells.length else none) := if_neg hne
    have hcv' : cvA i m.length (noted { s with cells := s.cells.set a.toNat (g (s.cells.getD a.toNat 0)).1 } ⟨k, a, s.cells.getD a.toNat 0, (g (s.cells.getD a.toNat 0)).1⟩ (g (s.cells.getD a.toNat 0)).2) = .sl m.length 0 s.cells.length (if s.ck then some s.cells.length else none) := by
      unfold cvA; split
      · rename_i h; exact absurd h hne'
      · simp [noted]
    rw [hcv']
    rw [hcv] at hth ⊢
    exact access_run hi (hlog _) hl hc ha.1 ha.2 hold (by rw [hth]; simp [ha.1, ha.2]) h56 h71 hf (hF _ _)
  · rename_i ha
    simp only [Option.some.injEq, Prod.mk.injEq] at hs
    obtain ⟨rfl, rfl, rfl⟩ := hs
    refine Fn_of rfl ?_
    have hb : (decide (0 ≤ a) && decide (a < s.cells.length)) = false := by
      rw [Bool.and_eq_false_iff, decide_eq_false_iff_not, decide_eq_false_iff_not]; omega
    rw [hb] at hth
    simp (disch := first | assumption | omega | (simp only [zl] <;> omega) | (simp only [zn])) only [cell_Mem_access, ↓zd, zk, Nat.reduceSub, Nat.reduceAdd, Nat.reduceMul, Nat.reduceLeDiff, Nat.reduceEqDiff, reduceIte, Int.reduceEq, Int.reduceBEq, Int.reduceLE, Int.reduceLT, Int.reduceNeg, Int.reduceAdd, Int.reduceSub, Int.reduceMul, List.map, AV.cells, List.all, AV.one, eqV, eqAll, splice, fillA, List.replicate, resAll, resA, h56, hth]
    exact ⟨lv, L, rfl, hlog, hc⟩
theorem memAt_of {m L : MM} {i : Nat} (hi : i < m.length) {s : MemSt} {lv : AV} (hlog : ∀ R, LogAt m.length (m.set i R ++ L) lv s) (hc : L[0]? = some (.cells 1 false (uC s.cells))) :
    ∃ k1 k2, m.length ≤ (m.set i (.cells 8 false (rootL s lv (cvA i m.length s))) ++ L).length ∧ (∀ j, j < m.length → j ≠ i → (m.set i (.cells 8 false (rootL s lv (cvA i m.length s))) ++ L)[j]? = m[j]?) ∧ m.length ≤ k1 ∧ m.length ≤ k2 ∧ k1 ≠ k2 ∧
      MemAt (m.set i (.cells 8 false (rootL s lv (cvA i m.length s))) ++ L) i k1 k2 s := by
  have hcells : (m.set i (.cells 8 false (rootL s lv (cvA i m.length s))) ++ L)[m.length]? = some (.cells 1 false (uC s.cells)) := by rw [ms_mid0]; exact hc
  rcases hlog (.cells 8 false (rootL s lv (cvA i m.length s))) with ⟨h0, rfl⟩ | ⟨k2, h0, rfl, h2, h3⟩
  · exact ⟨m.length, m.length + 1, by simp, fun j hj hji => ms_other hj hji _ _, by omega, by omega, by omega, ⟨_, by rw [ms_root hi]; simp only [lvA, if_pos h0], .inl rfl⟩, fun _ => hcells, fun h => absurd h0 h⟩
  · exact ⟨m.length, k2, by simp, fun j hj hji => ms_other hj hji _ _, by omega, by omega, by omega, ⟨_, by rw [ms_root hi]; simp only [lvA, if_neg h0], .inl rfl⟩, fun _ => hcells, fun _ => h3⟩
theorem logAt_pl {m J : MM} {i : Nat} (s : MemSt) (R : Chunk Ob) : LogAt m.length (m.set i R ++ ((plM (.mem s) i m.length).2 ++ J)) (lvA (m.length + 1) s) s := by
  by_cases h : s.log = []
  · exact .inl ⟨h, if_pos h⟩
  · exact .inr ⟨m.length + 1, h, if_neg h, Nat.le_refl _, by rw [ms_mid]; rfl⟩
def loadS (s : MemSt) : List AV → Option (AV × MemSt)
  | [.int .i64 a] => (accS 1 (fun w => (w, true)) s a).map fun x => (.int .u64 x.1, x.2.2)
  | _ => none
set_option maxHeartbeats 4000000 in
theorem load_foldG {G : List (Nat × AFun Ob)} (h56 : assoc G 56 = some c_cell_Mem_there) (h71 : assoc G 71 = some c_cell_counts_note) (hclo : assoc G 52 = some c_cell_Mem_Load_1) : Fold concM (unf 0 plM (amFunc [(50, amFunc G cell_Mem_access), (52, c_cell_Mem_Load_1)] cell_Mem_Load)) (memF loadS) := mem_fold fun m i rest s s' v hi hst => by
  unfold loadS at hst
  split at hst
  case h_2 => cases hst
  rename_i a
  cases hacc : accS 1 (fun w => (w, true)) s a with
  | none => rw [hacc] at hst; cases hst
  | some x =>
    obtain ⟨o, ok, s1⟩ := x
    rw [hacc] at hst
    simp only [Option.map_some, Option.some.injEq, Prod.mk.injEq] at hst
    obtain ⟨rfl, rfl⟩ := hst
    have hF : ∀ (w : Int) (M : MM), c_cell_Mem_Load_1 (.int .u64 w :: []) M = some (.tup [.int .u64 w, .bool true], M) := fun w M => Fn_eq (Fn_of rfl (by simp (disch := first | assumption | omega | (simp only [zl] <;> omega) | (simp only [zn])) only [cell_Mem_Load_1, ↓zd, zk, Nat.reduceSub, Nat.reduceAdd, Nat.reduceMul, Nat.reduceLeDiff, Nat.reduceEqDiff, reduceIte, Int.reduceEq, Int.reduceBEq, Int.reduceLE, Int.reduceLT, Int.reduceNeg, Int.reduceAdd, Int.reduceSub, Int.reduceMul, List.map, AV.cells, List.all, AV.one, eqV, eqAll, splice, fillA, List.replicate, resAll, resA]))
    have hrun : Fn [(50, amFunc G cell_Mem_access), (52, c_cell_Mem_Load_1)] cell_Mem_Load [.ptr i 0, .int .i64 a] (m.set i (plM (.mem s) i m.length).1 ++ (plM (.mem s) i m.length).2) (fun v M => v = .int .u64 o ∧
        ∃ lv' L', M = m.set i (.cells 8 false (rootL s1 lv' (cvA i m.length s1))) ++ L' ∧ (∀ R, LogAt m.length (m.set i R ++ L') lv' s1) ∧ L'[0]? = some (.cells 1 false (uC s1.cells))) := by
      refine Fn_of rfl ?_
      simp (disch := first | assumption | omega | (simp only [zl] <;> omega) | (simp only [zn])) only [cell_Mem_Load, ↓zd, zk, Nat.reduceSub, Nat.reduceAdd, Nat.reduceMul, Nat.reduceLeDiff, Nat.reduceEqDiff, reduceIte, Int.reduceEq, Int.reduceBEq, Int.reduceLE, Int.reduceLT, Int.reduceNeg, Int.reduceAdd, Int.reduceSub, Int.reduceMul, List.map, AV.cells, List.all, AV.one, eqV, eqAll, splice, fillA, List.replicate, resAll, resA]
      have hl := fun R => logAt_pl (m := m) (J := []) (i := i) s R
      simp only [List.append_nil] at hl
      refine OK_fn (acc_run hi hl rfl h56 h71 (F := c_cell_Mem_Load_1) hclo (fun w R => hF w _) hacc) ?_
      rintro v M ⟨rfl, h⟩
      simp (disch := first | assumption | omega | (simp only [zl] <;> omega) | (simp only [zn])) only [↓zd, zk, Nat.reduceSub, Nat.reduceAdd, Nat.reduceMul, Nat.reduceLeDiff, Nat.reduceEqDiff, reduceIte, Int.reduceEq, Int.reduceBEq, Int.reduceLE, Int.reduceLT, Int.reduceNeg, Int.reduceAdd, Int.reduceSub, Int.reduceMul, List.map, AV.cells, List.all, AV.one, eqV, eqAll, splice, fillA, List.replicate, resAll, resA]
      exact h
    obtain ⟨_, M, h1, rfl, lv', L', rfl, h2, h3⟩ := hrun
    obtain ⟨k1, k2, h4⟩ := memAt_of hi h2 h3
    exact ⟨rfl, _, k1, k2, h1, h4⟩
theorem meth_fold {f : AFun Ob} {step : MemSt → List AV → Option (AV × MemSt)} (h : ∀ (m : MM) (i : Nat) (rest : List AV) (s s' : MemSt) (v : AV), i < m.length → step s rest = some (v, s') → AV.ren no v = some v ∧
    ∃ M, f (.ptr i 0 :: rest) (m.set i (plM (.mem s) i m.length).1 ++ (plM (.mem s) i m.length).2) = some (v, M) ∧ ∃ lv' L', M = m.set i (.cells 8 false (rootL s' lv' (cvA i m.length s'))) ++ L' ∧ (∀ R, LogAt m.length (m.set i R ++ L') lv' s') ∧ L'[0]? = some (.cells 1 false (uC s'.cells))) :
    Fold concM (unf 0 plM f) (memF step) := mem_fold fun m i rest s s' v hi hst => by
  obtain ⟨h1, M, h2, lv', L', rfl, h3, h4⟩ := h m i rest s s' v hi hst
  obtain ⟨k1, k2, h5⟩ := memAt_of hi h3 h4
  exact ⟨h1, _, k1, k2, h2, h5⟩
theorem pl_cells {m J : MM} {i : Nat} (s : MemSt) : ((plM (.mem s) i m.length).2 ++ J)[0]? = some (.cells 1 false (uC s.cells)) := rfl
theorem pl_len {m : MM} {i : Nat} (s : MemSt) : (plM (.mem s) i m.length).2.length = 2 := rfl
def storeS (s : MemSt) : List AV → Option (AV × MemSt)
  | [.int .i64 a, .int .u64 x] => (accS 2 (fun _ => (x, true)) s a).map fun r => (.tup [], r.2.2)
  | _ => none
set_option maxHeartbeats 4000000 in
theorem store_foldG {G : List (Nat × AFun Ob)} (h56 : assoc G 56 = some c_cell_Mem_there) (h71 : assoc G 71 = some c_cell_counts_note) (hclo : assoc G 49 = some c_cell_Mem_Store_1) : Fold concM (unf 0 plM (amFunc [(50, amFunc G cell_Mem_access), (49, c_cell_Mem_Store_1)] cell_Mem_Store)) (memF storeS) := meth_fold fun m i rest s s' v hi hst => by
  unfold storeS at hst
  split at hst
  case h_2 => cases hst
  rename_i a x
  cases hacc : accS 2 (fun _ => (x, true)) s a with
  | none => rw [hacc] at hst; cases hst
  | some r =>
    obtain ⟨o, ok, s1⟩ := r
    rw [hacc] at hst
    simp only [Option.map_some, Option.some.injEq, Prod.mk.injEq] at hst
    obtain ⟨rfl, rfl⟩ := hst
    have hp := pl_len (m := m) (i := i) s
    have hg : ∀ R, (m.set i R ++ ((plM (.mem s) i m.length).2 ++ [Chunk.cells 1 false [.int .u64 x]]))[m.length + 2]? = some (Chunk.cells 1 false [.int .u64 x]) := fun R => by rw [ms_mid]; rfl
    have hF : ∀ (w : Int) (R : Chunk Ob), c_cell_Mem_Store_1 [.int .u64 w, .ptr (m.length + 2) 0] (m.set i R ++ ((plM (.mem s) i m.length).2 ++ [Chunk.cells 1 false [.int .u64 x]])) = some (.tup [.int .u64 x, .bool true], m.set i R ++ ((plM (.mem s) i m.length).2 ++ [Chunk.cells 1 false [.int .u64 x]])) :=
      fun w R => Fn_eq (Fn_of rfl (by have hgR := hg R; simp (disch := first | assumption | omega | (simp only [zl] <;> omega) | (simp only [zn])) only [cell_Mem_Store_1, ↓zd, zk, Nat.reduceSub, Nat.reduceAdd, Nat.reduceMul, Nat.reduceLeDiff, Nat.reduceEqDiff, reduceIte, Int.reduceEq, Int.reduceBEq, Int.reduceLE, Int.reduceLT, Int.reduceNeg, Int.reduceAdd, Int.reduceSub, Int.reduceMul, List.map, AV.cells, List.all, AV.one, eqV, eqAll, splice, fillA, List.replicate, resAll, resA, hgR]))
    refine ⟨rfl, ?_⟩
    have hrun : Fn [(50, amFunc G cell_Mem_access), (49, c_cell_Mem_Store_1)] cell_Mem_Store [.ptr i 0, .int .i64 a, .int .u64 x] (m.set i (plM (.mem s) i m.length).1 ++ (plM (.mem s) i m.length).2) (fun v M => v = .tup [] ∧
        ∃ lv' L', M = m.set i (.cells 8 false (rootL s1 lv' (cvA i m.length s1))) ++ L' ∧ (∀ R, LogAt m.length (m.set i R ++ L') lv' s1) ∧ L'[0]? = some (.cells 1 false (uC s1.cells))) := by
      refine Fn_of rfl ?_
      simp (disch := first | assumption | omega | (simp only [zl] <;> omega) | (simp only [zn])) only [cell_Mem_Store, ↓zd, zk, Nat.reduceSub, Nat.reduceAdd, Nat.reduceMul, Nat.reduceLeDiff, Nat.reduceEqDiff, reduceIte, Int.reduceEq, Int.reduceBEq, Int.reduceLE, Int.reduceLT, Int.reduceNeg, Int.reduceAdd, Int.reduceSub, Int.reduceMul, List.map, AV.cells, List.all, AV.one, eqV, eqAll, splice, fillA, List.replicate, resAll, resA, List.append_assoc, List.length_append, List.length_set, hp, List.take, List.drop]
      refine OK_fn (acc_run hi (fun R => logAt_pl s R) (pl_cells s) h56 h71 (F := c_cell_Mem_Store_1) hclo hF hacc) ?_
      rintro v M ⟨rfl, h⟩
      simp (disch := first | assumption | omega | (simp only [zl] <;> omega) | (simp only [zn])) only [↓zd, zk, Nat.reduceSub, Nat.reduceAdd, Nat.reduceMul, Nat.reduceLeDiff, Nat.reduceEqDiff, reduceIte, Int.reduceEq, Int.reduceBEq, Int.reduceLE, Int.reduceLT, Int.reduceNeg, Int.reduceAdd, Int.reduceSub, Int.reduceMul, List.map, AV.cells, List.all, AV.one, eqV, eqAll, splice, fillA, List.replicate, resAll, resA]
      first | exact h | exact ⟨rfl, h⟩
    obtain ⟨_, M, h1, rfl, h⟩ := hrun
    exact ⟨M, h1, h⟩
def casS (s : MemSt) : List AV → Option (AV × MemSt)
  | [.int .i64 a, .int .u64 x, .int .u64 y] => (accS 3 (fun w => if w = x then (y, true) else (w, false)) s a).map fun r => (.bool r.2.1, r.2.2)
  | _ => none
set_option maxHeartbeats 4000000 in
theorem cas_foldG {G : List (Nat × AFun Ob)} (h56 : assoc G 56 = some c_cell_Mem_there) (h71 : assoc G 71 = some c_cell_counts_note) (hclo : assoc G 51 = some c_cell_Mem_CAS_1) : Fold concM (unf 0 plM (amFunc [(50, amFunc G cell_Mem_access), (51, c_cell_Mem_CAS_1)] cell_Mem_CAS)) (memF casS) := meth_fold fun m i rest s s' v hi hst => by
  unfold casS at hst
  split at hst
  case h_2 => cases hst
  rename_i a x y
  cases hacc : accS 3 (fun w => if w = x then (y, true) else (w, false)) s a with
  | none => rw [hacc] at hst; cases hst
  | some r =>
    obtain ⟨o, ok, s1⟩ := r
    rw [hacc] at hst
    simp only [Option.map_some, Option.some.injEq, Prod.mk.injEq] at hst
    obtain ⟨rfl, rfl⟩ := hst
    have hp := pl_len (m := m) (i := i) s
    have hg0 : ∀ R, (m.set i R ++ ((plM (.mem s) i m.length).2 ++ [Chunk.cells 1 false [.int .u64 x], Chunk.cells 1 false [.int .u64 y]]))[m.length + 2]? = some (Chunk.cells 1 false [.int .u64 x]) := fun R => by rw [ms_mid]; rfl
    have hg1 : ∀ R, (m.set i R ++ ((plM (.mem s) i m.length).2 ++ [Chunk.cells 1 false [.int .u64 x], Chunk.cells 1 false [.int .u64 y]]))[m.length + 3]? = some (Chunk.cells 1 false [.int .u64 y]) := fun R => by rw [ms_mid]; rfl
    have hF : ∀ (w : Int) (R : Chunk Ob), c_cell_Mem_CAS_1 [.int .u64 w, .ptr (m.length + 2) 0, .ptr (m.length + 3) 0] (m.set i R ++ ((plM (.mem s) i m.length).2 ++ [Chunk.cells 1 false [.int .u64 x], Chunk.cells 1 false [.int .u64 y]])) = some (.tup [.int .u64 ((fun w => if w = x then (y, true) else (w, false)) w).1, .bool ((fun w => if w = x then (y, true) else (w, false)) w).2], m.set i R ++ ((plM (.mem s) i m.length).2 ++ [Chunk.cells 1 false [.int .u64 x], Chunk.cells 1 false [.int .u64 y]])) :=
      fun w R => Fn_eq (Fn_of rfl (by have hgR0 := hg0 R; have hgR1 := hg1 R; simp (disch := first | assumption | omega | (simp only [zl] <;> omega) | (simp only [zn])) only [cell_Mem_CAS_1, ↓zd, zk, Nat.reduceSub, Nat.reduceAdd, Nat.reduceMul, Nat.reduceLeDiff, Nat.reduceEqDiff, reduceIte, Int.reduceEq, Int.reduceBEq, Int.reduceLE, Int.reduceLT, Int.reduceNeg, Int.reduceAdd, Int.reduceSub, Int.reduceMul, List.map, AV.cells, List.all, AV.one, eqV, eqAll, splice, fillA, List.replicate, resAll, resA, hgR0, hgR1]; (first | refine GK_of (fun h => ?_) (fun h => ?_) | refine CW_of (fun h => ?_) (fun h => ?_) | refine GKT_of (fun h => ?_) (fun h => ?_)) <;> (try simp only [Bool.not_eq_true', Bool.not_eq_false', decide_eq_true_eq, decide_eq_false_iff_not, Bool.and_eq_true, Bool.or_eq_true, Bool.and_eq_false_iff, Bool.or_eq_false_iff, Decidable.not_not] at h) <;> simp (disch := first | assumption | omega | (simp only [zl] <;> omega) | (simp only [zn])) only [↓zd, zk, Nat.reduceSub, Nat.reduceAdd, Nat.reduceMul, Nat.reduceLeDiff, Nat.reduceEqDiff, reduceIte, Int.reduceEq, Int.reduceBEq, Int.reduceLE, Int.reduceLT, Int.reduceNeg, Int.reduceAdd, Int.reduceSub, Int.reduceMul, List.map, AV.cells, List.all, AV.one, eqV, eqAll, splice, fillA, List.replicate, resAll, resA, hgR0, hgR1] <;> simp_all))
    refine ⟨rfl, ?_⟩
    have hrun : Fn [(50, amFunc G cell_Mem_access), (51, c_cell_Mem_CAS_1)] cell_Mem_CAS [.ptr i 0, .int .i64 a, .int .u64 x, .int .u64 y] (m.set i (plM (.mem s) i m.length).1 ++ (plM (.mem s) i m.length).2) (fun v M => v = .bool ok ∧
        ∃ lv' L', M = m.set i (.cells 8 false (rootL s1 lv' (cvA i m.length s1))) ++ L' ∧ (∀ R, LogAt m.length (m.set i R ++ L') lv' s1) ∧ L'[0]? = some (.cells 1 false (uC s1.cells))) := by
      refine Fn_of rfl ?_
      simp (disch := first | assumption | omega | (simp only [zl] <;> omega) | (simp only [zn])) only [cell_Mem_CAS, ↓zd, zk, Nat.reduceSub, Nat.reduceAdd, Nat.reduceMul, Nat.reduceLeDiff, Nat.reduceEqDiff, reduceIte, Int.reduceEq, Int.reduceBEq, Int.reduceLE, Int.reduceLT, Int.reduceNeg, Int.reduceAdd, Int.reduceSub, Int.reduceMul, List.map, AV.cells, List.all, AV.one, eqV, eqAll, splice, fillA, List.replicate, resAll, resA, List.append_assoc, List.length_append, List.length_set, hp, List.take, List.drop, List.cons_append, List.length_cons, List.length_nil]
      refine OK_fn (acc_run hi (fun R => logAt_pl s R) (pl_cells s) h56 h71 (F := c_cell_Mem_CAS_1) hclo hF hacc) ?_
      rintro v M ⟨rfl, h⟩
      simp (disch := first | assumption | omega | (simp only [zl] <;> omega) | (simp only [zn])) only [↓zd, zk, Nat.reduceSub, Nat.reduceAdd, Nat.reduceMul, Nat.reduceLeDiff, Nat.reduceEqDiff, reduceIte, Int.reduceEq, Int.reduceBEq, Int.reduceLE, Int.reduceLT, Int.reduceNeg, Int.reduceAdd, Int.reduceSub, Int.reduceMul, List.map, AV.cells, List.all, AV.one, eqV, eqAll, splice, fillA, List.replicate, resAll, resA]
      first | exact h | exact ⟨rfl, h⟩
    obtain ⟨_, M, h1, rfl, h⟩ := hrun
    exact ⟨M, h1, h⟩
end Go.Am.F06
end
section
namespace Go.Am.F06
def memNF (step : MemSt → List AV → Option ((Nat → AV) × MemSt × Nat × List AV)) : AFun Ob := fun args m =>
  match args with
  | .ptr i 0 :: rest => match m[i]? with
    | some (.abs (.mem s)) => match step s rest with
      | some (mk, s', sz, L) => some (mk m.length, m.set i (.abs (.mem s')) ++ [.cells sz false L])
      | none => none
    | _ => none
  | _ => none
theorem memN_fold {f : AFun Ob} {step : MemSt → List AV → Option ((Nat → AV) × MemSt × Nat × List AV)} (h : ∀ (m : MM) (i : Nat) (rest : List AV) (s s' : MemSt) (mk : Nat → AV) (sz : Nat) (L : List AV), i < m.length → step s rest = some (mk, s', sz, L) →
    (∀ ρ, AV.renL ρ L = some L) ∧ ∃ v0 mh k1 k2 q, f (.ptr i 0 :: rest) (m.set i (plM (.mem s) i m.length).1 ++ (plM (.mem s) i m.length).2) = some (v0, mh) ∧ AV.ren (rhoN m.length q) v0 = some (mk m.length) ∧ m.length ≤ q ∧ q ≠ k1 ∧ q ≠ k2 ∧ mh[q]? = some (.cells sz false L) ∧
      m.length ≤ mh.length ∧ (∀ j, j < m.length → j ≠ i → mh[j]? = m[j]?) ∧ m.length ≤ k1 ∧ m.length ≤ k2 ∧ k1 ≠ k2 ∧ MemAt mh i k1 k2 s') :
    Fold concM (unf 0 plM f) (memNF step) := by
  intro args m v m' hg
  unfold memNF at hg
  split at hg
  case h_2 => cases hg
  rename_i i rest
  split at hg
  case h_2 => cases hg
  rename_i s hs
  split at hg
  case h_2 => cases hg
  rename_i mk s' sz L hst
  simp only [Option.some.injEq, Prod.mk.injEq] at hg
  obtain ⟨rfl, rfl⟩ := hg
  have hi : i < m.length := (List.getElem?_eq_some_iff.1 hs).1
  obtain ⟨hL, v0, mh, k1, k2, q, h1, hv, hq, hq1, hq2, hqc, h2, h3, h4, h5, h6, h7⟩ := h m i rest s s' mk sz L hi hst
  exact fold_memN hi (by simp only [unf, List.getElem?_cons_zero, hs]; exact h1) hv hq hq1 hq2 hqc hL h3 h4 h5 h6 h7
set_option maxHeartbeats 4000000 in
theorem clone_nil {M : MM} {q o : Nat} {cap : Option Nat} : c_slices_Clone_uint64 [.sl q o 0 cap] M = some (.sl M.length 0 0 (some 0), M ++ [.cells 1 false []]) := by
  refine Fn_eq (Fn_of rfl ?_)
  have hlit : ∀ M : MM, amOp [] (.lit 0 1 [.int .u64 0] []) [] M = some (.sl M.length 0 0 (some 0), M ++ [.cells 1 false []]) := fun M => rfl
  have ha : ∀ M2 : MM, appendA 1 8 (.sl M.length 0 0 (some 0)) (.sl q o 0 cap) M2 = some (.sl M.length 0 0 (some 0), M2) := fun M2 => by simp [appendA, lenA, rowOf]
  simp (disch := first | assumption | omega | (simp only [zl] <;> omega) | (simp only [zn])) only [slices_Clone_uint64, ↓zd, zk, Nat.reduceSub, Nat.reduceAdd, Nat.reduceMul, Nat.reduceLeDiff, Nat.reduceEqDiff, reduceIte, Int.reduceEq, Int.reduceBEq, Int.reduceLE, Int.reduceLT, Int.reduceNeg, Int.reduceAdd, Int.reduceSub, Int.reduceMul, List.map, AV.cells, List.all, AV.one, eqV, eqAll, splice, fillA, List.replicate, resAll, resA, hlit, evA, ha]
set_option maxHeartbeats 4000000 in
theorem clone_run {M : MM} {q : Nat} {cap : Option Nat} {xs : List Int} (hq : M[q]? = some (.cells 1 false (uC xs))) (hx : xs ≠ []) (hn : xs.length ≤ 65536) :
    c_slices_Clone_uint64 [.sl q 0 xs.length cap] M = some (.sl (M.length + 1) 0 xs.length none, M ++ [.cells 1 false [], .cells 1 false (uC xs)]) := by
  refine Fn_eq (Fn_of rfl ?_)
  have hlit : ∀ M : MM, amOp [] (.lit 0 1 [.int .u64 0] []) [] M = some (.sl M.length 0 0 (some 0), M ++ [.cells 1 false []]) := fun M => rfl
  have h0 : xs.length ≠ 0 := fun h => hx (List.length_eq_zero_iff.1 h)
  have hul : (uC xs).length = xs.length := by simp [uC]
  have hone : (uC xs).all AV.one = true := by simp [uC, AV.one]
  have hq' : (M ++ [Chunk.cells 1 false []])[q]? = some (.cells 1 false (uC xs)) := by rw [List.getElem?_append_left (List.getElem?_eq_some_iff.1 hq).1]; exact hq
  have ha : appendA 1 8 (.sl M.length 0 0 (some 0)) (.sl q 0 xs.length cap) (M ++ [Chunk.cells 1 false []]) = some (.sl (M.length + 1) 0 xs.length none, M ++ [.cells 1 false [], .cells 1 false (uC xs)]) := by
    have hrow : rowOf (M ++ [Chunk.cells 1 false []]) 1 (.sl q 0 xs.length cap) = some (uC xs) := by
      simp only [rowOf, getC, hq']
      rw [if_neg h0, if_pos (by omega), List.drop_zero, List.take_of_length_le (by omega)]
    simp only [appendA, lenA, hrow]
    rw [if_neg h0, if_neg (by omega)]
    simp only [rowOf, if_true, List.nil_append]
    rw [if_pos ⟨by omega, by omega, hone⟩]
    simp
  simp (disch := first | assumption | omega | (simp only [zl] <;> omega) | (simp only [zn])) only [slices_Clone_uint64, ↓zd, zk, Nat.reduceSub, Nat.reduceAdd, Nat.reduceMul, Nat.reduceLeDiff, Nat.reduceEqDiff, reduceIte, Int.reduceEq, Int.reduceBEq, Int.reduceLE, Int.reduceLT, Int.reduceNeg, Int.reduceAdd, Int.reduceSub, Int.reduceMul, List.map, AV.cells, List.all, AV.one, eqV, eqAll, splice, fillA, List.replicate, resAll, resA, hlit, evA, ha]
theorem rhoN_q {n q : Nat} (h : n ≤ q) : rhoN n q q = some n := by unfold rhoN; rw [if_neg (by omega), if_pos rfl]
def allS (s : MemSt) : List AV → Option ((Nat → AV) × MemSt × Nat × List AV)
  | [] => if s.cells.length ≤ 65536 then some (fun n => if s.cells = [] then .sl n 0 0 (some 0) else .sl n 0 s.cells.length none, s, 1, uC s.cells) else none
  | _ => none
set_option maxHeartbeats 4000000 in
theorem all_fold : Fold concM (unf 0 plM c_cell_Mem_All) (memNF allS) := memN_fold fun m i rest s s' mk sz L hi hst => by
  unfold allS at hst
  split at hst
  case h_2 => cases hst
  split at hst
  case isFalse => cases hst
  rename_i hn
  simp only [Option.some.injEq, Prod.mk.injEq] at hst
  obtain ⟨rfl, rfl, rfl, rfl⟩ := hst
  refine ⟨fun ρ => renL_map (f := AV.int .u64) (fun _ => rfl) _, ?_⟩
  have hr := ms_root hi (m := m)
  have hr7 : ∀ (s : MemSt) lv cv, (rootL s lv cv)[7]? = some cv := fun _ _ _ => rfl
  have h61 : assoc [(61, (c_slices_Clone_uint64 : AFun Ob))] 61 = some c_slices_Clone_uint64 := rfl
  have hpl1 : (plM (.mem s) i m.length).1 = .cells 8 false (rootL s (lvA (m.length + 1) s) (cvA i m.length s)) := rfl
  have hp := pl_len (m := m) (i := i) s
  by_cases h0 : s.cells = []
  · have hcv : cvA i m.length s = .sl i 0 0 (some 0) := if_pos h0
    have hrun : Fn [(61, c_slices_Clone_uint64)] cell_Mem_All [.ptr i 0] (m.set i (plM (.mem s) i m.length).1 ++ (plM (.mem s) i m.length).2) (fun v M => v = .sl (m.length + 2) 0 0 (some 0) ∧ M = m.set i (plM (.mem s) i m.length).1 ++ ((plM (.mem s) i m.length).2 ++ [.cells 1 false []])) := by
      refine Fn_of rfl ?_
      simp (disch := first | assumption | omega | (simp only [zl] <;> omega) | (simp only [zn])) only [cell_Mem_All, ↓zd, zk, Nat.reduceSub, Nat.reduceAdd, Nat.reduceMul, Nat.reduceLeDiff, Nat.reduceEqDiff, reduceIte, Int.reduceEq, Int.reduceBEq, Int.reduceLE, Int.reduceLT, Int.reduceNeg, Int.reduceAdd, Int.reduceSub, Int.reduceMul, List.map, AV.cells, List.all, AV.one, eqV, eqAll, splice, fillA, List.replicate, resAll, resA, hpl1, hr, hr7, hcv, h61, clone_nil]
      simp [hp]
    obtain ⟨_, _, h1, rfl, rfl⟩ := hrun
    refine ⟨_, _, m.length, m.length + 1, m.length + 2, h1, by simp [AV.ren, rhoN_q, h0], by omega, by omega, by omega, by rw [ms_mid, h0]; rfl, by simp, fun j hj hji => ms_other hj hji _ _, by omega, by omega, by omega, ⟨⟨_, ms_root hi _ _, .inl rfl⟩, fun _ => by rw [ms_mid0]; rfl, fun _ => by rw [ms_mid]; rfl⟩⟩
  · have hcv : cvA i m.length s = .sl m.length 0 s.cells.length (if s.ck then some s.cells.length else none) := if_neg h0
    have hcl := clone_run (M := m.set i (plM (.mem s) i m.length).1 ++ (plM (.mem s) i m.length).2) (q := m.length) (cap := if s.ck then some s.cells.length else none) (xs := s.cells) (by rw [ms_mid0]; rfl) h0 hn
    have hrun : Fn [(61, c_slices_Clone_uint64)] cell_Mem_All [.ptr i 0] (m.set i (plM (.mem s) i m.length).1 ++ (plM (.mem s) i m.length).2) (fun v M => v = .sl (m.length + 3) 0 s.cells.length none ∧ M = m.set i (plM (.mem s) i m.length).1 ++ ((plM (.mem s) i m.length).2 ++ [.cells 1 false [], .cells 1 false (uC s.cells)])) := by
      refine Fn_of rfl ?_
      rw [hpl1, hcv] at hcl
      simp (disch := first | assumption | omega | (simp only [zl] <;> omega) | (simp only [zn])) only [cell_Mem_All, ↓zd, zk, Nat.reduceSub, Nat.reduceAdd, Nat.reduceMul, Nat.reduceLeDiff, Nat.reduceEqDiff, reduceIte, Int.reduceEq, Int.reduceBEq, Int.reduceLE, Int.reduceLT, Int.reduceNeg, Int.reduceAdd, Int.reduceSub, Int.reduceMul, List.map, AV.cells, List.all, AV.one, eqV, eqAll, splice, fillA, List.replicate, resAll, resA, hpl1, hr, hr7, hcv, h61, hcl]
      simp [hp]
    obtain ⟨_, _, h1, rfl, rfl⟩ := hrun
    refine ⟨_, _, m.length, m.length + 1, m.length + 3, h1, by simp [AV.ren, rhoN_q, h0], by omega, by omega, by omega, by rw [ms_mid]; rfl, by simp, fun j hj hji => ms_other hj hji _ _, by omega, by omega, by omega, ⟨⟨_, ms_root hi _ _, .inl rfl⟩, fun _ => by rw [ms_mid0]; rfl, fun _ => by rw [ms_mid]; rfl⟩⟩
end Go.Am.F06
end
section
namespace Go.Am.F06
def newSt (n : Int) : MemSt := { cells := List.replicate (max 0 (min n 65536)).toNat 0, ck := true, ops := 0, loads := 0, stores := 0, swaps := 0, fails := 0, adds := 0, log := [], pre := [] }
def newF : AFun Ob := fun args m => match args with
  | [.int .i64 n] => some (.ptr m.length 0, m ++ [.abs (.mem (newSt n))])
  | _ => none
set_option maxHeartbeats 4000000 in
theorem new_fold : Fold concM c_cell_New newF := by
  intro args m v m' hg
  unfold newF at hg
  split at hg
  case h_2 => cases hg
  rename_i n
  simp only [Option.some.injEq, Prod.mk.injEq] at hg
  obtain ⟨rfl, rfl⟩ := hg
  have hrun : Fn [] cell_New [.int .i64 n] m (fun v M => v = .ptr (m.length + 1) 0 ∧ M = m ++ [.cells 1 false (uC (newSt n).cells), .cells 8 false (rootL (newSt n) .nils (.sl m.length 0 (newSt n).cells.length (some (newSt n).cells.length)))]) := by
    refine Fn_of rfl ?_
    have hK : (if (if 65536 < n then 65536 else n) > 0 then if 65536 < n then 65536 else n else 0) = max 0 (min n 65536) := by split <;> split <;> omega
    have hk0 : 0 ≤ max 0 (min n 65536) ∧ max 0 (min n 65536) ≤ 65536 := by omega
    have hrep : repeatL (max 0 (min n 65536)).toNat [AV.int .u64 0] = uC (newSt n).cells := by simp [repeatL, uC, newSt]
    have hcl : (newSt n).cells.length = (max 0 (min n 65536)).toNat := by simp [newSt]
    have hmk : amOp [] (.make 1 8 [.int .u64 0]) [.int .i64 (max 0 (min n 65536)), .int .i64 (max 0 (min n 65536))] m = some (.sl m.length 0 (max 0 (min n 65536)).toNat (some (max 0 (min n 65536)).toNat), m ++ [.cells 1 false (uC (newSt n).cells)]) := by
      simp only [amOp, hrep]
      rw [if_pos (by omega)]
    simp (disch := first | assumption | omega | (simp only [zl] <;> omega) | (simp only [zn])) only [cell_New, ↓zd, zk, Nat.reduceSub, Nat.reduceAdd, Nat.reduceMul, Nat.reduceLeDiff, Nat.reduceEqDiff, reduceIte, Int.reduceEq, Int.reduceBEq, Int.reduceLE, Int.reduceLT, Int.reduceNeg, Int.reduceAdd, Int.reduceSub, Int.reduceMul, List.map, AV.cells, List.all, AV.one, eqV, eqAll, splice, fillA, List.replicate, resAll, resA, zm, hK, hmk, hcl, rootL, newSt]
    simp
  obtain ⟨_, _, h1, rfl, rfl⟩ := hrun
  refine fold_new (q := m.length + 1) (k1 := m.length) (k2 := m.length + 2) h1 (by simp [AV.ren, rhoN_q]) (by omega) (by omega) (by omega) (fun j hj => List.getElem?_append_left hj) (by omega) (by omega) (by omega) ⟨?_, fun _ => ?_, fun h => absurd rfl h⟩
  · by_cases h0 : (newSt n).cells = []
    · refine ⟨_, by rw [get_mid]; rfl, .inr ⟨h0, m.length, 0, ?_⟩⟩
      rw [h0]; rfl
    · refine ⟨_, by rw [get_mid]; rfl, .inl ?_⟩
      rw [cvA, if_neg h0]; rfl
  · rw [get_mid0]; rfl
end Go.Am.F06
end
section
namespace Go.Am.F06
end Go.Am.F06
end
section
namespace Go.Am.F06
theorem set_same {m : MM} {i : Nat} {c : Chunk Ob} (h : m[i]? = some c) : m.set i c = m := by
  apply List.ext_getElem?
  intro j
  by_cases hj : i = j
  · subst hj; rw [List.getElem?_set_self (List.getElem?_eq_some_iff.1 h).1, h]
  · rw [List.getElem?_set_ne hj]
end Go.Am.F06
end
section
namespace Go.Am.F06
def cellsOf (n : Nat) (es : List Acc) : List Int := es.foldl (fun c e => c.set e.at'.toNat e.new) (List.replicate n 0)
theorem cellsOf_nil (n : Nat) : cellsOf n [] = List.replicate n 0 := rfl
theorem cellsOf_len (n : Nat) (es : List Acc) : (cellsOf n es).length = n := by
  have : ∀ (es : List Acc) (c : List Int), (es.foldl (fun c e => c.set e.at'.toNat e.new) c).length = c.length := by
    intro es
    induction es with
    | nil => intro c; rfl
    | cons e es ih => intro c; rw [List.foldl_cons, ih, List.length_set]
  rw [cellsOf, this, List.length_replicate]
section
variable {X : Type}
abbrev SA (m : Mem X) (wr : Bool) (es : List Acc) (v : AV) : Prop := Sl m wr 4 es.length (es.flatMap accC) v
theorem SA.get {m : Mem X} {wr : Bool} {es : List Acc} {v : AV} (h : SA m wr es v) {i : Nat} {e : Acc} (he : es[i]? = some e) : ∃ q o cap ro L, v = .sl q o es.length cap ∧ m[q]? = some (.cells 4 ro L) ∧ (wr = true → ro = false) ∧ i < es.length ∧ o + i * 4 + 4 ≤ L.length ∧
    (L.drop (o + i * 4)).take 4 = accC e ∧ L[o + i * 4]? = some (.int .i64 e.kind) ∧ L[o + i * 4 + 1]? = some (.int .i64 e.at') ∧ L[o + i * 4 + 2]? = some (.int .u64 e.old) ∧ L[o + i * 4 + 3]? = some (.int .u64 e.new) := by
  have hi : i < es.length := (List.getElem?_eq_some_iff.1 he).1
  obtain ⟨q, o, cap, ro, L, rfl, h2, h3, h4, h5⟩ := h.at (by omega)
  have hp := rows_part (f := accC) (sz := 4) (fun _ => rfl) he
  have hL : ∀ k, k < 4 → L[o + i * 4 + k]? = (accC e)[k]? := by
    intro k hk
    rw [Nat.add_assoc, sl_get h3 (by omega), rows_at (f := accC) (sz := 4) (fun _ => rfl) he hk]
  refine ⟨q, o, cap, ro, L, rfl, h2, h5, hi, by omega, ?_, hL 0 (by omega), hL 1 (by omega), hL 2 (by omega), hL 3 (by omega)⟩
  apply List.ext_getElem?
  intro k
  by_cases hk : k < 4
  · rw [List.getElem?_take, if_pos hk, List.getElem?_drop, hL k hk]
  · rw [List.getElem?_eq_none (by simp; omega), List.getElem?_eq_none (by simp [accC]; omega)]
theorem own_keep {m J : Mem X} {sz n : Nat} {l : List AV} {v : AV} (h : Own m (m ++ J) sz n l v) (K : Mem X) : Own m (m ++ (J ++ K)) sz n l v := by
  rcases h with h | ⟨q, h1, h2, h3, h4⟩
  · exact .inl h
  · refine .inr ⟨q, h1, ?_, h3, ?_⟩
    · rw [← List.append_assoc, List.getElem?_append_left h4]; exact h2
    · simp at h4 ⊢; omega
def Nc (v : AV) : Prop := v = .nils ∨ ∃ q o n, v = .sl q o (n + 1) none
theorem SA.more {M : Mem X} {wr : Bool} {es : List Acc} {v : AV} (h : SA M wr es v) (hn : es.length ≤ 1000) (e : Acc) : ∃ r1 M1 r2 M2, appendA 4 32 .nils v M = some (r1, M1) ∧ Keep M M1 ∧
    appendA 4 32 r1 (.sl M1.length 0 1 (some 1)) (M1 ++ [.cells 4 false (accC e)]) = some (r2, M2) ∧ Keep M M2 ∧ SA M2 true (es ++ [e]) r2 ∧ Fr M.length r2 ∧ Nc r2 := by
  have h1 : ∃ r J, appendA 4 32 .nils v M = some (r, M ++ J) ∧ Own M (M ++ J) 4 es.length (es.flatMap accC) r := by
    rcases Nat.eq_zero_or_pos es.length with h0 | h0
    · have hx0 : es = [] := List.length_eq_zero_iff.1 h0
      subst hx0
      refine ⟨.nils, [], ?_, own_nil⟩
      rcases h.2 with ⟨rfl, _⟩ | ⟨q, o, cap, rfl, _⟩ <;> simp [appendA, lenA, rowOf]
    · obtain ⟨q, o, cap, ro, L, rfl, h2, h3, h4, _⟩ := h.at h0
      have hr : rowOf M 4 (.sl q o es.length cap) = some (es.flatMap accC) := by
        simp only [rowOf, getC, h2]
        rw [if_neg (by omega), if_pos h4, h3]
      refine ⟨.sl M.length 0 es.length none, [.cells 4 false (es.flatMap accC)], ?_, .inr ⟨M.length, rfl, by simp, Nat.le_refl _, by simp⟩⟩
      simp only [appendA, lenA, hr]
      rw [if_neg (by omega), if_pos ⟨by omega, by omega, accs_one _⟩]
  obtain ⟨r, J, h1, h2⟩ := h1
  obtain ⟨q', J', h3, h4⟩ := own_app (bytes := 32) (c := some 1) (own_keep h2 [.cells 4 false (accC e)]) (accs_len es) (accs_one es) (j := (M ++ J).length) (sz' := 4) (ro := false) (x := accC e) (by rw [← List.append_assoc, get_concat]) rfl rfl (by omega) (by omega)
  refine ⟨r, M ++ J, _, _, h1, Keep.app M J, by rw [List.append_assoc]; exact h3, Keep.app M J', ?_⟩
  have := h4.sl (by rw [List.length_append, accs_len]; simp [accC]; omega)
  refine ⟨?_, this.2, .inr ⟨_, _, _, rfl⟩⟩
  rw [SA, List.length_append, List.flatMap_append]
  simpa using this.1
def doE (n : Nat) (es : List Acc) (kind a old x : Int) : Option Acc :=
  if a < 0 ∨ (n : Int) ≤ a ∨ kind < 1 ∨ 4 < kind then none
  else some ⟨kind, a, (cellsOf n es).getD a.toNat 0, if kind = 2 ∨ (kind = 3 ∧ (cellsOf n es).getD a.toNat 0 = old) then x else if kind = 4 then IntKind.u64.wrap ((cellsOf n es).getD a.toNat 0 + x) else (cellsOf n es).getD a.toNat 0⟩
theorem SA.one {m : Mem X} {wr : Bool} {es : List Acc} {v : AV} (h : SA m wr es v) : v.one = true := by
  rcases h.2 with ⟨h, _⟩ | ⟨q, o, cap, h, _⟩ <;> rw [h] <;> rfl
theorem Fr.one {n : Nat} {v : AV} (h : Fr n v) : v.one = true ∧ v.cells = [v] := by
  rcases h with h | ⟨q, o, k, cap, h, _⟩ <;> rw [h] <;> exact ⟨rfl, rfl⟩
def sqN : Nat → AC → AC
  | 0, .seq a _ => a
  | n + 1, .seq _ b => sqN n b
  | _, c => c
def sqT : Nat → AC → AC
  | 0, c => c
  | n + 1, .seq _ b => sqT n b
  | _, c => c
end
end Go.Am.F06
end
section
namespace Go.Am.F06
def KeepB {X : Type} (k : Nat) (m m' : Mem X) : Prop := m.length ≤ m'.length ∧ ∀ i, i < m.length → i ≠ k → m'[i]? = m[i]?
section
variable {X : Type} {k : Nat}
theorem KeepB.refl (m : Mem X) : KeepB k m m := ⟨Nat.le_refl _, fun _ _ _ => rfl⟩
theorem KeepB.trans {m m' m'' : Mem X} (h : KeepB k m m') (j : KeepB k m' m'') : KeepB k m m'' :=
  ⟨Nat.le_trans h.1 j.1, fun i hi hk => (j.2 i (Nat.lt_of_lt_of_le hi h.1) hk).trans (h.2 i hi hk)⟩
theorem KeepB.of {m m' : Mem X} (h : Keep m m') : KeepB k m m' := ⟨h.1, fun i hi _ => h.2 i hi⟩
theorem KeepB.app (m J : Mem X) : KeepB k m (m ++ J) := .of (Keep.app m J)
theorem KeepB.at (m : Mem X) (c : Chunk X) : KeepB k m (m.set k c) := ⟨by simp, fun i hi hk => by rw [List.getElem?_set_ne (fun h => hk h.symm)]⟩
theorem KeepB.set {m m' : Mem X} (h : KeepB k m m') {q : Nat} (hq : m.length ≤ q) (c : Chunk X) : KeepB k m (m'.set q c) :=
  ⟨by simpa using h.1, fun i hi hk => by rw [List.getElem?_set_ne (by omega)]; exact h.2 i hi hk⟩
theorem KeepB.get {m m' : Mem X} (h : KeepB k m m') {i : Nat} {c : Chunk X} (hi : m[i]? = some c) (hk : i ≠ k) : m'[i]? = some c := (h.2 i (List.getElem?_eq_some_iff.1 hi).1 hk).trans hi
theorem KeepB.sl {m m' : Mem X} (h : KeepB k m m') {x : X} (hk : m[k]? = some (.abs x)) {wr : Bool} {sz n : Nat} {l : List AV} {v : AV} (hs : Sl m wr sz n l v) : Sl m' wr sz n l v := by
  refine ⟨hs.1, ?_⟩
  rcases hs.2 with h1 | ⟨q, o, cap, h1, h2⟩
  · exact .inl h1
  · refine .inr ⟨q, o, cap, h1, fun h0 => ?_⟩
    obtain ⟨ro, L, h3, h4⟩ := h2 h0
    refine ⟨ro, L, h.get h3 (fun hq => ?_), h4⟩
    rw [hq, hk] at h3; injection h3 with h3; cases h3
end
def cnt (s : MemSt) : List Int := [s.loads, s.stores, s.swaps, s.fails, s.adds]
def stepL (n : Nat) (es : List Acc) (kind a old x : Int) : List Acc := match doE n es kind a old x with
  | none => es
  | some e => es ++ [e]
theorem memF_of {step : MemSt → List AV → Option (AV × MemSt)} {M : MM} {j : Nat} {s s' : MemSt} {rest : List AV} {v : AV} (hM : M[j]? = some (.abs (.mem s))) (h : step s rest = some (v, s')) : memF step (.ptr j 0 :: rest) M = some (v, M.set j (.abs (.mem s'))) := by
  simp only [memF, hM, h]
end Go.Am.F06
end
section
namespace Go.Am.F06
section
variable {X : Type}
abbrev SU (m : Mem X) (wr : Bool) (xs : List Int) (v : AV) : Prop := Sl m wr 1 xs.length (uC xs) v
theorem uC_len (xs : List Int) : (uC xs).length = xs.length := by simp [uC]
theorem uC_one (xs : List Int) : (uC xs).all AV.one = true := by simp [uC, AV.one]
theorem uC_set (xs : List Int) (i : Nat) (x : Int) : (uC xs).set i (.int .u64 x) = uC (xs.set i x) := by simp [uC, List.map_set]
theorem SU.get {m : Mem X} {wr : Bool} {xs : List Int} {v : AV} (h : SU m wr xs v) {i : Nat} {x : Int} (hx : xs[i]? = some x) : ∃ q o cap ro L, v = .sl q o xs.length cap ∧ m[q]? = some (.cells 1 ro L) ∧ (wr = true → ro = false) ∧ i < xs.length ∧ o + i < L.length ∧ L[o + i]? = some (.int .u64 x) := by
  have hi : i < xs.length := (List.getElem?_eq_some_iff.1 hx).1
  obtain ⟨q, o, cap, ro, L, rfl, h2, h3, h4, h5⟩ := h.at (by omega)
  exact ⟨q, o, cap, ro, L, rfl, h2, h5, hi, by omega, by rw [sl_get h3 (by omega)]; simp [uC, hx]⟩
def Off (q : Nat) (v : AV) : Prop := ∀ q' o n cap, v = .sl q' o n cap → 0 < n → q' ≠ q
theorem KeepB.off {k : Nat} {m m' : Mem X} (h : KeepB k m m') {wr : Bool} {sz n : Nat} {l : List AV} {v : AV} (ho : Off k v) (hs : Sl m wr sz n l v) : Sl m' wr sz n l v := by
  refine ⟨hs.1, ?_⟩
  rcases hs.2 with h1 | ⟨q, o, cap, h1, h2⟩
  · exact .inl h1
  · refine .inr ⟨q, o, cap, h1, fun h0 => ?_⟩
    obtain ⟨ro, L, h3, h4⟩ := h2 h0
    exact ⟨ro, L, h.get h3 (ho _ _ _ _ h1 h0), h4⟩
def slq : AV → Nat
  | .sl q _ _ _ => q
  | _ => 0
end
theorem all_of {M : MM} {j : Nat} {s : MemSt} (hM : M[j]? = some (.abs (.mem s))) (hn : s.cells.length ≤ 65536) : ∃ l, memNF allS [.ptr j 0] M = some (l, M ++ [.cells 1 false (uC s.cells)]) ∧ SU (M ++ [.cells 1 false (uC s.cells)]) true s.cells l ∧ slq l = M.length := by
  simp only [memNF, hM, allS, if_pos hn, set_same hM]
  refine ⟨_, rfl, ?_⟩
  by_cases h : s.cells = []
  · rw [if_pos h]
    exact ⟨⟨by rw [uC_len]; omega, .inr ⟨_, _, _, by rw [h]; rfl, fun h0 => by rw [h] at h0; cases h0⟩⟩, rfl⟩
  · rw [if_neg h]
    exact ⟨⟨by rw [uC_len]; omega, .inr ⟨_, _, _, rfl, fun h0 => ⟨false, _, by rw [get_concat], by rw [List.drop_zero, Nat.mul_one, ← uC_len, List.take_length], by rw [uC_len]; omega, fun _ => rfl⟩⟩⟩, rfl⟩
end Go.Am.F06
end
section
namespace Go.Am.F06
def Cc (m : MM) (i : Nat) (s : MemSt) (M : MM) : Prop := ∃ lv L, M = m.set i (.cells 8 false (rootL s lv (cvA i m.length s))) ++ L ∧ (∀ R, LogAt m.length (m.set i R ++ L) lv s) ∧ L[0]? = some (.cells 1 false (uC s.cells))
theorem logAt_app {m L : MM} {i : Nat} {s : MemSt} {lv : AV} (h : ∀ R, LogAt m.length (m.set i R ++ L) lv s) (K : MM) : ∀ R, LogAt m.length (m.set i R ++ (L ++ K)) lv s := by
  intro R
  rcases h R with h | ⟨k2, h0, h1, h2, h3⟩
  · exact .inl h
  · exact .inr ⟨k2, h0, h1, h2, by rw [← List.append_assoc, List.getElem?_append_left (List.getElem?_eq_some_iff.1 h3).1]; exact h3⟩
theorem get0_app {α : Type} {L K : List α} {c : α} (h : L[0]? = some c) : (L ++ K)[0]? = some c := by
  rw [List.getElem?_append_left (List.getElem?_eq_some_iff.1 h).1]; exact h
theorem Cc.app {m M : MM} {i : Nat} {s : MemSt} (h : Cc m i s M) (K : MM) : Cc m i s (M ++ K) := by
  obtain ⟨lv, L, rfl, h1, h2⟩ := h
  exact ⟨lv, L ++ K, by rw [List.append_assoc], logAt_app h1 K, get0_app h2⟩
def okR (s : MemSt) (e : Acc) : Prop := 0 ≤ e.at' ∧ e.at' < s.cells.length ∧ s.cells.getD e.at'.toNat 0 = e.old ∧ (e.kind = 1 → e.new = e.old) ∧ 1 ≤ e.kind ∧ e.kind ≤ 4
instance (s : MemSt) (e : Acc) : Decidable (okR s e) := by unfold okR; infer_instance
theorem Cc.cells {m M : MM} {i : Nat} {s : MemSt} (h : Cc m i s M) : M[m.length]? = some (.cells 1 false (uC s.cells)) := by
  obtain ⟨lv, L, rfl, h1, h2⟩ := h
  rw [ms_mid0]; exact h2
theorem Cc.root {m M : MM} {i : Nat} (hi : i < m.length) {s : MemSt} (h : Cc m i s M) : ∃ lv, M[i]? = some (.cells 8 false (rootL s lv (cvA i m.length s))) := by
  obtain ⟨lv, L, rfl, h1, h2⟩ := h
  exact ⟨lv, ms_root hi _ _⟩
theorem Cc.keep {m M : MM} {i : Nat} {s : MemSt} (h : Cc m i s M) : KeepB i m M := by
  obtain ⟨lv, L, rfl, h1, h2⟩ := h
  exact (KeepB.at m _).trans (KeepB.app _ _)
end Go.Am.F06
end
section
namespace Go.Am.F06
def badE (n : Nat) (es : List Acc) (e : Acc) : Prop := e.kind < 1 ∨ 4 < e.kind ∨ e.at' < 0 ∨ (n : Int) ≤ e.at' ∨ (cellsOf n es).getD e.at'.toNat 0 ≠ e.old ∨ (e.kind = 1 ∧ e.new ≠ e.old)
instance (n : Nat) (es : List Acc) (e : Acc) : Decidable (badE n es e) := by unfold badE; infer_instance
section
variable {X : Type}
end
end Go.Am.F06
end
section
namespace Go.Am.F06
section
variable {X : Type}
def bN (n : Int) : Nat := (max 0 (min n 65536)).toNat
theorem bN_le (n : Int) : bN n ≤ 65536 := by unfold bN; omega
end
end Go.Am.F06
end
section
namespace Go.Am.F06
section
variable {X : Type}
theorem slOne {m : Mem X} {wr : Bool} {sz n : Nat} {l : List AV} {v : AV} (h : Sl m wr sz n l v) : v.one = true := by
  rcases h.2 with ⟨h, _⟩ | ⟨q, o, cap, h, _⟩ <;> rw [h] <;> rfl
def memC (v : AV) (o : Int) : List AV := [v, .int .u64 o]
theorem SU.clone {M : Mem X} {wr : Bool} {xs : List Int} {v : AV} (h : SU M wr xs v) (hn : xs.length ≤ 65536) : ∃ r J, appendA 1 8 .nils v M = some (r, M ++ J) ∧ SU (M ++ J) true xs r ∧ Fr M.length r ∧ Nc r := by
  rcases Nat.eq_zero_or_pos xs.length with h0 | h0
  · have hx0 : xs = [] := List.length_eq_zero_iff.1 h0
    subst hx0
    refine ⟨.nils, [], ?_, Sl.nil, .inl rfl, .inl rfl⟩
    rcases h.2 with ⟨rfl, _⟩ | ⟨q, o, cap, rfl, _⟩ <;> simp [appendA, lenA, rowOf]
  · obtain ⟨q, o, cap, ro, L, rfl, h2, h3, h4, _⟩ := h.at h0
    have hr : rowOf M 1 (.sl q o xs.length cap) = some (uC xs) := by
      simp only [rowOf, getC, h2]
      rw [if_neg (by omega), if_pos h4, h3]
    refine ⟨.sl M.length 0 xs.length none, [.cells 1 false (uC xs)], ?_, ⟨by rw [uC_len]; omega, .inr ⟨M.length, 0, none, rfl, fun _ => ⟨false, uC xs, by rw [get_concat], by rw [List.drop_zero, Nat.mul_one, ← uC_len, List.take_length], by rw [uC_len]; omega, fun _ => rfl⟩⟩⟩, .inr ⟨_, _, _, _, rfl, Nat.le_refl _⟩, .inr ⟨M.length, 0, xs.length - 1, by rw [Nat.sub_add_cancel (by omega)]⟩⟩
    simp only [appendA, lenA, hr]
    rw [if_neg (by omega), if_pos ⟨by omega, by omega, uC_one _⟩]
theorem refthere_run {G : List (Nat × AFun X)} {m : Mem X} {wr : Bool} {xs : List Int} {v : AV} (hs : SU m wr xs v) (o a : Int) : Fn G ref06_there [.agg (memC v o), .int .i64 a] m (fun r m' => r = .bool (decide (0 ≤ a) && decide (a < xs.length)) ∧ m' = m ++ [.cells 2 false (memC v o)]) := by
  have hone := slOne hs
  simp only [AV.one] at hone
  have hlen := hs.len
  refine Fn_of rfl ?_
  simp (disch := first | assumption | omega | (simp only [zl] <;> omega) | (simp only [zn])) only [ref06_there, ↓zd, zk, Nat.reduceSub, Nat.reduceAdd, Nat.reduceMul, Nat.reduceLeDiff, Nat.reduceEqDiff, reduceIte, Int.reduceEq, Int.reduceBEq, Int.reduceLE, Int.reduceLT, Int.reduceNeg, Int.reduceAdd, Int.reduceSub, Int.reduceMul, List.map, AV.cells, List.all, AV.one, eqV, eqAll, splice, fillA, List.replicate, resAll, resA, zm, zg, memC, hone]
  repeat' ((first | refine GK_of (fun h => ?_) (fun h => ?_) | refine CW_of (fun h => ?_) (fun h => ?_) | refine GKT_of (fun h => ?_) (fun h => ?_)) <;> (try simp only [Bool.not_eq_true', Bool.not_eq_false', decide_eq_true_eq, decide_eq_false_iff_not, Bool.and_eq_true, Bool.or_eq_true, Bool.and_eq_false_iff, Bool.or_eq_false_iff, Decidable.not_not] at h) <;> (try simp (disch := first | assumption | omega | (simp only [zl] <;> omega) | (simp only [zn])) only [↓zd, zk, Nat.reduceSub, Nat.reduceAdd, Nat.reduceMul, Nat.reduceLeDiff, Nat.reduceEqDiff, reduceIte, Int.reduceEq, Int.reduceBEq, Int.reduceLE, Int.reduceLT, Int.reduceNeg, Int.reduceAdd, Int.reduceSub, Int.reduceMul, List.map, AV.cells, List.all, AV.one, eqV, eqAll, splice, fillA, List.replicate, resAll, resA, zm, zg, memC, ev_len, hlen, h]))
  all_goals (try simp_all)
theorem refnew_run {G : List (Nat × AFun X)} {m : Mem X} (n : Int) : Fn G ref06_New [.int .i64 n] m (fun r m' => ∃ v, r = .agg (memC v 0) ∧ Keep m m' ∧ SU m' true (cellsOf (bN n) []) v) := by
  have hK : (if (if 65536 < n then 65536 else n) > 0 then if 65536 < n then 65536 else n else 0) = ((bN n : Nat) : Int) := by unfold bN; split <;> split <;> omega
  have hbn := bN_le n
  have hmk : ∀ M : Mem X, amOp G (.make 1 8 [.int .u64 0]) [.int .i64 (bN n), .int .i64 (bN n)] M = some (.sl M.length 0 (bN n) (some (bN n)), M ++ [.cells 1 false (uC (cellsOf (bN n) []))]) := fun M => by
    have hrep : repeatL (bN n) [AV.int .u64 0] = uC (cellsOf (bN n) []) := by simp [repeatL, uC, cellsOf_nil]
    simp only [amOp]
    rw [if_pos (by omega), Int.toNat_natCast, hrep]
  refine Fn_of rfl ?_
  simp (disch := first | assumption | omega | (simp only [zl] <;> omega) | (simp only [zn])) only [ref06_New, ↓zd, zk, Nat.reduceSub, Nat.reduceAdd, Nat.reduceMul, Nat.reduceLeDiff, Nat.reduceEqDiff, reduceIte, Int.reduceEq, Int.reduceBEq, Int.reduceLE, Int.reduceLT, Int.reduceNeg, Int.reduceAdd, Int.reduceSub, Int.reduceMul, List.map, AV.cells, List.all, AV.one, eqV, eqAll, splice, fillA, List.replicate, resAll, resA, zm, zg, memC, hK, hmk]
  refine ⟨_, rfl, Keep.app _ _, ?_⟩
  have hl := cellsOf_len (bN n) []
  refine ⟨by rw [uC_len]; omega, .inr ⟨_, _, _, by rw [hl], fun _ => ⟨false, _, by rw [get_mid]; rfl, by rw [List.drop_zero, Nat.mul_one, ← uC_len, List.take_length], by rw [uC_len]; omega, fun _ => rfl⟩⟩⟩
theorem SU.put {m : Mem X} {xs : List Int} {q o n : Nat} {cap : Option Nat} {L : List AV} (h : SU m true xs (.sl q o n cap)) (hq : m[q]? = some (.cells 1 false L)) {i : Nat} (hi : i < xs.length) (x : Int) : SU (m.set q (.cells 1 false (L.set (o + i) (.int .u64 x)))) true (xs.set i x) (.sl q o n cap) := by
  obtain ⟨hlen, hsl⟩ := h
  rcases hsl with ⟨h, _⟩ | ⟨q', o', cap', h, h5⟩
  · cases h
  · injection h with e1 e2 e3 e4; subst e1; subst e2; subst e3; subst e4
    obtain ⟨ro, L', d1, d2, d3, d4⟩ := h5 (by omega)
    rw [hq] at d1; injection d1 with d1; injection d1 with _ _ d1; subst d1
    refine ⟨by simp [uC_len], .inr ⟨q, o, cap, by rw [List.length_set], fun _ => ⟨false, _, List.getElem?_set_self (List.getElem?_eq_some_iff.1 hq).1, ?_, by simpa using d3, fun _ => rfl⟩⟩⟩
    rw [List.length_set, List.drop_set, if_neg (by omega), List.take_set, d2, ← uC_set]
    congr 1; omega
def RmP (m : Mem X) (xs : List Int) (o : Int) (r : AV) (m' : Mem X) : Prop := Keep m m' ∧ ∃ v', r = .agg (memC v' o) ∧ SU m' false xs v'
set_option maxHeartbeats 4000000 in
theorem refwith_run {G : List (Nat × AFun X)} {m : Mem X} {wr : Bool} {xs : List Int} {v : AV} (hs : SU m wr xs v) (hn : xs.length ≤ 65536) {a : Nat} (ha : a < xs.length) (o x : Int) : Fn G ref06_with [.agg (memC v o), .int .i64 a, .int .u64 x] m (RmP m (xs.set a x) (IntKind.u64.wrap (o + 1))) := by
  have hone := slOne hs
  simp only [AV.one] at hone
  obtain ⟨r, J, h1, h2, h3, h4⟩ := (SU.clone (hs.keep (Keep.app m [Chunk.cells 2 false [v, .int .u64 o], .cells 2 false [.nils, .int .u64 0]])) hn)
  obtain ⟨q, oo, cap, ro, L, rfl, b2, b3, b4, b5⟩ := h2.at (by omega)
  have := b5 rfl; subst this
  have hqm : m.length + 2 ≤ q := by
    rcases h3 with h | ⟨_, _, _, _, h, h'⟩
    · cases h
    · injection h with e1; subst e1; simpa using h'
  have g0 : (m ++ [Chunk.cells 2 false [v, .int .u64 o], .cells 2 false [.nils, .int .u64 0]] ++ J)[m.length]? = some (Chunk.cells 2 false [v, .int .u64 o]) := by rw [List.append_assoc, get_mid0]; rfl
  have g1 : (m ++ [Chunk.cells 2 false [v, .int .u64 o], .cells 2 false [.nils, .int .u64 0]] ++ J)[m.length + 1]? = some (.cells 2 false [.nils, .int .u64 0]) := by rw [List.append_assoc, get_mid]; rfl
  have hk : Keep m (m ++ [Chunk.cells 2 false [v, .int .u64 o], .cells 2 false [.nils, .int .u64 0]] ++ J) := by rw [List.append_assoc]; exact Keep.app _ _
  have hp := SU.put h2 b2 ha x
  refine Fn_of rfl ?_
  simp (disch := first | assumption | omega | (simp only [zl] <;> omega) | (simp only [zn])) only [ref06_with, ↓zd, zk, Nat.reduceSub, Nat.reduceAdd, Nat.reduceMul, Nat.reduceLeDiff, Nat.reduceEqDiff, reduceIte, Int.reduceEq, Int.reduceBEq, Int.reduceLE, Int.reduceLT, Int.reduceNeg, Int.reduceAdd, Int.reduceSub, Int.reduceMul, List.map, AV.cells, List.all, AV.one, eqV, eqAll, splice, fillA, List.replicate, resAll, resA, zm, zg, memC, hone, evA]
  simp only [List.append_assoc, List.cons_append, List.nil_append] at h1
  simp only [List.append_assoc, List.cons_append, List.nil_append] at g0 g1 hk b2 hp
  generalize hM : (m ++ (Chunk.cells 2 false [v, .int .u64 o] :: .cells 2 false [.nils, .int .u64 0] :: J)) = M2 at h1 g0 g1 hk b2 hp
  have hql : q < M2.length := (List.getElem?_eq_some_iff.1 b2).1
  have hlm : m.length + 1 < M2.length := (List.getElem?_eq_some_iff.1 g1).1
  simp (disch := first | assumption | omega | (simp only [zl] <;> omega) | (simp only [zn])) only [↓zd, zk, Nat.reduceSub, Nat.reduceAdd, Nat.reduceMul, Nat.reduceLeDiff, Nat.reduceEqDiff, reduceIte, Int.reduceEq, Int.reduceBEq, Int.reduceLE, Int.reduceLT, Int.reduceNeg, Int.reduceAdd, Int.reduceSub, Int.reduceMul, List.map, AV.cells, List.all, AV.one, eqV, eqAll, splice, fillA, List.replicate, resAll, resA, h1, b2, g0, g1, List.getElem?_set_ne, List.getElem?_set_self, List.length_set]
  exact ⟨(hk.set (by omega) _).set (by omega) _, _, rfl, ((KeepB.at _ _).off (fun q' o' n' c' h h0 => by injection h with e1; omega) hp).ro⟩
theorem su_box {m : Mem X} {wr : Bool} {es : List Int} {v : AV} (h : SU m wr es v) {b : Nat} {ro : Bool} {L : List AV} (hb : m[b]? = some (.cells 2 ro L)) : Off b v := by
  intro q o n c hv h0 hq
  rcases h.2 with ⟨h1, _⟩ | ⟨q2, o2, c2, h1, h2⟩
  · rw [h1] at hv; cases hv
  · rw [h1] at hv; injection hv with e1 e2 e3 e4; subst e1; subst e3; subst hq
    obtain ⟨ro, L, h3, _⟩ := h2 h0
    rw [hb] at h3; injection h3 with h3; injection h3 with h3; cases h3
def thr (xs : List Int) (a : Int) : Prop := 0 ≤ a ∧ a < xs.length
instance (xs : List Int) (a : Int) : Decidable (thr xs a) := by unfold thr; infer_instance
theorem thr_b {xs : List Int} {a : Int} : (decide (0 ≤ a) && decide (a < xs.length)) = decide (thr xs a) := by
  by_cases h : thr xs a
  · have h1 := h.1
    have h2 := h.2
    rw [decide_eq_true h, decide_eq_true h1, decide_eq_true h2]; rfl
  · rw [decide_eq_false h, Bool.and_eq_false_iff, decide_eq_false_iff_not, decide_eq_false_iff_not]
    unfold thr at h; omega
set_option maxHeartbeats 4000000 in
theorem refstore_run {m : Mem X} {wr : Bool} {xs : List Int} {v : AV} (hs : SU m wr xs v) (hn : xs.length ≤ 65536) (o a x : Int) : Fn [(72, c_ref06_there), (73, c_ref06_with)] ref06_Store [.agg (memC v o), .int .i64 a, .int .u64 x] m (RmP m (if thr xs a then xs.set a.toNat x else xs) (if thr xs a then IntKind.u64.wrap (o + 1) else o)) := by
  have a72 : assoc [(72, c_ref06_there (X := X)), (73, c_ref06_with)] 72 = some c_ref06_there := rfl
  have a73 : assoc [(72, c_ref06_there (X := X)), (73, c_ref06_with)] 73 = some c_ref06_with := rfl
  generalize [(72, c_ref06_there (X := X)), (73, c_ref06_with)] = G at a72 a73
  have hone := slOne hs
  simp only [AV.one] at hone
  have ht := Fn_eq (refthere_run (G := []) (hs.keep (Keep.app m [Chunk.cells 2 false [v, .int .u64 o], .cells 2 false [.nils, .int .u64 0]])) o a)
  rw [thr_b] at ht
  simp only [memC, List.append_assoc, List.cons_append, List.nil_append] at ht
  refine Fn_of rfl ?_
  by_cases h : thr xs a
  · obtain ⟨h0, h1⟩ := id h
    obtain ⟨k, rfl⟩ : ∃ k : Nat, a = k := ⟨a.toNat, by omega⟩
    simp only [h, decide_true] at ht
    have hw := refwith_run (G := []) (hs.keep (Keep.app m [Chunk.cells 2 false [v, .int .u64 o], .cells 2 false [.nils, .int .u64 0], .cells 2 false [v, .int .u64 o]])) hn (a := k) (by omega) o x
    simp (disch := first | assumption | omega | (simp only [zl] <;> omega) | (simp only [zn])) only [ref06_Store, ↓zd, zk, Nat.reduceSub, Nat.reduceAdd, Nat.reduceMul, Nat.reduceLeDiff, Nat.reduceEqDiff, reduceIte, Int.reduceEq, Int.reduceBEq, Int.reduceLE, Int.reduceLT, Int.reduceNeg, Int.reduceAdd, Int.reduceSub, Int.reduceMul, List.map, AV.cells, List.all, AV.one, eqV, eqAll, splice, fillA, List.replicate, resAll, resA, zm, zg, memC, hone, a72, c_ref06_there, ht, a73, c_ref06_with]
    refine OK_fn hw ?_
    rintro _ m1 ⟨k1, v', rfl, s1⟩
    have g1 : m1[m.length + 1]? = some (.cells 2 false [.nils, .int .u64 0]) := k1.get (by rw [get_mid]; rfl)
    have hl1 : m.length + 1 < m1.length := (List.getElem?_eq_some_iff.1 g1).1
    have hone' := slOne s1
    simp only [AV.one] at hone'
    simp (disch := first | assumption | omega | (simp only [zl] <;> omega) | (simp only [zn])) only [↓zd, zk, Nat.reduceSub, Nat.reduceAdd, Nat.reduceMul, Nat.reduceLeDiff, Nat.reduceEqDiff, reduceIte, Int.reduceEq, Int.reduceBEq, Int.reduceLE, Int.reduceLT, Int.reduceNeg, Int.reduceAdd, Int.reduceSub, Int.reduceMul, List.map, AV.cells, List.all, AV.one, eqV, eqAll, splice, fillA, List.replicate, resAll, resA, zm, zg, memC, g1, hone']
    try simp only [if_pos h, Int.toNat_natCast]
    exact ⟨((Keep.app m _).trans k1).set (by omega) _, v', rfl, (KeepB.at _ _).off (su_box s1 g1) s1⟩
  · simp only [h, decide_false] at ht
    simp (disch := first | assumption | omega | (simp only [zl] <;> omega) | (simp only [zn])) only [ref06_Store, ↓zd, zk, Nat.reduceSub, Nat.reduceAdd, Nat.reduceMul, Nat.reduceLeDiff, Nat.reduceEqDiff, reduceIte, Int.reduceEq, Int.reduceBEq, Int.reduceLE, Int.reduceLT, Int.reduceNeg, Int.reduceAdd, Int.reduceSub, Int.reduceMul, List.map, AV.cells, List.all, AV.one, eqV, eqAll, splice, fillA, List.replicate, resAll, resA, zm, zg, memC, hone, a72, c_ref06_there, ht]
    try simp only [if_neg h]
    exact ⟨Keep.app _ _, _, rfl, (hs.keep (Keep.app _ _)).ro⟩
end
end Go.Am.F06
end
section
namespace Go.Am.F10
open Go.Am.F06 (SU uC_len uC_set uC_one)
variable {X : Type}
theorem wrap64_b (z : Int) : W64 (IntKind.u64.wrap z) := by rw [wrap64]; unfold W64; omega
theorem wrap32_b (z : Int) : 0 ≤ IntKind.u32.wrap z ∧ IntKind.u32.wrap z < 4294967296 := by rw [wrap32]; omega
def orU (a b : Int) : Int := IntKind.u64.wrap ((BitVec.ofInt 64 a ||| BitVec.ofInt 64 b).toNat : Int)
theorem evOr (a b : Int) : binI .or .u64 a b = some (.int .u64 (orU a b)) := rfl
theorem stC_u {m : Mem X} {i o : Nat} {n : Int} {xs : List Int} (h : o < xs.length) : stC m i o 1 (.int .u64 n) (some (1, false, uC xs)) = some (m.set i (.cells 1 false (uC (xs.set o n)))) := by
  rw [stC_int (by rw [uC_len]; exact h), uC_set]
structure OkF (c : Cf) (xs : List Int) : Prop where
  at' : ∀ p, thereP c p → sz (xs.getD (addrA c p 0).toNat 0) ≤ c.q
theorem OkF.setw {c : Cf} {xs : List Int} (h : OkF c xs) {p v : Int} (hp : thereP c p) (hv : sz v ≤ c.q) : OkF c (xs.set (addrA c p 0).toNat v) := by
  refine ⟨fun p' hp' => ?_⟩
  by_cases he : (addrA c p 0).toNat = (addrA c p' 0).toNat
  · rw [← he]
    by_cases hl : (addrA c p 0).toNat < xs.length
    · rw [List.getD_eq_getElem?_getD, List.getElem?_set_self hl]; exact hv
    · rw [List.getD_eq_getElem?_getD, List.getElem?_eq_none (by rw [List.length_set]; omega)]
      have hb := there_bounds hp
      have : sz 0 = 0 := by decide
      show sz 0 ≤ c.q
      omega
  · rw [List.getD_eq_getElem?_getD, List.getElem?_set_ne he, ← List.getD_eq_getElem?_getD]; exact h.at' p' hp'
theorem addr_ne {c : Cf} {p p' i : Int} (hp : thereP c p) (hp' : thereP c p') (h0 : 1 ≤ i) (h1 : i < 6 + c.q) : (addrA c p i).toNat ≠ (addrA c p' 0).toNat := by
  have hb := there_bounds hp
  have hb' := there_bounds hp'
  have hm := mul_bounds hb.2.2.2.2.1 hb.2.2.2.2.2 (q := 6 + c.q) (by omega) (by omega)
  have hm' := mul_bounds hb'.2.2.2.2.1 hb'.2.2.2.2.2 (q := 6 + c.q) (by omega) (by omega)
  unfold addrA; rw [if_pos hp, if_pos hp']
  rcases (show p < p' ∨ p = p' ∨ p' < p by omega) with h | h | h
  · have h2 : (p + 1) * (6 + c.q) ≤ p' * (6 + c.q) := Int.mul_le_mul_of_nonneg_right (by omega) (by omega)
    have h3 : (p + 1) * (6 + c.q) = p * (6 + c.q) + (6 + c.q) := by rw [Int.add_mul, Int.one_mul]
    omega
  · subst h; omega
  · have h2 : p' * (6 + c.q) ≤ p * (6 + c.q) := Int.mul_le_mul_of_nonneg_right (by omega) (by omega)
    omega
theorem OkF.seta {c : Cf} {xs : List Int} (h : OkF c xs) {p i v : Int} (hp : thereP c p) (h0 : 1 ≤ i) (h1 : i < 6 + c.q) : OkF c (xs.set (addrA c p i).toNat v) := by
  refine ⟨fun p' hp' => ?_⟩
  rw [List.getD_eq_getElem?_getD, List.getElem?_set_ne (addr_ne hp hp' h0 h1), ← List.getD_eq_getElem?_getD]; exact h.at' p' hp'
theorem OkF.setb {c : Cf} {xs : List Int} (h : OkF c xs) {p i v : Int} (hp : thereP c p) (h0 : 1 ≤ i) (h1 : i ≤ 5) : OkF c (xs.set (addrA c p i).toNat v) := h.seta hp h0 (by have := there_bounds hp; omega)
theorem OkF.sets {c : Cf} {xs : List Int} (h : OkF c xs) {p k v : Int} (hp : thereP c p) : OkF c (xs.set (slotA c p k).toNat v) := by
  have hb := there_bounds hp
  have h0 := Int.emod_nonneg k (b := c.q) (by omega)
  have h1 := Int.emod_lt_of_pos k (b := c.q) (by omega)
  unfold slotA; rw [if_pos hp.1]
  exact h.seta hp (by omega) (by omega)
theorem word_sz {h n q : Int} (h0 : 0 ≤ h) (h1 : h < 4294967296) (n0 : 0 ≤ n) (n1 : n ≤ q) (hq : q ≤ 64) : sz (orU (IntKind.u64.wrap (IntKind.u64.wrap h * 4294967296)) (IntKind.u64.wrap (IntKind.u32.wrap (h + n)))) ≤ q := by
  have e1 : IntKind.u64.wrap h = h := wrapU h0 (by omega)
  have e2 : IntKind.u64.wrap (h * 4294967296) = h * 4294967296 := wrapU (by omega) (by omega)
  have e3 : IntKind.u32.wrap (h + n) = (h + n) % 4294967296 := wrap32 _
  have e4 : IntKind.u64.wrap ((h + n) % 4294967296) = (h + n) % 4294967296 := wrapU (by omega) (by omega)
  have ho := or_eq h0 h1 (t := (h + n) % 4294967296) (by omega) (by omega)
  rw [evOr] at ho
  injection ho with ho; injection ho with _ ho
  rw [e1, e2, e3, e4, ho]
  unfold sz hd tl pk; omega
theorem mod_le {b q n : Int} (hb : 0 ≤ b) (hq : 0 ≤ q) (hq2 : q ≤ 64) (hn : n = IntKind.u32.wrap (b.tmod (q + 1))) : n ≤ q := by
  have h0 := Int.emod_nonneg b (b := q + 1) (by omega)
  have h1 := Int.emod_lt_of_pos b (b := q + 1) (by omega)
  rw [hn, Int.tmod_eq_emod_of_nonneg hb, wrap32]; omega
structure FS (m0 : Mem X) (c : Cf) (q0 : Nat) (xs : List Int) (m : Mem X) : Prop where
  keep : Keep m0 m
  box : m[m0.length]? = some (.cells 6 false (cfC c))
  out : m[q0]? = some (.cells 1 false (uC xs))
  len : xs.length = cellsN c
  ok : ∀ x, x ∈ xs → W64 x
  lt : m0.length < q0
  full : OkF c xs
theorem FS.app {m0 m : Mem X} {c : Cf} {q0 : Nat} {xs : List Int} (h : FS m0 c q0 xs m) (K : Mem X) : FS m0 c q0 xs (m ++ K) :=
  ⟨h.keep.trans (Keep.app _ _), (Keep.app m K).get h.box, (Keep.app m K).get h.out, h.len, h.ok, h.lt, h.full⟩
def OkL (c : Cf) (xs : List Int) : Prop := xs.length = cellsN c ∧ ∀ x, x ∈ xs → W64 x
theorem OkL.set {c : Cf} {xs : List Int} (h : OkL c xs) (a : Nat) {v : Int} (hv : W64 v) : OkL c (xs.set a v) := by
  refine ⟨by rw [List.length_set]; exact h.1, fun x hx => ?_⟩
  rcases List.mem_or_eq_of_mem_set hx with hx | rfl
  · exact h.2 x hx
  · exact hv
theorem FS.okL {m0 m : Mem X} {c : Cf} {q0 : Nat} {xs : List Int} (h : FS m0 c q0 xs m) : OkL c xs := ⟨h.len, h.ok⟩
theorem FS.all {m0 m : Mem X} {c : Cf} {q0 : Nat} {xs xs' : List Int} (h : FS m0 c q0 xs m) (hx : OkL c xs') (hf : OkF c xs') (K : Mem X) : FS m0 c q0 xs' (m.set q0 (.cells 1 false (uC xs')) ++ K) := by
  refine FS.app ⟨h.keep.set (by have := h.lt; omega) _, ?_, List.getElem?_set_self (List.getElem?_eq_some_iff.1 h.out).1, hx.1, hx.2, h.lt, hf⟩ K
  rw [List.getElem?_set_ne (by have := h.lt; omega)]; exact h.box
def Gfill : List (Nat × AFun X) := [(156, c_conf_Config_Cells), (157, c_conf_Config_Right), (158, c_docs_byteAt), (159, c_conf_Config_Word), (160, c_conf_Config_Slot), (161, c_conf_Config_Next), (162, c_conf_Config_Stat), (163, c_conf_Config_Tick), (164, c_conf_Config_Sys), (165, c_conf_Config_Flag)]
end Go.Am.F10
end
