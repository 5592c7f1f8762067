/- What the functions of the time slice's watch do, in plain Lean. -/
import Derived.Test.YtfiogjimbhgacaaXAmEv
import Derived.Test.YtfiogjimbhgacaaXAmLift
import Derived.Test.YtfiogjimbhgacaaXF18
set_option linter.unusedSimpArgs false
set_option linter.unusedVariables false
namespace Go.Am.F18
variable {X : Type}

def nextG : List AV → Option AV
  | [.agg [.bool ok, .int .u64 a, .int .i64 b], .int .u64 v, .int .i64 n] => some (.agg [.bool true, .int .u64 v, .int .i64 (if ok = true ∧ a = v then b else n)])
  | _ => none

theorem next_lift (G : List (Nat × AFun X)) : Lift (amFunc G slice_count_next) (pureF nextG) := lift_pure (by
  intro args r h
  unfold nextG at h; split at h
  · rename_i ok a b v n
    injection h with h; subst h
    refine ⟨rfl, rfl, ?_⟩
    have : Fn G slice_count_next [.agg [.bool ok, .int .u64 a, .int .i64 b], .int .u64 v, .int .i64 n] ([] : Mem X) (fun r _ => r = .agg [.bool true, .int .u64 v, .int .i64 (if ok = true ∧ a = v then b else n)]) := by
      refine Fn_of rfl ?_
      simp only [slice_count_next, ev, ↓evW, ↓evQ, evB, evS, evL, List.map, AV.cells, List.all, AV.one, Bool.and_true, Bool.true_and, OK_if, WI_true, WI_false, ↓WI_true, ↓WI_false, if_true, ↓thenQ_normal, ↓thenQ_exit, ↓thenQ_ret, ↓blockQ_normal, ↓blockQ_ret, ↓blockQ_exit, CW_bool, RQ_some, tupA_one, tupA_two, tupA_nil, Nat.reduceSub, Nat.reduceAdd, Nat.reduceMul, Nat.zero_add, Nat.add_zero, Nat.reduceLeDiff, Nat.reduceEqDiff, loadN, storeN, getC, eqV, eqAll, splice, fillA, and_self, and_true, true_and, Nat.le_refl, Bool.not_true, Bool.not_false, Bool.false_xor, Bool.true_xor, cond_true, cond_false, List.replicate, if_false, reduceIte, resAll, resA, ne_eq, decide_not, decide_true, decide_false, Int.reduceEq, Bool.not_true, Bool.not_false, not_true_eq_false, not_false_eq_true, cond_bool, cond_int, beq_self_eq_true, Int.reduceBEq, Bool.and_self, Bool.and_false, Bool.false_and, Bool.xor_false, Bool.xor_true]
      refine WI_of (fun h => ?_) (fun h => ?_)
      · simp at h; obtain ⟨rfl, rfl⟩ := h; simp
      · simp at h; by_cases hc : ok = true ∧ a = v
        · exact absurd hc.2 (h hc.1)
        · simp [hc]
    obtain ⟨r, m, h1, rfl⟩ := this
    exact ⟨m, h1⟩
  · cases h)

def oldP (ok : Bool) (at' now : Int) : Bool := ok && decide (10000000 ≤ IntKind.i64.wrap ((if now > 0 then now else 0) - if at' > 0 then at' else 0))

def oldF : AFun X := fun args m => match args with
  | [.agg [.bool ok, .int .u64 _, .int .i64 b], .ptr i 0] => match m[i]? with
    | some (.cells 1 false [.int .i64 n]) => some (.bool (oldP ok b n), m)
    | _ => none
  | _ => none

theorem old_lift (G : List (Nat × AFun X)) : Lift (amFunc G slice_Look_1) (oldF (X := X)) := lift_one (by
  intro args m v m' h
  unfold oldF at h; split at h
  · rename_i ok a b i
    split at h
    · rename_i n hn
      simp only [Option.some.injEq, Prod.mk.injEq] at h
      obtain ⟨rfl, rfl⟩ := h
      have : Fn G slice_Look_1 [.agg [.bool ok, .int .u64 a, .int .i64 b], .ptr 0 0] ([.cells 1 false [.int .i64 n]] : Mem X) (fun r m => r = .bool (oldP ok b n) ∧ ∃ ms, m = .cells 1 false [.int .i64 n] :: ms) := by
        refine Fn_of rfl ?_
        simp only [slice_Look_1, ev, ↓evW, ↓evQ, evB, evS, evL, List.map, AV.cells, List.all, AV.one, Bool.and_true, Bool.true_and, OK_if, WI_true, WI_false, ↓WI_true, ↓WI_false, if_true, ↓thenQ_normal, ↓thenQ_exit, ↓thenQ_ret, ↓blockQ_normal, ↓blockQ_ret, ↓blockQ_exit, CW_bool, RQ_some, tupA_one, tupA_two, tupA_nil, Nat.reduceSub, Nat.reduceAdd, Nat.reduceMul, Nat.zero_add, Nat.add_zero, Nat.reduceLeDiff, Nat.reduceEqDiff, loadN, storeN, getC, eqV, eqAll, splice, fillA, and_self, and_true, true_and, Nat.le_refl, Bool.not_true, Bool.not_false, Bool.false_xor, Bool.true_xor, cond_true, cond_false, List.replicate, if_false, reduceIte, resAll, resA, ne_eq, decide_not, decide_true, decide_false, Int.reduceEq, Bool.not_true, Bool.not_false, not_true_eq_false, not_false_eq_true, cond_bool, cond_int, beq_self_eq_true, Int.reduceBEq, Bool.and_self, Bool.and_false, Bool.false_and, Bool.xor_false, Bool.xor_true]
        refine WI_of (fun h => ?_) (fun h => ?_) <;> subst h <;> exact ⟨by simp [oldP], _, rfl⟩
      obtain ⟨r, m2, h1, rfl, ms, rfl⟩ := this
      refine ⟨i, [.agg [.bool ok, .int .u64 a, .int .i64 b], .ptr 0 0], _, _, _, _, hn, ?_, rfl, rfl, rfl, rfl, h1, fun _ _ h => by cases h⟩
      have hl := (List.getElem?_eq_some_iff.1 hn).1
      refine List.ext_getElem? (fun k => ?_)
      rw [List.getElem?_set]
      by_cases hk : i = k
      · subst hk; rw [if_pos rfl, if_pos hl, hn]
      · rw [if_neg hk]
    · cases h
  · cases h)

structure Seen where
  is : Bool
  tick : Int
  tickAt : Int
  call : Bool
  sys : Int
  sysAt : Int

def Seen.av (s : Seen) : AV := .agg [.bool s.is, .int .u64 s.tick, .int .i64 s.tickAt, .bool s.call, .int .u64 s.sys, .int .i64 s.sysAt]

def look (s : Seen) (stat tick sys now : Int) : Seen × Int :=
  if stat = 1 then
    (⟨true, tick, if s.is = true ∧ s.tick = tick then s.tickAt else now, false, 0, 0⟩, if oldP true (if s.is = true ∧ s.tick = tick then s.tickAt else now) now = true then 1 else 0)
  else if stat = 2 then
    (⟨true, tick, if s.is = true ∧ s.tick = tick then s.tickAt else now, true, sys, if s.call = true ∧ s.sys = sys then s.sysAt else now⟩,
      if oldP true (if s.call = true ∧ s.sys = sys then s.sysAt else now) now = true then 2 else if oldP true (if s.is = true ∧ s.tick = tick then s.tickAt else now) now = true then 1 else 0)
  else (⟨false, 0, 0, false, 0, 0⟩, 0)

def lookG : List AV → Option AV
  | [.agg [.bool a, .int .u64 b, .int .i64 c, .bool d, .int .u64 e, .int .i64 f], .int .i64 stat, .int .u64 tick, .int .u64 sys, .int .i64 now] =>
    some (.tup [(look ⟨a, b, c, d, e, f⟩ stat tick sys now).1.av, .int .i64 (look ⟨a, b, c, d, e, f⟩ stat tick sys now).2])
  | _ => none

theorem look_run (G : List (Nat × AFun X)) (h13 : assoc G 13 = some (pureF nextG)) (h14 : assoc G 14 = some oldF) (a : Bool) (b c : Int) (d : Bool) (e f stat tick sys now : Int) :
    Fn G slice_Look [.agg [.bool a, .int .u64 b, .int .i64 c, .bool d, .int .u64 e, .int .i64 f], .int .i64 stat, .int .u64 tick, .int .u64 sys, .int .i64 now] ([] : Mem X)
      (fun r _ => r = .tup [(look ⟨a, b, c, d, e, f⟩ stat tick sys now).1.av, .int .i64 (look ⟨a, b, c, d, e, f⟩ stat tick sys now).2]) := by
  refine Fn_of rfl ?_
  simp only [slice_Look]
  have hf : oldP false 0 now = false := rfl
  by_cases h1 : stat = 1
  · subst h1
    simp only [ev, ↓evW, ↓evQ, evB, evS, evL, List.map, AV.cells, List.all, AV.one, Bool.and_true, Bool.true_and, OK_if, WI_true, WI_false, ↓WI_true, ↓WI_false, if_true, ↓thenQ_normal, ↓thenQ_exit, ↓thenQ_ret, ↓blockQ_normal, ↓blockQ_ret, ↓blockQ_exit, CW_bool, RQ_some, tupA_one, tupA_two, tupA_nil, Nat.reduceSub, Nat.reduceAdd, Nat.reduceMul, Nat.zero_add, Nat.add_zero, Nat.reduceLeDiff, Nat.reduceEqDiff, loadN, storeN, getC, eqV, eqAll, splice, fillA, and_self, and_true, true_and, Nat.le_refl, Bool.not_true, Bool.not_false, Bool.false_xor, Bool.true_xor, cond_true, cond_false, List.replicate, if_false, reduceIte, resAll, resA, ne_eq, decide_not, decide_true, decide_false, Int.reduceEq, Bool.not_true, Bool.not_false, not_true_eq_false, not_false_eq_true, cond_bool, cond_int, beq_self_eq_true, Int.reduceBEq, Bool.and_self, Bool.and_false, Bool.false_and, Bool.xor_false, Bool.xor_true, h13, h14, pureF, nextG, oldF, hf]
    refine WI_of (fun h => ?_) (fun h => ?_) <;> simp [look, Seen.av, h]
  · by_cases h2 : stat = 2
    · subst h2
      simp only [ev, ↓evW, ↓evQ, evB, evS, evL, List.map, AV.cells, List.all, AV.one, Bool.and_true, Bool.true_and, OK_if, WI_true, WI_false, ↓WI_true, ↓WI_false, if_true, ↓thenQ_normal, ↓thenQ_exit, ↓thenQ_ret, ↓blockQ_normal, ↓blockQ_ret, ↓blockQ_exit, CW_bool, RQ_some, tupA_one, tupA_two, tupA_nil, Nat.reduceSub, Nat.reduceAdd, Nat.reduceMul, Nat.zero_add, Nat.add_zero, Nat.reduceLeDiff, Nat.reduceEqDiff, loadN, storeN, getC, eqV, eqAll, splice, fillA, and_self, and_true, true_and, Nat.le_refl, Bool.not_true, Bool.not_false, Bool.false_xor, Bool.true_xor, cond_true, cond_false, List.replicate, if_false, reduceIte, resAll, resA, ne_eq, decide_not, decide_true, decide_false, Int.reduceEq, Bool.not_true, Bool.not_false, not_true_eq_false, not_false_eq_true, cond_bool, cond_int, beq_self_eq_true, Int.reduceBEq, Bool.and_self, Bool.and_false, Bool.false_and, Bool.xor_false, Bool.xor_true, h13, h14, pureF, nextG, oldF, hf]
      refine WI_of (fun h => ?_) (fun h => ?_)
      · simp [look, Seen.av, h]
      · refine WI_of (fun h' => ?_) (fun h' => ?_) <;> simp [look, Seen.av, h, h']
    · simp only [ev, ↓evW, ↓evQ, evB, evS, evL, List.map, AV.cells, List.all, AV.one, Bool.and_true, Bool.true_and, OK_if, WI_true, WI_false, ↓WI_true, ↓WI_false, if_true, ↓thenQ_normal, ↓thenQ_exit, ↓thenQ_ret, ↓blockQ_normal, ↓blockQ_ret, ↓blockQ_exit, CW_bool, RQ_some, tupA_one, tupA_two, tupA_nil, Nat.reduceSub, Nat.reduceAdd, Nat.reduceMul, Nat.zero_add, Nat.add_zero, Nat.reduceLeDiff, Nat.reduceEqDiff, loadN, storeN, getC, eqV, eqAll, splice, fillA, and_self, and_true, true_and, Nat.le_refl, Bool.not_true, Bool.not_false, Bool.false_xor, Bool.true_xor, cond_true, cond_false, List.replicate, if_false, reduceIte, resAll, resA, ne_eq, decide_not, decide_true, decide_false, Int.reduceEq, Bool.not_true, Bool.not_false, not_true_eq_false, not_false_eq_true, cond_bool, cond_int, beq_self_eq_true, Int.reduceBEq, Bool.and_self, Bool.and_false, Bool.false_and, Bool.xor_false, Bool.xor_true, h1, h2]
      simp [look, Seen.av, h1, h2]

theorem look_lift (G : List (Nat × AFun X)) (h13 : assoc G 13 = some (pureF nextG)) (h14 : assoc G 14 = some oldF) : Lift (amFunc G slice_Look) (pureF lookG) := lift_pure (by
  intro args r h
  unfold lookG at h; split at h
  · injection h with h; subst h
    obtain ⟨r, m, h1, rfl⟩ := look_run G h13 h14 _ _ _ _ _ _ _ _ _ _
    exact ⟨rfl, rfl, m, h1⟩
  · cases h)

def oldG : List AV → Option AV
  | [.int .i64 now, .int .i64 b] => some (.bool (oldP true b now))
  | _ => none

theorem refold_lift (G : List (Nat × AFun X)) : Lift (amFunc G ref18_old) (pureF oldG) := lift_pure (by
  intro args r h
  unfold oldG at h; split at h
  · rename_i now b
    injection h with h; subst h
    have : Fn G ref18_old [.int .i64 now, .int .i64 b] ([] : Mem X) (fun r _ => r = .bool (oldP true b now)) := by
      refine Fn_of rfl ?_
      simp only [ref18_old, ev, ↓evW, ↓evQ, evB, evS, evL, List.map, AV.cells, List.all, AV.one, Bool.and_true, Bool.true_and, OK_if, WI_true, WI_false, ↓WI_true, ↓WI_false, if_true, ↓thenQ_normal, ↓thenQ_exit, ↓thenQ_ret, ↓blockQ_normal, ↓blockQ_ret, ↓blockQ_exit, CW_bool, RQ_some, tupA_one, tupA_two, tupA_nil, Nat.reduceSub, Nat.reduceAdd, Nat.reduceMul, Nat.zero_add, Nat.add_zero, Nat.reduceLeDiff, Nat.reduceEqDiff, loadN, storeN, getC, eqV, eqAll, splice, fillA, and_self, and_true, true_and, Nat.le_refl, Bool.not_true, Bool.not_false, Bool.false_xor, Bool.true_xor, cond_true, cond_false, List.replicate, if_false, reduceIte, resAll, resA, ne_eq, decide_not, decide_true, decide_false, Int.reduceEq, Bool.not_true, Bool.not_false, not_true_eq_false, not_false_eq_true, cond_bool, cond_int, beq_self_eq_true, Int.reduceBEq, Bool.and_self, Bool.and_false, Bool.false_and, Bool.xor_false, Bool.xor_true, oldP]
    obtain ⟨r, m, h1, rfl⟩ := this
    exact ⟨rfl, rfl, m, h1⟩
  · cases h)

set_option maxHeartbeats 1000000 in
theorem reflook_run (G : List (Nat × AFun X)) (h20 : assoc G 20 = some (pureF oldG)) (a : Bool) (b c : Int) (d : Bool) (e f stat tick sys now : Int) :
    Fn G ref18_Look [.agg [.bool a, .int .u64 b, .int .i64 c, .bool d, .int .u64 e, .int .i64 f], .int .i64 stat, .int .u64 tick, .int .u64 sys, .int .i64 now] ([] : Mem X)
      (fun r _ => r = .tup [(look ⟨a, b, c, d, e, f⟩ stat tick sys now).1.av, .int .i64 (look ⟨a, b, c, d, e, f⟩ stat tick sys now).2]) := by
  refine Fn_of rfl ?_
  simp only [ref18_Look]
  by_cases h1 : stat = 1
  · subst h1
    cases a with
    | false =>
      simp only [ev, ↓evW, ↓evQ, evB, evS, evL, List.map, AV.cells, List.all, AV.one, Bool.and_true, Bool.true_and, OK_if, WI_true, WI_false, ↓WI_true, ↓WI_false, if_true, ↓thenQ_normal, ↓thenQ_exit, ↓thenQ_ret, ↓blockQ_normal, ↓blockQ_ret, ↓blockQ_exit, CW_bool, RQ_some, tupA_one, tupA_two, tupA_nil, Nat.reduceSub, Nat.reduceAdd, Nat.reduceMul, Nat.zero_add, Nat.add_zero, Nat.reduceLeDiff, Nat.reduceEqDiff, loadN, storeN, getC, eqV, eqAll, splice, fillA, and_self, and_true, true_and, Nat.le_refl, Bool.not_true, Bool.not_false, Bool.false_xor, Bool.true_xor, cond_true, cond_false, List.replicate, if_false, reduceIte, resAll, resA, ne_eq, decide_not, decide_true, decide_false, Int.reduceEq, Bool.not_true, Bool.not_false, not_true_eq_false, not_false_eq_true, cond_bool, cond_int, beq_self_eq_true, Int.reduceBEq, Bool.and_self, Bool.and_false, Bool.false_and, Bool.xor_false, Bool.xor_true, h20, pureF, oldG]
      refine WI_of (fun h => ?_) (fun h => ?_) <;> simp [look, Seen.av, h]
    | true =>
      by_cases hb : b = tick
      · subst hb
        simp only [ev, ↓evW, ↓evQ, evB, evS, evL, List.map, AV.cells, List.all, AV.one, Bool.and_true, Bool.true_and, OK_if, WI_true, WI_false, ↓WI_true, ↓WI_false, if_true, ↓thenQ_normal, ↓thenQ_exit, ↓thenQ_ret, ↓blockQ_normal, ↓blockQ_ret, ↓blockQ_exit, CW_bool, RQ_some, tupA_one, tupA_two, tupA_nil, Nat.reduceSub, Nat.reduceAdd, Nat.reduceMul, Nat.zero_add, Nat.add_zero, Nat.reduceLeDiff, Nat.reduceEqDiff, loadN, storeN, getC, eqV, eqAll, splice, fillA, and_self, and_true, true_and, Nat.le_refl, Bool.not_true, Bool.not_false, Bool.false_xor, Bool.true_xor, cond_true, cond_false, List.replicate, if_false, reduceIte, resAll, resA, ne_eq, decide_not, decide_true, decide_false, Int.reduceEq, Bool.not_true, Bool.not_false, not_true_eq_false, not_false_eq_true, cond_bool, cond_int, beq_self_eq_true, Int.reduceBEq, Bool.and_self, Bool.and_false, Bool.false_and, Bool.xor_false, Bool.xor_true, h20, pureF, oldG]
        refine WI_of (fun h => ?_) (fun h => ?_) <;> simp [look, Seen.av, h]
      · simp only [ev, ↓evW, ↓evQ, evB, evS, evL, List.map, AV.cells, List.all, AV.one, Bool.and_true, Bool.true_and, OK_if, WI_true, WI_false, ↓WI_true, ↓WI_false, if_true, ↓thenQ_normal, ↓thenQ_exit, ↓thenQ_ret, ↓blockQ_normal, ↓blockQ_ret, ↓blockQ_exit, CW_bool, RQ_some, tupA_one, tupA_two, tupA_nil, Nat.reduceSub, Nat.reduceAdd, Nat.reduceMul, Nat.zero_add, Nat.add_zero, Nat.reduceLeDiff, Nat.reduceEqDiff, loadN, storeN, getC, eqV, eqAll, splice, fillA, and_self, and_true, true_and, Nat.le_refl, Bool.not_true, Bool.not_false, Bool.false_xor, Bool.true_xor, cond_true, cond_false, List.replicate, if_false, reduceIte, resAll, resA, ne_eq, decide_not, decide_true, decide_false, Int.reduceEq, Bool.not_true, Bool.not_false, not_true_eq_false, not_false_eq_true, cond_bool, cond_int, beq_self_eq_true, Int.reduceBEq, Bool.and_self, Bool.and_false, Bool.false_and, Bool.xor_false, Bool.xor_true, h20, pureF, oldG, hb]
        refine WI_of (fun h => ?_) (fun h => ?_) <;> simp [look, Seen.av, h, hb]
  · by_cases h2 : stat = 2
    · subst h2
      cases a with
      | false =>
        cases d with
        | false =>
          simp only [ev, ↓evW, ↓evQ, evB, evS, evL, List.map, AV.cells, List.all, AV.one, Bool.and_true, Bool.true_and, OK_if, WI_true, WI_false, ↓WI_true, ↓WI_false, if_true, ↓thenQ_normal, ↓thenQ_exit, ↓thenQ_ret, ↓blockQ_normal, ↓blockQ_ret, ↓blockQ_exit, CW_bool, RQ_some, tupA_one, tupA_two, tupA_nil, Nat.reduceSub, Nat.reduceAdd, Nat.reduceMul, Nat.zero_add, Nat.add_zero, Nat.reduceLeDiff, Nat.reduceEqDiff, loadN, storeN, getC, eqV, eqAll, splice, fillA, and_self, and_true, true_and, Nat.le_refl, Bool.not_true, Bool.not_false, Bool.false_xor, Bool.true_xor, cond_true, cond_false, List.replicate, if_false, reduceIte, resAll, resA, ne_eq, decide_not, decide_true, decide_false, Int.reduceEq, Bool.not_true, Bool.not_false, not_true_eq_false, not_false_eq_true, cond_bool, cond_int, beq_self_eq_true, Int.reduceBEq, Bool.and_self, Bool.and_false, Bool.false_and, Bool.xor_false, Bool.xor_true, h20, pureF, oldG]
          refine WI_of (fun h => ?_) (fun h => ?_)
          · simp_all [look, Seen.av]
          · refine WI_of (fun h' => ?_) (fun h' => ?_) <;> simp_all [look, Seen.av]
        | true =>
          by_cases he : e = sys
          · subst he
            simp only [ev, ↓evW, ↓evQ, evB, evS, evL, List.map, AV.cells, List.all, AV.one, Bool.and_true, Bool.true_and, OK_if, WI_true, WI_false, ↓WI_true, ↓WI_false, if_true, ↓thenQ_normal, ↓thenQ_exit, ↓thenQ_ret, ↓blockQ_normal, ↓blockQ_ret, ↓blockQ_exit, CW_bool, RQ_some, tupA_one, tupA_two, tupA_nil, Nat.reduceSub, Nat.reduceAdd, Nat.reduceMul, Nat.zero_add, Nat.add_zero, Nat.reduceLeDiff, Nat.reduceEqDiff, loadN, storeN, getC, eqV, eqAll, splice, fillA, and_self, and_true, true_and, Nat.le_refl, Bool.not_true, Bool.not_false, Bool.false_xor, Bool.true_xor, cond_true, cond_false, List.replicate, if_false, reduceIte, resAll, resA, ne_eq, decide_not, decide_true, decide_false, Int.reduceEq, Bool.not_true, Bool.not_false, not_true_eq_false, not_false_eq_true, cond_bool, cond_int, beq_self_eq_true, Int.reduceBEq, Bool.and_self, Bool.and_false, Bool.false_and, Bool.xor_false, Bool.xor_true, h20, pureF, oldG]
            refine WI_of (fun h => ?_) (fun h => ?_)
            · simp_all [look, Seen.av]
            · refine WI_of (fun h' => ?_) (fun h' => ?_) <;> simp_all [look, Seen.av]
          · simp only [ev, ↓evW, ↓evQ, evB, evS, evL, List.map, AV.cells, List.all, AV.one, Bool.and_true, Bool.true_and, OK_if, WI_true, WI_false, ↓WI_true, ↓WI_false, if_true, ↓thenQ_normal, ↓thenQ_exit, ↓thenQ_ret, ↓blockQ_normal, ↓blockQ_ret, ↓blockQ_exit, CW_bool, RQ_some, tupA_one, tupA_two, tupA_nil, Nat.reduceSub, Nat.reduceAdd, Nat.reduceMul, Nat.zero_add, Nat.add_zero, Nat.reduceLeDiff, Nat.reduceEqDiff, loadN, storeN, getC, eqV, eqAll, splice, fillA, and_self, and_true, true_and, Nat.le_refl, Bool.not_true, Bool.not_false, Bool.false_xor, Bool.true_xor, cond_true, cond_false, List.replicate, if_false, reduceIte, resAll, resA, ne_eq, decide_not, decide_true, decide_false, Int.reduceEq, Bool.not_true, Bool.not_false, not_true_eq_false, not_false_eq_true, cond_bool, cond_int, beq_self_eq_true, Int.reduceBEq, Bool.and_self, Bool.and_false, Bool.false_and, Bool.xor_false, Bool.xor_true, h20, pureF, oldG, he]
            refine WI_of (fun h => ?_) (fun h => ?_)
            · simp_all [look, Seen.av]
            · refine WI_of (fun h' => ?_) (fun h' => ?_) <;> simp_all [look, Seen.av]
      | true =>
        by_cases hb : b = tick
        · subst hb
          cases d with
          | false =>
            simp only [ev, ↓evW, ↓evQ, evB, evS, evL, List.map, AV.cells, List.all, AV.one, Bool.and_true, Bool.true_and, OK_if, WI_true, WI_false, ↓WI_true, ↓WI_false, if_true, ↓thenQ_normal, ↓thenQ_exit, ↓thenQ_ret, ↓blockQ_normal, ↓blockQ_ret, ↓blockQ_exit, CW_bool, RQ_some, tupA_one, tupA_two, tupA_nil, Nat.reduceSub, Nat.reduceAdd, Nat.reduceMul, Nat.zero_add, Nat.add_zero, Nat.reduceLeDiff, Nat.reduceEqDiff, loadN, storeN, getC, eqV, eqAll, splice, fillA, and_self, and_true, true_and, Nat.le_refl, Bool.not_true, Bool.not_false, Bool.false_xor, Bool.true_xor, cond_true, cond_false, List.replicate, if_false, reduceIte, resAll, resA, ne_eq, decide_not, decide_true, decide_false, Int.reduceEq, Bool.not_true, Bool.not_false, not_true_eq_false, not_false_eq_true, cond_bool, cond_int, beq_self_eq_true, Int.reduceBEq, Bool.and_self, Bool.and_false, Bool.false_and, Bool.xor_false, Bool.xor_true, h20, pureF, oldG]
            refine WI_of (fun h => ?_) (fun h => ?_)
            · simp_all [look, Seen.av]
            · refine WI_of (fun h' => ?_) (fun h' => ?_) <;> simp_all [look, Seen.av]
          | true =>
            by_cases he : e = sys
            · subst he
              simp only [ev, ↓evW, ↓evQ, evB, evS, evL, List.map, AV.cells, List.all, AV.one, Bool.and_true, Bool.true_and, OK_if, WI_true, WI_false, ↓WI_true, ↓WI_false, if_true, ↓thenQ_normal, ↓thenQ_exit, ↓thenQ_ret, ↓blockQ_normal, ↓blockQ_ret, ↓blockQ_exit, CW_bool, RQ_some, tupA_one, tupA_two, tupA_nil, Nat.reduceSub, Nat.reduceAdd, Nat.reduceMul, Nat.zero_add, Nat.add_zero, Nat.reduceLeDiff, Nat.reduceEqDiff, loadN, storeN, getC, eqV, eqAll, splice, fillA, and_self, and_true, true_and, Nat.le_refl, Bool.not_true, Bool.not_false, Bool.false_xor, Bool.true_xor, cond_true, cond_false, List.replicate, if_false, reduceIte, resAll, resA, ne_eq, decide_not, decide_true, decide_false, Int.reduceEq, Bool.not_true, Bool.not_false, not_true_eq_false, not_false_eq_true, cond_bool, cond_int, beq_self_eq_true, Int.reduceBEq, Bool.and_self, Bool.and_false, Bool.false_and, Bool.xor_false, Bool.xor_true, h20, pureF, oldG]
              refine WI_of (fun h => ?_) (fun h => ?_)
              · simp_all [look, Seen.av]
              · refine WI_of (fun h' => ?_) (fun h' => ?_) <;> simp_all [look, Seen.av]
            · simp only [ev, ↓evW, ↓evQ, evB, evS, evL, List.map, AV.cells, List.all, AV.one, Bool.and_true, Bool.true_and, OK_if, WI_true, WI_false, ↓WI_true, ↓WI_false, if_true, ↓thenQ_normal, ↓thenQ_exit, ↓thenQ_ret, ↓blockQ_normal, ↓blockQ_ret, ↓blockQ_exit, CW_bool, RQ_some, tupA_one, tupA_two, tupA_nil, Nat.reduceSub, Nat.reduceAdd, Nat.reduceMul, Nat.zero_add, Nat.add_zero, Nat.reduceLeDiff, Nat.reduceEqDiff, loadN, storeN, getC, eqV, eqAll, splice, fillA, and_self, and_true, true_and, Nat.le_refl, Bool.not_true, Bool.not_false, Bool.false_xor, Bool.true_xor, cond_true, cond_false, List.replicate, if_false, reduceIte, resAll, resA, ne_eq, decide_not, decide_true, decide_false, Int.reduceEq, Bool.not_true, Bool.not_false, not_true_eq_false, not_false_eq_true, cond_bool, cond_int, beq_self_eq_true, Int.reduceBEq, Bool.and_self, Bool.and_false, Bool.false_and, Bool.xor_false, Bool.xor_true, h20, pureF, oldG, he]
              refine WI_of (fun h => ?_) (fun h => ?_)
              · simp_all [look, Seen.av]
              · refine WI_of (fun h' => ?_) (fun h' => ?_) <;> simp_all [look, Seen.av]
        · skip
          cases d with
          | false =>
            simp only [ev, ↓evW, ↓evQ, evB, evS, evL, List.map, AV.cells, List.all, AV.one, Bool.and_true, Bool.true_and, OK_if, WI_true, WI_false, ↓WI_true, ↓WI_false, if_true, ↓thenQ_normal, ↓thenQ_exit, ↓thenQ_ret, ↓blockQ_normal, ↓blockQ_ret, ↓blockQ_exit, CW_bool, RQ_some, tupA_one, tupA_two, tupA_nil, Nat.reduceSub, Nat.reduceAdd, Nat.reduceMul, Nat.zero_add, Nat.add_zero, Nat.reduceLeDiff, Nat.reduceEqDiff, loadN, storeN, getC, eqV, eqAll, splice, fillA, and_self, and_true, true_and, Nat.le_refl, Bool.not_true, Bool.not_false, Bool.false_xor, Bool.true_xor, cond_true, cond_false, List.replicate, if_false, reduceIte, resAll, resA, ne_eq, decide_not, decide_true, decide_false, Int.reduceEq, Bool.not_true, Bool.not_false, not_true_eq_false, not_false_eq_true, cond_bool, cond_int, beq_self_eq_true, Int.reduceBEq, Bool.and_self, Bool.and_false, Bool.false_and, Bool.xor_false, Bool.xor_true, h20, pureF, oldG, hb]
            refine WI_of (fun h => ?_) (fun h => ?_)
            · simp_all [look, Seen.av]
            · refine WI_of (fun h' => ?_) (fun h' => ?_) <;> simp_all [look, Seen.av]
          | true =>
            by_cases he : e = sys
            · subst he
              simp only [ev, ↓evW, ↓evQ, evB, evS, evL, List.map, AV.cells, List.all, AV.one, Bool.and_true, Bool.true_and, OK_if, WI_true, WI_false, ↓WI_true, ↓WI_false, if_true, ↓thenQ_normal, ↓thenQ_exit, ↓thenQ_ret, ↓blockQ_normal, ↓blockQ_ret, ↓blockQ_exit, CW_bool, RQ_some, tupA_one, tupA_two, tupA_nil, Nat.reduceSub, Nat.reduceAdd, Nat.reduceMul, Nat.zero_add, Nat.add_zero, Nat.reduceLeDiff, Nat.reduceEqDiff, loadN, storeN, getC, eqV, eqAll, splice, fillA, and_self, and_true, true_and, Nat.le_refl, Bool.not_true, Bool.not_false, Bool.false_xor, Bool.true_xor, cond_true, cond_false, List.replicate, if_false, reduceIte, resAll, resA, ne_eq, decide_not, decide_true, decide_false, Int.reduceEq, Bool.not_true, Bool.not_false, not_true_eq_false, not_false_eq_true, cond_bool, cond_int, beq_self_eq_true, Int.reduceBEq, Bool.and_self, Bool.and_false, Bool.false_and, Bool.xor_false, Bool.xor_true, h20, pureF, oldG, hb]
              refine WI_of (fun h => ?_) (fun h => ?_)
              · simp_all [look, Seen.av]
              · refine WI_of (fun h' => ?_) (fun h' => ?_) <;> simp_all [look, Seen.av]
            · simp only [ev, ↓evW, ↓evQ, evB, evS, evL, List.map, AV.cells, List.all, AV.one, Bool.and_true, Bool.true_and, OK_if, WI_true, WI_false, ↓WI_true, ↓WI_false, if_true, ↓thenQ_normal, ↓thenQ_exit, ↓thenQ_ret, ↓blockQ_normal, ↓blockQ_ret, ↓blockQ_exit, CW_bool, RQ_some, tupA_one, tupA_two, tupA_nil, Nat.reduceSub, Nat.reduceAdd, Nat.reduceMul, Nat.zero_add, Nat.add_zero, Nat.reduceLeDiff, Nat.reduceEqDiff, loadN, storeN, getC, eqV, eqAll, splice, fillA, and_self, and_true, true_and, Nat.le_refl, Bool.not_true, Bool.not_false, Bool.false_xor, Bool.true_xor, cond_true, cond_false, List.replicate, if_false, reduceIte, resAll, resA, ne_eq, decide_not, decide_true, decide_false, Int.reduceEq, Bool.not_true, Bool.not_false, not_true_eq_false, not_false_eq_true, cond_bool, cond_int, beq_self_eq_true, Int.reduceBEq, Bool.and_self, Bool.and_false, Bool.false_and, Bool.xor_false, Bool.xor_true, h20, pureF, oldG, hb, he]
              refine WI_of (fun h => ?_) (fun h => ?_)
              · simp_all [look, Seen.av]
              · refine WI_of (fun h' => ?_) (fun h' => ?_) <;> simp_all [look, Seen.av]
    · simp only [ev, ↓evW, ↓evQ, evB, evS, evL, List.map, AV.cells, List.all, AV.one, Bool.and_true, Bool.true_and, OK_if, WI_true, WI_false, ↓WI_true, ↓WI_false, if_true, ↓thenQ_normal, ↓thenQ_exit, ↓thenQ_ret, ↓blockQ_normal, ↓blockQ_ret, ↓blockQ_exit, CW_bool, RQ_some, tupA_one, tupA_two, tupA_nil, Nat.reduceSub, Nat.reduceAdd, Nat.reduceMul, Nat.zero_add, Nat.add_zero, Nat.reduceLeDiff, Nat.reduceEqDiff, loadN, storeN, getC, eqV, eqAll, splice, fillA, and_self, and_true, true_and, Nat.le_refl, Bool.not_true, Bool.not_false, Bool.false_xor, Bool.true_xor, cond_true, cond_false, List.replicate, if_false, reduceIte, resAll, resA, ne_eq, decide_not, decide_true, decide_false, Int.reduceEq, Bool.not_true, Bool.not_false, not_true_eq_false, not_false_eq_true, cond_bool, cond_int, beq_self_eq_true, Int.reduceBEq, Bool.and_self, Bool.and_false, Bool.false_and, Bool.xor_false, Bool.xor_true, h1, h2]
      simp [look, Seen.av, h1, h2]
end Go.Am.F18
