/- The functions of the time slice's watch without a watch, and the law on them. -/
import Derived.Test.YtfiogjimbhgacaaXP18
set_option linter.unusedSimpArgs false
set_option linter.unusedVariables false
namespace Go.Am.F18
variable {X : Type}

def pollG : List AV → Option AV
  | [.int .u64 tick, .int .i64 t] => if t > 0 then (if IntKind.u64.wrap t = 0 then none else some (.bool (decide (tick.tmod (IntKind.u64.wrap t) = 0)))) else some (.bool false)
  | _ => none

theorem poll_run (G : List (Nat × AFun X)) (F : AFn) (hF : F = slice_Poll ∨ F = ref18_Poll) {args : List AV} {v : AV} (h : pollG args = some v) : ∃ ms, amFunc G F args ([] : Mem X) = some (v, ms) := by
  unfold pollG at h; split at h
  · rename_i tick t
    have : Fn G F [.int .u64 tick, .int .i64 t] ([] : Mem X) (fun r _ => r = v) := by
      rcases hF with rfl | rfl <;> refine Fn_of rfl ?_
      · simp only [slice_Poll]
        by_cases h1 : t > 0
        · rw [if_pos h1] at h
          split at h
          · cases h
          · rename_i h2
            simp only [ev, ↓evW, ↓evQ, evB, evS, evL, List.map, AV.cells, List.all, AV.one, Bool.and_true, Bool.true_and, OK_if, WI_true, WI_false, ↓WI_true, ↓WI_false, if_true, ↓thenQ_normal, ↓thenQ_exit, ↓thenQ_ret, ↓blockQ_normal, ↓blockQ_ret, ↓blockQ_exit, CW_bool, RQ_some, tupA_one, tupA_two, tupA_nil, Nat.reduceSub, Nat.reduceAdd, Nat.reduceMul, Nat.zero_add, Nat.add_zero, Nat.reduceLeDiff, Nat.reduceEqDiff, loadN, storeN, getC, eqV, eqAll, splice, fillA, and_self, and_true, true_and, Nat.le_refl, Bool.not_true, Bool.not_false, Bool.false_xor, Bool.true_xor, cond_true, cond_false, List.replicate, if_false, reduceIte, resAll, resA, ne_eq, decide_not, decide_true, decide_false, Int.reduceEq, Bool.not_true, Bool.not_false, not_true_eq_false, not_false_eq_true, cond_bool, cond_int, beq_self_eq_true, Int.reduceBEq, Bool.and_self, Bool.and_false, Bool.false_and, Bool.xor_false, Bool.xor_true, h1, gt_iff_lt, h2]
            injection h
        · rw [if_neg h1] at h
          have h1' : ¬ 0 < t := h1
          simp only [ev, ↓evW, ↓evQ, evB, evS, evL, List.map, AV.cells, List.all, AV.one, Bool.and_true, Bool.true_and, OK_if, WI_true, WI_false, ↓WI_true, ↓WI_false, if_true, ↓thenQ_normal, ↓thenQ_exit, ↓thenQ_ret, ↓blockQ_normal, ↓blockQ_ret, ↓blockQ_exit, CW_bool, RQ_some, tupA_one, tupA_two, tupA_nil, Nat.reduceSub, Nat.reduceAdd, Nat.reduceMul, Nat.zero_add, Nat.add_zero, Nat.reduceLeDiff, Nat.reduceEqDiff, loadN, storeN, getC, eqV, eqAll, splice, fillA, and_self, and_true, true_and, Nat.le_refl, Bool.not_true, Bool.not_false, Bool.false_xor, Bool.true_xor, cond_true, cond_false, List.replicate, if_false, reduceIte, resAll, resA, ne_eq, decide_not, decide_true, decide_false, Int.reduceEq, Bool.not_true, Bool.not_false, not_true_eq_false, not_false_eq_true, cond_bool, cond_int, beq_self_eq_true, Int.reduceBEq, Bool.and_self, Bool.and_false, Bool.false_and, Bool.xor_false, Bool.xor_true, h1']
          injection h
      · simp only [ref18_Poll]
        by_cases h1 : t > 0
        · rw [if_pos h1] at h
          split at h
          · cases h
          · rename_i h2
            simp only [ev, ↓evW, ↓evQ, evB, evS, evL, List.map, AV.cells, List.all, AV.one, Bool.and_true, Bool.true_and, OK_if, WI_true, WI_false, ↓WI_true, ↓WI_false, if_true, ↓thenQ_normal, ↓thenQ_exit, ↓thenQ_ret, ↓blockQ_normal, ↓blockQ_ret, ↓blockQ_exit, CW_bool, RQ_some, tupA_one, tupA_two, tupA_nil, Nat.reduceSub, Nat.reduceAdd, Nat.reduceMul, Nat.zero_add, Nat.add_zero, Nat.reduceLeDiff, Nat.reduceEqDiff, loadN, storeN, getC, eqV, eqAll, splice, fillA, and_self, and_true, true_and, Nat.le_refl, Bool.not_true, Bool.not_false, Bool.false_xor, Bool.true_xor, cond_true, cond_false, List.replicate, if_false, reduceIte, resAll, resA, ne_eq, decide_not, decide_true, decide_false, Int.reduceEq, Bool.not_true, Bool.not_false, not_true_eq_false, not_false_eq_true, cond_bool, cond_int, beq_self_eq_true, Int.reduceBEq, Bool.and_self, Bool.and_false, Bool.false_and, Bool.xor_false, Bool.xor_true, h1, gt_iff_lt, h2]
            injection h
        · rw [if_neg h1] at h
          have h1' : ¬ 0 < t := h1
          simp only [ev, ↓evW, ↓evQ, evB, evS, evL, List.map, AV.cells, List.all, AV.one, Bool.and_true, Bool.true_and, OK_if, WI_true, WI_false, ↓WI_true, ↓WI_false, if_true, ↓thenQ_normal, ↓thenQ_exit, ↓thenQ_ret, ↓blockQ_normal, ↓blockQ_ret, ↓blockQ_exit, CW_bool, RQ_some, tupA_one, tupA_two, tupA_nil, Nat.reduceSub, Nat.reduceAdd, Nat.reduceMul, Nat.zero_add, Nat.add_zero, Nat.reduceLeDiff, Nat.reduceEqDiff, loadN, storeN, getC, eqV, eqAll, splice, fillA, and_self, and_true, true_and, Nat.le_refl, Bool.not_true, Bool.not_false, Bool.false_xor, Bool.true_xor, cond_true, cond_false, List.replicate, if_false, reduceIte, resAll, resA, ne_eq, decide_not, decide_true, decide_false, Int.reduceEq, Bool.not_true, Bool.not_false, not_true_eq_false, not_false_eq_true, cond_bool, cond_int, beq_self_eq_true, Int.reduceBEq, Bool.and_self, Bool.and_false, Bool.false_and, Bool.xor_false, Bool.xor_true, h1']
          injection h
    obtain ⟨r, m, h1, rfl⟩ := this
    exact ⟨m, h1⟩
  · cases h

theorem poll_arg {args : List AV} {v : AV} (h : pollG args = some v) : AV.renL no args = some args ∧ AV.ren no v = some v := by
  unfold pollG at h; split at h
  · refine ⟨rfl, ?_⟩
    split at h
    · split at h
      · cases h
      · injection h with h; rw [← h]; rfl
    · injection h with h; rw [← h]; rfl
  · cases h

theorem poll_lift (G : List (Nat × AFun X)) : Lift (amFunc G slice_Poll) (pureF pollG) := lift_pure fun args v h => ⟨(poll_arg h).1, (poll_arg h).2, poll_run G _ (.inl rfl) h⟩
theorem refpoll_lift (G : List (Nat × AFun X)) : Lift (amFunc G ref18_Poll) (pureF pollG) := lift_pure fun args v h => ⟨(poll_arg h).1, (poll_arg h).2, poll_run G _ (.inr rfl) h⟩

def seenG : List AV → Option AV
  | [.agg [.bool a, .int .u64 b, .int .i64 c, .bool d, .int .u64 e, .int .i64 f]] => some (.agg [.bool a, .int .u64 b, .int .i64 c, .bool d, .int .u64 e, .int .i64 f])
  | _ => none

theorem seen_lift (G : List (Nat × AFun X)) : Lift (amFunc G law18_seen) (pureF seenG) := lift_pure (by
  intro args r h
  unfold seenG at h; split at h
  · rename_i a b c d e f
    injection h with h; subst h
    have : Fn G law18_seen [.agg [.bool a, .int .u64 b, .int .i64 c, .bool d, .int .u64 e, .int .i64 f]] ([] : Mem X) (fun r _ => r = .agg [.bool a, .int .u64 b, .int .i64 c, .bool d, .int .u64 e, .int .i64 f]) := by
      refine Fn_of rfl ?_
      simp only [law18_seen, ev, ↓evW, ↓evQ, evB, evS, evL, List.map, AV.cells, List.all, AV.one, Bool.and_true, Bool.true_and, OK_if, WI_true, WI_false, ↓WI_true, ↓WI_false, if_true, ↓thenQ_normal, ↓thenQ_exit, ↓thenQ_ret, ↓blockQ_normal, ↓blockQ_ret, ↓blockQ_exit, CW_bool, RQ_some, tupA_one, tupA_two, tupA_nil, Nat.reduceSub, Nat.reduceAdd, Nat.reduceMul, Nat.zero_add, Nat.add_zero, Nat.reduceLeDiff, Nat.reduceEqDiff, loadN, storeN, getC, eqV, eqAll, splice, fillA, and_self, and_true, true_and, Nat.le_refl, Bool.not_true, Bool.not_false, Bool.false_xor, Bool.true_xor, cond_true, cond_false, List.replicate, if_false, reduceIte, resAll, resA, ne_eq, decide_not, decide_true, decide_false, Int.reduceEq, Bool.not_true, Bool.not_false, not_true_eq_false, not_false_eq_true, cond_bool, cond_int, beq_self_eq_true, Int.reduceBEq, Bool.and_self, Bool.and_false, Bool.false_and, Bool.xor_false, Bool.xor_true]
    obtain ⟨r, m, h1, rfl⟩ := this
    exact ⟨rfl, rfl, m, h1⟩
  · cases h)

/- Without a watch. -/
def zeroSeen : AV := .agg [.bool false, .int .u64 0, .int .i64 0, .bool false, .int .u64 0, .int .i64 0]
def nilThereG : List AV → Option AV
  | [.nilp, .int .i64 _] => some (.bool false)
  | _ => none
def nilSeenG : List AV → Option AV
  | [.nilp, .int .i64 _] => some zeroSeen
  | _ => none
def nilLenG : List AV → Option AV
  | [.nilp] => some (.int .i64 0)
  | _ => none
def nilCopyG : List AV → Option AV
  | [.nilp] => some .nilp
  | _ => none
def nilLookG : List AV → Option AV
  | [.nilp, .int .i64 _, .int .i64 _, .int .u64 _, .int .u64 _, .int .i64 _] => some (.tup [.int .i64 0, .int .i64 1])
  | _ => none

theorem nilThere_lift (G : List (Nat × AFun X)) : Lift (amFunc G slice_Watch_there) (pureF nilThereG) := lift_pure (by
  intro args r h
  unfold nilThereG at h; split at h
  · rename_i n
    injection h with h; subst h
    have : Fn G slice_Watch_there [.nilp, .int .i64 n] ([] : Mem X) (fun r _ => r = .bool false) := by
      refine Fn_of rfl ?_
      simp only [slice_Watch_there, ev, ↓evW, ↓evQ, evB, evS, evL, List.map, AV.cells, List.all, AV.one, Bool.and_true, Bool.true_and, OK_if, WI_true, WI_false, ↓WI_true, ↓WI_false, if_true, ↓thenQ_normal, ↓thenQ_exit, ↓thenQ_ret, ↓blockQ_normal, ↓blockQ_ret, ↓blockQ_exit, CW_bool, RQ_some, tupA_one, tupA_two, tupA_nil, Nat.reduceSub, Nat.reduceAdd, Nat.reduceMul, Nat.zero_add, Nat.add_zero, Nat.reduceLeDiff, Nat.reduceEqDiff, loadN, storeN, getC, eqV, eqAll, splice, fillA, and_self, and_true, true_and, Nat.le_refl, Bool.not_true, Bool.not_false, Bool.false_xor, Bool.true_xor, cond_true, cond_false, List.replicate, if_false, reduceIte, resAll, resA, ne_eq, decide_not, decide_true, decide_false, Int.reduceEq, Bool.not_true, Bool.not_false, not_true_eq_false, not_false_eq_true, cond_bool, cond_int, beq_self_eq_true, Int.reduceBEq, Bool.and_self, Bool.and_false, Bool.false_and, Bool.xor_false, Bool.xor_true]
    obtain ⟨r, m, h1, rfl⟩ := this
    exact ⟨rfl, rfl, m, h1⟩
  · cases h)
theorem nilSeen_lift (G : List (Nat × AFun X)) (h15 : assoc G 15 = some (pureF nilThereG)) : Lift (amFunc G slice_Watch_Seen) (pureF nilSeenG) := lift_pure (by
  intro args r h
  unfold nilSeenG at h; split at h
  · rename_i n
    injection h with h; subst h
    have : Fn G slice_Watch_Seen [.nilp, .int .i64 n] ([] : Mem X) (fun r _ => r = zeroSeen) := by
      refine Fn_of rfl ?_
      simp only [slice_Watch_Seen, ev, ↓evW, ↓evQ, evB, evS, evL, List.map, AV.cells, List.all, AV.one, Bool.and_true, Bool.true_and, OK_if, WI_true, WI_false, ↓WI_true, ↓WI_false, if_true, ↓thenQ_normal, ↓thenQ_exit, ↓thenQ_ret, ↓blockQ_normal, ↓blockQ_ret, ↓blockQ_exit, CW_bool, RQ_some, tupA_one, tupA_two, tupA_nil, Nat.reduceSub, Nat.reduceAdd, Nat.reduceMul, Nat.zero_add, Nat.add_zero, Nat.reduceLeDiff, Nat.reduceEqDiff, loadN, storeN, getC, eqV, eqAll, splice, fillA, and_self, and_true, true_and, Nat.le_refl, Bool.not_true, Bool.not_false, Bool.false_xor, Bool.true_xor, cond_true, cond_false, List.replicate, if_false, reduceIte, resAll, resA, ne_eq, decide_not, decide_true, decide_false, Int.reduceEq, Bool.not_true, Bool.not_false, not_true_eq_false, not_false_eq_true, cond_bool, cond_int, beq_self_eq_true, Int.reduceBEq, Bool.and_self, Bool.and_false, Bool.false_and, Bool.xor_false, Bool.xor_true, h15, pureF, nilThereG, zeroSeen]
    obtain ⟨r, m, h1, rfl⟩ := this
    exact ⟨rfl, rfl, m, h1⟩
  · cases h)
theorem nilLen_lift (G : List (Nat × AFun X)) : Lift (amFunc G slice_Watch_Len) (pureF nilLenG) := lift_pure (by
  intro args r h
  unfold nilLenG at h; split at h
  · injection h with h; subst h
    have : Fn G slice_Watch_Len [.nilp] ([] : Mem X) (fun r _ => r = .int .i64 0) := by
      refine Fn_of rfl ?_
      simp only [slice_Watch_Len, ev, ↓evW, ↓evQ, evB, evS, evL, List.map, AV.cells, List.all, AV.one, Bool.and_true, Bool.true_and, OK_if, WI_true, WI_false, ↓WI_true, ↓WI_false, if_true, ↓thenQ_normal, ↓thenQ_exit, ↓thenQ_ret, ↓blockQ_normal, ↓blockQ_ret, ↓blockQ_exit, CW_bool, RQ_some, tupA_one, tupA_two, tupA_nil, Nat.reduceSub, Nat.reduceAdd, Nat.reduceMul, Nat.zero_add, Nat.add_zero, Nat.reduceLeDiff, Nat.reduceEqDiff, loadN, storeN, getC, eqV, eqAll, splice, fillA, and_self, and_true, true_and, Nat.le_refl, Bool.not_true, Bool.not_false, Bool.false_xor, Bool.true_xor, cond_true, cond_false, List.replicate, if_false, reduceIte, resAll, resA, ne_eq, decide_not, decide_true, decide_false, Int.reduceEq, Bool.not_true, Bool.not_false, not_true_eq_false, not_false_eq_true, cond_bool, cond_int, beq_self_eq_true, Int.reduceBEq, Bool.and_self, Bool.and_false, Bool.false_and, Bool.xor_false, Bool.xor_true]
    obtain ⟨r, m, h1, rfl⟩ := this
    exact ⟨rfl, rfl, m, h1⟩
  · cases h)
theorem nilCopy_lift (G : List (Nat × AFun X)) : Lift (amFunc G slice_Watch_Copy) (pureF nilCopyG) := lift_pure (by
  intro args r h
  unfold nilCopyG at h; split at h
  · injection h with h; subst h
    have : Fn G slice_Watch_Copy [.nilp] ([] : Mem X) (fun r _ => r = .nilp) := by
      refine Fn_of rfl ?_
      simp only [slice_Watch_Copy, ev, ↓evW, ↓evQ, evB, evS, evL, List.map, AV.cells, List.all, AV.one, Bool.and_true, Bool.true_and, OK_if, WI_true, WI_false, ↓WI_true, ↓WI_false, if_true, ↓thenQ_normal, ↓thenQ_exit, ↓thenQ_ret, ↓blockQ_normal, ↓blockQ_ret, ↓blockQ_exit, CW_bool, RQ_some, tupA_one, tupA_two, tupA_nil, Nat.reduceSub, Nat.reduceAdd, Nat.reduceMul, Nat.zero_add, Nat.add_zero, Nat.reduceLeDiff, Nat.reduceEqDiff, loadN, storeN, getC, eqV, eqAll, splice, fillA, and_self, and_true, true_and, Nat.le_refl, Bool.not_true, Bool.not_false, Bool.false_xor, Bool.true_xor, cond_true, cond_false, List.replicate, if_false, reduceIte, resAll, resA, ne_eq, decide_not, decide_true, decide_false, Int.reduceEq, Bool.not_true, Bool.not_false, not_true_eq_false, not_false_eq_true, cond_bool, cond_int, beq_self_eq_true, Int.reduceBEq, Bool.and_self, Bool.and_false, Bool.false_and, Bool.xor_false, Bool.xor_true]
    obtain ⟨r, m, h1, rfl⟩ := this
    exact ⟨rfl, rfl, m, h1⟩
  · cases h)
theorem nilLook_lift (G : List (Nat × AFun X)) : Lift (amFunc G slice_Watch_Look) (pureF nilLookG) := lift_pure (by
  intro args r h
  unfold nilLookG at h; split at h
  · rename_i p q t s n
    injection h with h; subst h
    have : Fn G slice_Watch_Look [.nilp, .int .i64 p, .int .i64 q, .int .u64 t, .int .u64 s, .int .i64 n] ([] : Mem X) (fun r _ => r = .tup [.int .i64 0, .int .i64 1]) := by
      refine Fn_of rfl ?_
      simp only [slice_Watch_Look, ev, ↓evW, ↓evQ, evB, evS, evL, List.map, AV.cells, List.all, AV.one, Bool.and_true, Bool.true_and, OK_if, WI_true, WI_false, ↓WI_true, ↓WI_false, if_true, ↓thenQ_normal, ↓thenQ_exit, ↓thenQ_ret, ↓blockQ_normal, ↓blockQ_ret, ↓blockQ_exit, CW_bool, RQ_some, tupA_one, tupA_two, tupA_nil, Nat.reduceSub, Nat.reduceAdd, Nat.reduceMul, Nat.zero_add, Nat.add_zero, Nat.reduceLeDiff, Nat.reduceEqDiff, loadN, storeN, getC, eqV, eqAll, splice, fillA, and_self, and_true, true_and, Nat.le_refl, Bool.not_true, Bool.not_false, Bool.false_xor, Bool.true_xor, cond_true, cond_false, List.replicate, if_false, reduceIte, resAll, resA, ne_eq, decide_not, decide_true, decide_false, Int.reduceEq, Bool.not_true, Bool.not_false, not_true_eq_false, not_false_eq_true, cond_bool, cond_int, beq_self_eq_true, Int.reduceBEq, Bool.and_self, Bool.and_false, Bool.false_and, Bool.xor_false, Bool.xor_true]
    obtain ⟨r, m, h1, rfl⟩ := this
    exact ⟨rfl, rfl, m, h1⟩
  · cases h)

/- The law's own probe. -/
def worksG : List AV → Option AV
  | [] => some (.bool true)
  | _ => none
def Gworks : List (Nat × AFun X) := [(1, pureF lookG), (12, pureF pollG)]
theorem works_run : (amFunc (Gworks (X := X)) law18_works [] []).map (·.1) = some (.bool true) := by kernel_rfl
theorem works_lift : Lift (amFunc (Gworks (X := X)) law18_works) (pureF worksG) := lift_pure (by
  intro args r h
  unfold worksG at h; split at h
  · injection h with h; subst h
    have := works_run (X := X)
    cases h1 : amFunc (Gworks (X := X)) law18_works [] [] with
    | none => rw [h1] at this; cases this
    | some x =>
      rw [h1] at this
      simp only [Option.map_some, Option.some.injEq] at this
      exact ⟨rfl, rfl, x.2, by rw [← this]⟩
  · cases h)

def Gnone : List (Nat × AFun X) := [(0, pureF worksG), (4, pureF nilLookG), (5, pureF nilSeenG), (6, pureF nilLenG), (7, pureF nilCopyG)]
def sliceNoneG : List AV → Option AV
  | [.agg [.int .i64 _, .int .i64 _, .int .u64 _, .int .u64 _, .int .i64 _]] => some (.bool true)
  | _ => none
theorem sliceNone_run (G : List (Nat × AFun X)) (h0 : assoc G 0 = some (pureF worksG)) (h4 : assoc G 4 = some (pureF nilLookG)) (h5 : assoc G 5 = some (pureF nilSeenG)) (h6 : assoc G 6 = some (pureF nilLenG)) (h7 : assoc G 7 = some (pureF nilCopyG))
    (p q t s n : Int) : Fn G law18_SliceNone [.agg [.int .i64 p, .int .i64 q, .int .u64 t, .int .u64 s, .int .i64 n]] ([] : Mem X) (fun r _ => r = .bool true) := by
  refine Fn_of rfl ?_
  simp only [law18_SliceNone]
  simp only [ev, ↓evW, ↓evQ, evB, evS, evL, List.map, AV.cells, List.all, AV.one, Bool.and_true, Bool.true_and, OK_if, WI_true, WI_false, ↓WI_true, ↓WI_false, if_true, ↓thenQ_normal, ↓thenQ_exit, ↓thenQ_ret, ↓blockQ_normal, ↓blockQ_ret, ↓blockQ_exit, CW_bool, RQ_some, tupA_one, tupA_two, tupA_nil, Nat.reduceSub, Nat.reduceAdd, Nat.reduceMul, Nat.zero_add, Nat.add_zero, Nat.reduceLeDiff, Nat.reduceEqDiff, loadN, storeN, getC, eqV, eqAll, splice, fillA, and_self, and_true, true_and, Nat.le_refl, Bool.not_true, Bool.not_false, Bool.false_xor, Bool.true_xor, cond_true, cond_false, List.replicate, if_false, reduceIte, resAll, resA, ne_eq, decide_not, decide_true, decide_false, Int.reduceEq, Bool.not_true, Bool.not_false, not_true_eq_false, not_false_eq_true, cond_bool, cond_int, beq_self_eq_true, Int.reduceBEq, Bool.and_self, Bool.and_false, Bool.false_and, Bool.xor_false, Bool.xor_true, h0, h4, h5, h6, h7, pureF, nilLookG, nilSeenG, nilLenG, nilCopyG, worksG, zeroSeen]
theorem sliceNone_lift : Lift (amFunc (Gnone (X := X)) law18_SliceNone) (pureF sliceNoneG) := lift_pure (by
  intro args r h
  unfold sliceNoneG at h; split at h
  · injection h with h; subst h
    obtain ⟨r, m, h1, rfl⟩ := sliceNone_run (X := X) Gnone rfl rfl rfl rfl rfl _ _ _ _ _
    exact ⟨rfl, rfl, m, h1⟩
  · cases h)
end Go.Am.F18
