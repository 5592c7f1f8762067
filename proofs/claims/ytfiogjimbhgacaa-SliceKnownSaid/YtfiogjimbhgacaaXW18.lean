/- SliceLooks; SliceKnown. -/
import Derived.Test.YtfiogjimbhgacaaXV18
set_option linter.unusedSimpArgs false
set_option linter.unusedVariables false
namespace Go.Am.F18
variable {X : Type}

def Glooks : List (Nat × AFun X) := [(0, pureF worksG), (1, pureF lookG), (16, pureF seenG), (12, pureF pollG), (17, pureF lookG), (18, pureF pollG)]

set_option maxHeartbeats 2000000 in
theorem looks_run (s : Seen) (g : Gl5) (t : Int) (ht : t < 9223372036854775808) : Fn (Glooks (X := X)) law18_SliceLooks [.agg (seenCells s), .agg (gC g), .int .i64 t] [] (fun r _ => r = .bool true) := by
  have a0 : assoc (Glooks (X := X)) 0 = some (pureF worksG) := rfl
  have a1 : assoc (Glooks (X := X)) 1 = some (pureF lookG) := rfl
  have a16 : assoc (Glooks (X := X)) 16 = some (pureF seenG) := rfl
  have a12 : assoc (Glooks (X := X)) 12 = some (pureF pollG) := rfl
  have a17 : assoc (Glooks (X := X)) 17 = some (pureF lookG) := rfl
  have a18 : assoc (Glooks (X := X)) 18 = some (pureF pollG) := rfl
  generalize Glooks (X := X) = G at a0 a1 a16 a12 a17 a18 ⊢
  obtain ⟨b, hb⟩ : ∃ b, pollG [.int .u64 g.tick, .int .i64 t] = some (.bool b) := by
    simp only [pollG]
    by_cases h1 : t > 0
    · rw [if_pos h1, if_neg (by rw [wrapU (by omega) (by omega)]; omega)]; exact ⟨_, rfl⟩
    · rw [if_neg h1]; exact ⟨_, rfl⟩
  obtain ⟨s', n, hl⟩ : ∃ s' n, look s g.stat g.tick g.sys g.now = (s', n) := ⟨_, _, rfl⟩
  have hl' : look ⟨s.is, s.tick, s.tickAt, s.call, s.sys, s.sysAt⟩ g.stat g.tick g.sys g.now = (s', n) := hl
  refine Fn_of rfl ?_
  have hlk : lookG [.agg [.bool s.is, .int .u64 s.tick, .int .i64 s.tickAt, .bool s.call, .int .u64 s.sys, .int .i64 s.sysAt], .int .i64 g.stat, .int .u64 g.tick, .int .u64 g.sys, .int .i64 g.now] =
      some (.tup [.agg [.bool s'.is, .int .u64 s'.tick, .int .i64 s'.tickAt, .bool s'.call, .int .u64 s'.sys, .int .i64 s'.sysAt], .int .i64 n]) := by
    simp only [lookG, hl', Seen.av]
  simp (disch := first | assumption | omega | (simp only [List.length_cons, List.length_nil, List.length_set, List.length_append] <;> omega) | (simp only [get_mid, get_mid0, List.cons_append, List.append_assoc, List.getElem?_cons_zero, List.getElem?_cons_succ])) only [law18_SliceLooks, ek, ↓evW, ↓evQ, evB, evS, evL, List.map, AV.cells, List.all, AV.one, Bool.and_true, Bool.true_and, if_true, ↓thenQ_normal, ↓thenQ_exit, ↓thenQ_ret, ↓blockQ_normal, ↓blockQ_ret, ↓blockQ_exit, ↓CW_true, ↓CW_false, CW_true, CW_false, condT, condF, RQ_some, tupA_one, tupA_two, tupA_nil, Nat.reduceSub, Nat.reduceAdd, Nat.reduceMul, Nat.zero_add, Nat.add_zero, Nat.reduceLeDiff, Nat.reduceEqDiff, eqV, eqAll, fillA, and_self, and_true, true_and, Nat.le_refl, Bool.not_true, Bool.not_false, Bool.false_xor, Bool.true_xor, cond_true, cond_false, List.replicate, if_false, reduceIte, resAll, resA, ne_eq, decide_not, decide_true, decide_false, Int.reduceEq, Bool.not_true, Bool.not_false, not_true_eq_false, not_false_eq_true, cond_bool, cond_int, beq_self_eq_true, Int.reduceBEq, Bool.and_self, Bool.and_false, Bool.false_and, Bool.xor_false, Bool.xor_true, loadN_ldC, ldC_none, ldC_somes, stC_aggs, splice, storeN_stC, stC_int, stC_bool, stC_ptr, stC_nilp, stC_sl, stC_nils, getC_gcO, gcO_cells, W_draw_eq, evT, evF, evX, evM, ↓exitQ_normal, ↓exitQ_ret, ↓exitQ_exit, saA_self, saO_self, if_pos, wrapI, get_concat, set_concat, Int.toNat_natCast, Int.toNat_zero, List.nil_append, Nat.mul_one, decide_eq_true, decide_eq_false, Int.reduceLE, Int.reduceLT, Int.reduceNeg, Bool.false_or, Bool.true_or, Bool.or_false, Bool.or_true, wrapU, Int.reduceAdd, Int.reduceSub, Int.reduceMul, seenCells, gC, a0, a1, a16, a12, a17, a18, pureF, hlk, seenG, hb, worksG]

def looksG : List AV → Option AV
  | [.agg [.bool _, .int .u64 _, .int .i64 _, .bool _, .int .u64 _, .int .i64 _], .agg [.int .i64 _, .int .i64 _, .int .u64 _, .int .u64 _, .int .i64 _], .int .i64 t] => if t < 9223372036854775808 then some (.bool true) else none
  | _ => none
theorem looks_lift : Lift (amFunc (Glooks (X := X)) law18_SliceLooks) (pureF looksG) := lift_pure (by
  intro args r h
  unfold looksG at h; split at h
  · rename_i a b c d e f p q u v w t
    split at h
    · rename_i ht
      injection h with h; subst h
      obtain ⟨r, m, h1, rfl⟩ := looks_run (X := X) ⟨a, b, c, d, e, f⟩ ⟨p, q, u, v, w⟩ t ht
      exact ⟨rfl, rfl, m, h1⟩
    · cases h
  · cases h)

theorem reflook_lift (G : List (Nat × AFun X)) (h20 : assoc G 20 = some (pureF oldG)) : Lift (amFunc G ref18_Look) (pureF lookG) := lift_pure (by
  intro args r h
  unfold lookG at h; split at h
  · injection h with h; subst h
    obtain ⟨r, m, h1, rfl⟩ := reflook_run G h20 _ _ _ _ _ _ _ _ _ _
    exact ⟨rfl, rfl, m, h1⟩
  · cases h)
end Go.Am.F18
