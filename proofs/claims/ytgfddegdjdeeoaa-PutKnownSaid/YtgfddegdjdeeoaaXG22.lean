import Derived.Test.YtgfddegdjdeeoaaXG21
set_option linter.unusedSimpArgs false
set_option linter.unusedVariables false
section
namespace Go.Am.F09
open Go.Am.F06 Go.Am.F10
def knA : AC := sqN 0 law09_PutKnown.body
def knA1 : AC := sqN 1 law09_PutKnown.body
def knY0 : AC := sqN 0 knX
def knY1 : AC := sqN 1 knX
def knY2 : AC := sqN 2 knX
def knY3 : AC := sqN 3 knX
def knY4 : AC := sqN 4 knX
theorem known_body2 : law09_PutKnown = { nloc := 13, npar := 0, res := [.loc 0], body := .seq knA (.seq knA1 (.seq (.seq (.region [⟨.mov, [.c (.int .i64 0)], some 2, none⟩]) (.block 0 (.loop (.seq knC (.seq (.block 1 (.seq knY0 (.seq knY1 (.seq knY2 (.seq knY3 (.seq knY4 (.seq knL (.seq knS knR)))))))) knI))))) knE)) } := rfl
theorem knY_run {m : MM} {n : Nat} {kk : Int} {z3 z4 z5 z6 z7 z8 z9 z10 z11 z12 : AV} {Q : AX → List AV → MM → Prop} {R : AC}
    (h : ∀ (c : Cf) (m' : MM) (cb : Nat), (1 ≤ c.n ∧ c.n ≤ 8) → (0 ≤ c.q ∧ c.q ≤ 64) → m'[cb]? = some (.cells 6 false (cfC c)) → W Gkn R Q [.bool false, .int .i64 kk, .int .i64 n, .nils, .nils, .nils, .nils, .ptr cb 0, z8, z9, z10, z11, z12] m') :
    W Gkn (.seq knY0 (.seq knY1 (.seq knY2 (.seq knY3 (.seq knY4 R))))) Q [.bool false, .int .i64 kk, .int .i64 n, z3, z4, z5, z6, z7, z8, z9, z10, z11, z12] m := by
  have a133 : assoc Gkn 133 = some F10.c_docs_Made := rfl
  generalize Gkn = G at a133 h ⊢
  have fmade := fun m : MM => made_eq m ⟨n, IntKind.i64.wrap ((n : Int).tdiv 3), 5, IntKind.i64.wrap ((n : Int).tdiv 5), 3, 0⟩
  have hri := made_right ⟨n, IntKind.i64.wrap ((n : Int).tdiv 3), 5, IntKind.i64.wrap ((n : Int).tdiv 5), 3, 0⟩
  generalize madeC ⟨n, IntKind.i64.wrap ((n : Int).tdiv 3), 5, IntKind.i64.wrap ((n : Int).tdiv 5), 3, 0⟩ = c at fmade hri
  have hh := fun m' cb => h c m' cb
  clear h
  simp only [cfC] at fmade hh
  simp (disch := first | assumption | omega | (simp only [zl] <;> omega) | (simp only [zn])) only [knY0, knY1, knY2, knY3, knY4, knX, knB, sqN, law09_PutKnown, ↓zd, zk, Nat.reduceSub, Nat.reduceAdd, Nat.reduceMul, Nat.reduceLeDiff, Nat.reduceEqDiff, reduceIte, Int.reduceEq, Int.reduceBEq, Int.reduceLE, Int.reduceLT, Int.reduceNeg, Int.reduceAdd, Int.reduceSub, Int.reduceMul, List.map, AV.cells, List.all, AV.one, eqV, eqAll, splice, fillA, List.replicate, resAll, resA, zm, zg, a133, fmade]
  unfold rightP roomP at hri
  refine hh _ _ ⟨by omega, by omega⟩ ⟨by omega, by omega⟩ ?_
  exact get_mid
def KnI9 (k : Nat) (e : List AV) : Prop := ∃ (n : Nat) (kk : Int) (y3 y4 y5 y6 y7 y8 y9 y10 y11 y12 : AV), e = [.bool false, .int .i64 kk, .int .i64 n, y3, y4, y5, y6, y7, y8, y9, y10, y11, y12] ∧ k = 60 - n ∧ n ≤ 60 ∧ 0 ≤ kk ∧ kk < 100003
theorem known_run {m0 : MM} : Fn Gkn law09_PutKnown [] m0 (fun r _ => r = .bool true) := by
  refine Fn_of rfl ?_
  rw [known_body2]
  simp only [List.nil_append]
  have a184 : assoc Gkn 184 = some (pureF worksG) := rfl
  have a194 : assoc Gkn 194 = some (amFunc Gpy law09_PutPlays) := rfl
  have a203 : assoc Gkn 203 = some (amFunc Gly law09_PutLayPlays) := rfl
  simp (disch := first | assumption | omega | (simp only [zl] <;> omega) | (simp only [zn])) only [knA, knA1, sqN, law09_PutKnown, ↓zd, zk, Nat.reduceSub, Nat.reduceAdd, Nat.reduceMul, Nat.reduceLeDiff, Nat.reduceEqDiff, reduceIte, Int.reduceEq, Int.reduceBEq, Int.reduceLE, Int.reduceLT, Int.reduceNeg, Int.reduceAdd, Int.reduceSub, Int.reduceMul, List.map, AV.cells, List.all, AV.one, eqV, eqAll, splice, fillA, List.replicate, resAll, resA, zm, zg]
  refine W_loop (fun k e _ => KnI9 k e) 60 (by simp only [FUEL]; omega) ⟨0, 1, _, _, _, _, _, _, _, _, _, _, rfl, rfl, by omega, by omega, by omega⟩ ?_
  rintro k e mm ⟨n, kk, y3, y4, y5, y6, y7, y8, y9, y10, y11, y12, rfl, rfl, hn, hk0, hk1⟩
  rcases Nat.lt_or_ge n 60 with hn6 | hn6
  · simp (disch := first | assumption | omega | (simp only [zl] <;> omega) | (simp only [zn])) only [knC, knB, sqN, law09_PutKnown, ↓zd, zk, Nat.reduceSub, Nat.reduceAdd, Nat.reduceMul, Nat.reduceLeDiff, Nat.reduceEqDiff, reduceIte, Int.reduceEq, Int.reduceBEq, Int.reduceLE, Int.reduceLT, Int.reduceNeg, Int.reduceAdd, Int.reduceSub, Int.reduceMul, List.map, AV.cells, List.all, AV.one, eqV, eqAll, splice, fillA, List.replicate, resAll, resA, zm, zg]
    rw [← (evW Gkn).2.1]
    refine knY_run fun c m1 cb hc hq gc => ?_
    refine W_seq (W_mono (knL_run hc hq hk0 hk1 gc) ?_)
    rintro _ e m2 ⟨rfl, kk2, bs, ls, ts, ps, b, l, y, t, qb, ql, qy, qt, ⟨z9, z10, z11, z12, rfl, hk20, hk21, gc2⟩, h3⟩
    refine W_seq (W_mono (knS_run gc2 h3) ?_)
    rintro _ e m3 ⟨rfl, ⟨w9, w10, w11, w12, rfl⟩, gc3, bs', h4⟩
    refine W_mono (knR_run hn6 gc3 h4) ?_
    rintro _ e m4 ⟨rfl, u3, u4, u5, u6, u7, u8, u9, u10, u11, u12, rfl⟩
    simp (disch := first | assumption | omega | (simp only [zl] <;> omega) | (simp only [zn])) only [knI, knB, sqN, law09_PutKnown, ↓zd, zk, Nat.reduceSub, Nat.reduceAdd, Nat.reduceMul, Nat.reduceLeDiff, Nat.reduceEqDiff, reduceIte, Int.reduceEq, Int.reduceBEq, Int.reduceLE, Int.reduceLT, Int.reduceNeg, Int.reduceAdd, Int.reduceSub, Int.reduceMul, List.map, AV.cells, List.all, AV.one, eqV, eqAll, splice, fillA, List.replicate, resAll, resA, zm, zg]
    exact ⟨60 - (n + 1), by omega, n + 1, kk2, _, _, _, _, _, _, _, _, _, _, rfl, rfl, by omega, hk20, hk21⟩
  · have t3 : Int.toNat 3 = 3 := rfl
    have hl1 : repeatL 1 [AV.int .i64 0] = [AV.int .i64 0] := rfl
    simp (disch := first | assumption | omega | (simp only [zl] <;> omega) | (simp only [zn])) only [knC, knE, knB, sqN, sqT, law09_PutKnown, ↓zd, zk, Nat.reduceSub, Nat.reduceAdd, Nat.reduceMul, Nat.reduceLeDiff, Nat.reduceEqDiff, reduceIte, Int.reduceEq, Int.reduceBEq, Int.reduceLE, Int.reduceLT, Int.reduceNeg, Int.reduceAdd, Int.reduceSub, Int.reduceMul, List.map, AV.cells, List.all, AV.one, eqV, eqAll, splice, fillA, List.replicate, resAll, resA, zm, zg, evC, t3, fillA, a194]
    have hz := fun (M : MM) (n : Nat) => (get_concat : (M ++ [Chunk.cells 3 false (repeatL n [.bool false, .int .i64 0, .int .u64 0])])[M.length]? = _)
    have h1 := pplays_run (m0 := mm ++ [Chunk.cells 3 false (repeatL 3 [.bool false, .int .i64 0, .int .u64 0])]) (c := ⟨0, 0, 0, 0, 0, 0⟩) (p := 0) (g := 1) (bs := []) (bv := .nils) Sl.nil (fun x h => by cases h) (spk_rep (hz mm 3)) (rep_w64 3)
    simp only [cfC] at h1
    refine OK_fn h1 ?_
    rintro _ m1 ⟨rfl, _⟩
    simp (disch := first | assumption | omega | (simp only [zl] <;> omega) | (simp only [zn])) only [↓zd, zk, Nat.reduceSub, Nat.reduceAdd, Nat.reduceMul, Nat.reduceLeDiff, Nat.reduceEqDiff, reduceIte, Int.reduceEq, Int.reduceBEq, Int.reduceLE, Int.reduceLT, Int.reduceNeg, Int.reduceAdd, Int.reduceSub, Int.reduceMul, List.map, AV.cells, List.all, AV.one, eqV, eqAll, splice, fillA, List.replicate, resAll, resA, zm, zg, evA, evC, t3, fillA, hl1, a203]
    have hsi : SI (m1 ++ [Chunk.cells 1 false [.int .i64 1], Chunk.cells 3 false (repeatL 3 [.bool false, .int .i64 0, .int .u64 0])]) false [1] (.sl m1.length 0 1 (some 1)) := ⟨rfl, .inr ⟨_, _, _, rfl, fun _ => ⟨false, _, get_mid0, rfl, by simp, fun h => by cases h⟩⟩⟩
    have hz2 : (m1 ++ [Chunk.cells 1 false [.int .i64 1], Chunk.cells 3 false (repeatL 3 [.bool false, .int .i64 0, .int .u64 0])])[m1.length + 1]? = some (Chunk.cells 3 false (repeatL 3 [.bool false, .int .i64 0, .int .u64 0])) := get_mid
    have h2 := lplays_run (c := ⟨0, 0, 0, 0, 0, 0⟩) (p := 0) (bs := []) (bv := .nils) hsi Sl.nil (fun x h => by cases h) (spk_rep hz2) (rep_w64 3)
    simp only [cfC] at h2
    refine OK_fn h2 ?_
    rintro _ m2 ⟨rfl, _⟩
    simp (disch := first | assumption | omega | (simp only [zl] <;> omega) | (simp only [zn])) only [↓zd, zk, Nat.reduceSub, Nat.reduceAdd, Nat.reduceMul, Nat.reduceLeDiff, Nat.reduceEqDiff, reduceIte, Int.reduceEq, Int.reduceBEq, Int.reduceLE, Int.reduceLT, Int.reduceNeg, Int.reduceAdd, Int.reduceSub, Int.reduceMul, List.map, AV.cells, List.all, AV.one, eqV, eqAll, splice, fillA, List.replicate, resAll, resA, zm, zg, a184, pureF, worksG]
end Go.Am.F09
end
