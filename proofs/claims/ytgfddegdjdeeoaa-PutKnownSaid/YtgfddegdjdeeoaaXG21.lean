import Derived.Test.YtgfddegdjdeeoaaXG20
set_option linter.unusedSimpArgs false
set_option linter.unusedVariables false
section
namespace Go.Am.F09
open Go.Am.F06 Go.Am.F10
theorem rlC_len (c : Cf) (p : Int) (s : LS) (lv : AV) : (rlC c p s lv).length = 12 := rfl
theorem rlC_take (c : Cf) (p : Int) (s : LS) (lv : AV) : (rlC c p s lv).take 12 = rlC c p s lv := rfl
theorem rlC_all (c : Cf) (p : Int) (s : LS) {lv : AV} (h : lv.one = true) : (rlC c p s lv).all AV.one = true := by
  rw [List.all_eq_true]
  intro x hx
  simp only [rlC, cfC, List.cons_append, List.nil_append, List.mem_cons, List.not_mem_nil, or_false] at hx
  rcases hx with rfl | rfl | rfl | rfl | rfl | rfl | rfl | rfl | rfl | rfl | rfl | rfl <;> first | rfl | assumption
theorem rlC_a (c : Cf) (p : Int) (s : LS) (lv : AV) : (rlC c p s lv)[8]? = some (.int .i64 s.a) := rfl
theorem rlC_drop (c : Cf) (p : Int) (s : LS) (lv : AV) : (rlC c p s lv).drop 12 = [] := rfl
def LyI (m0 : MM) (c0 c c' : Cf) (p0 p p' : Int) (qv bv : AV) (cb j rb : Nat) (ow : AV) (xj yb : Nat) (ps : List Pk) (lv : AV) (k : Nat) (e : List AV) (m : MM) : Prop := ∃ (i : Nat) (s : LS) (xs : List Int) (o : Int) (lx ly v : AV) (z12 z14 z15 z16 z17 z18 z19 z20 z21 z22 z23 z24 z25 z26 z27 z28 : AV),
  e = [.agg (cfC c0), .int .i64 p0, qv, bv, lv, .ptr cb 0, .bool false, .ptr j 0, .ptr rb 0, ow, .ptr xj 0, .ptr yb 0, z12, .int .i64 i, z14, z15, z16, z17, z18, z19, z20, z21, z22, z23, z24, z25, z26, z27, z28] ∧ k = ps.length + 1 - i ∧ i ≤ ps.length ∧ 0 ≤ o ∧ o ≤ 700 + 2 * i ∧ LyS m0 c c' p p' j rb xj yb ps lv s xs o lx ly v m
theorem stepL_ok {c : Cf} {p : Int} {s : LS} {xs : List Int} (h : OkL c xs) (hw : s.a = 0 ∨ W64 s.w) : OkL c (stepL c p xs s).2 := by
  unfold stepL
  split
  · exact h
  rename_i h0
  have hw := hw.resolve_left h0
  split
  · exact h
  split
  · exact h
  split
  · exact h.set _ (wrap64_b _)
  split
  · exact h.set _ (grow_64 hw _)
  · exact h
set_option maxHeartbeats 16000000 in
theorem lbody_run {m0 m : MM} {c c' : Cf} {p p' o : Int} {qv bv lv ow lx ly v : AV} {cb j rb xj yb i : Nat} {ps : List Pk} {s : LS} {xs : List Int} {z12 z14 z15 z16 z17 z18 z19 z20 z21 z22 z23 z24 z25 z26 z27 z28 : AV} (hlenl : lenA lv = some ps.length) (hv : ∀ x, x ∈ ps → W64 x.v) (hx0 : m0.length ≤ xj) (hr0 : m0.length ≤ rb) (hy0 : m0.length ≤ yb) (hj0 : m0.length ≤ j) (hi : i ≤ ps.length) (ho0 : 0 ≤ o) (ho1 : o ≤ 700 + 2 * i) (hn : ps.length ≤ 60) (hS : LyS m0 c c' p p' j rb xj yb ps lv s xs o lx ly v m) :
    W Gly (.seq lyC (.seq (.block 3 (.seq lyT lyU)) lyI)) (thenQ (blockQ 2 (thenQ (resQ [.loc 6] fun r m' => r = .bool true ∧ Keep m0 m') (W Gly lyE (resQ [.loc 6] fun r m' => r = .bool true ∧ Keep m0 m')))) fun e' m' => ∃ k, k < ps.length + 1 - i ∧ LyI m0 c c c' p p p' qv bv cb j rb ow xj yb ps lv k e' m') [.agg (cfC c), .int .i64 p, qv, bv, lv, .ptr cb 0, .bool false, .ptr j 0, .ptr rb 0, ow, .ptr xj 0, .ptr yb 0, z12, .int .i64 i, z14, z15, z16, z17, z18, z19, z20, z21, z22, z23, z24, z25, z26, z27, z28] m := by
  have a184 : assoc Gly 184 = some (pureF worksG) := rfl
  have a196 : assoc Gly 196 = some c_put_Lay_Done := rfl
  have a68 : assoc Gly 68 = some (amFunc F10.Gsmem F10.docs_SameMem) := rfl
  have a46 : assoc Gly 46 = some (memF fun s rest => (opsAsk s rest).map fun v => (v, s)) := rfl
  have a202 : assoc Gly 202 = some (amFunc Grl2 ref09_StepLay) := rfl
  have a195 : assoc Gly 195 = some (amFunc Glst put_Lay_Step) := rfl
  have a193 : assoc Gly 193 = some (amFunc Gpk law09_poked) := rfl
  have hrest : ∀ e m', Keep m m' → LtE c p qv bv lv cb j rb ow xj yb z12 i e → W Gly lyU (blockQ 3 (thenQ (thenQ (blockQ 2 (thenQ (resQ [.loc 6] fun r m' => r = .bool true ∧ Keep m0 m') (W Gly lyE (resQ [.loc 6] fun r m' => r = .bool true ∧ Keep m0 m')))) fun e' m' => ∃ k, k < ps.length + 1 - i ∧ LyI m0 c c c' p p p' qv bv cb j rb ow xj yb ps lv k e' m') (W Gly lyI (thenQ (blockQ 2 (thenQ (resQ [.loc 6] fun r m' => r = .bool true ∧ Keep m0 m') (W Gly lyE (resQ [.loc 6] fun r m' => r = .bool true ∧ Keep m0 m')))) fun e' m' => ∃ k, k < ps.length + 1 - i ∧ LyI m0 c c c' p p p' qv bv cb j rb ow xj yb ps lv k e' m')))) e m' := by
    rintro e m1 hk1 ⟨w14, w15, w16, w17, w18, w19, w20, w21, w22, w23, w24, w25, w26, w27, w28, rfl⟩
    have hS1 := hS.keep hk1
    have hcn := cellsN_le c
    obtain ⟨st, gj, hr⟩ := hS1.mem
    have hy1 := hS1.y
    have href := hS1.ref
    have hd := ldone_eq hS1.lm.get
    have honev := slOne hS1.su
    simp only [AV.one] at honev
    have hlx : xs.length ≤ 600 := by have := hS1.okL.1; omega
    simp only [memC] at href
    have hcc := hS1.cc
    have okc : LOk c' p' s := by
      rcases hcc with h0 | ⟨e1, e2⟩
      · exact ⟨hS1.ok.w, .inl h0, hS1.ok.l⟩
      · rw [e1, e2]; exact hS1.ok
    have hst : stepL c' p' xs s = stepL c p xs s := by
      rcases hcc with h0 | ⟨e1, e2⟩
      · rw [stepL, if_pos h0, stepL, if_pos h0]
      · rw [e1, e2]
    have hx' : s.a = 0 ∨ OkL c' xs := hcc.imp id (fun h => by rw [h.1]; exact hS1.okL)
    clear hS hk1
    have ha8 := rlC_a c' p' s ly
    have hone1 := slOne hS1.yl
    have hall := rlC_all c' p' s hone1
    have hlen := rlC_len c' p' s ly
    have htake := rlC_take c' p' s ly
    by_cases ha : s.a = 0
    all_goals first | (have hdd : decide (s.a = 0) = true := decide_eq_true ha) | (have hdd : decide (s.a = 0) = false := decide_eq_false ha)
    all_goals rw [hdd] at hd
    all_goals simp (disch := first | assumption | omega | (simp only [zl] <;> omega) | (simp only [zn])) only [lyU, sqT, lyX, lyB, sqN, law09_PutLayPlays, ↓zd, zk, Nat.reduceSub, Nat.reduceAdd, Nat.reduceMul, Nat.reduceLeDiff, Nat.reduceEqDiff, reduceIte, Int.reduceEq, Int.reduceBEq, Int.reduceLE, Int.reduceLT, Int.reduceNeg, Int.reduceAdd, Int.reduceSub, Int.reduceMul, List.map, AV.cells, List.all, AV.one, eqV, eqAll, splice, fillA, List.replicate, resAll, resA, zm, zg, a196, hd, hy1, ha8, hdd, href, honev, a68]
    all_goals refine OKT_fn (samemem_run gj hr hS1.su (by omega)) ?_
    all_goals rintro _ m2 ⟨rfl, k2⟩
    all_goals have hS2 := hS1.keep k2
    all_goals have hy2 := hS2.y
    all_goals have hr2 := hS2.ref
    all_goals simp only [memC] at hr2
    all_goals have gj2 := k2.get gj
    all_goals have f46 := ops_of gj2
    all_goals rw [hr.ops] at f46
    all_goals clear hS1 k2 gj href
    all_goals by_cases hie : i = ps.length
    all_goals try (simp (disch := first | assumption | omega | (simp only [zl] <;> omega) | (simp only [zn])) only [↓zd, zk, Nat.reduceSub, Nat.reduceAdd, Nat.reduceMul, Nat.reduceLeDiff, Nat.reduceEqDiff, reduceIte, Int.reduceEq, Int.reduceBEq, Int.reduceLE, Int.reduceLT, Int.reduceNeg, Int.reduceAdd, Int.reduceSub, Int.reduceMul, List.map, AV.cells, List.all, AV.one, eqV, eqAll, splice, fillA, List.replicate, resAll, resA, zm, zg, hy1, ha8, hdd, ev_len, hlenl, lyE, sqT, law09_PutLayPlays, a184, pureF, worksG]; exact hS2.k0)
    all_goals simp (disch := first | assumption | omega | (simp only [zl] <;> omega) | (simp only [zn])) only [↓zd, zk, Nat.reduceSub, Nat.reduceAdd, Nat.reduceMul, Nat.reduceLeDiff, Nat.reduceEqDiff, reduceIte, Int.reduceEq, Int.reduceBEq, Int.reduceLE, Int.reduceLT, Int.reduceNeg, Int.reduceAdd, Int.reduceSub, Int.reduceMul, List.map, AV.cells, List.all, AV.one, eqV, eqAll, splice, fillA, List.replicate, resAll, resA, zm, zg, hy1, ha8, hdd, ev_len, hlenl, a46, f46, hy2, hall, hlen, htake, hr2, honev, a202]
    all_goals (
      have hrs := rlstep_run (c := c') (p := p') (o := o) hS2.su hS2.yl hS2.yn okc hx'
      rw [hst] at hrs
      simp only [memC] at hrs
      refine OK_fn hrs ?_
      rintro _ m3 ⟨k3, ly2, v2, rfl, syl, syn, ssu⟩
      have hok3 := hS2.ok.step (.inr hS2.okL)
      have hokL3 := stepL_ok (p := p) (s := s) hS2.okL (.inr hS2.ok.w)
      have hop : o ≤ opsL s o ∧ opsL s o ≤ o + 1 := by unfold opsL; split <;> (try split) <;> (try rw [wrapU (by omega) (by omega)]) <;> omega
      have hcc3 : (stepL c p xs s).1.a = 0 ∨ (c' = c ∧ p' = p) := hcc.imp (fun h0 => by rw [stepL, if_pos h0]; exact h0) id
      have hB3 := hS2.b.keep k3
      have hy3 := k3.get hy2
      have hr3 := k3.get hr2
      have hne3 := hS2.ne
      obtain ⟨stx, hjx, hrx⟩ := hB3.mem
      have hstep := fun (m : MM) (hx : LM m xj c p s lx) (hj : m[j]? = some (.abs (.mem stx))) => lstep_run (o := o) hx hj hrx (.inr hS2.okL) hS2.ok
      clear hrs okc hx' hst hcc hS2
      generalize stepL c p xs s = sx at syl syn ssu hok3 hokL3 hcc3 hstep ⊢
      generalize opsL s o = o' at hop hstep ⊢
      obtain ⟨s', xs'⟩ := sx
      simp only at syl syn ssu hok3 hokL3 hcc3
      have ny : yb ≠ rb := fun hh => by rw [hh, hr3] at hy3; cases hy3
      have nx : rb ≠ xj := fun hh => by have h1 := hB3.lm.get; rw [← hh, hr3] at h1; cases h1
      have ly3 : yb < m3.length := (List.getElem?_eq_some_iff.1 hy3).1
      have lr3 : rb < m3.length := (List.getElem?_eq_some_iff.1 hr3).1
      have hone1' := slOne syl
      have hone' := slOne ssu
      simp only [AV.one] at hone'
      have hall' := rlC_all c' p' s' hone1'
      have hlen' := rlC_len c' p' s' ly2
      have htake' := rlC_take c' p' s' ly2
      have ha8' := rlC_a c' p' s' ly2
      have hput : ∀ {L : List AV}, L.length = 12 → splice L 0 (rlC c' p' s' ly2) = rlC c' p' s' ly2 := fun {L} hL => by
        simp only [splice, List.take_zero, List.nil_append, hlen', Nat.zero_add]
        rw [List.drop_eq_nil_of_le (by omega), List.append_nil]
      have n12 : ∀ sz, sz ≠ 12 → ∀ ro L, m3[yb]? ≠ some (.cells sz ro L) := fun sz hsz ro L hh => by rw [hy3] at hh; injection hh with hh; injection hh with hh; exact hsz hh.symm
      have n2 : ∀ sz, sz ≠ 2 → ∀ ro L, (m3.set yb (.cells 12 false (rlC c' p' s' ly2)))[rb]? ≠ some (.cells sz ro L) := fun sz hsz ro L hh => by rw [List.getElem?_set_ne ny, hr3] at hh; injection hh with hh; injection hh with hh; exact hsz hh.symm
      have hrow : ∀ {wr : Bool} {sz n : Nat} {l : List AV} {w : AV}, sz ≠ 12 → sz ≠ 2 → Sl m3 wr sz n l w → Sl ((m3.set yb (.cells 12 false (rlC c' p' s' ly2))).set rb (.cells 2 false [v2, .int .u64 o']) ++ [Chunk.cells 12 false (rlC c' p' s' ly2), Chunk.cells 2 false [v2, .int .u64 o']]) wr sz n l w := fun h12 h2 h =>
        Sl.keep ((Sl.put h (n12 _ h12) _).put (n2 _ h2) _) (Keep.app _ _)
      have G5 := hrow (by decide) (by decide) syl
      have G6 := hrow (by decide) (by decide) ssu
      have G7 := fun hp => (((syn hp).put (n12 1 (by decide)) (.cells 12 false (rlC c' p' s' ly2))).put (n2 1 (by decide)) (.cells 2 false [v2, .int .u64 o'])).keep (Keep.app _ [Chunk.cells 12 false (rlC c' p' s' ly2), Chunk.cells 2 false [v2, .int .u64 o']])
      have hB7 := ((hB3.setb hy3 (by decide) (by decide) (fun hh => hne3 hh.symm) (by omega) (.cells 12 false (rlC c' p' s' ly2))).setb (b := rb) (by rw [List.getElem?_set_ne ny]; exact hr3) (by decide) (by decide) nx (by omega) (.cells 2 false [v2, .int .u64 o'])).keep (Keep.app _ [Chunk.cells 12 false (rlC c' p' s' ly2), Chunk.cells 2 false [v2, .int .u64 o']])
      have G2 : ((m3.set yb (.cells 12 false (rlC c' p' s' ly2))).set rb (.cells 2 false [v2, .int .u64 o']) ++ [Chunk.cells 12 false (rlC c' p' s' ly2), Chunk.cells 2 false [v2, .int .u64 o']])[rb]? = some (.cells 2 false [v2, .int .u64 o']) := by
        rw [List.getElem?_append_left (by simp; omega), List.getElem?_set_self (by simp; omega)]
      have G3 : ((m3.set yb (.cells 12 false (rlC c' p' s' ly2))).set rb (.cells 2 false [v2, .int .u64 o']) ++ [Chunk.cells 12 false (rlC c' p' s' ly2), Chunk.cells 2 false [v2, .int .u64 o']])[yb]? = some (.cells 12 false (rlC c' p' s' ly2)) := by
        rw [List.getElem?_append_left (by simp; omega), List.getElem?_set_ne (fun h => ny h.symm), List.getElem?_set_self (by omega)]
      have Gj : ((m3.set yb (.cells 12 false (rlC c' p' s' ly2))).set rb (.cells 2 false [v2, .int .u64 o']) ++ [Chunk.cells 12 false (rlC c' p' s' ly2), Chunk.cells 2 false [v2, .int .u64 o']])[j]? = some (.abs (.mem stx)) := by
        have e2 : yb ≠ j := fun hh => by rw [hh, hjx] at hy3; cases hy3
        have e3 : rb ≠ j := fun hh => by rw [hh, hjx] at hr3; cases hr3
        rw [List.getElem?_append_left (by have := (List.getElem?_eq_some_iff.1 hjx).1; simpa using this), List.getElem?_set_ne e3, List.getElem?_set_ne e2]; exact hjx
      generalize hM7 : (m3.set yb (.cells 12 false (rlC c' p' s' ly2))).set rb (.cells 2 false [v2, .int .u64 o']) ++ [Chunk.cells 12 false (rlC c' p' s' ly2), Chunk.cells 2 false [v2, .int .u64 o']] = M7 at hB7 G2 G3 G5 G6 G7 Gj
      simp (disch := first | assumption | omega | (simp only [zl] <;> omega) | (simp only [zn])) only [↓zd, zk, Nat.reduceSub, Nat.reduceAdd, Nat.reduceMul, Nat.reduceLeDiff, Nat.reduceEqDiff, reduceIte, Int.reduceEq, Int.reduceBEq, Int.reduceLE, Int.reduceLT, Int.reduceNeg, Int.reduceAdd, Int.reduceSub, Int.reduceMul, List.map, AV.cells, List.all, AV.one, eqV, eqAll, splice, fillA, List.replicate, resAll, resA, zm, zg, memC, hone', hy3, hr3, hall', hlen', htake', hput, List.drop_zero, List.drop_succ_cons, List.drop_nil, List.append_nil, rlC_drop, a195]
      rw [hM7]
      refine OKT_fn (hstep _ hB7.lm Gj) ?_
      intro r8 m8 hP
      obtain ⟨rfl, lx8, hS8⟩ := LyB.step hB7 (by omega) (by omega) G3 G5 G7 hne3 G6 G2 hok3 hokL3 hcc3 hP
      obtain ⟨st8, gj8, r8⟩ := hS8.mem
      have hy8 := hS8.y
      have hr8 := hS8.ref
      have f46 := ops_of gj8
      rw [r8.ops] at f46
      have ho3 : IntKind.u64.wrap (o + 1) = o + 1 := wrapU (by omega) (by omega)
      have ho4 : ¬ (o + 1 < o') := by omega
      have hlt : i < ps.length := by omega
      obtain ⟨pk, hpk⟩ : ∃ pk, ps[i]? = some pk := ⟨_, List.getElem?_eq_getElem hlt⟩
      have hlx8 : xs'.length ≤ 600 := by have := hS8.okL.1; omega
      clear hP hM7 hB7 G2 G5 G6 G7 Gj hstep hjx hrx hB3 hy3 hr3 ly3 lr3 hrow hput syl syn ssu n12 n2
      obtain ⟨q, oo, cap, ro, L, rfl, c2, c3, c4, c5, c6, c7⟩ := spk_get hS8.ps hpk
      have hrow3 : (L.drop (oo + i * 3)).take 3 = pkC pk := by
        refine F10.pk_of (by rw [List.length_take, List.length_drop]; omega) ?_ ?_ ?_
        · rw [List.getElem?_take, if_pos (by omega), List.getElem?_drop]; exact c5
        · rw [List.getElem?_take, if_pos (by omega), List.getElem?_drop]; exact c6
        · rw [List.getElem?_take, if_pos (by omega), List.getElem?_drop]; exact c7
      have hpkl : (pkC pk).length = 3 := rfl
      have hpka : (pkC pk).all AV.one = true := rfl
      simp only [memC] at hr8
      obtain ⟨b3, hb3⟩ : ∃ b3, decide (s'.a = 0) = b3 := ⟨_, rfl⟩
      cases b3
      all_goals simp (disch := first | assumption | omega | (simp only [zl] <;> omega) | (simp only [zn])) only [↓zd, zk, Nat.reduceSub, Nat.reduceAdd, Nat.reduceMul, Nat.reduceLeDiff, Nat.reduceEqDiff, reduceIte, Int.reduceEq, Int.reduceBEq, Int.reduceLE, Int.reduceLT, Int.reduceNeg, Int.reduceAdd, Int.reduceSub, Int.reduceMul, List.map, AV.cells, List.all, AV.one, eqV, eqAll, splice, fillA, List.replicate, resAll, resA, zm, zg, hb3, G3, hy8, ha8', f46, ho3, ho4, a46, hr8, hone', ev_len, hlenl, c2, hrow3, hpka, hpkl, a193]
      all_goals have hpo := poked_run (x := pk) gj8 r8 hS8.su (by omega) (by omega) (by omega)
      all_goals simp only [memC] at hpo
      all_goals refine OK_fn hpo ?_
      all_goals rintro _ m9 ⟨k9, v9, xs9, o9, st9, rfl, su9, gj9, r9, ok9, o9a, o9b⟩
      all_goals have hS9 := hS8.poke (by omega) (by omega) k9 gj9 r9 su9 (ok9 c hS8.okL (hv _ (List.mem_of_getElem? hpk)))
      all_goals have hr9 : m9[rb]? = some (.cells 2 false [v2, .int .u64 o']) := by rw [k9.2 rb (List.getElem?_eq_some_iff.1 hr8).1 (fun hh => by rw [hh, gj8] at hr8; cases hr8)]; exact hr8
      all_goals have hone9 := slOne su9
      all_goals simp only [AV.one] at hone9
      all_goals simp (disch := first | assumption | omega | (simp only [zl] <;> omega) | (simp only [zn])) only [↓zd, zk, Nat.reduceSub, Nat.reduceAdd, Nat.reduceMul, Nat.reduceLeDiff, Nat.reduceEqDiff, reduceIte, Int.reduceEq, Int.reduceBEq, Int.reduceLE, Int.reduceLT, Int.reduceNeg, Int.reduceAdd, Int.reduceSub, Int.reduceMul, List.map, AV.cells, List.all, AV.one, eqV, eqAll, splice, fillA, List.replicate, resAll, resA, zm, zg, memC, hr9, hone9, lyI, lyB, sqN, law09_PutLayPlays]
      all_goals exact ⟨ps.length + 1 - (i + 1), by omega, i + 1, s', xs9, o9, lx8, ly2, v9, _, _, _, _, _, _, _, _, _, _, _, _, _, _, _, _, rfl, rfl, by omega, by omega, by omega, hS9⟩)
  simp (disch := first | assumption | omega | (simp only [zl] <;> omega) | (simp only [zn])) only [lyC, lyB, sqN, law09_PutLayPlays, ↓zd, zk, Nat.reduceSub, Nat.reduceAdd, Nat.reduceMul, Nat.reduceLeDiff, Nat.reduceEqDiff, reduceIte, Int.reduceEq, Int.reduceBEq, Int.reduceLE, Int.reduceLT, Int.reduceNeg, Int.reduceAdd, Int.reduceSub, Int.reduceMul, List.map, AV.cells, List.all, AV.one, eqV, eqAll, splice, fillA, List.replicate, resAll, resA, zm, zg, ev_len, hlenl]
  refine W_mono (lyT_run hS.lm hS.y hS.yl (by have := hS.ok.l; omega)) ?_
  rintro _ e2 m2 ⟨rfl, hk2, hE⟩
  simp only [thenQ_normal]
  exact hrest e2 m2 hk2 hE
end Go.Am.F09
end
section
namespace Go.Am.F09
open Go.Am.F06 Go.Am.F10
set_option maxHeartbeats 16000000 in
theorem lplays_run {m0 : MM} {c : Cf} {p : Int} {ls bs : List Int} {qv bv lv : AV} {ps : List Pk} (hQ : SI m0 false ls qv) (hB : SB m0 bs bv) (hb : ∀ x, x ∈ bs → 0 ≤ x ∧ x < 256) (hl : SPk m0 false ps lv) (hv : ∀ x, x ∈ ps → W64 x.v) :
    Fn Gly law09_PutLayPlays [.agg (cfC c), .int .i64 p, qv, bv, lv] m0 (fun r m' => r = .bool true ∧ Keep m0 m') := by
  have a184 : assoc Gly 184 = some (pureF worksG) := rfl
  have a134 : assoc Gly 134 = some F10.c_docs_Filled := rfl
  have a135 : assoc Gly 135 = some (amFunc F10.Gmem F10.docs_Mem) := rfl
  have a199 : assoc Gly 199 = some (amFunc Gnl put_NewLay) := rfl
  have a147 : assoc Gly 147 = some F10.c_docs_Config := rfl
  have a201 : assoc Gly 201 = some c_ref09_NewLay := rfl
  have a196 : assoc Gly 196 = some c_put_Lay_Done := rfl
  have a68 : assoc Gly 68 = some (amFunc F10.Gsmem F10.docs_SameMem) := rfl
  have a46 : assoc Gly 46 = some (memF fun s rest => (opsAsk s rest).map fun v => (v, s)) := rfl
  have a202 : assoc Gly 202 = some (amFunc Grl2 ref09_StepLay) := rfl
  have a195 : assoc Gly 195 = some (amFunc Glst put_Lay_Step) := rfl
  have a193 : assoc Gly 193 = some (amFunc Gpk law09_poked) := rfl
  have hfe : F10.c_docs_Filled (X := Ob) = amFunc F10.Gfill F10.docs_Filled := rfl
  have hre : c_ref09_NewLay (X := Ob) = amFunc [(169, F10.c_ref09_There)] ref09_NewLay := rfl
  have hlenl := hl.len
  have hlenb := hB.len
  have hlenq := hQ.len
  rw [lplays_body]
  refine Fn_of rfl ?_
  by_cases h1 : 60 < ps.length
  · simp (disch := first | assumption | omega | (simp only [zl] <;> omega) | (simp only [zn])) only [sqN, law09_PutLayPlays, ↓zd, zk, Nat.reduceSub, Nat.reduceAdd, Nat.reduceMul, Nat.reduceLeDiff, Nat.reduceEqDiff, reduceIte, Int.reduceEq, Int.reduceBEq, Int.reduceLE, Int.reduceLT, Int.reduceNeg, Int.reduceAdd, Int.reduceSub, Int.reduceMul, List.map, AV.cells, List.all, AV.one, eqV, eqAll, splice, fillA, List.replicate, resAll, resA, zm, zg, cfC, ev_len, hlenl, hlenb, hlenq, a184, pureF, worksG]
    exact .app _ _
  by_cases h2 : 40 < bs.length
  · simp (disch := first | assumption | omega | (simp only [zl] <;> omega) | (simp only [zn])) only [sqN, law09_PutLayPlays, ↓zd, zk, Nat.reduceSub, Nat.reduceAdd, Nat.reduceMul, Nat.reduceLeDiff, Nat.reduceEqDiff, reduceIte, Int.reduceEq, Int.reduceBEq, Int.reduceLE, Int.reduceLT, Int.reduceNeg, Int.reduceAdd, Int.reduceSub, Int.reduceMul, List.map, AV.cells, List.all, AV.one, eqV, eqAll, splice, fillA, List.replicate, resAll, resA, zm, zg, cfC, ev_len, hlenl, hlenb, hlenq, a184, pureF, worksG]
    exact .app _ _
  by_cases h3 : 70 < ls.length
  · simp (disch := first | assumption | omega | (simp only [zl] <;> omega) | (simp only [zn])) only [sqN, law09_PutLayPlays, ↓zd, zk, Nat.reduceSub, Nat.reduceAdd, Nat.reduceMul, Nat.reduceLeDiff, Nat.reduceEqDiff, reduceIte, Int.reduceEq, Int.reduceBEq, Int.reduceLE, Int.reduceLT, Int.reduceNeg, Int.reduceAdd, Int.reduceSub, Int.reduceMul, List.map, AV.cells, List.all, AV.one, eqV, eqAll, splice, fillA, List.replicate, resAll, resA, zm, zg, cfC, ev_len, hlenl, hlenb, hlenq, a184, pureF, worksG]
    exact .app _ _
  simp (disch := first | assumption | omega | (simp only [zl] <;> omega) | (simp only [zn])) only [sqN, law09_PutLayPlays, ↓zd, zk, Nat.reduceSub, Nat.reduceAdd, Nat.reduceMul, Nat.reduceLeDiff, Nat.reduceEqDiff, reduceIte, Int.reduceEq, Int.reduceBEq, Int.reduceLE, Int.reduceLT, Int.reduceNeg, Int.reduceAdd, Int.reduceSub, Int.reduceMul, List.map, AV.cells, List.all, AV.one, eqV, eqAll, splice, fillA, List.replicate, resAll, resA, zm, zg, cfC, ev_len, hlenl, hlenb, hlenq, a134, hfe]
  have hB1 : SB (m0 ++ [Chunk.cells 6 false (cfC c)]) bs bv := hB.keep (Keep.app _ _)
  refine OK_fn (filled_run (c := c) hB1 hb) ?_
  rintro r1 m1 ⟨xs0, k1, s1, x1, x2⟩
  have hk1 : Keep m0 m1 := (Keep.app m0 _).trans k1
  have gb1 : m1[m0.length]? = some (Chunk.cells 6 false (cfC c)) := k1.get get_concat
  have hcn := cellsN_le c
  simp (disch := first | assumption | omega | (simp only [zl] <;> omega) | (simp only [zn])) only [↓zd, zk, Nat.reduceSub, Nat.reduceAdd, Nat.reduceMul, Nat.reduceLeDiff, Nat.reduceEqDiff, reduceIte, Int.reduceEq, Int.reduceBEq, Int.reduceLE, Int.reduceLT, Int.reduceNeg, Int.reduceAdd, Int.reduceSub, Int.reduceMul, List.map, AV.cells, List.all, AV.one, eqV, eqAll, splice, fillA, List.replicate, resAll, resA, zm, zg, a135]
  refine OK_fn (mem_run s1 (by omega)) ?_
  rintro _ m2 ⟨st, v, rfl, k2, g2, rm, s2⟩
  have gb2 := k2.get gb1
  have hk2 := hk1.trans k2
  have hone := slOne s2
  simp only [AV.one] at hone
  have lb : m0.length < m2.length := (List.getElem?_eq_some_iff.1 gb2).1
  have hj0 : m0.length ≤ m1.length + 1 := by have := hk1.1; omega
  generalize m1.length + 1 = j at g2 hj0 ⊢
  -- the list that is handed in
  obtain ⟨mA, hmA⟩ : ∃ mA : MM, mA = m2 ++ [Chunk.cells 2 false (memC v xs0.length)] := ⟨_, rfl⟩
  have k2A : Keep m2 mA := by rw [hmA]; exact .app _ _
  have grA : mA[m2.length]? = some (.cells 2 false (memC v xs0.length)) := by rw [hmA, get_mid0]; rfl
  have lA : mA.length = m2.length + 1 := by rw [hmA]; simp
  obtain ⟨ow, mB, hap, own, hlB, hsB⟩ := own_pushs (m0 := mA) (xs := []) own_nil ((hQ.keep hk2).keep k2A) (by simp) (by omega) (Nat.le_refl _)
  have kAB : Keep mA mB := ⟨hlB, fun i hi => hsB i hi (.inr hi)⟩
  rw [List.nil_append] at own
  have kB : Keep m2 mB := k2A.trans kAB
  have gbB := kB.get gb2
  have gjB := kB.get g2
  have grB := kAB.get grA
  have hOB := own.val1
  simp only [AV.one] at hOB
  simp only [memC] at hmA
  simp (disch := first | assumption | omega | (simp only [zl] <;> omega) | (simp only [zn])) only [↓zd, zk, Nat.reduceSub, Nat.reduceAdd, Nat.reduceMul, Nat.reduceLeDiff, Nat.reduceEqDiff, reduceIte, Int.reduceEq, Int.reduceBEq, Int.reduceLE, Int.reduceLT, Int.reduceNeg, Int.reduceAdd, Int.reduceSub, Int.reduceMul, List.map, AV.cells, List.all, AV.one, eqV, eqAll, splice, fillA, List.replicate, resAll, resA, zm, zg, memC, hone]
  rw [← hmA]
  simp only [cfC] at gbB
  have gbB' := fun K : MM => (Keep.app mB K).get gbB
  simp (disch := first | assumption | omega | (simp only [zl] <;> omega) | (simp only [zn])) only [↓zd, zk, Nat.reduceSub, Nat.reduceAdd, Nat.reduceMul, Nat.reduceLeDiff, Nat.reduceEqDiff, reduceIte, Int.reduceEq, Int.reduceBEq, Int.reduceLE, Int.reduceLT, Int.reduceNeg, Int.reduceAdd, Int.reduceSub, Int.reduceMul, List.map, AV.cells, List.all, AV.one, eqV, eqAll, splice, fillA, List.replicate, resAll, resA, zm, zg, evA, hap, gbB, gbB', a199]
  have hnr := fun K : MM => newlay_run (c := c) (p := p) ((Own.si own).1.keep (Keep.app mB K)) (by omega)
  simp only [cfC] at hnr
  refine OKT_fn (hnr _) ?_
  rintro _ m3 ⟨xj, lx, rfl, hxl, k3, hlm, hfx⟩
  simp only [List.length_append, List.length_cons, List.length_nil] at hxl hfx
  have kB3 : Keep mB m3 := (Keep.app mB _).trans k3
  have gy3 := k3.get (i := mB.length) (c := .cells 12 false [.int .i64 0, .int .i64 0, .int .i64 0, .int .i64 0, .int .i64 0, .int .i64 0, .int .i64 0, .nils, .int .i64 0, .int .u64 0, .int .i64 0, .int .i64 0]) (by rw [get_mid0]; rfl)
  have gb3 := kB3.get gbB
  have f147 := fun m : MM => config_eq m c
  simp only [cfC] at f147
  simp (disch := first | assumption | omega | (simp only [zl] <;> omega) | (simp only [zn])) only [↓zd, zk, Nat.reduceSub, Nat.reduceAdd, Nat.reduceMul, Nat.reduceLeDiff, Nat.reduceEqDiff, reduceIte, Int.reduceEq, Int.reduceBEq, Int.reduceLE, Int.reduceLT, Int.reduceNeg, Int.reduceAdd, Int.reduceSub, Int.reduceMul, List.map, AV.cells, List.all, AV.one, eqV, eqAll, splice, fillA, List.replicate, resAll, resA, zm, zg, gb3, a147, f147, a201, hre]
  have hQ3 := hQ.keep ((hk2.trans kB).trans kB3)
  have hrn := fun K : MM => rlnew_run (c := c) (p := p) (hQ3.keep (Keep.app m3 K)) (by omega)
  simp only [cfC] at hrn
  refine OKT_fn (hrn _) ?_
  rintro _ m4 ⟨k4, ly, rfl, syl, syn, hfy⟩
  have k34 : Keep m3 m4 := (Keep.app m3 _).trans k4
  have gy4 := k34.get gy3
  have ly4 : mB.length < m4.length := (List.getElem?_eq_some_iff.1 gy4).1
  have honeh := slOne syl
  have hall := rlC_all (lcC c p) (lcP c p) (newL c p ls) honeh
  have gy3' := fun K : MM => (Keep.app m3 K).get gy3
  simp (disch := first | assumption | omega | (simp only [zl] <;> omega) | (simp only [zn])) only [↓zd, zk, Nat.reduceSub, Nat.reduceAdd, Nat.reduceMul, Nat.reduceLeDiff, Nat.reduceEqDiff, reduceIte, Int.reduceEq, Int.reduceBEq, Int.reduceLE, Int.reduceLT, Int.reduceNeg, Int.reduceAdd, Int.reduceSub, Int.reduceMul, List.map, AV.cells, List.all, AV.one, eqV, eqAll, splice, fillA, List.replicate, resAll, resA, zm, zg, gy4, gy3, gy3', gbB', gb3, rlC_len, hall, List.drop_succ_cons, List.drop_zero, List.drop_nil, List.append_nil]
  obtain ⟨M5, hM5⟩ : ∃ M5 : MM, M5 = m4.set mB.length (.cells 12 false (rlC (lcC c p) (lcP c p) (newL c p ls) ly)) := ⟨_, rfl⟩
  rw [← hM5]
  have l3 := k3.1
  simp only [List.length_append, List.length_cons, List.length_nil] at l3
  have l34 := k34.1
  have lA0 : m0.length < mA.length := by omega
  have hne : ∀ sz, sz ≠ 12 → ∀ ro L, m4[mB.length]? ≠ some (.cells sz ro L) := fun sz hsz ro L hh => by rw [gy4] at hh; injection hh with hh; injection hh with hh; exact hsz hh.symm
  have hk4 : Keep m0 m4 := ((hk2.trans kB).trans kB3).trans k34
  have jm : j < mB.length := (List.getElem?_eq_some_iff.1 gjB).1
  have hS : LyS m0 c (lcC c p) p (lcP c p) j m2.length xj mB.length ps lv (newL c p ls) xs0 xs0.length lx ly v M5 := by
    rw [hM5]
    refine ⟨hk4.set (by omega) _, ⟨by rw [List.getElem?_set_ne (by omega)]; exact k34.get hlm.get, Sl.put (hlm.l.keep k34) (hne 1 (by decide)) _, fun hp => ((hlm.nx hp).keep k34).put (hne 1 (by decide)) _⟩, ⟨st, by rw [List.getElem?_set_ne (by omega)]; exact (kB3.trans k34).get gjB, rm⟩, by rw [List.getElem?_set_ne (by omega)]; exact (kB3.trans k34).get grB, Sl.put (s2.keep (kB.trans (kB3.trans k34))) (hne 1 (by decide)) _, List.getElem?_set_self ly4, Sl.put syl (hne 1 (by decide)) _, fun hp => (syn hp).put (hne 1 (by decide)) _, by omega, newL_ok c p (by omega), ⟨x1, x2⟩, ?_, Sl.put (hl.keep hk4) (hne 3 (by decide)) _⟩
    unfold lcC lcP
    by_cases hk : thereP c p
    · rw [if_pos hk, if_pos hk]; exact .inr ⟨rfl, rfl⟩
    · have : newL c p ls = ⟨0, 0, 0, 0, []⟩ := if_neg hk
      rw [this]; exact .inl rfl
  have own5 : Own mA M5 1 ls.length (iC ls) ow := by
    rw [hM5]
    rcases own with h | ⟨q, e1, e2, e3, e4⟩
    · exact .inl h
    · exact .inr ⟨q, e1, by rw [List.getElem?_set_ne (by omega)]; exact (kB3.trans k34).get e2, e3, by simp only [List.length_set]; omega⟩
  have hoff : ∀ q n w B, ow = .sl q 0 n none → Fr B w → mB.length ≤ B → Off q w := fun q n w B hw hf hB => by
    intro q2 oo n2 cap h1 h2 h3
    rcases hf with h | ⟨_, _, _, _, h, h'⟩
    · rw [h] at h1; cases h1
    · rw [h] at h1; injection h1 with e1
      rcases own with ⟨_, _, h4⟩ | ⟨q3, h4, _, _, h5⟩
      · rw [h4] at hw; cases hw
      · rw [h4] at hw; injection hw with e2; omega
  have gb5 : M5[m0.length]? = some (.cells 6 false (cfC c)) := by rw [hM5, List.getElem?_set_ne (by omega)]; exact k34.get gb3
  have hb0 : m0.length ≤ xj ∧ m0.length ≤ m2.length ∧ m0.length ≤ mB.length := by omega
  refine W_mono (lyW_run (c0 := c) own5 (by omega)) ?_
  rintro _ e6 M6 ⟨rfl, ⟨z12, z13, z14, z15, z16, z17, z18, z19, z20, z21, z22, z23, z24, z25, z26, z27, z28, rfl⟩, hM6⟩
  have hS6 : LyS m0 c (lcC c p) p (lcP c p) j m2.length xj mB.length ps lv (newL c p ls) xs0 xs0.length lx ly v M6 := by
    rcases hM6 with rfl | ⟨q, e1, e2, e3⟩
    · exact hS
    · refine hS.mv e3 e2 ?_ (hoff _ _ _ _ e1 hfx (by omega)) (hoff _ _ _ _ e1 hfy (by simp only [List.length_append]; omega))
      rcases own with ⟨_, _, h4⟩ | ⟨q3, h4, _, h5, _⟩
      · rw [h4] at e1; cases e1
      · rw [h4] at e1; injection e1 with e1; omega
  simp only [thenQ_normal]
  simp (disch := first | assumption | omega | (simp only [zl] <;> omega) | (simp only [zn])) only [↓zd, zk, Nat.reduceSub, Nat.reduceAdd, Nat.reduceMul, Nat.reduceLeDiff, Nat.reduceEqDiff, reduceIte, Int.reduceEq, Int.reduceBEq, Int.reduceLE, Int.reduceLT, Int.reduceNeg, Int.reduceAdd, Int.reduceSub, Int.reduceMul, List.map, AV.cells, List.all, AV.one, eqV, eqAll, splice, fillA, List.replicate, resAll, resA, zm, zg]
  refine W_loop (LyI m0 c c (lcC c p) p p (lcP c p) qv bv m0.length j m2.length ow xj mB.length ps lv) (ps.length + 1) (by simp only [FUEL]; omega) ⟨0, newL c p ls, xs0, xs0.length, lx, ly, v, _, _, _, _, _, _, _, _, _, _, _, _, _, _, _, _, rfl, by omega, by omega, by omega, by omega, hS6⟩ ?_
  clear hS hS6 hM6 hoff own5 gb5 hM5 hne hk4 gy3' gy4 gy3 gb3 grB gjB gbB gbB' own hap hall honeh syl syn hfx hfy hlm kB3 k34 k4 k3 kB kAB k2A grA hsB hk2 hk1 g2 rm s1 s2 hone lb hrn hnr f147 hB1 gb1 x1 x2 hxl hQ3 hQ hB k2 k1 gb2 hmA hOB
  generalize lcC c p = c'
  generalize lcP c p = p'
  generalize mB.length = yb at hb0 ⊢
  generalize m2.length = rb at hb0 ⊢
  rintro k e m ⟨i, s, xs, o, lx, ly, v, z12, z14, z15, z16, z17, z18, z19, z20, z21, z22, z23, z24, z25, z26, z27, z28, rfl, rfl, hi, ho0, ho1, hS⟩
  exact lbody_run hlenl hv hb0.1 hb0.2.1 hb0.2.2 hj0 hi ho0 ho1 (by omega) hS
end Go.Am.F09
end
section
namespace Go.Am.F09
open Go.Am.F06 Go.Am.F10
def Gkp : List (Nat × AFun Ob) := [(184, pureF worksG), (133, F10.c_docs_Made), (87, F10.c_kit_Pick), (134, F10.c_docs_Filled), (135, amFunc F10.Gmem F10.docs_Mem), (136, amFunc F10.Gring F10.docs_Ring), (185, c_put_New), (186, amFunc Gpst put_Put_Step), (139, amFunc F10.Gthief F10.docs_Thief), (187, amFunc Gpo put_Put_Over), (84, F10.c_kit_SameInts)]
def kpB : AC := match sqN 10 law09_PutKeeps.body with | .seq _ (.block _ (.loop b)) => b | _ => .skip
def kpC : AC := match kpB with | .seq c _ => c | _ => .skip
def kpT : AC := match kpB with | .seq _ (.seq (.block _ r) _) => r | _ => .skip
def kpI : AC := match kpB with | .seq _ (.seq _ i) => i | _ => .skip
def kpL : AC := sqT 11 law09_PutKeeps.body
theorem keeps_body : law09_PutKeeps = { nloc := 21, npar := 4, res := [.loc 5], body := .seq (sqN 0 law09_PutKeeps.body) (.seq (sqN 1 law09_PutKeeps.body) (.seq (sqN 2 law09_PutKeeps.body) (.seq (sqN 3 law09_PutKeeps.body) (.seq (sqN 4 law09_PutKeeps.body) (.seq (sqN 5 law09_PutKeeps.body) (.seq (sqN 6 law09_PutKeeps.body) (.seq (sqN 7 law09_PutKeeps.body) (.seq (sqN 8 law09_PutKeeps.body) (.seq (sqN 9 law09_PutKeeps.body) (.seq (.seq (.region [⟨.mov, [.c (.int .i64 0)], some 12, none⟩]) (.block 0 (.loop (.seq kpC (.seq (.block 1 kpT) kpI))))) kpL)))))))))) } := rfl
def KpN (M0 : MM) (c0 c : Cf) (p : Int) (bv lv was : AV) (bb j xj : Nat) (w0 : Int) (A : List Int) (i i' : Nat) (e : List AV) (m : MM) : Prop := ∃ (d : Nat) (s : PS) (xs : List Int) (fl dn : Bool) (gone tv hv : AV) (qg qt : Nat) (y13 y14 y15 y16 y17 y18 y19 y20 : AV),
  e = [.agg (cfC c0), .int .i64 p, bv, lv, .ptr bb 0, .bool false, .ptr j 0, was, .ptr xj 0, gone, .bool fl, .bool dn, .int .i64 i, y13, y14, y15, y16, y17, y18, y19, y20] ∧ KpS M0 c p j xj A d s gone qg qt tv hv xs m ∧ KpV c p w0 A i' d s xs fl dn
set_option maxHeartbeats 16000000 in
theorem kpT_run {M0 m : MM} {c0 c : Cf} {p w0 : Int} {bv lv was gone : AV} {bb j xj : Nat} {A ls xs : List Int} {i d qg qt : Nat} {s : PS} {tv hv : AV} {fl : Bool} {y13 y14 y15 y16 y17 y18 y19 y20 : AV}
    (hp : thereP c p) (hA : (A.length : Int) = sz w0) (hq : sz w0 ≤ c.q) (hq8 : c.q ≤ 8) (hw0 : W64 w0) (hb : M0[bb]? = some (.cells 6 false (cfC c))) (hbj : bb ≠ xj ∧ bb ≠ j) (hL : SB M0 ls lv) (hl : ∀ x, x ∈ ls → 0 ≤ x ∧ x < 256) (hnx : ∀ ro L, M0[xj]? ≠ some (.cells 1 ro L)) (hnj : ∀ ro L, M0[j]? ≠ some (.cells 1 ro L))
    (hS : KpS M0 c p j xj A d s gone qg qt tv hv xs m) (hV : KV c p w0 A i d s xs) (ha : s.a ≠ 0) (hi : i < 60) :
    W Gkp kpT (fun x e m => x = .normal ∧ KpN M0 c0 c p bv lv was bb j xj w0 A i (i + 1) e m) [.agg (cfC c0), .int .i64 p, bv, lv, .ptr bb 0, .bool false, .ptr j 0, was, .ptr xj 0, gone, .bool fl, .bool false, .int .i64 i, y13, y14, y15, y16, y17, y18, y19, y20] m := by
  have a136 : assoc Gkp 136 = some (amFunc F10.Gring F10.docs_Ring) := rfl
  have a186 : assoc Gkp 186 = some (amFunc Gpst put_Put_Step) := rfl
  have a139 : assoc Gkp 139 = some (amFunc F10.Gthief F10.docs_Thief) := rfl
  generalize Gkp = G at a136 a186 a139 ⊢
  have hb8 := there_bounds hp
  obtain ⟨st, o, gj, hr⟩ := hS.mem
  have hrn := ring_run (c := c) (p := p) gj hr hV.ok
  rw [hV.ring hp hA hq] at hrn
  have hdl := hV.dl
  have gb := hS.keep.get hb hbj.1 hbj.2
  simp only [cfC] at gb hrn
  simp (disch := first | assumption | omega | (simp only [zl] <;> omega) | (simp only [zn])) only [kpT, kpB, sqN, law09_PutKeeps, ↓zd, zk, Nat.reduceSub, Nat.reduceAdd, Nat.reduceMul, Nat.reduceLeDiff, Nat.reduceEqDiff, reduceIte, Int.reduceEq, Int.reduceBEq, Int.reduceLE, Int.reduceLT, Int.reduceNeg, Int.reduceAdd, Int.reduceSub, Int.reduceMul, List.map, AV.cells, List.all, AV.one, eqV, eqAll, splice, fillA, List.replicate, resAll, resA, zm, zg, gb, a136]
  refine OKT_fn hrn ?_
  rintro r1 m1 ⟨k1, s1, _, _, _⟩
  have hrl := s1.len
  rw [List.length_drop] at hrl
  have gb1 := k1.get gb
  have hS1 := hS.more k1
  have ok1 := hS.ok
  obtain ⟨st1, o1, gj1, hr1⟩ := hS1.mem
  simp (disch := first | assumption | omega | (simp only [zl] <;> omega) | (simp only [zn])) only [↓zd, zk, Nat.reduceSub, Nat.reduceAdd, Nat.reduceMul, Nat.reduceLeDiff, Nat.reduceEqDiff, reduceIte, Int.reduceEq, Int.reduceBEq, Int.reduceLE, Int.reduceLT, Int.reduceNeg, Int.reduceAdd, Int.reduceSub, Int.reduceMul, List.map, AV.cells, List.all, AV.one, eqV, eqAll, splice, fillA, List.replicate, resAll, resA, zm, zg, ev_len, hrl, gb, gb1, a186]
  refine OK_fn (pstep_run hS1.pm gj1 hr1 (.inr hV.ok) ok1) ?_
  intro r m2 hP
  obtain ⟨rfl, qt', tv', hv', hS2⟩ := hS1.step (ok1.step (.inr hV.ok)) hP
  have hst := hV.step hp hA hq hq8 hw0 ha
  clear hP
  generalize stepP c p 999 xs s = x at hS2 hst ⊢
  obtain ⟨s', xs'⟩ := x
  simp only at hS2 hst
  have hlenl := hL.len
  have hroom : roomP c.q := hp.1.2.1
  have heven : c.q / 2 + c.q / 2 = c.q := by rcases hroom with h | h | h | h | h | h <;> rw [h] <;> rfl
  rcases hst with ⟨h1, hV2⟩ | ⟨h1, h2, h3, h4, h5, h6⟩ | ⟨h1, h2, h3, h4, h5, h6⟩
  · have hd1 : decide (s'.a = 0) = false := decide_eq_false h1
    simp only [hd1]
    rcases Nat.lt_or_ge i ls.length with hil | hil
    · have hLm : SB m2 ls lv := hS2.keep.sl (szj := 0) (szk := 0) hnx hnj hL
      have gb2 := hS2.keep.get hb hbj.1 hbj.2
      obtain ⟨st2, o2, gj2, hr2⟩ := hS2.mem
      obtain ⟨z, hz⟩ : ∃ z, ls[i]? = some z := ⟨_, List.getElem?_eq_getElem hil⟩
      have hzb := hl z (List.mem_of_getElem? hz)
      obtain ⟨kN, rfl⟩ : ∃ kN : Nat, z = kN := ⟨z.toNat, by omega⟩
      obtain ⟨q, oo, cap, ro, L, rfl, b2, b3, b4, _⟩ := hLm.at (by omega)
      have b5 : L[oo + i]? = some (.int .u8 kN) := by rw [sl_get b3 (by omega)]; simp [hz]
      have hth := thief_run (k := kN) (by omega) gj2 hr2 hV2.ok hp
      rw [hV2.ring hp hA hq, List.length_drop] at hth
      simp only [cfC] at hth gb2
      simp (disch := first | assumption | omega | (simp only [zl] <;> omega) | (simp only [zn])) only [↓zd, zk, Nat.reduceSub, Nat.reduceAdd, Nat.reduceMul, Nat.reduceLeDiff, Nat.reduceEqDiff, reduceIte, Int.reduceEq, Int.reduceBEq, Int.reduceLE, Int.reduceLT, Int.reduceNeg, Int.reduceAdd, Int.reduceSub, Int.reduceMul, List.map, AV.cells, List.all, AV.one, eqV, eqAll, splice, fillA, List.replicate, resAll, resA, zm, zg, ev_len, hlenl, gb2, b2, b5, a139]
      refine OK_fn hth ?_
      rintro tk m3 ⟨k3, st3, st', o', j3, r3⟩
      rw [hV2.ring hp hA hq] at st3
      have hn : thN kN (A.length - d) ≤ A.length - d := by unfold thN; omega
      generalize thN kN (A.length - d) = n at st3 r3 hn
      have hS3 := hS2.thief k3 j3 r3
      obtain ⟨gone', m4, qg', happ, hS4⟩ := hS3.gain (by omega) (by omega) st3
      simp (disch := first | assumption | omega | (simp only [zl] <;> omega) | (simp only [zn])) only [↓zd, zk, Nat.reduceSub, Nat.reduceAdd, Nat.reduceMul, Nat.reduceLeDiff, Nat.reduceEqDiff, reduceIte, Int.reduceEq, Int.reduceBEq, Int.reduceLE, Int.reduceLT, Int.reduceNeg, Int.reduceAdd, Int.reduceSub, Int.reduceMul, List.map, AV.cells, List.all, AV.one, eqV, eqAll, splice, fillA, List.replicate, resAll, resA, zm, zg, evA, happ]
      exact ⟨d + n, s', _, _, _, _, _, _, _, _, _, _, _, _, _, _, _, _, rfl, hS4, .inl ⟨rfl, h1, hV2.thief hp (by omega)⟩⟩
    · simp (disch := first | assumption | omega | (simp only [zl] <;> omega) | (simp only [zn])) only [↓zd, zk, Nat.reduceSub, Nat.reduceAdd, Nat.reduceMul, Nat.reduceLeDiff, Nat.reduceEqDiff, reduceIte, Int.reduceEq, Int.reduceBEq, Int.reduceLE, Int.reduceLT, Int.reduceNeg, Int.reduceAdd, Int.reduceSub, Int.reduceMul, List.map, AV.cells, List.all, AV.one, eqV, eqAll, splice, fillA, List.replicate, resAll, resA, zm, zg, ev_len, hlenl]
      exact ⟨d, s', _, _, _, _, _, _, _, _, _, _, _, _, _, _, _, _, rfl, hS2, .inl ⟨rfl, h1, hV2⟩⟩
  · have hd1 : decide (s'.a = 0) = true := decide_eq_true h1
    simp only [hd1]
    have hE : ∀ b, KpV c p w0 A (i + 1) d s' xs' b true := fun b => .inr ⟨rfl, h1, h3, by rw [h4, h2, List.append_nil, ← List.append_assoc, List.take_append_drop], by rw [h4, List.length_append, List.length_drop, List.length_singleton]; omega, fun h => by rw [h2] at h; simp at h⟩
    rcases Nat.lt_or_ge i ls.length with hil | hil
    · simp (disch := first | assumption | omega | (simp only [zl] <;> omega) | (simp only [zn])) only [↓zd, zk, Nat.reduceSub, Nat.reduceAdd, Nat.reduceMul, Nat.reduceLeDiff, Nat.reduceEqDiff, reduceIte, Int.reduceEq, Int.reduceBEq, Int.reduceLE, Int.reduceLT, Int.reduceNeg, Int.reduceAdd, Int.reduceSub, Int.reduceMul, List.map, AV.cells, List.all, AV.one, eqV, eqAll, splice, fillA, List.replicate, resAll, resA, zm, zg, ev_len, hlenl]
      exact ⟨d, s', _, _, _, _, _, _, _, _, _, _, _, _, _, _, _, _, rfl, hS2, hE _⟩
    · simp (disch := first | assumption | omega | (simp only [zl] <;> omega) | (simp only [zn])) only [↓zd, zk, Nat.reduceSub, Nat.reduceAdd, Nat.reduceMul, Nat.reduceLeDiff, Nat.reduceEqDiff, reduceIte, Int.reduceEq, Int.reduceBEq, Int.reduceLE, Int.reduceLT, Int.reduceNeg, Int.reduceAdd, Int.reduceSub, Int.reduceMul, List.map, AV.cells, List.all, AV.one, eqV, eqAll, splice, fillA, List.replicate, resAll, resA, zm, zg, ev_len, hlenl]
      exact ⟨d, s', _, _, _, _, _, _, _, _, _, _, _, _, _, _, _, _, rfl, hS2, hE _⟩
  · have hd1 : decide (s'.a = 0) = true := decide_eq_true h1
    simp only [hd1]
    have hE : KpV c p w0 A (i + 1) d s' xs' true true := .inr ⟨rfl, h1, h5, by rw [h6, h4, h2, List.take_zero, List.nil_append, ← List.append_assoc, List.take_append_drop], by rw [h6, List.length_take]; omega, fun _ => ⟨rfl, by rw [h4, List.length_append, List.length_drop, List.length_singleton]; omega, by rw [h6, List.length_take]; omega⟩⟩
    rcases Nat.lt_or_ge i ls.length with hil | hil
    · simp (disch := first | assumption | omega | (simp only [zl] <;> omega) | (simp only [zn])) only [↓zd, zk, Nat.reduceSub, Nat.reduceAdd, Nat.reduceMul, Nat.reduceLeDiff, Nat.reduceEqDiff, reduceIte, Int.reduceEq, Int.reduceBEq, Int.reduceLE, Int.reduceLT, Int.reduceNeg, Int.reduceAdd, Int.reduceSub, Int.reduceMul, List.map, AV.cells, List.all, AV.one, eqV, eqAll, splice, fillA, List.replicate, resAll, resA, zm, zg, ev_len, hlenl]
      exact ⟨d, s', _, _, _, _, _, _, _, _, _, _, _, _, _, _, _, _, rfl, hS2, hE⟩
    · simp (disch := first | assumption | omega | (simp only [zl] <;> omega) | (simp only [zn])) only [↓zd, zk, Nat.reduceSub, Nat.reduceAdd, Nat.reduceMul, Nat.reduceLeDiff, Nat.reduceEqDiff, reduceIte, Int.reduceEq, Int.reduceBEq, Int.reduceLE, Int.reduceLT, Int.reduceNeg, Int.reduceAdd, Int.reduceSub, Int.reduceMul, List.map, AV.cells, List.all, AV.one, eqV, eqAll, splice, fillA, List.replicate, resAll, resA, zm, zg, ev_len, hlenl]
      exact ⟨d, s', _, _, _, _, _, _, _, _, _, _, _, _, _, _, _, _, rfl, hS2, hE⟩
end Go.Am.F09
end
section
namespace Go.Am.F09
open Go.Am.F06 Go.Am.F10
theorem own_push3 {m0 m : MM} {xs : List Int} {v : AV} (h : Own m0 m 1 xs.length (iC xs) v) (x : Int) (hl : xs.length ≤ 100000) (hm : m0.length ≤ m.length) {B : Nat} (hB : ∀ q o n c, v = .sl q o n c → q < B) :
    ∃ v' m', appendA 1 8 v (.sl m.length 0 1 (some 1)) (m ++ [.cells 1 false [.int .i64 x]]) = some (v', m') ∧ Own m0 m' 1 (xs ++ [x]).length (iC (xs ++ [x])) v' ∧ m.length ≤ m'.length ∧ (∀ i, i < m.length → B ≤ i ∨ i < m0.length → m'[i]? = m[i]?) := by
  have hx : (m ++ [Chunk.cells 1 false [.int .i64 x]])[m.length]? = some (.cells 1 false [.int .i64 x]) := get_concat
  rw [iC_app, List.length_append]
  rcases h with ⟨h1, h2, rfl⟩ | ⟨q, rfl, hq, h2, h3⟩
  · have hxs : xs = [] := List.length_eq_zero_iff.1 h1
    subst hxs
    refine ⟨_, _, append_nils hx rfl rfl (by decide), .inr ⟨_, rfl, get_concat, by simp <;> omega, by simp⟩, by simp <;> omega, fun i hi _ => ?_⟩
    rw [List.getElem?_append_left (by simp <;> omega), List.getElem?_append_left hi]
  · have hqB := hB _ _ _ _ rfl
    have hq' : (m ++ [Chunk.cells 1 false [.int .i64 x]])[q]? = some (.cells 1 false (iC xs)) := by rw [List.getElem?_append_left h3]; exact hq
    refine ⟨_, _, append_none hq' (by rw [iC_len]; omega) hx rfl (iC_one _) rfl (by omega) (by omega), .inr ⟨_, rfl, ?_, by simp <;> omega, by simp⟩, by simp <;> omega, fun i hi ho => ?_⟩
    · have : (m ++ [Chunk.cells 1 false [AV.int .i64 x]]).length = ((m ++ [Chunk.cells 1 false [AV.int .i64 x]]).set q .dead).length := by simp
      rw [this, get_concat]
    · rw [List.getElem?_append_left (by simp <;> omega), List.getElem?_set_ne (by omega), List.getElem?_append_left hi]
def KpI (M0 : MM) (c0 c : Cf) (p : Int) (bv lv was : AV) (bb j xj : Nat) (w0 : Int) (A : List Int) (k : Nat) (e : List AV) (m : MM) : Prop := ∃ i, i ≤ 60 ∧ k = 60 - i ∧ KpN M0 c0 c p bv lv was bb j xj w0 A i i e m
set_option maxHeartbeats 16000000 in
theorem keeps_run {m0 : MM} {c0 : Cf} {p0 : Int} {bs ls : List Int} {bv lv : AV} (hB : SB m0 bs bv) (hb : ∀ x, x ∈ bs → 0 ≤ x ∧ x < 256) (hL : SB m0 ls lv) (hl : ∀ x, x ∈ ls → 0 ≤ x ∧ x < 256) :
    Fn Gkp law09_PutKeeps [.agg (cfC c0), .int .i64 p0, bv, lv] m0 (fun r m' => r = .bool true ∧ Keep m0 m') := by
  have a184 : assoc Gkp 184 = some (pureF worksG) := rfl
  have a133 : assoc Gkp 133 = some F10.c_docs_Made := rfl
  have a87 : assoc Gkp 87 = some F10.c_kit_Pick := rfl
  have a134 : assoc Gkp 134 = some F10.c_docs_Filled := rfl
  have a135 : assoc Gkp 135 = some (amFunc F10.Gmem F10.docs_Mem) := rfl
  have a136 : assoc Gkp 136 = some (amFunc F10.Gring F10.docs_Ring) := rfl
  have a185 : assoc Gkp 185 = some c_put_New := rfl
  have a187 : assoc Gkp 187 = some (amFunc Gpo put_Put_Over) := rfl
  have a84 : assoc Gkp 84 = some F10.c_kit_SameInts := rfl
  have hfe : F10.c_docs_Filled (X := Ob) = amFunc F10.Gfill F10.docs_Filled := rfl
  have hse : F10.c_kit_SameInts (X := Ob) = amFunc [] F10.kit_SameInts := rfl
  have hpe : c_put_New (X := Ob) = amFunc [(206, c_put_from)] put_New := rfl
  have hlenb := hB.len
  have hlenl := hL.len
  rw [keeps_body]
  refine Fn_of rfl ?_
  by_cases h1 : 40 < bs.length
  · simp (disch := first | assumption | omega | (simp only [zl] <;> omega) | (simp only [zn])) only [sqN, law09_PutKeeps, ↓zd, zk, Nat.reduceSub, Nat.reduceAdd, Nat.reduceMul, Nat.reduceLeDiff, Nat.reduceEqDiff, reduceIte, Int.reduceEq, Int.reduceBEq, Int.reduceLE, Int.reduceLT, Int.reduceNeg, Int.reduceAdd, Int.reduceSub, Int.reduceMul, List.map, AV.cells, List.all, AV.one, eqV, eqAll, splice, fillA, List.replicate, resAll, resA, zm, zg, cfC, ev_len, hlenl, hlenb, a184, pureF, worksG]
    exact .app _ _
  by_cases h2 : 40 < ls.length
  · simp (disch := first | assumption | omega | (simp only [zl] <;> omega) | (simp only [zn])) only [sqN, law09_PutKeeps, ↓zd, zk, Nat.reduceSub, Nat.reduceAdd, Nat.reduceMul, Nat.reduceLeDiff, Nat.reduceEqDiff, reduceIte, Int.reduceEq, Int.reduceBEq, Int.reduceLE, Int.reduceLT, Int.reduceNeg, Int.reduceAdd, Int.reduceSub, Int.reduceMul, List.map, AV.cells, List.all, AV.one, eqV, eqAll, splice, fillA, List.replicate, resAll, resA, zm, zg, cfC, ev_len, hlenl, hlenb, a184, pureF, worksG]
    exact .app _ _
  have fmade := fun m : MM => made_eq m c0
  have hri := made_right c0
  have hq8 : (madeC c0).q ≤ 8 := by unfold madeC q3; simp only; split <;> (try split) <;> omega
  generalize madeC c0 = c at fmade hri hq8
  have hp : thereP c (p0 % c.n) := by
    have := hri.1
    exact ⟨hri, Int.emod_nonneg _ (by omega), Int.emod_lt_of_pos _ (by omega)⟩
  have hbn := hri.1
  have fpick := fun m : MM => F10.pick_eq m p0 c.n (by omega) (by omega)
  generalize p0 % c.n = p at hp fpick
  simp only [cfC, List.cons_append, List.nil_append] at fmade
  simp (disch := first | assumption | omega | (simp only [zl] <;> omega) | (simp only [zn])) only [sqN, law09_PutKeeps, ↓zd, zk, Nat.reduceSub, Nat.reduceAdd, Nat.reduceMul, Nat.reduceLeDiff, Nat.reduceEqDiff, reduceIte, Int.reduceEq, Int.reduceBEq, Int.reduceLE, Int.reduceLT, Int.reduceNeg, Int.reduceAdd, Int.reduceSub, Int.reduceMul, List.map, AV.cells, List.all, AV.one, eqV, eqAll, splice, fillA, List.replicate, resAll, resA, zm, zg, cfC, ev_len, hlenl, hlenb, a133, fmade, a87, fpick, a134, hfe]
  have hB1 := hB.keep (Keep.app m0 [Chunk.cells 6 false (cfC c), .cells 6 false (cfC c0), .cells 6 false (cfC c)])
  have gb0 : (m0 ++ [Chunk.cells 6 false (cfC c), .cells 6 false (cfC c0), .cells 6 false (cfC c)])[m0.length]? = some (Chunk.cells 6 false (cfC c)) := by rw [get_mid0]; rfl
  have hfl := filled_runF (c := c) hB1 hb
  simp only [cfC] at hfl
  refine OK_fn hfl ?_
  rintro r1 m1 ⟨xs, k1, s1, x1, x2, hF⟩
  have gb1 := k1.get gb0
  have hk1 : Keep m0 m1 := (Keep.app m0 _).trans k1
  have hcn := cellsN_le c
  have hx : OkL c xs := ⟨x1, x2⟩
  clear hfl hB1 gb0 k1 fmade fpick
  simp (disch := first | assumption | omega | (simp only [zl] <;> omega) | (simp only [zn])) only [↓zd, zk, Nat.reduceSub, Nat.reduceAdd, Nat.reduceMul, Nat.reduceLeDiff, Nat.reduceEqDiff, reduceIte, Int.reduceEq, Int.reduceBEq, Int.reduceLE, Int.reduceLT, Int.reduceNeg, Int.reduceAdd, Int.reduceSub, Int.reduceMul, List.map, AV.cells, List.all, AV.one, eqV, eqAll, splice, fillA, List.replicate, resAll, resA, zm, zg, a135]
  refine OK_fn (mem_run s1 (by omega)) ?_
  rintro _ m2 ⟨st, v, rfl, k2, g2, rm, s2⟩
  have gb2 := k2.get gb1
  have hk2 := hk1.trans k2
  have hone := slOne s2
  simp only [AV.one] at hone
  have lb : m0.length < m2.length := (List.getElem?_eq_some_iff.1 gb2).1
  have hl1 : m1.length + 1 ≠ m0.length := by
    have := hk1.1
    omega
  have hj0 : m0.length ≤ m1.length + 1 := by have := hk1.1; omega
  generalize m1.length + 1 = j at g2 hl1 hj0 ⊢
  simp only [cfC] at gb2
  simp (disch := first | assumption | omega | (simp only [zl] <;> omega) | (simp only [zn])) only [↓zd, zk, Nat.reduceSub, Nat.reduceAdd, Nat.reduceMul, Nat.reduceLeDiff, Nat.reduceEqDiff, reduceIte, Int.reduceEq, Int.reduceBEq, Int.reduceLE, Int.reduceLT, Int.reduceNeg, Int.reduceAdd, Int.reduceSub, Int.reduceMul, List.map, AV.cells, List.all, AV.one, eqV, eqAll, splice, fillA, List.replicate, resAll, resA, zm, zg, memC, hone, gb2, cfC, a136]
  have hk3 : Keep m2 (m2 ++ [Chunk.cells 2 false [v, .int .u64 xs.length]]) := .app _ _
  have hrn := ring_run (c := c) (p := p) (hk3.get g2) rm hx
  simp only [cfC] at hrn
  refine OK_fn hrn ?_
  rintro was m3 ⟨k3, sa, _, _, ow⟩
  have gb3 := (hk3.trans k3).get gb2
  have g3 := (hk3.trans k3).get g2
  have hk4 : Keep m0 m3 := hk2.trans (hk3.trans k3)
  have hwlen := sa.len
  have hl3 := k3.1
  have hbl : m0.length < (m2 ++ [Chunk.cells 2 false [v, AV.int .u64 xs.length]]).length := by simp only [List.length_append, List.length_singleton]; omega
  clear hrn hk3 k3 k2 g2 gb2 gb1 s2 s1 hk2 hk1 lb hone
  simp (disch := first | assumption | omega | (simp only [zl] <;> omega) | (simp only [zn])) only [↓zd, zk, Nat.reduceSub, Nat.reduceAdd, Nat.reduceMul, Nat.reduceLeDiff, Nat.reduceEqDiff, reduceIte, Int.reduceEq, Int.reduceBEq, Int.reduceLE, Int.reduceLT, Int.reduceNeg, Int.reduceAdd, Int.reduceSub, Int.reduceMul, List.map, AV.cells, List.all, AV.one, eqV, eqAll, splice, fillA, List.replicate, resAll, resA, zm, zg, gb3, a185, hpe]
  have hnw := pnew_run (m := m3) (c := c) (p := p) (g := 999)
  simp only [cfC] at hnw
  refine OK_fn hnw ?_
  rintro _ M0 ⟨xj, hv, rfl, hxl, k5, hpm, hfr⟩
  have hns : newS c p 999 = ⟨1, 0, [], [999]⟩ := if_pos ⟨hp, by omega⟩
  rw [hns] at hpm
  have gbM := k5.get gb3
  have gjM := k5.get g3
  have saM := sa.keep k5
  have owM := ow.keep (m' := M0) fun q C _ hq => k5.get hq
  have hLM := hL.keep (hk4.trans k5)
  have hk0 : Keep m0 M0 := hk4.trans k5
  have lb3 : m0.length < m3.length := (List.getElem?_eq_some_iff.1 gb3).1
  have hxb : m0.length ≠ xj ∧ m0.length ≠ j := ⟨by omega, fun h => hl1 h.symm⟩
  have hx0 : m0.length ≤ xj := by omega
  have hl5 := k5.1
  have hwB : ∀ q o n cc, was = .sl q o n cc → q < M0.length := by
    intro q o n cc hq
    rcases ow with ⟨_, _, h⟩ | ⟨q2, h, _, _, h5⟩
    · rw [h] at hq; cases hq
    · rw [h] at hq; injection hq with e1; omega
  have hbase : (m2 ++ [Chunk.cells 2 false [v, AV.int .u64 xs.length]]).length ≤ M0.length := by omega
  have hwp : W64 (xs.getD (wrdN c p) 0) := getD_64 hx.2 _
  have hszq : sz (xs.getD (wrdN c p) 0) ≤ c.q := hF.at' p hp
  have hA : ((ringL c p xs).length : Int) = sz (xs.getD (wrdN c p) 0) := by
    rw [ringL_there hp, ringW_len]
    have h0 : 0 ≤ sz (xs.getD (wrdN c p) 0) := by unfold sz; omega
    unfold ringN; rw [if_pos hszq]; omega
  have hV0 : KV c p (xs.getD (wrdN c p) 0) (ringL c p xs) 0 0 ⟨1, 0, [], [999]⟩ xs := by
    refine ⟨hx, (dW_zero hwp).symm, Nat.zero_le _, fun k _ k2 => ?_, rfl, .inl ⟨rfl, Nat.le_refl _⟩⟩
    have hlen : (ringL c p xs).length = ringN c (xs.getD (wrdN c p) 0) := by rw [ringL_there hp, ringW_len]
    have hg : (ringL c p xs).getD k 0 = ringAt c p xs (xs.getD (wrdN c p) 0) k := by rw [List.getD_eq_getElem?_getD (l := ringL c p xs), ringL_there hp, ringW_get _ _ _ _ (by omega)]; rfl
    rw [hg]; rfl
  have hS0 : KpS M0 c p j xj (ringL c p xs) 0 ⟨1, 0, [], [999]⟩ .nils xj xj .nils hv xs M0 := ⟨.refl _, hpm, ⟨st, _, gjM, rm⟩, Rw.nil, fun h => by simp at h, fun h => by simp at h, .inl rfl, fun h => by simp at h, ⟨by unfold W64; simp, .inr ⟨hp, .inl rfl⟩, by simp⟩⟩
  generalize hw0 : xs.getD (wrdN c p) 0 = w0 at hwp hszq hA hV0
  generalize ringL c p xs = A at sa saM ow owM hwlen hA hV0 hS0
  have hgbM : M0[m0.length]? = some (.cells 6 false (cfC c)) := gbM
  simp (disch := first | assumption | omega | (simp only [zl] <;> omega) | (simp only [zn])) only [↓zd, zk, Nat.reduceSub, Nat.reduceAdd, Nat.reduceMul, Nat.reduceLeDiff, Nat.reduceEqDiff, reduceIte, Int.reduceEq, Int.reduceBEq, Int.reduceLE, Int.reduceLT, Int.reduceNeg, Int.reduceAdd, Int.reduceSub, Int.reduceMul, List.map, AV.cells, List.all, AV.one, eqV, eqAll, splice, fillA, List.replicate, resAll, resA, zm, zg, gbM, ev_len, hwlen]
  clear hpm ow sa g3 gb3 k5 hL hB hlenb hfr hF rm x1 x2 hx hns hk4
  generalize hbb : m0.length = bb at hgbM hxb hx0 hj0 gbM hbl ⊢
  have hnx : ∀ ro L, M0[xj]? ≠ some (.cells 1 ro L) := fun ro L h => by have := hS0.pm.get; rw [h] at this; cases this
  have hnj : ∀ ro L, M0[j]? ≠ some (.cells 1 ro L) := fun ro L h => by rw [gjM] at h; cases h
  refine W_loop (KpI M0 c0 c p bv lv was bb j xj w0 A) 60 (by simp only [FUEL]; omega) ⟨0, by omega, rfl, 0, _, _, _, false, _, _, _, _, _, _, _, _, _, _, _, _, _, rfl, hS0, .inl ⟨rfl, by simp, hV0⟩⟩ ?_
  rintro k e m ⟨i, hi, rfl, d, s, xs', fl, dn, gone, tv, hv', qg, qt, y13, y14, y15, y16, y17, y18, y19, y20, rfl, hS, hV⟩
  have gbm := hS.keep.get hgbM hxb.1 hxb.2
  simp only [cfC] at gbm
  rcases hV with ⟨rfl, ha, hV⟩ | ⟨rfl, ha, hO, hE⟩
  · have hlt := hV.lt (by omega) hq8
    simp (disch := first | assumption | omega | (simp only [zl] <;> omega) | (simp only [zn])) only [kpC, kpB, sqN, law09_PutKeeps, ↓zd, zk, Nat.reduceSub, Nat.reduceAdd, Nat.reduceMul, Nat.reduceLeDiff, Nat.reduceEqDiff, reduceIte, Int.reduceEq, Int.reduceBEq, Int.reduceLE, Int.reduceLT, Int.reduceNeg, Int.reduceAdd, Int.reduceSub, Int.reduceMul, List.map, AV.cells, List.all, AV.one, eqV, eqAll, splice, fillA, List.replicate, resAll, resA, zm, zg, gbm]
    refine W_mono (kpT_run (ls := ls) (was := was) hp hA hszq hq8 hwp hgbM hxb hLM hl hnx hnj hS hV ha hlt) ?_
    rintro _ e2 m2 ⟨rfl, d2, s2, xs2, fl2, dn2, gone2, tv2, hv2, qg2, qt2, z13, z14, z15, z16, z17, z18, z19, z20, rfl, hS2, hV2⟩
    simp only [blockQ_normal, thenQ_normal]
    simp (disch := first | assumption | omega | (simp only [zl] <;> omega) | (simp only [zn])) only [kpI, kpB, sqN, law09_PutKeeps, ↓zd, zk, Nat.reduceSub, Nat.reduceAdd, Nat.reduceMul, Nat.reduceLeDiff, Nat.reduceEqDiff, reduceIte, Int.reduceEq, Int.reduceBEq, Int.reduceLE, Int.reduceLT, Int.reduceNeg, Int.reduceAdd, Int.reduceSub, Int.reduceMul, List.map, AV.cells, List.all, AV.one, eqV, eqAll, splice, fillA, List.replicate, resAll, resA, zm, zg]
    exact ⟨60 - (i + 1), by omega, i + 1, by omega, rfl, d2, s2, xs2, fl2, dn2, gone2, tv2, hv2, qg2, qt2, _, _, _, _, _, _, _, _, rfl, hS2, hV2⟩
  · have hfin : W Gkp kpL (resQ [.loc 5] fun r m' => r = .bool true ∧ Keep m0 m') [.agg (cfC c0), .int .i64 p, bv, lv, .ptr bb 0, .bool false, .ptr j 0, was, .ptr xj 0, gone, .bool fl, .bool true, .int .i64 i, y13, y14, y15, y16, .bool false, y18, y19, y20] m := by
      obtain ⟨hE1, hE2, hE3⟩ := hE
      obtain ⟨st1, o1, gj1, rm1⟩ := hS.mem
      have hrn := ring_run (c := c) (p := p) gj1 rm1 hO
      have hRl := ringL_le c p xs'
      simp only [cfC] at hrn
      have hhs := hS.ok.h
      simp (disch := first | assumption | omega | (simp only [zl] <;> omega) | (simp only [zn])) only [kpL, sqT, law09_PutKeeps, ↓zd, zk, Nat.reduceSub, Nat.reduceAdd, Nat.reduceMul, Nat.reduceLeDiff, Nat.reduceEqDiff, reduceIte, Int.reduceEq, Int.reduceBEq, Int.reduceLE, Int.reduceLT, Int.reduceNeg, Int.reduceAdd, Int.reduceSub, Int.reduceMul, List.map, AV.cells, List.all, AV.one, eqV, eqAll, splice, fillA, List.replicate, resAll, resA, zm, zg, gbm, a136]
      refine OK_fn hrn ?_
      rintro now m5 ⟨k5, s5, _, _, _⟩
      have hS5 := hS.more k5
      have gb5 := k5.get gbm
      simp (disch := first | assumption | omega | (simp only [zl] <;> omega) | (simp only [zn])) only [↓zd, zk, Nat.reduceSub, Nat.reduceAdd, Nat.reduceMul, Nat.reduceLeDiff, Nat.reduceEqDiff, reduceIte, Int.reduceEq, Int.reduceBEq, Int.reduceLE, Int.reduceLT, Int.reduceNeg, Int.reduceAdd, Int.reduceSub, Int.reduceMul, List.map, AV.cells, List.all, AV.one, eqV, eqAll, splice, fillA, List.replicate, resAll, resA, zm, zg, a187]
      refine OK_fn (pover_run hS5.pm (by omega)) ?_
      rintro over m6 ⟨k6, s6, _⟩
      rw [if_pos ha] at s6
      have hS6 := hS5.more k6
      have gb6 := k6.get gb5
      have s5' := s5.keep k6
      have hwas : SI m6 true A was := hS6.keep.sl (szj := 0) (szk := 0) hnx hnj saM
      have ow6 : Own (m2 ++ [Chunk.cells 2 false [v, AV.int .u64 xs.length]]) m6 1 A.length (iC A) was := owM.keep fun q C _ hq => hS6.keep.get hq (fun h => hnx false C (by rw [← h]; exact hq)) (fun h => hnj false C (by rw [← h]; exact hq))
      have hg6 := hS6.rg.si
      have hk6 := hS6.keep
      have hl6 := hk6.1
      clear hrn hS5 k5 k6 hS hS6 gb5 gbm gj1 rm1 s5 hO
      generalize ringL c p xs' = R at s5' hE1 hE2 hE3 hRl
      generalize s.hs = H at s6 hE1 hE3 hhs
      have hln := s5'.len
      have hlo := s6.len
      obtain ⟨a1, m7, hap1, o7, l7, f7⟩ := own_pushs (m0 := m6) (xs := []) own_nil hg6 (by simp) (by rw [List.length_take]; omega) (Nat.le_refl _)
      have k7 : Keep m6 m7 := ⟨l7, fun i hi => f7 i hi (.inr hi)⟩
      obtain ⟨a2, m8, hap2, o8, l8, f8⟩ := own_pushs o7 (s5'.keep k7) (by rw [List.nil_append, List.length_take]; omega) (by omega) l7
      have k8 : Keep m6 m8 := ⟨by omega, fun i hi => by rw [f8 i (by omega) (.inr hi), k7.2 i hi]⟩
      obtain ⟨a3, m9, hap3, o9, l9, f9⟩ := own_pushs o8 (s6.keep k8) (by rw [List.nil_append, List.length_append, List.length_take]; omega) (by omega) k8.1
      have k9 : Keep m6 m9 := ⟨by omega, fun i hi => by rw [f9 i (by omega) (.inr hi), k8.2 i hi]⟩
      have ow9 := ow6.keep (m' := m9) fun q C _ hq => k9.get hq
      obtain ⟨w', m10, hap4, o10, l10, f10⟩ := own_push3 ow9 999 (by omega) (by omega) hwB
      have hsa := (Own.si o9).1
      rw [List.nil_append, hE1] at hsa
      have hsa10 : SI m10 true (A ++ [999]) a3 := by
        refine Sl.stay hsa fun q oo cap hq h0 => ?_
        have h9 := (Sl.lt hsa hq h0).1
        refine f10 q h9 (.inl ?_)
        rcases o9 with ⟨_, _, h⟩ | ⟨q2, h, _, h3, _⟩
        · rw [h] at hq; cases hq
        · rw [h] at hq; injection hq with e1; omega
      have e9 := Fn_eq (same_run hsa10 (Own.si o10).1 (by rw [List.length_append, List.length_singleton]; simp only [FUEL]; omega))
      rw [← hse] at e9
      simp only [decide_true] at e9
      have hbq := there_bounds hp
      have eq2 : c.q.tdiv 2 = c.q / 2 := Int.tdiv_eq_ediv_of_nonneg (by omega)
      have gb9 := k9.get gb6
      have hfk : Keep m0 m10 := by
        have h0 := hk0.1
        refine ⟨by omega, fun i hi => ?_⟩
        rw [f10 i (by omega) (.inr (by omega)), k9.2 i (by omega), hk6.2 i (by omega) (by omega) (by omega), hk0.2 i hi]
      have gb10 : m10[bb]? = some (.cells 6 false (cfC c)) := by
        rw [f10 bb (List.getElem?_eq_some_iff.1 gb9).1 (.inr (by omega))]; exact gb9
      simp only [cfC] at gb10
      rcases Nat.eq_zero_or_pos H.length with hH | hH
      · rw [hH] at hlo
        simp (disch := first | assumption | omega | (simp only [zl] <;> omega) | (simp only [zn])) only [↓zd, zk, Nat.reduceSub, Nat.reduceAdd, Nat.reduceMul, Nat.reduceLeDiff, Nat.reduceEqDiff, reduceIte, Int.reduceEq, Int.reduceBEq, Int.reduceLE, Int.reduceLT, Int.reduceNeg, Int.reduceAdd, Int.reduceSub, Int.reduceMul, List.map, AV.cells, List.all, AV.one, eqV, eqAll, splice, fillA, List.replicate, resAll, resA, zm, zg, ev_len, hlo, Int.ofNat_zero, evA, hap1, hap2, hap3, fillA, repeatL, List.flatten_cons, List.flatten_nil, hap4, a84, e9, hln, gb10, hE2, a184, pureF, worksG]
        exact hfk
      · obtain ⟨rfl, hE4, hE5⟩ := hE3 hH
        simp (disch := first | assumption | omega | (simp only [zl] <;> omega) | (simp only [zn])) only [↓zd, zk, Nat.reduceSub, Nat.reduceAdd, Nat.reduceMul, Nat.reduceLeDiff, Nat.reduceEqDiff, reduceIte, Int.reduceEq, Int.reduceBEq, Int.reduceLE, Int.reduceLT, Int.reduceNeg, Int.reduceAdd, Int.reduceSub, Int.reduceMul, List.map, AV.cells, List.all, AV.one, eqV, eqAll, splice, fillA, List.replicate, resAll, resA, zm, zg, ev_len, hlo, hln, gb6, eq2, hE4, hE5, evA, hap1, hap2, hap3, fillA, repeatL, List.flatten_cons, List.flatten_nil, hap4, a84, e9, gb10, hE2, a184, pureF, worksG]
        exact hfk
    rcases Nat.lt_or_ge i 60 with h4 | h4
    · simp (disch := first | assumption | omega | (simp only [zl] <;> omega) | (simp only [zn])) only [kpC, kpB, sqN, law09_PutKeeps, ↓zd, zk, Nat.reduceSub, Nat.reduceAdd, Nat.reduceMul, Nat.reduceLeDiff, Nat.reduceEqDiff, reduceIte, Int.reduceEq, Int.reduceBEq, Int.reduceLE, Int.reduceLT, Int.reduceNeg, Int.reduceAdd, Int.reduceSub, Int.reduceMul, List.map, AV.cells, List.all, AV.one, eqV, eqAll, splice, fillA, List.replicate, resAll, resA, zm, zg, gbm]
      exact hfin
    · by_cases h5 : (i : Int) < 60 + c.q * 20
      · simp (disch := first | assumption | omega | (simp only [zl] <;> omega) | (simp only [zn])) only [kpC, kpB, sqN, law09_PutKeeps, ↓zd, zk, Nat.reduceSub, Nat.reduceAdd, Nat.reduceMul, Nat.reduceLeDiff, Nat.reduceEqDiff, reduceIte, Int.reduceEq, Int.reduceBEq, Int.reduceLE, Int.reduceLT, Int.reduceNeg, Int.reduceAdd, Int.reduceSub, Int.reduceMul, List.map, AV.cells, List.all, AV.one, eqV, eqAll, splice, fillA, List.replicate, resAll, resA, zm, zg, gbm]
        exact hfin
      · simp (disch := first | assumption | omega | (simp only [zl] <;> omega) | (simp only [zn])) only [kpC, kpB, sqN, law09_PutKeeps, ↓zd, zk, Nat.reduceSub, Nat.reduceAdd, Nat.reduceMul, Nat.reduceLeDiff, Nat.reduceEqDiff, reduceIte, Int.reduceEq, Int.reduceBEq, Int.reduceLE, Int.reduceLT, Int.reduceNeg, Int.reduceAdd, Int.reduceSub, Int.reduceMul, List.map, AV.cells, List.all, AV.one, eqV, eqAll, splice, fillA, List.replicate, resAll, resA, zm, zg, gbm]
        exact hfin
end Go.Am.F09
end
section
namespace Go.Am.F09
open Go.Am.F06 Go.Am.F10
def Gkn : List (Nat × AFun Ob) := [(133, F10.c_docs_Made), (159, F10.c_conf_Config_Word), (194, amFunc Gpy law09_PutPlays), (203, amFunc Gly law09_PutLayPlays), (188, amFunc Gkp law09_PutKeeps), (200, amFunc Gla law09_PutLayAll), (198, amFunc Gnone law09_PutNone), (184, pureF worksG)]
structure Kn4 (mm : MM) (i : Nat) (bs ls ts : List Int) (ps : List Pk) (b l y t : AV) (qb ql qy qt : Nat) : Prop where
  lb : bs.length = i
  ll : ls.length = i
  lp : ps.length = i
  lt : ts.length = i
  hb : ∀ x, x ∈ bs → 0 ≤ x ∧ x < 256
  hl : ∀ x, x ∈ ls → x < 9223372036854775808
  hp : ∀ x, x ∈ ps → W64 x.v
  ht : ∀ x, x ∈ ts → 0 ≤ x ∧ x < 256
  rb : Rw mm qb i 1 (bs.map (AV.int .u8)) b
  rl : Rw mm ql i 1 (iC ls) l
  ry : Rw mm qy i 3 (ps.flatMap pkC) y
  rt : Rw mm qt i 1 (ts.map (AV.int .u8)) t
  ne : 0 < i → (qb ≠ ql ∧ qb ≠ qy ∧ qb ≠ qt) ∧ (ql ≠ qy ∧ ql ≠ qt) ∧ qy ≠ qt
theorem _root_.Go.Am.F10.Rw.n6 {m : MM} {q n sz b : Nat} {l L : List AV} {v : AV} (h : Rw m q n sz l v) (hb : m[b]? = some (.cells 6 false L)) (hs : sz ≠ 6) : n = 0 ∨ b ≠ q := by
  rcases h with ⟨h, _⟩ | ⟨_, _, h⟩
  · exact .inl h
  · exact .inr fun hh => by rw [hh, h] at hb; injection hb with hb; injection hb with hb; exact hs hb
def knB : AC := match sqN 2 law09_PutKnown.body with | .seq _ (.block _ (.loop b)) => b | _ => .skip
def knC : AC := match knB with | .seq c _ => c | _ => .skip
def knX : AC := match knB with | .seq _ (.seq (.block _ r) _) => r | _ => .skip
def knI : AC := match knB with | .seq _ (.seq _ i) => i | _ => .skip
def knL : AC := sqN 5 knX
def knS : AC := sqN 6 knX
def knR : AC := sqT 7 knX
def knE : AC := sqT 3 law09_PutKnown.body
def KmE (m : MM) (c : Cf) (cb n i : Nat) (b l y t : AV) (kk : Int) (e : List AV) : Prop := ∃ z9 z10 z11 z12 : AV, e = [.bool false, .int .i64 kk, .int .i64 n, b, l, y, t, .ptr cb 0, .int .i64 i, z9, z10, z11, z12] ∧ 0 ≤ kk ∧ kk < 100003 ∧ m[cb]? = some (.cells 6 false (cfC c))
def KmJ (c : Cf) (cb n : Nat) (k : Nat) (e : List AV) (m : MM) : Prop := ∃ (i : Nat) (kk : Int) (bs ls ts : List Int) (ps : List Pk) (b l y t : AV) (qb ql qy qt : Nat), k = 24 - i ∧ i ≤ 24 ∧ KmE m c cb n i b l y t kk e ∧ Kn4 m i bs ls ts ps b l y t qb ql qy qt
set_option maxHeartbeats 16000000 in
theorem knL_run {m : MM} {c : Cf} {cb n : Nat} {kk : Int} {z8 z9 z10 z11 z12 : AV} (hc : 1 ≤ c.n ∧ c.n ≤ 8) (hq : 0 ≤ c.q ∧ c.q ≤ 64) (hk0 : 0 ≤ kk) (hk1 : kk < 100003) (gc : m[cb]? = some (.cells 6 false (cfC c))) :
    W Gkn knL (fun x e m' => x = .normal ∧ ∃ (kk : Int) (bs ls ts : List Int) (ps : List Pk) (b l y t : AV) (qb ql qy qt : Nat), KmE m' c cb n 24 b l y t kk e ∧ Kn4 m' 24 bs ls ts ps b l y t qb ql qy qt) [.bool false, .int .i64 kk, .int .i64 n, .nils, .nils, .nils, .nils, .ptr cb 0, z8, z9, z10, z11, z12] m := by
  have a159 : assoc Gkn 159 = some F10.c_conf_Config_Word := rfl
  generalize Gkn = G at a159 ⊢
  simp (disch := first | assumption | omega | (simp only [zl] <;> omega) | (simp only [zn])) only [knL, knX, knB, sqN, law09_PutKnown, ↓zd, zk, Nat.reduceSub, Nat.reduceAdd, Nat.reduceMul, Nat.reduceLeDiff, Nat.reduceEqDiff, reduceIte, Int.reduceEq, Int.reduceBEq, Int.reduceLE, Int.reduceLT, Int.reduceNeg, Int.reduceAdd, Int.reduceSub, Int.reduceMul, List.map, AV.cells, List.all, AV.one, eqV, eqAll, splice, fillA, List.replicate, resAll, resA, zm, zg]
  refine W_loop (KmJ c cb n) 24 (by simp only [FUEL]; omega) ⟨0, kk, [], [], [], [], .nils, .nils, .nils, .nils, 0, 0, 0, 0, rfl, by omega, ⟨_, _, _, _, rfl, hk0, hk1, gc⟩, ⟨rfl, rfl, rfl, rfl, (fun x h => by cases h), (fun x h => by cases h), (fun x h => by cases h), (fun x h => by cases h), Rw.nil, Rw.nil, Rw.nil, Rw.nil, fun h => absurd h (Nat.lt_irrefl _)⟩⟩ ?_
  clear hk0 hk1 gc
  rintro k e m ⟨i, kk, bs, ls, ts, ps, b, l, y, t, qb, ql, qy, qt, rfl, hi, ⟨y9, y10, y11, y12, rfl, hk0, hk1, gc⟩, h3⟩
  rcases Nat.lt_or_ge i 24 with hi2 | hi2
  · obtain ⟨lb, ll, lp, lt, hb, hl, hp, ht, rb, rl, ry, rt, ne⟩ := h3
    have e5 : kk.tmod 5 = kk % 5 := Int.tmod_eq_emod_of_nonneg hk0
    have e50 : kk.tmod 50 = kk % 50 := Int.tmod_eq_emod_of_nonneg hk0
    have e7 : kk.tmod 7 = kk % 7 := Int.tmod_eq_emod_of_nonneg hk0
    have e3 : kk.tmod 3 = kk % 3 := Int.tmod_eq_emod_of_nonneg hk0
    have en : kk.tmod c.n = kk % c.n := Int.tmod_eq_emod_of_nonneg hk0
    have e77 : kk.tdiv 7 = kk / 7 := Int.tdiv_eq_ediv_of_nonneg hk0
    have h70 := Int.emod_nonneg kk (b := 7) (by omega)
    have h71 := Int.emod_lt_of_pos kk (b := 7) (by omega)
    have e74 : (kk % 7).tdiv 4 = kk % 7 / 4 := Int.tdiv_eq_ediv_of_nonneg h70
    have eq1 : (kk / 7).tmod (c.q + 1) = kk / 7 % (c.q + 1) := Int.tmod_eq_emod_of_nonneg (by omega)
    have hq0 := Int.emod_nonneg (kk / 7) (b := c.q + 1) (by omega)
    have hq1 := Int.emod_lt_of_pos (kk / 7) (b := c.q + 1) (by omega)
    have h50 := Int.emod_nonneg kk (b := 50) (by omega)
    have h51 := Int.emod_lt_of_pos kk (b := 50) (by omega)
    have h30 := Int.emod_nonneg kk (b := 3) (by omega)
    have h31 := Int.emod_lt_of_pos kk (b := 3) (by omega)
    have hmul : (kk % 7 / 4) * (kk % 3) = 0 ∨ (kk % 7 / 4) * (kk % 3) = kk % 3 := by
      rcases (show kk % 7 / 4 = 0 ∨ kk % 7 / 4 = 1 by omega) with h | h <;> rw [h] <;> simp
    have ekk : (kk * 31 + 7 * (i : Int) + 11).tmod 100003 = (kk * 31 + 7 * (i : Int) + 11) % 100003 := Int.tmod_eq_emod_of_nonneg (by omega)
    have hm0 := Int.emod_nonneg (kk * 31 + 7 * (i : Int) + 11) (b := 100003) (by omega)
    have hm1 := Int.emod_lt_of_pos (kk * 31 + 7 * (i : Int) + 11) (b := 100003) (by omega)
    have eu : IntKind.u32.wrap (kk % 7) = kk % 7 := by rw [wrap32]; omega
    have n0 : ¬ (c.n = 0) := by omega
    have n1 : ¬ (c.q + 1 = 0) := by omega
    have hwr := fun m : MM => word_run (m := m) c (kk % c.n)
    -- the pushes
    obtain ⟨b', m1, hap1, rb1, hl1, hf1⟩ := rb.push (x := [.int .u8 (kk % 256)]) (bytes := 1) (by rw [List.length_map]; omega) rfl (u8_one _) rfl (by omega) (by omega)
    have rl1 := rl.keep (m' := m1) (fun h => hf1 _ (rl.lt h) (.inr (ne h).1.1.symm))
    have ry1 := ry.keep (m' := m1) (fun h => hf1 _ (ry.lt h) (.inr (ne h).1.2.1.symm))
    have rt1 := rt.keep (m' := m1) (fun h => hf1 _ (rt.lt h) (.inr (ne h).1.2.2.symm))
    have gc1 : m1[cb]? = some (.cells 6 false (cfC c)) := (hf1 _ (List.getElem?_eq_some_iff.1 gc).1 (rb.n6 gc (by decide))).trans gc
    obtain ⟨l', m2, hap2, rl2, hl2, hf2⟩ := rl1.push (x := [.int .i64 (kk % 50 - 1)]) (bytes := 8) (by rw [iC_len]; omega) rfl (iC_one _) rfl (by omega) (by omega)
    have hb1 := rb1.lt (by omega)
    have old : ∀ {q : Nat}, (0 < i → q < m.length) → ∀ {r : Nat}, m.length < r → i = 0 ∨ r ≠ q := fun hq r hr => by
      by_cases h : 0 < i
      · have := hq h; right; omega
      · left; omega
    have rb2 := rb1.keep (m' := m2) (fun _ => hf2 _ hb1 (old rl.lt (by omega)))
    have ry2 := ry1.keep (m' := m2) (fun h => hf2 _ (ry1.lt h) (.inr (ne h).2.1.1.symm))
    have rt2 := rt1.keep (m' := m2) (fun h => hf2 _ (rt1.lt h) (.inr (ne h).2.1.2.symm))
    have gc2 : m2[cb]? = some (.cells 6 false (cfC c)) := (hf2 _ (List.getElem?_eq_some_iff.1 gc1).1 (rl1.n6 gc1 (by decide))).trans gc1
    have hl22 := rl2.lt (by omega)
    obtain ⟨mK, hmK⟩ : ∃ mK : MM, mK = m2 ++ [Chunk.cells 6 false (cfC c), .cells 7 false (cfC c ++ [.int .i64 (kk % c.n)]), .cells 6 false (cfC c)] := ⟨_, rfl⟩
    have kK : Keep m2 mK := by rw [hmK]; exact .app _ _
    have lK : mK.length = m2.length + 3 := by rw [hmK]; simp
    have rbK := rb2.keep (m' := mK) (fun _ => kK.2 _ (by omega))
    have rlK := rl2.keep (m' := mK) (fun _ => kK.2 _ hl22)
    have ryK := ry2.keep (m' := mK) (fun h => kK.2 _ (ry2.lt h))
    have rtK := rt2.keep (m' := mK) (fun h => kK.2 _ (rt2.lt h))
    have gcK := kK.get gc2
    obtain ⟨y', m3, hap3, ry3, hl3, hf3⟩ := ryK.push (x := pkC ⟨decide (kk % 5 = 0), addrA c (kk % c.n) 0, kk % 7 * 4294967296 + (kk % 7 + kk / 7 % (c.q + 1))⟩) (bytes := 24) (by rw [pks_len]; omega) rfl (pk_one _) rfl (by omega) (by omega)
    have rb3 := rbK.keep (m' := m3) (fun _ => hf3 _ (by omega) (old ry.lt (by omega)))
    have rl3 := rlK.keep (m' := m3) (fun _ => hf3 _ (by omega) (old ry.lt (by omega)))
    have rt3 := rtK.keep (m' := m3) (fun h => hf3 _ (rtK.lt h) (.inr (ne h).2.2.symm))
    have gc3 : m3[cb]? = some (.cells 6 false (cfC c)) := (hf3 _ (List.getElem?_eq_some_iff.1 gcK).1 (ryK.n6 gcK (by decide))).trans gcK
    have hly3 := ry3.lt (by omega)
    obtain ⟨t', m4, hap4, rt4, hl4, hf4⟩ := rt3.push (x := [.int .u8 (kk % 7 / 4 * (kk % 3) % 256)]) (bytes := 1) (by rw [List.length_map]; omega) rfl (u8_one _) rfl (by omega) (by omega)
    have rb4 := rb3.keep (m' := m4) (fun _ => hf4 _ (by omega) (old rt.lt (by omega)))
    have rl4 := rl3.keep (m' := m4) (fun _ => hf4 _ (by omega) (old rt.lt (by omega)))
    have ry4 := ry3.keep (m' := m4) (fun _ => hf4 _ (by omega) (old rt.lt (by omega)))
    have gc4 : m4[cb]? = some (.cells 6 false (cfC c)) := (hf4 _ (List.getElem?_eq_some_iff.1 gc3).1 (rt3.n6 gc3 (by decide))).trans gc3
    have o1 := rb.one
    have o2 := rl.one
    have o3 := ry.one
    have o4 := rt.one
    simp only [AV.one] at o1 o2 o3 o4
    simp only [pkC] at hap3
    subst hmK
    simp only [cfC, List.cons_append, List.nil_append, List.append_assoc, List.length_append, List.length_cons, List.length_nil, Nat.zero_add, Nat.reduceAdd] at hwr hap3 gc gc1 gc2
    have gc2' := fun K : MM => (Keep.app m2 K).get gc2
    simp (disch := first | assumption | omega | (simp only [zl] <;> omega) | (simp only [zn])) only [↓zd, zk, Nat.reduceSub, Nat.reduceAdd, Nat.reduceMul, Nat.reduceLeDiff, Nat.reduceEqDiff, reduceIte, Int.reduceEq, Int.reduceBEq, Int.reduceLE, Int.reduceLT, Int.reduceNeg, Int.reduceAdd, Int.reduceSub, Int.reduceMul, List.map, AV.cells, List.all, AV.one, eqV, eqAll, splice, fillA, List.replicate, resAll, resA, zm, zg, evA, fillA, repeatL, List.flatten_cons, List.flatten_nil, wrap8, e5, e50, e7, e3, en, e77, e74, eq1, ekk, eu, n0, n1, o1, o2, o3, o4, gc2, gc2', a159, hwr, shl_eq, hap1, hap2, hap3, hap4]
    refine ⟨24 - (i + 1), by omega, i + 1, (kk * 31 + 7 * (i : Int) + 11) % 100003, bs ++ [kk % 256], ls ++ [kk % 50 - 1], ts ++ [kk % 7 / 4 * (kk % 3) % 256], ps ++ [⟨decide (kk % 5 = 0), addrA c (kk % c.n) 0, kk % 7 * 4294967296 + (kk % 7 + kk / 7 % (c.q + 1))⟩], b', l', y', t', m.length + 1, m1.length + 1, m2.length + 3 + 1, m3.length + 1, rfl, by omega, ⟨_, _, _, _, rfl, hm0, hm1, gc4⟩, ⟨by simp <;> omega, by simp <;> omega, by simp <;> omega, by simp <;> omega, ?_, ?_, ?_, ?_, ?_, ?_, ?_, ?_, fun _ => by omega⟩⟩
    · intro x hx
      rcases List.mem_append.1 hx with h | h
      · exact hb x h
      · rw [List.mem_singleton.1 h]; omega
    · intro x hx
      rcases List.mem_append.1 hx with h | h
      · exact hl x h
      · rw [List.mem_singleton.1 h]; omega
    · intro x hx
      rcases List.mem_append.1 hx with h | h
      · exact hp x h
      · rw [List.mem_singleton.1 h]; unfold W64; simp only; omega
    · intro x hx
      rcases List.mem_append.1 hx with h | h
      · exact ht x h
      · rw [List.mem_singleton.1 h]; omega
    · rw [List.map_append]; exact rb4
    · rw [iC_app]; exact rl4
    · rw [List.flatMap_append]
      rw [lK] at ry4
      simpa using ry4
    · rw [List.map_append]; exact rt4
  · simp (disch := first | assumption | omega | (simp only [zl] <;> omega) | (simp only [zn])) only [↓zd, zk, Nat.reduceSub, Nat.reduceAdd, Nat.reduceMul, Nat.reduceLeDiff, Nat.reduceEqDiff, reduceIte, Int.reduceEq, Int.reduceBEq, Int.reduceLE, Int.reduceLT, Int.reduceNeg, Int.reduceAdd, Int.reduceSub, Int.reduceMul, List.map, AV.cells, List.all, AV.one, eqV, eqAll, splice, fillA, List.replicate, resAll, resA, zm, zg]
    have : i = 24 := by omega
    subst this
    exact ⟨kk, bs, ls, ts, ps, b, l, y, t, qb, ql, qy, qt, ⟨_, _, _, _, rfl, hk0, hk1, gc⟩, h3⟩
set_option maxHeartbeats 16000000 in
theorem knS_run {m : MM} {c : Cf} {cb n : Nat} {kk : Int} {bs ls ts : List Int} {ps : List Pk} {b l y t z9 z10 z11 z12 : AV} {qb ql qy qt : Nat} (gc : m[cb]? = some (.cells 6 false (cfC c))) (h3 : Kn4 m 24 bs ls ts ps b l y t qb ql qy qt) :
    W Gkn knS (fun x e m' => x = .normal ∧ (∃ z9 z10 z11 z12 : AV, e = [.bool false, .int .i64 kk, .int .i64 n, b, l, y, t, .ptr cb 0, .int .i64 24, z9, z10, z11, z12]) ∧ m'[cb]? = some (.cells 6 false (cfC c)) ∧ ∃ bs', Kn4 m' 24 bs' ls ts ps b l y t qb ql qy qt) [.bool false, .int .i64 kk, .int .i64 n, b, l, y, t, .ptr cb 0, .int .i64 24, z9, z10, z11, z12] m := by
  generalize Gkn = G
  have e2 : (n : Int).tmod 2 = (n : Int) % 2 := Int.tmod_eq_emod_of_nonneg (by omega)
  by_cases h0 : (n : Int) % 2 = 0
  · obtain ⟨lb, ll, lp, lt, hb, hl, hp, ht, rb, rl, ry, rt, ne⟩ := h3
    obtain ⟨n1, n2, n3⟩ := ne (by omega)
    rcases rb with ⟨h, _⟩ | ⟨_, rfl, hq⟩
    · omega
    have hlen : (bs.map (AV.int .u8)).length = 24 := by rw [List.length_map]; exact lb
    have hne : cb ≠ qb := fun hh => by rw [hh, hq] at gc; cases gc
    have gc' := gc
    simp only [cfC, List.cons_append, List.nil_append] at gc'
    simp (disch := first | assumption | omega | (simp only [zl] <;> omega) | (simp only [zn])) only [knS, knX, knB, sqN, law09_PutKnown, ↓zd, zk, Nat.reduceSub, Nat.reduceAdd, Nat.reduceMul, Nat.reduceLeDiff, Nat.reduceEqDiff, reduceIte, Int.reduceEq, Int.reduceBEq, Int.reduceLE, Int.reduceLT, Int.reduceNeg, Int.reduceAdd, Int.reduceSub, Int.reduceMul, List.map, AV.cells, List.all, AV.one, eqV, eqAll, splice, fillA, List.replicate, resAll, resA, zm, zg, e2, h0, gc', hq, hlen, wrap8]
    have hset : (bs.map (AV.int .u8)).set 1 (.int .u8 (c.q % 256)) = (bs.set 1 (c.q % 256)).map (AV.int .u8) := by rw [List.map_set]
    rw [show Int.toNat 1 = 1 from rfl, hset]
    refine ⟨⟨_, _, _, _, rfl⟩, rfl, bs.set 1 (c.q % 256), by simpa using lb, ll, lp, lt, fun x hx => ?_, hl, hp, ht, .inr ⟨by omega, rfl, List.getElem?_set_self (List.getElem?_eq_some_iff.1 hq).1⟩, rl.keep fun _ => List.getElem?_set_ne n1.1, ry.keep fun _ => List.getElem?_set_ne n1.2.1, rt.keep fun _ => List.getElem?_set_ne n1.2.2, ne⟩
    rcases List.mem_or_eq_of_mem_set hx with h | h
    · exact hb x h
    · rw [h]; omega
  · simp (disch := first | assumption | omega | (simp only [zl] <;> omega) | (simp only [zn])) only [knS, knX, knB, sqN, law09_PutKnown, ↓zd, zk, Nat.reduceSub, Nat.reduceAdd, Nat.reduceMul, Nat.reduceLeDiff, Nat.reduceEqDiff, reduceIte, Int.reduceEq, Int.reduceBEq, Int.reduceLE, Int.reduceLT, Int.reduceNeg, Int.reduceAdd, Int.reduceSub, Int.reduceMul, List.map, AV.cells, List.all, AV.one, eqV, eqAll, splice, fillA, List.replicate, resAll, resA, zm, zg, e2, h0]
    exact ⟨⟨_, _, _, _, rfl⟩, gc, bs, h3⟩
theorem _root_.Go.Am.F10.Rw.take {m : MM} {q n : Nat} {xs : List Int} {v : AV} (h : Rw m q n 1 (iC xs) v) (hn : xs.length = n) {k : Nat} (hk : k ≤ n) : ∀ M, Keep m M → sliceA M 1 v none (some k) none = some (cutA v k) ∧ SI M false (xs.take k) (cutA v k) := fun M hM => by
  subst hn
  have hs : SI m false xs v := h.sl (by rw [iC_len]; omega)
  have hx : Nx m v := by
    rcases h with ⟨_, _, h⟩ | ⟨_, h, h'⟩
    · exact .inl h
    · exact .inr ⟨q, _, _, _, h, h'⟩
  exact si_take (hs.keep hM) (hx.keep hM) hk
theorem spk_rep {M : MM} {q n : Nat} (h : M[q]? = some (.cells 3 false (repeatL n [.bool false, .int .i64 0, .int .u64 0]))) : SPk M false (List.replicate n ⟨false, 0, 0⟩) (.sl q 0 n (some n)) := by
  have hl : (List.replicate n (⟨false, 0, 0⟩ : Pk)).length = n := List.length_replicate
  have e : (List.replicate n (⟨false, 0, 0⟩ : Pk)).flatMap pkC = repeatL n [.bool false, .int .i64 0, .int .u64 0] := by
    simp only [repeatL]
    clear h hl
    induction n with
    | zero => rfl
    | succ n ih => rw [List.replicate_succ, List.flatMap_cons, ih, List.replicate_succ, List.flatten_cons]; rfl
  have hp := pks_len (List.replicate n (⟨false, 0, 0⟩ : Pk))
  rw [hl] at hp
  rw [SPk, hl, e]
  rw [e] at hp
  exact ⟨hp, .inr ⟨q, 0, some n, rfl, fun _ => ⟨false, _, h, by rw [List.drop_zero, ← hp, List.take_length], by omega, fun h => by cases h⟩⟩⟩
theorem rep_w64 (n : Nat) : ∀ x, x ∈ List.replicate n (⟨false, 0, 0⟩ : Pk) → W64 x.v := fun x hx => by
  rw [List.eq_of_mem_replicate hx]; unfold W64; simp
set_option maxHeartbeats 16000000 in
theorem knR_run {m : MM} {c : Cf} {cb n : Nat} {kk : Int} {bs ls ts : List Int} {ps : List Pk} {b l y t z9 z10 z11 z12 : AV} {qb ql qy qt : Nat} (hn : n < 60) (gc : m[cb]? = some (.cells 6 false (cfC c))) (h3 : Kn4 m 24 bs ls ts ps b l y t qb ql qy qt) :
    W Gkn knR (fun x e _ => x = .normal ∧ (∃ y3 y4 y5 y6 y7 y8 y9 y10 y11 y12 : AV, e = [.bool false, .int .i64 kk, .int .i64 n, y3, y4, y5, y6, y7, y8, y9, y10, y11, y12])) [.bool false, .int .i64 kk, .int .i64 n, b, l, y, t, .ptr cb 0, .int .i64 24, z9, z10, z11, z12] m := by
  have a194 : assoc Gkn 194 = some (amFunc Gpy law09_PutPlays) := rfl
  have a203 : assoc Gkn 203 = some (amFunc Gly law09_PutLayPlays) := rfl
  have a188 : assoc Gkn 188 = some (amFunc Gkp law09_PutKeeps) := rfl
  have a200 : assoc Gkn 200 = some (amFunc Gla law09_PutLayAll) := rfl
  have a198 : assoc Gkn 198 = some (amFunc Gnone law09_PutNone) := rfl
  generalize Gkn = G at a194 a203 a188 a200 a198 ⊢
  obtain ⟨lb, ll, lp, lt, hb, hl, hp, ht, rb, rl, ry, rt, _⟩ := h3
  have sb : SB m bs b := by rw [← lb] at rb; exact rb.sl (by rw [List.length_map]; omega)
  have st : SB m ts t := by rw [← lt] at rt; exact rt.sl (by rw [List.length_map]; omega)
  have sy : SPk m false ps y := by rw [← lp] at ry; exact ry.sl (pks_len ps)
  have e3 : (n : Int).tmod 3 = ((n % 3 : Nat) : Int) := by rw [Int.tmod_eq_emod_of_nonneg (by omega)]; omega
  have e2 : (n : Int).tmod 2 = ((n % 2 : Nat) : Int) := by rw [Int.tmod_eq_emod_of_nonneg (by omega)]; omega
  have e9 : (n : Int).tmod 9 = ((n % 9 : Nat) : Int) := by rw [Int.tmod_eq_emod_of_nonneg (by omega)]; omega
  have e20 : (n : Int).tmod 20 = ((n % 20 : Nat) : Int) := by rw [Int.tmod_eq_emod_of_nonneg (by omega)]; omega
  have e5 : (n : Int).tmod 5 = ((n % 5 : Nat) : Int) := by rw [Int.tmod_eq_emod_of_nonneg (by omega)]; omega
  have e24 : (n : Int).tmod 24 = ((n % 24 : Nat) : Int) := by rw [Int.tmod_eq_emod_of_nonneg (by omega)]; omega
  have t20 := rl.take ll (k := n % 20) (by omega)
  have t5 := rl.take ll (k := n % 5) (by omega)
  have t24 := rl.take ll (k := n % 24) (by omega)
  have u20 := fun (M : MM) (hM : Keep m M) => (t20 M hM).1
  have u5 := fun (M : MM) (hM : Keep m M) => (t5 M hM).1
  have u24 := fun (M : MM) (hM : Keep m M) => (t24 M hM).1
  have gc' := fun (M : MM) (hM : Keep m M) => hM.get gc
  have h1 := fun (M : MM) (hM : Keep m M) (p g : Int) => pplays_run (c := c) (p := p) (g := g) (sb.keep hM) hb (sy.keep hM) hp
  simp only [cfC, List.cons_append, List.nil_append] at h1 gc gc'
  simp (disch := first | assumption | omega | (simp only [zl] <;> omega) | (simp only [zn])) only [knR, sqT, knX, knB, sqN, law09_PutKnown, ↓zd, zk, Nat.reduceSub, Nat.reduceAdd, Nat.reduceMul, Nat.reduceLeDiff, Nat.reduceEqDiff, reduceIte, Int.reduceEq, Int.reduceBEq, Int.reduceLE, Int.reduceLT, Int.reduceNeg, Int.reduceAdd, Int.reduceSub, Int.reduceMul, List.map, AV.cells, List.all, AV.one, eqV, eqAll, splice, fillA, List.replicate, resAll, resA, zm, zg, e3, gc, a194]
  refine OKT_fn (h1 _ (.refl _) _ _) ?_
  rintro _ m1 ⟨rfl, k1⟩
  have g1 := gc' m1 k1
  have t30 : Int.toNat 30 = 30 := rfl
  have t12 : Int.toNat 12 = 12 := rfl
  simp (disch := first | assumption | omega | (simp only [zl] <;> omega) | (simp only [zn])) only [↓zd, zk, Nat.reduceSub, Nat.reduceAdd, Nat.reduceMul, Nat.reduceLeDiff, Nat.reduceEqDiff, reduceIte, Int.reduceEq, Int.reduceBEq, Int.reduceLE, Int.reduceLT, Int.reduceNeg, Int.reduceAdd, Int.reduceSub, Int.reduceMul, List.map, AV.cells, List.all, AV.one, eqV, eqAll, splice, fillA, List.replicate, resAll, resA, zm, zg, evC, t30, t12, g1, e2, e9, a194]
  have hz := fun (M : MM) (n : Nat) => (get_concat : (M ++ [Chunk.cells 3 false (repeatL n [.bool false, .int .i64 0, .int .u64 0])])[M.length]? = _)
  have h2 := fun (M : MM) (hM : Keep m M) (p g : Int) => pplays_run (c := c) (p := p) (g := g) (sb.keep (hM.trans (Keep.app M _))) hb (spk_rep (hz M 30)) (rep_w64 30)
  have h3 := fun (M : MM) (hM : Keep m M) (p : Int) => lplays_run (c := c) (p := p) (t20 M hM).2 (sb.keep hM) hb (sy.keep hM) hp
  have h4 := fun (M : MM) (hM : Keep m M) (p : Int) => lplays_run (m0 := M ++ [Chunk.cells 3 false (repeatL 12 [.bool false, .int .i64 0, .int .u64 0])]) (c := c) (p := p) (bs := []) (bv := .nils) (t5 _ (hM.trans (Keep.app M _))).2 Sl.nil (fun x h => by cases h) (spk_rep (hz M 12)) (rep_w64 12)
  have h5 := fun (M : MM) (hM : Keep m M) (p : Int) => keeps_run (c0 := c) (p0 := p) (sb.keep hM) hb (st.keep hM) ht
  have h6 := fun (M : MM) (hM : Keep m M) (p h : Int) (h0 : 0 ≤ h) (h1 : h < 4294967296) => layall_run (c0 := c) (p0 := p) (t24 M hM).2 (fun x hx => hl x (List.mem_of_mem_take hx)) h0 h1
  have h7 := fun (M : MM) (n : Int) => none_run M n
  simp only [cfC, List.cons_append, List.nil_append] at h2 h3 h4 h5 h6
  refine OKT_fn (h2 _ k1 _ _) ?_
  rintro _ m2 ⟨rfl, k2⟩
  have k2' := k1.trans ((Keep.app m1 _).trans k2)
  have g2 := gc' m2 k2'
  have w20 := u20 m2 k2'
  simp (disch := first | assumption | omega | (simp only [zl] <;> omega) | (simp only [zn])) only [↓zd, zk, Nat.reduceSub, Nat.reduceAdd, Nat.reduceMul, Nat.reduceLeDiff, Nat.reduceEqDiff, reduceIte, Int.reduceEq, Int.reduceBEq, Int.reduceLE, Int.reduceLT, Int.reduceNeg, Int.reduceAdd, Int.reduceSub, Int.reduceMul, List.map, AV.cells, List.all, AV.one, eqV, eqAll, splice, fillA, List.replicate, resAll, resA, zm, zg, evA, g1, g2, e3, e20, w20, a203]
  refine OKT_fn (h3 _ k2' _) ?_
  rintro _ m3 ⟨rfl, k3⟩
  have k3' := k2'.trans k3
  have g3 := gc' m3 k3'
  have w5 := u5 m3 k3'
  simp (disch := first | assumption | omega | (simp only [zl] <;> omega) | (simp only [zn])) only [↓zd, zk, Nat.reduceSub, Nat.reduceAdd, Nat.reduceMul, Nat.reduceLeDiff, Nat.reduceEqDiff, reduceIte, Int.reduceEq, Int.reduceBEq, Int.reduceLE, Int.reduceLT, Int.reduceNeg, Int.reduceAdd, Int.reduceSub, Int.reduceMul, List.map, AV.cells, List.all, AV.one, eqV, eqAll, splice, fillA, List.replicate, resAll, resA, zm, zg, evA, evC, t30, t12, g3, e5, w5, a203]
  refine OKT_fn (h4 _ k3' _) ?_
  rintro _ m4 ⟨rfl, k4⟩
  have k4' := k3'.trans ((Keep.app m3 _).trans k4)
  have g4 := gc' m4 k4'
  have w5' := u5 m4 k4'
  simp (disch := first | assumption | omega | (simp only [zl] <;> omega) | (simp only [zn])) only [↓zd, zk, Nat.reduceSub, Nat.reduceAdd, Nat.reduceMul, Nat.reduceLeDiff, Nat.reduceEqDiff, reduceIte, Int.reduceEq, Int.reduceBEq, Int.reduceLE, Int.reduceLT, Int.reduceNeg, Int.reduceAdd, Int.reduceSub, Int.reduceMul, List.map, AV.cells, List.all, AV.one, eqV, eqAll, splice, fillA, List.replicate, resAll, resA, zm, zg, g3, g4, e5, w5, w5', a188]
  refine OKT_fn (h5 _ k4' _) ?_
  rintro _ m5 ⟨rfl, k5⟩
  have k5' := k4'.trans k5
  have g5 := gc' m5 k5'
  have w24 := u24 m5 k5'
  simp (disch := first | assumption | omega | (simp only [zl] <;> omega) | (simp only [zn])) only [↓zd, zk, Nat.reduceSub, Nat.reduceAdd, Nat.reduceMul, Nat.reduceLeDiff, Nat.reduceEqDiff, reduceIte, Int.reduceEq, Int.reduceBEq, Int.reduceLE, Int.reduceLT, Int.reduceNeg, Int.reduceAdd, Int.reduceSub, Int.reduceMul, List.map, AV.cells, List.all, AV.one, eqV, eqAll, splice, fillA, List.replicate, resAll, resA, zm, zg, evA, g5, e24, w24, a200]
  have hw0 : 0 ≤ IntKind.u32.wrap (IntKind.u32.wrap (n : Int) - 3) ∧ IntKind.u32.wrap (IntKind.u32.wrap (n : Int) - 3) < 4294967296 := by rw [wrap32]; omega
  refine OKT_fn (h6 _ k5' _ _ hw0.1 hw0.2) ?_
  rintro _ m6 ⟨rfl, k6⟩
  have k6' := k5'.trans k6
  have g6 := gc' m6 k6'
  simp (disch := first | assumption | omega | (simp only [zl] <;> omega) | (simp only [zn])) only [↓zd, zk, Nat.reduceSub, Nat.reduceAdd, Nat.reduceMul, Nat.reduceLeDiff, Nat.reduceEqDiff, reduceIte, Int.reduceEq, Int.reduceBEq, Int.reduceLE, Int.reduceLT, Int.reduceNeg, Int.reduceAdd, Int.reduceSub, Int.reduceMul, List.map, AV.cells, List.all, AV.one, eqV, eqAll, splice, fillA, List.replicate, resAll, resA, zm, zg, g6, a198]
  refine OKT_fn (h7 _ _) ?_
  rintro _ m7 rfl
  have g1' := fun K => gc' (m1 ++ K) (k1.trans (Keep.app m1 K))
  have g3' := fun K => gc' (m3 ++ K) (k3'.trans (Keep.app m3 K))
  have w3' := fun K => u5 (m3 ++ K) (k3'.trans (Keep.app m3 K))
  simp (disch := first | assumption | omega | (simp only [zl] <;> omega) | (simp only [zn])) only [↓zd, zk, Nat.reduceSub, Nat.reduceAdd, Nat.reduceMul, Nat.reduceLeDiff, Nat.reduceEqDiff, reduceIte, Int.reduceEq, Int.reduceBEq, Int.reduceLE, Int.reduceLT, Int.reduceNeg, Int.reduceAdd, Int.reduceSub, Int.reduceMul, List.map, AV.cells, List.all, AV.one, eqV, eqAll, splice, fillA, List.replicate, resAll, resA, zm, zg, evA, gc, g1', g3', w3']
  exact ⟨_, _, _, _, _, _, _, _, _, _, rfl⟩
end Go.Am.F09
end
