import Derived.Test.YtgfddegdjdeeoaaXG18
set_option linter.unusedSimpArgs false
set_option linter.unusedVariables false
section
namespace Go.Am.F09
open Go.Am.F06 Go.Am.F10
theorem PyS.poke {m0 m m' : MM} {c0 c c' : Cf} {p p' g g' : Int} {cb j rb xj yb : Nat} {ps : List Pk} {lv : AV} {s : PS} {xs xs' : List Int} {o o' : Int} {tv hv ytv yhv v v' : AV} {qt : Nat} (h : PyS m0 c0 c c' p p' g g' cb j rb xj yb ps lv s xs o tv hv ytv yhv v qt m) (hj0 : m0.length ≤ j) (hr0 : m0.length ≤ rb) (k : KeepB j m m') {st' : MemSt} (hj' : m'[j]? = some (.abs (.mem st'))) (hr' : RelM xs' o' st') (hsu : SU m' false xs' v') (hokL : OkL c xs') :
    PyS m0 c0 c c' p p' g g' cb j rb xj yb ps lv s xs' o' tv hv ytv yhv v' qt (m'.set rb (.cells 2 false (memC v' o'))) := by
  obtain ⟨st, hj, hr⟩ := h.mem
  have hl := k.1
  have hk0 := h.k0.1
  have lr : rb < m.length := (List.getElem?_eq_some_iff.1 h.ref).1
  obtain ⟨n1, n2, n3⟩ := h.ne h.ref (by decide) (by decide)
  obtain ⟨y1, y2, y3⟩ := h.ne h.y (by decide) (by decide)
  have hyr : yb ≠ rb := fun hh => by have h1 := h.y; rw [hh, h.ref] at h1; cases h1
  have lx : xj < m.length := (List.getElem?_eq_some_iff.1 h.pm.get).1
  have ly : yb < m.length := (List.getElem?_eq_some_iff.1 h.y).1
  have hxj : xj ≠ j := fun hh => by have h1 := h.pm.get; rw [hh, hj] at h1; cases h1
  have hrb' : m'[rb]? = some (.cells 2 false (memC v o)) := by rw [k.2 rb lr n2]; exact h.ref
  have nb : ∀ sz, sz ≠ 2 → ∀ ro L, m'[rb]? ≠ some (.cells sz ro L) := fun sz hsz ro L hh => by rw [hrb'] at hh; injection hh with hh; injection hh with hh; exact hsz hh.symm
  have nj : ∀ sz ro L, m[j]? ≠ some (.cells sz ro L) := fun sz ro L hh => by rw [hj] at hh; cases hh
  have row : ∀ {wr : Bool} {sz n : Nat} {l : List AV} {w : AV}, sz ≠ 2 → Sl m wr sz n l w → Sl (m'.set rb (.cells 2 false (memC v' o'))) wr sz n l w := fun hsz hs =>
    Sl.put (Sl.stay hs fun q oo cap hw h0 => by
      obtain ⟨h1, ro, L, h2⟩ := Sl.lt hs hw h0
      exact k.2 q h1 fun hh => nj _ ro L (by rw [← hh]; exact h2)) (nb _ hsz) _
  have hg : ∀ i, i < m.length → i ≠ j → i ≠ rb → (m'.set rb (.cells 2 false (memC v' o')))[i]? = m[i]? := fun i hi h1 h2 => by
    rw [List.getElem?_set_ne (fun hh => h2 hh.symm), k.2 i hi h1]
  have hqj : ∀ l, m[qt]? = some (.cells 1 false (iC l)) → qt < m.length ∧ qt ≠ j ∧ qt ≠ rb := fun l hl => ⟨(List.getElem?_eq_some_iff.1 hl).1, fun hh => nj _ _ _ (by rw [← hh]; exact hl), fun hh => by rw [hh, h.ref] at hl; cases hl⟩
  refine ⟨⟨by simp only [List.length_set]; omega, fun i hi => by rw [hg i (by omega) (by omega) (by omega), h.k0.2 i hi]⟩, ⟨by rw [hg xj lx hxj (fun hh => n1 hh.symm)]; exact h.pm.get, fun ha => ?_, h.pm.one, row (by decide) h.pm.h, h.pm.off⟩, ?_, h.bq, ⟨st', by rw [List.getElem?_set_ne n2]; exact hj', hr'⟩, List.getElem?_set_self (by omega), Sl.put hsu (nb 1 (by decide)) _, by rw [hg yb ly y2 hyr]; exact h.y, row (by decide) h.yt, row (by decide) h.yh, h.ot, h.oh, h.ok, hokL, h.cc, row (by decide) h.ps⟩
  · refine (h.pm.t ha).keep fun h0 => ?_
    obtain ⟨q1, q2, q3⟩ := hqj _ ((h.pm.t ha).box h0)
    exact hg qt q1 q2 q3
  · rcases h.qr with hq | ⟨l, hl⟩
    · exact .inl hq
    · obtain ⟨q1, q2, q3⟩ := hqj l hl
      exact .inr ⟨l, by rw [hg qt q1 q2 q3]; exact hl⟩
theorem rpC_len (c : Cf) (p g : Int) (s : PS) (tv hv : AV) : (rpC c p g s tv hv).length = 12 := rfl
theorem rpC_take (c : Cf) (p g : Int) (s : PS) (tv hv : AV) : (rpC c p g s tv hv).take 12 = rpC c p g s tv hv := rfl
theorem rpC_all (c : Cf) (p g : Int) (s : PS) {tv hv : AV} (h1 : tv.one = true) (h2 : hv.one = true) : (rpC c p g s tv hv).all AV.one = true := by
  rw [List.all_eq_true]
  intro x hx
  simp only [rpC, cfC, List.cons_append, List.nil_append, List.mem_cons, List.not_mem_nil, or_false] at hx
  rcases hx with rfl | rfl | rfl | rfl | rfl | rfl | rfl | rfl | rfl | rfl | rfl | rfl <;> first | rfl | assumption
theorem rpC_a (c : Cf) (p g : Int) (s : PS) (tv hv : AV) : (rpC c p g s tv hv)[8]? = some (.int .i64 s.a) := rfl
theorem rpC_h (c : Cf) (p g : Int) (s : PS) (tv hv : AV) : (rpC c p g s tv hv)[11]? = some hv := rfl
theorem rpC_drop (c : Cf) (p g : Int) (s : PS) (tv hv : AV) : (rpC c p g s tv hv).drop 12 = [] := rfl
def PyI (m0 : MM) (c0 c c' : Cf) (p0 p p' g0 g g' : Int) (bv : AV) (cb j rb xj yb : Nat) (ps : List Pk) (lv : AV) (k : Nat) (e : List AV) (m : MM) : Prop := ∃ (i : Nat) (s : PS) (xs : List Int) (o : Int) (tv hv ytv yhv v : AV) (qt : Nat) (z12 z13 z14 z15 z16 z17 z18 z19 z20 z21 z22 z23 z24 z25 z26 z27 z28 z29 z30 : AV),
  e = [.agg (cfC c0), .int .i64 p0, .int .i64 g0, bv, lv, .ptr cb 0, .bool false, .ptr j 0, .ptr rb 0, .ptr xj 0, .ptr yb 0, .int .i64 i, z12, z13, z14, z15, z16, z17, z18, z19, z20, z21, z22, z23, z24, z25, z26, z27, z28, z29, z30] ∧ k = ps.length + 1 - i ∧ i ≤ ps.length ∧ 0 ≤ o ∧ o ≤ 700 + 2 * i ∧ PyS m0 c0 c c' p p' g g' cb j rb xj yb ps lv s xs o tv hv ytv yhv v qt m
set_option maxHeartbeats 16000000 in
theorem pplays_run {m0 : MM} {c : Cf} {p g : Int} {bs : List Int} {bv lv : AV} {ps : List Pk} (hB : SB m0 bs bv) (hb : ∀ x, x ∈ bs → 0 ≤ x ∧ x < 256) (hl : SPk m0 false ps lv) (hv : ∀ x, x ∈ ps → W64 x.v) :
    Fn Gpy law09_PutPlays [.agg (cfC c), .int .i64 p, .int .i64 g, bv, lv] m0 (fun r m' => r = .bool true ∧ Keep m0 m') := by
  have a184 : assoc Gpy 184 = some (pureF worksG) := rfl
  have a134 : assoc Gpy 134 = some F10.c_docs_Filled := rfl
  have a135 : assoc Gpy 135 = some (amFunc F10.Gmem F10.docs_Mem) := rfl
  have a185 : assoc Gpy 185 = some c_put_New := rfl
  have a147 : assoc Gpy 147 = some F10.c_docs_Config := rfl
  have a189 : assoc Gpy 189 = some c_ref09_New := rfl
  have a191 : assoc Gpy 191 = some c_put_Put_Done := rfl
  have a68 : assoc Gpy 68 = some (amFunc F10.Gsmem F10.docs_SameMem) := rfl
  have a46 : assoc Gpy 46 = some (memF fun s rest => (opsAsk s rest).map fun v => (v, s)) := rfl
  have a192 : assoc Gpy 192 = some (amFunc Grp ref09_Step) := rfl
  have a186 : assoc Gpy 186 = some (amFunc Gpst put_Put_Step) := rfl
  have a193 : assoc Gpy 193 = some (amFunc Gpk law09_poked) := rfl
  have hfe : F10.c_docs_Filled (X := Ob) = amFunc F10.Gfill F10.docs_Filled := rfl
  have hpe : c_put_New (X := Ob) = amFunc [(206, c_put_from)] put_New := rfl
  have hre : c_ref09_New (X := Ob) = amFunc [(169, F10.c_ref09_There)] ref09_New := rfl
  have hlenl := hl.len
  have hlenb := hB.len
  rw [pplays_body]
  refine Fn_of rfl ?_
  by_cases h1 : 60 < ps.length
  · simp (disch := first | assumption | omega | (simp only [zl] <;> omega) | (simp only [zn])) only [sqN, law09_PutPlays, ↓zd, zk, Nat.reduceSub, Nat.reduceAdd, Nat.reduceMul, Nat.reduceLeDiff, Nat.reduceEqDiff, reduceIte, Int.reduceEq, Int.reduceBEq, Int.reduceLE, Int.reduceLT, Int.reduceNeg, Int.reduceAdd, Int.reduceSub, Int.reduceMul, List.map, AV.cells, List.all, AV.one, eqV, eqAll, splice, fillA, List.replicate, resAll, resA, zm, zg, cfC, ev_len, hlenl, hlenb, a184, pureF, worksG]
    exact .app _ _
  by_cases h2 : 40 < bs.length
  · simp (disch := first | assumption | omega | (simp only [zl] <;> omega) | (simp only [zn])) only [sqN, law09_PutPlays, ↓zd, zk, Nat.reduceSub, Nat.reduceAdd, Nat.reduceMul, Nat.reduceLeDiff, Nat.reduceEqDiff, reduceIte, Int.reduceEq, Int.reduceBEq, Int.reduceLE, Int.reduceLT, Int.reduceNeg, Int.reduceAdd, Int.reduceSub, Int.reduceMul, List.map, AV.cells, List.all, AV.one, eqV, eqAll, splice, fillA, List.replicate, resAll, resA, zm, zg, cfC, ev_len, hlenl, hlenb, a184, pureF, worksG]
    exact .app _ _
  simp (disch := first | assumption | omega | (simp only [zl] <;> omega) | (simp only [zn])) only [sqN, law09_PutPlays, ↓zd, zk, Nat.reduceSub, Nat.reduceAdd, Nat.reduceMul, Nat.reduceLeDiff, Nat.reduceEqDiff, reduceIte, Int.reduceEq, Int.reduceBEq, Int.reduceLE, Int.reduceLT, Int.reduceNeg, Int.reduceAdd, Int.reduceSub, Int.reduceMul, List.map, AV.cells, List.all, AV.one, eqV, eqAll, splice, fillA, List.replicate, resAll, resA, zm, zg, cfC, ev_len, hlenl, hlenb, a134, hfe]
  have hB1 : SB (m0 ++ [Chunk.cells 6 false (cfC c)]) bs bv := hB.keep (Keep.app _ _)
  refine OK_fn (filled_run (c := c) hB1 hb) ?_
  rintro r1 m1 ⟨xs0, k1, s1, x1, x2⟩
  have hk1 : Keep m0 m1 := (Keep.app m0 _).trans k1
  have gb1 : m1[m0.length]? = some (Chunk.cells 6 false (cfC c)) := k1.get get_concat
  have hcn := cellsN_le c
  simp (disch := first | assumption | omega | (simp only [zl] <;> omega) | (simp only [zn])) only [↓zd, zk, Nat.reduceSub, Nat.reduceAdd, Nat.reduceMul, Nat.reduceLeDiff, Nat.reduceEqDiff, reduceIte, Int.reduceEq, Int.reduceBEq, Int.reduceLE, Int.reduceLT, Int.reduceNeg, Int.reduceAdd, Int.reduceSub, Int.reduceMul, List.map, AV.cells, List.all, AV.one, eqV, eqAll, splice, fillA, List.replicate, resAll, resA, zm, zg, a135]
  refine OK_fn (mem_run s1 (by omega)) ?_
  rintro _ m2 ⟨st, v, rfl, k2, g2, rm, s2⟩
  have gb2 := k2.get gb1
  have hk2 := hk1.trans k2
  have hone := slOne s2
  simp only [AV.one] at hone
  have lb : m0.length < m2.length := (List.getElem?_eq_some_iff.1 gb2).1
  have hj0 : m0.length ≤ m1.length + 1 := by have := hk1.1; omega
  generalize m1.length + 1 = j at g2 hj0 ⊢
  have gb3 : ∀ K : MM, (m2 ++ K)[m0.length]? = some (.cells 6 false (cfC c)) := fun K => (Keep.app m2 K).get gb2
  simp only [cfC] at gb2 gb3
  simp (disch := first | assumption | omega | (simp only [zl] <;> omega) | (simp only [zn])) only [↓zd, zk, Nat.reduceSub, Nat.reduceAdd, Nat.reduceMul, Nat.reduceLeDiff, Nat.reduceEqDiff, reduceIte, Int.reduceEq, Int.reduceBEq, Int.reduceLE, Int.reduceLT, Int.reduceNeg, Int.reduceAdd, Int.reduceSub, Int.reduceMul, List.map, AV.cells, List.all, AV.one, eqV, eqAll, splice, fillA, List.replicate, resAll, resA, zm, zg, memC, hone, gb2, gb3, cfC, a185, hpe]
  have hnw := fun M : MM => pnew_run (m := M) (c := c) (p := p) (g := g)
  simp only [cfC] at hnw
  refine OKT_fn (hnw _) ?_
  rintro _ m3 ⟨xj, hv0, rfl, hxl, k3, hpm, hfr⟩
  simp only [List.length_append, List.length_cons, List.length_nil] at hxl
  have hkA := Keep.app m2 [Chunk.cells 2 false (memC v xs0.length), .cells 12 false [.int .i64 0, .int .i64 0, .int .i64 0, .int .i64 0, .int .i64 0, .int .i64 0, .int .i64 0, .int .i64 0, .int .i64 0, .int .u64 0, .nils, .nils]]
  have gr3 := k3.get (i := m2.length) (c := .cells 2 false (memC v xs0.length)) (by rw [get_mid0]; rfl)
  have gy3 := k3.get (i := m2.length + 1) (c := .cells 12 false [.int .i64 0, .int .i64 0, .int .i64 0, .int .i64 0, .int .i64 0, .int .i64 0, .int .i64 0, .int .i64 0, .int .i64 0, .int .u64 0, .nils, .nils]) (by rw [get_mid]; rfl)
  have k23 : Keep m2 m3 := hkA.trans k3
  have gbm3 := k23.get gb2
  have f147 := fun m : MM => config_eq m c
  simp only [cfC] at f147
  simp (disch := first | assumption | omega | (simp only [zl] <;> omega) | (simp only [zn])) only [↓zd, zk, Nat.reduceSub, Nat.reduceAdd, Nat.reduceMul, Nat.reduceLeDiff, Nat.reduceEqDiff, reduceIte, Int.reduceEq, Int.reduceBEq, Int.reduceLE, Int.reduceLT, Int.reduceNeg, Int.reduceAdd, Int.reduceSub, Int.reduceMul, List.map, AV.cells, List.all, AV.one, eqV, eqAll, splice, fillA, List.replicate, resAll, resA, zm, zg, gbm3, gb3, a147, f147, a189, hre]
  have hrn := fun K : MM => rpnew_run (m := m3 ++ K) (c := c) (p := p) (g := g)
  simp only [cfC] at hrn
  refine OKT_fn (hrn _) ?_
  rintro _ m4 ⟨k4, yhv, rfl, syh⟩
  have k34 : Keep m3 m4 := (Keep.app m3 _).trans k4
  have gy4 := k34.get gy3
  have gr4 := k34.get gr3
  have gbm4 := k34.get gbm3
  have ly4 : m2.length + 1 < m4.length := (List.getElem?_eq_some_iff.1 gy4).1
  have honeh := slOne syh
  have hall := rpC_all (ncC c p g) (ncP c p g) (ncG c p g) (newS c p g) (tv := .nils) rfl honeh
  have gy3' := fun K : MM => (Keep.app m3 K).get gy3
  simp (disch := first | assumption | omega | (simp only [zl] <;> omega) | (simp only [zn])) only [↓zd, zk, Nat.reduceSub, Nat.reduceAdd, Nat.reduceMul, Nat.reduceLeDiff, Nat.reduceEqDiff, reduceIte, Int.reduceEq, Int.reduceBEq, Int.reduceLE, Int.reduceLT, Int.reduceNeg, Int.reduceAdd, Int.reduceSub, Int.reduceMul, List.map, AV.cells, List.all, AV.one, eqV, eqAll, splice, fillA, List.replicate, resAll, resA, zm, zg, gy4, gy3, gy3', gb3, gbm3, rpC_len, rpC_all, hall, List.drop_succ_cons, List.drop_zero, List.drop_nil, List.append_nil]
  have lj2 : j < m2.length := (List.getElem?_eq_some_iff.1 g2).1
  have hpm4 := PM.keep hpm k34
  have hne : ∀ sz, sz ≠ 12 → ∀ ro L, m4[m2.length + 1]? ≠ some (.cells sz ro L) := fun sz hsz ro L hh => by rw [gy4] at hh; injection hh with hh; injection hh with hh; exact hsz hh.symm
  have hnx4 : ∀ ro L, m4[xj]? ≠ some (.cells 1 ro L) := fun ro L hh => by rw [hpm4.get] at hh; cases hh
  have hk4 : Keep m0 m4 := (hk2.trans k23).trans k34
  have hS : PyS m0 c c (ncC c p g) p (ncP c p g) g (ncG c p g) m0.length j m2.length xj (m2.length + 1) ps lv (newS c p g) xs0 xs0.length .nils hv0 .nils yhv v xj (m4.set (m2.length + 1) (.cells 12 false (rpC (ncC c p g) (ncP c p g) (ncG c p g) (newS c p g) .nils yhv))) := by
    refine ⟨hk4.set (by omega) _, PM.stay hpm4 (b := m2.length + 1) (fun i _ hi => List.getElem?_set_ne (fun h => hi h.symm)) (by omega) (by omega) (si_box hpm4.h (hne 1 (by decide))), .inl rfl, by omega, ⟨st, by rw [List.getElem?_set_ne (by omega)]; exact (k23.trans k34).get g2, rm⟩, by rw [List.getElem?_set_ne (by omega)]; exact gr4, Sl.put ((s2.keep (k23.trans k34))) (hne 1 (by decide)) _, List.getElem?_set_self ly4, ?_, Sl.put syh (hne 1 (by decide)) _, (fun q o n cc hq => by cases hq), si_box syh hnx4, newS_ok c p g, ⟨x1, x2⟩, ?_, Sl.put (hl.keep hk4) (hne 3 (by decide)) _⟩
    · have : (newS c p g).tk = [] := by unfold newS; split <;> rfl
      rw [this]; exact Sl.nil
    · unfold ncC ncP ncG
      by_cases hk : okN c p g
      · rw [if_pos hk, if_pos hk, if_pos hk]; exact .inr ⟨rfl, rfl, rfl⟩
      · have : newS c p g = ⟨0, 0, [], []⟩ := if_neg hk
        rw [this]; exact .inl rfl
  have hb0 : m0.length ≤ xj ∧ m0.length ≤ m2.length ∧ m0.length ≤ m2.length + 1 := by omega
  refine W_loop (PyI m0 c c (ncC c p g) p p (ncP c p g) g g (ncG c p g) bv m0.length j m2.length xj (m2.length + 1) ps lv) (ps.length + 1) (by simp only [FUEL]; omega) ⟨0, _, _, _, _, _, _, _, _, _, _, _, _, _, _, _, _, _, _, _, _, _, _, _, _, _, _, _, _, rfl, by omega, by omega, by omega, by omega, hS⟩ ?_
  clear hS hpm4 hpm hne hnx4 hk4 gy3' gy3 gy4 gr3 gr4 gbm3 gbm4 gb2 gb3 hall honeh syh k34 k4 k3 k23 hkA k2 k1 hk2 hk1 g2 rm s1 s2 hone ly4 lb lj2 hrn hnw f147 hB hB1 gb1 x1 x2 hxl hfr
  generalize ncC c p g = c'
  generalize ncP c p g = p'
  generalize ncG c p g = g'
  generalize m2.length + 1 = yb at hb0 ⊢
  generalize m2.length = rb at hb0 ⊢
  generalize hcb : m0.length = cb at hb0 hj0 ⊢
  rintro k e m ⟨i, s, xs, o, tv, hv1, ytv, yhv, v, qt, z12, z13, z14, z15, z16, z17, z18, z19, z20, z21, z22, z23, z24, z25, z26, z27, z28, z29, z30, rfl, rfl, hi, ho0, ho1, hS⟩
  have hyb := hS.y
  have ha8 := rpC_a c' p' g' s ytv yhv
  have hh11 := rpC_h c' p' g' s ytv yhv
  have hone1 := slOne hS.yh
  have hone2 := slOne hS.yt
  have hall := rpC_all c' p' g' s hone2 hone1
  have hlen := rpC_len c' p' g' s ytv yhv
  have htake := rpC_take c' p' g' s ytv yhv
  have hT := fun (z13 z14 z15 z16 z17 z18 z19 z20 z21 z22 z23 z24 z25 z26 z27 z28 z29 z30 : AV) => pyT_run (c0 := c) (p := p) (g := g) (bv := bv) (lv := lv) (cb := cb) (j := j) (rb := rb) (i := i) (ov := if s.a = 0 then yhv else .nils) (z13 := z13) (z14 := z14) (z15 := z15) (z16 := z16) (z17 := z17) (z18 := z18) (z19 := z19) (z20 := z20) (z21 := z21) (z22 := z22) (z23 := z23) (z24 := z24) (z25 := z25) (z26 := z26) (z27 := z27) (z28 := z28) (z29 := z29) (z30 := z30) hS.pm hyb hS.yh hS.ok.h (by
    split
    · exact hS.yh
    · exact Sl.nil)
  have hrest : ∀ e m', Keep m m' → PtE c p g bv lv cb j rb xj yb i (if s.a = 0 then yhv else .nils) e → W Gpy pyU (blockQ 1 (thenQ (thenQ (blockQ 0 (thenQ (resQ [.loc 6] fun r m' => r = .bool true ∧ Keep m0 m') (W Gpy pyE (resQ [.loc 6] fun r m' => r = .bool true ∧ Keep m0 m')))) fun e' m' => ∃ k, k < ps.length + 1 - i ∧ PyI m0 c c c' p p p' g g g' bv cb j rb xj yb ps lv k e' m') (W Gpy pyI (thenQ (blockQ 0 (thenQ (resQ [.loc 6] fun r m' => r = .bool true ∧ Keep m0 m') (W Gpy pyE (resQ [.loc 6] fun r m' => r = .bool true ∧ Keep m0 m')))) fun e' m' => ∃ k, k < ps.length + 1 - i ∧ PyI m0 c c c' p p p' g g g' bv cb j rb xj yb ps lv k e' m')))) e m' := by
    rintro e m1 hk1 ⟨w13, w14, w15, w16, w17, w18, w19, w20, w21, w22, w23, w24, w25, w26, w27, w28, w29, w30, rfl⟩
    have hS1 := hS.keep hk1
    obtain ⟨st, gj, hr⟩ := hS1.mem
    have hy1 := hS1.y
    have href := hS1.ref
    have hd := pdone_eq hS1.pm.get
    have honev := slOne hS1.su
    simp only [AV.one] at honev
    have hlx : xs.length ≤ 600 := by have := hS1.okL.1; omega
    simp only [memC] at href
    have hcc := hS1.cc
    have okc : POk c' p' s := by
      rcases hcc with h0 | ⟨e1, e2, _⟩
      · exact ⟨hS1.ok.w, .inl h0, hS1.ok.h⟩
      · rw [e1, e2]; exact hS1.ok
    have hst : stepP c' p' g' xs s = stepP c p g xs s := by
      rcases hcc with h0 | ⟨e1, e2, e3⟩
      · rw [stepP_zero h0, stepP_zero h0]
      · rw [e1, e2, e3]
    have hx' : s.a = 0 ∨ OkL c' xs := hcc.imp id (fun h => by rw [h.1]; exact hS1.okL)
    clear hT hyb hS hk1 ha8 hh11 hall hlen htake hone1 hone2
    have ha8 := rpC_a c' p' g' s ytv yhv
    have hone1 := slOne hS1.yh
    have hone2 := slOne hS1.yt
    have hall := rpC_all c' p' g' s hone2 hone1
    have hlen := rpC_len c' p' g' s ytv yhv
    have htake := rpC_take c' p' g' s ytv yhv
    by_cases ha : s.a = 0
    all_goals first | (have hdd : decide (s.a = 0) = true := decide_eq_true ha) | (have hdd : decide (s.a = 0) = false := decide_eq_false ha)
    all_goals rw [hdd] at hd
    all_goals simp (disch := first | assumption | omega | (simp only [zl] <;> omega) | (simp only [zn])) only [pyU, sqT, pyX, pyB, sqN, law09_PutPlays, ↓zd, zk, Nat.reduceSub, Nat.reduceAdd, Nat.reduceMul, Nat.reduceLeDiff, Nat.reduceEqDiff, reduceIte, Int.reduceEq, Int.reduceBEq, Int.reduceLE, Int.reduceLT, Int.reduceNeg, Int.reduceAdd, Int.reduceSub, Int.reduceMul, List.map, AV.cells, List.all, AV.one, eqV, eqAll, splice, fillA, List.replicate, resAll, resA, zm, zg, a191, hd, hy1, ha8, hdd, href, honev, a68]
    all_goals refine OKT_fn (samemem_run gj hr hS1.su (by omega)) ?_
    all_goals rintro _ m2 ⟨rfl, k2⟩
    all_goals have hS2 := hS1.keep k2
    all_goals have hy2 := hS2.y
    all_goals have hr2 := hS2.ref
    all_goals simp only [memC] at hr2
    all_goals have gj2 := k2.get gj
    all_goals have f46 := ops_of gj2
    all_goals rw [hr.ops] at f46
    all_goals clear hS1 k2 gj href
    all_goals by_cases hie : i = ps.length
    all_goals try (simp (disch := first | assumption | omega | (simp only [zl] <;> omega) | (simp only [zn])) only [↓zd, zk, Nat.reduceSub, Nat.reduceAdd, Nat.reduceMul, Nat.reduceLeDiff, Nat.reduceEqDiff, reduceIte, Int.reduceEq, Int.reduceBEq, Int.reduceLE, Int.reduceLT, Int.reduceNeg, Int.reduceAdd, Int.reduceSub, Int.reduceMul, List.map, AV.cells, List.all, AV.one, eqV, eqAll, splice, fillA, List.replicate, resAll, resA, zm, zg, hy1, ha8, hdd, ev_len, hlenl, pyE, sqT, law09_PutPlays, a184, pureF, worksG]; exact hS2.k0)
    all_goals simp (disch := first | assumption | omega | (simp only [zl] <;> omega) | (simp only [zn])) only [↓zd, zk, Nat.reduceSub, Nat.reduceAdd, Nat.reduceMul, Nat.reduceLeDiff, Nat.reduceEqDiff, reduceIte, Int.reduceEq, Int.reduceBEq, Int.reduceLE, Int.reduceLT, Int.reduceNeg, Int.reduceAdd, Int.reduceSub, Int.reduceMul, List.map, AV.cells, List.all, AV.one, eqV, eqAll, splice, fillA, List.replicate, resAll, resA, zm, zg, hy1, ha8, hdd, ev_len, hlenl, a46, f46, hy2, hall, hlen, htake, hr2, honev, a192]
    all_goals (
      have hrs := rpstep_run (c := c') (p := p') (g := g') (o := o) hS2.su hS2.yt hS2.yh okc hx'
      rw [hst] at hrs
      simp only [memC] at hrs
      refine OK_fn hrs ?_
      rintro _ m3 ⟨k3, ytv2, yhv2, v2, rfl, syt, syh, ssu, ft, fh⟩
      have hok3 := hS2.ok.step (g := g) (.inr hS2.okL)
      have hokL3 := stepP_ok (c := c) (p := p) (g := g) (s := s) hS2.okL (.inr hS2.ok.w)
      have hop : o ≤ opsP s o ∧ opsP s o ≤ o + 1 := by unfold opsP; split <;> (try rw [wrapU (by omega) (by omega)]) <;> omega
      have hcc3 : (stepP c p g xs s).1.a = 0 ∨ (c' = c ∧ p' = p ∧ g' = g) := hcc.imp (fun h0 => by rw [stepP_zero h0]; exact h0) id
      have hB3 := hS2.b.keep k3
      have hy3 := k3.get hy2
      have hr3 := k3.get hr2
      obtain ⟨stx, hjx, hrx⟩ := hB3.mem
      have hstep := fun (m : MM) (hx : PM m xj c p g s qt tv hv1) (hj : m[j]? = some (.abs (.mem stx))) => pstep_run (o := o) hx hj hrx (.inr hS2.okL) hS2.ok
      have hq2 : qt < m2.length := by
        rcases hS2.qr with hq | ⟨l, hl⟩
        · rw [hq]; exact (List.getElem?_eq_some_iff.1 hS2.pm.get).1
        · exact (List.getElem?_eq_some_iff.1 hl).1
      have hfr : ∀ w : AV, Fr m2.length w → Off qt w := fun w hf => by
        intro q oo n cc hq _ hh
        rcases hf with h | ⟨_, _, _, _, h, h'⟩
        · rw [h] at hq; cases hq
        · rw [h] at hq; injection hq with e1; omega
      have hot : Off qt ytv2 := ft.elim (fun h => by rw [h]; exact hS2.ot) (hfr _)
      have hoh : Off qt yhv2 := fh.elim (fun h => by rw [h]; exact hS2.oh) (hfr _)
      clear ft fh hfr hq2 hrs okc hx' hst hcc hS2
      generalize stepP c p g xs s = sx at syt syh ssu hok3 hokL3 hcc3 hstep ⊢
      generalize opsP s o = o' at hop hstep ⊢
      obtain ⟨s', xs'⟩ := sx
      simp only at syt syh ssu hok3 hokL3 hcc3
      have ny : yb ≠ rb := fun hh => by rw [hh, hr3] at hy3; cases hy3
      have ly3 : yb < m3.length := (List.getElem?_eq_some_iff.1 hy3).1
      have lr3 : rb < m3.length := (List.getElem?_eq_some_iff.1 hr3).1
      have hone2' := slOne syt
      have hone1' := slOne syh
      have hone' := slOne ssu
      simp only [AV.one] at hone'
      have hall' := rpC_all c' p' g' s' hone2' hone1'
      have hlen' := rpC_len c' p' g' s' ytv2 yhv2
      have htake' := rpC_take c' p' g' s' ytv2 yhv2
      have ha8' := rpC_a c' p' g' s' ytv2 yhv2
      have hput : ∀ {L : List AV}, L.length = 12 → splice L 0 (rpC c' p' g' s' ytv2 yhv2) = rpC c' p' g' s' ytv2 yhv2 := fun {L} hL => by
        simp only [splice, List.take_zero, List.nil_append, hlen', Nat.zero_add]
        rw [List.drop_eq_nil_of_le (by omega), List.append_nil]
      have hrow : ∀ {wr : Bool} {sz n : Nat} {l : List AV} {w : AV}, sz ≠ 12 → sz ≠ 2 → Sl m3 wr sz n l w → Sl ((m3.set yb (.cells 12 false (rpC c' p' g' s' ytv2 yhv2))).set rb (.cells 2 false [v2, .int .u64 o']) ++ [Chunk.cells 12 false (rpC c' p' g' s' ytv2 yhv2), Chunk.cells 2 false [v2, .int .u64 o']]) wr sz n l w := fun h12 h2 h =>
        Sl.keep ((Sl.put h (fun ro L hh => by rw [hy3] at hh; injection hh with hh; injection hh with hh; exact h12 hh.symm) _).put (fun ro L hh => by rw [List.getElem?_set_ne ny, hr3] at hh; injection hh with hh; injection hh with hh; exact h2 hh.symm) _) (Keep.app _ _)
      have G4 := hrow (by decide) (by decide) syt
      have G5 := hrow (by decide) (by decide) syh
      have G6 := hrow (by decide) (by decide) ssu
      have hB7 := ((hB3.setb hy3 (by decide) (by decide) (by decide) (by omega) (.cells 12 false (rpC c' p' g' s' ytv2 yhv2))).setb (b := rb) (by rw [List.getElem?_set_ne ny]; exact hr3) (by decide) (by decide) (by decide) (by omega) (.cells 2 false [v2, .int .u64 o'])).keep (Keep.app _ [Chunk.cells 12 false (rpC c' p' g' s' ytv2 yhv2), Chunk.cells 2 false [v2, .int .u64 o']])
      have G2 : ((m3.set yb (.cells 12 false (rpC c' p' g' s' ytv2 yhv2))).set rb (.cells 2 false [v2, .int .u64 o']) ++ [Chunk.cells 12 false (rpC c' p' g' s' ytv2 yhv2), Chunk.cells 2 false [v2, .int .u64 o']])[rb]? = some (.cells 2 false [v2, .int .u64 o']) := by
        rw [List.getElem?_append_left (by simp; omega), List.getElem?_set_self (by simp; omega)]
      have G3 : ((m3.set yb (.cells 12 false (rpC c' p' g' s' ytv2 yhv2))).set rb (.cells 2 false [v2, .int .u64 o']) ++ [Chunk.cells 12 false (rpC c' p' g' s' ytv2 yhv2), Chunk.cells 2 false [v2, .int .u64 o']])[yb]? = some (.cells 12 false (rpC c' p' g' s' ytv2 yhv2)) := by
        rw [List.getElem?_append_left (by simp; omega), List.getElem?_set_ne (fun h => ny h.symm), List.getElem?_set_self (by omega)]
      have Gj : ((m3.set yb (.cells 12 false (rpC c' p' g' s' ytv2 yhv2))).set rb (.cells 2 false [v2, .int .u64 o']) ++ [Chunk.cells 12 false (rpC c' p' g' s' ytv2 yhv2), Chunk.cells 2 false [v2, .int .u64 o']])[j]? = some (.abs (.mem stx)) := by
        obtain ⟨_, e2, _⟩ := hB3.ne hy3 (by decide) (by decide)
        obtain ⟨_, e3, _⟩ := hB3.ne hr3 (by decide) (by decide)
        rw [List.getElem?_append_left (by have := (List.getElem?_eq_some_iff.1 hjx).1; simpa using this), List.getElem?_set_ne e3, List.getElem?_set_ne e2]; exact hjx
      generalize hM7 : (m3.set yb (.cells 12 false (rpC c' p' g' s' ytv2 yhv2))).set rb (.cells 2 false [v2, .int .u64 o']) ++ [Chunk.cells 12 false (rpC c' p' g' s' ytv2 yhv2), Chunk.cells 2 false [v2, .int .u64 o']] = M7 at hB7 G2 G3 G4 G5 G6 Gj
      simp (disch := first | assumption | omega | (simp only [zl] <;> omega) | (simp only [zn])) only [↓zd, zk, Nat.reduceSub, Nat.reduceAdd, Nat.reduceMul, Nat.reduceLeDiff, Nat.reduceEqDiff, reduceIte, Int.reduceEq, Int.reduceBEq, Int.reduceLE, Int.reduceLT, Int.reduceNeg, Int.reduceAdd, Int.reduceSub, Int.reduceMul, List.map, AV.cells, List.all, AV.one, eqV, eqAll, splice, fillA, List.replicate, resAll, resA, zm, zg, memC, hone', hy3, hr3, hall', hlen', htake', hput, List.drop_zero, List.drop_succ_cons, List.drop_nil, List.append_nil, rpC_drop, a186]
      rw [hM7]
      refine OKT_fn (hstep _ hB7.pm Gj) ?_
      intro r8 m8 hP
      obtain ⟨rfl, tv8, hv8, qt8, hS8⟩ := PyB.step (c0 := c) (cb := cb) hB7 (by omega) (by omega) G3 G4 G5 hot hoh G6 G2 hok3 hokL3 hcc3 hP
      obtain ⟨st8, gj8, r8⟩ := hS8.mem
      have hy8 := hS8.y
      have hr8 := hS8.ref
      have f46 := ops_of gj8
      rw [r8.ops] at f46
      have ho3 : IntKind.u64.wrap (o + 1) = o + 1 := wrapU (by omega) (by omega)
      have ho4 : ¬ (o + 1 < o') := by omega
      have hlt : i < ps.length := by omega
      obtain ⟨pk, hpk⟩ : ∃ pk, ps[i]? = some pk := ⟨_, List.getElem?_eq_getElem hlt⟩
      have hlx8 : xs'.length ≤ 600 := by have := hS8.okL.1; omega
      clear hP hM7 hB7 G2 G4 G5 G6 Gj hstep hjx hrx hB3 hy3 hr3 ly3 lr3 hrow hput syt syh ssu
      obtain ⟨q, oo, cap, ro, L, rfl, c2, c3, c4, c5, c6, c7⟩ := spk_get hS8.ps hpk
      have hrow3 : (L.drop (oo + i * 3)).take 3 = pkC pk := by
        refine F10.pk_of (by rw [List.length_take, List.length_drop]; omega) ?_ ?_ ?_
        · rw [List.getElem?_take, if_pos (by omega), List.getElem?_drop]; exact c5
        · rw [List.getElem?_take, if_pos (by omega), List.getElem?_drop]; exact c6
        · rw [List.getElem?_take, if_pos (by omega), List.getElem?_drop]; exact c7
      have hpkl : (pkC pk).length = 3 := rfl
      have hpka : (pkC pk).all AV.one = true := rfl
      simp only [memC] at hr8
      obtain ⟨b3, hb3⟩ : ∃ b3, decide (s'.a = 0) = b3 := ⟨_, rfl⟩
      cases b3
      all_goals simp (disch := first | assumption | omega | (simp only [zl] <;> omega) | (simp only [zn])) only [↓zd, zk, Nat.reduceSub, Nat.reduceAdd, Nat.reduceMul, Nat.reduceLeDiff, Nat.reduceEqDiff, reduceIte, Int.reduceEq, Int.reduceBEq, Int.reduceLE, Int.reduceLT, Int.reduceNeg, Int.reduceAdd, Int.reduceSub, Int.reduceMul, List.map, AV.cells, List.all, AV.one, eqV, eqAll, splice, fillA, List.replicate, resAll, resA, zm, zg, hb3, G3, hy8, ha8', f46, ho3, ho4, a46, hr8, hone', ev_len, hlenl, c2, hrow3, hpka, hpkl, a193]
      all_goals have hpo := poked_run (x := pk) gj8 r8 hS8.su (by omega) (by omega) (by omega)
      all_goals simp only [memC] at hpo
      all_goals refine OK_fn hpo ?_
      all_goals rintro _ m9 ⟨k9, v9, xs9, o9, st9, rfl, su9, gj9, r9, ok9, o9a, o9b⟩
      all_goals have hS9 := hS8.poke (by omega) (by omega) k9 gj9 r9 su9 (ok9 c hS8.okL (hv _ (List.mem_of_getElem? hpk)))
      all_goals have hr9 : m9[rb]? = some (.cells 2 false [v2, .int .u64 o']) := by rw [k9.2 rb (List.getElem?_eq_some_iff.1 hr8).1 (hS8.ne hr8 (by decide) (by decide)).2.1]; exact hr8
      all_goals have hone9 := slOne su9
      all_goals simp only [AV.one] at hone9
      all_goals simp (disch := first | assumption | omega | (simp only [zl] <;> omega) | (simp only [zn])) only [↓zd, zk, Nat.reduceSub, Nat.reduceAdd, Nat.reduceMul, Nat.reduceLeDiff, Nat.reduceEqDiff, reduceIte, Int.reduceEq, Int.reduceBEq, Int.reduceLE, Int.reduceLT, Int.reduceNeg, Int.reduceAdd, Int.reduceSub, Int.reduceMul, List.map, AV.cells, List.all, AV.one, eqV, eqAll, splice, fillA, List.replicate, resAll, resA, zm, zg, memC, hr9, hone9, pyI, pyB, sqN, law09_PutPlays]
      all_goals exact ⟨ps.length + 1 - (i + 1), by omega, i + 1, s', xs9, o9, tv8, hv8, ytv2, yhv2, v9, qt8, _, _, _, _, _, _, _, _, _, _, _, _, _, _, _, _, _, _, _, rfl, rfl, by omega, by omega, by omega, hS9⟩)
  by_cases ha : s.a = 0
  · simp only [if_pos ha] at hT hrest
    simp (disch := first | assumption | omega | (simp only [zl] <;> omega) | (simp only [zn])) only [pyC, pyX, pyB, sqN, law09_PutPlays, ↓zd, zk, Nat.reduceSub, Nat.reduceAdd, Nat.reduceMul, Nat.reduceLeDiff, Nat.reduceEqDiff, reduceIte, Int.reduceEq, Int.reduceBEq, Int.reduceLE, Int.reduceLT, Int.reduceNeg, Int.reduceAdd, Int.reduceSub, Int.reduceMul, List.map, AV.cells, List.all, AV.one, eqV, eqAll, splice, fillA, List.replicate, resAll, resA, zm, zg, ev_len, hlenl, hyb, ha8, ha, hh11, hall, hlen, htake]
    refine W_mono (hT _ _ _ _ _ _ _ _ _ _ _ _ _ _ _ _ _ _) ?_
    rintro _ e2 m2 ⟨rfl, hk2, hE⟩
    simp only [thenQ_normal]
    exact hrest e2 m2 hk2 hE
  · simp only [if_neg ha] at hT hrest
    simp (disch := first | assumption | omega | (simp only [zl] <;> omega) | (simp only [zn])) only [pyC, pyX, pyB, sqN, law09_PutPlays, ↓zd, zk, Nat.reduceSub, Nat.reduceAdd, Nat.reduceMul, Nat.reduceLeDiff, Nat.reduceEqDiff, reduceIte, Int.reduceEq, Int.reduceBEq, Int.reduceLE, Int.reduceLT, Int.reduceNeg, Int.reduceAdd, Int.reduceSub, Int.reduceMul, List.map, AV.cells, List.all, AV.one, eqV, eqAll, splice, fillA, List.replicate, resAll, resA, zm, zg, ev_len, hlenl, hyb, ha8, ha, hh11, hall, hlen, htake]
    refine W_mono (hT _ _ _ _ _ _ _ _ _ _ _ _ _ _ _ _ _ _) ?_
    rintro _ e2 m2 ⟨rfl, hk2, hE⟩
    simp only [thenQ_normal]
    exact hrest e2 m2 hk2 hE
end Go.Am.F09
end
section
namespace Go.Am.F09
open Go.Am.F06 Go.Am.F10
theorem neg_eq {X : Type} (m : Mem X) (x : Int) : c_put_NewLay_1 [.int .i64 x] m = some (.bool (decide (x < 0)), m) := by
  have he : c_put_NewLay_1 (X := X) = amFunc [] put_NewLay_1 := rfl
  rw [he]
  exact Fn_eq (Fn_of rfl (by simp (disch := first | assumption | omega | (simp only [zl] <;> omega) | (simp only [zn])) only [put_NewLay_1, ↓zd, zk, Nat.reduceSub, Nat.reduceAdd, Nat.reduceMul, Nat.reduceLeDiff, Nat.reduceEqDiff, reduceIte, Int.reduceEq, Int.reduceBEq, Int.reduceLE, Int.reduceLT, Int.reduceNeg, Int.reduceAdd, Int.reduceSub, Int.reduceMul, List.map, AV.cells, List.all, AV.one, eqV, eqAll, splice, fillA, List.replicate, resAll, resA, zm, zg]))
def Gif : List (Nat × AFun Ob) := [(213, c_put_NewLay_1)]
def Gdf : List (Nat × AFun Ob) := [(97, amFunc Gif slices_IndexFunc_int), (213, c_put_NewLay_1)]
def PInv (q n : Nat) (xs : List Int) (m0 : MM) (k : Nat) (e : List AV) (m : MM) : Prop := ∃ (i : Nat) (x3 x6 x7 : AV),
  e = [.sl q 0 n none, .fn 213 [] [], .int .i64 0, x3, .int .i64 n, .int .i64 i, x6, x7] ∧ m = m0 ∧ k = n - i ∧ i ≤ n ∧ ∀ j x, j < i → xs[j]? = some x → ¬ x < 0
theorem indexf_run {m : MM} {xs : List Int} {q : Nat} (hq : m[q]? = some (.cells 1 false (iC xs))) (hx : xs.length ≤ 1000) :
    ∃ r : Int, ((0 ≤ r ∧ (∃ x, xs[r.toNat]? = some x ∧ x < 0) ∧ ∀ j x, j < r.toNat → xs[j]? = some x → ¬ x < 0) ∨ (r = -1 ∧ ∀ x, x ∈ xs → ¬ x < 0)) ∧ amFunc Gif slices_IndexFunc_int [.sl q 0 xs.length none, .fn 213 [] []] m = some (.int .i64 r, m) := by
  have : Fn Gif slices_IndexFunc_int [.sl q 0 xs.length none, .fn 213 [] []] m (fun v m' => ∃ r : Int, ((0 ≤ r ∧ (∃ x, xs[r.toNat]? = some x ∧ x < 0) ∧ ∀ j x, j < r.toNat → xs[j]? = some x → ¬ x < 0) ∨ (r = -1 ∧ ∀ x, x ∈ xs → ¬ x < 0)) ∧ v = .int .i64 r ∧ m' = m) := by
    have a213 : assoc Gif 213 = some c_put_NewLay_1 := rfl
    generalize Gif = G at a213 ⊢
    refine Fn_of rfl ?_
    simp (disch := first | assumption | omega | (simp only [zl] <;> omega) | (simp only [zn])) only [slices_IndexFunc_int, ↓zd, zk, Nat.reduceSub, Nat.reduceAdd, Nat.reduceMul, Nat.reduceLeDiff, Nat.reduceEqDiff, reduceIte, Int.reduceEq, Int.reduceBEq, Int.reduceLE, Int.reduceLT, Int.reduceNeg, Int.reduceAdd, Int.reduceSub, Int.reduceMul, List.map, AV.cells, List.all, AV.one, eqV, eqAll, splice, fillA, List.replicate, resAll, resA]
    refine W_loop (PInv q xs.length xs m) xs.length (by simp only [FUEL]; omega) ⟨0, _, _, _, rfl, rfl, rfl, Nat.zero_le _, fun j x hj => by omega⟩ ?_
    rintro k e m' ⟨i, x3, x6, x7, rfl, rfl, rfl, hi, hne⟩
    simp (disch := first | assumption | omega | (simp only [zl] <;> omega) | (simp only [zn])) only [↓zd, zk, Nat.reduceSub, Nat.reduceAdd, Nat.reduceMul, Nat.reduceLeDiff, Nat.reduceEqDiff, reduceIte, Int.reduceEq, Int.reduceBEq, Int.reduceLE, Int.reduceLT, Int.reduceNeg, Int.reduceAdd, Int.reduceSub, Int.reduceMul, List.map, AV.cells, List.all, AV.one, eqV, eqAll, splice, fillA, List.replicate, resAll, resA]
    refine CW_of (fun h => ?_) (fun h => ?_)
    · simp only [decide_eq_true_eq] at h
      obtain ⟨y, hyi⟩ : ∃ y, xs[i]? = some y := ⟨_, List.getElem?_eq_getElem (by omega)⟩
      have hp := fun m : MM => neg_eq m y
      by_cases hy : y < 0
      · simp (disch := first | assumption | omega | (simp only [zl] <;> omega) | (simp only [zn])) only [↓zd, zk, Nat.reduceSub, Nat.reduceAdd, Nat.reduceMul, Nat.reduceLeDiff, Nat.reduceEqDiff, reduceIte, Int.reduceEq, Int.reduceBEq, Int.reduceLE, Int.reduceLT, Int.reduceNeg, Int.reduceAdd, Int.reduceSub, Int.reduceMul, List.map, AV.cells, List.all, AV.one, eqV, eqAll, splice, fillA, List.replicate, resAll, resA, hq, iC_at hyi, a213, hp, hy, List.append_nil]
        exact ⟨i, .inl ⟨by omega, ⟨y, hyi, hy⟩, hne⟩, rfl⟩
      · simp (disch := first | assumption | omega | (simp only [zl] <;> omega) | (simp only [zn])) only [↓zd, zk, Nat.reduceSub, Nat.reduceAdd, Nat.reduceMul, Nat.reduceLeDiff, Nat.reduceEqDiff, reduceIte, Int.reduceEq, Int.reduceBEq, Int.reduceLE, Int.reduceLT, Int.reduceNeg, Int.reduceAdd, Int.reduceSub, Int.reduceMul, List.map, AV.cells, List.all, AV.one, eqV, eqAll, splice, fillA, List.replicate, resAll, resA, hq, iC_at hyi, a213, hp, hy, List.append_nil]
        refine ⟨_, by omega, i + 1, _, _, _, rfl, rfl, rfl, by omega, fun j x hj hjx => ?_⟩
        by_cases hji : j = i
        · subst hji; rw [hyi] at hjx; injection hjx with hjx; subst hjx; exact hy
        · exact hne j x (by omega) hjx
    · simp only [decide_eq_false_iff_not] at h
      simp (disch := first | assumption | omega | (simp only [zl] <;> omega) | (simp only [zn])) only [↓zd, zk, Nat.reduceSub, Nat.reduceAdd, Nat.reduceMul, Nat.reduceLeDiff, Nat.reduceEqDiff, reduceIte, Int.reduceEq, Int.reduceBEq, Int.reduceLE, Int.reduceLT, Int.reduceNeg, Int.reduceAdd, Int.reduceSub, Int.reduceMul, List.map, AV.cells, List.all, AV.one, eqV, eqAll, splice, fillA, List.replicate, resAll, resA]
      refine ⟨-1, .inr ⟨rfl, fun x hx => ?_⟩, rfl⟩
      obtain ⟨j, hj⟩ := List.mem_iff_getElem?.1 hx
      exact hne j x (by have := (List.getElem?_eq_some_iff.1 hj).1; omega) hj
  obtain ⟨v, m', h1, r, h2, rfl, rfl⟩ := this
  exact ⟨r, h2, h1⟩
def posL (xs : List Int) : List Int := xs.filter fun x => decide (¬ x < 0)
theorem pos_len (xs : List Int) : (posL xs).length ≤ xs.length := List.length_filter_le _ _
theorem pos_snoc {xs : List Int} {j : Nat} {x : Int} (h : xs[j]? = some x) : posL (xs.take (j + 1)) = if x < 0 then posL (xs.take j) else posL (xs.take j) ++ [x] := by
  rw [List.take_add_one, h, posL, List.filter_append, ← posL]
  by_cases hx : x < 0
  · simp [hx]
  · simp [hx]; omega
theorem pos_all {xs : List Int} (h : ∀ x, x ∈ xs → ¬ x < 0) : posL xs = xs := List.filter_eq_self.2 fun x hx => by simpa using h x hx
def BInv (q : Nat) (xs : List Int) (m0 : MM) (k : Nat) (e : List AV) (m : MM) : Prop := ∃ (j cnt : Nat) (L : List AV) (x5 x6 x7 x8 : AV),
  e = [.sl q 0 xs.length none, .fn 213 [] [], .nils, .int .i64 cnt, .int .i64 j, x5, x6, x7, x8] ∧ m = m0.set q (.cells 1 false L) ∧ k = xs.length - j ∧ j ≤ xs.length ∧ cnt < j ∧ cnt = (posL (xs.take j)).length ∧
  L.length = xs.length ∧ L.take cnt = iC (posL (xs.take j)) ∧ (∀ k x, j ≤ k → xs[k]? = some x → L[k]? = some (.int .i64 x)) ∧ L.all AV.one = true
theorem rep_len (n : Nat) : (repeatL n [AV.int .i64 0]).length = n := by simp [repeatL]
theorem rep_one (n : Nat) : (repeatL n [AV.int .i64 0]).all AV.one = true := by
  simp only [repeatL, List.all_eq_true, List.mem_flatten]
  rintro x ⟨l, hl, hx⟩
  rw [List.mem_replicate] at hl
  obtain ⟨_, rfl⟩ := hl
  simp at hx; subst hx; rfl
set_option maxHeartbeats 4000000 in
theorem delete_run {M m : MM} {xs : List Int} {q : Nat} (hk : Keep M m) (hqM : M.length ≤ q) (hq : m[q]? = some (.cells 1 false (iC xs))) (hx : xs.length ≤ 1000) :
    Fn Gdf slices_DeleteFunc_int [.sl q 0 xs.length none, .fn 213 [] []] m (fun r m' => Keep M m' ∧ SI m' true (posL xs) r ∧ Fr M.length r ∧ Nx m' r) := by
  have a97 : assoc Gdf 97 = some (amFunc Gif slices_IndexFunc_int) := rfl
  have a213 : assoc Gdf 213 = some c_put_NewLay_1 := rfl
  generalize Gdf = G at a97 a213 ⊢
  refine Fn_of rfl ?_
  obtain ⟨r, hr, hrun⟩ := indexf_run hq hx
  have hql : q < m.length := (List.getElem?_eq_some_iff.1 hq).1
  rcases hr with ⟨hr0, ⟨x0, hx0i, hx0w⟩, hr2⟩ | ⟨rfl, hr1⟩
  · obtain ⟨i0, rfl⟩ : ∃ i0 : Nat, r = i0 := ⟨r.toNat, by omega⟩
    simp only [Int.toNat_natCast] at hx0i hr2
    have hi0 : i0 < xs.length := (List.getElem?_eq_some_iff.1 hx0i).1
    have hsq : ∀ c, (m.set q c)[q]? = some c := fun c => List.getElem?_set_self hql
    have hne : ¬ ((i0 : Int) = -1) := by omega
    simp (disch := first | assumption | omega | (simp only [zl] <;> omega) | (simp only [zn])) only [slices_DeleteFunc_int, ↓zd, zk, Nat.reduceSub, Nat.reduceAdd, Nat.reduceMul, Nat.reduceLeDiff, Nat.reduceEqDiff, reduceIte, Int.reduceEq, Int.reduceBEq, Int.reduceLE, Int.reduceLT, Int.reduceNeg, Int.reduceAdd, Int.reduceSub, Int.reduceMul, List.map, AV.cells, List.all, AV.one, eqV, eqAll, splice, fillA, List.replicate, resAll, resA, a97, hrun]
    have hl0 : posL (xs.take (i0 + 1)) = xs.take i0 := by
      rw [pos_snoc hx0i, if_pos hx0w]
      exact pos_all fun x hx => by
        obtain ⟨j, hj⟩ := List.mem_iff_getElem?.1 hx
        rw [List.getElem?_take] at hj
        split at hj
        · exact hr2 j x ‹_› hj
        · cases hj
    refine W_loop (BInv q xs m) (xs.length - (i0 + 1)) (by simp only [FUEL]; omega) ⟨i0 + 1, i0, iC xs, _, _, _, _, rfl, ?_, rfl, by omega, by omega, ?_, iC_len _, ?_, fun k x _ h => iC_at h, iC_one _⟩ ?_
    · refine (List.ext_getElem? fun j => ?_)
      by_cases hj : q = j
      · subst hj; rw [hsq, hq]
      · rw [List.getElem?_set_ne hj]
    · rw [hl0, List.length_take]; omega
    · rw [hl0]; simp [iC, List.map_take]
    rintro k e m' ⟨j, cnt, L, x5, x6, x7, x8, rfl, rfl, rfl, hj, hcj, hcnt, hL, hLt, hLr, hLo⟩
    simp (disch := first | assumption | omega | (simp only [zl] <;> omega) | (simp only [zn])) only [↓zd, zk, Nat.reduceSub, Nat.reduceAdd, Nat.reduceMul, Nat.reduceLeDiff, Nat.reduceEqDiff, reduceIte, Int.reduceEq, Int.reduceBEq, Int.reduceLE, Int.reduceLT, Int.reduceNeg, Int.reduceAdd, Int.reduceSub, Int.reduceMul, List.map, AV.cells, List.all, AV.one, eqV, eqAll, splice, fillA, List.replicate, resAll, resA]
    refine CW_of (fun h => ?_) (fun h => ?_)
    · simp only [decide_eq_true_eq] at h
      obtain ⟨y, hyj⟩ : ∃ y, xs[j]? = some y := ⟨_, List.getElem?_eq_getElem (by omega)⟩
      have hLy := hLr j y (Nat.le_refl _) hyj
      have hp := fun m : MM => neg_eq m y
      have hsn := pos_snoc hyj
      by_cases hy : y < 0
      · rw [if_pos hy] at hsn
        simp (disch := first | assumption | omega | (simp only [zl] <;> omega) | (simp only [zn])) only [↓zd, zk, Nat.reduceSub, Nat.reduceAdd, Nat.reduceMul, Nat.reduceLeDiff, Nat.reduceEqDiff, reduceIte, Int.reduceEq, Int.reduceBEq, Int.reduceLE, Int.reduceLT, Int.reduceNeg, Int.reduceAdd, Int.reduceSub, Int.reduceMul, List.map, AV.cells, List.all, AV.one, eqV, eqAll, splice, fillA, List.replicate, resAll, resA, hsq, hLy, a213, hp, hy, List.append_nil]
        exact ⟨_, by omega, j + 1, cnt, L, _, _, _, _, rfl, rfl, rfl, by omega, by omega, by rw [hsn]; exact hcnt, hL, by rw [hsn]; exact hLt, fun k x h1 h2 => hLr k x (by omega) h2, hLo⟩
      · rw [if_neg hy] at hsn
        simp (disch := first | assumption | omega | (simp only [zl] <;> omega) | (simp only [zn])) only [↓zd, zk, Nat.reduceSub, Nat.reduceAdd, Nat.reduceMul, Nat.reduceLeDiff, Nat.reduceEqDiff, reduceIte, Int.reduceEq, Int.reduceBEq, Int.reduceLE, Int.reduceLT, Int.reduceNeg, Int.reduceAdd, Int.reduceSub, Int.reduceMul, List.map, AV.cells, List.all, AV.one, eqV, eqAll, splice, fillA, List.replicate, resAll, resA, hsq, hLy, a213, hp, hy, List.set_set, List.append_nil]
        refine ⟨_, by omega, j + 1, cnt + 1, L.set cnt (.int .i64 y), _, _, _, _, rfl, rfl, rfl, by omega, by omega, by rw [hsn]; simp [hcnt], by simp [hL], ?_, fun k x h1 h2 => ?_, ?_⟩
        · have hcl : cnt < L.length := by omega
          rw [hsn, List.take_add_one, List.getElem?_set_self hcl]
          have : (L.set cnt (AV.int .i64 y)).take cnt = L.take cnt := by rw [List.take_set_of_le (Nat.le_refl _)]
          rw [this, hLt]; simp [iC]
        · rw [List.getElem?_set_ne (by omega)]; exact hLr k x (by omega) h2
        · simp only [List.all_eq_true] at hLo ⊢
          intro a ha
          rcases List.mem_or_eq_of_mem_set ha with h | h
          · exact hLo a h
          · subst h; rfl
    · simp only [decide_eq_false_iff_not] at h
      have hjn : j = xs.length := by omega
      rw [hjn, List.take_length] at hcnt hLt
      have hz1 := rep_len (xs.length - cnt)
      have hz2 := rep_one (xs.length - cnt)
      have hnz : ¬ (xs.length - cnt = 0) := by omega
      simp (disch := first | assumption | omega | (simp only [zl] <;> omega) | (simp only [zn])) only [↓zd, zk, Nat.reduceSub, Nat.reduceAdd, Nat.reduceMul, Nat.reduceLeDiff, Nat.reduceEqDiff, reduceIte, Int.reduceEq, Int.reduceBEq, Int.reduceLE, Int.reduceLT, Int.reduceNeg, Int.reduceAdd, Int.reduceSub, Int.reduceMul, List.map, AV.cells, List.all, AV.one, eqV, eqAll, splice, fillA, List.replicate, resAll, resA, evA, sliceA, Option.getD_none, Option.getD_some, hsq, clearA, stC_agg, hz1, hz2, hL, List.set_set, Nat.sub_zero]
      have hk' : ∀ c, Keep M (m.set q c) := fun c => hk.set hqM c
      rw [hcnt]
      refine ⟨hk' _, ⟨by rw [iC_len]; omega, .inr ⟨q, 0, none, rfl, fun _ => ⟨false, _, hsq _, ?_, ?_, fun _ => rfl⟩⟩⟩, .inr ⟨q, 0, _, none, rfl, hqM⟩, .inr ⟨q, 0, _, _, rfl, hsq _⟩⟩
      · rw [List.drop_zero, Nat.mul_one, ← hcnt, List.append_assoc, List.take_append_of_le_length (by rw [List.length_take]; omega), List.take_take, Nat.min_self, hLt]
      · simp only [List.length_append, List.length_take, List.length_drop, hz1]; omega
  · simp (disch := first | assumption | omega | (simp only [zl] <;> omega) | (simp only [zn])) only [slices_DeleteFunc_int, ↓zd, zk, Nat.reduceSub, Nat.reduceAdd, Nat.reduceMul, Nat.reduceLeDiff, Nat.reduceEqDiff, reduceIte, Int.reduceEq, Int.reduceBEq, Int.reduceLE, Int.reduceLT, Int.reduceNeg, Int.reduceAdd, Int.reduceSub, Int.reduceMul, List.map, AV.cells, List.all, AV.one, eqV, eqAll, splice, fillA, List.replicate, resAll, resA, a97, hrun]
    rw [pos_all hr1]
    exact ⟨hk, ⟨by rw [iC_len]; omega, .inr ⟨q, 0, none, rfl, fun _ => ⟨false, iC xs, hq, by rw [List.drop_zero, Nat.mul_one, ← iC_len, List.take_length], by rw [iC_len]; omega, fun _ => rfl⟩⟩⟩, .inr ⟨q, 0, _, none, rfl, hqM⟩, .inr ⟨q, 0, _, _, rfl, hq⟩⟩
theorem delete_nil {m : MM} {v : AV} (hv : lenA v = some 0) : Fn Gdf slices_DeleteFunc_int [v, .fn 213 [] []] m (fun r m' => r = v ∧ m' = m) := by
  have a97 : assoc Gdf 97 = some (amFunc Gif slices_IndexFunc_int) := rfl
  have hi : amFunc Gif slices_IndexFunc_int [v, .fn 213 [] []] m = some (.int .i64 (-1), m) := by
    generalize Gif = G
    refine Fn_eq (Fn_of rfl ?_)
    simp (disch := first | assumption | omega | (simp only [zl] <;> omega) | (simp only [zn])) only [slices_IndexFunc_int, ↓zd, zk, Nat.reduceSub, Nat.reduceAdd, Nat.reduceMul, Nat.reduceLeDiff, Nat.reduceEqDiff, reduceIte, Int.reduceEq, Int.reduceBEq, Int.reduceLE, Int.reduceLT, Int.reduceNeg, Int.reduceAdd, Int.reduceSub, Int.reduceMul, List.map, AV.cells, List.all, AV.one, eqV, eqAll, splice, fillA, List.replicate, resAll, resA, ev_len, hv, Int.ofNat_zero]
    refine W_loop (fun k e m' => ∃ x3 x6 x7 : AV, e = [v, .fn 213 [] [], .int .i64 0, x3, .int .i64 0, .int .i64 0, x6, x7] ∧ m' = m) 0 (by simp [FUEL]) ⟨_, _, _, rfl, rfl⟩ ?_
    rintro k e m' ⟨x3, x6, x7, rfl, rfl⟩
    simp (disch := first | assumption | omega | (simp only [zl] <;> omega) | (simp only [zn])) only [↓zd, zk, Nat.reduceSub, Nat.reduceAdd, Nat.reduceMul, Nat.reduceLeDiff, Nat.reduceEqDiff, reduceIte, Int.reduceEq, Int.reduceBEq, Int.reduceLE, Int.reduceLT, Int.reduceNeg, Int.reduceAdd, Int.reduceSub, Int.reduceMul, List.map, AV.cells, List.all, AV.one, eqV, eqAll, splice, fillA, List.replicate, resAll, resA]
  generalize Gdf = G at a97 ⊢
  refine Fn_of rfl ?_
  simp (disch := first | assumption | omega | (simp only [zl] <;> omega) | (simp only [zn])) only [slices_DeleteFunc_int, ↓zd, zk, Nat.reduceSub, Nat.reduceAdd, Nat.reduceMul, Nat.reduceLeDiff, Nat.reduceEqDiff, reduceIte, Int.reduceEq, Int.reduceBEq, Int.reduceLE, Int.reduceLT, Int.reduceNeg, Int.reduceAdd, Int.reduceSub, Int.reduceMul, List.map, AV.cells, List.all, AV.one, eqV, eqAll, splice, fillA, List.replicate, resAll, resA, a97, hi]
end Go.Am.F09
end
section
namespace Go.Am.F09
open Go.Am.F06 Go.Am.F10
structure LS where
  a : Int
  w : Int
  k : Int
  n : Int
  ls : List Int
def layC (c : Cf) (p : Int) (s : LS) (lv : AV) : List AV := rgC c p s.a s.w s.k [.int .u32 s.n, lv]
def roomN (c : Cf) (w : Int) (len : Nat) : Int := if c.q ≤ sz w then 0 else if (len : Int) < c.q - sz w then len else c.q - sz w
def stepL (c : Cf) (p : Int) (xs : List Int) (s : LS) : LS × List Int :=
  if s.a = 0 then (s, xs)
  else if s.ls.length = 0 then ({ s with a := 0 }, xs)
  else if s.a = 1 then ({ s with w := xs.getD (wrdN c p) 0, k := 0, n := roomN c (xs.getD (wrdN c p) 0) s.ls.length, a := if roomN c (xs.getD (wrdN c p) 0) s.ls.length = 0 then 0 else 2 }, xs)
  else if s.a = 2 then ({ s with k := s.k + 1, a := if s.k + 1 = s.n then 3 else 2 }, xs.set (pslA c p s.w s.k).toNat (IntKind.u64.wrap (s.ls.getD s.k.toNat 0)))
  else if xs.getD (wrdN c p) 0 = s.w then ({ s with a := 0, ls := s.ls.drop s.n.toNat }, xs.set (wrdN c p) (growW s.w s.n)) else ({ s with a := 1 }, xs)
def opsL (s : LS) (o : Int) : Int := if s.a = 0 then o else if s.ls.length = 0 then o else IntKind.u64.wrap (o + 1)
structure LOk (c : Cf) (p : Int) (s : LS) : Prop where
  w : W64 s.w
  a : s.a = 0 ∨ (thereP c p ∧ (s.a = 1 ∨ (s.a = 2 ∧ 0 ≤ s.k ∧ s.k < s.n ∧ s.n ≤ s.ls.length) ∨ (s.a = 3 ∧ 0 ≤ s.n ∧ s.n ≤ s.ls.length)))
  l : s.ls.length ≤ 100
theorem room_b {c : Cf} {w : Int} {len : Nat} : 0 ≤ roomN c w len ∧ roomN c w len ≤ len := by
  have : 0 ≤ sz w := by unfold sz; omega
  unfold roomN; split
  · omega
  · split <;> omega
structure LM (m : MM) (xj : Nat) (c : Cf) (p : Int) (s : LS) (lv : AV) : Prop where
  get : m[xj]? = some (.cells 12 false (layC c p s lv))
  l : SI m false s.ls lv
  nx : 0 < s.ls.length → Nx m lv
theorem ldone_eq {X : Type} {m : Mem X} {xj : Nat} {c : Cf} {p : Int} {s : LS} {lv : AV} (hx : m[xj]? = some (.cells 12 false (layC c p s lv))) : c_put_Lay_Done [.ptr xj 0] m = some (.bool (decide (s.a = 0)), m) := by
  simp only [layC, rgC, cfC, List.cons_append, List.nil_append] at hx
  exact Fn_eq (Fn_of rfl (by simp (disch := first | assumption | omega | (simp only [zl] <;> omega) | (simp only [zn])) only [put_Lay_Done, ↓zd, zk, Nat.reduceSub, Nat.reduceAdd, Nat.reduceMul, Nat.reduceLeDiff, Nat.reduceEqDiff, reduceIte, Int.reduceEq, Int.reduceBEq, Int.reduceLE, Int.reduceLT, Int.reduceNeg, Int.reduceAdd, Int.reduceSub, Int.reduceMul, List.map, AV.cells, List.all, AV.one, eqV, eqAll, splice, fillA, List.replicate, resAll, resA, zm, zg, hx]))
def Glk : List (Nat × AFun Ob) := [(219, amFunc Grl put_ring_load)]
def LkP (m : MM) (xj j : Nat) (c : Cf) (p : Int) (x : LS × List Int) (lv : AV) (o : Int) (r : AV) (m' : MM) : Prop := r = .tup [] ∧ KeepX xj j m m' ∧ m'[xj]? = some (.cells 12 false (layC c p x.1 lv)) ∧ ∃ st', m'[j]? = some (.abs (.mem st')) ∧ RelM x.2 o st'
set_option maxHeartbeats 8000000 in
theorem llook_run {m : MM} {c : Cf} {p o : Int} {s : LS} {xj j : Nat} {lv : AV} {xs : List Int} {st : MemSt} (hx : LM m xj c p s lv) (hj : m[j]? = some (.abs (.mem st))) (hr : RelM xs o st) (hO : OkL c xs) (hk : LOk c p s) (ha : s.a = 1) (hl : 0 < s.ls.length) :
    Fn Glk put_Lay_look [.ptr xj 0, .ptr j 0] m (LkP m xj j c p (stepL c p xs s) lv (IntKind.u64.wrap (o + 1))) := by
  have a219 : assoc Glk 219 = some (amFunc Grl put_ring_load) := rfl
  generalize Glk = G at a219 ⊢
  obtain ⟨a, w, k, n, ls⟩ := s
  simp only at ha hl
  subst ha
  obtain ⟨hx, hls, hnx⟩ := hx
  simp only at hls
  have hij : xj ≠ j := fun h => by rw [h, hj] at hx; cases hx
  have hp : thereP c p := hk.a.elim (fun h => by simp at h) (·.1)
  have hb := there_bounds hp
  have hlk := hk.l
  simp only at hlk
  have hlen := hls.len
  have hone := slOne hls
  simp only [AV.one] at hone
  have e0 : IntKind.u32.wrap c.q = c.q := by rw [wrap32]; omega
  have hs1 : stepL c p xs ⟨1, w, k, n, ls⟩ = (⟨if roomN c (xs.getD (wrdN c p) 0) ls.length = 0 then 0 else 2, xs.getD (wrdN c p) 0, 0, roomN c (xs.getD (wrdN c p) 0) ls.length, ls⟩, xs) := by
    simp only [stepL, if_neg (show ¬ ((1 : Int) = 0) by decide), if_neg (show ¬ (ls.length = 0) by omega), if_true]
  rw [hs1]
  have hrun := rload_run hx hj hr hO hp
  refine Fn_of rfl ?_
  simp only [layC, rgC, cfC, List.cons_append, List.nil_append] at hx
  simp (disch := first | assumption | omega | (simp only [zl] <;> omega) | (simp only [zn])) only [put_Lay_look, ↓zd, zk, Nat.reduceSub, Nat.reduceAdd, Nat.reduceMul, Nat.reduceLeDiff, Nat.reduceEqDiff, reduceIte, Int.reduceEq, Int.reduceBEq, Int.reduceLE, Int.reduceLT, Int.reduceNeg, Int.reduceAdd, Int.reduceSub, Int.reduceMul, List.map, AV.cells, List.all, AV.one, eqV, eqAll, splice, fillA, List.replicate, resAll, resA, zm, zg, hx, a219]
  refine OK_fn hrun ?_
  rintro _ m1 ⟨rfl, k1, x1, st', j1, r1⟩
  have lx1 : xj < m1.length := (List.getElem?_eq_some_iff.1 x1).1
  generalize xs.getD (wrdN c p) 0 = w' at x1
  have hz0 : 0 ≤ sz w' ∧ sz w' < 4294967296 := by unfold sz; omega
  have hrb := room_b (c := c) (w := w') (len := ls.length)
  have hput : ∀ C, KeepX xj j m (m1.set xj C) := fun C => k1.setL C
  simp only [rgC, cfC, List.cons_append, List.nil_append] at x1
  have fin : ∀ a n : Int, LkP m xj j c p (⟨a, w', 0, n, ls⟩, xs) lv (IntKind.u64.wrap (o + 1)) (.tup []) (m1.set xj (.cells 12 false (layC c p ⟨a, w', 0, n, ls⟩ lv))) := fun a n =>
    ⟨rfl, hput _, List.getElem?_set_self lx1, st', by rw [List.getElem?_set_ne hij]; exact j1, r1⟩
  have e4 : IntKind.u32.wrap (ls.length : Int) = ls.length := by rw [wrap32]; omega
  have e5 : c.q - sz w' ≤ 64 → 0 < c.q - sz w' → IntKind.u32.wrap (c.q - sz w') = c.q - sz w' := fun h1 h2 => by rw [wrap32]; omega
  simp only [layC, rgC, cfC, List.cons_append, List.nil_append] at fin
  have hw00 : IntKind.u32.wrap 0 = 0 := by decide
  rcases (show c.q < sz w' ∨ c.q = sz w' ∨ (sz w' < c.q ∧ (ls.length : Int) ≤ c.q - sz w') ∨ (sz w' < c.q ∧ c.q - sz w' < (ls.length : Int)) by omega) with h | h | ⟨h, h'⟩ | ⟨h, h'⟩
  · have hroom : roomN c w' ls.length = 0 := if_pos (by omega)
    rw [hroom, if_pos rfl]
    clear hroom hrb
    simp (disch := first | assumption | omega | (simp only [zl] <;> omega) | (simp only [zn])) only [↓zd, zk, Nat.reduceSub, Nat.reduceAdd, Nat.reduceMul, Nat.reduceLeDiff, Nat.reduceEqDiff, reduceIte, Int.reduceEq, Int.reduceBEq, Int.reduceLE, Int.reduceLT, Int.reduceNeg, Int.reduceAdd, Int.reduceSub, Int.reduceMul, List.map, AV.cells, List.all, AV.one, eqV, eqAll, splice, fillA, List.replicate, resAll, resA, zm, zg, x1, ev_len, hlen, e0, h, Int.sub_self, hw00, List.set_set]
    exact fin _ _
  · have hroom : roomN c w' ls.length = 0 := if_pos (by omega)
    rw [hroom, if_pos rfl]
    clear hroom hrb
    have hh : sz w' = c.q := h.symm
    simp (disch := first | assumption | omega | (simp only [zl] <;> omega) | (simp only [zn])) only [↓zd, zk, Nat.reduceSub, Nat.reduceAdd, Nat.reduceMul, Nat.reduceLeDiff, Nat.reduceEqDiff, reduceIte, Int.reduceEq, Int.reduceBEq, Int.reduceLE, Int.reduceLT, Int.reduceNeg, Int.reduceAdd, Int.reduceSub, Int.reduceMul, List.map, AV.cells, List.all, AV.one, eqV, eqAll, splice, fillA, List.replicate, resAll, resA, zm, zg, x1, ev_len, hlen, e0, hh, Int.sub_self, hw00, List.set_set]
    exact fin _ _
  · have hroom : roomN c w' ls.length = ls.length := by unfold roomN; rw [if_neg (by omega)]; split <;> omega
    rw [hroom, if_neg (by omega)]
    clear hroom hrb
    simp (disch := first | assumption | omega | (simp only [zl] <;> omega) | (simp only [zn])) only [↓zd, zk, Nat.reduceSub, Nat.reduceAdd, Nat.reduceMul, Nat.reduceLeDiff, Nat.reduceEqDiff, reduceIte, Int.reduceEq, Int.reduceBEq, Int.reduceLE, Int.reduceLT, Int.reduceNeg, Int.reduceAdd, Int.reduceSub, Int.reduceMul, List.map, AV.cells, List.all, AV.one, eqV, eqAll, splice, fillA, List.replicate, resAll, resA, zm, zg, x1, ev_len, hlen, e0, e4, h, h', List.set_set]
    exact fin _ _
  · have hroom : roomN c w' ls.length = c.q - sz w' := by unfold roomN; rw [if_neg (by omega), if_neg (by omega)]
    rw [hroom, if_neg (by omega)]
    clear hroom hrb
    simp (disch := first | assumption | omega | (simp only [zl] <;> omega) | (simp only [zn])) only [↓zd, zk, Nat.reduceSub, Nat.reduceAdd, Nat.reduceMul, Nat.reduceLeDiff, Nat.reduceEqDiff, reduceIte, Int.reduceEq, Int.reduceBEq, Int.reduceLE, Int.reduceLT, Int.reduceNeg, Int.reduceAdd, Int.reduceSub, Int.reduceMul, List.map, AV.cells, List.all, AV.one, eqV, eqAll, splice, fillA, List.replicate, resAll, resA, zm, zg, x1, ev_len, hlen, e0, e5, h, h', List.set_set]
    exact fin _ _
end Go.Am.F09
end
section
namespace Go.Am.F09
open Go.Am.F06 Go.Am.F10
def Glst : List (Nat × AFun Ob) := [(196, c_put_Lay_Done), (209, amFunc Glk put_Lay_look), (210, c_put_ring_slot), (22, memF storeS), (211, c_word_Grow), (212, amFunc Gch put_ring_change)]
def LsP (m : MM) (c : Cf) (p : Int) (xj j : Nat) (x : LS × List Int) (o : Int) (r : AV) (m' : MM) : Prop := r = .bool (decide (x.1.a = 0)) ∧ KeepX xj j m m' ∧ (∃ lv', LM m' xj c p x.1 lv') ∧ ∃ st', m'[j]? = some (.abs (.mem st')) ∧ RelM x.2 o st'
theorem LM.mv {m m' : MM} {xj j : Nat} {c : Cf} {p : Int} {s : LS} {lv : AV} (hl : SI m false s.ls lv) (hn : 0 < s.ls.length → Nx m lv) (hnx : ∀ ro L, m[xj]? ≠ some (.cells 1 ro L)) (hnj : ∀ ro L, m[j]? ≠ some (.cells 1 ro L)) (k : KeepX xj j m m') : SI m' false s.ls lv ∧ (0 < s.ls.length → Nx m' lv) := by
  refine ⟨k.sl (szj := 0) (szk := 0) hnx hnj hl, fun h0 => ?_⟩
  rcases hn h0 with h | ⟨q, o, n, l, h1, h2⟩
  · exact .inl h
  · exact .inr ⟨q, o, n, l, h1, k.get h2 (fun h => hnx false l (by rw [← h]; exact h2)) (fun h => hnj false l (by rw [← h]; exact h2))⟩
set_option maxHeartbeats 16000000 in
theorem lstep_run {m : MM} {c : Cf} {p o : Int} {s : LS} {xj j : Nat} {lv : AV} {xs : List Int} {st : MemSt} (hx : LM m xj c p s lv) (hj : m[j]? = some (.abs (.mem st))) (hr : RelM xs o st) (hO : s.a = 0 ∨ OkL c xs) (hk : LOk c p s) :
    Fn Glst put_Lay_Step [.ptr xj 0, .ptr j 0] m (LsP m c p xj j (stepL c p xs s) (opsL s o)) := by
  have a196 : assoc Glst 196 = some c_put_Lay_Done := rfl
  have a209 : assoc Glst 209 = some (amFunc Glk put_Lay_look) := rfl
  have a210 : assoc Glst 210 = some c_put_ring_slot := rfl
  have a22 : assoc Glst 22 = some (memF storeS) := rfl
  have a211 : assoc Glst 211 = some c_word_Grow := rfl
  have a212 : assoc Glst 212 = some (amFunc Gch put_ring_change) := rfl
  generalize Glst = G at a196 a209 a210 a22 a211 a212 ⊢
  have hd := ldone_eq hx.get
  have hx0 := hx
  obtain ⟨hg, hls, hnx⟩ := hx
  have hij : xj ≠ j := fun h => by rw [h, hj] at hg; cases hg
  have lx : xj < m.length := (List.getElem?_eq_some_iff.1 hg).1
  have lj : j < m.length := (List.getElem?_eq_some_iff.1 hj).1
  have nx : ∀ ro L, m[xj]? ≠ some (.cells 1 ro L) := fun ro L h => by rw [hg] at h; cases h
  have nj : ∀ ro L, m[j]? ≠ some (.cells 1 ro L) := fun ro L h => by rw [hj] at h; cases h
  have hlen := hls.len
  refine Fn_of rfl ?_
  by_cases h0 : s.a = 0
  · have e1 : stepL c p xs s = (s, xs) := if_pos h0
    have e2 : opsL s o = o := if_pos h0
    rw [decide_eq_true h0] at hd
    rw [e1, e2]
    simp (disch := first | assumption | omega | (simp only [zl] <;> omega) | (simp only [zn])) only [put_Lay_Step, ↓zd, zk, Nat.reduceSub, Nat.reduceAdd, Nat.reduceMul, Nat.reduceLeDiff, Nat.reduceEqDiff, reduceIte, Int.reduceEq, Int.reduceBEq, Int.reduceLE, Int.reduceLT, Int.reduceNeg, Int.reduceAdd, Int.reduceSub, Int.reduceMul, List.map, AV.cells, List.all, AV.one, eqV, eqAll, splice, fillA, List.replicate, resAll, resA, zm, zg, a196, hd]
    exact ⟨by rw [decide_eq_true h0], .refl _, ⟨lv, hg, hls, hnx⟩, st, hj, hr⟩
  rw [decide_eq_false h0] at hd
  have hO' := hO.resolve_left h0
  obtain ⟨a, w, k, n, ls⟩ := s
  simp only at h0 hls hnx hlen
  have hw := hk.w
  have hll := hk.l
  have hka := hk.a
  simp only at hw hll hka
  have hp : thereP c p := hka.elim (fun h => absurd h h0) (·.1)
  have hb := there_bounds hp
  by_cases hz : ls.length = 0
  · have e1 : stepL c p xs ⟨a, w, k, n, ls⟩ = (⟨0, w, k, n, ls⟩, xs) := by simp only [stepL, if_neg h0, if_pos hz]
    have e2 : opsL ⟨a, w, k, n, ls⟩ o = o := by simp only [opsL, if_neg h0, if_pos hz]
    rw [e1, e2]
    simp only [layC, rgC, cfC, List.cons_append, List.nil_append] at hg
    rw [hz] at hlen
    simp (disch := first | assumption | omega | (simp only [zl] <;> omega) | (simp only [zn])) only [put_Lay_Step, ↓zd, zk, Nat.reduceSub, Nat.reduceAdd, Nat.reduceMul, Nat.reduceLeDiff, Nat.reduceEqDiff, reduceIte, Int.reduceEq, Int.reduceBEq, Int.reduceLE, Int.reduceLT, Int.reduceNeg, Int.reduceAdd, Int.reduceSub, Int.reduceMul, List.map, AV.cells, List.all, AV.one, eqV, eqAll, splice, fillA, List.replicate, resAll, resA, zm, zg, a196, hd, hg, ev_len, hlen, Int.ofNat_zero]
    have hk1 : KeepX xj j m (m.set xj (.cells 12 false (layC c p ⟨0, w, k, n, ls⟩ lv))) := (KeepX.refl m).setL _
    obtain ⟨e3, e4⟩ := LM.mv (s := ⟨0, w, k, n, ls⟩) (c := c) (p := p) hls hnx nx nj hk1
    exact ⟨rfl, hk1, ⟨lv, List.getElem?_set_self lx, e3, e4⟩, st, by rw [List.getElem?_set_ne hij]; exact hj, hr⟩
  have e2 : opsL ⟨a, w, k, n, ls⟩ o = IntKind.u64.wrap (o + 1) := by simp only [opsL, if_neg h0, if_neg hz]
  rw [e2]
  have hlz : ¬ ((ls.length : Int) = 0) := by omega
  rcases (show a = 1 ∨ (a = 2 ∧ 0 ≤ k ∧ k < n ∧ n ≤ ls.length) ∨ (a = 3 ∧ 0 ≤ n ∧ n ≤ ls.length) by rcases hka with h | ⟨_, h⟩; exact absurd h h0; exact h) with rfl | ⟨rfl, hk0, hkn, hnl⟩ | ⟨rfl, hn0, hnl⟩
  · have hrun := llook_run hx0 hj hr hO' hk rfl (by simp only; omega)
    simp only [layC, rgC, cfC, List.cons_append, List.nil_append] at hg
    simp (disch := first | assumption | omega | (simp only [zl] <;> omega) | (simp only [zn])) only [put_Lay_Step, ↓zd, zk, Nat.reduceSub, Nat.reduceAdd, Nat.reduceMul, Nat.reduceLeDiff, Nat.reduceEqDiff, reduceIte, Int.reduceEq, Int.reduceBEq, Int.reduceLE, Int.reduceLT, Int.reduceNeg, Int.reduceAdd, Int.reduceSub, Int.reduceMul, List.map, AV.cells, List.all, AV.one, eqV, eqAll, splice, fillA, List.replicate, resAll, resA, zm, zg, a196, hd, hg, ev_len, hlen, hlz, a209]
    refine OK_fn hrun ?_
    rintro _ m1 ⟨rfl, k1, x1, st', j1, r1⟩
    have hsl : (stepL c p xs ⟨1, w, k, n, ls⟩).1.ls = ls := by simp only [stepL, if_neg (show ¬ ((1 : Int) = 0) by decide), if_neg hz, if_true]
    obtain ⟨e3, e4⟩ := LM.mv (s := ⟨1, w, k, n, ls⟩) (c := c) (p := p) hls hnx nx nj k1
    have hlm : LM m1 xj c p (stepL c p xs ⟨1, w, k, n, ls⟩).1 lv := ⟨x1, by rw [hsl]; exact e3, by rw [hsl]; exact e4⟩
    generalize stepL c p xs ⟨1, w, k, n, ls⟩ = sx at x1 r1 hlm ⊢
    simp only [layC, rgC, cfC, List.cons_append, List.nil_append] at x1
    simp (disch := first | assumption | omega | (simp only [zl] <;> omega) | (simp only [zn])) only [↓zd, zk, Nat.reduceSub, Nat.reduceAdd, Nat.reduceMul, Nat.reduceLeDiff, Nat.reduceEqDiff, reduceIte, Int.reduceEq, Int.reduceBEq, Int.reduceLE, Int.reduceLT, Int.reduceNeg, Int.reduceAdd, Int.reduceSub, Int.reduceMul, List.map, AV.cells, List.all, AV.one, eqV, eqAll, splice, fillA, List.replicate, resAll, resA, zm, zg, x1]
    exact ⟨rfl, k1, ⟨lv, hlm⟩, st', j1, r1⟩
  · obtain ⟨kN, rfl⟩ : ∃ kN : Nat, k = kN := ⟨k.toNat, by omega⟩
    obtain ⟨x, hxk⟩ : ∃ x, ls[kN]? = some x := ⟨_, List.getElem?_eq_getElem (by omega)⟩
    obtain ⟨q, oo, cap, ro, L, rfl, b2, b3, b4, b5⟩ := hls.val (by omega)
    have b6 := b5 kN x hxk
    have hcn := cellsN_le c
    have hxl := hO'.1
    have hsb := psl_b (c := c) (p := p) (w := w) (i := kN) hp
    have hthr : thr xs (pslA c p w kN) := ⟨by omega, by omega⟩
    obtain ⟨st', r', _, f22, _⟩ := hr.storeE hthr (IntKind.u64.wrap x)
    have f22' := fun K => f22 m K j hj
    have hsl := slot_eq (i := kN) hg hp.1
    have hg' := fun K : MM => (Keep.app m K).get hg
    have b2' := fun K : MM => (Keep.app m K).get b2
    have e1 : stepL c p xs ⟨2, w, kN, n, ls⟩ = (⟨if (kN : Int) + 1 = n then 3 else 2, w, kN + 1, n, ls⟩, xs.set (pslA c p w kN).toNat (IntKind.u64.wrap x)) := by
      have : ls.getD kN 0 = x := by rw [List.getD_eq_getElem?_getD, hxk]; rfl
      simp only [stepL, if_neg (show ¬ ((2 : Int) = 0) by decide), if_neg (show ¬ ((2 : Int) = 1) by decide), if_neg hz, if_true, Int.toNat_natCast, this]
    rw [e1]
    have e3 : IntKind.u32.wrap ((kN : Int) + 1) = kN + 1 := by rw [wrap32]; omega
    simp only [layC, rgC, cfC, List.cons_append, List.nil_append] at hg hsl hg'
    have fin : ∀ a (K : MM), LsP m c p xj j (⟨a, w, kN + 1, n, ls⟩, xs.set (pslA c p w kN).toNat (IntKind.u64.wrap x)) (IntKind.u64.wrap (o + 1)) (.bool (decide (a = 0))) ((m.set j (.abs (.mem st'))).set xj (.cells 12 false (layC c p ⟨a, w, kN + 1, n, ls⟩ (.sl q oo ls.length cap))) ++ K) := fun a K => by
      have hk1 : KeepX xj j m ((m.set j (.abs (.mem st'))).set xj (.cells 12 false (layC c p ⟨a, w, kN + 1, n, ls⟩ (.sl q oo ls.length cap))) ++ K) := (((KeepX.refl m).setR _).setL _).app K
      obtain ⟨e3, e4⟩ := LM.mv (s := ⟨a, w, kN + 1, n, ls⟩) (c := c) (p := p) hls hnx nx nj hk1
      exact ⟨rfl, hk1, ⟨_, by rw [List.getElem?_append_left (by simpa using lx), List.getElem?_set_self (by simpa using lx)], e3, e4⟩, st', by rw [List.getElem?_append_left (by simpa using lj), List.getElem?_set_ne hij, List.getElem?_set_self lj], r'⟩
    simp only [layC, rgC, cfC, List.cons_append, List.nil_append] at fin
    by_cases hq : (kN : Int) + 1 = n
    · rw [if_pos hq]
      have hkn' : decide ((kN : Int) + 1 = n) = true := decide_eq_true hq
      simp (disch := first | assumption | omega | (simp only [zl] <;> omega) | (simp only [zn])) only [put_Lay_Step, ↓zd, zk, Nat.reduceSub, Nat.reduceAdd, Nat.reduceMul, Nat.reduceLeDiff, Nat.reduceEqDiff, reduceIte, Int.reduceEq, Int.reduceBEq, Int.reduceLE, Int.reduceLT, Int.reduceNeg, Int.reduceAdd, Int.reduceSub, Int.reduceMul, List.map, AV.cells, List.all, AV.one, eqV, eqAll, splice, fillA, List.replicate, resAll, resA, zm, zg, a196, hd, hg, hg', ev_len, hlen, hlz, a210, hsl, b2, b2', b6, a22, f22', e3, hkn', List.set_set]
      exact fin 3 _
    · rw [if_neg hq]
      have hkn' : decide ((kN : Int) + 1 = n) = false := decide_eq_false hq
      simp (disch := first | assumption | omega | (simp only [zl] <;> omega) | (simp only [zn])) only [put_Lay_Step, ↓zd, zk, Nat.reduceSub, Nat.reduceAdd, Nat.reduceMul, Nat.reduceLeDiff, Nat.reduceEqDiff, reduceIte, Int.reduceEq, Int.reduceBEq, Int.reduceLE, Int.reduceLT, Int.reduceNeg, Int.reduceAdd, Int.reduceSub, Int.reduceMul, List.map, AV.cells, List.all, AV.one, eqV, eqAll, splice, fillA, List.replicate, resAll, resA, zm, zg, a196, hd, hg, hg', ev_len, hlen, hlz, a210, hsl, b2, b2', b6, a22, f22', e3, hkn', List.set_set]
      exact fin 2 _
  · have hgw := fun m : MM => grow_eq m (n := n) hw
    have hrun := change_run (next := growW w n) hg hj hr hO' hp
    have hng := hg
    have e1 : stepL c p xs ⟨3, w, k, n, ls⟩ = (if xs.getD (wrdN c p) 0 = w then (⟨0, w, k, n, ls.drop n.toNat⟩, xs.set (wrdN c p) (growW w n)) else (⟨1, w, k, n, ls⟩, xs)) := by
      simp only [stepL, if_neg (show ¬ ((3 : Int) = 0) by decide), if_neg (show ¬ ((3 : Int) = 1) by decide), if_neg (show ¬ ((3 : Int) = 2) by decide), if_neg hz]
    rw [e1]
    simp only [layC, rgC, cfC, List.cons_append, List.nil_append] at hg
    simp (disch := first | assumption | omega | (simp only [zl] <;> omega) | (simp only [zn])) only [put_Lay_Step, ↓zd, zk, Nat.reduceSub, Nat.reduceAdd, Nat.reduceMul, Nat.reduceLeDiff, Nat.reduceEqDiff, reduceIte, Int.reduceEq, Int.reduceBEq, Int.reduceLE, Int.reduceLT, Int.reduceNeg, Int.reduceAdd, Int.reduceSub, Int.reduceMul, List.map, AV.cells, List.all, AV.one, eqV, eqAll, splice, fillA, List.replicate, resAll, resA, zm, zg, a196, hd, hg, ev_len, hlen, hlz, a211, hgw, a212]
    refine OK_fn hrun ?_
    rintro _ m1 ⟨rfl, k1, x1, st', j1, r1⟩
    have lx1 : xj < m1.length := (List.getElem?_eq_some_iff.1 x1).1
    obtain ⟨e3, e4⟩ := LM.mv (s := ⟨3, w, k, n, ls⟩) (c := c) (p := p) hls hnx nx nj k1
    have nx1 : ∀ ro L, m1[xj]? ≠ some (.cells 1 ro L) := fun ro L h => by rw [x1] at h; cases h
    by_cases heq : xs.getD (wrdN c p) 0 = w
    · rw [if_pos heq] at x1 r1 ⊢
      have hdd : decide (xs.getD (wrdN c p) 0 = w) = true := decide_eq_true heq
      obtain ⟨nN, rfl⟩ : ∃ nN : Nat, n = nN := ⟨n.toNat, by omega⟩
      have hdr := fun (C : Chunk Ob) => si_drop (xs := ls) (k := nN) (e3.put nx1 C) ((e4 (by simp only; omega)).put nx1 C) (by omega)
      have hdr1 := (si_drop (xs := ls) (k := nN) e3 (e4 (by simp only; omega)) (by omega)).1
      have hnl2 : ∃ q oo nn L, lv = .sl q oo nn none ∧ m1[q]? = some (.cells 1 false L) := by
        rcases e4 (by simp only; omega) with h | ⟨q, oo, nn, L, h1, h2⟩
        · rw [h] at hlen; simp only [lenA, Option.some.injEq] at hlen; omega
        · exact ⟨q, oo, nn, L, h1, h2⟩
      obtain ⟨q, oo, nn, L, rfl, hq1⟩ := hnl2
      have hdv : dropA (.sl q oo nn none) nN = .sl q (oo + nN) (nn - nN) none := rfl
      rw [hdv] at hdr1
      simp only [hdv] at hdr
      simp only [rgC, cfC, List.cons_append, List.nil_append] at x1
      have hqx : q ≠ xj := fun h => by rw [h, x1] at hq1; cases hq1
      simp (disch := first | assumption | omega | (simp only [zl] <;> omega) | (simp only [zn])) only [↓zd, zk, Nat.reduceSub, Nat.reduceAdd, Nat.reduceMul, Nat.reduceLeDiff, Nat.reduceEqDiff, reduceIte, Int.reduceEq, Int.reduceBEq, Int.reduceLE, Int.reduceLT, Int.reduceNeg, Int.reduceAdd, Int.reduceSub, Int.reduceMul, List.map, AV.cells, List.all, AV.one, eqV, eqAll, splice, fillA, List.replicate, resAll, resA, zm, zg, hdd, x1, evA, hdr1, Int.toNat_natCast]
      refine ⟨rfl, k1.setL _, ⟨.sl q (oo + nN) (nn - nN) none, by rw [List.getElem?_set_self lx1]; rfl, ?_, fun _ => .inr ⟨q, _, _, L, rfl, by rw [List.getElem?_set_ne hqx.symm]; exact hq1⟩⟩, st', by rw [List.getElem?_set_ne hij]; exact j1, r1⟩
      exact (hdr _).2
    · rw [if_neg heq] at x1 r1 ⊢
      have hdd : decide (xs.getD (wrdN c p) 0 = w) = false := decide_eq_false heq
      simp only [rgC, cfC, List.cons_append, List.nil_append] at x1
      simp (disch := first | assumption | omega | (simp only [zl] <;> omega) | (simp only [zn])) only [↓zd, zk, Nat.reduceSub, Nat.reduceAdd, Nat.reduceMul, Nat.reduceLeDiff, Nat.reduceEqDiff, reduceIte, Int.reduceEq, Int.reduceBEq, Int.reduceLE, Int.reduceLT, Int.reduceNeg, Int.reduceAdd, Int.reduceSub, Int.reduceMul, List.map, AV.cells, List.all, AV.one, eqV, eqAll, splice, fillA, List.replicate, resAll, resA, zm, zg, hdd, x1]
      exact ⟨rfl, k1, ⟨lv, x1, e3, e4⟩, st', j1, r1⟩
end Go.Am.F09
end
section
namespace Go.Am.F09
open Go.Am.F06 Go.Am.F10
def Cl2 (m : MM) (xs : List Int) (r : AV) (m' : MM) : Prop := Keep m m' ∧ ((xs = [] ∧ lenA r = some 0 ∧ (r = .nils ∨ ∃ q o c, r = .sl q o 0 c ∧ m.length ≤ q)) ∨ ∃ q, r = .sl q 0 xs.length none ∧ m.length ≤ q ∧ m'[q]? = some (.cells 1 false (iC xs)))
theorem clone_run2 {m : MM} {wr : Bool} {xs : List Int} {v : AV} (h : SI m wr xs v) (hn : xs.length ≤ 100000) : Fn [] slices_Clone_int [v] m (Cl2 m xs) := by
  refine Fn_of rfl ?_
  rcases Nat.eq_zero_or_pos xs.length with h0 | h0
  · have hx0 : xs = [] := List.length_eq_zero_iff.1 h0
    subst hx0
    rcases h.2 with ⟨rfl, _⟩ | ⟨q, o, cap, rfl, _⟩
    · simp (disch := first | assumption | omega | (simp only [zl] <;> omega) | (simp only [zn])) only [slices_Clone_int, ↓zd, zk, Nat.reduceSub, Nat.reduceAdd, Nat.reduceMul, Nat.reduceLeDiff, Nat.reduceEqDiff, reduceIte, Int.reduceEq, Int.reduceBEq, Int.reduceLE, Int.reduceLT, Int.reduceNeg, Int.reduceAdd, Int.reduceSub, Int.reduceMul, List.map, AV.cells, List.all, AV.one, eqV, eqAll, splice, fillA, List.replicate, resAll, resA, zm, zg]
      exact ⟨.refl _, .inl ⟨rfl, rfl, .inl rfl⟩⟩
    · have happ : appendA 1 8 (.sl m.length 0 0 (some 0)) (.sl q o 0 cap) (m ++ [.cells 1 false []]) = some (.sl m.length 0 0 (some 0), m ++ [.cells 1 false []]) := rfl
      simp (disch := first | assumption | omega | (simp only [zl] <;> omega) | (simp only [zn])) only [slices_Clone_int, ↓zd, zk, Nat.reduceSub, Nat.reduceAdd, Nat.reduceMul, Nat.reduceLeDiff, Nat.reduceEqDiff, reduceIte, Int.reduceEq, Int.reduceBEq, Int.reduceLE, Int.reduceLT, Int.reduceNeg, Int.reduceAdd, Int.reduceSub, Int.reduceMul, List.map, AV.cells, List.all, AV.one, eqV, eqAll, splice, fillA, List.replicate, resAll, resA, zm, zg, evA, fillA, repeatL, List.flatten_nil, happ, List.length_nil]
      exact ⟨.app _ _, .inl ⟨rfl, rfl, .inr ⟨_, _, _, rfl, Nat.le_refl _⟩⟩⟩
  · obtain ⟨q, o, cap, ro, L, rfl, h2, h3, h4, h5⟩ := h.at h0
    have hq : q < m.length := (List.getElem?_eq_some_iff.1 h2).1
    have hrow : rowOf (m ++ [Chunk.cells 1 false []]) 1 (.sl q o xs.length cap) = some (iC xs) := by
      simp only [rowOf, Am.getC]
      rw [List.getElem?_append_left hq, h2]
      simp only
      rw [if_neg (by omega), if_pos h4, h3]
    have hz : rowOf (m ++ [Chunk.cells 1 false []]) 1 (.sl m.length 0 0 (some 0)) = some [] := rfl
    have happ : appendA 1 8 (.sl m.length 0 0 (some 0)) (.sl q o xs.length cap) (m ++ [.cells 1 false []]) = some (.sl (m.length + 1) 0 xs.length none, m ++ [.cells 1 false [], .cells 1 false (iC xs)]) := by
      simp only [appendA, lenA, hrow, hz]
      rw [if_neg (by omega), if_neg (by omega), if_pos ⟨by omega, by omega, iC_one _⟩]
      simp
    simp (disch := first | assumption | omega | (simp only [zl] <;> omega) | (simp only [zn])) only [slices_Clone_int, ↓zd, zk, Nat.reduceSub, Nat.reduceAdd, Nat.reduceMul, Nat.reduceLeDiff, Nat.reduceEqDiff, reduceIte, Int.reduceEq, Int.reduceBEq, Int.reduceLE, Int.reduceLT, Int.reduceNeg, Int.reduceAdd, Int.reduceSub, Int.reduceMul, List.map, AV.cells, List.all, AV.one, eqV, eqAll, splice, fillA, List.replicate, resAll, resA, zm, zg, evA, fillA, repeatL, List.flatten_nil, happ]
    exact ⟨.app _ _, .inr ⟨_, rfl, by omega, by rw [get_mid]; rfl⟩⟩
def newL (c : Cf) (p : Int) (xs : List Int) : LS := if thereP c p then ⟨1, 0, 0, 0, posL xs⟩ else ⟨0, 0, 0, 0, []⟩
theorem newL_ok (c : Cf) (p : Int) {xs : List Int} (h : xs.length ≤ 100) : LOk c p (newL c p xs) := by
  have := pos_len xs
  unfold newL; split
  · rename_i hp
    exact ⟨by unfold W64; simp, .inr ⟨hp, .inl rfl⟩, by simp only; omega⟩
  · exact ⟨by unfold W64; simp, .inl rfl, by simp⟩
def NlP (m : MM) (c : Cf) (p : Int) (xs : List Int) (r : AV) (m' : MM) : Prop := ∃ xj lv, r = .ptr xj 0 ∧ m.length ≤ xj ∧ Keep m m' ∧ LM m' xj c p (newL c p xs) lv ∧ Fr m.length lv
def Gnl : List (Nat × AFun Ob) := [(206, c_put_from), (208, c_slices_Clone_int), (95, amFunc Gdf slices_DeleteFunc_int)]
set_option maxHeartbeats 8000000 in
theorem newlay_run {m : MM} {wr : Bool} {c : Cf} {p : Int} {xs : List Int} {v : AV} (hv : SI m wr xs v) (hn : xs.length ≤ 1000) : Fn Gnl put_NewLay [.agg (cfC c), .int .i64 p, v] m (NlP m c p xs) := by
  have a206 : assoc Gnl 206 = some c_put_from := rfl
  have a208 : assoc Gnl 208 = some c_slices_Clone_int := rfl
  have a95 : assoc Gnl 95 = some (amFunc Gdf slices_DeleteFunc_int) := rfl
  have he : c_slices_Clone_int (X := Ob) = amFunc [] slices_Clone_int := rfl
  generalize Gnl = G at a206 a208 a95 ⊢
  have hfr := from_eq (m ++ [.cells 6 false (cfC c)]) c p
  by_cases h1 : thereP c p
  · have hnl : newL c p xs = ⟨1, 0, 0, 0, posL xs⟩ := if_pos h1
    unfold NlP
    rw [hnl]
    rw [fromA, if_pos h1] at hfr
    simp only [rgC, cfC, List.cons_append, List.nil_append, List.append_assoc] at hfr
    refine Fn_of rfl ?_
    simp (disch := first | assumption | omega | (simp only [zl] <;> omega) | (simp only [zn])) only [put_NewLay, ↓zd, zk, Nat.reduceSub, Nat.reduceAdd, Nat.reduceMul, Nat.reduceLeDiff, Nat.reduceEqDiff, reduceIte, Int.reduceEq, Int.reduceBEq, Int.reduceLE, Int.reduceLT, Int.reduceNeg, Int.reduceAdd, Int.reduceSub, Int.reduceMul, List.map, AV.cells, List.all, AV.one, eqV, eqAll, splice, fillA, List.replicate, resAll, resA, zm, zg, cfC, a206, hfr, List.set_set, List.drop_succ_cons, List.drop_zero, List.drop_nil, List.append_nil, a208, he]
    have hcl := fun K : MM => clone_run2 (hv.keep (Keep.app m K)) (by omega)
    refine OK_fn (hcl _) ?_
    rintro w m1 ⟨k1, hw⟩
    have km : Keep m m1 := (Keep.app m _).trans k1
    have g7 := k1.get (i := m.length + 7) (c := .cells 12 false (layC c p ⟨1, 0, 0, 0, []⟩ .nils)) (by rw [get_mid]; rfl)
    have l7 : m.length + 7 < m1.length := (List.getElem?_eq_some_iff.1 g7).1
    simp only [List.length_append, List.length_cons, List.length_nil] at hw
    rcases hw with ⟨rfl, hl0, hw⟩ | ⟨q, rfl, hq, hq1⟩
    · simp (disch := first | assumption | omega | (simp only [zl] <;> omega) | (simp only [zn])) only [↓zd, zk, Nat.reduceSub, Nat.reduceAdd, Nat.reduceMul, Nat.reduceLeDiff, Nat.reduceEqDiff, reduceIte, Int.reduceEq, Int.reduceBEq, Int.reduceLE, Int.reduceLT, Int.reduceNeg, Int.reduceAdd, Int.reduceSub, Int.reduceMul, List.map, AV.cells, List.all, AV.one, eqV, eqAll, splice, fillA, List.replicate, resAll, resA, zm, zg, a95]
      refine OK_fn (delete_nil hl0) ?_
      rintro w2 m2 ⟨hw2, rfl⟩
      rw [hw2]
      clear hw2
      have hx : ∃ q o cc, w = .nils ∨ (w = .sl q o 0 cc ∧ m.length ≤ q) := by
        rcases hw with h | ⟨q, o, cc, h, h'⟩
        · exact ⟨0, 0, none, .inl h⟩
        · exact ⟨q, o, cc, .inr ⟨h, by omega⟩⟩
      have hp0 : posL [] = [] := rfl
      rw [hp0]
      simp only [layC, rgC, cfC, List.cons_append, List.nil_append] at g7
      obtain ⟨q, o, cc, rfl | ⟨rfl, hqm⟩⟩ := hx
      · simp (disch := first | assumption | omega | (simp only [zl] <;> omega) | (simp only [zn])) only [↓zd, zk, Nat.reduceSub, Nat.reduceAdd, Nat.reduceMul, Nat.reduceLeDiff, Nat.reduceEqDiff, reduceIte, Int.reduceEq, Int.reduceBEq, Int.reduceLE, Int.reduceLT, Int.reduceNeg, Int.reduceAdd, Int.reduceSub, Int.reduceMul, List.map, AV.cells, List.all, AV.one, eqV, eqAll, splice, fillA, List.replicate, resAll, resA, zm, zg, g7]
        exact ⟨_, .nils, rfl, by omega, km.set (by omega) _, ⟨by rw [List.getElem?_set_self l7]; rfl, Sl.nil, fun h => by simp at h⟩, .inl rfl⟩
      · simp (disch := first | assumption | omega | (simp only [zl] <;> omega) | (simp only [zn])) only [↓zd, zk, Nat.reduceSub, Nat.reduceAdd, Nat.reduceMul, Nat.reduceLeDiff, Nat.reduceEqDiff, reduceIte, Int.reduceEq, Int.reduceBEq, Int.reduceLE, Int.reduceLT, Int.reduceNeg, Int.reduceAdd, Int.reduceSub, Int.reduceMul, List.map, AV.cells, List.all, AV.one, eqV, eqAll, splice, fillA, List.replicate, resAll, resA, zm, zg, g7]
        exact ⟨_, .sl q o 0 cc, rfl, by omega, km.set (by omega) _, ⟨by rw [List.getElem?_set_self l7]; rfl, ⟨rfl, .inr ⟨_, _, _, rfl, fun h => absurd h (Nat.lt_irrefl _)⟩⟩, fun h => by simp at h⟩, .inr ⟨_, _, _, _, rfl, hqm⟩⟩
    · simp (disch := first | assumption | omega | (simp only [zl] <;> omega) | (simp only [zn])) only [↓zd, zk, Nat.reduceSub, Nat.reduceAdd, Nat.reduceMul, Nat.reduceLeDiff, Nat.reduceEqDiff, reduceIte, Int.reduceEq, Int.reduceBEq, Int.reduceLE, Int.reduceLT, Int.reduceNeg, Int.reduceAdd, Int.reduceSub, Int.reduceMul, List.map, AV.cells, List.all, AV.one, eqV, eqAll, splice, fillA, List.replicate, resAll, resA, zm, zg, a95]
      have hkq : Keep (m1.take (m.length + 8)) m1 := ⟨by rw [List.length_take]; omega, fun i hi => by
        rw [List.length_take] at hi
        rw [List.getElem?_take, if_pos (by omega)]⟩
      refine OK_fn (delete_run hkq (by rw [List.length_take]; omega) hq1 hn) ?_
      rintro w2 m2 ⟨k2, sl2, fr2, nx2⟩
      have hlt : (m1.take (m.length + 8)).length = m.length + 8 := by rw [List.length_take]; omega
      have hg2 : m2[m.length + 7]? = some (.cells 12 false (layC c p ⟨1, 0, 0, 0, []⟩ .nils)) := by
        rw [k2.2 _ (by omega), List.getElem?_take, if_pos (by omega)]; exact g7
      have l2 : m.length + 7 < m2.length := (List.getElem?_eq_some_iff.1 hg2).1
      have km2 : Keep m m2 := ⟨by have := k2.1; omega, fun i hi => by rw [k2.2 i (by omega), List.getElem?_take, if_pos (by omega), km.2 i hi]⟩
      have nb : ∀ ro L, m2[m.length + 7]? ≠ some (.cells 1 ro L) := fun ro L h => by rw [hg2] at h; cases h
      rw [hlt] at fr2
      have hw2 : w2 = .nils ∨ ∃ q o nn, w2 = .sl q o nn none := by
        rcases nx2 with h | ⟨q, o, nn, l, h, _⟩
        · exact .inl h
        · exact .inr ⟨q, o, nn, h⟩
      have hfr2 : Fr m.length w2 := by
        rcases fr2 with h | ⟨q, o, nn, cc, h, h'⟩
        · exact .inl h
        · exact .inr ⟨q, o, nn, cc, h, by omega⟩
      have hsl := Sl.put sl2.ro nb
      have hnx := fun C => Nx.put nx2 nb C
      simp only [layC, rgC, cfC, List.cons_append, List.nil_append] at hg2
      rcases hw2 with rfl | ⟨q2, o2, nn2, rfl⟩
      · simp (disch := first | assumption | omega | (simp only [zl] <;> omega) | (simp only [zn])) only [↓zd, zk, Nat.reduceSub, Nat.reduceAdd, Nat.reduceMul, Nat.reduceLeDiff, Nat.reduceEqDiff, reduceIte, Int.reduceEq, Int.reduceBEq, Int.reduceLE, Int.reduceLT, Int.reduceNeg, Int.reduceAdd, Int.reduceSub, Int.reduceMul, List.map, AV.cells, List.all, AV.one, eqV, eqAll, splice, fillA, List.replicate, resAll, resA, zm, zg, hg2]
        exact ⟨_, _, rfl, by omega, km2.set (by omega) _, ⟨by rw [List.getElem?_set_self l2]; rfl, hsl _, fun _ => hnx _⟩, hfr2⟩
      · simp (disch := first | assumption | omega | (simp only [zl] <;> omega) | (simp only [zn])) only [↓zd, zk, Nat.reduceSub, Nat.reduceAdd, Nat.reduceMul, Nat.reduceLeDiff, Nat.reduceEqDiff, reduceIte, Int.reduceEq, Int.reduceBEq, Int.reduceLE, Int.reduceLT, Int.reduceNeg, Int.reduceAdd, Int.reduceSub, Int.reduceMul, List.map, AV.cells, List.all, AV.one, eqV, eqAll, splice, fillA, List.replicate, resAll, resA, zm, zg, hg2]
        exact ⟨_, _, rfl, by omega, km2.set (by omega) _, ⟨by rw [List.getElem?_set_self l2]; rfl, hsl _, fun _ => hnx _⟩, hfr2⟩
  · have hnl : newL c p xs = ⟨0, 0, 0, 0, []⟩ := if_neg h1
    unfold NlP
    rw [hnl]
    rw [fromA, if_neg h1] at hfr
    simp only [rgC, cfC, List.cons_append, List.nil_append, List.append_assoc] at hfr
    refine Fn_of rfl ?_
    simp (disch := first | assumption | omega | (simp only [zl] <;> omega) | (simp only [zn])) only [put_NewLay, ↓zd, zk, Nat.reduceSub, Nat.reduceAdd, Nat.reduceMul, Nat.reduceLeDiff, Nat.reduceEqDiff, reduceIte, Int.reduceEq, Int.reduceBEq, Int.reduceLE, Int.reduceLT, Int.reduceNeg, Int.reduceAdd, Int.reduceSub, Int.reduceMul, List.map, AV.cells, List.all, AV.one, eqV, eqAll, splice, fillA, List.replicate, resAll, resA, zm, zg, cfC, a206, hfr, List.set_set, List.drop_succ_cons, List.drop_zero, List.drop_nil, List.append_nil]
    exact ⟨_, .nils, rfl, by omega, .app _ _, ⟨by rw [get_mid]; rfl, Sl.nil, fun h => by simp at h⟩, .inl rfl⟩
theorem lhands_run {m : MM} {xj : Nat} {c : Cf} {p : Int} {s : LS} {lv : AV} (hx : LM m xj c p s lv) (hl : s.ls.length ≤ 100000) : Fn Gpo put_Lay_Hands [.ptr xj 0] m (ClP m s.ls) := by
  have a208 : assoc Gpo 208 = some c_slices_Clone_int := rfl
  have he : c_slices_Clone_int (X := Ob) = amFunc [] slices_Clone_int := rfl
  generalize Gpo = G at a208 ⊢
  have hg := hx.get
  simp only [layC, rgC, cfC, List.cons_append, List.nil_append] at hg
  refine Fn_of rfl ?_
  simp (disch := first | assumption | omega | (simp only [zl] <;> omega) | (simp only [zn])) only [put_Lay_Hands, ↓zd, zk, Nat.reduceSub, Nat.reduceAdd, Nat.reduceMul, Nat.reduceLeDiff, Nat.reduceEqDiff, reduceIte, Int.reduceEq, Int.reduceBEq, Int.reduceLE, Int.reduceLT, Int.reduceNeg, Int.reduceAdd, Int.reduceSub, Int.reduceMul, List.map, AV.cells, List.all, AV.one, eqV, eqAll, splice, fillA, List.replicate, resAll, resA, zm, zg, hg, a208, he]
  refine OK_fn (clone_run hx.l hl) ?_
  intro r m1 hc
  simp (disch := first | assumption | omega | (simp only [zl] <;> omega) | (simp only [zn])) only [↓zd, zk, Nat.reduceSub, Nat.reduceAdd, Nat.reduceMul, Nat.reduceLeDiff, Nat.reduceEqDiff, reduceIte, Int.reduceEq, Int.reduceBEq, Int.reduceLE, Int.reduceLT, Int.reduceNeg, Int.reduceAdd, Int.reduceSub, Int.reduceMul, List.map, AV.cells, List.all, AV.one, eqV, eqAll, splice, fillA, List.replicate, resAll, resA, zm, zg]
  exact hc
end Go.Am.F09
end
