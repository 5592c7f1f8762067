import Derived.Test.YtgfddegdjdeeoaaXG22
set_option linter.unusedSimpArgs false
set_option linter.unusedVariables false
section
namespace Go.Am.F09
open Go.Am.F06 Go.Am.F10
theorem PyS.poke {m0 m m' : MM} {c0 c c' : Cf} {p p' g g' : Int} {cb j rb xj yb : Nat} {ps : List Pk} {lv : AV} {s : PS} {xs xs' : List Int} {o o' : Int} {tv hv ytv yhv v v' : AV} {qt : Nat} (h : PyS m0 c0 c c' p p' g g' cb j rb xj yb ps lv s xs o tv hv ytv yhv v qt m) (hj0 : m0.length ≤ j) (hr0 : m0.length ≤ rb) (k : KeepB j m m') {st' : MemSt} (hj' : m'[j]? = some (.abs (.mem st'))) (hr' : RelM xs' o' st') (hsu : SU m' false xs' v') (hokL : OkL c xs') :
    PyS m0 c0 c c' p p' g g' cb j rb xj yb ps lv s xs' o' tv hv ytv yhv v' qt (m'.set rb (.cells 2 false (memC v' o'))) := by
  obtain ⟨st, hj, hr⟩ := h.mem
  have hl := k.1
  have hk0 := h.k0.1
  have lr : rb < m.length := (List.getElem?_eq_some_iff.1 h.ref).1
  obtain ⟨n1, n2, n3⟩ := h.ne h.ref (by decide) (by decide)
  obtain ⟨y1, y2, y3⟩ := h.ne h.y (by decide) (by decide)
  have hyr : yb ≠ rb := fun hh => by have h1 := h.y; rw [hh, h.ref] at h1; cases h1
  have lx : xj < m.length := (List.getElem?_eq_some_iff.1 h.pm.get).1
  have ly : yb < m.length := (List.getElem?_eq_some_iff.1 h.y).1
  have hxj : xj ≠ j := fun hh => by have h1 := h.pm.get; rw [hh, hj] at h1; cases h1
  have hrb' : m'[rb]? = some (.cells 2 false (memC v o)) := by rw [k.2 rb lr n2]; exact h.ref
  have nb : ∀ sz, sz ≠ 2 → ∀ ro L, m'[rb]? ≠ some (.cells sz ro L) := fun sz hsz ro L hh => by rw [hrb'] at hh; injection hh with hh; injection hh with hh; exact hsz hh.symm
  have nj : ∀ sz ro L, m[j]? ≠ some (.cells sz ro L) := fun sz ro L hh => by rw [hj] at hh; cases hh
  have row : ∀ {wr : Bool} {sz n : Nat} {l : List AV} {w : AV}, sz ≠ 2 → Sl m wr sz n l w → Sl (m'.set rb (.cells 2 false (memC v' o'))) wr sz n l w := fun hsz hs =>
    Sl.put (Sl.stay hs fun q oo cap hw h0 => by
      obtain ⟨h1, ro, L, h2⟩ := Sl.lt hs hw h0
      exact k.2 q h1 fun hh => nj _ ro L (by rw [← hh]; exact h2)) (nb _ hsz) _
  have hg : ∀ i, i < m.length → i ≠ j → i ≠ rb → (m'.set rb (.cells 2 false (memC v' o')))[i]? = m[i]? := fun i hi h1 h2 => by
    rw [List.getElem?_set_ne (fun hh => h2 hh.symm), k.2 i hi h1]
  have hqj : ∀ l, m[qt]? = some (.cells 1 false (iC l)) → qt < m.length ∧ qt ≠ j ∧ qt ≠ rb := fun l hl => ⟨(List.getElem?_eq_some_iff.1 hl).1, fun hh => nj _ _ _ (by rw [← hh]; exact hl), fun hh => by rw [hh, h.ref] at hl; cases hl⟩
  refine ⟨⟨by simp only [List.length_set]; omega, fun i hi => by rw [hg i (by omega) (by omega) (by omega), h.k0.2 i hi]⟩, ⟨by rw [hg xj lx hxj (fun hh => n1 hh.symm)]; exact h.pm.get, fun ha => ?_, h.pm.one, row (by decide) h.pm.h, h.pm.off⟩, ?_, h.bq, ⟨st', by rw [List.getElem?_set_ne n2]; exact hj', hr'⟩, List.getElem?_set_self (by omega), Sl.put hsu (nb 1 (by decide)) _, by rw [hg yb ly y2 hyr]; exact h.y, row (by decide) h.yt, row (by decide) h.yh, h.ot, h.oh, h.ok, hokL, h.cc, row (by decide) h.ps⟩
  · refine (h.pm.t ha).keep fun h0 => ?_
    obtain ⟨q1, q2, q3⟩ := hqj _ ((h.pm.t ha).box h0)
    exact hg qt q1 q2 q3
  · rcases h.qr with hq | ⟨l, hl⟩
    · exact .inl hq
    · obtain ⟨q1, q2, q3⟩ := hqj l hl
      exact .inr ⟨l, by rw [hg qt q1 q2 q3]; exact hl⟩
theorem rpC_len (c : Cf) (p g : Int) (s : PS) (tv hv : AV) : (rpC c p g s tv hv).length = 12 := rfl
theorem rpC_take (c : Cf) (p g : Int) (s : PS) (tv hv : AV) : (rpC c p g s tv hv).take 12 = rpC c p g s tv hv := rfl
theorem rpC_all (c : Cf) (p g : Int) (s : PS) {tv hv : AV} (h1 : tv.one = true) (h2 : hv.one = true) : (rpC c p g s tv hv).all AV.one = true := by
  rw [List.all_eq_true]
  intro x hx
  simp only [rpC, cfC, List.cons_append, List.nil_append, List.mem_cons, List.not_mem_nil, or_false] at hx
  rcases hx with rfl | rfl | rfl | rfl | rfl | rfl | rfl | rfl | rfl | rfl | rfl | rfl <;> first | rfl | assumption
theorem rpC_a (c : Cf) (p g : Int) (s : PS) (tv hv : AV) : (rpC c p g s tv hv)[8]? = some (.int .i64 s.a) := rfl
theorem rpC_h (c : Cf) (p g : Int) (s : PS) (tv hv : AV) : (rpC c p g s tv hv)[11]? = some hv := rfl
theorem rpC_drop (c : Cf) (p g : Int) (s : PS) (tv hv : AV) : (rpC c p g s tv hv).drop 12 = [] := rfl
def PyI (m0 : MM) (c0 c c' : Cf) (p0 p p' g0 g g' : Int) (bv : AV) (cb j rb xj yb : Nat) (ps : List Pk) (lv : AV) (k : Nat) (e : List AV) (m : MM) : Prop := ∃ (i : Nat) (s : PS) (xs : List Int) (o : Int) (tv hv ytv yhv v : AV) (qt : Nat) (z12 z13 z14 z15 z16 z17 z18 z19 z20 z21 z22 z23 z24 z25 z26 z27 z28 z29 z30 : AV),
  e = [.agg (cfC c0), .int .i64 p0, .int .i64 g0, bv, lv, .ptr cb 0, .bool false, .ptr j 0, .ptr rb 0, .ptr xj 0, .ptr yb 0, .int .i64 i, z12, z13, z14, z15, z16, z17, z18, z19, z20, z21, z22, z23, z24, z25, z26, z27, z28, z29, z30] ∧ k = ps.length + 1 - i ∧ i ≤ ps.length ∧ 0 ≤ o ∧ o ≤ 700 + 2 * i ∧ PyS m0 c0 c c' p p' g g' cb j rb xj yb ps lv s xs o tv hv ytv yhv v qt m
set_option maxHeartbeats 16000000 in
theorem pplays_run {m0 : MM} {c : Cf} {p g : Int} {bs : List Int} {bv lv : AV} {ps : List Pk} (hB : SB m0 bs bv) (hb : ∀ x, x ∈ bs → 0 ≤ x ∧ x < 256) (hl : SPk m0 false ps lv) (hv : ∀ x, x ∈ ps → W64 x.v) :
    Fn Gpy law09_PutPlays [.agg (cfC c), .int .i64 p, .int .i64 g, bv, lv] m0 (fun r m' => r = .bool true ∧ Keep m0 m') := by
  have a184 : assoc Gpy 184 = some (pureF worksG) := rfl
  have a134 : assoc Gpy 134 = some F10.c_docs_Filled := rfl
  have a135 : assoc Gpy 135 = some (amFunc F10.Gmem F10.docs_Mem) := rfl
  have a185 : assoc Gpy 185 = some c_put_New := rfl
  have a147 : assoc Gpy 147 = some F10.c_docs_Config := rfl
  have a189 : assoc Gpy 189 = some c_ref09_New := rfl
  have a191 : assoc Gpy 191 = some c_put_Put_Done := rfl
  have a68 : assoc Gpy 68 = some (amFunc F10.Gsmem F10.docs_SameMem) := rfl
  have a46 : assoc Gpy 46 = some (memF fun s rest => (opsAsk s rest).map fun v => (v, s)) := rfl
  have a192 : assoc Gpy 192 = some (amFunc Grp ref09_Step) := rfl
  have a186 : assoc Gpy 186 = some (amFunc Gpst put_Put_Step) := rfl
  have a193 : assoc Gpy 193 = some (amFunc Gpk law09_poked) := rfl
  have hfe : F10.c_docs_Filled (X := Ob) = amFunc F10.Gfill F10.docs_Filled := rfl
  have hpe : c_put_New (X := Ob) = amFunc [(206, c_put_from)] put_New := rfl
  have hre : c_ref09_New (X := Ob) = amFunc [(169, F10.c_ref09_There)] ref09_New := rfl
  have hlenl := hl.len
  have hlenb := hB.len
  rw [pplays_body]
  refine Fn_of rfl ?_
  by_cases h1 : 60 < ps.length
  · simp (disch := first | assumption | omega | (simp only [List.length_cons, List.length_nil, List.length_set, List.length_append] <;> omega) | (simp only [get_mid, get_mid0, List.cons_append, List.append_assoc, List.getElem?_cons_zero, List.getElem?_cons_succ])) only [sqN, law09_PutPlays, ek, ↓evW, ↓evQ, evB, evS, evL, List.map, AV.cells, List.all, AV.one, Bool.and_true, Bool.true_and, if_true, ↓thenQ_normal, ↓thenQ_exit, ↓thenQ_ret, ↓blockQ_normal, ↓blockQ_ret, ↓blockQ_exit, ↓CW_true, ↓CW_false, CW_true, CW_false, condT, condF, RQ_some, tupA_one, tupA_two, tupA_nil, Nat.reduceSub, Nat.reduceAdd, Nat.reduceMul, Nat.zero_add, Nat.add_zero, Nat.reduceLeDiff, Nat.reduceEqDiff, eqV, eqAll, fillA, and_self, and_true, true_and, Nat.le_refl, Bool.not_true, Bool.not_false, Bool.false_xor, Bool.true_xor, cond_true, cond_false, List.replicate, if_false, reduceIte, resAll, resA, ne_eq, decide_not, decide_true, decide_false, Int.reduceEq, Bool.not_true, Bool.not_false, not_true_eq_false, not_false_eq_true, cond_bool, cond_int, beq_self_eq_true, Int.reduceBEq, Bool.and_self, Bool.and_false, Bool.false_and, Bool.xor_false, Bool.xor_true, loadN_ldC, ldC_none, ldC_somes, stC_aggs, splice, storeN_stC, stC_int, stC_bool, stC_ptr, stC_nilp, stC_sl, stC_nils, getC_gcO, gcO_cells, W_draw_eq, ↓W_scope, ev_clear, evT, evF, evX, evM, ↓exitQ_normal, ↓exitQ_ret, ↓exitQ_exit, saA_self, saO_self, if_pos, if_neg, wrapI, get_concat, set_concat, Int.toNat_natCast, Int.toNat_zero, List.nil_append, Nat.mul_one, decide_eq_true, decide_eq_false, Int.reduceLE, Int.reduceLT, Int.reduceNeg, Bool.false_or, Bool.true_or, Bool.or_false, Bool.or_true, wrapU, Int.reduceAdd, Int.reduceSub, Int.reduceMul, List.append_assoc, List.length_append, get_mid, get_mid0, set_mid, set_mid0, List.length_set, List.length_cons, List.length_nil, List.cons_append, List.getElem?_append_left, List.set_append_left, get_at, get_at0, set_at, set_at0, List.getElem?_set_self, List.getElem?_set_ne, cfC, ev_len, hlenl, hlenb, a184, pureF, worksG]
    exact .app _ _
  by_cases h2 : 40 < bs.length
  · simp (disch := first | assumption | omega | (simp only [List.length_cons, List.length_nil, List.length_set, List.length_append] <;> omega) | (simp only [get_mid, get_mid0, List.cons_append, List.append_assoc, List.getElem?_cons_zero, List.getElem?_cons_succ])) only [sqN, law09_PutPlays, ek, ↓evW, ↓evQ, evB, evS, evL, List.map, AV.cells, List.all, AV.one, Bool.and_true, Bool.true_and, if_true, ↓thenQ_normal, ↓thenQ_exit, ↓thenQ_ret, ↓blockQ_normal, ↓blockQ_ret, ↓blockQ_exit, ↓CW_true, ↓CW_false, CW_true, CW_false, condT, condF, RQ_some, tupA_one, tupA_two, tupA_nil, Nat.reduceSub, Nat.reduceAdd, Nat.reduceMul, Nat.zero_add, Nat.add_zero, Nat.reduceLeDiff, Nat.reduceEqDiff, eqV, eqAll, fillA, and_self, and_true, true_and, Nat.le_refl, Bool.not_true, Bool.not_false, Bool.false_xor, Bool.true_xor, cond_true, cond_false, List.replicate, if_false, reduceIte, resAll, resA, ne_eq, decide_not, decide_true, decide_false, Int.reduceEq, Bool.not_true, Bool.not_false, not_true_eq_false, not_false_eq_true, cond_bool, cond_int, beq_self_eq_true, Int.reduceBEq, Bool.and_self, Bool.and_false, Bool.false_and, Bool.xor_false, Bool.xor_true, loadN_ldC, ldC_none, ldC_somes, stC_aggs, splice, storeN_stC, stC_int, stC_bool, stC_ptr, stC_nilp, stC_sl, stC_nils, getC_gcO, gcO_cells, W_draw_eq, ↓W_scope, ev_clear, evT, evF, evX, evM, ↓exitQ_normal, ↓exitQ_ret, ↓exitQ_exit, saA_self, saO_self, if_pos, if_neg, wrapI, get_concat, set_concat, Int.toNat_natCast, Int.toNat_zero, List.nil_append, Nat.mul_one, decide_eq_true, decide_eq_false, Int.reduceLE, Int.reduceLT, Int.reduceNeg, Bool.false_or, Bool.true_or, Bool.or_false, Bool.or_true, wrapU, Int.reduceAdd, Int.reduceSub, Int.reduceMul, List.append_assoc, List.length_append, get_mid, get_mid0, set_mid, set_mid0, List.length_set, List.length_cons, List.length_nil, List.cons_append, List.getElem?_append_left, List.set_append_left, get_at, get_at0, set_at, set_at0, List.getElem?_set_self, List.getElem?_set_ne, cfC, ev_len, hlenl, hlenb, a184, pureF, worksG]
    exact .app _ _
  simp (disch := first | assumption | omega | (simp only [List.length_cons, List.length_nil, List.length_set, List.length_append] <;> omega) | (simp only [get_mid, get_mid0, List.cons_append, List.append_assoc, List.getElem?_cons_zero, List.getElem?_cons_succ])) only [sqN, law09_PutPlays, ek, ↓evW, ↓evQ, evB, evS, evL, List.map, AV.cells, List.all, AV.one, Bool.and_true, Bool.true_and, if_true, ↓thenQ_normal, ↓thenQ_exit, ↓thenQ_ret, ↓blockQ_normal, ↓blockQ_ret, ↓blockQ_exit, ↓CW_true, ↓CW_false, CW_true, CW_false, condT, condF, RQ_some, tupA_one, tupA_two, tupA_nil, Nat.reduceSub, Nat.reduceAdd, Nat.reduceMul, Nat.zero_add, Nat.add_zero, Nat.reduceLeDiff, Nat.reduceEqDiff, eqV, eqAll, fillA, and_self, and_true, true_and, Nat.le_refl, Bool.not_true, Bool.not_false, Bool.false_xor, Bool.true_xor, cond_true, cond_false, List.replicate, if_false, reduceIte, resAll, resA, ne_eq, decide_not, decide_true, decide_false, Int.reduceEq, Bool.not_true, Bool.not_false, not_true_eq_false, not_false_eq_true, cond_bool, cond_int, beq_self_eq_true, Int.reduceBEq, Bool.and_self, Bool.and_false, Bool.false_and, Bool.xor_false, Bool.xor_true, loadN_ldC, ldC_none, ldC_somes, stC_aggs, splice, storeN_stC, stC_int, stC_bool, stC_ptr, stC_nilp, stC_sl, stC_nils, getC_gcO, gcO_cells, W_draw_eq, ↓W_scope, ev_clear, evT, evF, evX, evM, ↓exitQ_normal, ↓exitQ_ret, ↓exitQ_exit, saA_self, saO_self, if_pos, if_neg, wrapI, get_concat, set_concat, Int.toNat_natCast, Int.toNat_zero, List.nil_append, Nat.mul_one, decide_eq_true, decide_eq_false, Int.reduceLE, Int.reduceLT, Int.reduceNeg, Bool.false_or, Bool.true_or, Bool.or_false, Bool.or_true, wrapU, Int.reduceAdd, Int.reduceSub, Int.reduceMul, List.append_assoc, List.length_append, get_mid, get_mid0, set_mid, set_mid0, List.length_set, List.length_cons, List.length_nil, List.cons_append, List.getElem?_append_left, List.set_append_left, get_at, get_at0, set_at, set_at0, List.getElem?_set_self, List.getElem?_set_ne, cfC, ev_len, hlenl, hlenb, a134, hfe]
  have hB1 : SB (m0 ++ [Chunk.cells 6 false (cfC c)]) bs bv := hB.keep (Keep.app _ _)
  refine OK_fn (filled_run (c := c) hB1 hb) ?_
  rintro r1 m1 ⟨xs0, k1, s1, x1, x2⟩
  have hk1 : Keep m0 m1 := (Keep.app m0 _).trans k1
  have gb1 : m1[m0.length]? = some (Chunk.cells 6 false (cfC c)) := k1.get get_concat
  have hcn := cellsN_le c
  simp (disch := first | assumption | omega | (simp only [List.length_cons, List.length_nil, List.length_set, List.length_append] <;> omega) | (simp only [get_mid, get_mid0, List.cons_append, List.append_assoc, List.getElem?_cons_zero, List.getElem?_cons_succ])) only [ek, ↓evW, ↓evQ, evB, evS, evL, List.map, AV.cells, List.all, AV.one, Bool.and_true, Bool.true_and, if_true, ↓thenQ_normal, ↓thenQ_exit, ↓thenQ_ret, ↓blockQ_normal, ↓blockQ_ret, ↓blockQ_exit, ↓CW_true, ↓CW_false, CW_true, CW_false, condT, condF, RQ_some, tupA_one, tupA_two, tupA_nil, Nat.reduceSub, Nat.reduceAdd, Nat.reduceMul, Nat.zero_add, Nat.add_zero, Nat.reduceLeDiff, Nat.reduceEqDiff, eqV, eqAll, fillA, and_self, and_true, true_and, Nat.le_refl, Bool.not_true, Bool.not_false, Bool.false_xor, Bool.true_xor, cond_true, cond_false, List.replicate, if_false, reduceIte, resAll, resA, ne_eq, decide_not, decide_true, decide_false, Int.reduceEq, Bool.not_true, Bool.not_false, not_true_eq_false, not_false_eq_true, cond_bool, cond_int, beq_self_eq_true, Int.reduceBEq, Bool.and_self, Bool.and_false, Bool.false_and, Bool.xor_false, Bool.xor_true, loadN_ldC, ldC_none, ldC_somes, stC_aggs, splice, storeN_stC, stC_int, stC_bool, stC_ptr, stC_nilp, stC_sl, stC_nils, getC_gcO, gcO_cells, W_draw_eq, ↓W_scope, ev_clear, evT, evF, evX, evM, ↓exitQ_normal, ↓exitQ_ret, ↓exitQ_exit, saA_self, saO_self, if_pos, if_neg, wrapI, get_concat, set_concat, Int.toNat_natCast, Int.toNat_zero, List.nil_append, Nat.mul_one, decide_eq_true, decide_eq_false, Int.reduceLE, Int.reduceLT, Int.reduceNeg, Bool.false_or, Bool.true_or, Bool.or_false, Bool.or_true, wrapU, Int.reduceAdd, Int.reduceSub, Int.reduceMul, List.append_assoc, List.length_append, get_mid, get_mid0, set_mid, set_mid0, List.length_set, List.length_cons, List.length_nil, List.cons_append, List.getElem?_append_left, List.set_append_left, get_at, get_at0, set_at, set_at0, List.getElem?_set_self, List.getElem?_set_ne, a135]
  refine OK_fn (mem_run s1 (by omega)) ?_
  rintro _ m2 ⟨st, v, rfl, k2, g2, rm, s2⟩
  have gb2 := k2.get gb1
  have hk2 := hk1.trans k2
  have hone := slOne s2
  simp only [AV.one] at hone
  have lb : m0.length < m2.length := (List.getElem?_eq_some_iff.1 gb2).1
  have hj0 : m0.length ≤ m1.length + 1 := by have := hk1.1; omega
  generalize m1.length + 1 = j at g2 hj0 ⊢
  have gb3 : ∀ K : MM, (m2 ++ K)[m0.length]? = some (.cells 6 false (cfC c)) := fun K => (Keep.app m2 K).get gb2
  simp only [cfC] at gb2 gb3
  simp (disch := first | assumption | omega | (simp only [List.length_cons, List.length_nil, List.length_set, List.length_append] <;> omega) | (simp only [get_mid, get_mid0, List.cons_append, List.append_assoc, List.getElem?_cons_zero, List.getElem?_cons_succ])) only [ek, ↓evW, ↓evQ, evB, evS, evL, List.map, AV.cells, List.all, AV.one, Bool.and_true, Bool.true_and, if_true, ↓thenQ_normal, ↓thenQ_exit, ↓thenQ_ret, ↓blockQ_normal, ↓blockQ_ret, ↓blockQ_exit, ↓CW_true, ↓CW_false, CW_true, CW_false, condT, condF, RQ_some, tupA_one, tupA_two, tupA_nil, Nat.reduceSub, Nat.reduceAdd, Nat.reduceMul, Nat.zero_add, Nat.add_zero, Nat.reduceLeDiff, Nat.reduceEqDiff, eqV, eqAll, fillA, and_self, and_true, true_and, Nat.le_refl, Bool.not_true, Bool.not_false, Bool.false_xor, Bool.true_xor, cond_true, cond_false, List.replicate, if_false, reduceIte, resAll, resA, ne_eq, decide_not, decide_true, decide_false, Int.reduceEq, Bool.not_true, Bool.not_false, not_true_eq_false, not_false_eq_true, cond_bool, cond_int, beq_self_eq_true, Int.reduceBEq, Bool.and_self, Bool.and_false, Bool.false_and, Bool.xor_false, Bool.xor_true, loadN_ldC, ldC_none, ldC_somes, stC_aggs, splice, storeN_stC, stC_int, stC_bool, stC_ptr, stC_nilp, stC_sl, stC_nils, getC_gcO, gcO_cells, W_draw_eq, ↓W_scope, ev_clear, evT, evF, evX, evM, ↓exitQ_normal, ↓exitQ_ret, ↓exitQ_exit, saA_self, saO_self, if_pos, if_neg, wrapI, get_concat, set_concat, Int.toNat_natCast, Int.toNat_zero, List.nil_append, Nat.mul_one, decide_eq_true, decide_eq_false, Int.reduceLE, Int.reduceLT, Int.reduceNeg, Bool.false_or, Bool.true_or, Bool.or_false, Bool.or_true, wrapU, Int.reduceAdd, Int.reduceSub, Int.reduceMul, List.append_assoc, List.length_append, get_mid, get_mid0, set_mid, set_mid0, List.length_set, List.length_cons, List.length_nil, List.cons_append, List.getElem?_append_left, List.set_append_left, get_at, get_at0, set_at, set_at0, List.getElem?_set_self, List.getElem?_set_ne, memC, hone, gb2, gb3, cfC, a185, hpe]
  have hnw := fun M : MM => pnew_run (m := M) (c := c) (p := p) (g := g)
  simp only [cfC] at hnw
  refine OKT_fn (hnw _) ?_
  rintro _ m3 ⟨xj, hv0, rfl, hxl, k3, hpm, hfr⟩
  simp only [List.length_append, List.length_cons, List.length_nil] at hxl
  have hkA := Keep.app m2 [Chunk.cells 2 false (memC v xs0.length), .cells 12 false [.int .i64 0, .int .i64 0, .int .i64 0, .int .i64 0, .int .i64 0, .int .i64 0, .int .i64 0, .int .i64 0, .int .i64 0, .int .u64 0, .nils, .nils]]
  have gr3 := k3.get (i := m2.length) (c := .cells 2 false (memC v xs0.length)) (by rw [get_mid0]; rfl)
  have gy3 := k3.get (i := m2.length + 1) (c := .cells 12 false [.int .i64 0, .int .i64 0, .int .i64 0, .int .i64 0, .int .i64 0, .int .i64 0, .int .i64 0, .int .i64 0, .int .i64 0, .int .u64 0, .nils, .nils]) (by rw [get_mid]; rfl)
  have k23 : Keep m2 m3 := hkA.trans k3
  have gbm3 := k23.get gb2
  have f147 := fun m : MM => config_eq m c
  simp only [cfC] at f147
  simp (disch := first | assumption | omega | (simp only [List.length_cons, List.length_nil, List.length_set, List.length_append] <;> omega) | (simp only [get_mid, get_mid0, List.cons_append, List.append_assoc, List.getElem?_cons_zero, List.getElem?_cons_succ])) only [ek, ↓evW, ↓evQ, evB, evS, evL, List.map, AV.cells, List.all, AV.one, Bool.and_true, Bool.true_and, if_true, ↓thenQ_normal, ↓thenQ_exit, ↓thenQ_ret, ↓blockQ_normal, ↓blockQ_ret, ↓blockQ_exit, ↓CW_true, ↓CW_false, CW_true, CW_false, condT, condF, RQ_some, tupA_one, tupA_two, tupA_nil, Nat.reduceSub, Nat.reduceAdd, Nat.reduceMul, Nat.zero_add, Nat.add_zero, Nat.reduceLeDiff, Nat.reduceEqDiff, eqV, eqAll, fillA, and_self, and_true, true_and, Nat.le_refl, Bool.not_true, Bool.not_false, Bool.false_xor, Bool.true_xor, cond_true, cond_false, List.replicate, if_false, reduceIte, resAll, resA, ne_eq, decide_not, decide_true, decide_false, Int.reduceEq, Bool.not_true, Bool.not_false, not_true_eq_false, not_false_eq_true, cond_bool, cond_int, beq_self_eq_true, Int.reduceBEq, Bool.and_self, Bool.and_false, Bool.false_and, Bool.xor_false, Bool.xor_true, loadN_ldC, ldC_none, ldC_somes, stC_aggs, splice, storeN_stC, stC_int, stC_bool, stC_ptr, stC_nilp, stC_sl, stC_nils, getC_gcO, gcO_cells, W_draw_eq, ↓W_scope, ev_clear, evT, evF, evX, evM, ↓exitQ_normal, ↓exitQ_ret, ↓exitQ_exit, saA_self, saO_self, if_pos, if_neg, wrapI, get_concat, set_concat, Int.toNat_natCast, Int.toNat_zero, List.nil_append, Nat.mul_one, decide_eq_true, decide_eq_false, Int.reduceLE, Int.reduceLT, Int.reduceNeg, Bool.false_or, Bool.true_or, Bool.or_false, Bool.or_true, wrapU, Int.reduceAdd, Int.reduceSub, Int.reduceMul, List.append_assoc, List.length_append, get_mid, get_mid0, set_mid, set_mid0, List.length_set, List.length_cons, List.length_nil, List.cons_append, List.getElem?_append_left, List.set_append_left, get_at, get_at0, set_at, set_at0, List.getElem?_set_self, List.getElem?_set_ne, gbm3, gb3, a147, f147, a189, hre]
  have hrn := fun K : MM => rpnew_run (m := m3 ++ K) (c := c) (p := p) (g := g)
  simp only [cfC] at hrn
  refine OKT_fn (hrn _) ?_
  rintro _ m4 ⟨k4, yhv, rfl, syh⟩
  have k34 : Keep m3 m4 := (Keep.app m3 _).trans k4
  have gy4 := k34.get gy3
  have gr4 := k34.get gr3
  have gbm4 := k34.get gbm3
  have ly4 : m2.length + 1 < m4.length := (List.getElem?_eq_some_iff.1 gy4).1
  have honeh := slOne syh
  have hall := rpC_all (ncC c p g) (ncP c p g) (ncG c p g) (newS c p g) (tv := .nils) rfl honeh
  have gy3' := fun K : MM => (Keep.app m3 K).get gy3
  simp (disch := first | assumption | omega | (simp only [List.length_cons, List.length_nil, List.length_set, List.length_append] <;> omega) | (simp only [get_mid, get_mid0, List.cons_append, List.append_assoc, List.getElem?_cons_zero, List.getElem?_cons_succ])) only [ek, ↓evW, ↓evQ, evB, evS, evL, List.map, AV.cells, List.all, AV.one, Bool.and_true, Bool.true_and, if_true, ↓thenQ_normal, ↓thenQ_exit, ↓thenQ_ret, ↓blockQ_normal, ↓blockQ_ret, ↓blockQ_exit, ↓CW_true, ↓CW_false, CW_true, CW_false, condT, condF, RQ_some, tupA_one, tupA_two, tupA_nil, Nat.reduceSub, Nat.reduceAdd, Nat.reduceMul, Nat.zero_add, Nat.add_zero, Nat.reduceLeDiff, Nat.reduceEqDiff, eqV, eqAll, fillA, and_self, and_true, true_and, Nat.le_refl, Bool.not_true, Bool.not_false, Bool.false_xor, Bool.true_xor, cond_true, cond_false, List.replicate, if_false, reduceIte, resAll, resA, ne_eq, decide_not, decide_true, decide_false, Int.reduceEq, Bool.not_true, Bool.not_false, not_true_eq_false, not_false_eq_true, cond_bool, cond_int, beq_self_eq_true, Int.reduceBEq, Bool.and_self, Bool.and_false, Bool.false_and, Bool.xor_false, Bool.xor_true, loadN_ldC, ldC_none, ldC_somes, stC_aggs, splice, storeN_stC, stC_int, stC_bool, stC_ptr, stC_nilp, stC_sl, stC_nils, getC_gcO, gcO_cells, W_draw_eq, ↓W_scope, ev_clear, evT, evF, evX, evM, ↓exitQ_normal, ↓exitQ_ret, ↓exitQ_exit, saA_self, saO_self, if_pos, if_neg, wrapI, get_concat, set_concat, Int.toNat_natCast, Int.toNat_zero, List.nil_append, Nat.mul_one, decide_eq_true, decide_eq_false, Int.reduceLE, Int.reduceLT, Int.reduceNeg, Bool.false_or, Bool.true_or, Bool.or_false, Bool.or_true, wrapU, Int.reduceAdd, Int.reduceSub, Int.reduceMul, List.append_assoc, List.length_append, get_mid, get_mid0, set_mid, set_mid0, List.length_set, List.length_cons, List.length_nil, List.cons_append, List.getElem?_append_left, List.set_append_left, get_at, get_at0, set_at, set_at0, List.getElem?_set_self, List.getElem?_set_ne, gy4, gy3, gy3', gb3, gbm3, rpC_len, rpC_all, hall, List.drop_succ_cons, List.drop_zero, List.drop_nil, List.append_nil]
  have lj2 : j < m2.length := (List.getElem?_eq_some_iff.1 g2).1
  have hpm4 := PM.keep hpm k34
  have hne : ∀ sz, sz ≠ 12 → ∀ ro L, m4[m2.length + 1]? ≠ some (.cells sz ro L) := fun sz hsz ro L hh => by rw [gy4] at hh; injection hh with hh; injection hh with hh; exact hsz hh.symm
  have hnx4 : ∀ ro L, m4[xj]? ≠ some (.cells 1 ro L) := fun ro L hh => by rw [hpm4.get] at hh; cases hh
  have hk4 : Keep m0 m4 := (hk2.trans k23).trans k34
  have hS : PyS m0 c c (ncC c p g) p (ncP c p g) g (ncG c p g) m0.length j m2.length xj (m2.length + 1) ps lv (newS c p g) xs0 xs0.length .nils hv0 .nils yhv v xj (m4.set (m2.length + 1) (.cells 12 false (rpC (ncC c p g) (ncP c p g) (ncG c p g) (newS c p g) .nils yhv))) := by
    refine ⟨hk4.set (by omega) _, PM.stay hpm4 (b := m2.length + 1) (fun i _ hi => List.getElem?_set_ne (fun h => hi h.symm)) (by omega) (by omega) (si_box hpm4.h (hne 1 (by decide))), .inl rfl, by omega, ⟨st, by rw [List.getElem?_set_ne (by omega)]; exact (k23.trans k34).get g2, rm⟩, by rw [List.getElem?_set_ne (by omega)]; exact gr4, Sl.put ((s2.keep (k23.trans k34))) (hne 1 (by decide)) _, List.getElem?_set_self ly4, ?_, Sl.put syh (hne 1 (by decide)) _, (fun q o n cc hq => by cases hq), si_box syh hnx4, newS_ok c p g, ⟨x1, x2⟩, ?_, Sl.put (hl.keep hk4) (hne 3 (by decide)) _⟩
    · have : (newS c p g).tk = [] := by unfold newS; split <;> rfl
      rw [this]; exact Sl.nil
    · unfold ncC ncP ncG
      by_cases hk : okN c p g
      · rw [if_pos hk, if_pos hk, if_pos hk]; exact .inr ⟨rfl, rfl, rfl⟩
      · have : newS c p g = ⟨0, 0, [], []⟩ := if_neg hk
        rw [this]; exact .inl rfl
  have hb0 : m0.length ≤ xj ∧ m0.length ≤ m2.length ∧ m0.length ≤ m2.length + 1 := by omega
  refine W_loop (PyI m0 c c (ncC c p g) p p (ncP c p g) g g (ncG c p g) bv m0.length j m2.length xj (m2.length + 1) ps lv) (ps.length + 1) (by simp only [FUEL]; omega) ⟨0, _, _, _, _, _, _, _, _, _, _, _, _, _, _, _, _, _, _, _, _, _, _, _, _, _, _, _, _, rfl, by omega, by omega, by omega, by omega, hS⟩ ?_
  clear hS hpm4 hpm hne hnx4 hk4 gy3' gy3 gy4 gr3 gr4 gbm3 gbm4 gb2 gb3 hall honeh syh k34 k4 k3 k23 hkA k2 k1 hk2 hk1 g2 rm s1 s2 hone ly4 lb lj2 hrn hnw f147 hB hB1 gb1 x1 x2 hxl hfr
  generalize ncC c p g = c'
  generalize ncP c p g = p'
  generalize ncG c p g = g'
  generalize m2.length + 1 = yb at hb0 ⊢
  generalize m2.length = rb at hb0 ⊢
  generalize hcb : m0.length = cb at hb0 hj0 ⊢
  rintro k e m ⟨i, s, xs, o, tv, hv1, ytv, yhv, v, qt, z12, z13, z14, z15, z16, z17, z18, z19, z20, z21, z22, z23, z24, z25, z26, z27, z28, z29, z30, rfl, rfl, hi, ho0, ho1, hS⟩
  have hyb := hS.y
  have ha8 := rpC_a c' p' g' s ytv yhv
  have hh11 := rpC_h c' p' g' s ytv yhv
  have hone1 := slOne hS.yh
  have hone2 := slOne hS.yt
  have hall := rpC_all c' p' g' s hone2 hone1
  have hlen := rpC_len c' p' g' s ytv yhv
  have htake := rpC_take c' p' g' s ytv yhv
  have hT := fun (z13 z14 z15 z16 z17 z18 z19 z20 z21 z22 z23 z24 z25 z26 z27 z28 z29 z30 : AV) => pyT_run (c0 := c) (p := p) (g := g) (bv := bv) (lv := lv) (cb := cb) (j := j) (rb := rb) (i := i) (ov := if s.a = 0 then yhv else .nils) (z13 := z13) (z14 := z14) (z15 := z15) (z16 := z16) (z17 := z17) (z18 := z18) (z19 := z19) (z20 := z20) (z21 := z21) (z22 := z22) (z23 := z23) (z24 := z24) (z25 := z25) (z26 := z26) (z27 := z27) (z28 := z28) (z29 := z29) (z30 := z30) hS.pm hyb hS.yh hS.ok.h (by
    split
    · exact hS.yh
    · exact Sl.nil)
  have hrest : ∀ e m', Keep m m' → PtE c p g bv lv cb j rb xj yb i (if s.a = 0 then yhv else .nils) e → W Gpy pyU (blockQ 1 (thenQ (thenQ (blockQ 0 (thenQ (resQ [.loc 6] fun r m' => r = .bool true ∧ Keep m0 m') (W Gpy pyE (resQ [.loc 6] fun r m' => r = .bool true ∧ Keep m0 m')))) fun e' m' => ∃ k, k < ps.length + 1 - i ∧ PyI m0 c c c' p p p' g g g' bv cb j rb xj yb ps lv k e' m') (W Gpy pyI (thenQ (blockQ 0 (thenQ (resQ [.loc 6] fun r m' => r = .bool true ∧ Keep m0 m') (W Gpy pyE (resQ [.loc 6] fun r m' => r = .bool true ∧ Keep m0 m')))) fun e' m' => ∃ k, k < ps.length + 1 - i ∧ PyI m0 c c c' p p p' g g g' bv cb j rb xj yb ps lv k e' m')))) e m' := by
    rintro e m1 hk1 ⟨w13, w14, w15, w16, w17, w18, w19, w20, w21, w22, w23, w24, w25, w26, w27, w28, w29, w30, rfl⟩
    have hS1 := hS.keep hk1
    obtain ⟨st, gj, hr⟩ := hS1.mem
    have hy1 := hS1.y
    have href := hS1.ref
    have hd := pdone_eq hS1.pm.get
    have honev := slOne hS1.su
    simp only [AV.one] at honev
    have hlx : xs.length ≤ 600 := by have := hS1.okL.1; omega
    simp only [memC] at href
    have hcc := hS1.cc
    have okc : POk c' p' s := by
      rcases hcc with h0 | ⟨e1, e2, _⟩
      · exact ⟨hS1.ok.w, .inl h0, hS1.ok.h⟩
      · rw [e1, e2]; exact hS1.ok
    have hst : stepP c' p' g' xs s = stepP c p g xs s := by
      rcases hcc with h0 | ⟨e1, e2, e3⟩
      · rw [stepP_zero h0, stepP_zero h0]
      · rw [e1, e2, e3]
    have hx' : s.a = 0 ∨ OkL c' xs := hcc.imp id (fun h => by rw [h.1]; exact hS1.okL)
    clear hT hyb hS hk1 ha8 hh11 hall hlen htake hone1 hone2
    have ha8 := rpC_a c' p' g' s ytv yhv
    have hone1 := slOne hS1.yh
    have hone2 := slOne hS1.yt
    have hall := rpC_all c' p' g' s hone2 hone1
    have hlen := rpC_len c' p' g' s ytv yhv
    have htake := rpC_take c' p' g' s ytv yhv
    by_cases ha : s.a = 0
    all_goals first | (have hdd : decide (s.a = 0) = true := decide_eq_true ha) | (have hdd : decide (s.a = 0) = false := decide_eq_false ha)
    all_goals rw [hdd] at hd
    all_goals simp (disch := first | assumption | omega | (simp only [List.length_cons, List.length_nil, List.length_set, List.length_append] <;> omega) | (simp only [get_mid, get_mid0, List.cons_append, List.append_assoc, List.getElem?_cons_zero, List.getElem?_cons_succ])) only [pyU, sqT, pyX, pyB, sqN, law09_PutPlays, ek, ↓evW, ↓evQ, evB, evS, evL, List.map, AV.cells, List.all, AV.one, Bool.and_true, Bool.true_and, if_true, ↓thenQ_normal, ↓thenQ_exit, ↓thenQ_ret, ↓blockQ_normal, ↓blockQ_ret, ↓blockQ_exit, ↓CW_true, ↓CW_false, CW_true, CW_false, condT, condF, RQ_some, tupA_one, tupA_two, tupA_nil, Nat.reduceSub, Nat.reduceAdd, Nat.reduceMul, Nat.zero_add, Nat.add_zero, Nat.reduceLeDiff, Nat.reduceEqDiff, eqV, eqAll, fillA, and_self, and_true, true_and, Nat.le_refl, Bool.not_true, Bool.not_false, Bool.false_xor, Bool.true_xor, cond_true, cond_false, List.replicate, if_false, reduceIte, resAll, resA, ne_eq, decide_not, decide_true, decide_false, Int.reduceEq, Bool.not_true, Bool.not_false, not_true_eq_false, not_false_eq_true, cond_bool, cond_int, beq_self_eq_true, Int.reduceBEq, Bool.and_self, Bool.and_false, Bool.false_and, Bool.xor_false, Bool.xor_true, loadN_ldC, ldC_none, ldC_somes, stC_aggs, splice, storeN_stC, stC_int, stC_bool, stC_ptr, stC_nilp, stC_sl, stC_nils, getC_gcO, gcO_cells, W_draw_eq, ↓W_scope, ev_clear, evT, evF, evX, evM, ↓exitQ_normal, ↓exitQ_ret, ↓exitQ_exit, saA_self, saO_self, if_pos, if_neg, wrapI, get_concat, set_concat, Int.toNat_natCast, Int.toNat_zero, List.nil_append, Nat.mul_one, decide_eq_true, decide_eq_false, Int.reduceLE, Int.reduceLT, Int.reduceNeg, Bool.false_or, Bool.true_or, Bool.or_false, Bool.or_true, wrapU, Int.reduceAdd, Int.reduceSub, Int.reduceMul, List.append_assoc, List.length_append, get_mid, get_mid0, set_mid, set_mid0, List.length_set, List.length_cons, List.length_nil, List.cons_append, List.getElem?_append_left, List.set_append_left, get_at, get_at0, set_at, set_at0, List.getElem?_set_self, List.getElem?_set_ne, a191, hd, hy1, ha8, hdd, href, honev, a68]
    all_goals refine OKT_fn (samemem_run gj hr hS1.su (by omega)) ?_
    all_goals rintro _ m2 ⟨rfl, k2⟩
    all_goals have hS2 := hS1.keep k2
    all_goals have hy2 := hS2.y
    all_goals have hr2 := hS2.ref
    all_goals simp only [memC] at hr2
    all_goals have gj2 := k2.get gj
    all_goals have f46 := ops_of gj2
    all_goals rw [hr.ops] at f46
    all_goals clear hS1 k2 gj href
    all_goals by_cases hie : i = ps.length
    all_goals try (simp (disch := first | assumption | omega | (simp only [List.length_cons, List.length_nil, List.length_set, List.length_append] <;> omega) | (simp only [get_mid, get_mid0, List.cons_append, List.append_assoc, List.getElem?_cons_zero, List.getElem?_cons_succ])) only [ek, ↓evW, ↓evQ, evB, evS, evL, List.map, AV.cells, List.all, AV.one, Bool.and_true, Bool.true_and, if_true, ↓thenQ_normal, ↓thenQ_exit, ↓thenQ_ret, ↓blockQ_normal, ↓blockQ_ret, ↓blockQ_exit, ↓CW_true, ↓CW_false, CW_true, CW_false, condT, condF, RQ_some, tupA_one, tupA_two, tupA_nil, Nat.reduceSub, Nat.reduceAdd, Nat.reduceMul, Nat.zero_add, Nat.add_zero, Nat.reduceLeDiff, Nat.reduceEqDiff, eqV, eqAll, fillA, and_self, and_true, true_and, Nat.le_refl, Bool.not_true, Bool.not_false, Bool.false_xor, Bool.true_xor, cond_true, cond_false, List.replicate, if_false, reduceIte, resAll, resA, ne_eq, decide_not, decide_true, decide_false, Int.reduceEq, Bool.not_true, Bool.not_false, not_true_eq_false, not_false_eq_true, cond_bool, cond_int, beq_self_eq_true, Int.reduceBEq, Bool.and_self, Bool.and_false, Bool.false_and, Bool.xor_false, Bool.xor_true, loadN_ldC, ldC_none, ldC_somes, stC_aggs, splice, storeN_stC, stC_int, stC_bool, stC_ptr, stC_nilp, stC_sl, stC_nils, getC_gcO, gcO_cells, W_draw_eq, ↓W_scope, ev_clear, evT, evF, evX, evM, ↓exitQ_normal, ↓exitQ_ret, ↓exitQ_exit, saA_self, saO_self, if_pos, if_neg, wrapI, get_concat, set_concat, Int.toNat_natCast, Int.toNat_zero, List.nil_append, Nat.mul_one, decide_eq_true, decide_eq_false, Int.reduceLE, Int.reduceLT, Int.reduceNeg, Bool.false_or, Bool.true_or, Bool.or_false, Bool.or_true, wrapU, Int.reduceAdd, Int.reduceSub, Int.reduceMul, List.append_assoc, List.length_append, get_mid, get_mid0, set_mid, set_mid0, List.length_set, List.length_cons, List.length_nil, List.cons_append, List.getElem?_append_left, List.set_append_left, get_at, get_at0, set_at, set_at0, List.getElem?_set_self, List.getElem?_set_ne, hy1, ha8, hdd, ev_len, hlenl, pyE, sqT, law09_PutPlays, a184, pureF, worksG]; exact hS2.k0)
    all_goals simp (disch := first | assumption | omega | (simp only [List.length_cons, List.length_nil, List.length_set, List.length_append] <;> omega) | (simp only [get_mid, get_mid0, List.cons_append, List.append_assoc, List.getElem?_cons_zero, List.getElem?_cons_succ])) only [ek, ↓evW, ↓evQ, evB, evS, evL, List.map, AV.cells, List.all, AV.one, Bool.and_true, Bool.true_and, if_true, ↓thenQ_normal, ↓thenQ_exit, ↓thenQ_ret, ↓blockQ_normal, ↓blockQ_ret, ↓blockQ_exit, ↓CW_true, ↓CW_false, CW_true, CW_false, condT, condF, RQ_some, tupA_one, tupA_two, tupA_nil, Nat.reduceSub, Nat.reduceAdd, Nat.reduceMul, Nat.zero_add, Nat.add_zero, Nat.reduceLeDiff, Nat.reduceEqDiff, eqV, eqAll, fillA, and_self, and_true, true_and, Nat.le_refl, Bool.not_true, Bool.not_false, Bool.false_xor, Bool.true_xor, cond_true, cond_false, List.replicate, if_false, reduceIte, resAll, resA, ne_eq, decide_not, decide_true, decide_false, Int.reduceEq, Bool.not_true, Bool.not_false, not_true_eq_false, not_false_eq_true, cond_bool, cond_int, beq_self_eq_true, Int.reduceBEq, Bool.and_self, Bool.and_false, Bool.false_and, Bool.xor_false, Bool.xor_true, loadN_ldC, ldC_none, ldC_somes, stC_aggs, splice, storeN_stC, stC_int, stC_bool, stC_ptr, stC_nilp, stC_sl, stC_nils, getC_gcO, gcO_cells, W_draw_eq, ↓W_scope, ev_clear, evT, evF, evX, evM, ↓exitQ_normal, ↓exitQ_ret, ↓exitQ_exit, saA_self, saO_self, if_pos, if_neg, wrapI, get_concat, set_concat, Int.toNat_natCast, Int.toNat_zero, List.nil_append, Nat.mul_one, decide_eq_true, decide_eq_false, Int.reduceLE, Int.reduceLT, Int.reduceNeg, Bool.false_or, Bool.true_or, Bool.or_false, Bool.or_true, wrapU, Int.reduceAdd, Int.reduceSub, Int.reduceMul, List.append_assoc, List.length_append, get_mid, get_mid0, set_mid, set_mid0, List.length_set, List.length_cons, List.length_nil, List.cons_append, List.getElem?_append_left, List.set_append_left, get_at, get_at0, set_at, set_at0, List.getElem?_set_self, List.getElem?_set_ne, hy1, ha8, hdd, ev_len, hlenl, a46, f46, hy2, hall, hlen, htake, hr2, honev, a192]
    all_goals (
      have hrs := rpstep_run (c := c') (p := p') (g := g') (o := o) hS2.su hS2.yt hS2.yh okc hx'
      rw [hst] at hrs
      simp only [memC] at hrs
      refine OK_fn hrs ?_
      rintro _ m3 ⟨k3, ytv2, yhv2, v2, rfl, syt, syh, ssu, ft, fh⟩
      have hok3 := hS2.ok.step (g := g) (.inr hS2.okL)
      have hokL3 := stepP_ok (c := c) (p := p) (g := g) (s := s) hS2.okL (.inr hS2.ok.w)
      have hop : o ≤ opsP s o ∧ opsP s o ≤ o + 1 := by unfold opsP; split <;> (try rw [wrapU (by omega) (by omega)]) <;> omega
      have hcc3 : (stepP c p g xs s).1.a = 0 ∨ (c' = c ∧ p' = p ∧ g' = g) := hcc.imp (fun h0 => by rw [stepP_zero h0]; exact h0) id
      have hB3 := hS2.b.keep k3
      have hy3 := k3.get hy2
      have hr3 := k3.get hr2
      obtain ⟨stx, hjx, hrx⟩ := hB3.mem
      have hstep := fun (m : MM) (hx : PM m xj c p g s qt tv hv1) (hj : m[j]? = some (.abs (.mem stx))) => pstep_run (o := o) hx hj hrx (.inr hS2.okL) hS2.ok
      have hq2 : qt < m2.length := by
        rcases hS2.qr with hq | ⟨l, hl⟩
        · rw [hq]; exact (List.getElem?_eq_some_iff.1 hS2.pm.get).1
        · exact (List.getElem?_eq_some_iff.1 hl).1
      have hfr : ∀ w : AV, Fr m2.length w → Off qt w := fun w hf => by
        intro q oo n cc hq _ hh
        rcases hf with h | ⟨_, _, _, _, h, h'⟩
        · rw [h] at hq; cases hq
        · rw [h] at hq; injection hq with e1; omega
      have hot : Off qt ytv2 := ft.elim (fun h => by rw [h]; exact hS2.ot) (hfr _)
      have hoh : Off qt yhv2 := fh.elim (fun h => by rw [h]; exact hS2.oh) (hfr _)
      clear ft fh hfr hq2 hrs okc hx' hst hcc hS2
      generalize stepP c p g xs s = sx at syt syh ssu hok3 hokL3 hcc3 hstep ⊢
      generalize opsP s o = o' at hop hstep ⊢
      obtain ⟨s', xs'⟩ := sx
      simp only at syt syh ssu hok3 hokL3 hcc3
      have ny : yb ≠ rb := fun hh => by rw [hh, hr3] at hy3; cases hy3
      have ly3 : yb < m3.length := (List.getElem?_eq_some_iff.1 hy3).1
      have lr3 : rb < m3.length := (List.getElem?_eq_some_iff.1 hr3).1
      have hone2' := slOne syt
      have hone1' := slOne syh
      have hone' := slOne ssu
      simp only [AV.one] at hone'
      have hall' := rpC_all c' p' g' s' hone2' hone1'
      have hlen' := rpC_len c' p' g' s' ytv2 yhv2
      have htake' := rpC_take c' p' g' s' ytv2 yhv2
      have ha8' := rpC_a c' p' g' s' ytv2 yhv2
      have hput : ∀ {L : List AV}, L.length = 12 → splice L 0 (rpC c' p' g' s' ytv2 yhv2) = rpC c' p' g' s' ytv2 yhv2 := fun {L} hL => by
        simp only [splice, List.take_zero, List.nil_append, hlen', Nat.zero_add]
        rw [List.drop_eq_nil_of_le (by omega), List.append_nil]
      have hrow : ∀ {wr : Bool} {sz n : Nat} {l : List AV} {w : AV}, sz ≠ 12 → sz ≠ 2 → Sl m3 wr sz n l w → Sl ((m3.set yb (.cells 12 false (rpC c' p' g' s' ytv2 yhv2))).set rb (.cells 2 false [v2, .int .u64 o']) ++ [Chunk.cells 12 false (rpC c' p' g' s' ytv2 yhv2), Chunk.cells 2 false [v2, .int .u64 o']]) wr sz n l w := fun h12 h2 h =>
        Sl.keep ((Sl.put h (fun ro L hh => by rw [hy3] at hh; injection hh with hh; injection hh with hh; exact h12 hh.symm) _).put (fun ro L hh => by rw [List.getElem?_set_ne ny, hr3] at hh; injection hh with hh; injection hh with hh; exact h2 hh.symm) _) (Keep.app _ _)
      have G4 := hrow (by decide) (by decide) syt
      have G5 := hrow (by decide) (by decide) syh
      have G6 := hrow (by decide) (by decide) ssu
      have hB7 := ((hB3.setb hy3 (by decide) (by decide) (by decide) (by omega) (.cells 12 false (rpC c' p' g' s' ytv2 yhv2))).setb (b := rb) (by rw [List.getElem?_set_ne ny]; exact hr3) (by decide) (by decide) (by decide) (by omega) (.cells 2 false [v2, .int .u64 o'])).keep (Keep.app _ [Chunk.cells 12 false (rpC c' p' g' s' ytv2 yhv2), Chunk.cells 2 false [v2, .int .u64 o']])
      have G2 : ((m3.set yb (.cells 12 false (rpC c' p' g' s' ytv2 yhv2))).set rb (.cells 2 false [v2, .int .u64 o']) ++ [Chunk.cells 12 false (rpC c' p' g' s' ytv2 yhv2), Chunk.cells 2 false [v2, .int .u64 o']])[rb]? = some (.cells 2 false [v2, .int .u64 o']) := by
        rw [List.getElem?_append_left (by simp; omega), List.getElem?_set_self (by simp; omega)]
      have G3 : ((m3.set yb (.cells 12 false (rpC c' p' g' s' ytv2 yhv2))).set rb (.cells 2 false [v2, .int .u64 o']) ++ [Chunk.cells 12 false (rpC c' p' g' s' ytv2 yhv2), Chunk.cells 2 false [v2, .int .u64 o']])[yb]? = some (.cells 12 false (rpC c' p' g' s' ytv2 yhv2)) := by
        rw [List.getElem?_append_left (by simp; omega), List.getElem?_set_ne (fun h => ny h.symm), List.getElem?_set_self (by omega)]
      have Gj : ((m3.set yb (.cells 12 false (rpC c' p' g' s' ytv2 yhv2))).set rb (.cells 2 false [v2, .int .u64 o']) ++ [Chunk.cells 12 false (rpC c' p' g' s' ytv2 yhv2), Chunk.cells 2 false [v2, .int .u64 o']])[j]? = some (.abs (.mem stx)) := by
        obtain ⟨_, e2, _⟩ := hB3.ne hy3 (by decide) (by decide)
        obtain ⟨_, e3, _⟩ := hB3.ne hr3 (by decide) (by decide)
        rw [List.getElem?_append_left (by have := (List.getElem?_eq_some_iff.1 hjx).1; simpa using this), List.getElem?_set_ne e3, List.getElem?_set_ne e2]; exact hjx
      generalize hM7 : (m3.set yb (.cells 12 false (rpC c' p' g' s' ytv2 yhv2))).set rb (.cells 2 false [v2, .int .u64 o']) ++ [Chunk.cells 12 false (rpC c' p' g' s' ytv2 yhv2), Chunk.cells 2 false [v2, .int .u64 o']] = M7 at hB7 G2 G3 G4 G5 G6 Gj
      simp (disch := first | assumption | omega | (simp only [List.length_cons, List.length_nil, List.length_set, List.length_append] <;> omega) | (simp only [get_mid, get_mid0, List.cons_append, List.append_assoc, List.getElem?_cons_zero, List.getElem?_cons_succ])) only [ek, ↓evW, ↓evQ, evB, evS, evL, List.map, AV.cells, List.all, AV.one, Bool.and_true, Bool.true_and, if_true, ↓thenQ_normal, ↓thenQ_exit, ↓thenQ_ret, ↓blockQ_normal, ↓blockQ_ret, ↓blockQ_exit, ↓CW_true, ↓CW_false, CW_true, CW_false, condT, condF, RQ_some, tupA_one, tupA_two, tupA_nil, Nat.reduceSub, Nat.reduceAdd, Nat.reduceMul, Nat.zero_add, Nat.add_zero, Nat.reduceLeDiff, Nat.reduceEqDiff, eqV, eqAll, fillA, and_self, and_true, true_and, Nat.le_refl, Bool.not_true, Bool.not_false, Bool.false_xor, Bool.true_xor, cond_true, cond_false, List.replicate, if_false, reduceIte, resAll, resA, ne_eq, decide_not, decide_true, decide_false, Int.reduceEq, Bool.not_true, Bool.not_false, not_true_eq_false, not_false_eq_true, cond_bool, cond_int, beq_self_eq_true, Int.reduceBEq, Bool.and_self, Bool.and_false, Bool.false_and, Bool.xor_false, Bool.xor_true, loadN_ldC, ldC_none, ldC_somes, stC_aggs, splice, storeN_stC, stC_int, stC_bool, stC_ptr, stC_nilp, stC_sl, stC_nils, getC_gcO, gcO_cells, W_draw_eq, ↓W_scope, ev_clear, evT, evF, evX, evM, ↓exitQ_normal, ↓exitQ_ret, ↓exitQ_exit, saA_self, saO_self, if_pos, if_neg, wrapI, get_concat, set_concat, Int.toNat_natCast, Int.toNat_zero, List.nil_append, Nat.mul_one, decide_eq_true, decide_eq_false, Int.reduceLE, Int.reduceLT, Int.reduceNeg, Bool.false_or, Bool.true_or, Bool.or_false, Bool.or_true, wrapU, Int.reduceAdd, Int.reduceSub, Int.reduceMul, List.append_assoc, List.length_append, get_mid, get_mid0, set_mid, set_mid0, List.length_set, List.length_cons, List.length_nil, List.cons_append, List.getElem?_append_left, List.set_append_left, get_at, get_at0, set_at, set_at0, List.getElem?_set_self, List.getElem?_set_ne, memC, hone', hy3, hr3, hall', hlen', htake', hput, List.drop_zero, List.drop_succ_cons, List.drop_nil, List.append_nil, rpC_drop, a186]
      rw [hM7]
      refine OKT_fn (hstep _ hB7.pm Gj) ?_
      intro r8 m8 hP
      obtain ⟨rfl, tv8, hv8, qt8, hS8⟩ := PyB.step (c0 := c) (cb := cb) hB7 (by omega) (by omega) G3 G4 G5 hot hoh G6 G2 hok3 hokL3 hcc3 hP
      obtain ⟨st8, gj8, r8⟩ := hS8.mem
      have hy8 := hS8.y
      have hr8 := hS8.ref
      have f46 := ops_of gj8
      rw [r8.ops] at f46
      have ho3 : IntKind.u64.wrap (o + 1) = o + 1 := wrapU (by omega) (by omega)
      have ho4 : ¬ (o + 1 < o') := by omega
      have hlt : i < ps.length := by omega
      obtain ⟨pk, hpk⟩ : ∃ pk, ps[i]? = some pk := ⟨_, List.getElem?_eq_getElem hlt⟩
      have hlx8 : xs'.length ≤ 600 := by have := hS8.okL.1; omega
      clear hP hM7 hB7 G2 G4 G5 G6 Gj hstep hjx hrx hB3 hy3 hr3 ly3 lr3 hrow hput syt syh ssu
      obtain ⟨q, oo, cap, ro, L, rfl, c2, c3, c4, c5, c6, c7⟩ := spk_get hS8.ps hpk
      have hrow3 : (L.drop (oo + i * 3)).take 3 = pkC pk := by
        refine F10.pk_of (by rw [List.length_take, List.length_drop]; omega) ?_ ?_ ?_
        · rw [List.getElem?_take, if_pos (by omega), List.getElem?_drop]; exact c5
        · rw [List.getElem?_take, if_pos (by omega), List.getElem?_drop]; exact c6
        · rw [List.getElem?_take, if_pos (by omega), List.getElem?_drop]; exact c7
      have hpkl : (pkC pk).length = 3 := rfl
      have hpka : (pkC pk).all AV.one = true := rfl
      simp only [memC] at hr8
      obtain ⟨b3, hb3⟩ : ∃ b3, decide (s'.a = 0) = b3 := ⟨_, rfl⟩
      cases b3
      all_goals simp (disch := first | assumption | omega | (simp only [List.length_cons, List.length_nil, List.length_set, List.length_append] <;> omega) | (simp only [get_mid, get_mid0, List.cons_append, List.append_assoc, List.getElem?_cons_zero, List.getElem?_cons_succ])) only [ek, ↓evW, ↓evQ, evB, evS, evL, List.map, AV.cells, List.all, AV.one, Bool.and_true, Bool.true_and, if_true, ↓thenQ_normal, ↓thenQ_exit, ↓thenQ_ret, ↓blockQ_normal, ↓blockQ_ret, ↓blockQ_exit, ↓CW_true, ↓CW_false, CW_true, CW_false, condT, condF, RQ_some, tupA_one, tupA_two, tupA_nil, Nat.reduceSub, Nat.reduceAdd, Nat.reduceMul, Nat.zero_add, Nat.add_zero, Nat.reduceLeDiff, Nat.reduceEqDiff, eqV, eqAll, fillA, and_self, and_true, true_and, Nat.le_refl, Bool.not_true, Bool.not_false, Bool.false_xor, Bool.true_xor, cond_true, cond_false, List.replicate, if_false, reduceIte, resAll, resA, ne_eq, decide_not, decide_true, decide_false, Int.reduceEq, Bool.not_true, Bool.not_false, not_true_eq_false, not_false_eq_true, cond_bool, cond_int, beq_self_eq_true, Int.reduceBEq, Bool.and_self, Bool.and_false, Bool.false_and, Bool.xor_false, Bool.xor_true, loadN_ldC, ldC_none, ldC_somes, stC_aggs, splice, storeN_stC, stC_int, stC_bool, stC_ptr, stC_nilp, stC_sl, stC_nils, getC_gcO, gcO_cells, W_draw_eq, ↓W_scope, ev_clear, evT, evF, evX, evM, ↓exitQ_normal, ↓exitQ_ret, ↓exitQ_exit, saA_self, saO_self, if_pos, if_neg, wrapI, get_concat, set_concat, Int.toNat_natCast, Int.toNat_zero, List.nil_append, Nat.mul_one, decide_eq_true, decide_eq_false, Int.reduceLE, Int.reduceLT, Int.reduceNeg, Bool.false_or, Bool.true_or, Bool.or_false, Bool.or_true, wrapU, Int.reduceAdd, Int.reduceSub, Int.reduceMul, List.append_assoc, List.length_append, get_mid, get_mid0, set_mid, set_mid0, List.length_set, List.length_cons, List.length_nil, List.cons_append, List.getElem?_append_left, List.set_append_left, get_at, get_at0, set_at, set_at0, List.getElem?_set_self, List.getElem?_set_ne, hb3, G3, hy8, ha8', f46, ho3, ho4, a46, hr8, hone', ev_len, hlenl, c2, hrow3, hpka, hpkl, a193]
      all_goals have hpo := poked_run (x := pk) gj8 r8 hS8.su (by omega) (by omega) (by omega)
      all_goals simp only [memC] at hpo
      all_goals refine OK_fn hpo ?_
      all_goals rintro _ m9 ⟨k9, v9, xs9, o9, st9, rfl, su9, gj9, r9, ok9, o9a, o9b⟩
      all_goals have hS9 := hS8.poke (by omega) (by omega) k9 gj9 r9 su9 (ok9 c hS8.okL (hv _ (List.mem_of_getElem? hpk)))
      all_goals have hr9 : m9[rb]? = some (.cells 2 false [v2, .int .u64 o']) := by rw [k9.2 rb (List.getElem?_eq_some_iff.1 hr8).1 (hS8.ne hr8 (by decide) (by decide)).2.1]; exact hr8
      all_goals have hone9 := slOne su9
      all_goals simp only [AV.one] at hone9
      all_goals simp (disch := first | assumption | omega | (simp only [List.length_cons, List.length_nil, List.length_set, List.length_append] <;> omega) | (simp only [get_mid, get_mid0, List.cons_append, List.append_assoc, List.getElem?_cons_zero, List.getElem?_cons_succ])) only [ek, ↓evW, ↓evQ, evB, evS, evL, List.map, AV.cells, List.all, AV.one, Bool.and_true, Bool.true_and, if_true, ↓thenQ_normal, ↓thenQ_exit, ↓thenQ_ret, ↓blockQ_normal, ↓blockQ_ret, ↓blockQ_exit, ↓CW_true, ↓CW_false, CW_true, CW_false, condT, condF, RQ_some, tupA_one, tupA_two, tupA_nil, Nat.reduceSub, Nat.reduceAdd, Nat.reduceMul, Nat.zero_add, Nat.add_zero, Nat.reduceLeDiff, Nat.reduceEqDiff, eqV, eqAll, fillA, and_self, and_true, true_and, Nat.le_refl, Bool.not_true, Bool.not_false, Bool.false_xor, Bool.true_xor, cond_true, cond_false, List.replicate, if_false, reduceIte, resAll, resA, ne_eq, decide_not, decide_true, decide_false, Int.reduceEq, Bool.not_true, Bool.not_false, not_true_eq_false, not_false_eq_true, cond_bool, cond_int, beq_self_eq_true, Int.reduceBEq, Bool.and_self, Bool.and_false, Bool.false_and, Bool.xor_false, Bool.xor_true, loadN_ldC, ldC_none, ldC_somes, stC_aggs, splice, storeN_stC, stC_int, stC_bool, stC_ptr, stC_nilp, stC_sl, stC_nils, getC_gcO, gcO_cells, W_draw_eq, ↓W_scope, ev_clear, evT, evF, evX, evM, ↓exitQ_normal, ↓exitQ_ret, ↓exitQ_exit, saA_self, saO_self, if_pos, if_neg, wrapI, get_concat, set_concat, Int.toNat_natCast, Int.toNat_zero, List.nil_append, Nat.mul_one, decide_eq_true, decide_eq_false, Int.reduceLE, Int.reduceLT, Int.reduceNeg, Bool.false_or, Bool.true_or, Bool.or_false, Bool.or_true, wrapU, Int.reduceAdd, Int.reduceSub, Int.reduceMul, List.append_assoc, List.length_append, get_mid, get_mid0, set_mid, set_mid0, List.length_set, List.length_cons, List.length_nil, List.cons_append, List.getElem?_append_left, List.set_append_left, get_at, get_at0, set_at, set_at0, List.getElem?_set_self, List.getElem?_set_ne, memC, hr9, hone9, pyI, pyB, sqN, law09_PutPlays]
      all_goals exact ⟨ps.length + 1 - (i + 1), by omega, i + 1, s', xs9, o9, tv8, hv8, ytv2, yhv2, v9, qt8, _, _, _, _, _, _, _, _, _, _, _, _, _, _, _, _, _, _, _, rfl, rfl, by omega, by omega, by omega, hS9⟩)
  by_cases ha : s.a = 0
  · simp only [if_pos ha] at hT hrest
    simp (disch := first | assumption | omega | (simp only [List.length_cons, List.length_nil, List.length_set, List.length_append] <;> omega) | (simp only [get_mid, get_mid0, List.cons_append, List.append_assoc, List.getElem?_cons_zero, List.getElem?_cons_succ])) only [pyC, pyX, pyB, sqN, law09_PutPlays, ek, ↓evW, ↓evQ, evB, evS, evL, List.map, AV.cells, List.all, AV.one, Bool.and_true, Bool.true_and, if_true, ↓thenQ_normal, ↓thenQ_exit, ↓thenQ_ret, ↓blockQ_normal, ↓blockQ_ret, ↓blockQ_exit, ↓CW_true, ↓CW_false, CW_true, CW_false, condT, condF, RQ_some, tupA_one, tupA_two, tupA_nil, Nat.reduceSub, Nat.reduceAdd, Nat.reduceMul, Nat.zero_add, Nat.add_zero, Nat.reduceLeDiff, Nat.reduceEqDiff, eqV, eqAll, fillA, and_self, and_true, true_and, Nat.le_refl, Bool.not_true, Bool.not_false, Bool.false_xor, Bool.true_xor, cond_true, cond_false, List.replicate, if_false, reduceIte, resAll, resA, ne_eq, decide_not, decide_true, decide_false, Int.reduceEq, Bool.not_true, Bool.not_false, not_true_eq_false, not_false_eq_true, cond_bool, cond_int, beq_self_eq_true, Int.reduceBEq, Bool.and_self, Bool.and_false, Bool.false_and, Bool.xor_false, Bool.xor_true, loadN_ldC, ldC_none, ldC_somes, stC_aggs, splice, storeN_stC, stC_int, stC_bool, stC_ptr, stC_nilp, stC_sl, stC_nils, getC_gcO, gcO_cells, W_draw_eq, ↓W_scope, ev_clear, evT, evF, evX, evM, ↓exitQ_normal, ↓exitQ_ret, ↓exitQ_exit, saA_self, saO_self, if_pos, if_neg, wrapI, get_concat, set_concat, Int.toNat_natCast, Int.toNat_zero, List.nil_append, Nat.mul_one, decide_eq_true, decide_eq_false, Int.reduceLE, Int.reduceLT, Int.reduceNeg, Bool.false_or, Bool.true_or, Bool.or_false, Bool.or_true, wrapU, Int.reduceAdd, Int.reduceSub, Int.reduceMul, List.append_assoc, List.length_append, get_mid, get_mid0, set_mid, set_mid0, List.length_set, List.length_cons, List.length_nil, List.cons_append, List.getElem?_append_left, List.set_append_left, get_at, get_at0, set_at, set_at0, List.getElem?_set_self, List.getElem?_set_ne, ev_len, hlenl, hyb, ha8, ha, hh11, hall, hlen, htake]
    refine W_mono (hT _ _ _ _ _ _ _ _ _ _ _ _ _ _ _ _ _ _) ?_
    rintro _ e2 m2 ⟨rfl, hk2, hE⟩
    simp only [thenQ_normal]
    exact hrest e2 m2 hk2 hE
  · simp only [if_neg ha] at hT hrest
    simp (disch := first | assumption | omega | (simp only [List.length_cons, List.length_nil, List.length_set, List.length_append] <;> omega) | (simp only [get_mid, get_mid0, List.cons_append, List.append_assoc, List.getElem?_cons_zero, List.getElem?_cons_succ])) only [pyC, pyX, pyB, sqN, law09_PutPlays, ek, ↓evW, ↓evQ, evB, evS, evL, List.map, AV.cells, List.all, AV.one, Bool.and_true, Bool.true_and, if_true, ↓thenQ_normal, ↓thenQ_exit, ↓thenQ_ret, ↓blockQ_normal, ↓blockQ_ret, ↓blockQ_exit, ↓CW_true, ↓CW_false, CW_true, CW_false, condT, condF, RQ_some, tupA_one, tupA_two, tupA_nil, Nat.reduceSub, Nat.reduceAdd, Nat.reduceMul, Nat.zero_add, Nat.add_zero, Nat.reduceLeDiff, Nat.reduceEqDiff, eqV, eqAll, fillA, and_self, and_true, true_and, Nat.le_refl, Bool.not_true, Bool.not_false, Bool.false_xor, Bool.true_xor, cond_true, cond_false, List.replicate, if_false, reduceIte, resAll, resA, ne_eq, decide_not, decide_true, decide_false, Int.reduceEq, Bool.not_true, Bool.not_false, not_true_eq_false, not_false_eq_true, cond_bool, cond_int, beq_self_eq_true, Int.reduceBEq, Bool.and_self, Bool.and_false, Bool.false_and, Bool.xor_false, Bool.xor_true, loadN_ldC, ldC_none, ldC_somes, stC_aggs, splice, storeN_stC, stC_int, stC_bool, stC_ptr, stC_nilp, stC_sl, stC_nils, getC_gcO, gcO_cells, W_draw_eq, ↓W_scope, ev_clear, evT, evF, evX, evM, ↓exitQ_normal, ↓exitQ_ret, ↓exitQ_exit, saA_self, saO_self, if_pos, if_neg, wrapI, get_concat, set_concat, Int.toNat_natCast, Int.toNat_zero, List.nil_append, Nat.mul_one, decide_eq_true, decide_eq_false, Int.reduceLE, Int.reduceLT, Int.reduceNeg, Bool.false_or, Bool.true_or, Bool.or_false, Bool.or_true, wrapU, Int.reduceAdd, Int.reduceSub, Int.reduceMul, List.append_assoc, List.length_append, get_mid, get_mid0, set_mid, set_mid0, List.length_set, List.length_cons, List.length_nil, List.cons_append, List.getElem?_append_left, List.set_append_left, get_at, get_at0, set_at, set_at0, List.getElem?_set_self, List.getElem?_set_ne, ev_len, hlenl, hyb, ha8, ha, hh11, hall, hlen, htake]
    refine W_mono (hT _ _ _ _ _ _ _ _ _ _ _ _ _ _ _ _ _ _) ?_
    rintro _ e2 m2 ⟨rfl, hk2, hE⟩
    simp only [thenQ_normal]
    exact hrest e2 m2 hk2 hE
end Go.Am.F09
end
