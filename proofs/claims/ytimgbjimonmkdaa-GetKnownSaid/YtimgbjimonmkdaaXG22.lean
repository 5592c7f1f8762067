import Derived.Test.YtimgbjimonmkdaaXG21
set_option linter.unusedSimpArgs false
set_option linter.unusedVariables false
section
namespace Go.Am.F10
open Go.Am.F06
theorem _root_.Go.Am.F06.KeepB.x {X : Type} {j : Nat} {m m' : Mem X} (h : KeepB j m m') : KeepX j j m m' := ⟨h.1, fun a ha h1 _ => h.2 a ha h1⟩
def Ggall : List (Nat × AFun Ob) := [(132, pureF worksG), (134, c_docs_Filled), (135, amFunc Gmem docs_Mem), (136, amFunc Gring docs_Ring), (147, c_docs_Config), (148, amFunc Grall ref10_All), (145, amFunc Gga get_All), (84, c_kit_SameInts), (68, amFunc Gsmem docs_SameMem)]
set_option maxHeartbeats 16000000 in
theorem getall_run {m0 : MM} {c : Cf} {p : Int} {bs : List Int} {bv : AV} (hB : SB m0 bs bv) (hb : ∀ x, x ∈ bs → 0 ≤ x ∧ x < 256) :
    Fn Ggall law10_GetAll [.agg (cfC c), .int .i64 p, bv] m0 (fun r m' => r = .bool true ∧ Keep m0 m') := by
  have a132 : assoc Ggall 132 = some (pureF worksG) := rfl
  have a134 : assoc Ggall 134 = some c_docs_Filled := rfl
  have a135 : assoc Ggall 135 = some (amFunc Gmem docs_Mem) := rfl
  have a136 : assoc Ggall 136 = some (amFunc Gring docs_Ring) := rfl
  have a147 : assoc Ggall 147 = some c_docs_Config := rfl
  have a148 : assoc Ggall 148 = some (amFunc Grall ref10_All) := rfl
  have a145 : assoc Ggall 145 = some (amFunc Gga get_All) := rfl
  have a84 : assoc Ggall 84 = some c_kit_SameInts := rfl
  have a68 : assoc Ggall 68 = some (amFunc Gsmem docs_SameMem) := rfl
  generalize Ggall = G at a132 a134 a135 a136 a147 a148 a145 a84 a68 ⊢
  have hfe : c_docs_Filled (X := Ob) = amFunc Gfill docs_Filled := rfl
  have hse : c_kit_SameInts (X := Ob) = amFunc [] kit_SameInts := rfl
  have hlenb := hB.len
  refine Fn_of rfl ?_
  by_cases h2 : 40 < bs.length
  · simp (disch := first | assumption | omega | (simp only [List.length_cons, List.length_nil, List.length_set, List.length_append] <;> omega) | (simp only [get_mid, get_mid0, List.cons_append, List.append_assoc, List.getElem?_cons_zero, List.getElem?_cons_succ])) only [law10_GetAll, ek, ↓evW, ↓evQ, evB, evS, evL, List.map, AV.cells, List.all, AV.one, Bool.and_true, Bool.true_and, if_true, ↓thenQ_normal, ↓thenQ_exit, ↓thenQ_ret, ↓blockQ_normal, ↓blockQ_ret, ↓blockQ_exit, ↓CW_true, ↓CW_false, CW_true, CW_false, condT, condF, RQ_some, tupA_one, tupA_two, tupA_nil, Nat.reduceSub, Nat.reduceAdd, Nat.reduceMul, Nat.zero_add, Nat.add_zero, Nat.reduceLeDiff, Nat.reduceEqDiff, eqV, eqAll, fillA, and_self, and_true, true_and, Nat.le_refl, Bool.not_true, Bool.not_false, Bool.false_xor, Bool.true_xor, cond_true, cond_false, List.replicate, if_false, reduceIte, resAll, resA, ne_eq, decide_not, decide_true, decide_false, Int.reduceEq, Bool.not_true, Bool.not_false, not_true_eq_false, not_false_eq_true, cond_bool, cond_int, beq_self_eq_true, Int.reduceBEq, Bool.and_self, Bool.and_false, Bool.false_and, Bool.xor_false, Bool.xor_true, loadN_ldC, ldC_none, ldC_somes, stC_aggs, splice, storeN_stC, stC_int, stC_bool, stC_ptr, stC_nilp, stC_sl, stC_nils, getC_gcO, gcO_cells, W_draw_eq, ↓W_scope, ev_clear, evT, evF, evX, evM, ↓exitQ_normal, ↓exitQ_ret, ↓exitQ_exit, saA_self, saO_self, if_pos, if_neg, wrapI, get_concat, set_concat, Int.toNat_natCast, Int.toNat_zero, List.nil_append, Nat.mul_one, decide_eq_true, decide_eq_false, Int.reduceLE, Int.reduceLT, Int.reduceNeg, Bool.false_or, Bool.true_or, Bool.or_false, Bool.or_true, wrapU, Int.reduceAdd, Int.reduceSub, Int.reduceMul, List.append_assoc, List.length_append, get_mid, get_mid0, set_mid, set_mid0, List.length_set, List.length_cons, List.length_nil, List.cons_append, List.getElem?_append_left, List.set_append_left, get_at, get_at0, set_at, set_at0, List.getElem?_set_self, List.getElem?_set_ne, cfC, ev_len, hlenb, a132, pureF, worksG]
    exact .app _ _
  simp (disch := first | assumption | omega | (simp only [List.length_cons, List.length_nil, List.length_set, List.length_append] <;> omega) | (simp only [get_mid, get_mid0, List.cons_append, List.append_assoc, List.getElem?_cons_zero, List.getElem?_cons_succ])) only [law10_GetAll, ek, ↓evW, ↓evQ, evB, evS, evL, List.map, AV.cells, List.all, AV.one, Bool.and_true, Bool.true_and, if_true, ↓thenQ_normal, ↓thenQ_exit, ↓thenQ_ret, ↓blockQ_normal, ↓blockQ_ret, ↓blockQ_exit, ↓CW_true, ↓CW_false, CW_true, CW_false, condT, condF, RQ_some, tupA_one, tupA_two, tupA_nil, Nat.reduceSub, Nat.reduceAdd, Nat.reduceMul, Nat.zero_add, Nat.add_zero, Nat.reduceLeDiff, Nat.reduceEqDiff, eqV, eqAll, fillA, and_self, and_true, true_and, Nat.le_refl, Bool.not_true, Bool.not_false, Bool.false_xor, Bool.true_xor, cond_true, cond_false, List.replicate, if_false, reduceIte, resAll, resA, ne_eq, decide_not, decide_true, decide_false, Int.reduceEq, Bool.not_true, Bool.not_false, not_true_eq_false, not_false_eq_true, cond_bool, cond_int, beq_self_eq_true, Int.reduceBEq, Bool.and_self, Bool.and_false, Bool.false_and, Bool.xor_false, Bool.xor_true, loadN_ldC, ldC_none, ldC_somes, stC_aggs, splice, storeN_stC, stC_int, stC_bool, stC_ptr, stC_nilp, stC_sl, stC_nils, getC_gcO, gcO_cells, W_draw_eq, ↓W_scope, ev_clear, evT, evF, evX, evM, ↓exitQ_normal, ↓exitQ_ret, ↓exitQ_exit, saA_self, saO_self, if_pos, if_neg, wrapI, get_concat, set_concat, Int.toNat_natCast, Int.toNat_zero, List.nil_append, Nat.mul_one, decide_eq_true, decide_eq_false, Int.reduceLE, Int.reduceLT, Int.reduceNeg, Bool.false_or, Bool.true_or, Bool.or_false, Bool.or_true, wrapU, Int.reduceAdd, Int.reduceSub, Int.reduceMul, List.append_assoc, List.length_append, get_mid, get_mid0, set_mid, set_mid0, List.length_set, List.length_cons, List.length_nil, List.cons_append, List.getElem?_append_left, List.set_append_left, get_at, get_at0, set_at, set_at0, List.getElem?_set_self, List.getElem?_set_ne, cfC, ev_len, hlenb, a134, hfe]
  have hB1 : SB (m0 ++ [Chunk.cells 6 false (cfC c)]) bs bv := hB.keep (Keep.app _ _)
  refine OK_fn (filled_run (c := c) hB1 hb) ?_
  rintro r1 m1 ⟨xs, k1, s1, x1, x2⟩
  have hk1 : Keep m0 m1 := (Keep.app m0 _).trans k1
  have gb1 : m1[m0.length]? = some (Chunk.cells 6 false (cfC c)) := k1.get get_concat
  have hcn := cellsN_le c
  have hx : OkL c xs := ⟨x1, x2⟩
  simp (disch := first | assumption | omega | (simp only [List.length_cons, List.length_nil, List.length_set, List.length_append] <;> omega) | (simp only [get_mid, get_mid0, List.cons_append, List.append_assoc, List.getElem?_cons_zero, List.getElem?_cons_succ])) only [ek, ↓evW, ↓evQ, evB, evS, evL, List.map, AV.cells, List.all, AV.one, Bool.and_true, Bool.true_and, if_true, ↓thenQ_normal, ↓thenQ_exit, ↓thenQ_ret, ↓blockQ_normal, ↓blockQ_ret, ↓blockQ_exit, ↓CW_true, ↓CW_false, CW_true, CW_false, condT, condF, RQ_some, tupA_one, tupA_two, tupA_nil, Nat.reduceSub, Nat.reduceAdd, Nat.reduceMul, Nat.zero_add, Nat.add_zero, Nat.reduceLeDiff, Nat.reduceEqDiff, eqV, eqAll, fillA, and_self, and_true, true_and, Nat.le_refl, Bool.not_true, Bool.not_false, Bool.false_xor, Bool.true_xor, cond_true, cond_false, List.replicate, if_false, reduceIte, resAll, resA, ne_eq, decide_not, decide_true, decide_false, Int.reduceEq, Bool.not_true, Bool.not_false, not_true_eq_false, not_false_eq_true, cond_bool, cond_int, beq_self_eq_true, Int.reduceBEq, Bool.and_self, Bool.and_false, Bool.false_and, Bool.xor_false, Bool.xor_true, loadN_ldC, ldC_none, ldC_somes, stC_aggs, splice, storeN_stC, stC_int, stC_bool, stC_ptr, stC_nilp, stC_sl, stC_nils, getC_gcO, gcO_cells, W_draw_eq, ↓W_scope, ev_clear, evT, evF, evX, evM, ↓exitQ_normal, ↓exitQ_ret, ↓exitQ_exit, saA_self, saO_self, if_pos, if_neg, wrapI, get_concat, set_concat, Int.toNat_natCast, Int.toNat_zero, List.nil_append, Nat.mul_one, decide_eq_true, decide_eq_false, Int.reduceLE, Int.reduceLT, Int.reduceNeg, Bool.false_or, Bool.true_or, Bool.or_false, Bool.or_true, wrapU, Int.reduceAdd, Int.reduceSub, Int.reduceMul, List.append_assoc, List.length_append, get_mid, get_mid0, set_mid, set_mid0, List.length_set, List.length_cons, List.length_nil, List.cons_append, List.getElem?_append_left, List.set_append_left, get_at, get_at0, set_at, set_at0, List.getElem?_set_self, List.getElem?_set_ne, a135]
  refine OK_fn (mem_run s1 (by omega)) ?_
  rintro _ m2 ⟨st, v, rfl, k2, g2, rm, s2⟩
  have gb2 := k2.get gb1
  have hk2 := hk1.trans k2
  have hone := slOne s2
  simp only [AV.one] at hone
  have lb : m0.length < m2.length := (List.getElem?_eq_some_iff.1 gb2).1
  have hl1 : m1.length + 1 ≠ m0.length := by
    have := k1.1
    simp only [List.length_append, List.length_cons, List.length_nil] at this
    omega
  have hj0 : m0.length ≤ m1.length + 1 := by have := hk1.1; omega
  generalize m1.length + 1 = j at g2 hl1 hj0 ⊢
  simp only [cfC] at gb2
  simp (disch := first | assumption | omega | (simp only [List.length_cons, List.length_nil, List.length_set, List.length_append] <;> omega) | (simp only [get_mid, get_mid0, List.cons_append, List.append_assoc, List.getElem?_cons_zero, List.getElem?_cons_succ])) only [ek, ↓evW, ↓evQ, evB, evS, evL, List.map, AV.cells, List.all, AV.one, Bool.and_true, Bool.true_and, if_true, ↓thenQ_normal, ↓thenQ_exit, ↓thenQ_ret, ↓blockQ_normal, ↓blockQ_ret, ↓blockQ_exit, ↓CW_true, ↓CW_false, CW_true, CW_false, condT, condF, RQ_some, tupA_one, tupA_two, tupA_nil, Nat.reduceSub, Nat.reduceAdd, Nat.reduceMul, Nat.zero_add, Nat.add_zero, Nat.reduceLeDiff, Nat.reduceEqDiff, eqV, eqAll, fillA, and_self, and_true, true_and, Nat.le_refl, Bool.not_true, Bool.not_false, Bool.false_xor, Bool.true_xor, cond_true, cond_false, List.replicate, if_false, reduceIte, resAll, resA, ne_eq, decide_not, decide_true, decide_false, Int.reduceEq, Bool.not_true, Bool.not_false, not_true_eq_false, not_false_eq_true, cond_bool, cond_int, beq_self_eq_true, Int.reduceBEq, Bool.and_self, Bool.and_false, Bool.false_and, Bool.xor_false, Bool.xor_true, loadN_ldC, ldC_none, ldC_somes, stC_aggs, splice, storeN_stC, stC_int, stC_bool, stC_ptr, stC_nilp, stC_sl, stC_nils, getC_gcO, gcO_cells, W_draw_eq, ↓W_scope, ev_clear, evT, evF, evX, evM, ↓exitQ_normal, ↓exitQ_ret, ↓exitQ_exit, saA_self, saO_self, if_pos, if_neg, wrapI, get_concat, set_concat, Int.toNat_natCast, Int.toNat_zero, List.nil_append, Nat.mul_one, decide_eq_true, decide_eq_false, Int.reduceLE, Int.reduceLT, Int.reduceNeg, Bool.false_or, Bool.true_or, Bool.or_false, Bool.or_true, wrapU, Int.reduceAdd, Int.reduceSub, Int.reduceMul, List.append_assoc, List.length_append, get_mid, get_mid0, set_mid, set_mid0, List.length_set, List.length_cons, List.length_nil, List.cons_append, List.getElem?_append_left, List.set_append_left, get_at, get_at0, set_at, set_at0, List.getElem?_set_self, List.getElem?_set_ne, memC, hone, gb2, cfC, a136]
  have hk3 : Keep m2 (m2 ++ [Chunk.cells 2 false [v, .int .u64 xs.length]]) := .app _ _
  have gr3 : (m2 ++ [Chunk.cells 2 false [v, .int .u64 xs.length]])[m2.length]? = some (Chunk.cells 2 false [v, .int .u64 xs.length]) := get_concat
  refine OK_fn (ring_run (c := c) (p := p) (hk3.get g2) rm hx) ?_
  rintro ring m3 ⟨k3, sr, _⟩
  have gb3 := (hk3.trans k3).get gb2
  have hk4 := hk2.trans (hk3.trans k3)
  have g3 := (hk3.trans k3).get g2
  have gr3' := k3.get gr3
  have s3 := s2.keep (hk3.trans k3)
  generalize m2.length = rb at gr3 gr3' ⊢
  clear gr3 hk3 k3 k2 k1 g2 gb2 gb1 hB1 hB
  have f147 := fun m : MM => config_eq m c
  simp only [cfC] at f147
  have s4 := fun K => s3.keep (Keep.app m3 K)
  have gr4 := fun K : MM => (Keep.app m3 K).get gr3'
  have gb4 := fun K : MM => (Keep.app m3 K).get gb3
  simp (disch := first | assumption | omega | (simp only [List.length_cons, List.length_nil, List.length_set, List.length_append] <;> omega) | (simp only [get_mid, get_mid0, List.cons_append, List.append_assoc, List.getElem?_cons_zero, List.getElem?_cons_succ])) only [ek, ↓evW, ↓evQ, evB, evS, evL, List.map, AV.cells, List.all, AV.one, Bool.and_true, Bool.true_and, if_true, ↓thenQ_normal, ↓thenQ_exit, ↓thenQ_ret, ↓blockQ_normal, ↓blockQ_ret, ↓blockQ_exit, ↓CW_true, ↓CW_false, CW_true, CW_false, condT, condF, RQ_some, tupA_one, tupA_two, tupA_nil, Nat.reduceSub, Nat.reduceAdd, Nat.reduceMul, Nat.zero_add, Nat.add_zero, Nat.reduceLeDiff, Nat.reduceEqDiff, eqV, eqAll, fillA, and_self, and_true, true_and, Nat.le_refl, Bool.not_true, Bool.not_false, Bool.false_xor, Bool.true_xor, cond_true, cond_false, List.replicate, if_false, reduceIte, resAll, resA, ne_eq, decide_not, decide_true, decide_false, Int.reduceEq, Bool.not_true, Bool.not_false, not_true_eq_false, not_false_eq_true, cond_bool, cond_int, beq_self_eq_true, Int.reduceBEq, Bool.and_self, Bool.and_false, Bool.false_and, Bool.xor_false, Bool.xor_true, loadN_ldC, ldC_none, ldC_somes, stC_aggs, splice, storeN_stC, stC_int, stC_bool, stC_ptr, stC_nilp, stC_sl, stC_nils, getC_gcO, gcO_cells, W_draw_eq, ↓W_scope, ev_clear, evT, evF, evX, evM, ↓exitQ_normal, ↓exitQ_ret, ↓exitQ_exit, saA_self, saO_self, if_pos, if_neg, wrapI, get_concat, set_concat, Int.toNat_natCast, Int.toNat_zero, List.nil_append, Nat.mul_one, decide_eq_true, decide_eq_false, Int.reduceLE, Int.reduceLT, Int.reduceNeg, Bool.false_or, Bool.true_or, Bool.or_false, Bool.or_true, wrapU, Int.reduceAdd, Int.reduceSub, Int.reduceMul, List.append_assoc, List.length_append, get_mid, get_mid0, set_mid, set_mid0, List.length_set, List.length_cons, List.length_nil, List.cons_append, List.getElem?_append_left, List.set_append_left, get_at, get_at0, set_at, set_at0, List.getElem?_set_self, List.getElem?_set_ne, memC, hone, gb3, gr3', gb4, gr4, cfC, a147, f147, a148]
  refine OKT_fn (rall_run (s4 _) hx (by omega) (by omega)) ?_
  rintro _ m4 ⟨k4, want, v', rfl, sw, _, sv⟩
  have hkM4 := Keep.app m3 [Chunk.cells 2 false [.nils, .int .u64 0], .cells 6 false (cfC c), .cells 6 false (cfC c)]
  have gnM4 : (m3 ++ [Chunk.cells 2 false [.nils, .int .u64 0], .cells 6 false (cfC c), .cells 6 false (cfC c)])[m3.length]? = some (.cells 2 false [.nils, .int .u64 0]) := by rw [get_mid0]; rfl
  have g4 := (hkM4.trans k4).get g3
  have gb5 := (hkM4.trans k4).get gb3
  have gn4 := k4.get gnM4
  have sr4 := sr.keep (hkM4.trans k4)
  have ln4 : m3.length < m4.length := (List.getElem?_eq_some_iff.1 gn4).1
  have hw1 := slOne sv
  have hw2 := slOne sw
  simp only [AV.one] at hw1 hw2
  have lb3 : m0.length < m3.length := (List.getElem?_eq_some_iff.1 gb3).1
  have lj3 : j < m3.length := (List.getElem?_eq_some_iff.1 g3).1
  have hbox : ∀ ro L, m4[m3.length]? ≠ some (.cells 1 ro L) := fun ro L h => by rw [gn4] at h; cases h
  have sr5 := Sl.put sr4 hbox (.cells 2 false (memC v' (finO c p xs xs.length)))
  have sw5 := Sl.put sw hbox (.cells 2 false (memC v' (finO c p xs xs.length)))
  have sv5 := Sl.put sv hbox (.cells 2 false (memC v' (finO c p xs xs.length)))
  simp (disch := first | assumption | omega | (simp only [List.length_cons, List.length_nil, List.length_set, List.length_append] <;> omega) | (simp only [get_mid, get_mid0, List.cons_append, List.append_assoc, List.getElem?_cons_zero, List.getElem?_cons_succ])) only [ek, ↓evW, ↓evQ, evB, evS, evL, List.map, AV.cells, List.all, AV.one, Bool.and_true, Bool.true_and, if_true, ↓thenQ_normal, ↓thenQ_exit, ↓thenQ_ret, ↓blockQ_normal, ↓blockQ_ret, ↓blockQ_exit, ↓CW_true, ↓CW_false, CW_true, CW_false, condT, condF, RQ_some, tupA_one, tupA_two, tupA_nil, Nat.reduceSub, Nat.reduceAdd, Nat.reduceMul, Nat.zero_add, Nat.add_zero, Nat.reduceLeDiff, Nat.reduceEqDiff, eqV, eqAll, fillA, and_self, and_true, true_and, Nat.le_refl, Bool.not_true, Bool.not_false, Bool.false_xor, Bool.true_xor, cond_true, cond_false, List.replicate, if_false, reduceIte, resAll, resA, ne_eq, decide_not, decide_true, decide_false, Int.reduceEq, Bool.not_true, Bool.not_false, not_true_eq_false, not_false_eq_true, cond_bool, cond_int, beq_self_eq_true, Int.reduceBEq, Bool.and_self, Bool.and_false, Bool.false_and, Bool.xor_false, Bool.xor_true, loadN_ldC, ldC_none, ldC_somes, stC_aggs, splice, storeN_stC, stC_int, stC_bool, stC_ptr, stC_nilp, stC_sl, stC_nils, getC_gcO, gcO_cells, W_draw_eq, ↓W_scope, ev_clear, evT, evF, evX, evM, ↓exitQ_normal, ↓exitQ_ret, ↓exitQ_exit, saA_self, saO_self, if_pos, if_neg, wrapI, get_concat, set_concat, Int.toNat_natCast, Int.toNat_zero, List.nil_append, Nat.mul_one, decide_eq_true, decide_eq_false, Int.reduceLE, Int.reduceLT, Int.reduceNeg, Bool.false_or, Bool.true_or, Bool.or_false, Bool.or_true, wrapU, Int.reduceAdd, Int.reduceSub, Int.reduceMul, List.append_assoc, List.length_append, get_mid, get_mid0, set_mid, set_mid0, List.length_set, List.length_cons, List.length_nil, List.cons_append, List.getElem?_append_left, List.set_append_left, get_at, get_at0, set_at, set_at0, List.getElem?_set_self, List.getElem?_set_ne, memC, hw1, hw2, gn4, cfC, gr4, gb5, a145]
  have hk5 := (hk4.trans (hkM4.trans k4)).set hk4.1 (.cells 2 false [v', .int .u64 (finO c p xs xs.length)])
  generalize hm5 : m4.set m3.length (.cells 2 false [v', .int .u64 (finO c p xs xs.length)]) = m5
  have g5 : m5[j]? = some (.abs (.mem st)) := by rw [← hm5, List.getElem?_set_ne (by omega)]; exact g4
  have gn5 : m5[m3.length]? = some (.cells 2 false [v', .int .u64 (finO c p xs xs.length)]) := by rw [← hm5, List.getElem?_set_self ln4]
  rw [hm5] at hk5
  simp only [memC, hm5] at sr5 sw5 sv5
  have hr := all_run (p := p) g5 rm hx (by omega) (by omega)
  simp only [cfC] at hr
  refine OK_fn hr ?_
  rintro got m6 ⟨k6, sg, _, st6, g6, r6⟩
  have nj : ∀ sz ro L, m5[j]? ≠ some (.cells sz ro L) := fun sz ro L h => by rw [g5] at h; cases h
  have sr6 := (k6.x).sl (szj := 0) (szk := 0) (nj 1) (nj 1) sr5
  have sw6 := (k6.x).sl (szj := 0) (szk := 0) (nj 1) (nj 1) sw5
  have sv6 := (k6.x).sl (szj := 0) (szk := 0) (nj 1) (nj 1) sv5
  have gn6 := k6.get gn5 (by omega)
  have hle := ringL_le c p xs
  have e1 := Fn_eq (same_run sg sw6 (by simp only [FUEL]; omega))
  have e2 := Fn_eq (same_run sr6 sw6 (by simp only [FUEL]; omega))
  rw [← hse] at e1 e2
  simp only [decide_true] at e1 e2
  simp (disch := first | assumption | omega | (simp only [List.length_cons, List.length_nil, List.length_set, List.length_append] <;> omega) | (simp only [get_mid, get_mid0, List.cons_append, List.append_assoc, List.getElem?_cons_zero, List.getElem?_cons_succ])) only [ek, ↓evW, ↓evQ, evB, evS, evL, List.map, AV.cells, List.all, AV.one, Bool.and_true, Bool.true_and, if_true, ↓thenQ_normal, ↓thenQ_exit, ↓thenQ_ret, ↓blockQ_normal, ↓blockQ_ret, ↓blockQ_exit, ↓CW_true, ↓CW_false, CW_true, CW_false, condT, condF, RQ_some, tupA_one, tupA_two, tupA_nil, Nat.reduceSub, Nat.reduceAdd, Nat.reduceMul, Nat.zero_add, Nat.add_zero, Nat.reduceLeDiff, Nat.reduceEqDiff, eqV, eqAll, fillA, and_self, and_true, true_and, Nat.le_refl, Bool.not_true, Bool.not_false, Bool.false_xor, Bool.true_xor, cond_true, cond_false, List.replicate, if_false, reduceIte, resAll, resA, ne_eq, decide_not, decide_true, decide_false, Int.reduceEq, Bool.not_true, Bool.not_false, not_true_eq_false, not_false_eq_true, cond_bool, cond_int, beq_self_eq_true, Int.reduceBEq, Bool.and_self, Bool.and_false, Bool.false_and, Bool.xor_false, Bool.xor_true, loadN_ldC, ldC_none, ldC_somes, stC_aggs, splice, storeN_stC, stC_int, stC_bool, stC_ptr, stC_nilp, stC_sl, stC_nils, getC_gcO, gcO_cells, W_draw_eq, ↓W_scope, ev_clear, evT, evF, evX, evM, ↓exitQ_normal, ↓exitQ_ret, ↓exitQ_exit, saA_self, saO_self, if_pos, if_neg, wrapI, get_concat, set_concat, Int.toNat_natCast, Int.toNat_zero, List.nil_append, Nat.mul_one, decide_eq_true, decide_eq_false, Int.reduceLE, Int.reduceLT, Int.reduceNeg, Bool.false_or, Bool.true_or, Bool.or_false, Bool.or_true, wrapU, Int.reduceAdd, Int.reduceSub, Int.reduceMul, List.append_assoc, List.length_append, get_mid, get_mid0, set_mid, set_mid0, List.length_set, List.length_cons, List.length_nil, List.cons_append, List.getElem?_append_left, List.set_append_left, get_at, get_at0, set_at, set_at0, List.getElem?_set_self, List.getElem?_set_ne, a84, e1, e2, gn6, hw1, a68]
  have hl6 : (dX c p xs (ringL c p xs).length).length ≤ 65536 := by have := (dX_ok (c := c) (p := p) hx (ringL c p xs).length).1; omega
  refine OK_fn (samemem_run g6 r6 sv6 hl6) ?_
  rintro _ m7 ⟨rfl, k7⟩
  simp (disch := first | assumption | omega | (simp only [List.length_cons, List.length_nil, List.length_set, List.length_append] <;> omega) | (simp only [get_mid, get_mid0, List.cons_append, List.append_assoc, List.getElem?_cons_zero, List.getElem?_cons_succ])) only [ek, ↓evW, ↓evQ, evB, evS, evL, List.map, AV.cells, List.all, AV.one, Bool.and_true, Bool.true_and, if_true, ↓thenQ_normal, ↓thenQ_exit, ↓thenQ_ret, ↓blockQ_normal, ↓blockQ_ret, ↓blockQ_exit, ↓CW_true, ↓CW_false, CW_true, CW_false, condT, condF, RQ_some, tupA_one, tupA_two, tupA_nil, Nat.reduceSub, Nat.reduceAdd, Nat.reduceMul, Nat.zero_add, Nat.add_zero, Nat.reduceLeDiff, Nat.reduceEqDiff, eqV, eqAll, fillA, and_self, and_true, true_and, Nat.le_refl, Bool.not_true, Bool.not_false, Bool.false_xor, Bool.true_xor, cond_true, cond_false, List.replicate, if_false, reduceIte, resAll, resA, ne_eq, decide_not, decide_true, decide_false, Int.reduceEq, Bool.not_true, Bool.not_false, not_true_eq_false, not_false_eq_true, cond_bool, cond_int, beq_self_eq_true, Int.reduceBEq, Bool.and_self, Bool.and_false, Bool.false_and, Bool.xor_false, Bool.xor_true, loadN_ldC, ldC_none, ldC_somes, stC_aggs, splice, storeN_stC, stC_int, stC_bool, stC_ptr, stC_nilp, stC_sl, stC_nils, getC_gcO, gcO_cells, W_draw_eq, ↓W_scope, ev_clear, evT, evF, evX, evM, ↓exitQ_normal, ↓exitQ_ret, ↓exitQ_exit, saA_self, saO_self, if_pos, if_neg, wrapI, get_concat, set_concat, Int.toNat_natCast, Int.toNat_zero, List.nil_append, Nat.mul_one, decide_eq_true, decide_eq_false, Int.reduceLE, Int.reduceLT, Int.reduceNeg, Bool.false_or, Bool.true_or, Bool.or_false, Bool.or_true, wrapU, Int.reduceAdd, Int.reduceSub, Int.reduceMul, List.append_assoc, List.length_append, get_mid, get_mid0, set_mid, set_mid0, List.length_set, List.length_cons, List.length_nil, List.cons_append, List.getElem?_append_left, List.set_append_left, get_at, get_at0, set_at, set_at0, List.getElem?_set_self, List.getElem?_set_ne, a132, pureF, worksG]
  have h5 := hk5.1
  exact Keep.trans ⟨by have := k6.1; omega, fun a ha => by rw [k6.2 a (by omega) (by omega), hk5.2 a ha]⟩ k7
end Go.Am.F10
end
section
namespace Go.Am.F10
open Go.Am.F06
theorem dW_add (w : Int) (d n : Nat) : dW (dW w d) n = dW w (d + n) := by
  show pk ((hd (dW w d) + n) % 4294967296) (tl (dW w d)) = _
  rw [hd_dW, tl_dW]; unfold dW
  congr 1; omega
theorem dX_add {c : Cf} {p : Int} {xs : List Int} (hx : OkL c xs) (h : thereP c p) (d n : Nat) : dX c p (dX c p xs d) n = dX c p xs (d + n) := by
  by_cases hn : n = 0
  · subst hn; rw [dX, if_pos rfl]; rfl
  by_cases hd0 : d = 0
  · subst hd0; rw [show dX c p xs 0 = xs from if_pos rfl, Nat.zero_add]
  have hw := dX_word hx h d
  rw [dX, if_neg hn, hw, dW_add, dX, if_neg hd0, List.set_set, dX, if_neg (by omega)]
theorem ringN_pos {c : Cf} {w : Int} (h : 0 < ringN c w) : sz w ≤ c.q ∧ (ringN c w : Int) = sz w := by
  have hs : 0 ≤ sz w := by unfold sz; omega
  unfold ringN at h ⊢
  split at h
  · rename_i hh; rw [if_pos hh]; exact ⟨hh, by omega⟩
  · omega
theorem ring_drop {c : Cf} {p : Int} {xs : List Int} (hx : OkL c xs) (h : thereP c p) {d : Nat} (hdl : d ≤ (ringL c p xs).length) : ringL c p (dX c p xs d) = (ringL c p xs).drop d := by
  by_cases h0 : d = 0
  · subst h0; rw [show dX c p xs 0 = xs from if_pos rfl, List.drop_zero]
  have hw := dX_word hx h d
  rw [ringL_there h] at hdl ⊢
  rw [ringL_there h, hw]
  rw [ringW_len] at hdl
  generalize xs.getD (wrdN c p) 0 = w at hdl ⊢
  obtain ⟨h1, h2⟩ := ringN_pos (c := c) (w := w) (by omega)
  have h3 : ringN c (dW w d) = ringN c w - d := by
    have := dW_sz (w := w) (i := d) (by omega)
    rw [ringN, this, if_pos (by omega)]; omega
  rw [h3]
  refine List.ext_getElem? fun i => ?_
  rw [List.getElem?_drop]
  by_cases hi : i < ringN c w - d
  · rw [ringW_get _ _ _ _ hi, ringW_get _ _ _ _ (by omega)]
    have e : (hd (dW w d) + (i : Int)) % 4294967296 = (hd w + ((d + i : Nat) : Int)) % 4294967296 := by rw [hd_dW]; omega
    rw [ringAt, ringAt, e, dX_slot h d (by omega)]
  · rw [List.getElem?_eq_none (by rw [ringW_len]; omega), List.getElem?_eq_none (by rw [ringW_len]; omega)]
theorem dW_inj {w : Int} {d e : Nat} (hd : d ≤ 100) (he : e ≤ 100) (h : dW w d = dW w e) : d = e := by
  have h1 := hd_dW w d
  have h2 := hd_dW w e
  rw [h, h2] at h1
  omega
structure OI (c : Cf) (p : Int) (xs : List Int) (i d g : Nat) (s : GS) : Prop where
  dl : d ≤ (ringL c p xs).length
  gl : g ≤ d
  t0 : 0 ≤ s.tries
  t1 : s.tries ≤ g
  st : s.a = 0 ∨ ((s.a = 1 ∨ (s.a = 2 ∨ s.a = 3) ∧ ∃ e, e ≤ d ∧ e < (ringL c p xs).length ∧ s.w = dW (xs.getD (wrdN c p) 0) e ∧ (s.a = 3 → s.seen = (ringL c p xs).getD e 0) ∧ s.tries + (if e < d then 1 else 0) ≤ g) ∧ (i : Int) = 3 * s.tries + s.a - 1)
theorem OI.start {c : Cf} {p : Int} {xs : List Int} : OI c p xs 0 0 0 ⟨1, 0, 0, false, 0⟩ := ⟨by omega, by omega, by simp, by simp, .inr ⟨.inl rfl, by simp⟩⟩
theorem OI.thief {c : Cf} {p : Int} {xs : List Int} {i d g : Nat} {s : GS} (h : OI c p xs i d g s) {n : Nat} (hn : d + n ≤ (ringL c p xs).length) : OI c p xs i (d + n) (if 0 < n then g + 1 else g) s := by
  obtain ⟨h1, h2, h3, h4, h5⟩ := h
  by_cases h0 : 0 < n
  · rw [if_pos h0]
    refine ⟨hn, by omega, h3, by omega, ?_⟩
    rcases h5 with h5 | ⟨h5 | ⟨h5, e, e1, e2, e3, e4, e5⟩, h6⟩
    · exact .inl h5
    · exact .inr ⟨.inl h5, h6⟩
    · refine .inr ⟨.inr ⟨h5, e, by omega, e2, e3, e4, ?_⟩, h6⟩
      split <;> split at e5 <;> omega
  · have : n = 0 := by omega
    subst this
    rw [if_neg h0]
    exact ⟨hn, h2, h3, h4, h5⟩
theorem OI.lt {c : Cf} {p : Int} {xs : List Int} {i d g : Nat} {s : GS} (h : OI c p xs i d g s) (ha : s.a ≠ 0) : i < 200 := by
  have hle := ringL_le c p xs
  obtain ⟨h1, h2, h3, h4, h5⟩ := h
  rcases h5 with h5 | ⟨h5, h6⟩
  · exact absurd h5 ha
  · have : s.a ≤ 3 := by
      rcases h5 with h5 | ⟨h5, _⟩ <;> omega
    omega
theorem OI.step {c : Cf} {p : Int} {xs : List Int} {i d g : Nat} {s : GS} (h : OI c p xs i d g s) (hx : OkL c xs) (hp : thereP c p) (ha : s.a ≠ 0) :
    ((stepG c p (dX c p xs d) s).1.a ≠ 0 ∧ (stepG c p (dX c p xs d) s).2 = dX c p xs d ∧ OI c p xs (i + 1) d g (stepG c p (dX c p xs d) s).1) ∨
    ((stepG c p (dX c p xs d) s).1.a = 0 ∧ (stepG c p (dX c p xs d) s).1.has = s.has ∧ (stepG c p (dX c p xs d) s).2 = dX c p xs d ∧ d = (ringL c p xs).length ∧ OI c p xs (i + 1) d g (stepG c p (dX c p xs d) s).1) ∨
    ((stepG c p (dX c p xs d) s).1.a = 0 ∧ (stepG c p (dX c p xs d) s).1.has = true ∧ d < (ringL c p xs).length ∧ (stepG c p (dX c p xs d) s).1.seen = (ringL c p xs).getD d 0 ∧ (stepG c p (dX c p xs d) s).2 = dX c p xs (d + 1) ∧ OI c p xs (i + 1) (d + 1) g (stepG c p (dX c p xs d) s).1) := by
  have hle := ringL_le c p xs
  have hw := dX_word hx hp d
  have hw64 := getD_64 hx.2 (wrdN c p)
  have hlen : (ringL c p xs).length = ringN c (xs.getD (wrdN c p) 0) := by rw [ringL_there hp, ringW_len]
  have hget : ∀ e, e < (ringL c p xs).length → (ringL c p xs).getD e 0 = ringAt c p xs (xs.getD (wrdN c p) 0) e := by
    intro e he
    rw [List.getD_eq_getElem?_getD, ringL_there hp, ringW_get _ _ _ _ (by omega)]; rfl
  have hnx := dX_next (c := c) (p := p) (xs := xs) d
  obtain ⟨h1, h2, h3, h4, h5⟩ := h
  obtain ⟨a, w, seen, has, tries⟩ := s
  simp only at ha h3 h4 h5
  generalize hw0 : xs.getD (wrdN c p) 0 = w0 at hw hw64 hlen hget h5 hnx
  rcases h5 with h5 | ⟨h5 | ⟨h5 | h5, e, e1, e2, e3, e4, e5⟩, h6⟩
  · exact absurd h5 ha
  · subst h5
    have hs : stepG c p (dX c p xs d) ⟨1, w, seen, has, tries⟩ = (⟨if sz (dW w0 d) = 0 ∨ c.q < sz (dW w0 d) then 0 else 2, dW w0 d, seen, has, tries⟩, dX c p xs d) := by
      simp only [stepG, hw, if_true]
    rw [hs]
    by_cases hz : sz (dW w0 d) = 0 ∨ c.q < sz (dW w0 d)
    · rw [if_pos hz]
      refine .inr (.inl ⟨rfl, rfl, rfl, ?_, h1, h2, h3, h4, .inl rfl⟩)
      rcases Nat.eq_zero_or_pos (ringN c w0) with h0 | h0
      · omega
      · obtain ⟨q1, q2⟩ := ringN_pos h0
        have := dW_sz (w := w0) (i := d) (by omega)
        omega
    · rw [if_neg hz]
      refine .inl ⟨by simp, rfl, h1, h2, h3, h4, .inr ⟨.inr ⟨.inl rfl, d, Nat.le_refl _, ?_, by rw [hw0], fun hh => by simp at hh, by rw [if_neg (Nat.lt_irrefl _)]; simp only; omega⟩, by simp only; omega⟩⟩
      by_cases hq : sz w0 ≤ c.q
      · have h0 : ringN c w0 = (sz w0).toNat := if_pos hq
        have hs0 : 0 ≤ sz w0 := by unfold sz; omega
        have := dW_sz (w := w0) (i := d) (by omega)
        omega
      · have h0 : ringN c w0 = 0 := if_neg hq
        have hd0 : d = 0 := by omega
        subst hd0
        rw [dW_zero hw64] at hz
        omega
  · subst h5
    have hhd : 0 ≤ hd (dW w0 e) := by rw [hd_dW]; omega
    have hsl := dX_slot (xs := xs) hp d hhd
    rw [hd_dW] at hsl
    have hs : stepG c p (dX c p xs d) ⟨2, w, seen, has, tries⟩ = (⟨3, w, ringAt c p xs w0 e, has, tries⟩, dX c p xs d) := by
      simp only [stepG, if_neg (show ¬ ((2 : Int) = 1) by decide), if_true, e3, sltN, hd_dW, hsl, ringAt]
    rw [hs]
    refine .inl ⟨by simp, rfl, h1, h2, h3, h4, .inr ⟨.inr ⟨.inr rfl, e, e1, e2, by rw [hw0]; exact e3, fun _ => (hget e e2).symm, e5⟩, by simp only; omega⟩⟩
  · subst h5
    try simp only at e3 e4
    by_cases heq : dW w0 d = w
    · have hde : d = e := dW_inj (w := w0) (by omega) (by omega) (by rw [heq, e3])
      have hs : stepG c p (dX c p xs d) ⟨3, w, seen, has, tries⟩ = (⟨0, w, seen, true, tries⟩, dX c p xs (d + 1)) := by
        rw [hde] at hw hnx
        simp only [stepG, if_neg (show ¬ ((3 : Int) = 1) by decide), if_neg (show ¬ ((3 : Int) = 2) by decide), if_true, hde, hw, e3, dW_gain, hnx]
      rw [hs]
      refine .inr (.inr ⟨rfl, rfl, by omega, ?_, rfl, by omega, by omega, h3, h4, .inl rfl⟩)
      rw [hde]; exact e4 trivial
    · have hs : stepG c p (dX c p xs d) ⟨3, w, seen, has, tries⟩ = (⟨1, w, seen, has, tries + 1⟩, dX c p xs d) := by
        have ew : IntKind.i64.wrap (tries + 1) = tries + 1 := wrapI (by omega) (by omega)
        simp only [stepG, if_neg (show ¬ ((3 : Int) = 1) by decide), if_neg (show ¬ ((3 : Int) = 2) by decide), if_true, hw, if_neg heq, ew]
      have hne : e < d := by
        rcases Nat.lt_or_ge e d with h | h
        · exact h
        · exact absurd (by rw [e3]; congr 1; omega) heq
      rw [if_pos hne] at e5
      rw [hs]
      exact .inl ⟨by simp, rfl, h1, h2, by simp only; omega, by simp only at e5 ⊢; omega, .inr ⟨.inl rfl, by simp only; omega⟩⟩
end Go.Am.F10
end
section
namespace Go.Am.F10
open Go.Am.F06
section
variable {X : Type}
def q3 (k : Int) : Int := if k = 0 then 2 else if k = 1 then 4 else 8
theorem shl3 {k : Int} (h0 : 0 ≤ k) (h1 : k < 3) : shfI .shl .i64 2 k = some (.int .i64 (q3 k)) := by
  rcases (show k = 0 ∨ k = 1 ∨ k = 2 by omega) with rfl | rfl | rfl <;> rfl
def madeC (c : Cf) : Cf := ⟨1 + c.n % 4, q3 (c.q % 3), 1 + c.g % 20, 1 + c.n % 4 + 1 + c.m % 3, 2 + c.t % 6, c.s % 3⟩
theorem made_right (c : Cf) : rightP (madeC c) := by
  have e1 := Int.emod_nonneg c.n (b := 4) (by omega)
  have e2 := Int.emod_lt_of_pos c.n (b := 4) (by omega)
  have e3 := Int.emod_nonneg c.g (b := 20) (by omega)
  have e4 := Int.emod_lt_of_pos c.g (b := 20) (by omega)
  have e5 := Int.emod_nonneg c.m (b := 3) (by omega)
  have e6 := Int.emod_lt_of_pos c.m (b := 3) (by omega)
  have e7 := Int.emod_nonneg c.t (b := 6) (by omega)
  have e8 := Int.emod_lt_of_pos c.t (b := 6) (by omega)
  have e9 := Int.emod_nonneg c.s (b := 3) (by omega)
  have e10 := Int.emod_lt_of_pos c.s (b := 3) (by omega)
  refine ⟨?_, ?_, ?_, ?_, ?_, ?_⟩ <;> simp only [madeC]
  · omega
  · unfold q3 roomP; split
    · simp
    · split <;> simp
  all_goals omega
set_option maxHeartbeats 4000000 in
theorem made_eq (m : Mem X) (c : Cf) : c_docs_Made [.agg (cfC c)] m = some (.agg (cfC (madeC c)), m ++ [.cells 6 false (cfC c), .cells 6 false (cfC (madeC c))]) := by
  have a87 : assoc [(87, c_kit_Pick (X := X))] 87 = some c_kit_Pick := rfl
  have he : c_docs_Made (X := X) = amFunc [(87, c_kit_Pick)] docs_Made := rfl
  rw [he]
  generalize [(87, c_kit_Pick (X := X))] = G at a87 ⊢
  have p4 := fun m : Mem X => pick_eq m c.n 4 (by omega) (by omega)
  have p3 := fun m : Mem X => pick_eq m c.q 3 (by omega) (by omega)
  have p20 := fun m : Mem X => pick_eq m c.g 20 (by omega) (by omega)
  have p3m := fun m : Mem X => pick_eq m c.m 3 (by omega) (by omega)
  have p6 := fun m : Mem X => pick_eq m c.t 6 (by omega) (by omega)
  have p3s := fun m : Mem X => pick_eq m c.s 3 (by omega) (by omega)
  have e1 := Int.emod_nonneg c.n (b := 4) (by omega)
  have e2 := Int.emod_lt_of_pos c.n (b := 4) (by omega)
  have e3 := Int.emod_nonneg c.g (b := 20) (by omega)
  have e4 := Int.emod_lt_of_pos c.g (b := 20) (by omega)
  have e5 := Int.emod_nonneg c.m (b := 3) (by omega)
  have e6 := Int.emod_lt_of_pos c.m (b := 3) (by omega)
  have e7 := Int.emod_nonneg c.t (b := 6) (by omega)
  have e8 := Int.emod_lt_of_pos c.t (b := 6) (by omega)
  have e9 := Int.emod_nonneg c.q (b := 3) (by omega)
  have e10 := Int.emod_lt_of_pos c.q (b := 3) (by omega)
  have hsh := shl3 e9 e10
  refine Fn_eq (Fn_of rfl ?_)
  simp (disch := first | assumption | omega | (simp only [List.length_cons, List.length_nil, List.length_set, List.length_append] <;> omega) | (simp only [get_mid, get_mid0, List.cons_append, List.append_assoc, List.getElem?_cons_zero, List.getElem?_cons_succ])) only [docs_Made, ek, ↓evW, ↓evQ, evB, evS, evL, List.map, AV.cells, List.all, AV.one, Bool.and_true, Bool.true_and, if_true, ↓thenQ_normal, ↓thenQ_exit, ↓thenQ_ret, ↓blockQ_normal, ↓blockQ_ret, ↓blockQ_exit, ↓CW_true, ↓CW_false, CW_true, CW_false, condT, condF, RQ_some, tupA_one, tupA_two, tupA_nil, Nat.reduceSub, Nat.reduceAdd, Nat.reduceMul, Nat.zero_add, Nat.add_zero, Nat.reduceLeDiff, Nat.reduceEqDiff, eqV, eqAll, fillA, and_self, and_true, true_and, Nat.le_refl, Bool.not_true, Bool.not_false, Bool.false_xor, Bool.true_xor, cond_true, cond_false, List.replicate, if_false, reduceIte, resAll, resA, ne_eq, decide_not, decide_true, decide_false, Int.reduceEq, Bool.not_true, Bool.not_false, not_true_eq_false, not_false_eq_true, cond_bool, cond_int, beq_self_eq_true, Int.reduceBEq, Bool.and_self, Bool.and_false, Bool.false_and, Bool.xor_false, Bool.xor_true, loadN_ldC, ldC_none, ldC_somes, stC_aggs, splice, storeN_stC, stC_int, stC_bool, stC_ptr, stC_nilp, stC_sl, stC_nils, getC_gcO, gcO_cells, W_draw_eq, ↓W_scope, ev_clear, evT, evF, evX, evM, ↓exitQ_normal, ↓exitQ_ret, ↓exitQ_exit, saA_self, saO_self, if_pos, if_neg, wrapI, get_concat, set_concat, Int.toNat_natCast, Int.toNat_zero, List.nil_append, Nat.mul_one, decide_eq_true, decide_eq_false, Int.reduceLE, Int.reduceLT, Int.reduceNeg, Bool.false_or, Bool.true_or, Bool.or_false, Bool.or_true, wrapU, Int.reduceAdd, Int.reduceSub, Int.reduceMul, List.append_assoc, List.length_append, get_mid, get_mid0, set_mid, set_mid0, List.length_set, List.length_cons, List.length_nil, List.cons_append, List.getElem?_append_left, List.set_append_left, get_at, get_at0, set_at, set_at0, List.getElem?_set_self, List.getElem?_set_ne, cfC, madeC, a87, p4, p3, p20, p3m, p6, p3s, hsh]
def cutA (v : AV) (k : Nat) : AV := match v with | .sl q o _ none => .sl q o k none | v => v
def dropA (v : AV) (k : Nat) : AV := match v with | .sl q o n none => .sl q (o + k) (n - k) none | v => v
theorem _root_.Go.Am.F10.Nx.put {m : Mem X} {v : AV} (h : Nx m v) {b : Nat} (hb : ∀ ro L, m[b]? ≠ some (.cells 1 ro L)) (C : Chunk X) : Nx (m.set b C) v := by
  rcases h with h | ⟨q, o, n, l, h1, h2⟩
  · exact .inl h
  · refine .inr ⟨q, o, n, l, h1, ?_⟩
    rw [List.getElem?_set_ne (fun hq => hb _ _ (by rw [hq]; exact h2))]; exact h2
theorem _root_.Go.Am.F10.Nx.keep {m m' : Mem X} {v : AV} (h : Nx m v) (k : Keep m m') : Nx m' v := by
  rcases h with h | ⟨q, o, n, l, h1, h2⟩
  · exact .inl h
  · exact .inr ⟨q, o, n, l, h1, k.get h2⟩
theorem si_take {m : Mem X} {wr : Bool} {xs : List Int} {v : AV} (h : SI m wr xs v) (hn : Nx m v) {k : Nat} (hk : k ≤ xs.length) : sliceA m 1 v none (some k) none = some (cutA v k) ∧ SI m wr (xs.take k) (cutA v k) := by
  rcases hn with rfl | ⟨q, o, n, l, rfl, hq⟩
  · have h0 : xs.length = 0 := by
      rcases h.2 with ⟨_, h⟩ | ⟨_, _, _, h, _⟩
      · exact h
      · cases h
    have hx : xs = [] := List.length_eq_zero_iff.1 h0
    subst hx
    have : k = 0 := by simpa using hk
    subst this
    exact ⟨rfl, Sl.nil⟩
  · have hnl : n = xs.length := by have := h.len; simp only [lenA, Option.some.injEq] at this; exact this
    subst hnl
    refine ⟨?_, ?_, .inr ⟨q, o, none, by rw [List.length_take, Nat.min_eq_left hk]; rfl, fun h0 => ?_⟩⟩
    · simp only [sliceA, getC_gcO, hq, gcO_cells, Option.getD_none, Option.getD_some]
      rw [if_pos ⟨trivial, by omega, by omega⟩]; simp [cutA]
    · rw [iC_len]; omega
    · rw [List.length_take] at h0 ⊢
      obtain ⟨q', o', cap', ro, L, hv, h2, h3, h4, h5⟩ := h.at (by omega)
      injection hv with v1 v2 v3 v4; subst v1; subst v2; subst v4
      rw [Nat.min_eq_left hk]
      refine ⟨ro, L, h2, ?_, by omega, h5⟩
      rw [iC, List.map_take, ← iC, ← h3, List.take_take]
      congr 1; omega
theorem si_drop {m : Mem X} {wr : Bool} {xs : List Int} {v : AV} (h : SI m wr xs v) (hn : Nx m v) {k : Nat} (hk : k ≤ xs.length) : sliceA m 1 v (some k) none none = some (dropA v k) ∧ SI m wr (xs.drop k) (dropA v k) := by
  rcases hn with rfl | ⟨q, o, n, l, rfl, hq⟩
  · have h0 : xs.length = 0 := by
      rcases h.2 with ⟨_, h⟩ | ⟨_, _, _, h, _⟩
      · exact h
      · cases h
    have hx : xs = [] := List.length_eq_zero_iff.1 h0
    subst hx
    have : k = 0 := by simpa using hk
    subst this
    exact ⟨rfl, Sl.nil⟩
  · have hnl : n = xs.length := by have := h.len; simp only [lenA, Option.some.injEq] at this; exact this
    subst hnl
    refine ⟨?_, ?_, .inr ⟨q, o + k, none, by rw [List.length_drop]; rfl, fun h0 => ?_⟩⟩
    · simp only [sliceA, getC_gcO, hq, gcO_cells, Option.getD_none, Option.getD_some]
      rw [if_pos ⟨trivial, by omega, by omega⟩, Nat.mul_one]; rfl
    · rw [iC_len]; omega
    · rw [List.length_drop] at h0 ⊢
      obtain ⟨q', o', cap', ro, L, hv, h2, h3, h4, h5⟩ := h.at (by omega)
      injection hv with v1 v2 v3 v4; subst v1; subst v2; subst v4
      refine ⟨ro, L, h2, ?_, by omega, h5⟩
      rw [iC, List.map_drop, ← iC, ← h3, List.drop_take, List.drop_drop]
      congr 1; omega
theorem si_row {m : Mem X} {wr : Bool} {xs : List Int} {v : AV} (h : SI m wr xs v) : rowOf m 1 v = some (iC xs) := by
  rcases h.2 with ⟨rfl, h0⟩ | ⟨q, o, cap, rfl, h2⟩
  · have hx : xs = [] := List.length_eq_zero_iff.1 h0
    subst hx; rfl
  · by_cases h0 : xs.length = 0
    · have hx : xs = [] := List.length_eq_zero_iff.1 h0
      subst hx; rfl
    · obtain ⟨ro, L, h3, h4, h5, _⟩ := h2 (by omega)
      simp only [rowOf, Am.getC, h3]
      rw [if_neg h0, if_pos h5, h4]
theorem own_pushs {m0 m : Mem X} {wr : Bool} {xs ys : List Int} {v y : AV} (h : Own m0 m 1 xs.length (iC xs) v) (hy : SI m wr ys y) (hl : xs.length ≤ 100000) (hl2 : ys.length ≤ 100000) (hm : m0.length ≤ m.length) :
    ∃ v' m', appendA 1 8 v y m = some (v', m') ∧ Own m0 m' 1 (xs ++ ys).length (iC (xs ++ ys)) v' ∧ m.length ≤ m'.length ∧ (∀ i, i < m.length → (∀ ys, m[i]? ≠ some (.cells 1 false (iC ys))) ∨ i < m0.length → m'[i]? = m[i]?) := by
  have hr := si_row hy
  have hlen := hy.len
  by_cases h0 : ys.length = 0
  · have hx : ys = [] := List.length_eq_zero_iff.1 h0
    subst hx
    rw [List.append_nil]
    rcases h with ⟨h1, h2, rfl⟩ | ⟨q, rfl, hq, h2, h3⟩
    · exact ⟨.nils, m, by simp only [appendA, hlen, hr, List.length_nil, if_true], .inl ⟨h1, h2, rfl⟩, Nat.le_refl _, fun i _ _ => rfl⟩
    · exact ⟨_, m, by simp only [appendA, hlen, hr, List.length_nil, if_true], .inr ⟨q, rfl, hq, h2, h3⟩, Nat.le_refl _, fun i _ _ => rfl⟩
  rcases h with ⟨h1, h2, rfl⟩ | ⟨q, rfl, hq, h2, h3⟩
  · have hxs : xs = [] := List.length_eq_zero_iff.1 h1
    subst hxs
    refine ⟨.sl m.length 0 ys.length none, m ++ [.cells 1 false (iC ys)], ?_, .inr ⟨_, by rw [List.nil_append], by rw [List.nil_append]; exact get_concat, hm, by simp⟩, by simp, fun i hi _ => List.getElem?_append_left hi⟩
    simp only [appendA, hlen, hr]
    rw [if_neg h0, if_pos ⟨by omega, by omega, iC_one _⟩]
  · refine ⟨.sl m.length 0 (xs.length + ys.length) none, m.set q .dead ++ [.cells 1 false (iC xs ++ iC ys)], ?_, .inr ⟨_, by rw [List.length_append], ?_, hm, by simp⟩, by simp, fun i hi ho => ?_⟩
    · simp only [appendA, hlen, hr, Am.getC, hq]
      rw [if_neg h0, if_pos]
      · rw [List.drop_zero, Nat.mul_one, List.take_of_length_le (by rw [iC_len]; omega)]
      · refine ⟨trivial, by rw [iC_len]; omega, by omega, by omega, ?_⟩
        rw [List.drop_zero, Nat.mul_one, List.take_of_length_le (by rw [iC_len]; omega), List.all_append, iC_one, iC_one]; rfl
    · rw [show m.length = (m.set q .dead).length by simp, get_concat]; simp [iC]
    · have hqi : q ≠ i := by
        rintro rfl
        rcases ho with ho | ho
        · exact ho _ hq
        · omega
      rw [List.getElem?_append_left (by simpa using hi), List.getElem?_set_ne hqi]
end
end Go.Am.F10
end
section
namespace Go.Am.F10
open Go.Am.F06
def thN (k len : Nat) : Nat := min k (len - len / 2)
def Gthief : List (Nat × AFun Ob) := [(136, amFunc Gring docs_Ring), (159, c_conf_Config_Word), (24, memF loadS), (22, memF storeS)]
def TfP (m : MM) (c : Cf) (p : Int) (j : Nat) (xs : List Int) (n : Nat) (r : AV) (m' : MM) : Prop := KeepB j m m' ∧ SI m' true ((ringL c p xs).take n) r ∧ ∃ st' o', m'[j]? = some (.abs (.mem st')) ∧ RelM (dX c p xs n) o' st'
set_option maxHeartbeats 8000000 in
theorem thief_run {m : MM} {c : Cf} {p o : Int} {xs : List Int} {j k : Nat} {st : MemSt} (hk3 : k ≤ 3) (hj : m[j]? = some (.abs (.mem st))) (hr : RelM xs o st) (hx : OkL c xs) (h : thereP c p) :
    Fn Gthief docs_Thief [.agg (cfC c), .ptr j 0, .int .i64 p, .int .i64 k] m (TfP m c p j xs (thN k (ringL c p xs).length)) := by
  have a136 : assoc Gthief 136 = some (amFunc Gring docs_Ring) := rfl
  have a159 : assoc Gthief 159 = some c_conf_Config_Word := rfl
  have a24 : assoc Gthief 24 = some (memF loadS) := rfl
  have a22 : assoc Gthief 22 = some (memF storeS) := rfl
  generalize Gthief = G at a136 a159 a24 a22 ⊢
  have lj : j < m.length := (List.getElem?_eq_some_iff.1 hj).1
  have hcn := cellsN_le c
  have hxl := hx.1
  have hle := ringL_le c p xs
  have hlen : (ringL c p xs).length = ringN c (xs.getD (wrdN c p) 0) := by rw [ringL_there h, ringW_len]
  have hb := there_bounds h
  have ha0 := addr_b h (i := 0) (by omega) (by omega)
  have hthr : thr xs (addrA c p 0) := ⟨by omega, by omega⟩
  have hwt : (addrA c p 0).toNat = wrdN c p := rfl
  have hw64 := getD_64 hx.2 (wrdN c p)
  refine Fn_of rfl ?_
  simp (disch := first | assumption | omega | (simp only [List.length_cons, List.length_nil, List.length_set, List.length_append] <;> omega) | (simp only [get_mid, get_mid0, List.cons_append, List.append_assoc, List.getElem?_cons_zero, List.getElem?_cons_succ])) only [docs_Thief, ek, ↓evW, ↓evQ, evB, evS, evL, List.map, AV.cells, List.all, AV.one, Bool.and_true, Bool.true_and, if_true, ↓thenQ_normal, ↓thenQ_exit, ↓thenQ_ret, ↓blockQ_normal, ↓blockQ_ret, ↓blockQ_exit, ↓CW_true, ↓CW_false, CW_true, CW_false, condT, condF, RQ_some, tupA_one, tupA_two, tupA_nil, Nat.reduceSub, Nat.reduceAdd, Nat.reduceMul, Nat.zero_add, Nat.add_zero, Nat.reduceLeDiff, Nat.reduceEqDiff, eqV, eqAll, fillA, and_self, and_true, true_and, Nat.le_refl, Bool.not_true, Bool.not_false, Bool.false_xor, Bool.true_xor, cond_true, cond_false, List.replicate, if_false, reduceIte, resAll, resA, ne_eq, decide_not, decide_true, decide_false, Int.reduceEq, Bool.not_true, Bool.not_false, not_true_eq_false, not_false_eq_true, cond_bool, cond_int, beq_self_eq_true, Int.reduceBEq, Bool.and_self, Bool.and_false, Bool.false_and, Bool.xor_false, Bool.xor_true, loadN_ldC, ldC_none, ldC_somes, stC_aggs, splice, storeN_stC, stC_int, stC_bool, stC_ptr, stC_nilp, stC_sl, stC_nils, getC_gcO, gcO_cells, W_draw_eq, ↓W_scope, ev_clear, evT, evF, evX, evM, ↓exitQ_normal, ↓exitQ_ret, ↓exitQ_exit, saA_self, saO_self, if_pos, if_neg, wrapI, get_concat, set_concat, Int.toNat_natCast, Int.toNat_zero, List.nil_append, Nat.mul_one, decide_eq_true, decide_eq_false, Int.reduceLE, Int.reduceLT, Int.reduceNeg, Bool.false_or, Bool.true_or, Bool.or_false, Bool.or_true, wrapU, Int.reduceAdd, Int.reduceSub, Int.reduceMul, List.append_assoc, List.length_append, get_mid, get_mid0, set_mid, set_mid0, List.length_set, List.length_cons, List.length_nil, List.cons_append, List.getElem?_append_left, List.set_append_left, get_at, get_at0, set_at, set_at0, List.getElem?_set_self, List.getElem?_set_ne, cfC, a136]
  have hk1 : Keep m (m ++ [Chunk.cells 6 false (cfC c)]) := .app _ _
  have hrn := ring_run (c := c) (p := p) (hk1.get hj) hr hx
  simp only [cfC] at hrn
  refine OK_fn hrn ?_
  rintro ring m1 ⟨k1, sr, _, nx⟩
  have hk01 : Keep m m1 := hk1.trans k1
  have gb : m1[m.length]? = some (Chunk.cells 6 false (cfC c)) := k1.get get_concat
  have g1 := hk01.get hj
  have lj1 : j < m1.length := (List.getElem?_eq_some_iff.1 g1).1
  have lb : m.length < m1.length := (List.getElem?_eq_some_iff.1 gb).1
  have hlr := sr.len
  have eq2 : ((ringL c p xs).length : Int).tdiv 2 = (((ringL c p xs).length / 2 : Nat) : Int) := by rw [Int.tdiv_eq_ediv_of_nonneg (by omega)]; omega
  have hwr := fun m : MM => word_run (m := m) c p
  have hmin : (if ((ringL c p xs).length : Int) - (((ringL c p xs).length / 2 : Nat) : Int) < (k : Int) then ((ringL c p xs).length : Int) - (((ringL c p xs).length / 2 : Nat) : Int) else (k : Int)) = ((thN k (ringL c p xs).length : Nat) : Int) := by unfold thN; split <;> omega
  have hn3 : thN k (ringL c p xs).length ≤ 3 := by unfold thN; omega
  have hnl : thN k (ringL c p xs).length ≤ (ringL c p xs).length := by unfold thN; omega
  simp only [cfC, List.cons_append, List.nil_append] at hwr gb
  simp (disch := first | assumption | omega | (simp only [List.length_cons, List.length_nil, List.length_set, List.length_append] <;> omega) | (simp only [get_mid, get_mid0, List.cons_append, List.append_assoc, List.getElem?_cons_zero, List.getElem?_cons_succ])) only [ek, ↓evW, ↓evQ, evB, evS, evL, List.map, AV.cells, List.all, AV.one, Bool.and_true, Bool.true_and, if_true, ↓thenQ_normal, ↓thenQ_exit, ↓thenQ_ret, ↓blockQ_normal, ↓blockQ_ret, ↓blockQ_exit, ↓CW_true, ↓CW_false, CW_true, CW_false, condT, condF, RQ_some, tupA_one, tupA_two, tupA_nil, Nat.reduceSub, Nat.reduceAdd, Nat.reduceMul, Nat.zero_add, Nat.add_zero, Nat.reduceLeDiff, Nat.reduceEqDiff, eqV, eqAll, fillA, and_self, and_true, true_and, Nat.le_refl, Bool.not_true, Bool.not_false, Bool.false_xor, Bool.true_xor, cond_true, cond_false, List.replicate, if_false, reduceIte, resAll, resA, ne_eq, decide_not, decide_true, decide_false, Int.reduceEq, Bool.not_true, Bool.not_false, not_true_eq_false, not_false_eq_true, cond_bool, cond_int, beq_self_eq_true, Int.reduceBEq, Bool.and_self, Bool.and_false, Bool.false_and, Bool.xor_false, Bool.xor_true, loadN_ldC, ldC_none, ldC_somes, stC_aggs, splice, storeN_stC, stC_int, stC_bool, stC_ptr, stC_nilp, stC_sl, stC_nils, getC_gcO, gcO_cells, W_draw_eq, ↓W_scope, ev_clear, evT, evF, evX, evM, ↓exitQ_normal, ↓exitQ_ret, ↓exitQ_exit, saA_self, saO_self, if_pos, if_neg, wrapI, get_concat, set_concat, Int.toNat_natCast, Int.toNat_zero, List.nil_append, Nat.mul_one, decide_eq_true, decide_eq_false, Int.reduceLE, Int.reduceLT, Int.reduceNeg, Bool.false_or, Bool.true_or, Bool.or_false, Bool.or_true, wrapU, Int.reduceAdd, Int.reduceSub, Int.reduceMul, List.append_assoc, List.length_append, get_mid, get_mid0, set_mid, set_mid0, List.length_set, List.length_cons, List.length_nil, List.cons_append, List.getElem?_append_left, List.set_append_left, get_at, get_at0, set_at, set_at0, List.getElem?_set_self, List.getElem?_set_ne, ev_len, hlr, eq2, hmin]
  generalize hn : thN k (ringL c p xs).length = n at hn3 hnl ⊢
  by_cases h0 : n = 0
  · subst h0
    simp (disch := first | assumption | omega | (simp only [List.length_cons, List.length_nil, List.length_set, List.length_append] <;> omega) | (simp only [get_mid, get_mid0, List.cons_append, List.append_assoc, List.getElem?_cons_zero, List.getElem?_cons_succ])) only [ek, ↓evW, ↓evQ, evB, evS, evL, List.map, AV.cells, List.all, AV.one, Bool.and_true, Bool.true_and, if_true, ↓thenQ_normal, ↓thenQ_exit, ↓thenQ_ret, ↓blockQ_normal, ↓blockQ_ret, ↓blockQ_exit, ↓CW_true, ↓CW_false, CW_true, CW_false, condT, condF, RQ_some, tupA_one, tupA_two, tupA_nil, Nat.reduceSub, Nat.reduceAdd, Nat.reduceMul, Nat.zero_add, Nat.add_zero, Nat.reduceLeDiff, Nat.reduceEqDiff, eqV, eqAll, fillA, and_self, and_true, true_and, Nat.le_refl, Bool.not_true, Bool.not_false, Bool.false_xor, Bool.true_xor, cond_true, cond_false, List.replicate, if_false, reduceIte, resAll, resA, ne_eq, decide_not, decide_true, decide_false, Int.reduceEq, Bool.not_true, Bool.not_false, not_true_eq_false, not_false_eq_true, cond_bool, cond_int, beq_self_eq_true, Int.reduceBEq, Bool.and_self, Bool.and_false, Bool.false_and, Bool.xor_false, Bool.xor_true, loadN_ldC, ldC_none, ldC_somes, stC_aggs, splice, storeN_stC, stC_int, stC_bool, stC_ptr, stC_nilp, stC_sl, stC_nils, getC_gcO, gcO_cells, W_draw_eq, ↓W_scope, ev_clear, evT, evF, evX, evM, ↓exitQ_normal, ↓exitQ_ret, ↓exitQ_exit, saA_self, saO_self, if_pos, if_neg, wrapI, get_concat, set_concat, Int.toNat_natCast, Int.toNat_zero, List.nil_append, Nat.mul_one, decide_eq_true, decide_eq_false, Int.reduceLE, Int.reduceLT, Int.reduceNeg, Bool.false_or, Bool.true_or, Bool.or_false, Bool.or_true, wrapU, Int.reduceAdd, Int.reduceSub, Int.reduceMul, List.append_assoc, List.length_append, get_mid, get_mid0, set_mid, set_mid0, List.length_set, List.length_cons, List.length_nil, List.cons_append, List.getElem?_append_left, List.set_append_left, get_at, get_at0, set_at, set_at0, List.getElem?_set_self, List.getElem?_set_ne, Int.ofNat_zero]
    exact ⟨.of hk01, by rw [List.take_zero]; exact Sl.nil, st, o, g1, by rw [dX, if_pos rfl]; exact hr⟩
  obtain ⟨st1, r1, _, f24, _⟩ := hr.loadE hthr
  rw [hwt] at f24
  generalize hw0 : xs.getD (wrdN c p) 0 = w at f24 hw64 hlen
  obtain ⟨st2, r2, _, f22, _⟩ := r1.storeE hthr (dW w n)
  rw [hwt] at r2
  have f24' := fun K => f24 m1 K j g1
  have f22' := fun K => f22 (m1.set j (.abs (.mem st1))) K j (List.getElem?_set_self lj1)
  have eh : IntKind.u32.wrap (w / 4294967296) = hd w := by rw [wrap32]; unfold hd; unfold W64 at hw64; omega
  have et : IntKind.u32.wrap w = tl w := wrap32 w
  have en : IntKind.u32.wrap (n : Int) = n := by rw [wrap32]; omega
  have e1 : IntKind.u32.wrap (hd w + n) = (hd w + n) % 4294967296 := wrap32 _
  have hh := hd_b hw64
  have ht := tl_b w
  have hm0 := Int.emod_nonneg (hd w + n) (b := 4294967296) (by omega)
  have hm1 := Int.emod_lt_of_pos (hd w + n) (b := 4294967296) (by omega)
  have hor := or_eq hm0 hm1 ht.1 ht.2
  have hpk : pk ((hd w + n) % 4294967296) (tl w) = dW w n := rfl
  have nj : ∀ ro L, m1[j]? ≠ some (.cells 1 ro L) := fun ro L hh => by rw [g1] at hh; cases hh
  have nj1 : ∀ ro L, (m1.set j (.abs (.mem st1)))[j]? ≠ some (.cells 1 ro L) := fun ro L hh => by rw [List.getElem?_set_self lj1] at hh; cases hh
  have hcut := fun K => si_take (k := n) (((sr.put nj (.abs (.mem st1))).put nj1 (.abs (.mem st2))).keep (Keep.app _ K)) (((nx.put nj (.abs (.mem st1))).put nj1 (.abs (.mem st2))).keep (Keep.app _ K)) hnl
  have hcut1 := fun K => (hcut K).1
  have hcut2 := fun K => (hcut K).2
  simp (disch := first | assumption | omega | (simp only [List.length_cons, List.length_nil, List.length_set, List.length_append] <;> omega) | (simp only [get_mid, get_mid0, List.cons_append, List.append_assoc, List.getElem?_cons_zero, List.getElem?_cons_succ])) only [ek, ↓evW, ↓evQ, evB, evS, evL, List.map, AV.cells, List.all, AV.one, Bool.and_true, Bool.true_and, if_true, ↓thenQ_normal, ↓thenQ_exit, ↓thenQ_ret, ↓blockQ_normal, ↓blockQ_ret, ↓blockQ_exit, ↓CW_true, ↓CW_false, CW_true, CW_false, condT, condF, RQ_some, tupA_one, tupA_two, tupA_nil, Nat.reduceSub, Nat.reduceAdd, Nat.reduceMul, Nat.zero_add, Nat.add_zero, Nat.reduceLeDiff, Nat.reduceEqDiff, eqV, eqAll, fillA, and_self, and_true, true_and, Nat.le_refl, Bool.not_true, Bool.not_false, Bool.false_xor, Bool.true_xor, cond_true, cond_false, List.replicate, if_false, reduceIte, resAll, resA, ne_eq, decide_not, decide_true, decide_false, Int.reduceEq, Bool.not_true, Bool.not_false, not_true_eq_false, not_false_eq_true, cond_bool, cond_int, beq_self_eq_true, Int.reduceBEq, Bool.and_self, Bool.and_false, Bool.false_and, Bool.xor_false, Bool.xor_true, loadN_ldC, ldC_none, ldC_somes, stC_aggs, splice, storeN_stC, stC_int, stC_bool, stC_ptr, stC_nilp, stC_sl, stC_nils, getC_gcO, gcO_cells, W_draw_eq, ↓W_scope, ev_clear, evT, evF, evX, evM, ↓exitQ_normal, ↓exitQ_ret, ↓exitQ_exit, saA_self, saO_self, if_pos, if_neg, wrapI, get_concat, set_concat, Int.toNat_natCast, Int.toNat_zero, List.nil_append, Nat.mul_one, decide_eq_true, decide_eq_false, Int.reduceLE, Int.reduceLT, Int.reduceNeg, Bool.false_or, Bool.true_or, Bool.or_false, Bool.or_true, wrapU, Int.reduceAdd, Int.reduceSub, Int.reduceMul, List.append_assoc, List.length_append, get_mid, get_mid0, set_mid, set_mid0, List.length_set, List.length_cons, List.length_nil, List.cons_append, List.getElem?_append_left, List.set_append_left, get_at, get_at0, set_at, set_at0, List.getElem?_set_self, List.getElem?_set_ne, gb, a159, hwr, a24, f24', shr_eq, eh, en, e1, shl_eq, et, hor, hpk, a22, f22', evA, hcut1]
  rw [List.set_set]
  have hl1 := hk01.1
  refine ⟨⟨by simp; omega, fun a ha hne => ?_⟩, ?_, st2, IntKind.u64.wrap (IntKind.u64.wrap (o + 1) + 1), ?_, ?_⟩
  · rw [List.getElem?_append_left (by simp; omega), List.getElem?_set_ne (fun h => hne h.symm)]; exact hk01.2 a ha
  · have := hcut2 [Chunk.cells 6 false (cfC c), .cells 7 false (cfC c ++ [.int .i64 p]), .cells 6 false (cfC c)]
    rw [List.set_set] at this
    exact this
  · rw [List.getElem?_append_left (by simp; omega), List.getElem?_set_self lj1]
  · rw [dX, if_neg h0, hw0]; exact r2
end Go.Am.F10
end
section
namespace Go.Am.F10
open Go.Am.F06
def Gold : List (Nat × AFun Ob) := [(132, pureF worksG), (133, c_docs_Made), (87, c_kit_Pick), (134, c_docs_Filled), (135, amFunc Gmem docs_Mem), (136, amFunc Gring docs_Ring), (137, c_get_New), (138, c_get_Get_Done), (139, amFunc Gthief docs_Thief), (140, amFunc Gstep get_Get_Step), (141, c_get_Get_Got), (142, c_get_Get_Tries), (84, c_kit_SameInts)]
def oldB : AC := match sqN 9 law10_GetOldest.body with | .seq _ (.block _ (.loop b)) => b | _ => .skip
def oldC : AC := match oldB with | .seq c _ => c | _ => .skip
def oldF : AC := match oldB with | .seq _ (.seq (.block _ (.seq f _)) _) => f | _ => .skip
def oldT : AC := match oldB with | .seq _ (.seq (.block _ (.seq _ r)) _) => r | _ => .skip
def oldI : AC := match oldB with | .seq _ (.seq _ i) => i | _ => .skip
def oldE : AC := sqT 10 law10_GetOldest.body
theorem oldest_body : law10_GetOldest = { nloc := 24, npar := 4, res := [.loc 5], body := .seq (sqN 0 law10_GetOldest.body) (.seq (sqN 1 law10_GetOldest.body) (.seq (sqN 2 law10_GetOldest.body) (.seq (sqN 3 law10_GetOldest.body) (.seq (sqN 4 law10_GetOldest.body) (.seq (sqN 5 law10_GetOldest.body) (.seq (sqN 6 law10_GetOldest.body) (.seq (sqN 7 law10_GetOldest.body) (.seq (sqN 8 law10_GetOldest.body) (.seq (.seq (.region [⟨.mov, [.c (.int .i64 0)], some 11, none⟩]) (.block 0 (.loop (.seq oldC (.seq (.block 1 (.seq oldF oldT)) oldI))))) oldE))))))))) } := rfl
structure OlS (M0 : MM) (c : Cf) (p : Int) (j xj : Nat) (xs : List Int) (i d g : Nat) (s : GS) (out : AV) (m : MM) : Prop where
  keep : KeepX xj j M0 m
  get : m[xj]? = some (.cells 12 false (gC c p s))
  mem : ∃ st o, m[j]? = some (.abs (.mem st)) ∧ RelM (dX c p xs d) o st
  ok : GOk c p s
  oi : OI c p xs i d g s
  own : Own M0 m 1 ((ringL c p xs).take d).length (iC ((ringL c p xs).take d)) out
def OlN (M0 : MM) (c0 c : Cf) (p : Int) (bv lv all : AV) (bb j xj : Nat) (xs : List Int) (i i' : Nat) (e : List AV) (m : MM) : Prop := ∃ (d g : Nat) (s : GS) (out y12 y13 y14 y15 y16 y17 y18 y19 y20 y21 y22 y23 : AV),
  e = [.agg (cfC c0), .int .i64 p, bv, lv, .ptr bb 0, .bool false, .ptr j 0, all, .ptr xj 0, out, .int .i64 g, .int .i64 i, y12, y13, y14, y15, y16, y17, y18, y19, y20, y21, y22, y23] ∧ OlS M0 c p j xj xs i' d g s out m
set_option maxHeartbeats 16000000 in
theorem oldT_run {M0 m : MM} {c0 c : Cf} {p : Int} {bv lv all out : AV} {bb j xj : Nat} {xs : List Int} {i d g : Nat} {s : GS} {y12 y13 y14 y15 y16 y17 y18 y19 y20 y21 y22 y23 : AV} {Q : AX → List AV → MM → Prop}
    (hp : thereP c p) (hx : OkL c xs) (hb : M0[bb]? = some (.cells 6 false (cfC c))) (hbj : bb ≠ xj ∧ bb ≠ j) (hs : OlS M0 c p j xj xs i d g s out m) (ha : s.a ≠ 0)
    (hQ1 : ∀ e m, OlN M0 c0 c p bv lv all bb j xj xs i (i + 1) e m → Q (.exit 1) e m) (hQ2 : ∀ e m, OlN M0 c0 c p bv lv all bb j xj xs i (i + 1) e m → Q .normal e m) :
    W Gold oldT Q [.agg (cfC c0), .int .i64 p, bv, lv, .ptr bb 0, .bool false, .ptr j 0, all, .ptr xj 0, out, .int .i64 g, .int .i64 i, y12, y13, y14, y15, y16, y17, y18, y19, y20, y21, y22, y23] m := by
  have a136 : assoc Gold 136 = some (amFunc Gring docs_Ring) := rfl
  have a140 : assoc Gold 140 = some (amFunc Gstep get_Get_Step) := rfl
  have a141 : assoc Gold 141 = some c_get_Get_Got := rfl
  have a84 : assoc Gold 84 = some c_kit_SameInts := rfl
  generalize Gold = G at a136 a140 a141 a84 ⊢
  have hse : c_kit_SameInts (X := Ob) = amFunc [] kit_SameInts := rfl
  obtain ⟨hk, gx, ⟨st, o, gj, hr⟩, ok, oi, own⟩ := hs
  have hle := ringL_le c p xs
  have hd := oi.dl
  have hxd := dX_ok (c := c) (p := p) hx d
  have hxj : xj ≠ j := fun h => by rw [h, gj] at gx; cases gx
  have gb := hk.get hb hbj.1 hbj.2
  have hrn := ring_run (c := c) (p := p) gj hr hxd
  rw [ring_drop hx hp hd] at hrn
  simp only [cfC] at gb hrn
  simp (disch := first | assumption | omega | (simp only [List.length_cons, List.length_nil, List.length_set, List.length_append] <;> omega) | (simp only [get_mid, get_mid0, List.cons_append, List.append_assoc, List.getElem?_cons_zero, List.getElem?_cons_succ])) only [oldT, oldB, sqN, law10_GetOldest, ek, ↓evW, ↓evQ, evB, evS, evL, List.map, AV.cells, List.all, AV.one, Bool.and_true, Bool.true_and, if_true, ↓thenQ_normal, ↓thenQ_exit, ↓thenQ_ret, ↓blockQ_normal, ↓blockQ_ret, ↓blockQ_exit, ↓CW_true, ↓CW_false, CW_true, CW_false, condT, condF, RQ_some, tupA_one, tupA_two, tupA_nil, Nat.reduceSub, Nat.reduceAdd, Nat.reduceMul, Nat.zero_add, Nat.add_zero, Nat.reduceLeDiff, Nat.reduceEqDiff, eqV, eqAll, fillA, and_self, and_true, true_and, Nat.le_refl, Bool.not_true, Bool.not_false, Bool.false_xor, Bool.true_xor, cond_true, cond_false, List.replicate, if_false, reduceIte, resAll, resA, ne_eq, decide_not, decide_true, decide_false, Int.reduceEq, Bool.not_true, Bool.not_false, not_true_eq_false, not_false_eq_true, cond_bool, cond_int, beq_self_eq_true, Int.reduceBEq, Bool.and_self, Bool.and_false, Bool.false_and, Bool.xor_false, Bool.xor_true, loadN_ldC, ldC_none, ldC_somes, stC_aggs, splice, storeN_stC, stC_int, stC_bool, stC_ptr, stC_nilp, stC_sl, stC_nils, getC_gcO, gcO_cells, W_draw_eq, ↓W_scope, ev_clear, evT, evF, evX, evM, ↓exitQ_normal, ↓exitQ_ret, ↓exitQ_exit, saA_self, saO_self, if_pos, if_neg, wrapI, get_concat, set_concat, Int.toNat_natCast, Int.toNat_zero, List.nil_append, Nat.mul_one, decide_eq_true, decide_eq_false, Int.reduceLE, Int.reduceLT, Int.reduceNeg, Bool.false_or, Bool.true_or, Bool.or_false, Bool.or_true, wrapU, Int.reduceAdd, Int.reduceSub, Int.reduceMul, List.append_assoc, List.length_append, get_mid, get_mid0, set_mid, set_mid0, List.length_set, List.length_cons, List.length_nil, List.cons_append, List.getElem?_append_left, List.set_append_left, get_at, get_at0, set_at, set_at0, List.getElem?_set_self, List.getElem?_set_ne, gb, a136]
  refine OK_fn hrn ?_
  rintro was m3 ⟨k3, sw, _, nx⟩
  have x3 := k3.get gx
  have j3 := k3.get gj
  have b3 := k3.get gb
  have own3 := own.keep fun q C _ hq => k3.get hq
  have kk3 := hk.trans (.of k3)
  clear hrn gx gj gb own k3 hk
  simp (disch := first | assumption | omega | (simp only [List.length_cons, List.length_nil, List.length_set, List.length_append] <;> omega) | (simp only [get_mid, get_mid0, List.cons_append, List.append_assoc, List.getElem?_cons_zero, List.getElem?_cons_succ])) only [ek, ↓evW, ↓evQ, evB, evS, evL, List.map, AV.cells, List.all, AV.one, Bool.and_true, Bool.true_and, if_true, ↓thenQ_normal, ↓thenQ_exit, ↓thenQ_ret, ↓blockQ_normal, ↓blockQ_ret, ↓blockQ_exit, ↓CW_true, ↓CW_false, CW_true, CW_false, condT, condF, RQ_some, tupA_one, tupA_two, tupA_nil, Nat.reduceSub, Nat.reduceAdd, Nat.reduceMul, Nat.zero_add, Nat.add_zero, Nat.reduceLeDiff, Nat.reduceEqDiff, eqV, eqAll, fillA, and_self, and_true, true_and, Nat.le_refl, Bool.not_true, Bool.not_false, Bool.false_xor, Bool.true_xor, cond_true, cond_false, List.replicate, if_false, reduceIte, resAll, resA, ne_eq, decide_not, decide_true, decide_false, Int.reduceEq, Bool.not_true, Bool.not_false, not_true_eq_false, not_false_eq_true, cond_bool, cond_int, beq_self_eq_true, Int.reduceBEq, Bool.and_self, Bool.and_false, Bool.false_and, Bool.xor_false, Bool.xor_true, loadN_ldC, ldC_none, ldC_somes, stC_aggs, splice, storeN_stC, stC_int, stC_bool, stC_ptr, stC_nilp, stC_sl, stC_nils, getC_gcO, gcO_cells, W_draw_eq, ↓W_scope, ev_clear, evT, evF, evX, evM, ↓exitQ_normal, ↓exitQ_ret, ↓exitQ_exit, saA_self, saO_self, if_pos, if_neg, wrapI, get_concat, set_concat, Int.toNat_natCast, Int.toNat_zero, List.nil_append, Nat.mul_one, decide_eq_true, decide_eq_false, Int.reduceLE, Int.reduceLT, Int.reduceNeg, Bool.false_or, Bool.true_or, Bool.or_false, Bool.or_true, wrapU, Int.reduceAdd, Int.reduceSub, Int.reduceMul, List.append_assoc, List.length_append, get_mid, get_mid0, set_mid, set_mid0, List.length_set, List.length_cons, List.length_nil, List.cons_append, List.getElem?_append_left, List.set_append_left, get_at, get_at0, set_at, set_at0, List.getElem?_set_self, List.getElem?_set_ne, a140]
  refine OK_fn (step_run x3 j3 hr ok (.inr hxd)) ?_
  rintro _ m4 ⟨k4, rfl, x4, st4, j4, r4⟩
  have ok4 := ok.step (xs := dX c p xs d) (.inr hxd)
  have hst := oi.step hx hp ha
  have hha : s.has = false := by
    cases h : s.has with
    | false => rfl
    | true => exact absurd (ok.has h) ha
  have nx3 : ∀ sz ro L, sz ≠ 12 → m3[xj]? ≠ some (.cells sz ro L) := fun sz ro L hne h => by rw [x3] at h; injection h with h; injection h with h; exact hne h.symm
  have nj3 : ∀ sz ro L, m3[j]? ≠ some (.cells sz ro L) := fun sz ro L h => by rw [j3] at h; cases h
  have own4 : Own M0 m4 1 ((ringL c p xs).take d).length (iC ((ringL c p xs).take d)) out := own3.keep fun q C _ hq => k4.get hq (fun h => nx3 1 false C (by decide) (by rw [← h]; exact hq)) (fun h => nj3 1 false C (by rw [← h]; exact hq))
  have sw4 : SI m4 true ((ringL c p xs).drop d) was := k4.sl (szj := 0) (szk := 0) (fun ro L => nx3 1 ro L (by decide)) (nj3 1) sw
  have nx4 : Nx m4 was := by
    rcases nx with h | ⟨q, o, n, l, h1, h2⟩
    · exact .inl h
    · exact .inr ⟨q, o, n, l, h1, k4.get h2 (fun h => nx3 1 false l (by decide) (by rw [← h]; exact h2)) (fun h => nj3 1 false l (by rw [← h]; exact h2))⟩
  have b4 := k4.get b3 hbj.1 hbj.2
  have kk4 := kk3.trans k4
  have hwl := sw4.len
  rw [List.length_drop] at hwl
  clear nx3 nj3 own3 sw nx kk3 k4 x3 j3 b3
  generalize stepG c p (dX c p xs d) s = sx at hst ok4 x4 r4 ⊢
  obtain ⟨s', xs'⟩ := sx
  simp only at hst ok4 x4 r4
  rcases hst with ⟨h1, rfl, oi4⟩ | ⟨h1, h2, rfl, hdl, oi4⟩ | ⟨h1, h2, hdl, h3, rfl, oi4⟩
  · have hrn := ring_run (c := c) (p := p) j4 r4 hxd
    rw [ring_drop hx hp hd] at hrn
    simp only [cfC] at hrn
    have hd1 : decide (s'.a = 0) = false := decide_eq_false h1
    simp only [hd1]
    simp (disch := first | assumption | omega | (simp only [List.length_cons, List.length_nil, List.length_set, List.length_append] <;> omega) | (simp only [get_mid, get_mid0, List.cons_append, List.append_assoc, List.getElem?_cons_zero, List.getElem?_cons_succ])) only [ek, ↓evW, ↓evQ, evB, evS, evL, List.map, AV.cells, List.all, AV.one, Bool.and_true, Bool.true_and, if_true, ↓thenQ_normal, ↓thenQ_exit, ↓thenQ_ret, ↓blockQ_normal, ↓blockQ_ret, ↓blockQ_exit, ↓CW_true, ↓CW_false, CW_true, CW_false, condT, condF, RQ_some, tupA_one, tupA_two, tupA_nil, Nat.reduceSub, Nat.reduceAdd, Nat.reduceMul, Nat.zero_add, Nat.add_zero, Nat.reduceLeDiff, Nat.reduceEqDiff, eqV, eqAll, fillA, and_self, and_true, true_and, Nat.le_refl, Bool.not_true, Bool.not_false, Bool.false_xor, Bool.true_xor, cond_true, cond_false, List.replicate, if_false, reduceIte, resAll, resA, ne_eq, decide_not, decide_true, decide_false, Int.reduceEq, Bool.not_true, Bool.not_false, not_true_eq_false, not_false_eq_true, cond_bool, cond_int, beq_self_eq_true, Int.reduceBEq, Bool.and_self, Bool.and_false, Bool.false_and, Bool.xor_false, Bool.xor_true, loadN_ldC, ldC_none, ldC_somes, stC_aggs, splice, storeN_stC, stC_int, stC_bool, stC_ptr, stC_nilp, stC_sl, stC_nils, getC_gcO, gcO_cells, W_draw_eq, ↓W_scope, ev_clear, evT, evF, evX, evM, ↓exitQ_normal, ↓exitQ_ret, ↓exitQ_exit, saA_self, saO_self, if_pos, if_neg, wrapI, get_concat, set_concat, Int.toNat_natCast, Int.toNat_zero, List.nil_append, Nat.mul_one, decide_eq_true, decide_eq_false, Int.reduceLE, Int.reduceLT, Int.reduceNeg, Bool.false_or, Bool.true_or, Bool.or_false, Bool.or_true, wrapU, Int.reduceAdd, Int.reduceSub, Int.reduceMul, List.append_assoc, List.length_append, get_mid, get_mid0, set_mid, set_mid0, List.length_set, List.length_cons, List.length_nil, List.cons_append, List.getElem?_append_left, List.set_append_left, get_at, get_at0, set_at, set_at0, List.getElem?_set_self, List.getElem?_set_ne, b4, a136]
    refine OK_fn hrn ?_
    rintro r5 m5 ⟨k5, s5, _, _⟩
    have e1 := Fn_eq (same_run s5 (sw4.keep k5) (by rw [List.length_drop]; simp only [FUEL]; omega))
    rw [← hse] at e1
    simp only [decide_true] at e1
    simp (disch := first | assumption | omega | (simp only [List.length_cons, List.length_nil, List.length_set, List.length_append] <;> omega) | (simp only [get_mid, get_mid0, List.cons_append, List.append_assoc, List.getElem?_cons_zero, List.getElem?_cons_succ])) only [ek, ↓evW, ↓evQ, evB, evS, evL, List.map, AV.cells, List.all, AV.one, Bool.and_true, Bool.true_and, if_true, ↓thenQ_normal, ↓thenQ_exit, ↓thenQ_ret, ↓blockQ_normal, ↓blockQ_ret, ↓blockQ_exit, ↓CW_true, ↓CW_false, CW_true, CW_false, condT, condF, RQ_some, tupA_one, tupA_two, tupA_nil, Nat.reduceSub, Nat.reduceAdd, Nat.reduceMul, Nat.zero_add, Nat.add_zero, Nat.reduceLeDiff, Nat.reduceEqDiff, eqV, eqAll, fillA, and_self, and_true, true_and, Nat.le_refl, Bool.not_true, Bool.not_false, Bool.false_xor, Bool.true_xor, cond_true, cond_false, List.replicate, if_false, reduceIte, resAll, resA, ne_eq, decide_not, decide_true, decide_false, Int.reduceEq, Bool.not_true, Bool.not_false, not_true_eq_false, not_false_eq_true, cond_bool, cond_int, beq_self_eq_true, Int.reduceBEq, Bool.and_self, Bool.and_false, Bool.false_and, Bool.xor_false, Bool.xor_true, loadN_ldC, ldC_none, ldC_somes, stC_aggs, splice, storeN_stC, stC_int, stC_bool, stC_ptr, stC_nilp, stC_sl, stC_nils, getC_gcO, gcO_cells, W_draw_eq, ↓W_scope, ev_clear, evT, evF, evX, evM, ↓exitQ_normal, ↓exitQ_ret, ↓exitQ_exit, saA_self, saO_self, if_pos, if_neg, wrapI, get_concat, set_concat, Int.toNat_natCast, Int.toNat_zero, List.nil_append, Nat.mul_one, decide_eq_true, decide_eq_false, Int.reduceLE, Int.reduceLT, Int.reduceNeg, Bool.false_or, Bool.true_or, Bool.or_false, Bool.or_true, wrapU, Int.reduceAdd, Int.reduceSub, Int.reduceMul, List.append_assoc, List.length_append, get_mid, get_mid0, set_mid, set_mid0, List.length_set, List.length_cons, List.length_nil, List.cons_append, List.getElem?_append_left, List.set_append_left, get_at, get_at0, set_at, set_at0, List.getElem?_set_self, List.getElem?_set_ne, a84, e1]
    exact hQ1 _ _ ⟨d, g, s', out, _, _, _, _, _, _, _, _, _, _, _, _, rfl, kk4.trans (.of k5), k5.get x4, ⟨st4, _, k5.get j4, r4⟩, ok4, oi4, own4.keep fun q C _ hq => k5.get hq⟩
  · have g141 := got_eq x4
    have hh' : s'.has = false := by rw [h2]; exact hha
    simp only [hh', Bool.false_eq_true, if_false] at g141
    have hd1 : decide (s'.a = 0) = true := decide_eq_true h1
    have hz : (ringL c p xs).length - d = 0 := by omega
    rw [hz] at hwl
    simp only [hd1]
    simp (disch := first | assumption | omega | (simp only [List.length_cons, List.length_nil, List.length_set, List.length_append] <;> omega) | (simp only [get_mid, get_mid0, List.cons_append, List.append_assoc, List.getElem?_cons_zero, List.getElem?_cons_succ])) only [ek, ↓evW, ↓evQ, evB, evS, evL, List.map, AV.cells, List.all, AV.one, Bool.and_true, Bool.true_and, if_true, ↓thenQ_normal, ↓thenQ_exit, ↓thenQ_ret, ↓blockQ_normal, ↓blockQ_ret, ↓blockQ_exit, ↓CW_true, ↓CW_false, CW_true, CW_false, condT, condF, RQ_some, tupA_one, tupA_two, tupA_nil, Nat.reduceSub, Nat.reduceAdd, Nat.reduceMul, Nat.zero_add, Nat.add_zero, Nat.reduceLeDiff, Nat.reduceEqDiff, eqV, eqAll, fillA, and_self, and_true, true_and, Nat.le_refl, Bool.not_true, Bool.not_false, Bool.false_xor, Bool.true_xor, cond_true, cond_false, List.replicate, if_false, reduceIte, resAll, resA, ne_eq, decide_not, decide_true, decide_false, Int.reduceEq, Bool.not_true, Bool.not_false, not_true_eq_false, not_false_eq_true, cond_bool, cond_int, beq_self_eq_true, Int.reduceBEq, Bool.and_self, Bool.and_false, Bool.false_and, Bool.xor_false, Bool.xor_true, loadN_ldC, ldC_none, ldC_somes, stC_aggs, splice, storeN_stC, stC_int, stC_bool, stC_ptr, stC_nilp, stC_sl, stC_nils, getC_gcO, gcO_cells, W_draw_eq, ↓W_scope, ev_clear, evT, evF, evX, evM, ↓exitQ_normal, ↓exitQ_ret, ↓exitQ_exit, saA_self, saO_self, if_pos, if_neg, wrapI, get_concat, set_concat, Int.toNat_natCast, Int.toNat_zero, List.nil_append, Nat.mul_one, decide_eq_true, decide_eq_false, Int.reduceLE, Int.reduceLT, Int.reduceNeg, Bool.false_or, Bool.true_or, Bool.or_false, Bool.or_true, wrapU, Int.reduceAdd, Int.reduceSub, Int.reduceMul, List.append_assoc, List.length_append, get_mid, get_mid0, set_mid, set_mid0, List.length_set, List.length_cons, List.length_nil, List.cons_append, List.getElem?_append_left, List.set_append_left, get_at, get_at0, set_at, set_at0, List.getElem?_set_self, List.getElem?_set_ne, a141, g141, ev_len, hwl, Int.ofNat_zero]
    exact hQ2 _ _ ⟨d, g, s', out, _, _, _, _, _, _, _, _, _, _, _, _, rfl, kk4, x4, ⟨st4, _, j4, r4⟩, ok4, oi4, own4⟩
  · have g141 := got_eq x4
    simp only [h2, if_true, h3] at g141
    have hd1 : decide (s'.a = 0) = true := decide_eq_true h1
    have hrn := ring_run (c := c) (p := p) j4 r4 (dX_ok (c := c) (p := p) hx (d + 1))
    rw [ring_drop hx hp (d := d + 1) (by omega)] at hrn
    simp only [cfC] at hrn
    have hlp : 0 < ((ringL c p xs).drop d).length := by rw [List.length_drop]; omega
    obtain ⟨q, oo, cap, ro, L, hv, v2, v3, v4, v5⟩ := sw4.val hlp
    rw [List.length_drop] at hv v4
    obtain ⟨x, hx0⟩ : ∃ x, (ringL c p xs)[d]? = some x := ⟨_, List.getElem?_eq_getElem hdl⟩
    have hxg : (ringL c p xs).getD d 0 = x := by rw [List.getD_eq_getElem?_getD, hx0]; rfl
    have v6 := v5 0 x (by rw [List.getElem?_drop, Nat.add_zero]; exact hx0)
    rw [Nat.add_zero] at v6
    rw [hxg] at g141
    simp only [hd1]
    have hdr := fun K (hK : Keep m4 K) => (si_drop (k := 1) (sw4.keep hK) (nx4.keep hK) hlp).1
    have hdr2 := fun K (hK : Keep m4 K) => (si_drop (k := 1) (sw4.keep hK) (nx4.keep hK) hlp).2
    rw [List.drop_drop] at hdr2
    subst hv
    simp (disch := first | assumption | omega | (simp only [List.length_cons, List.length_nil, List.length_set, List.length_append] <;> omega) | (simp only [get_mid, get_mid0, List.cons_append, List.append_assoc, List.getElem?_cons_zero, List.getElem?_cons_succ])) only [ek, ↓evW, ↓evQ, evB, evS, evL, List.map, AV.cells, List.all, AV.one, Bool.and_true, Bool.true_and, if_true, ↓thenQ_normal, ↓thenQ_exit, ↓thenQ_ret, ↓blockQ_normal, ↓blockQ_ret, ↓blockQ_exit, ↓CW_true, ↓CW_false, CW_true, CW_false, condT, condF, RQ_some, tupA_one, tupA_two, tupA_nil, Nat.reduceSub, Nat.reduceAdd, Nat.reduceMul, Nat.zero_add, Nat.add_zero, Nat.reduceLeDiff, Nat.reduceEqDiff, eqV, eqAll, fillA, and_self, and_true, true_and, Nat.le_refl, Bool.not_true, Bool.not_false, Bool.false_xor, Bool.true_xor, cond_true, cond_false, List.replicate, if_false, reduceIte, resAll, resA, ne_eq, decide_not, decide_true, decide_false, Int.reduceEq, Bool.not_true, Bool.not_false, not_true_eq_false, not_false_eq_true, cond_bool, cond_int, beq_self_eq_true, Int.reduceBEq, Bool.and_self, Bool.and_false, Bool.false_and, Bool.xor_false, Bool.xor_true, loadN_ldC, ldC_none, ldC_somes, stC_aggs, splice, storeN_stC, stC_int, stC_bool, stC_ptr, stC_nilp, stC_sl, stC_nils, getC_gcO, gcO_cells, W_draw_eq, ↓W_scope, ev_clear, evT, evF, evX, evM, ↓exitQ_normal, ↓exitQ_ret, ↓exitQ_exit, saA_self, saO_self, if_pos, if_neg, wrapI, get_concat, set_concat, Int.toNat_natCast, Int.toNat_zero, List.nil_append, Nat.mul_one, decide_eq_true, decide_eq_false, Int.reduceLE, Int.reduceLT, Int.reduceNeg, Bool.false_or, Bool.true_or, Bool.or_false, Bool.or_true, wrapU, Int.reduceAdd, Int.reduceSub, Int.reduceMul, List.append_assoc, List.length_append, get_mid, get_mid0, set_mid, set_mid0, List.length_set, List.length_cons, List.length_nil, List.cons_append, List.getElem?_append_left, List.set_append_left, get_at, get_at0, set_at, set_at0, List.getElem?_set_self, List.getElem?_set_ne, a141, g141, ev_len, hwl, v2, v6, b4, a136]
    refine OKT_fn hrn ?_
    rintro r5 m5 ⟨k5, s5, _, _⟩
    have e1 := Fn_eq (same_run s5 (hdr2 m5 k5) (by rw [List.length_drop]; simp only [FUEL]; omega))
    have f1 := hdr m5 k5
    have f0 := hdr m4 (.refl _)
    rw [← hse] at e1
    simp only [decide_true] at e1
    have own5 : Own M0 m5 1 ((ringL c p xs).take d).length (iC ((ringL c p xs).take d)) out := own4.keep fun q C _ hq => k5.get hq
    have x5 := k5.get x4
    have j5 := k5.get j4
    have kk5 := kk4.trans (.of k5)
    obtain ⟨out', m6, happ, ho', hl6, hpre⟩ := own_push2 own5 x (by rw [List.length_take]; omega) kk5.1
    have htake : (ringL c p xs).take d ++ [x] = (ringL c p xs).take (d + 1) := by rw [List.take_add_one, hx0]; rfl
    rw [htake] at ho'
    have hone := own5.val1
    simp only [AV.one] at hone
    simp (disch := first | assumption | omega | (simp only [List.length_cons, List.length_nil, List.length_set, List.length_append] <;> omega) | (simp only [get_mid, get_mid0, List.cons_append, List.append_assoc, List.getElem?_cons_zero, List.getElem?_cons_succ])) only [ek, ↓evW, ↓evQ, evB, evS, evL, List.map, AV.cells, List.all, AV.one, Bool.and_true, Bool.true_and, if_true, ↓thenQ_normal, ↓thenQ_exit, ↓thenQ_ret, ↓blockQ_normal, ↓blockQ_ret, ↓blockQ_exit, ↓CW_true, ↓CW_false, CW_true, CW_false, condT, condF, RQ_some, tupA_one, tupA_two, tupA_nil, Nat.reduceSub, Nat.reduceAdd, Nat.reduceMul, Nat.zero_add, Nat.add_zero, Nat.reduceLeDiff, Nat.reduceEqDiff, eqV, eqAll, fillA, and_self, and_true, true_and, Nat.le_refl, Bool.not_true, Bool.not_false, Bool.false_xor, Bool.true_xor, cond_true, cond_false, List.replicate, if_false, reduceIte, resAll, resA, ne_eq, decide_not, decide_true, decide_false, Int.reduceEq, Bool.not_true, Bool.not_false, not_true_eq_false, not_false_eq_true, cond_bool, cond_int, beq_self_eq_true, Int.reduceBEq, Bool.and_self, Bool.and_false, Bool.false_and, Bool.xor_false, Bool.xor_true, loadN_ldC, ldC_none, ldC_somes, stC_aggs, splice, storeN_stC, stC_int, stC_bool, stC_ptr, stC_nilp, stC_sl, stC_nils, getC_gcO, gcO_cells, W_draw_eq, ↓W_scope, ev_clear, evT, evF, evX, evM, ↓exitQ_normal, ↓exitQ_ret, ↓exitQ_exit, saA_self, saO_self, if_pos, if_neg, wrapI, get_concat, set_concat, Int.toNat_natCast, Int.toNat_zero, List.nil_append, Nat.mul_one, decide_eq_true, decide_eq_false, Int.reduceLE, Int.reduceLT, Int.reduceNeg, Bool.false_or, Bool.true_or, Bool.or_false, Bool.or_true, wrapU, Int.reduceAdd, Int.reduceSub, Int.reduceMul, List.append_assoc, List.length_append, get_mid, get_mid0, set_mid, set_mid0, List.length_set, List.length_cons, List.length_nil, List.cons_append, List.getElem?_append_left, List.set_append_left, get_at, get_at0, set_at, set_at0, List.getElem?_set_self, List.getElem?_set_ne, evA, Int.toNat_one, f1, f0, a84, e1, repeatL, List.flatten_cons, List.flatten_nil, happ, hone]
    have lx5 : xj < m5.length := (List.getElem?_eq_some_iff.1 x5).1
    have lj5 : j < m5.length := (List.getElem?_eq_some_iff.1 j5).1
    have hk5 := kk5.1
    refine hQ2 _ _ ⟨d + 1, g, s', out', _, _, _, _, _, _, _, _, _, _, _, _, rfl, ⟨by omega, fun a ha h1 h2 => ?_⟩, ?_, ⟨st4, _, ?_, r4⟩, ok4, oi4, ho'⟩
    · rw [hpre a (by omega) (.inr ha)]; exact kk5.2 a ha h1 h2
    · rw [hpre _ lx5 (.inl fun ys h => by rw [x5] at h; cases h)]; exact x5
    · rw [hpre _ lj5 (.inl fun ys h => by rw [j5] at h; cases h)]; exact j5
end Go.Am.F10
end
