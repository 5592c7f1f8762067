import Derived.Test.YtgfddegdjdeeoaaXG17
set_option linter.unusedSimpArgs false
set_option linter.unusedVariables false
section
namespace Go.Am.F09
open Go.Am.F06 Go.Am.F10
def Gla : List (Nat × AFun Ob) := [(184, pureF worksG), (133, F10.c_docs_Made), (87, F10.c_kit_Pick), (156, F10.c_conf_Config_Cells), (21, newF), (159, F10.c_conf_Config_Word), (22, memF storeS), (199, amFunc Gnl put_NewLay), (195, amFunc Glst put_Lay_Step), (46, memF fun s rest => (opsAsk s rest).map fun v => (v, s)), (197, amFunc Gpo put_Lay_Hands), (136, amFunc F10.Gring F10.docs_Ring), (84, F10.c_kit_SameInts)]
def OwI (M : MM) (c0 c : Cf) (p h : Int) (lv : AV) (cb : Nat) (ls : List Int) (k : Nat) (e : List AV) (m : MM) : Prop := ∃ (i : Nat) (ow z8 z9 z10 z11 z12 z13 z14 z15 : AV),
  e = [.agg (cfC c0), .int .i64 p, .int .u32 h, lv, .ptr cb 0, .bool false, ow, .int .i64 i, z8, z9, z10, z11, z12, z13, z14, z15] ∧ k = ls.length - i ∧ i ≤ ls.length ∧ ((posL (ls.take i)).length : Int) ≤ c.q ∧ Keep M m ∧ Own M m 1 (posL (ls.take i)).length (iC (posL (ls.take i))) ow
def laT : AC := sqT 6 law09_PutLayAll.body
theorem layall_body : law09_PutLayAll = { nloc := 16, npar := 4, res := [.loc 5], body := .seq (sqN 0 law09_PutLayAll.body) (.seq (sqN 1 law09_PutLayAll.body) (.seq (sqN 2 law09_PutLayAll.body) (.seq (sqN 3 law09_PutLayAll.body) (.seq (sqN 4 law09_PutLayAll.body) (.seq (sqN 5 law09_PutLayAll.body) laT))))) } := rfl
def LaI (M : MM) (c0 c : Cf) (p h : Int) (lv : AV) (cb j xj : Nat) (ow : AV) (own : List Int) (o0 : Int) (k : Nat) (e : List AV) (m : MM) : Prop := ∃ (t : Nat) (s : LS) (xs : List Int) (o : Int) (lw z7 z11 z12 z13 z14 z15 : AV),
  e = [.agg (cfC c0), .int .i64 p, .int .u32 h, lv, .ptr cb 0, .bool false, ow, z7, .ptr j 0, .ptr xj 0, .int .i64 (1 + t), z11, z12, z13, z14, z15] ∧ k = own.length + 1 - t ∧ KeepX xj j M m ∧ LM m xj c p s lw ∧ LOk c p s ∧ (∃ st, m[j]? = some (.abs (.mem st)) ∧ RelM xs o st) ∧
  ((own.length = 0 ∧ t = 0 ∧ s.ls = [] ∧ s.a ≠ 0 ∧ OkL c xs ∧ o = o0) ∨ (0 < own.length ∧ LI c p (pk h h) own t s xs))
set_option maxHeartbeats 16000000 in
theorem laT_run {m0 m : MM} {c0 c : Cf} {p h : Int} {own : List Int} {lv ow z7 z8 z9 z10 z11 z12 z13 z14 z15 : AV} {cb : Nat} (hp : thereP c p) (h0 : 0 ≤ h) (h1 : h < 4294967296) (hk0 : Keep m0 m) (gb : m[cb]? = some (.cells 6 false (cfC c))) (hown : SI m true own ow) (hq : (own.length : Int) ≤ c.q) (hpos : ∀ x, x ∈ own → 0 ≤ x ∧ x < 9223372036854775808) :
    W Gla laT (resQ [.loc 5] fun r m' => r = .bool true ∧ Keep m0 m') [.agg (cfC c0), .int .i64 p, .int .u32 h, lv, .ptr cb 0, .bool false, ow, z7, z8, z9, z10, z11, z12, z13, z14, z15] m := by
  have a184 : assoc Gla 184 = some (pureF worksG) := rfl
  have a156 : assoc Gla 156 = some F10.c_conf_Config_Cells := rfl
  have a21 : assoc Gla 21 = some newF := rfl
  have a159 : assoc Gla 159 = some F10.c_conf_Config_Word := rfl
  have a22 : assoc Gla 22 = some (memF storeS) := rfl
  have a199 : assoc Gla 199 = some (amFunc Gnl put_NewLay) := rfl
  have a195 : assoc Gla 195 = some (amFunc Glst put_Lay_Step) := rfl
  have a46 : assoc Gla 46 = some (memF fun s rest => (opsAsk s rest).map fun v => (v, s)) := rfl
  have a197 : assoc Gla 197 = some (amFunc Gpo put_Lay_Hands) := rfl
  have a136 : assoc Gla 136 = some (amFunc F10.Gring F10.docs_Ring) := rfl
  have a84 : assoc Gla 84 = some F10.c_kit_SameInts := rfl
  have hse : F10.c_kit_SameInts (X := Ob) = amFunc [] F10.kit_SameInts := rfl
  generalize Gla = G at a184 a156 a21 a159 a22 a199 a195 a46 a197 a136 a84 ⊢
  have hb := there_bounds hp
  have hcn := cellsN_le c
  obtain ⟨J, hcells⟩ := cells_eq m c
  have hnew : ∀ M : MM, newF [.int .i64 (cellsN c)] M = some (.ptr M.length 0, M ++ [.abs (.mem (newSt (cellsN c)))]) := fun M => rfl
  have hbN : bN (cellsN c : Int) = cellsN c := by unfold bN; omega
  have hr0 := RelM.new (cellsN c : Int)
  rw [hbN] at hr0
  have hwr := fun m : MM => word_run (m := m) c p
  have ha0 := addr_b hp (i := 0) (by omega) (by omega)
  have hwt : (addrA c p 0).toNat = wrdN c p := rfl
  have hthr : thr (List.replicate (cellsN c) (0 : Int)) (addrA c p 0) := ⟨by omega, by rw [List.length_replicate]; omega⟩
  obtain ⟨st1, r1, _, f22, _⟩ := hr0.storeE hthr (pk h h)
  rw [hwt] at r1
  have ho1 : IntKind.u64.wrap (0 + 1) = 1 := by decide
  rw [ho1] at r1
  have hor := or_eq h0 h1 h0 h1
  have e1 : IntKind.u64.wrap h = h := wrapU h0 (by omega)
  have e2 : IntKind.u64.wrap (h * 4294967296) = h * 4294967296 := wrapU (by omega) (by omega)
  have hwo := hown.len
  have hoone := slOne hown
  simp only [AV.one] at hoone
  -- the memory behind New
  obtain ⟨M1, hM1⟩ : ∃ M1 : MM, M1 = m ++ J := ⟨_, rfl⟩
  have kM1 : Keep m M1 := by rw [hM1]; exact .app _ _
  rw [← hM1] at hcells
  have gj : (M1 ++ [Chunk.abs (Ob.mem (newSt (cellsN c)))])[M1.length]? = some (.abs (.mem (newSt (cellsN c)))) := get_concat
  have f22' := fun K => f22 (M1 ++ [Chunk.abs (Ob.mem (newSt (cellsN c)))]) K M1.length gj
  have gb1 := kM1.get gb
  have gb2 : (M1 ++ [Chunk.abs (Ob.mem (newSt (cellsN c)))])[cb]? = some (.cells 6 false (cfC c)) := (Keep.app M1 _).get gb1
  have gb3 := fun K : MM => (Keep.app M1 K).get gb1
  clear hM1
  simp only [cfC, List.cons_append, List.nil_append] at gb hcells hwr gb1 gb2 gb3
  simp only [List.append_assoc, List.cons_append, List.nil_append] at f22'
  simp (disch := first | assumption | omega | (simp only [List.length_cons, List.length_nil, List.length_set, List.length_append] <;> omega) | (simp only [get_mid, get_mid0, List.cons_append, List.append_assoc, List.getElem?_cons_zero, List.getElem?_cons_succ])) only [laT, sqT, law09_PutLayAll, ek, ↓evW, ↓evQ, evB, evS, evL, List.map, AV.cells, List.all, AV.one, Bool.and_true, Bool.true_and, if_true, ↓thenQ_normal, ↓thenQ_exit, ↓thenQ_ret, ↓blockQ_normal, ↓blockQ_ret, ↓blockQ_exit, ↓CW_true, ↓CW_false, CW_true, CW_false, condT, condF, RQ_some, tupA_one, tupA_two, tupA_nil, Nat.reduceSub, Nat.reduceAdd, Nat.reduceMul, Nat.zero_add, Nat.add_zero, Nat.reduceLeDiff, Nat.reduceEqDiff, eqV, eqAll, fillA, and_self, and_true, true_and, Nat.le_refl, Bool.not_true, Bool.not_false, Bool.false_xor, Bool.true_xor, cond_true, cond_false, List.replicate, if_false, reduceIte, resAll, resA, ne_eq, decide_not, decide_true, decide_false, Int.reduceEq, Bool.not_true, Bool.not_false, not_true_eq_false, not_false_eq_true, cond_bool, cond_int, beq_self_eq_true, Int.reduceBEq, Bool.and_self, Bool.and_false, Bool.false_and, Bool.xor_false, Bool.xor_true, loadN_ldC, ldC_none, ldC_somes, stC_aggs, splice, storeN_stC, stC_int, stC_bool, stC_ptr, stC_nilp, stC_sl, stC_nils, getC_gcO, gcO_cells, W_draw_eq, ↓W_scope, ev_clear, evT, evF, evX, evM, ↓exitQ_normal, ↓exitQ_ret, ↓exitQ_exit, saA_self, saO_self, if_pos, if_neg, wrapI, get_concat, set_concat, Int.toNat_natCast, Int.toNat_zero, List.nil_append, Nat.mul_one, decide_eq_true, decide_eq_false, Int.reduceLE, Int.reduceLT, Int.reduceNeg, Bool.false_or, Bool.true_or, Bool.or_false, Bool.or_true, wrapU, Int.reduceAdd, Int.reduceSub, Int.reduceMul, List.append_assoc, List.length_append, get_mid, get_mid0, set_mid, set_mid0, List.length_set, List.length_cons, List.length_nil, List.cons_append, List.getElem?_append_left, List.set_append_left, get_at, get_at0, set_at, set_at0, List.getElem?_set_self, List.getElem?_set_ne, gb, a156, hcells, a21, hnew, gb2, a159, hwr, e1, shl_eq, e2, hor, a22, f22', gb3]
  have hnr := fun K : MM => newlay_run (c := c) (p := p) (hown.keep (kM1.trans (Keep.app M1 K))) (by omega)
  simp only [cfC, List.cons_append, List.nil_append] at hnr
  simp (disch := first | assumption | omega | (simp only [List.length_cons, List.length_nil, List.length_set, List.length_append] <;> omega) | (simp only [get_mid, get_mid0, List.cons_append, List.append_assoc, List.getElem?_cons_zero, List.getElem?_cons_succ])) only [ek, ↓evW, ↓evQ, evB, evS, evL, List.map, AV.cells, List.all, AV.one, Bool.and_true, Bool.true_and, if_true, ↓thenQ_normal, ↓thenQ_exit, ↓thenQ_ret, ↓blockQ_normal, ↓blockQ_ret, ↓blockQ_exit, ↓CW_true, ↓CW_false, CW_true, CW_false, condT, condF, RQ_some, tupA_one, tupA_two, tupA_nil, Nat.reduceSub, Nat.reduceAdd, Nat.reduceMul, Nat.zero_add, Nat.add_zero, Nat.reduceLeDiff, Nat.reduceEqDiff, eqV, eqAll, fillA, and_self, and_true, true_and, Nat.le_refl, Bool.not_true, Bool.not_false, Bool.false_xor, Bool.true_xor, cond_true, cond_false, List.replicate, if_false, reduceIte, resAll, resA, ne_eq, decide_not, decide_true, decide_false, Int.reduceEq, Bool.not_true, Bool.not_false, not_true_eq_false, not_false_eq_true, cond_bool, cond_int, beq_self_eq_true, Int.reduceBEq, Bool.and_self, Bool.and_false, Bool.false_and, Bool.xor_false, Bool.xor_true, loadN_ldC, ldC_none, ldC_somes, stC_aggs, splice, storeN_stC, stC_int, stC_bool, stC_ptr, stC_nilp, stC_sl, stC_nils, getC_gcO, gcO_cells, W_draw_eq, ↓W_scope, ev_clear, evT, evF, evX, evM, ↓exitQ_normal, ↓exitQ_ret, ↓exitQ_exit, saA_self, saO_self, if_pos, if_neg, wrapI, get_concat, set_concat, Int.toNat_natCast, Int.toNat_zero, List.nil_append, Nat.mul_one, decide_eq_true, decide_eq_false, Int.reduceLE, Int.reduceLT, Int.reduceNeg, Bool.false_or, Bool.true_or, Bool.or_false, Bool.or_true, wrapU, Int.reduceAdd, Int.reduceSub, Int.reduceMul, List.append_assoc, List.length_append, get_mid, get_mid0, set_mid, set_mid0, List.length_set, List.length_cons, List.length_nil, List.cons_append, List.getElem?_append_left, List.set_append_left, get_at, get_at0, set_at, set_at0, List.getElem?_set_self, List.getElem?_set_ne, a199]
  refine OK_fn (hnr _) ?_
  rintro _ m2 ⟨xj, lw, rfl, hxj, k2, hlm, _⟩
  have gj0 : (M1 ++ Chunk.abs (Ob.mem st1) :: [Chunk.cells 6 false (cfC c), .cells 7 false (cfC c ++ [AV.int .i64 p]), .cells 6 false (cfC c)])[M1.length]? = some (.abs (.mem st1)) := by rw [get_mid0]; rfl
  simp only [cfC, List.cons_append, List.nil_append] at gj0
  have gj2 := k2.get gj0
  have gbm := k2.get (gb3 _)
  have l1 := kM1.1
  have l2 := k2.1
  simp only [List.length_append, List.length_cons, List.length_nil] at hxj l2
  have hk2 : Keep m0 m2 := hk0.trans (kM1.trans ((Keep.app M1 _).trans k2))
  have hl0 := hk0.1
  have hnl : newL c p own = ⟨1, 0, 0, 0, own⟩ := by rw [newL, if_pos hp, pos_all fun x hx => by have := (hpos x hx).1; omega]
  rw [hnl] at hlm
  have hown2 : SI m2 true own ow := hown.keep (kM1.trans ((Keep.app M1 _).trans k2))
  have hx0 : OkL c ((List.replicate (cellsN c) (0 : Int)).set (wrdN c p) (pk h h)) := OkL.set (xs := List.replicate (cellsN c) 0) ⟨List.length_replicate, fun x hx => by rw [List.eq_of_mem_replicate hx]; unfold W64; omega⟩ _ (by unfold W64 pk; omega)
  have hw0 : ((List.replicate (cellsN c) (0 : Int)).set (wrdN c p) (pk h h)).getD (wrdN c p) 0 = pk h h := getD_set_self (by rw [List.length_replicate]; omega)
  have hlb : cb < m.length := (List.getElem?_eq_some_iff.1 gb).1
  have hcx : cb ≠ xj ∧ cb ≠ M1.length := ⟨by omega, by omega⟩
  have hjm : m0.length ≤ M1.length ∧ m0.length ≤ xj := ⟨by omega, by omega⟩
  have hok : LOk c p ⟨1, 0, 0, 0, own⟩ := ⟨by unfold W64; simp, .inr ⟨hp, .inl rfl⟩, by simp only; omega⟩
  clear hnr gj0 k2 gb3 gb2 gb1 f22' f22 hcells hnew gj kM1 hwr hr0 hown hnl hk0 hl0 l1 l2 gb hxj hlb hthr
  generalize M1.length = j at gj2 hcx hjm ⊢
  generalize ((List.replicate (cellsN c) (0 : Int)).set (wrdN c p) (pk h h)) = xs0 at hx0 hw0 r1
  have hnxm : ∀ ro L, m2[xj]? ≠ some (.cells 1 ro L) := fun ro L h => by rw [hlm.get] at h; cases h
  have hnjm : ∀ ro L, m2[j]? ≠ some (.cells 1 ro L) := fun ro L h => by rw [gj2] at h; cases h
  have hrn := fun {m' : MM} {xs : List Int} {o : Int} {st : MemSt} (g : m'[j]? = some (.abs (.mem st))) (r : RelM xs o st) (hx : OkL c xs) => ring_run (c := c) (p := p) g r hx
  simp only [cfC] at hrn
  simp (disch := first | assumption | omega | (simp only [List.length_cons, List.length_nil, List.length_set, List.length_append] <;> omega) | (simp only [get_mid, get_mid0, List.cons_append, List.append_assoc, List.getElem?_cons_zero, List.getElem?_cons_succ])) only [ek, ↓evW, ↓evQ, evB, evS, evL, List.map, AV.cells, List.all, AV.one, Bool.and_true, Bool.true_and, if_true, ↓thenQ_normal, ↓thenQ_exit, ↓thenQ_ret, ↓blockQ_normal, ↓blockQ_ret, ↓blockQ_exit, ↓CW_true, ↓CW_false, CW_true, CW_false, condT, condF, RQ_some, tupA_one, tupA_two, tupA_nil, Nat.reduceSub, Nat.reduceAdd, Nat.reduceMul, Nat.zero_add, Nat.add_zero, Nat.reduceLeDiff, Nat.reduceEqDiff, eqV, eqAll, fillA, and_self, and_true, true_and, Nat.le_refl, Bool.not_true, Bool.not_false, Bool.false_xor, Bool.true_xor, cond_true, cond_false, List.replicate, if_false, reduceIte, resAll, resA, ne_eq, decide_not, decide_true, decide_false, Int.reduceEq, Bool.not_true, Bool.not_false, not_true_eq_false, not_false_eq_true, cond_bool, cond_int, beq_self_eq_true, Int.reduceBEq, Bool.and_self, Bool.and_false, Bool.false_and, Bool.xor_false, Bool.xor_true, loadN_ldC, ldC_none, ldC_somes, stC_aggs, splice, storeN_stC, stC_int, stC_bool, stC_ptr, stC_nilp, stC_sl, stC_nils, getC_gcO, gcO_cells, W_draw_eq, ↓W_scope, ev_clear, evT, evF, evX, evM, ↓exitQ_normal, ↓exitQ_ret, ↓exitQ_exit, saA_self, saO_self, if_pos, if_neg, wrapI, get_concat, set_concat, Int.toNat_natCast, Int.toNat_zero, List.nil_append, Nat.mul_one, decide_eq_true, decide_eq_false, Int.reduceLE, Int.reduceLT, Int.reduceNeg, Bool.false_or, Bool.true_or, Bool.or_false, Bool.or_true, wrapU, Int.reduceAdd, Int.reduceSub, Int.reduceMul, List.append_assoc, List.length_append, get_mid, get_mid0, set_mid, set_mid0, List.length_set, List.length_cons, List.length_nil, List.cons_append, List.getElem?_append_left, List.set_append_left, get_at, get_at0, set_at, set_at0, List.getElem?_set_self, List.getElem?_set_ne]
  refine W_loop (LaI m2 c0 c p h lv cb j xj ow own 1) (own.length + 1) (by simp only [FUEL]; omega) ⟨0, ⟨1, 0, 0, 0, own⟩, xs0, 1, lw, _, _, _, _, _, _, rfl, rfl, .refl _, hlm, hok, ⟨_, gj2, r1⟩, ?_⟩ ?_
  · rcases Nat.eq_zero_or_pos own.length with h | h
    · exact .inl ⟨h, rfl, List.length_eq_zero_iff.1 h, by simp, hx0, rfl⟩
    · exact .inr ⟨h, hx0, hw0, rfl, .inl ⟨rfl, rfl⟩⟩
  rintro k e m3 ⟨t, s, xs, o, lw', y7, y11, y12, y13, y14, y15, rfl, rfl, hk3, hlm3, hok3, ⟨st, gj3, r3⟩, hV⟩
  have hO : OkL c xs := by
    rcases hV with ⟨_, _, _, _, h, _⟩ | ⟨_, h⟩
    · exact h
    · exact h.ok
  have hrun := lstep_run hlm3 gj3 r3 (.inr hO) hok3
  have ht : t ≤ own.length + 1 := by
    rcases hV with ⟨_, h, _⟩ | ⟨_, h⟩
    · omega
    · exact h.ne.2
  simp (disch := first | assumption | omega | (simp only [List.length_cons, List.length_nil, List.length_set, List.length_append] <;> omega) | (simp only [get_mid, get_mid0, List.cons_append, List.append_assoc, List.getElem?_cons_zero, List.getElem?_cons_succ])) only [ek, ↓evW, ↓evQ, evB, evS, evL, List.map, AV.cells, List.all, AV.one, Bool.and_true, Bool.true_and, if_true, ↓thenQ_normal, ↓thenQ_exit, ↓thenQ_ret, ↓blockQ_normal, ↓blockQ_ret, ↓blockQ_exit, ↓CW_true, ↓CW_false, CW_true, CW_false, condT, condF, RQ_some, tupA_one, tupA_two, tupA_nil, Nat.reduceSub, Nat.reduceAdd, Nat.reduceMul, Nat.zero_add, Nat.add_zero, Nat.reduceLeDiff, Nat.reduceEqDiff, eqV, eqAll, fillA, and_self, and_true, true_and, Nat.le_refl, Bool.not_true, Bool.not_false, Bool.false_xor, Bool.true_xor, cond_true, cond_false, List.replicate, if_false, reduceIte, resAll, resA, ne_eq, decide_not, decide_true, decide_false, Int.reduceEq, Bool.not_true, Bool.not_false, not_true_eq_false, not_false_eq_true, cond_bool, cond_int, beq_self_eq_true, Int.reduceBEq, Bool.and_self, Bool.and_false, Bool.false_and, Bool.xor_false, Bool.xor_true, loadN_ldC, ldC_none, ldC_somes, stC_aggs, splice, storeN_stC, stC_int, stC_bool, stC_ptr, stC_nilp, stC_sl, stC_nils, getC_gcO, gcO_cells, W_draw_eq, ↓W_scope, ev_clear, evT, evF, evX, evM, ↓exitQ_normal, ↓exitQ_ret, ↓exitQ_exit, saA_self, saO_self, if_pos, if_neg, wrapI, get_concat, set_concat, Int.toNat_natCast, Int.toNat_zero, List.nil_append, Nat.mul_one, decide_eq_true, decide_eq_false, Int.reduceLE, Int.reduceLT, Int.reduceNeg, Bool.false_or, Bool.true_or, Bool.or_false, Bool.or_true, wrapU, Int.reduceAdd, Int.reduceSub, Int.reduceMul, List.append_assoc, List.length_append, get_mid, get_mid0, set_mid, set_mid0, List.length_set, List.length_cons, List.length_nil, List.cons_append, List.getElem?_append_left, List.set_append_left, get_at, get_at0, set_at, set_at0, List.getElem?_set_self, List.getElem?_set_ne, a195]
  refine OK_fn hrun ?_
  rintro _ m4 ⟨rfl, k4, ⟨lw4, hlm4⟩, st4, gj4, r4⟩
  have kF := hk3.trans k4
  have gbF := kF.get gbm hcx.1 hcx.2
  have hkF : ∀ m', Keep m4 m' → Keep m0 m' := fun m' k => ⟨by have := hk2.1; have := kF.1; have := k.1; omega, fun i hi => by
    have := hk2.1
    have := kF.1
    rw [k.2 i (by omega), kF.2 i (by omega) (by omega) (by omega), hk2.2 i hi]⟩
  have hownF : SI m4 true own ow := kF.sl (szj := 0) (szk := 0) hnxm hnjm hown2
  have hops : memF (fun s rest => (opsAsk s rest).map fun v => (v, s)) [.ptr j 0] m4 = some (.int .u64 (opsL s o), m4) := by
    have := ops_of gj4
    rw [r4.ops] at this; exact this
  rcases hV with ⟨hV1, rfl, hV2, hV3, hV4, rfl⟩ | ⟨hV0, hI⟩
  · have e3 : stepL c p xs s = ({ s with a := 0 }, xs) := by simp only [stepL, if_neg hV3, hV2, List.length_nil, if_true]
    have e4 : opsL s 1 = 1 := by simp only [opsL, if_neg hV3, hV2, List.length_nil, if_true]
    rw [e4] at hops
    have ed : decide ((stepL c p xs s).1.a = 0) = true := by rw [e3]; rfl
    rw [ed]
    rw [hV1] at hwo
    simp (disch := first | assumption | omega | (simp only [List.length_cons, List.length_nil, List.length_set, List.length_append] <;> omega) | (simp only [get_mid, get_mid0, List.cons_append, List.append_assoc, List.getElem?_cons_zero, List.getElem?_cons_succ])) only [ek, ↓evW, ↓evQ, evB, evS, evL, List.map, AV.cells, List.all, AV.one, Bool.and_true, Bool.true_and, if_true, ↓thenQ_normal, ↓thenQ_exit, ↓thenQ_ret, ↓blockQ_normal, ↓blockQ_ret, ↓blockQ_exit, ↓CW_true, ↓CW_false, CW_true, CW_false, condT, condF, RQ_some, tupA_one, tupA_two, tupA_nil, Nat.reduceSub, Nat.reduceAdd, Nat.reduceMul, Nat.zero_add, Nat.add_zero, Nat.reduceLeDiff, Nat.reduceEqDiff, eqV, eqAll, fillA, and_self, and_true, true_and, Nat.le_refl, Bool.not_true, Bool.not_false, Bool.false_xor, Bool.true_xor, cond_true, cond_false, List.replicate, if_false, reduceIte, resAll, resA, ne_eq, decide_not, decide_true, decide_false, Int.reduceEq, Bool.not_true, Bool.not_false, not_true_eq_false, not_false_eq_true, cond_bool, cond_int, beq_self_eq_true, Int.reduceBEq, Bool.and_self, Bool.and_false, Bool.false_and, Bool.xor_false, Bool.xor_true, loadN_ldC, ldC_none, ldC_somes, stC_aggs, splice, storeN_stC, stC_int, stC_bool, stC_ptr, stC_nilp, stC_sl, stC_nils, getC_gcO, gcO_cells, W_draw_eq, ↓W_scope, ev_clear, evT, evF, evX, evM, ↓exitQ_normal, ↓exitQ_ret, ↓exitQ_exit, saA_self, saO_self, if_pos, if_neg, wrapI, get_concat, set_concat, Int.toNat_natCast, Int.toNat_zero, List.nil_append, Nat.mul_one, decide_eq_true, decide_eq_false, Int.reduceLE, Int.reduceLT, Int.reduceNeg, Bool.false_or, Bool.true_or, Bool.or_false, Bool.or_true, wrapU, Int.reduceAdd, Int.reduceSub, Int.reduceMul, List.append_assoc, List.length_append, get_mid, get_mid0, set_mid, set_mid0, List.length_set, List.length_cons, List.length_nil, List.cons_append, List.getElem?_append_left, List.set_append_left, get_at, get_at0, set_at, set_at0, List.getElem?_set_self, List.getElem?_set_ne, ev_len, hwo, Int.ofNat_zero, a46, hops, a184, pureF, worksG]
    exact hkF _ (.refl _)
  · have hwz : ¬ ((own.length : Int) = 0) := by omega
    rcases hI.step hp h0 h1 hV0 hq hpos with ⟨h5, h6⟩ | ⟨h5, h6, h7, h8, h9⟩
    · rw [decide_eq_false h5]
      have ht6 := h6.ne.2
      simp (disch := first | assumption | omega | (simp only [List.length_cons, List.length_nil, List.length_set, List.length_append] <;> omega) | (simp only [get_mid, get_mid0, List.cons_append, List.append_assoc, List.getElem?_cons_zero, List.getElem?_cons_succ])) only [ek, ↓evW, ↓evQ, evB, evS, evL, List.map, AV.cells, List.all, AV.one, Bool.and_true, Bool.true_and, if_true, ↓thenQ_normal, ↓thenQ_exit, ↓thenQ_ret, ↓blockQ_normal, ↓blockQ_ret, ↓blockQ_exit, ↓CW_true, ↓CW_false, CW_true, CW_false, condT, condF, RQ_some, tupA_one, tupA_two, tupA_nil, Nat.reduceSub, Nat.reduceAdd, Nat.reduceMul, Nat.zero_add, Nat.add_zero, Nat.reduceLeDiff, Nat.reduceEqDiff, eqV, eqAll, fillA, and_self, and_true, true_and, Nat.le_refl, Bool.not_true, Bool.not_false, Bool.false_xor, Bool.true_xor, cond_true, cond_false, List.replicate, if_false, reduceIte, resAll, resA, ne_eq, decide_not, decide_true, decide_false, Int.reduceEq, Bool.not_true, Bool.not_false, not_true_eq_false, not_false_eq_true, cond_bool, cond_int, beq_self_eq_true, Int.reduceBEq, Bool.and_self, Bool.and_false, Bool.false_and, Bool.xor_false, Bool.xor_true, loadN_ldC, ldC_none, ldC_somes, stC_aggs, splice, storeN_stC, stC_int, stC_bool, stC_ptr, stC_nilp, stC_sl, stC_nils, getC_gcO, gcO_cells, W_draw_eq, ↓W_scope, ev_clear, evT, evF, evX, evM, ↓exitQ_normal, ↓exitQ_ret, ↓exitQ_exit, saA_self, saO_self, if_pos, if_neg, wrapI, get_concat, set_concat, Int.toNat_natCast, Int.toNat_zero, List.nil_append, Nat.mul_one, decide_eq_true, decide_eq_false, Int.reduceLE, Int.reduceLT, Int.reduceNeg, Bool.false_or, Bool.true_or, Bool.or_false, Bool.or_true, wrapU, Int.reduceAdd, Int.reduceSub, Int.reduceMul, List.append_assoc, List.length_append, get_mid, get_mid0, set_mid, set_mid0, List.length_set, List.length_cons, List.length_nil, List.cons_append, List.getElem?_append_left, List.set_append_left, get_at, get_at0, set_at, set_at0, List.getElem?_set_self, List.getElem?_set_ne]
      exact ⟨_, by omega, t + 1, _, _, _, lw4, _, _, _, _, _, _, rfl, rfl, kF, hlm4, hok3.step (.inr hO), ⟨st4, gj4, r4⟩, .inr ⟨hV0, h6⟩⟩
    · rw [decide_eq_true h5]
      have hh := lhands_run hlm4 (by rw [h7]; simp)
      rw [h7] at hh
      subst h6
      simp (disch := first | assumption | omega | (simp only [List.length_cons, List.length_nil, List.length_set, List.length_append] <;> omega) | (simp only [get_mid, get_mid0, List.cons_append, List.append_assoc, List.getElem?_cons_zero, List.getElem?_cons_succ])) only [ek, ↓evW, ↓evQ, evB, evS, evL, List.map, AV.cells, List.all, AV.one, Bool.and_true, Bool.true_and, if_true, ↓thenQ_normal, ↓thenQ_exit, ↓thenQ_ret, ↓blockQ_normal, ↓blockQ_ret, ↓blockQ_exit, ↓CW_true, ↓CW_false, CW_true, CW_false, condT, condF, RQ_some, tupA_one, tupA_two, tupA_nil, Nat.reduceSub, Nat.reduceAdd, Nat.reduceMul, Nat.zero_add, Nat.add_zero, Nat.reduceLeDiff, Nat.reduceEqDiff, eqV, eqAll, fillA, and_self, and_true, true_and, Nat.le_refl, Bool.not_true, Bool.not_false, Bool.false_xor, Bool.true_xor, cond_true, cond_false, List.replicate, if_false, reduceIte, resAll, resA, ne_eq, decide_not, decide_true, decide_false, Int.reduceEq, Bool.not_true, Bool.not_false, not_true_eq_false, not_false_eq_true, cond_bool, cond_int, beq_self_eq_true, Int.reduceBEq, Bool.and_self, Bool.and_false, Bool.false_and, Bool.xor_false, Bool.xor_true, loadN_ldC, ldC_none, ldC_somes, stC_aggs, splice, storeN_stC, stC_int, stC_bool, stC_ptr, stC_nilp, stC_sl, stC_nils, getC_gcO, gcO_cells, W_draw_eq, ↓W_scope, ev_clear, evT, evF, evX, evM, ↓exitQ_normal, ↓exitQ_ret, ↓exitQ_exit, saA_self, saO_self, if_pos, if_neg, wrapI, get_concat, set_concat, Int.toNat_natCast, Int.toNat_zero, List.nil_append, Nat.mul_one, decide_eq_true, decide_eq_false, Int.reduceLE, Int.reduceLT, Int.reduceNeg, Bool.false_or, Bool.true_or, Bool.or_false, Bool.or_true, wrapU, Int.reduceAdd, Int.reduceSub, Int.reduceMul, List.append_assoc, List.length_append, get_mid, get_mid0, set_mid, set_mid0, List.length_set, List.length_cons, List.length_nil, List.cons_append, List.getElem?_append_left, List.set_append_left, get_at, get_at0, set_at, set_at0, List.getElem?_set_self, List.getElem?_set_ne, ev_len, hwo, hwz, a197]
      refine OK_fn hh ?_
      rintro rh m5 ⟨k5, s5, _⟩
      have l5 := s5.len
      have gb5 := k5.get gbF
      simp (disch := first | assumption | omega | (simp only [List.length_cons, List.length_nil, List.length_set, List.length_append] <;> omega) | (simp only [get_mid, get_mid0, List.cons_append, List.append_assoc, List.getElem?_cons_zero, List.getElem?_cons_succ])) only [ek, ↓evW, ↓evQ, evB, evS, evL, List.map, AV.cells, List.all, AV.one, Bool.and_true, Bool.true_and, if_true, ↓thenQ_normal, ↓thenQ_exit, ↓thenQ_ret, ↓blockQ_normal, ↓blockQ_ret, ↓blockQ_exit, ↓CW_true, ↓CW_false, CW_true, CW_false, condT, condF, RQ_some, tupA_one, tupA_two, tupA_nil, Nat.reduceSub, Nat.reduceAdd, Nat.reduceMul, Nat.zero_add, Nat.add_zero, Nat.reduceLeDiff, Nat.reduceEqDiff, eqV, eqAll, fillA, and_self, and_true, true_and, Nat.le_refl, Bool.not_true, Bool.not_false, Bool.false_xor, Bool.true_xor, cond_true, cond_false, List.replicate, if_false, reduceIte, resAll, resA, ne_eq, decide_not, decide_true, decide_false, Int.reduceEq, Bool.not_true, Bool.not_false, not_true_eq_false, not_false_eq_true, cond_bool, cond_int, beq_self_eq_true, Int.reduceBEq, Bool.and_self, Bool.and_false, Bool.false_and, Bool.xor_false, Bool.xor_true, loadN_ldC, ldC_none, ldC_somes, stC_aggs, splice, storeN_stC, stC_int, stC_bool, stC_ptr, stC_nilp, stC_sl, stC_nils, getC_gcO, gcO_cells, W_draw_eq, ↓W_scope, ev_clear, evT, evF, evX, evM, ↓exitQ_normal, ↓exitQ_ret, ↓exitQ_exit, saA_self, saO_self, if_pos, if_neg, wrapI, get_concat, set_concat, Int.toNat_natCast, Int.toNat_zero, List.nil_append, Nat.mul_one, decide_eq_true, decide_eq_false, Int.reduceLE, Int.reduceLT, Int.reduceNeg, Bool.false_or, Bool.true_or, Bool.or_false, Bool.or_true, wrapU, Int.reduceAdd, Int.reduceSub, Int.reduceMul, List.append_assoc, List.length_append, get_mid, get_mid0, set_mid, set_mid0, List.length_set, List.length_cons, List.length_nil, List.cons_append, List.getElem?_append_left, List.set_append_left, get_at, get_at0, set_at, set_at0, List.getElem?_set_self, List.getElem?_set_ne, ev_len, l5, gb5, a136]
      refine OK_fn (hrn (k5.get gj4) r4 h8) ?_
      rintro now m6 ⟨k6, s6, _, _, _⟩
      rw [h9] at s6
      have e9 := Fn_eq (same_run s6 (hownF.keep (k5.trans k6)) (by simp only [FUEL]; omega))
      rw [← hse] at e9
      simp (disch := first | assumption | omega | (simp only [List.length_cons, List.length_nil, List.length_set, List.length_append] <;> omega) | (simp only [get_mid, get_mid0, List.cons_append, List.append_assoc, List.getElem?_cons_zero, List.getElem?_cons_succ])) only [ek, ↓evW, ↓evQ, evB, evS, evL, List.map, AV.cells, List.all, AV.one, Bool.and_true, Bool.true_and, if_true, ↓thenQ_normal, ↓thenQ_exit, ↓thenQ_ret, ↓blockQ_normal, ↓blockQ_ret, ↓blockQ_exit, ↓CW_true, ↓CW_false, CW_true, CW_false, condT, condF, RQ_some, tupA_one, tupA_two, tupA_nil, Nat.reduceSub, Nat.reduceAdd, Nat.reduceMul, Nat.zero_add, Nat.add_zero, Nat.reduceLeDiff, Nat.reduceEqDiff, eqV, eqAll, fillA, and_self, and_true, true_and, Nat.le_refl, Bool.not_true, Bool.not_false, Bool.false_xor, Bool.true_xor, cond_true, cond_false, List.replicate, if_false, reduceIte, resAll, resA, ne_eq, decide_not, decide_true, decide_false, Int.reduceEq, Bool.not_true, Bool.not_false, not_true_eq_false, not_false_eq_true, cond_bool, cond_int, beq_self_eq_true, Int.reduceBEq, Bool.and_self, Bool.and_false, Bool.false_and, Bool.xor_false, Bool.xor_true, loadN_ldC, ldC_none, ldC_somes, stC_aggs, splice, storeN_stC, stC_int, stC_bool, stC_ptr, stC_nilp, stC_sl, stC_nils, getC_gcO, gcO_cells, W_draw_eq, ↓W_scope, ev_clear, evT, evF, evX, evM, ↓exitQ_normal, ↓exitQ_ret, ↓exitQ_exit, saA_self, saO_self, if_pos, if_neg, wrapI, get_concat, set_concat, Int.toNat_natCast, Int.toNat_zero, List.nil_append, Nat.mul_one, decide_eq_true, decide_eq_false, Int.reduceLE, Int.reduceLT, Int.reduceNeg, Bool.false_or, Bool.true_or, Bool.or_false, Bool.or_true, wrapU, Int.reduceAdd, Int.reduceSub, Int.reduceMul, List.append_assoc, List.length_append, get_mid, get_mid0, set_mid, set_mid0, List.length_set, List.length_cons, List.length_nil, List.cons_append, List.getElem?_append_left, List.set_append_left, get_at, get_at0, set_at, set_at0, List.getElem?_set_self, List.getElem?_set_ne, a84, e9, a184, pureF, worksG]
      exact hkF _ (k5.trans k6)
set_option maxHeartbeats 16000000 in
theorem layall_run {m0 : MM} {c0 : Cf} {p0 h : Int} {ls : List Int} {lv : AV} (hL : SI m0 false ls lv) (hlb : ∀ x, x ∈ ls → x < 9223372036854775808) (h0 : 0 ≤ h) (h1 : h < 4294967296) :
    Fn Gla law09_PutLayAll [.agg (cfC c0), .int .i64 p0, .int .u32 h, lv] m0 (fun r m' => r = .bool true ∧ Keep m0 m') := by
  have a184 : assoc Gla 184 = some (pureF worksG) := rfl
  have a133 : assoc Gla 133 = some F10.c_docs_Made := rfl
  have a87 : assoc Gla 87 = some F10.c_kit_Pick := rfl
  rw [layall_body]
  have hlenl := hL.len
  refine Fn_of rfl ?_
  by_cases h2 : 70 < ls.length
  · simp (disch := first | assumption | omega | (simp only [List.length_cons, List.length_nil, List.length_set, List.length_append] <;> omega) | (simp only [get_mid, get_mid0, List.cons_append, List.append_assoc, List.getElem?_cons_zero, List.getElem?_cons_succ])) only [sqN, law09_PutLayAll, ek, ↓evW, ↓evQ, evB, evS, evL, List.map, AV.cells, List.all, AV.one, Bool.and_true, Bool.true_and, if_true, ↓thenQ_normal, ↓thenQ_exit, ↓thenQ_ret, ↓blockQ_normal, ↓blockQ_ret, ↓blockQ_exit, ↓CW_true, ↓CW_false, CW_true, CW_false, condT, condF, RQ_some, tupA_one, tupA_two, tupA_nil, Nat.reduceSub, Nat.reduceAdd, Nat.reduceMul, Nat.zero_add, Nat.add_zero, Nat.reduceLeDiff, Nat.reduceEqDiff, eqV, eqAll, fillA, and_self, and_true, true_and, Nat.le_refl, Bool.not_true, Bool.not_false, Bool.false_xor, Bool.true_xor, cond_true, cond_false, List.replicate, if_false, reduceIte, resAll, resA, ne_eq, decide_not, decide_true, decide_false, Int.reduceEq, Bool.not_true, Bool.not_false, not_true_eq_false, not_false_eq_true, cond_bool, cond_int, beq_self_eq_true, Int.reduceBEq, Bool.and_self, Bool.and_false, Bool.false_and, Bool.xor_false, Bool.xor_true, loadN_ldC, ldC_none, ldC_somes, stC_aggs, splice, storeN_stC, stC_int, stC_bool, stC_ptr, stC_nilp, stC_sl, stC_nils, getC_gcO, gcO_cells, W_draw_eq, ↓W_scope, ev_clear, evT, evF, evX, evM, ↓exitQ_normal, ↓exitQ_ret, ↓exitQ_exit, saA_self, saO_self, if_pos, if_neg, wrapI, get_concat, set_concat, Int.toNat_natCast, Int.toNat_zero, List.nil_append, Nat.mul_one, decide_eq_true, decide_eq_false, Int.reduceLE, Int.reduceLT, Int.reduceNeg, Bool.false_or, Bool.true_or, Bool.or_false, Bool.or_true, wrapU, Int.reduceAdd, Int.reduceSub, Int.reduceMul, List.append_assoc, List.length_append, get_mid, get_mid0, set_mid, set_mid0, List.length_set, List.length_cons, List.length_nil, List.cons_append, List.getElem?_append_left, List.set_append_left, get_at, get_at0, set_at, set_at0, List.getElem?_set_self, List.getElem?_set_ne, cfC, ev_len, hlenl, a184, pureF, worksG]
    exact .app _ _
  have fmade := fun m : MM => made_eq m c0
  have hri := made_right c0
  generalize madeC c0 = c at fmade hri
  have hp : thereP c (p0 % c.n) := by
    have := hri.1
    exact ⟨hri, Int.emod_nonneg _ (by omega), Int.emod_lt_of_pos _ (by omega)⟩
  have hbn := hri.1
  have fpick := fun m : MM => F10.pick_eq m p0 c.n (by omega) (by omega)
  generalize p0 % c.n = p at hp fpick
  have hb8 := there_bounds hp
  simp only [cfC, List.cons_append, List.nil_append] at fmade
  simp (disch := first | assumption | omega | (simp only [List.length_cons, List.length_nil, List.length_set, List.length_append] <;> omega) | (simp only [get_mid, get_mid0, List.cons_append, List.append_assoc, List.getElem?_cons_zero, List.getElem?_cons_succ])) only [sqN, law09_PutLayAll, ek, ↓evW, ↓evQ, evB, evS, evL, List.map, AV.cells, List.all, AV.one, Bool.and_true, Bool.true_and, if_true, ↓thenQ_normal, ↓thenQ_exit, ↓thenQ_ret, ↓blockQ_normal, ↓blockQ_ret, ↓blockQ_exit, ↓CW_true, ↓CW_false, CW_true, CW_false, condT, condF, RQ_some, tupA_one, tupA_two, tupA_nil, Nat.reduceSub, Nat.reduceAdd, Nat.reduceMul, Nat.zero_add, Nat.add_zero, Nat.reduceLeDiff, Nat.reduceEqDiff, eqV, eqAll, fillA, and_self, and_true, true_and, Nat.le_refl, Bool.not_true, Bool.not_false, Bool.false_xor, Bool.true_xor, cond_true, cond_false, List.replicate, if_false, reduceIte, resAll, resA, ne_eq, decide_not, decide_true, decide_false, Int.reduceEq, Bool.not_true, Bool.not_false, not_true_eq_false, not_false_eq_true, cond_bool, cond_int, beq_self_eq_true, Int.reduceBEq, Bool.and_self, Bool.and_false, Bool.false_and, Bool.xor_false, Bool.xor_true, loadN_ldC, ldC_none, ldC_somes, stC_aggs, splice, storeN_stC, stC_int, stC_bool, stC_ptr, stC_nilp, stC_sl, stC_nils, getC_gcO, gcO_cells, W_draw_eq, ↓W_scope, ev_clear, evT, evF, evX, evM, ↓exitQ_normal, ↓exitQ_ret, ↓exitQ_exit, saA_self, saO_self, if_pos, if_neg, wrapI, get_concat, set_concat, Int.toNat_natCast, Int.toNat_zero, List.nil_append, Nat.mul_one, decide_eq_true, decide_eq_false, Int.reduceLE, Int.reduceLT, Int.reduceNeg, Bool.false_or, Bool.true_or, Bool.or_false, Bool.or_true, wrapU, Int.reduceAdd, Int.reduceSub, Int.reduceMul, List.append_assoc, List.length_append, get_mid, get_mid0, set_mid, set_mid0, List.length_set, List.length_cons, List.length_nil, List.cons_append, List.getElem?_append_left, List.set_append_left, get_at, get_at0, set_at, set_at0, List.getElem?_set_self, List.getElem?_set_ne, cfC, ev_len, hlenl, a133, fmade, a87, fpick]
  have hkA : Keep m0 (m0 ++ [Chunk.cells 6 false (cfC c), .cells 6 false (cfC c0), .cells 6 false (cfC c)]) := .app _ _
  have gb0 : (m0 ++ [Chunk.cells 6 false (cfC c), .cells 6 false (cfC c0), .cells 6 false (cfC c)])[m0.length]? = some (Chunk.cells 6 false (cfC c)) := by rw [get_mid0]; rfl
  have hLA := hL.keep hkA
  generalize hM : m0 ++ [Chunk.cells 6 false (cfC c), .cells 6 false (cfC c0), .cells 6 false (cfC c)] = M at hkA gb0 hLA
  simp only [cfC] at hM gb0
  rw [hM]
  clear hM fmade fpick
  refine W_loop (OwI M c0 c p h lv m0.length ls) ls.length (by simp only [FUEL]; omega) ⟨0, .nils, _, _, _, _, _, _, _, _, rfl, rfl, by omega, by simp [posL]; omega, .refl _, own_nil⟩ ?_
  rintro k e m ⟨i, ow, z8, z9, z10, z11, z12, z13, z14, z15, rfl, rfl, hi, hpl, hk, hown⟩
  have gb := hk.get gb0
  have hol := hown.si.1.len
  have hpl2 := pos_len (ls.take i)
  rw [List.length_take] at hpl2
  have hfin : ∀ y8 y9 y10 y11 y12 y13 y14 y15 : AV, W Gla laT (resQ [.loc 5] fun r m' => r = .bool true ∧ Keep m0 m') [.agg (cfC c0), .int .i64 p, .int .u32 h, lv, .ptr m0.length 0, .bool false, ow, .int .i64 i, y8, y9, y10, y11, y12, y13, y14, y15] m := fun y8 y9 y10 y11 y12 y13 y14 y15 =>
    laT_run hp h0 h1 (hkA.trans hk) gb hown.si.1 hpl fun x hx => by
      rw [posL, List.mem_filter] at hx
      have := hx.2
      simp only [decide_eq_true_eq] at this
      exact ⟨by omega, hlb x (List.mem_of_mem_take hx.1)⟩
  by_cases hil : i < ls.length
  · by_cases hpq : ((posL (ls.take i)).length : Int) < c.q
    · obtain ⟨x, hx⟩ : ∃ x, ls[i]? = some x := ⟨_, List.getElem?_eq_getElem hil⟩
      obtain ⟨q, oo, cap, ro, L, rfl, b2, b3, b4, b5⟩ := SI.val (hLA.keep hk) (by omega)
      have b6 := b5 i x hx
      have hsn := pos_snoc hx
      clear hfin
      by_cases hx0 : x < 0
      · rw [if_pos hx0] at hsn
        have hge : decide (0 ≤ x) = false := decide_eq_false (by omega)
        simp (disch := first | assumption | omega | (simp only [List.length_cons, List.length_nil, List.length_set, List.length_append] <;> omega) | (simp only [get_mid, get_mid0, List.cons_append, List.append_assoc, List.getElem?_cons_zero, List.getElem?_cons_succ])) only [ek, ↓evW, ↓evQ, evB, evS, evL, List.map, AV.cells, List.all, AV.one, Bool.and_true, Bool.true_and, if_true, ↓thenQ_normal, ↓thenQ_exit, ↓thenQ_ret, ↓blockQ_normal, ↓blockQ_ret, ↓blockQ_exit, ↓CW_true, ↓CW_false, CW_true, CW_false, condT, condF, RQ_some, tupA_one, tupA_two, tupA_nil, Nat.reduceSub, Nat.reduceAdd, Nat.reduceMul, Nat.zero_add, Nat.add_zero, Nat.reduceLeDiff, Nat.reduceEqDiff, eqV, eqAll, fillA, and_self, and_true, true_and, Nat.le_refl, Bool.not_true, Bool.not_false, Bool.false_xor, Bool.true_xor, cond_true, cond_false, List.replicate, if_false, reduceIte, resAll, resA, ne_eq, decide_not, decide_true, decide_false, Int.reduceEq, Bool.not_true, Bool.not_false, not_true_eq_false, not_false_eq_true, cond_bool, cond_int, beq_self_eq_true, Int.reduceBEq, Bool.and_self, Bool.and_false, Bool.false_and, Bool.xor_false, Bool.xor_true, loadN_ldC, ldC_none, ldC_somes, stC_aggs, splice, storeN_stC, stC_int, stC_bool, stC_ptr, stC_nilp, stC_sl, stC_nils, getC_gcO, gcO_cells, W_draw_eq, ↓W_scope, ev_clear, evT, evF, evX, evM, ↓exitQ_normal, ↓exitQ_ret, ↓exitQ_exit, saA_self, saO_self, if_pos, if_neg, wrapI, get_concat, set_concat, Int.toNat_natCast, Int.toNat_zero, List.nil_append, Nat.mul_one, decide_eq_true, decide_eq_false, Int.reduceLE, Int.reduceLT, Int.reduceNeg, Bool.false_or, Bool.true_or, Bool.or_false, Bool.or_true, wrapU, Int.reduceAdd, Int.reduceSub, Int.reduceMul, List.append_assoc, List.length_append, get_mid, get_mid0, set_mid, set_mid0, List.length_set, List.length_cons, List.length_nil, List.cons_append, List.getElem?_append_left, List.set_append_left, get_at, get_at0, set_at, set_at0, List.getElem?_set_self, List.getElem?_set_ne, ev_len, hlenl, hol, gb, b2, b6, hge]
        exact ⟨_, by omega, i + 1, ow, _, _, _, _, _, _, _, _, rfl, rfl, by omega, by rw [hsn]; exact hpl, hk, by rw [hsn]; exact hown⟩
      · rw [if_neg hx0] at hsn
        have hge : decide (0 ≤ x) = true := decide_eq_true (by omega)
        have hpush := own_push2 hown x (by omega) hk.1
        have hone := hown.val1
        simp only [AV.one] at hone
        obtain ⟨ow', m2, hap, how, hl2, hs2⟩ := hpush
        simp (disch := first | assumption | omega | (simp only [List.length_cons, List.length_nil, List.length_set, List.length_append] <;> omega) | (simp only [get_mid, get_mid0, List.cons_append, List.append_assoc, List.getElem?_cons_zero, List.getElem?_cons_succ])) only [ek, ↓evW, ↓evQ, evB, evS, evL, List.map, AV.cells, List.all, AV.one, Bool.and_true, Bool.true_and, if_true, ↓thenQ_normal, ↓thenQ_exit, ↓thenQ_ret, ↓blockQ_normal, ↓blockQ_ret, ↓blockQ_exit, ↓CW_true, ↓CW_false, CW_true, CW_false, condT, condF, RQ_some, tupA_one, tupA_two, tupA_nil, Nat.reduceSub, Nat.reduceAdd, Nat.reduceMul, Nat.zero_add, Nat.add_zero, Nat.reduceLeDiff, Nat.reduceEqDiff, eqV, eqAll, fillA, and_self, and_true, true_and, Nat.le_refl, Bool.not_true, Bool.not_false, Bool.false_xor, Bool.true_xor, cond_true, cond_false, List.replicate, if_false, reduceIte, resAll, resA, ne_eq, decide_not, decide_true, decide_false, Int.reduceEq, Bool.not_true, Bool.not_false, not_true_eq_false, not_false_eq_true, cond_bool, cond_int, beq_self_eq_true, Int.reduceBEq, Bool.and_self, Bool.and_false, Bool.false_and, Bool.xor_false, Bool.xor_true, loadN_ldC, ldC_none, ldC_somes, stC_aggs, splice, storeN_stC, stC_int, stC_bool, stC_ptr, stC_nilp, stC_sl, stC_nils, getC_gcO, gcO_cells, W_draw_eq, ↓W_scope, ev_clear, evT, evF, evX, evM, ↓exitQ_normal, ↓exitQ_ret, ↓exitQ_exit, saA_self, saO_self, if_pos, if_neg, wrapI, get_concat, set_concat, Int.toNat_natCast, Int.toNat_zero, List.nil_append, Nat.mul_one, decide_eq_true, decide_eq_false, Int.reduceLE, Int.reduceLT, Int.reduceNeg, Bool.false_or, Bool.true_or, Bool.or_false, Bool.or_true, wrapU, Int.reduceAdd, Int.reduceSub, Int.reduceMul, List.append_assoc, List.length_append, get_mid, get_mid0, set_mid, set_mid0, List.length_set, List.length_cons, List.length_nil, List.cons_append, List.getElem?_append_left, List.set_append_left, get_at, get_at0, set_at, set_at0, List.getElem?_set_self, List.getElem?_set_ne, ev_len, hlenl, hol, gb, b2, b6, hge, evA, repeatL, List.flatten_cons, List.flatten_nil, hap, hone]
        exact ⟨_, by omega, i + 1, ow', _, _, _, _, _, _, _, _, rfl, rfl, by omega, by rw [hsn, List.length_append, List.length_singleton]; omega, ⟨by have := hk.1; omega, fun k hkl => by rw [hs2 k (by have := hk.1; omega) (.inr hkl), hk.2 k hkl]⟩, by rw [hsn]; exact how⟩
    · simp (disch := first | assumption | omega | (simp only [List.length_cons, List.length_nil, List.length_set, List.length_append] <;> omega) | (simp only [get_mid, get_mid0, List.cons_append, List.append_assoc, List.getElem?_cons_zero, List.getElem?_cons_succ])) only [ek, ↓evW, ↓evQ, evB, evS, evL, List.map, AV.cells, List.all, AV.one, Bool.and_true, Bool.true_and, if_true, ↓thenQ_normal, ↓thenQ_exit, ↓thenQ_ret, ↓blockQ_normal, ↓blockQ_ret, ↓blockQ_exit, ↓CW_true, ↓CW_false, CW_true, CW_false, condT, condF, RQ_some, tupA_one, tupA_two, tupA_nil, Nat.reduceSub, Nat.reduceAdd, Nat.reduceMul, Nat.zero_add, Nat.add_zero, Nat.reduceLeDiff, Nat.reduceEqDiff, eqV, eqAll, fillA, and_self, and_true, true_and, Nat.le_refl, Bool.not_true, Bool.not_false, Bool.false_xor, Bool.true_xor, cond_true, cond_false, List.replicate, if_false, reduceIte, resAll, resA, ne_eq, decide_not, decide_true, decide_false, Int.reduceEq, Bool.not_true, Bool.not_false, not_true_eq_false, not_false_eq_true, cond_bool, cond_int, beq_self_eq_true, Int.reduceBEq, Bool.and_self, Bool.and_false, Bool.false_and, Bool.xor_false, Bool.xor_true, loadN_ldC, ldC_none, ldC_somes, stC_aggs, splice, storeN_stC, stC_int, stC_bool, stC_ptr, stC_nilp, stC_sl, stC_nils, getC_gcO, gcO_cells, W_draw_eq, ↓W_scope, ev_clear, evT, evF, evX, evM, ↓exitQ_normal, ↓exitQ_ret, ↓exitQ_exit, saA_self, saO_self, if_pos, if_neg, wrapI, get_concat, set_concat, Int.toNat_natCast, Int.toNat_zero, List.nil_append, Nat.mul_one, decide_eq_true, decide_eq_false, Int.reduceLE, Int.reduceLT, Int.reduceNeg, Bool.false_or, Bool.true_or, Bool.or_false, Bool.or_true, wrapU, Int.reduceAdd, Int.reduceSub, Int.reduceMul, List.append_assoc, List.length_append, get_mid, get_mid0, set_mid, set_mid0, List.length_set, List.length_cons, List.length_nil, List.cons_append, List.getElem?_append_left, List.set_append_left, get_at, get_at0, set_at, set_at0, List.getElem?_set_self, List.getElem?_set_ne, ev_len, hlenl, hol, gb]
      exact hfin _ _ _ _ _ _ _ _
  · simp (disch := first | assumption | omega | (simp only [List.length_cons, List.length_nil, List.length_set, List.length_append] <;> omega) | (simp only [get_mid, get_mid0, List.cons_append, List.append_assoc, List.getElem?_cons_zero, List.getElem?_cons_succ])) only [ek, ↓evW, ↓evQ, evB, evS, evL, List.map, AV.cells, List.all, AV.one, Bool.and_true, Bool.true_and, if_true, ↓thenQ_normal, ↓thenQ_exit, ↓thenQ_ret, ↓blockQ_normal, ↓blockQ_ret, ↓blockQ_exit, ↓CW_true, ↓CW_false, CW_true, CW_false, condT, condF, RQ_some, tupA_one, tupA_two, tupA_nil, Nat.reduceSub, Nat.reduceAdd, Nat.reduceMul, Nat.zero_add, Nat.add_zero, Nat.reduceLeDiff, Nat.reduceEqDiff, eqV, eqAll, fillA, and_self, and_true, true_and, Nat.le_refl, Bool.not_true, Bool.not_false, Bool.false_xor, Bool.true_xor, cond_true, cond_false, List.replicate, if_false, reduceIte, resAll, resA, ne_eq, decide_not, decide_true, decide_false, Int.reduceEq, Bool.not_true, Bool.not_false, not_true_eq_false, not_false_eq_true, cond_bool, cond_int, beq_self_eq_true, Int.reduceBEq, Bool.and_self, Bool.and_false, Bool.false_and, Bool.xor_false, Bool.xor_true, loadN_ldC, ldC_none, ldC_somes, stC_aggs, splice, storeN_stC, stC_int, stC_bool, stC_ptr, stC_nilp, stC_sl, stC_nils, getC_gcO, gcO_cells, W_draw_eq, ↓W_scope, ev_clear, evT, evF, evX, evM, ↓exitQ_normal, ↓exitQ_ret, ↓exitQ_exit, saA_self, saO_self, if_pos, if_neg, wrapI, get_concat, set_concat, Int.toNat_natCast, Int.toNat_zero, List.nil_append, Nat.mul_one, decide_eq_true, decide_eq_false, Int.reduceLE, Int.reduceLT, Int.reduceNeg, Bool.false_or, Bool.true_or, Bool.or_false, Bool.or_true, wrapU, Int.reduceAdd, Int.reduceSub, Int.reduceMul, List.append_assoc, List.length_append, get_mid, get_mid0, set_mid, set_mid0, List.length_set, List.length_cons, List.length_nil, List.cons_append, List.getElem?_append_left, List.set_append_left, get_at, get_at0, set_at, set_at0, List.getElem?_set_self, List.getElem?_set_ne, ev_len, hlenl, hol, gb]
    exact hfin _ _ _ _ _ _ _ _
theorem flat_int (ws : List {z : Int // z < 9223372036854775808}) : ws.flatMap (fun x => [AV.int .i64 x.1]) = iC (ws.map Subtype.val) := by
  induction ws with
  | nil => rfl
  | cons a ws ih => rw [List.flatMap_cons, ih]; rfl
theorem int_arg {X : Type} {m : Mem X} {i len cap : Nat} (hl : 0 < len → ∃ l, m[i]? = some (.cells 1 true l) ∧ l.length = len * 1 ∧ ∀ k, k < len → ∃ z : Int, (l.drop (k * 1)).take 1 = [.int .i64 z] ∧ z < 9223372036854775808) :
    ∃ xs : List Int, SI m false xs (.sl i 0 len (some cap)) ∧ ∀ x, x ∈ xs → x < 9223372036854775808 := by
  obtain ⟨ws, h⟩ := rows_arg (f := fun x : {z : Int // z < 9223372036854775808} => [AV.int .i64 x.1]) (sz := 1) (m := m) (i := i) (len := len) (cap := cap) (fun _ => rfl) (fun h0 => by
    obtain ⟨l, h1, h2, h3⟩ := hl h0
    exact ⟨l, h1, h2, fun k hk => by obtain ⟨z, e, b⟩ := h3 k hk; exact ⟨⟨z, b⟩, e⟩⟩)
  rw [flat_int] at h
  refine ⟨ws.map Subtype.val, by show Sl m false _ (ws.map Subtype.val).length _ _; rw [List.length_map]; exact h, fun x hx => ?_⟩
  obtain ⟨a, _, rfl⟩ := List.mem_map.1 hx
  exact a.2
end Go.Am.F09
end
