import Derived.Test.YtmgahjccidmlaaaXG20
set_option linter.unusedSimpArgs false
set_option linter.unusedVariables false
section
namespace Go.Am.F11
open Go.Am.F06 Go.Am.F10 Go.Am.F09
def Grs : List (Nat × AFun Ob) := [(197, amFunc Gpo put_Lay_Hands)]
theorem rest_run {m : MM} {lb : Nat} {c : Cf} {p : Int} {s : LS} {lv : AV} (hx : LM m lb c p s lv) (hl : s.ls.length ≤ 100000) : Fn Grs steal_rest_Rest [.agg [.ptr lb 0]] m (ClP m s.ls) := by
  have a197 : assoc Grs 197 = some (amFunc Gpo put_Lay_Hands) := rfl
  generalize Grs = G at a197 ⊢
  have k1 := Keep.app m [Chunk.cells 1 false [.ptr lb 0]]
  have hx1 : LM (m ++ [Chunk.cells 1 false [.ptr lb 0]]) lb c p s lv := ⟨k1.get hx.get, hx.l.keep k1, fun h => (hx.nx h).keep k1⟩
  refine Fn_of rfl ?_
  simp (disch := first | assumption | omega | (simp only [zl] <;> omega) | (simp only [zn])) only [steal_rest_Rest, ↓zd, zk, Nat.reduceSub, Nat.reduceAdd, Nat.reduceMul, Nat.reduceLeDiff, Nat.reduceEqDiff, reduceIte, Int.reduceEq, Int.reduceBEq, Int.reduceLE, Int.reduceLT, Int.reduceNeg, Int.reduceAdd, Int.reduceSub, Int.reduceMul, List.map, AV.cells, List.all, AV.one, eqV, eqAll, splice, fillA, List.replicate, resAll, resA, zm, zg, a197]
  refine OK_fn (lhands_run hx1 hl) ?_
  rintro r m1 ⟨k2, s2, f2⟩
  simp (disch := first | assumption | omega | (simp only [zl] <;> omega) | (simp only [zn])) only [↓zd, zk, Nat.reduceSub, Nat.reduceAdd, Nat.reduceMul, Nat.reduceLeDiff, Nat.reduceEqDiff, reduceIte, Int.reduceEq, Int.reduceBEq, Int.reduceLE, Int.reduceLT, Int.reduceNeg, Int.reduceAdd, Int.reduceSub, Int.reduceMul, List.map, AV.cells, List.all, AV.one, eqV, eqAll, splice, fillA, List.replicate, resAll, resA, zm, zg]
  exact ⟨k1.trans k2, s2, by
    rcases f2 with h | ⟨q, o, n, cap, h, h'⟩
    · exact .inl h
    · exact .inr ⟨q, o, n, cap, h, by simp at h'; omega⟩⟩
def handsT (s : TS) : List Int := if s.k = 0 then [] else s.bl.take 1 ++ s.ly.ls
def leftT (s : TS) : List Int := if s.a = 0 ∧ 0 < s.k then s.ly.ls else []
def gotB (s : TS) : Bool := decide (s.a = 0 ∧ 0 < s.k)
def gotV (s : TS) : Int := if s.a = 0 ∧ 0 < s.k then s.bl.getD 0 0 else 0
def Gsh : List (Nat × AFun Ob) := [(275, c_steal_Steal_Many), (286, amFunc Grs steal_rest_Rest), (287, amFunc Gcc slices_Concat_int)]
def Glf : List (Nat × AFun Ob) := [(277, c_steal_Steal_Done), (275, c_steal_Steal_Many), (286, amFunc Grs steal_rest_Rest)]
theorem clp_nil (m : MM) : ClP m [] .nils m := ⟨.refl _, Sl.nil, .inl rfl⟩
theorem TM.mn {m : MM} {P : Nat → Prop} {c : Cf} {p v : Int} {xj : Nat} {s : TS} (h : TM m P c p v xj s) : c_steal_Steal_Many [.ptr xj 0] m = some (.int .i64 s.k, m) := by
  obtain ⟨_, _, _, h, _⟩ := h
  exact smany_eq h
theorem TM.dn {m : MM} {P : Nat → Prop} {c : Cf} {p v : Int} {xj : Nat} {s : TS} (h : TM m P c p v xj s) : c_steal_Steal_Done [.ptr xj 0] m = some (.bool (decide (s.a = 0)), m) := by
  obtain ⟨_, _, _, h, _⟩ := h
  exact sdone_eq h
set_option maxHeartbeats 8000000 in
theorem shands_run {m : MM} {P : Nat → Prop} {c : Cf} {p v : Int} {xj : Nat} {s : TS} (hT : TM m P c p v xj s) (hok : TOk c p v s) : Fn Gsh steal_Steal_Hands [.ptr xj 0] m (ClP m (handsT s)) := by
  have a275 : assoc Gsh 275 = some c_steal_Steal_Many := rfl
  have a286 : assoc Gsh 286 = some (amFunc Grs steal_rest_Rest) := rfl
  have a287 : assoc Gsh 287 = some (amFunc Gcc slices_Concat_int) := rfl
  generalize Gsh = G at a275 a286 a287 ⊢
  have hm := hT.mn
  obtain ⟨hown, lyv, bv, hj, hB, hL⟩ := hT
  refine Fn_of rfl ?_
  unfold handsT
  by_cases hk : s.k = 0
  · rw [if_pos hk]
    rw [hk] at hm
    simp (disch := first | assumption | omega | (simp only [zl] <;> omega) | (simp only [zn])) only [steal_Steal_Hands, ↓zd, zk, Nat.reduceSub, Nat.reduceAdd, Nat.reduceMul, Nat.reduceLeDiff, Nat.reduceEqDiff, reduceIte, Int.reduceEq, Int.reduceBEq, Int.reduceLE, Int.reduceLT, Int.reduceNeg, Int.reduceAdd, Int.reduceSub, Int.reduceMul, List.map, AV.cells, List.all, AV.one, eqV, eqAll, splice, fillA, List.replicate, resAll, resA, zm, zg, a275, hm]
    exact clp_nil m
  · rw [if_neg hk]
    obtain ⟨k1, k2, k3, k4, k5⟩ := hok.k.resolve_left (by omega)
    obtain ⟨_, lb, lxv, rfl, hPl, hlm⟩ := hL.resolve_left (fun h => hk h.1)
    obtain ⟨cap, qb, L, hPq, rfl, gq, hb1, hb2, hb3, _⟩ := hB.bal k1
    have hls := k4.l
    have hbb := hok.b
    have hsl : ∀ M : MM, sliceA M 1 (.sl qb 0 s.bl.length (some cap)) none (some 1) none = some (.sl qb 0 1 (some cap)) := fun M => by
      have h1 : 1 ≤ cap := by omega
      have h2 : ¬ (cap = 0) := by omega
      simp [sliceA, h1, h2]
    have t1 : Int.toNat 1 = 1 := rfl
    have hj0 := hj
    simp only [stC, cfC, List.cons_append, List.nil_append] at hj
    simp (disch := first | assumption | omega | (simp only [zl] <;> omega) | (simp only [zn])) only [steal_Steal_Hands, ↓zd, zk, Nat.reduceSub, Nat.reduceAdd, Nat.reduceMul, Nat.reduceLeDiff, Nat.reduceEqDiff, reduceIte, Int.reduceEq, Int.reduceBEq, Int.reduceLE, Int.reduceLT, Int.reduceNeg, Int.reduceAdd, Int.reduceSub, Int.reduceMul, List.map, AV.cells, List.all, AV.one, eqV, eqAll, splice, fillA, List.replicate, resAll, resA, zm, zg, a275, hm, hk, hj, evA, t1, hsl, a286]
    refine OKT_fn (rest_run hlm (by omega)) ?_
    rintro b m1 ⟨kr, sb, fb⟩
    have hj1 := kr.get hj
    have gq1 := kr.get gq
    have hone := slOne sb
    have hbc := (Fr.one fb).2
    simp only [AV.one] at hone
    simp only [AV.cells] at hbc
    simp (disch := first | assumption | omega | (simp only [zl] <;> omega) | (simp only [zn])) only [↓zd, zk, Nat.reduceSub, Nat.reduceAdd, Nat.reduceMul, Nat.reduceLeDiff, Nat.reduceEqDiff, reduceIte, Int.reduceEq, Int.reduceBEq, Int.reduceLE, Int.reduceLT, Int.reduceNeg, Int.reduceAdd, Int.reduceSub, Int.reduceMul, List.map, AV.cells, List.all, AV.one, eqV, eqAll, splice, fillA, List.replicate, resAll, resA, zm, zg, evA, fillA, repeatL, List.flatten_cons, List.flatten_nil, hbc, hone, a287]
    have kK := Keep.app m1 [Chunk.cells 1 false [.sl qb 0 1 (some cap), b]]
    have hs1 : SI (m1 ++ [Chunk.cells 1 false [.sl qb 0 1 (some cap), b]]) false (s.bl.take 1) (.sl qb 0 1 (some cap)) := by
      have hlen : (s.bl.take 1).length = 1 := by rw [List.length_take]; omega
      refine ⟨by rw [iC_len]; omega, .inr ⟨qb, 0, some cap, by rw [hlen], fun _ => ⟨false, L, kK.get gq1, ?_, by rw [hlen]; omega, fun h => by cases h⟩⟩⟩
      rw [hlen, List.drop_zero, Nat.mul_one]
      have e : (L.take s.bl.length).take 1 = L.take 1 := by rw [List.take_take, Nat.min_eq_left (by omega)]
      rw [← e, hb3, iC, iC, List.map_take]
    have hlen : (s.bl.take 1).length = 1 := by rw [List.length_take]; omega
    refine OKT_fn (concat_run hs1 (sb.keep kK) (by omega) (by omega) get_concat) ?_
    rintro _ m2 ⟨q, rfl, hq, k2', g2⟩
    have hm1 := kr.1
    simp (disch := first | assumption | omega | (simp only [zl] <;> omega) | (simp only [zn])) only [↓zd, zk, Nat.reduceSub, Nat.reduceAdd, Nat.reduceMul, Nat.reduceLeDiff, Nat.reduceEqDiff, reduceIte, Int.reduceEq, Int.reduceBEq, Int.reduceLE, Int.reduceLT, Int.reduceNeg, Int.reduceAdd, Int.reduceSub, Int.reduceMul, List.map, AV.cells, List.all, AV.one, eqV, eqAll, splice, fillA, List.replicate, resAll, resA, zm, zg, hj1, evA, t1, hsl]
    refine ⟨(kr.trans kK).trans k2', ⟨by rw [iC_len]; omega, .inr ⟨q, 0, none, by rw [List.length_append], fun _ => ⟨false, _, g2, by rw [List.drop_zero, Nat.mul_one, ← iC_len, List.take_length], by rw [iC_len]; omega, fun _ => rfl⟩⟩⟩, .inr ⟨q, 0, _, none, rfl, by simp at hq; omega⟩⟩
set_option maxHeartbeats 8000000 in
theorem sleft_run {m : MM} {P : Nat → Prop} {c : Cf} {p v : Int} {xj : Nat} {s : TS} (hT : TM m P c p v xj s) (hok : TOk c p v s) : Fn Glf steal_Steal_Left [.ptr xj 0] m (ClP m (leftT s)) := by
  have a277 : assoc Glf 277 = some c_steal_Steal_Done := rfl
  have a275 : assoc Glf 275 = some c_steal_Steal_Many := rfl
  have a286 : assoc Glf 286 = some (amFunc Grs steal_rest_Rest) := rfl
  generalize Glf = G at a277 a275 a286 ⊢
  have hm := hT.mn
  have hd := hT.dn
  obtain ⟨hown, lyv, bv, hj, hB, hL⟩ := hT
  refine Fn_of rfl ?_
  unfold leftT
  by_cases ha : s.a = 0
  · rw [decide_eq_true ha] at hd
    by_cases hk : s.k = 0
    · rw [if_neg (by omega)]
      rw [hk] at hm
      simp (disch := first | assumption | omega | (simp only [zl] <;> omega) | (simp only [zn])) only [steal_Steal_Left, ↓zd, zk, Nat.reduceSub, Nat.reduceAdd, Nat.reduceMul, Nat.reduceLeDiff, Nat.reduceEqDiff, reduceIte, Int.reduceEq, Int.reduceBEq, Int.reduceLE, Int.reduceLT, Int.reduceNeg, Int.reduceAdd, Int.reduceSub, Int.reduceMul, List.map, AV.cells, List.all, AV.one, eqV, eqAll, splice, fillA, List.replicate, resAll, resA, zm, zg, a277, hd, a275, hm]
      exact clp_nil m
    · obtain ⟨k1, k2, k3, k4, k5⟩ := hok.k.resolve_left (by omega)
      rw [if_pos ⟨ha, k1⟩]
      obtain ⟨_, lb, lxv, rfl, hPl, hlm⟩ := hL.resolve_left (fun h => hk h.1)
      have hls := k4.l
      simp only [stC, cfC, List.cons_append, List.nil_append] at hj
      simp (disch := first | assumption | omega | (simp only [zl] <;> omega) | (simp only [zn])) only [steal_Steal_Left, ↓zd, zk, Nat.reduceSub, Nat.reduceAdd, Nat.reduceMul, Nat.reduceLeDiff, Nat.reduceEqDiff, reduceIte, Int.reduceEq, Int.reduceBEq, Int.reduceLE, Int.reduceLT, Int.reduceNeg, Int.reduceAdd, Int.reduceSub, Int.reduceMul, List.map, AV.cells, List.all, AV.one, eqV, eqAll, splice, fillA, List.replicate, resAll, resA, zm, zg, a277, hd, a275, hm, hk, hj, a286]
      refine OK_fn (rest_run hlm (by omega)) ?_
      intro b m1 hcl
      simp (disch := first | assumption | omega | (simp only [zl] <;> omega) | (simp only [zn])) only [↓zd, zk, Nat.reduceSub, Nat.reduceAdd, Nat.reduceMul, Nat.reduceLeDiff, Nat.reduceEqDiff, reduceIte, Int.reduceEq, Int.reduceBEq, Int.reduceLE, Int.reduceLT, Int.reduceNeg, Int.reduceAdd, Int.reduceSub, Int.reduceMul, List.map, AV.cells, List.all, AV.one, eqV, eqAll, splice, fillA, List.replicate, resAll, resA, zm, zg]
      exact hcl
  · rw [if_neg (by omega)]
    rw [decide_eq_false ha] at hd
    simp (disch := first | assumption | omega | (simp only [zl] <;> omega) | (simp only [zn])) only [steal_Steal_Left, ↓zd, zk, Nat.reduceSub, Nat.reduceAdd, Nat.reduceMul, Nat.reduceLeDiff, Nat.reduceEqDiff, reduceIte, Int.reduceEq, Int.reduceBEq, Int.reduceLE, Int.reduceLT, Int.reduceNeg, Int.reduceAdd, Int.reduceSub, Int.reduceMul, List.map, AV.cells, List.all, AV.one, eqV, eqAll, splice, fillA, List.replicate, resAll, resA, zm, zg, a277, hd]
    exact clp_nil m
theorem sgot_eq {m : MM} {P : Nat → Prop} {c : Cf} {p v : Int} {xj : Nat} {s : TS} (hT : TM m P c p v xj s) (hok : TOk c p v s) : c_steal_Steal_Got [.ptr xj 0] m = some (.tup [.int .i64 (gotV s), .bool (gotB s)], m) := by
  have he : c_steal_Steal_Got (X := Ob) = amFunc [(277, c_steal_Steal_Done), (275, c_steal_Steal_Many)] steal_Steal_Got := rfl
  rw [he]
  have hm := hT.mn
  have hd := hT.dn
  unfold gotV gotB
  by_cases h : s.a = 0 ∧ 0 < s.k
  · have a277 : assoc [(277, c_steal_Steal_Done (X := Ob)), (275, c_steal_Steal_Many)] 277 = some c_steal_Steal_Done := rfl
    have a275 : assoc [(277, c_steal_Steal_Done (X := Ob)), (275, c_steal_Steal_Many)] 275 = some c_steal_Steal_Many := rfl
    generalize [(277, c_steal_Steal_Done (X := Ob)), (275, c_steal_Steal_Many)] = G at a277 a275 ⊢
    rw [if_pos h, decide_eq_true h]
    obtain ⟨hown, lyv, bv, hj, hB, hL⟩ := hT
    obtain ⟨k1, k2, k3, k4, k5⟩ := hok.k.resolve_left (by omega)
    obtain ⟨cap, qb, L, hPq, rfl, gq, hb1, hb2, hb3, _⟩ := hB.bal k1
    have hk : ¬ (s.k = 0) := by omega
    rw [decide_eq_true h.1] at hd
    have h0 : (0 : Int) < (s.bl.length : Int) := by omega
    have hL0 : L[0]? = some (.int .i64 (s.bl.getD 0 0)) := by
      have e := congrArg (fun l : List AV => l[0]?) hb3
      simp only [List.getElem?_take, iC, List.getElem?_map] at e
      rw [if_pos (by omega)] at e
      rw [e, List.getD_eq_getElem?_getD, List.getElem?_eq_getElem (show 0 < s.bl.length by omega)]
      rfl
    simp only [stC, cfC, List.cons_append, List.nil_append] at hj
    refine Fn_eq (Fn_of rfl ?_)
    simp (disch := first | assumption | omega | (simp only [zl] <;> omega) | (simp only [zn])) only [steal_Steal_Got, ↓zd, zk, Nat.reduceSub, Nat.reduceAdd, Nat.reduceMul, Nat.reduceLeDiff, Nat.reduceEqDiff, reduceIte, Int.reduceEq, Int.reduceBEq, Int.reduceLE, Int.reduceLT, Int.reduceNeg, Int.reduceAdd, Int.reduceSub, Int.reduceMul, List.map, AV.cells, List.all, AV.one, eqV, eqAll, splice, fillA, List.replicate, resAll, resA, zm, zg, a277, hd, a275, hm, hk, hj, gq, Int.toNat_zero, hL0]
  · rw [if_neg h, decide_eq_false h]
    by_cases ha : s.a = 0
    · have hk : s.k = 0 := by rcases hok.k with h' | h' <;> omega
      rw [hk] at hm
      exact got_no rfl rfl ⟨_, hd⟩ hm
    · rw [decide_eq_false ha] at hd
      have a277 : assoc [(277, c_steal_Steal_Done (X := Ob)), (275, c_steal_Steal_Many)] 277 = some c_steal_Steal_Done := rfl
      generalize [(277, c_steal_Steal_Done (X := Ob)), (275, c_steal_Steal_Many)] = G at a277 ⊢
      refine Fn_eq (Fn_of rfl ?_)
      simp (disch := first | assumption | omega | (simp only [zl] <;> omega) | (simp only [zn])) only [steal_Steal_Got, ↓zd, zk, Nat.reduceSub, Nat.reduceAdd, Nat.reduceMul, Nat.reduceLeDiff, Nat.reduceEqDiff, reduceIte, Int.reduceEq, Int.reduceBEq, Int.reduceLE, Int.reduceLT, Int.reduceNeg, Int.reduceAdd, Int.reduceSub, Int.reduceMul, List.map, AV.cells, List.all, AV.one, eqV, eqAll, splice, fillA, List.replicate, resAll, resA, zm, zg, a277, hd]
end Go.Am.F11
end
section
namespace Go.Am.F11
open Go.Am.F06 Go.Am.F10 Go.Am.F09
def rsC (c : Cf) (p v a w : Int) (bv : AV) (k : Int) (ly : List AV) : List AV := cfC c ++ [.int .i64 p, .int .i64 v, .int .i64 a, .int .u64 w, bv, .int .i64 k] ++ ly
def zlC : List AV := rlC zeroC 0 ⟨0, 0, 0, 0, []⟩ .nils
def RLy (m : MM) (c : Cf) (p : Int) (s : TS) (F : AV → Prop) (ly : List AV) : Prop := (s.k = 0 ∧ ly = zlC) ∨ (0 < s.k ∧ ∃ lv, ly = rlC c p s.ly lv ∧ SI m false s.ly.ls lv ∧ (0 < s.ly.ls.length → Nx m lv) ∧ F lv)
def RsP (m : MM) (c : Cf) (p v k0 : Int) (bv : AV) (x : TS × List Int) (o : Int) (r : AV) (m' : MM) : Prop := Keep m m' ∧ ∃ bv' ly' v', r = .tup [.agg (rsC c p v x.1.a x.1.w bv' x.1.k ly'), .agg (memC v' o)] ∧ SI m' false x.1.bl bv' ∧ (0 < x.1.bl.length → Nx m' bv') ∧ (bv' = bv ∨ Fr m.length bv') ∧ RLy m' c p x.1 (fun lv => k0 = 0 → Fr m.length lv) ly' ∧ SU m' false x.2 v'
def Grs11 : List (Nat × AFun Ob) := [(173, F10.c_ref09_Size), (170, F10.c_ref09_Head), (171, F10.c_ref09_Tail), (172, F10.c_ref09_Word), (64, F06.c_ref06_Load), (174, F10.c_ref09_Slot), (175, F10.c_ref09_Pack), (66, F06.c_ref06_CAS), (201, amFunc [(169, F10.c_ref09_There)] ref09_NewLay), (202, amFunc Grl2 ref09_StepLay)]
theorem rzero {m : MM} {c : Cf} {p : Int} {s : TS} {F : AV → Prop} {ly : List AV} (h : RLy m c p s F ly) (hk : s.k = 0) : ly = zlC := by
  rcases h with h | h
  · exact h.2
  · omega
theorem halfU {w : Int} : IntKind.u32.wrap (sz w - IntKind.u32.wrap ((sz w).tdiv 2)) = halfI w := by
  have h := sz_b w
  have e1 : (sz w).tdiv 2 = sz w / 2 := Int.tdiv_eq_ediv_of_nonneg h.1
  rw [e1, wrap32, wrap32]
  unfold halfI; omega
set_option maxHeartbeats 16000000 in
theorem rsstep1 {m : MM} {wr : Bool} {c : Cf} {p v o : Int} {s : TS} {xs : List Int} {mv bv : AV} {ly : List AV} {F : AV → Prop} (hs : SU m wr xs mv) (hb : SI m false s.bl bv) (hly : RLy m c p s F ly) (hok : TOk c p v s) (hx : OkL c xs) (ha : s.a = 1) :
    Fn Grs11 ref11_Step [.agg (rsC c p v s.a s.w bv s.k ly), .agg (memC mv o)] m (RsP m c p v s.k bv (stepT c p v xs s) (opsT s o)) := by
  have a170 : assoc Grs11 170 = some F10.c_ref09_Head := rfl
  have a171 : assoc Grs11 171 = some F10.c_ref09_Tail := rfl
  have a172 : assoc Grs11 172 = some F10.c_ref09_Word := rfl
  have a64 : assoc Grs11 64 = some F06.c_ref06_Load := rfl
  have a173 : assoc Grs11 173 = some F10.c_ref09_Size := rfl
  generalize Grs11 = G at a170 a171 a172 a64 a173 ⊢
  have hk0 : s.k = 0 := by rcases hok.k with hk | hk <;> omega
  have hz := rzero hly hk0
  subst hz
  have hone := slOne hs
  have hone2 := slOne hb
  simp only [AV.one] at hone hone2
  obtain ⟨a, w, bl, k, ly⟩ := s
  simp only at ha hk0 hb
  subst ha; subst hk0
  have hth : thereS c p v := by rcases hok.a with h | h
                                · simp at h
                                · exact h.1
  have hw : W64 w := hok.w
  have hb2 := there_bounds hth.2.1
  have hcn := cellsN_le c
  have hxl := hx.1
  have ha0 := addr_b hth.2.1 (i := 0) (by omega) (by omega)
  have htl := fun m : MM => rtail_eq m hw
  have hhd := fun m : MM => rhead_eq m hw
  have hrw := fun m : MM => rword_eq m hth.2.1
  simp only [word_at hth.2.1, cfC] at hrw
  have hwn : ((wrdN c v : Nat) : Int) = addrA c v 0 := by unfold wrdN; omega
  have hrl := fun K : MM => rload_eq (hs.keep (Keep.app m K)) o (a := wrdN c v) (by omega)
  rw [hwn] at hrl
  have hg := getD_64 hx.2 (wrdN c v)
  generalize he : stepT c p v xs ⟨1, w, bl, 0, ly⟩ = sx
  have ho : opsT ⟨1, w, bl, 0, ly⟩ o = IntKind.u64.wrap (o + 1) := rfl
  rw [ho]
  simp only [stepT] at he
  generalize xs.getD (wrdN c v) 0 = w' at hg hrl he
  rw [if_neg (by decide), if_pos trivial] at he
  simp only [memC, List.append_assoc, List.cons_append, List.nil_append] at hrl
  have hz0 := fun m : MM => rsize_eq m hw
  have hz := fun m : MM => rsize_eq m hg
  have hhalf := halfU (w := w)
  have e0 : IntKind.u32.wrap c.q = c.q := by rw [wrap32]; omega
  have fin : ∀ (a' : Int) (K : MM), sx = (⟨a', w', [], 0, ly⟩, xs) → RsP m c p v 0 bv sx (IntKind.u64.wrap (o + 1)) (.tup [.agg (rsC c p v a' w' .nils 0 zlC), .agg (memC mv (IntKind.u64.wrap (o + 1)))]) (m ++ K) := by
    rintro a' K rfl
    exact ⟨Keep.app _ _, .nils, zlC, mv, rfl, Sl.nil, fun _ => .inl rfl, .inr (.inl rfl), .inl ⟨rfl, rfl⟩, (hs.keep (.app _ _)).ro⟩
  simp only [rsC, zlC, rlC, zeroC, cfC, memC, List.cons_append, List.nil_append] at fin
  refine Fn_of rfl ?_
  by_cases h0 : sz w' = 0
  · rw [if_pos (.inl h0)] at he
    simp (disch := first | assumption | omega | (simp only [zl] <;> omega) | (simp only [zn])) only [ref11_Step, ↓zd, zk, Nat.reduceSub, Nat.reduceAdd, Nat.reduceMul, Nat.reduceLeDiff, Nat.reduceEqDiff, reduceIte, Int.reduceEq, Int.reduceBEq, Int.reduceLE, Int.reduceLT, Int.reduceNeg, Int.reduceAdd, Int.reduceSub, Int.reduceMul, List.map, AV.cells, List.all, AV.one, eqV, eqAll, splice, fillA, List.replicate, resAll, resA, zm, zg, rsC, zlC, rlC, zeroC, cfC, memC, hone, hone2, a173, hz0, hhalf, a170, hhd, a171, htl, a172, hrw, a64, hrl, hz, e0, h0]
    exact fin 0 _ he.symm
  · by_cases h1 : c.q < sz w'
    · rw [if_pos (.inr h1)] at he
      simp (disch := first | assumption | omega | (simp only [zl] <;> omega) | (simp only [zn])) only [ref11_Step, ↓zd, zk, Nat.reduceSub, Nat.reduceAdd, Nat.reduceMul, Nat.reduceLeDiff, Nat.reduceEqDiff, reduceIte, Int.reduceEq, Int.reduceBEq, Int.reduceLE, Int.reduceLT, Int.reduceNeg, Int.reduceAdd, Int.reduceSub, Int.reduceMul, List.map, AV.cells, List.all, AV.one, eqV, eqAll, splice, fillA, List.replicate, resAll, resA, zm, zg, rsC, zlC, rlC, zeroC, cfC, memC, hone, hone2, a173, hz0, hhalf, a170, hhd, a171, htl, a172, hrw, a64, hrl, hz, e0, h0, h1]
      exact fin 0 _ he.symm
    · rw [if_neg (fun h => h.elim h0 h1)] at he
      simp (disch := first | assumption | omega | (simp only [zl] <;> omega) | (simp only [zn])) only [ref11_Step, ↓zd, zk, Nat.reduceSub, Nat.reduceAdd, Nat.reduceMul, Nat.reduceLeDiff, Nat.reduceEqDiff, reduceIte, Int.reduceEq, Int.reduceBEq, Int.reduceLE, Int.reduceLT, Int.reduceNeg, Int.reduceAdd, Int.reduceSub, Int.reduceMul, List.map, AV.cells, List.all, AV.one, eqV, eqAll, splice, fillA, List.replicate, resAll, resA, zm, zg, rsC, zlC, rlC, zeroC, cfC, memC, hone, hone2, a173, hz0, hhalf, a170, hhd, a171, htl, a172, hrw, a64, hrl, hz, e0, h0, h1]
      exact fin 2 _ he.symm
set_option maxHeartbeats 16000000 in
theorem rsstep2 {m : MM} {wr : Bool} {c : Cf} {p v o : Int} {s : TS} {xs : List Int} {mv bv : AV} {ly : List AV} {F : AV → Prop} (hs : SU m wr xs mv) (hb : SI m false s.bl bv) (hly : RLy m c p s F ly) (hok : TOk c p v s) (hx : OkL c xs) (ha : s.a = 2) :
    Fn Grs11 ref11_Step [.agg (rsC c p v s.a s.w bv s.k ly), .agg (memC mv o)] m (RsP m c p v s.k bv (stepT c p v xs s) (opsT s o)) := by
  have a170 : assoc Grs11 170 = some F10.c_ref09_Head := rfl
  have a171 : assoc Grs11 171 = some F10.c_ref09_Tail := rfl
  have a174 : assoc Grs11 174 = some F10.c_ref09_Slot := rfl
  have a64 : assoc Grs11 64 = some F06.c_ref06_Load := rfl
  have a173 : assoc Grs11 173 = some F10.c_ref09_Size := rfl
  generalize Grs11 = G at a170 a171 a174 a64 a173 ⊢
  have hk0 : s.k = 0 := by rcases hok.k with hk | hk <;> omega
  have hz := rzero hly hk0
  subst hz
  have hone := slOne hs
  have hone2 := slOne hb
  simp only [AV.one] at hone hone2
  obtain ⟨a, w, bl, k, ly⟩ := s
  simp only at ha hk0 hb
  subst ha; subst hk0
  obtain ⟨hth, hh⟩ := hok.a.resolve_left (by simp)
  have hh2 : sz w ≤ c.q ∧ (bl.length : Int) < halfI w := by
    rcases hh with h | h | h | h
    · simp at h
    · exact h.2
    · simp at h
    · simp at h
  have hw : W64 w := hok.w
  have hb2 := there_bounds hth.2.1
  have hcn := cellsN_le c
  have hxl := hx.1
  have hblen := hok.b
  simp only at hblen
  have hhb := hd_b hw
  have hm0 := Int.emod_nonneg (hd w + bl.length) (b := 4294967296) (by omega)
  have hm1 := Int.emod_lt_of_pos (hd w + bl.length) (b := 4294967296) (by omega)
  have hsb := slot_b hth.2.1 hm0
  have hwn : ((sslN c v w bl.length : Nat) : Int) = slotA c v ((hd w + bl.length) % 4294967296) := by unfold sslN; omega
  have hrl := fun K : MM => rload_eq (hs.keep (Keep.app m K)) o (a := sslN c v w bl.length) (by omega)
  rw [hwn] at hrl
  generalize he : stepT c p v xs ⟨2, w, bl, 0, ly⟩ = sx
  have ho : opsT ⟨2, w, bl, 0, ly⟩ o = IntKind.u64.wrap (o + 1) := rfl
  rw [ho]
  simp only [stepT] at he
  generalize xs.getD (sslN c v w bl.length) 0 = w' at hrl he
  rw [if_neg (by decide), if_neg (by decide), if_pos trivial] at he
  simp only [memC, List.append_assoc, List.cons_append, List.nil_append] at hrl
  have htl := fun m : MM => rtail_eq m hw
  have hhd := fun m : MM => rhead_eq m hw
  have hz0 := fun m : MM => rsize_eq m hw
  have hhalf := halfU (w := w)
  have hhw := half_b w
  have hs0 := sz_b w
  have hsl := fun m : MM => rslot_eq m hth.2.1 hm0 hm1
  simp only [cfC] at hsl
  have hlen := hb.len
  have e1 : IntKind.u32.wrap (bl.length : Int) = bl.length := by rw [wrap32]; omega
  have e2 : IntKind.u32.wrap (hd w + bl.length) = (hd w + bl.length) % 4294967296 := by rw [wrap32]
  refine Fn_of rfl ?_
  simp (disch := first | assumption | omega | (simp only [zl] <;> omega) | (simp only [zn])) only [ref11_Step, ↓zd, zk, Nat.reduceSub, Nat.reduceAdd, Nat.reduceMul, Nat.reduceLeDiff, Nat.reduceEqDiff, reduceIte, Int.reduceEq, Int.reduceBEq, Int.reduceLE, Int.reduceLT, Int.reduceNeg, Int.reduceAdd, Int.reduceSub, Int.reduceMul, List.map, AV.cells, List.all, AV.one, eqV, eqAll, splice, fillA, List.replicate, resAll, resA, zm, zg, rsC, zlC, rlC, zeroC, cfC, memC, hone, hone2, a173, hz0, hhalf, a170, hhd, a171, htl, ev_len, hlen, e1, e2, a174, hsl, a64, hrl]
  obtain ⟨K, hK⟩ : ∃ K : MM, K = [Chunk.cells 24 false (rsC c p v 2 w bv 0 zlC), .cells 2 false (memC mv (IntKind.u64.wrap (o + 1))), .cells 24 false (rsC zeroC 0 0 0 0 .nils 0 zlC), .cells 2 false [.nils, .int .u64 0], .cells 2 false (memC mv (IntKind.u64.wrap (o + 1))), .cells 6 false (cfC c), .cells 6 false (cfC c), .cells 2 false (memC mv o), .cells 2 false (memC mv (IntKind.u64.wrap (o + 1))), .cells 2 false (memC mv o)] := ⟨_, rfl⟩
  have g0 : (m ++ K)[m.length]? = some (.cells 24 false (rsC c p v 2 w bv 0 zlC)) := by rw [hK, get_mid0]; rfl
  have g1 : (m ++ K)[m.length + 1]? = some (.cells 2 false (memC mv (IntKind.u64.wrap (o + 1)))) := by rw [hK, get_mid]; rfl
  have g2 : (m ++ K)[m.length + 2]? = some (.cells 24 false (rsC zeroC 0 0 0 0 .nils 0 zlC)) := by rw [hK, get_mid]; rfl
  have g3 : (m ++ K)[m.length + 3]? = some (.cells 2 false [.nils, .int .u64 0]) := by rw [hK, get_mid]; rfl
  simp only [rsC, zlC, rlC, zeroC, memC, cfC, List.cons_append, List.nil_append] at hK g0 g1 g2 g3
  rw [← hK]
  have hkM := Keep.app m K
  generalize m ++ K = M at hkM g0 g1 g2 g3 ⊢
  clear hK hrl hsl
  obtain ⟨l1, M1, hap1, ow1, ln1, f1⟩ := own_pushs (m0 := M) (xs := []) own_nil (hb.keep hkM) (by simp) (by omega) (Nat.le_refl _)
  have k1 : Keep M M1 := ⟨ln1, fun i hi => f1 i hi (.inr hi)⟩
  rw [List.nil_append] at ow1
  obtain ⟨l2, M2, hap2, ow2, ln2, f2⟩ := own_push2 ow1 (IntKind.i64.wrap w') (by omega) ln1
  have k2 : Keep M M2 := ⟨by omega, fun i hi => by rw [f2 i (by omega) (.inr hi), k1.2 i hi]⟩
  have hsi2 := (Own.si ow2).1.ro
  have hlen2 := hsi2.len
  have hnx2 := Own.nx ow2
  have h0 := k2.get g0
  have h1 := k2.get g1
  have h2 := k2.get g2
  have h3 := k2.get g3
  have lm : m.length + 3 < M2.length := (List.getElem?_eq_some_iff.1 h3).1
  have hkm : Keep m M2 := hkM.trans k2
  have hone1 := ow1.val1
  simp only [AV.one] at hone1
  have hl2 : ∃ q, l2 = .sl q 0 (bl.length + 1) none ∧ m.length ≤ q := by
    rcases ow2 with ⟨h, _⟩ | ⟨q, h, _, h2, _⟩
    · simp at h
    · exact ⟨q, by rw [h]; simp, Nat.le_trans hkM.1 h2⟩
  obtain ⟨q2, rfl, hq2m⟩ := hl2
  have hno : ∀ b, m.length ≤ b → b < m.length + 4 → ∀ ro L, M2[b]? ≠ some (.cells 1 ro L) := by
    intro b b1 b2 ro L hb
    rcases (show b = m.length ∨ b = m.length + 1 ∨ b = m.length + 2 ∨ b = m.length + 3 by omega) with rfl | rfl | rfl | rfl
    · rw [h0] at hb; cases hb
    · rw [h1] at hb; cases hb
    · rw [h2] at hb; cases hb
    · rw [h3] at hb; cases hb
  have hb0 : LNx m.length (m.length + 4) M2 (bl ++ [IntKind.i64.wrap w']) (.sl q2 0 (bl.length + 1) none) := ⟨hsi2, fun _ => hnx2, hno⟩
  have htl2 : lenA (.sl q2 0 (bl.length + 1) none) = some (bl.length + 1) := rfl
  have e3 : IntKind.u32.wrap ((bl.length + 1 : Nat) : Int) = (bl.length : Int) + 1 := by rw [wrap32]; omega
  by_cases hq : (bl.length : Int) + 1 = halfI w
  · rw [if_pos hq] at he
    subst he
    simp (disch := first | assumption | omega | (simp only [zl] <;> omega) | (simp only [zn])) only [↓zd, zk, Nat.reduceSub, Nat.reduceAdd, Nat.reduceMul, Nat.reduceLeDiff, Nat.reduceEqDiff, reduceIte, Int.reduceEq, Int.reduceBEq, Int.reduceLE, Int.reduceLT, Int.reduceNeg, Int.reduceAdd, Int.reduceSub, Int.reduceMul, List.map, AV.cells, List.all, AV.one, eqV, eqAll, splice, fillA, List.replicate, resAll, resA, zm, zg, evA, fillA, repeatL, List.flatten_cons, List.flatten_nil, hap1, hone1, hap2, h0, h1, h2, h3, ev_len, htl2, e3, hq, hone]
    refine ⟨?_, .sl q2 0 (bl.length + 1) none, zlC, mv, rfl, LNx.sl (lo := m.length) (hi := m.length + 4) ?_, LNx.nx (lo := m.length) (hi := m.length + 4) ?_, .inr (.inr ⟨_, _, _, _, rfl, hq2m⟩), .inl ⟨rfl, rfl⟩, ?_⟩
    · repeat' first | exact hkm | refine Keep.set ?_ (by omega) _
    · repeat' first | exact hb0 | refine LNx.set ?_ (by omega) (by omega) (by intro _ _ h; cases h)
    · repeat' first | exact hb0 | refine LNx.set ?_ (by omega) (by omega) (by intro _ _ h; cases h)
    · refine SLN.sl (lo := m.length) (hi := m.length + 4) ?_
      repeat' first | exact ⟨(hs.keep hkm).ro, hno⟩ | refine SLN.set ?_ (by omega) (by omega) (by intro _ _ h; cases h)
  · rw [if_neg hq] at he
    subst he
    simp (disch := first | assumption | omega | (simp only [zl] <;> omega) | (simp only [zn])) only [↓zd, zk, Nat.reduceSub, Nat.reduceAdd, Nat.reduceMul, Nat.reduceLeDiff, Nat.reduceEqDiff, reduceIte, Int.reduceEq, Int.reduceBEq, Int.reduceLE, Int.reduceLT, Int.reduceNeg, Int.reduceAdd, Int.reduceSub, Int.reduceMul, List.map, AV.cells, List.all, AV.one, eqV, eqAll, splice, fillA, List.replicate, resAll, resA, zm, zg, evA, fillA, repeatL, List.flatten_cons, List.flatten_nil, hap1, hone1, hap2, h0, h1, h2, h3, ev_len, htl2, e3, hq, hone]
    refine ⟨?_, .sl q2 0 (bl.length + 1) none, zlC, mv, rfl, LNx.sl (lo := m.length) (hi := m.length + 4) ?_, LNx.nx (lo := m.length) (hi := m.length + 4) ?_, .inr (.inr ⟨_, _, _, _, rfl, hq2m⟩), .inl ⟨rfl, rfl⟩, ?_⟩
    · repeat' first | exact hkm | refine Keep.set ?_ (by omega) _
    · repeat' first | exact hb0 | refine LNx.set ?_ (by omega) (by omega) (by intro _ _ h; cases h)
    · repeat' first | exact hb0 | refine LNx.set ?_ (by omega) (by omega) (by intro _ _ h; cases h)
    · refine SLN.sl (lo := m.length) (hi := m.length + 4) ?_
      repeat' first | exact ⟨(hs.keep hkm).ro, hno⟩ | refine SLN.set ?_ (by omega) (by omega) (by intro _ _ h; cases h)
end Go.Am.F11
end
section
namespace Go.Am.F11
open Go.Am.F06 Go.Am.F10 Go.Am.F09
theorem lcC_ok {c : Cf} {p : Int} (h : thereP c p) : lcC c p = c ∧ lcP c p = p := by unfold lcC lcP; rw [if_pos h, if_pos h]; exact ⟨rfl, rfl⟩
set_option maxHeartbeats 16000000 in
theorem rsstep3 {m : MM} {wr : Bool} {c : Cf} {p v o : Int} {s : TS} {xs : List Int} {mv bv : AV} {ly : List AV} {F : AV → Prop} (hs : SU m wr xs mv) (hb : SI m false s.bl bv) (hnx : 0 < s.bl.length → Nx m bv) (hly : RLy m c p s F ly) (hok : TOk c p v s) (hx : OkL c xs) (ha : s.a = 3) :
    Fn Grs11 ref11_Step [.agg (rsC c p v s.a s.w bv s.k ly), .agg (memC mv o)] m (RsP m c p v s.k bv (stepT c p v xs s) (opsT s o)) := by
  have a170 : assoc Grs11 170 = some F10.c_ref09_Head := rfl
  have a171 : assoc Grs11 171 = some F10.c_ref09_Tail := rfl
  have a172 : assoc Grs11 172 = some F10.c_ref09_Word := rfl
  have a173 : assoc Grs11 173 = some F10.c_ref09_Size := rfl
  have a175 : assoc Grs11 175 = some F10.c_ref09_Pack := rfl
  have a66 : assoc Grs11 66 = some F06.c_ref06_CAS := rfl
  have a201 : assoc Grs11 201 = some (amFunc [(169, F10.c_ref09_There)] ref09_NewLay) := rfl
  generalize Grs11 = G at a170 a171 a172 a173 a175 a66 a201 ⊢
  have hk0 : s.k = 0 := by rcases hok.k with hk | hk <;> omega
  have hz := rzero hly hk0
  subst hz
  have hone := slOne hs
  have hone2 := slOne hb
  simp only [AV.one] at hone hone2
  obtain ⟨a, w, bl, k, ly⟩ := s
  simp only at ha hk0 hb hnx
  subst ha; subst hk0
  obtain ⟨hth, hh⟩ := hok.a.resolve_left (by simp)
  have hh2 : sz w ≤ c.q ∧ (bl.length : Int) = halfI w ∧ 0 < bl.length := by
    rcases hh with h | h | h | h
    · simp at h
    · simp at h
    · exact h.2
    · simp at h
  have hw : W64 w := hok.w
  have hb2 := there_bounds hth.2.1
  have hcn := cellsN_le c
  have hxl := hx.1
  have hblen := hok.b
  simp only at hblen
  have hhb := hd_b hw
  have htb := tl_b w
  have hhw := half_b w
  have hs0 := sz_b w
  have ha0 := addr_b hth.2.1 (i := 0) (by omega) (by omega)
  have htl := fun m : MM => rtail_eq m hw
  have hhd := fun m : MM => rhead_eq m hw
  have hz0 := fun m : MM => rsize_eq m hw
  have hhalf := halfU (w := w)
  have hrw := fun m : MM => rword_eq m hth.2.1
  simp only [word_at hth.2.1, cfC] at hrw
  have hwt : (addrA c v 0).toNat = wrdN c v := rfl
  have hthr : thr xs (addrA c v 0) := ⟨by omega, by omega⟩
  have e1 : IntKind.u32.wrap (hd w + halfI w) = (hd w + halfI w) % 4294967296 := by rw [wrap32]
  have hpk := fun m : MM => rpack_eq m (h := (hd w + halfI w) % 4294967296) (t := tl w) (by omega) (by omega) htb.1 htb.2
  have hgw : pk ((hd w + halfI w) % 4294967296) (tl w) = gainN w (halfI w) := rfl
  generalize he : stepT c p v xs ⟨3, w, bl, 0, ly⟩ = sx
  have ho : opsT ⟨3, w, bl, 0, ly⟩ o = IntKind.u64.wrap (o + 1) := rfl
  rw [ho]
  simp only [stepT] at he
  rw [if_neg (by decide), if_neg (by decide), if_neg (by decide), if_pos trivial] at he
  refine Fn_of rfl ?_
  simp (disch := first | assumption | omega | (simp only [zl] <;> omega) | (simp only [zn])) only [ref11_Step, ↓zd, zk, Nat.reduceSub, Nat.reduceAdd, Nat.reduceMul, Nat.reduceLeDiff, Nat.reduceEqDiff, reduceIte, Int.reduceEq, Int.reduceBEq, Int.reduceLE, Int.reduceLT, Int.reduceNeg, Int.reduceAdd, Int.reduceSub, Int.reduceMul, List.map, AV.cells, List.all, AV.one, eqV, eqAll, splice, fillA, List.replicate, resAll, resA, zm, zg, rsC, zlC, rlC, zeroC, cfC, memC, hone, hone2, a173, hz0, hhalf, a170, hhd, a171, htl, a172, hrw, e1, a175, hpk, hgw, a66, F06.c_ref06_CAS]
  have hcas := fun K : MM => rcas_run (hs.keep (Keep.app m K)) (by omega) o hthr w (gainN w (halfI w))
  simp only [memC] at hcas
  refine OKT_fn (hcas _) ?_
  rintro _ m1 ⟨k1, v', rfl, s1⟩
  rw [hwt] at s1
  have km : Keep m m1 := (Keep.app m _).trans k1
  have g0 := k1.get (i := m.length) (by rw [get_mid0]; rfl)
  have g1 := k1.get (i := m.length + 1) (by rw [get_mid]; rfl)
  have g2 := k1.get (i := m.length + 2) (by rw [get_mid]; rfl)
  have g3 := k1.get (i := m.length + 3) (by rw [get_mid]; rfl)
  have g4 := k1.get (i := m.length + 4) (by rw [get_mid]; rfl)
  have hl1 : m.length + 4 < m1.length := (List.getElem?_eq_some_iff.1 g4).1
  have hone' := slOne s1
  simp only [AV.one] at hone'
  have hno : ∀ b, m.length ≤ b → b < m.length + 5 → ∀ ro L, m1[b]? ≠ some (.cells 1 ro L) := by
    intro b b1 b2 ro L hb
    rcases (show b = m.length ∨ b = m.length + 1 ∨ b = m.length + 2 ∨ b = m.length + 3 ∨ b = m.length + 4 by omega) with rfl | rfl | rfl | rfl | rfl
    · rw [g0] at hb; cases hb
    · rw [g1] at hb; cases hb
    · rw [g2] at hb; cases hb
    · rw [g3] at hb; cases hb
    · rw [g4] at hb; cases hb
  by_cases heq : xs.getD (wrdN c v) 0 = w
  · have hd : decide (xs.getD (addrA c v 0).toNat 0 = w) = true := by rw [hwt]; exact decide_eq_true heq
    rw [if_pos heq] at s1 he
    simp (disch := first | assumption | omega | (simp only [zl] <;> omega) | (simp only [zn])) only [↓zd, zk, Nat.reduceSub, Nat.reduceAdd, Nat.reduceMul, Nat.reduceLeDiff, Nat.reduceEqDiff, reduceIte, Int.reduceEq, Int.reduceBEq, Int.reduceLE, Int.reduceLT, Int.reduceNeg, Int.reduceAdd, Int.reduceSub, Int.reduceMul, List.map, AV.cells, List.all, AV.one, eqV, eqAll, splice, fillA, List.replicate, resAll, resA, zm, zg, memC, hd, g0, g1, g2, g3, g4, hone']
    obtain ⟨q, oo, nn, L, rfl, hq1⟩ : ∃ q oo nn L, bv = .sl q oo nn none ∧ m[q]? = some (.cells 1 false L) := by
      rcases hnx hh2.2.2 with h | ⟨q, oo, nn, L, h1, h2⟩
      · have hlen := hb.len
        rw [h] at hlen; simp only [lenA, Option.some.injEq] at hlen; omega
      · exact ⟨q, oo, nn, L, h1, h2⟩
    have hnn : nn = bl.length := by have hlen := hb.len; simpa only [lenA, Option.some.injEq] using hlen
    subst hnn
    have hql := (List.getElem?_eq_some_iff.1 hq1).1
    obtain ⟨B, hB⟩ : ∃ B : MM, B = (((m1.set (m.length + 4) (.cells 2 false (memC v' (IntKind.u64.wrap (o + 1))))).set (m.length + 1) (.cells 2 false (memC v' (IntKind.u64.wrap (o + 1))))).set m.length (.cells 24 false (rsC c p v 1 w (.sl q oo bl.length none) 0 zlC))).set m.length (.cells 24 false (rsC c p v 1 w (.sl q oo bl.length none) (halfI w) zlC)) := ⟨_, rfl⟩
    have b0 : B[m.length]? = some (.cells 24 false (rsC c p v 1 w (.sl q oo bl.length none) (halfI w) zlC)) := by rw [hB, List.getElem?_set_self (by simp only [List.length_set]; omega)]
    have b1 : B[m.length + 1]? = some (.cells 2 false (memC v' (IntKind.u64.wrap (o + 1)))) := by rw [hB, List.getElem?_set_ne (by omega), List.getElem?_set_ne (by omega), List.getElem?_set_self (by simp only [List.length_set]; omega)]
    have b2 : B[m.length + 2]? = some (.cells 24 false (rsC zeroC 0 0 0 0 .nils 0 zlC)) := by rw [hB, List.getElem?_set_ne (by omega), List.getElem?_set_ne (by omega), List.getElem?_set_ne (by omega), List.getElem?_set_ne (by omega)]; exact g2
    have b3 : B[m.length + 3]? = some (.cells 2 false [.nils, .int .u64 0]) := by rw [hB, List.getElem?_set_ne (by omega), List.getElem?_set_ne (by omega), List.getElem?_set_ne (by omega), List.getElem?_set_ne (by omega)]; exact g3
    have kB : Keep m B := by rw [hB]; exact (((km.set (by omega) _).set (by omega) _).set (Nat.le_refl _) _).set (Nat.le_refl _) _
    have sB : SLN m.length (m.length + 5) B false (xs.set (wrdN c v) (gainN w (halfI w))).length (uC (xs.set (wrdN c v) (gainN w (halfI w)))) v' := by
      rw [hB]
      repeat' first | exact ⟨s1, hno⟩ | refine SLN.set ?_ (by omega) (by omega) (by intro _ _ h; cases h)
    simp only [rsC, zlC, rlC, zeroC, memC, cfC, List.cons_append, List.nil_append] at hB b0 b1 b2 b3
    rw [← hB]
    clear hB g0 g1 g2 g3 g4 hno s1 k1 km hcas hrw hpk
    have hq2 := kB.get hq1
    have hbB := hb.keep kB
    have hnB := (hnx hh2.2.2).keep kB
    have hdr := (si_drop (k := 1) hbB hnB (by omega)).2
    rw [List.drop_one] at hdr
    have ht1 : Int.toNat 1 = 1 := rfl
    simp (disch := first | assumption | omega | (simp only [zl] <;> omega) | (simp only [zn])) only [↓zd, zk, Nat.reduceSub, Nat.reduceAdd, Nat.reduceMul, Nat.reduceLeDiff, Nat.reduceEqDiff, reduceIte, Int.reduceEq, Int.reduceBEq, Int.reduceLE, Int.reduceLT, Int.reduceNeg, Int.reduceAdd, Int.reduceSub, Int.reduceMul, List.map, AV.cells, List.all, AV.one, eqV, eqAll, splice, fillA, List.replicate, resAll, resA, zm, zg, evA, sliceA, getC_gcO, Option.getD_none, Option.getD_some, hq2, ht1, Nat.mul_one, a201]
    have hrn := rlnew_run (c := c) (p := p) hdr (by rw [List.length_tail]; omega)
    simp only [cfC, List.cons_append, List.nil_append] at hrn
    refine OK_fn hrn ?_
    rintro _ m2 ⟨k2, lv, rfl, sl2, nx2, fr2⟩
    rw [(lcC_ok hth.1).1, (lcC_ok hth.1).2]
    have honel := slOne sl2
    simp only [AV.one] at honel
    have hfr : Fr m.length lv := by
      rcases fr2 with h | ⟨q', o', n', c', h, h'⟩
      · exact .inl h
      · exact .inr ⟨q', o', n', c', h, Nat.le_trans kB.1 h'⟩
    generalize newL c p bl.tail = nl at he sl2 nx2
    have c0 := k2.get b0
    have c1 := k2.get b1
    have c2 := k2.get b2
    have c3 := k2.get b3
    have l3 : m.length + 3 < m2.length := (List.getElem?_eq_some_iff.1 c3).1
    have kM := kB.trans k2
    have sM := sB.sl.keep k2
    have hbM := hbB.keep k2
    have hnM := hnB.keep k2
    have hno2 : ∀ b, m.length ≤ b → b < m.length + 4 → ∀ ro L, m2[b]? ≠ some (.cells 1 ro L) := by
      intro b b1 b2 ro L hb
      rcases (show b = m.length ∨ b = m.length + 1 ∨ b = m.length + 2 ∨ b = m.length + 3 by omega) with rfl | rfl | rfl | rfl
      · rw [c0] at hb; cases hb
      · rw [c1] at hb; cases hb
      · rw [c2] at hb; cases hb
      · rw [c3] at hb; cases hb
    have hb0 : LNx m.length (m.length + 4) m2 bl (.sl q oo bl.length none) := ⟨hbM, fun _ => hnM, hno2⟩
    have hb1 : LNx m.length (m.length + 4) m2 nl.ls lv := ⟨sl2, nx2, hno2⟩
    by_cases h1 : bl.length = 1
    · have h1' : halfI w = 1 := by omega
      simp (disch := first | assumption | omega | (simp only [zl] <;> omega) | (simp only [zn])) only [↓zd, zk, Nat.reduceSub, Nat.reduceAdd, Nat.reduceMul, Nat.reduceLeDiff, Nat.reduceEqDiff, reduceIte, Int.reduceEq, Int.reduceBEq, Int.reduceLE, Int.reduceLT, Int.reduceNeg, Int.reduceAdd, Int.reduceSub, Int.reduceMul, List.map, AV.cells, List.all, AV.one, eqV, eqAll, splice, fillA, List.replicate, resAll, resA, zm, zg, rlC, cfC, c0, c1, c2, c3, honel, hone', h1']
      rw [if_pos h1] at he
      subst he
      refine ⟨?_, .sl q oo bl.length none, rlC c p nl lv, v', ?_, LNx.sl (lo := m.length) (hi := m.length + 4) ?_, LNx.nx (lo := m.length) (hi := m.length + 4) ?_, .inl rfl, .inr ⟨by show (0 : Int) < (bl.length : Int); omega, lv, rfl, LNx.sl (lo := m.length) (hi := m.length + 4) ?_, LNx.nx (lo := m.length) (hi := m.length + 4) ?_, fun _ => hfr⟩, SLN.sl (lo := m.length) (hi := m.length + 4) ?_⟩
      · repeat' first | exact kM | refine Keep.set ?_ (by omega) _
      · show _ = AV.tup [.agg (rsC c p v 0 w (.sl q oo bl.length none) (bl.length : Int) (rlC c p nl lv)), .agg (memC v' (IntKind.u64.wrap (o + 1)))]
        rw [hh2.2.1, h1']; rfl
      · repeat' first | exact hb0 | refine LNx.set ?_ (by omega) (by omega) (by intro _ _ h; cases h)
      · repeat' first | exact hb0 | refine LNx.set ?_ (by omega) (by omega) (by intro _ _ h; cases h)
      · repeat' first | exact hb1 | refine LNx.set ?_ (by omega) (by omega) (by intro _ _ h; cases h)
      · repeat' first | exact hb1 | refine LNx.set ?_ (by omega) (by omega) (by intro _ _ h; cases h)
      · repeat' first | exact ⟨sM, hno2⟩ | refine SLN.set ?_ (by omega) (by omega) (by intro _ _ h; cases h)
    · have h1' : ¬ (halfI w = 1) := by omega
      simp (disch := first | assumption | omega | (simp only [zl] <;> omega) | (simp only [zn])) only [↓zd, zk, Nat.reduceSub, Nat.reduceAdd, Nat.reduceMul, Nat.reduceLeDiff, Nat.reduceEqDiff, reduceIte, Int.reduceEq, Int.reduceBEq, Int.reduceLE, Int.reduceLT, Int.reduceNeg, Int.reduceAdd, Int.reduceSub, Int.reduceMul, List.map, AV.cells, List.all, AV.one, eqV, eqAll, splice, fillA, List.replicate, resAll, resA, zm, zg, rlC, cfC, c0, c1, c2, c3, honel, hone', h1']
      rw [if_neg h1] at he
      subst he
      refine ⟨?_, .sl q oo bl.length none, rlC c p nl lv, v', ?_, LNx.sl (lo := m.length) (hi := m.length + 4) ?_, LNx.nx (lo := m.length) (hi := m.length + 4) ?_, .inl rfl, .inr ⟨by show (0 : Int) < (bl.length : Int); omega, lv, rfl, LNx.sl (lo := m.length) (hi := m.length + 4) ?_, LNx.nx (lo := m.length) (hi := m.length + 4) ?_, fun _ => hfr⟩, SLN.sl (lo := m.length) (hi := m.length + 4) ?_⟩
      · repeat' first | exact kM | refine Keep.set ?_ (by omega) _
      · show _ = AV.tup [.agg (rsC c p v 4 w (.sl q oo bl.length none) (bl.length : Int) (rlC c p nl lv)), .agg (memC v' (IntKind.u64.wrap (o + 1)))]
        rw [hh2.2.1]; rfl
      · repeat' first | exact hb0 | refine LNx.set ?_ (by omega) (by omega) (by intro _ _ h; cases h)
      · repeat' first | exact hb0 | refine LNx.set ?_ (by omega) (by omega) (by intro _ _ h; cases h)
      · repeat' first | exact hb1 | refine LNx.set ?_ (by omega) (by omega) (by intro _ _ h; cases h)
      · repeat' first | exact hb1 | refine LNx.set ?_ (by omega) (by omega) (by intro _ _ h; cases h)
      · repeat' first | exact ⟨sM, hno2⟩ | refine SLN.set ?_ (by omega) (by omega) (by intro _ _ h; cases h)
  · have hd : decide (xs.getD (addrA c v 0).toNat 0 = w) = false := by rw [hwt]; exact decide_eq_false heq
    rw [if_neg heq] at s1 he
    subst he
    simp (disch := first | assumption | omega | (simp only [zl] <;> omega) | (simp only [zn])) only [↓zd, zk, Nat.reduceSub, Nat.reduceAdd, Nat.reduceMul, Nat.reduceLeDiff, Nat.reduceEqDiff, reduceIte, Int.reduceEq, Int.reduceBEq, Int.reduceLE, Int.reduceLT, Int.reduceNeg, Int.reduceAdd, Int.reduceSub, Int.reduceMul, List.map, AV.cells, List.all, AV.one, eqV, eqAll, splice, fillA, List.replicate, resAll, resA, zm, zg, memC, hd, g0, g1, g2, g3, g4, hone']
    refine ⟨?_, .nils, zlC, v', rfl, Sl.nil, fun _ => .inl rfl, .inr (.inl rfl), .inl ⟨rfl, rfl⟩, SLN.sl (lo := m.length) (hi := m.length + 5) ?_⟩
    · repeat' first | exact km | refine Keep.set ?_ (by omega) _
    · repeat' first | exact ⟨s1, hno⟩ | refine SLN.set ?_ (by omega) (by omega) (by intro _ _ h; cases h)
set_option maxHeartbeats 16000000 in
theorem rsstep4 {m : MM} {wr : Bool} {c : Cf} {p v o : Int} {s : TS} {xs : List Int} {mv bv : AV} {ly : List AV} {F : AV → Prop} (hs : SU m wr xs mv) (hb : SI m false s.bl bv) (hnx : 0 < s.bl.length → Nx m bv) (hly : RLy m c p s F ly) (hok : TOk c p v s) (hx : OkL c xs) (ha : s.a = 4) :
    Fn Grs11 ref11_Step [.agg (rsC c p v s.a s.w bv s.k ly), .agg (memC mv o)] m (RsP m c p v s.k bv (stepT c p v xs s) (opsT s o)) := by
  have a170 : assoc Grs11 170 = some F10.c_ref09_Head := rfl
  have a171 : assoc Grs11 171 = some F10.c_ref09_Tail := rfl
  have a173 : assoc Grs11 173 = some F10.c_ref09_Size := rfl
  have a202 : assoc Grs11 202 = some (amFunc Grl2 ref09_StepLay) := rfl
  generalize Grs11 = G at a170 a171 a173 a202 ⊢
  obtain ⟨k1, k2, k3, k4, k5⟩ := hok.k.resolve_left (by omega)
  obtain ⟨_, lv, rfl, sl, nx, _⟩ := hly.resolve_left (fun h => by omega)
  have hone := slOne hs
  have hone2 := slOne hb
  have honel := slOne sl
  simp only [AV.one] at hone hone2 honel
  have e : stepT c p v xs s = ({ s with ly := (stepL c p xs s.ly).1, a := if (stepL c p xs s.ly).1.a = 0 then 0 else 4 }, (stepL c p xs s.ly).2) := by
    rw [stepT, if_neg (by omega), if_neg (by omega), if_neg (by omega), if_neg (by omega)]
  have e2 : opsT s o = opsL s.ly o := by rw [opsT, if_neg (by omega), if_pos ha]
  rw [e, e2]
  obtain ⟨a, w, bl, k, ly⟩ := s
  simp only at ha hb hnx k1 k2 k4 sl nx
  subst ha
  have hw : W64 w := hok.w
  have htl := fun m : MM => rtail_eq m hw
  have hhd := fun m : MM => rhead_eq m hw
  have hz0 := fun m : MM => rsize_eq m hw
  have hhalf := halfU (w := w)
  refine Fn_of rfl ?_
  simp (disch := first | assumption | omega | (simp only [zl] <;> omega) | (simp only [zn])) only [ref11_Step, ↓zd, zk, Nat.reduceSub, Nat.reduceAdd, Nat.reduceMul, Nat.reduceLeDiff, Nat.reduceEqDiff, reduceIte, Int.reduceEq, Int.reduceBEq, Int.reduceLE, Int.reduceLT, Int.reduceNeg, Int.reduceAdd, Int.reduceSub, Int.reduceMul, List.map, AV.cells, List.all, AV.one, eqV, eqAll, splice, fillA, List.replicate, resAll, resA, zm, zg, rsC, rlC, cfC, memC, hone, hone2, honel, a173, hz0, hhalf, a170, hhd, a171, htl, a202]
  have hrl := fun K : MM => rlstep_run (o := o) (hs.keep (Keep.app m K)) (sl.keep (Keep.app m K)) (fun h => (nx h).keep (Keep.app m K)) k4 (.inr hx)
  simp only [memC, rlC, cfC, List.cons_append, List.nil_append] at hrl
  refine OK_fn (hrl _) ?_
  rintro _ m1 ⟨kk, lv', v', rfl, sl', nx', su'⟩
  generalize stepL c p xs ly = y at sl' nx' su' ⊢
  have km : Keep m m1 := (Keep.app m _).trans kk
  have g0 := kk.get (i := m.length) (by rw [get_mid0]; rfl)
  have g1 := kk.get (i := m.length + 1) (by rw [get_mid]; rfl)
  have g2 := kk.get (i := m.length + 2) (by rw [get_mid]; rfl)
  have g3 := kk.get (i := m.length + 3) (by rw [get_mid]; rfl)
  have hl1 : m.length + 3 < m1.length := (List.getElem?_eq_some_iff.1 g3).1
  have hone' := slOne su'
  have honel' := slOne sl'
  simp only [AV.one] at hone' honel'
  have hno : ∀ b, m.length ≤ b → b < m.length + 4 → ∀ ro L, m1[b]? ≠ some (.cells 1 ro L) := by
    intro b b1 b2 ro L hb
    rcases (show b = m.length ∨ b = m.length + 1 ∨ b = m.length + 2 ∨ b = m.length + 3 by omega) with rfl | rfl | rfl | rfl
    · rw [g0] at hb; cases hb
    · rw [g1] at hb; cases hb
    · rw [g2] at hb; cases hb
    · rw [g3] at hb; cases hb
  have hb0 : LNx m.length (m.length + 4) m1 bl bv := ⟨hb.keep km, fun h => (hnx h).keep km, hno⟩
  have hb1 : LNx m.length (m.length + 4) m1 y.1.ls lv' := ⟨sl', nx', hno⟩
  by_cases hy : y.1.a = 0
  · simp (disch := first | assumption | omega | (simp only [zl] <;> omega) | (simp only [zn])) only [↓zd, zk, Nat.reduceSub, Nat.reduceAdd, Nat.reduceMul, Nat.reduceLeDiff, Nat.reduceEqDiff, reduceIte, Int.reduceEq, Int.reduceBEq, Int.reduceLE, Int.reduceLT, Int.reduceNeg, Int.reduceAdd, Int.reduceSub, Int.reduceMul, List.map, AV.cells, List.all, AV.one, eqV, eqAll, splice, fillA, List.replicate, resAll, resA, zm, zg, memC, rlC, cfC, hy, g0, g1, g2, g3, hone', honel']
    refine ⟨?_, bv, rlC c p y.1 lv', v', ?_, LNx.sl (lo := m.length) (hi := m.length + 4) ?_, LNx.nx (lo := m.length) (hi := m.length + 4) ?_, .inl rfl, .inr ⟨k1, lv', rfl, LNx.sl (lo := m.length) (hi := m.length + 4) ?_, LNx.nx (lo := m.length) (hi := m.length + 4) ?_, fun h => absurd h (by show ¬ (k = 0); omega)⟩, SLN.sl (lo := m.length) (hi := m.length + 4) ?_⟩
    · repeat' first | exact km | refine Keep.set ?_ (by omega) _
    · rw [rlC, hy]; rfl
    · repeat' first | exact hb0 | refine LNx.set ?_ (by omega) (by omega) (by intro _ _ h; cases h)
    · repeat' first | exact hb0 | refine LNx.set ?_ (by omega) (by omega) (by intro _ _ h; cases h)
    · repeat' first | exact hb1 | refine LNx.set ?_ (by omega) (by omega) (by intro _ _ h; cases h)
    · repeat' first | exact hb1 | refine LNx.set ?_ (by omega) (by omega) (by intro _ _ h; cases h)
    · repeat' first | exact ⟨su', hno⟩ | refine SLN.set ?_ (by omega) (by omega) (by intro _ _ h; cases h)
  · simp (disch := first | assumption | omega | (simp only [zl] <;> omega) | (simp only [zn])) only [↓zd, zk, Nat.reduceSub, Nat.reduceAdd, Nat.reduceMul, Nat.reduceLeDiff, Nat.reduceEqDiff, reduceIte, Int.reduceEq, Int.reduceBEq, Int.reduceLE, Int.reduceLT, Int.reduceNeg, Int.reduceAdd, Int.reduceSub, Int.reduceMul, List.map, AV.cells, List.all, AV.one, eqV, eqAll, splice, fillA, List.replicate, resAll, resA, zm, zg, memC, rlC, cfC, hy, g0, g1, g2, g3, hone', honel']
    refine ⟨?_, bv, rlC c p y.1 lv', v', ?_, LNx.sl (lo := m.length) (hi := m.length + 4) ?_, LNx.nx (lo := m.length) (hi := m.length + 4) ?_, .inl rfl, .inr ⟨k1, lv', rfl, LNx.sl (lo := m.length) (hi := m.length + 4) ?_, LNx.nx (lo := m.length) (hi := m.length + 4) ?_, fun h => absurd h (by show ¬ (k = 0); omega)⟩, SLN.sl (lo := m.length) (hi := m.length + 4) ?_⟩
    · repeat' first | exact km | refine Keep.set ?_ (by omega) _
    · rfl
    · repeat' first | exact hb0 | refine LNx.set ?_ (by omega) (by omega) (by intro _ _ h; cases h)
    · repeat' first | exact hb0 | refine LNx.set ?_ (by omega) (by omega) (by intro _ _ h; cases h)
    · repeat' first | exact hb1 | refine LNx.set ?_ (by omega) (by omega) (by intro _ _ h; cases h)
    · repeat' first | exact hb1 | refine LNx.set ?_ (by omega) (by omega) (by intro _ _ h; cases h)
    · repeat' first | exact ⟨su', hno⟩ | refine SLN.set ?_ (by omega) (by omega) (by intro _ _ h; cases h)
theorem rsstep_run {m : MM} {wr : Bool} {c : Cf} {p v o : Int} {s : TS} {xs : List Int} {mv bv : AV} {ly : List AV} {F : AV → Prop} (hs : SU m wr xs mv) (hb : SI m false s.bl bv) (hnx : 0 < s.bl.length → Nx m bv) (hly : RLy m c p s F ly) (hok : TOk c p v s) (hx0 : s.a = 0 ∨ OkL c xs) :
    Fn Grs11 ref11_Step [.agg (rsC c p v s.a s.w bv s.k ly), .agg (memC mv o)] m (RsP m c p v s.k bv (stepT c p v xs s) (opsT s o)) := by
  by_cases h0 : s.a = 0
  · have e : stepT c p v xs s = (s, xs) := if_pos h0
    have e2 : opsT s o = o := if_pos h0
    rw [e, e2]
    have a170 : assoc Grs11 170 = some F10.c_ref09_Head := rfl
    have a171 : assoc Grs11 171 = some F10.c_ref09_Tail := rfl
    have a173 : assoc Grs11 173 = some F10.c_ref09_Size := rfl
    generalize Grs11 = G at a170 a171 a173 ⊢
    have hw : W64 s.w := hok.w
    have htl := fun m : MM => rtail_eq m hw
    have hhd := fun m : MM => rhead_eq m hw
    have hz0 := fun m : MM => rsize_eq m hw
    have hhalf := halfU (w := s.w)
    have hone := slOne hs
    have hone2 := slOne hb
    simp only [AV.one] at hone hone2
    obtain ⟨c', p', l', lv, hl1, hl2⟩ : ∃ c' p' l' lv, ly = rlC c' p' l' lv ∧ lv.one = true := by
      rcases hly with ⟨_, h⟩ | ⟨_, lv, h, h1, _⟩
      · exact ⟨_, _, _, _, h, rfl⟩
      · exact ⟨_, _, _, lv, h, slOne h1⟩
    have hly' : ∀ K : MM, RLy (m ++ K) c p s (fun lv => s.k = 0 → Fr m.length lv) ly := fun K => by
      rcases hly with h | ⟨h1, lv, h, h2, h3, _⟩
      · exact .inl h
      · exact .inr ⟨h1, lv, h, h2.keep (.app _ _), fun h0 => (h3 h0).keep (.app _ _), fun h0 => by omega⟩
    subst hl1
    simp only [AV.one] at hl2
    refine Fn_of rfl ?_
    simp (disch := first | assumption | omega | (simp only [zl] <;> omega) | (simp only [zn])) only [ref11_Step, ↓zd, zk, Nat.reduceSub, Nat.reduceAdd, Nat.reduceMul, Nat.reduceLeDiff, Nat.reduceEqDiff, reduceIte, Int.reduceEq, Int.reduceBEq, Int.reduceLE, Int.reduceLT, Int.reduceNeg, Int.reduceAdd, Int.reduceSub, Int.reduceMul, List.map, AV.cells, List.all, AV.one, eqV, eqAll, splice, fillA, List.replicate, resAll, resA, zm, zg, rsC, rlC, cfC, memC, hone, hone2, hl2, a173, hz0, hhalf, a170, hhd, a171, htl, h0]
    refine ⟨Keep.app _ _, bv, rlC c' p' l' lv, mv, ?_, hb.keep (.app _ _), fun h => (hnx h).keep (.app _ _), .inl rfl, hly' _, (hs.keep (.app _ _)).ro⟩
    rw [rsC, rlC, cfC, cfC, h0]; rfl
  · have hx := hx0.resolve_left h0
    rcases (show s.a = 1 ∨ s.a = 2 ∨ s.a = 3 ∨ s.a = 4 by have h := (hok.a.resolve_left h0).2; omega) with h1 | h1 | h1 | h1
    · exact rsstep1 hs hb hly hok hx h1
    · exact rsstep2 hs hb hly hok hx h1
    · exact rsstep3 hs hb hnx hly hok hx h1
    · exact rsstep4 hs hb hnx hly hok hx h1
end Go.Am.F11
end
section
namespace Go.Am.F11
open Go.Am.F06 Go.Am.F10 Go.Am.F09
def newT (c : Cf) (p v : Int) : TS := ⟨if thereS c p v then 1 else 0, 0, [], 0, ⟨0, 0, 0, 0, []⟩⟩
theorem newT_ok (c : Cf) (p v : Int) : TOk c p v (newT c p v) := by
  unfold newT
  refine ⟨(show W64 0 by unfold W64; omega), ?_, .inl ⟨rfl, ?_⟩, by simp⟩
  · by_cases h : thereS c p v
    · rw [if_pos h]; exact .inr ⟨h, .inl rfl⟩
    · rw [if_neg h]; exact .inl rfl
  · simp only; split <;> decide
theorem newT_TM {m : MM} {P : Nat → Prop} {c : Cf} {p v : Int} {xj : Nat} (hP : P xj) (h : m[xj]? = some (.cells 13 false (stC c p v (if thereS c p v then 1 else 0) 0 .nilp .nils 0))) : TM m P c p v xj (newT c p v) := by
  refine ⟨hP, .nilp, .nils, h, .inl ⟨rfl, rfl, ?_, ?_, rfl⟩, .inl ⟨rfl, rfl⟩⟩ <;> · unfold newT; simp only; split <;> decide
def nsC (c : Cf) (p v : Int) : Cf := if thereS c p v then c else zeroC
def nsI (c : Cf) (p v x : Int) : Int := if thereS c p v then x else 0
set_option maxHeartbeats 8000000 in
theorem rsnew_run {m : MM} (c : Cf) (p v : Int) : Fn [(169, F10.c_ref09_There)] ref11_New [.agg (cfC c), .int .i64 p, .int .i64 v] m (fun r m' => Keep m m' ∧ r = .agg (rsC (nsC c p v) (nsI c p v p) (nsI c p v v) (newT c p v).a 0 .nils 0 zlC)) := by
  have a169 : assoc [(169, F10.c_ref09_There (X := Ob))] 169 = some F10.c_ref09_There := rfl
  generalize [(169, F10.c_ref09_There (X := Ob))] = G at a169 ⊢
  have hr := fun (K : MM) (p : Int) => rthere_eq (m ++ K) c p
  simp only [cfC, List.append_assoc, List.cons_append, List.nil_append] at hr
  unfold nsC nsI newT
  refine Fn_of rfl ?_
  by_cases t1 : thereP c p
  · have r1 := fun K => hr K p
    simp only [decide_eq_true t1] at r1
    by_cases t2 : thereP c v
    · have r2 := fun K => hr K v
      simp only [decide_eq_true t2] at r2
      by_cases t3 : p = v
      · have hn : ¬ thereS c p v := fun h => h.2.2 t3
        rw [if_neg hn, if_neg hn, if_neg hn]
        simp only [if_neg hn]
        subst t3
        simp (disch := first | assumption | omega | (simp only [zl] <;> omega) | (simp only [zn])) only [ref11_New, ↓zd, zk, Nat.reduceSub, Nat.reduceAdd, Nat.reduceMul, Nat.reduceLeDiff, Nat.reduceEqDiff, reduceIte, Int.reduceEq, Int.reduceBEq, Int.reduceLE, Int.reduceLT, Int.reduceNeg, Int.reduceAdd, Int.reduceSub, Int.reduceMul, List.map, AV.cells, List.all, AV.one, eqV, eqAll, splice, fillA, List.replicate, resAll, resA, zm, zg, cfC, a169, r1]
        exact ⟨.app _ _, rfl⟩
      · have hn : thereS c p v := ⟨t1, t2, t3⟩
        rw [if_pos hn, if_pos hn, if_pos hn]
        simp only [if_pos hn]
        simp (disch := first | assumption | omega | (simp only [zl] <;> omega) | (simp only [zn])) only [ref11_New, ↓zd, zk, Nat.reduceSub, Nat.reduceAdd, Nat.reduceMul, Nat.reduceLeDiff, Nat.reduceEqDiff, reduceIte, Int.reduceEq, Int.reduceBEq, Int.reduceLE, Int.reduceLT, Int.reduceNeg, Int.reduceAdd, Int.reduceSub, Int.reduceMul, List.map, AV.cells, List.all, AV.one, eqV, eqAll, splice, fillA, List.replicate, resAll, resA, zm, zg, cfC, a169, r1, r2, t3]
        exact ⟨.app _ _, rfl⟩
    · have r2 := fun K => hr K v
      simp only [decide_eq_false t2] at r2
      have hn : ¬ thereS c p v := fun h => t2 h.2.1
      rw [if_neg hn, if_neg hn, if_neg hn]
      simp only [if_neg hn]
      simp (disch := first | assumption | omega | (simp only [zl] <;> omega) | (simp only [zn])) only [ref11_New, ↓zd, zk, Nat.reduceSub, Nat.reduceAdd, Nat.reduceMul, Nat.reduceLeDiff, Nat.reduceEqDiff, reduceIte, Int.reduceEq, Int.reduceBEq, Int.reduceLE, Int.reduceLT, Int.reduceNeg, Int.reduceAdd, Int.reduceSub, Int.reduceMul, List.map, AV.cells, List.all, AV.one, eqV, eqAll, splice, fillA, List.replicate, resAll, resA, zm, zg, cfC, a169, r1, r2]
      exact ⟨.app _ _, rfl⟩
  · have r1 := fun K => hr K p
    simp only [decide_eq_false t1] at r1
    have hn : ¬ thereS c p v := fun h => t1 h.1
    rw [if_neg hn, if_neg hn, if_neg hn]
    simp only [if_neg hn]
    simp (disch := first | assumption | omega | (simp only [zl] <;> omega) | (simp only [zn])) only [ref11_New, ↓zd, zk, Nat.reduceSub, Nat.reduceAdd, Nat.reduceMul, Nat.reduceLeDiff, Nat.reduceEqDiff, reduceIte, Int.reduceEq, Int.reduceBEq, Int.reduceLE, Int.reduceLT, Int.reduceNeg, Int.reduceAdd, Int.reduceSub, Int.reduceMul, List.map, AV.cells, List.all, AV.one, eqV, eqAll, splice, fillA, List.replicate, resAll, resA, zm, zg, cfC, a169, r1]
    exact ⟨.app _ _, rfl⟩
def RcT (c c' : Cf) (p p' v v' : Int) (s : TS) : Prop := (c' = c ∧ p' = p ∧ v' = v) ∨ (s.a = 0 ∧ s.k = 0)
theorem RcT.ok {c c' : Cf} {p p' v v' : Int} {s : TS} (h : RcT c c' p p' v v' s) (hok : TOk c p v s) : TOk c' p' v' s := by
  rcases h with ⟨rfl, rfl, rfl⟩ | ⟨h1, h2⟩
  · exact hok
  · exact ⟨hok.w, .inl h1, .inl ⟨h2, by omega⟩, hok.b⟩
theorem RcT.st {c c' : Cf} {p p' v v' : Int} {s : TS} (h : RcT c c' p p' v v' s) (xs : List Int) : stepT c' p' v' xs s = stepT c p v xs s := by
  rcases h with ⟨rfl, rfl, rfl⟩ | ⟨h1, h2⟩
  · rfl
  · rw [stepT, if_pos h1, stepT, if_pos h1]
theorem RcT.step {c c' : Cf} {p p' v v' : Int} {s : TS} (h : RcT c c' p p' v v' s) (xs : List Int) : RcT c c' p p' v v' (stepT c p v xs s).1 := by
  rcases h with h | ⟨h1, h2⟩
  · exact .inl h
  · rw [stepT, if_pos h1]; exact .inr ⟨h1, h2⟩
theorem RcT.new (c : Cf) (p v : Int) : RcT c (nsC c p v) p (nsI c p v p) v (nsI c p v v) (newT c p v) := by
  unfold nsC nsI newT
  by_cases h : thereS c p v
  · simp only [if_pos h]; exact .inl ⟨rfl, rfl, rfl⟩
  · simp only [if_neg h]; exact .inr ⟨rfl, rfl⟩
set_option maxHeartbeats 8000000 in
theorem rhands_run {m : MM} {c : Cf} {p v : Int} {s : TS} {bv : AV} {ly : List AV} {F : AV → Prop} (hb : SI m false s.bl bv) (hly : RLy m c p s F ly) (hok : TOk c p v s) : Fn [] ref11_Hands [.agg (rsC c p v s.a s.w bv s.k ly)] m (fun r m' => Keep m m' ∧ SI m' true (handsT s) r) := by
  have hone2 := slOne hb
  simp only [AV.one] at hone2
  refine Fn_of rfl ?_
  unfold handsT
  by_cases hk : s.k = 0
  · have hz := rzero hly hk
    subst hz
    rw [if_pos hk]
    simp (disch := first | assumption | omega | (simp only [zl] <;> omega) | (simp only [zn])) only [ref11_Hands, ↓zd, zk, Nat.reduceSub, Nat.reduceAdd, Nat.reduceMul, Nat.reduceLeDiff, Nat.reduceEqDiff, reduceIte, Int.reduceEq, Int.reduceBEq, Int.reduceLE, Int.reduceLT, Int.reduceNeg, Int.reduceAdd, Int.reduceSub, Int.reduceMul, List.map, AV.cells, List.all, AV.one, eqV, eqAll, splice, fillA, List.replicate, resAll, resA, zm, zg, rsC, zlC, rlC, zeroC, cfC, hone2, hk]
    exact ⟨.app _ _, Sl.nil⟩
  · rw [if_neg hk]
    obtain ⟨k1, k2, k3, k4, k5⟩ := hok.k.resolve_left (by omega)
    obtain ⟨_, lv, rfl, sl, nx, _⟩ := hly.resolve_left (fun h => hk h.1)
    have honel := slOne sl
    simp only [AV.one] at honel
    have hbb := hok.b
    have hls := k4.l
    have hlen := hb.len
    obtain ⟨q, oo, cap, ro, L, rfl, b2, b3, b4, b5⟩ := hb.val (by omega)
    obtain ⟨x, hx⟩ : ∃ x, s.bl[0]? = some x := ⟨_, List.getElem?_eq_getElem (by omega)⟩
    have b6 := b5 0 x hx
    rw [Nat.add_zero] at b6
    have htk : s.bl.take 1 = [x] := by
      cases hbl : s.bl with
      | nil => rw [hbl] at hx; cases hx
      | cons y t => rw [hbl] at hx; injection hx with hx; subst hx; rfl
    rw [htk]
    have b2' := fun K : MM => (Keep.app m K).get b2
    simp (disch := first | assumption | omega | (simp only [zl] <;> omega) | (simp only [zn])) only [ref11_Hands, ↓zd, zk, Nat.reduceSub, Nat.reduceAdd, Nat.reduceMul, Nat.reduceLeDiff, Nat.reduceEqDiff, reduceIte, Int.reduceEq, Int.reduceBEq, Int.reduceLE, Int.reduceLT, Int.reduceNeg, Int.reduceAdd, Int.reduceSub, Int.reduceMul, List.map, AV.cells, List.all, AV.one, eqV, eqAll, splice, fillA, List.replicate, resAll, resA, zm, zg, rsC, rlC, cfC, hone2, honel, hk, b2, b2', b6]
    obtain ⟨M, hM⟩ : ∃ M : MM, M = m ++ [Chunk.cells 24 false (rsC c p v s.a s.w (.sl q oo s.bl.length cap) s.k (rlC c p s.ly lv))] := ⟨_, rfl⟩
    have g0 : M[m.length]? = some (.cells 24 false (rsC c p v s.a s.w (.sl q oo s.bl.length cap) s.k (rlC c p s.ly lv))) := by rw [hM, get_mid0]; rfl
    have kM : Keep m M := by rw [hM]; exact .app _ _
    have lM : M.length = m.length + 1 := by rw [hM]; simp
    have hM' : m ++ [Chunk.cells 24 false (rsC c p v s.a s.w (.sl q oo s.bl.length cap) s.k (rlC c p s.ly lv)), Chunk.cells 1 false [.int .i64 x]] = M ++ [Chunk.cells 1 false [.int .i64 x]] := by rw [hM]; simp
    simp only [rsC, rlC, cfC, List.cons_append, List.nil_append] at hM' g0
    obtain ⟨l1, M1, hap1, ow1, ln1, f1⟩ := own_push2 (m0 := M) (m := M) (xs := []) own_nil x (by simp) (Nat.le_refl _)
    have k1' : Keep M M1 := ⟨ln1, fun i hi => f1 i hi (.inr hi)⟩
    rw [lM] at hap1
    rw [List.nil_append] at ow1
    obtain ⟨l2, M2, hap2, ow2, ln2, f2⟩ := own_pushs ow1 ((sl.keep kM).keep k1') (by simp) (by omega) ln1
    have k2' : Keep M M2 := ⟨by omega, fun i hi => by rw [f2 i (by omega) (.inr hi), k1'.2 i hi]⟩
    have h0 := k1'.get g0
    simp (disch := first | assumption | omega | (simp only [zl] <;> omega) | (simp only [zn])) only [↓zd, zk, Nat.reduceSub, Nat.reduceAdd, Nat.reduceMul, Nat.reduceLeDiff, Nat.reduceEqDiff, reduceIte, Int.reduceEq, Int.reduceBEq, Int.reduceLE, Int.reduceLT, Int.reduceNeg, Int.reduceAdd, Int.reduceSub, Int.reduceMul, List.map, AV.cells, List.all, AV.one, eqV, eqAll, splice, fillA, List.replicate, resAll, resA, zm, zg, evA, fillA, repeatL, List.flatten_cons, List.flatten_nil, hM', hap1, h0, hap2]
    exact ⟨kM.trans k2', (Own.si ow2).1⟩
end Go.Am.F11
end
section
namespace Go.Am.F11
open Go.Am.F06 Go.Am.F10 Go.Am.F09
def Gis11 : List (Nat × AFun Ob) := [(276, amFunc Gsh steal_Steal_Hands), (279, amFunc Glf steal_Steal_Left), (278, c_steal_Steal_Got), (282, amFunc [] ref11_Hands), (84, F10.c_kit_SameInts), (275, c_steal_Steal_Many), (277, c_steal_Steal_Done)]
def isL : AC := sqT 7 law11_is.body
theorem is_body : law11_is = { nloc := 16, npar := 2, res := [.loc 3], body := .seq (sqN 0 law11_is.body) (.seq (sqN 1 law11_is.body) (.seq (sqN 2 law11_is.body) (.seq (sqN 3 law11_is.body) (.seq (sqN 4 law11_is.body) (.seq (sqN 5 law11_is.body) (.seq (sqN 6 law11_is.body) isL)))))) } := rfl
def IhI (mm M1 : MM) (xj b n : Nat) (y h o : AV) (B : Nat) (k : Nat) (e : List AV) (m : MM) : Prop := ∃ (u : Nat) (z6 z7 z8 z9 z11 z12 z13 z14 z15 : AV),
  e = [.ptr xj 0, y, .ptr b 0, .bool false, h, o, z6, z7, z8, z9, .int .i64 u, z11, z12, z13, z14, z15] ∧ k = n - u ∧ u ≤ n ∧ Fl mm m n h B ∧ M1.length ≤ m.length ∧ ∀ a, a < M1.length → B ≤ a → m[a]? = M1[a]?
def IoI (mm : MM) (xj b n : Nat) (y h o z10 : AV) (B : Nat) (k : Nat) (e : List AV) (m : MM) : Prop := ∃ (u : Nat) (z6 z7 z8 z9 z12 z13 z14 z15 : AV),
  e = [.ptr xj 0, y, .ptr b 0, .bool false, h, o, z6, z7, z8, z9, z10, .int .i64 u, z12, z13, z14, z15] ∧ k = n - u ∧ u ≤ n ∧ Fl mm m n o B
set_option maxHeartbeats 8000000 in
theorem isL_run {G : List (Nat × AFun Ob)} {mm m2 : MM} {xj b B : Nat} {y h o z6 z7 z8 z9 z10 z11 z12 z13 z14 z15 : AV} {hs os : List Int} (hF0 : Fl mm m2 hs.length h B) (hB : mm.length ≤ B) (s2 : SI m2 true os o) (f2 : Fr B o) (n1 : hs.length ≤ 1000) (n2 : os.length ≤ 1000) :
    W G isL (resQ [.loc 3] fun r m' => r = .bool true ∧ Keep mm m') [.ptr xj 0, y, .ptr b 0, .bool false, h, o, z6, z7, z8, z9, z10, z11, z12, z13, z14, z15] m2 := by
  simp (disch := first | assumption | omega | (simp only [zl] <;> omega) | (simp only [zn])) only [isL, sqT, law11_is, ↓zd, zk, Nat.reduceSub, Nat.reduceAdd, Nat.reduceMul, Nat.reduceLeDiff, Nat.reduceEqDiff, reduceIte, Int.reduceEq, Int.reduceBEq, Int.reduceLE, Int.reduceLT, Int.reduceNeg, Int.reduceAdd, Int.reduceSub, Int.reduceMul, List.map, AV.cells, List.all, AV.one, eqV, eqAll, splice, fillA, List.replicate, resAll, resA, zm, zg]
  refine W_loop (IhI mm m2 xj b hs.length y h o B) hs.length (by simp only [FUEL]; omega) ⟨0, _, _, _, _, _, _, _, _, _, rfl, rfl, by omega, hF0, Nat.le_refl _, fun _ _ _ => rfl⟩ ?_
  rintro k e M ⟨u, w6, w7, w8, w9, w11, w12, w13, w14, w15, rfl, rfl, hu, hF, hlM, hM⟩
  have hln := hF.len
  rcases Nat.lt_or_ge u hs.length with hu2 | hu2
  · obtain ⟨q, oo, cap, L, rfl, b1, b2, b3, b4, hF'⟩ := hF.put hu2 77
    simp (disch := first | assumption | omega | (simp only [zl] <;> omega) | (simp only [zn])) only [↓zd, zk, Nat.reduceSub, Nat.reduceAdd, Nat.reduceMul, Nat.reduceLeDiff, Nat.reduceEqDiff, reduceIte, Int.reduceEq, Int.reduceBEq, Int.reduceLE, Int.reduceLT, Int.reduceNeg, Int.reduceAdd, Int.reduceSub, Int.reduceMul, List.map, AV.cells, List.all, AV.one, eqV, eqAll, splice, fillA, List.replicate, resAll, resA, zm, zg, ev_len, hln, b1]
    refine ⟨hs.length - (u + 1), by omega, u + 1, _, _, _, _, _, _, _, _, _, rfl, rfl, by omega, hF', by simpa using hlM, fun a ha hB => by rw [List.getElem?_set_ne (by omega)]; exact hM a ha hB⟩
  · simp (disch := first | assumption | omega | (simp only [zl] <;> omega) | (simp only [zn])) only [↓zd, zk, Nat.reduceSub, Nat.reduceAdd, Nat.reduceMul, Nat.reduceLeDiff, Nat.reduceEqDiff, reduceIte, Int.reduceEq, Int.reduceBEq, Int.reduceLE, Int.reduceLT, Int.reduceNeg, Int.reduceAdd, Int.reduceSub, Int.reduceMul, List.map, AV.cells, List.all, AV.one, eqV, eqAll, splice, fillA, List.replicate, resAll, resA, zm, zg, ev_len, hln]
    have so : SI M true os o := Sl.stay s2 fun q oo cap hq h0 => by
      refine hM q (Sl.lt s2 hq h0).1 ?_
      rcases f2 with h | ⟨_, _, _, _, h, h'⟩
      · rw [h] at hq; cases hq
      · rw [h] at hq; injection hq with e1; omega
    have hFo : Fl mm M os.length o M.length := ⟨hF.keep, ⟨os, rfl, so⟩, by
      rcases f2 with h | ⟨_, _, _, _, h, h'⟩
      · exact .inl h
      · exact .inr ⟨_, _, _, _, h, Nat.le_trans hB h'⟩, fun q oo cap hq h0 => (Sl.lt so hq h0).1, so.len⟩
    refine W_loop (IoI mm xj b os.length y h o _ M.length) os.length (by simp only [FUEL]; omega) ⟨0, _, _, _, _, _, _, _, _, rfl, rfl, by omega, hFo⟩ ?_
    rintro k e M2 ⟨u2, v6, v7, v8, v9, v12, v13, v14, v15, rfl, rfl, hu3, hG⟩
    have hlo := hG.len
    rcases Nat.lt_or_ge u2 os.length with hu4 | hu4
    · obtain ⟨q, oo, cap, L, rfl, b1, b2, b3, b4, hG'⟩ := hG.put hu4 77
      simp (disch := first | assumption | omega | (simp only [zl] <;> omega) | (simp only [zn])) only [↓zd, zk, Nat.reduceSub, Nat.reduceAdd, Nat.reduceMul, Nat.reduceLeDiff, Nat.reduceEqDiff, reduceIte, Int.reduceEq, Int.reduceBEq, Int.reduceLE, Int.reduceLT, Int.reduceNeg, Int.reduceAdd, Int.reduceSub, Int.reduceMul, List.map, AV.cells, List.all, AV.one, eqV, eqAll, splice, fillA, List.replicate, resAll, resA, zm, zg, ev_len, hlo, b1]
      exact ⟨os.length - (u2 + 1), by omega, u2 + 1, _, _, _, _, _, _, _, _, rfl, rfl, by omega, hG'⟩
    · simp (disch := first | assumption | omega | (simp only [zl] <;> omega) | (simp only [zn])) only [↓zd, zk, Nat.reduceSub, Nat.reduceAdd, Nat.reduceMul, Nat.reduceLeDiff, Nat.reduceEqDiff, reduceIte, Int.reduceEq, Int.reduceBEq, Int.reduceLE, Int.reduceLT, Int.reduceNeg, Int.reduceAdd, Int.reduceSub, Int.reduceMul, List.map, AV.cells, List.all, AV.one, eqV, eqAll, splice, fillA, List.replicate, resAll, resA, zm, zg, ev_len, hlo]
      exact hG.keep
set_option maxHeartbeats 16000000 in
theorem is_run {m : MM} {P : Nat → Prop} {c c' : Cf} {p p' v v' : Int} {xj : Nat} {s : TS} {bv : AV} {ly : List AV} {F : AV → Prop} (hT : TM m P c p v xj s) (hok : TOk c p v s) (hcc : RcT c c' p p' v v' s) (hb : SI m false s.bl bv) (hly : RLy m c' p' s F ly) :
    Fn Gis11 law11_is [.ptr xj 0, .agg (rsC c' p' v' s.a s.w bv s.k ly)] m (fun r m' => r = .bool true ∧ Keep m m') := by
  have a276 : assoc Gis11 276 = some (amFunc Gsh steal_Steal_Hands) := rfl
  have a279 : assoc Gis11 279 = some (amFunc Glf steal_Steal_Left) := rfl
  have a278 : assoc Gis11 278 = some c_steal_Steal_Got := rfl
  have a282 : assoc Gis11 282 = some (amFunc [] ref11_Hands) := rfl
  have a84 : assoc Gis11 84 = some F10.c_kit_SameInts := rfl
  have a275 : assoc Gis11 275 = some c_steal_Steal_Many := rfl
  have a277 : assoc Gis11 277 = some c_steal_Steal_Done := rfl
  have hse : F10.c_kit_SameInts (X := Ob) = amFunc [] F10.kit_SameInts := rfl
  generalize Gis11 = G at a276 a279 a278 a282 a84 a275 a277 ⊢
  have okc := hcc.ok hok
  have hone2 := slOne hb
  simp only [AV.one] at hone2
  have hrh := fun (M : MM) (k : Keep m M) (hl : RLy M c' p' s F ly) => rhands_run (c := c') (p := p') (v := v') (hb.keep k) hl okc
  have hkeep : ∀ M, Keep m M → RLy M c' p' s F ly := fun M k => by
    rcases hly with h | ⟨h1, lv, h, h2, h3, h4⟩
    · exact .inl h
    · exact .inr ⟨h1, lv, h, h2.keep k, fun h0 => (h3 h0).keep k, h4⟩
  rw [is_body]
  refine Fn_of rfl ?_
  have hkk := hok.k
  by_cases hk : s.k = 0
  · have hz := rzero hly hk
    subst hz
    have hg : gotB s = false := by unfold gotB; exact decide_eq_false (fun h => by omega)
    have hgv : gotV s = 0 := by unfold gotV; exact if_neg (fun h => by omega)
    have hlf : leftT s = [] := by unfold leftT; exact if_neg (fun h => by omega)
    have k1 := Keep.app m [Chunk.cells 24 false (rsC c' p' v' s.a s.w bv s.k zlC)]
    simp only [rsC, zlC, rlC, zeroC, cfC, List.cons_append, List.nil_append] at k1
    simp (disch := first | assumption | omega | (simp only [zl] <;> omega) | (simp only [zn])) only [sqN, law11_is, ↓zd, zk, Nat.reduceSub, Nat.reduceAdd, Nat.reduceMul, Nat.reduceLeDiff, Nat.reduceEqDiff, reduceIte, Int.reduceEq, Int.reduceBEq, Int.reduceLE, Int.reduceLT, Int.reduceNeg, Int.reduceAdd, Int.reduceSub, Int.reduceMul, List.map, AV.cells, List.all, AV.one, eqV, eqAll, splice, fillA, List.replicate, resAll, resA, zm, zg, rsC, zlC, rlC, zeroC, cfC, hone2, a276]
    refine OK_fn (shands_run (hT.others (KeepN.of k1)) hok) ?_
    rintro h m1 ⟨k2, s1, f1⟩
    have k02 := k1.trans k2
    have gb := k2.get (i := m.length) (by rw [get_mid0]; rfl)
    simp (disch := first | assumption | omega | (simp only [zl] <;> omega) | (simp only [zn])) only [↓zd, zk, Nat.reduceSub, Nat.reduceAdd, Nat.reduceMul, Nat.reduceLeDiff, Nat.reduceEqDiff, reduceIte, Int.reduceEq, Int.reduceBEq, Int.reduceLE, Int.reduceLT, Int.reduceNeg, Int.reduceAdd, Int.reduceSub, Int.reduceMul, List.map, AV.cells, List.all, AV.one, eqV, eqAll, splice, fillA, List.replicate, resAll, resA, zm, zg, a279]
    refine OK_fn (sleft_run (hT.others (KeepN.of k02)) hok) ?_
    rintro l m2 ⟨k3, s2, f2⟩
    have k03 := k02.trans k3
    have gb2 := k3.get gb
    have hgot := sgot_eq (hT.others (KeepN.of k03)) hok
    rw [hg, hgv] at hgot
    have hlen1 : (handsT s).length ≤ 1 := by unfold handsT; rw [if_pos hk]; simp
    have hlen2 : (leftT s).length ≤ 0 := by rw [hlf]; simp
    by_cases ha : s.a = 0
    · simp (disch := first | assumption | omega | (simp only [zl] <;> omega) | (simp only [zn])) only [↓zd, zk, Nat.reduceSub, Nat.reduceAdd, Nat.reduceMul, Nat.reduceLeDiff, Nat.reduceEqDiff, reduceIte, Int.reduceEq, Int.reduceBEq, Int.reduceLE, Int.reduceLT, Int.reduceNeg, Int.reduceAdd, Int.reduceSub, Int.reduceMul, List.map, AV.cells, List.all, AV.one, eqV, eqAll, splice, fillA, List.replicate, resAll, resA, zm, zg, a278, hgot, gb2, ha, hk, a282]
      have hr := hrh m2 k03 (hkeep m2 k03)
      simp only [rsC, zlC, rlC, zeroC, cfC, List.cons_append, List.nil_append, hk, ha] at hr
      refine OKT_fn hr ?_
      rintro r m3 ⟨k4, s3⟩
      have k04 := k03.trans k4
      have hT4 := hT.others (KeepN.of k04)
      have hmn := hT4.mn
      have hdn := hT4.dn
      rw [hk] at hmn
      rw [decide_eq_true ha] at hdn
      have gb3 := k4.get gb2
      have s1' := (s1.keep k3).keep k4
      have e1 := Fn_eq (same_run s1' s3 (by simp only [FUEL]; omega))
      have e2 := Fn_eq (same_run (s2.keep k4) (ys := leftT s) (b := .nils) (w2 := false) (by rw [hlf]; exact Sl.nil) (by simp only [FUEL]; omega))
      rw [← hse] at e1 e2
      simp only [decide_true] at e1 e2
      simp (disch := first | assumption | omega | (simp only [zl] <;> omega) | (simp only [zn])) only [↓zd, zk, Nat.reduceSub, Nat.reduceAdd, Nat.reduceMul, Nat.reduceLeDiff, Nat.reduceEqDiff, reduceIte, Int.reduceEq, Int.reduceBEq, Int.reduceLE, Int.reduceLT, Int.reduceNeg, Int.reduceAdd, Int.reduceSub, Int.reduceMul, List.map, AV.cells, List.all, AV.one, eqV, eqAll, splice, fillA, List.replicate, resAll, resA, zm, zg, a84, e1, e2, a275, hmn, gb3, a277, hdn, hk, ha]
      refine isL_run (B := m1.length) ⟨k04, ⟨_, rfl, s1'⟩, ?_, fun q oo cap hq h0 => (Sl.lt s1 hq h0).1, s1.len⟩ (k02.1) (s2.keep k4) f2 (by omega) (by omega)
      rcases f1 with h | ⟨q, o, n, cap, h, h'⟩
      · exact .inl h
      · exact .inr ⟨q, o, n, cap, h, by simp at h'; omega⟩
    · have haf : decide (s.a = 0) = false := decide_eq_false ha
      simp (disch := first | assumption | omega | (simp only [zl] <;> omega) | (simp only [zn])) only [↓zd, zk, Nat.reduceSub, Nat.reduceAdd, Nat.reduceMul, Nat.reduceLeDiff, Nat.reduceEqDiff, reduceIte, Int.reduceEq, Int.reduceBEq, Int.reduceLE, Int.reduceLT, Int.reduceNeg, Int.reduceAdd, Int.reduceSub, Int.reduceMul, List.map, AV.cells, List.all, AV.one, eqV, eqAll, splice, fillA, List.replicate, resAll, resA, zm, zg, a278, hgot, gb2, ha, hk, a282]
      have hr := hrh m2 k03 (hkeep m2 k03)
      simp only [rsC, zlC, rlC, zeroC, cfC, List.cons_append, List.nil_append, hk] at hr
      refine OKT_fn hr ?_
      rintro r m3 ⟨k4, s3⟩
      have k04 := k03.trans k4
      have hT4 := hT.others (KeepN.of k04)
      have hmn := hT4.mn
      have hdn := hT4.dn
      rw [hk] at hmn
      rw [haf] at hdn
      have gb3 := k4.get gb2
      have s1' := (s1.keep k3).keep k4
      have e1 := Fn_eq (same_run s1' s3 (by simp only [FUEL]; omega))
      have e2 := Fn_eq (same_run (s2.keep k4) (ys := leftT s) (b := .nils) (w2 := false) (by rw [hlf]; exact Sl.nil) (by simp only [FUEL]; omega))
      rw [← hse] at e1 e2
      simp only [decide_true] at e1 e2
      simp (disch := first | assumption | omega | (simp only [zl] <;> omega) | (simp only [zn])) only [↓zd, zk, Nat.reduceSub, Nat.reduceAdd, Nat.reduceMul, Nat.reduceLeDiff, Nat.reduceEqDiff, reduceIte, Int.reduceEq, Int.reduceBEq, Int.reduceLE, Int.reduceLT, Int.reduceNeg, Int.reduceAdd, Int.reduceSub, Int.reduceMul, List.map, AV.cells, List.all, AV.one, eqV, eqAll, splice, fillA, List.replicate, resAll, resA, zm, zg, a84, e1, e2, a275, hmn, gb3, a277, hdn, hk, ha]
      refine isL_run (B := m1.length) ⟨k04, ⟨_, rfl, s1'⟩, ?_, fun q oo cap hq h0 => (Sl.lt s1 hq h0).1, s1.len⟩ (k02.1) (s2.keep k4) f2 (by omega) (by omega)
      rcases f1 with h | ⟨q, o, n, cap, h, h'⟩
      · exact .inl h
      · exact .inr ⟨q, o, n, cap, h, by simp at h'; omega⟩
  · obtain ⟨q1, q2, q3, q4, q5⟩ := hkk.resolve_left (fun h => hk h.1)
    obtain ⟨_, lv, rfl, sl, nx, _⟩ := hly.resolve_left (fun h => hk h.1)
    have honel := slOne sl
    simp only [AV.one] at honel
    have hbb := hok.b
    have hls := q4.l
    have hkp : decide (0 < s.k) = true := decide_eq_true q1
    have hlen1 : (handsT s).length ≤ 101 := by unfold handsT; rw [if_neg hk, List.length_append, List.length_take]; omega
    have hlen2 : (leftT s).length ≤ 100 := by unfold leftT; split
                                              · omega
                                              · simp
    obtain ⟨q, oo, cap, ro, L, rfl, b2, b3, b4, b5⟩ := hb.val (by omega)
    obtain ⟨x, hx⟩ : ∃ x, s.bl[0]? = some x := ⟨_, List.getElem?_eq_getElem (by omega)⟩
    have b6 := b5 0 x hx
    rw [Nat.add_zero] at b6
    have hx0 : s.bl.getD 0 0 = x := by rw [List.getD_eq_getElem?_getD, hx]; rfl
    have k1 := Keep.app m [Chunk.cells 24 false (rsC c' p' v' s.a s.w (.sl q oo s.bl.length cap) s.k (rlC c' p' s.ly lv))]
    simp only [rsC, rlC, cfC, List.cons_append, List.nil_append] at k1
    simp (disch := first | assumption | omega | (simp only [zl] <;> omega) | (simp only [zn])) only [sqN, law11_is, ↓zd, zk, Nat.reduceSub, Nat.reduceAdd, Nat.reduceMul, Nat.reduceLeDiff, Nat.reduceEqDiff, reduceIte, Int.reduceEq, Int.reduceBEq, Int.reduceLE, Int.reduceLT, Int.reduceNeg, Int.reduceAdd, Int.reduceSub, Int.reduceMul, List.map, AV.cells, List.all, AV.one, eqV, eqAll, splice, fillA, List.replicate, resAll, resA, zm, zg, rsC, rlC, cfC, hone2, honel, a276]
    refine OK_fn (shands_run (hT.others (KeepN.of k1)) hok) ?_
    rintro h m1 ⟨k2, s1, f1⟩
    have k02 := k1.trans k2
    have gb := k2.get (i := m.length) (by rw [get_mid0]; rfl)
    simp (disch := first | assumption | omega | (simp only [zl] <;> omega) | (simp only [zn])) only [↓zd, zk, Nat.reduceSub, Nat.reduceAdd, Nat.reduceMul, Nat.reduceLeDiff, Nat.reduceEqDiff, reduceIte, Int.reduceEq, Int.reduceBEq, Int.reduceLE, Int.reduceLT, Int.reduceNeg, Int.reduceAdd, Int.reduceSub, Int.reduceMul, List.map, AV.cells, List.all, AV.one, eqV, eqAll, splice, fillA, List.replicate, resAll, resA, zm, zg, a279]
    refine OK_fn (sleft_run (hT.others (KeepN.of k02)) hok) ?_
    rintro l m2 ⟨k3, s2, f2⟩
    have k03 := k02.trans k3
    have gb2 := k3.get gb
    have hgot := sgot_eq (hT.others (KeepN.of k03)) hok
    by_cases ha : s.a = 0
    · have hg : gotB s = true := by unfold gotB; exact decide_eq_true ⟨ha, q1⟩
      have hgv : gotV s = x := by unfold gotV; rw [if_pos ⟨ha, q1⟩]; exact hx0
      have hlf : leftT s = s.ly.ls := by unfold leftT; exact if_pos ⟨ha, q1⟩
      rw [hg, hgv] at hgot
      simp (disch := first | assumption | omega | (simp only [zl] <;> omega) | (simp only [zn])) only [↓zd, zk, Nat.reduceSub, Nat.reduceAdd, Nat.reduceMul, Nat.reduceLeDiff, Nat.reduceEqDiff, reduceIte, Int.reduceEq, Int.reduceBEq, Int.reduceLE, Int.reduceLT, Int.reduceNeg, Int.reduceAdd, Int.reduceSub, Int.reduceMul, List.map, AV.cells, List.all, AV.one, eqV, eqAll, splice, fillA, List.replicate, resAll, resA, zm, zg, a278, hgot, gb2, ha, hkp, q1, a282]
      have hr := hrh m2 k03 (hkeep m2 k03)
      simp only [rsC, rlC, cfC, List.cons_append, List.nil_append, ha] at hr
      refine OKT_fn hr ?_
      rintro r m3 ⟨k4, s3⟩
      have k04 := k03.trans k4
      have hT4 := hT.others (KeepN.of k04)
      have hmn := hT4.mn
      have hdn := hT4.dn
      rw [decide_eq_true ha] at hdn
      have gb3 := k4.get gb2
      have s1' := (s1.keep k3).keep k4
      have e1 := Fn_eq (same_run s1' s3 (by simp only [FUEL]; omega))
      have e2 := Fn_eq (same_run (s2.keep k4) (ys := leftT s) (b := lv) (w2 := false) (by rw [hlf]; exact sl.keep k04) (by simp only [FUEL]; omega))
      rw [← hse] at e1 e2
      simp only [decide_true] at e1 e2
      have b2' := k04.get b2
      simp (disch := first | assumption | omega | (simp only [zl] <;> omega) | (simp only [zn])) only [↓zd, zk, Nat.reduceSub, Nat.reduceAdd, Nat.reduceMul, Nat.reduceLeDiff, Nat.reduceEqDiff, reduceIte, Int.reduceEq, Int.reduceBEq, Int.reduceLE, Int.reduceLT, Int.reduceNeg, Int.reduceAdd, Int.reduceSub, Int.reduceMul, List.map, AV.cells, List.all, AV.one, eqV, eqAll, splice, fillA, List.replicate, resAll, resA, zm, zg, a84, e1, e2, a275, hmn, gb3, a277, hdn, hkp, q1, ha, b2', b6]
      refine isL_run (B := m1.length) ⟨k04, ⟨_, rfl, s1'⟩, ?_, fun q oo cap hq h0 => (Sl.lt s1 hq h0).1, s1.len⟩ (k02.1) (s2.keep k4) f2 (by omega) (by omega)
      rcases f1 with h | ⟨q, o, n, cap, h, h'⟩
      · exact .inl h
      · exact .inr ⟨q, o, n, cap, h, by simp at h'; omega⟩
    · have hg : gotB s = false := by unfold gotB; exact decide_eq_false (fun h => ha h.1)
      have hgv : gotV s = 0 := by unfold gotV; exact if_neg (fun h => ha h.1)
      have hlf : leftT s = [] := by unfold leftT; exact if_neg (fun h => ha h.1)
      have haf : decide (s.a = 0) = false := decide_eq_false ha
      rw [hg, hgv] at hgot
      simp (disch := first | assumption | omega | (simp only [zl] <;> omega) | (simp only [zn])) only [↓zd, zk, Nat.reduceSub, Nat.reduceAdd, Nat.reduceMul, Nat.reduceLeDiff, Nat.reduceEqDiff, reduceIte, Int.reduceEq, Int.reduceBEq, Int.reduceLE, Int.reduceLT, Int.reduceNeg, Int.reduceAdd, Int.reduceSub, Int.reduceMul, List.map, AV.cells, List.all, AV.one, eqV, eqAll, splice, fillA, List.replicate, resAll, resA, zm, zg, a278, hgot, gb2, ha, hkp, q1, a282]
      have hr := hrh m2 k03 (hkeep m2 k03)
      simp only [rsC, rlC, cfC, List.cons_append, List.nil_append] at hr
      refine OKT_fn hr ?_
      rintro r m3 ⟨k4, s3⟩
      have k04 := k03.trans k4
      have hT4 := hT.others (KeepN.of k04)
      have hmn := hT4.mn
      have hdn := hT4.dn
      rw [haf] at hdn
      have gb3 := k4.get gb2
      have s1' := (s1.keep k3).keep k4
      have e1 := Fn_eq (same_run s1' s3 (by simp only [FUEL]; omega))
      have e2 := Fn_eq (same_run (s2.keep k4) (ys := leftT s) (b := .nils) (w2 := false) (by rw [hlf]; exact Sl.nil) (by simp only [FUEL]; omega))
      rw [← hse] at e1 e2
      simp only [decide_true] at e1 e2
      simp (disch := first | assumption | omega | (simp only [zl] <;> omega) | (simp only [zn])) only [↓zd, zk, Nat.reduceSub, Nat.reduceAdd, Nat.reduceMul, Nat.reduceLeDiff, Nat.reduceEqDiff, reduceIte, Int.reduceEq, Int.reduceBEq, Int.reduceLE, Int.reduceLT, Int.reduceNeg, Int.reduceAdd, Int.reduceSub, Int.reduceMul, List.map, AV.cells, List.all, AV.one, eqV, eqAll, splice, fillA, List.replicate, resAll, resA, zm, zg, a84, e1, e2, a275, hmn, gb3, a277, hdn, hkp, q1, ha]
      refine isL_run (B := m1.length) ⟨k04, ⟨_, rfl, s1'⟩, ?_, fun q oo cap hq h0 => (Sl.lt s1 hq h0).1, s1.len⟩ (k02.1) (s2.keep k4) f2 (by omega) (by omega)
      rcases f1 with h | ⟨q, o, n, cap, h, h'⟩
      · exact .inl h
      · exact .inr ⟨q, o, n, cap, h, by simp at h'; omega⟩
end Go.Am.F11
end
