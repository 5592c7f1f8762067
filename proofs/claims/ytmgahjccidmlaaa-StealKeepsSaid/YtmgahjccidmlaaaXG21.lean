import Derived.Test.YtmgahjccidmlaaaXG20
set_option linter.unusedSimpArgs false
set_option linter.unusedVariables false
section
namespace Go.Am.F11
open Go.Am.F06 Go.Am.F10 Go.Am.F09
def Grs : List (Nat × AFun Ob) := [(197, amFunc Gpo put_Lay_Hands)]
theorem rest_run {m : MM} {lb : Nat} {c : Cf} {p : Int} {s : LS} {lv : AV} (hx : LM m lb c p s lv) (hl : s.ls.length ≤ 100000) : Fn Grs steal_rest_Rest [.agg [.ptr lb 0]] m (ClP m s.ls) := by
  have a197 : assoc Grs 197 = some (amFunc Gpo put_Lay_Hands) := rfl
  generalize Grs = G at a197 ⊢
  have k1 := Keep.app m [Chunk.cells 1 false [.ptr lb 0]]
  have hx1 : LM (m ++ [Chunk.cells 1 false [.ptr lb 0]]) lb c p s lv := ⟨k1.get hx.get, hx.l.keep k1, fun h => (hx.nx h).keep k1⟩
  refine Fn_of rfl ?_
  simp (disch := first | assumption | omega | (simp only [zl] <;> omega) | (simp only [zn])) only [steal_rest_Rest, ↓zd, zk, Nat.reduceSub, Nat.reduceAdd, Nat.reduceMul, Nat.reduceLeDiff, Nat.reduceEqDiff, reduceIte, Int.reduceEq, Int.reduceBEq, Int.reduceLE, Int.reduceLT, Int.reduceNeg, Int.reduceAdd, Int.reduceSub, Int.reduceMul, List.map, AV.cells, List.all, AV.one, eqV, eqAll, splice, fillA, List.replicate, resAll, resA, zm, zg, a197]
  refine OK_fn (lhands_run hx1 hl) ?_
  rintro r m1 ⟨k2, s2, f2⟩
  simp (disch := first | assumption | omega | (simp only [zl] <;> omega) | (simp only [zn])) only [↓zd, zk, Nat.reduceSub, Nat.reduceAdd, Nat.reduceMul, Nat.reduceLeDiff, Nat.reduceEqDiff, reduceIte, Int.reduceEq, Int.reduceBEq, Int.reduceLE, Int.reduceLT, Int.reduceNeg, Int.reduceAdd, Int.reduceSub, Int.reduceMul, List.map, AV.cells, List.all, AV.one, eqV, eqAll, splice, fillA, List.replicate, resAll, resA, zm, zg]
  exact ⟨k1.trans k2, s2, by
    rcases f2 with h | ⟨q, o, n, cap, h, h'⟩
    · exact .inl h
    · exact .inr ⟨q, o, n, cap, h, by simp at h'; omega⟩⟩
def handsT (s : TS) : List Int := if s.k = 0 then [] else s.bl.take 1 ++ s.ly.ls
def leftT (s : TS) : List Int := if s.a = 0 ∧ 0 < s.k then s.ly.ls else []
def gotB (s : TS) : Bool := decide (s.a = 0 ∧ 0 < s.k)
def gotV (s : TS) : Int := if s.a = 0 ∧ 0 < s.k then s.bl.getD 0 0 else 0
def Gsh : List (Nat × AFun Ob) := [(275, c_steal_Steal_Many), (286, amFunc Grs steal_rest_Rest), (287, amFunc Gcc slices_Concat_int)]
def Glf : List (Nat × AFun Ob) := [(277, c_steal_Steal_Done), (275, c_steal_Steal_Many), (286, amFunc Grs steal_rest_Rest)]
theorem clp_nil (m : MM) : ClP m [] .nils m := ⟨.refl _, Sl.nil, .inl rfl⟩
theorem TM.mn {m : MM} {P : Nat → Prop} {c : Cf} {p v : Int} {xj : Nat} {s : TS} (h : TM m P c p v xj s) : c_steal_Steal_Many [.ptr xj 0] m = some (.int .i64 s.k, m) := by
  obtain ⟨_, _, _, h, _⟩ := h
  exact smany_eq h
theorem TM.dn {m : MM} {P : Nat → Prop} {c : Cf} {p v : Int} {xj : Nat} {s : TS} (h : TM m P c p v xj s) : c_steal_Steal_Done [.ptr xj 0] m = some (.bool (decide (s.a = 0)), m) := by
  obtain ⟨_, _, _, h, _⟩ := h
  exact sdone_eq h
set_option maxHeartbeats 8000000 in
theorem shands_run {m : MM} {P : Nat → Prop} {c : Cf} {p v : Int} {xj : Nat} {s : TS} (hT : TM m P c p v xj s) (hok : TOk c p v s) : Fn Gsh steal_Steal_Hands [.ptr xj 0] m (ClP m (handsT s)) := by
  have a275 : assoc Gsh 275 = some c_steal_Steal_Many := rfl
  have a286 : assoc Gsh 286 = some (amFunc Grs steal_rest_Rest) := rfl
  have a287 : assoc Gsh 287 = some (amFunc Gcc slices_Concat_int) := rfl
  generalize Gsh = G at a275 a286 a287 ⊢
  have hm := hT.mn
  obtain ⟨hown, lyv, bv, hj, hB, hL⟩ := hT
  refine Fn_of rfl ?_
  unfold handsT
  by_cases hk : s.k = 0
  · rw [if_pos hk]
    rw [hk] at hm
    simp (disch := first | assumption | omega | (simp only [zl] <;> omega) | (simp only [zn])) only [steal_Steal_Hands, ↓zd, zk, Nat.reduceSub, Nat.reduceAdd, Nat.reduceMul, Nat.reduceLeDiff, Nat.reduceEqDiff, reduceIte, Int.reduceEq, Int.reduceBEq, Int.reduceLE, Int.reduceLT, Int.reduceNeg, Int.reduceAdd, Int.reduceSub, Int.reduceMul, List.map, AV.cells, List.all, AV.one, eqV, eqAll, splice, fillA, List.replicate, resAll, resA, zm, zg, a275, hm]
    exact clp_nil m
  · rw [if_neg hk]
    obtain ⟨k1, k2, k3, k4, k5⟩ := hok.k.resolve_left (by omega)
    obtain ⟨_, lb, lxv, rfl, hPl, hlm, _⟩ := hL.resolve_left (fun h => hk h.1)
    obtain ⟨cap, qb, L, hPq, rfl, gq, hb1, hb2, hb3, _⟩ := hB.bal k1
    have hls := k4.l
    have hbb := hok.b
    have hsl : ∀ M : MM, sliceA M 1 (.sl qb 0 s.bl.length (some cap)) none (some 1) none = some (.sl qb 0 1 (some cap)) := fun M => by
      have h1 : 1 ≤ cap := by omega
      have h2 : ¬ (cap = 0) := by omega
      simp [sliceA, h1, h2]
    have t1 : Int.toNat 1 = 1 := rfl
    have hj0 := hj
    simp only [stC, cfC, List.cons_append, List.nil_append] at hj
    simp (disch := first | assumption | omega | (simp only [zl] <;> omega) | (simp only [zn])) only [steal_Steal_Hands, ↓zd, zk, Nat.reduceSub, Nat.reduceAdd, Nat.reduceMul, Nat.reduceLeDiff, Nat.reduceEqDiff, reduceIte, Int.reduceEq, Int.reduceBEq, Int.reduceLE, Int.reduceLT, Int.reduceNeg, Int.reduceAdd, Int.reduceSub, Int.reduceMul, List.map, AV.cells, List.all, AV.one, eqV, eqAll, splice, fillA, List.replicate, resAll, resA, zm, zg, a275, hm, hk, hj, evA, t1, hsl, a286]
    refine OKT_fn (rest_run hlm (by omega)) ?_
    rintro b m1 ⟨kr, sb, fb⟩
    have hj1 := kr.get hj
    have gq1 := kr.get gq
    have hone := slOne sb
    have hbc := (Fr.one fb).2
    simp only [AV.one] at hone
    simp only [AV.cells] at hbc
    simp (disch := first | assumption | omega | (simp only [zl] <;> omega) | (simp only [zn])) only [↓zd, zk, Nat.reduceSub, Nat.reduceAdd, Nat.reduceMul, Nat.reduceLeDiff, Nat.reduceEqDiff, reduceIte, Int.reduceEq, Int.reduceBEq, Int.reduceLE, Int.reduceLT, Int.reduceNeg, Int.reduceAdd, Int.reduceSub, Int.reduceMul, List.map, AV.cells, List.all, AV.one, eqV, eqAll, splice, fillA, List.replicate, resAll, resA, zm, zg, evA, fillA, repeatL, List.flatten_cons, List.flatten_nil, hbc, hone, a287]
    have kK := Keep.app m1 [Chunk.cells 1 false [.sl qb 0 1 (some cap), b]]
    have hs1 : SI (m1 ++ [Chunk.cells 1 false [.sl qb 0 1 (some cap), b]]) false (s.bl.take 1) (.sl qb 0 1 (some cap)) := by
      have hlen : (s.bl.take 1).length = 1 := by rw [List.length_take]; omega
      refine ⟨by rw [iC_len]; omega, .inr ⟨qb, 0, some cap, by rw [hlen], fun _ => ⟨false, L, kK.get gq1, ?_, by rw [hlen]; omega, fun h => by cases h⟩⟩⟩
      rw [hlen, List.drop_zero, Nat.mul_one]
      have e : (L.take s.bl.length).take 1 = L.take 1 := by rw [List.take_take, Nat.min_eq_left (by omega)]
      rw [← e, hb3, iC, iC, List.map_take]
    have hlen : (s.bl.take 1).length = 1 := by rw [List.length_take]; omega
    refine OKT_fn (concat_run hs1 (sb.keep kK) (by omega) (by omega) get_concat) ?_
    rintro _ m2 ⟨q, rfl, hq, k2', g2⟩
    have hm1 := kr.1
    simp (disch := first | assumption | omega | (simp only [zl] <;> omega) | (simp only [zn])) only [↓zd, zk, Nat.reduceSub, Nat.reduceAdd, Nat.reduceMul, Nat.reduceLeDiff, Nat.reduceEqDiff, reduceIte, Int.reduceEq, Int.reduceBEq, Int.reduceLE, Int.reduceLT, Int.reduceNeg, Int.reduceAdd, Int.reduceSub, Int.reduceMul, List.map, AV.cells, List.all, AV.one, eqV, eqAll, splice, fillA, List.replicate, resAll, resA, zm, zg, hj1, evA, t1, hsl]
    refine ⟨(kr.trans kK).trans k2', ⟨by rw [iC_len]; omega, .inr ⟨q, 0, none, by rw [List.length_append], fun _ => ⟨false, _, g2, by rw [List.drop_zero, Nat.mul_one, ← iC_len, List.take_length], by rw [iC_len]; omega, fun _ => rfl⟩⟩⟩, .inr ⟨q, 0, _, none, rfl, by simp at hq; omega⟩⟩
set_option maxHeartbeats 8000000 in
theorem sleft_run {m : MM} {P : Nat → Prop} {c : Cf} {p v : Int} {xj : Nat} {s : TS} (hT : TM m P c p v xj s) (hok : TOk c p v s) : Fn Glf steal_Steal_Left [.ptr xj 0] m (ClP m (leftT s)) := by
  have a277 : assoc Glf 277 = some c_steal_Steal_Done := rfl
  have a275 : assoc Glf 275 = some c_steal_Steal_Many := rfl
  have a286 : assoc Glf 286 = some (amFunc Grs steal_rest_Rest) := rfl
  generalize Glf = G at a277 a275 a286 ⊢
  have hm := hT.mn
  have hd := hT.dn
  obtain ⟨hown, lyv, bv, hj, hB, hL⟩ := hT
  refine Fn_of rfl ?_
  unfold leftT
  by_cases ha : s.a = 0
  · rw [decide_eq_true ha] at hd
    by_cases hk : s.k = 0
    · rw [if_neg (by omega)]
      rw [hk] at hm
      simp (disch := first | assumption | omega | (simp only [zl] <;> omega) | (simp only [zn])) only [steal_Steal_Left, ↓zd, zk, Nat.reduceSub, Nat.reduceAdd, Nat.reduceMul, Nat.reduceLeDiff, Nat.reduceEqDiff, reduceIte, Int.reduceEq, Int.reduceBEq, Int.reduceLE, Int.reduceLT, Int.reduceNeg, Int.reduceAdd, Int.reduceSub, Int.reduceMul, List.map, AV.cells, List.all, AV.one, eqV, eqAll, splice, fillA, List.replicate, resAll, resA, zm, zg, a277, hd, a275, hm]
      exact clp_nil m
    · obtain ⟨k1, k2, k3, k4, k5⟩ := hok.k.resolve_left (by omega)
      rw [if_pos ⟨ha, k1⟩]
      obtain ⟨_, lb, lxv, rfl, hPl, hlm, _⟩ := hL.resolve_left (fun h => hk h.1)
      have hls := k4.l
      simp only [stC, cfC, List.cons_append, List.nil_append] at hj
      simp (disch := first | assumption | omega | (simp only [zl] <;> omega) | (simp only [zn])) only [steal_Steal_Left, ↓zd, zk, Nat.reduceSub, Nat.reduceAdd, Nat.reduceMul, Nat.reduceLeDiff, Nat.reduceEqDiff, reduceIte, Int.reduceEq, Int.reduceBEq, Int.reduceLE, Int.reduceLT, Int.reduceNeg, Int.reduceAdd, Int.reduceSub, Int.reduceMul, List.map, AV.cells, List.all, AV.one, eqV, eqAll, splice, fillA, List.replicate, resAll, resA, zm, zg, a277, hd, a275, hm, hk, hj, a286]
      refine OK_fn (rest_run hlm (by omega)) ?_
      intro b m1 hcl
      simp (disch := first | assumption | omega | (simp only [zl] <;> omega) | (simp only [zn])) only [↓zd, zk, Nat.reduceSub, Nat.reduceAdd, Nat.reduceMul, Nat.reduceLeDiff, Nat.reduceEqDiff, reduceIte, Int.reduceEq, Int.reduceBEq, Int.reduceLE, Int.reduceLT, Int.reduceNeg, Int.reduceAdd, Int.reduceSub, Int.reduceMul, List.map, AV.cells, List.all, AV.one, eqV, eqAll, splice, fillA, List.replicate, resAll, resA, zm, zg]
      exact hcl
  · rw [if_neg (by omega)]
    rw [decide_eq_false ha] at hd
    simp (disch := first | assumption | omega | (simp only [zl] <;> omega) | (simp only [zn])) only [steal_Steal_Left, ↓zd, zk, Nat.reduceSub, Nat.reduceAdd, Nat.reduceMul, Nat.reduceLeDiff, Nat.reduceEqDiff, reduceIte, Int.reduceEq, Int.reduceBEq, Int.reduceLE, Int.reduceLT, Int.reduceNeg, Int.reduceAdd, Int.reduceSub, Int.reduceMul, List.map, AV.cells, List.all, AV.one, eqV, eqAll, splice, fillA, List.replicate, resAll, resA, zm, zg, a277, hd]
    exact clp_nil m
theorem sgot_eq {m : MM} {P : Nat → Prop} {c : Cf} {p v : Int} {xj : Nat} {s : TS} (hT : TM m P c p v xj s) (hok : TOk c p v s) : c_steal_Steal_Got [.ptr xj 0] m = some (.tup [.int .i64 (gotV s), .bool (gotB s)], m) := by
  have he : c_steal_Steal_Got (X := Ob) = amFunc [(277, c_steal_Steal_Done), (275, c_steal_Steal_Many)] steal_Steal_Got := rfl
  rw [he]
  have hm := hT.mn
  have hd := hT.dn
  unfold gotV gotB
  by_cases h : s.a = 0 ∧ 0 < s.k
  · have a277 : assoc [(277, c_steal_Steal_Done (X := Ob)), (275, c_steal_Steal_Many)] 277 = some c_steal_Steal_Done := rfl
    have a275 : assoc [(277, c_steal_Steal_Done (X := Ob)), (275, c_steal_Steal_Many)] 275 = some c_steal_Steal_Many := rfl
    generalize [(277, c_steal_Steal_Done (X := Ob)), (275, c_steal_Steal_Many)] = G at a277 a275 ⊢
    rw [if_pos h, decide_eq_true h]
    obtain ⟨hown, lyv, bv, hj, hB, hL⟩ := hT
    obtain ⟨k1, k2, k3, k4, k5⟩ := hok.k.resolve_left (by omega)
    obtain ⟨cap, qb, L, hPq, rfl, gq, hb1, hb2, hb3, _⟩ := hB.bal k1
    have hk : ¬ (s.k = 0) := by omega
    rw [decide_eq_true h.1] at hd
    have h0 : (0 : Int) < (s.bl.length : Int) := by omega
    have hL0 : L[0]? = some (.int .i64 (s.bl.getD 0 0)) := by
      have e := congrArg (fun l : List AV => l[0]?) hb3
      simp only [List.getElem?_take, iC, List.getElem?_map] at e
      rw [if_pos (by omega)] at e
      rw [e, List.getD_eq_getElem?_getD, List.getElem?_eq_getElem (show 0 < s.bl.length by omega)]
      rfl
    simp only [stC, cfC, List.cons_append, List.nil_append] at hj
    refine Fn_eq (Fn_of rfl ?_)
    simp (disch := first | assumption | omega | (simp only [zl] <;> omega) | (simp only [zn])) only [steal_Steal_Got, ↓zd, zk, Nat.reduceSub, Nat.reduceAdd, Nat.reduceMul, Nat.reduceLeDiff, Nat.reduceEqDiff, reduceIte, Int.reduceEq, Int.reduceBEq, Int.reduceLE, Int.reduceLT, Int.reduceNeg, Int.reduceAdd, Int.reduceSub, Int.reduceMul, List.map, AV.cells, List.all, AV.one, eqV, eqAll, splice, fillA, List.replicate, resAll, resA, zm, zg, a277, hd, a275, hm, hk, hj, gq, Int.toNat_zero, hL0]
  · rw [if_neg h, decide_eq_false h]
    by_cases ha : s.a = 0
    · have hk : s.k = 0 := by rcases hok.k with h' | h' <;> omega
      rw [hk] at hm
      exact got_no rfl rfl ⟨_, hd⟩ hm
    · rw [decide_eq_false ha] at hd
      have a277 : assoc [(277, c_steal_Steal_Done (X := Ob)), (275, c_steal_Steal_Many)] 277 = some c_steal_Steal_Done := rfl
      generalize [(277, c_steal_Steal_Done (X := Ob)), (275, c_steal_Steal_Many)] = G at a277 ⊢
      refine Fn_eq (Fn_of rfl ?_)
      simp (disch := first | assumption | omega | (simp only [zl] <;> omega) | (simp only [zn])) only [steal_Steal_Got, ↓zd, zk, Nat.reduceSub, Nat.reduceAdd, Nat.reduceMul, Nat.reduceLeDiff, Nat.reduceEqDiff, reduceIte, Int.reduceEq, Int.reduceBEq, Int.reduceLE, Int.reduceLT, Int.reduceNeg, Int.reduceAdd, Int.reduceSub, Int.reduceMul, List.map, AV.cells, List.all, AV.one, eqV, eqAll, splice, fillA, List.replicate, resAll, resA, zm, zg, a277, hd]
end Go.Am.F11
end
section
namespace Go.Am.F11
open Go.Am.F06 Go.Am.F10 Go.Am.F09
def rsC (c : Cf) (p v a w : Int) (bv : AV) (k : Int) (ly : List AV) : List AV := cfC c ++ [.int .i64 p, .int .i64 v, .int .i64 a, .int .u64 w, bv, .int .i64 k] ++ ly
def zlC : List AV := rlC zeroC 0 ⟨0, 0, 0, 0, []⟩ .nils
def RLy (m : MM) (c : Cf) (p : Int) (s : TS) (F : AV → Prop) (ly : List AV) : Prop := (s.k = 0 ∧ ly = zlC) ∨ (0 < s.k ∧ ∃ lv, ly = rlC c p s.ly lv ∧ SI m false s.ly.ls lv ∧ (0 < s.ly.ls.length → Nx m lv) ∧ F lv)
end Go.Am.F11
end
section
namespace Go.Am.F11
open Go.Am.F06 Go.Am.F10 Go.Am.F09
end Go.Am.F11
end
section
namespace Go.Am.F11
open Go.Am.F06 Go.Am.F10 Go.Am.F09
def newT (c : Cf) (p v : Int) : TS := ⟨if thereS c p v then 1 else 0, 0, [], 0, ⟨0, 0, 0, 0, []⟩⟩
theorem newT_ok (c : Cf) (p v : Int) : TOk c p v (newT c p v) := by
  unfold newT
  refine ⟨(show W64 0 by unfold W64; omega), ?_, .inl ⟨rfl, ?_⟩, by simp⟩
  · by_cases h : thereS c p v
    · rw [if_pos h]; exact .inr ⟨h, .inl rfl⟩
    · rw [if_neg h]; exact .inl rfl
  · simp only; split <;> decide
def nsC (c : Cf) (p v : Int) : Cf := if thereS c p v then c else zeroC
def nsI (c : Cf) (p v x : Int) : Int := if thereS c p v then x else 0
def RcT (c c' : Cf) (p p' v v' : Int) (s : TS) : Prop := (c' = c ∧ p' = p ∧ v' = v) ∨ (s.a = 0 ∧ s.k = 0)
theorem RcT.ok {c c' : Cf} {p p' v v' : Int} {s : TS} (h : RcT c c' p p' v v' s) (hok : TOk c p v s) : TOk c' p' v' s := by
  rcases h with ⟨rfl, rfl, rfl⟩ | ⟨h1, h2⟩
  · exact hok
  · exact ⟨hok.w, .inl h1, .inl ⟨h2, by omega⟩, hok.b⟩
theorem RcT.st {c c' : Cf} {p p' v v' : Int} {s : TS} (h : RcT c c' p p' v v' s) (xs : List Int) : stepT c' p' v' xs s = stepT c p v xs s := by
  rcases h with ⟨rfl, rfl, rfl⟩ | ⟨h1, h2⟩
  · rfl
  · rw [stepT, if_pos h1, stepT, if_pos h1]
theorem RcT.step {c c' : Cf} {p p' v v' : Int} {s : TS} (h : RcT c c' p p' v v' s) (xs : List Int) : RcT c c' p p' v v' (stepT c p v xs s).1 := by
  rcases h with h | ⟨h1, h2⟩
  · exact .inl h
  · rw [stepT, if_pos h1]; exact .inr ⟨h1, h2⟩
theorem RcT.new (c : Cf) (p v : Int) : RcT c (nsC c p v) p (nsI c p v p) v (nsI c p v v) (newT c p v) := by
  unfold nsC nsI newT
  by_cases h : thereS c p v
  · simp only [if_pos h]; exact .inl ⟨rfl, rfl, rfl⟩
  · simp only [if_neg h]; exact .inr ⟨rfl, rfl⟩
end Go.Am.F11
end
section
namespace Go.Am.F11
open Go.Am.F06 Go.Am.F10 Go.Am.F09
end Go.Am.F11
end
section
namespace Go.Am.F11
open Go.Am.F06 Go.Am.F10 Go.Am.F09
def PK (m : MM) (P : Nat → Prop) : Prop := ∀ i, P i → ∃ sz L, m[i]? = some (Chunk.cells sz false L) ∧ (sz = 13 ∨ sz = 12 ∨ (sz = 1 ∧ ∃ l : List Int, L = iC l))
theorem TM.norm {m : MM} {P : Nat → Prop} {c : Cf} {p v : Int} {xj : Nat} {s : TS} (h : TM m P c p v xj s) : ∃ P' : Nat → Prop, (∀ i, P' i → P i) ∧ PK m P' ∧ TM m P' c p v xj s := by
  obtain ⟨hown, lyv, bv, hj, hB, hL⟩ := h
  refine ⟨fun i => P i ∧ (i = xj ∨ (∃ n cap, bv = .sl i 0 n cap) ∨ lyv = .ptr i 0), fun i h => h.1, ?_, ⟨hown, .inl rfl⟩, lyv, bv, hj, ?_, ?_⟩
  · rintro i ⟨hi, rfl | ⟨n, cap, rfl⟩ | rfl⟩
    · exact ⟨_, _, hj, .inl rfl⟩
    · rcases hB with ⟨h, _⟩ | ⟨cap', ⟨qb, L, h1, h2, h3, h4, h5, h6, h7⟩, _⟩
      · cases h
      · injection h2 with e1; subst e1
        exact ⟨_, _, h3, .inr (.inr ⟨rfl, h7⟩)⟩
    · rcases hL with ⟨_, h⟩ | ⟨h0, lb, lxv, h1, h2, h3⟩
      · cases h
      · injection h1 with e1; subst e1
        exact ⟨_, _, h3.1.get, .inr (.inl rfl)⟩
  · rcases hB with h | ⟨cap', ⟨qb, L, h1, h2, h3⟩, h4⟩
    · exact .inl h
    · exact .inr ⟨cap', ⟨qb, L, ⟨h1, .inr (.inl ⟨_, _, h2⟩)⟩, h2, h3⟩, h4⟩
  · rcases hL with h | ⟨h0, lb, lxv, h1, h2, h3⟩
    · exact .inl h
    · exact .inr ⟨h0, lb, lxv, h1, ⟨h2, .inr (.inr h1)⟩, h3⟩
theorem PK.ne {m : MM} {P : Nat → Prop} (h : PK m P) {b sz : Nat} {ro : Bool} {L : List AV} (hb : m[b]? = some (.cells sz ro L)) (h1 : sz ≠ 1) (h2 : sz ≠ 12) (h3 : sz ≠ 13) : ¬ P b := fun hp => by
  obtain ⟨sz', L', h4, h5⟩ := h b hp
  rw [hb] at h4; injection h4 with h4; injection h4 with h4
  subst h4
  rcases h5 with h | h | h
  · exact h3 h
  · exact h2 h
  · exact h1 h.1
theorem PK.abs {m : MM} {P : Nat → Prop} (h : PK m P) {b : Nat} {x : Ob} (hb : m[b]? = some (.abs x)) : ¬ P b := fun hp => by
  obtain ⟨sz', L', h4, h5⟩ := h b hp
  rw [hb] at h4; cases h4
theorem PK.su {m : MM} {P : Nat → Prop} (h : PK m P) {wr : Bool} {xs : List Int} {v : AV} (hs : SU m wr xs v) : OffP P v := fun q o n cap hv h0 hp => by
  have hlen := hs.len
  rw [hv] at hlen; simp only [lenA, Option.some.injEq] at hlen; subst hlen
  obtain ⟨_, ro, L, h2⟩ := Sl.lt (n := xs.length) hs hv h0
  obtain ⟨sz', L', h4, h5⟩ := h q hp
  rw [h2] at h4; injection h4 with h4; injection h4 with e1 e2 e3
  rcases h5 with h | h | ⟨_, l, hl⟩
  · omega
  · omega
  · refine su_off hs (b := q) (l := l) ?_ q o xs.length cap hv h0 rfl
    rw [h2, e3, hl, e2]
theorem PK.off3 {m : MM} {P : Nat → Prop} (h : PK m P) {wr : Bool} {n : Nat} {l : List AV} {v : AV} (hs : Sl m wr 3 n l v) : OffP P v := fun q o k cap hv h0 hp => by
  have hlen := hs.len
  rw [hv] at hlen; simp only [lenA, Option.some.injEq] at hlen; subst hlen
  obtain ⟨_, ro, L, h2⟩ := Sl.lt hs hv h0
  exact h.ne h2 (by decide) (by decide) (by decide) hp
theorem PK.fr {m : MM} {P : Nat → Prop} (h : PK m P) {n : Nat} (hn : m.length ≤ n) {v : AV} (hf : Fr n v) : OffP P v := fun q o k cap hv _ hp => by
  obtain ⟨_, _, h4, _⟩ := h q hp
  have := (List.getElem?_eq_some_iff.1 h4).1
  rcases hf with h | ⟨_, _, _, _, h, h'⟩
  · rw [h] at hv; cases hv
  · rw [h] at hv; injection hv with e1; omega
theorem PK.others {m m' : MM} {P : Nat → Prop} (h : PK m P) (k : KeepN P m m') : PK m' P := fun i hi => by
  obtain ⟨sz, L, h1, h2⟩ := h i hi
  exact ⟨sz, L, k.get h1 hi, h2⟩
theorem RowsK.si {m m' : MM} (k : RowsK m m') {wr : Bool} {n : Nat} {l : List AV} {v : AV} (h : Sl m wr 1 n l v) : Sl m' wr 1 n l v :=
  Sl.stay h fun q o cap hv h0 => by
    obtain ⟨h1, ro, L, h2⟩ := Sl.lt h hv h0
    rw [h2]; exact k _ _ _ h2
theorem RowsK.nx {m m' : MM} (k : RowsK m m') {v : AV} (h : Nx m v) : Nx m' v := by
  rcases h with h | ⟨q, o, n, l, h1, h2⟩
  · exact .inl h
  · exact .inr ⟨q, o, n, l, h1, k _ _ _ h2⟩
theorem nx_off {m m' : MM} {P : Nat → Prop} {j n : Nat} {v : AV} (h : Nx m v) (k : KeepP P j m m') (hj : ∀ ro L, m[j]? ≠ some (.cells 1 ro L)) (hl : lenA v = some n) (h0 : 0 < n) (ho : OffP P v) : Nx m' v := by
  rcases h with h | ⟨q, o, n', l, h1, h2⟩
  · exact .inl h
  · rw [h1] at hl; simp only [lenA, Option.some.injEq] at hl; subst hl
    exact .inr ⟨q, o, n', l, h1, k.get h2 (fun hh => hj _ _ (by rw [← hh]; exact h2)) (ho _ _ _ _ h1 h0)⟩
structure StB (m0 : MM) (c : Cf) (p v : Int) (j xj : Nat) (P : Nat → Prop) (ps : List Pk) (lv : AV) (s : TS) (xs : List Int) (o : Int) (m : MM) : Prop where
  k0 : Keep m0 m
  bs : ∀ i, P i → m0.length ≤ i
  pk : PK m P
  tm : TM m P c p v xj s
  mem : ∃ st, m[j]? = some (.abs (.mem st)) ∧ RelM xs o st
  ok : TOk c p v s
  okL : OkL c xs
  ps : SPk m false ps lv
variable {m0 m m' : MM} {c c' : Cf} {p v p' v' : Int} {j xj rb yb : Nat} {P : Nat → Prop} {ps : List Pk} {lv : AV} {s s' : TS} {xs xs' : List Int} {o o' : Int}
theorem StB.keep (h : StB m0 c p v j xj P ps lv s xs o m) (k : Keep m m') : StB m0 c p v j xj P ps lv s xs o m' := by
  obtain ⟨st, hj, hr⟩ := h.mem
  exact ⟨h.k0.trans k, h.bs, h.pk.others (.of k), h.tm.others (.of k), ⟨st, k.get hj, hr⟩, h.ok, h.okL, h.ps.keep k⟩
theorem StB.setb (h : StB m0 c p v j xj P ps lv s xs o m) {b sz : Nat} {L : List AV} (hb : m[b]? = some (.cells sz false L)) (h1 : sz ≠ 1) (h2 : sz ≠ 12) (h3 : sz ≠ 13) (h4 : sz ≠ 3) (h0 : m0.length ≤ b) (C : Chunk Ob) : StB m0 c p v j xj P ps lv s xs o (m.set b C) := by
  obtain ⟨st, hj, hr⟩ := h.mem
  have hn : ∀ z, z ≠ sz → ∀ ro L, m[b]? ≠ some (.cells z ro L) := fun z hz ro L hh => by rw [hb] at hh; injection hh with hh; injection hh with hh; exact hz hh.symm
  have k : KeepN P m (m.set b C) := (KeepN.of (.refl m)).set (h.pk.ne hb h1 h2 h3) (hn 1 (fun hh => h1 hh.symm)) C
  exact ⟨h.k0.set h0 _, h.bs, h.pk.others k, h.tm.others k, ⟨st, by rw [List.getElem?_set_ne (fun hh => by rw [hh, hj] at hb; cases hb)]; exact hj, hr⟩, h.ok, h.okL, Sl.put h.ps (hn 3 (fun hh => h4 hh.symm)) _⟩
structure StR (c' : Cf) (p' v' : Int) (rb yb : Nat) (P : Nat → Prop) (F : AV → Prop) (s : TS) (xs : List Int) (o : Int) (bv : AV) (ly : List AV) (mv : AV) (m : MM) : Prop where
  ref : m[rb]? = some (.cells 2 false (memC mv o))
  su : SU m false xs mv
  y : m[yb]? = some (.cells 24 false (rsC c' p' v' s.a s.w bv s.k ly))
  bl : SI m false s.bl bv
  nx : 0 < s.bl.length → Nx m bv
  ob : OffP P bv
  ly : RLy m c' p' s F ly
variable {F : AV → Prop} {bv mv : AV} {ly : List AV}
theorem RLy.keep (h : RLy m c p s F ly) (k : Keep m m') : RLy m' c p s F ly := by
  rcases h with h | ⟨h1, lv, h, h2, h3, h4⟩
  · exact .inl h
  · exact .inr ⟨h1, lv, h, h2.keep k, fun h0 => (h3 h0).keep k, h4⟩
theorem RLy.put (h : RLy m c p s F ly) {b : Nat} (hb : ∀ ro L, m[b]? ≠ some (.cells 1 ro L)) (C : Chunk Ob) : RLy (m.set b C) c p s F ly := by
  rcases h with h | ⟨h1, lv, h, h2, h3, h4⟩
  · exact .inl h
  · exact .inr ⟨h1, lv, h, Sl.put h2 hb C, fun h0 => (h3 h0).put hb C, h4⟩
theorem RLy.mono {F' : AV → Prop} (h : RLy m c p s F ly) (hF : ∀ v, F v → F' v) : RLy m c p s F' ly := by
  rcases h with h | ⟨h1, lv, h, h2, h3, h4⟩
  · exact .inl h
  · exact .inr ⟨h1, lv, h, h2, h3, hF _ h4⟩
theorem StR.keep (h : StR c' p' v' rb yb P F s xs o bv ly mv m) (k : Keep m m') : StR c' p' v' rb yb P F s xs o bv ly mv m' :=
  ⟨k.get h.ref, h.su.keep k, k.get h.y, h.bl.keep k, fun h0 => (h.nx h0).keep k, h.ob, h.ly.keep k⟩
theorem StB.step (h : StB m0 c p v j xj P ps lv s xs o m) (hj0 : m0.length ≤ j) (hok : TOk c p v s') (hokL : OkL c xs') (hR : StR c' p' v' rb yb P (fun lv => s.k = 0 → OffP P lv) s' xs' o' bv ly mv m) {r : AV} (hP : SsP m P c p v xj j (s', xs') o' r m') (hrk : 0 < s.k → RowsK m m') :
    r = .bool (decide (s'.a = 0)) ∧ ∃ P', StB m0 c p v j xj P' ps lv s' xs' o' m' ∧ StR c' p' v' rb yb P' (fun _ => True) s' xs' o' bv ly mv m' := by
  obtain ⟨rfl, k1, htm, st', hj', hr'⟩ := hP
  obtain ⟨st, hj, hr⟩ := h.mem
  obtain ⟨P', hsub, hpk, htm'⟩ := htm.norm
  have hjn : ∀ sz ro L, m[j]? ≠ some (.cells sz ro L) := fun sz ro L hh => by rw [hj] at hh; cases hh
  have hbox : ∀ {b sz : Nat} {L : List AV}, m[b]? = some (.cells sz false L) → sz ≠ 1 → sz ≠ 12 → sz ≠ 13 → m'[b]? = some (.cells sz false L) := fun hb h1 h2 h3 =>
    k1.get hb (fun hh => hjn _ _ _ (by rw [← hh]; exact hb)) (h.pk.ne hb h1 h2 h3)
  have hnew : ∀ {w : AV} {n : Nat} {l : List AV}, Sl m false 1 n l w → OffP P w → OffP P' w := fun hs ho q o n cap hv h0 hp => OffP.new ho hs q o n cap hv h0 (hsub _ hp)
  refine ⟨rfl, P', ⟨⟨by have := h.k0.1; have := k1.1; omega, fun i hi => ?_⟩, fun i hi => ?_, hpk, htm', ⟨st', hj', hr'⟩, hok, hokL, ?_⟩, ⟨hbox hR.ref (by decide) (by decide) (by decide), Sl.off hR.su k1 (hjn 1) (h.pk.su hR.su), hbox hR.y (by decide) (by decide) (by decide), Sl.off hR.bl k1 (hjn 1) hR.ob, fun h0 => nx_off (hR.nx h0) k1 (hjn 1) hR.bl.len h0 hR.ob, hnew hR.bl hR.ob, ?_⟩⟩
  · have := h.k0.1
    rw [k1.2 i (by omega) (by omega) (fun hp => by have := h.bs i hp; omega), h.k0.2 i hi]
  · rcases hsub i hi with hp | hp
    · exact h.bs i hp
    · have := h.k0.1; omega
  · exact Sl.off h.ps k1 (hjn 3) (h.pk.off3 h.ps)
  · rcases hR.ly with hl | ⟨h1, lv, e, h2, h3, h4⟩
    · exact .inl hl
    · refine .inr ⟨h1, lv, e, ?_, ?_, trivial⟩
      · by_cases hk : 0 < s.k
        · exact (hrk hk).si h2
        · exact Sl.off h2 k1 (hjn 1) (h4 (by rcases h.ok.k with hk | hk <;> omega))
      · intro h0
        by_cases hk : 0 < s.k
        · exact (hrk hk).nx (h3 h0)
        · exact nx_off (h3 h0) k1 (hjn 1) h2.len h0 (h4 (by rcases h.ok.k with hk | hk <;> omega))
end Go.Am.F11
end
section
namespace Go.Am.F11
open Go.Am.F06 Go.Am.F10 Go.Am.F09
section
variable {m0 m m' : MM} {c c' : Cf} {p v p' v' : Int} {j xj rb yb : Nat} {P : Nat → Prop} {ps : List Pk} {lv : AV} {s s' : TS} {xs xs' : List Int} {o o' : Int} {F : AV → Prop} {bv mv mv' : AV} {ly : List AV}
theorem RLy.len (h : RLy m c p s F ly) : ly.length = 12 ∧ ly.all AV.one = true := by
  rcases h with ⟨_, rfl⟩ | ⟨_, lv, rfl, h, _⟩
  · exact ⟨rfl, rfl⟩
  · refine ⟨rfl, ?_⟩
    have h1 := slOne h
    rw [List.all_eq_true]
    intro x hx
    simp only [rlC, cfC, List.cons_append, List.nil_append, List.mem_cons, List.not_mem_nil, or_false] at hx
    rcases hx with rfl | rfl | rfl | rfl | rfl | rfl | rfl | rfl | rfl | rfl | rfl | rfl <;> first | rfl | assumption
end
end Go.Am.F11
end
section
namespace Go.Am.F11
open Go.Am.F06 Go.Am.F10 Go.Am.F09
variable {X : Type}
theorem addr_ne2 {c : Cf} {p p' i i' : Int} (hp : thereP c p) (hp' : thereP c p') (h0 : 0 ≤ i) (h1 : i < 6 + c.q) (h0' : 0 ≤ i') (h1' : i' < 6 + c.q) (hne : p ≠ p' ∨ i ≠ i') : (addrA c p i).toNat ≠ (addrA c p' i').toNat := by
  have hb := there_bounds hp
  have hb' := there_bounds hp'
  have hm := mul_bounds hb.2.2.2.2.1 hb.2.2.2.2.2 (q := 6 + c.q) (by omega) (by omega)
  have hm' := mul_bounds hb'.2.2.2.2.1 hb'.2.2.2.2.2 (q := 6 + c.q) (by omega) (by omega)
  unfold addrA; rw [if_pos hp, if_pos hp']
  rcases (show p < p' ∨ p = p' ∨ p' < p by omega) with h | h | h
  · have h2 : (p + 1) * (6 + c.q) ≤ p' * (6 + c.q) := Int.mul_le_mul_of_nonneg_right (by omega) (by omega)
    have h3 : (p + 1) * (6 + c.q) = p * (6 + c.q) + (6 + c.q) := by rw [Int.add_mul, Int.one_mul]
    omega
  · subst h; omega
  · have h2 : (p' + 1) * (6 + c.q) ≤ p * (6 + c.q) := Int.mul_le_mul_of_nonneg_right (by omega) (by omega)
    have h3 : (p' + 1) * (6 + c.q) = p' * (6 + c.q) + (6 + c.q) := by rw [Int.add_mul, Int.one_mul]
    omega
theorem slot_addr {c : Cf} {p : Int} (k : Int) (hp : thereP c p) : slotA c p k = addrA c p (6 + k % c.q) ∧ 6 ≤ 6 + k % c.q ∧ 6 + k % c.q < 6 + c.q := by
  have hb := there_bounds hp
  have h0 := Int.emod_nonneg k (b := c.q) (by omega)
  have h1 := Int.emod_lt_of_pos k (b := c.q) (by omega)
  unfold slotA; rw [if_pos hp.1]
  exact ⟨rfl, by omega, by omega⟩
theorem slot_place {c : Cf} {p p' i : Int} (k : Int) (hp : thereP c p) (hp' : thereP c p') (h0 : 0 ≤ i) (h1 : i ≤ 5) : (addrA c p i).toNat ≠ (slotA c p' k).toNat := by
  obtain ⟨e, h2, h3⟩ := slot_addr k hp'
  have hb := there_bounds hp
  rw [e]
  exact addr_ne2 hp hp' h0 (by omega) (by omega) h3 (.inr (by omega))
theorem getD_set2 {xs : List Int} {a b : Nat} {v : Int} (h : a ≠ b) : (xs.set a v).getD b 0 = xs.getD b 0 := by
  rw [List.getD_eq_getElem?_getD, List.getElem?_set_ne h, ← List.getD_eq_getElem?_getD]
theorem getD_setc (xs : List Int) (a b : Nat) (v : Int) : (xs.set a v).getD b 0 = v ∨ (xs.set a v).getD b 0 = xs.getD b 0 := by
  by_cases h : a = b
  · subst h
    by_cases hl : a < xs.length
    · left; rw [List.getD_eq_getElem?_getD, List.getElem?_set_self hl]; rfl
    · right; rw [List.set_eq_of_length_le (by omega)]
  · exact .inr (getD_set2 h)
structure OkG (c : Cf) (xs : List Int) : Prop where
  f : OkF c xs
  s : ∀ p k, thereP c p → 0 ≤ xs.getD (slotA c p k).toNat 0 ∧ xs.getD (slotA c p k).toNat 0 < 4611686018427387904
theorem OkG.setw {c : Cf} {xs : List Int} (h : OkG c xs) {p v : Int} (hp : thereP c p) (hv : sz v ≤ c.q) : OkG c (xs.set (addrA c p 0).toNat v) :=
  ⟨h.f.setw hp hv, fun p' k hp' => by rw [getD_set2 (slot_place k hp hp' (by decide) (by decide))]; exact h.s p' k hp'⟩
theorem OkG.setb {c : Cf} {xs : List Int} (h : OkG c xs) {p i v : Int} (hp : thereP c p) (h0 : 1 ≤ i) (h1 : i ≤ 5) : OkG c (xs.set (addrA c p i).toNat v) :=
  ⟨h.f.setb hp h0 h1, fun p' k hp' => by rw [getD_set2 (slot_place k hp hp' (by omega) h1)]; exact h.s p' k hp'⟩
theorem OkG.sets {c : Cf} {xs : List Int} (h : OkG c xs) {p k v : Int} (hp : thereP c p) (hv : 0 ≤ v ∧ v < 4611686018427387904) : OkG c (xs.set (slotA c p k).toNat v) :=
  ⟨h.f.sets hp, fun p' k' hp' => by
    rcases getD_setc xs (slotA c p k).toNat (slotA c p' k').toNat v with e | e
    · rw [e]; exact hv
    · rw [e]; exact h.s p' k' hp'⟩
structure FT (m0 : Mem X) (c : Cf) (q0 : Nat) (xs : List Int) (m : Mem X) : Prop where
  keep : Keep m0 m
  box : m[m0.length]? = some (.cells 6 false (cfC c))
  out : m[q0]? = some (.cells 1 false (uC xs))
  len : xs.length = cellsN c
  ok : ∀ x, x ∈ xs → W64 x
  lt : m0.length < q0
  full : OkG c xs
theorem FT.app {m0 m : Mem X} {c : Cf} {q0 : Nat} {xs : List Int} (h : FT m0 c q0 xs m) (K : Mem X) : FT m0 c q0 xs (m ++ K) :=
  ⟨h.keep.trans (Keep.app _ _), (Keep.app m K).get h.box, (Keep.app m K).get h.out, h.len, h.ok, h.lt, h.full⟩
theorem FT.okL {m0 m : Mem X} {c : Cf} {q0 : Nat} {xs : List Int} (h : FT m0 c q0 xs m) : OkL c xs := ⟨h.len, h.ok⟩
theorem FT.all {m0 m : Mem X} {c : Cf} {q0 : Nat} {xs xs' : List Int} (h : FT m0 c q0 xs m) (hx : OkL c xs') (hf : OkG c xs') (K : Mem X) : FT m0 c q0 xs' (m.set q0 (.cells 1 false (uC xs')) ++ K) := by
  refine FT.app ⟨h.keep.set (by have := h.lt; omega) _, ?_, List.getElem?_set_self (List.getElem?_eq_some_iff.1 h.out).1, hx.1, hx.2, h.lt, hf⟩ K
  rw [List.getElem?_set_ne (by have := h.lt; omega)]; exact h.box
def FJ (m0 : Mem X) (c : Cf) (q0 : Nat) (bv : AV) (k : Nat) (e : List AV) (m : Mem X) : Prop := ∃ (p : Nat) (xs : List Int) (y6 y7 y8 y9 y10 y11 y12 : AV),
  e = [.agg (cfC c), bv, .ptr m0.length 0, .nils, .sl q0 0 (cellsN c) (some (cellsN c)), .int .i64 p, y6, y7, y8, y9, y10, y11, y12] ∧ FT m0 c q0 xs m ∧ (rightP c → (k : Int) = c.n - p ∧ (p : Int) ≤ c.n) ∧ (¬ rightP c → k = 0)
def FJ2 (m0 : Mem X) (c : Cf) (q0 : Nat) (bv : AV) (p : Nat) (h n : Int) (y9 y10 : AV) (k : Nat) (e : List AV) (m : Mem X) : Prop := ∃ (i : Int) (xs : List Int) (y11 y12 : AV),
  e = [.agg (cfC c), bv, .ptr m0.length 0, .nils, .sl q0 0 (cellsN c) (some (cellsN c)), .int .i64 p, .int .u32 h, .int .u32 n, .int .u32 i, y9, y10, y11, y12] ∧ FT m0 c q0 xs m ∧ (k : Int) = n - i ∧ 0 ≤ i ∧ i ≤ n
set_option maxHeartbeats 16000000 in
theorem filled_runG {m0 : Mem X} {c : Cf} {bs : List Int} {bv : AV} (hB : SB m0 bs bv) (hb : ∀ x, x ∈ bs → 0 ≤ x ∧ x < 256) :
    Fn Gfill F10.docs_Filled [.agg (cfC c), bv] m0 (fun r m' => ∃ xs, Keep m0 m' ∧ SU m' true xs r ∧ xs.length = cellsN c ∧ (∀ x, x ∈ xs → W64 x) ∧ OkG c xs ∧ Fr m0.length r) := by
  have a156 : assoc (Gfill (X := X)) 156 = some F10.c_conf_Config_Cells := rfl
  have a157 : assoc (Gfill (X := X)) 157 = some F10.c_conf_Config_Right := rfl
  have a158 : assoc (Gfill (X := X)) 158 = some F10.c_docs_byteAt := rfl
  have a159 : assoc (Gfill (X := X)) 159 = some F10.c_conf_Config_Word := rfl
  have a160 : assoc (Gfill (X := X)) 160 = some F10.c_conf_Config_Slot := rfl
  have a161 : assoc (Gfill (X := X)) 161 = some F10.c_conf_Config_Next := rfl
  have a162 : assoc (Gfill (X := X)) 162 = some F10.c_conf_Config_Stat := rfl
  have a163 : assoc (Gfill (X := X)) 163 = some F10.c_conf_Config_Tick := rfl
  have a164 : assoc (Gfill (X := X)) 164 = some F10.c_conf_Config_Sys := rfl
  have a165 : assoc (Gfill (X := X)) 165 = some F10.c_conf_Config_Flag := rfl
  generalize Gfill (X := X) = G at a156 a157 a158 a159 a160 a161 a162 a163 a164 a165 ⊢
  obtain ⟨J, hcells⟩ := cells_eq (m0 ++ [.cells 6 false (cfC c)]) c
  have hN := cellsN_le c
  have hmk : ∀ M : Mem X, amOp G (.make 1 8 [.int .u64 0]) [.int .i64 (cellsN c), .int .i64 (cellsN c)] M = some (.sl M.length 0 (cellsN c) (some (cellsN c)), M ++ [.cells 1 false (uC (List.replicate (cellsN c) 0))]) := fun M => by
    have hrep : repeatL (cellsN c) [AV.int .u64 0] = uC (List.replicate (cellsN c) 0) := by simp [repeatL, uC]
    simp only [amOp]
    rw [if_pos (by omega), Int.toNat_natCast, hrep]
  simp only [cfC, List.append_assoc, List.cons_append, List.nil_append] at hcells
  have e4 : ∀ p : Nat, (p : Int) < 8 → IntKind.i64.wrap (4 * (p : Int)) = 4 * (p : Int) := fun p hp => wrapI (by omega) (by omega)
  refine Fn_of rfl ?_
  simp (disch := first | assumption | omega | (simp only [zl] <;> omega) | (simp only [zn])) only [F10.docs_Filled, ↓zd, zk, Nat.reduceSub, Nat.reduceAdd, Nat.reduceMul, Nat.reduceLeDiff, Nat.reduceEqDiff, reduceIte, Int.reduceEq, Int.reduceBEq, Int.reduceLE, Int.reduceLT, Int.reduceNeg, Int.reduceAdd, Int.reduceSub, Int.reduceMul, List.map, AV.cells, List.all, AV.one, eqV, eqAll, splice, fillA, List.replicate, resAll, resA, zm, zg, cfC, a156, hcells, hmk]
  have hF0 : FT m0 c (m0.length + (J.length + 1)) (List.replicate (cellsN c) 0) (m0 ++ Chunk.cells 6 false (cfC c) :: (J ++ [Chunk.cells 1 false (uC (List.replicate (cellsN c) 0))])) := by
    refine ⟨Keep.app _ _, by rw [get_mid0]; rfl, ?_, by simp, fun x hx => ?_, by omega, ⟨⟨fun p hp => ?_⟩, fun p k hp => ?_⟩⟩
    · rw [get_mid, List.getElem?_cons_succ, get_concat]
    · rw [List.eq_of_mem_replicate hx]; unfold W64; omega
    · have hz : (List.replicate (cellsN c) (0 : Int)).getD (addrA c p 0).toNat 0 = 0 := by
        rw [List.getD_eq_getElem?_getD, List.getElem?_replicate]; split <;> rfl
      rw [hz]
      have : sz 0 = 0 := by decide
      have hb := there_bounds hp
      omega
    · have hz : (List.replicate (cellsN c) (0 : Int)).getD (slotA c p k).toNat 0 = 0 := by
        rw [List.getD_eq_getElem?_getD, List.getElem?_replicate]; split <;> rfl
      rw [hz]; omega
  have hRT : ∀ m : Mem X, F10.c_conf_Config_Right [.agg [.int .i64 c.n, .int .i64 c.q, .int .i64 c.g, .int .i64 c.m, .int .i64 c.t, .int .i64 c.s]] m = some (.bool (decide (rightP c)), m ++ [.cells 6 false (cfC c)]) := fun m => right_eq m c
  refine W_loop (FJ m0 c (m0.length + (J.length + 1)) bv) (if rightP c then c.n.toNat else 0) ?_ ⟨0, List.replicate (cellsN c) 0, _, _, _, _, _, _, _, rfl, hF0, fun hr => ?_, fun hr => if_neg hr⟩ ?_
  · split
    · rename_i hr; have := hr.1; simp only [FUEL]; omega
    · simp [FUEL]
  · rw [if_pos hr]; have := hr.1; omega
  clear hF0 hcells hmk
  generalize m0.length + (J.length + 1) = q0
  rintro k e m ⟨p, xs, y6, y7, y8, y9, y10, y11, y12, rfl, hF, hk1, hk2⟩
  have hbox := hF.box
  have hout := hF.out
  have hul : (uC xs).length = cellsN c := by rw [uC_len]; exact hF.len
  have hl0 : m0.length < m.length := (List.getElem?_eq_some_iff.1 hbox).1
  have hlq : q0 < m.length := (List.getElem?_eq_some_iff.1 hout).1
  have fin : ∀ K : Mem X, ∃ xs, Keep m0 (m ++ K) ∧ SU (m ++ K) true xs (.sl q0 0 (cellsN c) (some (cellsN c))) ∧ xs.length = cellsN c ∧ (∀ x, x ∈ xs → W64 x) ∧ OkG c xs ∧ Fr m0.length (.sl q0 0 (cellsN c) (some (cellsN c))) := fun K => by
    have hF' := hF.app K
    refine ⟨xs, hF'.keep, ⟨by rw [uC_len]; omega, .inr ⟨_, _, _, by rw [hF.len], fun _ => ⟨false, _, hF'.out, by rw [List.drop_zero, Nat.mul_one, ← uC_len, List.take_length], by rw [uC_len]; omega, fun _ => rfl⟩⟩⟩, hF.len, hF.ok, hF.full, .inr ⟨_, _, _, _, rfl, by have := hF.lt; omega⟩⟩
  simp only [cfC] at hbox
  by_cases hr : rightP c
  · simp only [decide_eq_true hr] at hRT
    obtain ⟨hk1, hk1'⟩ := hk1 hr
    by_cases hp : (p : Int) < c.n
    · have ht : thereP c p := ⟨hr, by omega, hp⟩
      have htb := there_bounds ht
      have hq0 := hF.lt
      have hbv := byteV_b hb
      have hby0 : ∀ i : Int, 0 ≤ i → F10.c_docs_byteAt [bv, .int .i64 i] m = some (.int .i64 (byteV bs i), m) := fun i hi => byte_eq (hB.keep hF.keep) hb hi
      have hby1 : ∀ (K : Mem X) (i : Int), 0 ≤ i → F10.c_docs_byteAt [bv, .int .i64 i] (m ++ K) = some (.int .i64 (byteV bs i), m ++ K) := fun K i hi => byte_eq (hB.keep (hF.keep.trans (Keep.app _ _))) hb hi
      have hA : ∀ k : Int, 0 ≤ k → k < 8 → 0 ≤ addrA c p k ∧ addrA c p k < cellsN c := fun k h0 h1 => addr_b ht h0 (by omega)
      have hA0 := hA 0 (by omega) (by omega)
      have eq1 : IntKind.i64.wrap (c.q + 1) = c.q + 1 := wrapI (by omega) (by omega)
      have hA1 := hA 1 (by omega) (by omega)
      have hA2 := hA 2 (by omega) (by omega)
      have hA3 := hA 3 (by omega) (by omega)
      have hA4 := hA 4 (by omega) (by omega)
      have hA5 := hA 5 (by omega) (by omega)
      have hs := fun (M : Mem X) (z : Int) => slot_eqR M hr (p : Int) (wrap32_b z).1 (wrap32_b z).2
      have hnx := fun M : Mem X => next_eq M c (p : Int)
      have hst := fun M : Mem X => stat_eq M c (p : Int)
      have htk := fun M : Mem X => tick_eq M c (p : Int)
      have hsy := fun M : Mem X => sys_eq M c (p : Int)
      have hfl := fun M : Mem X => flag_eq M c (p : Int)
      simp only [cfC, List.cons_append, List.nil_append] at hs hnx hst htk hsy hfl
      have hw0 := fun m : Mem X => word_run (m := m) c (p : Int)
      simp only [cfC, List.cons_append, List.nil_append] at hw0
      simp (disch := first | assumption | omega | (simp only [zl] <;> omega) | (simp only [zn])) only [↓zd, zk, Nat.reduceSub, Nat.reduceAdd, Nat.reduceMul, Nat.reduceLeDiff, Nat.reduceEqDiff, reduceIte, Int.reduceEq, Int.reduceBEq, Int.reduceLE, Int.reduceLT, Int.reduceNeg, Int.reduceAdd, Int.reduceSub, Int.reduceMul, List.map, AV.cells, List.all, AV.one, eqV, eqAll, splice, fillA, List.replicate, resAll, resA, zm, zg, cfC, hbox, a157, hRT, a158, hby0, hby1]
      refine CW_of (fun _ => ?_) (fun _ => ?_)
      all_goals simp (disch := first | assumption | omega | (simp only [zl] <;> omega) | (simp only [zn])) only [↓zd, zk, Nat.reduceSub, Nat.reduceAdd, Nat.reduceMul, Nat.reduceLeDiff, Nat.reduceEqDiff, reduceIte, Int.reduceEq, Int.reduceBEq, Int.reduceLE, Int.reduceLT, Int.reduceNeg, Int.reduceAdd, Int.reduceSub, Int.reduceMul, List.map, AV.cells, List.all, AV.one, eqV, eqAll, splice, fillA, List.replicate, resAll, resA, zm, zg, cfC, hbox, a157, hRT, a158, hby0, hby1, eq1, a159, hw0, shl_eq, evOr, hout, hul, uC_set]
      · refine W_loop (FJ2 m0 c q0 bv p _ _ _ _) (IntKind.u32.wrap ((byteV bs (4 * (p : Int) + 1)).tmod (c.q + 1))).toNat (by have := wrap32_b ((byteV bs (4 * (p : Int) + 1)).tmod (c.q + 1)); simp only [FUEL]; omega) ⟨0, _, _, _, rfl, hF.all (hF.okL.set _ (wrap64_b _)) (hF.full.setw ht (word_sz (wrap32_b _).1 (wrap32_b _).2 (wrap32_b _).1 (mod_le (hbv _).1 (by omega) (by omega) rfl) (by omega))) _, by have := wrap32_b ((byteV bs (4 * (p : Int) + 1)).tmod (c.q + 1)); omega, by omega, (wrap32_b _).1⟩ ?_
        clear hF hout hul hby0 hby1 hl0 hlq fin hbox
        rintro k2 e m2 ⟨i, xs2, y11, y12, rfl, hF, hk, hi0, hi1⟩
        have hbox := hF.box
        have hout := hF.out
        have hul : (uC xs2).length = cellsN c := by rw [uC_len]; exact hF.len
        have hl0 : m0.length < m2.length := (List.getElem?_eq_some_iff.1 hbox).1
        have hlq : q0 < m2.length := (List.getElem?_eq_some_iff.1 hout).1
        simp only [cfC] at hbox
        have hn32 := wrap32_b ((byteV bs (4 * (p : Int) + 1)).tmod (c.q + 1))
        generalize IntKind.u32.wrap ((byteV bs (4 * (p : Int) + 1)).tmod (c.q + 1)) = n at hk hi1 hn32 ⊢
        have hlx : xs2.length = cellsN c := hF.len
        simp (disch := first | assumption | omega | (simp only [zl] <;> omega) | (simp only [zn])) only [↓zd, zk, Nat.reduceSub, Nat.reduceAdd, Nat.reduceMul, Nat.reduceLeDiff, Nat.reduceEqDiff, reduceIte, Int.reduceEq, Int.reduceBEq, Int.reduceLE, Int.reduceLT, Int.reduceNeg, Int.reduceAdd, Int.reduceSub, Int.reduceMul, List.map, AV.cells, List.all, AV.one, eqV, eqAll, splice, fillA, List.replicate, resAll, resA, zm, zg, cfC]
        refine CW_of (fun hlt => ?_) (fun hge => ?_)
        · simp only [decide_eq_true_eq] at hlt
          have hi1' : IntKind.u32.wrap (i + 1) = i + 1 := by rw [wrap32]; omega
          have hsA := slot_b ht (wrap32_b (IntKind.u32.wrap (IntKind.u32.wrap (0 - IntKind.u32.wrap ((byteV bs (4 * (p : Int))).tmod 7)) - 1) + i)).1
          simp (disch := first | assumption | omega | (simp only [zl] <;> omega) | (simp only [zn])) only [↓zd, zk, Nat.reduceSub, Nat.reduceAdd, Nat.reduceMul, Nat.reduceLeDiff, Nat.reduceEqDiff, reduceIte, Int.reduceEq, Int.reduceBEq, Int.reduceLE, Int.reduceLT, Int.reduceNeg, Int.reduceAdd, Int.reduceSub, Int.reduceMul, List.map, AV.cells, List.all, AV.one, eqV, eqAll, splice, fillA, List.replicate, resAll, resA, zm, zg, cfC, hbox, a160, hs, hout, hul, uC_set, hi1']
          exact ⟨k2 - 1, by omega, i + 1, _, _, _, rfl, hF.all (hF.okL.set _ (by unfold W64; omega)) (hF.full.sets ht (by omega)) _, by omega, by omega, by omega⟩
        · simp only [decide_eq_false_iff_not] at hge
          have hby0 : ∀ i : Int, 0 ≤ i → F10.c_docs_byteAt [bv, .int .i64 i] m2 = some (.int .i64 (byteV bs i), m2) := fun i hi => byte_eq (hB.keep hF.keep) hb hi
          have hby1 : ∀ (K : Mem X) (i : Int), 0 ≤ i → F10.c_docs_byteAt [bv, .int .i64 i] (m2 ++ K) = some (.int .i64 (byteV bs i), m2 ++ K) := fun K i hi => byte_eq (hB.keep (hF.keep.trans (Keep.app _ _))) hb hi
          have hby2 : ∀ (A : Chunk X) (K : Mem X) (i : Int), 0 ≤ i → F10.c_docs_byteAt [bv, .int .i64 i] (m2.set q0 A ++ K) = some (.int .i64 (byteV bs i), m2.set q0 A ++ K) := fun A K i hi => byte_eq (hB.keep ((hF.keep.set (by omega) A).trans (Keep.app _ _))) hb hi
          simp (disch := first | assumption | omega | (simp only [zl] <;> omega) | (simp only [zn])) only [↓zd, zk, Nat.reduceSub, Nat.reduceAdd, Nat.reduceMul, Nat.reduceLeDiff, Nat.reduceEqDiff, reduceIte, Int.reduceEq, Int.reduceBEq, Int.reduceLE, Int.reduceLT, Int.reduceNeg, Int.reduceAdd, Int.reduceSub, Int.reduceMul, List.map, AV.cells, List.all, AV.one, eqV, eqAll, splice, fillA, List.replicate, resAll, resA, zm, zg, cfC, a158, hby0]
          refine CW_of (fun _ => ?_) (fun _ => ?_)
          all_goals simp (disch := first | assumption | omega | (simp only [zl] <;> omega) | (simp only [zn])) only [↓zd, zk, Nat.reduceSub, Nat.reduceAdd, Nat.reduceMul, Nat.reduceLeDiff, Nat.reduceEqDiff, reduceIte, Int.reduceEq, Int.reduceBEq, Int.reduceLE, Int.reduceLT, Int.reduceNeg, Int.reduceAdd, Int.reduceSub, Int.reduceMul, List.map, AV.cells, List.all, AV.one, eqV, eqAll, splice, fillA, List.replicate, resAll, resA, zm, zg, cfC, hbox, a158, hby0, hby1, hby2, hout, stC_u, List.set_set, a161, hnx, a162, hst, a163, htk, a164, hsy, a165, hfl]
          all_goals simp only [uC_set]
          all_goals refine ⟨k - 1, by omega, p + 1, _, _, _, _, _, _, _, _, rfl, hF.all (by (repeat' refine OkL.set ?_ _ (by first | exact wrap64_b _ | (unfold W64; omega))); exact hF.okL) (by (repeat' refine OkG.setb ?_ ht (by decide) (by decide)); exact hF.full) _, fun _ => ⟨by omega, by omega⟩, fun h => absurd hr h⟩
      · refine W_loop (FJ2 m0 c q0 bv p _ _ _ _) (IntKind.u32.wrap ((byteV bs (4 * (p : Int) + 1)).tmod (c.q + 1))).toNat (by have := wrap32_b ((byteV bs (4 * (p : Int) + 1)).tmod (c.q + 1)); simp only [FUEL]; omega) ⟨0, _, _, _, rfl, hF.all (hF.okL.set _ (wrap64_b _)) (hF.full.setw ht (word_sz (wrap32_b _).1 (wrap32_b _).2 (wrap32_b _).1 (mod_le (hbv _).1 (by omega) (by omega) rfl) (by omega))) _, by have := wrap32_b ((byteV bs (4 * (p : Int) + 1)).tmod (c.q + 1)); omega, by omega, (wrap32_b _).1⟩ ?_
        clear hF hout hul hby0 hby1 hl0 hlq fin hbox
        rintro k2 e m2 ⟨i, xs2, y11, y12, rfl, hF, hk, hi0, hi1⟩
        have hbox := hF.box
        have hout := hF.out
        have hul : (uC xs2).length = cellsN c := by rw [uC_len]; exact hF.len
        have hl0 : m0.length < m2.length := (List.getElem?_eq_some_iff.1 hbox).1
        have hlq : q0 < m2.length := (List.getElem?_eq_some_iff.1 hout).1
        simp only [cfC] at hbox
        have hn32 := wrap32_b ((byteV bs (4 * (p : Int) + 1)).tmod (c.q + 1))
        generalize IntKind.u32.wrap ((byteV bs (4 * (p : Int) + 1)).tmod (c.q + 1)) = n at hk hi1 hn32 ⊢
        have hlx : xs2.length = cellsN c := hF.len
        simp (disch := first | assumption | omega | (simp only [zl] <;> omega) | (simp only [zn])) only [↓zd, zk, Nat.reduceSub, Nat.reduceAdd, Nat.reduceMul, Nat.reduceLeDiff, Nat.reduceEqDiff, reduceIte, Int.reduceEq, Int.reduceBEq, Int.reduceLE, Int.reduceLT, Int.reduceNeg, Int.reduceAdd, Int.reduceSub, Int.reduceMul, List.map, AV.cells, List.all, AV.one, eqV, eqAll, splice, fillA, List.replicate, resAll, resA, zm, zg, cfC]
        refine CW_of (fun hlt => ?_) (fun hge => ?_)
        · simp only [decide_eq_true_eq] at hlt
          have hi1' : IntKind.u32.wrap (i + 1) = i + 1 := by rw [wrap32]; omega
          have hsA := slot_b ht (wrap32_b (IntKind.u32.wrap ((byteV bs (4 * (p : Int))).tmod 7) + i)).1
          simp (disch := first | assumption | omega | (simp only [zl] <;> omega) | (simp only [zn])) only [↓zd, zk, Nat.reduceSub, Nat.reduceAdd, Nat.reduceMul, Nat.reduceLeDiff, Nat.reduceEqDiff, reduceIte, Int.reduceEq, Int.reduceBEq, Int.reduceLE, Int.reduceLT, Int.reduceNeg, Int.reduceAdd, Int.reduceSub, Int.reduceMul, List.map, AV.cells, List.all, AV.one, eqV, eqAll, splice, fillA, List.replicate, resAll, resA, zm, zg, cfC, hbox, a160, hs, hout, hul, uC_set, hi1']
          exact ⟨k2 - 1, by omega, i + 1, _, _, _, rfl, hF.all (hF.okL.set _ (by unfold W64; omega)) (hF.full.sets ht (by omega)) _, by omega, by omega, by omega⟩
        · simp only [decide_eq_false_iff_not] at hge
          have hby0 : ∀ i : Int, 0 ≤ i → F10.c_docs_byteAt [bv, .int .i64 i] m2 = some (.int .i64 (byteV bs i), m2) := fun i hi => byte_eq (hB.keep hF.keep) hb hi
          have hby1 : ∀ (K : Mem X) (i : Int), 0 ≤ i → F10.c_docs_byteAt [bv, .int .i64 i] (m2 ++ K) = some (.int .i64 (byteV bs i), m2 ++ K) := fun K i hi => byte_eq (hB.keep (hF.keep.trans (Keep.app _ _))) hb hi
          have hby2 : ∀ (A : Chunk X) (K : Mem X) (i : Int), 0 ≤ i → F10.c_docs_byteAt [bv, .int .i64 i] (m2.set q0 A ++ K) = some (.int .i64 (byteV bs i), m2.set q0 A ++ K) := fun A K i hi => byte_eq (hB.keep ((hF.keep.set (by omega) A).trans (Keep.app _ _))) hb hi
          simp (disch := first | assumption | omega | (simp only [zl] <;> omega) | (simp only [zn])) only [↓zd, zk, Nat.reduceSub, Nat.reduceAdd, Nat.reduceMul, Nat.reduceLeDiff, Nat.reduceEqDiff, reduceIte, Int.reduceEq, Int.reduceBEq, Int.reduceLE, Int.reduceLT, Int.reduceNeg, Int.reduceAdd, Int.reduceSub, Int.reduceMul, List.map, AV.cells, List.all, AV.one, eqV, eqAll, splice, fillA, List.replicate, resAll, resA, zm, zg, cfC, a158, hby0]
          refine CW_of (fun _ => ?_) (fun _ => ?_)
          all_goals simp (disch := first | assumption | omega | (simp only [zl] <;> omega) | (simp only [zn])) only [↓zd, zk, Nat.reduceSub, Nat.reduceAdd, Nat.reduceMul, Nat.reduceLeDiff, Nat.reduceEqDiff, reduceIte, Int.reduceEq, Int.reduceBEq, Int.reduceLE, Int.reduceLT, Int.reduceNeg, Int.reduceAdd, Int.reduceSub, Int.reduceMul, List.map, AV.cells, List.all, AV.one, eqV, eqAll, splice, fillA, List.replicate, resAll, resA, zm, zg, cfC, hbox, a158, hby0, hby1, hby2, hout, stC_u, List.set_set, a161, hnx, a162, hst, a163, htk, a164, hsy, a165, hfl]
          all_goals simp only [uC_set]
          all_goals refine ⟨k - 1, by omega, p + 1, _, _, _, _, _, _, _, _, rfl, hF.all (by (repeat' refine OkL.set ?_ _ (by first | exact wrap64_b _ | (unfold W64; omega))); exact hF.okL) (by (repeat' refine OkG.setb ?_ ht (by decide) (by decide)); exact hF.full) _, fun _ => ⟨by omega, by omega⟩, fun h => absurd hr h⟩
    · simp (disch := first | assumption | omega | (simp only [zl] <;> omega) | (simp only [zn])) only [↓zd, zk, Nat.reduceSub, Nat.reduceAdd, Nat.reduceMul, Nat.reduceLeDiff, Nat.reduceEqDiff, reduceIte, Int.reduceEq, Int.reduceBEq, Int.reduceLE, Int.reduceLT, Int.reduceNeg, Int.reduceAdd, Int.reduceSub, Int.reduceMul, List.map, AV.cells, List.all, AV.one, eqV, eqAll, splice, fillA, List.replicate, resAll, resA, zm, zg, cfC, hbox]
      have := fin []
      rwa [List.append_nil] at this
  · simp only [decide_eq_false hr] at hRT
    by_cases hp : (p : Int) < c.n
    · simp (disch := first | assumption | omega | (simp only [zl] <;> omega) | (simp only [zn])) only [↓zd, zk, Nat.reduceSub, Nat.reduceAdd, Nat.reduceMul, Nat.reduceLeDiff, Nat.reduceEqDiff, reduceIte, Int.reduceEq, Int.reduceBEq, Int.reduceLE, Int.reduceLT, Int.reduceNeg, Int.reduceAdd, Int.reduceSub, Int.reduceMul, List.map, AV.cells, List.all, AV.one, eqV, eqAll, splice, fillA, List.replicate, resAll, resA, zm, zg, cfC, hbox, a157, hRT]
      exact fin _
    · simp (disch := first | assumption | omega | (simp only [zl] <;> omega) | (simp only [zn])) only [↓zd, zk, Nat.reduceSub, Nat.reduceAdd, Nat.reduceMul, Nat.reduceLeDiff, Nat.reduceEqDiff, reduceIte, Int.reduceEq, Int.reduceBEq, Int.reduceLE, Int.reduceLT, Int.reduceNeg, Int.reduceAdd, Int.reduceSub, Int.reduceMul, List.map, AV.cells, List.all, AV.one, eqV, eqAll, splice, fillA, List.replicate, resAll, resA, zm, zg, cfC, hbox]
      have := fin []
      rwa [List.append_nil] at this
end Go.Am.F11
end
section
namespace Go.Am.F11
open Go.Am.F06 Go.Am.F10 Go.Am.F09
theorem count_take {l : List Int} {j : Nat} {y : Int} (h : l[j]? = some y) (x : Int) : (l.take (j + 1)).count x = (l.take j).count x + if y = x then 1 else 0 := by
  rw [List.take_add_one, h, List.count_append]
  simp [List.count_cons]
def BiI (a b : AV) (n : Nat) (m0 : MM) (k : Nat) (e : List AV) (m : MM) : Prop := ∃ (i : Nat) (z4 z5 z6 z7 z8 z9 z10 z11 z12 : AV),
  e = [a, b, .bool false, .int .i64 i, z4, z5, z6, z7, z8, z9, z10, z11, z12] ∧ m = m0 ∧ k = n - i ∧ i ≤ n
def BjI (a b : AV) (xs ys : List Int) (x : Int) (i : Nat) (m0 : MM) (k : Nat) (e : List AV) (m : MM) : Prop := ∃ (j : Nat) (z7 z8 z9 z10 z11 z12 : AV),
  e = [a, b, .bool false, .int .i64 i, .int .i64 ((xs.take j).count x : Int), .int .i64 ((ys.take j).count x : Int), .int .i64 j, z7, z8, z9, z10, z11, z12] ∧ m = m0 ∧ k = ys.length - j ∧ j ≤ ys.length
set_option maxHeartbeats 8000000 in
theorem bag_run {m : MM} {w1 w2 : Bool} {xs ys : List Int} {a b : AV} (ha : SI m w1 xs a) (hb : SI m w2 ys b) (hx : xs.length < 1000000) (hp : xs.Perm ys) : Fn [] law11_same [a, b] m (fun r m' => r = .bool true ∧ m' = m) := by
  refine Fn_of rfl ?_
  have h1 := ha.len
  have h2 := hb.len
  have hn : xs.length = ys.length := hp.length_eq
  rcases Nat.eq_zero_or_pos xs.length with h0 | h0
  · have hx0 : xs = [] := List.length_eq_zero_iff.1 h0
    have hy0 : ys = [] := List.length_eq_zero_iff.1 (by omega)
    rw [hx0] at h1; rw [hy0] at h2
    subst hx0; subst hy0
    simp (disch := first | assumption | omega | (simp only [zl] <;> omega) | (simp only [zn])) only [law11_same, ↓zd, zk, Nat.reduceSub, Nat.reduceAdd, Nat.reduceMul, Nat.reduceLeDiff, Nat.reduceEqDiff, reduceIte, Int.reduceEq, Int.reduceBEq, Int.reduceLE, Int.reduceLT, Int.reduceNeg, Int.reduceAdd, Int.reduceSub, Int.reduceMul, List.map, AV.cells, List.all, AV.one, eqV, eqAll, splice, fillA, List.replicate, resAll, resA, ev_len, h1, h2]
    refine W_loop (fun k e m' => ∃ z4 z5 z6 z7 z8 z9 z10 z11 z12 : AV, e = [a, b, .bool false, .int .i64 0, z4, z5, z6, z7, z8, z9, z10, z11, z12] ∧ m' = m) 0 (by simp [FUEL]) ⟨_, _, _, _, _, _, _, _, _, rfl, rfl⟩ ?_
    rintro k e m' ⟨z4, z5, z6, z7, z8, z9, z10, z11, z12, rfl, rfl⟩
    simp (disch := first | assumption | omega | (simp only [zl] <;> omega) | (simp only [zn])) only [↓zd, zk, Nat.reduceSub, Nat.reduceAdd, Nat.reduceMul, Nat.reduceLeDiff, Nat.reduceEqDiff, reduceIte, Int.reduceEq, Int.reduceBEq, Int.reduceLE, Int.reduceLT, Int.reduceNeg, Int.reduceAdd, Int.reduceSub, Int.reduceMul, List.map, AV.cells, List.all, AV.one, eqV, eqAll, splice, fillA, List.replicate, resAll, resA, ev_len, h1]
  · obtain ⟨q, o, cap, ro, L, rfl, hq, _, hL, hat⟩ := ha.val h0
    obtain ⟨q', o', cap', ro', L', rfl, hq', _, hL', hat'⟩ := hb.val (by omega)
    have hnn : ¬ ¬ ((xs.length : Int) = ys.length) := by omega
    have hnI : (xs.length : Int) = ys.length := by omega
    simp (disch := first | assumption | omega | (simp only [zl] <;> omega) | (simp only [zn])) only [law11_same, ↓zd, zk, Nat.reduceSub, Nat.reduceAdd, Nat.reduceMul, Nat.reduceLeDiff, Nat.reduceEqDiff, reduceIte, Int.reduceEq, Int.reduceBEq, Int.reduceLE, Int.reduceLT, Int.reduceNeg, Int.reduceAdd, Int.reduceSub, Int.reduceMul, List.map, AV.cells, List.all, AV.one, eqV, eqAll, splice, fillA, List.replicate, resAll, resA, hnI]
    refine W_loop (BiI (.sl q o xs.length cap) (.sl q' o' ys.length cap') xs.length m) xs.length (by simp only [FUEL]; omega) ⟨0, _, _, _, _, _, _, _, _, _, rfl, rfl, rfl, Nat.zero_le _⟩ ?_
    rintro k e m' ⟨i, z4, z5, z6, z7, z8, z9, z10, z11, z12, rfl, rfl, rfl, hi⟩
    simp (disch := first | assumption | omega | (simp only [zl] <;> omega) | (simp only [zn])) only [↓zd, zk, Nat.reduceSub, Nat.reduceAdd, Nat.reduceMul, Nat.reduceLeDiff, Nat.reduceEqDiff, reduceIte, Int.reduceEq, Int.reduceBEq, Int.reduceLE, Int.reduceLT, Int.reduceNeg, Int.reduceAdd, Int.reduceSub, Int.reduceMul, List.map, AV.cells, List.all, AV.one, eqV, eqAll, splice, fillA, List.replicate, resAll, resA]
    refine CW_of (fun h => ?_) (fun h => ?_)
    · simp only [decide_eq_true_eq] at h
      obtain ⟨x, hxi⟩ : ∃ x, xs[i]? = some x := ⟨_, List.getElem?_eq_getElem (by omega)⟩
      simp (disch := first | assumption | omega | (simp only [zl] <;> omega) | (simp only [zn])) only [↓zd, zk, Nat.reduceSub, Nat.reduceAdd, Nat.reduceMul, Nat.reduceLeDiff, Nat.reduceEqDiff, reduceIte, Int.reduceEq, Int.reduceBEq, Int.reduceLE, Int.reduceLT, Int.reduceNeg, Int.reduceAdd, Int.reduceSub, Int.reduceMul, List.map, AV.cells, List.all, AV.one, eqV, eqAll, splice, fillA, List.replicate, resAll, resA]
      refine W_loop (BjI (.sl q o xs.length cap) (.sl q' o' ys.length cap') xs ys x i m') ys.length (by simp only [FUEL]; omega) ⟨0, _, _, _, _, _, _, rfl, rfl, rfl, Nat.zero_le _⟩ ?_
      rintro k e m2 ⟨j, y7, y8, y9, y10, y11, y12, rfl, rfl, rfl, hj⟩
      simp (disch := first | assumption | omega | (simp only [zl] <;> omega) | (simp only [zn])) only [↓zd, zk, Nat.reduceSub, Nat.reduceAdd, Nat.reduceMul, Nat.reduceLeDiff, Nat.reduceEqDiff, reduceIte, Int.reduceEq, Int.reduceBEq, Int.reduceLE, Int.reduceLT, Int.reduceNeg, Int.reduceAdd, Int.reduceSub, Int.reduceMul, List.map, AV.cells, List.all, AV.one, eqV, eqAll, splice, fillA, List.replicate, resAll, resA]
      refine CW_of (fun h => ?_) (fun h => ?_)
      · simp only [decide_eq_true_eq] at h
        obtain ⟨u, hu⟩ : ∃ u, xs[j]? = some u := ⟨_, List.getElem?_eq_getElem (by omega)⟩
        obtain ⟨w, hw⟩ : ∃ w, ys[j]? = some w := ⟨_, List.getElem?_eq_getElem (by omega)⟩
        have c1 := count_take hu x
        have c2 := count_take hw x
        have l1 : (xs.take j).count x ≤ j := Nat.le_trans (List.count_le_length) (by rw [List.length_take]; omega)
        have l2 : (ys.take j).count x ≤ j := Nat.le_trans (List.count_le_length) (by rw [List.length_take]; omega)
        have e1 : IntKind.i64.wrap (((xs.take j).count x : Int) + 1) = ((xs.take j).count x : Int) + 1 := wrapI (by omega) (by omega)
        have e2 : IntKind.i64.wrap (((ys.take j).count x : Int) + 1) = ((ys.take j).count x : Int) + 1 := wrapI (by omega) (by omega)
        simp (disch := first | assumption | omega | (simp only [zl] <;> omega) | (simp only [zn])) only [↓zd, zk, Nat.reduceSub, Nat.reduceAdd, Nat.reduceMul, Nat.reduceLeDiff, Nat.reduceEqDiff, reduceIte, Int.reduceEq, Int.reduceBEq, Int.reduceLE, Int.reduceLT, Int.reduceNeg, Int.reduceAdd, Int.reduceSub, Int.reduceMul, List.map, AV.cells, List.all, AV.one, eqV, eqAll, splice, fillA, List.replicate, resAll, resA, hq, hq', hat j u hu, hat i x hxi, hat' j w hw]
        by_cases d1 : u = x <;> by_cases d2 : w = x
        all_goals simp only [d1, d2, if_true, if_false, Nat.add_zero] at c1 c2
        all_goals simp (disch := first | assumption | omega | (simp only [zl] <;> omega) | (simp only [zn])) only [↓zd, zk, Nat.reduceSub, Nat.reduceAdd, Nat.reduceMul, Nat.reduceLeDiff, Nat.reduceEqDiff, reduceIte, Int.reduceEq, Int.reduceBEq, Int.reduceLE, Int.reduceLT, Int.reduceNeg, Int.reduceAdd, Int.reduceSub, Int.reduceMul, List.map, AV.cells, List.all, AV.one, eqV, eqAll, splice, fillA, List.replicate, resAll, resA, d1, d2, hq, hq', hat i x hxi, hat' j w hw, e1, e2]
        · have c1' : ((List.count x (List.take (j + 1) xs) : Nat) : Int) = (List.count x (List.take j xs) : Int) + 1 := by omega
          have c2' : ((List.count x (List.take (j + 1) ys) : Nat) : Int) = (List.count x (List.take j ys) : Int) + 1 := by omega
          exact ⟨ys.length - (j + 1), by omega, j + 1, _, _, _, _, _, _, by rw [c1', c2']; rfl, rfl, rfl, by omega⟩
        · have c1' : ((List.count x (List.take (j + 1) xs) : Nat) : Int) = (List.count x (List.take j xs) : Int) + 1 := by omega
          have c2' : ((List.count x (List.take (j + 1) ys) : Nat) : Int) = (List.count x (List.take j ys) : Int) := by omega
          exact ⟨ys.length - (j + 1), by omega, j + 1, _, _, _, _, _, _, by rw [c1', c2']; rfl, rfl, rfl, by omega⟩
        · have c1' : ((List.count x (List.take (j + 1) xs) : Nat) : Int) = (List.count x (List.take j xs) : Int) := by omega
          have c2' : ((List.count x (List.take (j + 1) ys) : Nat) : Int) = (List.count x (List.take j ys) : Int) + 1 := by omega
          exact ⟨ys.length - (j + 1), by omega, j + 1, _, _, _, _, _, _, by rw [c1', c2']; rfl, rfl, rfl, by omega⟩
        · have c1' : ((List.count x (List.take (j + 1) xs) : Nat) : Int) = (List.count x (List.take j xs) : Int) := by omega
          have c2' : ((List.count x (List.take (j + 1) ys) : Nat) : Int) = (List.count x (List.take j ys) : Int) := by omega
          exact ⟨ys.length - (j + 1), by omega, j + 1, _, _, _, _, _, _, by rw [c1', c2']; rfl, rfl, rfl, by omega⟩
      · simp only [decide_eq_false_iff_not] at h
        have hjy : j = ys.length := by omega
        subst hjy
        have hc : (xs.take ys.length).count x = (ys.take ys.length).count x := by
          rw [← hn, List.take_length, hn, List.take_length]; exact hp.count_eq x
        simp (disch := first | assumption | omega | (simp only [zl] <;> omega) | (simp only [zn])) only [↓zd, zk, Nat.reduceSub, Nat.reduceAdd, Nat.reduceMul, Nat.reduceLeDiff, Nat.reduceEqDiff, reduceIte, Int.reduceEq, Int.reduceBEq, Int.reduceLE, Int.reduceLT, Int.reduceNeg, Int.reduceAdd, Int.reduceSub, Int.reduceMul, List.map, AV.cells, List.all, AV.one, eqV, eqAll, splice, fillA, List.replicate, resAll, resA, hc]
        exact ⟨xs.length - (i + 1), by omega, i + 1, _, _, _, _, _, _, _, _, _, rfl, rfl, rfl, by omega⟩
    · simp (disch := first | assumption | omega | (simp only [zl] <;> omega) | (simp only [zn])) only [↓zd, zk, Nat.reduceSub, Nat.reduceAdd, Nat.reduceMul, Nat.reduceLeDiff, Nat.reduceEqDiff, reduceIte, Int.reduceEq, Int.reduceBEq, Int.reduceLE, Int.reduceLT, Int.reduceNeg, Int.reduceAdd, Int.reduceSub, Int.reduceMul, List.map, AV.cells, List.all, AV.one, eqV, eqAll, splice, fillA, List.replicate, resAll, resA]
end Go.Am.F11
end
section
namespace Go.Am.F11
open Go.Am.F06 Go.Am.F10 Go.Am.F09
structure KG (c : Cf) (p g w0 : Int) (A : List Int) (d : Nat) (s : PS) (xs : List Int) : Prop where
  ok : OkL c xs
  w : xs.getD (wrdN c p) 0 = dW w0 d
  dl : d ≤ A.length
  sl : ∀ k, d ≤ k → k < A.length → slV c p w0 xs k = A.getD k 0
  hs : s.hs = [g]
  st : s.a = 1 ∨ ((s.a = 2 ∨ s.a = 3) ∧ ∃ e, e ≤ d ∧ s.w = dW w0 e ∧ (A.length : Int) - e < c.q ∧ (s.a = 3 → slV c p w0 xs A.length = g)) ∨
    ((s.a = 4 ∨ s.a = 5) ∧ s.w = dW w0 0 ∧ (A.length : Int) = c.q ∧ (∀ k, k < A.length → slV c p w0 xs k = A.getD k 0) ∧ s.tk = (A.drop (A.length - (c.q / 2).toNat)).take s.tk.length ∧ (s.a = 4 → (s.tk.length : Int) < c.q / 2) ∧ (s.a = 5 → (s.tk.length : Int) = c.q / 2))
theorem KG.ring {c : Cf} {p g w0 : Int} {A : List Int} {d : Nat} {s : PS} {xs : List Int} (h : KG c p g w0 A d s xs) (hp : thereP c p) (hA : (A.length : Int) = sz w0) (hq : sz w0 ≤ c.q) : ringL c p xs = A.drop d := by
  have hdl := h.dl
  refine ringL_eq hp h.w ?_ ?_ fun i hi => ?_
  · rw [dW_sz (by omega)]; omega
  · rw [dW_sz (by omega), List.length_drop]; omega
  · rw [List.length_drop] at hi
    have := h.sl (d + i) (by omega) (by omega)
    unfold slV at this
    have e : (hd (dW w0 d) + (i : Int)) % 4294967296 = (hd w0 + ((d + i : Nat) : Int)) % 4294967296 := by rw [hd_dW]; omega
    rw [ringAt, e, this, List.getD_eq_getElem?_getD, List.getD_eq_getElem?_getD, List.getElem?_drop]
theorem KG.same {c : Cf} {p g w0 : Int} {A : List Int} {d : Nat} {s : PS} {xs xs' : List Int} (h : KG c p g w0 A d s xs) (hok : OkL c xs') (hw : xs'.getD (wrdN c p) 0 = xs.getD (wrdN c p) 0) (hs : ∀ k : Int, xs'.getD (slotA c p k).toNat 0 = xs.getD (slotA c p k).toNat 0) : KG c p g w0 A d s xs' := by
  have hsl : ∀ k, slV c p w0 xs' k = slV c p w0 xs k := fun k => by unfold slV; rw [hs]
  obtain ⟨h1, h2, h3, h4, h5, h6⟩ := h
  refine ⟨hok, hw.trans h2, h3, fun k k1 k2 => by rw [hsl]; exact h4 k k1 k2, h5, ?_⟩
  rcases h6 with ha | ⟨ha, e, he, hw, h7, h8⟩ | ⟨ha, hw, h7, h8, h9⟩
  · exact .inl ha
  · exact .inr (.inl ⟨ha, e, he, hw, h7, fun hh => by rw [hsl]; exact h8 hh⟩)
  · exact .inr (.inr ⟨ha, hw, h7, fun k hk => by rw [hsl]; exact h8 k hk, h9⟩)
theorem KG.thief {c : Cf} {p g w0 : Int} {A : List Int} {d : Nat} {s : PS} {xs : List Int} (h : KG c p g w0 A d s xs) (hp : thereP c p) {n : Nat} (hn : d + n ≤ A.length) : KG c p g w0 A (d + n) s (dX c p xs n) := by
  have hsl : ∀ k, slV c p w0 (dX c p xs n) k = slV c p w0 xs k := fun k => by
    unfold slV; rw [dX_slot hp n (by omega)]
  obtain ⟨h1, h2, h3, h4, h5, h6⟩ := h
  refine ⟨dX_ok h1 n, by rw [dX_word h1 hp, h2, dW_add], hn, fun k k1 k2 => by rw [hsl]; exact h4 k (by omega) k2, h5, ?_⟩
  rcases h6 with ha | ⟨ha, e, he, hw, h7, h8⟩ | ⟨ha, hw, h7, h8, h9⟩
  · exact .inl ha
  · exact .inr (.inl ⟨ha, e, by omega, hw, h7, fun hh => by rw [hsl]; exact h8 hh⟩)
  · exact .inr (.inr ⟨ha, hw, h7, fun k hk => by rw [hsl]; exact h8 k hk, h9⟩)
theorem KG.start {c : Cf} {p g : Int} {xs : List Int} (hx : OkL c xs) (hp : thereP c p) (hq : sz (xs.getD (wrdN c p) 0) ≤ c.q) : KG c p g (xs.getD (wrdN c p) 0) (ringL c p xs) 0 ⟨1, 0, [], [g]⟩ xs := by
  have hw := getD_64 hx.2 (wrdN c p)
  refine ⟨hx, (dW_zero hw).symm, Nat.zero_le _, fun k _ hk => ?_, rfl, .inl rfl⟩
  rw [ringL_there hp] at hk ⊢
  rw [ringW_len] at hk
  have e : (ringW c p xs (xs.getD (wrdN c p) 0) (ringN c (xs.getD (wrdN c p) 0))).getD k 0 = ringAt c p xs (xs.getD (wrdN c p) 0) k := by rw [List.getD, ringW_get _ _ _ _ hk]; rfl
  rw [e]; rfl
theorem ring_len {c : Cf} {p : Int} {xs : List Int} (hp : thereP c p) (hq : sz (xs.getD (wrdN c p) 0) ≤ c.q) : ((ringL c p xs).length : Int) = sz (xs.getD (wrdN c p) 0) := by
  have := sz_b (xs.getD (wrdN c p) 0)
  rw [ringL_there hp, ringW_len]; unfold ringN; rw [if_pos hq]; omega
theorem ring_sz {c : Cf} {p : Int} {xs : List Int} (hp : thereP c p) (h : 0 < (ringL c p xs).length) : sz (xs.getD (wrdN c p) 0) ≤ c.q := by
  rw [ringL_there hp, ringW_len] at h
  unfold ringN at h
  split at h
  · assumption
  · omega
set_option maxHeartbeats 4000000 in
theorem KG.step {c : Cf} {p g w0 : Int} {A : List Int} {d : Nat} {s : PS} {xs : List Int} (h : KG c p g w0 A d s xs) (hp : thereP c p) (hA : (A.length : Int) = sz w0) (hq : sz w0 ≤ c.q) (hw0 : W64 w0) (g0 : 0 ≤ g) (g1 : g < 9223372036854775808) (ha : s.a ≠ 0) :
    ((stepP c p g xs s).1.a ≠ 0 ∧ KG c p g w0 A d (stepP c p g xs s).1 (stepP c p g xs s).2) ∨
    ((stepP c p g xs s).1.a = 0 ∧ (stepP c p g xs s).1.hs = [] ∧ OkL c (stepP c p g xs s).2 ∧ ringL c p (stepP c p g xs s).2 = A.drop d ++ [g] ∧ (A.length : Int) - d < c.q ∧ d ≤ A.length) ∨
    ((stepP c p g xs s).1.a = 0 ∧ d = 0 ∧ (A.length : Int) = c.q ∧ (stepP c p g xs s).1.hs = A.drop (A.length - (c.q / 2).toNat) ++ [g] ∧ OkL c (stepP c p g xs s).2 ∧ ringL c p (stepP c p g xs s).2 = A.take (A.length - (c.q / 2).toNat)) := by
  have hb := there_bounds hp
  have hroom : roomP c.q := hp.1.2.1
  have heven : c.q / 2 + c.q / 2 = c.q := by rcases hroom with h | h | h | h | h | h <;> rw [h] <;> rfl
  have htb := tl_b w0
  have hhb := hd_b hw0
  obtain ⟨h1, h2, h3, h4, h5, h6⟩ := h
  have hxl := h1.1
  have hwb := addr_b hp (i := 0) (by omega) (by omega)
  have hwl : wrdN c p < xs.length := by unfold wrdN; omega
  obtain ⟨a, w, tk, hs⟩ := s
  simp only at ha h5 h6
  rcases h6 with rfl | ⟨h7 | h7, e, h8, h9, h10, h12⟩ | ⟨h7 | h7, h8, h9, h10, h11, h12, h13⟩
  · have hs1 : stepP c p g xs ⟨1, w, tk, hs⟩ = (⟨if c.q ≤ sz (dW w0 d) then 4 else 2, dW w0 d, [], hs⟩, xs) := by simp only [stepP, if_true, h2]
    have hz := dW_sz (w := w0) (i := d) (by omega)
    rw [hs1, hz]
    by_cases hfull : c.q ≤ sz w0 - d
    · have hd0 : d = 0 := by omega
      rw [if_pos hfull]
      refine .inl ⟨by simp, h1, h2, h3, h4, h5, .inr (.inr ⟨.inl rfl, by rw [hd0], by omega, fun k hk => h4 k (by omega) hk, by simp, fun _ => by simp only [List.length_nil]; omega, fun hh => by simp at hh⟩)⟩
    · rw [if_neg hfull]
      exact .inl ⟨by simp, h1, h2, h3, h4, h5, .inr (.inl ⟨.inl rfl, d, Nat.le_refl _, rfl, by omega, fun hh => by simp at hh⟩)⟩
  · subst h7
    have hsl : pslA c p w 0 = slotA c p ((hd w0 + A.length) % 4294967296) := by
      unfold pslA; rw [h9, tl_dW, tl_at hA, Int.add_zero]
    have hs1 : stepP c p g xs ⟨2, w, tk, hs⟩ = (⟨3, w, tk, hs⟩, xs.set (slotA c p ((hd w0 + A.length) % 4294967296)).toNat g) := by
      have : IntKind.u64.wrap g = g := wrapU g0 (by omega)
      simp only [stepP, if_neg (show ¬ ((2 : Int) = 1) by decide), if_true, hsl, this]
    rw [hs1]
    have hsb := slot_b (i := (hd w0 + A.length) % 4294967296) hp (by omega)
    refine .inl ⟨by simp, h1.set _ (by unfold W64; omega), ?_, h3, fun k k1 k2 => ?_, h5, .inr (.inl ⟨.inr rfl, e, h8, h9, h10, fun _ => ?_⟩)⟩
    · rw [getD_set2 (slot_word hp)]; exact h2
    · unfold slV
      rw [getD_set2 (slot_ne hp (by omega) (by omega) (fun hh => room_mod (a := hd w0) (k := k) (n := A.length) hroom (by omega) (by omega) hh.symm))]
      exact h4 k k1 k2
    · unfold slV
      rw [getD_set_self (by omega)]; exact wrapI (by omega) (by omega)
  · subst h7
    by_cases heq : d = e
    · have hw : xs.getD (wrdN c p) 0 = w := by rw [h2, h9, heq]
      have hs1 : stepP c p g xs ⟨3, w, tk, hs⟩ = (⟨0, w, tk, []⟩, xs.set (wrdN c p) (growW w 1)) := if_pos hw
      rw [hs1]
      have hg : growW w 1 = pk ((hd w0 + e) % 4294967296) ((tl w0 + 1) % 4294967296) := by unfold growW; rw [h9, hd_dW, tl_dW]
      refine .inr (.inl ⟨rfl, rfl, h1.set _ (grow_64 (by rw [h9]; exact dW_64 _ _) _), ?_, by omega, h3⟩)
      have hsz : sz (growW w 1) = A.length - e + 1 := by
        rw [hg]; unfold sz; rw [hd_pk (by omega) (by omega), tl_pk (by omega) (by omega)]
        unfold sz at hA; omega
      refine ringL_eq hp (getD_set_self hwl) (by rw [hsz]; omega) (by rw [hsz, List.length_append, List.length_drop, List.length_singleton]; omega) fun k hk => ?_
      rw [List.length_append, List.length_drop, List.length_singleton] at hk
      have hpos : (hd (growW w 1) + (k : Int)) % 4294967296 = (hd w0 + ((d + k : Nat) : Int)) % 4294967296 := by
        rw [hg, hd_pk (by omega) (by omega)]; omega
      rw [ringAt, hpos, getD_set2 (slot_word hp).symm]
      by_cases hk2 : d + k < A.length
      · have := h4 (d + k) (by omega) hk2
        unfold slV at this
        rw [this, List.getD_eq_getElem?_getD, List.getD_eq_getElem?_getD, List.getElem?_append_left (by rw [List.length_drop]; omega), List.getElem?_drop]
      · have hk3 : d + k = A.length := by omega
        have := h12 rfl
        unfold slV at this
        rw [hk3, this, List.getD_eq_getElem?_getD, List.getElem?_append_right (by rw [List.length_drop]; omega), List.length_drop, show k - (A.length - d) = 0 by omega]; rfl
    · have hw : ¬ xs.getD (wrdN c p) 0 = w := fun hh => heq (dW_inj (w := w0) (by omega) (by omega) (by rw [← h2, hh, h9]))
      have hs1 : stepP c p g xs ⟨3, w, tk, hs⟩ = (⟨1, w, tk, hs⟩, xs) := if_neg hw
      rw [hs1]
      exact .inl ⟨by simp, h1, h2, h3, h4, h5, .inl rfl⟩
  · subst h7
    have hlt := h12 rfl
    have hsl : pslA c p w (tk.length - c.q / 2) = slotA c p ((hd w0 + ((A.length - (c.q / 2).toNat + tk.length : Nat) : Int)) % 4294967296) := by
      unfold pslA; rw [h8, tl_dW, tl_at hA]; congr 2; omega
    have hv := h10 (A.length - (c.q / 2).toNat + tk.length) (by omega)
    unfold slV at hv
    have hs1 : stepP c p g xs ⟨4, w, tk, hs⟩ = (⟨if (tk.length : Int) + 1 = c.q / 2 then 5 else 4, w, tk ++ [A.getD (A.length - (c.q / 2).toNat + tk.length) 0], hs⟩, xs) := by
      simp only [stepP, if_neg (show ¬ ((4 : Int) = 1) by decide), if_neg (show ¬ ((4 : Int) = 2) by decide), if_neg (show ¬ ((4 : Int) = 3) by decide), if_true, hsl, hv]
    rw [hs1]
    have htk : tk ++ [A.getD (A.length - (c.q / 2).toNat + tk.length) 0] = (A.drop (A.length - (c.q / 2).toNat)).take (tk.length + 1) := by
      have hg : (A.drop (A.length - (c.q / 2).toNat))[tk.length]? = some (A.getD (A.length - (c.q / 2).toNat + tk.length) 0) := by
        rw [List.getElem?_drop, List.getD_eq_getElem?_getD, List.getElem?_eq_getElem (by omega)]; rfl
      rw [List.take_add_one, hg, ← h11]; rfl
    refine .inl ⟨by simp only; split <;> omega, h1, h2, h3, h4, h5, .inr (.inr ⟨?_, h8, h9, h10, ?_, fun hh => ?_, fun hh => ?_⟩)⟩
    · simp only; split <;> simp
    · simp only [List.length_append, List.length_singleton]; exact htk
    · simp only [List.length_append, List.length_singleton] at hh ⊢
      by_cases hq2 : (tk.length : Int) + 1 = c.q / 2
      · rw [if_pos hq2] at hh; simp at hh
      · omega
    · simp only [List.length_append, List.length_singleton] at hh ⊢
      by_cases hq2 : (tk.length : Int) + 1 = c.q / 2
      · omega
      · rw [if_neg hq2] at hh; simp at hh
  · subst h7
    have hlt := h13 rfl
    by_cases heq : d = 0
    · have hw : xs.getD (wrdN c p) 0 = w := by rw [h2, h8, heq]
      have hs1 : stepP c p g xs ⟨5, w, tk, hs⟩ = (⟨0, w, tk, tk ++ [g]⟩, xs.set (wrdN c p) (dropW w (c.q / 2))) := if_pos hw
      rw [hs1]
      have hg : dropW w (c.q / 2) = pk ((hd w0 + (0 : Nat)) % 4294967296) ((tl w0 - c.q / 2) % 4294967296) := by unfold dropW; rw [h8, hd_dW, tl_dW]
      have hsz : sz (dropW w (c.q / 2)) = A.length - c.q / 2 := by
        rw [hg]; unfold sz; rw [hd_pk (by omega) (by omega), tl_pk (by omega) (by omega)]
        unfold sz at hA; omega
      refine .inr (.inr ⟨rfl, heq, h9, ?_, h1.set _ (drop_64 (by rw [h8]; exact dW_64 _ _) _), ?_⟩)
      · have : (A.drop (A.length - (c.q / 2).toNat)).take tk.length = A.drop (A.length - (c.q / 2).toNat) := List.take_of_length_le (by rw [List.length_drop]; omega)
        rw [this] at h11
        simp only; rw [← h11]
      · refine ringL_eq hp (getD_set_self hwl) (by rw [hsz]; omega) (by rw [hsz, List.length_take]; omega) fun k hk => ?_
        rw [List.length_take] at hk
        have hpos : (hd (dropW w (c.q / 2)) + (k : Int)) % 4294967296 = (hd w0 + (k : Int)) % 4294967296 := by
          rw [hg, hd_pk (by omega) (by omega)]; omega
        rw [ringAt, hpos, getD_set2 (slot_word hp).symm]
        have := h10 k (by omega)
        unfold slV at this
        rw [this, List.getD_eq_getElem?_getD, List.getD_eq_getElem?_getD, List.getElem?_take, if_pos (by omega)]
    · have hw : ¬ xs.getD (wrdN c p) 0 = w := fun hh => heq (dW_inj (w := w0) (by omega) (by omega) (by rw [← h2, hh, h8]))
      have hs1 : stepP c p g xs ⟨5, w, tk, hs⟩ = (⟨1, w, tk, hs⟩, xs) := if_neg hw
      rw [hs1]
      exact .inl ⟨by simp, h1, h2, h3, h4, h5, .inl rfl⟩
def Oth (c : Cf) (p : Int) (xs xs' : List Int) : Prop := ∀ p' i, thereP c p' → p' ≠ p → 0 ≤ i → i < 6 + c.q → xs'.getD (addrA c p' i).toNat 0 = xs.getD (addrA c p' i).toNat 0
theorem Oth.refl (c : Cf) (p : Int) (xs : List Int) : Oth c p xs xs := fun _ _ _ _ _ _ => rfl
theorem Oth.set {c : Cf} {p i v : Int} {xs : List Int} (hp : thereP c p) (h0 : 0 ≤ i) (h1 : i < 6 + c.q) : Oth c p xs (xs.set (addrA c p i).toNat v) := fun p' i' hp' hne h2 h3 => getD_set2 (addr_ne2 hp hp' h0 h1 h2 h3 (.inl (fun h => hne h.symm)))
theorem Oth.word {c : Cf} {p p' : Int} {xs xs' : List Int} (h : Oth c p xs xs') (hp' : thereP c p') (hne : p' ≠ p) : xs'.getD (wrdN c p') 0 = xs.getD (wrdN c p') 0 := h p' 0 hp' hne (by omega) (by have := there_bounds hp'; omega)
theorem Oth.slot {c : Cf} {p p' : Int} {xs xs' : List Int} (h : Oth c p xs xs') (hp' : thereP c p') (hne : p' ≠ p) (k : Int) : xs'.getD (slotA c p' k).toNat 0 = xs.getD (slotA c p' k).toNat 0 := by
  obtain ⟨e, h2, h3⟩ := slot_addr k hp'
  rw [e]; exact h p' _ hp' hne (by omega) h3
theorem Oth.ring {c : Cf} {p p' : Int} {xs xs' : List Int} (h : Oth c p xs xs') (hp' : thereP c p') (hne : p' ≠ p) : ringL c p' xs' = ringL c p' xs := by
  rw [ringL_there hp', ringL_there hp', h.word hp' hne]
  refine List.map_congr_left fun i _ => ?_
  unfold ringAt; rw [h.slot hp' hne]
theorem oth_word {c : Cf} {p v : Int} {xs : List Int} (hp : thereP c p) : Oth c p xs (xs.set (wrdN c p) v) := Oth.set hp (by omega) (by have := there_bounds hp; omega)
theorem oth_slot {c : Cf} {p v k : Int} {xs : List Int} (hp : thereP c p) : Oth c p xs (xs.set (slotA c p k).toNat v) := by
  obtain ⟨e, h2, h3⟩ := slot_addr k hp
  rw [e]; exact Oth.set hp (by omega) h3
theorem oth_dX {c : Cf} {p : Int} {xs : List Int} (hp : thereP c p) (n : Nat) : Oth c p xs (dX c p xs n) := by
  unfold dX; split
  · exact .refl _ _ _
  · exact oth_word hp
theorem oth_stepP {c : Cf} {p g : Int} {s : PS} {xs : List Int} (hp : thereP c p) : Oth c p xs (stepP c p g xs s).2 := by
  unfold stepP
  repeat' split
  all_goals first | exact .refl _ _ _ | exact oth_word hp | exact oth_slot hp
theorem oth_stepL {c : Cf} {p : Int} {s : LS} {xs : List Int} (hp : thereP c p) : Oth c p xs (F09.stepL c p xs s).2 := by
  unfold F09.stepL
  repeat' split
  all_goals first | exact .refl _ _ _ | exact oth_word hp | exact oth_slot hp
theorem hd_grow (w n : Int) : hd (growW w n) = hd w := by unfold growW; exact hd_pk (by omega) (by omega)
theorem hd_drop (w n : Int) : hd (dropW w n) = hd w := by unfold dropW; exact hd_pk (by omega) (by omega)
theorem stepP_hd {c : Cf} {p g : Int} {s : PS} {xs : List Int} (hp : thereP c p) : hd ((stepP c p g xs s).2.getD (wrdN c p) 0) = hd (xs.getD (wrdN c p) 0) := by
  have hw : ∀ v, hd v = hd (xs.getD (wrdN c p) 0) → hd ((xs.set (wrdN c p) v).getD (wrdN c p) 0) = hd (xs.getD (wrdN c p) 0) := fun v hv => by
    rcases getD_setc xs (wrdN c p) (wrdN c p) v with e | e
    · rw [e]; exact hv
    · rw [e]
  unfold stepP
  repeat' split
  all_goals first | rfl | exact congrArg hd (getD_set2 (slot_word hp)) | (rename_i h; exact hw _ ((hd_grow _ _).trans (congrArg hd h.symm))) | (rename_i h; exact hw _ ((hd_drop _ _).trans (congrArg hd h.symm)))
end Go.Am.F11
end
section
namespace Go.Am.F11
open Go.Am.F06 Go.Am.F10 Go.Am.F09
theorem LI.same {c : Cf} {p w0 : Int} {own : List Int} {t : Nat} {s : LS} {xs xs' : List Int} (h : LI c p w0 own t s xs) (hok : OkL c xs') (hw : xs'.getD (wrdN c p) 0 = xs.getD (wrdN c p) 0) (hs : ∀ k : Int, xs'.getD (slotA c p k).toNat 0 = xs.getD (slotA c p k).toNat 0) : LI c p w0 own t s xs' := by
  have hsl : ∀ k, slV c p w0 xs' k = slV c p w0 xs k := fun k => by unfold slV; rw [hs]
  obtain ⟨h1, h2, h3, h4⟩ := h
  refine ⟨hok, hw.trans h2, h3, ?_⟩
  rcases h4 with h | ⟨i, e1, e2, e3, e4, e5, e6⟩
  · exact .inl h
  · exact .inr ⟨i, e1, e2, e3, e4, fun k hk => by rw [hsl]; exact e5 k hk, e6⟩
theorem LI.oth {c : Cf} {p p1 w0 : Int} {own : List Int} {t : Nat} {s : LS} {xs xs' : List Int} (h : LI c p w0 own t s xs) (hp : thereP c p) (hok : OkL c xs') (ho : Oth c p1 xs xs') (hne : p ≠ p1) : LI c p w0 own t s xs' :=
  LI.same h hok (ho.word hp hne) (fun k => ho.slot hp hne k)
theorem gain_dW (w : Int) (n : Nat) : gainN w n = dW w n := rfl
theorem ring_empty {c : Cf} {p h : Int} {xs : List Int} (hp : thereP c p) (h0 : 0 ≤ h) (h1 : h < 4294967296) (hw : xs.getD (wrdN c p) 0 = pk h h) : ringL c p xs = [] := by
  have hsz : sz (pk h h) = 0 := by unfold sz; rw [hd_pk h0 h1, tl_pk h0 h1]; omega
  have hb := there_bounds hp
  have hl := ring_len hp (xs := xs) (by rw [hw, hsz]; omega)
  rw [hw, hsz] at hl
  exact List.length_eq_zero_iff.1 (by omega)
theorem pos_id {l : List Int} (h : ∀ x, x ∈ l → 0 ≤ x) : posL l = l := by
  unfold posL
  rw [List.filter_eq_self]
  intro x hx
  have := h x hx
  simp only [decide_eq_true_eq]; omega
def SPh (c : Cf) (H0 h0 : Int) (T r : Nat) (s : TS) (xs : List Int) (R : List Int) : Prop :=
  (s.k = 0 ∧ (s.a = 0 ∨ (s.a = 1 ∧ 30 ≤ r)) ∧ xs.getD (wrdN c 0) 0 = pk h0 h0) ∨
  (s.k = 0 ∧ (s.a = 2 ∨ s.a = 3) ∧ xs.getD (wrdN c 0) 0 = pk h0 h0 ∧ sz s.w ≤ c.q ∧ (∃ e : Nat, e ≤ T ∧ hd s.w = (H0 + e) % 4294967296 ∧ (e = T → halfI s.w ≤ R.length ∧ s.bl = R.take s.bl.length)) ∧ (if xs.getD (wrdN c 1) 0 = s.w then 10 else 50) + (halfI s.w - s.bl.length) ≤ (r : Int)) ∨
  (0 < s.k ∧ s.k = s.bl.length ∧ (∀ x, x ∈ s.bl → 0 ≤ x ∧ x < 9223372036854775808) ∧ (s.bl.length : Int) ≤ c.q / 2 ∧ 0 < s.bl.tail.length ∧ s.a = 4 ∧ ∃ t : Nat, LI c 0 (pk h0 h0) s.bl.tail t s.ly xs ∧ s.bl.tail.length + 2 - t ≤ r) ∨
  (0 < s.k ∧ s.k = s.bl.length ∧ s.a = 0 ∧ s.ly.ls = [] ∧ ringL c 0 xs = s.bl.tail)
variable {c : Cf} {H0 h0 : Int} {T r : Nat} {s : TS} {xs xs' : List Int} {R R' : List Int}
theorem half_q (hp : thereP c 1) (h : sz s.w ≤ c.q) : halfI s.w ≤ c.q / 2 := by
  have hs := sz_b s.w
  have hr : roomP c.q := hp.1.2.1
  unfold halfI
  rcases hr with hr | hr | hr | hr | hr | hr <;> rw [hr] at h ⊢ <;> omega
theorem SPh.step (h : SPh c H0 h0 T r s xs R) (hok : TOk c 0 1 s) (hx : OkL c xs) (hp0 : thereP c 0) (hp1 : thereP c 1) (hR : R = ringL c 1 xs) (hq : sz (xs.getD (wrdN c 1) 0) ≤ c.q) (hT : hd (xs.getD (wrdN c 1) 0) = (H0 + T) % 4294967296) (hTb : T < 2147483648) (hq8 : c.q ≤ 8) (hNN : ∀ x, x ∈ R → 0 ≤ x ∧ x < 9223372036854775808) (b0 : 0 ≤ h0) (b1 : h0 < 4294967296) (ha : s.a ≠ 0) :
    (((stepT c 0 1 xs s).1.k = s.k ∧ (0 < s.k → (stepT c 0 1 xs s).1.bl = s.bl) ∧ Oth c 0 xs (stepT c 0 1 xs s).2 ∧ ∃ r', r' < r ∧ SPh c H0 h0 T r' (stepT c 0 1 xs s).1 (stepT c 0 1 xs s).2 R) ∨
     (s.k = 0 ∧ ∃ n : Nat, n = R.length - R.length / 2 ∧ 0 < n ∧ n ≤ R.length ∧ (stepT c 0 1 xs s).1.k = n ∧ (stepT c 0 1 xs s).1.bl = R.take n ∧ handsT (stepT c 0 1 xs s).1 = R.take n ∧ (stepT c 0 1 xs s).2 = dX c 1 xs n ∧ ∃ r', r' < r ∧ SPh c H0 h0 (T + n) r' (stepT c 0 1 xs s).1 (stepT c 0 1 xs s).2 (R.drop n))) := by
  have hb1 := there_bounds hp1
  have hl := ring_len hp1 hq
  rw [← hR] at hl
  have hsw := sz_b (xs.getD (wrdN c 1) 0)
  rcases h with ⟨hk, ha1, hw0⟩ | ⟨hk, ha1, hw0, hsz, ⟨e, heT, hhd, hval⟩, hr⟩ | ⟨hk, hkb, hnn, hbq, htl, ha1, t, hLI, hr⟩ | ⟨hk, hkb, ha1, _⟩
  · obtain ⟨ha1, hr⟩ := ha1.resolve_left ha
    left
    rw [stepT, if_neg ha, if_pos ha1]
    refine ⟨rfl, fun h => by omega, .refl _ _ _, r - 1, by omega, ?_⟩
    by_cases hz : sz (xs.getD (wrdN c 1) 0) = 0 ∨ c.q < sz (xs.getD (wrdN c 1) 0)
    · exact .inl ⟨hk, .inl (by simp only [if_pos hz]), hw0⟩
    · have hh := half_b (xs.getD (wrdN c 1) 0)
      refine .inr (.inl ⟨hk, .inl (by simp only [if_neg hz]), hw0, hq, ⟨T, Nat.le_refl _, hT, fun _ => ⟨?_, rfl⟩⟩, ?_⟩)
      · simp only; omega
      · simp only [if_true, List.length_nil]; omega
  · have hhq := half_q hp1 hsz
    rcases ha1 with ha1 | ha1
    · left
      have hlt : (s.bl.length : Int) < halfI s.w := by
        rcases (hok.a.resolve_left ha).2 with h | h | h | h <;> omega
      rw [stepT, if_neg ha, if_neg (by omega), if_pos ha1]
      refine ⟨rfl, fun h => by omega, .refl _ _ _, r - 1, by split at hr <;> omega, ?_⟩
      refine .inr (.inl ⟨hk, ?_, hw0, hsz, ⟨e, heT, hhd, fun he => ?_⟩, ?_⟩)
      · simp only; split <;> simp
      · obtain ⟨v1, v2⟩ := hval he
        refine ⟨v1, ?_⟩
        have hRl : s.bl.length < R.length := by omega
        have hat : R[s.bl.length]? = some (IntKind.i64.wrap (xs.getD (sslN c 1 s.w s.bl.length) 0)) := by
          have hN : s.bl.length < ringN c (xs.getD (wrdN c 1) 0) := by
            rw [hR, ringL_there hp1, ringW_len] at hRl; exact hRl
          rw [hR, ringL_there hp1, ringW_get _ _ _ _ hN]
          unfold ringAt sslN
          rw [hT, hhd, he]
        simp only [List.length_append, List.length_cons, List.length_nil, Nat.zero_add]
        rw [List.take_add_one, hat, ← v2]; rfl
      · simp only [List.length_append, List.length_cons, List.length_nil]
        split at hr <;> (rename_i hc; simp only [hc, if_true, if_false]; omega)
    · have hfl : (s.bl.length : Int) = halfI s.w ∧ 0 < s.bl.length := by
        rcases (hok.a.resolve_left ha).2 with h | h | h | h
        · omega
        · omega
        · exact h.2.2
        · omega
      by_cases hw : xs.getD (wrdN c 1) 0 = s.w
      · right
        refine ⟨hk, s.bl.length, ?_⟩
        have he : e = T := by rw [hw, hhd] at hT; omega
        obtain ⟨v1, v2⟩ := hval he
        have hlw : (R.length : Int) = sz s.w := by rw [hl, hw]
        have hn : s.bl.length = R.length - R.length / 2 := by
          have := hfl.1
          unfold halfI at this
          omega
        rw [if_pos hw] at hr
        have e1 : stepT c 0 1 xs s = ({ s with k := s.bl.length, ly := newL c 0 s.bl.tail, a := if s.bl.length = 1 then 0 else 4 }, xs.set (wrdN c 1) (gainN s.w (halfI s.w))) := by
          rw [stepT, if_neg ha, if_neg (by omega), if_neg (by omega), if_pos ha1, if_pos hw]
        have e2 : xs.set (wrdN c 1) (gainN s.w (halfI s.w)) = dX c 1 xs s.bl.length := by
          unfold dX; rw [if_neg (by omega), hw, ← gain_dW, hfl.1]
        have hnb : ∀ x, x ∈ s.bl → 0 ≤ x ∧ x < 9223372036854775808 := fun x hx => hNN x (by rw [v2] at hx; exact List.mem_of_mem_take hx)
        have e3 : newL c 0 s.bl.tail = ⟨1, 0, 0, 0, s.bl.tail⟩ := by
          rw [show newL c 0 s.bl.tail = ⟨1, 0, 0, 0, posL s.bl.tail⟩ from if_pos hp0, pos_id fun x hx => (hnb x (List.mem_of_mem_tail hx)).1]
        have ho : Oth c 1 xs (dX c 1 xs s.bl.length) := oth_dX hp1 _
        rw [e1, e2, e3]
        refine ⟨hn, hfl.2, by omega, rfl, v2, ?_, rfl, r - 1, by omega, ?_⟩
        · unfold handsT
          rw [if_neg (by show ¬ ((s.bl.length : Int) = 0); omega), ← v2]
          show s.bl.take 1 ++ s.bl.tail = s.bl
          cases hbl : s.bl with
          | nil => rw [hbl] at hfl; simp at hfl
          | cons y u => rfl
        · by_cases h1 : s.bl.length = 1
          · have ht0 : s.bl.tail = [] := List.length_eq_zero_iff.1 (by rw [List.length_tail]; omega)
            refine .inr (.inr (.inr ⟨by show (0 : Int) < (s.bl.length : Int); omega, rfl, by simp only [if_pos h1], ht0, ?_⟩))
            show ringL c 0 _ = s.bl.tail
            rw [ho.ring hp0 (by decide), ht0]
            exact ring_empty hp0 b0 b1 hw0
          · refine .inr (.inr (.inl ⟨by show (0 : Int) < (s.bl.length : Int); omega, rfl, hnb, by show (s.bl.length : Int) ≤ c.q / 2; omega, by show 0 < s.bl.tail.length; rw [List.length_tail]; omega, by simp only [if_neg h1], 0, ⟨dX_ok hx _, by rw [ho.word hp0 (by decide)]; exact hw0, rfl, .inl ⟨rfl, rfl⟩⟩, ?_⟩))
            show s.bl.tail.length + 2 - 0 ≤ r - 1
            rw [List.length_tail]; omega
      · left
        rw [stepT, if_neg ha, if_neg (by omega), if_neg (by omega), if_pos ha1, if_neg hw]
        rw [if_neg hw] at hr
        exact ⟨rfl, fun h => by omega, .refl _ _ _, r - 1, by omega, .inl ⟨hk, .inr ⟨rfl, by omega⟩, hw0⟩⟩
  · left
    have e1 : stepT c 0 1 xs s = ({ s with ly := (F09.stepL c 0 xs s.ly).1, a := if (F09.stepL c 0 xs s.ly).1.a = 0 then 0 else 4 }, (F09.stepL c 0 xs s.ly).2) := by
      rw [stepT, if_neg ha, if_neg (by omega), if_neg (by omega), if_neg (by omega)]
    have ho : Oth c 0 xs (F09.stepL c 0 xs s.ly).2 := oth_stepL hp0
    have hne := hLI.ne
    rw [e1]
    refine ⟨rfl, fun _ => rfl, ho, r - 1, by omega, ?_⟩
    have htl2 := s.bl.length_tail
    rcases hLI.step hp0 b0 b1 htl (by omega) (fun x hx => hnn x (List.mem_of_mem_tail hx)) with ⟨h1, h2⟩ | ⟨h1, h2, h3, h4, h5⟩
    · exact .inr (.inr (.inl ⟨hk, hkb, hnn, hbq, htl, by simp only [if_neg h1], t + 1, h2, by show s.bl.tail.length + 2 - (t + 1) ≤ r - 1; omega⟩))
    · exact .inr (.inr (.inr ⟨hk, hkb, by simp only [if_pos h1], h3, h5⟩))
  · exact absurd ha1 ha
theorem SPh.put (h : SPh c H0 h0 T r s xs R) (hok : TOk c 0 1 s) (hp0 : thereP c 0) (hp1 : thereP c 1) (hq8 : c.q ≤ 8) (ho : Oth c 1 xs xs') (hx' : OkL c xs') (hR : ∀ j : Nat, (j : Int) ≤ c.q / 2 → j ≤ R.length → j ≤ R'.length ∧ R'.take j = R.take j) : SPh c H0 h0 T 60 s xs' R' := by
  rcases h with ⟨hk, ha1, hw0⟩ | ⟨hk, ha1, hw0, hsz, ⟨e, heT, hhd, hval⟩, hr⟩ | ⟨hk, hkb, hnn, hbq, htl, ha1, t, hLI, hr⟩ | ⟨hk, hkb, ha1, hls, hri⟩
  · exact .inl ⟨hk, ha1.imp id (fun h => ⟨h.1, by omega⟩), by rw [ho.word hp0 (by decide)]; exact hw0⟩
  · have hhq := half_q hp1 hsz
    have hh := half_b s.w
    have hbh : (s.bl.length : Int) ≤ halfI s.w := by
      rcases (hok.a.resolve_left (by omega)).2 with h | h | h | h <;> omega
    refine .inr (.inl ⟨hk, ha1, by rw [ho.word hp0 (by decide)]; exact hw0, hsz, ⟨e, heT, hhd, fun he => ?_⟩, by split <;> omega⟩)
    obtain ⟨v1, v2⟩ := hval he
    obtain ⟨u1, _⟩ := hR (halfI s.w).toNat (by omega) (by omega)
    obtain ⟨_, u2⟩ := hR s.bl.length (by omega) (by omega)
    exact ⟨by omega, v2.trans u2.symm⟩
  · exact .inr (.inr (.inl ⟨hk, hkb, hnn, hbq, htl, ha1, t, LI.oth hLI hp0 hx' ho (by decide), by have := s.bl.length_tail; omega⟩))
  · exact .inr (.inr (.inr ⟨hk, hkb, ha1, hls, by rw [ho.ring hp0 (by decide)]; exact hri⟩))
theorem SPh.thief (h : SPh c H0 h0 T r s xs R) (hok : TOk c 0 1 s) (hx : OkL c xs) (hp0 : thereP c 0) (hp1 : thereP c 1) (hq8 : c.q ≤ 8) (n : Nat) : SPh c H0 h0 (T + n) 60 s (dX c 1 xs n) (R.drop n) := by
  have ho : Oth c 1 xs (dX c 1 xs n) := oth_dX hp1 n
  have hx' : OkL c (dX c 1 xs n) := dX_ok hx n
  by_cases hn : n = 0
  · subst hn
    exact SPh.put h hok hp0 hp1 hq8 ho hx' fun j _ hj => ⟨hj, rfl⟩
  rcases h with ⟨hk, ha1, hw0⟩ | ⟨hk, ha1, hw0, hsz, ⟨e, heT, hhd, hval⟩, hr⟩ | ⟨hk, hkb, hnn, hbq, htl, ha1, t, hLI, hr⟩ | ⟨hk, hkb, ha1, hls, hri⟩
  · exact .inl ⟨hk, ha1.imp id (fun h => ⟨h.1, by omega⟩), by rw [ho.word hp0 (by decide)]; exact hw0⟩
  · have hhq := half_q hp1 hsz
    exact .inr (.inl ⟨hk, ha1, by rw [ho.word hp0 (by decide)]; exact hw0, hsz, ⟨e, by omega, hhd, fun he => by omega⟩, by split <;> omega⟩)
  · exact .inr (.inr (.inl ⟨hk, hkb, hnn, hbq, htl, ha1, t, LI.oth hLI hp0 hx' ho (by decide), by have := s.bl.length_tail; omega⟩))
  · exact .inr (.inr (.inr ⟨hk, hkb, ha1, hls, by rw [ho.ring hp0 (by decide)]; exact hri⟩))
end Go.Am.F11
end
