import Derived.Test.YtmgahjccidmlaaaXG18
set_option linter.unusedSimpArgs false
set_option linter.unusedVariables false
section
namespace Go.Am.F09
open Go.Am.F06 Go.Am.F10
theorem neg_eq {X : Type} (m : Mem X) (x : Int) : c_put_NewLay_1 [.int .i64 x] m = some (.bool (decide (x < 0)), m) := by
  have he : c_put_NewLay_1 (X := X) = amFunc [] put_NewLay_1 := rfl
  rw [he]
  exact Fn_eq (Fn_of rfl (by simp (disch := first | assumption | omega | (simp only [zl] <;> omega) | (simp only [zn])) only [put_NewLay_1, ↓zd, zk, Nat.reduceSub, Nat.reduceAdd, Nat.reduceMul, Nat.reduceLeDiff, Nat.reduceEqDiff, reduceIte, Int.reduceEq, Int.reduceBEq, Int.reduceLE, Int.reduceLT, Int.reduceNeg, Int.reduceAdd, Int.reduceSub, Int.reduceMul, List.map, AV.cells, List.all, AV.one, eqV, eqAll, splice, fillA, List.replicate, resAll, resA, zm, zg]))
def Gif : List (Nat × AFun Ob) := [(213, c_put_NewLay_1)]
def Gdf : List (Nat × AFun Ob) := [(97, amFunc Gif slices_IndexFunc_int), (213, c_put_NewLay_1)]
def PInv (q n : Nat) (xs : List Int) (m0 : MM) (k : Nat) (e : List AV) (m : MM) : Prop := ∃ (i : Nat) (x3 x6 x7 : AV),
  e = [.sl q 0 n none, .fn 213 [] [], .int .i64 0, x3, .int .i64 n, .int .i64 i, x6, x7] ∧ m = m0 ∧ k = n - i ∧ i ≤ n ∧ ∀ j x, j < i → xs[j]? = some x → ¬ x < 0
theorem indexf_run {m : MM} {xs : List Int} {q : Nat} (hq : m[q]? = some (.cells 1 false (iC xs))) (hx : xs.length ≤ 1000) :
    ∃ r : Int, ((0 ≤ r ∧ (∃ x, xs[r.toNat]? = some x ∧ x < 0) ∧ ∀ j x, j < r.toNat → xs[j]? = some x → ¬ x < 0) ∨ (r = -1 ∧ ∀ x, x ∈ xs → ¬ x < 0)) ∧ amFunc Gif slices_IndexFunc_int [.sl q 0 xs.length none, .fn 213 [] []] m = some (.int .i64 r, m) := by
  have : Fn Gif slices_IndexFunc_int [.sl q 0 xs.length none, .fn 213 [] []] m (fun v m' => ∃ r : Int, ((0 ≤ r ∧ (∃ x, xs[r.toNat]? = some x ∧ x < 0) ∧ ∀ j x, j < r.toNat → xs[j]? = some x → ¬ x < 0) ∨ (r = -1 ∧ ∀ x, x ∈ xs → ¬ x < 0)) ∧ v = .int .i64 r ∧ m' = m) := by
    have a213 : assoc Gif 213 = some c_put_NewLay_1 := rfl
    generalize Gif = G at a213 ⊢
    refine Fn_of rfl ?_
    simp (disch := first | assumption | omega | (simp only [zl] <;> omega) | (simp only [zn])) only [slices_IndexFunc_int, ↓zd, zk, Nat.reduceSub, Nat.reduceAdd, Nat.reduceMul, Nat.reduceLeDiff, Nat.reduceEqDiff, reduceIte, Int.reduceEq, Int.reduceBEq, Int.reduceLE, Int.reduceLT, Int.reduceNeg, Int.reduceAdd, Int.reduceSub, Int.reduceMul, List.map, AV.cells, List.all, AV.one, eqV, eqAll, splice, fillA, List.replicate, resAll, resA]
    refine W_loop (PInv q xs.length xs m) xs.length (by simp only [FUEL]; omega) ⟨0, _, _, _, rfl, rfl, rfl, Nat.zero_le _, fun j x hj => by omega⟩ ?_
    rintro k e m' ⟨i, x3, x6, x7, rfl, rfl, rfl, hi, hne⟩
    simp (disch := first | assumption | omega | (simp only [zl] <;> omega) | (simp only [zn])) only [↓zd, zk, Nat.reduceSub, Nat.reduceAdd, Nat.reduceMul, Nat.reduceLeDiff, Nat.reduceEqDiff, reduceIte, Int.reduceEq, Int.reduceBEq, Int.reduceLE, Int.reduceLT, Int.reduceNeg, Int.reduceAdd, Int.reduceSub, Int.reduceMul, List.map, AV.cells, List.all, AV.one, eqV, eqAll, splice, fillA, List.replicate, resAll, resA]
    refine CW_of (fun h => ?_) (fun h => ?_)
    · simp only [decide_eq_true_eq] at h
      obtain ⟨y, hyi⟩ : ∃ y, xs[i]? = some y := ⟨_, List.getElem?_eq_getElem (by omega)⟩
      have hp := fun m : MM => neg_eq m y
      by_cases hy : y < 0
      · simp (disch := first | assumption | omega | (simp only [zl] <;> omega) | (simp only [zn])) only [↓zd, zk, Nat.reduceSub, Nat.reduceAdd, Nat.reduceMul, Nat.reduceLeDiff, Nat.reduceEqDiff, reduceIte, Int.reduceEq, Int.reduceBEq, Int.reduceLE, Int.reduceLT, Int.reduceNeg, Int.reduceAdd, Int.reduceSub, Int.reduceMul, List.map, AV.cells, List.all, AV.one, eqV, eqAll, splice, fillA, List.replicate, resAll, resA, hq, iC_at hyi, a213, hp, hy, List.append_nil]
        exact ⟨i, .inl ⟨by omega, ⟨y, hyi, hy⟩, hne⟩, rfl⟩
      · simp (disch := first | assumption | omega | (simp only [zl] <;> omega) | (simp only [zn])) only [↓zd, zk, Nat.reduceSub, Nat.reduceAdd, Nat.reduceMul, Nat.reduceLeDiff, Nat.reduceEqDiff, reduceIte, Int.reduceEq, Int.reduceBEq, Int.reduceLE, Int.reduceLT, Int.reduceNeg, Int.reduceAdd, Int.reduceSub, Int.reduceMul, List.map, AV.cells, List.all, AV.one, eqV, eqAll, splice, fillA, List.replicate, resAll, resA, hq, iC_at hyi, a213, hp, hy, List.append_nil]
        refine ⟨_, by omega, i + 1, _, _, _, rfl, rfl, rfl, by omega, fun j x hj hjx => ?_⟩
        by_cases hji : j = i
        · subst hji; rw [hyi] at hjx; injection hjx with hjx; subst hjx; exact hy
        · exact hne j x (by omega) hjx
    · simp only [decide_eq_false_iff_not] at h
      simp (disch := first | assumption | omega | (simp only [zl] <;> omega) | (simp only [zn])) only [↓zd, zk, Nat.reduceSub, Nat.reduceAdd, Nat.reduceMul, Nat.reduceLeDiff, Nat.reduceEqDiff, reduceIte, Int.reduceEq, Int.reduceBEq, Int.reduceLE, Int.reduceLT, Int.reduceNeg, Int.reduceAdd, Int.reduceSub, Int.reduceMul, List.map, AV.cells, List.all, AV.one, eqV, eqAll, splice, fillA, List.replicate, resAll, resA]
      refine ⟨-1, .inr ⟨rfl, fun x hx => ?_⟩, rfl⟩
      obtain ⟨j, hj⟩ := List.mem_iff_getElem?.1 hx
      exact hne j x (by have := (List.getElem?_eq_some_iff.1 hj).1; omega) hj
  obtain ⟨v, m', h1, r, h2, rfl, rfl⟩ := this
  exact ⟨r, h2, h1⟩
def posL (xs : List Int) : List Int := xs.filter fun x => decide (¬ x < 0)
theorem pos_len (xs : List Int) : (posL xs).length ≤ xs.length := List.length_filter_le _ _
theorem pos_snoc {xs : List Int} {j : Nat} {x : Int} (h : xs[j]? = some x) : posL (xs.take (j + 1)) = if x < 0 then posL (xs.take j) else posL (xs.take j) ++ [x] := by
  rw [List.take_add_one, h, posL, List.filter_append, ← posL]
  by_cases hx : x < 0
  · simp [hx]
  · simp [hx]; omega
theorem pos_all {xs : List Int} (h : ∀ x, x ∈ xs → ¬ x < 0) : posL xs = xs := List.filter_eq_self.2 fun x hx => by simpa using h x hx
def BInv (q : Nat) (xs : List Int) (m0 : MM) (k : Nat) (e : List AV) (m : MM) : Prop := ∃ (j cnt : Nat) (L : List AV) (x5 x6 x7 x8 : AV),
  e = [.sl q 0 xs.length none, .fn 213 [] [], .nils, .int .i64 cnt, .int .i64 j, x5, x6, x7, x8] ∧ m = m0.set q (.cells 1 false L) ∧ k = xs.length - j ∧ j ≤ xs.length ∧ cnt < j ∧ cnt = (posL (xs.take j)).length ∧
  L.length = xs.length ∧ L.take cnt = iC (posL (xs.take j)) ∧ (∀ k x, j ≤ k → xs[k]? = some x → L[k]? = some (.int .i64 x)) ∧ L.all AV.one = true
theorem rep_len (n : Nat) : (repeatL n [AV.int .i64 0]).length = n := by simp [repeatL]
theorem rep_one (n : Nat) : (repeatL n [AV.int .i64 0]).all AV.one = true := by
  simp only [repeatL, List.all_eq_true, List.mem_flatten]
  rintro x ⟨l, hl, hx⟩
  rw [List.mem_replicate] at hl
  obtain ⟨_, rfl⟩ := hl
  simp at hx; subst hx; rfl
set_option maxHeartbeats 4000000 in
theorem delete_run {M m : MM} {xs : List Int} {q : Nat} (hk : Keep M m) (hqM : M.length ≤ q) (hq : m[q]? = some (.cells 1 false (iC xs))) (hx : xs.length ≤ 1000) :
    Fn Gdf slices_DeleteFunc_int [.sl q 0 xs.length none, .fn 213 [] []] m (fun r m' => Keep M m' ∧ SI m' true (posL xs) r ∧ Fr M.length r ∧ Nx m' r) := by
  have a97 : assoc Gdf 97 = some (amFunc Gif slices_IndexFunc_int) := rfl
  have a213 : assoc Gdf 213 = some c_put_NewLay_1 := rfl
  generalize Gdf = G at a97 a213 ⊢
  refine Fn_of rfl ?_
  obtain ⟨r, hr, hrun⟩ := indexf_run hq hx
  have hql : q < m.length := (List.getElem?_eq_some_iff.1 hq).1
  rcases hr with ⟨hr0, ⟨x0, hx0i, hx0w⟩, hr2⟩ | ⟨rfl, hr1⟩
  · obtain ⟨i0, rfl⟩ : ∃ i0 : Nat, r = i0 := ⟨r.toNat, by omega⟩
    simp only [Int.toNat_natCast] at hx0i hr2
    have hi0 : i0 < xs.length := (List.getElem?_eq_some_iff.1 hx0i).1
    have hsq : ∀ c, (m.set q c)[q]? = some c := fun c => List.getElem?_set_self hql
    have hne : ¬ ((i0 : Int) = -1) := by omega
    simp (disch := first | assumption | omega | (simp only [zl] <;> omega) | (simp only [zn])) only [slices_DeleteFunc_int, ↓zd, zk, Nat.reduceSub, Nat.reduceAdd, Nat.reduceMul, Nat.reduceLeDiff, Nat.reduceEqDiff, reduceIte, Int.reduceEq, Int.reduceBEq, Int.reduceLE, Int.reduceLT, Int.reduceNeg, Int.reduceAdd, Int.reduceSub, Int.reduceMul, List.map, AV.cells, List.all, AV.one, eqV, eqAll, splice, fillA, List.replicate, resAll, resA, a97, hrun]
    have hl0 : posL (xs.take (i0 + 1)) = xs.take i0 := by
      rw [pos_snoc hx0i, if_pos hx0w]
      exact pos_all fun x hx => by
        obtain ⟨j, hj⟩ := List.mem_iff_getElem?.1 hx
        rw [List.getElem?_take] at hj
        split at hj
        · exact hr2 j x ‹_› hj
        · cases hj
    refine W_loop (BInv q xs m) (xs.length - (i0 + 1)) (by simp only [FUEL]; omega) ⟨i0 + 1, i0, iC xs, _, _, _, _, rfl, ?_, rfl, by omega, by omega, ?_, iC_len _, ?_, fun k x _ h => iC_at h, iC_one _⟩ ?_
    · refine (List.ext_getElem? fun j => ?_)
      by_cases hj : q = j
      · subst hj; rw [hsq, hq]
      · rw [List.getElem?_set_ne hj]
    · rw [hl0, List.length_take]; omega
    · rw [hl0]; simp [iC, List.map_take]
    rintro k e m' ⟨j, cnt, L, x5, x6, x7, x8, rfl, rfl, rfl, hj, hcj, hcnt, hL, hLt, hLr, hLo⟩
    simp (disch := first | assumption | omega | (simp only [zl] <;> omega) | (simp only [zn])) only [↓zd, zk, Nat.reduceSub, Nat.reduceAdd, Nat.reduceMul, Nat.reduceLeDiff, Nat.reduceEqDiff, reduceIte, Int.reduceEq, Int.reduceBEq, Int.reduceLE, Int.reduceLT, Int.reduceNeg, Int.reduceAdd, Int.reduceSub, Int.reduceMul, List.map, AV.cells, List.all, AV.one, eqV, eqAll, splice, fillA, List.replicate, resAll, resA]
    refine CW_of (fun h => ?_) (fun h => ?_)
    · simp only [decide_eq_true_eq] at h
      obtain ⟨y, hyj⟩ : ∃ y, xs[j]? = some y := ⟨_, List.getElem?_eq_getElem (by omega)⟩
      have hLy := hLr j y (Nat.le_refl _) hyj
      have hp := fun m : MM => neg_eq m y
      have hsn := pos_snoc hyj
      by_cases hy : y < 0
      · rw [if_pos hy] at hsn
        simp (disch := first | assumption | omega | (simp only [zl] <;> omega) | (simp only [zn])) only [↓zd, zk, Nat.reduceSub, Nat.reduceAdd, Nat.reduceMul, Nat.reduceLeDiff, Nat.reduceEqDiff, reduceIte, Int.reduceEq, Int.reduceBEq, Int.reduceLE, Int.reduceLT, Int.reduceNeg, Int.reduceAdd, Int.reduceSub, Int.reduceMul, List.map, AV.cells, List.all, AV.one, eqV, eqAll, splice, fillA, List.replicate, resAll, resA, hsq, hLy, a213, hp, hy, List.append_nil]
        exact ⟨_, by omega, j + 1, cnt, L, _, _, _, _, rfl, rfl, rfl, by omega, by omega, by rw [hsn]; exact hcnt, hL, by rw [hsn]; exact hLt, fun k x h1 h2 => hLr k x (by omega) h2, hLo⟩
      · rw [if_neg hy] at hsn
        simp (disch := first | assumption | omega | (simp only [zl] <;> omega) | (simp only [zn])) only [↓zd, zk, Nat.reduceSub, Nat.reduceAdd, Nat.reduceMul, Nat.reduceLeDiff, Nat.reduceEqDiff, reduceIte, Int.reduceEq, Int.reduceBEq, Int.reduceLE, Int.reduceLT, Int.reduceNeg, Int.reduceAdd, Int.reduceSub, Int.reduceMul, List.map, AV.cells, List.all, AV.one, eqV, eqAll, splice, fillA, List.replicate, resAll, resA, hsq, hLy, a213, hp, hy, List.set_set, List.append_nil]
        refine ⟨_, by omega, j + 1, cnt + 1, L.set cnt (.int .i64 y), _, _, _, _, rfl, rfl, rfl, by omega, by omega, by rw [hsn]; simp [hcnt], by simp [hL], ?_, fun k x h1 h2 => ?_, ?_⟩
        · have hcl : cnt < L.length := by omega
          rw [hsn, List.take_add_one, List.getElem?_set_self hcl]
          have : (L.set cnt (AV.int .i64 y)).take cnt = L.take cnt := by rw [List.take_set_of_le (Nat.le_refl _)]
          rw [this, hLt]; simp [iC]
        · rw [List.getElem?_set_ne (by omega)]; exact hLr k x (by omega) h2
        · simp only [List.all_eq_true] at hLo ⊢
          intro a ha
          rcases List.mem_or_eq_of_mem_set ha with h | h
          · exact hLo a h
          · subst h; rfl
    · simp only [decide_eq_false_iff_not] at h
      have hjn : j = xs.length := by omega
      rw [hjn, List.take_length] at hcnt hLt
      have hz1 := rep_len (xs.length - cnt)
      have hz2 := rep_one (xs.length - cnt)
      have hnz : ¬ (xs.length - cnt = 0) := by omega
      simp (disch := first | assumption | omega | (simp only [zl] <;> omega) | (simp only [zn])) only [↓zd, zk, Nat.reduceSub, Nat.reduceAdd, Nat.reduceMul, Nat.reduceLeDiff, Nat.reduceEqDiff, reduceIte, Int.reduceEq, Int.reduceBEq, Int.reduceLE, Int.reduceLT, Int.reduceNeg, Int.reduceAdd, Int.reduceSub, Int.reduceMul, List.map, AV.cells, List.all, AV.one, eqV, eqAll, splice, fillA, List.replicate, resAll, resA, evA, sliceA, Option.getD_none, Option.getD_some, hsq, clearA, stC_agg, hz1, hz2, hL, List.set_set, Nat.sub_zero]
      have hk' : ∀ c, Keep M (m.set q c) := fun c => hk.set hqM c
      rw [hcnt]
      refine ⟨hk' _, ⟨by rw [iC_len]; omega, .inr ⟨q, 0, none, rfl, fun _ => ⟨false, _, hsq _, ?_, ?_, fun _ => rfl⟩⟩⟩, .inr ⟨q, 0, _, none, rfl, hqM⟩, .inr ⟨q, 0, _, _, rfl, hsq _⟩⟩
      · rw [List.drop_zero, Nat.mul_one, ← hcnt, List.append_assoc, List.take_append_of_le_length (by rw [List.length_take]; omega), List.take_take, Nat.min_self, hLt]
      · simp only [List.length_append, List.length_take, List.length_drop, hz1]; omega
  · simp (disch := first | assumption | omega | (simp only [zl] <;> omega) | (simp only [zn])) only [slices_DeleteFunc_int, ↓zd, zk, Nat.reduceSub, Nat.reduceAdd, Nat.reduceMul, Nat.reduceLeDiff, Nat.reduceEqDiff, reduceIte, Int.reduceEq, Int.reduceBEq, Int.reduceLE, Int.reduceLT, Int.reduceNeg, Int.reduceAdd, Int.reduceSub, Int.reduceMul, List.map, AV.cells, List.all, AV.one, eqV, eqAll, splice, fillA, List.replicate, resAll, resA, a97, hrun]
    rw [pos_all hr1]
    exact ⟨hk, ⟨by rw [iC_len]; omega, .inr ⟨q, 0, none, rfl, fun _ => ⟨false, iC xs, hq, by rw [List.drop_zero, Nat.mul_one, ← iC_len, List.take_length], by rw [iC_len]; omega, fun _ => rfl⟩⟩⟩, .inr ⟨q, 0, _, none, rfl, hqM⟩, .inr ⟨q, 0, _, _, rfl, hq⟩⟩
theorem delete_nil {m : MM} {v : AV} (hv : lenA v = some 0) : Fn Gdf slices_DeleteFunc_int [v, .fn 213 [] []] m (fun r m' => r = v ∧ m' = m) := by
  have a97 : assoc Gdf 97 = some (amFunc Gif slices_IndexFunc_int) := rfl
  have hi : amFunc Gif slices_IndexFunc_int [v, .fn 213 [] []] m = some (.int .i64 (-1), m) := by
    generalize Gif = G
    refine Fn_eq (Fn_of rfl ?_)
    simp (disch := first | assumption | omega | (simp only [zl] <;> omega) | (simp only [zn])) only [slices_IndexFunc_int, ↓zd, zk, Nat.reduceSub, Nat.reduceAdd, Nat.reduceMul, Nat.reduceLeDiff, Nat.reduceEqDiff, reduceIte, Int.reduceEq, Int.reduceBEq, Int.reduceLE, Int.reduceLT, Int.reduceNeg, Int.reduceAdd, Int.reduceSub, Int.reduceMul, List.map, AV.cells, List.all, AV.one, eqV, eqAll, splice, fillA, List.replicate, resAll, resA, ev_len, hv, Int.ofNat_zero]
    refine W_loop (fun k e m' => ∃ x3 x6 x7 : AV, e = [v, .fn 213 [] [], .int .i64 0, x3, .int .i64 0, .int .i64 0, x6, x7] ∧ m' = m) 0 (by simp [FUEL]) ⟨_, _, _, rfl, rfl⟩ ?_
    rintro k e m' ⟨x3, x6, x7, rfl, rfl⟩
    simp (disch := first | assumption | omega | (simp only [zl] <;> omega) | (simp only [zn])) only [↓zd, zk, Nat.reduceSub, Nat.reduceAdd, Nat.reduceMul, Nat.reduceLeDiff, Nat.reduceEqDiff, reduceIte, Int.reduceEq, Int.reduceBEq, Int.reduceLE, Int.reduceLT, Int.reduceNeg, Int.reduceAdd, Int.reduceSub, Int.reduceMul, List.map, AV.cells, List.all, AV.one, eqV, eqAll, splice, fillA, List.replicate, resAll, resA]
  generalize Gdf = G at a97 ⊢
  refine Fn_of rfl ?_
  simp (disch := first | assumption | omega | (simp only [zl] <;> omega) | (simp only [zn])) only [slices_DeleteFunc_int, ↓zd, zk, Nat.reduceSub, Nat.reduceAdd, Nat.reduceMul, Nat.reduceLeDiff, Nat.reduceEqDiff, reduceIte, Int.reduceEq, Int.reduceBEq, Int.reduceLE, Int.reduceLT, Int.reduceNeg, Int.reduceAdd, Int.reduceSub, Int.reduceMul, List.map, AV.cells, List.all, AV.one, eqV, eqAll, splice, fillA, List.replicate, resAll, resA, a97, hi]
end Go.Am.F09
end
section
namespace Go.Am.F09
open Go.Am.F06 Go.Am.F10
structure LS where
  a : Int
  w : Int
  k : Int
  n : Int
  ls : List Int
def layC (c : Cf) (p : Int) (s : LS) (lv : AV) : List AV := rgC c p s.a s.w s.k [.int .u32 s.n, lv]
def roomN (c : Cf) (w : Int) (len : Nat) : Int := if c.q ≤ sz w then 0 else if (len : Int) < c.q - sz w then len else c.q - sz w
def stepL (c : Cf) (p : Int) (xs : List Int) (s : LS) : LS × List Int :=
  if s.a = 0 then (s, xs)
  else if s.ls.length = 0 then ({ s with a := 0 }, xs)
  else if s.a = 1 then ({ s with w := xs.getD (wrdN c p) 0, k := 0, n := roomN c (xs.getD (wrdN c p) 0) s.ls.length, a := if roomN c (xs.getD (wrdN c p) 0) s.ls.length = 0 then 0 else 2 }, xs)
  else if s.a = 2 then ({ s with k := s.k + 1, a := if s.k + 1 = s.n then 3 else 2 }, xs.set (pslA c p s.w s.k).toNat (IntKind.u64.wrap (s.ls.getD s.k.toNat 0)))
  else if xs.getD (wrdN c p) 0 = s.w then ({ s with a := 0, ls := s.ls.drop s.n.toNat }, xs.set (wrdN c p) (growW s.w s.n)) else ({ s with a := 1 }, xs)
def opsL (s : LS) (o : Int) : Int := if s.a = 0 then o else if s.ls.length = 0 then o else IntKind.u64.wrap (o + 1)
structure LOk (c : Cf) (p : Int) (s : LS) : Prop where
  w : W64 s.w
  a : s.a = 0 ∨ (thereP c p ∧ (s.a = 1 ∨ (s.a = 2 ∧ 0 ≤ s.k ∧ s.k < s.n ∧ s.n ≤ s.ls.length) ∨ (s.a = 3 ∧ 0 ≤ s.n ∧ s.n ≤ s.ls.length)))
  l : s.ls.length ≤ 100
theorem room_b {c : Cf} {w : Int} {len : Nat} : 0 ≤ roomN c w len ∧ roomN c w len ≤ len := by
  have : 0 ≤ sz w := by unfold sz; omega
  unfold roomN; split
  · omega
  · split <;> omega
structure LM (m : MM) (xj : Nat) (c : Cf) (p : Int) (s : LS) (lv : AV) : Prop where
  get : m[xj]? = some (.cells 12 false (layC c p s lv))
  l : SI m false s.ls lv
  nx : 0 < s.ls.length → Nx m lv
theorem ldone_eq {X : Type} {m : Mem X} {xj : Nat} {c : Cf} {p : Int} {s : LS} {lv : AV} (hx : m[xj]? = some (.cells 12 false (layC c p s lv))) : c_put_Lay_Done [.ptr xj 0] m = some (.bool (decide (s.a = 0)), m) := by
  simp only [layC, rgC, cfC, List.cons_append, List.nil_append] at hx
  exact Fn_eq (Fn_of rfl (by simp (disch := first | assumption | omega | (simp only [zl] <;> omega) | (simp only [zn])) only [put_Lay_Done, ↓zd, zk, Nat.reduceSub, Nat.reduceAdd, Nat.reduceMul, Nat.reduceLeDiff, Nat.reduceEqDiff, reduceIte, Int.reduceEq, Int.reduceBEq, Int.reduceLE, Int.reduceLT, Int.reduceNeg, Int.reduceAdd, Int.reduceSub, Int.reduceMul, List.map, AV.cells, List.all, AV.one, eqV, eqAll, splice, fillA, List.replicate, resAll, resA, zm, zg, hx]))
def Glk : List (Nat × AFun Ob) := [(219, amFunc Grl put_ring_load)]
def LkP (m : MM) (xj j : Nat) (c : Cf) (p : Int) (x : LS × List Int) (lv : AV) (o : Int) (r : AV) (m' : MM) : Prop := r = .tup [] ∧ KeepX xj j m m' ∧ m'[xj]? = some (.cells 12 false (layC c p x.1 lv)) ∧ ∃ st', m'[j]? = some (.abs (.mem st')) ∧ RelM x.2 o st'
set_option maxHeartbeats 8000000 in
theorem llook_run {m : MM} {c : Cf} {p o : Int} {s : LS} {xj j : Nat} {lv : AV} {xs : List Int} {st : MemSt} (hx : LM m xj c p s lv) (hj : m[j]? = some (.abs (.mem st))) (hr : RelM xs o st) (hO : OkL c xs) (hk : LOk c p s) (ha : s.a = 1) (hl : 0 < s.ls.length) :
    Fn Glk put_Lay_look [.ptr xj 0, .ptr j 0] m (LkP m xj j c p (stepL c p xs s) lv (IntKind.u64.wrap (o + 1))) := by
  have a219 : assoc Glk 219 = some (amFunc Grl put_ring_load) := rfl
  generalize Glk = G at a219 ⊢
  obtain ⟨a, w, k, n, ls⟩ := s
  simp only at ha hl
  subst ha
  obtain ⟨hx, hls, hnx⟩ := hx
  simp only at hls
  have hij : xj ≠ j := fun h => by rw [h, hj] at hx; cases hx
  have hp : thereP c p := hk.a.elim (fun h => by simp at h) (·.1)
  have hb := there_bounds hp
  have hlk := hk.l
  simp only at hlk
  have hlen := hls.len
  have hone := slOne hls
  simp only [AV.one] at hone
  have e0 : IntKind.u32.wrap c.q = c.q := by rw [wrap32]; omega
  have hs1 : stepL c p xs ⟨1, w, k, n, ls⟩ = (⟨if roomN c (xs.getD (wrdN c p) 0) ls.length = 0 then 0 else 2, xs.getD (wrdN c p) 0, 0, roomN c (xs.getD (wrdN c p) 0) ls.length, ls⟩, xs) := by
    simp only [stepL, if_neg (show ¬ ((1 : Int) = 0) by decide), if_neg (show ¬ (ls.length = 0) by omega), if_true]
  rw [hs1]
  have hrun := rload_run hx hj hr hO hp
  refine Fn_of rfl ?_
  simp only [layC, rgC, cfC, List.cons_append, List.nil_append] at hx
  simp (disch := first | assumption | omega | (simp only [zl] <;> omega) | (simp only [zn])) only [put_Lay_look, ↓zd, zk, Nat.reduceSub, Nat.reduceAdd, Nat.reduceMul, Nat.reduceLeDiff, Nat.reduceEqDiff, reduceIte, Int.reduceEq, Int.reduceBEq, Int.reduceLE, Int.reduceLT, Int.reduceNeg, Int.reduceAdd, Int.reduceSub, Int.reduceMul, List.map, AV.cells, List.all, AV.one, eqV, eqAll, splice, fillA, List.replicate, resAll, resA, zm, zg, hx, a219]
  refine OK_fn hrun ?_
  rintro _ m1 ⟨rfl, k1, x1, st', j1, r1⟩
  have lx1 : xj < m1.length := (List.getElem?_eq_some_iff.1 x1).1
  generalize xs.getD (wrdN c p) 0 = w' at x1
  have hz0 : 0 ≤ sz w' ∧ sz w' < 4294967296 := by unfold sz; omega
  have hrb := room_b (c := c) (w := w') (len := ls.length)
  have hput : ∀ C, KeepX xj j m (m1.set xj C) := fun C => k1.setL C
  simp only [rgC, cfC, List.cons_append, List.nil_append] at x1
  have fin : ∀ a n : Int, LkP m xj j c p (⟨a, w', 0, n, ls⟩, xs) lv (IntKind.u64.wrap (o + 1)) (.tup []) (m1.set xj (.cells 12 false (layC c p ⟨a, w', 0, n, ls⟩ lv))) := fun a n =>
    ⟨rfl, hput _, List.getElem?_set_self lx1, st', by rw [List.getElem?_set_ne hij]; exact j1, r1⟩
  have e4 : IntKind.u32.wrap (ls.length : Int) = ls.length := by rw [wrap32]; omega
  have e5 : c.q - sz w' ≤ 64 → 0 < c.q - sz w' → IntKind.u32.wrap (c.q - sz w') = c.q - sz w' := fun h1 h2 => by rw [wrap32]; omega
  simp only [layC, rgC, cfC, List.cons_append, List.nil_append] at fin
  have hw00 : IntKind.u32.wrap 0 = 0 := by decide
  rcases (show c.q < sz w' ∨ c.q = sz w' ∨ (sz w' < c.q ∧ (ls.length : Int) ≤ c.q - sz w') ∨ (sz w' < c.q ∧ c.q - sz w' < (ls.length : Int)) by omega) with h | h | ⟨h, h'⟩ | ⟨h, h'⟩
  · have hroom : roomN c w' ls.length = 0 := if_pos (by omega)
    rw [hroom, if_pos rfl]
    clear hroom hrb
    simp (disch := first | assumption | omega | (simp only [zl] <;> omega) | (simp only [zn])) only [↓zd, zk, Nat.reduceSub, Nat.reduceAdd, Nat.reduceMul, Nat.reduceLeDiff, Nat.reduceEqDiff, reduceIte, Int.reduceEq, Int.reduceBEq, Int.reduceLE, Int.reduceLT, Int.reduceNeg, Int.reduceAdd, Int.reduceSub, Int.reduceMul, List.map, AV.cells, List.all, AV.one, eqV, eqAll, splice, fillA, List.replicate, resAll, resA, zm, zg, x1, ev_len, hlen, e0, h, Int.sub_self, hw00, List.set_set]
    exact fin _ _
  · have hroom : roomN c w' ls.length = 0 := if_pos (by omega)
    rw [hroom, if_pos rfl]
    clear hroom hrb
    have hh : sz w' = c.q := h.symm
    simp (disch := first | assumption | omega | (simp only [zl] <;> omega) | (simp only [zn])) only [↓zd, zk, Nat.reduceSub, Nat.reduceAdd, Nat.reduceMul, Nat.reduceLeDiff, Nat.reduceEqDiff, reduceIte, Int.reduceEq, Int.reduceBEq, Int.reduceLE, Int.reduceLT, Int.reduceNeg, Int.reduceAdd, Int.reduceSub, Int.reduceMul, List.map, AV.cells, List.all, AV.one, eqV, eqAll, splice, fillA, List.replicate, resAll, resA, zm, zg, x1, ev_len, hlen, e0, hh, Int.sub_self, hw00, List.set_set]
    exact fin _ _
  · have hroom : roomN c w' ls.length = ls.length := by unfold roomN; rw [if_neg (by omega)]; split <;> omega
    rw [hroom, if_neg (by omega)]
    clear hroom hrb
    simp (disch := first | assumption | omega | (simp only [zl] <;> omega) | (simp only [zn])) only [↓zd, zk, Nat.reduceSub, Nat.reduceAdd, Nat.reduceMul, Nat.reduceLeDiff, Nat.reduceEqDiff, reduceIte, Int.reduceEq, Int.reduceBEq, Int.reduceLE, Int.reduceLT, Int.reduceNeg, Int.reduceAdd, Int.reduceSub, Int.reduceMul, List.map, AV.cells, List.all, AV.one, eqV, eqAll, splice, fillA, List.replicate, resAll, resA, zm, zg, x1, ev_len, hlen, e0, e4, h, h', List.set_set]
    exact fin _ _
  · have hroom : roomN c w' ls.length = c.q - sz w' := by unfold roomN; rw [if_neg (by omega), if_neg (by omega)]
    rw [hroom, if_neg (by omega)]
    clear hroom hrb
    simp (disch := first | assumption | omega | (simp only [zl] <;> omega) | (simp only [zn])) only [↓zd, zk, Nat.reduceSub, Nat.reduceAdd, Nat.reduceMul, Nat.reduceLeDiff, Nat.reduceEqDiff, reduceIte, Int.reduceEq, Int.reduceBEq, Int.reduceLE, Int.reduceLT, Int.reduceNeg, Int.reduceAdd, Int.reduceSub, Int.reduceMul, List.map, AV.cells, List.all, AV.one, eqV, eqAll, splice, fillA, List.replicate, resAll, resA, zm, zg, x1, ev_len, hlen, e0, e5, h, h', List.set_set]
    exact fin _ _
end Go.Am.F09
end
section
namespace Go.Am.F09
open Go.Am.F06 Go.Am.F10
def Glst : List (Nat × AFun Ob) := [(196, c_put_Lay_Done), (209, amFunc Glk put_Lay_look), (210, c_put_ring_slot), (22, memF storeS), (211, c_word_Grow), (212, amFunc Gch put_ring_change)]
def LsP (m : MM) (c : Cf) (p : Int) (xj j : Nat) (x : LS × List Int) (o : Int) (r : AV) (m' : MM) : Prop := r = .bool (decide (x.1.a = 0)) ∧ KeepX xj j m m' ∧ (∃ lv', LM m' xj c p x.1 lv') ∧ ∃ st', m'[j]? = some (.abs (.mem st')) ∧ RelM x.2 o st'
theorem LM.mv {m m' : MM} {xj j : Nat} {c : Cf} {p : Int} {s : LS} {lv : AV} (hl : SI m false s.ls lv) (hn : 0 < s.ls.length → Nx m lv) (hnx : ∀ ro L, m[xj]? ≠ some (.cells 1 ro L)) (hnj : ∀ ro L, m[j]? ≠ some (.cells 1 ro L)) (k : KeepX xj j m m') : SI m' false s.ls lv ∧ (0 < s.ls.length → Nx m' lv) := by
  refine ⟨k.sl (szj := 0) (szk := 0) hnx hnj hl, fun h0 => ?_⟩
  rcases hn h0 with h | ⟨q, o, n, l, h1, h2⟩
  · exact .inl h
  · exact .inr ⟨q, o, n, l, h1, k.get h2 (fun h => hnx false l (by rw [← h]; exact h2)) (fun h => hnj false l (by rw [← h]; exact h2))⟩
set_option maxHeartbeats 16000000 in
theorem lstep_run {m : MM} {c : Cf} {p o : Int} {s : LS} {xj j : Nat} {lv : AV} {xs : List Int} {st : MemSt} (hx : LM m xj c p s lv) (hj : m[j]? = some (.abs (.mem st))) (hr : RelM xs o st) (hO : s.a = 0 ∨ OkL c xs) (hk : LOk c p s) :
    Fn Glst put_Lay_Step [.ptr xj 0, .ptr j 0] m (LsP m c p xj j (stepL c p xs s) (opsL s o)) := by
  have a196 : assoc Glst 196 = some c_put_Lay_Done := rfl
  have a209 : assoc Glst 209 = some (amFunc Glk put_Lay_look) := rfl
  have a210 : assoc Glst 210 = some c_put_ring_slot := rfl
  have a22 : assoc Glst 22 = some (memF storeS) := rfl
  have a211 : assoc Glst 211 = some c_word_Grow := rfl
  have a212 : assoc Glst 212 = some (amFunc Gch put_ring_change) := rfl
  generalize Glst = G at a196 a209 a210 a22 a211 a212 ⊢
  have hd := ldone_eq hx.get
  have hx0 := hx
  obtain ⟨hg, hls, hnx⟩ := hx
  have hij : xj ≠ j := fun h => by rw [h, hj] at hg; cases hg
  have lx : xj < m.length := (List.getElem?_eq_some_iff.1 hg).1
  have lj : j < m.length := (List.getElem?_eq_some_iff.1 hj).1
  have nx : ∀ ro L, m[xj]? ≠ some (.cells 1 ro L) := fun ro L h => by rw [hg] at h; cases h
  have nj : ∀ ro L, m[j]? ≠ some (.cells 1 ro L) := fun ro L h => by rw [hj] at h; cases h
  have hlen := hls.len
  refine Fn_of rfl ?_
  by_cases h0 : s.a = 0
  · have e1 : stepL c p xs s = (s, xs) := if_pos h0
    have e2 : opsL s o = o := if_pos h0
    rw [decide_eq_true h0] at hd
    rw [e1, e2]
    simp (disch := first | assumption | omega | (simp only [zl] <;> omega) | (simp only [zn])) only [put_Lay_Step, ↓zd, zk, Nat.reduceSub, Nat.reduceAdd, Nat.reduceMul, Nat.reduceLeDiff, Nat.reduceEqDiff, reduceIte, Int.reduceEq, Int.reduceBEq, Int.reduceLE, Int.reduceLT, Int.reduceNeg, Int.reduceAdd, Int.reduceSub, Int.reduceMul, List.map, AV.cells, List.all, AV.one, eqV, eqAll, splice, fillA, List.replicate, resAll, resA, zm, zg, a196, hd]
    exact ⟨by rw [decide_eq_true h0], .refl _, ⟨lv, hg, hls, hnx⟩, st, hj, hr⟩
  rw [decide_eq_false h0] at hd
  have hO' := hO.resolve_left h0
  obtain ⟨a, w, k, n, ls⟩ := s
  simp only at h0 hls hnx hlen
  have hw := hk.w
  have hll := hk.l
  have hka := hk.a
  simp only at hw hll hka
  have hp : thereP c p := hka.elim (fun h => absurd h h0) (·.1)
  have hb := there_bounds hp
  by_cases hz : ls.length = 0
  · have e1 : stepL c p xs ⟨a, w, k, n, ls⟩ = (⟨0, w, k, n, ls⟩, xs) := by simp only [stepL, if_neg h0, if_pos hz]
    have e2 : opsL ⟨a, w, k, n, ls⟩ o = o := by simp only [opsL, if_neg h0, if_pos hz]
    rw [e1, e2]
    simp only [layC, rgC, cfC, List.cons_append, List.nil_append] at hg
    rw [hz] at hlen
    simp (disch := first | assumption | omega | (simp only [zl] <;> omega) | (simp only [zn])) only [put_Lay_Step, ↓zd, zk, Nat.reduceSub, Nat.reduceAdd, Nat.reduceMul, Nat.reduceLeDiff, Nat.reduceEqDiff, reduceIte, Int.reduceEq, Int.reduceBEq, Int.reduceLE, Int.reduceLT, Int.reduceNeg, Int.reduceAdd, Int.reduceSub, Int.reduceMul, List.map, AV.cells, List.all, AV.one, eqV, eqAll, splice, fillA, List.replicate, resAll, resA, zm, zg, a196, hd, hg, ev_len, hlen, Int.ofNat_zero]
    have hk1 : KeepX xj j m (m.set xj (.cells 12 false (layC c p ⟨0, w, k, n, ls⟩ lv))) := (KeepX.refl m).setL _
    obtain ⟨e3, e4⟩ := LM.mv (s := ⟨0, w, k, n, ls⟩) (c := c) (p := p) hls hnx nx nj hk1
    exact ⟨rfl, hk1, ⟨lv, List.getElem?_set_self lx, e3, e4⟩, st, by rw [List.getElem?_set_ne hij]; exact hj, hr⟩
  have e2 : opsL ⟨a, w, k, n, ls⟩ o = IntKind.u64.wrap (o + 1) := by simp only [opsL, if_neg h0, if_neg hz]
  rw [e2]
  have hlz : ¬ ((ls.length : Int) = 0) := by omega
  rcases (show a = 1 ∨ (a = 2 ∧ 0 ≤ k ∧ k < n ∧ n ≤ ls.length) ∨ (a = 3 ∧ 0 ≤ n ∧ n ≤ ls.length) by rcases hka with h | ⟨_, h⟩; exact absurd h h0; exact h) with rfl | ⟨rfl, hk0, hkn, hnl⟩ | ⟨rfl, hn0, hnl⟩
  · have hrun := llook_run hx0 hj hr hO' hk rfl (by simp only; omega)
    simp only [layC, rgC, cfC, List.cons_append, List.nil_append] at hg
    simp (disch := first | assumption | omega | (simp only [zl] <;> omega) | (simp only [zn])) only [put_Lay_Step, ↓zd, zk, Nat.reduceSub, Nat.reduceAdd, Nat.reduceMul, Nat.reduceLeDiff, Nat.reduceEqDiff, reduceIte, Int.reduceEq, Int.reduceBEq, Int.reduceLE, Int.reduceLT, Int.reduceNeg, Int.reduceAdd, Int.reduceSub, Int.reduceMul, List.map, AV.cells, List.all, AV.one, eqV, eqAll, splice, fillA, List.replicate, resAll, resA, zm, zg, a196, hd, hg, ev_len, hlen, hlz, a209]
    refine OK_fn hrun ?_
    rintro _ m1 ⟨rfl, k1, x1, st', j1, r1⟩
    have hsl : (stepL c p xs ⟨1, w, k, n, ls⟩).1.ls = ls := by simp only [stepL, if_neg (show ¬ ((1 : Int) = 0) by decide), if_neg hz, if_true]
    obtain ⟨e3, e4⟩ := LM.mv (s := ⟨1, w, k, n, ls⟩) (c := c) (p := p) hls hnx nx nj k1
    have hlm : LM m1 xj c p (stepL c p xs ⟨1, w, k, n, ls⟩).1 lv := ⟨x1, by rw [hsl]; exact e3, by rw [hsl]; exact e4⟩
    generalize stepL c p xs ⟨1, w, k, n, ls⟩ = sx at x1 r1 hlm ⊢
    simp only [layC, rgC, cfC, List.cons_append, List.nil_append] at x1
    simp (disch := first | assumption | omega | (simp only [zl] <;> omega) | (simp only [zn])) only [↓zd, zk, Nat.reduceSub, Nat.reduceAdd, Nat.reduceMul, Nat.reduceLeDiff, Nat.reduceEqDiff, reduceIte, Int.reduceEq, Int.reduceBEq, Int.reduceLE, Int.reduceLT, Int.reduceNeg, Int.reduceAdd, Int.reduceSub, Int.reduceMul, List.map, AV.cells, List.all, AV.one, eqV, eqAll, splice, fillA, List.replicate, resAll, resA, zm, zg, x1]
    exact ⟨rfl, k1, ⟨lv, hlm⟩, st', j1, r1⟩
  · obtain ⟨kN, rfl⟩ : ∃ kN : Nat, k = kN := ⟨k.toNat, by omega⟩
    obtain ⟨x, hxk⟩ : ∃ x, ls[kN]? = some x := ⟨_, List.getElem?_eq_getElem (by omega)⟩
    obtain ⟨q, oo, cap, ro, L, rfl, b2, b3, b4, b5⟩ := hls.val (by omega)
    have b6 := b5 kN x hxk
    have hcn := cellsN_le c
    have hxl := hO'.1
    have hsb := psl_b (c := c) (p := p) (w := w) (i := kN) hp
    have hthr : thr xs (pslA c p w kN) := ⟨by omega, by omega⟩
    obtain ⟨st', r', _, f22, _⟩ := hr.storeE hthr (IntKind.u64.wrap x)
    have f22' := fun K => f22 m K j hj
    have hsl := slot_eq (i := kN) hg hp.1
    have hg' := fun K : MM => (Keep.app m K).get hg
    have b2' := fun K : MM => (Keep.app m K).get b2
    have e1 : stepL c p xs ⟨2, w, kN, n, ls⟩ = (⟨if (kN : Int) + 1 = n then 3 else 2, w, kN + 1, n, ls⟩, xs.set (pslA c p w kN).toNat (IntKind.u64.wrap x)) := by
      have : ls.getD kN 0 = x := by rw [List.getD_eq_getElem?_getD, hxk]; rfl
      simp only [stepL, if_neg (show ¬ ((2 : Int) = 0) by decide), if_neg (show ¬ ((2 : Int) = 1) by decide), if_neg hz, if_true, Int.toNat_natCast, this]
    rw [e1]
    have e3 : IntKind.u32.wrap ((kN : Int) + 1) = kN + 1 := by rw [wrap32]; omega
    simp only [layC, rgC, cfC, List.cons_append, List.nil_append] at hg hsl hg'
    have fin : ∀ a (K : MM), LsP m c p xj j (⟨a, w, kN + 1, n, ls⟩, xs.set (pslA c p w kN).toNat (IntKind.u64.wrap x)) (IntKind.u64.wrap (o + 1)) (.bool (decide (a = 0))) ((m.set j (.abs (.mem st'))).set xj (.cells 12 false (layC c p ⟨a, w, kN + 1, n, ls⟩ (.sl q oo ls.length cap))) ++ K) := fun a K => by
      have hk1 : KeepX xj j m ((m.set j (.abs (.mem st'))).set xj (.cells 12 false (layC c p ⟨a, w, kN + 1, n, ls⟩ (.sl q oo ls.length cap))) ++ K) := (((KeepX.refl m).setR _).setL _).app K
      obtain ⟨e3, e4⟩ := LM.mv (s := ⟨a, w, kN + 1, n, ls⟩) (c := c) (p := p) hls hnx nx nj hk1
      exact ⟨rfl, hk1, ⟨_, by rw [List.getElem?_append_left (by simpa using lx), List.getElem?_set_self (by simpa using lx)], e3, e4⟩, st', by rw [List.getElem?_append_left (by simpa using lj), List.getElem?_set_ne hij, List.getElem?_set_self lj], r'⟩
    simp only [layC, rgC, cfC, List.cons_append, List.nil_append] at fin
    by_cases hq : (kN : Int) + 1 = n
    · rw [if_pos hq]
      have hkn' : decide ((kN : Int) + 1 = n) = true := decide_eq_true hq
      simp (disch := first | assumption | omega | (simp only [zl] <;> omega) | (simp only [zn])) only [put_Lay_Step, ↓zd, zk, Nat.reduceSub, Nat.reduceAdd, Nat.reduceMul, Nat.reduceLeDiff, Nat.reduceEqDiff, reduceIte, Int.reduceEq, Int.reduceBEq, Int.reduceLE, Int.reduceLT, Int.reduceNeg, Int.reduceAdd, Int.reduceSub, Int.reduceMul, List.map, AV.cells, List.all, AV.one, eqV, eqAll, splice, fillA, List.replicate, resAll, resA, zm, zg, a196, hd, hg, hg', ev_len, hlen, hlz, a210, hsl, b2, b2', b6, a22, f22', e3, hkn', List.set_set]
      exact fin 3 _
    · rw [if_neg hq]
      have hkn' : decide ((kN : Int) + 1 = n) = false := decide_eq_false hq
      simp (disch := first | assumption | omega | (simp only [zl] <;> omega) | (simp only [zn])) only [put_Lay_Step, ↓zd, zk, Nat.reduceSub, Nat.reduceAdd, Nat.reduceMul, Nat.reduceLeDiff, Nat.reduceEqDiff, reduceIte, Int.reduceEq, Int.reduceBEq, Int.reduceLE, Int.reduceLT, Int.reduceNeg, Int.reduceAdd, Int.reduceSub, Int.reduceMul, List.map, AV.cells, List.all, AV.one, eqV, eqAll, splice, fillA, List.replicate, resAll, resA, zm, zg, a196, hd, hg, hg', ev_len, hlen, hlz, a210, hsl, b2, b2', b6, a22, f22', e3, hkn', List.set_set]
      exact fin 2 _
  · have hgw := fun m : MM => grow_eq m (n := n) hw
    have hrun := change_run (next := growW w n) hg hj hr hO' hp
    have hng := hg
    have e1 : stepL c p xs ⟨3, w, k, n, ls⟩ = (if xs.getD (wrdN c p) 0 = w then (⟨0, w, k, n, ls.drop n.toNat⟩, xs.set (wrdN c p) (growW w n)) else (⟨1, w, k, n, ls⟩, xs)) := by
      simp only [stepL, if_neg (show ¬ ((3 : Int) = 0) by decide), if_neg (show ¬ ((3 : Int) = 1) by decide), if_neg (show ¬ ((3 : Int) = 2) by decide), if_neg hz]
    rw [e1]
    simp only [layC, rgC, cfC, List.cons_append, List.nil_append] at hg
    simp (disch := first | assumption | omega | (simp only [zl] <;> omega) | (simp only [zn])) only [put_Lay_Step, ↓zd, zk, Nat.reduceSub, Nat.reduceAdd, Nat.reduceMul, Nat.reduceLeDiff, Nat.reduceEqDiff, reduceIte, Int.reduceEq, Int.reduceBEq, Int.reduceLE, Int.reduceLT, Int.reduceNeg, Int.reduceAdd, Int.reduceSub, Int.reduceMul, List.map, AV.cells, List.all, AV.one, eqV, eqAll, splice, fillA, List.replicate, resAll, resA, zm, zg, a196, hd, hg, ev_len, hlen, hlz, a211, hgw, a212]
    refine OK_fn hrun ?_
    rintro _ m1 ⟨rfl, k1, x1, st', j1, r1⟩
    have lx1 : xj < m1.length := (List.getElem?_eq_some_iff.1 x1).1
    obtain ⟨e3, e4⟩ := LM.mv (s := ⟨3, w, k, n, ls⟩) (c := c) (p := p) hls hnx nx nj k1
    have nx1 : ∀ ro L, m1[xj]? ≠ some (.cells 1 ro L) := fun ro L h => by rw [x1] at h; cases h
    by_cases heq : xs.getD (wrdN c p) 0 = w
    · rw [if_pos heq] at x1 r1 ⊢
      have hdd : decide (xs.getD (wrdN c p) 0 = w) = true := decide_eq_true heq
      obtain ⟨nN, rfl⟩ : ∃ nN : Nat, n = nN := ⟨n.toNat, by omega⟩
      have hdr := fun (C : Chunk Ob) => si_drop (xs := ls) (k := nN) (e3.put nx1 C) ((e4 (by simp only; omega)).put nx1 C) (by omega)
      have hdr1 := (si_drop (xs := ls) (k := nN) e3 (e4 (by simp only; omega)) (by omega)).1
      have hnl2 : ∃ q oo nn L, lv = .sl q oo nn none ∧ m1[q]? = some (.cells 1 false L) := by
        rcases e4 (by simp only; omega) with h | ⟨q, oo, nn, L, h1, h2⟩
        · rw [h] at hlen; simp only [lenA, Option.some.injEq] at hlen; omega
        · exact ⟨q, oo, nn, L, h1, h2⟩
      obtain ⟨q, oo, nn, L, rfl, hq1⟩ := hnl2
      have hdv : dropA (.sl q oo nn none) nN = .sl q (oo + nN) (nn - nN) none := rfl
      rw [hdv] at hdr1
      simp only [hdv] at hdr
      simp only [rgC, cfC, List.cons_append, List.nil_append] at x1
      have hqx : q ≠ xj := fun h => by rw [h, x1] at hq1; cases hq1
      simp (disch := first | assumption | omega | (simp only [zl] <;> omega) | (simp only [zn])) only [↓zd, zk, Nat.reduceSub, Nat.reduceAdd, Nat.reduceMul, Nat.reduceLeDiff, Nat.reduceEqDiff, reduceIte, Int.reduceEq, Int.reduceBEq, Int.reduceLE, Int.reduceLT, Int.reduceNeg, Int.reduceAdd, Int.reduceSub, Int.reduceMul, List.map, AV.cells, List.all, AV.one, eqV, eqAll, splice, fillA, List.replicate, resAll, resA, zm, zg, hdd, x1, evA, hdr1, Int.toNat_natCast]
      refine ⟨rfl, k1.setL _, ⟨.sl q (oo + nN) (nn - nN) none, by rw [List.getElem?_set_self lx1]; rfl, ?_, fun _ => .inr ⟨q, _, _, L, rfl, by rw [List.getElem?_set_ne hqx.symm]; exact hq1⟩⟩, st', by rw [List.getElem?_set_ne hij]; exact j1, r1⟩
      exact (hdr _).2
    · rw [if_neg heq] at x1 r1 ⊢
      have hdd : decide (xs.getD (wrdN c p) 0 = w) = false := decide_eq_false heq
      simp only [rgC, cfC, List.cons_append, List.nil_append] at x1
      simp (disch := first | assumption | omega | (simp only [zl] <;> omega) | (simp only [zn])) only [↓zd, zk, Nat.reduceSub, Nat.reduceAdd, Nat.reduceMul, Nat.reduceLeDiff, Nat.reduceEqDiff, reduceIte, Int.reduceEq, Int.reduceBEq, Int.reduceLE, Int.reduceLT, Int.reduceNeg, Int.reduceAdd, Int.reduceSub, Int.reduceMul, List.map, AV.cells, List.all, AV.one, eqV, eqAll, splice, fillA, List.replicate, resAll, resA, zm, zg, hdd, x1]
      exact ⟨rfl, k1, ⟨lv, x1, e3, e4⟩, st', j1, r1⟩
end Go.Am.F09
end
section
namespace Go.Am.F09
open Go.Am.F06 Go.Am.F10
def Cl2 (m : MM) (xs : List Int) (r : AV) (m' : MM) : Prop := Keep m m' ∧ ((xs = [] ∧ lenA r = some 0 ∧ (r = .nils ∨ ∃ q o c, r = .sl q o 0 c ∧ m.length ≤ q)) ∨ ∃ q, r = .sl q 0 xs.length none ∧ m.length ≤ q ∧ m'[q]? = some (.cells 1 false (iC xs)))
theorem clone_run2 {m : MM} {wr : Bool} {xs : List Int} {v : AV} (h : SI m wr xs v) (hn : xs.length ≤ 100000) : Fn [] slices_Clone_int [v] m (Cl2 m xs) := by
  refine Fn_of rfl ?_
  rcases Nat.eq_zero_or_pos xs.length with h0 | h0
  · have hx0 : xs = [] := List.length_eq_zero_iff.1 h0
    subst hx0
    rcases h.2 with ⟨rfl, _⟩ | ⟨q, o, cap, rfl, _⟩
    · simp (disch := first | assumption | omega | (simp only [zl] <;> omega) | (simp only [zn])) only [slices_Clone_int, ↓zd, zk, Nat.reduceSub, Nat.reduceAdd, Nat.reduceMul, Nat.reduceLeDiff, Nat.reduceEqDiff, reduceIte, Int.reduceEq, Int.reduceBEq, Int.reduceLE, Int.reduceLT, Int.reduceNeg, Int.reduceAdd, Int.reduceSub, Int.reduceMul, List.map, AV.cells, List.all, AV.one, eqV, eqAll, splice, fillA, List.replicate, resAll, resA, zm, zg]
      exact ⟨.refl _, .inl ⟨rfl, rfl, .inl rfl⟩⟩
    · have happ : appendA 1 8 (.sl m.length 0 0 (some 0)) (.sl q o 0 cap) (m ++ [.cells 1 false []]) = some (.sl m.length 0 0 (some 0), m ++ [.cells 1 false []]) := rfl
      simp (disch := first | assumption | omega | (simp only [zl] <;> omega) | (simp only [zn])) only [slices_Clone_int, ↓zd, zk, Nat.reduceSub, Nat.reduceAdd, Nat.reduceMul, Nat.reduceLeDiff, Nat.reduceEqDiff, reduceIte, Int.reduceEq, Int.reduceBEq, Int.reduceLE, Int.reduceLT, Int.reduceNeg, Int.reduceAdd, Int.reduceSub, Int.reduceMul, List.map, AV.cells, List.all, AV.one, eqV, eqAll, splice, fillA, List.replicate, resAll, resA, zm, zg, evA, fillA, repeatL, List.flatten_nil, happ, List.length_nil]
      exact ⟨.app _ _, .inl ⟨rfl, rfl, .inr ⟨_, _, _, rfl, Nat.le_refl _⟩⟩⟩
  · obtain ⟨q, o, cap, ro, L, rfl, h2, h3, h4, h5⟩ := h.at h0
    have hq : q < m.length := (List.getElem?_eq_some_iff.1 h2).1
    have hrow : rowOf (m ++ [Chunk.cells 1 false []]) 1 (.sl q o xs.length cap) = some (iC xs) := by
      simp only [rowOf, Am.getC]
      rw [List.getElem?_append_left hq, h2]
      simp only
      rw [if_neg (by omega), if_pos h4, h3]
    have hz : rowOf (m ++ [Chunk.cells 1 false []]) 1 (.sl m.length 0 0 (some 0)) = some [] := rfl
    have happ : appendA 1 8 (.sl m.length 0 0 (some 0)) (.sl q o xs.length cap) (m ++ [.cells 1 false []]) = some (.sl (m.length + 1) 0 xs.length none, m ++ [.cells 1 false [], .cells 1 false (iC xs)]) := by
      simp only [appendA, lenA, hrow, hz]
      rw [if_neg (by omega), if_neg (by omega), if_pos ⟨by omega, by omega, iC_one _⟩]
      simp
    simp (disch := first | assumption | omega | (simp only [zl] <;> omega) | (simp only [zn])) only [slices_Clone_int, ↓zd, zk, Nat.reduceSub, Nat.reduceAdd, Nat.reduceMul, Nat.reduceLeDiff, Nat.reduceEqDiff, reduceIte, Int.reduceEq, Int.reduceBEq, Int.reduceLE, Int.reduceLT, Int.reduceNeg, Int.reduceAdd, Int.reduceSub, Int.reduceMul, List.map, AV.cells, List.all, AV.one, eqV, eqAll, splice, fillA, List.replicate, resAll, resA, zm, zg, evA, fillA, repeatL, List.flatten_nil, happ]
    exact ⟨.app _ _, .inr ⟨_, rfl, by omega, by rw [get_mid]; rfl⟩⟩
def newL (c : Cf) (p : Int) (xs : List Int) : LS := if thereP c p then ⟨1, 0, 0, 0, posL xs⟩ else ⟨0, 0, 0, 0, []⟩
theorem newL_ok (c : Cf) (p : Int) {xs : List Int} (h : xs.length ≤ 100) : LOk c p (newL c p xs) := by
  have := pos_len xs
  unfold newL; split
  · rename_i hp
    exact ⟨by unfold W64; simp, .inr ⟨hp, .inl rfl⟩, by simp only; omega⟩
  · exact ⟨by unfold W64; simp, .inl rfl, by simp⟩
def NlP (m : MM) (c : Cf) (p : Int) (xs : List Int) (r : AV) (m' : MM) : Prop := ∃ xj lv, r = .ptr xj 0 ∧ m.length ≤ xj ∧ Keep m m' ∧ LM m' xj c p (newL c p xs) lv ∧ Fr m.length lv
def Gnl : List (Nat × AFun Ob) := [(206, c_put_from), (208, c_slices_Clone_int), (95, amFunc Gdf slices_DeleteFunc_int)]
set_option maxHeartbeats 8000000 in
theorem newlay_run {m : MM} {wr : Bool} {c : Cf} {p : Int} {xs : List Int} {v : AV} (hv : SI m wr xs v) (hn : xs.length ≤ 1000) : Fn Gnl put_NewLay [.agg (cfC c), .int .i64 p, v] m (NlP m c p xs) := by
  have a206 : assoc Gnl 206 = some c_put_from := rfl
  have a208 : assoc Gnl 208 = some c_slices_Clone_int := rfl
  have a95 : assoc Gnl 95 = some (amFunc Gdf slices_DeleteFunc_int) := rfl
  have he : c_slices_Clone_int (X := Ob) = amFunc [] slices_Clone_int := rfl
  generalize Gnl = G at a206 a208 a95 ⊢
  have hfr := from_eq (m ++ [.cells 6 false (cfC c)]) c p
  by_cases h1 : thereP c p
  · have hnl : newL c p xs = ⟨1, 0, 0, 0, posL xs⟩ := if_pos h1
    unfold NlP
    rw [hnl]
    rw [fromA, if_pos h1] at hfr
    simp only [rgC, cfC, List.cons_append, List.nil_append, List.append_assoc] at hfr
    refine Fn_of rfl ?_
    simp (disch := first | assumption | omega | (simp only [zl] <;> omega) | (simp only [zn])) only [put_NewLay, ↓zd, zk, Nat.reduceSub, Nat.reduceAdd, Nat.reduceMul, Nat.reduceLeDiff, Nat.reduceEqDiff, reduceIte, Int.reduceEq, Int.reduceBEq, Int.reduceLE, Int.reduceLT, Int.reduceNeg, Int.reduceAdd, Int.reduceSub, Int.reduceMul, List.map, AV.cells, List.all, AV.one, eqV, eqAll, splice, fillA, List.replicate, resAll, resA, zm, zg, cfC, a206, hfr, List.set_set, List.drop_succ_cons, List.drop_zero, List.drop_nil, List.append_nil, a208, he]
    have hcl := fun K : MM => clone_run2 (hv.keep (Keep.app m K)) (by omega)
    refine OK_fn (hcl _) ?_
    rintro w m1 ⟨k1, hw⟩
    have km : Keep m m1 := (Keep.app m _).trans k1
    have g7 := k1.get (i := m.length + 7) (c := .cells 12 false (layC c p ⟨1, 0, 0, 0, []⟩ .nils)) (by rw [get_mid]; rfl)
    have l7 : m.length + 7 < m1.length := (List.getElem?_eq_some_iff.1 g7).1
    simp only [List.length_append, List.length_cons, List.length_nil] at hw
    rcases hw with ⟨rfl, hl0, hw⟩ | ⟨q, rfl, hq, hq1⟩
    · simp (disch := first | assumption | omega | (simp only [zl] <;> omega) | (simp only [zn])) only [↓zd, zk, Nat.reduceSub, Nat.reduceAdd, Nat.reduceMul, Nat.reduceLeDiff, Nat.reduceEqDiff, reduceIte, Int.reduceEq, Int.reduceBEq, Int.reduceLE, Int.reduceLT, Int.reduceNeg, Int.reduceAdd, Int.reduceSub, Int.reduceMul, List.map, AV.cells, List.all, AV.one, eqV, eqAll, splice, fillA, List.replicate, resAll, resA, zm, zg, a95]
      refine OK_fn (delete_nil hl0) ?_
      rintro w2 m2 ⟨hw2, rfl⟩
      rw [hw2]
      clear hw2
      have hx : ∃ q o cc, w = .nils ∨ (w = .sl q o 0 cc ∧ m.length ≤ q) := by
        rcases hw with h | ⟨q, o, cc, h, h'⟩
        · exact ⟨0, 0, none, .inl h⟩
        · exact ⟨q, o, cc, .inr ⟨h, by omega⟩⟩
      have hp0 : posL [] = [] := rfl
      rw [hp0]
      simp only [layC, rgC, cfC, List.cons_append, List.nil_append] at g7
      obtain ⟨q, o, cc, rfl | ⟨rfl, hqm⟩⟩ := hx
      · simp (disch := first | assumption | omega | (simp only [zl] <;> omega) | (simp only [zn])) only [↓zd, zk, Nat.reduceSub, Nat.reduceAdd, Nat.reduceMul, Nat.reduceLeDiff, Nat.reduceEqDiff, reduceIte, Int.reduceEq, Int.reduceBEq, Int.reduceLE, Int.reduceLT, Int.reduceNeg, Int.reduceAdd, Int.reduceSub, Int.reduceMul, List.map, AV.cells, List.all, AV.one, eqV, eqAll, splice, fillA, List.replicate, resAll, resA, zm, zg, g7]
        exact ⟨_, .nils, rfl, by omega, km.set (by omega) _, ⟨by rw [List.getElem?_set_self l7]; rfl, Sl.nil, fun h => by simp at h⟩, .inl rfl⟩
      · simp (disch := first | assumption | omega | (simp only [zl] <;> omega) | (simp only [zn])) only [↓zd, zk, Nat.reduceSub, Nat.reduceAdd, Nat.reduceMul, Nat.reduceLeDiff, Nat.reduceEqDiff, reduceIte, Int.reduceEq, Int.reduceBEq, Int.reduceLE, Int.reduceLT, Int.reduceNeg, Int.reduceAdd, Int.reduceSub, Int.reduceMul, List.map, AV.cells, List.all, AV.one, eqV, eqAll, splice, fillA, List.replicate, resAll, resA, zm, zg, g7]
        exact ⟨_, .sl q o 0 cc, rfl, by omega, km.set (by omega) _, ⟨by rw [List.getElem?_set_self l7]; rfl, ⟨rfl, .inr ⟨_, _, _, rfl, fun h => absurd h (Nat.lt_irrefl _)⟩⟩, fun h => by simp at h⟩, .inr ⟨_, _, _, _, rfl, hqm⟩⟩
    · simp (disch := first | assumption | omega | (simp only [zl] <;> omega) | (simp only [zn])) only [↓zd, zk, Nat.reduceSub, Nat.reduceAdd, Nat.reduceMul, Nat.reduceLeDiff, Nat.reduceEqDiff, reduceIte, Int.reduceEq, Int.reduceBEq, Int.reduceLE, Int.reduceLT, Int.reduceNeg, Int.reduceAdd, Int.reduceSub, Int.reduceMul, List.map, AV.cells, List.all, AV.one, eqV, eqAll, splice, fillA, List.replicate, resAll, resA, zm, zg, a95]
      have hkq : Keep (m1.take (m.length + 8)) m1 := ⟨by rw [List.length_take]; omega, fun i hi => by
        rw [List.length_take] at hi
        rw [List.getElem?_take, if_pos (by omega)]⟩
      refine OK_fn (delete_run hkq (by rw [List.length_take]; omega) hq1 hn) ?_
      rintro w2 m2 ⟨k2, sl2, fr2, nx2⟩
      have hlt : (m1.take (m.length + 8)).length = m.length + 8 := by rw [List.length_take]; omega
      have hg2 : m2[m.length + 7]? = some (.cells 12 false (layC c p ⟨1, 0, 0, 0, []⟩ .nils)) := by
        rw [k2.2 _ (by omega), List.getElem?_take, if_pos (by omega)]; exact g7
      have l2 : m.length + 7 < m2.length := (List.getElem?_eq_some_iff.1 hg2).1
      have km2 : Keep m m2 := ⟨by have := k2.1; omega, fun i hi => by rw [k2.2 i (by omega), List.getElem?_take, if_pos (by omega), km.2 i hi]⟩
      have nb : ∀ ro L, m2[m.length + 7]? ≠ some (.cells 1 ro L) := fun ro L h => by rw [hg2] at h; cases h
      rw [hlt] at fr2
      have hw2 : w2 = .nils ∨ ∃ q o nn, w2 = .sl q o nn none := by
        rcases nx2 with h | ⟨q, o, nn, l, h, _⟩
        · exact .inl h
        · exact .inr ⟨q, o, nn, h⟩
      have hfr2 : Fr m.length w2 := by
        rcases fr2 with h | ⟨q, o, nn, cc, h, h'⟩
        · exact .inl h
        · exact .inr ⟨q, o, nn, cc, h, by omega⟩
      have hsl := Sl.put sl2.ro nb
      have hnx := fun C => Nx.put nx2 nb C
      simp only [layC, rgC, cfC, List.cons_append, List.nil_append] at hg2
      rcases hw2 with rfl | ⟨q2, o2, nn2, rfl⟩
      · simp (disch := first | assumption | omega | (simp only [zl] <;> omega) | (simp only [zn])) only [↓zd, zk, Nat.reduceSub, Nat.reduceAdd, Nat.reduceMul, Nat.reduceLeDiff, Nat.reduceEqDiff, reduceIte, Int.reduceEq, Int.reduceBEq, Int.reduceLE, Int.reduceLT, Int.reduceNeg, Int.reduceAdd, Int.reduceSub, Int.reduceMul, List.map, AV.cells, List.all, AV.one, eqV, eqAll, splice, fillA, List.replicate, resAll, resA, zm, zg, hg2]
        exact ⟨_, _, rfl, by omega, km2.set (by omega) _, ⟨by rw [List.getElem?_set_self l2]; rfl, hsl _, fun _ => hnx _⟩, hfr2⟩
      · simp (disch := first | assumption | omega | (simp only [zl] <;> omega) | (simp only [zn])) only [↓zd, zk, Nat.reduceSub, Nat.reduceAdd, Nat.reduceMul, Nat.reduceLeDiff, Nat.reduceEqDiff, reduceIte, Int.reduceEq, Int.reduceBEq, Int.reduceLE, Int.reduceLT, Int.reduceNeg, Int.reduceAdd, Int.reduceSub, Int.reduceMul, List.map, AV.cells, List.all, AV.one, eqV, eqAll, splice, fillA, List.replicate, resAll, resA, zm, zg, hg2]
        exact ⟨_, _, rfl, by omega, km2.set (by omega) _, ⟨by rw [List.getElem?_set_self l2]; rfl, hsl _, fun _ => hnx _⟩, hfr2⟩
  · have hnl : newL c p xs = ⟨0, 0, 0, 0, []⟩ := if_neg h1
    unfold NlP
    rw [hnl]
    rw [fromA, if_neg h1] at hfr
    simp only [rgC, cfC, List.cons_append, List.nil_append, List.append_assoc] at hfr
    refine Fn_of rfl ?_
    simp (disch := first | assumption | omega | (simp only [zl] <;> omega) | (simp only [zn])) only [put_NewLay, ↓zd, zk, Nat.reduceSub, Nat.reduceAdd, Nat.reduceMul, Nat.reduceLeDiff, Nat.reduceEqDiff, reduceIte, Int.reduceEq, Int.reduceBEq, Int.reduceLE, Int.reduceLT, Int.reduceNeg, Int.reduceAdd, Int.reduceSub, Int.reduceMul, List.map, AV.cells, List.all, AV.one, eqV, eqAll, splice, fillA, List.replicate, resAll, resA, zm, zg, cfC, a206, hfr, List.set_set, List.drop_succ_cons, List.drop_zero, List.drop_nil, List.append_nil]
    exact ⟨_, .nils, rfl, by omega, .app _ _, ⟨by rw [get_mid]; rfl, Sl.nil, fun h => by simp at h⟩, .inl rfl⟩
theorem lhands_run {m : MM} {xj : Nat} {c : Cf} {p : Int} {s : LS} {lv : AV} (hx : LM m xj c p s lv) (hl : s.ls.length ≤ 100000) : Fn Gpo put_Lay_Hands [.ptr xj 0] m (ClP m s.ls) := by
  have a208 : assoc Gpo 208 = some c_slices_Clone_int := rfl
  have he : c_slices_Clone_int (X := Ob) = amFunc [] slices_Clone_int := rfl
  generalize Gpo = G at a208 ⊢
  have hg := hx.get
  simp only [layC, rgC, cfC, List.cons_append, List.nil_append] at hg
  refine Fn_of rfl ?_
  simp (disch := first | assumption | omega | (simp only [zl] <;> omega) | (simp only [zn])) only [put_Lay_Hands, ↓zd, zk, Nat.reduceSub, Nat.reduceAdd, Nat.reduceMul, Nat.reduceLeDiff, Nat.reduceEqDiff, reduceIte, Int.reduceEq, Int.reduceBEq, Int.reduceLE, Int.reduceLT, Int.reduceNeg, Int.reduceAdd, Int.reduceSub, Int.reduceMul, List.map, AV.cells, List.all, AV.one, eqV, eqAll, splice, fillA, List.replicate, resAll, resA, zm, zg, hg, a208, he]
  refine OK_fn (clone_run hx.l hl) ?_
  intro r m1 hc
  simp (disch := first | assumption | omega | (simp only [zl] <;> omega) | (simp only [zn])) only [↓zd, zk, Nat.reduceSub, Nat.reduceAdd, Nat.reduceMul, Nat.reduceLeDiff, Nat.reduceEqDiff, reduceIte, Int.reduceEq, Int.reduceBEq, Int.reduceLE, Int.reduceLT, Int.reduceNeg, Int.reduceAdd, Int.reduceSub, Int.reduceMul, List.map, AV.cells, List.all, AV.one, eqV, eqAll, splice, fillA, List.replicate, resAll, resA, zm, zg]
  exact hc
end Go.Am.F09
end
section
namespace Go.Am.F11
open Go.Am.F06 Go.Am.F10 Go.Am.F09
def stC (c : Cf) (p v a w : Int) (ly b : AV) (k : Int) : List AV := cfC c ++ [ly, .int .i64 p, .int .i64 v, .int .i64 a, .int .u64 w, b, .int .i64 k]
def thereS (c : Cf) (p v : Int) : Prop := thereP c p ∧ thereP c v ∧ p ≠ v
instance (c : Cf) (p v : Int) : Decidable (thereS c p v) := by unfold thereS; infer_instance
variable {X : Type}
theorem word_ge {c : Cf} {p : Int} : (0 ≤ addrA c p 0) ↔ thereP c p := by
  unfold addrA
  split
  · rename_i h
    have := there_bounds h
    have : 0 ≤ p * (6 + c.q) := Int.mul_nonneg (by omega) (by omega)
    exact ⟨fun _ => h, fun _ => by omega⟩
  · rename_i h
    exact ⟨fun h' => by omega, fun h' => absurd h' h⟩
set_option maxHeartbeats 4000000 in
theorem snew_run {m : Mem X} (c : Cf) (p v : Int) : Fn [(159, F10.c_conf_Config_Word)] steal_New [.agg (cfC c), .int .i64 p, .int .i64 v] m
    (fun r m' => Keep m m' ∧ ∃ xj, r = .ptr xj 0 ∧ m.length ≤ xj ∧ m'[xj]? = some (.cells 13 false (stC c p v (if thereS c p v then 1 else 0) 0 .nilp .nils 0))) := by
  have a159 : assoc [(159, F10.c_conf_Config_Word (X := X))] 159 = some F10.c_conf_Config_Word := rfl
  generalize [(159, F10.c_conf_Config_Word (X := X))] = G at a159 ⊢
  have hw := fun (m : Mem X) (p : Int) => word_run (m := m) c p
  have h1 := word_ge (c := c) (p := p)
  have h2 := word_ge (c := c) (p := v)
  simp only [cfC, List.cons_append, List.nil_append] at hw
  refine Fn_of rfl ?_
  by_cases t1 : thereP c p
  · have g1 := h1.2 t1
    by_cases t2 : thereP c v
    · have g2 := h2.2 t2
      by_cases t3 : p = v
      · have hn : ¬ thereS c p v := fun h => h.2.2 t3
        rw [if_neg hn]
        subst t3
        simp (disch := first | assumption | omega | (simp only [zl] <;> omega) | (simp only [zn])) only [steal_New, ↓zd, zk, Nat.reduceSub, Nat.reduceAdd, Nat.reduceMul, Nat.reduceLeDiff, Nat.reduceEqDiff, reduceIte, Int.reduceEq, Int.reduceBEq, Int.reduceLE, Int.reduceLT, Int.reduceNeg, Int.reduceAdd, Int.reduceSub, Int.reduceMul, List.map, AV.cells, List.all, AV.one, eqV, eqAll, splice, fillA, List.replicate, resAll, resA, zm, zg, cfC, stC, a159, hw, g1]
        refine ⟨.app _ _, m.length + 1, rfl, by omega, ?_⟩
        rw [get_mid]; rfl
      · have hn : thereS c p v := ⟨t1, t2, t3⟩
        rw [if_pos hn]
        simp (disch := first | assumption | omega | (simp only [zl] <;> omega) | (simp only [zn])) only [steal_New, ↓zd, zk, Nat.reduceSub, Nat.reduceAdd, Nat.reduceMul, Nat.reduceLeDiff, Nat.reduceEqDiff, reduceIte, Int.reduceEq, Int.reduceBEq, Int.reduceLE, Int.reduceLT, Int.reduceNeg, Int.reduceAdd, Int.reduceSub, Int.reduceMul, List.map, AV.cells, List.all, AV.one, eqV, eqAll, splice, fillA, List.replicate, resAll, resA, zm, zg, cfC, stC, a159, hw, g1, g2, t3]
        refine ⟨.app _ _, m.length + 1, rfl, by omega, ?_⟩
        rw [get_mid]; rfl
    · have g2 : ¬ (0 ≤ addrA c v 0) := fun h => t2 (h2.1 h)
      have hn : ¬ thereS c p v := fun h => t2 h.2.1
      rw [if_neg hn]
      simp (disch := first | assumption | omega | (simp only [zl] <;> omega) | (simp only [zn])) only [steal_New, ↓zd, zk, Nat.reduceSub, Nat.reduceAdd, Nat.reduceMul, Nat.reduceLeDiff, Nat.reduceEqDiff, reduceIte, Int.reduceEq, Int.reduceBEq, Int.reduceLE, Int.reduceLT, Int.reduceNeg, Int.reduceAdd, Int.reduceSub, Int.reduceMul, List.map, AV.cells, List.all, AV.one, eqV, eqAll, splice, fillA, List.replicate, resAll, resA, zm, zg, cfC, stC, a159, hw, g1, g2]
      refine ⟨.app _ _, m.length + 1, rfl, by omega, ?_⟩
      rw [get_mid]; rfl
  · have g1 : ¬ (0 ≤ addrA c p 0) := fun h => t1 (h1.1 h)
    have hn : ¬ thereS c p v := fun h => t1 h.1
    rw [if_neg hn]
    simp (disch := first | assumption | omega | (simp only [zl] <;> omega) | (simp only [zn])) only [steal_New, ↓zd, zk, Nat.reduceSub, Nat.reduceAdd, Nat.reduceMul, Nat.reduceLeDiff, Nat.reduceEqDiff, reduceIte, Int.reduceEq, Int.reduceBEq, Int.reduceLE, Int.reduceLT, Int.reduceNeg, Int.reduceAdd, Int.reduceSub, Int.reduceMul, List.map, AV.cells, List.all, AV.one, eqV, eqAll, splice, fillA, List.replicate, resAll, resA, zm, zg, cfC, stC, a159, hw, g1]
    refine ⟨.app _ _, m.length + 1, rfl, by omega, ?_⟩
    rw [get_mid]; rfl
theorem sdone_nil (m : Mem X) : c_steal_Steal_Done [.nilp] m = some (.bool true, m) := Fn_eq (Fn_of rfl (by simp (disch := first | assumption | omega | (simp only [zl] <;> omega) | (simp only [zn])) only [steal_Steal_Done, ↓zd, zk, Nat.reduceSub, Nat.reduceAdd, Nat.reduceMul, Nat.reduceLeDiff, Nat.reduceEqDiff, reduceIte, Int.reduceEq, Int.reduceBEq, Int.reduceLE, Int.reduceLT, Int.reduceNeg, Int.reduceAdd, Int.reduceSub, Int.reduceMul, List.map, AV.cells, List.all, AV.one, eqV, eqAll, splice, fillA, List.replicate, resAll, resA, zm, zg]))
theorem sdone_eq {m : Mem X} {xj : Nat} {c : Cf} {p v a w k : Int} {ly b : AV} (hx : m[xj]? = some (.cells 13 false (stC c p v a w ly b k))) : c_steal_Steal_Done [.ptr xj 0] m = some (.bool (decide (a = 0)), m) := by
  refine Fn_eq (Fn_of rfl ?_)
  simp (disch := first | assumption | omega | (simp only [zl] <;> omega) | (simp only [zn])) only [steal_Steal_Done, ↓zd, zk, Nat.reduceSub, Nat.reduceAdd, Nat.reduceMul, Nat.reduceLeDiff, Nat.reduceEqDiff, reduceIte, Int.reduceEq, Int.reduceBEq, Int.reduceLE, Int.reduceLT, Int.reduceNeg, Int.reduceAdd, Int.reduceSub, Int.reduceMul, List.map, AV.cells, List.all, AV.one, eqV, eqAll, splice, fillA, List.replicate, resAll, resA, zm, zg, hx, stC, cfC]
theorem smany_eq {m : Mem X} {xj : Nat} {c : Cf} {p v a w k : Int} {ly b : AV} (hx : m[xj]? = some (.cells 13 false (stC c p v a w ly b k))) : c_steal_Steal_Many [.ptr xj 0] m = some (.int .i64 k, m) := by
  refine Fn_eq (Fn_of rfl ?_)
  simp (disch := first | assumption | omega | (simp only [zl] <;> omega) | (simp only [zn])) only [steal_Steal_Many, ↓zd, zk, Nat.reduceSub, Nat.reduceAdd, Nat.reduceMul, Nat.reduceLeDiff, Nat.reduceEqDiff, reduceIte, Int.reduceEq, Int.reduceBEq, Int.reduceLE, Int.reduceLT, Int.reduceNeg, Int.reduceAdd, Int.reduceSub, Int.reduceMul, List.map, AV.cells, List.all, AV.one, eqV, eqAll, splice, fillA, List.replicate, resAll, resA, zm, zg, hx, stC, cfC]
def Dn (m : Mem X) (x : AV) : Prop := x = .nilp ∨ ∃ xj c p v w ly b, x = .ptr xj 0 ∧ m[xj]? = some (.cells 13 false (stC c p v 0 w ly b 0))
theorem Dn.done {m : Mem X} {x : AV} (h : Dn m x) : c_steal_Steal_Done [x] m = some (.bool true, m) := by
  rcases h with rfl | ⟨xj, c, p, v, w, ly, b, rfl, h⟩
  · exact sdone_nil m
  · rw [sdone_eq h]; rfl
theorem got_no {G : List (Nat × AFun X)} (a277 : assoc G 277 = some c_steal_Steal_Done) (a275 : assoc G 275 = some c_steal_Steal_Many) {m : Mem X} {x : AV} (h1 : ∃ d, c_steal_Steal_Done [x] m = some (.bool d, m)) (h2 : c_steal_Steal_Many [x] m = some (.int .i64 0, m)) : amFunc G steal_Steal_Got [x] m = some (.tup [.int .i64 0, .bool false], m) := by
  obtain ⟨d, h1⟩ := h1
  refine Fn_eq (Fn_of rfl ?_)
  cases d
  all_goals simp (disch := first | assumption | omega | (simp only [zl] <;> omega) | (simp only [zn])) only [steal_Steal_Got, ↓zd, zk, Nat.reduceSub, Nat.reduceAdd, Nat.reduceMul, Nat.reduceLeDiff, Nat.reduceEqDiff, reduceIte, Int.reduceEq, Int.reduceBEq, Int.reduceLE, Int.reduceLT, Int.reduceNeg, Int.reduceAdd, Int.reduceSub, Int.reduceMul, List.map, AV.cells, List.all, AV.one, eqV, eqAll, splice, fillA, List.replicate, resAll, resA, zm, zg, a277, h1, a275, h2]
theorem Dn.keep {m m' : Mem X} {x : AV} (h : Dn m x) (k : Keep m m') : Dn m' x := by
  rcases h with rfl | ⟨xj, c, p, v, w, ly, b, rfl, h⟩
  · exact .inl rfl
  · exact .inr ⟨xj, c, p, v, w, ly, b, rfl, k.get h⟩
theorem Dn.one {m : Mem X} {x : AV} (h : Dn m x) : x.one = true := by
  rcases h with rfl | ⟨xj, c, p, v, w, ly, b, rfl, h⟩ <;> rfl
end Go.Am.F11
end
section
namespace Go.Am.F09
open Go.Am.F06 Go.Am.F10
theorem LOk.step {c : Cf} {p : Int} {s : LS} {xs : List Int} (h : LOk c p s) (hx : s.a = 0 ∨ OkL c xs) : LOk c p (stepL c p xs s).1 := by
  obtain ⟨h1, h2, h3⟩ := h
  rcases hx with h0 | hx
  · have : stepL c p xs s = (s, xs) := if_pos h0
    rw [this]; exact ⟨h1, h2, h3⟩
  have hg := getD_64 hx.2 (wrdN c p)
  obtain ⟨a, w, k, n, ls⟩ := s
  simp only at h1 h2 h3
  by_cases h0 : a = 0
  · have : stepL c p xs ⟨a, w, k, n, ls⟩ = (⟨a, w, k, n, ls⟩, xs) := if_pos h0
    rw [this]; exact ⟨h1, h2, h3⟩
  by_cases hz : ls.length = 0
  · have : stepL c p xs ⟨a, w, k, n, ls⟩ = (⟨0, w, k, n, ls⟩, xs) := by simp only [stepL, if_neg h0, if_pos hz]
    rw [this]; exact ⟨h1, .inl rfl, h3⟩
  rcases h2 with h2 | ⟨hp, h2⟩
  · exact absurd h2 h0
  have hrb := room_b (c := c) (w := xs.getD (wrdN c p) 0) (len := ls.length)
  rcases h2 with rfl | ⟨rfl, k0, k1, k2⟩ | ⟨rfl, n0, n1⟩
  · have : stepL c p xs ⟨1, w, k, n, ls⟩ = (⟨if roomN c (xs.getD (wrdN c p) 0) ls.length = 0 then 0 else 2, xs.getD (wrdN c p) 0, 0, roomN c (xs.getD (wrdN c p) 0) ls.length, ls⟩, xs) := by simp only [stepL, if_neg h0, if_neg hz, if_true]
    rw [this]
    by_cases hr : roomN c (xs.getD (wrdN c p) 0) ls.length = 0
    · rw [if_pos hr]; exact ⟨hg, .inl rfl, h3⟩
    · rw [if_neg hr]; exact ⟨hg, .inr ⟨hp, .inr (.inl ⟨rfl, by simp, by simp only; omega, hrb.2⟩)⟩, h3⟩
  · have : stepL c p xs ⟨2, w, k, n, ls⟩ = (⟨if k + 1 = n then 3 else 2, w, k + 1, n, ls⟩, xs.set (pslA c p w k).toNat (IntKind.u64.wrap (ls.getD k.toNat 0))) := by simp only [stepL, if_neg h0, if_neg hz, if_neg (show ¬ ((2 : Int) = 1) by decide), if_true]
    rw [this]
    by_cases hr : k + 1 = n
    · rw [if_pos hr]; exact ⟨h1, .inr ⟨hp, .inr (.inr ⟨rfl, by simp only; omega, k2⟩)⟩, h3⟩
    · rw [if_neg hr]; exact ⟨h1, .inr ⟨hp, .inr (.inl ⟨rfl, by simp only; omega, by simp only; omega, k2⟩)⟩, h3⟩
  · by_cases heq : xs.getD (wrdN c p) 0 = w
    · have : stepL c p xs ⟨3, w, k, n, ls⟩ = (⟨0, w, k, n, ls.drop n.toNat⟩, xs.set (wrdN c p) (growW w n)) := by simp only [stepL, if_neg h0, if_neg hz, if_neg (show ¬ ((3 : Int) = 1) by decide), if_neg (show ¬ ((3 : Int) = 2) by decide), if_pos heq]
      rw [this]; exact ⟨h1, .inl rfl, by simp only [List.length_drop]; omega⟩
    · have : stepL c p xs ⟨3, w, k, n, ls⟩ = (⟨1, w, k, n, ls⟩, xs) := by simp only [stepL, if_neg h0, if_neg hz, if_neg (show ¬ ((3 : Int) = 1) by decide), if_neg (show ¬ ((3 : Int) = 2) by decide), if_neg heq]
      rw [this]; exact ⟨h1, .inr ⟨hp, .inl rfl⟩, h3⟩
structure LI (c : Cf) (p w0 : Int) (own : List Int) (t : Nat) (s : LS) (xs : List Int) : Prop where
  ok : OkL c xs
  w : xs.getD (wrdN c p) 0 = w0
  ls : s.ls = own
  st : (t = 0 ∧ s.a = 1) ∨ (∃ i : Nat, t = i + 1 ∧ s.w = w0 ∧ s.n = own.length ∧ s.k = i ∧ (∀ k, k < i → slV c p w0 xs k = own.getD k 0) ∧ ((s.a = 2 ∧ i < own.length) ∨ (s.a = 3 ∧ i = own.length)))
theorem LI.ne {c : Cf} {p w0 : Int} {own : List Int} {t : Nat} {s : LS} {xs : List Int} (h : LI c p w0 own t s xs) : s.a ≠ 0 ∧ t ≤ own.length + 1 := by
  rcases h.st with ⟨h1, h2⟩ | ⟨i, h1, _, _, _, _, h2 | h2⟩ <;> omega
theorem wrap_id {x : Int} (h0 : 0 ≤ x) (h1 : x < 9223372036854775808) : IntKind.i64.wrap (IntKind.u64.wrap x) = x := by
  rw [wrapU h0 (by omega)]; exact wrapI (by omega) (by omega)
theorem LI.step {c : Cf} {p h : Int} {own : List Int} {t : Nat} {s : LS} {xs : List Int} (hI : LI c p (pk h h) own t s xs) (hp : thereP c p) (h0 : 0 ≤ h) (h1 : h < 4294967296) (hpos : 0 < own.length) (hq : (own.length : Int) ≤ c.q) (hown : ∀ x, x ∈ own → 0 ≤ x ∧ x < 9223372036854775808) :
    ((stepL c p xs s).1.a ≠ 0 ∧ LI c p (pk h h) own (t + 1) (stepL c p xs s).1 (stepL c p xs s).2) ∨
    ((stepL c p xs s).1.a = 0 ∧ t = own.length + 1 ∧ (stepL c p xs s).1.ls = [] ∧ OkL c (stepL c p xs s).2 ∧ ringL c p (stepL c p xs s).2 = own) := by
  have hb := there_bounds hp
  have hroom : roomP c.q := hp.1.2.1
  have hsz : sz (pk h h) = 0 := by unfold sz; rw [hd_pk h0 h1, tl_pk h0 h1]; omega
  have hw64 : W64 (pk h h) := by unfold W64 pk; omega
  obtain ⟨ok, hw, hls, hst⟩ := hI
  have hxl := ok.1
  have hwb := addr_b hp (i := 0) (by omega) (by omega)
  have hwl : wrdN c p < xs.length := by unfold wrdN; omega
  obtain ⟨a, w, k, n, ls⟩ := s
  simp only at hls
  subst hls
  have hz : ¬ (ls.length = 0) := by omega
  rcases hst with ⟨rfl, ha⟩ | ⟨i, rfl, e1, e2, e3, e4, e5⟩
  · simp only at ha
    subst ha
    have hrm : roomN c (pk h h) ls.length = ls.length := by unfold roomN; rw [hsz, if_neg (by omega)]; split <;> omega
    have : stepL c p xs ⟨1, w, k, n, ls⟩ = (⟨2, pk h h, 0, ls.length, ls⟩, xs) := by simp only [stepL, if_neg (show ¬ ((1 : Int) = 0) by decide), if_neg hz, if_true, hw, hrm, if_neg (show ¬ ((ls.length : Int) = 0) by omega)]
    rw [this]
    exact .inl ⟨by simp, ok, hw, rfl, .inr ⟨0, rfl, rfl, rfl, rfl, fun k hk => by omega, .inl ⟨rfl, hpos⟩⟩⟩
  · simp only at e1 e2 e3 e5
    subst e1; subst e2; subst e3
    rcases e5 with ⟨rfl, hi⟩ | ⟨rfl, hi⟩
    · obtain ⟨x, hx⟩ : ∃ x, ls[i]? = some x := ⟨_, List.getElem?_eq_getElem hi⟩
      have hxb := hown x (List.mem_of_getElem? hx)
      have hgd : ls.getD i 0 = x := by rw [List.getD_eq_getElem?_getD, hx]; rfl
      have hps : pslA c p (pk h h) i = slotA c p ((hd (pk h h) + (i : Int)) % 4294967296) := by unfold pslA; rw [tl_pk h0 h1, hd_pk h0 h1]
      have hsb := slot_b (i := (hd (pk h h) + (i : Int)) % 4294967296) hp (by omega)
      have : stepL c p xs ⟨2, pk h h, i, ls.length, ls⟩ = (⟨if (i : Int) + 1 = ls.length then 3 else 2, pk h h, i + 1, ls.length, ls⟩, xs.set (slotA c p ((hd (pk h h) + (i : Int)) % 4294967296)).toNat (IntKind.u64.wrap x)) := by
        simp only [stepL, if_neg (show ¬ ((2 : Int) = 0) by decide), if_neg hz, if_neg (show ¬ ((2 : Int) = 1) by decide), if_true, hps, Int.toNat_natCast, hgd]
      rw [this]
      refine .inl ⟨by simp only; split <;> omega, ok.set _ (wrap64_b _), by rw [getD_set_ne (slot_word hp)]; exact hw, rfl, .inr ⟨i + 1, rfl, rfl, rfl, by simp, fun k hk => ?_, ?_⟩⟩
      · unfold slV
        by_cases hki : k = i
        · subst hki
          rw [getD_set_self (by omega), wrap_id hxb.1 hxb.2, hgd]
        · rw [getD_set_ne (slot_ne hp (by omega) (by omega) (fun hh => room_mod (a := hd (pk h h)) (k := k) (n := i) hroom (by omega) (by omega) hh.symm))]
          exact e4 k (by omega)
      · by_cases hq2 : (i : Int) + 1 = ls.length
        · simp only [if_pos hq2]; exact .inr ⟨trivial, by omega⟩
        · simp only [if_neg hq2]; exact .inl ⟨trivial, by omega⟩
    · have : stepL c p xs ⟨3, pk h h, i, ls.length, ls⟩ = (⟨0, pk h h, i, ls.length, ls.drop ls.length⟩, xs.set (wrdN c p) (growW (pk h h) ls.length)) := by
        simp only [stepL, if_neg (show ¬ ((3 : Int) = 0) by decide), if_neg hz, if_neg (show ¬ ((3 : Int) = 1) by decide), if_neg (show ¬ ((3 : Int) = 2) by decide), if_pos hw, Int.toNat_natCast]
      rw [this]
      have hg : growW (pk h h) ls.length = pk h ((h + ls.length) % 4294967296) := by unfold growW; rw [hd_pk h0 h1, tl_pk h0 h1]
      have hgs : sz (growW (pk h h) ls.length) = ls.length := by
        rw [hg]; unfold sz; rw [hd_pk (by omega) (by omega), tl_pk (by omega) (by omega)]; omega
      refine .inr ⟨rfl, by omega, by simp, ok.set _ (grow_64 hw64 _), ?_⟩
      refine ringL_eq hp (getD_set_self hwl) (by rw [hgs]; omega) (by rw [hgs]) fun k hk => ?_
      have := e4 k (by omega)
      unfold slV at this
      rw [hd_pk h0 h1] at this
      rw [ringAt, hg, hd_pk (by omega) (by omega), getD_set_ne (slot_word hp).symm, this]
end Go.Am.F09
end
section
namespace Go.Am.F09
open Go.Am.F06 Go.Am.F10
end Go.Am.F09
end
section
namespace Go.Am.F09
open Go.Am.F06 Go.Am.F10
def rlC (c : Cf) (p : Int) (s : LS) (lv : AV) : List AV := cfC c ++ [.int .i64 p, lv, .int .i64 s.a, .int .u64 s.w, .int .i64 s.n, .int .i64 s.k]
structure LNx (lo hi : Nat) (m : MM) (ls : List Int) (lv : AV) : Prop where
  sl : SI m false ls lv
  nx : 0 < ls.length → Nx m lv
  no : ∀ b, lo ≤ b → b < hi → ∀ ro L, m[b]? ≠ some (.cells 1 ro L)
theorem LNx.set {lo hi : Nat} {m : MM} {ls : List Int} {lv : AV} (h : LNx lo hi m ls lv) {a : Nat} (h1 : lo ≤ a) (h2 : a < hi) {C : Chunk Ob} (hC : ∀ ro L, C ≠ .cells 1 ro L) : LNx lo hi (m.set a C) ls lv :=
  ⟨Sl.put h.sl (h.no a h1 h2) C, fun h0 => (h.nx h0).put (h.no a h1 h2) C, (SLN.set (wr := false) (n := ls.length) (l := iC ls) (v := lv) ⟨h.sl, h.no⟩ h1 h2 hC).no⟩
def RyP (m : MM) (c : Cf) (p : Int) (x : LS × List Int) (o : Int) (r : AV) (m' : MM) : Prop := Keep m m' ∧ ∃ lv' v', r = .tup [.agg (rlC c p x.1 lv'), .agg (memC v' o)] ∧ SI m' false x.1.ls lv' ∧ (0 < x.1.ls.length → Nx m' lv') ∧ SU m' false x.2 v'
def Grl2 : List (Nat × AFun Ob) := [(170, F10.c_ref09_Head), (171, F10.c_ref09_Tail), (172, F10.c_ref09_Word), (64, F06.c_ref06_Load), (173, F10.c_ref09_Size), (174, F10.c_ref09_Slot), (65, F06.c_ref06_Store), (175, F10.c_ref09_Pack), (66, F06.c_ref06_CAS)]
set_option maxHeartbeats 16000000 in
theorem rlstep1 {m : MM} {wr : Bool} {c : Cf} {p o : Int} {s : LS} {xs : List Int} {v lv : AV} (hs : SU m wr xs v) (hl : SI m false s.ls lv) (hnx : 0 < s.ls.length → Nx m lv) (hok : LOk c p s) (hx : OkL c xs) (ha : s.a = 1) (h0 : 0 < s.ls.length) :
    Fn Grl2 ref09_StepLay [.agg (rlC c p s lv), .agg (memC v o)] m (RyP m c p (stepL c p xs s) (IntKind.u64.wrap (o + 1))) := by
  have a172 : assoc Grl2 172 = some F10.c_ref09_Word := rfl
  have a64 : assoc Grl2 64 = some F06.c_ref06_Load := rfl
  have a173 : assoc Grl2 173 = some F10.c_ref09_Size := rfl
  generalize Grl2 = G at a172 a64 a173 ⊢
  have hone := slOne hs
  have hone2 := slOne hl
  simp only [AV.one] at hone hone2
  obtain ⟨a, w, k, n, ls⟩ := s
  simp only at ha hl hnx h0
  subst ha
  have hp : thereP c p := hok.a.elim (fun h => by simp at h) (·.1)
  have hll := hok.l
  simp only at hll
  have hb := there_bounds hp
  have hcn := cellsN_le c
  have hxl := hx.1
  have hlen := hl.len
  have ha0 := addr_b hp (i := 0) (by omega) (by omega)
  have hrw := fun m : MM => rword_eq m hp
  simp only [word_at hp, cfC] at hrw
  have hwn : ((wrdN c p : Nat) : Int) = addrA c p 0 := by unfold wrdN; omega
  have hrl := fun K : MM => rload_eq (hs.keep (Keep.app m K)) o (a := wrdN c p) (by omega)
  rw [hwn] at hrl
  have hg := getD_64 hx.2 (wrdN c p)
  have hlz : ¬ ((ls.length : Int) = 0) := by omega
  have hs1 : stepL c p xs ⟨1, w, k, n, ls⟩ = (⟨if roomN c (xs.getD (wrdN c p) 0) ls.length = 0 then 0 else 2, xs.getD (wrdN c p) 0, 0, roomN c (xs.getD (wrdN c p) 0) ls.length, ls⟩, xs) := by
    simp only [stepL, if_neg (show ¬ ((1 : Int) = 0) by decide), if_neg (show ¬ (ls.length = 0) by omega), if_true]
  rw [hs1]
  generalize xs.getD (wrdN c p) 0 = w' at hg hrl
  simp only [memC, List.append_assoc, List.cons_append, List.nil_append] at hrl
  have hz := fun m : MM => rsize_eq m hg
  have e0 : IntKind.u32.wrap c.q = c.q := by rw [wrap32]; omega
  have hz0 : 0 ≤ sz w' ∧ sz w' < 4294967296 := by unfold sz; omega
  have e1 : IntKind.i64.wrap (sz w') = sz w' := wrapI (by omega) (by omega)
  have e2 : IntKind.i64.wrap (c.q - sz w') = c.q - sz w' := wrapI (by omega) (by omega)
  have hl' := fun K : MM => hl.keep (Keep.app m K)
  have hnx' := fun (K : MM) h => (hnx h).keep (Keep.app m K)
  refine Fn_of rfl ?_
  rcases (show c.q ≤ sz w' ∨ (sz w' < c.q ∧ c.q - sz w' < (ls.length : Int)) ∨ (sz w' < c.q ∧ (ls.length : Int) ≤ c.q - sz w') by omega) with h | ⟨h, h'⟩ | ⟨h, h'⟩
  · have hroom : roomN c w' ls.length = 0 := if_pos h
    rw [hroom, if_pos rfl]
    simp (disch := first | assumption | omega | (simp only [zl] <;> omega) | (simp only [zn])) only [ref09_StepLay, ↓zd, zk, Nat.reduceSub, Nat.reduceAdd, Nat.reduceMul, Nat.reduceLeDiff, Nat.reduceEqDiff, reduceIte, Int.reduceEq, Int.reduceBEq, Int.reduceLE, Int.reduceLT, Int.reduceNeg, Int.reduceAdd, Int.reduceSub, Int.reduceMul, List.map, AV.cells, List.all, AV.one, eqV, eqAll, splice, fillA, List.replicate, resAll, resA, zm, zg, rlC, cfC, memC, hone, hone2, ev_len, hlen, hlz, a172, hrw, a64, hrl, a173, hz, e0, h]
    exact ⟨Keep.app _ _, lv, v, rfl, hl' _, hnx' _, (hs.keep (.app _ _)).ro⟩
  · have hroom : roomN c w' ls.length = c.q - sz w' := by unfold roomN; rw [if_neg (by omega), if_neg (by omega)]
    rw [hroom, if_neg (by omega)]
    simp (disch := first | assumption | omega | (simp only [zl] <;> omega) | (simp only [zn])) only [ref09_StepLay, ↓zd, zk, Nat.reduceSub, Nat.reduceAdd, Nat.reduceMul, Nat.reduceLeDiff, Nat.reduceEqDiff, reduceIte, Int.reduceEq, Int.reduceBEq, Int.reduceLE, Int.reduceLT, Int.reduceNeg, Int.reduceAdd, Int.reduceSub, Int.reduceMul, List.map, AV.cells, List.all, AV.one, eqV, eqAll, splice, fillA, List.replicate, resAll, resA, zm, zg, rlC, cfC, memC, hone, hone2, ev_len, hlen, hlz, a172, hrw, a64, hrl, a173, hz, e0, e1, e2, h, h']
    exact ⟨Keep.app _ _, lv, v, rfl, hl' _, hnx' _, (hs.keep (.app _ _)).ro⟩
  · have hroom : roomN c w' ls.length = ls.length := by unfold roomN; rw [if_neg (by omega)]; split <;> omega
    rw [hroom, if_neg (by omega)]
    simp (disch := first | assumption | omega | (simp only [zl] <;> omega) | (simp only [zn])) only [ref09_StepLay, ↓zd, zk, Nat.reduceSub, Nat.reduceAdd, Nat.reduceMul, Nat.reduceLeDiff, Nat.reduceEqDiff, reduceIte, Int.reduceEq, Int.reduceBEq, Int.reduceLE, Int.reduceLT, Int.reduceNeg, Int.reduceAdd, Int.reduceSub, Int.reduceMul, List.map, AV.cells, List.all, AV.one, eqV, eqAll, splice, fillA, List.replicate, resAll, resA, zm, zg, rlC, cfC, memC, hone, hone2, ev_len, hlen, hlz, a172, hrw, a64, hrl, a173, hz, e0, e1, e2, h, h']
    exact ⟨Keep.app _ _, lv, v, rfl, hl' _, hnx' _, (hs.keep (.app _ _)).ro⟩
set_option maxHeartbeats 16000000 in
theorem rlstep2 {m : MM} {wr : Bool} {c : Cf} {p o : Int} {s : LS} {xs : List Int} {v lv : AV} (hs : SU m wr xs v) (hl : SI m false s.ls lv) (hnx : 0 < s.ls.length → Nx m lv) (hok : LOk c p s) (hx : OkL c xs) (ha : s.a = 2) (h0 : 0 < s.ls.length) :
    Fn Grl2 ref09_StepLay [.agg (rlC c p s lv), .agg (memC v o)] m (RyP m c p (stepL c p xs s) (IntKind.u64.wrap (o + 1))) := by
  have a171 : assoc Grl2 171 = some F10.c_ref09_Tail := rfl
  have a174 : assoc Grl2 174 = some F10.c_ref09_Slot := rfl
  have a65 : assoc Grl2 65 = some F06.c_ref06_Store := rfl
  generalize Grl2 = G at a171 a174 a65 ⊢
  have hone := slOne hs
  have hone2 := slOne hl
  simp only [AV.one] at hone hone2
  obtain ⟨a, w, k, n, ls⟩ := s
  simp only at ha hl hnx h0
  subst ha
  have hpl : thereP c p ∧ 0 ≤ k ∧ k < n ∧ n ≤ ls.length := hok.a.elim (fun h => by simp at h) (fun h => ⟨h.1, by have := h.2; simp only at this; omega⟩)
  obtain ⟨hp, hk0, hkn, hnl⟩ := hpl
  have hw := hok.w
  have hll := hok.l
  simp only at hw hll
  have hb := there_bounds hp
  have hcn := cellsN_le c
  have hxl := hx.1
  have hlen := hl.len
  have htb := tl_b w
  have htl := fun m : MM => rtail_eq m hw
  have hlz : ¬ ((ls.length : Int) = 0) := by omega
  obtain ⟨kN, rfl⟩ : ∃ kN : Nat, k = kN := ⟨k.toNat, by omega⟩
  obtain ⟨x, hxk⟩ : ∃ x, ls[kN]? = some x := ⟨_, List.getElem?_eq_getElem (by omega)⟩
  have e1 : IntKind.u32.wrap (tl w + IntKind.u32.wrap (kN : Int)) = (tl w + kN) % 4294967296 := by rw [wrap32, wrap32]; omega
  have hsl := fun m : MM => rslot_eq m hp (i := (tl w + kN) % 4294967296) (by omega) (by omega)
  have hps : slotA c p ((tl w + (kN : Int)) % 4294967296) = pslA c p w kN := rfl
  rw [hps] at hsl
  have hsb := psl_b (c := c) (p := p) (w := w) (i := kN) hp
  have hthr : thr xs (pslA c p w kN) := ⟨by omega, by omega⟩
  have hs1 : stepL c p xs ⟨2, w, kN, n, ls⟩ = (⟨if (kN : Int) + 1 = n then 3 else 2, w, kN + 1, n, ls⟩, xs.set (pslA c p w kN).toNat (IntKind.u64.wrap x)) := by
    have : ls.getD kN 0 = x := by rw [List.getD_eq_getElem?_getD, hxk]; rfl
    simp only [stepL, if_neg (show ¬ ((2 : Int) = 0) by decide), if_neg (show ¬ ((2 : Int) = 1) by decide), if_neg (show ¬ (ls.length = 0) by omega), if_true, Int.toNat_natCast, this]
  rw [hs1]
  simp only [cfC] at hsl
  obtain ⟨q, oo, cap, ro, L, rfl, b2, b3, b4, b5⟩ := hl.val h0
  have b6 := b5 kN x hxk
  have b2' := fun K : MM => (Keep.app m K).get b2
  have e3 : IntKind.i64.wrap ((kN : Int) + 1) = kN + 1 := wrapI (by omega) (by omega)
  refine Fn_of rfl ?_
  simp (disch := first | assumption | omega | (simp only [zl] <;> omega) | (simp only [zn])) only [ref09_StepLay, ↓zd, zk, Nat.reduceSub, Nat.reduceAdd, Nat.reduceMul, Nat.reduceLeDiff, Nat.reduceEqDiff, reduceIte, Int.reduceEq, Int.reduceBEq, Int.reduceLE, Int.reduceLT, Int.reduceNeg, Int.reduceAdd, Int.reduceSub, Int.reduceMul, List.map, AV.cells, List.all, AV.one, eqV, eqAll, splice, fillA, List.replicate, resAll, resA, zm, zg, rlC, cfC, memC, hone, ev_len, hlen, hlz, a171, htl, e1, a174, hsl, b2, b2', b6, a65, F06.c_ref06_Store]
  have hst := fun K : MM => refstore_run (hs.keep (Keep.app m K)) (by omega) o (pslA c p w kN) (IntKind.u64.wrap x)
  simp only [memC] at hst
  refine OKT_fn (hst _) ?_
  rintro _ m1 ⟨k1, v', rfl, s1⟩
  rw [if_pos hthr] at s1
  simp only [if_pos hthr]
  have km : Keep m m1 := (Keep.app m _).trans k1
  have g0 := k1.get (i := m.length) (by rw [get_mid0]; rfl)
  have g1 := k1.get (i := m.length + 1) (by rw [get_mid]; rfl)
  have g2 := k1.get (i := m.length + 2) (by rw [get_mid]; rfl)
  have g3 := k1.get (i := m.length + 3) (by rw [get_mid]; rfl)
  have hl1 : m.length + 3 < m1.length := (List.getElem?_eq_some_iff.1 g3).1
  have hone' := slOne s1
  simp only [AV.one] at hone'
  have hno : ∀ b, m.length ≤ b → b < m.length + 4 → ∀ ro L, m1[b]? ≠ some (.cells 1 ro L) := by
    intro b b1 b2 ro L hb
    rcases (show b = m.length ∨ b = m.length + 1 ∨ b = m.length + 2 ∨ b = m.length + 3 by omega) with rfl | rfl | rfl | rfl
    · rw [g0] at hb; cases hb
    · rw [g1] at hb; cases hb
    · rw [g2] at hb; cases hb
    · rw [g3] at hb; cases hb
  have hb0 : LNx m.length (m.length + 4) m1 ls (.sl q oo ls.length cap) := ⟨hl.keep km, fun h => (hnx h).keep km, hno⟩
  by_cases hq : (kN : Int) + 1 = n
  · rw [if_pos hq]
    have hkn' : decide ((kN : Int) + 1 = n) = true := decide_eq_true hq
    simp (disch := first | assumption | omega | (simp only [zl] <;> omega) | (simp only [zn])) only [↓zd, zk, Nat.reduceSub, Nat.reduceAdd, Nat.reduceMul, Nat.reduceLeDiff, Nat.reduceEqDiff, reduceIte, Int.reduceEq, Int.reduceBEq, Int.reduceLE, Int.reduceLT, Int.reduceNeg, Int.reduceAdd, Int.reduceSub, Int.reduceMul, List.map, AV.cells, List.all, AV.one, eqV, eqAll, splice, fillA, List.replicate, resAll, resA, zm, zg, memC, g0, g1, g2, g3, hone', e3, hkn', b2', b6]
    refine ⟨?_, .sl q oo ls.length cap, v', rfl, LNx.sl (lo := m.length) (hi := m.length + 4) ?_, LNx.nx (lo := m.length) (hi := m.length + 4) ?_, SLN.sl (lo := m.length) (hi := m.length + 4) ?_⟩
    · repeat' first | exact km | refine Keep.set ?_ (by omega) _
    · repeat' first | exact hb0 | refine LNx.set ?_ (by omega) (by omega) (by intro _ _ h; cases h)
    · repeat' first | exact hb0 | refine LNx.set ?_ (by omega) (by omega) (by intro _ _ h; cases h)
    · repeat' first | exact ⟨s1, hno⟩ | refine SLN.set ?_ (by omega) (by omega) (by intro _ _ h; cases h)
  · rw [if_neg hq]
    have hkn' : decide ((kN : Int) + 1 = n) = false := decide_eq_false hq
    simp (disch := first | assumption | omega | (simp only [zl] <;> omega) | (simp only [zn])) only [↓zd, zk, Nat.reduceSub, Nat.reduceAdd, Nat.reduceMul, Nat.reduceLeDiff, Nat.reduceEqDiff, reduceIte, Int.reduceEq, Int.reduceBEq, Int.reduceLE, Int.reduceLT, Int.reduceNeg, Int.reduceAdd, Int.reduceSub, Int.reduceMul, List.map, AV.cells, List.all, AV.one, eqV, eqAll, splice, fillA, List.replicate, resAll, resA, zm, zg, memC, g0, g1, g2, g3, hone', e3, hkn', b2', b6]
    refine ⟨?_, .sl q oo ls.length cap, v', rfl, LNx.sl (lo := m.length) (hi := m.length + 4) ?_, LNx.nx (lo := m.length) (hi := m.length + 4) ?_, SLN.sl (lo := m.length) (hi := m.length + 4) ?_⟩
    · repeat' first | exact km | refine Keep.set ?_ (by omega) _
    · repeat' first | exact hb0 | refine LNx.set ?_ (by omega) (by omega) (by intro _ _ h; cases h)
    · repeat' first | exact hb0 | refine LNx.set ?_ (by omega) (by omega) (by intro _ _ h; cases h)
    · repeat' first | exact ⟨s1, hno⟩ | refine SLN.set ?_ (by omega) (by omega) (by intro _ _ h; cases h)
set_option maxHeartbeats 16000000 in
theorem rlstep3 {m : MM} {wr : Bool} {c : Cf} {p o : Int} {s : LS} {xs : List Int} {v lv : AV} (hs : SU m wr xs v) (hl : SI m false s.ls lv) (hnx : 0 < s.ls.length → Nx m lv) (hok : LOk c p s) (hx : OkL c xs) (ha : s.a = 3) (h0 : 0 < s.ls.length) :
    Fn Grl2 ref09_StepLay [.agg (rlC c p s lv), .agg (memC v o)] m (RyP m c p (stepL c p xs s) (IntKind.u64.wrap (o + 1))) := by
  have a170 : assoc Grl2 170 = some F10.c_ref09_Head := rfl
  have a171 : assoc Grl2 171 = some F10.c_ref09_Tail := rfl
  have a172 : assoc Grl2 172 = some F10.c_ref09_Word := rfl
  have a175 : assoc Grl2 175 = some F10.c_ref09_Pack := rfl
  have a66 : assoc Grl2 66 = some F06.c_ref06_CAS := rfl
  generalize Grl2 = G at a170 a171 a172 a175 a66 ⊢
  have hone := slOne hs
  have hone2 := slOne hl
  simp only [AV.one] at hone hone2
  obtain ⟨a, w, k, n, ls⟩ := s
  simp only at ha hl hnx h0
  subst ha
  have hpl : thereP c p ∧ 0 ≤ n ∧ n ≤ ls.length := hok.a.elim (fun h => by simp at h) (fun h => ⟨h.1, by have := h.2; simp only at this; omega⟩)
  obtain ⟨hp, hn0, hnl⟩ := hpl
  have hw := hok.w
  have hll := hok.l
  simp only at hw hll
  have hb := there_bounds hp
  have hcn := cellsN_le c
  have hxl := hx.1
  have hlen := hl.len
  have htb := tl_b w
  have hhb := hd_b hw
  have ha0 := addr_b hp (i := 0) (by omega) (by omega)
  have htl := fun m : MM => rtail_eq m hw
  have hhd := fun m : MM => rhead_eq m hw
  have hrw := fun m : MM => rword_eq m hp
  simp only [word_at hp, cfC] at hrw
  have hwt : (addrA c p 0).toNat = wrdN c p := rfl
  have hthr : thr xs (addrA c p 0) := ⟨by omega, by omega⟩
  have hlz : ¬ ((ls.length : Int) = 0) := by omega
  have e1 : IntKind.u32.wrap (tl w + IntKind.u32.wrap n) = (tl w + n) % 4294967296 := by rw [wrap32, wrap32]; omega
  have hpk := fun m : MM => rpack_eq m (h := hd w) (t := (tl w + n) % 4294967296) hhb.1 hhb.2 (by omega) (by omega)
  have hgw : pk (hd w) ((tl w + n) % 4294967296) = growW w n := rfl
  have hs1 : stepL c p xs ⟨3, w, k, n, ls⟩ = (if xs.getD (wrdN c p) 0 = w then (⟨0, w, k, n, ls.drop n.toNat⟩, xs.set (wrdN c p) (growW w n)) else (⟨1, w, k, n, ls⟩, xs)) := by
    simp only [stepL, if_neg (show ¬ ((3 : Int) = 0) by decide), if_neg (show ¬ ((3 : Int) = 1) by decide), if_neg (show ¬ ((3 : Int) = 2) by decide), if_neg (show ¬ (ls.length = 0) by omega)]
  rw [hs1]
  obtain ⟨q, oo, nn, L, rfl, hq1⟩ : ∃ q oo nn L, lv = .sl q oo nn none ∧ m[q]? = some (.cells 1 false L) := by
    rcases hnx h0 with h | ⟨q, oo, nn, L, h1, h2⟩
    · rw [h] at hlen; simp only [lenA, Option.some.injEq] at hlen; omega
    · exact ⟨q, oo, nn, L, h1, h2⟩
  refine Fn_of rfl ?_
  simp (disch := first | assumption | omega | (simp only [zl] <;> omega) | (simp only [zn])) only [ref09_StepLay, ↓zd, zk, Nat.reduceSub, Nat.reduceAdd, Nat.reduceMul, Nat.reduceLeDiff, Nat.reduceEqDiff, reduceIte, Int.reduceEq, Int.reduceBEq, Int.reduceLE, Int.reduceLT, Int.reduceNeg, Int.reduceAdd, Int.reduceSub, Int.reduceMul, List.map, AV.cells, List.all, AV.one, eqV, eqAll, splice, fillA, List.replicate, resAll, resA, zm, zg, rlC, cfC, memC, hone, ev_len, hlen, hlz, a170, hhd, a171, htl, a172, hrw, e1, a175, hpk, hgw, a66, F06.c_ref06_CAS]
  have hcas := fun K : MM => rcas_run (hs.keep (Keep.app m K)) (by omega) o hthr w (growW w n)
  simp only [memC] at hcas
  refine OKT_fn (hcas _) ?_
  rintro _ m1 ⟨k1, v', rfl, s1⟩
  rw [hwt] at s1
  have km : Keep m m1 := (Keep.app m _).trans k1
  have g0 := k1.get (i := m.length) (by rw [get_mid0]; rfl)
  have g1 := k1.get (i := m.length + 1) (by rw [get_mid]; rfl)
  have g2 := k1.get (i := m.length + 2) (by rw [get_mid]; rfl)
  have g3 := k1.get (i := m.length + 3) (by rw [get_mid]; rfl)
  have hl1 : m.length + 3 < m1.length := (List.getElem?_eq_some_iff.1 g3).1
  have hone' := slOne s1
  simp only [AV.one] at hone'
  have hno : ∀ b, m.length ≤ b → b < m.length + 4 → ∀ ro L, m1[b]? ≠ some (.cells 1 ro L) := by
    intro b b1 b2 ro L hb
    rcases (show b = m.length ∨ b = m.length + 1 ∨ b = m.length + 2 ∨ b = m.length + 3 by omega) with rfl | rfl | rfl | rfl
    · rw [g0] at hb; cases hb
    · rw [g1] at hb; cases hb
    · rw [g2] at hb; cases hb
    · rw [g3] at hb; cases hb
  have hb0 : LNx m.length (m.length + 4) m1 ls (.sl q oo nn none) := ⟨hl.keep km, fun h => (hnx h).keep km, hno⟩
  by_cases heq : xs.getD (wrdN c p) 0 = w
  · have hd : decide (xs.getD (addrA c p 0).toNat 0 = w) = true := by rw [hwt]; exact decide_eq_true heq
    rw [if_pos heq] at s1 ⊢
    obtain ⟨nN, rfl⟩ : ∃ nN : Nat, n = nN := ⟨n.toNat, by omega⟩
    have hnn : nn = ls.length := by simpa only [lenA, Option.some.injEq] using hlen
    subst hnn
    have hq2 := km.get hq1
    have hql := (List.getElem?_eq_some_iff.1 hq1).1
    simp (disch := first | assumption | omega | (simp only [zl] <;> omega) | (simp only [zn])) only [↓zd, zk, Nat.reduceSub, Nat.reduceAdd, Nat.reduceMul, Nat.reduceLeDiff, Nat.reduceEqDiff, reduceIte, Int.reduceEq, Int.reduceBEq, Int.reduceLE, Int.reduceLT, Int.reduceNeg, Int.reduceAdd, Int.reduceSub, Int.reduceMul, List.map, AV.cells, List.all, AV.one, eqV, eqAll, splice, fillA, List.replicate, resAll, resA, zm, zg, memC, hd, g0, g1, g2, g3, hone', evA, sliceA, getC_gcO, Option.getD_none, Option.getD_some, hq2, Int.toNat_natCast, Nat.mul_one]
    have hfin := fun (M : MM) (h : LNx m.length (m.length + 4) M ls (.sl q oo ls.length none)) => (si_drop (k := nN) h.sl (h.nx h0) (by omega)).2
    refine ⟨?_, .sl q (oo + nN) (ls.length - nN) none, v', rfl, hfin _ ?_, fun _ => .inr ⟨q, _, _, L, rfl, ?_⟩, SLN.sl (lo := m.length) (hi := m.length + 4) ?_⟩
    · repeat' first | exact km | refine Keep.set ?_ (by omega) _
    · repeat' first | exact hb0 | refine LNx.set ?_ (by omega) (by omega) (by intro _ _ h; cases h)
    · repeat' first | exact hq2 | rw [List.getElem?_set_ne (by omega)]
    · repeat' first | exact ⟨s1, hno⟩ | refine SLN.set ?_ (by omega) (by omega) (by intro _ _ h; cases h)
  · have hd : decide (xs.getD (addrA c p 0).toNat 0 = w) = false := by rw [hwt]; exact decide_eq_false heq
    rw [if_neg heq] at s1 ⊢
    simp (disch := first | assumption | omega | (simp only [zl] <;> omega) | (simp only [zn])) only [↓zd, zk, Nat.reduceSub, Nat.reduceAdd, Nat.reduceMul, Nat.reduceLeDiff, Nat.reduceEqDiff, reduceIte, Int.reduceEq, Int.reduceBEq, Int.reduceLE, Int.reduceLT, Int.reduceNeg, Int.reduceAdd, Int.reduceSub, Int.reduceMul, List.map, AV.cells, List.all, AV.one, eqV, eqAll, splice, fillA, List.replicate, resAll, resA, zm, zg, memC, hd, g0, g1, g2, g3, hone']
    refine ⟨?_, .sl q oo nn none, v', rfl, LNx.sl (lo := m.length) (hi := m.length + 4) ?_, LNx.nx (lo := m.length) (hi := m.length + 4) ?_, SLN.sl (lo := m.length) (hi := m.length + 4) ?_⟩
    · repeat' first | exact km | refine Keep.set ?_ (by omega) _
    · repeat' first | exact hb0 | refine LNx.set ?_ (by omega) (by omega) (by intro _ _ h; cases h)
    · repeat' first | exact hb0 | refine LNx.set ?_ (by omega) (by omega) (by intro _ _ h; cases h)
    · repeat' first | exact ⟨s1, hno⟩ | refine SLN.set ?_ (by omega) (by omega) (by intro _ _ h; cases h)
end Go.Am.F09
end
