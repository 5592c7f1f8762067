import Derived.Test.YtgfddegdjdeeoaaXG19
set_option linter.unusedSimpArgs false
set_option linter.unusedVariables false
section
namespace Go.Am.F09
open Go.Am.F06 Go.Am.F10
theorem LOk.step {c : Cf} {p : Int} {s : LS} {xs : List Int} (h : LOk c p s) (hx : s.a = 0 ∨ OkL c xs) : LOk c p (stepL c p xs s).1 := by
  obtain ⟨h1, h2, h3⟩ := h
  rcases hx with h0 | hx
  · have : stepL c p xs s = (s, xs) := if_pos h0
    rw [this]; exact ⟨h1, h2, h3⟩
  have hg := getD_64 hx.2 (wrdN c p)
  obtain ⟨a, w, k, n, ls⟩ := s
  simp only at h1 h2 h3
  by_cases h0 : a = 0
  · have : stepL c p xs ⟨a, w, k, n, ls⟩ = (⟨a, w, k, n, ls⟩, xs) := if_pos h0
    rw [this]; exact ⟨h1, h2, h3⟩
  by_cases hz : ls.length = 0
  · have : stepL c p xs ⟨a, w, k, n, ls⟩ = (⟨0, w, k, n, ls⟩, xs) := by simp only [stepL, if_neg h0, if_pos hz]
    rw [this]; exact ⟨h1, .inl rfl, h3⟩
  rcases h2 with h2 | ⟨hp, h2⟩
  · exact absurd h2 h0
  have hrb := room_b (c := c) (w := xs.getD (wrdN c p) 0) (len := ls.length)
  rcases h2 with rfl | ⟨rfl, k0, k1, k2⟩ | ⟨rfl, n0, n1⟩
  · have : stepL c p xs ⟨1, w, k, n, ls⟩ = (⟨if roomN c (xs.getD (wrdN c p) 0) ls.length = 0 then 0 else 2, xs.getD (wrdN c p) 0, 0, roomN c (xs.getD (wrdN c p) 0) ls.length, ls⟩, xs) := by simp only [stepL, if_neg h0, if_neg hz, if_true]
    rw [this]
    by_cases hr : roomN c (xs.getD (wrdN c p) 0) ls.length = 0
    · rw [if_pos hr]; exact ⟨hg, .inl rfl, h3⟩
    · rw [if_neg hr]; exact ⟨hg, .inr ⟨hp, .inr (.inl ⟨rfl, by simp, by simp only; omega, hrb.2⟩)⟩, h3⟩
  · have : stepL c p xs ⟨2, w, k, n, ls⟩ = (⟨if k + 1 = n then 3 else 2, w, k + 1, n, ls⟩, xs.set (pslA c p w k).toNat (IntKind.u64.wrap (ls.getD k.toNat 0))) := by simp only [stepL, if_neg h0, if_neg hz, if_neg (show ¬ ((2 : Int) = 1) by decide), if_true]
    rw [this]
    by_cases hr : k + 1 = n
    · rw [if_pos hr]; exact ⟨h1, .inr ⟨hp, .inr (.inr ⟨rfl, by simp only; omega, k2⟩)⟩, h3⟩
    · rw [if_neg hr]; exact ⟨h1, .inr ⟨hp, .inr (.inl ⟨rfl, by simp only; omega, by simp only; omega, k2⟩)⟩, h3⟩
  · by_cases heq : xs.getD (wrdN c p) 0 = w
    · have : stepL c p xs ⟨3, w, k, n, ls⟩ = (⟨0, w, k, n, ls.drop n.toNat⟩, xs.set (wrdN c p) (growW w n)) := by simp only [stepL, if_neg h0, if_neg hz, if_neg (show ¬ ((3 : Int) = 1) by decide), if_neg (show ¬ ((3 : Int) = 2) by decide), if_pos heq]
      rw [this]; exact ⟨h1, .inl rfl, by simp only [List.length_drop]; omega⟩
    · have : stepL c p xs ⟨3, w, k, n, ls⟩ = (⟨1, w, k, n, ls⟩, xs) := by simp only [stepL, if_neg h0, if_neg hz, if_neg (show ¬ ((3 : Int) = 1) by decide), if_neg (show ¬ ((3 : Int) = 2) by decide), if_neg heq]
      rw [this]; exact ⟨h1, .inr ⟨hp, .inl rfl⟩, h3⟩
structure LI (c : Cf) (p w0 : Int) (own : List Int) (t : Nat) (s : LS) (xs : List Int) : Prop where
  ok : OkL c xs
  w : xs.getD (wrdN c p) 0 = w0
  ls : s.ls = own
  st : (t = 0 ∧ s.a = 1) ∨ (∃ i : Nat, t = i + 1 ∧ s.w = w0 ∧ s.n = own.length ∧ s.k = i ∧ (∀ k, k < i → slV c p w0 xs k = own.getD k 0) ∧ ((s.a = 2 ∧ i < own.length) ∨ (s.a = 3 ∧ i = own.length)))
theorem LI.ne {c : Cf} {p w0 : Int} {own : List Int} {t : Nat} {s : LS} {xs : List Int} (h : LI c p w0 own t s xs) : s.a ≠ 0 ∧ t ≤ own.length + 1 := by
  rcases h.st with ⟨h1, h2⟩ | ⟨i, h1, _, _, _, _, h2 | h2⟩ <;> omega
theorem wrap_id {x : Int} (h0 : 0 ≤ x) (h1 : x < 9223372036854775808) : IntKind.i64.wrap (IntKind.u64.wrap x) = x := by
  rw [wrapU h0 (by omega)]; exact wrapI (by omega) (by omega)
theorem LI.step {c : Cf} {p h : Int} {own : List Int} {t : Nat} {s : LS} {xs : List Int} (hI : LI c p (pk h h) own t s xs) (hp : thereP c p) (h0 : 0 ≤ h) (h1 : h < 4294967296) (hpos : 0 < own.length) (hq : (own.length : Int) ≤ c.q) (hown : ∀ x, x ∈ own → 0 ≤ x ∧ x < 9223372036854775808) :
    ((stepL c p xs s).1.a ≠ 0 ∧ LI c p (pk h h) own (t + 1) (stepL c p xs s).1 (stepL c p xs s).2) ∨
    ((stepL c p xs s).1.a = 0 ∧ t = own.length + 1 ∧ (stepL c p xs s).1.ls = [] ∧ OkL c (stepL c p xs s).2 ∧ ringL c p (stepL c p xs s).2 = own) := by
  have hb := there_bounds hp
  have hroom : roomP c.q := hp.1.2.1
  have hsz : sz (pk h h) = 0 := by unfold sz; rw [hd_pk h0 h1, tl_pk h0 h1]; omega
  have hw64 : W64 (pk h h) := by unfold W64 pk; omega
  obtain ⟨ok, hw, hls, hst⟩ := hI
  have hxl := ok.1
  have hwb := addr_b hp (i := 0) (by omega) (by omega)
  have hwl : wrdN c p < xs.length := by unfold wrdN; omega
  obtain ⟨a, w, k, n, ls⟩ := s
  simp only at hls
  subst hls
  have hz : ¬ (ls.length = 0) := by omega
  rcases hst with ⟨rfl, ha⟩ | ⟨i, rfl, e1, e2, e3, e4, e5⟩
  · simp only at ha
    subst ha
    have hrm : roomN c (pk h h) ls.length = ls.length := by unfold roomN; rw [hsz, if_neg (by omega)]; split <;> omega
    have : stepL c p xs ⟨1, w, k, n, ls⟩ = (⟨2, pk h h, 0, ls.length, ls⟩, xs) := by simp only [stepL, if_neg (show ¬ ((1 : Int) = 0) by decide), if_neg hz, if_true, hw, hrm, if_neg (show ¬ ((ls.length : Int) = 0) by omega)]
    rw [this]
    exact .inl ⟨by simp, ok, hw, rfl, .inr ⟨0, rfl, rfl, rfl, rfl, fun k hk => by omega, .inl ⟨rfl, hpos⟩⟩⟩
  · simp only at e1 e2 e3 e5
    subst e1; subst e2; subst e3
    rcases e5 with ⟨rfl, hi⟩ | ⟨rfl, hi⟩
    · obtain ⟨x, hx⟩ : ∃ x, ls[i]? = some x := ⟨_, List.getElem?_eq_getElem hi⟩
      have hxb := hown x (List.mem_of_getElem? hx)
      have hgd : ls.getD i 0 = x := by rw [List.getD_eq_getElem?_getD, hx]; rfl
      have hps : pslA c p (pk h h) i = slotA c p ((hd (pk h h) + (i : Int)) % 4294967296) := by unfold pslA; rw [tl_pk h0 h1, hd_pk h0 h1]
      have hsb := slot_b (i := (hd (pk h h) + (i : Int)) % 4294967296) hp (by omega)
      have : stepL c p xs ⟨2, pk h h, i, ls.length, ls⟩ = (⟨if (i : Int) + 1 = ls.length then 3 else 2, pk h h, i + 1, ls.length, ls⟩, xs.set (slotA c p ((hd (pk h h) + (i : Int)) % 4294967296)).toNat (IntKind.u64.wrap x)) := by
        simp only [stepL, if_neg (show ¬ ((2 : Int) = 0) by decide), if_neg hz, if_neg (show ¬ ((2 : Int) = 1) by decide), if_true, hps, Int.toNat_natCast, hgd]
      rw [this]
      refine .inl ⟨by simp only; split <;> omega, ok.set _ (wrap64_b _), by rw [getD_set_ne (slot_word hp)]; exact hw, rfl, .inr ⟨i + 1, rfl, rfl, rfl, by simp, fun k hk => ?_, ?_⟩⟩
      · unfold slV
        by_cases hki : k = i
        · subst hki
          rw [getD_set_self (by omega), wrap_id hxb.1 hxb.2, hgd]
        · rw [getD_set_ne (slot_ne hp (by omega) (by omega) (fun hh => room_mod (a := hd (pk h h)) (k := k) (n := i) hroom (by omega) (by omega) hh.symm))]
          exact e4 k (by omega)
      · by_cases hq2 : (i : Int) + 1 = ls.length
        · simp only [if_pos hq2]; exact .inr ⟨trivial, by omega⟩
        · simp only [if_neg hq2]; exact .inl ⟨trivial, by omega⟩
    · have : stepL c p xs ⟨3, pk h h, i, ls.length, ls⟩ = (⟨0, pk h h, i, ls.length, ls.drop ls.length⟩, xs.set (wrdN c p) (growW (pk h h) ls.length)) := by
        simp only [stepL, if_neg (show ¬ ((3 : Int) = 0) by decide), if_neg hz, if_neg (show ¬ ((3 : Int) = 1) by decide), if_neg (show ¬ ((3 : Int) = 2) by decide), if_pos hw, Int.toNat_natCast]
      rw [this]
      have hg : growW (pk h h) ls.length = pk h ((h + ls.length) % 4294967296) := by unfold growW; rw [hd_pk h0 h1, tl_pk h0 h1]
      have hgs : sz (growW (pk h h) ls.length) = ls.length := by
        rw [hg]; unfold sz; rw [hd_pk (by omega) (by omega), tl_pk (by omega) (by omega)]; omega
      refine .inr ⟨rfl, by omega, by simp, ok.set _ (grow_64 hw64 _), ?_⟩
      refine ringL_eq hp (getD_set_self hwl) (by rw [hgs]; omega) (by rw [hgs]) fun k hk => ?_
      have := e4 k (by omega)
      unfold slV at this
      rw [hd_pk h0 h1] at this
      rw [ringAt, hg, hd_pk (by omega) (by omega), getD_set_ne (slot_word hp).symm, this]
end Go.Am.F09
end
section
namespace Go.Am.F09
open Go.Am.F06 Go.Am.F10
def Gla : List (Nat × AFun Ob) := [(184, pureF worksG), (133, F10.c_docs_Made), (87, F10.c_kit_Pick), (156, F10.c_conf_Config_Cells), (21, newF), (159, F10.c_conf_Config_Word), (22, memF storeS), (199, amFunc Gnl put_NewLay), (195, amFunc Glst put_Lay_Step), (46, memF fun s rest => (opsAsk s rest).map fun v => (v, s)), (197, amFunc Gpo put_Lay_Hands), (136, amFunc F10.Gring F10.docs_Ring), (84, F10.c_kit_SameInts)]
def OwI (M : MM) (c0 c : Cf) (p h : Int) (lv : AV) (cb : Nat) (ls : List Int) (k : Nat) (e : List AV) (m : MM) : Prop := ∃ (i : Nat) (ow z8 z9 z10 z11 z12 z13 z14 z15 : AV),
  e = [.agg (cfC c0), .int .i64 p, .int .u32 h, lv, .ptr cb 0, .bool false, ow, .int .i64 i, z8, z9, z10, z11, z12, z13, z14, z15] ∧ k = ls.length - i ∧ i ≤ ls.length ∧ ((posL (ls.take i)).length : Int) ≤ c.q ∧ Keep M m ∧ Own M m 1 (posL (ls.take i)).length (iC (posL (ls.take i))) ow
def laT : AC := sqT 6 law09_PutLayAll.body
theorem layall_body : law09_PutLayAll = { nloc := 16, npar := 4, res := [.loc 5], body := .seq (sqN 0 law09_PutLayAll.body) (.seq (sqN 1 law09_PutLayAll.body) (.seq (sqN 2 law09_PutLayAll.body) (.seq (sqN 3 law09_PutLayAll.body) (.seq (sqN 4 law09_PutLayAll.body) (.seq (sqN 5 law09_PutLayAll.body) laT))))) } := rfl
def LaI (M : MM) (c0 c : Cf) (p h : Int) (lv : AV) (cb j xj : Nat) (ow : AV) (own : List Int) (o0 : Int) (k : Nat) (e : List AV) (m : MM) : Prop := ∃ (t : Nat) (s : LS) (xs : List Int) (o : Int) (lw z7 z11 z12 z13 z14 z15 : AV),
  e = [.agg (cfC c0), .int .i64 p, .int .u32 h, lv, .ptr cb 0, .bool false, ow, z7, .ptr j 0, .ptr xj 0, .int .i64 (1 + t), z11, z12, z13, z14, z15] ∧ k = own.length + 1 - t ∧ KeepX xj j M m ∧ LM m xj c p s lw ∧ LOk c p s ∧ (∃ st, m[j]? = some (.abs (.mem st)) ∧ RelM xs o st) ∧
  ((own.length = 0 ∧ t = 0 ∧ s.ls = [] ∧ s.a ≠ 0 ∧ OkL c xs ∧ o = o0) ∨ (0 < own.length ∧ LI c p (pk h h) own t s xs))
set_option maxHeartbeats 16000000 in
theorem laT_run {m0 m : MM} {c0 c : Cf} {p h : Int} {own : List Int} {lv ow z7 z8 z9 z10 z11 z12 z13 z14 z15 : AV} {cb : Nat} (hp : thereP c p) (h0 : 0 ≤ h) (h1 : h < 4294967296) (hk0 : Keep m0 m) (gb : m[cb]? = some (.cells 6 false (cfC c))) (hown : SI m true own ow) (hq : (own.length : Int) ≤ c.q) (hpos : ∀ x, x ∈ own → 0 ≤ x ∧ x < 9223372036854775808) :
    W Gla laT (resQ [.loc 5] fun r m' => r = .bool true ∧ Keep m0 m') [.agg (cfC c0), .int .i64 p, .int .u32 h, lv, .ptr cb 0, .bool false, ow, z7, z8, z9, z10, z11, z12, z13, z14, z15] m := by
  have a184 : assoc Gla 184 = some (pureF worksG) := rfl
  have a156 : assoc Gla 156 = some F10.c_conf_Config_Cells := rfl
  have a21 : assoc Gla 21 = some newF := rfl
  have a159 : assoc Gla 159 = some F10.c_conf_Config_Word := rfl
  have a22 : assoc Gla 22 = some (memF storeS) := rfl
  have a199 : assoc Gla 199 = some (amFunc Gnl put_NewLay) := rfl
  have a195 : assoc Gla 195 = some (amFunc Glst put_Lay_Step) := rfl
  have a46 : assoc Gla 46 = some (memF fun s rest => (opsAsk s rest).map fun v => (v, s)) := rfl
  have a197 : assoc Gla 197 = some (amFunc Gpo put_Lay_Hands) := rfl
  have a136 : assoc Gla 136 = some (amFunc F10.Gring F10.docs_Ring) := rfl
  have a84 : assoc Gla 84 = some F10.c_kit_SameInts := rfl
  have hse : F10.c_kit_SameInts (X := Ob) = amFunc [] F10.kit_SameInts := rfl
  generalize Gla = G at a184 a156 a21 a159 a22 a199 a195 a46 a197 a136 a84 ⊢
  have hb := there_bounds hp
  have hcn := cellsN_le c
  obtain ⟨J, hcells⟩ := cells_eq m c
  have hnew : ∀ M : MM, newF [.int .i64 (cellsN c)] M = some (.ptr M.length 0, M ++ [.abs (.mem (newSt (cellsN c)))]) := fun M => rfl
  have hbN : bN (cellsN c : Int) = cellsN c := by unfold bN; omega
  have hr0 := RelM.new (cellsN c : Int)
  rw [hbN] at hr0
  have hwr := fun m : MM => word_run (m := m) c p
  have ha0 := addr_b hp (i := 0) (by omega) (by omega)
  have hwt : (addrA c p 0).toNat = wrdN c p := rfl
  have hthr : thr (List.replicate (cellsN c) (0 : Int)) (addrA c p 0) := ⟨by omega, by rw [List.length_replicate]; omega⟩
  obtain ⟨st1, r1, _, f22, _⟩ := hr0.storeE hthr (pk h h)
  rw [hwt] at r1
  have ho1 : IntKind.u64.wrap (0 + 1) = 1 := by decide
  rw [ho1] at r1
  have hor := or_eq h0 h1 h0 h1
  have e1 : IntKind.u64.wrap h = h := wrapU h0 (by omega)
  have e2 : IntKind.u64.wrap (h * 4294967296) = h * 4294967296 := wrapU (by omega) (by omega)
  have hwo := hown.len
  have hoone := slOne hown
  simp only [AV.one] at hoone
  -- the memory behind New
  obtain ⟨M1, hM1⟩ : ∃ M1 : MM, M1 = m ++ J := ⟨_, rfl⟩
  have kM1 : Keep m M1 := by rw [hM1]; exact .app _ _
  rw [← hM1] at hcells
  have gj : (M1 ++ [Chunk.abs (Ob.mem (newSt (cellsN c)))])[M1.length]? = some (.abs (.mem (newSt (cellsN c)))) := get_concat
  have f22' := fun K => f22 (M1 ++ [Chunk.abs (Ob.mem (newSt (cellsN c)))]) K M1.length gj
  have gb1 := kM1.get gb
  have gb2 : (M1 ++ [Chunk.abs (Ob.mem (newSt (cellsN c)))])[cb]? = some (.cells 6 false (cfC c)) := (Keep.app M1 _).get gb1
  have gb3 := fun K : MM => (Keep.app M1 K).get gb1
  clear hM1
  simp only [cfC, List.cons_append, List.nil_append] at gb hcells hwr gb1 gb2 gb3
  simp only [List.append_assoc, List.cons_append, List.nil_append] at f22'
  simp (disch := first | assumption | omega | (simp only [zl] <;> omega) | (simp only [zn])) only [laT, sqT, law09_PutLayAll, ↓zd, zk, Nat.reduceSub, Nat.reduceAdd, Nat.reduceMul, Nat.reduceLeDiff, Nat.reduceEqDiff, reduceIte, Int.reduceEq, Int.reduceBEq, Int.reduceLE, Int.reduceLT, Int.reduceNeg, Int.reduceAdd, Int.reduceSub, Int.reduceMul, List.map, AV.cells, List.all, AV.one, eqV, eqAll, splice, fillA, List.replicate, resAll, resA, zm, zg, gb, a156, hcells, a21, hnew, gb2, a159, hwr, e1, shl_eq, e2, hor, a22, f22', gb3]
  have hnr := fun K : MM => newlay_run (c := c) (p := p) (hown.keep (kM1.trans (Keep.app M1 K))) (by omega)
  simp only [cfC, List.cons_append, List.nil_append] at hnr
  simp (disch := first | assumption | omega | (simp only [zl] <;> omega) | (simp only [zn])) only [↓zd, zk, Nat.reduceSub, Nat.reduceAdd, Nat.reduceMul, Nat.reduceLeDiff, Nat.reduceEqDiff, reduceIte, Int.reduceEq, Int.reduceBEq, Int.reduceLE, Int.reduceLT, Int.reduceNeg, Int.reduceAdd, Int.reduceSub, Int.reduceMul, List.map, AV.cells, List.all, AV.one, eqV, eqAll, splice, fillA, List.replicate, resAll, resA, zm, zg, a199]
  refine OK_fn (hnr _) ?_
  rintro _ m2 ⟨xj, lw, rfl, hxj, k2, hlm, _⟩
  have gj0 : (M1 ++ Chunk.abs (Ob.mem st1) :: [Chunk.cells 6 false (cfC c), .cells 7 false (cfC c ++ [AV.int .i64 p]), .cells 6 false (cfC c)])[M1.length]? = some (.abs (.mem st1)) := by rw [get_mid0]; rfl
  simp only [cfC, List.cons_append, List.nil_append] at gj0
  have gj2 := k2.get gj0
  have gbm := k2.get (gb3 _)
  have l1 := kM1.1
  have l2 := k2.1
  simp only [List.length_append, List.length_cons, List.length_nil] at hxj l2
  have hk2 : Keep m0 m2 := hk0.trans (kM1.trans ((Keep.app M1 _).trans k2))
  have hl0 := hk0.1
  have hnl : newL c p own = ⟨1, 0, 0, 0, own⟩ := by rw [newL, if_pos hp, pos_all fun x hx => by have := (hpos x hx).1; omega]
  rw [hnl] at hlm
  have hown2 : SI m2 true own ow := hown.keep (kM1.trans ((Keep.app M1 _).trans k2))
  have hx0 : OkL c ((List.replicate (cellsN c) (0 : Int)).set (wrdN c p) (pk h h)) := OkL.set (xs := List.replicate (cellsN c) 0) ⟨List.length_replicate, fun x hx => by rw [List.eq_of_mem_replicate hx]; unfold W64; omega⟩ _ (by unfold W64 pk; omega)
  have hw0 : ((List.replicate (cellsN c) (0 : Int)).set (wrdN c p) (pk h h)).getD (wrdN c p) 0 = pk h h := getD_set_self (by rw [List.length_replicate]; omega)
  have hlb : cb < m.length := (List.getElem?_eq_some_iff.1 gb).1
  have hcx : cb ≠ xj ∧ cb ≠ M1.length := ⟨by omega, by omega⟩
  have hjm : m0.length ≤ M1.length ∧ m0.length ≤ xj := ⟨by omega, by omega⟩
  have hok : LOk c p ⟨1, 0, 0, 0, own⟩ := ⟨by unfold W64; simp, .inr ⟨hp, .inl rfl⟩, by simp only; omega⟩
  clear hnr gj0 k2 gb3 gb2 gb1 f22' f22 hcells hnew gj kM1 hwr hr0 hown hnl hk0 hl0 l1 l2 gb hxj hlb hthr
  generalize M1.length = j at gj2 hcx hjm ⊢
  generalize ((List.replicate (cellsN c) (0 : Int)).set (wrdN c p) (pk h h)) = xs0 at hx0 hw0 r1
  have hnxm : ∀ ro L, m2[xj]? ≠ some (.cells 1 ro L) := fun ro L h => by rw [hlm.get] at h; cases h
  have hnjm : ∀ ro L, m2[j]? ≠ some (.cells 1 ro L) := fun ro L h => by rw [gj2] at h; cases h
  have hrn := fun {m' : MM} {xs : List Int} {o : Int} {st : MemSt} (g : m'[j]? = some (.abs (.mem st))) (r : RelM xs o st) (hx : OkL c xs) => ring_run (c := c) (p := p) g r hx
  simp only [cfC] at hrn
  simp (disch := first | assumption | omega | (simp only [zl] <;> omega) | (simp only [zn])) only [↓zd, zk, Nat.reduceSub, Nat.reduceAdd, Nat.reduceMul, Nat.reduceLeDiff, Nat.reduceEqDiff, reduceIte, Int.reduceEq, Int.reduceBEq, Int.reduceLE, Int.reduceLT, Int.reduceNeg, Int.reduceAdd, Int.reduceSub, Int.reduceMul, List.map, AV.cells, List.all, AV.one, eqV, eqAll, splice, fillA, List.replicate, resAll, resA, zm, zg]
  refine W_loop (LaI m2 c0 c p h lv cb j xj ow own 1) (own.length + 1) (by simp only [FUEL]; omega) ⟨0, ⟨1, 0, 0, 0, own⟩, xs0, 1, lw, _, _, _, _, _, _, rfl, rfl, .refl _, hlm, hok, ⟨_, gj2, r1⟩, ?_⟩ ?_
  · rcases Nat.eq_zero_or_pos own.length with h | h
    · exact .inl ⟨h, rfl, List.length_eq_zero_iff.1 h, by simp, hx0, rfl⟩
    · exact .inr ⟨h, hx0, hw0, rfl, .inl ⟨rfl, rfl⟩⟩
  rintro k e m3 ⟨t, s, xs, o, lw', y7, y11, y12, y13, y14, y15, rfl, rfl, hk3, hlm3, hok3, ⟨st, gj3, r3⟩, hV⟩
  have hO : OkL c xs := by
    rcases hV with ⟨_, _, _, _, h, _⟩ | ⟨_, h⟩
    · exact h
    · exact h.ok
  have hrun := lstep_run hlm3 gj3 r3 (.inr hO) hok3
  have ht : t ≤ own.length + 1 := by
    rcases hV with ⟨_, h, _⟩ | ⟨_, h⟩
    · omega
    · exact h.ne.2
  simp (disch := first | assumption | omega | (simp only [zl] <;> omega) | (simp only [zn])) only [↓zd, zk, Nat.reduceSub, Nat.reduceAdd, Nat.reduceMul, Nat.reduceLeDiff, Nat.reduceEqDiff, reduceIte, Int.reduceEq, Int.reduceBEq, Int.reduceLE, Int.reduceLT, Int.reduceNeg, Int.reduceAdd, Int.reduceSub, Int.reduceMul, List.map, AV.cells, List.all, AV.one, eqV, eqAll, splice, fillA, List.replicate, resAll, resA, zm, zg, a195]
  refine OK_fn hrun ?_
  rintro _ m4 ⟨rfl, k4, ⟨lw4, hlm4⟩, st4, gj4, r4⟩
  have kF := hk3.trans k4
  have gbF := kF.get gbm hcx.1 hcx.2
  have hkF : ∀ m', Keep m4 m' → Keep m0 m' := fun m' k => ⟨by have := hk2.1; have := kF.1; have := k.1; omega, fun i hi => by
    have := hk2.1
    have := kF.1
    rw [k.2 i (by omega), kF.2 i (by omega) (by omega) (by omega), hk2.2 i hi]⟩
  have hownF : SI m4 true own ow := kF.sl (szj := 0) (szk := 0) hnxm hnjm hown2
  have hops : memF (fun s rest => (opsAsk s rest).map fun v => (v, s)) [.ptr j 0] m4 = some (.int .u64 (opsL s o), m4) := by
    have := ops_of gj4
    rw [r4.ops] at this; exact this
  rcases hV with ⟨hV1, rfl, hV2, hV3, hV4, rfl⟩ | ⟨hV0, hI⟩
  · have e3 : stepL c p xs s = ({ s with a := 0 }, xs) := by simp only [stepL, if_neg hV3, hV2, List.length_nil, if_true]
    have e4 : opsL s 1 = 1 := by simp only [opsL, if_neg hV3, hV2, List.length_nil, if_true]
    rw [e4] at hops
    have ed : decide ((stepL c p xs s).1.a = 0) = true := by rw [e3]; rfl
    rw [ed]
    rw [hV1] at hwo
    simp (disch := first | assumption | omega | (simp only [zl] <;> omega) | (simp only [zn])) only [↓zd, zk, Nat.reduceSub, Nat.reduceAdd, Nat.reduceMul, Nat.reduceLeDiff, Nat.reduceEqDiff, reduceIte, Int.reduceEq, Int.reduceBEq, Int.reduceLE, Int.reduceLT, Int.reduceNeg, Int.reduceAdd, Int.reduceSub, Int.reduceMul, List.map, AV.cells, List.all, AV.one, eqV, eqAll, splice, fillA, List.replicate, resAll, resA, zm, zg, ev_len, hwo, Int.ofNat_zero, a46, hops, a184, pureF, worksG]
    exact hkF _ (.refl _)
  · have hwz : ¬ ((own.length : Int) = 0) := by omega
    rcases hI.step hp h0 h1 hV0 hq hpos with ⟨h5, h6⟩ | ⟨h5, h6, h7, h8, h9⟩
    · rw [decide_eq_false h5]
      have ht6 := h6.ne.2
      simp (disch := first | assumption | omega | (simp only [zl] <;> omega) | (simp only [zn])) only [↓zd, zk, Nat.reduceSub, Nat.reduceAdd, Nat.reduceMul, Nat.reduceLeDiff, Nat.reduceEqDiff, reduceIte, Int.reduceEq, Int.reduceBEq, Int.reduceLE, Int.reduceLT, Int.reduceNeg, Int.reduceAdd, Int.reduceSub, Int.reduceMul, List.map, AV.cells, List.all, AV.one, eqV, eqAll, splice, fillA, List.replicate, resAll, resA, zm, zg]
      exact ⟨_, by omega, t + 1, _, _, _, lw4, _, _, _, _, _, _, rfl, rfl, kF, hlm4, hok3.step (.inr hO), ⟨st4, gj4, r4⟩, .inr ⟨hV0, h6⟩⟩
    · rw [decide_eq_true h5]
      have hh := lhands_run hlm4 (by rw [h7]; simp)
      rw [h7] at hh
      subst h6
      simp (disch := first | assumption | omega | (simp only [zl] <;> omega) | (simp only [zn])) only [↓zd, zk, Nat.reduceSub, Nat.reduceAdd, Nat.reduceMul, Nat.reduceLeDiff, Nat.reduceEqDiff, reduceIte, Int.reduceEq, Int.reduceBEq, Int.reduceLE, Int.reduceLT, Int.reduceNeg, Int.reduceAdd, Int.reduceSub, Int.reduceMul, List.map, AV.cells, List.all, AV.one, eqV, eqAll, splice, fillA, List.replicate, resAll, resA, zm, zg, ev_len, hwo, hwz, a197]
      refine OK_fn hh ?_
      rintro rh m5 ⟨k5, s5, _⟩
      have l5 := s5.len
      have gb5 := k5.get gbF
      simp (disch := first | assumption | omega | (simp only [zl] <;> omega) | (simp only [zn])) only [↓zd, zk, Nat.reduceSub, Nat.reduceAdd, Nat.reduceMul, Nat.reduceLeDiff, Nat.reduceEqDiff, reduceIte, Int.reduceEq, Int.reduceBEq, Int.reduceLE, Int.reduceLT, Int.reduceNeg, Int.reduceAdd, Int.reduceSub, Int.reduceMul, List.map, AV.cells, List.all, AV.one, eqV, eqAll, splice, fillA, List.replicate, resAll, resA, zm, zg, ev_len, l5, gb5, a136]
      refine OK_fn (hrn (k5.get gj4) r4 h8) ?_
      rintro now m6 ⟨k6, s6, _, _, _⟩
      rw [h9] at s6
      have e9 := Fn_eq (same_run s6 (hownF.keep (k5.trans k6)) (by simp only [FUEL]; omega))
      rw [← hse] at e9
      simp (disch := first | assumption | omega | (simp only [zl] <;> omega) | (simp only [zn])) only [↓zd, zk, Nat.reduceSub, Nat.reduceAdd, Nat.reduceMul, Nat.reduceLeDiff, Nat.reduceEqDiff, reduceIte, Int.reduceEq, Int.reduceBEq, Int.reduceLE, Int.reduceLT, Int.reduceNeg, Int.reduceAdd, Int.reduceSub, Int.reduceMul, List.map, AV.cells, List.all, AV.one, eqV, eqAll, splice, fillA, List.replicate, resAll, resA, zm, zg, a84, e9, a184, pureF, worksG]
      exact hkF _ (k5.trans k6)
set_option maxHeartbeats 16000000 in
theorem layall_run {m0 : MM} {c0 : Cf} {p0 h : Int} {ls : List Int} {lv : AV} (hL : SI m0 false ls lv) (hlb : ∀ x, x ∈ ls → x < 9223372036854775808) (h0 : 0 ≤ h) (h1 : h < 4294967296) :
    Fn Gla law09_PutLayAll [.agg (cfC c0), .int .i64 p0, .int .u32 h, lv] m0 (fun r m' => r = .bool true ∧ Keep m0 m') := by
  have a184 : assoc Gla 184 = some (pureF worksG) := rfl
  have a133 : assoc Gla 133 = some F10.c_docs_Made := rfl
  have a87 : assoc Gla 87 = some F10.c_kit_Pick := rfl
  rw [layall_body]
  have hlenl := hL.len
  refine Fn_of rfl ?_
  by_cases h2 : 70 < ls.length
  · simp (disch := first | assumption | omega | (simp only [zl] <;> omega) | (simp only [zn])) only [sqN, law09_PutLayAll, ↓zd, zk, Nat.reduceSub, Nat.reduceAdd, Nat.reduceMul, Nat.reduceLeDiff, Nat.reduceEqDiff, reduceIte, Int.reduceEq, Int.reduceBEq, Int.reduceLE, Int.reduceLT, Int.reduceNeg, Int.reduceAdd, Int.reduceSub, Int.reduceMul, List.map, AV.cells, List.all, AV.one, eqV, eqAll, splice, fillA, List.replicate, resAll, resA, zm, zg, cfC, ev_len, hlenl, a184, pureF, worksG]
    exact .app _ _
  have fmade := fun m : MM => made_eq m c0
  have hri := made_right c0
  generalize madeC c0 = c at fmade hri
  have hp : thereP c (p0 % c.n) := by
    have := hri.1
    exact ⟨hri, Int.emod_nonneg _ (by omega), Int.emod_lt_of_pos _ (by omega)⟩
  have hbn := hri.1
  have fpick := fun m : MM => F10.pick_eq m p0 c.n (by omega) (by omega)
  generalize p0 % c.n = p at hp fpick
  have hb8 := there_bounds hp
  simp only [cfC, List.cons_append, List.nil_append] at fmade
  simp (disch := first | assumption | omega | (simp only [zl] <;> omega) | (simp only [zn])) only [sqN, law09_PutLayAll, ↓zd, zk, Nat.reduceSub, Nat.reduceAdd, Nat.reduceMul, Nat.reduceLeDiff, Nat.reduceEqDiff, reduceIte, Int.reduceEq, Int.reduceBEq, Int.reduceLE, Int.reduceLT, Int.reduceNeg, Int.reduceAdd, Int.reduceSub, Int.reduceMul, List.map, AV.cells, List.all, AV.one, eqV, eqAll, splice, fillA, List.replicate, resAll, resA, zm, zg, cfC, ev_len, hlenl, a133, fmade, a87, fpick]
  have hkA : Keep m0 (m0 ++ [Chunk.cells 6 false (cfC c), .cells 6 false (cfC c0), .cells 6 false (cfC c)]) := .app _ _
  have gb0 : (m0 ++ [Chunk.cells 6 false (cfC c), .cells 6 false (cfC c0), .cells 6 false (cfC c)])[m0.length]? = some (Chunk.cells 6 false (cfC c)) := by rw [get_mid0]; rfl
  have hLA := hL.keep hkA
  generalize hM : m0 ++ [Chunk.cells 6 false (cfC c), .cells 6 false (cfC c0), .cells 6 false (cfC c)] = M at hkA gb0 hLA
  simp only [cfC] at hM gb0
  rw [hM]
  clear hM fmade fpick
  refine W_loop (OwI M c0 c p h lv m0.length ls) ls.length (by simp only [FUEL]; omega) ⟨0, .nils, _, _, _, _, _, _, _, _, rfl, rfl, by omega, by simp [posL]; omega, .refl _, own_nil⟩ ?_
  rintro k e m ⟨i, ow, z8, z9, z10, z11, z12, z13, z14, z15, rfl, rfl, hi, hpl, hk, hown⟩
  have gb := hk.get gb0
  have hol := hown.si.1.len
  have hpl2 := pos_len (ls.take i)
  rw [List.length_take] at hpl2
  have hfin : ∀ y8 y9 y10 y11 y12 y13 y14 y15 : AV, W Gla laT (resQ [.loc 5] fun r m' => r = .bool true ∧ Keep m0 m') [.agg (cfC c0), .int .i64 p, .int .u32 h, lv, .ptr m0.length 0, .bool false, ow, .int .i64 i, y8, y9, y10, y11, y12, y13, y14, y15] m := fun y8 y9 y10 y11 y12 y13 y14 y15 =>
    laT_run hp h0 h1 (hkA.trans hk) gb hown.si.1 hpl fun x hx => by
      rw [posL, List.mem_filter] at hx
      have := hx.2
      simp only [decide_eq_true_eq] at this
      exact ⟨by omega, hlb x (List.mem_of_mem_take hx.1)⟩
  by_cases hil : i < ls.length
  · by_cases hpq : ((posL (ls.take i)).length : Int) < c.q
    · obtain ⟨x, hx⟩ : ∃ x, ls[i]? = some x := ⟨_, List.getElem?_eq_getElem hil⟩
      obtain ⟨q, oo, cap, ro, L, rfl, b2, b3, b4, b5⟩ := SI.val (hLA.keep hk) (by omega)
      have b6 := b5 i x hx
      have hsn := pos_snoc hx
      clear hfin
      by_cases hx0 : x < 0
      · rw [if_pos hx0] at hsn
        have hge : decide (0 ≤ x) = false := decide_eq_false (by omega)
        simp (disch := first | assumption | omega | (simp only [zl] <;> omega) | (simp only [zn])) only [↓zd, zk, Nat.reduceSub, Nat.reduceAdd, Nat.reduceMul, Nat.reduceLeDiff, Nat.reduceEqDiff, reduceIte, Int.reduceEq, Int.reduceBEq, Int.reduceLE, Int.reduceLT, Int.reduceNeg, Int.reduceAdd, Int.reduceSub, Int.reduceMul, List.map, AV.cells, List.all, AV.one, eqV, eqAll, splice, fillA, List.replicate, resAll, resA, zm, zg, ev_len, hlenl, hol, gb, b2, b6, hge]
        exact ⟨_, by omega, i + 1, ow, _, _, _, _, _, _, _, _, rfl, rfl, by omega, by rw [hsn]; exact hpl, hk, by rw [hsn]; exact hown⟩
      · rw [if_neg hx0] at hsn
        have hge : decide (0 ≤ x) = true := decide_eq_true (by omega)
        have hpush := own_push2 hown x (by omega) hk.1
        have hone := hown.val1
        simp only [AV.one] at hone
        obtain ⟨ow', m2, hap, how, hl2, hs2⟩ := hpush
        simp (disch := first | assumption | omega | (simp only [zl] <;> omega) | (simp only [zn])) only [↓zd, zk, Nat.reduceSub, Nat.reduceAdd, Nat.reduceMul, Nat.reduceLeDiff, Nat.reduceEqDiff, reduceIte, Int.reduceEq, Int.reduceBEq, Int.reduceLE, Int.reduceLT, Int.reduceNeg, Int.reduceAdd, Int.reduceSub, Int.reduceMul, List.map, AV.cells, List.all, AV.one, eqV, eqAll, splice, fillA, List.replicate, resAll, resA, zm, zg, ev_len, hlenl, hol, gb, b2, b6, hge, evA, repeatL, List.flatten_cons, List.flatten_nil, hap, hone]
        exact ⟨_, by omega, i + 1, ow', _, _, _, _, _, _, _, _, rfl, rfl, by omega, by rw [hsn, List.length_append, List.length_singleton]; omega, ⟨by have := hk.1; omega, fun k hkl => by rw [hs2 k (by have := hk.1; omega) (.inr hkl), hk.2 k hkl]⟩, by rw [hsn]; exact how⟩
    · simp (disch := first | assumption | omega | (simp only [zl] <;> omega) | (simp only [zn])) only [↓zd, zk, Nat.reduceSub, Nat.reduceAdd, Nat.reduceMul, Nat.reduceLeDiff, Nat.reduceEqDiff, reduceIte, Int.reduceEq, Int.reduceBEq, Int.reduceLE, Int.reduceLT, Int.reduceNeg, Int.reduceAdd, Int.reduceSub, Int.reduceMul, List.map, AV.cells, List.all, AV.one, eqV, eqAll, splice, fillA, List.replicate, resAll, resA, zm, zg, ev_len, hlenl, hol, gb]
      exact hfin _ _ _ _ _ _ _ _
  · simp (disch := first | assumption | omega | (simp only [zl] <;> omega) | (simp only [zn])) only [↓zd, zk, Nat.reduceSub, Nat.reduceAdd, Nat.reduceMul, Nat.reduceLeDiff, Nat.reduceEqDiff, reduceIte, Int.reduceEq, Int.reduceBEq, Int.reduceLE, Int.reduceLT, Int.reduceNeg, Int.reduceAdd, Int.reduceSub, Int.reduceMul, List.map, AV.cells, List.all, AV.one, eqV, eqAll, splice, fillA, List.replicate, resAll, resA, zm, zg, ev_len, hlenl, hol, gb]
    exact hfin _ _ _ _ _ _ _ _
end Go.Am.F09
end
section
namespace Go.Am.F09
open Go.Am.F06 Go.Am.F10
def rlC (c : Cf) (p : Int) (s : LS) (lv : AV) : List AV := cfC c ++ [.int .i64 p, lv, .int .i64 s.a, .int .u64 s.w, .int .i64 s.n, .int .i64 s.k]
structure LNx (lo hi : Nat) (m : MM) (ls : List Int) (lv : AV) : Prop where
  sl : SI m false ls lv
  nx : 0 < ls.length → Nx m lv
  no : ∀ b, lo ≤ b → b < hi → ∀ ro L, m[b]? ≠ some (.cells 1 ro L)
theorem LNx.set {lo hi : Nat} {m : MM} {ls : List Int} {lv : AV} (h : LNx lo hi m ls lv) {a : Nat} (h1 : lo ≤ a) (h2 : a < hi) {C : Chunk Ob} (hC : ∀ ro L, C ≠ .cells 1 ro L) : LNx lo hi (m.set a C) ls lv :=
  ⟨Sl.put h.sl (h.no a h1 h2) C, fun h0 => (h.nx h0).put (h.no a h1 h2) C, (SLN.set (wr := false) (n := ls.length) (l := iC ls) (v := lv) ⟨h.sl, h.no⟩ h1 h2 hC).no⟩
def RyP (m : MM) (c : Cf) (p : Int) (x : LS × List Int) (o : Int) (r : AV) (m' : MM) : Prop := Keep m m' ∧ ∃ lv' v', r = .tup [.agg (rlC c p x.1 lv'), .agg (memC v' o)] ∧ SI m' false x.1.ls lv' ∧ (0 < x.1.ls.length → Nx m' lv') ∧ SU m' false x.2 v'
def Grl2 : List (Nat × AFun Ob) := [(170, F10.c_ref09_Head), (171, F10.c_ref09_Tail), (172, F10.c_ref09_Word), (64, F06.c_ref06_Load), (173, F10.c_ref09_Size), (174, F10.c_ref09_Slot), (65, F06.c_ref06_Store), (175, F10.c_ref09_Pack), (66, F06.c_ref06_CAS)]
set_option maxHeartbeats 16000000 in
theorem rlstep1 {m : MM} {wr : Bool} {c : Cf} {p o : Int} {s : LS} {xs : List Int} {v lv : AV} (hs : SU m wr xs v) (hl : SI m false s.ls lv) (hnx : 0 < s.ls.length → Nx m lv) (hok : LOk c p s) (hx : OkL c xs) (ha : s.a = 1) (h0 : 0 < s.ls.length) :
    Fn Grl2 ref09_StepLay [.agg (rlC c p s lv), .agg (memC v o)] m (RyP m c p (stepL c p xs s) (IntKind.u64.wrap (o + 1))) := by
  have a172 : assoc Grl2 172 = some F10.c_ref09_Word := rfl
  have a64 : assoc Grl2 64 = some F06.c_ref06_Load := rfl
  have a173 : assoc Grl2 173 = some F10.c_ref09_Size := rfl
  generalize Grl2 = G at a172 a64 a173 ⊢
  have hone := slOne hs
  have hone2 := slOne hl
  simp only [AV.one] at hone hone2
  obtain ⟨a, w, k, n, ls⟩ := s
  simp only at ha hl hnx h0
  subst ha
  have hp : thereP c p := hok.a.elim (fun h => by simp at h) (·.1)
  have hll := hok.l
  simp only at hll
  have hb := there_bounds hp
  have hcn := cellsN_le c
  have hxl := hx.1
  have hlen := hl.len
  have ha0 := addr_b hp (i := 0) (by omega) (by omega)
  have hrw := fun m : MM => rword_eq m hp
  simp only [word_at hp, cfC] at hrw
  have hwn : ((wrdN c p : Nat) : Int) = addrA c p 0 := by unfold wrdN; omega
  have hrl := fun K : MM => rload_eq (hs.keep (Keep.app m K)) o (a := wrdN c p) (by omega)
  rw [hwn] at hrl
  have hg := getD_64 hx.2 (wrdN c p)
  have hlz : ¬ ((ls.length : Int) = 0) := by omega
  have hs1 : stepL c p xs ⟨1, w, k, n, ls⟩ = (⟨if roomN c (xs.getD (wrdN c p) 0) ls.length = 0 then 0 else 2, xs.getD (wrdN c p) 0, 0, roomN c (xs.getD (wrdN c p) 0) ls.length, ls⟩, xs) := by
    simp only [stepL, if_neg (show ¬ ((1 : Int) = 0) by decide), if_neg (show ¬ (ls.length = 0) by omega), if_true]
  rw [hs1]
  generalize xs.getD (wrdN c p) 0 = w' at hg hrl
  simp only [memC, List.append_assoc, List.cons_append, List.nil_append] at hrl
  have hz := fun m : MM => rsize_eq m hg
  have e0 : IntKind.u32.wrap c.q = c.q := by rw [wrap32]; omega
  have hz0 : 0 ≤ sz w' ∧ sz w' < 4294967296 := by unfold sz; omega
  have e1 : IntKind.i64.wrap (sz w') = sz w' := wrapI (by omega) (by omega)
  have e2 : IntKind.i64.wrap (c.q - sz w') = c.q - sz w' := wrapI (by omega) (by omega)
  have hl' := fun K : MM => hl.keep (Keep.app m K)
  have hnx' := fun (K : MM) h => (hnx h).keep (Keep.app m K)
  refine Fn_of rfl ?_
  rcases (show c.q ≤ sz w' ∨ (sz w' < c.q ∧ c.q - sz w' < (ls.length : Int)) ∨ (sz w' < c.q ∧ (ls.length : Int) ≤ c.q - sz w') by omega) with h | ⟨h, h'⟩ | ⟨h, h'⟩
  · have hroom : roomN c w' ls.length = 0 := if_pos h
    rw [hroom, if_pos rfl]
    simp (disch := first | assumption | omega | (simp only [zl] <;> omega) | (simp only [zn])) only [ref09_StepLay, ↓zd, zk, Nat.reduceSub, Nat.reduceAdd, Nat.reduceMul, Nat.reduceLeDiff, Nat.reduceEqDiff, reduceIte, Int.reduceEq, Int.reduceBEq, Int.reduceLE, Int.reduceLT, Int.reduceNeg, Int.reduceAdd, Int.reduceSub, Int.reduceMul, List.map, AV.cells, List.all, AV.one, eqV, eqAll, splice, fillA, List.replicate, resAll, resA, zm, zg, rlC, cfC, memC, hone, hone2, ev_len, hlen, hlz, a172, hrw, a64, hrl, a173, hz, e0, h]
    exact ⟨Keep.app _ _, lv, v, rfl, hl' _, hnx' _, (hs.keep (.app _ _)).ro⟩
  · have hroom : roomN c w' ls.length = c.q - sz w' := by unfold roomN; rw [if_neg (by omega), if_neg (by omega)]
    rw [hroom, if_neg (by omega)]
    simp (disch := first | assumption | omega | (simp only [zl] <;> omega) | (simp only [zn])) only [ref09_StepLay, ↓zd, zk, Nat.reduceSub, Nat.reduceAdd, Nat.reduceMul, Nat.reduceLeDiff, Nat.reduceEqDiff, reduceIte, Int.reduceEq, Int.reduceBEq, Int.reduceLE, Int.reduceLT, Int.reduceNeg, Int.reduceAdd, Int.reduceSub, Int.reduceMul, List.map, AV.cells, List.all, AV.one, eqV, eqAll, splice, fillA, List.replicate, resAll, resA, zm, zg, rlC, cfC, memC, hone, hone2, ev_len, hlen, hlz, a172, hrw, a64, hrl, a173, hz, e0, e1, e2, h, h']
    exact ⟨Keep.app _ _, lv, v, rfl, hl' _, hnx' _, (hs.keep (.app _ _)).ro⟩
  · have hroom : roomN c w' ls.length = ls.length := by unfold roomN; rw [if_neg (by omega)]; split <;> omega
    rw [hroom, if_neg (by omega)]
    simp (disch := first | assumption | omega | (simp only [zl] <;> omega) | (simp only [zn])) only [ref09_StepLay, ↓zd, zk, Nat.reduceSub, Nat.reduceAdd, Nat.reduceMul, Nat.reduceLeDiff, Nat.reduceEqDiff, reduceIte, Int.reduceEq, Int.reduceBEq, Int.reduceLE, Int.reduceLT, Int.reduceNeg, Int.reduceAdd, Int.reduceSub, Int.reduceMul, List.map, AV.cells, List.all, AV.one, eqV, eqAll, splice, fillA, List.replicate, resAll, resA, zm, zg, rlC, cfC, memC, hone, hone2, ev_len, hlen, hlz, a172, hrw, a64, hrl, a173, hz, e0, e1, e2, h, h']
    exact ⟨Keep.app _ _, lv, v, rfl, hl' _, hnx' _, (hs.keep (.app _ _)).ro⟩
set_option maxHeartbeats 16000000 in
theorem rlstep2 {m : MM} {wr : Bool} {c : Cf} {p o : Int} {s : LS} {xs : List Int} {v lv : AV} (hs : SU m wr xs v) (hl : SI m false s.ls lv) (hnx : 0 < s.ls.length → Nx m lv) (hok : LOk c p s) (hx : OkL c xs) (ha : s.a = 2) (h0 : 0 < s.ls.length) :
    Fn Grl2 ref09_StepLay [.agg (rlC c p s lv), .agg (memC v o)] m (RyP m c p (stepL c p xs s) (IntKind.u64.wrap (o + 1))) := by
  have a171 : assoc Grl2 171 = some F10.c_ref09_Tail := rfl
  have a174 : assoc Grl2 174 = some F10.c_ref09_Slot := rfl
  have a65 : assoc Grl2 65 = some F06.c_ref06_Store := rfl
  generalize Grl2 = G at a171 a174 a65 ⊢
  have hone := slOne hs
  have hone2 := slOne hl
  simp only [AV.one] at hone hone2
  obtain ⟨a, w, k, n, ls⟩ := s
  simp only at ha hl hnx h0
  subst ha
  have hpl : thereP c p ∧ 0 ≤ k ∧ k < n ∧ n ≤ ls.length := hok.a.elim (fun h => by simp at h) (fun h => ⟨h.1, by have := h.2; simp only at this; omega⟩)
  obtain ⟨hp, hk0, hkn, hnl⟩ := hpl
  have hw := hok.w
  have hll := hok.l
  simp only at hw hll
  have hb := there_bounds hp
  have hcn := cellsN_le c
  have hxl := hx.1
  have hlen := hl.len
  have htb := tl_b w
  have htl := fun m : MM => rtail_eq m hw
  have hlz : ¬ ((ls.length : Int) = 0) := by omega
  obtain ⟨kN, rfl⟩ : ∃ kN : Nat, k = kN := ⟨k.toNat, by omega⟩
  obtain ⟨x, hxk⟩ : ∃ x, ls[kN]? = some x := ⟨_, List.getElem?_eq_getElem (by omega)⟩
  have e1 : IntKind.u32.wrap (tl w + IntKind.u32.wrap (kN : Int)) = (tl w + kN) % 4294967296 := by rw [wrap32, wrap32]; omega
  have hsl := fun m : MM => rslot_eq m hp (i := (tl w + kN) % 4294967296) (by omega) (by omega)
  have hps : slotA c p ((tl w + (kN : Int)) % 4294967296) = pslA c p w kN := rfl
  rw [hps] at hsl
  have hsb := psl_b (c := c) (p := p) (w := w) (i := kN) hp
  have hthr : thr xs (pslA c p w kN) := ⟨by omega, by omega⟩
  have hs1 : stepL c p xs ⟨2, w, kN, n, ls⟩ = (⟨if (kN : Int) + 1 = n then 3 else 2, w, kN + 1, n, ls⟩, xs.set (pslA c p w kN).toNat (IntKind.u64.wrap x)) := by
    have : ls.getD kN 0 = x := by rw [List.getD_eq_getElem?_getD, hxk]; rfl
    simp only [stepL, if_neg (show ¬ ((2 : Int) = 0) by decide), if_neg (show ¬ ((2 : Int) = 1) by decide), if_neg (show ¬ (ls.length = 0) by omega), if_true, Int.toNat_natCast, this]
  rw [hs1]
  simp only [cfC] at hsl
  obtain ⟨q, oo, cap, ro, L, rfl, b2, b3, b4, b5⟩ := hl.val h0
  have b6 := b5 kN x hxk
  have b2' := fun K : MM => (Keep.app m K).get b2
  have e3 : IntKind.i64.wrap ((kN : Int) + 1) = kN + 1 := wrapI (by omega) (by omega)
  refine Fn_of rfl ?_
  simp (disch := first | assumption | omega | (simp only [zl] <;> omega) | (simp only [zn])) only [ref09_StepLay, ↓zd, zk, Nat.reduceSub, Nat.reduceAdd, Nat.reduceMul, Nat.reduceLeDiff, Nat.reduceEqDiff, reduceIte, Int.reduceEq, Int.reduceBEq, Int.reduceLE, Int.reduceLT, Int.reduceNeg, Int.reduceAdd, Int.reduceSub, Int.reduceMul, List.map, AV.cells, List.all, AV.one, eqV, eqAll, splice, fillA, List.replicate, resAll, resA, zm, zg, rlC, cfC, memC, hone, ev_len, hlen, hlz, a171, htl, e1, a174, hsl, b2, b2', b6, a65, F06.c_ref06_Store]
  have hst := fun K : MM => refstore_run (hs.keep (Keep.app m K)) (by omega) o (pslA c p w kN) (IntKind.u64.wrap x)
  simp only [memC] at hst
  refine OKT_fn (hst _) ?_
  rintro _ m1 ⟨k1, v', rfl, s1⟩
  rw [if_pos hthr] at s1
  simp only [if_pos hthr]
  have km : Keep m m1 := (Keep.app m _).trans k1
  have g0 := k1.get (i := m.length) (by rw [get_mid0]; rfl)
  have g1 := k1.get (i := m.length + 1) (by rw [get_mid]; rfl)
  have g2 := k1.get (i := m.length + 2) (by rw [get_mid]; rfl)
  have g3 := k1.get (i := m.length + 3) (by rw [get_mid]; rfl)
  have hl1 : m.length + 3 < m1.length := (List.getElem?_eq_some_iff.1 g3).1
  have hone' := slOne s1
  simp only [AV.one] at hone'
  have hno : ∀ b, m.length ≤ b → b < m.length + 4 → ∀ ro L, m1[b]? ≠ some (.cells 1 ro L) := by
    intro b b1 b2 ro L hb
    rcases (show b = m.length ∨ b = m.length + 1 ∨ b = m.length + 2 ∨ b = m.length + 3 by omega) with rfl | rfl | rfl | rfl
    · rw [g0] at hb; cases hb
    · rw [g1] at hb; cases hb
    · rw [g2] at hb; cases hb
    · rw [g3] at hb; cases hb
  have hb0 : LNx m.length (m.length + 4) m1 ls (.sl q oo ls.length cap) := ⟨hl.keep km, fun h => (hnx h).keep km, hno⟩
  by_cases hq : (kN : Int) + 1 = n
  · rw [if_pos hq]
    have hkn' : decide ((kN : Int) + 1 = n) = true := decide_eq_true hq
    simp (disch := first | assumption | omega | (simp only [zl] <;> omega) | (simp only [zn])) only [↓zd, zk, Nat.reduceSub, Nat.reduceAdd, Nat.reduceMul, Nat.reduceLeDiff, Nat.reduceEqDiff, reduceIte, Int.reduceEq, Int.reduceBEq, Int.reduceLE, Int.reduceLT, Int.reduceNeg, Int.reduceAdd, Int.reduceSub, Int.reduceMul, List.map, AV.cells, List.all, AV.one, eqV, eqAll, splice, fillA, List.replicate, resAll, resA, zm, zg, memC, g0, g1, g2, g3, hone', e3, hkn', b2', b6]
    refine ⟨?_, .sl q oo ls.length cap, v', rfl, LNx.sl (lo := m.length) (hi := m.length + 4) ?_, LNx.nx (lo := m.length) (hi := m.length + 4) ?_, SLN.sl (lo := m.length) (hi := m.length + 4) ?_⟩
    · repeat' first | exact km | refine Keep.set ?_ (by omega) _
    · repeat' first | exact hb0 | refine LNx.set ?_ (by omega) (by omega) (by intro _ _ h; cases h)
    · repeat' first | exact hb0 | refine LNx.set ?_ (by omega) (by omega) (by intro _ _ h; cases h)
    · repeat' first | exact ⟨s1, hno⟩ | refine SLN.set ?_ (by omega) (by omega) (by intro _ _ h; cases h)
  · rw [if_neg hq]
    have hkn' : decide ((kN : Int) + 1 = n) = false := decide_eq_false hq
    simp (disch := first | assumption | omega | (simp only [zl] <;> omega) | (simp only [zn])) only [↓zd, zk, Nat.reduceSub, Nat.reduceAdd, Nat.reduceMul, Nat.reduceLeDiff, Nat.reduceEqDiff, reduceIte, Int.reduceEq, Int.reduceBEq, Int.reduceLE, Int.reduceLT, Int.reduceNeg, Int.reduceAdd, Int.reduceSub, Int.reduceMul, List.map, AV.cells, List.all, AV.one, eqV, eqAll, splice, fillA, List.replicate, resAll, resA, zm, zg, memC, g0, g1, g2, g3, hone', e3, hkn', b2', b6]
    refine ⟨?_, .sl q oo ls.length cap, v', rfl, LNx.sl (lo := m.length) (hi := m.length + 4) ?_, LNx.nx (lo := m.length) (hi := m.length + 4) ?_, SLN.sl (lo := m.length) (hi := m.length + 4) ?_⟩
    · repeat' first | exact km | refine Keep.set ?_ (by omega) _
    · repeat' first | exact hb0 | refine LNx.set ?_ (by omega) (by omega) (by intro _ _ h; cases h)
    · repeat' first | exact hb0 | refine LNx.set ?_ (by omega) (by omega) (by intro _ _ h; cases h)
    · repeat' first | exact ⟨s1, hno⟩ | refine SLN.set ?_ (by omega) (by omega) (by intro _ _ h; cases h)
set_option maxHeartbeats 16000000 in
theorem rlstep3 {m : MM} {wr : Bool} {c : Cf} {p o : Int} {s : LS} {xs : List Int} {v lv : AV} (hs : SU m wr xs v) (hl : SI m false s.ls lv) (hnx : 0 < s.ls.length → Nx m lv) (hok : LOk c p s) (hx : OkL c xs) (ha : s.a = 3) (h0 : 0 < s.ls.length) :
    Fn Grl2 ref09_StepLay [.agg (rlC c p s lv), .agg (memC v o)] m (RyP m c p (stepL c p xs s) (IntKind.u64.wrap (o + 1))) := by
  have a170 : assoc Grl2 170 = some F10.c_ref09_Head := rfl
  have a171 : assoc Grl2 171 = some F10.c_ref09_Tail := rfl
  have a172 : assoc Grl2 172 = some F10.c_ref09_Word := rfl
  have a175 : assoc Grl2 175 = some F10.c_ref09_Pack := rfl
  have a66 : assoc Grl2 66 = some F06.c_ref06_CAS := rfl
  generalize Grl2 = G at a170 a171 a172 a175 a66 ⊢
  have hone := slOne hs
  have hone2 := slOne hl
  simp only [AV.one] at hone hone2
  obtain ⟨a, w, k, n, ls⟩ := s
  simp only at ha hl hnx h0
  subst ha
  have hpl : thereP c p ∧ 0 ≤ n ∧ n ≤ ls.length := hok.a.elim (fun h => by simp at h) (fun h => ⟨h.1, by have := h.2; simp only at this; omega⟩)
  obtain ⟨hp, hn0, hnl⟩ := hpl
  have hw := hok.w
  have hll := hok.l
  simp only at hw hll
  have hb := there_bounds hp
  have hcn := cellsN_le c
  have hxl := hx.1
  have hlen := hl.len
  have htb := tl_b w
  have hhb := hd_b hw
  have ha0 := addr_b hp (i := 0) (by omega) (by omega)
  have htl := fun m : MM => rtail_eq m hw
  have hhd := fun m : MM => rhead_eq m hw
  have hrw := fun m : MM => rword_eq m hp
  simp only [word_at hp, cfC] at hrw
  have hwt : (addrA c p 0).toNat = wrdN c p := rfl
  have hthr : thr xs (addrA c p 0) := ⟨by omega, by omega⟩
  have hlz : ¬ ((ls.length : Int) = 0) := by omega
  have e1 : IntKind.u32.wrap (tl w + IntKind.u32.wrap n) = (tl w + n) % 4294967296 := by rw [wrap32, wrap32]; omega
  have hpk := fun m : MM => rpack_eq m (h := hd w) (t := (tl w + n) % 4294967296) hhb.1 hhb.2 (by omega) (by omega)
  have hgw : pk (hd w) ((tl w + n) % 4294967296) = growW w n := rfl
  have hs1 : stepL c p xs ⟨3, w, k, n, ls⟩ = (if xs.getD (wrdN c p) 0 = w then (⟨0, w, k, n, ls.drop n.toNat⟩, xs.set (wrdN c p) (growW w n)) else (⟨1, w, k, n, ls⟩, xs)) := by
    simp only [stepL, if_neg (show ¬ ((3 : Int) = 0) by decide), if_neg (show ¬ ((3 : Int) = 1) by decide), if_neg (show ¬ ((3 : Int) = 2) by decide), if_neg (show ¬ (ls.length = 0) by omega)]
  rw [hs1]
  obtain ⟨q, oo, nn, L, rfl, hq1⟩ : ∃ q oo nn L, lv = .sl q oo nn none ∧ m[q]? = some (.cells 1 false L) := by
    rcases hnx h0 with h | ⟨q, oo, nn, L, h1, h2⟩
    · rw [h] at hlen; simp only [lenA, Option.some.injEq] at hlen; omega
    · exact ⟨q, oo, nn, L, h1, h2⟩
  refine Fn_of rfl ?_
  simp (disch := first | assumption | omega | (simp only [zl] <;> omega) | (simp only [zn])) only [ref09_StepLay, ↓zd, zk, Nat.reduceSub, Nat.reduceAdd, Nat.reduceMul, Nat.reduceLeDiff, Nat.reduceEqDiff, reduceIte, Int.reduceEq, Int.reduceBEq, Int.reduceLE, Int.reduceLT, Int.reduceNeg, Int.reduceAdd, Int.reduceSub, Int.reduceMul, List.map, AV.cells, List.all, AV.one, eqV, eqAll, splice, fillA, List.replicate, resAll, resA, zm, zg, rlC, cfC, memC, hone, ev_len, hlen, hlz, a170, hhd, a171, htl, a172, hrw, e1, a175, hpk, hgw, a66, F06.c_ref06_CAS]
  have hcas := fun K : MM => rcas_run (hs.keep (Keep.app m K)) (by omega) o hthr w (growW w n)
  simp only [memC] at hcas
  refine OKT_fn (hcas _) ?_
  rintro _ m1 ⟨k1, v', rfl, s1⟩
  rw [hwt] at s1
  have km : Keep m m1 := (Keep.app m _).trans k1
  have g0 := k1.get (i := m.length) (by rw [get_mid0]; rfl)
  have g1 := k1.get (i := m.length + 1) (by rw [get_mid]; rfl)
  have g2 := k1.get (i := m.length + 2) (by rw [get_mid]; rfl)
  have g3 := k1.get (i := m.length + 3) (by rw [get_mid]; rfl)
  have hl1 : m.length + 3 < m1.length := (List.getElem?_eq_some_iff.1 g3).1
  have hone' := slOne s1
  simp only [AV.one] at hone'
  have hno : ∀ b, m.length ≤ b → b < m.length + 4 → ∀ ro L, m1[b]? ≠ some (.cells 1 ro L) := by
    intro b b1 b2 ro L hb
    rcases (show b = m.length ∨ b = m.length + 1 ∨ b = m.length + 2 ∨ b = m.length + 3 by omega) with rfl | rfl | rfl | rfl
    · rw [g0] at hb; cases hb
    · rw [g1] at hb; cases hb
    · rw [g2] at hb; cases hb
    · rw [g3] at hb; cases hb
  have hb0 : LNx m.length (m.length + 4) m1 ls (.sl q oo nn none) := ⟨hl.keep km, fun h => (hnx h).keep km, hno⟩
  by_cases heq : xs.getD (wrdN c p) 0 = w
  · have hd : decide (xs.getD (addrA c p 0).toNat 0 = w) = true := by rw [hwt]; exact decide_eq_true heq
    rw [if_pos heq] at s1 ⊢
    obtain ⟨nN, rfl⟩ : ∃ nN : Nat, n = nN := ⟨n.toNat, by omega⟩
    have hnn : nn = ls.length := by simpa only [lenA, Option.some.injEq] using hlen
    subst hnn
    have hq2 := km.get hq1
    have hql := (List.getElem?_eq_some_iff.1 hq1).1
    simp (disch := first | assumption | omega | (simp only [zl] <;> omega) | (simp only [zn])) only [↓zd, zk, Nat.reduceSub, Nat.reduceAdd, Nat.reduceMul, Nat.reduceLeDiff, Nat.reduceEqDiff, reduceIte, Int.reduceEq, Int.reduceBEq, Int.reduceLE, Int.reduceLT, Int.reduceNeg, Int.reduceAdd, Int.reduceSub, Int.reduceMul, List.map, AV.cells, List.all, AV.one, eqV, eqAll, splice, fillA, List.replicate, resAll, resA, zm, zg, memC, hd, g0, g1, g2, g3, hone', evA, sliceA, getC_gcO, Option.getD_none, Option.getD_some, hq2, Int.toNat_natCast, Nat.mul_one]
    have hfin := fun (M : MM) (h : LNx m.length (m.length + 4) M ls (.sl q oo ls.length none)) => (si_drop (k := nN) h.sl (h.nx h0) (by omega)).2
    refine ⟨?_, .sl q (oo + nN) (ls.length - nN) none, v', rfl, hfin _ ?_, fun _ => .inr ⟨q, _, _, L, rfl, ?_⟩, SLN.sl (lo := m.length) (hi := m.length + 4) ?_⟩
    · repeat' first | exact km | refine Keep.set ?_ (by omega) _
    · repeat' first | exact hb0 | refine LNx.set ?_ (by omega) (by omega) (by intro _ _ h; cases h)
    · repeat' first | exact hq2 | rw [List.getElem?_set_ne (by omega)]
    · repeat' first | exact ⟨s1, hno⟩ | refine SLN.set ?_ (by omega) (by omega) (by intro _ _ h; cases h)
  · have hd : decide (xs.getD (addrA c p 0).toNat 0 = w) = false := by rw [hwt]; exact decide_eq_false heq
    rw [if_neg heq] at s1 ⊢
    simp (disch := first | assumption | omega | (simp only [zl] <;> omega) | (simp only [zn])) only [↓zd, zk, Nat.reduceSub, Nat.reduceAdd, Nat.reduceMul, Nat.reduceLeDiff, Nat.reduceEqDiff, reduceIte, Int.reduceEq, Int.reduceBEq, Int.reduceLE, Int.reduceLT, Int.reduceNeg, Int.reduceAdd, Int.reduceSub, Int.reduceMul, List.map, AV.cells, List.all, AV.one, eqV, eqAll, splice, fillA, List.replicate, resAll, resA, zm, zg, memC, hd, g0, g1, g2, g3, hone']
    refine ⟨?_, .sl q oo nn none, v', rfl, LNx.sl (lo := m.length) (hi := m.length + 4) ?_, LNx.nx (lo := m.length) (hi := m.length + 4) ?_, SLN.sl (lo := m.length) (hi := m.length + 4) ?_⟩
    · repeat' first | exact km | refine Keep.set ?_ (by omega) _
    · repeat' first | exact hb0 | refine LNx.set ?_ (by omega) (by omega) (by intro _ _ h; cases h)
    · repeat' first | exact hb0 | refine LNx.set ?_ (by omega) (by omega) (by intro _ _ h; cases h)
    · repeat' first | exact ⟨s1, hno⟩ | refine SLN.set ?_ (by omega) (by omega) (by intro _ _ h; cases h)
end Go.Am.F09
end
section
namespace Go.Am.F09
open Go.Am.F06 Go.Am.F10
set_option maxHeartbeats 16000000 in
theorem rlstep_run {m : MM} {wr : Bool} {c : Cf} {p o : Int} {s : LS} {xs : List Int} {v lv : AV} (hs : SU m wr xs v) (hl : SI m false s.ls lv) (hnx : 0 < s.ls.length → Nx m lv) (hok : LOk c p s) (hx : s.a = 0 ∨ OkL c xs) :
    Fn Grl2 ref09_StepLay [.agg (rlC c p s lv), .agg (memC v o)] m (RyP m c p (stepL c p xs s) (opsL s o)) := by
  have hone := slOne hs
  have hone2 := slOne hl
  simp only [AV.one] at hone hone2
  have hlen := hl.len
  have hl' := fun K : MM => hl.keep (Keep.app m K)
  have hnx' := fun (K : MM) h => (hnx h).keep (Keep.app m K)
  by_cases h0 : s.a = 0
  · have e1 : stepL c p xs s = (s, xs) := if_pos h0
    have e2 : opsL s o = o := if_pos h0
    rw [e1, e2]
    generalize Grl2 = G
    refine Fn_of rfl ?_
    simp (disch := first | assumption | omega | (simp only [zl] <;> omega) | (simp only [zn])) only [ref09_StepLay, ↓zd, zk, Nat.reduceSub, Nat.reduceAdd, Nat.reduceMul, Nat.reduceLeDiff, Nat.reduceEqDiff, reduceIte, Int.reduceEq, Int.reduceBEq, Int.reduceLE, Int.reduceLT, Int.reduceNeg, Int.reduceAdd, Int.reduceSub, Int.reduceMul, List.map, AV.cells, List.all, AV.one, eqV, eqAll, splice, fillA, List.replicate, resAll, resA, zm, zg, rlC, cfC, memC, hone, hone2, h0]
    exact ⟨Keep.app _ _, lv, v, by rw [rlC, cfC, h0]; rfl, hl' _, hnx' _, (hs.keep (.app _ _)).ro⟩
  by_cases hz : s.ls.length = 0
  · have e1 : stepL c p xs s = ({ s with a := 0 }, xs) := by simp only [stepL, if_neg h0, if_pos hz]
    have e2 : opsL s o = o := by simp only [opsL, if_neg h0, if_pos hz]
    rw [e1, e2]
    generalize Grl2 = G
    refine Fn_of rfl ?_
    rw [hz] at hlen
    simp (disch := first | assumption | omega | (simp only [zl] <;> omega) | (simp only [zn])) only [ref09_StepLay, ↓zd, zk, Nat.reduceSub, Nat.reduceAdd, Nat.reduceMul, Nat.reduceLeDiff, Nat.reduceEqDiff, reduceIte, Int.reduceEq, Int.reduceBEq, Int.reduceLE, Int.reduceLT, Int.reduceNeg, Int.reduceAdd, Int.reduceSub, Int.reduceMul, List.map, AV.cells, List.all, AV.one, eqV, eqAll, splice, fillA, List.replicate, resAll, resA, zm, zg, rlC, cfC, memC, hone, hone2, h0, ev_len, hlen, Int.ofNat_zero]
    exact ⟨Keep.app _ _, lv, v, rfl, hl' _, hnx' _, (hs.keep (.app _ _)).ro⟩
  have e2 : opsL s o = IntKind.u64.wrap (o + 1) := by simp only [opsL, if_neg h0, if_neg hz]
  rw [e2]
  have hx' := hx.resolve_left h0
  rcases hok.a.resolve_left h0 with ⟨_, h | h | h⟩
  · exact rlstep1 hs hl hnx hok hx' h (by omega)
  · exact rlstep2 hs hl hnx hok hx' h.1 (by omega)
  · exact rlstep3 hs hl hnx hok hx' h.1 (by omega)
def lcC (c : Cf) (p : Int) : Cf := if thereP c p then c else zeroC
def lcP (c : Cf) (p : Int) : Int := if thereP c p then p else 0
def RlnP (m : MM) (c : Cf) (p : Int) (xs : List Int) (r : AV) (m' : MM) : Prop := Keep m m' ∧ ∃ lv, r = .agg (rlC (lcC c p) (lcP c p) (newL c p xs) lv) ∧ SI m' false (newL c p xs).ls lv ∧ (0 < (newL c p xs).ls.length → Nx m' lv) ∧ Fr m.length lv
def RnI (M0 : MM) (c : Cf) (p : Int) (xs : List Int) (ys : AV) (b : Nat) (k : Nat) (e : List AV) (m : MM) : Prop := ∃ (i : Nat) (lv z7 z8 z9 : AV),
  e = [.agg (cfC c), .int .i64 p, ys, .ptr b 0, .ptr (b + 1) 0, .ptr (b + 4) 0, .int .i64 i, z7, z8, z9] ∧ k = xs.length - i ∧ i ≤ xs.length ∧ KeepB (b + 4) M0 m ∧ m[b + 4]? = some (.cells 12 false (rlC c p ⟨1, 0, 0, 0, []⟩ lv)) ∧ Own M0 m 1 (posL (xs.take i)).length (iC (posL (xs.take i))) lv
set_option maxHeartbeats 16000000 in
theorem rlnew_run {m : MM} {wr : Bool} {c : Cf} {p : Int} {xs : List Int} {ys : AV} (hy : SI m wr xs ys) (hn : xs.length ≤ 1000) : Fn [(169, F10.c_ref09_There)] ref09_NewLay [.agg (cfC c), .int .i64 p, ys] m (RlnP m c p xs) := by
  have a169 : assoc [(169, F10.c_ref09_There (X := Ob))] 169 = some F10.c_ref09_There := rfl
  generalize [(169, F10.c_ref09_There (X := Ob))] = G at a169 ⊢
  have hr := fun K : MM => rthere_eq (m ++ K) c p
  simp only [cfC, List.append_assoc, List.cons_append, List.nil_append] at hr
  have hlen := hy.len
  refine Fn_of rfl ?_
  by_cases h : thereP c p
  · have hnl : newL c p xs = ⟨1, 0, 0, 0, posL xs⟩ := if_pos h
    unfold RlnP lcC lcP
    rw [hnl, if_pos h, if_pos h]
    simp only [decide_eq_true h] at hr
    simp (disch := first | assumption | omega | (simp only [zl] <;> omega) | (simp only [zn])) only [ref09_NewLay, ↓zd, zk, Nat.reduceSub, Nat.reduceAdd, Nat.reduceMul, Nat.reduceLeDiff, Nat.reduceEqDiff, reduceIte, Int.reduceEq, Int.reduceBEq, Int.reduceLE, Int.reduceLT, Int.reduceNeg, Int.reduceAdd, Int.reduceSub, Int.reduceMul, List.map, AV.cells, List.all, AV.one, eqV, eqAll, splice, fillA, List.replicate, resAll, resA, zm, zg, cfC, a169, hr]
    obtain ⟨M0, hM0⟩ : ∃ M0 : MM, M0 = m ++ [Chunk.cells 6 false (cfC c), .cells 12 false (rlC zeroC 0 ⟨0, 0, 0, 0, []⟩ .nils), .cells 6 false (cfC c), .cells 6 false (cfC c), .cells 12 false (rlC c p ⟨1, 0, 0, 0, []⟩ .nils)] := ⟨_, rfl⟩
    have kM : Keep m M0 := by rw [hM0]; exact .app _ _
    have g1 : M0[m.length + 1]? = some (.cells 12 false (rlC zeroC 0 ⟨0, 0, 0, 0, []⟩ .nils)) := by rw [hM0, get_mid]; rfl
    have g4 : M0[m.length + 4]? = some (.cells 12 false (rlC c p ⟨1, 0, 0, 0, []⟩ .nils)) := by rw [hM0, get_mid]; rfl
    have lM : M0.length = m.length + 5 := by rw [hM0]; simp
    have hyM := hy.keep kM
    simp only [rlC, cfC, zeroC, List.cons_append, List.nil_append] at hM0
    rw [← hM0]
    clear hM0 hr hy
    have hmb : m.length = m.length := rfl
    generalize hb : m.length = b at g1 g4 lM hmb ⊢
    refine W_loop (RnI M0 c p xs ys b) xs.length (by simp only [FUEL]; omega) ⟨0, _, _, _, _, rfl, rfl, by omega, .refl _, g4, own_nil⟩ ?_
    rintro k e m3 ⟨i, lv, z7, z8, z9, rfl, rfl, hi, hk, gx, hown⟩
    have gx' := fun K : MM => (Keep.app m3 K).get gx
    have hy3 : SI m3 wr xs ys := Sl.stay hyM fun q o cap hq h0 => by
      obtain ⟨h1, ro, L, h2⟩ := Sl.lt hyM hq h0
      exact hk.2 q h1 fun hh => by rw [hh, g4] at h2; cases h2
    have hpl := pos_len (xs.take i)
    rw [List.length_take] at hpl
    have hone := hown.val1
    simp only [AV.one] at hone
    by_cases hil : i < xs.length
    · obtain ⟨x, hx⟩ : ∃ x, xs[i]? = some x := ⟨_, List.getElem?_eq_getElem hil⟩
      obtain ⟨q, oo, cap, ro, L, rfl, b2, b3, b4, b5⟩ := SI.val hy3 (by omega)
      have b6 := b5 i x hx
      have b2' := fun K : MM => (Keep.app m3 K).get b2
      have hsn := pos_snoc hx
      simp only [rlC, cfC, List.cons_append, List.nil_append] at gx gx'
      by_cases hx0 : x < 0
      · rw [if_pos hx0] at hsn
        have hge : decide (0 ≤ x) = false := decide_eq_false (by omega)
        simp (disch := first | assumption | omega | (simp only [zl] <;> omega) | (simp only [zn])) only [↓zd, zk, Nat.reduceSub, Nat.reduceAdd, Nat.reduceMul, Nat.reduceLeDiff, Nat.reduceEqDiff, reduceIte, Int.reduceEq, Int.reduceBEq, Int.reduceLE, Int.reduceLT, Int.reduceNeg, Int.reduceAdd, Int.reduceSub, Int.reduceMul, List.map, AV.cells, List.all, AV.one, eqV, eqAll, splice, fillA, List.replicate, resAll, resA, zm, zg, ev_len, hlen, b2, b6, hge]
        exact ⟨_, by omega, i + 1, lv, _, _, _, rfl, rfl, by omega, hk, gx, by rw [hsn]; exact hown⟩
      · rw [if_neg hx0] at hsn
        have hge : decide (0 ≤ x) = true := decide_eq_true (by omega)
        obtain ⟨ow', m4, hap, how, hl4, hs4⟩ := own_push2 hown x (by omega) hk.1
        have gx4 : m4[b + 4]? = m3[b + 4]? := hs4 _ (List.getElem?_eq_some_iff.1 gx).1 (.inr (by omega))
        rw [gx] at gx4
        have l4 := (List.getElem?_eq_some_iff.1 gx4).1
        obtain ⟨q2, rfl⟩ : ∃ q2, ow' = .sl q2 0 ((posL (xs.take i)).length + 1) none := by
          rcases how with ⟨h, _⟩ | ⟨q2, h, _⟩
          · simp at h
          · exact ⟨q2, by rw [h]; simp⟩
        simp (disch := first | assumption | omega | (simp only [zl] <;> omega) | (simp only [zn])) only [↓zd, zk, Nat.reduceSub, Nat.reduceAdd, Nat.reduceMul, Nat.reduceLeDiff, Nat.reduceEqDiff, reduceIte, Int.reduceEq, Int.reduceBEq, Int.reduceLE, Int.reduceLT, Int.reduceNeg, Int.reduceAdd, Int.reduceSub, Int.reduceMul, List.map, AV.cells, List.all, AV.one, eqV, eqAll, splice, fillA, List.replicate, resAll, resA, zm, zg, ev_len, hlen, b2, b2', b6, hge, gx, gx', gx4, evA, repeatL, List.flatten_cons, List.flatten_nil, hap, hone]
        refine ⟨_, by omega, i + 1, _, _, _, _, rfl, rfl, by omega, ⟨by simp only [List.length_set]; have := hk.1; omega, fun a ha hne => ?_⟩, List.getElem?_set_self l4, ?_⟩
        · rw [List.getElem?_set_ne (fun h => hne h.symm), hs4 a (by have := hk.1; omega) (.inr ha), hk.2 a ha hne]
        · rw [hsn]
          exact how.keep fun q C hq1 hq => (List.getElem?_set_ne (show b + 4 ≠ q by omega)).trans hq
    · have hin : i = xs.length := by omega
      rw [hin, List.take_length] at hown
      have hk1 := hk.1
      have g13 := (hk.2 (b + 1) (by omega) (by omega)).trans g1
      simp only [rlC, zeroC, cfC, List.cons_append, List.nil_append] at gx g13
      simp (disch := first | assumption | omega | (simp only [zl] <;> omega) | (simp only [zn])) only [↓zd, zk, Nat.reduceSub, Nat.reduceAdd, Nat.reduceMul, Nat.reduceLeDiff, Nat.reduceEqDiff, reduceIte, Int.reduceEq, Int.reduceBEq, Int.reduceLE, Int.reduceLT, Int.reduceNeg, Int.reduceAdd, Int.reduceSub, Int.reduceMul, List.map, AV.cells, List.all, AV.one, eqV, eqAll, splice, fillA, List.replicate, resAll, resA, zm, zg, ev_len, hlen, gx, g13, hone]
      refine ⟨⟨by simp only [List.length_set]; have := hk.1; omega, fun a ha => ?_⟩, lv, rfl, ?_, ?_, ?_⟩
      · rw [List.getElem?_set_ne (by omega), hk.2 a (by omega) (by omega), kM.2 a ha]
      · exact Sl.put hown.si.1.ro (fun ro L h => by rw [g13] at h; cases h) _
      · exact fun _ => hown.nx.put (fun ro L h => by rw [g13] at h; cases h) _
      · rcases hown with ⟨_, _, h⟩ | ⟨q, h, _, h2, _⟩
        · exact .inl h
        · exact .inr ⟨q, _, _, _, h, by omega⟩
  · have hnl : newL c p xs = ⟨0, 0, 0, 0, []⟩ := if_neg h
    unfold RlnP lcC lcP
    rw [hnl, if_neg h, if_neg h]
    simp only [decide_eq_false h] at hr
    simp (disch := first | assumption | omega | (simp only [zl] <;> omega) | (simp only [zn])) only [ref09_NewLay, ↓zd, zk, Nat.reduceSub, Nat.reduceAdd, Nat.reduceMul, Nat.reduceLeDiff, Nat.reduceEqDiff, reduceIte, Int.reduceEq, Int.reduceBEq, Int.reduceLE, Int.reduceLT, Int.reduceNeg, Int.reduceAdd, Int.reduceSub, Int.reduceMul, List.map, AV.cells, List.all, AV.one, eqV, eqAll, splice, fillA, List.replicate, resAll, resA, zm, zg, cfC, a169, hr]
    exact ⟨.app _ _, .nils, rfl, Sl.nil, fun h => by simp at h, .inl rfl⟩
end Go.Am.F09
end
section
namespace Go.Am.F09
open Go.Am.F06 Go.Am.F10
def Gly : List (Nat × AFun Ob) := [(184, pureF worksG), (134, F10.c_docs_Filled), (135, amFunc F10.Gmem F10.docs_Mem), (199, amFunc Gnl put_NewLay), (147, F10.c_docs_Config), (201, c_ref09_NewLay), (197, amFunc Gpo put_Lay_Hands), (84, F10.c_kit_SameInts), (196, c_put_Lay_Done), (68, amFunc F10.Gsmem F10.docs_SameMem), (46, memF fun s rest => (opsAsk s rest).map fun v => (v, s)), (202, amFunc Grl2 ref09_StepLay), (195, amFunc Glst put_Lay_Step), (193, amFunc Gpk law09_poked)]
def lyB : AC := match sqN 7 law09_PutLayPlays.body with | .seq _ (.block _ (.loop b)) => b | _ => .skip
def lyC : AC := match lyB with | .seq c _ => c | _ => .skip
def lyX : AC := match lyB with | .seq _ (.seq (.block _ r) _) => r | _ => .skip
def lyI : AC := match lyB with | .seq _ (.seq _ i) => i | _ => .skip
def lyT : AC := sqN 0 lyX
def lyU : AC := sqT 1 lyX
def lyE : AC := sqT 8 law09_PutLayPlays.body
def lyW : AC := sqN 6 law09_PutLayPlays.body
theorem lplays_body : law09_PutLayPlays = { nloc := 29, npar := 5, res := [.loc 6], body := .seq (sqN 0 law09_PutLayPlays.body) (.seq (sqN 1 law09_PutLayPlays.body) (.seq (sqN 2 law09_PutLayPlays.body) (.seq (sqN 3 law09_PutLayPlays.body) (.seq (sqN 4 law09_PutLayPlays.body) (.seq (sqN 5 law09_PutLayPlays.body) (.seq lyW (.seq (.seq (.region [⟨.mov, [.c (.int .i64 0)], some 13, none⟩]) (.block 2 (.loop (.seq lyC (.seq (.block 3 (.seq lyT lyU)) lyI))))) lyE))))))) } := rfl
def LtE (c0 : Cf) (p : Int) (qv bv lv : AV) (cb j rb : Nat) (ow : AV) (xj yb : Nat) (z12 : AV) (i : Nat) (e : List AV) : Prop := ∃ z14 z15 z16 z17 z18 z19 z20 z21 z22 z23 z24 z25 z26 z27 z28 : AV,
  e = [.agg (cfC c0), .int .i64 p, qv, bv, lv, .ptr cb 0, .bool false, .ptr j 0, .ptr rb 0, ow, .ptr xj 0, .ptr yb 0, z12, .int .i64 i, z14, z15, z16, z17, z18, z19, z20, z21, z22, z23, z24, z25, z26, z27, z28]
def LtI (m0 : MM) (c0 : Cf) (p : Int) (qv bv lv : AV) (cb j rb : Nat) (ow : AV) (xj yb : Nat) (z12 : AV) (i : Nat) (k : Nat) (e : List AV) (m : MM) : Prop := ∃ (t : Nat) (z15 z16 z17 z18 z19 z20 z21 z22 z23 z24 z25 z26 z27 z28 : AV),
  e = [.agg (cfC c0), .int .i64 p, qv, bv, lv, .ptr cb 0, .bool false, .ptr j 0, .ptr rb 0, ow, .ptr xj 0, .ptr yb 0, z12, .int .i64 i, .int .i64 t, z15, z16, z17, z18, z19, z20, z21, z22, z23, z24, z25, z26, z27, z28] ∧ k = 2 - t ∧ t ≤ 2 ∧ Keep m0 m
def LhI (mm : MM) (c0 : Cf) (p : Int) (qv bv lv : AV) (cb j rb : Nat) (ow : AV) (xj yb : Nat) (z12 : AV) (i : Nat) (t n : Nat) (h : AV) (B : Nat) (k : Nat) (e : List AV) (m : MM) : Prop := ∃ (u : Nat) (z17 z18 z19 z20 z21 z22 z23 z24 z25 z26 z27 z28 : AV),
  e = [.agg (cfC c0), .int .i64 p, qv, bv, lv, .ptr cb 0, .bool false, .ptr j 0, .ptr rb 0, ow, .ptr xj 0, .ptr yb 0, z12, .int .i64 i, .int .i64 t, h, .int .i64 u, z17, z18, z19, z20, z21, z22, z23, z24, z25, z26, z27, z28] ∧ k = n - u ∧ u ≤ n ∧ Fl mm m n h B
set_option maxHeartbeats 16000000 in
theorem lyT_run {m : MM} {c0 c c' : Cf} {p p1 p' : Int} {qv bv lv ow lx ly z12 : AV} {cb j rb xj yb i : Nat} {s : LS} {z14 z15 z16 z17 z18 z19 z20 z21 z22 z23 z24 z25 z26 z27 z28 : AV}
    (hlm : LM m xj c p1 s lx) (hy : m[yb]? = some (.cells 12 false (rlC c' p' s ly))) (hyl : SI m false s.ls ly) (hl : s.ls.length ≤ 100) :
    W Gly lyT (fun x e m' => x = .normal ∧ Keep m m' ∧ LtE c0 p qv bv lv cb j rb ow xj yb z12 i e) [.agg (cfC c0), .int .i64 p, qv, bv, lv, .ptr cb 0, .bool false, .ptr j 0, .ptr rb 0, ow, .ptr xj 0, .ptr yb 0, z12, .int .i64 i, z14, z15, z16, z17, z18, z19, z20, z21, z22, z23, z24, z25, z26, z27, z28] m := by
  have a197 : assoc Gly 197 = some (amFunc Gpo put_Lay_Hands) := rfl
  have a84 : assoc Gly 84 = some F10.c_kit_SameInts := rfl
  have hse : F10.c_kit_SameInts (X := Ob) = amFunc [] F10.kit_SameInts := rfl
  generalize Gly = G at a197 a84 ⊢
  simp (disch := first | assumption | omega | (simp only [zl] <;> omega) | (simp only [zn])) only [lyT, lyX, lyB, sqN, law09_PutLayPlays, ↓zd, zk, Nat.reduceSub, Nat.reduceAdd, Nat.reduceMul, Nat.reduceLeDiff, Nat.reduceEqDiff, reduceIte, Int.reduceEq, Int.reduceBEq, Int.reduceLE, Int.reduceLT, Int.reduceNeg, Int.reduceAdd, Int.reduceSub, Int.reduceMul, List.map, AV.cells, List.all, AV.one, eqV, eqAll, splice, fillA, List.replicate, resAll, resA, zm, zg]
  refine W_loop (LtI m c0 p qv bv lv cb j rb ow xj yb z12 i) 2 (by simp only [FUEL]; omega) ⟨0, _, _, _, _, _, _, _, _, _, _, _, _, _, _, rfl, rfl, by omega, .refl _⟩ ?_
  rintro k e mm ⟨t, y15, y16, y17, y18, y19, y20, y21, y22, y23, y24, y25, y26, y27, y28, rfl, rfl, ht, hk⟩
  rcases Nat.lt_or_ge t 2 with h2 | h2
  · have hlm2 : LM mm xj c p1 s lx := ⟨hk.get hlm.get, hlm.l.keep hk, fun h0 => (hlm.nx h0).keep hk⟩
    simp (disch := first | assumption | omega | (simp only [zl] <;> omega) | (simp only [zn])) only [↓zd, zk, Nat.reduceSub, Nat.reduceAdd, Nat.reduceMul, Nat.reduceLeDiff, Nat.reduceEqDiff, reduceIte, Int.reduceEq, Int.reduceBEq, Int.reduceLE, Int.reduceLT, Int.reduceNeg, Int.reduceAdd, Int.reduceSub, Int.reduceMul, List.map, AV.cells, List.all, AV.one, eqV, eqAll, splice, fillA, List.replicate, resAll, resA, zm, zg, a197]
    refine OK_fn (lhands_run hlm2 (by omega)) ?_
    rintro h m1 ⟨k1, s1, f1⟩
    have hk1 := hk.trans k1
    have hy1 := hk1.get hy
    have e1 := Fn_eq (same_run s1 (hyl.keep hk1) (by simp only [FUEL]; omega))
    rw [← hse] at e1
    simp only [decide_true] at e1
    simp only [rlC, cfC, List.cons_append, List.nil_append] at hy1
    simp (disch := first | assumption | omega | (simp only [zl] <;> omega) | (simp only [zn])) only [↓zd, zk, Nat.reduceSub, Nat.reduceAdd, Nat.reduceMul, Nat.reduceLeDiff, Nat.reduceEqDiff, reduceIte, Int.reduceEq, Int.reduceBEq, Int.reduceLE, Int.reduceLT, Int.reduceNeg, Int.reduceAdd, Int.reduceSub, Int.reduceMul, List.map, AV.cells, List.all, AV.one, eqV, eqAll, splice, fillA, List.replicate, resAll, resA, zm, zg, hy1, a84, e1]
    generalize s.ls = hs at s1 hl
    refine W_loop (LhI mm c0 p qv bv lv cb j rb ow xj yb z12 i t hs.length h m1.length) hs.length (by simp only [FUEL]; omega) ⟨0, _, _, _, _, _, _, _, _, _, _, _, _, rfl, rfl, by omega, ⟨k1, ⟨hs, rfl, s1⟩, f1, fun q oo cap hq h0 => (Sl.lt s1 hq h0).1, s1.len⟩⟩ ?_
    rintro k e M ⟨u, w17, w18, w19, w20, w21, w22, w23, w24, w25, w26, w27, w28, rfl, rfl, hu, hF⟩
    have hln := hF.len
    rcases Nat.lt_or_ge u hs.length with hu2 | hu2
    · obtain ⟨q, oo, cap, L, rfl, b1, b2, b3, b4, hF'⟩ := hF.put hu2 77
      simp (disch := first | assumption | omega | (simp only [zl] <;> omega) | (simp only [zn])) only [↓zd, zk, Nat.reduceSub, Nat.reduceAdd, Nat.reduceMul, Nat.reduceLeDiff, Nat.reduceEqDiff, reduceIte, Int.reduceEq, Int.reduceBEq, Int.reduceLE, Int.reduceLT, Int.reduceNeg, Int.reduceAdd, Int.reduceSub, Int.reduceMul, List.map, AV.cells, List.all, AV.one, eqV, eqAll, splice, fillA, List.replicate, resAll, resA, zm, zg, ev_len, hln, b1]
      exact ⟨hs.length - (u + 1), by omega, u + 1, _, _, _, _, _, _, _, _, _, _, _, _, rfl, rfl, by omega, hF'⟩
    · simp (disch := first | assumption | omega | (simp only [zl] <;> omega) | (simp only [zn])) only [↓zd, zk, Nat.reduceSub, Nat.reduceAdd, Nat.reduceMul, Nat.reduceLeDiff, Nat.reduceEqDiff, reduceIte, Int.reduceEq, Int.reduceBEq, Int.reduceLE, Int.reduceLT, Int.reduceNeg, Int.reduceAdd, Int.reduceSub, Int.reduceMul, List.map, AV.cells, List.all, AV.one, eqV, eqAll, splice, fillA, List.replicate, resAll, resA, zm, zg, ev_len, hln]
      exact ⟨2 - (t + 1), by omega, t + 1, _, _, _, _, _, _, _, _, _, _, _, _, _, _, rfl, rfl, by omega, hk.trans hF.keep⟩
  · simp (disch := first | assumption | omega | (simp only [zl] <;> omega) | (simp only [zn])) only [↓zd, zk, Nat.reduceSub, Nat.reduceAdd, Nat.reduceMul, Nat.reduceLeDiff, Nat.reduceEqDiff, reduceIte, Int.reduceEq, Int.reduceBEq, Int.reduceLE, Int.reduceLT, Int.reduceNeg, Int.reduceAdd, Int.reduceSub, Int.reduceMul, List.map, AV.cells, List.all, AV.one, eqV, eqAll, splice, fillA, List.replicate, resAll, resA, zm, zg]
    exact ⟨hk, _, _, _, _, _, _, _, _, _, _, _, _, _, _, _, rfl⟩
end Go.Am.F09
end
section
namespace Go.Am.F09
open Go.Am.F06 Go.Am.F10
structure LyS (m0 : MM) (c c' : Cf) (p p' : Int) (j rb xj yb : Nat) (ps : List Pk) (lv : AV) (s : LS) (xs : List Int) (o : Int) (lx ly v : AV) (m : MM) : Prop where
  k0 : Keep m0 m
  lm : LM m xj c p s lx
  mem : ∃ st, m[j]? = some (.abs (.mem st)) ∧ RelM xs o st
  ref : m[rb]? = some (.cells 2 false (memC v o))
  su : SU m false xs v
  y : m[yb]? = some (.cells 12 false (rlC c' p' s ly))
  yl : SI m false s.ls ly
  yn : 0 < s.ls.length → Nx m ly
  ne : xj ≠ yb
  ok : LOk c p s
  okL : OkL c xs
  cc : s.a = 0 ∨ (c' = c ∧ p' = p)
  ps : SPk m false ps lv
theorem LyS.mv {m0 m m' : MM} {c c' : Cf} {p p' : Int} {j rb xj yb : Nat} {ps : List Pk} {lv : AV} {s : LS} {xs : List Int} {o : Int} {lx ly v : AV} {q : Nat} {L : List Int} (h : LyS m0 c c' p p' j rb xj yb ps lv s xs o lx ly v m) (hk : KeepB q m m') (hq : m[q]? = some (.cells 1 false (iC L))) (h0 : m0.length ≤ q) (hx : Off q lx) (hy : Off q ly) : LyS m0 c c' p p' j rb xj yb ps lv s xs o lx ly v m' := by
  obtain ⟨st, hj, hr⟩ := h.mem
  have g : ∀ {i : Nat} {C : Chunk Ob}, m[i]? = some C → C ≠ .cells 1 false (iC L) → m'[i]? = some C := fun hi hC => hk.get hi fun hh => by rw [hh, hq] at hi; injection hi with hi; exact hC hi.symm
  have nx : ∀ {w : AV}, Off q w → Nx m w → 0 < s.ls.length → lenA w = some s.ls.length → Nx m' w := fun {w} ho hn hp hl => by
    rcases hn with h1 | ⟨q2, oo, n, l, h1, h2⟩
    · exact .inl h1
    · rw [h1] at hl; simp only [lenA, Option.some.injEq] at hl
      exact .inr ⟨q2, oo, n, l, h1, hk.get h2 (ho _ _ _ _ h1 (by omega))⟩
  have hl0 := h.k0.1
  refine ⟨⟨by have := hk.1; omega, fun i hi => (hk.2 i (by omega) (by omega)).trans (h.k0.2 i hi)⟩, ⟨g h.lm.get (by simp), hk.off hx h.lm.l, fun hp => nx hx (h.lm.nx hp) hp h.lm.l.len⟩, ⟨st, g hj (by simp), hr⟩, g h.ref (by simp), hk.off (su_off h.su hq) h.su, g h.y (by simp), hk.off hy h.yl, fun hp => nx hy (h.yn hp) hp h.yl.len, h.ne, h.ok, h.okL, h.cc, ?_⟩
  refine Sl.stay h.ps fun q2 oo cap hw hp => ?_
  obtain ⟨h1, ro, l, h2⟩ := Sl.lt h.ps hw hp
  exact hk.2 q2 h1 fun hh => by rw [hh, hq] at h2; cases h2
theorem LyS.keep {m0 m m' : MM} {c c' : Cf} {p p' : Int} {j rb xj yb : Nat} {ps : List Pk} {lv : AV} {s : LS} {xs : List Int} {o : Int} {lx ly v : AV} (h : LyS m0 c c' p p' j rb xj yb ps lv s xs o lx ly v m) (k : Keep m m') : LyS m0 c c' p p' j rb xj yb ps lv s xs o lx ly v m' := by
  obtain ⟨st, hj, hr⟩ := h.mem
  exact ⟨h.k0.trans k, ⟨k.get h.lm.get, h.lm.l.keep k, fun hp => (h.lm.nx hp).keep k⟩, ⟨st, k.get hj, hr⟩, k.get h.ref, h.su.keep k, k.get h.y, h.yl.keep k, fun hp => (h.yn hp).keep k, h.ne, h.ok, h.okL, h.cc, h.ps.keep k⟩
structure LyB (m0 : MM) (c : Cf) (p : Int) (j xj : Nat) (ps : List Pk) (lv : AV) (s : LS) (xs : List Int) (o : Int) (lx : AV) (m : MM) : Prop where
  k0 : Keep m0 m
  lm : LM m xj c p s lx
  mem : ∃ st, m[j]? = some (.abs (.mem st)) ∧ RelM xs o st
  ps : SPk m false ps lv
theorem LyS.b {m0 m : MM} {c c' : Cf} {p p' : Int} {j rb xj yb : Nat} {ps : List Pk} {lv : AV} {s : LS} {xs : List Int} {o : Int} {lx ly v : AV} (h : LyS m0 c c' p p' j rb xj yb ps lv s xs o lx ly v m) : LyB m0 c p j xj ps lv s xs o lx m := ⟨h.k0, h.lm, h.mem, h.ps⟩
theorem LyB.keep {m0 m m' : MM} {c : Cf} {p : Int} {j xj : Nat} {ps : List Pk} {lv : AV} {s : LS} {xs : List Int} {o : Int} {lx : AV} (h : LyB m0 c p j xj ps lv s xs o lx m) (k : Keep m m') : LyB m0 c p j xj ps lv s xs o lx m' := by
  obtain ⟨st, hj, hr⟩ := h.mem
  exact ⟨h.k0.trans k, ⟨k.get h.lm.get, h.lm.l.keep k, fun hp => (h.lm.nx hp).keep k⟩, ⟨st, k.get hj, hr⟩, h.ps.keep k⟩
theorem LyB.setb {m0 m : MM} {c : Cf} {p : Int} {j xj : Nat} {ps : List Pk} {lv : AV} {s : LS} {xs : List Int} {o : Int} {lx : AV} (h : LyB m0 c p j xj ps lv s xs o lx m) {b sz : Nat} {L : List AV} (hb : m[b]? = some (.cells sz false L)) (h1 : sz ≠ 1) (h3 : sz ≠ 3) (hx : b ≠ xj) (h0 : m0.length ≤ b) (C : Chunk Ob) : LyB m0 c p j xj ps lv s xs o lx (m.set b C) := by
  obtain ⟨st, hj, hr⟩ := h.mem
  have e2 : b ≠ j := fun hh => by rw [hh, hj] at hb; cases hb
  have hn : ∀ z, z ≠ sz → ∀ ro L, m[b]? ≠ some (.cells z ro L) := fun z hz ro L hh => by rw [hb] at hh; injection hh with hh; injection hh with hh; exact hz hh.symm
  exact ⟨h.k0.set h0 _, ⟨by rw [List.getElem?_set_ne hx]; exact h.lm.get, Sl.put h.lm.l (hn 1 (fun hh => h1 hh.symm)) _, fun hp => (h.lm.nx hp).put (hn 1 (fun hh => h1 hh.symm)) _⟩, ⟨st, by rw [List.getElem?_set_ne e2]; exact hj, hr⟩, Sl.put h.ps (hn 3 (fun hh => h3 hh.symm)) _⟩
theorem LyB.step {m0 m m' : MM} {c c' : Cf} {p p' : Int} {j rb xj yb : Nat} {ps : List Pk} {lv : AV} {s s' : LS} {xs xs' : List Int} {o o' : Int} {lx : AV} (h : LyB m0 c p j xj ps lv s xs o lx m)
    (hx0 : m0.length ≤ xj) (hj0 : m0.length ≤ j) {ly' v' : AV} (hy : m[yb]? = some (.cells 12 false (rlC c' p' s' ly'))) (hyl : SI m false s'.ls ly') (hyn : 0 < s'.ls.length → Nx m ly') (hne : xj ≠ yb) (hv' : SU m false xs' v') (hrb : m[rb]? = some (.cells 2 false (memC v' o'))) (hok : LOk c p s') (hokL : OkL c xs') (hcc : s'.a = 0 ∨ (c' = c ∧ p' = p)) {r : AV} (hP : LsP m c p xj j (s', xs') o' r m') :
    r = .bool (decide (s'.a = 0)) ∧ ∃ lx2, LyS m0 c c' p p' j rb xj yb ps lv s' xs' o' lx2 ly' v' m' := by
  obtain ⟨rfl, k1, ⟨lx2, hlm⟩, st', hj', hr'⟩ := hP
  obtain ⟨st, hj, hr⟩ := h.mem
  have hnx : ∀ sz, sz ≠ 12 → ∀ ro L, m[xj]? ≠ some (.cells sz ro L) := fun sz hsz ro L hh => by rw [h.lm.get] at hh; injection hh with hh; injection hh with hh; exact hsz hh.symm
  have hnj : ∀ sz ro L, m[j]? ≠ some (.cells sz ro L) := fun sz ro L hh => by rw [hj] at hh; cases hh
  have e2 : rb ≠ xj := fun hh => hnx 2 (by decide) _ _ (by rw [← hh]; exact hrb)
  have e3 : rb ≠ j := fun hh => hnj 2 _ _ (by rw [← hh]; exact hrb)
  have e4 : yb ≠ j := fun hh => hnj 12 _ _ (by rw [← hh]; exact hy)
  have hk0 := h.k0.1
  obtain ⟨f1, f2⟩ := LM.mv (s := s') (c := c) (p := p) hyl hyn (hnx 1 (by decide)) (hnj 1) k1
  exact ⟨rfl, lx2, ⟨by have := k1.1; omega, fun i hi => (k1.2 i (by omega) (by omega) (by omega)).trans (h.k0.2 i hi)⟩, hlm, ⟨st', hj', hr'⟩, k1.get hrb e2 e3, k1.sl (szj := 0) (szk := 0) (hnx 1 (by decide)) (hnj 1) hv', k1.get hy (fun hh => hne hh.symm) e4, f1, f2, hne, hok, hokL, hcc, k1.sl (szj := 0) (szk := 0) (hnx 3 (by decide)) (hnj 3) h.ps⟩
theorem LyS.poke {m0 m m' : MM} {c c' : Cf} {p p' : Int} {j rb xj yb : Nat} {ps : List Pk} {lv : AV} {s : LS} {xs xs' : List Int} {o o' : Int} {lx ly v v' : AV} (h : LyS m0 c c' p p' j rb xj yb ps lv s xs o lx ly v m) (hj0 : m0.length ≤ j) (hr0 : m0.length ≤ rb) (k : KeepB j m m') {st' : MemSt} (hj' : m'[j]? = some (.abs (.mem st'))) (hr' : RelM xs' o' st') (hsu : SU m' false xs' v') (hokL : OkL c xs') :
    LyS m0 c c' p p' j rb xj yb ps lv s xs' o' lx ly v' (m'.set rb (.cells 2 false (memC v' o'))) := by
  obtain ⟨st, hj, hr⟩ := h.mem
  have hl := k.1
  have hk0 := h.k0.1
  have lr : rb < m.length := (List.getElem?_eq_some_iff.1 h.ref).1
  have nj : ∀ sz ro L, m[j]? ≠ some (.cells sz ro L) := fun sz ro L hh => by rw [hj] at hh; cases hh
  have n2 : rb ≠ j := fun hh => nj 2 _ _ (by rw [← hh]; exact h.ref)
  have n1 : xj ≠ rb := fun hh => by have h1 := h.lm.get; rw [hh, h.ref] at h1; cases h1
  have n3 : yb ≠ rb := fun hh => by have h1 := h.y; rw [hh, h.ref] at h1; cases h1
  have n4 : xj ≠ j := fun hh => nj 12 _ _ (by rw [← hh]; exact h.lm.get)
  have n5 : yb ≠ j := fun hh => nj 12 _ _ (by rw [← hh]; exact h.y)
  have lx' : xj < m.length := (List.getElem?_eq_some_iff.1 h.lm.get).1
  have ly' : yb < m.length := (List.getElem?_eq_some_iff.1 h.y).1
  have hrb' : m'[rb]? = some (.cells 2 false (memC v o)) := by rw [k.2 rb lr n2]; exact h.ref
  have nb : ∀ sz, sz ≠ 2 → ∀ ro L, m'[rb]? ≠ some (.cells sz ro L) := fun sz hsz ro L hh => by rw [hrb'] at hh; injection hh with hh; injection hh with hh; exact hsz hh.symm
  have row : ∀ {wr : Bool} {sz n : Nat} {l : List AV} {w : AV}, sz ≠ 2 → Sl m wr sz n l w → Sl (m'.set rb (.cells 2 false (memC v' o'))) wr sz n l w := fun hsz hs =>
    Sl.put (Sl.stay hs fun q oo cap hw h0 => by
      obtain ⟨h1, ro, L, h2⟩ := Sl.lt hs hw h0
      exact k.2 q h1 fun hh => nj _ ro L (by rw [← hh]; exact h2)) (nb _ hsz) _
  have nxr : ∀ {w : AV}, Nx m w → Nx (m'.set rb (.cells 2 false (memC v' o'))) w := fun {w} hn => by
    rcases hn with h1 | ⟨q2, oo, n, l, h1, h2⟩
    · exact .inl h1
    · exact Nx.put (v := w) (.inr ⟨q2, oo, n, l, h1, k.get h2 fun hh => nj 1 _ _ (by rw [← hh]; exact h2)⟩) (nb 1 (by decide)) _
  have hg : ∀ i, i < m.length → i ≠ j → i ≠ rb → (m'.set rb (.cells 2 false (memC v' o')))[i]? = m[i]? := fun i hi h1 h2 => by
    rw [List.getElem?_set_ne (fun hh => h2 hh.symm), k.2 i hi h1]
  exact ⟨⟨by simp only [List.length_set]; omega, fun i hi => by rw [hg i (by omega) (by omega) (by omega), h.k0.2 i hi]⟩, ⟨by rw [hg xj lx' n4 n1]; exact h.lm.get, row (by decide) h.lm.l, fun hp => nxr (h.lm.nx hp)⟩, ⟨st', by rw [List.getElem?_set_ne n2]; exact hj', hr'⟩, List.getElem?_set_self (by omega), Sl.put hsu (nb 1 (by decide)) _, by rw [hg yb ly' n5 n3]; exact h.y, row (by decide) h.yl, fun hp => nxr (h.yn hp), h.ne, h.ok, hokL, h.cc, row (by decide) h.ps⟩
def LwP (M : MM) (c0 : Cf) (p : Int) (qv bv lv : AV) (cb j rb : Nat) (ow : AV) (xj yb : Nat) (ls : List Int) (e : List AV) (m : MM) : Prop := (∃ z12 z13 z14 z15 z16 z17 z18 z19 z20 z21 z22 z23 z24 z25 z26 z27 z28 : AV, e = [.agg (cfC c0), .int .i64 p, qv, bv, lv, .ptr cb 0, .bool false, .ptr j 0, .ptr rb 0, ow, .ptr xj 0, .ptr yb 0, z12, z13, z14, z15, z16, z17, z18, z19, z20, z21, z22, z23, z24, z25, z26, z27, z28]) ∧ (m = M ∨ ∃ q, ow = .sl q 0 ls.length none ∧ M[q]? = some (.cells 1 false (iC ls)) ∧ KeepB q M m)
def LwI (M : MM) (c0 : Cf) (p : Int) (qv bv lv : AV) (cb j rb q xj yb : Nat) (n : Nat) (k : Nat) (e : List AV) (m : MM) : Prop := ∃ (u : Nat) (z13 z14 z15 z16 z17 z18 z19 z20 z21 z22 z23 z24 z25 z26 z27 z28 : AV) (ys : List Int),
  e = [.agg (cfC c0), .int .i64 p, qv, bv, lv, .ptr cb 0, .bool false, .ptr j 0, .ptr rb 0, .sl q 0 n none, .ptr xj 0, .ptr yb 0, .int .i64 u, z13, z14, z15, z16, z17, z18, z19, z20, z21, z22, z23, z24, z25, z26, z27, z28] ∧ k = n - u ∧ u ≤ n ∧ KeepB q M m ∧ ys.length = n ∧ m[q]? = some (.cells 1 false (iC ys))
set_option maxHeartbeats 16000000 in
theorem lyW_run {mB M : MM} {c0 : Cf} {p : Int} {qv bv lv ow : AV} {cb j rb xj yb : Nat} {ls : List Int} {z12 z13 z14 z15 z16 z17 z18 z19 z20 z21 z22 z23 z24 z25 z26 z27 z28 : AV} (ho : Own mB M 1 ls.length (iC ls) ow) (hn : ls.length ≤ 100) :
    W Gly lyW (fun x e m' => x = .normal ∧ LwP M c0 p qv bv lv cb j rb ow xj yb ls e m') [.agg (cfC c0), .int .i64 p, qv, bv, lv, .ptr cb 0, .bool false, .ptr j 0, .ptr rb 0, ow, .ptr xj 0, .ptr yb 0, z12, z13, z14, z15, z16, z17, z18, z19, z20, z21, z22, z23, z24, z25, z26, z27, z28] M := by
  generalize Gly = G
  have hl0 : lenA AV.nils = some 0 := rfl
  have hlq : ∀ q n, lenA (.sl q 0 n none) = some n := fun _ _ => rfl
  rcases ho with ⟨h1, _, rfl⟩ | ⟨q, rfl, hq, _, hql⟩
  · simp (disch := first | assumption | omega | (simp only [zl] <;> omega) | (simp only [zn])) only [lyW, sqN, law09_PutLayPlays, ↓zd, zk, Nat.reduceSub, Nat.reduceAdd, Nat.reduceMul, Nat.reduceLeDiff, Nat.reduceEqDiff, reduceIte, Int.reduceEq, Int.reduceBEq, Int.reduceLE, Int.reduceLT, Int.reduceNeg, Int.reduceAdd, Int.reduceSub, Int.reduceMul, List.map, AV.cells, List.all, AV.one, eqV, eqAll, splice, fillA, List.replicate, resAll, resA, zm, zg]
    refine W_loop (fun k e m => m = M ∧ ∃ z13 z14 z15 z16 z17 z18 z19 z20 z21 z22 z23 z24 z25 z26 z27 z28 : AV, e = [.agg (cfC c0), .int .i64 p, qv, bv, lv, .ptr cb 0, .bool false, .ptr j 0, .ptr rb 0, .nils, .ptr xj 0, .ptr yb 0, .int .i64 0, z13, z14, z15, z16, z17, z18, z19, z20, z21, z22, z23, z24, z25, z26, z27, z28]) 0 (by simp only [FUEL]; omega) ⟨rfl, _, _, _, _, _, _, _, _, _, _, _, _, _, _, _, _, rfl⟩ ?_
    rintro k e m ⟨rfl, y13, y14, y15, y16, y17, y18, y19, y20, y21, y22, y23, y24, y25, y26, y27, y28, rfl⟩
    simp (disch := first | assumption | omega | (simp only [zl] <;> omega) | (simp only [zn])) only [↓zd, zk, Nat.reduceSub, Nat.reduceAdd, Nat.reduceMul, Nat.reduceLeDiff, Nat.reduceEqDiff, reduceIte, Int.reduceEq, Int.reduceBEq, Int.reduceLE, Int.reduceLT, Int.reduceNeg, Int.reduceAdd, Int.reduceSub, Int.reduceMul, List.map, AV.cells, List.all, AV.one, eqV, eqAll, splice, fillA, List.replicate, resAll, resA, zm, zg, ev_len, hl0, Int.ofNat_zero]
    exact ⟨⟨_, _, _, _, _, _, _, _, _, _, _, _, _, _, _, _, _, rfl⟩, .inl rfl⟩
  · simp (disch := first | assumption | omega | (simp only [zl] <;> omega) | (simp only [zn])) only [lyW, sqN, law09_PutLayPlays, ↓zd, zk, Nat.reduceSub, Nat.reduceAdd, Nat.reduceMul, Nat.reduceLeDiff, Nat.reduceEqDiff, reduceIte, Int.reduceEq, Int.reduceBEq, Int.reduceLE, Int.reduceLT, Int.reduceNeg, Int.reduceAdd, Int.reduceSub, Int.reduceMul, List.map, AV.cells, List.all, AV.one, eqV, eqAll, splice, fillA, List.replicate, resAll, resA, zm, zg]
    generalize hnn : ls.length = n at hn
    refine W_loop (LwI M c0 p qv bv lv cb j rb q xj yb n) n (by simp only [FUEL]; omega) ⟨0, _, _, _, _, _, _, _, _, _, _, _, _, _, _, _, _, ls, rfl, rfl, by omega, .refl _, hnn, hq⟩ ?_
    rintro k e m ⟨u, y13, y14, y15, y16, y17, y18, y19, y20, y21, y22, y23, y24, y25, y26, y27, y28, ys, rfl, rfl, hu, hk, hys, hm⟩
    by_cases hun : u < n
    · have hset : (iC ys).set u (.int .i64 77) = iC (ys.set u 77) := by simp [iC, List.map_set]
      have hlen : (iC ys).length = n := by rw [iC_len, hys]
      simp (disch := first | assumption | omega | (simp only [zl] <;> omega) | (simp only [zn])) only [↓zd, zk, Nat.reduceSub, Nat.reduceAdd, Nat.reduceMul, Nat.reduceLeDiff, Nat.reduceEqDiff, reduceIte, Int.reduceEq, Int.reduceBEq, Int.reduceLE, Int.reduceLT, Int.reduceNeg, Int.reduceAdd, Int.reduceSub, Int.reduceMul, List.map, AV.cells, List.all, AV.one, eqV, eqAll, splice, fillA, List.replicate, resAll, resA, zm, zg, ev_len, hlq, hm, hset, hlen]
      refine ⟨n - (u + 1), by omega, u + 1, _, _, _, _, _, _, _, _, _, _, _, _, _, _, _, _, ys.set u 77, rfl, rfl, by omega, ?_, by simpa using hys, List.getElem?_set_self (List.getElem?_eq_some_iff.1 hm).1⟩
      exact ⟨by simpa using hk.1, fun a ha hne => by rw [List.getElem?_set_ne (fun h => hne h.symm)]; exact hk.2 a ha hne⟩
    · simp (disch := first | assumption | omega | (simp only [zl] <;> omega) | (simp only [zn])) only [↓zd, zk, Nat.reduceSub, Nat.reduceAdd, Nat.reduceMul, Nat.reduceLeDiff, Nat.reduceEqDiff, reduceIte, Int.reduceEq, Int.reduceBEq, Int.reduceLE, Int.reduceLT, Int.reduceNeg, Int.reduceAdd, Int.reduceSub, Int.reduceMul, List.map, AV.cells, List.all, AV.one, eqV, eqAll, splice, fillA, List.replicate, resAll, resA, zm, zg, ev_len, hlq]
      exact ⟨⟨_, _, _, _, _, _, _, _, _, _, _, _, _, _, _, _, _, rfl⟩, .inr ⟨q, by rw [hnn], hq, hk⟩⟩
end Go.Am.F09
end
