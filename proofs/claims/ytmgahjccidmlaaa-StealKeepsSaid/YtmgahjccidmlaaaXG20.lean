import Derived.Test.YtmgahjccidmlaaaXG19
set_option linter.unusedSimpArgs false
set_option linter.unusedVariables false
section
namespace Go.Am.F09
open Go.Am.F06 Go.Am.F10
theorem LOk.step {c : Cf} {p : Int} {s : LS} {xs : List Int} (h : LOk c p s) (hx : s.a = 0 ∨ OkL c xs) : LOk c p (stepL c p xs s).1 := by
  obtain ⟨h1, h2, h3⟩ := h
  rcases hx with h0 | hx
  · have : stepL c p xs s = (s, xs) := if_pos h0
    rw [this]; exact ⟨h1, h2, h3⟩
  have hg := getD_64 hx.2 (wrdN c p)
  obtain ⟨a, w, k, n, ls⟩ := s
  simp only at h1 h2 h3
  by_cases h0 : a = 0
  · have : stepL c p xs ⟨a, w, k, n, ls⟩ = (⟨a, w, k, n, ls⟩, xs) := if_pos h0
    rw [this]; exact ⟨h1, h2, h3⟩
  by_cases hz : ls.length = 0
  · have : stepL c p xs ⟨a, w, k, n, ls⟩ = (⟨0, w, k, n, ls⟩, xs) := by simp only [stepL, if_neg h0, if_pos hz]
    rw [this]; exact ⟨h1, .inl rfl, h3⟩
  rcases h2 with h2 | ⟨hp, h2⟩
  · exact absurd h2 h0
  have hrb := room_b (c := c) (w := xs.getD (wrdN c p) 0) (len := ls.length)
  rcases h2 with rfl | ⟨rfl, k0, k1, k2⟩ | ⟨rfl, n0, n1⟩
  · have : stepL c p xs ⟨1, w, k, n, ls⟩ = (⟨if roomN c (xs.getD (wrdN c p) 0) ls.length = 0 then 0 else 2, xs.getD (wrdN c p) 0, 0, roomN c (xs.getD (wrdN c p) 0) ls.length, ls⟩, xs) := by simp only [stepL, if_neg h0, if_neg hz, if_true]
    rw [this]
    by_cases hr : roomN c (xs.getD (wrdN c p) 0) ls.length = 0
    · rw [if_pos hr]; exact ⟨hg, .inl rfl, h3⟩
    · rw [if_neg hr]; exact ⟨hg, .inr ⟨hp, .inr (.inl ⟨rfl, by simp, by simp only; omega, hrb.2⟩)⟩, h3⟩
  · have : stepL c p xs ⟨2, w, k, n, ls⟩ = (⟨if k + 1 = n then 3 else 2, w, k + 1, n, ls⟩, xs.set (pslA c p w k).toNat (IntKind.u64.wrap (ls.getD k.toNat 0))) := by simp only [stepL, if_neg h0, if_neg hz, if_neg (show ¬ ((2 : Int) = 1) by decide), if_true]
    rw [this]
    by_cases hr : k + 1 = n
    · rw [if_pos hr]; exact ⟨h1, .inr ⟨hp, .inr (.inr ⟨rfl, by simp only; omega, k2⟩)⟩, h3⟩
    · rw [if_neg hr]; exact ⟨h1, .inr ⟨hp, .inr (.inl ⟨rfl, by simp only; omega, by simp only; omega, k2⟩)⟩, h3⟩
  · by_cases heq : xs.getD (wrdN c p) 0 = w
    · have : stepL c p xs ⟨3, w, k, n, ls⟩ = (⟨0, w, k, n, ls.drop n.toNat⟩, xs.set (wrdN c p) (growW w n)) := by simp only [stepL, if_neg h0, if_neg hz, if_neg (show ¬ ((3 : Int) = 1) by decide), if_neg (show ¬ ((3 : Int) = 2) by decide), if_pos heq]
      rw [this]; exact ⟨h1, .inl rfl, by simp only [List.length_drop]; omega⟩
    · have : stepL c p xs ⟨3, w, k, n, ls⟩ = (⟨1, w, k, n, ls⟩, xs) := by simp only [stepL, if_neg h0, if_neg hz, if_neg (show ¬ ((3 : Int) = 1) by decide), if_neg (show ¬ ((3 : Int) = 2) by decide), if_neg heq]
      rw [this]; exact ⟨h1, .inr ⟨hp, .inl rfl⟩, h3⟩
structure LI (c : Cf) (p w0 : Int) (own : List Int) (t : Nat) (s : LS) (xs : List Int) : Prop where
  ok : OkL c xs
  w : xs.getD (wrdN c p) 0 = w0
  ls : s.ls = own
  st : (t = 0 ∧ s.a = 1) ∨ (∃ i : Nat, t = i + 1 ∧ s.w = w0 ∧ s.n = own.length ∧ s.k = i ∧ (∀ k, k < i → slV c p w0 xs k = own.getD k 0) ∧ ((s.a = 2 ∧ i < own.length) ∨ (s.a = 3 ∧ i = own.length)))
theorem LI.ne {c : Cf} {p w0 : Int} {own : List Int} {t : Nat} {s : LS} {xs : List Int} (h : LI c p w0 own t s xs) : s.a ≠ 0 ∧ t ≤ own.length + 1 := by
  rcases h.st with ⟨h1, h2⟩ | ⟨i, h1, _, _, _, _, h2 | h2⟩ <;> omega
theorem wrap_id {x : Int} (h0 : 0 ≤ x) (h1 : x < 9223372036854775808) : IntKind.i64.wrap (IntKind.u64.wrap x) = x := by
  rw [wrapU h0 (by omega)]; exact wrapI (by omega) (by omega)
theorem LI.step {c : Cf} {p h : Int} {own : List Int} {t : Nat} {s : LS} {xs : List Int} (hI : LI c p (pk h h) own t s xs) (hp : thereP c p) (h0 : 0 ≤ h) (h1 : h < 4294967296) (hpos : 0 < own.length) (hq : (own.length : Int) ≤ c.q) (hown : ∀ x, x ∈ own → 0 ≤ x ∧ x < 9223372036854775808) :
    ((stepL c p xs s).1.a ≠ 0 ∧ LI c p (pk h h) own (t + 1) (stepL c p xs s).1 (stepL c p xs s).2) ∨
    ((stepL c p xs s).1.a = 0 ∧ t = own.length + 1 ∧ (stepL c p xs s).1.ls = [] ∧ OkL c (stepL c p xs s).2 ∧ ringL c p (stepL c p xs s).2 = own) := by
  have hb := there_bounds hp
  have hroom : roomP c.q := hp.1.2.1
  have hsz : sz (pk h h) = 0 := by unfold sz; rw [hd_pk h0 h1, tl_pk h0 h1]; omega
  have hw64 : W64 (pk h h) := by unfold W64 pk; omega
  obtain ⟨ok, hw, hls, hst⟩ := hI
  have hxl := ok.1
  have hwb := addr_b hp (i := 0) (by omega) (by omega)
  have hwl : wrdN c p < xs.length := by unfold wrdN; omega
  obtain ⟨a, w, k, n, ls⟩ := s
  simp only at hls
  subst hls
  have hz : ¬ (ls.length = 0) := by omega
  rcases hst with ⟨rfl, ha⟩ | ⟨i, rfl, e1, e2, e3, e4, e5⟩
  · simp only at ha
    subst ha
    have hrm : roomN c (pk h h) ls.length = ls.length := by unfold roomN; rw [hsz, if_neg (by omega)]; split <;> omega
    have : stepL c p xs ⟨1, w, k, n, ls⟩ = (⟨2, pk h h, 0, ls.length, ls⟩, xs) := by simp only [stepL, if_neg (show ¬ ((1 : Int) = 0) by decide), if_neg hz, if_true, hw, hrm, if_neg (show ¬ ((ls.length : Int) = 0) by omega)]
    rw [this]
    exact .inl ⟨by simp, ok, hw, rfl, .inr ⟨0, rfl, rfl, rfl, rfl, fun k hk => by omega, .inl ⟨rfl, hpos⟩⟩⟩
  · simp only at e1 e2 e3 e5
    subst e1; subst e2; subst e3
    rcases e5 with ⟨rfl, hi⟩ | ⟨rfl, hi⟩
    · obtain ⟨x, hx⟩ : ∃ x, ls[i]? = some x := ⟨_, List.getElem?_eq_getElem hi⟩
      have hxb := hown x (List.mem_of_getElem? hx)
      have hgd : ls.getD i 0 = x := by rw [List.getD_eq_getElem?_getD, hx]; rfl
      have hps : pslA c p (pk h h) i = slotA c p ((hd (pk h h) + (i : Int)) % 4294967296) := by unfold pslA; rw [tl_pk h0 h1, hd_pk h0 h1]
      have hsb := slot_b (i := (hd (pk h h) + (i : Int)) % 4294967296) hp (by omega)
      have : stepL c p xs ⟨2, pk h h, i, ls.length, ls⟩ = (⟨if (i : Int) + 1 = ls.length then 3 else 2, pk h h, i + 1, ls.length, ls⟩, xs.set (slotA c p ((hd (pk h h) + (i : Int)) % 4294967296)).toNat (IntKind.u64.wrap x)) := by
        simp only [stepL, if_neg (show ¬ ((2 : Int) = 0) by decide), if_neg hz, if_neg (show ¬ ((2 : Int) = 1) by decide), if_true, hps, Int.toNat_natCast, hgd]
      rw [this]
      refine .inl ⟨by simp only; split <;> omega, ok.set _ (wrap64_b _), by rw [getD_set_ne (slot_word hp)]; exact hw, rfl, .inr ⟨i + 1, rfl, rfl, rfl, by simp, fun k hk => ?_, ?_⟩⟩
      · unfold slV
        by_cases hki : k = i
        · subst hki
          rw [getD_set_self (by omega), wrap_id hxb.1 hxb.2, hgd]
        · rw [getD_set_ne (slot_ne hp (by omega) (by omega) (fun hh => room_mod (a := hd (pk h h)) (k := k) (n := i) hroom (by omega) (by omega) hh.symm))]
          exact e4 k (by omega)
      · by_cases hq2 : (i : Int) + 1 = ls.length
        · simp only [if_pos hq2]; exact .inr ⟨trivial, by omega⟩
        · simp only [if_neg hq2]; exact .inl ⟨trivial, by omega⟩
    · have : stepL c p xs ⟨3, pk h h, i, ls.length, ls⟩ = (⟨0, pk h h, i, ls.length, ls.drop ls.length⟩, xs.set (wrdN c p) (growW (pk h h) ls.length)) := by
        simp only [stepL, if_neg (show ¬ ((3 : Int) = 0) by decide), if_neg hz, if_neg (show ¬ ((3 : Int) = 1) by decide), if_neg (show ¬ ((3 : Int) = 2) by decide), if_pos hw, Int.toNat_natCast]
      rw [this]
      have hg : growW (pk h h) ls.length = pk h ((h + ls.length) % 4294967296) := by unfold growW; rw [hd_pk h0 h1, tl_pk h0 h1]
      have hgs : sz (growW (pk h h) ls.length) = ls.length := by
        rw [hg]; unfold sz; rw [hd_pk (by omega) (by omega), tl_pk (by omega) (by omega)]; omega
      refine .inr ⟨rfl, by omega, by simp, ok.set _ (grow_64 hw64 _), ?_⟩
      refine ringL_eq hp (getD_set_self hwl) (by rw [hgs]; omega) (by rw [hgs]) fun k hk => ?_
      have := e4 k (by omega)
      unfold slV at this
      rw [hd_pk h0 h1] at this
      rw [ringAt, hg, hd_pk (by omega) (by omega), getD_set_ne (slot_word hp).symm, this]
end Go.Am.F09
end
section
namespace Go.Am.F09
open Go.Am.F06 Go.Am.F10
end Go.Am.F09
end
section
namespace Go.Am.F09
open Go.Am.F06 Go.Am.F10
def rlC (c : Cf) (p : Int) (s : LS) (lv : AV) : List AV := cfC c ++ [.int .i64 p, lv, .int .i64 s.a, .int .u64 s.w, .int .i64 s.n, .int .i64 s.k]
structure LNx (lo hi : Nat) (m : MM) (ls : List Int) (lv : AV) : Prop where
  sl : SI m false ls lv
  nx : 0 < ls.length → Nx m lv
  no : ∀ b, lo ≤ b → b < hi → ∀ ro L, m[b]? ≠ some (.cells 1 ro L)
theorem LNx.set {lo hi : Nat} {m : MM} {ls : List Int} {lv : AV} (h : LNx lo hi m ls lv) {a : Nat} (h1 : lo ≤ a) (h2 : a < hi) {C : Chunk Ob} (hC : ∀ ro L, C ≠ .cells 1 ro L) : LNx lo hi (m.set a C) ls lv :=
  ⟨Sl.put h.sl (h.no a h1 h2) C, fun h0 => (h.nx h0).put (h.no a h1 h2) C, (SLN.set (wr := false) (n := ls.length) (l := iC ls) (v := lv) ⟨h.sl, h.no⟩ h1 h2 hC).no⟩
end Go.Am.F09
end
section
namespace Go.Am.F09
open Go.Am.F06 Go.Am.F10
end Go.Am.F09
end
section
namespace Go.Am.F09
open Go.Am.F06 Go.Am.F10
end Go.Am.F09
end
section
namespace Go.Am.F09
open Go.Am.F06 Go.Am.F10
structure LyS (m0 : MM) (c c' : Cf) (p p' : Int) (j rb xj yb : Nat) (ps : List Pk) (lv : AV) (s : LS) (xs : List Int) (o : Int) (lx ly v : AV) (m : MM) : Prop where
  k0 : Keep m0 m
  lm : LM m xj c p s lx
  mem : ∃ st, m[j]? = some (.abs (.mem st)) ∧ RelM xs o st
  ref : m[rb]? = some (.cells 2 false (memC v o))
  su : SU m false xs v
  y : m[yb]? = some (.cells 12 false (rlC c' p' s ly))
  yl : SI m false s.ls ly
  yn : 0 < s.ls.length → Nx m ly
  ne : xj ≠ yb
  ok : LOk c p s
  okL : OkL c xs
  cc : s.a = 0 ∨ (c' = c ∧ p' = p)
  ps : SPk m false ps lv
theorem LyS.mv {m0 m m' : MM} {c c' : Cf} {p p' : Int} {j rb xj yb : Nat} {ps : List Pk} {lv : AV} {s : LS} {xs : List Int} {o : Int} {lx ly v : AV} {q : Nat} {L : List Int} (h : LyS m0 c c' p p' j rb xj yb ps lv s xs o lx ly v m) (hk : KeepB q m m') (hq : m[q]? = some (.cells 1 false (iC L))) (h0 : m0.length ≤ q) (hx : Off q lx) (hy : Off q ly) : LyS m0 c c' p p' j rb xj yb ps lv s xs o lx ly v m' := by
  obtain ⟨st, hj, hr⟩ := h.mem
  have g : ∀ {i : Nat} {C : Chunk Ob}, m[i]? = some C → C ≠ .cells 1 false (iC L) → m'[i]? = some C := fun hi hC => hk.get hi fun hh => by rw [hh, hq] at hi; injection hi with hi; exact hC hi.symm
  have nx : ∀ {w : AV}, Off q w → Nx m w → 0 < s.ls.length → lenA w = some s.ls.length → Nx m' w := fun {w} ho hn hp hl => by
    rcases hn with h1 | ⟨q2, oo, n, l, h1, h2⟩
    · exact .inl h1
    · rw [h1] at hl; simp only [lenA, Option.some.injEq] at hl
      exact .inr ⟨q2, oo, n, l, h1, hk.get h2 (ho _ _ _ _ h1 (by omega))⟩
  have hl0 := h.k0.1
  refine ⟨⟨by have := hk.1; omega, fun i hi => (hk.2 i (by omega) (by omega)).trans (h.k0.2 i hi)⟩, ⟨g h.lm.get (by simp), hk.off hx h.lm.l, fun hp => nx hx (h.lm.nx hp) hp h.lm.l.len⟩, ⟨st, g hj (by simp), hr⟩, g h.ref (by simp), hk.off (su_off h.su hq) h.su, g h.y (by simp), hk.off hy h.yl, fun hp => nx hy (h.yn hp) hp h.yl.len, h.ne, h.ok, h.okL, h.cc, ?_⟩
  refine Sl.stay h.ps fun q2 oo cap hw hp => ?_
  obtain ⟨h1, ro, l, h2⟩ := Sl.lt h.ps hw hp
  exact hk.2 q2 h1 fun hh => by rw [hh, hq] at h2; cases h2
theorem LyS.keep {m0 m m' : MM} {c c' : Cf} {p p' : Int} {j rb xj yb : Nat} {ps : List Pk} {lv : AV} {s : LS} {xs : List Int} {o : Int} {lx ly v : AV} (h : LyS m0 c c' p p' j rb xj yb ps lv s xs o lx ly v m) (k : Keep m m') : LyS m0 c c' p p' j rb xj yb ps lv s xs o lx ly v m' := by
  obtain ⟨st, hj, hr⟩ := h.mem
  exact ⟨h.k0.trans k, ⟨k.get h.lm.get, h.lm.l.keep k, fun hp => (h.lm.nx hp).keep k⟩, ⟨st, k.get hj, hr⟩, k.get h.ref, h.su.keep k, k.get h.y, h.yl.keep k, fun hp => (h.yn hp).keep k, h.ne, h.ok, h.okL, h.cc, h.ps.keep k⟩
structure LyB (m0 : MM) (c : Cf) (p : Int) (j xj : Nat) (ps : List Pk) (lv : AV) (s : LS) (xs : List Int) (o : Int) (lx : AV) (m : MM) : Prop where
  k0 : Keep m0 m
  lm : LM m xj c p s lx
  mem : ∃ st, m[j]? = some (.abs (.mem st)) ∧ RelM xs o st
  ps : SPk m false ps lv
theorem LyS.b {m0 m : MM} {c c' : Cf} {p p' : Int} {j rb xj yb : Nat} {ps : List Pk} {lv : AV} {s : LS} {xs : List Int} {o : Int} {lx ly v : AV} (h : LyS m0 c c' p p' j rb xj yb ps lv s xs o lx ly v m) : LyB m0 c p j xj ps lv s xs o lx m := ⟨h.k0, h.lm, h.mem, h.ps⟩
theorem LyB.keep {m0 m m' : MM} {c : Cf} {p : Int} {j xj : Nat} {ps : List Pk} {lv : AV} {s : LS} {xs : List Int} {o : Int} {lx : AV} (h : LyB m0 c p j xj ps lv s xs o lx m) (k : Keep m m') : LyB m0 c p j xj ps lv s xs o lx m' := by
  obtain ⟨st, hj, hr⟩ := h.mem
  exact ⟨h.k0.trans k, ⟨k.get h.lm.get, h.lm.l.keep k, fun hp => (h.lm.nx hp).keep k⟩, ⟨st, k.get hj, hr⟩, h.ps.keep k⟩
theorem LyB.setb {m0 m : MM} {c : Cf} {p : Int} {j xj : Nat} {ps : List Pk} {lv : AV} {s : LS} {xs : List Int} {o : Int} {lx : AV} (h : LyB m0 c p j xj ps lv s xs o lx m) {b sz : Nat} {L : List AV} (hb : m[b]? = some (.cells sz false L)) (h1 : sz ≠ 1) (h3 : sz ≠ 3) (hx : b ≠ xj) (h0 : m0.length ≤ b) (C : Chunk Ob) : LyB m0 c p j xj ps lv s xs o lx (m.set b C) := by
  obtain ⟨st, hj, hr⟩ := h.mem
  have e2 : b ≠ j := fun hh => by rw [hh, hj] at hb; cases hb
  have hn : ∀ z, z ≠ sz → ∀ ro L, m[b]? ≠ some (.cells z ro L) := fun z hz ro L hh => by rw [hb] at hh; injection hh with hh; injection hh with hh; exact hz hh.symm
  exact ⟨h.k0.set h0 _, ⟨by rw [List.getElem?_set_ne hx]; exact h.lm.get, Sl.put h.lm.l (hn 1 (fun hh => h1 hh.symm)) _, fun hp => (h.lm.nx hp).put (hn 1 (fun hh => h1 hh.symm)) _⟩, ⟨st, by rw [List.getElem?_set_ne e2]; exact hj, hr⟩, Sl.put h.ps (hn 3 (fun hh => h3 hh.symm)) _⟩
theorem LyB.step {m0 m m' : MM} {c c' : Cf} {p p' : Int} {j rb xj yb : Nat} {ps : List Pk} {lv : AV} {s s' : LS} {xs xs' : List Int} {o o' : Int} {lx : AV} (h : LyB m0 c p j xj ps lv s xs o lx m)
    (hx0 : m0.length ≤ xj) (hj0 : m0.length ≤ j) {ly' v' : AV} (hy : m[yb]? = some (.cells 12 false (rlC c' p' s' ly'))) (hyl : SI m false s'.ls ly') (hyn : 0 < s'.ls.length → Nx m ly') (hne : xj ≠ yb) (hv' : SU m false xs' v') (hrb : m[rb]? = some (.cells 2 false (memC v' o'))) (hok : LOk c p s') (hokL : OkL c xs') (hcc : s'.a = 0 ∨ (c' = c ∧ p' = p)) {r : AV} (hP : LsP m c p xj j (s', xs') o' r m') :
    r = .bool (decide (s'.a = 0)) ∧ ∃ lx2, LyS m0 c c' p p' j rb xj yb ps lv s' xs' o' lx2 ly' v' m' := by
  obtain ⟨rfl, k1, ⟨lx2, hlm⟩, st', hj', hr'⟩ := hP
  obtain ⟨st, hj, hr⟩ := h.mem
  have hnx : ∀ sz, sz ≠ 12 → ∀ ro L, m[xj]? ≠ some (.cells sz ro L) := fun sz hsz ro L hh => by rw [h.lm.get] at hh; injection hh with hh; injection hh with hh; exact hsz hh.symm
  have hnj : ∀ sz ro L, m[j]? ≠ some (.cells sz ro L) := fun sz ro L hh => by rw [hj] at hh; cases hh
  have e2 : rb ≠ xj := fun hh => hnx 2 (by decide) _ _ (by rw [← hh]; exact hrb)
  have e3 : rb ≠ j := fun hh => hnj 2 _ _ (by rw [← hh]; exact hrb)
  have e4 : yb ≠ j := fun hh => hnj 12 _ _ (by rw [← hh]; exact hy)
  have hk0 := h.k0.1
  obtain ⟨f1, f2⟩ := LM.mv (s := s') (c := c) (p := p) hyl hyn (hnx 1 (by decide)) (hnj 1) k1
  exact ⟨rfl, lx2, ⟨by have := k1.1; omega, fun i hi => (k1.2 i (by omega) (by omega) (by omega)).trans (h.k0.2 i hi)⟩, hlm, ⟨st', hj', hr'⟩, k1.get hrb e2 e3, k1.sl (szj := 0) (szk := 0) (hnx 1 (by decide)) (hnj 1) hv', k1.get hy (fun hh => hne hh.symm) e4, f1, f2, hne, hok, hokL, hcc, k1.sl (szj := 0) (szk := 0) (hnx 3 (by decide)) (hnj 3) h.ps⟩
end Go.Am.F09
end
section
namespace Go.Am.F09
open Go.Am.F06 Go.Am.F10
theorem stepL_ok {c : Cf} {p : Int} {s : LS} {xs : List Int} (h : OkL c xs) (hw : s.a = 0 ∨ W64 s.w) : OkL c (stepL c p xs s).2 := by
  unfold stepL
  split
  · exact h
  rename_i h0
  have hw := hw.resolve_left h0
  split
  · exact h
  split
  · exact h
  split
  · exact h.set _ (wrap64_b _)
  split
  · exact h.set _ (grow_64 hw _)
  · exact h
end Go.Am.F09
end
section
namespace Go.Am.F11
open Go.Am.F06 Go.Am.F10 Go.Am.F09
variable {X : Type}
def gainN (w n : Int) : Int := pk ((hd w + n) % 4294967296) (tl w)
theorem gainN_64 (w n : Int) : W64 (gainN w n) := by
  have := tl_b w
  unfold gainN pk W64; omega
theorem gainN_eq (m : Mem X) {w n : Int} (h : W64 w) : c_word_Gain [.int .u64 w, .int .u32 n] m = some (.int .u64 (gainN w n), m) := by
  have a179 : assoc [(179, F10.c_word_Head (X := X)), (182, F10.c_word_Tail), (183, F10.c_word_Pack)] 179 = some F10.c_word_Head := rfl
  have a182 : assoc [(179, F10.c_word_Head (X := X)), (182, F10.c_word_Tail), (183, F10.c_word_Pack)] 182 = some F10.c_word_Tail := rfl
  have a183 : assoc [(179, F10.c_word_Head (X := X)), (182, F10.c_word_Tail), (183, F10.c_word_Pack)] 183 = some F10.c_word_Pack := rfl
  have he : c_word_Gain (X := X) = amFunc [(179, F10.c_word_Head), (182, F10.c_word_Tail), (183, F10.c_word_Pack)] word_Gain := rfl
  rw [he]
  generalize [(179, F10.c_word_Head (X := X)), (182, F10.c_word_Tail), (183, F10.c_word_Pack)] = G at a179 a182 a183 ⊢
  have h1 := head_eq m h
  have h2 := tail_eq m w
  have hw : IntKind.u32.wrap (hd w + n) = (hd w + n) % 4294967296 := wrap32 _
  have ht := tl_b w
  have h3 := pack_eq m (h := (hd w + n) % 4294967296) (t := tl w) (by omega) (by omega) ht.1 ht.2
  refine Fn_eq (Fn_of rfl ?_)
  simp (disch := first | assumption | omega | (simp only [zl] <;> omega) | (simp only [zn])) only [word_Gain, ↓zd, zk, Nat.reduceSub, Nat.reduceAdd, Nat.reduceMul, Nat.reduceLeDiff, Nat.reduceEqDiff, reduceIte, Int.reduceEq, Int.reduceBEq, Int.reduceLE, Int.reduceLT, Int.reduceNeg, Int.reduceAdd, Int.reduceSub, Int.reduceMul, List.map, AV.cells, List.all, AV.one, eqV, eqAll, splice, fillA, List.replicate, resAll, resA, zm, zg, a182, a179, h1, h2, hw, a183, h3, gainN]
theorem sz_b (w : Int) : 0 ≤ sz w ∧ sz w < 4294967296 := by unfold sz; omega
def halfI (w : Int) : Int := sz w - sz w / 2
theorem half_b (w : Int) : 0 ≤ halfI w ∧ halfI w ≤ sz w ∧ (0 < sz w → 0 < halfI w) := by
  have := sz_b w
  unfold halfI; omega
theorem older_eq (m : Mem X) {n : Int} (h0 : 0 ≤ n) (h1 : n < 4294967296) : c_word_Older [.int .u32 n] m = some (.int .u32 (n - n / 2), m) := by
  have e1 : n.tdiv 2 = n / 2 := Int.tdiv_eq_ediv_of_nonneg h0
  have e2 : IntKind.u32.wrap (n / 2) = n / 2 := by rw [wrap32]; omega
  have e3 : IntKind.u32.wrap (n - n / 2) = n - n / 2 := by rw [wrap32]; omega
  refine Fn_eq (Fn_of rfl ?_)
  simp (disch := first | assumption | omega | (simp only [zl] <;> omega) | (simp only [zn])) only [word_Older, ↓zd, zk, Nat.reduceSub, Nat.reduceAdd, Nat.reduceMul, Nat.reduceLeDiff, Nat.reduceEqDiff, reduceIte, Int.reduceEq, Int.reduceBEq, Int.reduceLE, Int.reduceLT, Int.reduceNeg, Int.reduceAdd, Int.reduceSub, Int.reduceMul, List.map, AV.cells, List.all, AV.one, eqV, eqAll, splice, fillA, List.replicate, resAll, resA, zm, zg, e1, e2, e3]
theorem half_eq {m : Mem X} {xj : Nat} {c : Cf} {p v a w k : Int} {ly b : AV} (hx : m[xj]? = some (.cells 13 false (stC c p v a w ly b k))) (hw : W64 w) : c_steal_Steal_half [.ptr xj 0] m = some (.int .i64 (halfI w), m) := by
  have a178 : assoc [(178, F10.c_word_Len (X := X)), (289, c_word_Older)] 178 = some F10.c_word_Len := rfl
  have a289 : assoc [(178, F10.c_word_Len (X := X)), (289, c_word_Older)] 289 = some c_word_Older := rfl
  have he : c_steal_Steal_half (X := X) = amFunc [(178, F10.c_word_Len), (289, c_word_Older)] steal_Steal_half := rfl
  rw [he]
  generalize [(178, F10.c_word_Len (X := X)), (289, c_word_Older)] = G at a178 a289 ⊢
  have hs := sz_b w
  have h1 := len_eq m hw
  have h2 := older_eq m hs.1 hs.2
  have hh := half_b w
  have e1 : sz w - sz w / 2 = halfI w := rfl
  rw [e1] at h2
  have e2 : IntKind.i64.wrap (halfI w) = halfI w := wrapI (by omega) (by omega)
  refine Fn_eq (Fn_of rfl ?_)
  simp (disch := first | assumption | omega | (simp only [zl] <;> omega) | (simp only [zn])) only [steal_Steal_half, ↓zd, zk, Nat.reduceSub, Nat.reduceAdd, Nat.reduceMul, Nat.reduceLeDiff, Nat.reduceEqDiff, reduceIte, Int.reduceEq, Int.reduceBEq, Int.reduceLE, Int.reduceLT, Int.reduceNeg, Int.reduceAdd, Int.reduceSub, Int.reduceMul, List.map, AV.cells, List.all, AV.one, eqV, eqAll, splice, fillA, List.replicate, resAll, resA, zm, zg, hx, stC, cfC, a178, h1, a289, h2, e2]
structure TS where
  a : Int
  w : Int
  bl : List Int
  k : Int
  ly : LS
def sslN (c : Cf) (v w : Int) (k : Nat) : Nat := (slotA c v ((hd w + k) % 4294967296)).toNat
def stepT (c : Cf) (p v : Int) (xs : List Int) (s : TS) : TS × List Int :=
  if s.a = 0 then (s, xs)
  else if s.a = 1 then ({ s with w := xs.getD (wrdN c v) 0, bl := [], a := if sz (xs.getD (wrdN c v) 0) = 0 ∨ c.q < sz (xs.getD (wrdN c v) 0) then 0 else 2 }, xs)
  else if s.a = 2 then ({ s with bl := s.bl ++ [IntKind.i64.wrap (xs.getD (sslN c v s.w s.bl.length) 0)], a := if ((s.bl.length : Int) + 1) = halfI s.w then 3 else 2 }, xs)
  else if s.a = 3 then
    if xs.getD (wrdN c v) 0 = s.w then ({ s with k := s.bl.length, ly := newL c p s.bl.tail, a := if s.bl.length = 1 then 0 else 4 }, xs.set (wrdN c v) (gainN s.w (halfI s.w)))
    else ({ s with a := 1, bl := [] }, xs)
  else ({ s with ly := (stepL c p xs s.ly).1, a := if (stepL c p xs s.ly).1.a = 0 then 0 else 4 }, (stepL c p xs s.ly).2)
def opsT (s : TS) (o : Int) : Int := if s.a = 0 then o else if s.a = 4 then opsL s.ly o else IntKind.u64.wrap (o + 1)
structure TOk (c : Cf) (p v : Int) (s : TS) : Prop where
  w : W64 s.w
  a : s.a = 0 ∨ (thereS c p v ∧ (s.a = 1 ∨ (s.a = 2 ∧ sz s.w ≤ c.q ∧ (s.bl.length : Int) < halfI s.w) ∨ (s.a = 3 ∧ sz s.w ≤ c.q ∧ (s.bl.length : Int) = halfI s.w ∧ 0 < s.bl.length) ∨ (s.a = 4 ∧ 0 < s.k)))
  k : (s.k = 0 ∧ s.a ≠ 4) ∨ (0 < s.k ∧ s.k = s.bl.length ∧ thereS c p v ∧ LOk c p s.ly ∧ (s.a = 0 ∨ s.a = 4))
  b : s.bl.length ≤ 64
theorem newL_bl {c : Cf} {p : Int} {xs : List Int} (h : xs.length ≤ 100) : LOk c p (newL c p xs) := newL_ok c p h
theorem TOk.step {c : Cf} {p v : Int} {s : TS} {xs : List Int} (h : TOk c p v s) (hx : s.a = 0 ∨ OkL c xs) : TOk c p v (stepT c p v xs s).1 := by
  obtain ⟨hw, ha, hk, hb⟩ := h
  by_cases h0 : s.a = 0
  · rw [stepT, if_pos h0]; exact ⟨hw, ha, hk, hb⟩
  have hx := hx.resolve_left h0
  obtain ⟨ht, ha⟩ := ha.resolve_left h0
  have hq := there_bounds ht.1
  rcases ha with h1 | ⟨h1, h2, h3⟩ | ⟨h1, h2, h3, h4⟩ | ⟨h1, h2⟩
  · have hg := getD_64 hx.2 (wrdN c v)
    have hk0 : s.k = 0 := by rcases hk with hk | hk <;> omega
    rw [stepT, if_neg h0, if_pos h1]
    refine ⟨hg, ?_, .inl ⟨hk0, ?_⟩, by simp⟩
    · simp only
      split
      · exact .inl rfl
      · rename_i hz
        have := sz_b (xs.getD (wrdN c v) 0)
        have := half_b (xs.getD (wrdN c v) 0)
        exact .inr ⟨ht, .inr (.inl ⟨rfl, by omega, by show ((0 : Nat) : Int) < halfI (xs.getD (wrdN c v) 0); omega⟩)⟩
    · simp only; split <;> decide
  · have hk0 : s.k = 0 := by rcases hk with hk | hk <;> omega
    rw [stepT, if_neg h0, if_neg (by omega), if_pos h1]
    have hh := half_b s.w
    refine ⟨hw, ?_, .inl ⟨hk0, ?_⟩, by simp; omega⟩
    · simp only [List.length_append, List.length_cons, List.length_nil]
      split
      · exact .inr ⟨ht, .inr (.inr (.inl ⟨rfl, h2, by omega, by omega⟩))⟩
      · exact .inr ⟨ht, .inr (.inl ⟨rfl, h2, by omega⟩)⟩
    · simp only; split <;> decide
  · have hk0 : s.k = 0 := by rcases hk with hk | hk <;> omega
    rw [stepT, if_neg h0, if_neg (by omega), if_neg (by omega), if_pos h1]
    have hh := half_b s.w
    split
    · refine ⟨hw, ?_, .inr ⟨by show (0 : Int) < (s.bl.length : Int); omega, rfl, ht, newL_bl (by simp; omega), ?_⟩, hb⟩
      · simp only
        split
        · exact .inl rfl
        · exact .inr ⟨ht, .inr (.inr (.inr ⟨rfl, by show (0 : Int) < (s.bl.length : Int); omega⟩))⟩
      · show (if s.bl.length = 1 then (0 : Int) else 4) = 0 ∨ (if s.bl.length = 1 then (0 : Int) else 4) = 4
        split
        · exact .inl rfl
        · exact .inr rfl
    · exact ⟨hw, .inr ⟨ht, .inl rfl⟩, .inl ⟨hk0, show ¬ ((1 : Int) = 4) by decide⟩, by simp⟩
  · rw [stepT, if_neg h0, if_neg (by omega), if_neg (by omega), if_neg (by omega)]
    obtain ⟨k1, k2, k3, k4, k5⟩ := hk.resolve_left (by omega)
    refine ⟨hw, ?_, .inr ⟨k1, k2, k3, k4.step (.inr hx), ?_⟩, hb⟩
    · simp only
      split
      · exact .inl rfl
      · exact .inr ⟨ht, .inr (.inr (.inr ⟨rfl, h2⟩))⟩
    · simp only; split
      · exact .inl rfl
      · exact .inr rfl
theorem stepT_ok {c : Cf} {p v : Int} {s : TS} {xs : List Int} (hO : OkL c xs) (h : TOk c p v s) : OkL c (stepT c p v xs s).2 := by
  unfold stepT
  split
  · exact hO
  · split
    · exact hO
    · split
      · exact hO
      · split
        · split
          · exact hO.set _ (gainN_64 _ _)
          · exact hO
        · rename_i h0 h1 h2 h3
          refine F09.stepL_ok hO ?_
          rcases h.k with hk | hk
          · rcases h.a with ha | ⟨_, ha⟩ <;> omega
          · exact .inr hk.2.2.2.1.w
def KeepP (P : Nat → Prop) (j : Nat) (m m' : MM) : Prop := m.length ≤ m'.length ∧ ∀ i, i < m.length → i ≠ j → ¬ P i → m'[i]? = m[i]?
def KeepN (P : Nat → Prop) (m m' : MM) : Prop := m.length ≤ m'.length ∧ ∀ i, i < m.length → (P i ∨ ∃ ro L, m[i]? = some (.cells 1 ro L)) → m'[i]? = m[i]?
def OffP (P : Nat → Prop) (v : AV) : Prop := ∀ q o n cap, v = .sl q o n cap → 0 < n → ¬ P q
def NewP (P : Nat → Prop) (m m' : MM) : Nat → Prop := fun i => P i ∨ (m.length ≤ i ∧ i < m'.length)
theorem KeepP.refl {P : Nat → Prop} {j : Nat} (m : MM) : KeepP P j m m := ⟨Nat.le_refl _, fun _ _ _ _ => rfl⟩
theorem KeepP.of {P : Nat → Prop} {j : Nat} {m m' : MM} (k : Keep m m') : KeepP P j m m' := ⟨k.1, fun i hi _ _ => k.2 i hi⟩
theorem KeepP.trans {P : Nat → Prop} {j : Nat} {m m' m'' : MM} (h : KeepP P j m m') (k : KeepP (NewP P m m') j m' m'') : KeepP P j m m'' :=
  ⟨Nat.le_trans h.1 k.1, fun i hi hj hp => (k.2 i (Nat.lt_of_lt_of_le hi h.1) hj (fun h => h.elim hp fun h => by omega)).trans (h.2 i hi hj hp)⟩
theorem KeepN.of {P : Nat → Prop} {m m' : MM} (k : Keep m m') : KeepN P m m' := ⟨k.1, fun i hi _ => k.2 i hi⟩
theorem KeepN.trans {P : Nat → Prop} {m m' m'' : MM} (h : KeepN P m m') (k : KeepN P m' m'') : KeepN P m m'' :=
  ⟨Nat.le_trans h.1 k.1, fun i hi hp => by
    have h1 := h.2 i hi hp
    refine (k.2 i (Nat.lt_of_lt_of_le hi h.1) (hp.imp id fun ⟨ro, L, h2⟩ => ⟨ro, L, by rw [h1]; exact h2⟩)).trans h1⟩
theorem KeepN.set {P : Nat → Prop} {m m' : MM} (h : KeepN P m m') {q : Nat} (hq : ¬ P q) (h1 : ∀ ro L, m[q]? ≠ some (.cells 1 ro L)) (C : Chunk Ob) : KeepN P m (m'.set q C) :=
  ⟨by simpa using h.1, fun i hi hp => by
    rw [List.getElem?_set_ne (fun hh => by
      rcases hp with hp | ⟨ro, L, hp⟩
      · exact hq (by rw [hh]; exact hp)
      · exact h1 ro L (by rw [hh]; exact hp))]
    exact h.2 i hi hp⟩
theorem KeepN.get {P : Nat → Prop} {m m' : MM} (h : KeepN P m m') {i : Nat} {C : Chunk Ob} (hi : m[i]? = some C) (hp : P i) : m'[i]? = some C := (h.2 i (List.getElem?_eq_some_iff.1 hi).1 (.inl hp)).trans hi
theorem KeepN.sl {P : Nat → Prop} {m m' : MM} {wr : Bool} {n : Nat} {l : List AV} {v : AV} (k : KeepN P m m') (h : Sl m wr 1 n l v) : Sl m' wr 1 n l v :=
  Sl.stay h fun q o cap hv h0 => by
    obtain ⟨h1, ro, L, h2⟩ := Sl.lt h hv h0
    exact k.2 q h1 (.inr ⟨ro, L, h2⟩)
theorem KeepN.nx {P : Nat → Prop} {m m' : MM} {v : AV} (k : KeepN P m m') (h : Nx m v) : Nx m' v := by
  rcases h with h | ⟨q, o, n, l, h1, h2⟩
  · exact .inl h
  · exact .inr ⟨q, o, n, l, h1, (k.2 q (List.getElem?_eq_some_iff.1 h2).1 (.inr ⟨_, _, h2⟩)).trans h2⟩
theorem KeepP.get {P : Nat → Prop} {j : Nat} {m m' : MM} (h : KeepP P j m m') {i : Nat} {C : Chunk Ob} (hi : m[i]? = some C) (hj : i ≠ j) (hp : ¬ P i) : m'[i]? = some C := (h.2 i (List.getElem?_eq_some_iff.1 hi).1 hj hp).trans hi
theorem KeepP.set {P : Nat → Prop} {j : Nat} {m m' : MM} (h : KeepP P j m m') {q : Nat} (hq : P q ∨ m.length ≤ q ∨ q = j) (C : Chunk Ob) : KeepP P j m (m'.set q C) :=
  ⟨by simpa using h.1, fun i hi h1 h2 => by
    rw [List.getElem?_set_ne (fun hh => by
      rcases hq with hq | hq | hq
      · exact h2 (by rw [← hh]; exact hq)
      · omega
      · exact h1 (by rw [← hh]; exact hq))]
    exact h.2 i hi h1 h2⟩
theorem Sl.off {P : Nat → Prop} {j : Nat} {m m' : MM} {wr : Bool} {sz n : Nat} {l : List AV} {v : AV} (h : Sl m wr sz n l v) (k : KeepP P j m m') (hj : ∀ ro L, m[j]? ≠ some (.cells sz ro L)) (ho : OffP P v) : Sl m' wr sz n l v :=
  Sl.stay h fun q o cap hv h0 => by
    obtain ⟨h1, ro, L, h2⟩ := Sl.lt h hv h0
    exact k.2 q h1 (fun hh => hj ro L (by rw [← hh]; exact h2)) (ho q o n cap hv h0)
theorem OffP.new {P : Nat → Prop} {m m' : MM} {wr : Bool} {sz n : Nat} {l : List AV} {v : AV} (ho : OffP P v) (hs : Sl m wr sz n l v) : OffP (NewP P m m') v := fun q o k cap hv h0 hh => by
  have hlen := hs.len
  rw [hv] at hlen; simp only [lenA, Option.some.injEq] at hlen; subst hlen
  have h1 := (Sl.lt hs hv h0).1
  rcases hh with hh | hh
  · exact ho q o k cap hv h0 hh
  · omega
def RowsK (m m' : MM) : Prop := ∀ (q : Nat) (ro : Bool) (L : List AV), m[q]? = some (Chunk.cells 1 ro L) → m'[q]? = some (Chunk.cells 1 ro L)
def Bt (m : MM) (P : Nat → Prop) (cap : Nat) (bl : List Int) (bv : AV) : Prop := ∃ qb L, P qb ∧ bv = .sl qb 0 bl.length (some cap) ∧ m[qb]? = some (.cells 1 false L) ∧ bl.length ≤ cap ∧ cap ≤ L.length ∧ L.take bl.length = iC bl ∧ ∃ l' : List Int, L = iC l'
def BtO (m : MM) (P : Nat → Prop) (c : Cf) (s : TS) (bv : AV) : Prop := (bv = .nils ∧ s.bl = [] ∧ s.a ≠ 2 ∧ s.a ≠ 3 ∧ s.k = 0) ∨ ∃ cap, Bt m P cap s.bl bv ∧ (s.a = 2 → (cap : Int) = c.q)
def LyO (m : MM) (P Q : Nat → Prop) (c : Cf) (p : Int) (s : TS) (lyv : AV) : Prop := (s.k = 0 ∧ lyv = .nilp) ∨ (0 < s.k ∧ ∃ lb lxv, lyv = .ptr lb 0 ∧ P lb ∧ LM m lb c p s.ly lxv ∧ ∀ q o n cap, lxv = .sl q o n cap → 0 < n → Q q)
structure TQ (m : MM) (P Q : Nat → Prop) (c : Cf) (p v : Int) (xj : Nat) (s : TS) : Prop where
  own : P xj
  get : ∃ lyv bv, m[xj]? = some (.cells 13 false (stC c p v s.a s.w lyv bv s.k)) ∧ BtO m P c s bv ∧ LyO m P Q c p s lyv
abbrev TM (m : MM) (P : Nat → Prop) (c : Cf) (p v : Int) (xj : Nat) (s : TS) : Prop := TQ m P (fun _ => True) c p v xj s
theorem Bt.others {m m' : MM} {P : Nat → Prop} {cap : Nat} {bl : List Int} {bv : AV} (h : Bt m P cap bl bv) (k : KeepN P m m') : Bt m' P cap bl bv := by
  obtain ⟨qb, L, h1, h2, h3, h4⟩ := h
  exact ⟨qb, L, h1, h2, k.get h3 h1, h4⟩
theorem LM.others {m m' : MM} {P : Nat → Prop} {lb : Nat} {c : Cf} {p : Int} {s : LS} {lv : AV} (h : LM m lb c p s lv) (hp : P lb) (k : KeepN P m m') : LM m' lb c p s lv :=
  ⟨k.get h.get hp, k.sl h.l, fun h0 => k.nx (h.nx h0)⟩
theorem TQ.others {m m' : MM} {P Q : Nat → Prop} {c : Cf} {p v : Int} {xj : Nat} {s : TS} (h : TQ m P Q c p v xj s) (k : KeepN P m m') : TQ m' P Q c p v xj s := by
  obtain ⟨h0, lyv, bv, h1, h2, h3⟩ := h
  refine ⟨h0, lyv, bv, k.get h1 h0, ?_, ?_⟩
  · rcases h2 with h2 | ⟨cap, h2, h4⟩
    · exact .inl h2
    · exact .inr ⟨cap, h2.others k, h4⟩
  · rcases h3 with h3 | ⟨h4, lb, lxv, h5, h6, h7⟩
    · exact .inl h3
    · exact .inr ⟨h4, lb, lxv, h5, h6, LM.others h7.1 h6 k, h7.2⟩
theorem TM.others {m m' : MM} {P : Nat → Prop} {c : Cf} {p v : Int} {xj : Nat} {s : TS} (h : TM m P c p v xj s) (k : KeepN P m m') : TM m' P c p v xj s := TQ.others h k
theorem TQ.tm {m : MM} {P Q : Nat → Prop} {c : Cf} {p v : Int} {xj : Nat} {s : TS} (h : TQ m P Q c p v xj s) : TM m P c p v xj s := by
  obtain ⟨h0, lyv, bv, h1, h2, h3⟩ := h
  refine ⟨h0, lyv, bv, h1, h2, ?_⟩
  rcases h3 with h3 | ⟨h4, lb, lxv, h5, h6, h7, _⟩
  · exact .inl h3
  · exact .inr ⟨h4, lb, lxv, h5, h6, h7, fun _ _ _ _ _ _ => trivial⟩
theorem Bt.si {m : MM} {P : Nat → Prop} {cap : Nat} {bl : List Int} {bv : AV} (h : Bt m P cap bl bv) : SI m true bl bv := by
  obtain ⟨qb, L, h1, h2, h3, h4, h5, h6, _⟩ := h
  exact ⟨by rw [iC_len]; omega, .inr ⟨qb, 0, some cap, h2, fun _ => ⟨false, L, h3, by rw [List.drop_zero, Nat.mul_one]; exact h6, by omega, fun _ => rfl⟩⟩⟩
end Go.Am.F11
end
section
namespace Go.Am.F11
open Go.Am.F06 Go.Am.F10 Go.Am.F09
def Gsl : List (Nat × AFun Ob) := [(159, F10.c_conf_Config_Word), (24, memF loadS), (178, F10.c_word_Len)]
def Gsc : List (Nat × AFun Ob) := [(179, F10.c_word_Head), (160, F10.c_conf_Config_Slot), (24, memF loadS), (288, c_steal_Steal_half)]
def SqP (m : MM) (P Q : Nat → Prop) (c : Cf) (p v : Int) (xj j : Nat) (x : TS × List Int) (o : Int) (r : AV) (m' : MM) : Prop := r = .tup [] ∧ KeepP P j m m' ∧ TQ m' (NewP P m m') (NewP Q m m') c p v xj x.1 ∧ ∃ st', m'[j]? = some (.abs (.mem st')) ∧ RelM x.2 o st'
theorem KeepP.app {P : Nat → Prop} {j : Nat} {m m' : MM} (h : KeepP P j m m') (K : MM) : KeepP P j m (m' ++ K) :=
  ⟨by simp; have := h.1; omega, fun i hi h1 h2 => by rw [List.getElem?_append_left (by have := h.1; omega)]; exact h.2 i hi h1 h2⟩
set_option maxHeartbeats 8000000 in
theorem slook_run {m : MM} {P Q : Nat → Prop} {c : Cf} {p v o : Int} {s : TS} {xj j : Nat} {xs : List Int} {st : MemSt} (hT : TQ m P Q c p v xj s) (hi : m[j]? = some (.abs (.mem st))) (hr : RelM xs o st) (hok : TOk c p v s) (hx : OkL c xs) (ha : s.a = 1) :
    Fn Gsl steal_Steal_look [.ptr xj 0, .ptr j 0] m (SqP m P Q c p v xj j (stepT c p v xs s) (opsT s o)) := by
  have a159 : assoc Gsl 159 = some F10.c_conf_Config_Word := rfl
  have a24 : assoc Gsl 24 = some (memF loadS) := rfl
  have a178 : assoc Gsl 178 = some F10.c_word_Len := rfl
  generalize Gsl = G at a159 a24 a178 ⊢
  obtain ⟨hown, lyv, bv, hj, hB, hL⟩ := hT
  have hij : xj ≠ j := fun h => by rw [h, hi] at hj; cases hj
  have lj : xj < m.length := (List.getElem?_eq_some_iff.1 hj).1
  have li : j < m.length := (List.getElem?_eq_some_iff.1 hi).1
  have hk0 : s.k = 0 := by rcases hok.k with hk | hk <;> omega
  have hly : lyv = .nilp := by
    rcases hL with hL | hL
    · exact hL.2
    · omega
  subst hly
  obtain ⟨a, w, bl, k, ly⟩ := s
  simp only at ha hk0 hj
  subst ha; subst hk0
  have hth : thereS c p v := by rcases hok.a with h | h
                                · simp at h
                                · exact h.1
  have hb := there_bounds hth.2.1
  have hxl := hx.1
  have hcn := cellsN_le c
  have ha0 := addr_b hth.2.1 (i := 0) (by omega) (by omega)
  have hthr : thr xs (addrA c v 0) := ⟨by omega, by omega⟩
  have hwt : (addrA c v 0).toNat = wrdN c v := rfl
  have hg := getD_64 hx.2 (wrdN c v)
  obtain ⟨st', r', _, f24, _⟩ := hr.loadE hthr
  rw [hwt] at f24
  generalize he : stepT c p v xs ⟨1, w, bl, 0, ly⟩ = sx
  have ho : opsT ⟨1, w, bl, 0, ly⟩ o = IntKind.u64.wrap (o + 1) := rfl
  rw [ho]
  simp only [stepT] at he
  generalize xs.getD (wrdN c v) 0 = w' at hg f24 he
  rw [if_neg (by decide), if_pos trivial] at he
  have hwr := fun m : MM => word_run (m := m) c v
  have hz := fun m : MM => len_eq m hg
  have e0 : IntKind.u32.wrap c.q = c.q := by rw [wrap32]; omega
  have hbone : bv.one = true := by
    rcases hB with ⟨rfl, _⟩ | ⟨_, ⟨_, _, _, rfl, _⟩, _⟩ <;> rfl
  have hbc : bv.cells = [bv] := by
    rcases hB with ⟨rfl, _⟩ | ⟨_, ⟨_, _, _, rfl, _⟩, _⟩ <;> rfl
  simp only [cfC, List.cons_append, List.nil_append] at hwr
  simp only [stC, cfC, List.cons_append, List.nil_append] at hj
  refine Fn_of rfl ?_
  simp (disch := first | assumption | omega | (simp only [zl] <;> omega) | (simp only [zn])) only [steal_Steal_look, ↓zd, zk, Nat.reduceSub, Nat.reduceAdd, Nat.reduceMul, Nat.reduceLeDiff, Nat.reduceEqDiff, reduceIte, Int.reduceEq, Int.reduceBEq, Int.reduceLE, Int.reduceLT, Int.reduceNeg, Int.reduceAdd, Int.reduceSub, Int.reduceMul, List.map, AV.cells, List.all, AV.one, eqV, eqAll, splice, fillA, List.replicate, resAll, resA, zm, zg, hj, hi, a159, hwr, a24, f24, a178, hz, e0, cfC, evC, Int.toNat_zero]
  have fin : ∀ (a' : Int) (K : MM), sx = (⟨a', w', [], 0, ly⟩, xs) → (a' = 0 ∨ a' = 2) → K[3]? = some (.cells 1 false (repeatL c.q.toNat [.int .i64 0])) → SqP m P Q c p v xj j sx (IntKind.u64.wrap (o + 1)) (.tup []) ((m.set j (.abs (.mem st'))).set xj (.cells 13 false (stC c p v a' w' .nilp (.sl (m.length + 3) 0 0 (some c.q.toNat)) 0)) ++ K) := by
    intro a' K hsx ha' hK
    subst hsx
    have hK3 : 3 < K.length := (List.getElem?_eq_some_iff.1 hK).1
    refine ⟨rfl, KeepP.app (((KeepP.refl m).set (.inr (.inr rfl)) _).set (.inl hown) _) K, ⟨.inl hown, .nilp, _, ?_, .inr ⟨c.q.toNat, ⟨m.length + 3, repeatL c.q.toNat [.int .i64 0], .inr ⟨by omega, by simp; omega⟩, rfl, ?_, by simp, ?_, ?_, ⟨List.replicate c.q.toNat 0, ?_⟩⟩, fun _ => by omega⟩, .inl ⟨rfl, rfl⟩⟩, st', ?_, r'⟩
    · rw [List.getElem?_append_left (by simpa using lj), List.getElem?_set_self (by simpa using lj)]; rfl
    · rw [List.getElem?_append_right (by simp)]
      simpa using hK
    · simp [repeatL]
    · rfl
    · simp [repeatL, iC]
    · rw [List.getElem?_append_left (by simpa using li), List.getElem?_set_ne hij, List.getElem?_set_self li]
  by_cases h0 : sz w' = 0
  · have hb : (sz w' = 0 ∨ c.q < sz w') := .inl h0
    rw [if_pos hb] at he
    simp (disch := first | assumption | omega | (simp only [zl] <;> omega) | (simp only [zn])) only [↓zd, zk, Nat.reduceSub, Nat.reduceAdd, Nat.reduceMul, Nat.reduceLeDiff, Nat.reduceEqDiff, reduceIte, Int.reduceEq, Int.reduceBEq, Int.reduceLE, Int.reduceLT, Int.reduceNeg, Int.reduceAdd, Int.reduceSub, Int.reduceMul, List.map, AV.cells, List.all, AV.one, eqV, eqAll, splice, fillA, List.replicate, resAll, resA, zm, zg, h0, List.set_set]
    exact fin 0 _ he.symm (.inl rfl) rfl
  · by_cases h1 : c.q < sz w'
    · have hb : (sz w' = 0 ∨ c.q < sz w') := .inr h1
      rw [if_pos hb] at he
      simp (disch := first | assumption | omega | (simp only [zl] <;> omega) | (simp only [zn])) only [↓zd, zk, Nat.reduceSub, Nat.reduceAdd, Nat.reduceMul, Nat.reduceLeDiff, Nat.reduceEqDiff, reduceIte, Int.reduceEq, Int.reduceBEq, Int.reduceLE, Int.reduceLT, Int.reduceNeg, Int.reduceAdd, Int.reduceSub, Int.reduceMul, List.map, AV.cells, List.all, AV.one, eqV, eqAll, splice, fillA, List.replicate, resAll, resA, zm, zg, h0, h1, e0, List.set_set]
      exact fin 0 _ he.symm (.inl rfl) rfl
    · have hb : ¬ (sz w' = 0 ∨ c.q < sz w') := fun h => h.elim h0 h1
      rw [if_neg hb] at he
      simp (disch := first | assumption | omega | (simp only [zl] <;> omega) | (simp only [zn])) only [↓zd, zk, Nat.reduceSub, Nat.reduceAdd, Nat.reduceMul, Nat.reduceLeDiff, Nat.reduceEqDiff, reduceIte, Int.reduceEq, Int.reduceBEq, Int.reduceLE, Int.reduceLT, Int.reduceNeg, Int.reduceAdd, Int.reduceSub, Int.reduceMul, List.map, AV.cells, List.all, AV.one, eqV, eqAll, splice, fillA, List.replicate, resAll, resA, zm, zg, h0, h1, e0, List.set_set]
      exact fin 2 _ he.symm (.inr rfl) rfl
set_option maxHeartbeats 8000000 in
theorem scopy_run {m : MM} {P Q : Nat → Prop} {c : Cf} {p v o : Int} {s : TS} {xj j : Nat} {xs : List Int} {st : MemSt} (hT : TQ m P Q c p v xj s) (hi : m[j]? = some (.abs (.mem st))) (hr : RelM xs o st) (hok : TOk c p v s) (hx : OkL c xs) (ha : s.a = 2) :
    Fn Gsc steal_Steal_copy [.ptr xj 0, .ptr j 0] m (SqP m P Q c p v xj j (stepT c p v xs s) (opsT s o)) := by
  have a179 : assoc Gsc 179 = some F10.c_word_Head := rfl
  have a160 : assoc Gsc 160 = some F10.c_conf_Config_Slot := rfl
  have a24 : assoc Gsc 24 = some (memF loadS) := rfl
  have a288 : assoc Gsc 288 = some c_steal_Steal_half := rfl
  generalize Gsc = G at a179 a160 a24 a288 ⊢
  obtain ⟨hown, lyv, bv, hj, hB, hL⟩ := hT
  have hij : xj ≠ j := fun h => by rw [h, hi] at hj; cases hj
  have lj : xj < m.length := (List.getElem?_eq_some_iff.1 hj).1
  have li : j < m.length := (List.getElem?_eq_some_iff.1 hi).1
  have hk0 : s.k = 0 := by rcases hok.k with hk | hk <;> omega
  have hly : lyv = .nilp := by
    rcases hL with hL | hL
    · exact hL.2
    · omega
  subst hly
  obtain ⟨a, w, bl, k, ly⟩ := s
  simp only at ha hk0 hj
  subst ha; subst hk0
  obtain ⟨cap, ⟨qb, L, hPq, rfl, gq, hb1, hb2, hb3, l', hl'⟩, hcap⟩ := hB.resolve_left (fun h => h.2.2.1 rfl)
  have hcap := hcap rfl
  simp only at hb1 hb3
  obtain ⟨hth, hh⟩ := hok.a.resolve_left (by simp)
  have hh2 : sz w ≤ c.q ∧ (bl.length : Int) < halfI w := by
    rcases hh with h | h | h | h
    · simp at h
    · exact h.2
    · simp at h
    · simp at h
  have hw : W64 w := hok.w
  have hb := there_bounds hth.2.1
  have hxl := hx.1
  have hcn := cellsN_le c
  have hhb := hd_b hw
  have hm0 := Int.emod_nonneg (hd w + bl.length) (b := 4294967296) (by omega)
  have hm1 := Int.emod_lt_of_pos (hd w + bl.length) (b := 4294967296) (by omega)
  have hsb := slot_b hth.2.1 hm0
  have hthr : thr xs (slotA c v ((hd w + bl.length) % 4294967296)) := ⟨by omega, by omega⟩
  have hwt : (slotA c v ((hd w + bl.length) % 4294967296)).toNat = sslN c v w bl.length := rfl
  obtain ⟨st', r', _, f24, _⟩ := hr.loadE hthr
  rw [hwt] at f24
  generalize he : stepT c p v xs ⟨2, w, bl, 0, ly⟩ = sx
  have ho : opsT ⟨2, w, bl, 0, ly⟩ o = IntKind.u64.wrap (o + 1) := rfl
  rw [ho]
  simp only [stepT] at he
  generalize xs.getD (sslN c v w bl.length) 0 = w' at f24 he
  rw [if_neg (by decide), if_neg (by decide), if_pos trivial] at he
  have hhd := fun m : MM => head_eq m hw
  have hsl := fun m : MM => slot_eqR m hth.2.1.1 v hm0 hm1
  have hhw := half_b w
  have hs0 := sz_b w
  have e1 : IntKind.u32.wrap (bl.length : Int) = bl.length := by rw [wrap32]; omega
  have e2 : IntKind.u32.wrap (hd w + bl.length) = (hd w + bl.length) % 4294967296 := by rw [wrap32]
  have hqx : qb ≠ xj := fun hh => by rw [hh, hj] at gq; cases gq
  have hqj : qb ≠ j := fun hh => by rw [hh, hi] at gq; cases gq
  have lq : qb < m.length := (List.getElem?_eq_some_iff.1 gq).1
  have hj0 := hj
  simp only [cfC, List.cons_append, List.nil_append] at hsl
  simp only [stC, cfC, List.cons_append, List.nil_append] at hj
  have hroom : bl.length + 1 ≤ cap := by omega
  refine Fn_of rfl ?_
  have hg := fun K : MM => (show (((m.set j (.abs (.mem st'))).set qb (.cells 1 false (L.take bl.length ++ .int .i64 (IntKind.i64.wrap w') :: L.drop (bl.length + 1)))).set xj (.cells 13 false (stC c p v 2 w .nilp (.sl qb 0 (bl.length + 1) (some cap)) 0)) ++ K)[xj]? = some (.cells 13 false (stC c p v 2 w .nilp (.sl qb 0 (bl.length + 1) (some cap)) 0)) by
    rw [List.getElem?_append_left (by simpa using lj), List.getElem?_set_self (by simpa using lj)])
  have hhalf := fun K : MM => half_eq (hg K) hw
  have fin : ∀ (a' : Int) (K : MM), sx = (⟨a', w, bl ++ [IntKind.i64.wrap w'], 0, ly⟩, xs) → (a' = 2 ∨ a' = 3) → SqP m P Q c p v xj j sx (IntKind.u64.wrap (o + 1)) (.tup []) (((m.set j (.abs (.mem st'))).set qb (.cells 1 false (L.take bl.length ++ .int .i64 (IntKind.i64.wrap w') :: L.drop (bl.length + 1)))).set xj (.cells 13 false (stC c p v a' w .nilp (.sl qb 0 (bl.length + 1) (some cap)) 0)) ++ K) := by
    intro a' K hsx ha'
    subst hsx
    refine ⟨rfl, KeepP.app ((((KeepP.refl m).set (.inr (.inr rfl)) _).set (.inl hPq) _).set (.inl hown) _) K, ⟨.inl hown, .nilp, .sl qb 0 (bl.length + 1) (some cap), ?_, .inr ⟨cap, ⟨qb, L.take bl.length ++ .int .i64 (IntKind.i64.wrap w') :: L.drop (bl.length + 1), .inl hPq, by simp, ?_, ?_, ?_, ?_, ⟨l'.take bl.length ++ IntKind.i64.wrap w' :: l'.drop (bl.length + 1), ?_⟩⟩, fun _ => hcap⟩, .inl ⟨rfl, rfl⟩⟩, st', ?_, r'⟩
    · rw [List.getElem?_append_left (by simpa using lj), List.getElem?_set_self (by simpa using lj)]
    · rw [List.getElem?_append_left (by simpa using lq), List.getElem?_set_ne (Ne.symm hqx), List.getElem?_set_self (by simpa using lq)]
    · simp; omega
    · simp; omega
    · have e : (bl ++ [IntKind.i64.wrap w']).length = bl.length + 1 := by simp
      show List.take (bl ++ [IntKind.i64.wrap w']).length _ = iC (bl ++ [IntKind.i64.wrap w'])
      rw [e, iC_app, List.take_append, List.length_take, Nat.min_eq_left (by omega), List.take_take, Nat.min_eq_right (by omega), hb3, show bl.length + 1 - bl.length = 1 by omega]
      rfl
    · rw [hl']; simp [iC]
    · rw [List.getElem?_append_left (by simpa using li), List.getElem?_set_ne hij, List.getElem?_set_ne hqj, List.getElem?_set_self li]
  clear hg
  simp only [stC, cfC, List.cons_append, List.nil_append] at hhalf
  simp (disch := first | assumption | omega | (simp only [zl] <;> omega) | (simp only [zn])) only [steal_Steal_copy, ↓zd, zk, Nat.reduceSub, Nat.reduceAdd, Nat.reduceMul, Nat.reduceLeDiff, Nat.reduceEqDiff, reduceIte, Int.reduceEq, Int.reduceBEq, Int.reduceLE, Int.reduceLT, Int.reduceNeg, Int.reduceAdd, Int.reduceSub, Int.reduceMul, List.map, AV.cells, List.all, AV.one, eqV, eqAll, splice, fillA, List.replicate, resAll, resA, zm, zg, hj, hi, a160, hsl, a24, f24, a179, hhd, cfC, ev_len, lenA, e1, e2, evA, fillA, repeatL, List.flatten_cons, List.flatten_nil, appendA, rowOf, gq, a288, hhalf]
  by_cases hf : ((bl.length : Int) + 1) = halfI w
  · rw [if_pos hf] at he
    have hf' : ((bl.length + 1 : Nat) : Int) = halfI w := by omega
    simp (disch := first | assumption | omega | (simp only [zl] <;> omega) | (simp only [zn])) only [↓zd, zk, Nat.reduceSub, Nat.reduceAdd, Nat.reduceMul, Nat.reduceLeDiff, Nat.reduceEqDiff, reduceIte, Int.reduceEq, Int.reduceBEq, Int.reduceLE, Int.reduceLT, Int.reduceNeg, Int.reduceAdd, Int.reduceSub, Int.reduceMul, List.map, AV.cells, List.all, AV.one, eqV, eqAll, splice, fillA, List.replicate, resAll, resA, zm, zg, hf', List.set_set]
    exact fin 3 _ he.symm (.inr rfl)
  · rw [if_neg hf] at he
    have hf' : ¬ (((bl.length + 1 : Nat) : Int) = halfI w) := by omega
    simp (disch := first | assumption | omega | (simp only [zl] <;> omega) | (simp only [zn])) only [↓zd, zk, Nat.reduceSub, Nat.reduceAdd, Nat.reduceMul, Nat.reduceLeDiff, Nat.reduceEqDiff, reduceIte, Int.reduceEq, Int.reduceBEq, Int.reduceLE, Int.reduceLT, Int.reduceNeg, Int.reduceAdd, Int.reduceSub, Int.reduceMul, List.map, AV.cells, List.all, AV.one, eqV, eqAll, splice, fillA, List.replicate, resAll, resA, zm, zg, hf', List.set_set]
    exact fin 2 _ he.symm (.inl rfl)
end Go.Am.F11
end
section
namespace Go.Am.F11
open Go.Am.F06 Go.Am.F10 Go.Am.F09
def Gsg : List (Nat × AFun Ob) := [(159, F10.c_conf_Config_Word), (288, c_steal_Steal_half), (180, c_word_Gain), (23, memF casS), (199, amFunc Gnl put_NewLay)]
set_option maxHeartbeats 16000000 in
theorem sgain_run {m : MM} {P Q : Nat → Prop} {c : Cf} {p v o : Int} {s : TS} {xj j : Nat} {xs : List Int} {st : MemSt} (hT : TQ m P Q c p v xj s) (hi : m[j]? = some (.abs (.mem st))) (hr : RelM xs o st) (hok : TOk c p v s) (hx : OkL c xs) (ha : s.a = 3) :
    Fn Gsg steal_Steal_gain [.ptr xj 0, .ptr j 0] m (SqP m P Q c p v xj j (stepT c p v xs s) (opsT s o)) := by
  have a159 : assoc Gsg 159 = some F10.c_conf_Config_Word := rfl
  have a288 : assoc Gsg 288 = some c_steal_Steal_half := rfl
  have a180 : assoc Gsg 180 = some c_word_Gain := rfl
  have a23 : assoc Gsg 23 = some (memF casS) := rfl
  have a199 : assoc Gsg 199 = some (amFunc Gnl put_NewLay) := rfl
  generalize Gsg = G at a159 a288 a180 a23 a199 ⊢
  obtain ⟨hown, lyv, bv, hj, hB, hL⟩ := hT
  have hij : xj ≠ j := fun h => by rw [h, hi] at hj; cases hj
  have lj : xj < m.length := (List.getElem?_eq_some_iff.1 hj).1
  have li : j < m.length := (List.getElem?_eq_some_iff.1 hi).1
  have hk0 : s.k = 0 := by rcases hok.k with hk | hk <;> omega
  have hly : lyv = .nilp := by
    rcases hL with hL | hL
    · exact hL.2
    · omega
  subst hly
  obtain ⟨a, w, bl, k, ly⟩ := s
  simp only at ha hk0 hj
  subst ha; subst hk0
  obtain ⟨cap, ⟨qb, L, hPq, rfl, gq, hb1, hb2, hb3, hb4⟩, _⟩ := hB.resolve_left (fun h => h.2.2.2.1 rfl)
  simp only at hb1 hb3
  obtain ⟨hth, hh⟩ := hok.a.resolve_left (by simp)
  have hh2 : sz w ≤ c.q ∧ (bl.length : Int) = halfI w ∧ 0 < bl.length := by
    rcases hh with h | h | h | h
    · simp at h
    · simp at h
    · exact h.2
    · simp at h
  have hw : W64 w := hok.w
  have hbb : bl.length ≤ 64 := hok.b
  have hb := there_bounds hth.2.1
  have hxl := hx.1
  have hcn := cellsN_le c
  have ha0 := addr_b hth.2.1 (i := 0) (by omega) (by omega)
  have hthr : thr xs (addrA c v 0) := ⟨by omega, by omega⟩
  have hwt : (addrA c v 0).toNat = wrdN c v := rfl
  have hhw := half_b w
  have hs0 := sz_b w
  obtain ⟨st', r', _, f23, _⟩ := hr.casE hthr w (gainN w (halfI w))
  rw [hwt] at f23 r'
  generalize he : stepT c p v xs ⟨3, w, bl, 0, ly⟩ = sx
  have ho : opsT ⟨3, w, bl, 0, ly⟩ o = IntKind.u64.wrap (o + 1) := rfl
  rw [ho]
  simp only [stepT] at he
  rw [if_neg (by decide), if_neg (by decide), if_neg (by decide), if_pos trivial] at he
  have hwr := fun m : MM => word_run (m := m) c v
  have hgn := fun m : MM => gainN_eq m hw (n := halfI w)
  have hqx : qb ≠ xj := fun hh => by rw [hh, hj] at gq; cases gq
  have hqj : qb ≠ j := fun hh => by rw [hh, hi] at gq; cases gq
  have lq : qb < m.length := (List.getElem?_eq_some_iff.1 gq).1
  have hhalf := fun K : MM => half_eq ((Keep.app m K).get hj) hw
  have e1 : IntKind.u32.wrap (halfI w) = halfI w := by rw [wrap32]; omega
  simp only [cfC, List.cons_append, List.nil_append] at hwr
  have hj0 := hj
  simp only [stC, cfC, List.cons_append, List.nil_append] at hj hhalf
  refine Fn_of rfl ?_
  by_cases heq : xs.getD (wrdN c v) 0 = w
  · rw [if_pos heq] at he r'
    have hd : decide (xs.getD (wrdN c v) 0 = w) = true := decide_eq_true heq
    simp only [hd] at f23
    have hs3 : ∀ K : MM, amOp G (.slice 1 false true true) [.sl qb 0 bl.length (some cap), .int .i64 (bl.length : Int), .int .i64 (bl.length : Int)] K = some (.sl qb 0 bl.length (some bl.length), K) := fun K => by
      have hc : bl.length ≤ cap := hb1
      simp [amOp, optN, sliceA, hc]
    have hs1 : ∀ K : MM, amOp G (.slice 1 true false false) [.sl qb 0 bl.length (some bl.length), .int .i64 1] K = some (.sl qb (if bl.length = 1 then 0 else 1) (bl.length - 1) (some (bl.length - 1)), K) := fun K => by
      have hc : 1 ≤ bl.length := hh2.2.2
      simp [amOp, optN, sliceA, hc]
    simp (disch := first | assumption | omega | (simp only [zl] <;> omega) | (simp only [zn])) only [steal_Steal_gain, ↓zd, zk, Nat.reduceSub, Nat.reduceAdd, Nat.reduceMul, Nat.reduceLeDiff, Nat.reduceEqDiff, reduceIte, Int.reduceEq, Int.reduceBEq, Int.reduceLE, Int.reduceLT, Int.reduceNeg, Int.reduceAdd, Int.reduceSub, Int.reduceMul, List.map, AV.cells, List.all, AV.one, eqV, eqAll, splice, fillA, List.replicate, resAll, resA, zm, zg, hj, hi, a159, hwr, a288, hhalf, e1, a180, hgn, a23, f23, cfC, ev_len, lenA, evA, hs3, hs1, List.set_set, a199]
    obtain ⟨K, hK⟩ : ∃ K : MM, K = [Chunk.cells 6 false (cfC c), .cells 7 false (cfC c ++ [.int .i64 v]), .cells 6 false (cfC c)] := ⟨_, rfl⟩
    simp only [cfC, List.cons_append, List.nil_append] at hK
    rw [← hK]
    obtain ⟨E, hE⟩ : ∃ E : MM, E = (m.set j (.abs (.mem st'))).set xj (.cells 13 false (stC c p v 3 w .nilp (.sl qb 0 bl.length (some bl.length)) bl.length)) ++ K := ⟨_, rfl⟩
    have kE : KeepP P j m E := by rw [hE]; exact KeepP.app (((KeepP.refl m).set (.inr (.inr rfl)) _).set (.inl hown) _) K
    have gx : E[xj]? = some (.cells 13 false (stC c p v 3 w .nilp (.sl qb 0 bl.length (some bl.length)) bl.length)) := by
      rw [hE, List.getElem?_append_left (by simpa using lj), List.getElem?_set_self (by simpa using lj)]
    have gj : E[j]? = some (.abs (.mem st')) := by
      rw [hE, List.getElem?_append_left (by simpa using li), List.getElem?_set_ne hij, List.getElem?_set_self li]
    have gqE : E[qb]? = some (.cells 1 false L) := by
      rw [hE, List.getElem?_append_left (by simpa using lq), List.getElem?_set_ne (Ne.symm hqx), List.getElem?_set_ne (Ne.symm hqj)]; exact gq
    simp only [stC, cfC, List.cons_append, List.nil_append] at hE
    rw [← hE]
    clear hE
    have hsi : SI E true bl.tail (.sl qb (if bl.length = 1 then 0 else 1) (bl.length - 1) (some (bl.length - 1))) := by
      refine ⟨by rw [iC_len]; simp, .inr ⟨qb, _, _, by rw [List.length_tail], fun h0 => ⟨false, L, gqE, ?_, ?_, fun _ => rfl⟩⟩⟩
      · rw [List.length_tail] at h0 ⊢
        rw [if_neg (by omega), Nat.mul_one]
        have e : (L.take bl.length).drop 1 = (L.drop 1).take (bl.length - 1) := by rw [List.drop_take]
        rw [← e, hb3, iC, iC, ← List.drop_one, List.map_drop]
      · rw [List.length_tail] at h0 ⊢
        rw [if_neg (by omega)]; omega
    have hnl := newlay_run (c := c) (p := p) hsi (by rw [List.length_tail]; omega)
    simp only [cfC, List.cons_append, List.nil_append] at hnl
    refine OK_fn hnl ?_
    rintro _ m2 ⟨lb, lxv, rfl, hlb, k2, hlm, hlf⟩
    have gx2 := k2.get gx
    have gj2 := k2.get gj
    have gq2 := k2.get gqE
    have llb : lb < m2.length := (List.getElem?_eq_some_iff.1 hlm.get).1
    have lx2 : xj < m2.length := (List.getElem?_eq_some_iff.1 gx2).1
    have hmE := kE.1
    have kP : KeepP P j m m2 := kE.trans (KeepP.of k2)
    have fin : ∀ a' : Int, sx = (⟨a', w, bl, bl.length, newL c p bl.tail⟩, xs.set (wrdN c v) (gainN w (halfI w))) → (a' = 0 ∨ a' = 4) → SqP m P Q c p v xj j sx (IntKind.u64.wrap (o + 1)) (.tup []) (m2.set xj (.cells 13 false (stC c p v a' w (.ptr lb 0) (.sl qb 0 bl.length (some bl.length)) bl.length))) := by
      intro a' hsx ha'
      subst hsx
      have hne : lb ≠ xj := by omega
      have hn1 : ∀ ro L, m2[xj]? ≠ some (.cells 1 ro L) := fun ro L hh => by rw [gx2] at hh; cases hh
      refine ⟨rfl, kP.set (.inl hown) _, ⟨.inl hown, .ptr lb 0, _, List.getElem?_set_self lx2, .inr ⟨bl.length, ⟨qb, L, .inl hPq, rfl, by rw [List.getElem?_set_ne (Ne.symm hqx)]; exact gq2, Nat.le_refl _, by omega, hb3, hb4⟩, fun h => by rcases ha' with h' | h' <;> (subst h'; cases h)⟩, .inr ⟨by show (0 : Int) < (bl.length : Int); omega, lb, lxv, rfl, .inr ⟨by omega, by simpa using llb⟩, ⟨by rw [List.getElem?_set_ne (Ne.symm hne)]; exact hlm.get, Sl.put hlm.l hn1 _, fun h0 => (hlm.nx h0).put hn1 _⟩, fun q o n cap hv h0 => .inr ?_⟩⟩, st', by rw [List.getElem?_set_ne hij]; exact gj2, r'⟩
      have hlen := hlm.l.len
      rw [hv] at hlen; simp only [lenA, Option.some.injEq] at hlen; subst hlen
      have h1 := (Sl.lt hlm.l hv h0).1
      rcases hlf with h | ⟨_, _, _, _, h, h'⟩
      · rw [h] at hv; cases hv
      · rw [h] at hv; injection hv with e1; exact ⟨by omega, by simpa using (show q < m2.length by omega)⟩
    simp only [stC, cfC, List.cons_append, List.nil_append] at gx2 fin
    by_cases h1 : bl.length = 1
    · have h1' : ((bl.length : Nat) : Int) = 1 := by omega
      rw [if_pos h1] at he
      simp (disch := first | assumption | omega | (simp only [zl] <;> omega) | (simp only [zn])) only [↓zd, zk, Nat.reduceSub, Nat.reduceAdd, Nat.reduceMul, Nat.reduceLeDiff, Nat.reduceEqDiff, reduceIte, Int.reduceEq, Int.reduceBEq, Int.reduceLE, Int.reduceLT, Int.reduceNeg, Int.reduceAdd, Int.reduceSub, Int.reduceMul, List.map, AV.cells, List.all, AV.one, eqV, eqAll, splice, fillA, List.replicate, resAll, resA, zm, zg, gx2, h1', List.set_set]
      have := fin 0 he.symm (.inl rfl)
      rw [h1'] at this
      exact this
    · have h1' : ¬ (((bl.length : Nat) : Int) = 1) := by omega
      rw [if_neg h1] at he
      simp (disch := first | assumption | omega | (simp only [zl] <;> omega) | (simp only [zn])) only [↓zd, zk, Nat.reduceSub, Nat.reduceAdd, Nat.reduceMul, Nat.reduceLeDiff, Nat.reduceEqDiff, reduceIte, Int.reduceEq, Int.reduceBEq, Int.reduceLE, Int.reduceLT, Int.reduceNeg, Int.reduceAdd, Int.reduceSub, Int.reduceMul, List.map, AV.cells, List.all, AV.one, eqV, eqAll, splice, fillA, List.replicate, resAll, resA, zm, zg, gx2, h1', List.set_set]
      exact fin 4 he.symm (.inr rfl)
  · rw [if_neg heq] at he r'
    have hd : decide (xs.getD (wrdN c v) 0 = w) = false := decide_eq_false heq
    simp only [hd] at f23
    simp (disch := first | assumption | omega | (simp only [zl] <;> omega) | (simp only [zn])) only [steal_Steal_gain, ↓zd, zk, Nat.reduceSub, Nat.reduceAdd, Nat.reduceMul, Nat.reduceLeDiff, Nat.reduceEqDiff, reduceIte, Int.reduceEq, Int.reduceBEq, Int.reduceLE, Int.reduceLT, Int.reduceNeg, Int.reduceAdd, Int.reduceSub, Int.reduceMul, List.map, AV.cells, List.all, AV.one, eqV, eqAll, splice, fillA, List.replicate, resAll, resA, zm, zg, hj, hi, a159, hwr, a288, hhalf, e1, a180, hgn, a23, f23, cfC, ev_len, lenA, evA, List.set_set]
    subst he
    refine ⟨rfl, KeepP.app (((KeepP.refl m).set (.inr (.inr rfl)) _).set (.inl hown) _) _, ⟨.inl hown, .nilp, .nils, ?_, .inl ⟨rfl, rfl, by simp, by simp, rfl⟩, .inl ⟨rfl, rfl⟩⟩, st', ?_, r'⟩
    · rw [List.getElem?_append_left (by simpa using lj), List.getElem?_set_self (by simpa using lj)]; rfl
    · rw [List.getElem?_append_left (by simpa using li), List.getElem?_set_ne hij, List.getElem?_set_self li]
end Go.Am.F11
end
section
namespace Go.Am.F11
open Go.Am.F06 Go.Am.F10 Go.Am.F09
def Gst : List (Nat × AFun Ob) := [(277, c_steal_Steal_Done), (283, amFunc Gsl steal_Steal_look), (284, amFunc Gsc steal_Steal_copy), (285, amFunc Gsg steal_Steal_gain), (195, amFunc Glst put_Lay_Step)]
def SsQ (m : MM) (P Q : Nat → Prop) (c : Cf) (p v : Int) (xj j : Nat) (x : TS × List Int) (o : Int) (r : AV) (m' : MM) : Prop := r = .bool (decide (x.1.a = 0)) ∧ KeepP P j m m' ∧ TQ m' (NewP P m m') (NewP Q m m') c p v xj x.1 ∧ ∃ st', m'[j]? = some (.abs (.mem st')) ∧ RelM x.2 o st'
theorem BtO.bal {m : MM} {P : Nat → Prop} {c : Cf} {s : TS} {bv : AV} (h : BtO m P c s bv) (hk : 0 < s.k) : ∃ cap, Bt m P cap s.bl bv := by
  rcases h with h | ⟨cap, h, _⟩
  · have := h.2.2.2.2; omega
  · exact ⟨cap, h⟩
set_option maxHeartbeats 16000000 in
theorem sstepQ_run {m : MM} {P Q : Nat → Prop} {c : Cf} {p v o : Int} {s : TS} {xj j : Nat} {xs : List Int} {st : MemSt} (hT : TQ m P Q c p v xj s) (hi : m[j]? = some (.abs (.mem st))) (hr : RelM xs o st) (hok : TOk c p v s) (hx0 : s.a = 0 ∨ OkL c xs) :
    Fn Gst steal_Steal_Step [.ptr xj 0, .ptr j 0] m (fun r m' => SsQ m P Q c p v xj j (stepT c p v xs s) (opsT s o) r m' ∧ (0 < s.k → RowsK m m')) := by
  have a277 : assoc Gst 277 = some c_steal_Steal_Done := rfl
  have a283 : assoc Gst 283 = some (amFunc Gsl steal_Steal_look) := rfl
  have a284 : assoc Gst 284 = some (amFunc Gsc steal_Steal_copy) := rfl
  have a285 : assoc Gst 285 = some (amFunc Gsg steal_Steal_gain) := rfl
  have a195 : assoc Gst 195 = some (amFunc Glst put_Lay_Step) := rfl
  generalize Gst = G at a277 a283 a284 a285 a195 ⊢
  have hT0 := hT
  obtain ⟨hown, lyv, bv, hj, hB, hL⟩ := hT
  have hij : xj ≠ j := fun h => by rw [h, hi] at hj; cases hj
  have lj : xj < m.length := (List.getElem?_eq_some_iff.1 hj).1
  have hdone := sdone_eq hj
  refine Fn_of rfl ?_
  by_cases h0 : s.a = 0
  · have e : stepT c p v xs s = (s, xs) := if_pos h0
    have e2 : opsT s o = o := if_pos h0
    rw [decide_eq_true h0] at hdone
    rw [e, e2]
    simp (disch := first | assumption | omega | (simp only [zl] <;> omega) | (simp only [zn])) only [steal_Steal_Step, ↓zd, zk, Nat.reduceSub, Nat.reduceAdd, Nat.reduceMul, Nat.reduceLeDiff, Nat.reduceEqDiff, reduceIte, Int.reduceEq, Int.reduceBEq, Int.reduceLE, Int.reduceLT, Int.reduceNeg, Int.reduceAdd, Int.reduceSub, Int.reduceMul, List.map, AV.cells, List.all, AV.one, eqV, eqAll, splice, fillA, List.replicate, resAll, resA, zm, zg, a277, hdone]
    refine ⟨⟨by rw [decide_eq_true h0], .refl _, ?_, st, hi, hr⟩, fun _ q ro L h => h⟩
    have hN : ∀ P, NewP P m m = P := fun P => by
      funext i; unfold NewP
      exact propext ⟨fun h => h.elim id fun h => by omega, .inl⟩
    rw [hN, hN]; exact hT0
  · have hx : OkL c xs := hx0.resolve_left h0
    rw [decide_eq_false h0] at hdone
    have hfin : ∀ {x : TS × List Int} {o' : Int} {r : AV} {m1 : MM}, SqP m P Q c p v xj j x o' r m1 → ∃ lyv bv, m1[xj]? = some (.cells 13 false (stC c p v x.1.a x.1.w lyv bv x.1.k)) ∧ SsQ m P Q c p v xj j x o' (.bool (decide (x.1.a = 0))) m1 := fun {x o' r m1} ⟨_, h2, h3, h4⟩ => by
      obtain ⟨lyv, bv, h6, _⟩ := h3.get
      exact ⟨lyv, bv, h6, rfl, h2, h3, h4⟩
    simp only [stC, cfC, List.cons_append, List.nil_append] at hj
    obtain ⟨hth, ha⟩ := hok.a.resolve_left h0
    rcases (show s.a = 1 ∨ s.a = 2 ∨ s.a = 3 ∨ (s.a = 4 ∧ 0 < s.k) by omega) with h1 | h1 | h1 | ⟨h1, hk⟩
    · simp (disch := first | assumption | omega | (simp only [zl] <;> omega) | (simp only [zn])) only [steal_Steal_Step, ↓zd, zk, Nat.reduceSub, Nat.reduceAdd, Nat.reduceMul, Nat.reduceLeDiff, Nat.reduceEqDiff, reduceIte, Int.reduceEq, Int.reduceBEq, Int.reduceLE, Int.reduceLT, Int.reduceNeg, Int.reduceAdd, Int.reduceSub, Int.reduceMul, List.map, AV.cells, List.all, AV.one, eqV, eqAll, splice, fillA, List.replicate, resAll, resA, zm, zg, a277, hdone, hj, h1, a283]
      refine OK_fn (slook_run hT0 hi hr hok hx h1) ?_
      intro r m1 hq
      obtain ⟨lyv', bv', gx, hf⟩ := hfin hq
      simp only [stC, cfC, List.cons_append, List.nil_append] at gx
      have hk0 : s.k = 0 := by rcases hok.k with hk | hk <;> omega
      simp (disch := first | assumption | omega | (simp only [zl] <;> omega) | (simp only [zn])) only [↓zd, zk, Nat.reduceSub, Nat.reduceAdd, Nat.reduceMul, Nat.reduceLeDiff, Nat.reduceEqDiff, reduceIte, Int.reduceEq, Int.reduceBEq, Int.reduceLE, Int.reduceLT, Int.reduceNeg, Int.reduceAdd, Int.reduceSub, Int.reduceMul, List.map, AV.cells, List.all, AV.one, eqV, eqAll, splice, fillA, List.replicate, resAll, resA, zm, zg, gx]
      exact ⟨hf, fun h => by omega⟩
    · simp (disch := first | assumption | omega | (simp only [zl] <;> omega) | (simp only [zn])) only [steal_Steal_Step, ↓zd, zk, Nat.reduceSub, Nat.reduceAdd, Nat.reduceMul, Nat.reduceLeDiff, Nat.reduceEqDiff, reduceIte, Int.reduceEq, Int.reduceBEq, Int.reduceLE, Int.reduceLT, Int.reduceNeg, Int.reduceAdd, Int.reduceSub, Int.reduceMul, List.map, AV.cells, List.all, AV.one, eqV, eqAll, splice, fillA, List.replicate, resAll, resA, zm, zg, a277, hdone, hj, h1, a284]
      refine OK_fn (scopy_run hT0 hi hr hok hx h1) ?_
      intro r m1 hq
      obtain ⟨lyv', bv', gx, hf⟩ := hfin hq
      simp only [stC, cfC, List.cons_append, List.nil_append] at gx
      have hk0 : s.k = 0 := by rcases hok.k with hk | hk <;> omega
      simp (disch := first | assumption | omega | (simp only [zl] <;> omega) | (simp only [zn])) only [↓zd, zk, Nat.reduceSub, Nat.reduceAdd, Nat.reduceMul, Nat.reduceLeDiff, Nat.reduceEqDiff, reduceIte, Int.reduceEq, Int.reduceBEq, Int.reduceLE, Int.reduceLT, Int.reduceNeg, Int.reduceAdd, Int.reduceSub, Int.reduceMul, List.map, AV.cells, List.all, AV.one, eqV, eqAll, splice, fillA, List.replicate, resAll, resA, zm, zg, gx]
      exact ⟨hf, fun h => by omega⟩
    · simp (disch := first | assumption | omega | (simp only [zl] <;> omega) | (simp only [zn])) only [steal_Steal_Step, ↓zd, zk, Nat.reduceSub, Nat.reduceAdd, Nat.reduceMul, Nat.reduceLeDiff, Nat.reduceEqDiff, reduceIte, Int.reduceEq, Int.reduceBEq, Int.reduceLE, Int.reduceLT, Int.reduceNeg, Int.reduceAdd, Int.reduceSub, Int.reduceMul, List.map, AV.cells, List.all, AV.one, eqV, eqAll, splice, fillA, List.replicate, resAll, resA, zm, zg, a277, hdone, hj, h1, a285]
      refine OK_fn (sgain_run hT0 hi hr hok hx h1) ?_
      intro r m1 hq
      obtain ⟨lyv', bv', gx, hf⟩ := hfin hq
      simp only [stC, cfC, List.cons_append, List.nil_append] at gx
      have hk0 : s.k = 0 := by rcases hok.k with hk | hk <;> omega
      simp (disch := first | assumption | omega | (simp only [zl] <;> omega) | (simp only [zn])) only [↓zd, zk, Nat.reduceSub, Nat.reduceAdd, Nat.reduceMul, Nat.reduceLeDiff, Nat.reduceEqDiff, reduceIte, Int.reduceEq, Int.reduceBEq, Int.reduceLE, Int.reduceLT, Int.reduceNeg, Int.reduceAdd, Int.reduceSub, Int.reduceMul, List.map, AV.cells, List.all, AV.one, eqV, eqAll, splice, fillA, List.replicate, resAll, resA, zm, zg, gx]
      exact ⟨hf, fun h => by omega⟩
    · obtain ⟨_, lb, lxv, rfl, hPl, hlm, hlQ⟩ := hL.resolve_left (fun h => by omega)
      obtain ⟨k1, k2, k3, k4, k5⟩ := hok.k.resolve_left (by omega)
      obtain ⟨cap, qb, L, hPq, rfl, gq, hb1, hb2, hb3⟩ := hB.bal hk
      have hlx : lb ≠ xj := fun hh => by rw [← hh, hlm.get] at hj; injection hj with hj; injection hj with hj; cases hj
      have hlj : lb ≠ j := fun hh => by rw [← hh, hlm.get] at hi; cases hi
      have hqx : qb ≠ xj := fun hh => by rw [hh, hj] at gq; cases gq
      have hqj : qb ≠ j := fun hh => by rw [hh, hi] at gq; cases gq
      have hql : qb ≠ lb := fun hh => by rw [hh, hlm.get] at gq; cases gq
      have e : stepT c p v xs s = ({ s with ly := (stepL c p xs s.ly).1, a := if (stepL c p xs s.ly).1.a = 0 then 0 else 4 }, (stepL c p xs s.ly).2) := by
        rw [stepT, if_neg h0, if_neg (by omega), if_neg (by omega), if_neg (by omega)]
      have e2 : opsT s o = opsL s.ly o := by rw [opsT, if_neg h0, if_pos h1]
      rw [e, e2]
      simp (disch := first | assumption | omega | (simp only [zl] <;> omega) | (simp only [zn])) only [steal_Steal_Step, ↓zd, zk, Nat.reduceSub, Nat.reduceAdd, Nat.reduceMul, Nat.reduceLeDiff, Nat.reduceEqDiff, reduceIte, Int.reduceEq, Int.reduceBEq, Int.reduceLE, Int.reduceLT, Int.reduceNeg, Int.reduceAdd, Int.reduceSub, Int.reduceMul, List.map, AV.cells, List.all, AV.one, eqV, eqAll, splice, fillA, List.replicate, resAll, resA, zm, zg, a277, hdone, hj, h1, a195]
      refine OK_fn (lstep_runQ hlm hi hr (.inr hx) k4) ?_
      rintro _ m1 ⟨rfl, kx, ⟨lv', hlm', hsub⟩, st', j1, r1⟩
      generalize stepL c p xs s.ly = y at hlm' r1 ⊢
      have gx := kx.get hj (Ne.symm hlx) hij
      have gq1 := kx.get gq hql hqj
      have lx1 : xj < m1.length := (List.getElem?_eq_some_iff.1 gx).1
      have kP : KeepP P j m m1 := ⟨kx.1, fun i hi h1 h2 => kx.2 i hi (fun hh => h2 (by rw [hh]; exact hPl)) h1⟩
      have fin : ∀ a' : Int, (a' = if y.1.a = 0 then 0 else 4) → ∀ C, C = stC c p v a' s.w (.ptr lb 0) (.sl qb 0 s.bl.length (some cap)) s.k → SsQ m P Q c p v xj j ({ s with ly := y.1, a := if y.1.a = 0 then 0 else 4 }, y.2) (opsL s.ly o) (.bool (decide (a' = 0))) (m1.set xj (.cells 13 false C)) ∧ RowsK m (m1.set xj (.cells 13 false C)) := by
        rintro a' rfl C rfl
        have hn1 : ∀ ro L, m1[xj]? ≠ some (.cells 1 ro L) := fun ro L hh => by rw [gx] at hh; cases hh
        refine ⟨⟨rfl, kP.set (.inl hown) _, ⟨.inl hown, .ptr lb 0, _, List.getElem?_set_self lx1, .inr ⟨cap, ⟨qb, L, .inl hPq, rfl, by rw [List.getElem?_set_ne (Ne.symm hqx)]; exact gq1, hb1, hb2, hb3⟩, fun h => ?_⟩, .inr ⟨hk, lb, lv', rfl, .inl hPl, ⟨by rw [List.getElem?_set_ne (Ne.symm hlx)]; exact hlm'.get, Sl.put hlm'.l hn1 _, fun h0 => (hlm'.nx h0).put hn1 _⟩, hsub _ fun q o n cap hv h0 => .inl (hlQ q o n cap hv h0)⟩⟩, st', by rw [List.getElem?_set_ne hij]; exact j1, r1⟩, fun q ro L hq => ?_⟩
        · simp only at h
          split at h <;> cases h
        · rw [List.getElem?_set_ne (fun hh => by rw [← hh, hj] at hq; cases hq)]
          exact kx.get hq (fun hh => by rw [hh, hlm.get] at hq; cases hq) (fun hh => by rw [hh, hi] at hq; cases hq)
      simp only [stC, cfC, List.cons_append, List.nil_append] at fin
      by_cases hy : y.1.a = 0
      · simp (disch := first | assumption | omega | (simp only [zl] <;> omega) | (simp only [zn])) only [↓zd, zk, Nat.reduceSub, Nat.reduceAdd, Nat.reduceMul, Nat.reduceLeDiff, Nat.reduceEqDiff, reduceIte, Int.reduceEq, Int.reduceBEq, Int.reduceLE, Int.reduceLT, Int.reduceNeg, Int.reduceAdd, Int.reduceSub, Int.reduceMul, List.map, AV.cells, List.all, AV.one, eqV, eqAll, splice, fillA, List.replicate, resAll, resA, zm, zg, hy, gx]
        have := fin 0 (by rw [if_pos hy]) _ rfl
        simp only [hy] at this
        exact ⟨by simpa using this.1, fun _ => this.2⟩
      · simp (disch := first | assumption | omega | (simp only [zl] <;> omega) | (simp only [zn])) only [↓zd, zk, Nat.reduceSub, Nat.reduceAdd, Nat.reduceMul, Nat.reduceLeDiff, Nat.reduceEqDiff, reduceIte, Int.reduceEq, Int.reduceBEq, Int.reduceLE, Int.reduceLT, Int.reduceNeg, Int.reduceAdd, Int.reduceSub, Int.reduceMul, List.map, AV.cells, List.all, AV.one, eqV, eqAll, splice, fillA, List.replicate, resAll, resA, zm, zg, hy, gx, h1]
        have hself : m1.set xj (.cells 13 false [AV.int .i64 c.n, .int .i64 c.q, .int .i64 c.g, .int .i64 c.m, .int .i64 c.t, .int .i64 c.s, .ptr lb 0, .int .i64 p, .int .i64 v, .int .i64 4, .int .u64 s.w, .sl qb 0 s.bl.length (some cap), .int .i64 s.k]) = m1 := by
          rw [h1] at gx
          exact List.set_getElem_self_of gx
        have := fin 4 (by rw [if_neg hy]) _ rfl
        rw [hself] at this
        exact ⟨by simpa [hy] using this.1, fun _ => this.2⟩
def SsP (m : MM) (P : Nat → Prop) (c : Cf) (p v : Int) (xj j : Nat) (x : TS × List Int) (o : Int) (r : AV) (m' : MM) : Prop := r = .bool (decide (x.1.a = 0)) ∧ KeepP P j m m' ∧ TM m' (NewP P m m') c p v xj x.1 ∧ ∃ st', m'[j]? = some (.abs (.mem st')) ∧ RelM x.2 o st'
end Go.Am.F11
end
section
namespace Go.Am.F11
open Go.Am.F06 Go.Am.F10 Go.Am.F09
theorem grow_eq {m : MM} {n : Int} (h0 : 0 < n) (h1 : n ≤ 1000) : c_slices_Grow_int [.nils, .int .i64 n] m = some (.sl m.length 0 0 none, m ++ [.cells 1 false (repeatL n.toNat [.int .i64 0])]) := by
  have hz : ∀ G : List (Nat × AFun Ob), amOp G (.appendz 1 8 [.int .i64 0]) [.nils, .int .i64 n] m = some (.sl m.length 0 n.toNat none, m ++ [.cells 1 false (repeatL n.toNat [.int .i64 0])]) := fun G => by
    simp only [amOp]; rw [if_pos ⟨h0, by omega, by omega⟩]
  have hc : ∀ G : List (Nat × AFun Ob), amOp G .cap [.nils] m = some (.int .i64 0, m) := fun G => rfl
  have hsl : sliceA (m ++ [Chunk.cells 1 false (repeatL n.toNat [AV.int .i64 0])]) 1 (.sl m.length 0 n.toNat none) none (some 0) none = some (.sl m.length 0 0 none) := by
    simp only [sliceA, getC, get_concat]
    simp
  refine Fn_eq (Fn_of rfl ?_)
  have hnn : sliceA m 1 .nils none (some 0) none = some .nils := by simp [sliceA]
  have hz0 : n - (0 - ((0 : Nat) : Int)) = n := by omega
  simp (disch := first | assumption | omega | (simp only [zl] <;> omega) | (simp only [zn])) only [slices_Grow_int, ↓zd, zk, Nat.reduceSub, Nat.reduceAdd, Nat.reduceMul, Nat.reduceLeDiff, Nat.reduceEqDiff, reduceIte, Int.reduceEq, Int.reduceBEq, Int.reduceLE, Int.reduceLT, Int.reduceNeg, Int.reduceAdd, Int.reduceSub, Int.reduceMul, List.map, AV.cells, List.all, AV.one, eqV, eqAll, splice, fillA, List.replicate, resAll, resA, zm, zg, hc, hz0, hz, ev_len, lenA, evA, hnn, hsl, Int.toNat_zero]
theorem si_row {M : MM} {wr : Bool} {xs : List Int} {v : AV} (h : SI M wr xs v) : rowOf M 1 v = some (iC xs) := by
  rcases h.2 with ⟨rfl, h0⟩ | ⟨q, o, cap, rfl, h2⟩
  · have : xs = [] := List.eq_nil_of_length_eq_zero h0
    subst this; rfl
  · by_cases h0 : xs.length = 0
    · have : xs = [] := List.eq_nil_of_length_eq_zero h0
      subst this; rfl
    · obtain ⟨ro, L, h3, h4, h5, _⟩ := h2 (by omega)
      simp only [rowOf, if_neg h0, getC, h3]
      rw [if_pos h5, h4]
theorem ic_one (xs : List Int) : (iC xs).all AV.one = true := iC_one xs
theorem app_unk {M : MM} {q n k : Nat} {L new : List AV} {v : AV} (hq : M[q]? = some (.cells 1 false L)) (hn : n ≤ L.length) (h1 : (L.take n).all AV.one = true) (hv : lenA v = some k) (hr : rowOf M 1 v = some new) (h2 : new.all AV.one = true) (hk : n + k ≤ 2000) :
    appendA 1 8 (.sl q 0 n none) v M = some (if k = 0 then (.sl q 0 n none, M) else (.sl M.length 0 (n + k) none, M.set q .dead ++ [.cells 1 false (L.take n ++ new)])) := by
  simp only [appendA, hv, hr]
  by_cases h0 : k = 0
  · rw [if_pos h0, if_pos h0]
  · rw [if_neg h0, if_neg h0]
    simp only [getC, hq, List.drop_zero, Nat.mul_one, Nat.zero_add]
    rw [if_pos ⟨trivial, hn, by omega, by omega, by rw [List.all_append, h1, h2]; rfl⟩]
def Gcc : List (Nat × AFun Ob) := [(290, c_slices_Grow_int)]
def Cc1 (m : MM) (lv : AV) (n1 n2 : Nat) (k : Nat) (e : List AV) (m' : MM) : Prop := ∃ (i : Nat) (y3 y4 y5 y9 y10 y11 y12 y13 y14 : AV),
  e = [lv, .nils, .int .i64 (if i = 0 then 0 else if i = 1 then n1 else n1 + n2), y3, y4, y5, lv, .int .i64 2, .int .i64 i, y9, y10, y11, y12, y13, y14] ∧ k = 2 - i ∧ i ≤ 2 ∧ m' = m
def Cc2 (m : MM) (lv : AV) (xs ys : List Int) (k : Nat) (e : List AV) (m' : MM) : Prop := ∃ (i : Nat) (q : Nat) (y2 y3 y5 y6 y7 y8 y9 y10 y14 : AV) (L : List AV),
  e = [lv, .nils, y2, y3, .sl q 0 (if i = 0 then 0 else if i = 1 then xs.length else xs.length + ys.length) none, y5, y6, y7, y8, y9, y10, lv, .int .i64 2, .int .i64 i, y14] ∧ k = 2 - i ∧ i ≤ 2 ∧ m.length ≤ q ∧ Keep m m' ∧ m'[q]? = some (.cells 1 false L) ∧
  (i = 0 ∨ L = iC (if i = 1 then xs else xs ++ ys))
def CcP (m : MM) (xs : List Int) (r : AV) (m' : MM) : Prop := ∃ q, r = .sl q 0 xs.length none ∧ m.length ≤ q ∧ Keep m m' ∧ m'[q]? = some (.cells 1 false (iC xs))
set_option maxHeartbeats 8000000 in
theorem concat_run {m : MM} {w1 w2 : Bool} {xs ys : List Int} {a b : AV} {lq : Nat} (h1 : SI m w1 xs a) (h2 : SI m w2 ys b) (hx : 0 < xs.length) (hn : xs.length + ys.length ≤ 1000) (hl : m[lq]? = some (.cells 1 false [a, b])) :
    Fn Gcc slices_Concat_int [.sl lq 0 2 (some 2)] m (CcP m (xs ++ ys)) := by
  have a290 : assoc Gcc 290 = some c_slices_Grow_int := rfl
  generalize Gcc = G at a290 ⊢
  have l1 := h1.len
  have l2 := h2.len
  have ll : lenA (.sl lq 0 2 (some 2)) = some 2 := rfl
  refine Fn_of rfl ?_
  simp (disch := first | assumption | omega | (simp only [zl] <;> omega) | (simp only [zn])) only [slices_Concat_int, ↓zd, zk, Nat.reduceSub, Nat.reduceAdd, Nat.reduceMul, Nat.reduceLeDiff, Nat.reduceEqDiff, reduceIte, Int.reduceEq, Int.reduceBEq, Int.reduceLE, Int.reduceLT, Int.reduceNeg, Int.reduceAdd, Int.reduceSub, Int.reduceMul, List.map, AV.cells, List.all, AV.one, eqV, eqAll, splice, fillA, List.replicate, resAll, resA, zm, zg, ev_len, ll]
  refine W_loop (Cc1 m (.sl lq 0 2 (some 2)) xs.length ys.length) 2 (by simp [FUEL]) ⟨0, _, _, _, _, _, _, _, _, _, rfl, rfl, by omega, rfl⟩ ?_
  rintro k e m' ⟨i, y3, y4, y5, y9, y10, y11, y12, y13, y14, rfl, rfl, hi, rfl⟩
  rcases (show i = 0 ∨ i = 1 ∨ i = 2 by omega) with rfl | rfl | rfl
  · have hge : ¬ ((0 : Int) + xs.length < 0) := by omega
    have e0 : (0 : Int) + xs.length = xs.length := by omega
    have i0 : ((0 : Nat) : Int) = 0 := rfl
    have g1 : IntKind.i64.wrap (xs.length : Int) = xs.length := wrapI (by omega) (by omega)
    have hg : ¬ ((xs.length : Int) < 0) := by omega
    simp (disch := first | assumption | omega | (simp only [zl] <;> omega) | (simp only [zn])) only [↓zd, zk, Nat.reduceSub, Nat.reduceAdd, Nat.reduceMul, Nat.reduceLeDiff, Nat.reduceEqDiff, reduceIte, Int.reduceEq, Int.reduceBEq, Int.reduceLE, Int.reduceLT, Int.reduceNeg, Int.reduceAdd, Int.reduceSub, Int.reduceMul, List.map, AV.cells, List.all, AV.one, eqV, eqAll, splice, fillA, List.replicate, resAll, resA, zm, zg, hl, i0, Int.toNat_zero, ev_len, l1, e0, g1, hg]
    exact ⟨_, by omega, 1, _, _, _, _, _, _, _, _, _, rfl, rfl, by omega, rfl⟩
  · have i1 : ((1 : Nat) : Int) = 1 := rfl
    have t1 : Int.toNat 1 = 1 := rfl
    have g1 : IntKind.i64.wrap ((xs.length : Int) + ys.length) = (xs.length : Int) + ys.length := wrapI (by omega) (by omega)
    have hg : ¬ ((xs.length : Int) + ys.length < 0) := by omega
    have n10 : ¬ ((1 : Nat) = 0) := by decide
    simp (disch := first | assumption | omega | (simp only [zl] <;> omega) | (simp only [zn])) only [↓zd, zk, Nat.reduceSub, Nat.reduceAdd, Nat.reduceMul, Nat.reduceLeDiff, Nat.reduceEqDiff, reduceIte, Int.reduceEq, Int.reduceBEq, Int.reduceLE, Int.reduceLT, Int.reduceNeg, Int.reduceAdd, Int.reduceSub, Int.reduceMul, List.map, AV.cells, List.all, AV.one, eqV, eqAll, splice, fillA, List.replicate, resAll, resA, zm, zg, hl, i1, t1, ev_len, l2, n10, g1, hg]
    exact ⟨_, by omega, 2, _, _, _, _, _, _, _, _, _, rfl, rfl, by omega, rfl⟩
  · have i2 : ((2 : Nat) : Int) = 2 := rfl
    have n20 : ¬ ((2 : Nat) = 0) := by decide
    have n21 : ¬ ((2 : Nat) = 1) := by decide
    have fg := grow_eq (m := m') (n := (xs.length : Int) + ys.length) (by omega) (by omega)
    simp (disch := first | assumption | omega | (simp only [zl] <;> omega) | (simp only [zn])) only [↓zd, zk, Nat.reduceSub, Nat.reduceAdd, Nat.reduceMul, Nat.reduceLeDiff, Nat.reduceEqDiff, reduceIte, Int.reduceEq, Int.reduceBEq, Int.reduceLE, Int.reduceLT, Int.reduceNeg, Int.reduceAdd, Int.reduceSub, Int.reduceMul, List.map, AV.cells, List.all, AV.one, eqV, eqAll, splice, fillA, List.replicate, resAll, resA, zm, zg, i2, n20, n21, a290, fg, ev_len, ll]
    have ht : ((xs.length : Int) + ys.length).toNat = xs.length + ys.length := by omega
    rw [ht]
    refine W_loop (Cc2 m' (.sl lq 0 2 (some 2)) xs ys) 2 (by simp [FUEL]) ⟨0, m'.length, _, _, _, _, _, _, _, _, _, _, rfl, rfl, by omega, Nat.le_refl _, .app _ _, get_concat, .inl rfl⟩ ?_
    rintro k e M ⟨i, q, y2, y3, y5, y6, y7, y8, y9, y10, y14, L, rfl, rfl, hi, hq, kM, gq, hL⟩
    have hlM := kM.get hl
    have hql : lq ≠ q := by have := (List.getElem?_eq_some_iff.1 hl).1; omega
    rcases (show i = 0 ∨ i = 1 ∨ i = 2 by omega) with rfl | rfl | rfl
    · have i0 : ((0 : Nat) : Int) = 0 := rfl
      have hap := app_unk gq (Nat.zero_le _) rfl l1 (si_row (h1.keep kM)) (ic_one xs) (by omega)
      rw [if_neg (by omega)] at hap
      simp only [List.take_zero, List.nil_append, Nat.zero_add] at hap
      have i02 : (0 : Int) < 2 := by decide
      simp (disch := first | assumption | omega | (simp only [zl] <;> omega) | (simp only [zn])) only [↓zd, zk, Nat.reduceSub, Nat.reduceAdd, Nat.reduceMul, Nat.reduceLeDiff, Nat.reduceEqDiff, reduceIte, Int.reduceEq, Int.reduceBEq, Int.reduceLE, Int.reduceLT, Int.reduceNeg, Int.reduceAdd, Int.reduceSub, Int.reduceMul, List.map, AV.cells, List.all, AV.one, eqV, eqAll, splice, fillA, List.replicate, resAll, resA, zm, zg, hlM, i0, i02, Int.toNat_zero, evA, hap]
      refine ⟨_, by omega, 1, M.length, _, _, _, _, _, _, _, _, _, iC xs, rfl, rfl, by omega, by have := kM.1; omega, ?_, ?_, .inr rfl⟩
      · exact ((kM.set hq _).trans (.app _ _))
      · rw [List.getElem?_append_right (by simp)]; simp
    · have i1 : ((1 : Nat) : Int) = 1 := rfl
      have t1 : Int.toNat 1 = 1 := rfl
      have n10 : ¬ ((1 : Nat) = 0) := by decide
      have hL1 : L = iC xs := by rcases hL with h | h
                                 · omega
                                 · exact h
      subst hL1
      have hap := app_unk gq (n := xs.length) (by rw [iC_len]; omega) (by rw [List.take_of_length_le (by rw [iC_len]; omega)]; exact ic_one xs) l2 (si_row (h2.keep kM)) (ic_one ys) (by omega)
      rw [List.take_of_length_le (by rw [iC_len]; omega)] at hap
      by_cases hy : ys.length = 0
      · rw [if_pos hy] at hap
        have hy0 : ys = [] := List.eq_nil_of_length_eq_zero hy
        subst hy0
        simp (disch := first | assumption | omega | (simp only [zl] <;> omega) | (simp only [zn])) only [↓zd, zk, Nat.reduceSub, Nat.reduceAdd, Nat.reduceMul, Nat.reduceLeDiff, Nat.reduceEqDiff, reduceIte, Int.reduceEq, Int.reduceBEq, Int.reduceLE, Int.reduceLT, Int.reduceNeg, Int.reduceAdd, Int.reduceSub, Int.reduceMul, List.map, AV.cells, List.all, AV.one, eqV, eqAll, splice, fillA, List.replicate, resAll, resA, zm, zg, hlM, i1, t1, n10, evA, hap]
        exact ⟨_, by omega, 2, q, _, _, _, _, _, _, _, _, _, iC xs, rfl, rfl, by omega, hq, kM, gq, .inr (by simp)⟩
      · rw [if_neg hy] at hap
        simp (disch := first | assumption | omega | (simp only [zl] <;> omega) | (simp only [zn])) only [↓zd, zk, Nat.reduceSub, Nat.reduceAdd, Nat.reduceMul, Nat.reduceLeDiff, Nat.reduceEqDiff, reduceIte, Int.reduceEq, Int.reduceBEq, Int.reduceLE, Int.reduceLT, Int.reduceNeg, Int.reduceAdd, Int.reduceSub, Int.reduceMul, List.map, AV.cells, List.all, AV.one, eqV, eqAll, splice, fillA, List.replicate, resAll, resA, zm, zg, hlM, i1, t1, n10, evA, hap]
        refine ⟨_, by omega, 2, M.length, _, _, _, _, _, _, _, _, _, iC xs ++ iC ys, rfl, rfl, by omega, by have := kM.1; omega, ?_, ?_, .inr ?_⟩
        · exact ((kM.set hq _).trans (.app _ _))
        · rw [List.getElem?_append_right (by simp)]; simp
        · rw [if_neg (by decide), iC, iC, iC, List.map_append]
    · have i2 : ((2 : Nat) : Int) = 2 := rfl
      have n20 : ¬ ((2 : Nat) = 0) := by decide
      have n21 : ¬ ((2 : Nat) = 1) := by decide
      have hL1 : L = iC (xs ++ ys) := by rcases hL with h | h
                                         · omega
                                         · exact h
      subst hL1
      simp (disch := first | assumption | omega | (simp only [zl] <;> omega) | (simp only [zn])) only [↓zd, zk, Nat.reduceSub, Nat.reduceAdd, Nat.reduceMul, Nat.reduceLeDiff, Nat.reduceEqDiff, reduceIte, Int.reduceEq, Int.reduceBEq, Int.reduceLE, Int.reduceLT, Int.reduceNeg, Int.reduceAdd, Int.reduceSub, Int.reduceMul, List.map, AV.cells, List.all, AV.one, eqV, eqAll, splice, fillA, List.replicate, resAll, resA, zm, zg, i2, n20, n21]
      exact ⟨q, by rw [List.length_append], hq, kM, gq⟩
end Go.Am.F11
end
