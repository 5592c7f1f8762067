import Derived.Test.YtgfddegdjdeeoaaXG15
set_option linter.unusedSimpArgs false
set_option linter.unusedVariables false
section
namespace Go.Am.F09
open Go.Am.F06 Go.Am.F10
theorem POk.step {c : Cf} {p g : Int} {s : PS} {xs : List Int} (h : POk c p s) (hx : s.a = 0 ∨ OkL c xs) : POk c p (stepP c p g xs s).1 := by
  rcases hx with h0 | hx
  · rw [stepP_zero h0]; exact h
  obtain ⟨h1, h2, h3⟩ := h
  have hg := getD_64 hx.2 (wrdN c p)
  obtain ⟨a, w, tk, hs⟩ := s
  simp only at h1 h2 h3
  rcases h2 with h2 | ⟨hp, h2⟩
  · subst h2; rw [stepP_zero rfl]; exact ⟨h1, .inl rfl, h3⟩
  have hb := there_bounds hp
  rcases h2 with rfl | rfl | rfl | ⟨rfl, h2⟩ | ⟨rfl, h2⟩
  · refine ⟨hg, .inr ⟨hp, ?_⟩, h3⟩
    simp only [stepP, if_true]
    by_cases hq : c.q ≤ sz (xs.getD (wrdN c p) 0)
    · simp only [if_pos hq, List.length_nil]; exact .inr (.inr (.inr (.inl ⟨trivial, by omega⟩)))
    · simp only [if_neg hq]; exact .inr (.inl trivial)
  · exact ⟨h1, .inr ⟨hp, by simp [stepP]⟩, h3⟩
  · by_cases heq : xs.getD (wrdN c p) 0 = w
    · have : stepP c p g xs ⟨3, w, tk, hs⟩ = (⟨0, w, tk, []⟩, xs.set (wrdN c p) (growW w 1)) := if_pos heq
      rw [this]; exact ⟨h1, .inl rfl, by simp⟩
    · have : stepP c p g xs ⟨3, w, tk, hs⟩ = (⟨1, w, tk, hs⟩, xs) := if_neg heq
      rw [this]; exact ⟨h1, .inr ⟨hp, .inl rfl⟩, h3⟩
  · refine ⟨h1, .inr ⟨hp, ?_⟩, h3⟩
    simp only [stepP, List.length_append, List.length_cons, List.length_nil]
    by_cases hq : (tk.length : Int) + 1 = c.q / 2
    · simp [hq]
    · simp [hq]; omega
  · by_cases heq : xs.getD (wrdN c p) 0 = w
    · have : stepP c p g xs ⟨5, w, tk, hs⟩ = (⟨0, w, tk, tk ++ [g]⟩, xs.set (wrdN c p) (dropW w (c.q / 2))) := if_pos heq
      rw [this]; exact ⟨h1, .inl rfl, by simp <;> omega⟩
    · have : stepP c p g xs ⟨5, w, tk, hs⟩ = (⟨1, w, tk, hs⟩, xs) := if_neg heq
      rw [this]; exact ⟨h1, .inr ⟨hp, .inl rfl⟩, h3⟩
theorem ringL_eq {c : Cf} {p v : Int} {xs L : List Int} (hp : thereP c p) (hw : xs.getD (wrdN c p) 0 = v) (hl : sz v ≤ c.q) (hn : (L.length : Int) = sz v) (hv : ∀ i, i < L.length → ringAt c p xs v i = L.getD i 0) : ringL c p xs = L := by
  rw [ringL_there hp, hw]
  have hN : ringN c v = L.length := by unfold ringN; rw [if_pos hl]; omega
  rw [hN]
  refine List.ext_getElem? fun i => ?_
  by_cases hi : i < L.length
  · rw [ringW_get _ _ _ _ hi, hv i hi, List.getD_eq_getElem?_getD, List.getElem?_eq_getElem hi]; rfl
  · rw [List.getElem?_eq_none (by rw [ringW_len]; omega), List.getElem?_eq_none (by omega)]
theorem slot_ne {c : Cf} {p x y : Int} (h : thereP c p) (hx : 0 ≤ x) (hy : 0 ≤ y) (hne : x % c.q ≠ y % c.q) : (slotA c p x).toNat ≠ (slotA c p y).toNat := by
  have hb := there_bounds h
  have h0 := Int.emod_nonneg x (b := c.q) (by omega)
  have h1 := Int.emod_nonneg y (b := c.q) (by omega)
  have hm := mul_bounds hb.2.2.2.2.1 hb.2.2.2.2.2 (q := 6 + c.q) (by omega) (by omega)
  unfold slotA; rw [if_pos h.1, if_pos h.1]; unfold addrA; rw [if_pos h, if_pos h]
  omega
theorem slot_word {c : Cf} {p x : Int} (h : thereP c p) : (slotA c p x).toNat ≠ wrdN c p := by
  have hb := there_bounds h
  have h0 := Int.emod_nonneg x (b := c.q) (by omega)
  have h1 := Int.emod_lt_of_pos x (b := c.q) (by omega)
  unfold slotA; rw [if_pos h.1]
  exact addr_ne h h (by omega) (by omega)
theorem room_mod {q a k n : Int} (hq : roomP q) (h0 : 0 < n - k) (h1 : n - k < q) : (a + k) % 4294967296 % q ≠ (a + n) % 4294967296 % q := by
  rcases hq with rfl | rfl | rfl | rfl | rfl | rfl <;> omega
theorem getD_set_ne {xs : List Int} {a b : Nat} {v : Int} (h : a ≠ b) : (xs.set a v).getD b 0 = xs.getD b 0 := by
  rw [List.getD_eq_getElem?_getD, List.getElem?_set_ne h, ← List.getD_eq_getElem?_getD]
theorem getD_set_self {xs : List Int} {a : Nat} {v : Int} (h : a < xs.length) : (xs.set a v).getD a 0 = v := by
  rw [List.getD_eq_getElem?_getD, List.getElem?_set_self h]; rfl
def slV (c : Cf) (p w0 : Int) (xs : List Int) (k : Nat) : Int := IntKind.i64.wrap (xs.getD (slotA c p ((hd w0 + k) % 4294967296)).toNat 0)
structure KV (c : Cf) (p w0 : Int) (A : List Int) (i d : Nat) (s : PS) (xs : List Int) : Prop where
  ok : OkL c xs
  w : xs.getD (wrdN c p) 0 = dW w0 d
  dl : d ≤ A.length
  sl : ∀ k, d ≤ k → k < A.length → slV c p w0 xs k = A.getD k 0
  hs : s.hs = [999]
  st : (s.a = 1 ∧ i ≤ 6 * d) ∨ ((s.a = 2 ∨ s.a = 3) ∧ ∃ e, e ≤ d ∧ s.w = dW w0 e ∧ (A.length : Int) - e < c.q ∧ (i : Int) ≤ 6 * e + (s.a - 1) ∧ (s.a = 3 → slV c p w0 xs A.length = 999)) ∨
    ((s.a = 4 ∨ s.a = 5) ∧ s.w = dW w0 0 ∧ (A.length : Int) = c.q ∧ (∀ k, k < A.length → slV c p w0 xs k = A.getD k 0) ∧ s.tk = (A.drop (A.length - (c.q / 2).toNat)).take s.tk.length ∧ (s.a = 4 → (s.tk.length : Int) < c.q / 2) ∧ (s.a = 5 → (s.tk.length : Int) = c.q / 2) ∧ i ≤ 1 + s.tk.length)
theorem KV.lt {c : Cf} {p w0 : Int} {A : List Int} {i d : Nat} {s : PS} {xs : List Int} (h : KV c p w0 A i d s xs) (hl : A.length ≤ 8) (hq : c.q ≤ 8) : i < 60 := by
  obtain ⟨_, _, hd, _, _, h⟩ := h
  rcases h with ⟨_, h⟩ | ⟨ha, e, he, _, _, h, _⟩ | ⟨ha, _, _, _, _, h4, h5, h⟩
  · omega
  · omega
  · rcases ha with ha | ha
    · have := h4 ha; omega
    · have := h5 ha; omega
theorem tl_at {w0 : Int} {A : List Int} (hA : (A.length : Int) = sz w0) (j : Int) : (tl w0 + j) % 4294967296 = (hd w0 + (A.length + j)) % 4294967296 := by
  have := tl_b w0
  unfold sz at hA; omega
theorem KV.step {c : Cf} {p w0 : Int} {A : List Int} {i d : Nat} {s : PS} {xs : List Int} (h : KV c p w0 A i d s xs) (hp : thereP c p) (hA : (A.length : Int) = sz w0) (hq : sz w0 ≤ c.q) (hq8 : c.q ≤ 8) (hw0 : W64 w0) (ha : s.a ≠ 0) :
    ((stepP c p 999 xs s).1.a ≠ 0 ∧ KV c p w0 A (i + 1) d (stepP c p 999 xs s).1 (stepP c p 999 xs s).2) ∨
    ((stepP c p 999 xs s).1.a = 0 ∧ (stepP c p 999 xs s).1.hs = [] ∧ OkL c (stepP c p 999 xs s).2 ∧ ringL c p (stepP c p 999 xs s).2 = A.drop d ++ [999] ∧ (A.length : Int) - d < c.q ∧ d ≤ A.length) ∨
    ((stepP c p 999 xs s).1.a = 0 ∧ d = 0 ∧ (A.length : Int) = c.q ∧ (stepP c p 999 xs s).1.hs = A.drop (A.length - (c.q / 2).toNat) ++ [999] ∧ OkL c (stepP c p 999 xs s).2 ∧ ringL c p (stepP c p 999 xs s).2 = A.take (A.length - (c.q / 2).toNat)) := by
  have hb := there_bounds hp
  have hroom : roomP c.q := hp.1.2.1
  have heven : c.q / 2 + c.q / 2 = c.q := by rcases hroom with h | h | h | h | h | h <;> rw [h] <;> rfl
  have htb := tl_b w0
  have hhb := hd_b hw0
  obtain ⟨h1, h2, h3, h4, h5, h6⟩ := h
  have hxl := h1.1
  have hwb := addr_b hp (i := 0) (by omega) (by omega)
  have hwl : wrdN c p < xs.length := by unfold wrdN; omega
  obtain ⟨a, w, tk, hs⟩ := s
  simp only at ha h5 h6
  rcases h6 with ⟨rfl, h7⟩ | ⟨h7 | h7, e, h8, h9, h10, h11, h12⟩ | ⟨h7 | h7, h8, h9, h10, h11, h12, h13, h14⟩
  · have hs1 : stepP c p 999 xs ⟨1, w, tk, hs⟩ = (⟨if c.q ≤ sz (dW w0 d) then 4 else 2, dW w0 d, [], hs⟩, xs) := by simp only [stepP, if_true, h2]
    have hz := dW_sz (w := w0) (i := d) (by omega)
    rw [hs1, hz]
    by_cases hfull : c.q ≤ sz w0 - d
    · have hd0 : d = 0 := by omega
      rw [if_pos hfull]
      refine .inl ⟨by simp, h1, h2, h3, h4, h5, .inr (.inr ⟨.inl rfl, by rw [hd0], by omega, fun k hk => h4 k (by omega) hk, by simp, fun _ => by simp only [List.length_nil]; omega, fun hh => by simp at hh, by simp; omega⟩)⟩
    · rw [if_neg hfull]
      exact .inl ⟨by simp, h1, h2, h3, h4, h5, .inr (.inl ⟨.inl rfl, d, Nat.le_refl _, rfl, by omega, by simp only; omega, fun hh => by simp at hh⟩)⟩
  · subst h7
    have hsl : pslA c p w 0 = slotA c p ((hd w0 + A.length) % 4294967296) := by
      unfold pslA; rw [h9, tl_dW, tl_at hA, Int.add_zero]
    have hs1 : stepP c p 999 xs ⟨2, w, tk, hs⟩ = (⟨3, w, tk, hs⟩, xs.set (slotA c p ((hd w0 + A.length) % 4294967296)).toNat 999) := by
      have : IntKind.u64.wrap 999 = 999 := by decide
      simp only [stepP, if_neg (show ¬ ((2 : Int) = 1) by decide), if_true, hsl, this]
    rw [hs1]
    have hsb := slot_b (i := (hd w0 + A.length) % 4294967296) hp (by omega)
    refine .inl ⟨by simp, h1.set _ (by unfold W64; omega), ?_, h3, fun k k1 k2 => ?_, h5, .inr (.inl ⟨.inr rfl, e, h8, h9, h10, by simp only; omega, fun _ => ?_⟩)⟩
    · rw [getD_set_ne (slot_word hp)]; exact h2
    · unfold slV
      rw [getD_set_ne (slot_ne hp (by omega) (by omega) (fun hh => room_mod (a := hd w0) (k := k) (n := A.length) hroom (by omega) (by omega) hh.symm))]
      exact h4 k k1 k2
    · unfold slV
      rw [getD_set_self (by omega)]; decide
  · subst h7
    by_cases heq : d = e
    · have hw : xs.getD (wrdN c p) 0 = w := by rw [h2, h9, heq]
      have hs1 : stepP c p 999 xs ⟨3, w, tk, hs⟩ = (⟨0, w, tk, []⟩, xs.set (wrdN c p) (growW w 1)) := if_pos hw
      rw [hs1]
      have hg : growW w 1 = pk ((hd w0 + e) % 4294967296) ((tl w0 + 1) % 4294967296) := by unfold growW; rw [h9, hd_dW, tl_dW]
      refine .inr (.inl ⟨rfl, rfl, h1.set _ (grow_64 (by rw [h9]; exact dW_64 _ _) _), ?_, by omega, h3⟩)
      have hsz : sz (growW w 1) = A.length - e + 1 := by
        rw [hg]; unfold sz; rw [hd_pk (by omega) (by omega), tl_pk (by omega) (by omega)]
        unfold sz at hA; omega
      refine ringL_eq hp (getD_set_self hwl) (by rw [hsz]; omega) (by rw [hsz, List.length_append, List.length_drop, List.length_singleton]; omega) fun k hk => ?_
      rw [List.length_append, List.length_drop, List.length_singleton] at hk
      have hpos : (hd (growW w 1) + (k : Int)) % 4294967296 = (hd w0 + ((d + k : Nat) : Int)) % 4294967296 := by
        rw [hg, hd_pk (by omega) (by omega)]; omega
      rw [ringAt, hpos, getD_set_ne (slot_word hp).symm]
      by_cases hk2 : d + k < A.length
      · have := h4 (d + k) (by omega) hk2
        unfold slV at this
        rw [this, List.getD_eq_getElem?_getD, List.getD_eq_getElem?_getD, List.getElem?_append_left (by rw [List.length_drop]; omega), List.getElem?_drop]
      · have hk3 : d + k = A.length := by omega
        have := h12 rfl
        unfold slV at this
        rw [hk3, this, List.getD_eq_getElem?_getD, List.getElem?_append_right (by rw [List.length_drop]; omega), List.length_drop, show k - (A.length - d) = 0 by omega]; rfl
    · have hw : ¬ xs.getD (wrdN c p) 0 = w := fun hh => heq (dW_inj (w := w0) (by omega) (by omega) (by rw [← h2, hh, h9]))
      have hs1 : stepP c p 999 xs ⟨3, w, tk, hs⟩ = (⟨1, w, tk, hs⟩, xs) := if_neg hw
      rw [hs1]
      exact .inl ⟨by simp, h1, h2, h3, h4, h5, .inl ⟨rfl, by omega⟩⟩
  · subst h7
    have hlt := h12 rfl
    have hsl : pslA c p w (tk.length - c.q / 2) = slotA c p ((hd w0 + ((A.length - (c.q / 2).toNat + tk.length : Nat) : Int)) % 4294967296) := by
      unfold pslA; rw [h8, tl_dW, tl_at hA]; congr 2; omega
    have hv := h10 (A.length - (c.q / 2).toNat + tk.length) (by omega)
    unfold slV at hv
    have hs1 : stepP c p 999 xs ⟨4, w, tk, hs⟩ = (⟨if (tk.length : Int) + 1 = c.q / 2 then 5 else 4, w, tk ++ [A.getD (A.length - (c.q / 2).toNat + tk.length) 0], hs⟩, xs) := by
      simp only [stepP, if_neg (show ¬ ((4 : Int) = 1) by decide), if_neg (show ¬ ((4 : Int) = 2) by decide), if_neg (show ¬ ((4 : Int) = 3) by decide), if_true, hsl, hv]
    rw [hs1]
    have htk : tk ++ [A.getD (A.length - (c.q / 2).toNat + tk.length) 0] = (A.drop (A.length - (c.q / 2).toNat)).take (tk.length + 1) := by
      have hg : (A.drop (A.length - (c.q / 2).toNat))[tk.length]? = some (A.getD (A.length - (c.q / 2).toNat + tk.length) 0) := by
        rw [List.getElem?_drop, List.getD_eq_getElem?_getD, List.getElem?_eq_getElem (by omega)]; rfl
      rw [List.take_add_one, hg, ← h11]; rfl
    refine .inl ⟨by simp only; split <;> omega, h1, h2, h3, h4, h5, .inr (.inr ⟨?_, h8, h9, h10, ?_, fun hh => ?_, fun hh => ?_, ?_⟩)⟩
    · simp only; split <;> simp
    · simp only [List.length_append, List.length_singleton]; exact htk
    · simp only [List.length_append, List.length_singleton] at hh ⊢
      by_cases hq2 : (tk.length : Int) + 1 = c.q / 2
      · rw [if_pos hq2] at hh; simp at hh
      · omega
    · simp only [List.length_append, List.length_singleton] at hh ⊢
      by_cases hq2 : (tk.length : Int) + 1 = c.q / 2
      · omega
      · rw [if_neg hq2] at hh; simp at hh
    · simp only [List.length_append, List.length_singleton]; omega
  · subst h7
    have hlt := h13 rfl
    by_cases heq : d = 0
    · have hw : xs.getD (wrdN c p) 0 = w := by rw [h2, h8, heq]
      have hs1 : stepP c p 999 xs ⟨5, w, tk, hs⟩ = (⟨0, w, tk, tk ++ [999]⟩, xs.set (wrdN c p) (dropW w (c.q / 2))) := if_pos hw
      rw [hs1]
      have hg : dropW w (c.q / 2) = pk ((hd w0 + (0 : Nat)) % 4294967296) ((tl w0 - c.q / 2) % 4294967296) := by unfold dropW; rw [h8, hd_dW, tl_dW]
      have hsz : sz (dropW w (c.q / 2)) = A.length - c.q / 2 := by
        rw [hg]; unfold sz; rw [hd_pk (by omega) (by omega), tl_pk (by omega) (by omega)]
        unfold sz at hA; omega
      refine .inr (.inr ⟨rfl, heq, h9, ?_, h1.set _ (drop_64 (by rw [h8]; exact dW_64 _ _) _), ?_⟩)
      · have : (A.drop (A.length - (c.q / 2).toNat)).take tk.length = A.drop (A.length - (c.q / 2).toNat) := List.take_of_length_le (by rw [List.length_drop]; omega)
        rw [this] at h11
        simp only; rw [← h11]
      · refine ringL_eq hp (getD_set_self hwl) (by rw [hsz]; omega) (by rw [hsz, List.length_take]; omega) fun k hk => ?_
        rw [List.length_take] at hk
        have hpos : (hd (dropW w (c.q / 2)) + (k : Int)) % 4294967296 = (hd w0 + (k : Int)) % 4294967296 := by
          rw [hg, hd_pk (by omega) (by omega)]; omega
        rw [ringAt, hpos, getD_set_ne (slot_word hp).symm]
        have := h10 k (by omega)
        unfold slV at this
        rw [this, List.getD_eq_getElem?_getD, List.getD_eq_getElem?_getD, List.getElem?_take, if_pos (by omega)]
    · have hw : ¬ xs.getD (wrdN c p) 0 = w := fun hh => heq (dW_inj (w := w0) (by omega) (by omega) (by rw [← h2, hh, h8]))
      have hs1 : stepP c p 999 xs ⟨5, w, tk, hs⟩ = (⟨1, w, tk, hs⟩, xs) := if_neg hw
      rw [hs1]
      exact .inl ⟨by simp, h1, h2, h3, h4, h5, .inl ⟨rfl, by omega⟩⟩
end Go.Am.F09
end
section
namespace Go.Am.F09
open Go.Am.F06 Go.Am.F10
theorem _root_.Go.Am.F10.Rw.si {m : MM} {q : Nat} {xs : List Int} {v : AV} (h : Rw m q xs.length 1 (iC xs) v) : SI m false xs v := h.sl (by rw [iC_len]; omega)
theorem _root_.Go.Am.F10.Rw.box {m : MM} {q n sz : Nat} {l : List AV} {v : AV} (h : Rw m q n sz l v) (h0 : 0 < n) : m[q]? = some (.cells sz false l) := by
  rcases h with ⟨h1, _⟩ | ⟨_, _, h⟩
  · omega
  · exact h
theorem SI.stayb {m m' : MM} {wr : Bool} {xs : List Int} {v : AV} (h : SI m wr xs v) {b : Nat} (hk : ∀ i, i < m.length → i ≠ b → m'[i]? = m[i]?) (ho : Off b v) : SI m' wr xs v := Sl.stay h fun q o cap hv h0 => hk q (Sl.lt h hv h0).1 (ho q o _ cap hv h0)
theorem PM.stay {m m' : MM} {xj : Nat} {c : Cf} {p g : Int} {s : PS} {qt : Nat} {tv hv : AV} (h : PM m xj c p g s qt tv hv) {b : Nat} (hk : ∀ i, i < m.length → i ≠ b → m'[i]? = m[i]?) (h1 : xj ≠ b) (h2 : qt ≠ b) (h3 : Off b hv) : PM m' xj c p g s qt tv hv :=
  ⟨by rw [hk _ (List.getElem?_eq_some_iff.1 h.get).1 h1]; exact h.get, fun ha => (h.t ha).keep fun h0 => hk qt ((h.t ha).lt h0) h2, h.one, SI.stayb h.h hk h3, h.off⟩
structure KpS (M0 : MM) (c : Cf) (p : Int) (j xj : Nat) (A : List Int) (d : Nat) (s : PS) (gone : AV) (qg qt : Nat) (tv hv : AV) (xs : List Int) (m : MM) : Prop where
  keep : KeepX xj j M0 m
  pm : PM m xj c p 999 s qt tv hv
  mem : ∃ st o, m[j]? = some (.abs (.mem st)) ∧ RelM xs o st
  rg : Rw m qg (A.take d).length 1 (iC (A.take d)) gone
  nq : 0 < (A.take d).length → qg ≠ qt
  bq : 0 < (A.take d).length → M0.length ≤ qg
  bt : qt = xj ∨ (M0.length ≤ qt ∧ qt < m.length)
  oh : 0 < (A.take d).length → Off qg hv
  ok : POk c p s
theorem KpS.step {M0 m m' : MM} {c : Cf} {p : Int} {j xj : Nat} {A : List Int} {d : Nat} {s : PS} {gone : AV} {qg qt : Nat} {tv hv : AV} {xs : List Int} (h : KpS M0 c p j xj A d s gone qg qt tv hv xs m) {x : PS × List Int} {o : Int} {r : AV} (hok : POk c p x.1) (hP : PsP m c p 999 xj j qt hv x o r m') :
    r = .bool (decide (x.1.a = 0)) ∧ ∃ qt' tv' hv', KpS M0 c p j xj A d x.1 gone qg qt' tv' hv' x.2 m' := by
  obtain ⟨rfl, k1, tv', hv', qt', hpm, hq, hh, st', j', r'⟩ := hP
  obtain ⟨hk, pm, ⟨st, o1, hj, _⟩, rg, nq, bq, bt, oh, _⟩ := h
  have hM := hk.1
  have hqx : 0 < (A.take d).length → qg ≠ xj := fun h0 hq => by have := rg.box h0; rw [hq, pm.get] at this; cases this
  have hqj : 0 < (A.take d).length → qg ≠ j := fun h0 hq => by have := rg.box h0; rw [hq, hj] at this; cases this
  have lx : xj < m.length := (List.getElem?_eq_some_iff.1 pm.get).1
  have lx' : xj < m'.length := (List.getElem?_eq_some_iff.1 hpm.get).1
  have hl1 := k1.1
  refine ⟨rfl, qt', tv', hv', ⟨Nat.le_trans hM hl1, fun i hi h1 h2 => ?_⟩, hpm, ⟨st', o, j', r'⟩, rg.keep fun h0 => ?_, fun h0 => ?_, bq, ?_, fun h0 => ?_, hok⟩
  · have hne : i ≠ qt := by rcases bt with h | h <;> omega
    rw [k1.2 i (by omega) h1 h2 hne, hk.2 i hi h1 h2]
  · exact k1.2 qg (rg.lt h0) (hqx h0) (hqj h0) (nq h0)
  · have := rg.lt h0
    have := hqx h0
    have := nq h0
    rcases hq with h | h | h <;> omega
  · rcases hq with h | h | h
    · exact .inl h
    · exact .inr ⟨by omega, h.2⟩
    · rcases bt with h' | h'
      · exact .inl (by omega)
      · exact .inr ⟨by omega, by omega⟩
  · have := rg.lt h0
    rcases hh with h | h | ⟨q, oo, n, cp, h, h'⟩
    · rw [h]; exact oh h0
    · rw [h]; intro q o n cc hq; cases hq
    · rw [h]; intro q2 o2 n2 cc hq2 _
      injection hq2 with hq2; omega
theorem PM.keep {m m' : MM} {xj : Nat} {c : Cf} {p g : Int} {s : PS} {qt : Nat} {tv hv : AV} (h : PM m xj c p g s qt tv hv) (k : Keep m m') : PM m' xj c p g s qt tv hv :=
  ⟨k.get h.get, fun ha => (h.t ha).keep fun h0 => k.2 qt ((h.t ha).lt h0), h.one, h.h.keep k, h.off⟩
theorem KpS.more {M0 m m' : MM} {c : Cf} {p : Int} {j xj : Nat} {A : List Int} {d : Nat} {s : PS} {gone : AV} {qg qt : Nat} {tv hv : AV} {xs : List Int} (h : KpS M0 c p j xj A d s gone qg qt tv hv xs m) (k : Keep m m') : KpS M0 c p j xj A d s gone qg qt tv hv xs m' := by
  obtain ⟨hk0, pm, ⟨st, o1, hj, hr⟩, rg, nq, bq, bt, oh, hok⟩ := h
  refine ⟨hk0.trans (.of k), PM.keep pm k, ⟨st, o1, k.get hj, hr⟩, rg.keep fun h0 => k.2 qg (rg.lt h0), nq, bq, ?_, oh, hok⟩
  rcases bt with h | h
  · exact .inl h
  · exact .inr ⟨h.1, Nat.lt_of_lt_of_le h.2 k.1⟩
end Go.Am.F09
end
section
namespace Go.Am.F09
open Go.Am.F06 Go.Am.F10
def rpC (c : Cf) (p g : Int) (s : PS) (tv hv : AV) : List AV := cfC c ++ [.int .i64 p, .int .i64 g, .int .i64 s.a, .int .u64 s.w, tv, hv]
structure SLN (lo hi : Nat) (m : MM) (wr : Bool) (n : Nat) (l : List AV) (v : AV) : Prop where
  sl : Sl m wr 1 n l v
  no : ∀ b, lo ≤ b → b < hi → ∀ ro L, m[b]? ≠ some (.cells 1 ro L)
theorem SLN.set {lo hi : Nat} {m : MM} {wr : Bool} {n : Nat} {l : List AV} {v : AV} (h : SLN lo hi m wr n l v) {a : Nat} (h1 : lo ≤ a) (h2 : a < hi) {C : Chunk Ob} (hC : ∀ ro L, C ≠ .cells 1 ro L) : SLN lo hi (m.set a C) wr n l v := by
  refine ⟨Sl.put h.sl (h.no a h1 h2) C, fun b b1 b2 ro L hb => ?_⟩
  by_cases hab : a = b
  · subst hab
    by_cases hl : a < m.length
    · rw [List.getElem?_set_self hl] at hb; injection hb with hb; exact hC _ _ hb
    · rw [List.getElem?_eq_none (by rw [List.length_set]; omega)] at hb; cases hb
  · rw [List.getElem?_set_ne hab] at hb; exact h.no b b1 b2 _ _ hb
theorem SLN.app {lo hi : Nat} {m : MM} {wr : Bool} {n : Nat} {l : List AV} {v : AV} (h : SLN lo hi m wr n l v) (hh : hi ≤ m.length) (K : MM) : SLN lo hi (m ++ K) wr n l v :=
  ⟨h.sl.keep (.app _ _), fun b b1 b2 ro L hb => h.no b b1 b2 ro L (by rwa [List.getElem?_append_left (by omega)] at hb)⟩
end Go.Am.F09
end
section
namespace Go.Am.F09
open Go.Am.F06 Go.Am.F10
end Go.Am.F09
end
section
namespace Go.Am.F09
open Go.Am.F06 Go.Am.F10
def okN (c : Cf) (p g : Int) : Prop := thereP c p ∧ 0 ≤ g
instance (c : Cf) (p g : Int) : Decidable (okN c p g) := by unfold okN; infer_instance
theorem si_put {m : MM} {xs : List Int} {q o n : Nat} {cap : Option Nat} {L : List AV} (h : SI m true xs (.sl q o n cap)) (hq : m[q]? = some (.cells 1 false L)) {i : Nat} (hi : i < xs.length) (x : Int) : SI (m.set q (.cells 1 false (L.set (o + i) (.int .i64 x)))) true (xs.set i x) (.sl q o n cap) := by
  obtain ⟨hlen, hsl⟩ := h
  rcases hsl with ⟨h, _⟩ | ⟨q', o', cap', h, h5⟩
  · cases h
  · injection h with e1 e2 e3 e4; subst e1; subst e2; subst e3; subst e4
    obtain ⟨ro, L', d1, d2, d3, d4⟩ := h5 (by omega)
    rw [hq] at d1; injection d1 with d1; injection d1 with _ _ d1; subst d1
    refine ⟨by simp [iC_len], .inr ⟨q, o, cap, by rw [List.length_set], fun _ => ⟨false, _, List.getElem?_set_self (List.getElem?_eq_some_iff.1 hq).1, ?_, by simpa using d3, fun _ => rfl⟩⟩⟩
    rw [List.length_set, List.drop_set, if_neg (by omega), List.take_set, d2, iC, iC, List.map_set]
    congr 1; omega
end Go.Am.F09
end
section
namespace Go.Am.F09
open Go.Am.F06 Go.Am.F10
structure Fl (mm M : MM) (n : Nat) (h : AV) (B : Nat) : Prop where
  keep : Keep mm M
  row : ∃ ys : List Int, ys.length = n ∧ SI M true ys h
  lo : Fr mm.length h
  hi : ∀ q o cap, h = .sl q o n cap → 0 < n → q < B
  len : lenA h = some n
theorem Fl.put {mm M : MM} {n : Nat} {h : AV} {B k : Nat} (hf : Fl mm M n h B) (hk : k < n) (x : Int) : ∃ q o cap L, h = .sl q o n cap ∧ M[q]? = some (.cells 1 false L) ∧ o + k < L.length ∧ mm.length ≤ q ∧ q < B ∧ Fl mm (M.set q (.cells 1 false (L.set (o + k) (.int .i64 x)))) n h B := by
  obtain ⟨hk0, ⟨ys, rfl, hs⟩, hlo, hhi, hln⟩ := hf
  obtain ⟨q, o, cap, ro, L, rfl, h2, h3, h4, h5⟩ := hs.at (by omega)
  have := h5 rfl
  subst this
  have hq : mm.length ≤ q := by
    rcases hlo with h | ⟨_, _, _, _, h, h'⟩
    · cases h
    · injection h with e1; omega
  exact ⟨q, o, cap, L, rfl, h2, by omega, hq, hhi _ _ _ rfl (by omega), hk0.set hq _, ⟨ys.set k x, by simp, si_put hs h2 hk x⟩, hlo, hhi, hln⟩
end Go.Am.F09
end
section
namespace Go.Am.F09
open Go.Am.F06 Go.Am.F10
theorem PM.norm {m : MM} {xj : Nat} {c : Cf} {p g : Int} {s : PS} {qt : Nat} {tv hv : AV} (h : PM m xj c p g s qt tv hv) : ∃ qt', PM m xj c p g s qt' tv hv ∧ (qt' = xj ∨ (qt' = qt ∧ ∃ l, m[qt]? = some (.cells 1 false (iC l)))) := by
  have hx : ∀ ro L, m[xj]? ≠ some (.cells 1 ro L) := fun ro L hh => by rw [h.get] at hh; cases hh
  by_cases ha : s.a = 4 ∨ s.a = 5
  · rcases h.t ha with ht | ⟨h0, h1, h2⟩
    · exact ⟨xj, ⟨h.get, fun _ => .inl ht, h.one, h.h, si_box h.h hx⟩, .inl rfl⟩
    · exact ⟨qt, h, .inr ⟨rfl, _, h2⟩⟩
  · exact ⟨xj, ⟨h.get, fun hh => absurd hh ha, h.one, h.h, si_box h.h hx⟩, .inl rfl⟩
theorem su_off {m : MM} {wr : Bool} {xs : List Int} {v : AV} (hs : SU m wr xs v) {b : Nat} {l : List Int} (hb : m[b]? = some (.cells 1 false (iC l))) : Off b v := by
  intro q o n c hv h0 hq
  rcases hs.2 with ⟨h1, _⟩ | ⟨q2, o2, c2, h1, h2⟩
  · rw [h1] at hv; cases hv
  · rw [h1] at hv; injection hv with e1 e2 e3 e4; subst e1; subst e3; subst hq
    obtain ⟨ro, L, h3, h4⟩ := h2 h0
    rw [hb] at h3; injection h3 with h3; injection h3 with _ _ h3
    subst h3
    have h5 := sl_get h4.1 (j := 0) (by omega)
    rw [iC, uC, List.getElem?_map, List.getElem?_map] at h5
    obtain ⟨x, hx⟩ : ∃ x, xs[0]? = some x := ⟨_, List.getElem?_eq_getElem h0⟩
    rw [hx] at h5
    cases hy : l[o2 + 0]? with
    | none => rw [hy] at h5; cases h5
    | some y => rw [hy] at h5; cases h5
theorem su_box2 {m : MM} {wr : Bool} {xs : List Int} {v : AV} (hs : SU m wr xs v) {b : Nat} (hb : ∀ ro L, m[b]? ≠ some (.cells 1 ro L)) : Off b v := by
  intro q o n c hv h0 hq
  obtain ⟨_, ro, L, h⟩ := Sl.lt (n := xs.length) hs (by rw [hv]; congr 1; have := hs.len; rw [hv] at this; simpa [lenA] using this) (by
    have := hs.len; rw [hv] at this; simp only [lenA, Option.some.injEq] at this; omega) (q := q) (o := o) (cap := c)
  exact hb ro L (by rw [← hq]; exact h)
structure PyS (m0 : MM) (c0 c c' : Cf) (p p' g g' : Int) (cb j rb xj yb : Nat) (ps : List Pk) (lv : AV) (s : PS) (xs : List Int) (o : Int) (tv hv ytv yhv v : AV) (qt : Nat) (m : MM) : Prop where
  k0 : Keep m0 m
  pm : PM m xj c p g s qt tv hv
  qr : qt = xj ∨ ∃ l, m[qt]? = some (.cells 1 false (iC l))
  bq : m0.length ≤ qt
  mem : ∃ st, m[j]? = some (.abs (.mem st)) ∧ RelM xs o st
  ref : m[rb]? = some (.cells 2 false (memC v o))
  su : SU m false xs v
  y : m[yb]? = some (.cells 12 false (rpC c' p' g' s ytv yhv))
  yt : SI m false s.tk ytv
  yh : SI m false s.hs yhv
  ot : Off qt ytv
  oh : Off qt yhv
  ok : POk c p s
  okL : OkL c xs
  cc : s.a = 0 ∨ (c' = c ∧ p' = p ∧ g' = g)
  ps : SPk m false ps lv
theorem PyS.keep {m0 m m' : MM} {c0 c c' : Cf} {p p' g g' : Int} {cb j rb xj yb : Nat} {ps : List Pk} {lv : AV} {s : PS} {xs : List Int} {o : Int} {tv hv ytv yhv v : AV} {qt : Nat} (h : PyS m0 c0 c c' p p' g g' cb j rb xj yb ps lv s xs o tv hv ytv yhv v qt m) (k : Keep m m') : PyS m0 c0 c c' p p' g g' cb j rb xj yb ps lv s xs o tv hv ytv yhv v qt m' := by
  obtain ⟨st, hj, hr⟩ := h.mem
  exact ⟨h.k0.trans k, PM.keep h.pm k, h.qr.imp id (fun ⟨l, hl⟩ => ⟨l, k.get hl⟩), h.bq, ⟨st, k.get hj, hr⟩, k.get h.ref, h.su.keep k, k.get h.y, h.yt.keep k, h.yh.keep k, h.ot, h.oh, h.ok, h.okL, h.cc, h.ps.keep k⟩
structure PyB (m0 : MM) (c : Cf) (p g : Int) (j xj : Nat) (ps : List Pk) (lv : AV) (s : PS) (xs : List Int) (o : Int) (tv hv : AV) (qt : Nat) (m : MM) : Prop where
  k0 : Keep m0 m
  pm : PM m xj c p g s qt tv hv
  qr : qt = xj ∨ ∃ l, m[qt]? = some (.cells 1 false (iC l))
  bq : m0.length ≤ qt
  mem : ∃ st, m[j]? = some (.abs (.mem st)) ∧ RelM xs o st
  ok : POk c p s
  okL : OkL c xs
  ps : SPk m false ps lv
theorem PyS.b {m0 m : MM} {c0 c c' : Cf} {p p' g g' : Int} {cb j rb xj yb : Nat} {ps : List Pk} {lv : AV} {s : PS} {xs : List Int} {o : Int} {tv hv ytv yhv v : AV} {qt : Nat} (h : PyS m0 c0 c c' p p' g g' cb j rb xj yb ps lv s xs o tv hv ytv yhv v qt m) : PyB m0 c p g j xj ps lv s xs o tv hv qt m := ⟨h.k0, h.pm, h.qr, h.bq, h.mem, h.ok, h.okL, h.ps⟩
theorem PyB.ne {m0 m : MM} {c : Cf} {p g : Int} {j xj : Nat} {ps : List Pk} {lv : AV} {s : PS} {xs : List Int} {o : Int} {tv hv : AV} {qt : Nat} (h : PyB m0 c p g j xj ps lv s xs o tv hv qt m) {b sz : Nat} {L : List AV} (hb : m[b]? = some (.cells sz false L)) (h1 : sz ≠ 1) (h2 : sz ≠ 13) : b ≠ xj ∧ b ≠ j ∧ b ≠ qt := by
  obtain ⟨st, hj, _⟩ := h.mem
  refine ⟨fun hh => ?_, fun hh => ?_, fun hh => ?_⟩
  · rw [hh, h.pm.get] at hb; injection hb with hb; injection hb with hb; exact h2 hb.symm
  · rw [hh, hj] at hb; cases hb
  · rcases h.qr with hq | ⟨l, hl⟩
    · rw [hh, hq, h.pm.get] at hb; injection hb with hb; injection hb with hb; exact h2 hb.symm
    · rw [hh, hl] at hb; injection hb with hb; injection hb with hb; exact h1 hb.symm
theorem PyS.ne {m0 m : MM} {c0 c c' : Cf} {p p' g g' : Int} {cb j rb xj yb : Nat} {ps : List Pk} {lv : AV} {s : PS} {xs : List Int} {o : Int} {tv hv ytv yhv v : AV} {qt : Nat} (h : PyS m0 c0 c c' p p' g g' cb j rb xj yb ps lv s xs o tv hv ytv yhv v qt m) {b sz : Nat} {L : List AV} (hb : m[b]? = some (.cells sz false L)) (h1 : sz ≠ 1) (h2 : sz ≠ 13) : b ≠ xj ∧ b ≠ j ∧ b ≠ qt := h.b.ne hb h1 h2
theorem PyB.keep {m0 m m' : MM} {c : Cf} {p g : Int} {j xj : Nat} {ps : List Pk} {lv : AV} {s : PS} {xs : List Int} {o : Int} {tv hv : AV} {qt : Nat} (h : PyB m0 c p g j xj ps lv s xs o tv hv qt m) (k : Keep m m') : PyB m0 c p g j xj ps lv s xs o tv hv qt m' := by
  obtain ⟨st, hj, hr⟩ := h.mem
  exact ⟨h.k0.trans k, PM.keep h.pm k, h.qr.imp id (fun ⟨l, hl⟩ => ⟨l, k.get hl⟩), h.bq, ⟨st, k.get hj, hr⟩, h.ok, h.okL, h.ps.keep k⟩
theorem PyB.step {m0 m m' : MM} {c0 c c' : Cf} {p p' g g' : Int} {cb j rb xj yb : Nat} {ps : List Pk} {lv : AV} {s s' : PS} {xs xs' : List Int} {o o' : Int} {tv hv : AV} {qt : Nat} (h : PyB m0 c p g j xj ps lv s xs o tv hv qt m)
    (hx0 : m0.length ≤ xj) (hj0 : m0.length ≤ j) {ytv' yhv' v' : AV} (hy : m[yb]? = some (.cells 12 false (rpC c' p' g' s' ytv' yhv'))) (hyt : SI m false s'.tk ytv') (hyh : SI m false s'.hs yhv') (hot : Off qt ytv') (hoh : Off qt yhv') (hv' : SU m false xs' v') (hrb : m[rb]? = some (.cells 2 false (memC v' o'))) (hok : POk c p s') (hokL : OkL c xs') (hcc : s'.a = 0 ∨ (c' = c ∧ p' = p ∧ g' = g)) {r : AV} (hP : PsP m c p g xj j qt hv (s', xs') o' r m') :
    r = .bool (decide (s'.a = 0)) ∧ ∃ tv2 hv2 qt2, PyS m0 c0 c c' p p' g g' cb j rb xj yb ps lv s' xs' o' tv2 hv2 ytv' yhv' v' qt2 m' := by
  obtain ⟨rfl, k1, tv2, hv2, qt', hpm, hq, hh, st', hj', hr'⟩ := hP
  obtain ⟨st, hj, hr⟩ := h.mem
  obtain ⟨qt2, hpm2, hq2⟩ := PM.norm hpm
  have hnx : ∀ ro L, m[xj]? ≠ some (.cells 1 ro L) := fun ro L hh => by rw [h.pm.get] at hh; cases hh
  have hnj : ∀ ro L, m[j]? ≠ some (.cells 1 ro L) := fun ro L hh => by rw [hj] at hh; cases hh
  have hl := k1.1
  have hk0 := h.k0.1
  have hbox : ∀ {b sz : Nat} {L : List AV}, m[b]? = some (.cells sz false L) → sz ≠ 1 → sz ≠ 13 → m'[b]? = some (.cells sz false L) := fun hb h1 h2 => by
    obtain ⟨e1, e2, e3⟩ := h.ne hb h1 h2
    rw [k1.2 _ (List.getElem?_eq_some_iff.1 hb).1 e1 e2 e3]; exact hb
  have hsoff : Off qt v' := by
    rcases h.qr with hq | ⟨l, hl⟩
    · rw [hq]; exact su_box2 hv' hnx
    · exact su_off hv' hl
  have hqt2 : qt2 = xj ∨ (m.length ≤ qt2 ∧ qt2 < m'.length) ∨ qt2 = qt := by
    rcases hq2 with h1 | ⟨h1, _⟩
    · exact .inl h1
    · rw [h1]; exact hq
  have hoff2 : ∀ {w : AV} {n : Nat} {l : List AV}, Sl m false 1 n l w → Off qt w → Off qt2 w := fun {w n l} hs ho => by
    have hlen := hs.len
    have hlt : ∀ q o k cap, w = .sl q o k cap → 0 < k → q < m.length ∧ ∃ ro L, m[q]? = some (.cells 1 ro L) := fun q o k cap hw hk => by
      rw [hw] at hlen; simp only [lenA, Option.some.injEq] at hlen; subst hlen
      exact Sl.lt hs hw hk
    rcases hqt2 with e | ⟨e, _⟩ | e
    · rw [e]; intro q o k cap hw hk hh
      obtain ⟨_, ro, L, h3⟩ := hlt q o k cap hw hk
      exact hnx ro L (by rw [← hh]; exact h3)
    · intro q o k cap hw hk hh
      have := (hlt q o k cap hw hk).1
      omega
    · rw [e]; exact ho
  refine ⟨rfl, tv2, hv2, qt2, ⟨⟨by omega, fun i hi => ?_⟩, hpm2, ?_, ?_, ⟨st', hj', hr'⟩, hbox hrb (by decide) (by decide), k1.si hnx hnj hv' hsoff, hbox hy (by decide) (by decide), k1.si hnx hnj hyt hot, k1.si hnx hnj hyh hoh, hoff2 hyt hot, hoff2 hyh hoh, hok, hokL, hcc, ?_⟩⟩
  · have := h.bq
    rw [k1.2 i (by omega) (by omega) (by omega) (by omega), h.k0.2 i hi]
  · rcases hq2 with h1 | ⟨h1, l, h2⟩
    · exact .inl h1
    · exact .inr ⟨l, by rw [h1]; exact h2⟩
  · have := h.bq
    rcases hqt2 with e | ⟨e, _⟩ | e <;> omega
  · refine Sl.stay h.ps fun q o cap hw h0 => ?_
    obtain ⟨h1, ro, L, h2⟩ := Sl.lt h.ps hw h0
    have e1 : q ≠ xj := fun hh => by rw [hh, h.pm.get] at h2; cases h2
    have e2 : q ≠ j := fun hh => by rw [hh, hj] at h2; cases h2
    have e3 : q ≠ qt := fun hh => by
      rcases h.qr with hq | ⟨l, hl⟩
      · exact e1 (by rw [hh, hq])
      · rw [hh, hl] at h2; cases h2
    exact k1.2 q h1 e1 e2 e3
end Go.Am.F09
end
section
namespace Go.Am.F10
open Go.Am.F06
variable {X : Type}
theorem rows_arg {α : Type} {f : α → List AV} {sz : Nat} (hf : ∀ x, (f x).length = sz) {m : Mem X} {i len cap : Nat} (hl : 0 < len → ∃ l, m[i]? = some (.cells sz true l) ∧ l.length = len * sz ∧ ∀ k, k < len → ∃ x : α, (l.drop (k * sz)).take sz = f x) :
    ∃ ws : List α, Sl m false sz ws.length (ws.flatMap f) (.sl i 0 len (some cap)) := by
  by_cases h0 : 0 < len
  · obtain ⟨l, h2, h3, h4⟩ := hl h0
    obtain ⟨ws, e1, e2⟩ := rows_of hf len h3 h4
    subst e1; subst e2
    have hlen := rows_len hf ws
    exact ⟨ws, hlen, .inr ⟨i, 0, some cap, rfl, fun _ => ⟨true, _, h2, by rw [List.drop_zero, ← hlen, List.take_length], by omega, fun h => by cases h⟩⟩⟩
  · have : len = 0 := by omega
    subst this
    exact ⟨[], by simp, .inr ⟨i, 0, some cap, rfl, fun h => absurd h (Nat.lt_irrefl _)⟩⟩
end Go.Am.F10
end
section
namespace Go.Am.F09
open Go.Am.F06 Go.Am.F10
end Go.Am.F09
end
section
namespace Go.Am.F09
open Go.Am.F06 Go.Am.F10
theorem neg_eq {X : Type} (m : Mem X) (x : Int) : c_put_NewLay_1 [.int .i64 x] m = some (.bool (decide (x < 0)), m) := by
  have he : c_put_NewLay_1 (X := X) = amFunc [] put_NewLay_1 := rfl
  rw [he]
  exact Fn_eq (Fn_of rfl (by simp (disch := first | assumption | omega | (simp only [List.length_cons, List.length_nil, List.length_set, List.length_append] <;> omega) | (simp only [get_mid, get_mid0, List.cons_append, List.append_assoc, List.getElem?_cons_zero, List.getElem?_cons_succ])) only [put_NewLay_1, ek, ↓evW, ↓evQ, evB, evS, evL, List.map, AV.cells, List.all, AV.one, Bool.and_true, Bool.true_and, if_true, ↓thenQ_normal, ↓thenQ_exit, ↓thenQ_ret, ↓blockQ_normal, ↓blockQ_ret, ↓blockQ_exit, ↓CW_true, ↓CW_false, CW_true, CW_false, condT, condF, RQ_some, tupA_one, tupA_two, tupA_nil, Nat.reduceSub, Nat.reduceAdd, Nat.reduceMul, Nat.zero_add, Nat.add_zero, Nat.reduceLeDiff, Nat.reduceEqDiff, eqV, eqAll, fillA, and_self, and_true, true_and, Nat.le_refl, Bool.not_true, Bool.not_false, Bool.false_xor, Bool.true_xor, cond_true, cond_false, List.replicate, if_false, reduceIte, resAll, resA, ne_eq, decide_not, decide_true, decide_false, Int.reduceEq, Bool.not_true, Bool.not_false, not_true_eq_false, not_false_eq_true, cond_bool, cond_int, beq_self_eq_true, Int.reduceBEq, Bool.and_self, Bool.and_false, Bool.false_and, Bool.xor_false, Bool.xor_true, loadN_ldC, ldC_none, ldC_somes, stC_aggs, splice, storeN_stC, stC_int, stC_bool, stC_ptr, stC_nilp, stC_sl, stC_nils, getC_gcO, gcO_cells, W_draw_eq, ↓W_scope, ev_clear, evT, evF, evX, evM, ↓exitQ_normal, ↓exitQ_ret, ↓exitQ_exit, saA_self, saO_self, if_pos, if_neg, wrapI, get_concat, set_concat, Int.toNat_natCast, Int.toNat_zero, List.nil_append, Nat.mul_one, decide_eq_true, decide_eq_false, Int.reduceLE, Int.reduceLT, Int.reduceNeg, Bool.false_or, Bool.true_or, Bool.or_false, Bool.or_true, wrapU, Int.reduceAdd, Int.reduceSub, Int.reduceMul, List.append_assoc, List.length_append, get_mid, get_mid0, set_mid, set_mid0, List.length_set, List.length_cons, List.length_nil, List.cons_append, List.getElem?_append_left, List.set_append_left, get_at, get_at0, set_at, set_at0, List.getElem?_set_self, List.getElem?_set_ne]))
def Gif : List (Nat × AFun Ob) := [(213, c_put_NewLay_1)]
def Gdf : List (Nat × AFun Ob) := [(97, amFunc Gif slices_IndexFunc_int), (213, c_put_NewLay_1)]
def PInv (q n : Nat) (xs : List Int) (m0 : MM) (k : Nat) (e : List AV) (m : MM) : Prop := ∃ (i : Nat) (x3 x6 x7 : AV),
  e = [.sl q 0 n none, .fn 213 [] [], .int .i64 0, x3, .int .i64 n, .int .i64 i, x6, x7] ∧ m = m0 ∧ k = n - i ∧ i ≤ n ∧ ∀ j x, j < i → xs[j]? = some x → ¬ x < 0
theorem indexf_run {m : MM} {xs : List Int} {q : Nat} (hq : m[q]? = some (.cells 1 false (iC xs))) (hx : xs.length ≤ 1000) :
    ∃ r : Int, ((0 ≤ r ∧ (∃ x, xs[r.toNat]? = some x ∧ x < 0) ∧ ∀ j x, j < r.toNat → xs[j]? = some x → ¬ x < 0) ∨ (r = -1 ∧ ∀ x, x ∈ xs → ¬ x < 0)) ∧ amFunc Gif slices_IndexFunc_int [.sl q 0 xs.length none, .fn 213 [] []] m = some (.int .i64 r, m) := by
  have : Fn Gif slices_IndexFunc_int [.sl q 0 xs.length none, .fn 213 [] []] m (fun v m' => ∃ r : Int, ((0 ≤ r ∧ (∃ x, xs[r.toNat]? = some x ∧ x < 0) ∧ ∀ j x, j < r.toNat → xs[j]? = some x → ¬ x < 0) ∨ (r = -1 ∧ ∀ x, x ∈ xs → ¬ x < 0)) ∧ v = .int .i64 r ∧ m' = m) := by
    have a213 : assoc Gif 213 = some c_put_NewLay_1 := rfl
    generalize Gif = G at a213 ⊢
    refine Fn_of rfl ?_
    simp (disch := first | assumption | omega | (simp only [List.length_cons, List.length_nil, List.length_set, List.length_append] <;> omega) | (simp only [get_mid, get_mid0, List.cons_append, List.append_assoc, List.getElem?_cons_zero, List.getElem?_cons_succ])) only [slices_IndexFunc_int, ek, ↓evW, ↓evQ, evB, evS, evL, List.map, AV.cells, List.all, AV.one, Bool.and_true, Bool.true_and, if_true, ↓thenQ_normal, ↓thenQ_exit, ↓thenQ_ret, ↓blockQ_normal, ↓blockQ_ret, ↓blockQ_exit, ↓CW_true, ↓CW_false, CW_true, CW_false, condT, condF, RQ_some, tupA_one, tupA_two, tupA_nil, Nat.reduceSub, Nat.reduceAdd, Nat.reduceMul, Nat.zero_add, Nat.add_zero, Nat.reduceLeDiff, Nat.reduceEqDiff, eqV, eqAll, fillA, and_self, and_true, true_and, Nat.le_refl, Bool.not_true, Bool.not_false, Bool.false_xor, Bool.true_xor, cond_true, cond_false, List.replicate, if_false, reduceIte, resAll, resA, ne_eq, decide_not, decide_true, decide_false, Int.reduceEq, Bool.not_true, Bool.not_false, not_true_eq_false, not_false_eq_true, cond_bool, cond_int, beq_self_eq_true, Int.reduceBEq, Bool.and_self, Bool.and_false, Bool.false_and, Bool.xor_false, Bool.xor_true, loadN_ldC, ldC_none, ldC_somes, stC_aggs, splice, storeN_stC, stC_int, stC_bool, stC_ptr, stC_nilp, stC_sl, stC_nils, getC_gcO, gcO_cells, W_draw_eq, ↓W_scope, ev_clear, evT, evF, evX, evM, ↓exitQ_normal, ↓exitQ_ret, ↓exitQ_exit, saA_self, saO_self, if_pos, if_neg, wrapI, get_concat, set_concat, Int.toNat_natCast, Int.toNat_zero, List.nil_append, Nat.mul_one, decide_eq_true, decide_eq_false, Int.reduceLE, Int.reduceLT, Int.reduceNeg, Bool.false_or, Bool.true_or, Bool.or_false, Bool.or_true, wrapU, Int.reduceAdd, Int.reduceSub, Int.reduceMul]
    refine W_loop (PInv q xs.length xs m) xs.length (by simp only [FUEL]; omega) ⟨0, _, _, _, rfl, rfl, rfl, Nat.zero_le _, fun j x hj => by omega⟩ ?_
    rintro k e m' ⟨i, x3, x6, x7, rfl, rfl, rfl, hi, hne⟩
    simp (disch := first | assumption | omega | (simp only [List.length_cons, List.length_nil, List.length_set, List.length_append] <;> omega) | (simp only [get_mid, get_mid0, List.cons_append, List.append_assoc, List.getElem?_cons_zero, List.getElem?_cons_succ])) only [ek, ↓evW, ↓evQ, evB, evS, evL, List.map, AV.cells, List.all, AV.one, Bool.and_true, Bool.true_and, if_true, ↓thenQ_normal, ↓thenQ_exit, ↓thenQ_ret, ↓blockQ_normal, ↓blockQ_ret, ↓blockQ_exit, ↓CW_true, ↓CW_false, CW_true, CW_false, condT, condF, RQ_some, tupA_one, tupA_two, tupA_nil, Nat.reduceSub, Nat.reduceAdd, Nat.reduceMul, Nat.zero_add, Nat.add_zero, Nat.reduceLeDiff, Nat.reduceEqDiff, eqV, eqAll, fillA, and_self, and_true, true_and, Nat.le_refl, Bool.not_true, Bool.not_false, Bool.false_xor, Bool.true_xor, cond_true, cond_false, List.replicate, if_false, reduceIte, resAll, resA, ne_eq, decide_not, decide_true, decide_false, Int.reduceEq, Bool.not_true, Bool.not_false, not_true_eq_false, not_false_eq_true, cond_bool, cond_int, beq_self_eq_true, Int.reduceBEq, Bool.and_self, Bool.and_false, Bool.false_and, Bool.xor_false, Bool.xor_true, loadN_ldC, ldC_none, ldC_somes, stC_aggs, splice, storeN_stC, stC_int, stC_bool, stC_ptr, stC_nilp, stC_sl, stC_nils, getC_gcO, gcO_cells, W_draw_eq, ↓W_scope, ev_clear, evT, evF, evX, evM, ↓exitQ_normal, ↓exitQ_ret, ↓exitQ_exit, saA_self, saO_self, if_pos, if_neg, wrapI, get_concat, set_concat, Int.toNat_natCast, Int.toNat_zero, List.nil_append, Nat.mul_one, decide_eq_true, decide_eq_false, Int.reduceLE, Int.reduceLT, Int.reduceNeg, Bool.false_or, Bool.true_or, Bool.or_false, Bool.or_true, wrapU, Int.reduceAdd, Int.reduceSub, Int.reduceMul]
    refine CW_of (fun h => ?_) (fun h => ?_)
    · simp only [decide_eq_true_eq] at h
      obtain ⟨y, hyi⟩ : ∃ y, xs[i]? = some y := ⟨_, List.getElem?_eq_getElem (by omega)⟩
      have hp := fun m : MM => neg_eq m y
      by_cases hy : y < 0
      · simp (disch := first | assumption | omega | (simp only [List.length_cons, List.length_nil, List.length_set, List.length_append] <;> omega) | (simp only [get_mid, get_mid0, List.cons_append, List.append_assoc, List.getElem?_cons_zero, List.getElem?_cons_succ])) only [ek, ↓evW, ↓evQ, evB, evS, evL, List.map, AV.cells, List.all, AV.one, Bool.and_true, Bool.true_and, if_true, ↓thenQ_normal, ↓thenQ_exit, ↓thenQ_ret, ↓blockQ_normal, ↓blockQ_ret, ↓blockQ_exit, ↓CW_true, ↓CW_false, CW_true, CW_false, condT, condF, RQ_some, tupA_one, tupA_two, tupA_nil, Nat.reduceSub, Nat.reduceAdd, Nat.reduceMul, Nat.zero_add, Nat.add_zero, Nat.reduceLeDiff, Nat.reduceEqDiff, eqV, eqAll, fillA, and_self, and_true, true_and, Nat.le_refl, Bool.not_true, Bool.not_false, Bool.false_xor, Bool.true_xor, cond_true, cond_false, List.replicate, if_false, reduceIte, resAll, resA, ne_eq, decide_not, decide_true, decide_false, Int.reduceEq, Bool.not_true, Bool.not_false, not_true_eq_false, not_false_eq_true, cond_bool, cond_int, beq_self_eq_true, Int.reduceBEq, Bool.and_self, Bool.and_false, Bool.false_and, Bool.xor_false, Bool.xor_true, loadN_ldC, ldC_none, ldC_somes, stC_aggs, splice, storeN_stC, stC_int, stC_bool, stC_ptr, stC_nilp, stC_sl, stC_nils, getC_gcO, gcO_cells, W_draw_eq, ↓W_scope, ev_clear, evT, evF, evX, evM, ↓exitQ_normal, ↓exitQ_ret, ↓exitQ_exit, saA_self, saO_self, if_pos, if_neg, wrapI, get_concat, set_concat, Int.toNat_natCast, Int.toNat_zero, List.nil_append, Nat.mul_one, decide_eq_true, decide_eq_false, Int.reduceLE, Int.reduceLT, Int.reduceNeg, Bool.false_or, Bool.true_or, Bool.or_false, Bool.or_true, wrapU, Int.reduceAdd, Int.reduceSub, Int.reduceMul, hq, iC_at hyi, a213, hp, hy, List.append_nil]
        exact ⟨i, .inl ⟨by omega, ⟨y, hyi, hy⟩, hne⟩, rfl⟩
      · simp (disch := first | assumption | omega | (simp only [List.length_cons, List.length_nil, List.length_set, List.length_append] <;> omega) | (simp only [get_mid, get_mid0, List.cons_append, List.append_assoc, List.getElem?_cons_zero, List.getElem?_cons_succ])) only [ek, ↓evW, ↓evQ, evB, evS, evL, List.map, AV.cells, List.all, AV.one, Bool.and_true, Bool.true_and, if_true, ↓thenQ_normal, ↓thenQ_exit, ↓thenQ_ret, ↓blockQ_normal, ↓blockQ_ret, ↓blockQ_exit, ↓CW_true, ↓CW_false, CW_true, CW_false, condT, condF, RQ_some, tupA_one, tupA_two, tupA_nil, Nat.reduceSub, Nat.reduceAdd, Nat.reduceMul, Nat.zero_add, Nat.add_zero, Nat.reduceLeDiff, Nat.reduceEqDiff, eqV, eqAll, fillA, and_self, and_true, true_and, Nat.le_refl, Bool.not_true, Bool.not_false, Bool.false_xor, Bool.true_xor, cond_true, cond_false, List.replicate, if_false, reduceIte, resAll, resA, ne_eq, decide_not, decide_true, decide_false, Int.reduceEq, Bool.not_true, Bool.not_false, not_true_eq_false, not_false_eq_true, cond_bool, cond_int, beq_self_eq_true, Int.reduceBEq, Bool.and_self, Bool.and_false, Bool.false_and, Bool.xor_false, Bool.xor_true, loadN_ldC, ldC_none, ldC_somes, stC_aggs, splice, storeN_stC, stC_int, stC_bool, stC_ptr, stC_nilp, stC_sl, stC_nils, getC_gcO, gcO_cells, W_draw_eq, ↓W_scope, ev_clear, evT, evF, evX, evM, ↓exitQ_normal, ↓exitQ_ret, ↓exitQ_exit, saA_self, saO_self, if_pos, if_neg, wrapI, get_concat, set_concat, Int.toNat_natCast, Int.toNat_zero, List.nil_append, Nat.mul_one, decide_eq_true, decide_eq_false, Int.reduceLE, Int.reduceLT, Int.reduceNeg, Bool.false_or, Bool.true_or, Bool.or_false, Bool.or_true, wrapU, Int.reduceAdd, Int.reduceSub, Int.reduceMul, hq, iC_at hyi, a213, hp, hy, List.append_nil]
        refine ⟨_, by omega, i + 1, _, _, _, rfl, rfl, rfl, by omega, fun j x hj hjx => ?_⟩
        by_cases hji : j = i
        · subst hji; rw [hyi] at hjx; injection hjx with hjx; subst hjx; exact hy
        · exact hne j x (by omega) hjx
    · simp only [decide_eq_false_iff_not] at h
      simp (disch := first | assumption | omega | (simp only [List.length_cons, List.length_nil, List.length_set, List.length_append] <;> omega) | (simp only [get_mid, get_mid0, List.cons_append, List.append_assoc, List.getElem?_cons_zero, List.getElem?_cons_succ])) only [ek, ↓evW, ↓evQ, evB, evS, evL, List.map, AV.cells, List.all, AV.one, Bool.and_true, Bool.true_and, if_true, ↓thenQ_normal, ↓thenQ_exit, ↓thenQ_ret, ↓blockQ_normal, ↓blockQ_ret, ↓blockQ_exit, ↓CW_true, ↓CW_false, CW_true, CW_false, condT, condF, RQ_some, tupA_one, tupA_two, tupA_nil, Nat.reduceSub, Nat.reduceAdd, Nat.reduceMul, Nat.zero_add, Nat.add_zero, Nat.reduceLeDiff, Nat.reduceEqDiff, eqV, eqAll, fillA, and_self, and_true, true_and, Nat.le_refl, Bool.not_true, Bool.not_false, Bool.false_xor, Bool.true_xor, cond_true, cond_false, List.replicate, if_false, reduceIte, resAll, resA, ne_eq, decide_not, decide_true, decide_false, Int.reduceEq, Bool.not_true, Bool.not_false, not_true_eq_false, not_false_eq_true, cond_bool, cond_int, beq_self_eq_true, Int.reduceBEq, Bool.and_self, Bool.and_false, Bool.false_and, Bool.xor_false, Bool.xor_true, loadN_ldC, ldC_none, ldC_somes, stC_aggs, splice, storeN_stC, stC_int, stC_bool, stC_ptr, stC_nilp, stC_sl, stC_nils, getC_gcO, gcO_cells, W_draw_eq, ↓W_scope, ev_clear, evT, evF, evX, evM, ↓exitQ_normal, ↓exitQ_ret, ↓exitQ_exit, saA_self, saO_self, if_pos, if_neg, wrapI, get_concat, set_concat, Int.toNat_natCast, Int.toNat_zero, List.nil_append, Nat.mul_one, decide_eq_true, decide_eq_false, Int.reduceLE, Int.reduceLT, Int.reduceNeg, Bool.false_or, Bool.true_or, Bool.or_false, Bool.or_true, wrapU, Int.reduceAdd, Int.reduceSub, Int.reduceMul]
      refine ⟨-1, .inr ⟨rfl, fun x hx => ?_⟩, rfl⟩
      obtain ⟨j, hj⟩ := List.mem_iff_getElem?.1 hx
      exact hne j x (by have := (List.getElem?_eq_some_iff.1 hj).1; omega) hj
  obtain ⟨v, m', h1, r, h2, rfl, rfl⟩ := this
  exact ⟨r, h2, h1⟩
def posL (xs : List Int) : List Int := xs.filter fun x => decide (¬ x < 0)
theorem pos_len (xs : List Int) : (posL xs).length ≤ xs.length := List.length_filter_le _ _
theorem pos_snoc {xs : List Int} {j : Nat} {x : Int} (h : xs[j]? = some x) : posL (xs.take (j + 1)) = if x < 0 then posL (xs.take j) else posL (xs.take j) ++ [x] := by
  rw [List.take_add_one, h, posL, List.filter_append, ← posL]
  by_cases hx : x < 0
  · simp [hx]
  · simp [hx]; omega
theorem pos_all {xs : List Int} (h : ∀ x, x ∈ xs → ¬ x < 0) : posL xs = xs := List.filter_eq_self.2 fun x hx => by simpa using h x hx
def BInv (q : Nat) (xs : List Int) (m0 : MM) (k : Nat) (e : List AV) (m : MM) : Prop := ∃ (j cnt : Nat) (L : List AV) (x5 x6 x7 x8 : AV),
  e = [.sl q 0 xs.length none, .fn 213 [] [], .nils, .int .i64 cnt, .int .i64 j, x5, x6, x7, x8] ∧ m = m0.set q (.cells 1 false L) ∧ k = xs.length - j ∧ j ≤ xs.length ∧ cnt < j ∧ cnt = (posL (xs.take j)).length ∧
  L.length = xs.length ∧ L.take cnt = iC (posL (xs.take j)) ∧ (∀ k x, j ≤ k → xs[k]? = some x → L[k]? = some (.int .i64 x)) ∧ L.all AV.one = true
theorem rep_len (n : Nat) : (repeatL n [AV.int .i64 0]).length = n := by simp [repeatL]
theorem rep_one (n : Nat) : (repeatL n [AV.int .i64 0]).all AV.one = true := by
  simp only [repeatL, List.all_eq_true, List.mem_flatten]
  rintro x ⟨l, hl, hx⟩
  rw [List.mem_replicate] at hl
  obtain ⟨_, rfl⟩ := hl
  simp at hx; subst hx; rfl
set_option maxHeartbeats 4000000 in
theorem delete_run {M m : MM} {xs : List Int} {q : Nat} (hk : Keep M m) (hqM : M.length ≤ q) (hq : m[q]? = some (.cells 1 false (iC xs))) (hx : xs.length ≤ 1000) :
    Fn Gdf slices_DeleteFunc_int [.sl q 0 xs.length none, .fn 213 [] []] m (fun r m' => Keep M m' ∧ SI m' true (posL xs) r ∧ Fr M.length r ∧ Nx m' r) := by
  have a97 : assoc Gdf 97 = some (amFunc Gif slices_IndexFunc_int) := rfl
  have a213 : assoc Gdf 213 = some c_put_NewLay_1 := rfl
  generalize Gdf = G at a97 a213 ⊢
  refine Fn_of rfl ?_
  obtain ⟨r, hr, hrun⟩ := indexf_run hq hx
  have hql : q < m.length := (List.getElem?_eq_some_iff.1 hq).1
  rcases hr with ⟨hr0, ⟨x0, hx0i, hx0w⟩, hr2⟩ | ⟨rfl, hr1⟩
  · obtain ⟨i0, rfl⟩ : ∃ i0 : Nat, r = i0 := ⟨r.toNat, by omega⟩
    simp only [Int.toNat_natCast] at hx0i hr2
    have hi0 : i0 < xs.length := (List.getElem?_eq_some_iff.1 hx0i).1
    have hsq : ∀ c, (m.set q c)[q]? = some c := fun c => List.getElem?_set_self hql
    have hne : ¬ ((i0 : Int) = -1) := by omega
    simp (disch := first | assumption | omega | (simp only [List.length_cons, List.length_nil, List.length_set, List.length_append] <;> omega) | (simp only [get_mid, get_mid0, List.cons_append, List.append_assoc, List.getElem?_cons_zero, List.getElem?_cons_succ])) only [slices_DeleteFunc_int, ek, ↓evW, ↓evQ, evB, evS, evL, List.map, AV.cells, List.all, AV.one, Bool.and_true, Bool.true_and, if_true, ↓thenQ_normal, ↓thenQ_exit, ↓thenQ_ret, ↓blockQ_normal, ↓blockQ_ret, ↓blockQ_exit, ↓CW_true, ↓CW_false, CW_true, CW_false, condT, condF, RQ_some, tupA_one, tupA_two, tupA_nil, Nat.reduceSub, Nat.reduceAdd, Nat.reduceMul, Nat.zero_add, Nat.add_zero, Nat.reduceLeDiff, Nat.reduceEqDiff, eqV, eqAll, fillA, and_self, and_true, true_and, Nat.le_refl, Bool.not_true, Bool.not_false, Bool.false_xor, Bool.true_xor, cond_true, cond_false, List.replicate, if_false, reduceIte, resAll, resA, ne_eq, decide_not, decide_true, decide_false, Int.reduceEq, Bool.not_true, Bool.not_false, not_true_eq_false, not_false_eq_true, cond_bool, cond_int, beq_self_eq_true, Int.reduceBEq, Bool.and_self, Bool.and_false, Bool.false_and, Bool.xor_false, Bool.xor_true, loadN_ldC, ldC_none, ldC_somes, stC_aggs, splice, storeN_stC, stC_int, stC_bool, stC_ptr, stC_nilp, stC_sl, stC_nils, getC_gcO, gcO_cells, W_draw_eq, ↓W_scope, ev_clear, evT, evF, evX, evM, ↓exitQ_normal, ↓exitQ_ret, ↓exitQ_exit, saA_self, saO_self, if_pos, if_neg, wrapI, get_concat, set_concat, Int.toNat_natCast, Int.toNat_zero, List.nil_append, Nat.mul_one, decide_eq_true, decide_eq_false, Int.reduceLE, Int.reduceLT, Int.reduceNeg, Bool.false_or, Bool.true_or, Bool.or_false, Bool.or_true, wrapU, Int.reduceAdd, Int.reduceSub, Int.reduceMul, a97, hrun]
    have hl0 : posL (xs.take (i0 + 1)) = xs.take i0 := by
      rw [pos_snoc hx0i, if_pos hx0w]
      exact pos_all fun x hx => by
        obtain ⟨j, hj⟩ := List.mem_iff_getElem?.1 hx
        rw [List.getElem?_take] at hj
        split at hj
        · exact hr2 j x ‹_› hj
        · cases hj
    refine W_loop (BInv q xs m) (xs.length - (i0 + 1)) (by simp only [FUEL]; omega) ⟨i0 + 1, i0, iC xs, _, _, _, _, rfl, ?_, rfl, by omega, by omega, ?_, iC_len _, ?_, fun k x _ h => iC_at h, iC_one _⟩ ?_
    · refine (List.ext_getElem? fun j => ?_)
      by_cases hj : q = j
      · subst hj; rw [hsq, hq]
      · rw [List.getElem?_set_ne hj]
    · rw [hl0, List.length_take]; omega
    · rw [hl0]; simp [iC, List.map_take]
    rintro k e m' ⟨j, cnt, L, x5, x6, x7, x8, rfl, rfl, rfl, hj, hcj, hcnt, hL, hLt, hLr, hLo⟩
    simp (disch := first | assumption | omega | (simp only [List.length_cons, List.length_nil, List.length_set, List.length_append] <;> omega) | (simp only [get_mid, get_mid0, List.cons_append, List.append_assoc, List.getElem?_cons_zero, List.getElem?_cons_succ])) only [ek, ↓evW, ↓evQ, evB, evS, evL, List.map, AV.cells, List.all, AV.one, Bool.and_true, Bool.true_and, if_true, ↓thenQ_normal, ↓thenQ_exit, ↓thenQ_ret, ↓blockQ_normal, ↓blockQ_ret, ↓blockQ_exit, ↓CW_true, ↓CW_false, CW_true, CW_false, condT, condF, RQ_some, tupA_one, tupA_two, tupA_nil, Nat.reduceSub, Nat.reduceAdd, Nat.reduceMul, Nat.zero_add, Nat.add_zero, Nat.reduceLeDiff, Nat.reduceEqDiff, eqV, eqAll, fillA, and_self, and_true, true_and, Nat.le_refl, Bool.not_true, Bool.not_false, Bool.false_xor, Bool.true_xor, cond_true, cond_false, List.replicate, if_false, reduceIte, resAll, resA, ne_eq, decide_not, decide_true, decide_false, Int.reduceEq, Bool.not_true, Bool.not_false, not_true_eq_false, not_false_eq_true, cond_bool, cond_int, beq_self_eq_true, Int.reduceBEq, Bool.and_self, Bool.and_false, Bool.false_and, Bool.xor_false, Bool.xor_true, loadN_ldC, ldC_none, ldC_somes, stC_aggs, splice, storeN_stC, stC_int, stC_bool, stC_ptr, stC_nilp, stC_sl, stC_nils, getC_gcO, gcO_cells, W_draw_eq, ↓W_scope, ev_clear, evT, evF, evX, evM, ↓exitQ_normal, ↓exitQ_ret, ↓exitQ_exit, saA_self, saO_self, if_pos, if_neg, wrapI, get_concat, set_concat, Int.toNat_natCast, Int.toNat_zero, List.nil_append, Nat.mul_one, decide_eq_true, decide_eq_false, Int.reduceLE, Int.reduceLT, Int.reduceNeg, Bool.false_or, Bool.true_or, Bool.or_false, Bool.or_true, wrapU, Int.reduceAdd, Int.reduceSub, Int.reduceMul]
    refine CW_of (fun h => ?_) (fun h => ?_)
    · simp only [decide_eq_true_eq] at h
      obtain ⟨y, hyj⟩ : ∃ y, xs[j]? = some y := ⟨_, List.getElem?_eq_getElem (by omega)⟩
      have hLy := hLr j y (Nat.le_refl _) hyj
      have hp := fun m : MM => neg_eq m y
      have hsn := pos_snoc hyj
      by_cases hy : y < 0
      · rw [if_pos hy] at hsn
        simp (disch := first | assumption | omega | (simp only [List.length_cons, List.length_nil, List.length_set, List.length_append] <;> omega) | (simp only [get_mid, get_mid0, List.cons_append, List.append_assoc, List.getElem?_cons_zero, List.getElem?_cons_succ])) only [ek, ↓evW, ↓evQ, evB, evS, evL, List.map, AV.cells, List.all, AV.one, Bool.and_true, Bool.true_and, if_true, ↓thenQ_normal, ↓thenQ_exit, ↓thenQ_ret, ↓blockQ_normal, ↓blockQ_ret, ↓blockQ_exit, ↓CW_true, ↓CW_false, CW_true, CW_false, condT, condF, RQ_some, tupA_one, tupA_two, tupA_nil, Nat.reduceSub, Nat.reduceAdd, Nat.reduceMul, Nat.zero_add, Nat.add_zero, Nat.reduceLeDiff, Nat.reduceEqDiff, eqV, eqAll, fillA, and_self, and_true, true_and, Nat.le_refl, Bool.not_true, Bool.not_false, Bool.false_xor, Bool.true_xor, cond_true, cond_false, List.replicate, if_false, reduceIte, resAll, resA, ne_eq, decide_not, decide_true, decide_false, Int.reduceEq, Bool.not_true, Bool.not_false, not_true_eq_false, not_false_eq_true, cond_bool, cond_int, beq_self_eq_true, Int.reduceBEq, Bool.and_self, Bool.and_false, Bool.false_and, Bool.xor_false, Bool.xor_true, loadN_ldC, ldC_none, ldC_somes, stC_aggs, splice, storeN_stC, stC_int, stC_bool, stC_ptr, stC_nilp, stC_sl, stC_nils, getC_gcO, gcO_cells, W_draw_eq, ↓W_scope, ev_clear, evT, evF, evX, evM, ↓exitQ_normal, ↓exitQ_ret, ↓exitQ_exit, saA_self, saO_self, if_pos, if_neg, wrapI, get_concat, set_concat, Int.toNat_natCast, Int.toNat_zero, List.nil_append, Nat.mul_one, decide_eq_true, decide_eq_false, Int.reduceLE, Int.reduceLT, Int.reduceNeg, Bool.false_or, Bool.true_or, Bool.or_false, Bool.or_true, wrapU, Int.reduceAdd, Int.reduceSub, Int.reduceMul, hsq, hLy, a213, hp, hy, List.append_nil]
        exact ⟨_, by omega, j + 1, cnt, L, _, _, _, _, rfl, rfl, rfl, by omega, by omega, by rw [hsn]; exact hcnt, hL, by rw [hsn]; exact hLt, fun k x h1 h2 => hLr k x (by omega) h2, hLo⟩
      · rw [if_neg hy] at hsn
        simp (disch := first | assumption | omega | (simp only [List.length_cons, List.length_nil, List.length_set, List.length_append] <;> omega) | (simp only [get_mid, get_mid0, List.cons_append, List.append_assoc, List.getElem?_cons_zero, List.getElem?_cons_succ])) only [ek, ↓evW, ↓evQ, evB, evS, evL, List.map, AV.cells, List.all, AV.one, Bool.and_true, Bool.true_and, if_true, ↓thenQ_normal, ↓thenQ_exit, ↓thenQ_ret, ↓blockQ_normal, ↓blockQ_ret, ↓blockQ_exit, ↓CW_true, ↓CW_false, CW_true, CW_false, condT, condF, RQ_some, tupA_one, tupA_two, tupA_nil, Nat.reduceSub, Nat.reduceAdd, Nat.reduceMul, Nat.zero_add, Nat.add_zero, Nat.reduceLeDiff, Nat.reduceEqDiff, eqV, eqAll, fillA, and_self, and_true, true_and, Nat.le_refl, Bool.not_true, Bool.not_false, Bool.false_xor, Bool.true_xor, cond_true, cond_false, List.replicate, if_false, reduceIte, resAll, resA, ne_eq, decide_not, decide_true, decide_false, Int.reduceEq, Bool.not_true, Bool.not_false, not_true_eq_false, not_false_eq_true, cond_bool, cond_int, beq_self_eq_true, Int.reduceBEq, Bool.and_self, Bool.and_false, Bool.false_and, Bool.xor_false, Bool.xor_true, loadN_ldC, ldC_none, ldC_somes, stC_aggs, splice, storeN_stC, stC_int, stC_bool, stC_ptr, stC_nilp, stC_sl, stC_nils, getC_gcO, gcO_cells, W_draw_eq, ↓W_scope, ev_clear, evT, evF, evX, evM, ↓exitQ_normal, ↓exitQ_ret, ↓exitQ_exit, saA_self, saO_self, if_pos, if_neg, wrapI, get_concat, set_concat, Int.toNat_natCast, Int.toNat_zero, List.nil_append, Nat.mul_one, decide_eq_true, decide_eq_false, Int.reduceLE, Int.reduceLT, Int.reduceNeg, Bool.false_or, Bool.true_or, Bool.or_false, Bool.or_true, wrapU, Int.reduceAdd, Int.reduceSub, Int.reduceMul, hsq, hLy, a213, hp, hy, List.set_set, List.append_nil]
        refine ⟨_, by omega, j + 1, cnt + 1, L.set cnt (.int .i64 y), _, _, _, _, rfl, rfl, rfl, by omega, by omega, by rw [hsn]; simp [hcnt], by simp [hL], ?_, fun k x h1 h2 => ?_, ?_⟩
        · have hcl : cnt < L.length := by omega
          rw [hsn, List.take_add_one, List.getElem?_set_self hcl]
          have : (L.set cnt (AV.int .i64 y)).take cnt = L.take cnt := by rw [List.take_set_of_le (Nat.le_refl _)]
          rw [this, hLt]; simp [iC]
        · rw [List.getElem?_set_ne (by omega)]; exact hLr k x (by omega) h2
        · simp only [List.all_eq_true] at hLo ⊢
          intro a ha
          rcases List.mem_or_eq_of_mem_set ha with h | h
          · exact hLo a h
          · subst h; rfl
    · simp only [decide_eq_false_iff_not] at h
      have hjn : j = xs.length := by omega
      rw [hjn, List.take_length] at hcnt hLt
      have hz1 := rep_len (xs.length - cnt)
      have hz2 := rep_one (xs.length - cnt)
      have hnz : ¬ (xs.length - cnt = 0) := by omega
      simp (disch := first | assumption | omega | (simp only [List.length_cons, List.length_nil, List.length_set, List.length_append] <;> omega) | (simp only [get_mid, get_mid0, List.cons_append, List.append_assoc, List.getElem?_cons_zero, List.getElem?_cons_succ])) only [ek, ↓evW, ↓evQ, evB, evS, evL, List.map, AV.cells, List.all, AV.one, Bool.and_true, Bool.true_and, if_true, ↓thenQ_normal, ↓thenQ_exit, ↓thenQ_ret, ↓blockQ_normal, ↓blockQ_ret, ↓blockQ_exit, ↓CW_true, ↓CW_false, CW_true, CW_false, condT, condF, RQ_some, tupA_one, tupA_two, tupA_nil, Nat.reduceSub, Nat.reduceAdd, Nat.reduceMul, Nat.zero_add, Nat.add_zero, Nat.reduceLeDiff, Nat.reduceEqDiff, eqV, eqAll, fillA, and_self, and_true, true_and, Nat.le_refl, Bool.not_true, Bool.not_false, Bool.false_xor, Bool.true_xor, cond_true, cond_false, List.replicate, if_false, reduceIte, resAll, resA, ne_eq, decide_not, decide_true, decide_false, Int.reduceEq, Bool.not_true, Bool.not_false, not_true_eq_false, not_false_eq_true, cond_bool, cond_int, beq_self_eq_true, Int.reduceBEq, Bool.and_self, Bool.and_false, Bool.false_and, Bool.xor_false, Bool.xor_true, loadN_ldC, ldC_none, ldC_somes, stC_aggs, splice, storeN_stC, stC_int, stC_bool, stC_ptr, stC_nilp, stC_sl, stC_nils, getC_gcO, gcO_cells, W_draw_eq, ↓W_scope, ev_clear, evT, evF, evX, evM, ↓exitQ_normal, ↓exitQ_ret, ↓exitQ_exit, saA_self, saO_self, if_pos, if_neg, wrapI, get_concat, set_concat, Int.toNat_natCast, Int.toNat_zero, List.nil_append, Nat.mul_one, decide_eq_true, decide_eq_false, Int.reduceLE, Int.reduceLT, Int.reduceNeg, Bool.false_or, Bool.true_or, Bool.or_false, Bool.or_true, wrapU, Int.reduceAdd, Int.reduceSub, Int.reduceMul, evA, sliceA, Option.getD_none, Option.getD_some, hsq, clearA, stC_agg, hz1, hz2, hL, List.set_set, Nat.sub_zero]
      have hk' : ∀ c, Keep M (m.set q c) := fun c => hk.set hqM c
      rw [hcnt]
      refine ⟨hk' _, ⟨by rw [iC_len]; omega, .inr ⟨q, 0, none, rfl, fun _ => ⟨false, _, hsq _, ?_, ?_, fun _ => rfl⟩⟩⟩, .inr ⟨q, 0, _, none, rfl, hqM⟩, .inr ⟨q, 0, _, _, rfl, hsq _⟩⟩
      · rw [List.drop_zero, Nat.mul_one, ← hcnt, List.append_assoc, List.take_append_of_le_length (by rw [List.length_take]; omega), List.take_take, Nat.min_self, hLt]
      · simp only [List.length_append, List.length_take, List.length_drop, hz1]; omega
  · simp (disch := first | assumption | omega | (simp only [List.length_cons, List.length_nil, List.length_set, List.length_append] <;> omega) | (simp only [get_mid, get_mid0, List.cons_append, List.append_assoc, List.getElem?_cons_zero, List.getElem?_cons_succ])) only [slices_DeleteFunc_int, ek, ↓evW, ↓evQ, evB, evS, evL, List.map, AV.cells, List.all, AV.one, Bool.and_true, Bool.true_and, if_true, ↓thenQ_normal, ↓thenQ_exit, ↓thenQ_ret, ↓blockQ_normal, ↓blockQ_ret, ↓blockQ_exit, ↓CW_true, ↓CW_false, CW_true, CW_false, condT, condF, RQ_some, tupA_one, tupA_two, tupA_nil, Nat.reduceSub, Nat.reduceAdd, Nat.reduceMul, Nat.zero_add, Nat.add_zero, Nat.reduceLeDiff, Nat.reduceEqDiff, eqV, eqAll, fillA, and_self, and_true, true_and, Nat.le_refl, Bool.not_true, Bool.not_false, Bool.false_xor, Bool.true_xor, cond_true, cond_false, List.replicate, if_false, reduceIte, resAll, resA, ne_eq, decide_not, decide_true, decide_false, Int.reduceEq, Bool.not_true, Bool.not_false, not_true_eq_false, not_false_eq_true, cond_bool, cond_int, beq_self_eq_true, Int.reduceBEq, Bool.and_self, Bool.and_false, Bool.false_and, Bool.xor_false, Bool.xor_true, loadN_ldC, ldC_none, ldC_somes, stC_aggs, splice, storeN_stC, stC_int, stC_bool, stC_ptr, stC_nilp, stC_sl, stC_nils, getC_gcO, gcO_cells, W_draw_eq, ↓W_scope, ev_clear, evT, evF, evX, evM, ↓exitQ_normal, ↓exitQ_ret, ↓exitQ_exit, saA_self, saO_self, if_pos, if_neg, wrapI, get_concat, set_concat, Int.toNat_natCast, Int.toNat_zero, List.nil_append, Nat.mul_one, decide_eq_true, decide_eq_false, Int.reduceLE, Int.reduceLT, Int.reduceNeg, Bool.false_or, Bool.true_or, Bool.or_false, Bool.or_true, wrapU, Int.reduceAdd, Int.reduceSub, Int.reduceMul, a97, hrun]
    rw [pos_all hr1]
    exact ⟨hk, ⟨by rw [iC_len]; omega, .inr ⟨q, 0, none, rfl, fun _ => ⟨false, iC xs, hq, by rw [List.drop_zero, Nat.mul_one, ← iC_len, List.take_length], by rw [iC_len]; omega, fun _ => rfl⟩⟩⟩, .inr ⟨q, 0, _, none, rfl, hqM⟩, .inr ⟨q, 0, _, _, rfl, hq⟩⟩
theorem delete_nil {m : MM} {v : AV} (hv : lenA v = some 0) : Fn Gdf slices_DeleteFunc_int [v, .fn 213 [] []] m (fun r m' => r = v ∧ m' = m) := by
  have a97 : assoc Gdf 97 = some (amFunc Gif slices_IndexFunc_int) := rfl
  have hi : amFunc Gif slices_IndexFunc_int [v, .fn 213 [] []] m = some (.int .i64 (-1), m) := by
    generalize Gif = G
    refine Fn_eq (Fn_of rfl ?_)
    simp (disch := first | assumption | omega | (simp only [List.length_cons, List.length_nil, List.length_set, List.length_append] <;> omega) | (simp only [get_mid, get_mid0, List.cons_append, List.append_assoc, List.getElem?_cons_zero, List.getElem?_cons_succ])) only [slices_IndexFunc_int, ek, ↓evW, ↓evQ, evB, evS, evL, List.map, AV.cells, List.all, AV.one, Bool.and_true, Bool.true_and, if_true, ↓thenQ_normal, ↓thenQ_exit, ↓thenQ_ret, ↓blockQ_normal, ↓blockQ_ret, ↓blockQ_exit, ↓CW_true, ↓CW_false, CW_true, CW_false, condT, condF, RQ_some, tupA_one, tupA_two, tupA_nil, Nat.reduceSub, Nat.reduceAdd, Nat.reduceMul, Nat.zero_add, Nat.add_zero, Nat.reduceLeDiff, Nat.reduceEqDiff, eqV, eqAll, fillA, and_self, and_true, true_and, Nat.le_refl, Bool.not_true, Bool.not_false, Bool.false_xor, Bool.true_xor, cond_true, cond_false, List.replicate, if_false, reduceIte, resAll, resA, ne_eq, decide_not, decide_true, decide_false, Int.reduceEq, Bool.not_true, Bool.not_false, not_true_eq_false, not_false_eq_true, cond_bool, cond_int, beq_self_eq_true, Int.reduceBEq, Bool.and_self, Bool.and_false, Bool.false_and, Bool.xor_false, Bool.xor_true, loadN_ldC, ldC_none, ldC_somes, stC_aggs, splice, storeN_stC, stC_int, stC_bool, stC_ptr, stC_nilp, stC_sl, stC_nils, getC_gcO, gcO_cells, W_draw_eq, ↓W_scope, ev_clear, evT, evF, evX, evM, ↓exitQ_normal, ↓exitQ_ret, ↓exitQ_exit, saA_self, saO_self, if_pos, if_neg, wrapI, get_concat, set_concat, Int.toNat_natCast, Int.toNat_zero, List.nil_append, Nat.mul_one, decide_eq_true, decide_eq_false, Int.reduceLE, Int.reduceLT, Int.reduceNeg, Bool.false_or, Bool.true_or, Bool.or_false, Bool.or_true, wrapU, Int.reduceAdd, Int.reduceSub, Int.reduceMul, ev_len, hv, Int.ofNat_zero]
    refine W_loop (fun k e m' => ∃ x3 x6 x7 : AV, e = [v, .fn 213 [] [], .int .i64 0, x3, .int .i64 0, .int .i64 0, x6, x7] ∧ m' = m) 0 (by simp [FUEL]) ⟨_, _, _, rfl, rfl⟩ ?_
    rintro k e m' ⟨x3, x6, x7, rfl, rfl⟩
    simp (disch := first | assumption | omega | (simp only [List.length_cons, List.length_nil, List.length_set, List.length_append] <;> omega) | (simp only [get_mid, get_mid0, List.cons_append, List.append_assoc, List.getElem?_cons_zero, List.getElem?_cons_succ])) only [ek, ↓evW, ↓evQ, evB, evS, evL, List.map, AV.cells, List.all, AV.one, Bool.and_true, Bool.true_and, if_true, ↓thenQ_normal, ↓thenQ_exit, ↓thenQ_ret, ↓blockQ_normal, ↓blockQ_ret, ↓blockQ_exit, ↓CW_true, ↓CW_false, CW_true, CW_false, condT, condF, RQ_some, tupA_one, tupA_two, tupA_nil, Nat.reduceSub, Nat.reduceAdd, Nat.reduceMul, Nat.zero_add, Nat.add_zero, Nat.reduceLeDiff, Nat.reduceEqDiff, eqV, eqAll, fillA, and_self, and_true, true_and, Nat.le_refl, Bool.not_true, Bool.not_false, Bool.false_xor, Bool.true_xor, cond_true, cond_false, List.replicate, if_false, reduceIte, resAll, resA, ne_eq, decide_not, decide_true, decide_false, Int.reduceEq, Bool.not_true, Bool.not_false, not_true_eq_false, not_false_eq_true, cond_bool, cond_int, beq_self_eq_true, Int.reduceBEq, Bool.and_self, Bool.and_false, Bool.false_and, Bool.xor_false, Bool.xor_true, loadN_ldC, ldC_none, ldC_somes, stC_aggs, splice, storeN_stC, stC_int, stC_bool, stC_ptr, stC_nilp, stC_sl, stC_nils, getC_gcO, gcO_cells, W_draw_eq, ↓W_scope, ev_clear, evT, evF, evX, evM, ↓exitQ_normal, ↓exitQ_ret, ↓exitQ_exit, saA_self, saO_self, if_pos, if_neg, wrapI, get_concat, set_concat, Int.toNat_natCast, Int.toNat_zero, List.nil_append, Nat.mul_one, decide_eq_true, decide_eq_false, Int.reduceLE, Int.reduceLT, Int.reduceNeg, Bool.false_or, Bool.true_or, Bool.or_false, Bool.or_true, wrapU, Int.reduceAdd, Int.reduceSub, Int.reduceMul]
  generalize Gdf = G at a97 ⊢
  refine Fn_of rfl ?_
  simp (disch := first | assumption | omega | (simp only [List.length_cons, List.length_nil, List.length_set, List.length_append] <;> omega) | (simp only [get_mid, get_mid0, List.cons_append, List.append_assoc, List.getElem?_cons_zero, List.getElem?_cons_succ])) only [slices_DeleteFunc_int, ek, ↓evW, ↓evQ, evB, evS, evL, List.map, AV.cells, List.all, AV.one, Bool.and_true, Bool.true_and, if_true, ↓thenQ_normal, ↓thenQ_exit, ↓thenQ_ret, ↓blockQ_normal, ↓blockQ_ret, ↓blockQ_exit, ↓CW_true, ↓CW_false, CW_true, CW_false, condT, condF, RQ_some, tupA_one, tupA_two, tupA_nil, Nat.reduceSub, Nat.reduceAdd, Nat.reduceMul, Nat.zero_add, Nat.add_zero, Nat.reduceLeDiff, Nat.reduceEqDiff, eqV, eqAll, fillA, and_self, and_true, true_and, Nat.le_refl, Bool.not_true, Bool.not_false, Bool.false_xor, Bool.true_xor, cond_true, cond_false, List.replicate, if_false, reduceIte, resAll, resA, ne_eq, decide_not, decide_true, decide_false, Int.reduceEq, Bool.not_true, Bool.not_false, not_true_eq_false, not_false_eq_true, cond_bool, cond_int, beq_self_eq_true, Int.reduceBEq, Bool.and_self, Bool.and_false, Bool.false_and, Bool.xor_false, Bool.xor_true, loadN_ldC, ldC_none, ldC_somes, stC_aggs, splice, storeN_stC, stC_int, stC_bool, stC_ptr, stC_nilp, stC_sl, stC_nils, getC_gcO, gcO_cells, W_draw_eq, ↓W_scope, ev_clear, evT, evF, evX, evM, ↓exitQ_normal, ↓exitQ_ret, ↓exitQ_exit, saA_self, saO_self, if_pos, if_neg, wrapI, get_concat, set_concat, Int.toNat_natCast, Int.toNat_zero, List.nil_append, Nat.mul_one, decide_eq_true, decide_eq_false, Int.reduceLE, Int.reduceLT, Int.reduceNeg, Bool.false_or, Bool.true_or, Bool.or_false, Bool.or_true, wrapU, Int.reduceAdd, Int.reduceSub, Int.reduceMul, a97, hi]
end Go.Am.F09
end
section
namespace Go.Am.F09
open Go.Am.F06 Go.Am.F10
structure LS where
  a : Int
  w : Int
  k : Int
  n : Int
  ls : List Int
def layC (c : Cf) (p : Int) (s : LS) (lv : AV) : List AV := rgC c p s.a s.w s.k [.int .u32 s.n, lv]
def roomN (c : Cf) (w : Int) (len : Nat) : Int := if c.q ≤ sz w then 0 else if (len : Int) < c.q - sz w then len else c.q - sz w
def stepL (c : Cf) (p : Int) (xs : List Int) (s : LS) : LS × List Int :=
  if s.a = 0 then (s, xs)
  else if s.ls.length = 0 then ({ s with a := 0 }, xs)
  else if s.a = 1 then ({ s with w := xs.getD (wrdN c p) 0, k := 0, n := roomN c (xs.getD (wrdN c p) 0) s.ls.length, a := if roomN c (xs.getD (wrdN c p) 0) s.ls.length = 0 then 0 else 2 }, xs)
  else if s.a = 2 then ({ s with k := s.k + 1, a := if s.k + 1 = s.n then 3 else 2 }, xs.set (pslA c p s.w s.k).toNat (IntKind.u64.wrap (s.ls.getD s.k.toNat 0)))
  else if xs.getD (wrdN c p) 0 = s.w then ({ s with a := 0, ls := s.ls.drop s.n.toNat }, xs.set (wrdN c p) (growW s.w s.n)) else ({ s with a := 1 }, xs)
def opsL (s : LS) (o : Int) : Int := if s.a = 0 then o else if s.ls.length = 0 then o else IntKind.u64.wrap (o + 1)
structure LOk (c : Cf) (p : Int) (s : LS) : Prop where
  w : W64 s.w
  a : s.a = 0 ∨ (thereP c p ∧ (s.a = 1 ∨ (s.a = 2 ∧ 0 ≤ s.k ∧ s.k < s.n ∧ s.n ≤ s.ls.length) ∨ (s.a = 3 ∧ 0 ≤ s.n ∧ s.n ≤ s.ls.length)))
  l : s.ls.length ≤ 100
theorem room_b {c : Cf} {w : Int} {len : Nat} : 0 ≤ roomN c w len ∧ roomN c w len ≤ len := by
  have : 0 ≤ sz w := by unfold sz; omega
  unfold roomN; split
  · omega
  · split <;> omega
structure LM (m : MM) (xj : Nat) (c : Cf) (p : Int) (s : LS) (lv : AV) : Prop where
  get : m[xj]? = some (.cells 12 false (layC c p s lv))
  l : SI m false s.ls lv
  nx : 0 < s.ls.length → Nx m lv
theorem ldone_eq {X : Type} {m : Mem X} {xj : Nat} {c : Cf} {p : Int} {s : LS} {lv : AV} (hx : m[xj]? = some (.cells 12 false (layC c p s lv))) : c_put_Lay_Done [.ptr xj 0] m = some (.bool (decide (s.a = 0)), m) := by
  simp only [layC, rgC, cfC, List.cons_append, List.nil_append] at hx
  exact Fn_eq (Fn_of rfl (by simp (disch := first | assumption | omega | (simp only [List.length_cons, List.length_nil, List.length_set, List.length_append] <;> omega) | (simp only [get_mid, get_mid0, List.cons_append, List.append_assoc, List.getElem?_cons_zero, List.getElem?_cons_succ])) only [put_Lay_Done, ek, ↓evW, ↓evQ, evB, evS, evL, List.map, AV.cells, List.all, AV.one, Bool.and_true, Bool.true_and, if_true, ↓thenQ_normal, ↓thenQ_exit, ↓thenQ_ret, ↓blockQ_normal, ↓blockQ_ret, ↓blockQ_exit, ↓CW_true, ↓CW_false, CW_true, CW_false, condT, condF, RQ_some, tupA_one, tupA_two, tupA_nil, Nat.reduceSub, Nat.reduceAdd, Nat.reduceMul, Nat.zero_add, Nat.add_zero, Nat.reduceLeDiff, Nat.reduceEqDiff, eqV, eqAll, fillA, and_self, and_true, true_and, Nat.le_refl, Bool.not_true, Bool.not_false, Bool.false_xor, Bool.true_xor, cond_true, cond_false, List.replicate, if_false, reduceIte, resAll, resA, ne_eq, decide_not, decide_true, decide_false, Int.reduceEq, Bool.not_true, Bool.not_false, not_true_eq_false, not_false_eq_true, cond_bool, cond_int, beq_self_eq_true, Int.reduceBEq, Bool.and_self, Bool.and_false, Bool.false_and, Bool.xor_false, Bool.xor_true, loadN_ldC, ldC_none, ldC_somes, stC_aggs, splice, storeN_stC, stC_int, stC_bool, stC_ptr, stC_nilp, stC_sl, stC_nils, getC_gcO, gcO_cells, W_draw_eq, ↓W_scope, ev_clear, evT, evF, evX, evM, ↓exitQ_normal, ↓exitQ_ret, ↓exitQ_exit, saA_self, saO_self, if_pos, if_neg, wrapI, get_concat, set_concat, Int.toNat_natCast, Int.toNat_zero, List.nil_append, Nat.mul_one, decide_eq_true, decide_eq_false, Int.reduceLE, Int.reduceLT, Int.reduceNeg, Bool.false_or, Bool.true_or, Bool.or_false, Bool.or_true, wrapU, Int.reduceAdd, Int.reduceSub, Int.reduceMul, List.append_assoc, List.length_append, get_mid, get_mid0, set_mid, set_mid0, List.length_set, List.length_cons, List.length_nil, List.cons_append, List.getElem?_append_left, List.set_append_left, get_at, get_at0, set_at, set_at0, List.getElem?_set_self, List.getElem?_set_ne, hx]))
def Glk : List (Nat × AFun Ob) := [(219, amFunc Grl put_ring_load)]
def LkP (m : MM) (xj j : Nat) (c : Cf) (p : Int) (x : LS × List Int) (lv : AV) (o : Int) (r : AV) (m' : MM) : Prop := r = .tup [] ∧ KeepX xj j m m' ∧ m'[xj]? = some (.cells 12 false (layC c p x.1 lv)) ∧ ∃ st', m'[j]? = some (.abs (.mem st')) ∧ RelM x.2 o st'
set_option maxHeartbeats 8000000 in
theorem llook_run {m : MM} {c : Cf} {p o : Int} {s : LS} {xj j : Nat} {lv : AV} {xs : List Int} {st : MemSt} (hx : LM m xj c p s lv) (hj : m[j]? = some (.abs (.mem st))) (hr : RelM xs o st) (hO : OkL c xs) (hk : LOk c p s) (ha : s.a = 1) (hl : 0 < s.ls.length) :
    Fn Glk put_Lay_look [.ptr xj 0, .ptr j 0] m (LkP m xj j c p (stepL c p xs s) lv (IntKind.u64.wrap (o + 1))) := by
  have a219 : assoc Glk 219 = some (amFunc Grl put_ring_load) := rfl
  generalize Glk = G at a219 ⊢
  obtain ⟨a, w, k, n, ls⟩ := s
  simp only at ha hl
  subst ha
  obtain ⟨hx, hls, hnx⟩ := hx
  simp only at hls
  have hij : xj ≠ j := fun h => by rw [h, hj] at hx; cases hx
  have hp : thereP c p := hk.a.elim (fun h => by simp at h) (·.1)
  have hb := there_bounds hp
  have hlk := hk.l
  simp only at hlk
  have hlen := hls.len
  have hone := slOne hls
  simp only [AV.one] at hone
  have e0 : IntKind.u32.wrap c.q = c.q := by rw [wrap32]; omega
  have hs1 : stepL c p xs ⟨1, w, k, n, ls⟩ = (⟨if roomN c (xs.getD (wrdN c p) 0) ls.length = 0 then 0 else 2, xs.getD (wrdN c p) 0, 0, roomN c (xs.getD (wrdN c p) 0) ls.length, ls⟩, xs) := by
    simp only [stepL, if_neg (show ¬ ((1 : Int) = 0) by decide), if_neg (show ¬ (ls.length = 0) by omega), if_true]
  rw [hs1]
  have hrun := rload_run hx hj hr hO hp
  refine Fn_of rfl ?_
  simp only [layC, rgC, cfC, List.cons_append, List.nil_append] at hx
  simp (disch := first | assumption | omega | (simp only [List.length_cons, List.length_nil, List.length_set, List.length_append] <;> omega) | (simp only [get_mid, get_mid0, List.cons_append, List.append_assoc, List.getElem?_cons_zero, List.getElem?_cons_succ])) only [put_Lay_look, ek, ↓evW, ↓evQ, evB, evS, evL, List.map, AV.cells, List.all, AV.one, Bool.and_true, Bool.true_and, if_true, ↓thenQ_normal, ↓thenQ_exit, ↓thenQ_ret, ↓blockQ_normal, ↓blockQ_ret, ↓blockQ_exit, ↓CW_true, ↓CW_false, CW_true, CW_false, condT, condF, RQ_some, tupA_one, tupA_two, tupA_nil, Nat.reduceSub, Nat.reduceAdd, Nat.reduceMul, Nat.zero_add, Nat.add_zero, Nat.reduceLeDiff, Nat.reduceEqDiff, eqV, eqAll, fillA, and_self, and_true, true_and, Nat.le_refl, Bool.not_true, Bool.not_false, Bool.false_xor, Bool.true_xor, cond_true, cond_false, List.replicate, if_false, reduceIte, resAll, resA, ne_eq, decide_not, decide_true, decide_false, Int.reduceEq, Bool.not_true, Bool.not_false, not_true_eq_false, not_false_eq_true, cond_bool, cond_int, beq_self_eq_true, Int.reduceBEq, Bool.and_self, Bool.and_false, Bool.false_and, Bool.xor_false, Bool.xor_true, loadN_ldC, ldC_none, ldC_somes, stC_aggs, splice, storeN_stC, stC_int, stC_bool, stC_ptr, stC_nilp, stC_sl, stC_nils, getC_gcO, gcO_cells, W_draw_eq, ↓W_scope, ev_clear, evT, evF, evX, evM, ↓exitQ_normal, ↓exitQ_ret, ↓exitQ_exit, saA_self, saO_self, if_pos, if_neg, wrapI, get_concat, set_concat, Int.toNat_natCast, Int.toNat_zero, List.nil_append, Nat.mul_one, decide_eq_true, decide_eq_false, Int.reduceLE, Int.reduceLT, Int.reduceNeg, Bool.false_or, Bool.true_or, Bool.or_false, Bool.or_true, wrapU, Int.reduceAdd, Int.reduceSub, Int.reduceMul, List.append_assoc, List.length_append, get_mid, get_mid0, set_mid, set_mid0, List.length_set, List.length_cons, List.length_nil, List.cons_append, List.getElem?_append_left, List.set_append_left, get_at, get_at0, set_at, set_at0, List.getElem?_set_self, List.getElem?_set_ne, hx, a219]
  refine OK_fn hrun ?_
  rintro _ m1 ⟨rfl, k1, x1, st', j1, r1⟩
  have lx1 : xj < m1.length := (List.getElem?_eq_some_iff.1 x1).1
  generalize xs.getD (wrdN c p) 0 = w' at x1
  have hz0 : 0 ≤ sz w' ∧ sz w' < 4294967296 := by unfold sz; omega
  have hrb := room_b (c := c) (w := w') (len := ls.length)
  have hput : ∀ C, KeepX xj j m (m1.set xj C) := fun C => k1.setL C
  simp only [rgC, cfC, List.cons_append, List.nil_append] at x1
  have fin : ∀ a n : Int, LkP m xj j c p (⟨a, w', 0, n, ls⟩, xs) lv (IntKind.u64.wrap (o + 1)) (.tup []) (m1.set xj (.cells 12 false (layC c p ⟨a, w', 0, n, ls⟩ lv))) := fun a n =>
    ⟨rfl, hput _, List.getElem?_set_self lx1, st', by rw [List.getElem?_set_ne hij]; exact j1, r1⟩
  have e4 : IntKind.u32.wrap (ls.length : Int) = ls.length := by rw [wrap32]; omega
  have e5 : c.q - sz w' ≤ 64 → 0 < c.q - sz w' → IntKind.u32.wrap (c.q - sz w') = c.q - sz w' := fun h1 h2 => by rw [wrap32]; omega
  simp only [layC, rgC, cfC, List.cons_append, List.nil_append] at fin
  have hw00 : IntKind.u32.wrap 0 = 0 := by decide
  rcases (show c.q < sz w' ∨ c.q = sz w' ∨ (sz w' < c.q ∧ (ls.length : Int) ≤ c.q - sz w') ∨ (sz w' < c.q ∧ c.q - sz w' < (ls.length : Int)) by omega) with h | h | ⟨h, h'⟩ | ⟨h, h'⟩
  · have hroom : roomN c w' ls.length = 0 := if_pos (by omega)
    rw [hroom, if_pos rfl]
    clear hroom hrb
    simp (disch := first | assumption | omega | (simp only [List.length_cons, List.length_nil, List.length_set, List.length_append] <;> omega) | (simp only [get_mid, get_mid0, List.cons_append, List.append_assoc, List.getElem?_cons_zero, List.getElem?_cons_succ])) only [ek, ↓evW, ↓evQ, evB, evS, evL, List.map, AV.cells, List.all, AV.one, Bool.and_true, Bool.true_and, if_true, ↓thenQ_normal, ↓thenQ_exit, ↓thenQ_ret, ↓blockQ_normal, ↓blockQ_ret, ↓blockQ_exit, ↓CW_true, ↓CW_false, CW_true, CW_false, condT, condF, RQ_some, tupA_one, tupA_two, tupA_nil, Nat.reduceSub, Nat.reduceAdd, Nat.reduceMul, Nat.zero_add, Nat.add_zero, Nat.reduceLeDiff, Nat.reduceEqDiff, eqV, eqAll, fillA, and_self, and_true, true_and, Nat.le_refl, Bool.not_true, Bool.not_false, Bool.false_xor, Bool.true_xor, cond_true, cond_false, List.replicate, if_false, reduceIte, resAll, resA, ne_eq, decide_not, decide_true, decide_false, Int.reduceEq, Bool.not_true, Bool.not_false, not_true_eq_false, not_false_eq_true, cond_bool, cond_int, beq_self_eq_true, Int.reduceBEq, Bool.and_self, Bool.and_false, Bool.false_and, Bool.xor_false, Bool.xor_true, loadN_ldC, ldC_none, ldC_somes, stC_aggs, splice, storeN_stC, stC_int, stC_bool, stC_ptr, stC_nilp, stC_sl, stC_nils, getC_gcO, gcO_cells, W_draw_eq, ↓W_scope, ev_clear, evT, evF, evX, evM, ↓exitQ_normal, ↓exitQ_ret, ↓exitQ_exit, saA_self, saO_self, if_pos, if_neg, wrapI, get_concat, set_concat, Int.toNat_natCast, Int.toNat_zero, List.nil_append, Nat.mul_one, decide_eq_true, decide_eq_false, Int.reduceLE, Int.reduceLT, Int.reduceNeg, Bool.false_or, Bool.true_or, Bool.or_false, Bool.or_true, wrapU, Int.reduceAdd, Int.reduceSub, Int.reduceMul, List.append_assoc, List.length_append, get_mid, get_mid0, set_mid, set_mid0, List.length_set, List.length_cons, List.length_nil, List.cons_append, List.getElem?_append_left, List.set_append_left, get_at, get_at0, set_at, set_at0, List.getElem?_set_self, List.getElem?_set_ne, x1, ev_len, hlen, e0, h, Int.sub_self, hw00, List.set_set]
    exact fin _ _
  · have hroom : roomN c w' ls.length = 0 := if_pos (by omega)
    rw [hroom, if_pos rfl]
    clear hroom hrb
    have hh : sz w' = c.q := h.symm
    simp (disch := first | assumption | omega | (simp only [List.length_cons, List.length_nil, List.length_set, List.length_append] <;> omega) | (simp only [get_mid, get_mid0, List.cons_append, List.append_assoc, List.getElem?_cons_zero, List.getElem?_cons_succ])) only [ek, ↓evW, ↓evQ, evB, evS, evL, List.map, AV.cells, List.all, AV.one, Bool.and_true, Bool.true_and, if_true, ↓thenQ_normal, ↓thenQ_exit, ↓thenQ_ret, ↓blockQ_normal, ↓blockQ_ret, ↓blockQ_exit, ↓CW_true, ↓CW_false, CW_true, CW_false, condT, condF, RQ_some, tupA_one, tupA_two, tupA_nil, Nat.reduceSub, Nat.reduceAdd, Nat.reduceMul, Nat.zero_add, Nat.add_zero, Nat.reduceLeDiff, Nat.reduceEqDiff, eqV, eqAll, fillA, and_self, and_true, true_and, Nat.le_refl, Bool.not_true, Bool.not_false, Bool.false_xor, Bool.true_xor, cond_true, cond_false, List.replicate, if_false, reduceIte, resAll, resA, ne_eq, decide_not, decide_true, decide_false, Int.reduceEq, Bool.not_true, Bool.not_false, not_true_eq_false, not_false_eq_true, cond_bool, cond_int, beq_self_eq_true, Int.reduceBEq, Bool.and_self, Bool.and_false, Bool.false_and, Bool.xor_false, Bool.xor_true, loadN_ldC, ldC_none, ldC_somes, stC_aggs, splice, storeN_stC, stC_int, stC_bool, stC_ptr, stC_nilp, stC_sl, stC_nils, getC_gcO, gcO_cells, W_draw_eq, ↓W_scope, ev_clear, evT, evF, evX, evM, ↓exitQ_normal, ↓exitQ_ret, ↓exitQ_exit, saA_self, saO_self, if_pos, if_neg, wrapI, get_concat, set_concat, Int.toNat_natCast, Int.toNat_zero, List.nil_append, Nat.mul_one, decide_eq_true, decide_eq_false, Int.reduceLE, Int.reduceLT, Int.reduceNeg, Bool.false_or, Bool.true_or, Bool.or_false, Bool.or_true, wrapU, Int.reduceAdd, Int.reduceSub, Int.reduceMul, List.append_assoc, List.length_append, get_mid, get_mid0, set_mid, set_mid0, List.length_set, List.length_cons, List.length_nil, List.cons_append, List.getElem?_append_left, List.set_append_left, get_at, get_at0, set_at, set_at0, List.getElem?_set_self, List.getElem?_set_ne, x1, ev_len, hlen, e0, hh, Int.sub_self, hw00, List.set_set]
    exact fin _ _
  · have hroom : roomN c w' ls.length = ls.length := by unfold roomN; rw [if_neg (by omega)]; split <;> omega
    rw [hroom, if_neg (by omega)]
    clear hroom hrb
    simp (disch := first | assumption | omega | (simp only [List.length_cons, List.length_nil, List.length_set, List.length_append] <;> omega) | (simp only [get_mid, get_mid0, List.cons_append, List.append_assoc, List.getElem?_cons_zero, List.getElem?_cons_succ])) only [ek, ↓evW, ↓evQ, evB, evS, evL, List.map, AV.cells, List.all, AV.one, Bool.and_true, Bool.true_and, if_true, ↓thenQ_normal, ↓thenQ_exit, ↓thenQ_ret, ↓blockQ_normal, ↓blockQ_ret, ↓blockQ_exit, ↓CW_true, ↓CW_false, CW_true, CW_false, condT, condF, RQ_some, tupA_one, tupA_two, tupA_nil, Nat.reduceSub, Nat.reduceAdd, Nat.reduceMul, Nat.zero_add, Nat.add_zero, Nat.reduceLeDiff, Nat.reduceEqDiff, eqV, eqAll, fillA, and_self, and_true, true_and, Nat.le_refl, Bool.not_true, Bool.not_false, Bool.false_xor, Bool.true_xor, cond_true, cond_false, List.replicate, if_false, reduceIte, resAll, resA, ne_eq, decide_not, decide_true, decide_false, Int.reduceEq, Bool.not_true, Bool.not_false, not_true_eq_false, not_false_eq_true, cond_bool, cond_int, beq_self_eq_true, Int.reduceBEq, Bool.and_self, Bool.and_false, Bool.false_and, Bool.xor_false, Bool.xor_true, loadN_ldC, ldC_none, ldC_somes, stC_aggs, splice, storeN_stC, stC_int, stC_bool, stC_ptr, stC_nilp, stC_sl, stC_nils, getC_gcO, gcO_cells, W_draw_eq, ↓W_scope, ev_clear, evT, evF, evX, evM, ↓exitQ_normal, ↓exitQ_ret, ↓exitQ_exit, saA_self, saO_self, if_pos, if_neg, wrapI, get_concat, set_concat, Int.toNat_natCast, Int.toNat_zero, List.nil_append, Nat.mul_one, decide_eq_true, decide_eq_false, Int.reduceLE, Int.reduceLT, Int.reduceNeg, Bool.false_or, Bool.true_or, Bool.or_false, Bool.or_true, wrapU, Int.reduceAdd, Int.reduceSub, Int.reduceMul, List.append_assoc, List.length_append, get_mid, get_mid0, set_mid, set_mid0, List.length_set, List.length_cons, List.length_nil, List.cons_append, List.getElem?_append_left, List.set_append_left, get_at, get_at0, set_at, set_at0, List.getElem?_set_self, List.getElem?_set_ne, x1, ev_len, hlen, e0, e4, h, h', List.set_set]
    exact fin _ _
  · have hroom : roomN c w' ls.length = c.q - sz w' := by unfold roomN; rw [if_neg (by omega), if_neg (by omega)]
    rw [hroom, if_neg (by omega)]
    clear hroom hrb
    simp (disch := first | assumption | omega | (simp only [List.length_cons, List.length_nil, List.length_set, List.length_append] <;> omega) | (simp only [get_mid, get_mid0, List.cons_append, List.append_assoc, List.getElem?_cons_zero, List.getElem?_cons_succ])) only [ek, ↓evW, ↓evQ, evB, evS, evL, List.map, AV.cells, List.all, AV.one, Bool.and_true, Bool.true_and, if_true, ↓thenQ_normal, ↓thenQ_exit, ↓thenQ_ret, ↓blockQ_normal, ↓blockQ_ret, ↓blockQ_exit, ↓CW_true, ↓CW_false, CW_true, CW_false, condT, condF, RQ_some, tupA_one, tupA_two, tupA_nil, Nat.reduceSub, Nat.reduceAdd, Nat.reduceMul, Nat.zero_add, Nat.add_zero, Nat.reduceLeDiff, Nat.reduceEqDiff, eqV, eqAll, fillA, and_self, and_true, true_and, Nat.le_refl, Bool.not_true, Bool.not_false, Bool.false_xor, Bool.true_xor, cond_true, cond_false, List.replicate, if_false, reduceIte, resAll, resA, ne_eq, decide_not, decide_true, decide_false, Int.reduceEq, Bool.not_true, Bool.not_false, not_true_eq_false, not_false_eq_true, cond_bool, cond_int, beq_self_eq_true, Int.reduceBEq, Bool.and_self, Bool.and_false, Bool.false_and, Bool.xor_false, Bool.xor_true, loadN_ldC, ldC_none, ldC_somes, stC_aggs, splice, storeN_stC, stC_int, stC_bool, stC_ptr, stC_nilp, stC_sl, stC_nils, getC_gcO, gcO_cells, W_draw_eq, ↓W_scope, ev_clear, evT, evF, evX, evM, ↓exitQ_normal, ↓exitQ_ret, ↓exitQ_exit, saA_self, saO_self, if_pos, if_neg, wrapI, get_concat, set_concat, Int.toNat_natCast, Int.toNat_zero, List.nil_append, Nat.mul_one, decide_eq_true, decide_eq_false, Int.reduceLE, Int.reduceLT, Int.reduceNeg, Bool.false_or, Bool.true_or, Bool.or_false, Bool.or_true, wrapU, Int.reduceAdd, Int.reduceSub, Int.reduceMul, List.append_assoc, List.length_append, get_mid, get_mid0, set_mid, set_mid0, List.length_set, List.length_cons, List.length_nil, List.cons_append, List.getElem?_append_left, List.set_append_left, get_at, get_at0, set_at, set_at0, List.getElem?_set_self, List.getElem?_set_ne, x1, ev_len, hlen, e0, e5, h, h', List.set_set]
    exact fin _ _
end Go.Am.F09
end
