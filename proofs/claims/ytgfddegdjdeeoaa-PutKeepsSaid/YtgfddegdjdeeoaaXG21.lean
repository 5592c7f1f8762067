import Derived.Test.YtgfddegdjdeeoaaXG20
set_option linter.unusedSimpArgs false
set_option linter.unusedVariables false
section
namespace Go.Am.F09
open Go.Am.F06 Go.Am.F10
theorem POk.step {c : Cf} {p g : Int} {s : PS} {xs : List Int} (h : POk c p s) (hx : s.a = 0 ∨ OkL c xs) : POk c p (stepP c p g xs s).1 := by
  rcases hx with h0 | hx
  · rw [stepP_zero h0]; exact h
  obtain ⟨h1, h2, h3⟩ := h
  have hg := getD_64 hx.2 (wrdN c p)
  obtain ⟨a, w, tk, hs⟩ := s
  simp only at h1 h2 h3
  rcases h2 with h2 | ⟨hp, h2⟩
  · subst h2; rw [stepP_zero rfl]; exact ⟨h1, .inl rfl, h3⟩
  have hb := there_bounds hp
  rcases h2 with rfl | rfl | rfl | ⟨rfl, h2⟩ | ⟨rfl, h2⟩
  · refine ⟨hg, .inr ⟨hp, ?_⟩, h3⟩
    simp only [stepP, if_true]
    by_cases hq : c.q ≤ sz (xs.getD (wrdN c p) 0)
    · simp only [if_pos hq, List.length_nil]; exact .inr (.inr (.inr (.inl ⟨trivial, by omega⟩)))
    · simp only [if_neg hq]; exact .inr (.inl trivial)
  · exact ⟨h1, .inr ⟨hp, by simp [stepP]⟩, h3⟩
  · by_cases heq : xs.getD (wrdN c p) 0 = w
    · have : stepP c p g xs ⟨3, w, tk, hs⟩ = (⟨0, w, tk, []⟩, xs.set (wrdN c p) (growW w 1)) := if_pos heq
      rw [this]; exact ⟨h1, .inl rfl, by simp⟩
    · have : stepP c p g xs ⟨3, w, tk, hs⟩ = (⟨1, w, tk, hs⟩, xs) := if_neg heq
      rw [this]; exact ⟨h1, .inr ⟨hp, .inl rfl⟩, h3⟩
  · refine ⟨h1, .inr ⟨hp, ?_⟩, h3⟩
    simp only [stepP, List.length_append, List.length_cons, List.length_nil]
    by_cases hq : (tk.length : Int) + 1 = c.q / 2
    · simp [hq]
    · simp [hq]; omega
  · by_cases heq : xs.getD (wrdN c p) 0 = w
    · have : stepP c p g xs ⟨5, w, tk, hs⟩ = (⟨0, w, tk, tk ++ [g]⟩, xs.set (wrdN c p) (dropW w (c.q / 2))) := if_pos heq
      rw [this]; exact ⟨h1, .inl rfl, by simp <;> omega⟩
    · have : stepP c p g xs ⟨5, w, tk, hs⟩ = (⟨1, w, tk, hs⟩, xs) := if_neg heq
      rw [this]; exact ⟨h1, .inr ⟨hp, .inl rfl⟩, h3⟩
theorem ringL_eq {c : Cf} {p v : Int} {xs L : List Int} (hp : thereP c p) (hw : xs.getD (wrdN c p) 0 = v) (hl : sz v ≤ c.q) (hn : (L.length : Int) = sz v) (hv : ∀ i, i < L.length → ringAt c p xs v i = L.getD i 0) : ringL c p xs = L := by
  rw [ringL_there hp, hw]
  have hN : ringN c v = L.length := by unfold ringN; rw [if_pos hl]; omega
  rw [hN]
  refine List.ext_getElem? fun i => ?_
  by_cases hi : i < L.length
  · rw [ringW_get _ _ _ _ hi, hv i hi, List.getD_eq_getElem?_getD, List.getElem?_eq_getElem hi]; rfl
  · rw [List.getElem?_eq_none (by rw [ringW_len]; omega), List.getElem?_eq_none (by omega)]
theorem slot_ne {c : Cf} {p x y : Int} (h : thereP c p) (hx : 0 ≤ x) (hy : 0 ≤ y) (hne : x % c.q ≠ y % c.q) : (slotA c p x).toNat ≠ (slotA c p y).toNat := by
  have hb := there_bounds h
  have h0 := Int.emod_nonneg x (b := c.q) (by omega)
  have h1 := Int.emod_nonneg y (b := c.q) (by omega)
  have hm := mul_bounds hb.2.2.2.2.1 hb.2.2.2.2.2 (q := 6 + c.q) (by omega) (by omega)
  unfold slotA; rw [if_pos h.1, if_pos h.1]; unfold addrA; rw [if_pos h, if_pos h]
  omega
theorem slot_word {c : Cf} {p x : Int} (h : thereP c p) : (slotA c p x).toNat ≠ wrdN c p := by
  have hb := there_bounds h
  have h0 := Int.emod_nonneg x (b := c.q) (by omega)
  have h1 := Int.emod_lt_of_pos x (b := c.q) (by omega)
  unfold slotA; rw [if_pos h.1]
  exact addr_ne h h (by omega) (by omega)
theorem room_mod {q a k n : Int} (hq : roomP q) (h0 : 0 < n - k) (h1 : n - k < q) : (a + k) % 4294967296 % q ≠ (a + n) % 4294967296 % q := by
  rcases hq with rfl | rfl | rfl | rfl | rfl | rfl <;> omega
theorem getD_set_ne {xs : List Int} {a b : Nat} {v : Int} (h : a ≠ b) : (xs.set a v).getD b 0 = xs.getD b 0 := by
  rw [List.getD_eq_getElem?_getD, List.getElem?_set_ne h, ← List.getD_eq_getElem?_getD]
theorem getD_set_self {xs : List Int} {a : Nat} {v : Int} (h : a < xs.length) : (xs.set a v).getD a 0 = v := by
  rw [List.getD_eq_getElem?_getD, List.getElem?_set_self h]; rfl
def slV (c : Cf) (p w0 : Int) (xs : List Int) (k : Nat) : Int := IntKind.i64.wrap (xs.getD (slotA c p ((hd w0 + k) % 4294967296)).toNat 0)
structure KV (c : Cf) (p w0 : Int) (A : List Int) (i d : Nat) (s : PS) (xs : List Int) : Prop where
  ok : OkL c xs
  w : xs.getD (wrdN c p) 0 = dW w0 d
  dl : d ≤ A.length
  sl : ∀ k, d ≤ k → k < A.length → slV c p w0 xs k = A.getD k 0
  hs : s.hs = [999]
  st : (s.a = 1 ∧ i ≤ 6 * d) ∨ ((s.a = 2 ∨ s.a = 3) ∧ ∃ e, e ≤ d ∧ s.w = dW w0 e ∧ (A.length : Int) - e < c.q ∧ (i : Int) ≤ 6 * e + (s.a - 1) ∧ (s.a = 3 → slV c p w0 xs A.length = 999)) ∨
    ((s.a = 4 ∨ s.a = 5) ∧ s.w = dW w0 0 ∧ (A.length : Int) = c.q ∧ (∀ k, k < A.length → slV c p w0 xs k = A.getD k 0) ∧ s.tk = (A.drop (A.length - (c.q / 2).toNat)).take s.tk.length ∧ (s.a = 4 → (s.tk.length : Int) < c.q / 2) ∧ (s.a = 5 → (s.tk.length : Int) = c.q / 2) ∧ i ≤ 1 + s.tk.length)
theorem KV.lt {c : Cf} {p w0 : Int} {A : List Int} {i d : Nat} {s : PS} {xs : List Int} (h : KV c p w0 A i d s xs) (hl : A.length ≤ 8) (hq : c.q ≤ 8) : i < 60 := by
  obtain ⟨_, _, hd, _, _, h⟩ := h
  rcases h with ⟨_, h⟩ | ⟨ha, e, he, _, _, h, _⟩ | ⟨ha, _, _, _, _, h4, h5, h⟩
  · omega
  · omega
  · rcases ha with ha | ha
    · have := h4 ha; omega
    · have := h5 ha; omega
theorem KV.ring {c : Cf} {p w0 : Int} {A : List Int} {i d : Nat} {s : PS} {xs : List Int} (h : KV c p w0 A i d s xs) (hp : thereP c p) (hA : (A.length : Int) = sz w0) (hq : sz w0 ≤ c.q) : ringL c p xs = A.drop d := by
  have hdl := h.dl
  refine ringL_eq hp h.w ?_ ?_ fun i hi => ?_
  · rw [dW_sz (by omega)]; omega
  · rw [dW_sz (by omega), List.length_drop]; omega
  · rw [List.length_drop] at hi
    have := h.sl (d + i) (by omega) (by omega)
    unfold slV at this
    have e : (hd (dW w0 d) + (i : Int)) % 4294967296 = (hd w0 + ((d + i : Nat) : Int)) % 4294967296 := by rw [hd_dW]; omega
    rw [ringAt, e, this, List.getD_eq_getElem?_getD, List.getD_eq_getElem?_getD, List.getElem?_drop]
theorem KV.thief {c : Cf} {p w0 : Int} {A : List Int} {i d : Nat} {s : PS} {xs : List Int} (h : KV c p w0 A i d s xs) (hp : thereP c p) {n : Nat} (hn : d + n ≤ A.length) : KV c p w0 A i (d + n) s (dX c p xs n) := by
  have hsl : ∀ k, slV c p w0 (dX c p xs n) k = slV c p w0 xs k := fun k => by
    unfold slV; rw [dX_slot hp n (by omega)]
  obtain ⟨h1, h2, h3, h4, h5, h6⟩ := h
  refine ⟨dX_ok h1 n, by rw [dX_word h1 hp, h2, dW_add], hn, fun k k1 k2 => by rw [hsl]; exact h4 k (by omega) k2, h5, ?_⟩
  rcases h6 with ⟨ha, h⟩ | ⟨ha, e, he, hw, h7, h, h8⟩ | ⟨ha, hw, h7, h8, h9⟩
  · exact .inl ⟨ha, by omega⟩
  · exact .inr (.inl ⟨ha, e, by omega, hw, h7, h, fun hh => by rw [hsl]; exact h8 hh⟩)
  · exact .inr (.inr ⟨ha, hw, h7, fun k hk => by rw [hsl]; exact h8 k hk, h9⟩)
theorem tl_at {w0 : Int} {A : List Int} (hA : (A.length : Int) = sz w0) (j : Int) : (tl w0 + j) % 4294967296 = (hd w0 + (A.length + j)) % 4294967296 := by
  have := tl_b w0
  unfold sz at hA; omega
theorem KV.step {c : Cf} {p w0 : Int} {A : List Int} {i d : Nat} {s : PS} {xs : List Int} (h : KV c p w0 A i d s xs) (hp : thereP c p) (hA : (A.length : Int) = sz w0) (hq : sz w0 ≤ c.q) (hq8 : c.q ≤ 8) (hw0 : W64 w0) (ha : s.a ≠ 0) :
    ((stepP c p 999 xs s).1.a ≠ 0 ∧ KV c p w0 A (i + 1) d (stepP c p 999 xs s).1 (stepP c p 999 xs s).2) ∨
    ((stepP c p 999 xs s).1.a = 0 ∧ (stepP c p 999 xs s).1.hs = [] ∧ OkL c (stepP c p 999 xs s).2 ∧ ringL c p (stepP c p 999 xs s).2 = A.drop d ++ [999] ∧ (A.length : Int) - d < c.q ∧ d ≤ A.length) ∨
    ((stepP c p 999 xs s).1.a = 0 ∧ d = 0 ∧ (A.length : Int) = c.q ∧ (stepP c p 999 xs s).1.hs = A.drop (A.length - (c.q / 2).toNat) ++ [999] ∧ OkL c (stepP c p 999 xs s).2 ∧ ringL c p (stepP c p 999 xs s).2 = A.take (A.length - (c.q / 2).toNat)) := by
  have hb := there_bounds hp
  have hroom : roomP c.q := hp.1.2.1
  have heven : c.q / 2 + c.q / 2 = c.q := by rcases hroom with h | h | h | h | h | h <;> rw [h] <;> rfl
  have htb := tl_b w0
  have hhb := hd_b hw0
  obtain ⟨h1, h2, h3, h4, h5, h6⟩ := h
  have hxl := h1.1
  have hwb := addr_b hp (i := 0) (by omega) (by omega)
  have hwl : wrdN c p < xs.length := by unfold wrdN; omega
  obtain ⟨a, w, tk, hs⟩ := s
  simp only at ha h5 h6
  rcases h6 with ⟨rfl, h7⟩ | ⟨h7 | h7, e, h8, h9, h10, h11, h12⟩ | ⟨h7 | h7, h8, h9, h10, h11, h12, h13, h14⟩
  · have hs1 : stepP c p 999 xs ⟨1, w, tk, hs⟩ = (⟨if c.q ≤ sz (dW w0 d) then 4 else 2, dW w0 d, [], hs⟩, xs) := by simp only [stepP, if_true, h2]
    have hz := dW_sz (w := w0) (i := d) (by omega)
    rw [hs1, hz]
    by_cases hfull : c.q ≤ sz w0 - d
    · have hd0 : d = 0 := by omega
      rw [if_pos hfull]
      refine .inl ⟨by simp, h1, h2, h3, h4, h5, .inr (.inr ⟨.inl rfl, by rw [hd0], by omega, fun k hk => h4 k (by omega) hk, by simp, fun _ => by simp only [List.length_nil]; omega, fun hh => by simp at hh, by simp; omega⟩)⟩
    · rw [if_neg hfull]
      exact .inl ⟨by simp, h1, h2, h3, h4, h5, .inr (.inl ⟨.inl rfl, d, Nat.le_refl _, rfl, by omega, by simp only; omega, fun hh => by simp at hh⟩)⟩
  · subst h7
    have hsl : pslA c p w 0 = slotA c p ((hd w0 + A.length) % 4294967296) := by
      unfold pslA; rw [h9, tl_dW, tl_at hA, Int.add_zero]
    have hs1 : stepP c p 999 xs ⟨2, w, tk, hs⟩ = (⟨3, w, tk, hs⟩, xs.set (slotA c p ((hd w0 + A.length) % 4294967296)).toNat 999) := by
      have : IntKind.u64.wrap 999 = 999 := by decide
      simp only [stepP, if_neg (show ¬ ((2 : Int) = 1) by decide), if_true, hsl, this]
    rw [hs1]
    have hsb := slot_b (i := (hd w0 + A.length) % 4294967296) hp (by omega)
    refine .inl ⟨by simp, h1.set _ (by unfold W64; omega), ?_, h3, fun k k1 k2 => ?_, h5, .inr (.inl ⟨.inr rfl, e, h8, h9, h10, by simp only; omega, fun _ => ?_⟩)⟩
    · rw [getD_set_ne (slot_word hp)]; exact h2
    · unfold slV
      rw [getD_set_ne (slot_ne hp (by omega) (by omega) (fun hh => room_mod (a := hd w0) (k := k) (n := A.length) hroom (by omega) (by omega) hh.symm))]
      exact h4 k k1 k2
    · unfold slV
      rw [getD_set_self (by omega)]; decide
  · subst h7
    by_cases heq : d = e
    · have hw : xs.getD (wrdN c p) 0 = w := by rw [h2, h9, heq]
      have hs1 : stepP c p 999 xs ⟨3, w, tk, hs⟩ = (⟨0, w, tk, []⟩, xs.set (wrdN c p) (growW w 1)) := if_pos hw
      rw [hs1]
      have hg : growW w 1 = pk ((hd w0 + e) % 4294967296) ((tl w0 + 1) % 4294967296) := by unfold growW; rw [h9, hd_dW, tl_dW]
      refine .inr (.inl ⟨rfl, rfl, h1.set _ (grow_64 (by rw [h9]; exact dW_64 _ _) _), ?_, by omega, h3⟩)
      have hsz : sz (growW w 1) = A.length - e + 1 := by
        rw [hg]; unfold sz; rw [hd_pk (by omega) (by omega), tl_pk (by omega) (by omega)]
        unfold sz at hA; omega
      refine ringL_eq hp (getD_set_self hwl) (by rw [hsz]; omega) (by rw [hsz, List.length_append, List.length_drop, List.length_singleton]; omega) fun k hk => ?_
      rw [List.length_append, List.length_drop, List.length_singleton] at hk
      have hpos : (hd (growW w 1) + (k : Int)) % 4294967296 = (hd w0 + ((d + k : Nat) : Int)) % 4294967296 := by
        rw [hg, hd_pk (by omega) (by omega)]; omega
      rw [ringAt, hpos, getD_set_ne (slot_word hp).symm]
      by_cases hk2 : d + k < A.length
      · have := h4 (d + k) (by omega) hk2
        unfold slV at this
        rw [this, List.getD_eq_getElem?_getD, List.getD_eq_getElem?_getD, List.getElem?_append_left (by rw [List.length_drop]; omega), List.getElem?_drop]
      · have hk3 : d + k = A.length := by omega
        have := h12 rfl
        unfold slV at this
        rw [hk3, this, List.getD_eq_getElem?_getD, List.getElem?_append_right (by rw [List.length_drop]; omega), List.length_drop, show k - (A.length - d) = 0 by omega]; rfl
    · have hw : ¬ xs.getD (wrdN c p) 0 = w := fun hh => heq (dW_inj (w := w0) (by omega) (by omega) (by rw [← h2, hh, h9]))
      have hs1 : stepP c p 999 xs ⟨3, w, tk, hs⟩ = (⟨1, w, tk, hs⟩, xs) := if_neg hw
      rw [hs1]
      exact .inl ⟨by simp, h1, h2, h3, h4, h5, .inl ⟨rfl, by omega⟩⟩
  · subst h7
    have hlt := h12 rfl
    have hsl : pslA c p w (tk.length - c.q / 2) = slotA c p ((hd w0 + ((A.length - (c.q / 2).toNat + tk.length : Nat) : Int)) % 4294967296) := by
      unfold pslA; rw [h8, tl_dW, tl_at hA]; congr 2; omega
    have hv := h10 (A.length - (c.q / 2).toNat + tk.length) (by omega)
    unfold slV at hv
    have hs1 : stepP c p 999 xs ⟨4, w, tk, hs⟩ = (⟨if (tk.length : Int) + 1 = c.q / 2 then 5 else 4, w, tk ++ [A.getD (A.length - (c.q / 2).toNat + tk.length) 0], hs⟩, xs) := by
      simp only [stepP, if_neg (show ¬ ((4 : Int) = 1) by decide), if_neg (show ¬ ((4 : Int) = 2) by decide), if_neg (show ¬ ((4 : Int) = 3) by decide), if_true, hsl, hv]
    rw [hs1]
    have htk : tk ++ [A.getD (A.length - (c.q / 2).toNat + tk.length) 0] = (A.drop (A.length - (c.q / 2).toNat)).take (tk.length + 1) := by
      have hg : (A.drop (A.length - (c.q / 2).toNat))[tk.length]? = some (A.getD (A.length - (c.q / 2).toNat + tk.length) 0) := by
        rw [List.getElem?_drop, List.getD_eq_getElem?_getD, List.getElem?_eq_getElem (by omega)]; rfl
      rw [List.take_add_one, hg, ← h11]; rfl
    refine .inl ⟨by simp only; split <;> omega, h1, h2, h3, h4, h5, .inr (.inr ⟨?_, h8, h9, h10, ?_, fun hh => ?_, fun hh => ?_, ?_⟩)⟩
    · simp only; split <;> simp
    · simp only [List.length_append, List.length_singleton]; exact htk
    · simp only [List.length_append, List.length_singleton] at hh ⊢
      by_cases hq2 : (tk.length : Int) + 1 = c.q / 2
      · rw [if_pos hq2] at hh; simp at hh
      · omega
    · simp only [List.length_append, List.length_singleton] at hh ⊢
      by_cases hq2 : (tk.length : Int) + 1 = c.q / 2
      · omega
      · rw [if_neg hq2] at hh; simp at hh
    · simp only [List.length_append, List.length_singleton]; omega
  · subst h7
    have hlt := h13 rfl
    by_cases heq : d = 0
    · have hw : xs.getD (wrdN c p) 0 = w := by rw [h2, h8, heq]
      have hs1 : stepP c p 999 xs ⟨5, w, tk, hs⟩ = (⟨0, w, tk, tk ++ [999]⟩, xs.set (wrdN c p) (dropW w (c.q / 2))) := if_pos hw
      rw [hs1]
      have hg : dropW w (c.q / 2) = pk ((hd w0 + (0 : Nat)) % 4294967296) ((tl w0 - c.q / 2) % 4294967296) := by unfold dropW; rw [h8, hd_dW, tl_dW]
      have hsz : sz (dropW w (c.q / 2)) = A.length - c.q / 2 := by
        rw [hg]; unfold sz; rw [hd_pk (by omega) (by omega), tl_pk (by omega) (by omega)]
        unfold sz at hA; omega
      refine .inr (.inr ⟨rfl, heq, h9, ?_, h1.set _ (drop_64 (by rw [h8]; exact dW_64 _ _) _), ?_⟩)
      · have : (A.drop (A.length - (c.q / 2).toNat)).take tk.length = A.drop (A.length - (c.q / 2).toNat) := List.take_of_length_le (by rw [List.length_drop]; omega)
        rw [this] at h11
        simp only; rw [← h11]
      · refine ringL_eq hp (getD_set_self hwl) (by rw [hsz]; omega) (by rw [hsz, List.length_take]; omega) fun k hk => ?_
        rw [List.length_take] at hk
        have hpos : (hd (dropW w (c.q / 2)) + (k : Int)) % 4294967296 = (hd w0 + (k : Int)) % 4294967296 := by
          rw [hg, hd_pk (by omega) (by omega)]; omega
        rw [ringAt, hpos, getD_set_ne (slot_word hp).symm]
        have := h10 k (by omega)
        unfold slV at this
        rw [this, List.getD_eq_getElem?_getD, List.getD_eq_getElem?_getD, List.getElem?_take, if_pos (by omega)]
    · have hw : ¬ xs.getD (wrdN c p) 0 = w := fun hh => heq (dW_inj (w := w0) (by omega) (by omega) (by rw [← h2, hh, h8]))
      have hs1 : stepP c p 999 xs ⟨5, w, tk, hs⟩ = (⟨1, w, tk, hs⟩, xs) := if_neg hw
      rw [hs1]
      exact .inl ⟨by simp, h1, h2, h3, h4, h5, .inl ⟨rfl, by omega⟩⟩
end Go.Am.F09
end
section
namespace Go.Am.F09
open Go.Am.F06 Go.Am.F10
theorem _root_.Go.Am.F10.Rw.pushs {m : MM} {q : Nat} {wr : Bool} {xs ys : List Int} {v y : AV} (h : Rw m q xs.length 1 (iC xs) v) (hy : SI m wr ys y) (hl : xs.length ≤ 1000) (hl2 : ys.length ≤ 1000) :
    ∃ v' m' q', appendA 1 8 v y m = some (v', m') ∧ Rw m' q' (xs ++ ys).length 1 (iC (xs ++ ys)) v' ∧ m.length ≤ m'.length ∧ ((ys.length = 0 ∧ q' = q) ∨ m.length ≤ q') ∧ ∀ i, i < m.length → (0 < xs.length → i ≠ q) → m'[i]? = m[i]? := by
  have hr := si_row hy
  have hlen := hy.len
  by_cases h0 : ys.length = 0
  · have hx : ys = [] := List.length_eq_zero_iff.1 h0
    subst hx
    rw [List.append_nil]
    refine ⟨v, m, q, ?_, h, Nat.le_refl _, .inl ⟨rfl, rfl⟩, fun i _ _ => rfl⟩
    rcases h with ⟨h1, h2, rfl⟩ | ⟨h1, rfl, h2⟩ <;> simp only [appendA, hlen, hr, List.length_nil, if_true]
  rcases h with ⟨h1, h2, rfl⟩ | ⟨h1, rfl, hq⟩
  · have hxs : xs = [] := List.length_eq_zero_iff.1 h1
    subst hxs
    refine ⟨.sl m.length 0 ys.length none, m ++ [.cells 1 false (iC ys)], m.length, ?_, .inr ⟨by rw [List.nil_append]; omega, by rw [List.nil_append], by rw [List.nil_append]; exact get_concat⟩, by simp, .inr (Nat.le_refl _), fun i hi _ => List.getElem?_append_left hi⟩
    simp only [appendA, hlen, hr]
    rw [if_neg h0, if_pos ⟨by omega, by omega, iC_one _⟩]
  · have hql : q < m.length := (List.getElem?_eq_some_iff.1 hq).1
    refine ⟨.sl m.length 0 (xs.length + ys.length) none, m.set q .dead ++ [.cells 1 false (iC xs ++ iC ys)], m.length, ?_, .inr ⟨by rw [List.length_append]; omega, by rw [List.length_append], ?_⟩, by simp, .inr (Nat.le_refl _), fun i hi ho => ?_⟩
    · simp only [appendA, hlen, hr, Am.getC, hq]
      rw [if_neg h0, if_pos]
      · rw [List.drop_zero, Nat.mul_one, List.take_of_length_le (by rw [iC_len]; omega)]
      · refine ⟨trivial, by rw [iC_len]; omega, by omega, by omega, ?_⟩
        rw [List.drop_zero, Nat.mul_one, List.take_of_length_le (by rw [iC_len]; omega), List.all_append, iC_one, iC_one]; rfl
    · rw [show m.length = (m.set q .dead).length by simp, get_concat]; simp [iC]
    · have hqi : q ≠ i := fun h => ho h1 h.symm
      rw [List.getElem?_append_left (by simpa using hi), List.getElem?_set_ne hqi]
theorem _root_.Go.Am.F10.Rw.si {m : MM} {q : Nat} {xs : List Int} {v : AV} (h : Rw m q xs.length 1 (iC xs) v) : SI m false xs v := h.sl (by rw [iC_len]; omega)
theorem _root_.Go.Am.F10.Rw.box {m : MM} {q n sz : Nat} {l : List AV} {v : AV} (h : Rw m q n sz l v) (h0 : 0 < n) : m[q]? = some (.cells sz false l) := by
  rcases h with ⟨h1, _⟩ | ⟨_, _, h⟩
  · omega
  · exact h
theorem SI.stayb {m m' : MM} {wr : Bool} {xs : List Int} {v : AV} (h : SI m wr xs v) {b : Nat} (hk : ∀ i, i < m.length → i ≠ b → m'[i]? = m[i]?) (ho : Off b v) : SI m' wr xs v := Sl.stay h fun q o cap hv h0 => hk q (Sl.lt h hv h0).1 (ho q o _ cap hv h0)
theorem PM.stay {m m' : MM} {xj : Nat} {c : Cf} {p g : Int} {s : PS} {qt : Nat} {tv hv : AV} (h : PM m xj c p g s qt tv hv) {b : Nat} (hk : ∀ i, i < m.length → i ≠ b → m'[i]? = m[i]?) (h1 : xj ≠ b) (h2 : qt ≠ b) (h3 : Off b hv) : PM m' xj c p g s qt tv hv :=
  ⟨by rw [hk _ (List.getElem?_eq_some_iff.1 h.get).1 h1]; exact h.get, fun ha => (h.t ha).keep fun h0 => hk qt ((h.t ha).lt h0) h2, h.one, SI.stayb h.h hk h3, h.off⟩
structure KpS (M0 : MM) (c : Cf) (p : Int) (j xj : Nat) (A : List Int) (d : Nat) (s : PS) (gone : AV) (qg qt : Nat) (tv hv : AV) (xs : List Int) (m : MM) : Prop where
  keep : KeepX xj j M0 m
  pm : PM m xj c p 999 s qt tv hv
  mem : ∃ st o, m[j]? = some (.abs (.mem st)) ∧ RelM xs o st
  rg : Rw m qg (A.take d).length 1 (iC (A.take d)) gone
  nq : 0 < (A.take d).length → qg ≠ qt
  bq : 0 < (A.take d).length → M0.length ≤ qg
  bt : qt = xj ∨ (M0.length ≤ qt ∧ qt < m.length)
  oh : 0 < (A.take d).length → Off qg hv
  ok : POk c p s
def KpE (A : List Int) (d : Nat) (q : Int) (R H : List Int) (fl : Bool) : Prop := A.take d ++ R ++ H = A ++ [999] ∧ (R.length : Int) ≤ q ∧ (0 < H.length → fl = true ∧ (H.length : Int) = q / 2 + 1 ∧ (R.length : Int) = q / 2)
def KpV (c : Cf) (p w0 : Int) (A : List Int) (i d : Nat) (s : PS) (xs : List Int) (fl dn : Bool) : Prop := (dn = false ∧ s.a ≠ 0 ∧ KV c p w0 A i d s xs) ∨ (dn = true ∧ s.a = 0 ∧ OkL c xs ∧ KpE A d c.q (ringL c p xs) s.hs fl)
theorem KpS.step {M0 m m' : MM} {c : Cf} {p : Int} {j xj : Nat} {A : List Int} {d : Nat} {s : PS} {gone : AV} {qg qt : Nat} {tv hv : AV} {xs : List Int} (h : KpS M0 c p j xj A d s gone qg qt tv hv xs m) {x : PS × List Int} {o : Int} {r : AV} (hok : POk c p x.1) (hP : PsP m c p 999 xj j qt hv x o r m') :
    r = .bool (decide (x.1.a = 0)) ∧ ∃ qt' tv' hv', KpS M0 c p j xj A d x.1 gone qg qt' tv' hv' x.2 m' := by
  obtain ⟨rfl, k1, tv', hv', qt', hpm, hq, hh, st', j', r'⟩ := hP
  obtain ⟨hk, pm, ⟨st, o1, hj, _⟩, rg, nq, bq, bt, oh, _⟩ := h
  have hM := hk.1
  have hqx : 0 < (A.take d).length → qg ≠ xj := fun h0 hq => by have := rg.box h0; rw [hq, pm.get] at this; cases this
  have hqj : 0 < (A.take d).length → qg ≠ j := fun h0 hq => by have := rg.box h0; rw [hq, hj] at this; cases this
  have lx : xj < m.length := (List.getElem?_eq_some_iff.1 pm.get).1
  have lx' : xj < m'.length := (List.getElem?_eq_some_iff.1 hpm.get).1
  have hl1 := k1.1
  refine ⟨rfl, qt', tv', hv', ⟨Nat.le_trans hM hl1, fun i hi h1 h2 => ?_⟩, hpm, ⟨st', o, j', r'⟩, rg.keep fun h0 => ?_, fun h0 => ?_, bq, ?_, fun h0 => ?_, hok⟩
  · have hne : i ≠ qt := by rcases bt with h | h <;> omega
    rw [k1.2 i (by omega) h1 h2 hne, hk.2 i hi h1 h2]
  · exact k1.2 qg (rg.lt h0) (hqx h0) (hqj h0) (nq h0)
  · have := rg.lt h0
    have := hqx h0
    have := nq h0
    rcases hq with h | h | h <;> omega
  · rcases hq with h | h | h
    · exact .inl h
    · exact .inr ⟨by omega, h.2⟩
    · rcases bt with h' | h'
      · exact .inl (by omega)
      · exact .inr ⟨by omega, by omega⟩
  · have := rg.lt h0
    rcases hh with h | h | ⟨q, oo, n, cp, h, h'⟩
    · rw [h]; exact oh h0
    · rw [h]; intro q o n cc hq; cases hq
    · rw [h]; intro q2 o2 n2 cc hq2 _
      injection hq2 with hq2; omega
theorem KpS.thief {M0 m m' : MM} {c : Cf} {p : Int} {j xj : Nat} {A : List Int} {d : Nat} {s : PS} {gone : AV} {qg qt : Nat} {tv hv : AV} {xs xs' : List Int} (h : KpS M0 c p j xj A d s gone qg qt tv hv xs m) (hk : KeepB j m m') {st' : MemSt} {o' : Int} (hj' : m'[j]? = some (.abs (.mem st'))) (hr' : RelM xs' o' st') :
    KpS M0 c p j xj A d s gone qg qt tv hv xs' m' := by
  obtain ⟨hk0, pm, ⟨st, o1, hj, _⟩, rg, nq, bq, bt, oh, hok⟩ := h
  have hM := hk0.1
  have hl := hk.1
  have hqj : 0 < (A.take d).length → qg ≠ j := fun h0 hq => by have := rg.box h0; rw [hq, hj] at this; cases this
  have hxj : xj ≠ j := fun h => by have := pm.get; rw [h, hj] at this; cases this
  have hqt : ∀ n l tv, Rw m qt n 1 l tv → 0 < n → qt ≠ j := fun n l tv h h0 hq => by have := h.box h0; rw [hq, hj] at this; cases this
  refine ⟨⟨Nat.le_trans hM hl, fun i hi h1 h2 => by rw [hk.2 i (by omega) h2, hk0.2 i hi h1 h2]⟩, ⟨by rw [hk.2 _ (List.getElem?_eq_some_iff.1 pm.get).1 hxj]; exact pm.get, fun ha => (pm.t ha).keep fun h0 => hk.2 qt ((pm.t ha).lt h0) (hqt _ _ _ (pm.t ha) h0), pm.one, SI.stayb pm.h hk.2 (si_box pm.h fun ro L h => by rw [hj] at h; cases h), pm.off⟩, ⟨st', o', hj', hr'⟩, rg.keep fun h0 => hk.2 qg (rg.lt h0) (hqj h0), nq, bq, ?_, oh, hok⟩
  rcases bt with h | h
  · exact .inl h
  · exact .inr ⟨h.1, by omega⟩
theorem PM.keep {m m' : MM} {xj : Nat} {c : Cf} {p g : Int} {s : PS} {qt : Nat} {tv hv : AV} (h : PM m xj c p g s qt tv hv) (k : Keep m m') : PM m' xj c p g s qt tv hv :=
  ⟨k.get h.get, fun ha => (h.t ha).keep fun h0 => k.2 qt ((h.t ha).lt h0), h.one, h.h.keep k, h.off⟩
theorem KpS.more {M0 m m' : MM} {c : Cf} {p : Int} {j xj : Nat} {A : List Int} {d : Nat} {s : PS} {gone : AV} {qg qt : Nat} {tv hv : AV} {xs : List Int} (h : KpS M0 c p j xj A d s gone qg qt tv hv xs m) (k : Keep m m') : KpS M0 c p j xj A d s gone qg qt tv hv xs m' := by
  obtain ⟨hk0, pm, ⟨st, o1, hj, hr⟩, rg, nq, bq, bt, oh, hok⟩ := h
  refine ⟨hk0.trans (.of k), PM.keep pm k, ⟨st, o1, k.get hj, hr⟩, rg.keep fun h0 => k.2 qg (rg.lt h0), nq, bq, ?_, oh, hok⟩
  rcases bt with h | h
  · exact .inl h
  · exact .inr ⟨h.1, Nat.lt_of_lt_of_le h.2 k.1⟩
theorem KpS.gain {M0 m : MM} {c : Cf} {p : Int} {j xj : Nat} {A : List Int} {d n : Nat} {s : PS} {gone tk : AV} {qg qt : Nat} {tv hv : AV} {xs : List Int} (h : KpS M0 c p j xj A d s gone qg qt tv hv xs m) (hA : A.length ≤ 64) (hd : d + n ≤ A.length) (ht : SI m true ((A.drop d).take n) tk) :
    ∃ gone' m' qg', appendA 1 8 gone tk m = some (gone', m') ∧ KpS M0 c p j xj A (d + n) s gone' qg' qt tv hv xs m' := by
  obtain ⟨hk0, pm, ⟨st, o1, hj, hr⟩, rg, nq, bq, bt, oh, hok⟩ := h
  have hM := hk0.1
  obtain ⟨gone', m', qg', happ, rg', hl, hq', hf⟩ := Rw.pushs rg ht (by rw [List.length_take]; omega) (by rw [List.length_take, List.length_drop]; omega)
  rw [← List.take_add] at rg'
  have hqx : 0 < (A.take d).length → qg ≠ xj := fun h0 hq => by have := rg.box h0; rw [hq, pm.get] at this; cases this
  have hqj : 0 < (A.take d).length → qg ≠ j := fun h0 hq => by have := rg.box h0; rw [hq, hj] at this; cases this
  have lx : xj < m.length := (List.getElem?_eq_some_iff.1 pm.get).1
  have lj : j < m.length := (List.getElem?_eq_some_iff.1 hj).1
  have hd0 : (A.take d).length = d := by rw [List.length_take]; omega
  have hd1 : (A.take (d + n)).length = d + n := by rw [List.length_take]; omega
  rw [hd0] at nq bq oh hf hqx hqj
  have hnl : ((A.drop d).take n).length = n := by rw [List.length_take, List.length_drop]; omega
  rw [hnl] at hq'
  have hoff : ∀ q o k cap, hv = .sl q o k cap → 0 < k → q < m.length := fun q o k cap hq h0 => by
    have hh := pm.h
    rcases hh.2 with ⟨h1, _⟩ | ⟨q2, o2, c2, h1, h2⟩
    · rw [h1] at hq; cases hq
    · rw [h1] at hq; injection hq with e1 e2 e3 e4; subst e1; subst e3
      obtain ⟨ro, L, h3, _⟩ := h2 h0
      exact (List.getElem?_eq_some_iff.1 h3).1
  have hfr : ∀ i, i < m.length → (0 < d → i ≠ qg) → m'[i]? = m[i]? := hf
  have pm' : PM m' xj c p 999 s qt tv hv := by
    refine ⟨by rw [hfr xj lx fun h => (hqx h).symm]; exact pm.get, fun ha => (pm.t ha).keep fun h0 => hfr qt ((pm.t ha).lt h0) fun h => (nq h).symm, pm.one, ?_, pm.off⟩
    exact Sl.stay pm.h fun q o cap hq h0 => hfr q (hoff q o _ cap hq h0) fun h => oh h q o _ cap hq h0
  refine ⟨gone', m', qg', happ, ⟨by omega, fun i hi h1 h2 => by rw [hfr i (by omega) (fun h => by have := bq h; omega), hk0.2 i hi h1 h2]⟩, pm', ⟨st, o1, by rw [hfr j lj fun h => (hqj h).symm]; exact hj, hr⟩, rg', fun h0 => ?_, fun h0 => ?_, ?_, fun h0 => ?_, hok⟩
  · rw [hd1] at h0
    rcases hq' with ⟨h, h'⟩ | h
    · rw [h']; exact nq (by omega)
    · rcases bt with h' | h' <;> omega
  · rw [hd1] at h0
    rcases hq' with ⟨h, h'⟩ | h
    · rw [h']; exact bq (by omega)
    · omega
  · rcases bt with h' | h'
    · exact .inl h'
    · exact .inr ⟨h'.1, by omega⟩
  · rw [hd1] at h0
    rcases hq' with ⟨h, h'⟩ | h
    · rw [h']; exact oh (by omega)
    · intro q o k cap hq hk
      have := hoff q o k cap hq hk
      omega
end Go.Am.F09
end
section
namespace Go.Am.F09
open Go.Am.F06 Go.Am.F10
def Gkp : List (Nat × AFun Ob) := [(184, pureF worksG), (133, F10.c_docs_Made), (87, F10.c_kit_Pick), (134, F10.c_docs_Filled), (135, amFunc F10.Gmem F10.docs_Mem), (136, amFunc F10.Gring F10.docs_Ring), (185, c_put_New), (186, amFunc Gpst put_Put_Step), (139, amFunc F10.Gthief F10.docs_Thief), (187, amFunc Gpo put_Put_Over), (84, F10.c_kit_SameInts)]
def kpB : AC := match sqN 10 law09_PutKeeps.body with | .seq _ (.block _ (.loop b)) => b | _ => .skip
def kpC : AC := match kpB with | .seq c _ => c | _ => .skip
def kpT : AC := match kpB with | .seq _ (.seq (.block _ r) _) => r | _ => .skip
def kpI : AC := match kpB with | .seq _ (.seq _ i) => i | _ => .skip
def kpL : AC := sqT 11 law09_PutKeeps.body
theorem keeps_body : law09_PutKeeps = { nloc := 21, npar := 4, res := [.loc 5], body := .seq (sqN 0 law09_PutKeeps.body) (.seq (sqN 1 law09_PutKeeps.body) (.seq (sqN 2 law09_PutKeeps.body) (.seq (sqN 3 law09_PutKeeps.body) (.seq (sqN 4 law09_PutKeeps.body) (.seq (sqN 5 law09_PutKeeps.body) (.seq (sqN 6 law09_PutKeeps.body) (.seq (sqN 7 law09_PutKeeps.body) (.seq (sqN 8 law09_PutKeeps.body) (.seq (sqN 9 law09_PutKeeps.body) (.seq (.seq (.region [⟨.mov, [.c (.int .i64 0)], some 12, none⟩]) (.block 0 (.loop (.seq kpC (.seq (.block 1 kpT) kpI))))) kpL)))))))))) } := rfl
def KpN (M0 : MM) (c0 c : Cf) (p : Int) (bv lv was : AV) (bb j xj : Nat) (w0 : Int) (A : List Int) (i i' : Nat) (e : List AV) (m : MM) : Prop := ∃ (d : Nat) (s : PS) (xs : List Int) (fl dn : Bool) (gone tv hv : AV) (qg qt : Nat) (y13 y14 y15 y16 y17 y18 y19 y20 : AV),
  e = [.agg (cfC c0), .int .i64 p, bv, lv, .ptr bb 0, .bool false, .ptr j 0, was, .ptr xj 0, gone, .bool fl, .bool dn, .int .i64 i, y13, y14, y15, y16, y17, y18, y19, y20] ∧ KpS M0 c p j xj A d s gone qg qt tv hv xs m ∧ KpV c p w0 A i' d s xs fl dn
set_option maxHeartbeats 16000000 in
theorem kpT_run {M0 m : MM} {c0 c : Cf} {p w0 : Int} {bv lv was gone : AV} {bb j xj : Nat} {A ls xs : List Int} {i d qg qt : Nat} {s : PS} {tv hv : AV} {fl : Bool} {y13 y14 y15 y16 y17 y18 y19 y20 : AV}
    (hp : thereP c p) (hA : (A.length : Int) = sz w0) (hq : sz w0 ≤ c.q) (hq8 : c.q ≤ 8) (hw0 : W64 w0) (hb : M0[bb]? = some (.cells 6 false (cfC c))) (hbj : bb ≠ xj ∧ bb ≠ j) (hL : SB M0 ls lv) (hl : ∀ x, x ∈ ls → 0 ≤ x ∧ x < 256) (hnx : ∀ ro L, M0[xj]? ≠ some (.cells 1 ro L)) (hnj : ∀ ro L, M0[j]? ≠ some (.cells 1 ro L))
    (hS : KpS M0 c p j xj A d s gone qg qt tv hv xs m) (hV : KV c p w0 A i d s xs) (ha : s.a ≠ 0) (hi : i < 60) :
    W Gkp kpT (fun x e m => x = .normal ∧ KpN M0 c0 c p bv lv was bb j xj w0 A i (i + 1) e m) [.agg (cfC c0), .int .i64 p, bv, lv, .ptr bb 0, .bool false, .ptr j 0, was, .ptr xj 0, gone, .bool fl, .bool false, .int .i64 i, y13, y14, y15, y16, y17, y18, y19, y20] m := by
  have a136 : assoc Gkp 136 = some (amFunc F10.Gring F10.docs_Ring) := rfl
  have a186 : assoc Gkp 186 = some (amFunc Gpst put_Put_Step) := rfl
  have a139 : assoc Gkp 139 = some (amFunc F10.Gthief F10.docs_Thief) := rfl
  generalize Gkp = G at a136 a186 a139 ⊢
  have hb8 := there_bounds hp
  obtain ⟨st, o, gj, hr⟩ := hS.mem
  have hrn := ring_run (c := c) (p := p) gj hr hV.ok
  rw [hV.ring hp hA hq] at hrn
  have hdl := hV.dl
  have gb := hS.keep.get hb hbj.1 hbj.2
  simp only [cfC] at gb hrn
  simp (disch := first | assumption | omega | (simp only [List.length_cons, List.length_nil, List.length_set, List.length_append] <;> omega) | (simp only [get_mid, get_mid0, List.cons_append, List.append_assoc, List.getElem?_cons_zero, List.getElem?_cons_succ])) only [kpT, kpB, sqN, law09_PutKeeps, ek, ↓evW, ↓evQ, evB, evS, evL, List.map, AV.cells, List.all, AV.one, Bool.and_true, Bool.true_and, if_true, ↓thenQ_normal, ↓thenQ_exit, ↓thenQ_ret, ↓blockQ_normal, ↓blockQ_ret, ↓blockQ_exit, ↓CW_true, ↓CW_false, CW_true, CW_false, condT, condF, RQ_some, tupA_one, tupA_two, tupA_nil, Nat.reduceSub, Nat.reduceAdd, Nat.reduceMul, Nat.zero_add, Nat.add_zero, Nat.reduceLeDiff, Nat.reduceEqDiff, eqV, eqAll, fillA, and_self, and_true, true_and, Nat.le_refl, Bool.not_true, Bool.not_false, Bool.false_xor, Bool.true_xor, cond_true, cond_false, List.replicate, if_false, reduceIte, resAll, resA, ne_eq, decide_not, decide_true, decide_false, Int.reduceEq, Bool.not_true, Bool.not_false, not_true_eq_false, not_false_eq_true, cond_bool, cond_int, beq_self_eq_true, Int.reduceBEq, Bool.and_self, Bool.and_false, Bool.false_and, Bool.xor_false, Bool.xor_true, loadN_ldC, ldC_none, ldC_somes, stC_aggs, splice, storeN_stC, stC_int, stC_bool, stC_ptr, stC_nilp, stC_sl, stC_nils, getC_gcO, gcO_cells, W_draw_eq, ↓W_scope, ev_clear, evT, evF, evX, evM, ↓exitQ_normal, ↓exitQ_ret, ↓exitQ_exit, saA_self, saO_self, if_pos, if_neg, wrapI, get_concat, set_concat, Int.toNat_natCast, Int.toNat_zero, List.nil_append, Nat.mul_one, decide_eq_true, decide_eq_false, Int.reduceLE, Int.reduceLT, Int.reduceNeg, Bool.false_or, Bool.true_or, Bool.or_false, Bool.or_true, wrapU, Int.reduceAdd, Int.reduceSub, Int.reduceMul, List.append_assoc, List.length_append, get_mid, get_mid0, set_mid, set_mid0, List.length_set, List.length_cons, List.length_nil, List.cons_append, List.getElem?_append_left, List.set_append_left, get_at, get_at0, set_at, set_at0, List.getElem?_set_self, List.getElem?_set_ne, gb, a136]
  refine OKT_fn hrn ?_
  rintro r1 m1 ⟨k1, s1, _, _, _⟩
  have hrl := s1.len
  rw [List.length_drop] at hrl
  have gb1 := k1.get gb
  have hS1 := hS.more k1
  have ok1 := hS.ok
  obtain ⟨st1, o1, gj1, hr1⟩ := hS1.mem
  simp (disch := first | assumption | omega | (simp only [List.length_cons, List.length_nil, List.length_set, List.length_append] <;> omega) | (simp only [get_mid, get_mid0, List.cons_append, List.append_assoc, List.getElem?_cons_zero, List.getElem?_cons_succ])) only [ek, ↓evW, ↓evQ, evB, evS, evL, List.map, AV.cells, List.all, AV.one, Bool.and_true, Bool.true_and, if_true, ↓thenQ_normal, ↓thenQ_exit, ↓thenQ_ret, ↓blockQ_normal, ↓blockQ_ret, ↓blockQ_exit, ↓CW_true, ↓CW_false, CW_true, CW_false, condT, condF, RQ_some, tupA_one, tupA_two, tupA_nil, Nat.reduceSub, Nat.reduceAdd, Nat.reduceMul, Nat.zero_add, Nat.add_zero, Nat.reduceLeDiff, Nat.reduceEqDiff, eqV, eqAll, fillA, and_self, and_true, true_and, Nat.le_refl, Bool.not_true, Bool.not_false, Bool.false_xor, Bool.true_xor, cond_true, cond_false, List.replicate, if_false, reduceIte, resAll, resA, ne_eq, decide_not, decide_true, decide_false, Int.reduceEq, Bool.not_true, Bool.not_false, not_true_eq_false, not_false_eq_true, cond_bool, cond_int, beq_self_eq_true, Int.reduceBEq, Bool.and_self, Bool.and_false, Bool.false_and, Bool.xor_false, Bool.xor_true, loadN_ldC, ldC_none, ldC_somes, stC_aggs, splice, storeN_stC, stC_int, stC_bool, stC_ptr, stC_nilp, stC_sl, stC_nils, getC_gcO, gcO_cells, W_draw_eq, ↓W_scope, ev_clear, evT, evF, evX, evM, ↓exitQ_normal, ↓exitQ_ret, ↓exitQ_exit, saA_self, saO_self, if_pos, if_neg, wrapI, get_concat, set_concat, Int.toNat_natCast, Int.toNat_zero, List.nil_append, Nat.mul_one, decide_eq_true, decide_eq_false, Int.reduceLE, Int.reduceLT, Int.reduceNeg, Bool.false_or, Bool.true_or, Bool.or_false, Bool.or_true, wrapU, Int.reduceAdd, Int.reduceSub, Int.reduceMul, List.append_assoc, List.length_append, get_mid, get_mid0, set_mid, set_mid0, List.length_set, List.length_cons, List.length_nil, List.cons_append, List.getElem?_append_left, List.set_append_left, get_at, get_at0, set_at, set_at0, List.getElem?_set_self, List.getElem?_set_ne, ev_len, hrl, gb, gb1, a186]
  refine OK_fn (pstep_run hS1.pm gj1 hr1 (.inr hV.ok) ok1) ?_
  intro r m2 hP
  obtain ⟨rfl, qt', tv', hv', hS2⟩ := hS1.step (ok1.step (.inr hV.ok)) hP
  have hst := hV.step hp hA hq hq8 hw0 ha
  clear hP
  generalize stepP c p 999 xs s = x at hS2 hst ⊢
  obtain ⟨s', xs'⟩ := x
  simp only at hS2 hst
  have hlenl := hL.len
  have hroom : roomP c.q := hp.1.2.1
  have heven : c.q / 2 + c.q / 2 = c.q := by rcases hroom with h | h | h | h | h | h <;> rw [h] <;> rfl
  rcases hst with ⟨h1, hV2⟩ | ⟨h1, h2, h3, h4, h5, h6⟩ | ⟨h1, h2, h3, h4, h5, h6⟩
  · have hd1 : decide (s'.a = 0) = false := decide_eq_false h1
    simp only [hd1]
    rcases Nat.lt_or_ge i ls.length with hil | hil
    · have hLm : SB m2 ls lv := hS2.keep.sl (szj := 0) (szk := 0) hnx hnj hL
      have gb2 := hS2.keep.get hb hbj.1 hbj.2
      obtain ⟨st2, o2, gj2, hr2⟩ := hS2.mem
      obtain ⟨z, hz⟩ : ∃ z, ls[i]? = some z := ⟨_, List.getElem?_eq_getElem hil⟩
      have hzb := hl z (List.mem_of_getElem? hz)
      obtain ⟨kN, rfl⟩ : ∃ kN : Nat, z = kN := ⟨z.toNat, by omega⟩
      obtain ⟨q, oo, cap, ro, L, rfl, b2, b3, b4, _⟩ := hLm.at (by omega)
      have b5 : L[oo + i]? = some (.int .u8 kN) := by rw [sl_get b3 (by omega)]; simp [hz]
      have hth := thief_run (k := kN) (by omega) gj2 hr2 hV2.ok hp
      rw [hV2.ring hp hA hq, List.length_drop] at hth
      simp only [cfC] at hth gb2
      simp (disch := first | assumption | omega | (simp only [List.length_cons, List.length_nil, List.length_set, List.length_append] <;> omega) | (simp only [get_mid, get_mid0, List.cons_append, List.append_assoc, List.getElem?_cons_zero, List.getElem?_cons_succ])) only [ek, ↓evW, ↓evQ, evB, evS, evL, List.map, AV.cells, List.all, AV.one, Bool.and_true, Bool.true_and, if_true, ↓thenQ_normal, ↓thenQ_exit, ↓thenQ_ret, ↓blockQ_normal, ↓blockQ_ret, ↓blockQ_exit, ↓CW_true, ↓CW_false, CW_true, CW_false, condT, condF, RQ_some, tupA_one, tupA_two, tupA_nil, Nat.reduceSub, Nat.reduceAdd, Nat.reduceMul, Nat.zero_add, Nat.add_zero, Nat.reduceLeDiff, Nat.reduceEqDiff, eqV, eqAll, fillA, and_self, and_true, true_and, Nat.le_refl, Bool.not_true, Bool.not_false, Bool.false_xor, Bool.true_xor, cond_true, cond_false, List.replicate, if_false, reduceIte, resAll, resA, ne_eq, decide_not, decide_true, decide_false, Int.reduceEq, Bool.not_true, Bool.not_false, not_true_eq_false, not_false_eq_true, cond_bool, cond_int, beq_self_eq_true, Int.reduceBEq, Bool.and_self, Bool.and_false, Bool.false_and, Bool.xor_false, Bool.xor_true, loadN_ldC, ldC_none, ldC_somes, stC_aggs, splice, storeN_stC, stC_int, stC_bool, stC_ptr, stC_nilp, stC_sl, stC_nils, getC_gcO, gcO_cells, W_draw_eq, ↓W_scope, ev_clear, evT, evF, evX, evM, ↓exitQ_normal, ↓exitQ_ret, ↓exitQ_exit, saA_self, saO_self, if_pos, if_neg, wrapI, get_concat, set_concat, Int.toNat_natCast, Int.toNat_zero, List.nil_append, Nat.mul_one, decide_eq_true, decide_eq_false, Int.reduceLE, Int.reduceLT, Int.reduceNeg, Bool.false_or, Bool.true_or, Bool.or_false, Bool.or_true, wrapU, Int.reduceAdd, Int.reduceSub, Int.reduceMul, List.append_assoc, List.length_append, get_mid, get_mid0, set_mid, set_mid0, List.length_set, List.length_cons, List.length_nil, List.cons_append, List.getElem?_append_left, List.set_append_left, get_at, get_at0, set_at, set_at0, List.getElem?_set_self, List.getElem?_set_ne, ev_len, hlenl, gb2, b2, b5, a139]
      refine OK_fn hth ?_
      rintro tk m3 ⟨k3, st3, st', o', j3, r3⟩
      rw [hV2.ring hp hA hq] at st3
      have hn : thN kN (A.length - d) ≤ A.length - d := by unfold thN; omega
      generalize thN kN (A.length - d) = n at st3 r3 hn
      have hS3 := hS2.thief k3 j3 r3
      obtain ⟨gone', m4, qg', happ, hS4⟩ := hS3.gain (by omega) (by omega) st3
      simp (disch := first | assumption | omega | (simp only [List.length_cons, List.length_nil, List.length_set, List.length_append] <;> omega) | (simp only [get_mid, get_mid0, List.cons_append, List.append_assoc, List.getElem?_cons_zero, List.getElem?_cons_succ])) only [ek, ↓evW, ↓evQ, evB, evS, evL, List.map, AV.cells, List.all, AV.one, Bool.and_true, Bool.true_and, if_true, ↓thenQ_normal, ↓thenQ_exit, ↓thenQ_ret, ↓blockQ_normal, ↓blockQ_ret, ↓blockQ_exit, ↓CW_true, ↓CW_false, CW_true, CW_false, condT, condF, RQ_some, tupA_one, tupA_two, tupA_nil, Nat.reduceSub, Nat.reduceAdd, Nat.reduceMul, Nat.zero_add, Nat.add_zero, Nat.reduceLeDiff, Nat.reduceEqDiff, eqV, eqAll, fillA, and_self, and_true, true_and, Nat.le_refl, Bool.not_true, Bool.not_false, Bool.false_xor, Bool.true_xor, cond_true, cond_false, List.replicate, if_false, reduceIte, resAll, resA, ne_eq, decide_not, decide_true, decide_false, Int.reduceEq, Bool.not_true, Bool.not_false, not_true_eq_false, not_false_eq_true, cond_bool, cond_int, beq_self_eq_true, Int.reduceBEq, Bool.and_self, Bool.and_false, Bool.false_and, Bool.xor_false, Bool.xor_true, loadN_ldC, ldC_none, ldC_somes, stC_aggs, splice, storeN_stC, stC_int, stC_bool, stC_ptr, stC_nilp, stC_sl, stC_nils, getC_gcO, gcO_cells, W_draw_eq, ↓W_scope, ev_clear, evT, evF, evX, evM, ↓exitQ_normal, ↓exitQ_ret, ↓exitQ_exit, saA_self, saO_self, if_pos, if_neg, wrapI, get_concat, set_concat, Int.toNat_natCast, Int.toNat_zero, List.nil_append, Nat.mul_one, decide_eq_true, decide_eq_false, Int.reduceLE, Int.reduceLT, Int.reduceNeg, Bool.false_or, Bool.true_or, Bool.or_false, Bool.or_true, wrapU, Int.reduceAdd, Int.reduceSub, Int.reduceMul, List.append_assoc, List.length_append, get_mid, get_mid0, set_mid, set_mid0, List.length_set, List.length_cons, List.length_nil, List.cons_append, List.getElem?_append_left, List.set_append_left, get_at, get_at0, set_at, set_at0, List.getElem?_set_self, List.getElem?_set_ne, evA, happ]
      exact ⟨d + n, s', _, _, _, _, _, _, _, _, _, _, _, _, _, _, _, _, rfl, hS4, .inl ⟨rfl, h1, hV2.thief hp (by omega)⟩⟩
    · simp (disch := first | assumption | omega | (simp only [List.length_cons, List.length_nil, List.length_set, List.length_append] <;> omega) | (simp only [get_mid, get_mid0, List.cons_append, List.append_assoc, List.getElem?_cons_zero, List.getElem?_cons_succ])) only [ek, ↓evW, ↓evQ, evB, evS, evL, List.map, AV.cells, List.all, AV.one, Bool.and_true, Bool.true_and, if_true, ↓thenQ_normal, ↓thenQ_exit, ↓thenQ_ret, ↓blockQ_normal, ↓blockQ_ret, ↓blockQ_exit, ↓CW_true, ↓CW_false, CW_true, CW_false, condT, condF, RQ_some, tupA_one, tupA_two, tupA_nil, Nat.reduceSub, Nat.reduceAdd, Nat.reduceMul, Nat.zero_add, Nat.add_zero, Nat.reduceLeDiff, Nat.reduceEqDiff, eqV, eqAll, fillA, and_self, and_true, true_and, Nat.le_refl, Bool.not_true, Bool.not_false, Bool.false_xor, Bool.true_xor, cond_true, cond_false, List.replicate, if_false, reduceIte, resAll, resA, ne_eq, decide_not, decide_true, decide_false, Int.reduceEq, Bool.not_true, Bool.not_false, not_true_eq_false, not_false_eq_true, cond_bool, cond_int, beq_self_eq_true, Int.reduceBEq, Bool.and_self, Bool.and_false, Bool.false_and, Bool.xor_false, Bool.xor_true, loadN_ldC, ldC_none, ldC_somes, stC_aggs, splice, storeN_stC, stC_int, stC_bool, stC_ptr, stC_nilp, stC_sl, stC_nils, getC_gcO, gcO_cells, W_draw_eq, ↓W_scope, ev_clear, evT, evF, evX, evM, ↓exitQ_normal, ↓exitQ_ret, ↓exitQ_exit, saA_self, saO_self, if_pos, if_neg, wrapI, get_concat, set_concat, Int.toNat_natCast, Int.toNat_zero, List.nil_append, Nat.mul_one, decide_eq_true, decide_eq_false, Int.reduceLE, Int.reduceLT, Int.reduceNeg, Bool.false_or, Bool.true_or, Bool.or_false, Bool.or_true, wrapU, Int.reduceAdd, Int.reduceSub, Int.reduceMul, List.append_assoc, List.length_append, get_mid, get_mid0, set_mid, set_mid0, List.length_set, List.length_cons, List.length_nil, List.cons_append, List.getElem?_append_left, List.set_append_left, get_at, get_at0, set_at, set_at0, List.getElem?_set_self, List.getElem?_set_ne, ev_len, hlenl]
      exact ⟨d, s', _, _, _, _, _, _, _, _, _, _, _, _, _, _, _, _, rfl, hS2, .inl ⟨rfl, h1, hV2⟩⟩
  · have hd1 : decide (s'.a = 0) = true := decide_eq_true h1
    simp only [hd1]
    have hE : ∀ b, KpV c p w0 A (i + 1) d s' xs' b true := fun b => .inr ⟨rfl, h1, h3, by rw [h4, h2, List.append_nil, ← List.append_assoc, List.take_append_drop], by rw [h4, List.length_append, List.length_drop, List.length_singleton]; omega, fun h => by rw [h2] at h; simp at h⟩
    rcases Nat.lt_or_ge i ls.length with hil | hil
    · simp (disch := first | assumption | omega | (simp only [List.length_cons, List.length_nil, List.length_set, List.length_append] <;> omega) | (simp only [get_mid, get_mid0, List.cons_append, List.append_assoc, List.getElem?_cons_zero, List.getElem?_cons_succ])) only [ek, ↓evW, ↓evQ, evB, evS, evL, List.map, AV.cells, List.all, AV.one, Bool.and_true, Bool.true_and, if_true, ↓thenQ_normal, ↓thenQ_exit, ↓thenQ_ret, ↓blockQ_normal, ↓blockQ_ret, ↓blockQ_exit, ↓CW_true, ↓CW_false, CW_true, CW_false, condT, condF, RQ_some, tupA_one, tupA_two, tupA_nil, Nat.reduceSub, Nat.reduceAdd, Nat.reduceMul, Nat.zero_add, Nat.add_zero, Nat.reduceLeDiff, Nat.reduceEqDiff, eqV, eqAll, fillA, and_self, and_true, true_and, Nat.le_refl, Bool.not_true, Bool.not_false, Bool.false_xor, Bool.true_xor, cond_true, cond_false, List.replicate, if_false, reduceIte, resAll, resA, ne_eq, decide_not, decide_true, decide_false, Int.reduceEq, Bool.not_true, Bool.not_false, not_true_eq_false, not_false_eq_true, cond_bool, cond_int, beq_self_eq_true, Int.reduceBEq, Bool.and_self, Bool.and_false, Bool.false_and, Bool.xor_false, Bool.xor_true, loadN_ldC, ldC_none, ldC_somes, stC_aggs, splice, storeN_stC, stC_int, stC_bool, stC_ptr, stC_nilp, stC_sl, stC_nils, getC_gcO, gcO_cells, W_draw_eq, ↓W_scope, ev_clear, evT, evF, evX, evM, ↓exitQ_normal, ↓exitQ_ret, ↓exitQ_exit, saA_self, saO_self, if_pos, if_neg, wrapI, get_concat, set_concat, Int.toNat_natCast, Int.toNat_zero, List.nil_append, Nat.mul_one, decide_eq_true, decide_eq_false, Int.reduceLE, Int.reduceLT, Int.reduceNeg, Bool.false_or, Bool.true_or, Bool.or_false, Bool.or_true, wrapU, Int.reduceAdd, Int.reduceSub, Int.reduceMul, List.append_assoc, List.length_append, get_mid, get_mid0, set_mid, set_mid0, List.length_set, List.length_cons, List.length_nil, List.cons_append, List.getElem?_append_left, List.set_append_left, get_at, get_at0, set_at, set_at0, List.getElem?_set_self, List.getElem?_set_ne, ev_len, hlenl]
      exact ⟨d, s', _, _, _, _, _, _, _, _, _, _, _, _, _, _, _, _, rfl, hS2, hE _⟩
    · simp (disch := first | assumption | omega | (simp only [List.length_cons, List.length_nil, List.length_set, List.length_append] <;> omega) | (simp only [get_mid, get_mid0, List.cons_append, List.append_assoc, List.getElem?_cons_zero, List.getElem?_cons_succ])) only [ek, ↓evW, ↓evQ, evB, evS, evL, List.map, AV.cells, List.all, AV.one, Bool.and_true, Bool.true_and, if_true, ↓thenQ_normal, ↓thenQ_exit, ↓thenQ_ret, ↓blockQ_normal, ↓blockQ_ret, ↓blockQ_exit, ↓CW_true, ↓CW_false, CW_true, CW_false, condT, condF, RQ_some, tupA_one, tupA_two, tupA_nil, Nat.reduceSub, Nat.reduceAdd, Nat.reduceMul, Nat.zero_add, Nat.add_zero, Nat.reduceLeDiff, Nat.reduceEqDiff, eqV, eqAll, fillA, and_self, and_true, true_and, Nat.le_refl, Bool.not_true, Bool.not_false, Bool.false_xor, Bool.true_xor, cond_true, cond_false, List.replicate, if_false, reduceIte, resAll, resA, ne_eq, decide_not, decide_true, decide_false, Int.reduceEq, Bool.not_true, Bool.not_false, not_true_eq_false, not_false_eq_true, cond_bool, cond_int, beq_self_eq_true, Int.reduceBEq, Bool.and_self, Bool.and_false, Bool.false_and, Bool.xor_false, Bool.xor_true, loadN_ldC, ldC_none, ldC_somes, stC_aggs, splice, storeN_stC, stC_int, stC_bool, stC_ptr, stC_nilp, stC_sl, stC_nils, getC_gcO, gcO_cells, W_draw_eq, ↓W_scope, ev_clear, evT, evF, evX, evM, ↓exitQ_normal, ↓exitQ_ret, ↓exitQ_exit, saA_self, saO_self, if_pos, if_neg, wrapI, get_concat, set_concat, Int.toNat_natCast, Int.toNat_zero, List.nil_append, Nat.mul_one, decide_eq_true, decide_eq_false, Int.reduceLE, Int.reduceLT, Int.reduceNeg, Bool.false_or, Bool.true_or, Bool.or_false, Bool.or_true, wrapU, Int.reduceAdd, Int.reduceSub, Int.reduceMul, List.append_assoc, List.length_append, get_mid, get_mid0, set_mid, set_mid0, List.length_set, List.length_cons, List.length_nil, List.cons_append, List.getElem?_append_left, List.set_append_left, get_at, get_at0, set_at, set_at0, List.getElem?_set_self, List.getElem?_set_ne, ev_len, hlenl]
      exact ⟨d, s', _, _, _, _, _, _, _, _, _, _, _, _, _, _, _, _, rfl, hS2, hE _⟩
  · have hd1 : decide (s'.a = 0) = true := decide_eq_true h1
    simp only [hd1]
    have hE : KpV c p w0 A (i + 1) d s' xs' true true := .inr ⟨rfl, h1, h5, by rw [h6, h4, h2, List.take_zero, List.nil_append, ← List.append_assoc, List.take_append_drop], by rw [h6, List.length_take]; omega, fun _ => ⟨rfl, by rw [h4, List.length_append, List.length_drop, List.length_singleton]; omega, by rw [h6, List.length_take]; omega⟩⟩
    rcases Nat.lt_or_ge i ls.length with hil | hil
    · simp (disch := first | assumption | omega | (simp only [List.length_cons, List.length_nil, List.length_set, List.length_append] <;> omega) | (simp only [get_mid, get_mid0, List.cons_append, List.append_assoc, List.getElem?_cons_zero, List.getElem?_cons_succ])) only [ek, ↓evW, ↓evQ, evB, evS, evL, List.map, AV.cells, List.all, AV.one, Bool.and_true, Bool.true_and, if_true, ↓thenQ_normal, ↓thenQ_exit, ↓thenQ_ret, ↓blockQ_normal, ↓blockQ_ret, ↓blockQ_exit, ↓CW_true, ↓CW_false, CW_true, CW_false, condT, condF, RQ_some, tupA_one, tupA_two, tupA_nil, Nat.reduceSub, Nat.reduceAdd, Nat.reduceMul, Nat.zero_add, Nat.add_zero, Nat.reduceLeDiff, Nat.reduceEqDiff, eqV, eqAll, fillA, and_self, and_true, true_and, Nat.le_refl, Bool.not_true, Bool.not_false, Bool.false_xor, Bool.true_xor, cond_true, cond_false, List.replicate, if_false, reduceIte, resAll, resA, ne_eq, decide_not, decide_true, decide_false, Int.reduceEq, Bool.not_true, Bool.not_false, not_true_eq_false, not_false_eq_true, cond_bool, cond_int, beq_self_eq_true, Int.reduceBEq, Bool.and_self, Bool.and_false, Bool.false_and, Bool.xor_false, Bool.xor_true, loadN_ldC, ldC_none, ldC_somes, stC_aggs, splice, storeN_stC, stC_int, stC_bool, stC_ptr, stC_nilp, stC_sl, stC_nils, getC_gcO, gcO_cells, W_draw_eq, ↓W_scope, ev_clear, evT, evF, evX, evM, ↓exitQ_normal, ↓exitQ_ret, ↓exitQ_exit, saA_self, saO_self, if_pos, if_neg, wrapI, get_concat, set_concat, Int.toNat_natCast, Int.toNat_zero, List.nil_append, Nat.mul_one, decide_eq_true, decide_eq_false, Int.reduceLE, Int.reduceLT, Int.reduceNeg, Bool.false_or, Bool.true_or, Bool.or_false, Bool.or_true, wrapU, Int.reduceAdd, Int.reduceSub, Int.reduceMul, List.append_assoc, List.length_append, get_mid, get_mid0, set_mid, set_mid0, List.length_set, List.length_cons, List.length_nil, List.cons_append, List.getElem?_append_left, List.set_append_left, get_at, get_at0, set_at, set_at0, List.getElem?_set_self, List.getElem?_set_ne, ev_len, hlenl]
      exact ⟨d, s', _, _, _, _, _, _, _, _, _, _, _, _, _, _, _, _, rfl, hS2, hE⟩
    · simp (disch := first | assumption | omega | (simp only [List.length_cons, List.length_nil, List.length_set, List.length_append] <;> omega) | (simp only [get_mid, get_mid0, List.cons_append, List.append_assoc, List.getElem?_cons_zero, List.getElem?_cons_succ])) only [ek, ↓evW, ↓evQ, evB, evS, evL, List.map, AV.cells, List.all, AV.one, Bool.and_true, Bool.true_and, if_true, ↓thenQ_normal, ↓thenQ_exit, ↓thenQ_ret, ↓blockQ_normal, ↓blockQ_ret, ↓blockQ_exit, ↓CW_true, ↓CW_false, CW_true, CW_false, condT, condF, RQ_some, tupA_one, tupA_two, tupA_nil, Nat.reduceSub, Nat.reduceAdd, Nat.reduceMul, Nat.zero_add, Nat.add_zero, Nat.reduceLeDiff, Nat.reduceEqDiff, eqV, eqAll, fillA, and_self, and_true, true_and, Nat.le_refl, Bool.not_true, Bool.not_false, Bool.false_xor, Bool.true_xor, cond_true, cond_false, List.replicate, if_false, reduceIte, resAll, resA, ne_eq, decide_not, decide_true, decide_false, Int.reduceEq, Bool.not_true, Bool.not_false, not_true_eq_false, not_false_eq_true, cond_bool, cond_int, beq_self_eq_true, Int.reduceBEq, Bool.and_self, Bool.and_false, Bool.false_and, Bool.xor_false, Bool.xor_true, loadN_ldC, ldC_none, ldC_somes, stC_aggs, splice, storeN_stC, stC_int, stC_bool, stC_ptr, stC_nilp, stC_sl, stC_nils, getC_gcO, gcO_cells, W_draw_eq, ↓W_scope, ev_clear, evT, evF, evX, evM, ↓exitQ_normal, ↓exitQ_ret, ↓exitQ_exit, saA_self, saO_self, if_pos, if_neg, wrapI, get_concat, set_concat, Int.toNat_natCast, Int.toNat_zero, List.nil_append, Nat.mul_one, decide_eq_true, decide_eq_false, Int.reduceLE, Int.reduceLT, Int.reduceNeg, Bool.false_or, Bool.true_or, Bool.or_false, Bool.or_true, wrapU, Int.reduceAdd, Int.reduceSub, Int.reduceMul, List.append_assoc, List.length_append, get_mid, get_mid0, set_mid, set_mid0, List.length_set, List.length_cons, List.length_nil, List.cons_append, List.getElem?_append_left, List.set_append_left, get_at, get_at0, set_at, set_at0, List.getElem?_set_self, List.getElem?_set_ne, ev_len, hlenl]
      exact ⟨d, s', _, _, _, _, _, _, _, _, _, _, _, _, _, _, _, _, rfl, hS2, hE⟩
end Go.Am.F09
end
