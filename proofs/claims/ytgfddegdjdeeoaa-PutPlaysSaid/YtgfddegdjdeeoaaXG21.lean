import Derived.Test.YtgfddegdjdeeoaaXG20
set_option linter.unusedSimpArgs false
set_option linter.unusedVariables false
section
namespace Go.Am.F09
open Go.Am.F06 Go.Am.F10
theorem POk.step {c : Cf} {p g : Int} {s : PS} {xs : List Int} (h : POk c p s) (hx : s.a = 0 ∨ OkL c xs) : POk c p (stepP c p g xs s).1 := by
  rcases hx with h0 | hx
  · rw [stepP_zero h0]; exact h
  obtain ⟨h1, h2, h3⟩ := h
  have hg := getD_64 hx.2 (wrdN c p)
  obtain ⟨a, w, tk, hs⟩ := s
  simp only at h1 h2 h3
  rcases h2 with h2 | ⟨hp, h2⟩
  · subst h2; rw [stepP_zero rfl]; exact ⟨h1, .inl rfl, h3⟩
  have hb := there_bounds hp
  rcases h2 with rfl | rfl | rfl | ⟨rfl, h2⟩ | ⟨rfl, h2⟩
  · refine ⟨hg, .inr ⟨hp, ?_⟩, h3⟩
    simp only [stepP, if_true]
    by_cases hq : c.q ≤ sz (xs.getD (wrdN c p) 0)
    · simp only [if_pos hq, List.length_nil]; exact .inr (.inr (.inr (.inl ⟨trivial, by omega⟩)))
    · simp only [if_neg hq]; exact .inr (.inl trivial)
  · exact ⟨h1, .inr ⟨hp, by simp [stepP]⟩, h3⟩
  · by_cases heq : xs.getD (wrdN c p) 0 = w
    · have : stepP c p g xs ⟨3, w, tk, hs⟩ = (⟨0, w, tk, []⟩, xs.set (wrdN c p) (growW w 1)) := if_pos heq
      rw [this]; exact ⟨h1, .inl rfl, by simp⟩
    · have : stepP c p g xs ⟨3, w, tk, hs⟩ = (⟨1, w, tk, hs⟩, xs) := if_neg heq
      rw [this]; exact ⟨h1, .inr ⟨hp, .inl rfl⟩, h3⟩
  · refine ⟨h1, .inr ⟨hp, ?_⟩, h3⟩
    simp only [stepP, List.length_append, List.length_cons, List.length_nil]
    by_cases hq : (tk.length : Int) + 1 = c.q / 2
    · simp [hq]
    · simp [hq]; omega
  · by_cases heq : xs.getD (wrdN c p) 0 = w
    · have : stepP c p g xs ⟨5, w, tk, hs⟩ = (⟨0, w, tk, tk ++ [g]⟩, xs.set (wrdN c p) (dropW w (c.q / 2))) := if_pos heq
      rw [this]; exact ⟨h1, .inl rfl, by simp <;> omega⟩
    · have : stepP c p g xs ⟨5, w, tk, hs⟩ = (⟨1, w, tk, hs⟩, xs) := if_neg heq
      rw [this]; exact ⟨h1, .inr ⟨hp, .inl rfl⟩, h3⟩
theorem stepP_ok {c d : Cf} {p g : Int} {s : PS} {xs : List Int} (hx : OkL d xs) (hw : s.a = 0 ∨ W64 s.w) : OkL d (stepP c p g xs s).2 := by
  rcases hw with h0 | hw
  · rw [stepP_zero h0]; exact hx
  unfold stepP
  split
  · exact hx
  · split
    · exact hx.set _ (wrap64_b _)
    · split
      · split
        · exact hx.set _ (grow_64 hw _)
        · exact hx
      · split
        · exact hx
        · split
          · split
            · exact hx.set _ (drop_64 hw _)
            · exact hx
          · exact hx
theorem ringL_eq {c : Cf} {p v : Int} {xs L : List Int} (hp : thereP c p) (hw : xs.getD (wrdN c p) 0 = v) (hl : sz v ≤ c.q) (hn : (L.length : Int) = sz v) (hv : ∀ i, i < L.length → ringAt c p xs v i = L.getD i 0) : ringL c p xs = L := by
  rw [ringL_there hp, hw]
  have hN : ringN c v = L.length := by unfold ringN; rw [if_pos hl]; omega
  rw [hN]
  refine List.ext_getElem? fun i => ?_
  by_cases hi : i < L.length
  · rw [ringW_get _ _ _ _ hi, hv i hi, List.getD_eq_getElem?_getD, List.getElem?_eq_getElem hi]; rfl
  · rw [List.getElem?_eq_none (by rw [ringW_len]; omega), List.getElem?_eq_none (by omega)]
theorem slot_ne {c : Cf} {p x y : Int} (h : thereP c p) (hx : 0 ≤ x) (hy : 0 ≤ y) (hne : x % c.q ≠ y % c.q) : (slotA c p x).toNat ≠ (slotA c p y).toNat := by
  have hb := there_bounds h
  have h0 := Int.emod_nonneg x (b := c.q) (by omega)
  have h1 := Int.emod_nonneg y (b := c.q) (by omega)
  have hm := mul_bounds hb.2.2.2.2.1 hb.2.2.2.2.2 (q := 6 + c.q) (by omega) (by omega)
  unfold slotA; rw [if_pos h.1, if_pos h.1]; unfold addrA; rw [if_pos h, if_pos h]
  omega
theorem slot_word {c : Cf} {p x : Int} (h : thereP c p) : (slotA c p x).toNat ≠ wrdN c p := by
  have hb := there_bounds h
  have h0 := Int.emod_nonneg x (b := c.q) (by omega)
  have h1 := Int.emod_lt_of_pos x (b := c.q) (by omega)
  unfold slotA; rw [if_pos h.1]
  exact addr_ne h h (by omega) (by omega)
theorem room_mod {q a k n : Int} (hq : roomP q) (h0 : 0 < n - k) (h1 : n - k < q) : (a + k) % 4294967296 % q ≠ (a + n) % 4294967296 % q := by
  rcases hq with rfl | rfl | rfl | rfl | rfl | rfl <;> omega
theorem getD_set_ne {xs : List Int} {a b : Nat} {v : Int} (h : a ≠ b) : (xs.set a v).getD b 0 = xs.getD b 0 := by
  rw [List.getD_eq_getElem?_getD, List.getElem?_set_ne h, ← List.getD_eq_getElem?_getD]
theorem getD_set_self {xs : List Int} {a : Nat} {v : Int} (h : a < xs.length) : (xs.set a v).getD a 0 = v := by
  rw [List.getD_eq_getElem?_getD, List.getElem?_set_self h]; rfl
def slV (c : Cf) (p w0 : Int) (xs : List Int) (k : Nat) : Int := IntKind.i64.wrap (xs.getD (slotA c p ((hd w0 + k) % 4294967296)).toNat 0)
structure KV (c : Cf) (p w0 : Int) (A : List Int) (i d : Nat) (s : PS) (xs : List Int) : Prop where
  ok : OkL c xs
  w : xs.getD (wrdN c p) 0 = dW w0 d
  dl : d ≤ A.length
  sl : ∀ k, d ≤ k → k < A.length → slV c p w0 xs k = A.getD k 0
  hs : s.hs = [999]
  st : (s.a = 1 ∧ i ≤ 6 * d) ∨ ((s.a = 2 ∨ s.a = 3) ∧ ∃ e, e ≤ d ∧ s.w = dW w0 e ∧ (A.length : Int) - e < c.q ∧ (i : Int) ≤ 6 * e + (s.a - 1) ∧ (s.a = 3 → slV c p w0 xs A.length = 999)) ∨
    ((s.a = 4 ∨ s.a = 5) ∧ s.w = dW w0 0 ∧ (A.length : Int) = c.q ∧ (∀ k, k < A.length → slV c p w0 xs k = A.getD k 0) ∧ s.tk = (A.drop (A.length - (c.q / 2).toNat)).take s.tk.length ∧ (s.a = 4 → (s.tk.length : Int) < c.q / 2) ∧ (s.a = 5 → (s.tk.length : Int) = c.q / 2) ∧ i ≤ 1 + s.tk.length)
theorem KV.lt {c : Cf} {p w0 : Int} {A : List Int} {i d : Nat} {s : PS} {xs : List Int} (h : KV c p w0 A i d s xs) (hl : A.length ≤ 8) (hq : c.q ≤ 8) : i < 60 := by
  obtain ⟨_, _, hd, _, _, h⟩ := h
  rcases h with ⟨_, h⟩ | ⟨ha, e, he, _, _, h, _⟩ | ⟨ha, _, _, _, _, h4, h5, h⟩
  · omega
  · omega
  · rcases ha with ha | ha
    · have := h4 ha; omega
    · have := h5 ha; omega
theorem tl_at {w0 : Int} {A : List Int} (hA : (A.length : Int) = sz w0) (j : Int) : (tl w0 + j) % 4294967296 = (hd w0 + (A.length + j)) % 4294967296 := by
  have := tl_b w0
  unfold sz at hA; omega
theorem KV.step {c : Cf} {p w0 : Int} {A : List Int} {i d : Nat} {s : PS} {xs : List Int} (h : KV c p w0 A i d s xs) (hp : thereP c p) (hA : (A.length : Int) = sz w0) (hq : sz w0 ≤ c.q) (hq8 : c.q ≤ 8) (hw0 : W64 w0) (ha : s.a ≠ 0) :
    ((stepP c p 999 xs s).1.a ≠ 0 ∧ KV c p w0 A (i + 1) d (stepP c p 999 xs s).1 (stepP c p 999 xs s).2) ∨
    ((stepP c p 999 xs s).1.a = 0 ∧ (stepP c p 999 xs s).1.hs = [] ∧ OkL c (stepP c p 999 xs s).2 ∧ ringL c p (stepP c p 999 xs s).2 = A.drop d ++ [999] ∧ (A.length : Int) - d < c.q ∧ d ≤ A.length) ∨
    ((stepP c p 999 xs s).1.a = 0 ∧ d = 0 ∧ (A.length : Int) = c.q ∧ (stepP c p 999 xs s).1.hs = A.drop (A.length - (c.q / 2).toNat) ++ [999] ∧ OkL c (stepP c p 999 xs s).2 ∧ ringL c p (stepP c p 999 xs s).2 = A.take (A.length - (c.q / 2).toNat)) := by
  have hb := there_bounds hp
  have hroom : roomP c.q := hp.1.2.1
  have heven : c.q / 2 + c.q / 2 = c.q := by rcases hroom with h | h | h | h | h | h <;> rw [h] <;> rfl
  have htb := tl_b w0
  have hhb := hd_b hw0
  obtain ⟨h1, h2, h3, h4, h5, h6⟩ := h
  have hxl := h1.1
  have hwb := addr_b hp (i := 0) (by omega) (by omega)
  have hwl : wrdN c p < xs.length := by unfold wrdN; omega
  obtain ⟨a, w, tk, hs⟩ := s
  simp only at ha h5 h6
  rcases h6 with ⟨rfl, h7⟩ | ⟨h7 | h7, e, h8, h9, h10, h11, h12⟩ | ⟨h7 | h7, h8, h9, h10, h11, h12, h13, h14⟩
  · have hs1 : stepP c p 999 xs ⟨1, w, tk, hs⟩ = (⟨if c.q ≤ sz (dW w0 d) then 4 else 2, dW w0 d, [], hs⟩, xs) := by simp only [stepP, if_true, h2]
    have hz := dW_sz (w := w0) (i := d) (by omega)
    rw [hs1, hz]
    by_cases hfull : c.q ≤ sz w0 - d
    · have hd0 : d = 0 := by omega
      rw [if_pos hfull]
      refine .inl ⟨by simp, h1, h2, h3, h4, h5, .inr (.inr ⟨.inl rfl, by rw [hd0], by omega, fun k hk => h4 k (by omega) hk, by simp, fun _ => by simp only [List.length_nil]; omega, fun hh => by simp at hh, by simp; omega⟩)⟩
    · rw [if_neg hfull]
      exact .inl ⟨by simp, h1, h2, h3, h4, h5, .inr (.inl ⟨.inl rfl, d, Nat.le_refl _, rfl, by omega, by simp only; omega, fun hh => by simp at hh⟩)⟩
  · subst h7
    have hsl : pslA c p w 0 = slotA c p ((hd w0 + A.length) % 4294967296) := by
      unfold pslA; rw [h9, tl_dW, tl_at hA, Int.add_zero]
    have hs1 : stepP c p 999 xs ⟨2, w, tk, hs⟩ = (⟨3, w, tk, hs⟩, xs.set (slotA c p ((hd w0 + A.length) % 4294967296)).toNat 999) := by
      have : IntKind.u64.wrap 999 = 999 := by decide
      simp only [stepP, if_neg (show ¬ ((2 : Int) = 1) by decide), if_true, hsl, this]
    rw [hs1]
    have hsb := slot_b (i := (hd w0 + A.length) % 4294967296) hp (by omega)
    refine .inl ⟨by simp, h1.set _ (by unfold W64; omega), ?_, h3, fun k k1 k2 => ?_, h5, .inr (.inl ⟨.inr rfl, e, h8, h9, h10, by simp only; omega, fun _ => ?_⟩)⟩
    · rw [getD_set_ne (slot_word hp)]; exact h2
    · unfold slV
      rw [getD_set_ne (slot_ne hp (by omega) (by omega) (fun hh => room_mod (a := hd w0) (k := k) (n := A.length) hroom (by omega) (by omega) hh.symm))]
      exact h4 k k1 k2
    · unfold slV
      rw [getD_set_self (by omega)]; decide
  · subst h7
    by_cases heq : d = e
    · have hw : xs.getD (wrdN c p) 0 = w := by rw [h2, h9, heq]
      have hs1 : stepP c p 999 xs ⟨3, w, tk, hs⟩ = (⟨0, w, tk, []⟩, xs.set (wrdN c p) (growW w 1)) := if_pos hw
      rw [hs1]
      have hg : growW w 1 = pk ((hd w0 + e) % 4294967296) ((tl w0 + 1) % 4294967296) := by unfold growW; rw [h9, hd_dW, tl_dW]
      refine .inr (.inl ⟨rfl, rfl, h1.set _ (grow_64 (by rw [h9]; exact dW_64 _ _) _), ?_, by omega, h3⟩)
      have hsz : sz (growW w 1) = A.length - e + 1 := by
        rw [hg]; unfold sz; rw [hd_pk (by omega) (by omega), tl_pk (by omega) (by omega)]
        unfold sz at hA; omega
      refine ringL_eq hp (getD_set_self hwl) (by rw [hsz]; omega) (by rw [hsz, List.length_append, List.length_drop, List.length_singleton]; omega) fun k hk => ?_
      rw [List.length_append, List.length_drop, List.length_singleton] at hk
      have hpos : (hd (growW w 1) + (k : Int)) % 4294967296 = (hd w0 + ((d + k : Nat) : Int)) % 4294967296 := by
        rw [hg, hd_pk (by omega) (by omega)]; omega
      rw [ringAt, hpos, getD_set_ne (slot_word hp).symm]
      by_cases hk2 : d + k < A.length
      · have := h4 (d + k) (by omega) hk2
        unfold slV at this
        rw [this, List.getD_eq_getElem?_getD, List.getD_eq_getElem?_getD, List.getElem?_append_left (by rw [List.length_drop]; omega), List.getElem?_drop]
      · have hk3 : d + k = A.length := by omega
        have := h12 rfl
        unfold slV at this
        rw [hk3, this, List.getD_eq_getElem?_getD, List.getElem?_append_right (by rw [List.length_drop]; omega), List.length_drop, show k - (A.length - d) = 0 by omega]; rfl
    · have hw : ¬ xs.getD (wrdN c p) 0 = w := fun hh => heq (dW_inj (w := w0) (by omega) (by omega) (by rw [← h2, hh, h9]))
      have hs1 : stepP c p 999 xs ⟨3, w, tk, hs⟩ = (⟨1, w, tk, hs⟩, xs) := if_neg hw
      rw [hs1]
      exact .inl ⟨by simp, h1, h2, h3, h4, h5, .inl ⟨rfl, by omega⟩⟩
  · subst h7
    have hlt := h12 rfl
    have hsl : pslA c p w (tk.length - c.q / 2) = slotA c p ((hd w0 + ((A.length - (c.q / 2).toNat + tk.length : Nat) : Int)) % 4294967296) := by
      unfold pslA; rw [h8, tl_dW, tl_at hA]; congr 2; omega
    have hv := h10 (A.length - (c.q / 2).toNat + tk.length) (by omega)
    unfold slV at hv
    have hs1 : stepP c p 999 xs ⟨4, w, tk, hs⟩ = (⟨if (tk.length : Int) + 1 = c.q / 2 then 5 else 4, w, tk ++ [A.getD (A.length - (c.q / 2).toNat + tk.length) 0], hs⟩, xs) := by
      simp only [stepP, if_neg (show ¬ ((4 : Int) = 1) by decide), if_neg (show ¬ ((4 : Int) = 2) by decide), if_neg (show ¬ ((4 : Int) = 3) by decide), if_true, hsl, hv]
    rw [hs1]
    have htk : tk ++ [A.getD (A.length - (c.q / 2).toNat + tk.length) 0] = (A.drop (A.length - (c.q / 2).toNat)).take (tk.length + 1) := by
      have hg : (A.drop (A.length - (c.q / 2).toNat))[tk.length]? = some (A.getD (A.length - (c.q / 2).toNat + tk.length) 0) := by
        rw [List.getElem?_drop, List.getD_eq_getElem?_getD, List.getElem?_eq_getElem (by omega)]; rfl
      rw [List.take_add_one, hg, ← h11]; rfl
    refine .inl ⟨by simp only; split <;> omega, h1, h2, h3, h4, h5, .inr (.inr ⟨?_, h8, h9, h10, ?_, fun hh => ?_, fun hh => ?_, ?_⟩)⟩
    · simp only; split <;> simp
    · simp only [List.length_append, List.length_singleton]; exact htk
    · simp only [List.length_append, List.length_singleton] at hh ⊢
      by_cases hq2 : (tk.length : Int) + 1 = c.q / 2
      · rw [if_pos hq2] at hh; simp at hh
      · omega
    · simp only [List.length_append, List.length_singleton] at hh ⊢
      by_cases hq2 : (tk.length : Int) + 1 = c.q / 2
      · omega
      · rw [if_neg hq2] at hh; simp at hh
    · simp only [List.length_append, List.length_singleton]; omega
  · subst h7
    have hlt := h13 rfl
    by_cases heq : d = 0
    · have hw : xs.getD (wrdN c p) 0 = w := by rw [h2, h8, heq]
      have hs1 : stepP c p 999 xs ⟨5, w, tk, hs⟩ = (⟨0, w, tk, tk ++ [999]⟩, xs.set (wrdN c p) (dropW w (c.q / 2))) := if_pos hw
      rw [hs1]
      have hg : dropW w (c.q / 2) = pk ((hd w0 + (0 : Nat)) % 4294967296) ((tl w0 - c.q / 2) % 4294967296) := by unfold dropW; rw [h8, hd_dW, tl_dW]
      have hsz : sz (dropW w (c.q / 2)) = A.length - c.q / 2 := by
        rw [hg]; unfold sz; rw [hd_pk (by omega) (by omega), tl_pk (by omega) (by omega)]
        unfold sz at hA; omega
      refine .inr (.inr ⟨rfl, heq, h9, ?_, h1.set _ (drop_64 (by rw [h8]; exact dW_64 _ _) _), ?_⟩)
      · have : (A.drop (A.length - (c.q / 2).toNat)).take tk.length = A.drop (A.length - (c.q / 2).toNat) := List.take_of_length_le (by rw [List.length_drop]; omega)
        rw [this] at h11
        simp only; rw [← h11]
      · refine ringL_eq hp (getD_set_self hwl) (by rw [hsz]; omega) (by rw [hsz, List.length_take]; omega) fun k hk => ?_
        rw [List.length_take] at hk
        have hpos : (hd (dropW w (c.q / 2)) + (k : Int)) % 4294967296 = (hd w0 + (k : Int)) % 4294967296 := by
          rw [hg, hd_pk (by omega) (by omega)]; omega
        rw [ringAt, hpos, getD_set_ne (slot_word hp).symm]
        have := h10 k (by omega)
        unfold slV at this
        rw [this, List.getD_eq_getElem?_getD, List.getD_eq_getElem?_getD, List.getElem?_take, if_pos (by omega)]
    · have hw : ¬ xs.getD (wrdN c p) 0 = w := fun hh => heq (dW_inj (w := w0) (by omega) (by omega) (by rw [← h2, hh, h8]))
      have hs1 : stepP c p 999 xs ⟨5, w, tk, hs⟩ = (⟨1, w, tk, hs⟩, xs) := if_neg hw
      rw [hs1]
      exact .inl ⟨by simp, h1, h2, h3, h4, h5, .inl ⟨rfl, by omega⟩⟩
end Go.Am.F09
end
section
namespace Go.Am.F09
open Go.Am.F06 Go.Am.F10
theorem _root_.Go.Am.F10.Rw.si {m : MM} {q : Nat} {xs : List Int} {v : AV} (h : Rw m q xs.length 1 (iC xs) v) : SI m false xs v := h.sl (by rw [iC_len]; omega)
theorem _root_.Go.Am.F10.Rw.box {m : MM} {q n sz : Nat} {l : List AV} {v : AV} (h : Rw m q n sz l v) (h0 : 0 < n) : m[q]? = some (.cells sz false l) := by
  rcases h with ⟨h1, _⟩ | ⟨_, _, h⟩
  · omega
  · exact h
theorem SI.stayb {m m' : MM} {wr : Bool} {xs : List Int} {v : AV} (h : SI m wr xs v) {b : Nat} (hk : ∀ i, i < m.length → i ≠ b → m'[i]? = m[i]?) (ho : Off b v) : SI m' wr xs v := Sl.stay h fun q o cap hv h0 => hk q (Sl.lt h hv h0).1 (ho q o _ cap hv h0)
theorem PM.stay {m m' : MM} {xj : Nat} {c : Cf} {p g : Int} {s : PS} {qt : Nat} {tv hv : AV} (h : PM m xj c p g s qt tv hv) {b : Nat} (hk : ∀ i, i < m.length → i ≠ b → m'[i]? = m[i]?) (h1 : xj ≠ b) (h2 : qt ≠ b) (h3 : Off b hv) : PM m' xj c p g s qt tv hv :=
  ⟨by rw [hk _ (List.getElem?_eq_some_iff.1 h.get).1 h1]; exact h.get, fun ha => (h.t ha).keep fun h0 => hk qt ((h.t ha).lt h0) h2, h.one, SI.stayb h.h hk h3, h.off⟩
structure KpS (M0 : MM) (c : Cf) (p : Int) (j xj : Nat) (A : List Int) (d : Nat) (s : PS) (gone : AV) (qg qt : Nat) (tv hv : AV) (xs : List Int) (m : MM) : Prop where
  keep : KeepX xj j M0 m
  pm : PM m xj c p 999 s qt tv hv
  mem : ∃ st o, m[j]? = some (.abs (.mem st)) ∧ RelM xs o st
  rg : Rw m qg (A.take d).length 1 (iC (A.take d)) gone
  nq : 0 < (A.take d).length → qg ≠ qt
  bq : 0 < (A.take d).length → M0.length ≤ qg
  bt : qt = xj ∨ (M0.length ≤ qt ∧ qt < m.length)
  oh : 0 < (A.take d).length → Off qg hv
  ok : POk c p s
theorem KpS.step {M0 m m' : MM} {c : Cf} {p : Int} {j xj : Nat} {A : List Int} {d : Nat} {s : PS} {gone : AV} {qg qt : Nat} {tv hv : AV} {xs : List Int} (h : KpS M0 c p j xj A d s gone qg qt tv hv xs m) {x : PS × List Int} {o : Int} {r : AV} (hok : POk c p x.1) (hP : PsP m c p 999 xj j qt hv x o r m') :
    r = .bool (decide (x.1.a = 0)) ∧ ∃ qt' tv' hv', KpS M0 c p j xj A d x.1 gone qg qt' tv' hv' x.2 m' := by
  obtain ⟨rfl, k1, tv', hv', qt', hpm, hq, hh, st', j', r'⟩ := hP
  obtain ⟨hk, pm, ⟨st, o1, hj, _⟩, rg, nq, bq, bt, oh, _⟩ := h
  have hM := hk.1
  have hqx : 0 < (A.take d).length → qg ≠ xj := fun h0 hq => by have := rg.box h0; rw [hq, pm.get] at this; cases this
  have hqj : 0 < (A.take d).length → qg ≠ j := fun h0 hq => by have := rg.box h0; rw [hq, hj] at this; cases this
  have lx : xj < m.length := (List.getElem?_eq_some_iff.1 pm.get).1
  have lx' : xj < m'.length := (List.getElem?_eq_some_iff.1 hpm.get).1
  have hl1 := k1.1
  refine ⟨rfl, qt', tv', hv', ⟨Nat.le_trans hM hl1, fun i hi h1 h2 => ?_⟩, hpm, ⟨st', o, j', r'⟩, rg.keep fun h0 => ?_, fun h0 => ?_, bq, ?_, fun h0 => ?_, hok⟩
  · have hne : i ≠ qt := by rcases bt with h | h <;> omega
    rw [k1.2 i (by omega) h1 h2 hne, hk.2 i hi h1 h2]
  · exact k1.2 qg (rg.lt h0) (hqx h0) (hqj h0) (nq h0)
  · have := rg.lt h0
    have := hqx h0
    have := nq h0
    rcases hq with h | h | h <;> omega
  · rcases hq with h | h | h
    · exact .inl h
    · exact .inr ⟨by omega, h.2⟩
    · rcases bt with h' | h'
      · exact .inl (by omega)
      · exact .inr ⟨by omega, by omega⟩
  · have := rg.lt h0
    rcases hh with h | h | ⟨q, oo, n, cp, h, h'⟩
    · rw [h]; exact oh h0
    · rw [h]; intro q o n cc hq; cases hq
    · rw [h]; intro q2 o2 n2 cc hq2 _
      injection hq2 with hq2; omega
theorem PM.keep {m m' : MM} {xj : Nat} {c : Cf} {p g : Int} {s : PS} {qt : Nat} {tv hv : AV} (h : PM m xj c p g s qt tv hv) (k : Keep m m') : PM m' xj c p g s qt tv hv :=
  ⟨k.get h.get, fun ha => (h.t ha).keep fun h0 => k.2 qt ((h.t ha).lt h0), h.one, h.h.keep k, h.off⟩
theorem KpS.more {M0 m m' : MM} {c : Cf} {p : Int} {j xj : Nat} {A : List Int} {d : Nat} {s : PS} {gone : AV} {qg qt : Nat} {tv hv : AV} {xs : List Int} (h : KpS M0 c p j xj A d s gone qg qt tv hv xs m) (k : Keep m m') : KpS M0 c p j xj A d s gone qg qt tv hv xs m' := by
  obtain ⟨hk0, pm, ⟨st, o1, hj, hr⟩, rg, nq, bq, bt, oh, hok⟩ := h
  refine ⟨hk0.trans (.of k), PM.keep pm k, ⟨st, o1, k.get hj, hr⟩, rg.keep fun h0 => k.2 qg (rg.lt h0), nq, bq, ?_, oh, hok⟩
  rcases bt with h | h
  · exact .inl h
  · exact .inr ⟨h.1, Nat.lt_of_lt_of_le h.2 k.1⟩
end Go.Am.F09
end
section
namespace Go.Am.F09
open Go.Am.F06 Go.Am.F10
def rpC (c : Cf) (p g : Int) (s : PS) (tv hv : AV) : List AV := cfC c ++ [.int .i64 p, .int .i64 g, .int .i64 s.a, .int .u64 s.w, tv, hv]
def RpP (m : MM) (c : Cf) (p g : Int) (tv hv : AV) (x : PS × List Int) (o : Int) (r : AV) (m' : MM) : Prop := Keep m m' ∧ ∃ tv' hv' v', r = .tup [.agg (rpC c p g x.1 tv' hv'), .agg (memC v' o)] ∧ SI m' false x.1.tk tv' ∧ SI m' false x.1.hs hv' ∧ SU m' false x.2 v' ∧ (tv' = tv ∨ Fr m.length tv') ∧ (hv' = hv ∨ Fr m.length hv')
def Grp : List (Nat × AFun Ob) := [(170, F10.c_ref09_Head), (171, F10.c_ref09_Tail), (172, F10.c_ref09_Word), (64, F06.c_ref06_Load), (173, F10.c_ref09_Size), (174, F10.c_ref09_Slot), (65, F06.c_ref06_Store), (175, F10.c_ref09_Pack), (66, F06.c_ref06_CAS)]
theorem _root_.Go.Am.Sl.setb {m : MM} {wr : Bool} {sz n : Nat} {l : List AV} {v : AV} (h : Sl m wr sz n l v) {b : Nat} {C : Chunk Ob} (hb : ∀ ro L, m[b]? ≠ some (.cells sz ro L)) : Sl (m.set b C) wr sz n l v := h.put hb C
set_option maxHeartbeats 16000000 in
theorem rpstep1 {m : MM} {wr : Bool} {c : Cf} {p g o : Int} {s : PS} {xs : List Int} {v tv hv : AV} (hs : SU m wr xs v) (ht : SI m false s.tk tv) (hh : SI m false s.hs hv) (hok : POk c p s) (hx : OkL c xs) (ha : s.a = 1) :
    Fn Grp ref09_Step [.agg (rpC c p g s tv hv), .agg (memC v o)] m (RpP m c p g tv hv (stepP c p g xs s) (IntKind.u64.wrap (o + 1))) := by
  have a171 : assoc Grp 171 = some F10.c_ref09_Tail := rfl
  have a172 : assoc Grp 172 = some F10.c_ref09_Word := rfl
  have a64 : assoc Grp 64 = some F06.c_ref06_Load := rfl
  have a173 : assoc Grp 173 = some F10.c_ref09_Size := rfl
  generalize Grp = G at a171 a172 a64 a173 ⊢
  have hone := slOne hs
  have hone2 := slOne ht
  have hone3 := slOne hh
  simp only [AV.one] at hone hone2 hone3
  obtain ⟨a, w, tk, hl⟩ := s
  simp only at ha
  subst ha
  have hp : thereP c p := hok.a.elim (fun h => by simp at h) (·.1)
  have hw := hok.w
  simp only at hw ht hh
  have hb := there_bounds hp
  have hcn := cellsN_le c
  have hxl := hx.1
  have ha0 := addr_b hp (i := 0) (by omega) (by omega)
  have htl := fun m : MM => rtail_eq m hw
  have hrw := fun m : MM => rword_eq m hp
  simp only [word_at hp, cfC] at hrw
  have hwn : ((wrdN c p : Nat) : Int) = addrA c p 0 := by unfold wrdN; omega
  have hrl := fun K : MM => rload_eq (hs.keep (Keep.app m K)) o (a := wrdN c p) (by omega)
  rw [hwn] at hrl
  have hg := getD_64 hx.2 (wrdN c p)
  have hs1 : stepP c p g xs ⟨1, w, tk, hl⟩ = (⟨if c.q ≤ sz (xs.getD (wrdN c p) 0) then 4 else 2, xs.getD (wrdN c p) 0, [], hl⟩, xs) := by simp only [stepP, if_true]
  rw [hs1]
  generalize xs.getD (wrdN c p) 0 = w' at hg hrl
  simp only [memC, List.append_assoc, List.cons_append, List.nil_append] at hrl
  have hz := fun m : MM => rsize_eq m hg
  have e0 : IntKind.u32.wrap c.q = c.q := by rw [wrap32]; omega
  refine Fn_of rfl ?_
  by_cases hq : c.q ≤ sz w'
  · rw [if_pos hq]
    simp (disch := first | assumption | omega | (simp only [List.length_cons, List.length_nil, List.length_set, List.length_append] <;> omega) | (simp only [get_mid, get_mid0, List.cons_append, List.append_assoc, List.getElem?_cons_zero, List.getElem?_cons_succ])) only [ref09_Step, ek, ↓evW, ↓evQ, evB, evS, evL, List.map, AV.cells, List.all, AV.one, Bool.and_true, Bool.true_and, if_true, ↓thenQ_normal, ↓thenQ_exit, ↓thenQ_ret, ↓blockQ_normal, ↓blockQ_ret, ↓blockQ_exit, ↓CW_true, ↓CW_false, CW_true, CW_false, condT, condF, RQ_some, tupA_one, tupA_two, tupA_nil, Nat.reduceSub, Nat.reduceAdd, Nat.reduceMul, Nat.zero_add, Nat.add_zero, Nat.reduceLeDiff, Nat.reduceEqDiff, eqV, eqAll, fillA, and_self, and_true, true_and, Nat.le_refl, Bool.not_true, Bool.not_false, Bool.false_xor, Bool.true_xor, cond_true, cond_false, List.replicate, if_false, reduceIte, resAll, resA, ne_eq, decide_not, decide_true, decide_false, Int.reduceEq, Bool.not_true, Bool.not_false, not_true_eq_false, not_false_eq_true, cond_bool, cond_int, beq_self_eq_true, Int.reduceBEq, Bool.and_self, Bool.and_false, Bool.false_and, Bool.xor_false, Bool.xor_true, loadN_ldC, ldC_none, ldC_somes, stC_aggs, splice, storeN_stC, stC_int, stC_bool, stC_ptr, stC_nilp, stC_sl, stC_nils, getC_gcO, gcO_cells, W_draw_eq, ↓W_scope, ev_clear, evT, evF, evX, evM, ↓exitQ_normal, ↓exitQ_ret, ↓exitQ_exit, saA_self, saO_self, if_pos, if_neg, wrapI, get_concat, set_concat, Int.toNat_natCast, Int.toNat_zero, List.nil_append, Nat.mul_one, decide_eq_true, decide_eq_false, Int.reduceLE, Int.reduceLT, Int.reduceNeg, Bool.false_or, Bool.true_or, Bool.or_false, Bool.or_true, wrapU, Int.reduceAdd, Int.reduceSub, Int.reduceMul, List.append_assoc, List.length_append, get_mid, get_mid0, set_mid, set_mid0, List.length_set, List.length_cons, List.length_nil, List.cons_append, List.getElem?_append_left, List.set_append_left, get_at, get_at0, set_at, set_at0, List.getElem?_set_self, List.getElem?_set_ne, rpC, cfC, memC, hone, hone2, hone3, a171, htl, a172, hrw, a64, hrl, a173, hz, e0, hq]
    exact ⟨Keep.app _ _, .nils, hv, v, rfl, Sl.nil, hh.keep (.app _ _), (hs.keep (.app _ _)).ro, .inr (.inl rfl), .inl rfl⟩
  · rw [if_neg hq]
    simp (disch := first | assumption | omega | (simp only [List.length_cons, List.length_nil, List.length_set, List.length_append] <;> omega) | (simp only [get_mid, get_mid0, List.cons_append, List.append_assoc, List.getElem?_cons_zero, List.getElem?_cons_succ])) only [ref09_Step, ek, ↓evW, ↓evQ, evB, evS, evL, List.map, AV.cells, List.all, AV.one, Bool.and_true, Bool.true_and, if_true, ↓thenQ_normal, ↓thenQ_exit, ↓thenQ_ret, ↓blockQ_normal, ↓blockQ_ret, ↓blockQ_exit, ↓CW_true, ↓CW_false, CW_true, CW_false, condT, condF, RQ_some, tupA_one, tupA_two, tupA_nil, Nat.reduceSub, Nat.reduceAdd, Nat.reduceMul, Nat.zero_add, Nat.add_zero, Nat.reduceLeDiff, Nat.reduceEqDiff, eqV, eqAll, fillA, and_self, and_true, true_and, Nat.le_refl, Bool.not_true, Bool.not_false, Bool.false_xor, Bool.true_xor, cond_true, cond_false, List.replicate, if_false, reduceIte, resAll, resA, ne_eq, decide_not, decide_true, decide_false, Int.reduceEq, Bool.not_true, Bool.not_false, not_true_eq_false, not_false_eq_true, cond_bool, cond_int, beq_self_eq_true, Int.reduceBEq, Bool.and_self, Bool.and_false, Bool.false_and, Bool.xor_false, Bool.xor_true, loadN_ldC, ldC_none, ldC_somes, stC_aggs, splice, storeN_stC, stC_int, stC_bool, stC_ptr, stC_nilp, stC_sl, stC_nils, getC_gcO, gcO_cells, W_draw_eq, ↓W_scope, ev_clear, evT, evF, evX, evM, ↓exitQ_normal, ↓exitQ_ret, ↓exitQ_exit, saA_self, saO_self, if_pos, if_neg, wrapI, get_concat, set_concat, Int.toNat_natCast, Int.toNat_zero, List.nil_append, Nat.mul_one, decide_eq_true, decide_eq_false, Int.reduceLE, Int.reduceLT, Int.reduceNeg, Bool.false_or, Bool.true_or, Bool.or_false, Bool.or_true, wrapU, Int.reduceAdd, Int.reduceSub, Int.reduceMul, List.append_assoc, List.length_append, get_mid, get_mid0, set_mid, set_mid0, List.length_set, List.length_cons, List.length_nil, List.cons_append, List.getElem?_append_left, List.set_append_left, get_at, get_at0, set_at, set_at0, List.getElem?_set_self, List.getElem?_set_ne, rpC, cfC, memC, hone, hone2, hone3, a171, htl, a172, hrw, a64, hrl, a173, hz, e0, hq]
    exact ⟨Keep.app _ _, .nils, hv, v, rfl, Sl.nil, hh.keep (.app _ _), (hs.keep (.app _ _)).ro, .inr (.inl rfl), .inl rfl⟩
structure SLN (lo hi : Nat) (m : MM) (wr : Bool) (n : Nat) (l : List AV) (v : AV) : Prop where
  sl : Sl m wr 1 n l v
  no : ∀ b, lo ≤ b → b < hi → ∀ ro L, m[b]? ≠ some (.cells 1 ro L)
theorem SLN.set {lo hi : Nat} {m : MM} {wr : Bool} {n : Nat} {l : List AV} {v : AV} (h : SLN lo hi m wr n l v) {a : Nat} (h1 : lo ≤ a) (h2 : a < hi) {C : Chunk Ob} (hC : ∀ ro L, C ≠ .cells 1 ro L) : SLN lo hi (m.set a C) wr n l v := by
  refine ⟨Sl.put h.sl (h.no a h1 h2) C, fun b b1 b2 ro L hb => ?_⟩
  by_cases hab : a = b
  · subst hab
    by_cases hl : a < m.length
    · rw [List.getElem?_set_self hl] at hb; injection hb with hb; exact hC _ _ hb
    · rw [List.getElem?_eq_none (by rw [List.length_set]; omega)] at hb; cases hb
  · rw [List.getElem?_set_ne hab] at hb; exact h.no b b1 b2 _ _ hb
theorem SLN.app {lo hi : Nat} {m : MM} {wr : Bool} {n : Nat} {l : List AV} {v : AV} (h : SLN lo hi m wr n l v) (hh : hi ≤ m.length) (K : MM) : SLN lo hi (m ++ K) wr n l v :=
  ⟨h.sl.keep (.app _ _), fun b b1 b2 ro L hb => h.no b b1 b2 ro L (by rwa [List.getElem?_append_left (by omega)] at hb)⟩
set_option maxHeartbeats 16000000 in
theorem rpstep2 {m : MM} {wr : Bool} {c : Cf} {p g o : Int} {s : PS} {xs : List Int} {v tv hv : AV} (hs : SU m wr xs v) (ht : SI m false s.tk tv) (hh : SI m false s.hs hv) (hok : POk c p s) (hx : OkL c xs) (ha : s.a = 2) :
    Fn Grp ref09_Step [.agg (rpC c p g s tv hv), .agg (memC v o)] m (RpP m c p g tv hv (stepP c p g xs s) (IntKind.u64.wrap (o + 1))) := by
  have a171 : assoc Grp 171 = some F10.c_ref09_Tail := rfl
  have a174 : assoc Grp 174 = some F10.c_ref09_Slot := rfl
  have a65 : assoc Grp 65 = some F06.c_ref06_Store := rfl
  generalize Grp = G at a171 a174 a65 ⊢
  have hone := slOne hs
  have hone2 := slOne ht
  have hone3 := slOne hh
  simp only [AV.one] at hone hone2 hone3
  obtain ⟨a, w, tk, hl⟩ := s
  simp only at ha
  subst ha
  have hp : thereP c p := hok.a.elim (fun h => by simp at h) (·.1)
  have hw := hok.w
  simp only at hw ht hh
  have hb := there_bounds hp
  have hcn := cellsN_le c
  have hxl := hx.1
  have htb := tl_b w
  have htl := fun m : MM => rtail_eq m hw
  have hsl := fun m : MM => rslot_eq m hp htb.1 htb.2
  have hps : pslA c p w 0 = slotA c p (tl w) := by unfold pslA; congr 1; omega
  have hsb := slot_b (i := tl w) hp htb.1
  have hthr : thr xs (slotA c p (tl w)) := ⟨by omega, by omega⟩
  have hs1 : stepP c p g xs ⟨2, w, tk, hl⟩ = (⟨3, w, tk, hl⟩, xs.set (slotA c p (tl w)).toNat (IntKind.u64.wrap g)) := by rw [← hps]; rfl
  rw [hs1]
  simp only [cfC] at hsl
  refine Fn_of rfl ?_
  simp (disch := first | assumption | omega | (simp only [List.length_cons, List.length_nil, List.length_set, List.length_append] <;> omega) | (simp only [get_mid, get_mid0, List.cons_append, List.append_assoc, List.getElem?_cons_zero, List.getElem?_cons_succ])) only [ref09_Step, ek, ↓evW, ↓evQ, evB, evS, evL, List.map, AV.cells, List.all, AV.one, Bool.and_true, Bool.true_and, if_true, ↓thenQ_normal, ↓thenQ_exit, ↓thenQ_ret, ↓blockQ_normal, ↓blockQ_ret, ↓blockQ_exit, ↓CW_true, ↓CW_false, CW_true, CW_false, condT, condF, RQ_some, tupA_one, tupA_two, tupA_nil, Nat.reduceSub, Nat.reduceAdd, Nat.reduceMul, Nat.zero_add, Nat.add_zero, Nat.reduceLeDiff, Nat.reduceEqDiff, eqV, eqAll, fillA, and_self, and_true, true_and, Nat.le_refl, Bool.not_true, Bool.not_false, Bool.false_xor, Bool.true_xor, cond_true, cond_false, List.replicate, if_false, reduceIte, resAll, resA, ne_eq, decide_not, decide_true, decide_false, Int.reduceEq, Bool.not_true, Bool.not_false, not_true_eq_false, not_false_eq_true, cond_bool, cond_int, beq_self_eq_true, Int.reduceBEq, Bool.and_self, Bool.and_false, Bool.false_and, Bool.xor_false, Bool.xor_true, loadN_ldC, ldC_none, ldC_somes, stC_aggs, splice, storeN_stC, stC_int, stC_bool, stC_ptr, stC_nilp, stC_sl, stC_nils, getC_gcO, gcO_cells, W_draw_eq, ↓W_scope, ev_clear, evT, evF, evX, evM, ↓exitQ_normal, ↓exitQ_ret, ↓exitQ_exit, saA_self, saO_self, if_pos, if_neg, wrapI, get_concat, set_concat, Int.toNat_natCast, Int.toNat_zero, List.nil_append, Nat.mul_one, decide_eq_true, decide_eq_false, Int.reduceLE, Int.reduceLT, Int.reduceNeg, Bool.false_or, Bool.true_or, Bool.or_false, Bool.or_true, wrapU, Int.reduceAdd, Int.reduceSub, Int.reduceMul, List.append_assoc, List.length_append, get_mid, get_mid0, set_mid, set_mid0, List.length_set, List.length_cons, List.length_nil, List.cons_append, List.getElem?_append_left, List.set_append_left, get_at, get_at0, set_at, set_at0, List.getElem?_set_self, List.getElem?_set_ne, rpC, cfC, memC, hone, hone2, hone3, a171, htl, a174, hsl, a65, F06.c_ref06_Store]
  have hst := fun K : MM => refstore_run (hs.keep (Keep.app m K)) (by omega) o (slotA c p (tl w)) (IntKind.u64.wrap g)
  simp only [memC] at hst
  refine OKT_fn (hst _) ?_
  rintro _ m1 ⟨k1, v', rfl, s1⟩
  rw [if_pos hthr] at s1
  simp only [if_pos hthr]
  have km : Keep m m1 := (Keep.app m _).trans k1
  have g0 := k1.get (i := m.length) (by rw [get_mid0]; rfl)
  have g1 := k1.get (i := m.length + 1) (by rw [get_mid]; rfl)
  have g2 := k1.get (i := m.length + 2) (by rw [get_mid]; rfl)
  have g3 := k1.get (i := m.length + 3) (by rw [get_mid]; rfl)
  have hl1 : m.length + 3 < m1.length := (List.getElem?_eq_some_iff.1 g3).1
  have hone' := slOne s1
  simp only [AV.one] at hone'
  have hno : ∀ b, m.length ≤ b → b < m.length + 4 → ∀ ro L, m1[b]? ≠ some (.cells 1 ro L) := by
    intro b b1 b2 ro L hb
    rcases (show b = m.length ∨ b = m.length + 1 ∨ b = m.length + 2 ∨ b = m.length + 3 by omega) with rfl | rfl | rfl | rfl
    · rw [g0] at hb; cases hb
    · rw [g1] at hb; cases hb
    · rw [g2] at hb; cases hb
    · rw [g3] at hb; cases hb
  simp (disch := first | assumption | omega | (simp only [List.length_cons, List.length_nil, List.length_set, List.length_append] <;> omega) | (simp only [get_mid, get_mid0, List.cons_append, List.append_assoc, List.getElem?_cons_zero, List.getElem?_cons_succ])) only [ek, ↓evW, ↓evQ, evB, evS, evL, List.map, AV.cells, List.all, AV.one, Bool.and_true, Bool.true_and, if_true, ↓thenQ_normal, ↓thenQ_exit, ↓thenQ_ret, ↓blockQ_normal, ↓blockQ_ret, ↓blockQ_exit, ↓CW_true, ↓CW_false, CW_true, CW_false, condT, condF, RQ_some, tupA_one, tupA_two, tupA_nil, Nat.reduceSub, Nat.reduceAdd, Nat.reduceMul, Nat.zero_add, Nat.add_zero, Nat.reduceLeDiff, Nat.reduceEqDiff, eqV, eqAll, fillA, and_self, and_true, true_and, Nat.le_refl, Bool.not_true, Bool.not_false, Bool.false_xor, Bool.true_xor, cond_true, cond_false, List.replicate, if_false, reduceIte, resAll, resA, ne_eq, decide_not, decide_true, decide_false, Int.reduceEq, Bool.not_true, Bool.not_false, not_true_eq_false, not_false_eq_true, cond_bool, cond_int, beq_self_eq_true, Int.reduceBEq, Bool.and_self, Bool.and_false, Bool.false_and, Bool.xor_false, Bool.xor_true, loadN_ldC, ldC_none, ldC_somes, stC_aggs, splice, storeN_stC, stC_int, stC_bool, stC_ptr, stC_nilp, stC_sl, stC_nils, getC_gcO, gcO_cells, W_draw_eq, ↓W_scope, ev_clear, evT, evF, evX, evM, ↓exitQ_normal, ↓exitQ_ret, ↓exitQ_exit, saA_self, saO_self, if_pos, if_neg, wrapI, get_concat, set_concat, Int.toNat_natCast, Int.toNat_zero, List.nil_append, Nat.mul_one, decide_eq_true, decide_eq_false, Int.reduceLE, Int.reduceLT, Int.reduceNeg, Bool.false_or, Bool.true_or, Bool.or_false, Bool.or_true, wrapU, Int.reduceAdd, Int.reduceSub, Int.reduceMul, List.append_assoc, List.length_append, get_mid, get_mid0, set_mid, set_mid0, List.length_set, List.length_cons, List.length_nil, List.cons_append, List.getElem?_append_left, List.set_append_left, get_at, get_at0, set_at, set_at0, List.getElem?_set_self, List.getElem?_set_ne, memC, g0, g1, g2, g3, hone', hone2, hone3]
  refine ⟨?_, tv, hv, v', rfl, ?_, ?_, ?_, .inl rfl, .inl rfl⟩
  · repeat' first | exact km | refine Keep.set ?_ (by omega) _
  · refine SLN.sl (lo := m.length) (hi := m.length + 4) ?_
    repeat' first | exact ⟨ht.keep km, hno⟩ | refine SLN.set ?_ (by omega) (by omega) (by intro _ _ h; cases h)
  · refine SLN.sl (lo := m.length) (hi := m.length + 4) ?_
    repeat' first | exact ⟨hh.keep km, hno⟩ | refine SLN.set ?_ (by omega) (by omega) (by intro _ _ h; cases h)
  · refine SLN.sl (lo := m.length) (hi := m.length + 4) ?_
    repeat' first | exact ⟨s1, hno⟩ | refine SLN.set ?_ (by omega) (by omega) (by intro _ _ h; cases h)
set_option maxHeartbeats 16000000 in
theorem rpstep3 {m : MM} {wr : Bool} {c : Cf} {p g o : Int} {s : PS} {xs : List Int} {v tv hv : AV} (hs : SU m wr xs v) (ht : SI m false s.tk tv) (hh : SI m false s.hs hv) (hok : POk c p s) (hx : OkL c xs) (ha : s.a = 3) :
    Fn Grp ref09_Step [.agg (rpC c p g s tv hv), .agg (memC v o)] m (RpP m c p g tv hv (stepP c p g xs s) (IntKind.u64.wrap (o + 1))) := by
  have a170 : assoc Grp 170 = some F10.c_ref09_Head := rfl
  have a171 : assoc Grp 171 = some F10.c_ref09_Tail := rfl
  have a172 : assoc Grp 172 = some F10.c_ref09_Word := rfl
  have a175 : assoc Grp 175 = some F10.c_ref09_Pack := rfl
  have a66 : assoc Grp 66 = some F06.c_ref06_CAS := rfl
  generalize Grp = G at a170 a171 a172 a175 a66 ⊢
  have hone := slOne hs
  have hone2 := slOne ht
  have hone3 := slOne hh
  simp only [AV.one] at hone hone2 hone3
  obtain ⟨a, w, tk, hl⟩ := s
  simp only at ha
  subst ha
  have hp : thereP c p := hok.a.elim (fun h => by simp at h) (·.1)
  have hw := hok.w
  simp only at hw ht hh
  have hb := there_bounds hp
  have hcn := cellsN_le c
  have hxl := hx.1
  have htb := tl_b w
  have hhb := hd_b hw
  have ha0 := addr_b hp (i := 0) (by omega) (by omega)
  have htl := fun m : MM => rtail_eq m hw
  have hhd := fun m : MM => rhead_eq m hw
  have hrw := fun m : MM => rword_eq m hp
  simp only [word_at hp, cfC] at hrw
  have hwt : (addrA c p 0).toNat = wrdN c p := rfl
  have hthr : thr xs (addrA c p 0) := ⟨by omega, by omega⟩
  have e1 : IntKind.u32.wrap (tl w + 1) = (tl w + 1) % 4294967296 := wrap32 _
  have hpk := fun m : MM => rpack_eq m (h := hd w) (t := (tl w + 1) % 4294967296) hhb.1 hhb.2 (by omega) (by omega)
  have hgw : pk (hd w) ((tl w + 1) % 4294967296) = growW w 1 := rfl
  have hs1 : stepP c p g xs ⟨3, w, tk, hl⟩ = (if xs.getD (wrdN c p) 0 = w then (⟨0, w, tk, []⟩, xs.set (wrdN c p) (growW w 1)) else (⟨1, w, tk, hl⟩, xs)) := rfl
  rw [hs1]
  refine Fn_of rfl ?_
  simp (disch := first | assumption | omega | (simp only [List.length_cons, List.length_nil, List.length_set, List.length_append] <;> omega) | (simp only [get_mid, get_mid0, List.cons_append, List.append_assoc, List.getElem?_cons_zero, List.getElem?_cons_succ])) only [ref09_Step, ek, ↓evW, ↓evQ, evB, evS, evL, List.map, AV.cells, List.all, AV.one, Bool.and_true, Bool.true_and, if_true, ↓thenQ_normal, ↓thenQ_exit, ↓thenQ_ret, ↓blockQ_normal, ↓blockQ_ret, ↓blockQ_exit, ↓CW_true, ↓CW_false, CW_true, CW_false, condT, condF, RQ_some, tupA_one, tupA_two, tupA_nil, Nat.reduceSub, Nat.reduceAdd, Nat.reduceMul, Nat.zero_add, Nat.add_zero, Nat.reduceLeDiff, Nat.reduceEqDiff, eqV, eqAll, fillA, and_self, and_true, true_and, Nat.le_refl, Bool.not_true, Bool.not_false, Bool.false_xor, Bool.true_xor, cond_true, cond_false, List.replicate, if_false, reduceIte, resAll, resA, ne_eq, decide_not, decide_true, decide_false, Int.reduceEq, Bool.not_true, Bool.not_false, not_true_eq_false, not_false_eq_true, cond_bool, cond_int, beq_self_eq_true, Int.reduceBEq, Bool.and_self, Bool.and_false, Bool.false_and, Bool.xor_false, Bool.xor_true, loadN_ldC, ldC_none, ldC_somes, stC_aggs, splice, storeN_stC, stC_int, stC_bool, stC_ptr, stC_nilp, stC_sl, stC_nils, getC_gcO, gcO_cells, W_draw_eq, ↓W_scope, ev_clear, evT, evF, evX, evM, ↓exitQ_normal, ↓exitQ_ret, ↓exitQ_exit, saA_self, saO_self, if_pos, if_neg, wrapI, get_concat, set_concat, Int.toNat_natCast, Int.toNat_zero, List.nil_append, Nat.mul_one, decide_eq_true, decide_eq_false, Int.reduceLE, Int.reduceLT, Int.reduceNeg, Bool.false_or, Bool.true_or, Bool.or_false, Bool.or_true, wrapU, Int.reduceAdd, Int.reduceSub, Int.reduceMul, List.append_assoc, List.length_append, get_mid, get_mid0, set_mid, set_mid0, List.length_set, List.length_cons, List.length_nil, List.cons_append, List.getElem?_append_left, List.set_append_left, get_at, get_at0, set_at, set_at0, List.getElem?_set_self, List.getElem?_set_ne, rpC, cfC, memC, hone, hone2, hone3, a170, hhd, a171, htl, a172, hrw, e1, a175, hpk, hgw, a66, F06.c_ref06_CAS]
  have hcas := fun K : MM => rcas_run (hs.keep (Keep.app m K)) (by omega) o hthr w (growW w 1)
  simp only [memC] at hcas
  refine OKT_fn (hcas _) ?_
  rintro _ m1 ⟨k1, v', rfl, s1⟩
  rw [hwt] at s1
  have km : Keep m m1 := (Keep.app m _).trans k1
  have g0 := k1.get (i := m.length) (by rw [get_mid0]; rfl)
  have g1 := k1.get (i := m.length + 1) (by rw [get_mid]; rfl)
  have g2 := k1.get (i := m.length + 2) (by rw [get_mid]; rfl)
  have g3 := k1.get (i := m.length + 3) (by rw [get_mid]; rfl)
  have hl1 : m.length + 3 < m1.length := (List.getElem?_eq_some_iff.1 g3).1
  have hone' := slOne s1
  simp only [AV.one] at hone'
  have hno : ∀ b, m.length ≤ b → b < m.length + 4 → ∀ ro L, m1[b]? ≠ some (.cells 1 ro L) := by
    intro b b1 b2 ro L hb
    rcases (show b = m.length ∨ b = m.length + 1 ∨ b = m.length + 2 ∨ b = m.length + 3 by omega) with rfl | rfl | rfl | rfl
    · rw [g0] at hb; cases hb
    · rw [g1] at hb; cases hb
    · rw [g2] at hb; cases hb
    · rw [g3] at hb; cases hb
  by_cases heq : xs.getD (wrdN c p) 0 = w
  · have hd : decide (xs.getD (addrA c p 0).toNat 0 = w) = true := by rw [hwt]; exact decide_eq_true heq
    rw [if_pos heq] at s1 ⊢
    simp (disch := first | assumption | omega | (simp only [List.length_cons, List.length_nil, List.length_set, List.length_append] <;> omega) | (simp only [get_mid, get_mid0, List.cons_append, List.append_assoc, List.getElem?_cons_zero, List.getElem?_cons_succ])) only [ek, ↓evW, ↓evQ, evB, evS, evL, List.map, AV.cells, List.all, AV.one, Bool.and_true, Bool.true_and, if_true, ↓thenQ_normal, ↓thenQ_exit, ↓thenQ_ret, ↓blockQ_normal, ↓blockQ_ret, ↓blockQ_exit, ↓CW_true, ↓CW_false, CW_true, CW_false, condT, condF, RQ_some, tupA_one, tupA_two, tupA_nil, Nat.reduceSub, Nat.reduceAdd, Nat.reduceMul, Nat.zero_add, Nat.add_zero, Nat.reduceLeDiff, Nat.reduceEqDiff, eqV, eqAll, fillA, and_self, and_true, true_and, Nat.le_refl, Bool.not_true, Bool.not_false, Bool.false_xor, Bool.true_xor, cond_true, cond_false, List.replicate, if_false, reduceIte, resAll, resA, ne_eq, decide_not, decide_true, decide_false, Int.reduceEq, Bool.not_true, Bool.not_false, not_true_eq_false, not_false_eq_true, cond_bool, cond_int, beq_self_eq_true, Int.reduceBEq, Bool.and_self, Bool.and_false, Bool.false_and, Bool.xor_false, Bool.xor_true, loadN_ldC, ldC_none, ldC_somes, stC_aggs, splice, storeN_stC, stC_int, stC_bool, stC_ptr, stC_nilp, stC_sl, stC_nils, getC_gcO, gcO_cells, W_draw_eq, ↓W_scope, ev_clear, evT, evF, evX, evM, ↓exitQ_normal, ↓exitQ_ret, ↓exitQ_exit, saA_self, saO_self, if_pos, if_neg, wrapI, get_concat, set_concat, Int.toNat_natCast, Int.toNat_zero, List.nil_append, Nat.mul_one, decide_eq_true, decide_eq_false, Int.reduceLE, Int.reduceLT, Int.reduceNeg, Bool.false_or, Bool.true_or, Bool.or_false, Bool.or_true, wrapU, Int.reduceAdd, Int.reduceSub, Int.reduceMul, List.append_assoc, List.length_append, get_mid, get_mid0, set_mid, set_mid0, List.length_set, List.length_cons, List.length_nil, List.cons_append, List.getElem?_append_left, List.set_append_left, get_at, get_at0, set_at, set_at0, List.getElem?_set_self, List.getElem?_set_ne, memC, hd, g0, g1, g2, g3, hone', hone2, hone3]
    refine ⟨?_, tv, .nils, v', rfl, ?_, Sl.nil, ?_, .inl rfl, .inr (.inl rfl)⟩
    · repeat' first | exact km | refine Keep.set ?_ (by omega) _
    · refine SLN.sl (lo := m.length) (hi := m.length + 4) ?_
      repeat' first | exact ⟨ht.keep km, hno⟩ | refine SLN.set ?_ (by omega) (by omega) (by intro _ _ h; cases h)
    · refine SLN.sl (lo := m.length) (hi := m.length + 4) ?_
      repeat' first | exact ⟨s1, hno⟩ | refine SLN.set ?_ (by omega) (by omega) (by intro _ _ h; cases h)
  · have hd : decide (xs.getD (addrA c p 0).toNat 0 = w) = false := by rw [hwt]; exact decide_eq_false heq
    rw [if_neg heq] at s1 ⊢
    simp (disch := first | assumption | omega | (simp only [List.length_cons, List.length_nil, List.length_set, List.length_append] <;> omega) | (simp only [get_mid, get_mid0, List.cons_append, List.append_assoc, List.getElem?_cons_zero, List.getElem?_cons_succ])) only [ek, ↓evW, ↓evQ, evB, evS, evL, List.map, AV.cells, List.all, AV.one, Bool.and_true, Bool.true_and, if_true, ↓thenQ_normal, ↓thenQ_exit, ↓thenQ_ret, ↓blockQ_normal, ↓blockQ_ret, ↓blockQ_exit, ↓CW_true, ↓CW_false, CW_true, CW_false, condT, condF, RQ_some, tupA_one, tupA_two, tupA_nil, Nat.reduceSub, Nat.reduceAdd, Nat.reduceMul, Nat.zero_add, Nat.add_zero, Nat.reduceLeDiff, Nat.reduceEqDiff, eqV, eqAll, fillA, and_self, and_true, true_and, Nat.le_refl, Bool.not_true, Bool.not_false, Bool.false_xor, Bool.true_xor, cond_true, cond_false, List.replicate, if_false, reduceIte, resAll, resA, ne_eq, decide_not, decide_true, decide_false, Int.reduceEq, Bool.not_true, Bool.not_false, not_true_eq_false, not_false_eq_true, cond_bool, cond_int, beq_self_eq_true, Int.reduceBEq, Bool.and_self, Bool.and_false, Bool.false_and, Bool.xor_false, Bool.xor_true, loadN_ldC, ldC_none, ldC_somes, stC_aggs, splice, storeN_stC, stC_int, stC_bool, stC_ptr, stC_nilp, stC_sl, stC_nils, getC_gcO, gcO_cells, W_draw_eq, ↓W_scope, ev_clear, evT, evF, evX, evM, ↓exitQ_normal, ↓exitQ_ret, ↓exitQ_exit, saA_self, saO_self, if_pos, if_neg, wrapI, get_concat, set_concat, Int.toNat_natCast, Int.toNat_zero, List.nil_append, Nat.mul_one, decide_eq_true, decide_eq_false, Int.reduceLE, Int.reduceLT, Int.reduceNeg, Bool.false_or, Bool.true_or, Bool.or_false, Bool.or_true, wrapU, Int.reduceAdd, Int.reduceSub, Int.reduceMul, List.append_assoc, List.length_append, get_mid, get_mid0, set_mid, set_mid0, List.length_set, List.length_cons, List.length_nil, List.cons_append, List.getElem?_append_left, List.set_append_left, get_at, get_at0, set_at, set_at0, List.getElem?_set_self, List.getElem?_set_ne, memC, hd, g0, g1, g2, g3, hone', hone2, hone3]
    refine ⟨?_, tv, hv, v', rfl, ?_, ?_, ?_, .inl rfl, .inl rfl⟩
    · repeat' first | exact km | refine Keep.set ?_ (by omega) _
    · refine SLN.sl (lo := m.length) (hi := m.length + 4) ?_
      repeat' first | exact ⟨ht.keep km, hno⟩ | refine SLN.set ?_ (by omega) (by omega) (by intro _ _ h; cases h)
    · refine SLN.sl (lo := m.length) (hi := m.length + 4) ?_
      repeat' first | exact ⟨hh.keep km, hno⟩ | refine SLN.set ?_ (by omega) (by omega) (by intro _ _ h; cases h)
    · refine SLN.sl (lo := m.length) (hi := m.length + 4) ?_
      repeat' first | exact ⟨s1, hno⟩ | refine SLN.set ?_ (by omega) (by omega) (by intro _ _ h; cases h)
end Go.Am.F09
end
section
namespace Go.Am.F09
open Go.Am.F06 Go.Am.F10
set_option maxHeartbeats 16000000 in
theorem rpstep4 {m : MM} {wr : Bool} {c : Cf} {p g o : Int} {s : PS} {xs : List Int} {v tv hv : AV} (hs : SU m wr xs v) (ht : SI m false s.tk tv) (hh : SI m false s.hs hv) (hok : POk c p s) (hx : OkL c xs) (ha : s.a = 4) :
    Fn Grp ref09_Step [.agg (rpC c p g s tv hv), .agg (memC v o)] m (RpP m c p g tv hv (stepP c p g xs s) (IntKind.u64.wrap (o + 1))) := by
  have a171 : assoc Grp 171 = some F10.c_ref09_Tail := rfl
  have a174 : assoc Grp 174 = some F10.c_ref09_Slot := rfl
  have a64 : assoc Grp 64 = some F06.c_ref06_Load := rfl
  generalize Grp = G at a171 a174 a64 ⊢
  have hone := slOne hs
  have hone2 := slOne ht
  have hone3 := slOne hh
  simp only [AV.one] at hone hone2 hone3
  obtain ⟨a, w, tk, hl⟩ := s
  simp only at ha
  subst ha
  have hpl : thereP c p ∧ (tk.length : Int) < c.q / 2 := hok.a.elim (fun h => by simp at h) (fun h => ⟨h.1, by have := h.2; simp only at this; omega⟩)
  obtain ⟨hp, hlt⟩ := hpl
  have hw := hok.w
  simp only at hw ht hh
  have hb := there_bounds hp
  have hcn := cellsN_le c
  have hxl := hx.1
  have htb := tl_b w
  have htl := fun m : MM => rtail_eq m hw
  have hlen := ht.len
  have eq1 : c.q.tdiv 2 = c.q / 2 := Int.tdiv_eq_ediv_of_nonneg (by omega)
  have eq2 : IntKind.u32.wrap (IntKind.u32.wrap (tl w - IntKind.u32.wrap (c.q / 2)) + IntKind.u32.wrap (tk.length : Int)) = (tl w + (tk.length - c.q / 2)) % 4294967296 := by rw [wrap32, wrap32, wrap32, wrap32]; omega
  have hsl := fun m : MM => rslot_eq m hp (i := (tl w + (tk.length - c.q / 2)) % 4294967296) (by omega) (by omega)
  have hps : slotA c p ((tl w + (tk.length - c.q / 2)) % 4294967296) = pslA c p w (tk.length - c.q / 2) := rfl
  rw [hps] at hsl
  have hsb := psl_b (c := c) (p := p) (w := w) (i := tk.length - c.q / 2) hp
  have hrl := fun K : MM => rload_eq (hs.keep (Keep.app m K)) o (a := (pslA c p w (tk.length - c.q / 2)).toNat) (by omega)
  have hpn : (((pslA c p w (tk.length - c.q / 2)).toNat : Nat) : Int) = pslA c p w (tk.length - c.q / 2) := by omega
  rw [hpn] at hrl
  generalize hv1 : xs.getD (pslA c p w (tk.length - c.q / 2)).toNat 0 = x at hrl
  have hs1 : stepP c p g xs ⟨4, w, tk, hl⟩ = (⟨if (tk.length : Int) + 1 = c.q / 2 then 5 else 4, w, tk ++ [IntKind.i64.wrap x], hl⟩, xs) := by rw [← hv1]; rfl
  rw [hs1]
  simp only [memC, List.append_assoc, List.cons_append, List.nil_append] at hrl
  simp only [cfC] at hsl
  refine Fn_of rfl ?_
  simp (disch := first | assumption | omega | (simp only [List.length_cons, List.length_nil, List.length_set, List.length_append] <;> omega) | (simp only [get_mid, get_mid0, List.cons_append, List.append_assoc, List.getElem?_cons_zero, List.getElem?_cons_succ])) only [ref09_Step, ek, ↓evW, ↓evQ, evB, evS, evL, List.map, AV.cells, List.all, AV.one, Bool.and_true, Bool.true_and, if_true, ↓thenQ_normal, ↓thenQ_exit, ↓thenQ_ret, ↓blockQ_normal, ↓blockQ_ret, ↓blockQ_exit, ↓CW_true, ↓CW_false, CW_true, CW_false, condT, condF, RQ_some, tupA_one, tupA_two, tupA_nil, Nat.reduceSub, Nat.reduceAdd, Nat.reduceMul, Nat.zero_add, Nat.add_zero, Nat.reduceLeDiff, Nat.reduceEqDiff, eqV, eqAll, fillA, and_self, and_true, true_and, Nat.le_refl, Bool.not_true, Bool.not_false, Bool.false_xor, Bool.true_xor, cond_true, cond_false, List.replicate, if_false, reduceIte, resAll, resA, ne_eq, decide_not, decide_true, decide_false, Int.reduceEq, Bool.not_true, Bool.not_false, not_true_eq_false, not_false_eq_true, cond_bool, cond_int, beq_self_eq_true, Int.reduceBEq, Bool.and_self, Bool.and_false, Bool.false_and, Bool.xor_false, Bool.xor_true, loadN_ldC, ldC_none, ldC_somes, stC_aggs, splice, storeN_stC, stC_int, stC_bool, stC_ptr, stC_nilp, stC_sl, stC_nils, getC_gcO, gcO_cells, W_draw_eq, ↓W_scope, ev_clear, evT, evF, evX, evM, ↓exitQ_normal, ↓exitQ_ret, ↓exitQ_exit, saA_self, saO_self, if_pos, if_neg, wrapI, get_concat, set_concat, Int.toNat_natCast, Int.toNat_zero, List.nil_append, Nat.mul_one, decide_eq_true, decide_eq_false, Int.reduceLE, Int.reduceLT, Int.reduceNeg, Bool.false_or, Bool.true_or, Bool.or_false, Bool.or_true, wrapU, Int.reduceAdd, Int.reduceSub, Int.reduceMul, List.append_assoc, List.length_append, get_mid, get_mid0, set_mid, set_mid0, List.length_set, List.length_cons, List.length_nil, List.cons_append, List.getElem?_append_left, List.set_append_left, get_at, get_at0, set_at, set_at0, List.getElem?_set_self, List.getElem?_set_ne, rpC, cfC, memC, hone, hone2, hone3, a171, htl, eq1, ev_len, hlen, eq2, a174, hsl, a64, hrl]
  obtain ⟨K, hK⟩ : ∃ K : MM, K = [Chunk.cells 12 false (rpC c p g ⟨4, w, tk, hl⟩ tv hv), .cells 2 false (memC v (IntKind.u64.wrap (o + 1))), .cells 12 false [.int .i64 0, .int .i64 0, .int .i64 0, .int .i64 0, .int .i64 0, .int .i64 0, .int .i64 0, .int .i64 0, .int .i64 0, .int .u64 0, .nils, .nils], .cells 2 false [.nils, .int .u64 0], .cells 2 false (memC v (IntKind.u64.wrap (o + 1))), .cells 6 false (cfC c), .cells 6 false (cfC c), .cells 2 false (memC v o), .cells 2 false (memC v (IntKind.u64.wrap (o + 1))), .cells 2 false (memC v o)] := ⟨_, rfl⟩
  have g0 : (m ++ K)[m.length]? = some (.cells 12 false (rpC c p g ⟨4, w, tk, hl⟩ tv hv)) := by rw [hK, get_mid0]; rfl
  have g1 : (m ++ K)[m.length + 1]? = some (.cells 2 false (memC v (IntKind.u64.wrap (o + 1)))) := by rw [hK, get_mid]; rfl
  have g2 : (m ++ K)[m.length + 2]? = some (.cells 12 false [.int .i64 0, .int .i64 0, .int .i64 0, .int .i64 0, .int .i64 0, .int .i64 0, .int .i64 0, .int .i64 0, .int .i64 0, .int .u64 0, .nils, .nils]) := by rw [hK, get_mid]; rfl
  have g3 : (m ++ K)[m.length + 3]? = some (.cells 2 false [.nils, .int .u64 0]) := by rw [hK, get_mid]; rfl
  simp only [rpC, memC, cfC, List.cons_append, List.nil_append] at hK g0 g1 g2 g3
  rw [← hK]
  have hkM := Keep.app m K
  generalize m ++ K = M at hkM g0 g1 g2 g3 ⊢
  clear hK hrl hsl hps
  obtain ⟨l1, M1, hap1, ow1, ln1, f1⟩ := own_pushs (m0 := M) (xs := []) own_nil (ht.keep hkM) (by simp) (by omega) (Nat.le_refl _)
  have k1 : Keep M M1 := ⟨ln1, fun i hi => f1 i hi (.inr hi)⟩
  rw [List.nil_append] at ow1
  obtain ⟨l2, M2, hap2, ow2, ln2, f2⟩ := own_push2 ow1 (IntKind.i64.wrap x) (by omega) ln1
  have k2 : Keep M M2 := ⟨by omega, fun i hi => by rw [f2 i (by omega) (.inr hi), k1.2 i hi]⟩
  have hsi2 := (Own.si ow2).1.ro
  have hlen2 := hsi2.len
  have h0 := k2.get g0
  have h1 := k2.get g1
  have h2 := k2.get g2
  have h3 := k2.get g3
  have lm : m.length + 3 < M2.length := (List.getElem?_eq_some_iff.1 h3).1
  have hkm : Keep m M2 := hkM.trans k2
  have hone1 := ow1.val1
  simp only [AV.one] at hone1
  have hl2 : ∃ q, l2 = .sl q 0 (tk.length + 1) none ∧ m.length ≤ q := by
    rcases ow2 with ⟨h, _⟩ | ⟨q, h, _, h2, _⟩
    · simp at h
    · exact ⟨q, by rw [h]; simp, Nat.le_trans hkM.1 h2⟩
  obtain ⟨q2, rfl, hq2m⟩ := hl2
  have hno : ∀ b, m.length ≤ b → b < m.length + 4 → ∀ ro L, M2[b]? ≠ some (.cells 1 ro L) := by
    intro b b1 b2 ro L hb
    rcases (show b = m.length ∨ b = m.length + 1 ∨ b = m.length + 2 ∨ b = m.length + 3 by omega) with rfl | rfl | rfl | rfl
    · rw [h0] at hb; cases hb
    · rw [h1] at hb; cases hb
    · rw [h2] at hb; cases hb
    · rw [h3] at hb; cases hb
  have htl2 : lenA (.sl q2 0 (tk.length + 1) none) = some (tk.length + 1) := rfl
  by_cases hq : (tk.length : Int) + 1 = c.q / 2
  · rw [if_pos hq]
    simp (disch := first | assumption | omega | (simp only [List.length_cons, List.length_nil, List.length_set, List.length_append] <;> omega) | (simp only [get_mid, get_mid0, List.cons_append, List.append_assoc, List.getElem?_cons_zero, List.getElem?_cons_succ])) only [ek, ↓evW, ↓evQ, evB, evS, evL, List.map, AV.cells, List.all, AV.one, Bool.and_true, Bool.true_and, if_true, ↓thenQ_normal, ↓thenQ_exit, ↓thenQ_ret, ↓blockQ_normal, ↓blockQ_ret, ↓blockQ_exit, ↓CW_true, ↓CW_false, CW_true, CW_false, condT, condF, RQ_some, tupA_one, tupA_two, tupA_nil, Nat.reduceSub, Nat.reduceAdd, Nat.reduceMul, Nat.zero_add, Nat.add_zero, Nat.reduceLeDiff, Nat.reduceEqDiff, eqV, eqAll, fillA, and_self, and_true, true_and, Nat.le_refl, Bool.not_true, Bool.not_false, Bool.false_xor, Bool.true_xor, cond_true, cond_false, List.replicate, if_false, reduceIte, resAll, resA, ne_eq, decide_not, decide_true, decide_false, Int.reduceEq, Bool.not_true, Bool.not_false, not_true_eq_false, not_false_eq_true, cond_bool, cond_int, beq_self_eq_true, Int.reduceBEq, Bool.and_self, Bool.and_false, Bool.false_and, Bool.xor_false, Bool.xor_true, loadN_ldC, ldC_none, ldC_somes, stC_aggs, splice, storeN_stC, stC_int, stC_bool, stC_ptr, stC_nilp, stC_sl, stC_nils, getC_gcO, gcO_cells, W_draw_eq, ↓W_scope, ev_clear, evT, evF, evX, evM, ↓exitQ_normal, ↓exitQ_ret, ↓exitQ_exit, saA_self, saO_self, if_pos, if_neg, wrapI, get_concat, set_concat, Int.toNat_natCast, Int.toNat_zero, List.nil_append, Nat.mul_one, decide_eq_true, decide_eq_false, Int.reduceLE, Int.reduceLT, Int.reduceNeg, Bool.false_or, Bool.true_or, Bool.or_false, Bool.or_true, wrapU, Int.reduceAdd, Int.reduceSub, Int.reduceMul, List.append_assoc, List.length_append, get_mid, get_mid0, set_mid, set_mid0, List.length_set, List.length_cons, List.length_nil, List.cons_append, List.getElem?_append_left, List.set_append_left, get_at, get_at0, set_at, set_at0, List.getElem?_set_self, List.getElem?_set_ne, evA, fillA, repeatL, List.flatten_cons, List.flatten_nil, hap1, hone1, hap2, h0, h1, h2, h3, ev_len, htl2, hq, hone, hone3]
    refine ⟨?_, .sl q2 0 (tk.length + 1) none, hv, v, rfl, ?_, ?_, ?_, .inr (.inr ⟨_, _, _, _, rfl, hq2m⟩), .inl rfl⟩
    · repeat' first | exact hkm | refine Keep.set ?_ (by omega) _
    · refine SLN.sl (lo := m.length) (hi := m.length + 4) ?_
      repeat' first | exact ⟨hsi2, hno⟩ | refine SLN.set ?_ (by omega) (by omega) (by intro _ _ h; cases h)
    · refine SLN.sl (lo := m.length) (hi := m.length + 4) ?_
      repeat' first | exact ⟨hh.keep hkm, hno⟩ | refine SLN.set ?_ (by omega) (by omega) (by intro _ _ h; cases h)
    · refine SLN.sl (lo := m.length) (hi := m.length + 4) ?_
      repeat' first | exact ⟨(hs.keep hkm).ro, hno⟩ | refine SLN.set ?_ (by omega) (by omega) (by intro _ _ h; cases h)
  · rw [if_neg hq]
    simp (disch := first | assumption | omega | (simp only [List.length_cons, List.length_nil, List.length_set, List.length_append] <;> omega) | (simp only [get_mid, get_mid0, List.cons_append, List.append_assoc, List.getElem?_cons_zero, List.getElem?_cons_succ])) only [ek, ↓evW, ↓evQ, evB, evS, evL, List.map, AV.cells, List.all, AV.one, Bool.and_true, Bool.true_and, if_true, ↓thenQ_normal, ↓thenQ_exit, ↓thenQ_ret, ↓blockQ_normal, ↓blockQ_ret, ↓blockQ_exit, ↓CW_true, ↓CW_false, CW_true, CW_false, condT, condF, RQ_some, tupA_one, tupA_two, tupA_nil, Nat.reduceSub, Nat.reduceAdd, Nat.reduceMul, Nat.zero_add, Nat.add_zero, Nat.reduceLeDiff, Nat.reduceEqDiff, eqV, eqAll, fillA, and_self, and_true, true_and, Nat.le_refl, Bool.not_true, Bool.not_false, Bool.false_xor, Bool.true_xor, cond_true, cond_false, List.replicate, if_false, reduceIte, resAll, resA, ne_eq, decide_not, decide_true, decide_false, Int.reduceEq, Bool.not_true, Bool.not_false, not_true_eq_false, not_false_eq_true, cond_bool, cond_int, beq_self_eq_true, Int.reduceBEq, Bool.and_self, Bool.and_false, Bool.false_and, Bool.xor_false, Bool.xor_true, loadN_ldC, ldC_none, ldC_somes, stC_aggs, splice, storeN_stC, stC_int, stC_bool, stC_ptr, stC_nilp, stC_sl, stC_nils, getC_gcO, gcO_cells, W_draw_eq, ↓W_scope, ev_clear, evT, evF, evX, evM, ↓exitQ_normal, ↓exitQ_ret, ↓exitQ_exit, saA_self, saO_self, if_pos, if_neg, wrapI, get_concat, set_concat, Int.toNat_natCast, Int.toNat_zero, List.nil_append, Nat.mul_one, decide_eq_true, decide_eq_false, Int.reduceLE, Int.reduceLT, Int.reduceNeg, Bool.false_or, Bool.true_or, Bool.or_false, Bool.or_true, wrapU, Int.reduceAdd, Int.reduceSub, Int.reduceMul, List.append_assoc, List.length_append, get_mid, get_mid0, set_mid, set_mid0, List.length_set, List.length_cons, List.length_nil, List.cons_append, List.getElem?_append_left, List.set_append_left, get_at, get_at0, set_at, set_at0, List.getElem?_set_self, List.getElem?_set_ne, evA, fillA, repeatL, List.flatten_cons, List.flatten_nil, hap1, hone1, hap2, h0, h1, h2, h3, ev_len, htl2, hq, hone, hone3]
    refine ⟨?_, .sl q2 0 (tk.length + 1) none, hv, v, rfl, ?_, ?_, ?_, .inr (.inr ⟨_, _, _, _, rfl, hq2m⟩), .inl rfl⟩
    · repeat' first | exact hkm | refine Keep.set ?_ (by omega) _
    · refine SLN.sl (lo := m.length) (hi := m.length + 4) ?_
      repeat' first | exact ⟨hsi2, hno⟩ | refine SLN.set ?_ (by omega) (by omega) (by intro _ _ h; cases h)
    · refine SLN.sl (lo := m.length) (hi := m.length + 4) ?_
      repeat' first | exact ⟨hh.keep hkm, hno⟩ | refine SLN.set ?_ (by omega) (by omega) (by intro _ _ h; cases h)
    · refine SLN.sl (lo := m.length) (hi := m.length + 4) ?_
      repeat' first | exact ⟨(hs.keep hkm).ro, hno⟩ | refine SLN.set ?_ (by omega) (by omega) (by intro _ _ h; cases h)
set_option maxHeartbeats 16000000 in
theorem rpstep5 {m : MM} {wr : Bool} {c : Cf} {p g o : Int} {s : PS} {xs : List Int} {v tv hv : AV} (hs : SU m wr xs v) (ht : SI m false s.tk tv) (hh : SI m false s.hs hv) (hok : POk c p s) (hx : OkL c xs) (ha : s.a = 5) :
    Fn Grp ref09_Step [.agg (rpC c p g s tv hv), .agg (memC v o)] m (RpP m c p g tv hv (stepP c p g xs s) (IntKind.u64.wrap (o + 1))) := by
  have a170 : assoc Grp 170 = some F10.c_ref09_Head := rfl
  have a171 : assoc Grp 171 = some F10.c_ref09_Tail := rfl
  have a172 : assoc Grp 172 = some F10.c_ref09_Word := rfl
  have a175 : assoc Grp 175 = some F10.c_ref09_Pack := rfl
  have a66 : assoc Grp 66 = some F06.c_ref06_CAS := rfl
  generalize Grp = G at a170 a171 a172 a175 a66 ⊢
  have hone := slOne hs
  have hone2 := slOne ht
  have hone3 := slOne hh
  simp only [AV.one] at hone hone2 hone3
  obtain ⟨a, w, tk, hl⟩ := s
  simp only at ha
  subst ha
  have hpl : thereP c p ∧ (tk.length : Int) = c.q / 2 := hok.a.elim (fun h => by simp at h) (fun h => ⟨h.1, by have := h.2; simp only at this; omega⟩)
  obtain ⟨hp, hlt⟩ := hpl
  have hw := hok.w
  simp only at hw ht hh
  have hb := there_bounds hp
  have hcn := cellsN_le c
  have hxl := hx.1
  have htb := tl_b w
  have hhb := hd_b hw
  have ha0 := addr_b hp (i := 0) (by omega) (by omega)
  have htl := fun m : MM => rtail_eq m hw
  have hhd := fun m : MM => rhead_eq m hw
  have hrw := fun m : MM => rword_eq m hp
  simp only [word_at hp, cfC] at hrw
  have hwt : (addrA c p 0).toNat = wrdN c p := rfl
  have hthr : thr xs (addrA c p 0) := ⟨by omega, by omega⟩
  have eq1 : c.q.tdiv 2 = c.q / 2 := Int.tdiv_eq_ediv_of_nonneg (by omega)
  have eq2 : IntKind.u32.wrap (c.q / 2) = c.q / 2 := by rw [wrap32]; omega
  have e1 : IntKind.u32.wrap (tl w - c.q / 2) = (tl w - c.q / 2) % 4294967296 := wrap32 _
  have hpk := fun m : MM => rpack_eq m (h := hd w) (t := (tl w - c.q / 2) % 4294967296) hhb.1 hhb.2 (by omega) (by omega)
  have hgw : pk (hd w) ((tl w - c.q / 2) % 4294967296) = dropW w (c.q / 2) := rfl
  have hs1 : stepP c p g xs ⟨5, w, tk, hl⟩ = (if xs.getD (wrdN c p) 0 = w then (⟨0, w, tk, tk ++ [g]⟩, xs.set (wrdN c p) (dropW w (c.q / 2))) else (⟨1, w, tk, hl⟩, xs)) := rfl
  rw [hs1]
  refine Fn_of rfl ?_
  simp (disch := first | assumption | omega | (simp only [List.length_cons, List.length_nil, List.length_set, List.length_append] <;> omega) | (simp only [get_mid, get_mid0, List.cons_append, List.append_assoc, List.getElem?_cons_zero, List.getElem?_cons_succ])) only [ref09_Step, ek, ↓evW, ↓evQ, evB, evS, evL, List.map, AV.cells, List.all, AV.one, Bool.and_true, Bool.true_and, if_true, ↓thenQ_normal, ↓thenQ_exit, ↓thenQ_ret, ↓blockQ_normal, ↓blockQ_ret, ↓blockQ_exit, ↓CW_true, ↓CW_false, CW_true, CW_false, condT, condF, RQ_some, tupA_one, tupA_two, tupA_nil, Nat.reduceSub, Nat.reduceAdd, Nat.reduceMul, Nat.zero_add, Nat.add_zero, Nat.reduceLeDiff, Nat.reduceEqDiff, eqV, eqAll, fillA, and_self, and_true, true_and, Nat.le_refl, Bool.not_true, Bool.not_false, Bool.false_xor, Bool.true_xor, cond_true, cond_false, List.replicate, if_false, reduceIte, resAll, resA, ne_eq, decide_not, decide_true, decide_false, Int.reduceEq, Bool.not_true, Bool.not_false, not_true_eq_false, not_false_eq_true, cond_bool, cond_int, beq_self_eq_true, Int.reduceBEq, Bool.and_self, Bool.and_false, Bool.false_and, Bool.xor_false, Bool.xor_true, loadN_ldC, ldC_none, ldC_somes, stC_aggs, splice, storeN_stC, stC_int, stC_bool, stC_ptr, stC_nilp, stC_sl, stC_nils, getC_gcO, gcO_cells, W_draw_eq, ↓W_scope, ev_clear, evT, evF, evX, evM, ↓exitQ_normal, ↓exitQ_ret, ↓exitQ_exit, saA_self, saO_self, if_pos, if_neg, wrapI, get_concat, set_concat, Int.toNat_natCast, Int.toNat_zero, List.nil_append, Nat.mul_one, decide_eq_true, decide_eq_false, Int.reduceLE, Int.reduceLT, Int.reduceNeg, Bool.false_or, Bool.true_or, Bool.or_false, Bool.or_true, wrapU, Int.reduceAdd, Int.reduceSub, Int.reduceMul, List.append_assoc, List.length_append, get_mid, get_mid0, set_mid, set_mid0, List.length_set, List.length_cons, List.length_nil, List.cons_append, List.getElem?_append_left, List.set_append_left, get_at, get_at0, set_at, set_at0, List.getElem?_set_self, List.getElem?_set_ne, rpC, cfC, memC, hone, hone2, hone3, a170, hhd, a171, htl, a172, hrw, eq1, eq2, e1, a175, hpk, hgw, a66, F06.c_ref06_CAS]
  have hcas := fun K : MM => rcas_run (hs.keep (Keep.app m K)) (by omega) o hthr w (dropW w (c.q / 2))
  simp only [memC] at hcas
  refine OKT_fn (hcas _) ?_
  rintro _ M ⟨k1, v', rfl, s1⟩
  rw [hwt] at s1
  have hkM : Keep m M := (Keep.app m _).trans k1
  have g0 := k1.get (i := m.length) (by rw [get_mid0]; rfl)
  have g1 := k1.get (i := m.length + 1) (by rw [get_mid]; rfl)
  have g2 := k1.get (i := m.length + 2) (by rw [get_mid]; rfl)
  have g3 := k1.get (i := m.length + 3) (by rw [get_mid]; rfl)
  have hl1 : m.length + 3 < M.length := (List.getElem?_eq_some_iff.1 g3).1
  have hone' := slOne s1
  simp only [AV.one] at hone'
  have hno : ∀ b, m.length ≤ b → b < m.length + 4 → ∀ ro L, M[b]? ≠ some (.cells 1 ro L) := by
    intro b b1 b2 ro L hb
    rcases (show b = m.length ∨ b = m.length + 1 ∨ b = m.length + 2 ∨ b = m.length + 3 by omega) with rfl | rfl | rfl | rfl
    · rw [g0] at hb; cases hb
    · rw [g1] at hb; cases hb
    · rw [g2] at hb; cases hb
    · rw [g3] at hb; cases hb
  by_cases heq : xs.getD (wrdN c p) 0 = w
  · have hd : decide (xs.getD (addrA c p 0).toNat 0 = w) = true := by rw [hwt]; exact decide_eq_true heq
    rw [if_pos heq] at s1 ⊢
    simp (disch := first | assumption | omega | (simp only [List.length_cons, List.length_nil, List.length_set, List.length_append] <;> omega) | (simp only [get_mid, get_mid0, List.cons_append, List.append_assoc, List.getElem?_cons_zero, List.getElem?_cons_succ])) only [ek, ↓evW, ↓evQ, evB, evS, evL, List.map, AV.cells, List.all, AV.one, Bool.and_true, Bool.true_and, if_true, ↓thenQ_normal, ↓thenQ_exit, ↓thenQ_ret, ↓blockQ_normal, ↓blockQ_ret, ↓blockQ_exit, ↓CW_true, ↓CW_false, CW_true, CW_false, condT, condF, RQ_some, tupA_one, tupA_two, tupA_nil, Nat.reduceSub, Nat.reduceAdd, Nat.reduceMul, Nat.zero_add, Nat.add_zero, Nat.reduceLeDiff, Nat.reduceEqDiff, eqV, eqAll, fillA, and_self, and_true, true_and, Nat.le_refl, Bool.not_true, Bool.not_false, Bool.false_xor, Bool.true_xor, cond_true, cond_false, List.replicate, if_false, reduceIte, resAll, resA, ne_eq, decide_not, decide_true, decide_false, Int.reduceEq, Bool.not_true, Bool.not_false, not_true_eq_false, not_false_eq_true, cond_bool, cond_int, beq_self_eq_true, Int.reduceBEq, Bool.and_self, Bool.and_false, Bool.false_and, Bool.xor_false, Bool.xor_true, loadN_ldC, ldC_none, ldC_somes, stC_aggs, splice, storeN_stC, stC_int, stC_bool, stC_ptr, stC_nilp, stC_sl, stC_nils, getC_gcO, gcO_cells, W_draw_eq, ↓W_scope, ev_clear, evT, evF, evX, evM, ↓exitQ_normal, ↓exitQ_ret, ↓exitQ_exit, saA_self, saO_self, if_pos, if_neg, wrapI, get_concat, set_concat, Int.toNat_natCast, Int.toNat_zero, List.nil_append, Nat.mul_one, decide_eq_true, decide_eq_false, Int.reduceLE, Int.reduceLT, Int.reduceNeg, Bool.false_or, Bool.true_or, Bool.or_false, Bool.or_true, wrapU, Int.reduceAdd, Int.reduceSub, Int.reduceMul, List.append_assoc, List.length_append, get_mid, get_mid0, set_mid, set_mid0, List.length_set, List.length_cons, List.length_nil, List.cons_append, List.getElem?_append_left, List.set_append_left, get_at, get_at0, set_at, set_at0, List.getElem?_set_self, List.getElem?_set_ne, memC, hd, g0, g1, g2, g3, hone', hone2, hone3]
    obtain ⟨B, hB⟩ : ∃ B : MM, B = ((M.set (m.length + 1) (.cells 2 false (memC v' (IntKind.u64.wrap (o + 1))))).set m.length (.cells 12 false (rpC c p g ⟨1, w, tk, hl⟩ tv hv))).set m.length (.cells 12 false (rpC c p g ⟨0, w, tk, hl⟩ tv hv)) := ⟨_, rfl⟩
    have b0 : B[m.length]? = some (.cells 12 false (rpC c p g ⟨0, w, tk, hl⟩ tv hv)) := by rw [hB, List.getElem?_set_self (by simp only [List.length_set]; omega)]
    have b1 : B[m.length + 1]? = some (.cells 2 false (memC v' (IntKind.u64.wrap (o + 1)))) := by rw [hB, List.getElem?_set_ne (by omega), List.getElem?_set_ne (by omega), List.getElem?_set_self (by omega)]
    have b2 := g2
    rw [← List.getElem?_set_ne (show m.length + 1 ≠ m.length + 2 by omega) (a := .cells 2 false (memC v' (IntKind.u64.wrap (o + 1)))), ← List.getElem?_set_ne (show m.length ≠ m.length + 2 by omega) (a := .cells 12 false (rpC c p g ⟨1, w, tk, hl⟩ tv hv)), ← List.getElem?_set_ne (show m.length ≠ m.length + 2 by omega) (a := .cells 12 false (rpC c p g ⟨0, w, tk, hl⟩ tv hv)), ← hB] at b2
    have b3 := g3
    rw [← List.getElem?_set_ne (show m.length + 1 ≠ m.length + 3 by omega) (a := .cells 2 false (memC v' (IntKind.u64.wrap (o + 1)))), ← List.getElem?_set_ne (show m.length ≠ m.length + 3 by omega) (a := .cells 12 false (rpC c p g ⟨1, w, tk, hl⟩ tv hv)), ← List.getElem?_set_ne (show m.length ≠ m.length + 3 by omega) (a := .cells 12 false (rpC c p g ⟨0, w, tk, hl⟩ tv hv)), ← hB] at b3
    have kB : Keep m B := by rw [hB]; exact ((hkM.set (by omega) _).set (Nat.le_refl _) _).set (Nat.le_refl _) _
    have sB : SLN m.length (m.length + 4) B false (xs.set (wrdN c p) (dropW w (c.q / 2))).length (uC (xs.set (wrdN c p) (dropW w (c.q / 2)))) v' := by
      rw [hB]
      repeat' first | exact ⟨s1, hno⟩ | refine SLN.set ?_ (by omega) (by omega) (by intro _ _ h; cases h)
    simp only [rpC, memC, cfC, List.cons_append, List.nil_append] at hB b0 b1
    rw [← hB]
    clear hB g0 g1 g2 g3 hno s1 k1 hkM hcas hrw hpk
    obtain ⟨l1, M1, hap1, ow1, ln1, f1⟩ := own_pushs (m0 := B) (xs := []) own_nil (ht.keep kB) (by simp) (by omega) (Nat.le_refl _)
    have k1 : Keep B M1 := ⟨ln1, fun i hi => f1 i hi (.inr hi)⟩
    rw [List.nil_append] at ow1
    obtain ⟨l2, M2, hap2, ow2, ln2, f2⟩ := own_push2 ow1 g (by omega) ln1
    have k2 : Keep B M2 := ⟨by omega, fun i hi => by rw [f2 i (by omega) (.inr hi), k1.2 i hi]⟩
    have hsi2 := (Own.si ow2).1.ro
    have h0 := k2.get b0
    have h1 := k2.get b1
    have h2 := k2.get b2
    have h3 := k2.get b3
    have c0 := k1.get b0
    have lm : m.length + 3 < M2.length := (List.getElem?_eq_some_iff.1 h3).1
    have hkm : Keep m M2 := kB.trans k2
    have hone1 := ow1.val1
    simp only [AV.one] at hone1
    have hl2 : ∃ q, l2 = .sl q 0 (tk.length + 1) none ∧ m.length ≤ q := by
      rcases ow2 with ⟨h, _⟩ | ⟨q, h, _, h2, _⟩
      · simp at h
      · exact ⟨q, by rw [h]; simp, Nat.le_trans kB.1 h2⟩
    obtain ⟨q2, rfl, hq2m⟩ := hl2
    have hno2 : ∀ b, m.length ≤ b → b < m.length + 4 → ∀ ro L, M2[b]? ≠ some (.cells 1 ro L) := by
      intro b b1 b2 ro L hb
      rcases (show b = m.length ∨ b = m.length + 1 ∨ b = m.length + 2 ∨ b = m.length + 3 by omega) with rfl | rfl | rfl | rfl
      · rw [h0] at hb; cases hb
      · rw [h1] at hb; cases hb
      · rw [h2] at hb; cases hb
      · rw [h3] at hb; cases hb
    simp (disch := first | assumption | omega | (simp only [List.length_cons, List.length_nil, List.length_set, List.length_append] <;> omega) | (simp only [get_mid, get_mid0, List.cons_append, List.append_assoc, List.getElem?_cons_zero, List.getElem?_cons_succ])) only [ek, ↓evW, ↓evQ, evB, evS, evL, List.map, AV.cells, List.all, AV.one, Bool.and_true, Bool.true_and, if_true, ↓thenQ_normal, ↓thenQ_exit, ↓thenQ_ret, ↓blockQ_normal, ↓blockQ_ret, ↓blockQ_exit, ↓CW_true, ↓CW_false, CW_true, CW_false, condT, condF, RQ_some, tupA_one, tupA_two, tupA_nil, Nat.reduceSub, Nat.reduceAdd, Nat.reduceMul, Nat.zero_add, Nat.add_zero, Nat.reduceLeDiff, Nat.reduceEqDiff, eqV, eqAll, fillA, and_self, and_true, true_and, Nat.le_refl, Bool.not_true, Bool.not_false, Bool.false_xor, Bool.true_xor, cond_true, cond_false, List.replicate, if_false, reduceIte, resAll, resA, ne_eq, decide_not, decide_true, decide_false, Int.reduceEq, Bool.not_true, Bool.not_false, not_true_eq_false, not_false_eq_true, cond_bool, cond_int, beq_self_eq_true, Int.reduceBEq, Bool.and_self, Bool.and_false, Bool.false_and, Bool.xor_false, Bool.xor_true, loadN_ldC, ldC_none, ldC_somes, stC_aggs, splice, storeN_stC, stC_int, stC_bool, stC_ptr, stC_nilp, stC_sl, stC_nils, getC_gcO, gcO_cells, W_draw_eq, ↓W_scope, ev_clear, evT, evF, evX, evM, ↓exitQ_normal, ↓exitQ_ret, ↓exitQ_exit, saA_self, saO_self, if_pos, if_neg, wrapI, get_concat, set_concat, Int.toNat_natCast, Int.toNat_zero, List.nil_append, Nat.mul_one, decide_eq_true, decide_eq_false, Int.reduceLE, Int.reduceLT, Int.reduceNeg, Bool.false_or, Bool.true_or, Bool.or_false, Bool.or_true, wrapU, Int.reduceAdd, Int.reduceSub, Int.reduceMul, List.append_assoc, List.length_append, get_mid, get_mid0, set_mid, set_mid0, List.length_set, List.length_cons, List.length_nil, List.cons_append, List.getElem?_append_left, List.set_append_left, get_at, get_at0, set_at, set_at0, List.getElem?_set_self, List.getElem?_set_ne, evA, fillA, repeatL, List.flatten_cons, List.flatten_nil, hap1, c0, hone1, hap2, h0, h1, h2, h3, hone', hone2]
    refine ⟨?_, tv, .sl q2 0 (tk.length + 1) none, v', rfl, ?_, ?_, ?_, .inl rfl, .inr (.inr ⟨_, _, _, _, rfl, hq2m⟩)⟩
    · repeat' first | exact hkm | refine Keep.set ?_ (by omega) _
    · refine SLN.sl (lo := m.length) (hi := m.length + 4) ?_
      repeat' first | exact ⟨ht.keep hkm, hno2⟩ | refine SLN.set ?_ (by omega) (by omega) (by intro _ _ h; cases h)
    · refine SLN.sl (lo := m.length) (hi := m.length + 4) ?_
      repeat' first | exact ⟨hsi2, hno2⟩ | refine SLN.set ?_ (by omega) (by omega) (by intro _ _ h; cases h)
    · refine SLN.sl (lo := m.length) (hi := m.length + 4) ?_
      repeat' first | exact ⟨sB.sl.keep k2, hno2⟩ | refine SLN.set ?_ (by omega) (by omega) (by intro _ _ h; cases h)
  · have hd : decide (xs.getD (addrA c p 0).toNat 0 = w) = false := by rw [hwt]; exact decide_eq_false heq
    rw [if_neg heq] at s1 ⊢
    simp (disch := first | assumption | omega | (simp only [List.length_cons, List.length_nil, List.length_set, List.length_append] <;> omega) | (simp only [get_mid, get_mid0, List.cons_append, List.append_assoc, List.getElem?_cons_zero, List.getElem?_cons_succ])) only [ek, ↓evW, ↓evQ, evB, evS, evL, List.map, AV.cells, List.all, AV.one, Bool.and_true, Bool.true_and, if_true, ↓thenQ_normal, ↓thenQ_exit, ↓thenQ_ret, ↓blockQ_normal, ↓blockQ_ret, ↓blockQ_exit, ↓CW_true, ↓CW_false, CW_true, CW_false, condT, condF, RQ_some, tupA_one, tupA_two, tupA_nil, Nat.reduceSub, Nat.reduceAdd, Nat.reduceMul, Nat.zero_add, Nat.add_zero, Nat.reduceLeDiff, Nat.reduceEqDiff, eqV, eqAll, fillA, and_self, and_true, true_and, Nat.le_refl, Bool.not_true, Bool.not_false, Bool.false_xor, Bool.true_xor, cond_true, cond_false, List.replicate, if_false, reduceIte, resAll, resA, ne_eq, decide_not, decide_true, decide_false, Int.reduceEq, Bool.not_true, Bool.not_false, not_true_eq_false, not_false_eq_true, cond_bool, cond_int, beq_self_eq_true, Int.reduceBEq, Bool.and_self, Bool.and_false, Bool.false_and, Bool.xor_false, Bool.xor_true, loadN_ldC, ldC_none, ldC_somes, stC_aggs, splice, storeN_stC, stC_int, stC_bool, stC_ptr, stC_nilp, stC_sl, stC_nils, getC_gcO, gcO_cells, W_draw_eq, ↓W_scope, ev_clear, evT, evF, evX, evM, ↓exitQ_normal, ↓exitQ_ret, ↓exitQ_exit, saA_self, saO_self, if_pos, if_neg, wrapI, get_concat, set_concat, Int.toNat_natCast, Int.toNat_zero, List.nil_append, Nat.mul_one, decide_eq_true, decide_eq_false, Int.reduceLE, Int.reduceLT, Int.reduceNeg, Bool.false_or, Bool.true_or, Bool.or_false, Bool.or_true, wrapU, Int.reduceAdd, Int.reduceSub, Int.reduceMul, List.append_assoc, List.length_append, get_mid, get_mid0, set_mid, set_mid0, List.length_set, List.length_cons, List.length_nil, List.cons_append, List.getElem?_append_left, List.set_append_left, get_at, get_at0, set_at, set_at0, List.getElem?_set_self, List.getElem?_set_ne, memC, hd, g0, g1, g2, g3, hone', hone2, hone3]
    refine ⟨?_, tv, hv, v', rfl, ?_, ?_, ?_, .inl rfl, .inl rfl⟩
    · repeat' first | exact hkM | refine Keep.set ?_ (by omega) _
    · refine SLN.sl (lo := m.length) (hi := m.length + 4) ?_
      repeat' first | exact ⟨ht.keep hkM, hno⟩ | refine SLN.set ?_ (by omega) (by omega) (by intro _ _ h; cases h)
    · refine SLN.sl (lo := m.length) (hi := m.length + 4) ?_
      repeat' first | exact ⟨hh.keep hkM, hno⟩ | refine SLN.set ?_ (by omega) (by omega) (by intro _ _ h; cases h)
    · refine SLN.sl (lo := m.length) (hi := m.length + 4) ?_
      repeat' first | exact ⟨s1, hno⟩ | refine SLN.set ?_ (by omega) (by omega) (by intro _ _ h; cases h)
theorem rpstep_run {m : MM} {wr : Bool} {c : Cf} {p g o : Int} {s : PS} {xs : List Int} {v tv hv : AV} (hs : SU m wr xs v) (ht : SI m false s.tk tv) (hh : SI m false s.hs hv) (hok : POk c p s) (hx : s.a = 0 ∨ OkL c xs) :
    Fn Grp ref09_Step [.agg (rpC c p g s tv hv), .agg (memC v o)] m (RpP m c p g tv hv (stepP c p g xs s) (opsP s o)) := by
  by_cases h0 : s.a = 0
  · rw [stepP_zero h0, opsP, if_pos h0]
    have a171 : assoc Grp 171 = some F10.c_ref09_Tail := rfl
    generalize Grp = G at a171 ⊢
    have hone := slOne hs
    have hone2 := slOne ht
    have hone3 := slOne hh
    simp only [AV.one] at hone hone2 hone3
    have htl := fun m : MM => rtail_eq m hok.w
    refine Fn_of rfl ?_
    simp (disch := first | assumption | omega | (simp only [List.length_cons, List.length_nil, List.length_set, List.length_append] <;> omega) | (simp only [get_mid, get_mid0, List.cons_append, List.append_assoc, List.getElem?_cons_zero, List.getElem?_cons_succ])) only [ref09_Step, ek, ↓evW, ↓evQ, evB, evS, evL, List.map, AV.cells, List.all, AV.one, Bool.and_true, Bool.true_and, if_true, ↓thenQ_normal, ↓thenQ_exit, ↓thenQ_ret, ↓blockQ_normal, ↓blockQ_ret, ↓blockQ_exit, ↓CW_true, ↓CW_false, CW_true, CW_false, condT, condF, RQ_some, tupA_one, tupA_two, tupA_nil, Nat.reduceSub, Nat.reduceAdd, Nat.reduceMul, Nat.zero_add, Nat.add_zero, Nat.reduceLeDiff, Nat.reduceEqDiff, eqV, eqAll, fillA, and_self, and_true, true_and, Nat.le_refl, Bool.not_true, Bool.not_false, Bool.false_xor, Bool.true_xor, cond_true, cond_false, List.replicate, if_false, reduceIte, resAll, resA, ne_eq, decide_not, decide_true, decide_false, Int.reduceEq, Bool.not_true, Bool.not_false, not_true_eq_false, not_false_eq_true, cond_bool, cond_int, beq_self_eq_true, Int.reduceBEq, Bool.and_self, Bool.and_false, Bool.false_and, Bool.xor_false, Bool.xor_true, loadN_ldC, ldC_none, ldC_somes, stC_aggs, splice, storeN_stC, stC_int, stC_bool, stC_ptr, stC_nilp, stC_sl, stC_nils, getC_gcO, gcO_cells, W_draw_eq, ↓W_scope, ev_clear, evT, evF, evX, evM, ↓exitQ_normal, ↓exitQ_ret, ↓exitQ_exit, saA_self, saO_self, if_pos, if_neg, wrapI, get_concat, set_concat, Int.toNat_natCast, Int.toNat_zero, List.nil_append, Nat.mul_one, decide_eq_true, decide_eq_false, Int.reduceLE, Int.reduceLT, Int.reduceNeg, Bool.false_or, Bool.true_or, Bool.or_false, Bool.or_true, wrapU, Int.reduceAdd, Int.reduceSub, Int.reduceMul, List.append_assoc, List.length_append, get_mid, get_mid0, set_mid, set_mid0, List.length_set, List.length_cons, List.length_nil, List.cons_append, List.getElem?_append_left, List.set_append_left, get_at, get_at0, set_at, set_at0, List.getElem?_set_self, List.getElem?_set_ne, rpC, cfC, memC, hone, hone2, hone3, a171, htl, h0]
    exact ⟨Keep.app _ _, tv, hv, v, by rw [rpC, cfC, h0]; rfl, ht.keep (.app _ _), hh.keep (.app _ _), (hs.keep (.app _ _)).ro, .inl rfl, .inl rfl⟩
  · have hx' := hx.resolve_left h0
    rw [opsP, if_neg h0]
    have hka := hok.a
    rcases (show s.a = 1 ∨ s.a = 2 ∨ s.a = 3 ∨ s.a = 4 ∨ s.a = 5 by omega) with ha | ha | ha | ha | ha
    · exact rpstep1 hs ht hh hok hx' ha
    · exact rpstep2 hs ht hh hok hx' ha
    · exact rpstep3 hs ht hh hok hx' ha
    · exact rpstep4 hs ht hh hok hx' ha
    · exact rpstep5 hs ht hh hok hx' ha
end Go.Am.F09
end
