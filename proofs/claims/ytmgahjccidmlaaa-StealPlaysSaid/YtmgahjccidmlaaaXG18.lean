import Derived.Test.YtmgahjccidmlaaaXG17
set_option linter.unusedSimpArgs false
set_option linter.unusedVariables false
section
namespace Go.Am.F10
open Go.Am.F06
theorem ringN_pos {c : Cf} {w : Int} (h : 0 < ringN c w) : sz w ≤ c.q ∧ (ringN c w : Int) = sz w := by
  have hs : 0 ≤ sz w := by unfold sz; omega
  unfold ringN at h ⊢
  split at h
  · rename_i hh; rw [if_pos hh]; exact ⟨hh, by omega⟩
  · omega
theorem dW_inj {w : Int} {d e : Nat} (hd : d ≤ 100) (he : e ≤ 100) (h : dW w d = dW w e) : d = e := by
  have h1 := hd_dW w d
  have h2 := hd_dW w e
  rw [h, h2] at h1
  omega
structure OI (c : Cf) (p : Int) (xs : List Int) (i d g : Nat) (s : GS) : Prop where
  dl : d ≤ (ringL c p xs).length
  gl : g ≤ d
  t0 : 0 ≤ s.tries
  t1 : s.tries ≤ g
  st : s.a = 0 ∨ ((s.a = 1 ∨ (s.a = 2 ∨ s.a = 3) ∧ ∃ e, e ≤ d ∧ e < (ringL c p xs).length ∧ s.w = dW (xs.getD (wrdN c p) 0) e ∧ (s.a = 3 → s.seen = (ringL c p xs).getD e 0) ∧ s.tries + (if e < d then 1 else 0) ≤ g) ∧ (i : Int) = 3 * s.tries + s.a - 1)
theorem OI.lt {c : Cf} {p : Int} {xs : List Int} {i d g : Nat} {s : GS} (h : OI c p xs i d g s) (ha : s.a ≠ 0) : i < 200 := by
  have hle := ringL_le c p xs
  obtain ⟨h1, h2, h3, h4, h5⟩ := h
  rcases h5 with h5 | ⟨h5, h6⟩
  · exact absurd h5 ha
  · have : s.a ≤ 3 := by
      rcases h5 with h5 | ⟨h5, _⟩ <;> omega
    omega
theorem OI.step {c : Cf} {p : Int} {xs : List Int} {i d g : Nat} {s : GS} (h : OI c p xs i d g s) (hx : OkL c xs) (hp : thereP c p) (ha : s.a ≠ 0) :
    ((stepG c p (dX c p xs d) s).1.a ≠ 0 ∧ (stepG c p (dX c p xs d) s).2 = dX c p xs d ∧ OI c p xs (i + 1) d g (stepG c p (dX c p xs d) s).1) ∨
    ((stepG c p (dX c p xs d) s).1.a = 0 ∧ (stepG c p (dX c p xs d) s).1.has = s.has ∧ (stepG c p (dX c p xs d) s).2 = dX c p xs d ∧ d = (ringL c p xs).length ∧ OI c p xs (i + 1) d g (stepG c p (dX c p xs d) s).1) ∨
    ((stepG c p (dX c p xs d) s).1.a = 0 ∧ (stepG c p (dX c p xs d) s).1.has = true ∧ d < (ringL c p xs).length ∧ (stepG c p (dX c p xs d) s).1.seen = (ringL c p xs).getD d 0 ∧ (stepG c p (dX c p xs d) s).2 = dX c p xs (d + 1) ∧ OI c p xs (i + 1) (d + 1) g (stepG c p (dX c p xs d) s).1) := by
  have hle := ringL_le c p xs
  have hw := dX_word hx hp d
  have hw64 := getD_64 hx.2 (wrdN c p)
  have hlen : (ringL c p xs).length = ringN c (xs.getD (wrdN c p) 0) := by rw [ringL_there hp, ringW_len]
  have hget : ∀ e, e < (ringL c p xs).length → (ringL c p xs).getD e 0 = ringAt c p xs (xs.getD (wrdN c p) 0) e := by
    intro e he
    rw [List.getD_eq_getElem?_getD, ringL_there hp, ringW_get _ _ _ _ (by omega)]; rfl
  have hnx := dX_next (c := c) (p := p) (xs := xs) d
  obtain ⟨h1, h2, h3, h4, h5⟩ := h
  obtain ⟨a, w, seen, has, tries⟩ := s
  simp only at ha h3 h4 h5
  generalize hw0 : xs.getD (wrdN c p) 0 = w0 at hw hw64 hlen hget h5 hnx
  rcases h5 with h5 | ⟨h5 | ⟨h5 | h5, e, e1, e2, e3, e4, e5⟩, h6⟩
  · exact absurd h5 ha
  · subst h5
    have hs : stepG c p (dX c p xs d) ⟨1, w, seen, has, tries⟩ = (⟨if sz (dW w0 d) = 0 ∨ c.q < sz (dW w0 d) then 0 else 2, dW w0 d, seen, has, tries⟩, dX c p xs d) := by
      simp only [stepG, hw, if_true]
    rw [hs]
    by_cases hz : sz (dW w0 d) = 0 ∨ c.q < sz (dW w0 d)
    · rw [if_pos hz]
      refine .inr (.inl ⟨rfl, rfl, rfl, ?_, h1, h2, h3, h4, .inl rfl⟩)
      rcases Nat.eq_zero_or_pos (ringN c w0) with h0 | h0
      · omega
      · obtain ⟨q1, q2⟩ := ringN_pos h0
        have := dW_sz (w := w0) (i := d) (by omega)
        omega
    · rw [if_neg hz]
      refine .inl ⟨by simp, rfl, h1, h2, h3, h4, .inr ⟨.inr ⟨.inl rfl, d, Nat.le_refl _, ?_, by rw [hw0], fun hh => by simp at hh, by rw [if_neg (Nat.lt_irrefl _)]; simp only; omega⟩, by simp only; omega⟩⟩
      by_cases hq : sz w0 ≤ c.q
      · have h0 : ringN c w0 = (sz w0).toNat := if_pos hq
        have hs0 : 0 ≤ sz w0 := by unfold sz; omega
        have := dW_sz (w := w0) (i := d) (by omega)
        omega
      · have h0 : ringN c w0 = 0 := if_neg hq
        have hd0 : d = 0 := by omega
        subst hd0
        rw [dW_zero hw64] at hz
        omega
  · subst h5
    have hhd : 0 ≤ hd (dW w0 e) := by rw [hd_dW]; omega
    have hsl := dX_slot (xs := xs) hp d hhd
    rw [hd_dW] at hsl
    have hs : stepG c p (dX c p xs d) ⟨2, w, seen, has, tries⟩ = (⟨3, w, ringAt c p xs w0 e, has, tries⟩, dX c p xs d) := by
      simp only [stepG, if_neg (show ¬ ((2 : Int) = 1) by decide), if_true, e3, sltN, hd_dW, hsl, ringAt]
    rw [hs]
    refine .inl ⟨by simp, rfl, h1, h2, h3, h4, .inr ⟨.inr ⟨.inr rfl, e, e1, e2, by rw [hw0]; exact e3, fun _ => (hget e e2).symm, e5⟩, by simp only; omega⟩⟩
  · subst h5
    try simp only at e3 e4
    by_cases heq : dW w0 d = w
    · have hde : d = e := dW_inj (w := w0) (by omega) (by omega) (by rw [heq, e3])
      have hs : stepG c p (dX c p xs d) ⟨3, w, seen, has, tries⟩ = (⟨0, w, seen, true, tries⟩, dX c p xs (d + 1)) := by
        rw [hde] at hw hnx
        simp only [stepG, if_neg (show ¬ ((3 : Int) = 1) by decide), if_neg (show ¬ ((3 : Int) = 2) by decide), if_true, hde, hw, e3, dW_gain, hnx]
      rw [hs]
      refine .inr (.inr ⟨rfl, rfl, by omega, ?_, rfl, by omega, by omega, h3, h4, .inl rfl⟩)
      rw [hde]; exact e4 trivial
    · have hs : stepG c p (dX c p xs d) ⟨3, w, seen, has, tries⟩ = (⟨1, w, seen, has, tries + 1⟩, dX c p xs d) := by
        have ew : IntKind.i64.wrap (tries + 1) = tries + 1 := wrapI (by omega) (by omega)
        simp only [stepG, if_neg (show ¬ ((3 : Int) = 1) by decide), if_neg (show ¬ ((3 : Int) = 2) by decide), if_true, hw, if_neg heq, ew]
      have hne : e < d := by
        rcases Nat.lt_or_ge e d with h | h
        · exact h
        · exact absurd (by rw [e3]; congr 1; omega) heq
      rw [if_pos hne] at e5
      rw [hs]
      exact .inl ⟨by simp, rfl, h1, h2, by simp only; omega, by simp only at e5 ⊢; omega, .inr ⟨.inl rfl, by simp only; omega⟩⟩
end Go.Am.F10
end
section
namespace Go.Am.F10
open Go.Am.F06
section
variable {X : Type}
def q3 (k : Int) : Int := if k = 0 then 2 else if k = 1 then 4 else 8
def dropA (v : AV) (k : Nat) : AV := match v with | .sl q o n none => .sl q (o + k) (n - k) none | v => v
theorem _root_.Go.Am.F10.Nx.put {m : Mem X} {v : AV} (h : Nx m v) {b : Nat} (hb : ∀ ro L, m[b]? ≠ some (.cells 1 ro L)) (C : Chunk X) : Nx (m.set b C) v := by
  rcases h with h | ⟨q, o, n, l, h1, h2⟩
  · exact .inl h
  · refine .inr ⟨q, o, n, l, h1, ?_⟩
    rw [List.getElem?_set_ne (fun hq => hb _ _ (by rw [hq]; exact h2))]; exact h2
theorem _root_.Go.Am.F10.Nx.keep {m m' : Mem X} {v : AV} (h : Nx m v) (k : Keep m m') : Nx m' v := by
  rcases h with h | ⟨q, o, n, l, h1, h2⟩
  · exact .inl h
  · exact .inr ⟨q, o, n, l, h1, k.get h2⟩
theorem si_drop {m : Mem X} {wr : Bool} {xs : List Int} {v : AV} (h : SI m wr xs v) (hn : Nx m v) {k : Nat} (hk : k ≤ xs.length) : sliceA m 1 v (some k) none none = some (dropA v k) ∧ SI m wr (xs.drop k) (dropA v k) := by
  rcases hn with rfl | ⟨q, o, n, l, rfl, hq⟩
  · have h0 : xs.length = 0 := by
      rcases h.2 with ⟨_, h⟩ | ⟨_, _, _, h, _⟩
      · exact h
      · cases h
    have hx : xs = [] := List.length_eq_zero_iff.1 h0
    subst hx
    have : k = 0 := by simpa using hk
    subst this
    exact ⟨rfl, Sl.nil⟩
  · have hnl : n = xs.length := by have := h.len; simp only [lenA, Option.some.injEq] at this; exact this
    subst hnl
    refine ⟨?_, ?_, .inr ⟨q, o + k, none, by rw [List.length_drop]; rfl, fun h0 => ?_⟩⟩
    · simp only [sliceA, getC_gcO, hq, gcO_cells, Option.getD_none, Option.getD_some]
      rw [if_pos ⟨trivial, by omega, by omega⟩, Nat.mul_one]; rfl
    · rw [iC_len]; omega
    · rw [List.length_drop] at h0 ⊢
      obtain ⟨q', o', cap', ro, L, hv, h2, h3, h4, h5⟩ := h.at (by omega)
      injection hv with v1 v2 v3 v4; subst v1; subst v2; subst v4
      refine ⟨ro, L, h2, ?_, by omega, h5⟩
      rw [iC, List.map_drop, ← iC, ← h3, List.drop_take, List.drop_drop]
      congr 1; omega
theorem si_row {m : Mem X} {wr : Bool} {xs : List Int} {v : AV} (h : SI m wr xs v) : rowOf m 1 v = some (iC xs) := by
  rcases h.2 with ⟨rfl, h0⟩ | ⟨q, o, cap, rfl, h2⟩
  · have hx : xs = [] := List.length_eq_zero_iff.1 h0
    subst hx; rfl
  · by_cases h0 : xs.length = 0
    · have hx : xs = [] := List.length_eq_zero_iff.1 h0
      subst hx; rfl
    · obtain ⟨ro, L, h3, h4, h5, _⟩ := h2 (by omega)
      simp only [rowOf, Am.getC, h3]
      rw [if_neg h0, if_pos h5, h4]
theorem own_pushs {m0 m : Mem X} {wr : Bool} {xs ys : List Int} {v y : AV} (h : Own m0 m 1 xs.length (iC xs) v) (hy : SI m wr ys y) (hl : xs.length ≤ 100000) (hl2 : ys.length ≤ 100000) (hm : m0.length ≤ m.length) :
    ∃ v' m', appendA 1 8 v y m = some (v', m') ∧ Own m0 m' 1 (xs ++ ys).length (iC (xs ++ ys)) v' ∧ m.length ≤ m'.length ∧ (∀ i, i < m.length → (∀ ys, m[i]? ≠ some (.cells 1 false (iC ys))) ∨ i < m0.length → m'[i]? = m[i]?) := by
  have hr := si_row hy
  have hlen := hy.len
  by_cases h0 : ys.length = 0
  · have hx : ys = [] := List.length_eq_zero_iff.1 h0
    subst hx
    rw [List.append_nil]
    rcases h with ⟨h1, h2, rfl⟩ | ⟨q, rfl, hq, h2, h3⟩
    · exact ⟨.nils, m, by simp only [appendA, hlen, hr, List.length_nil, if_true], .inl ⟨h1, h2, rfl⟩, Nat.le_refl _, fun i _ _ => rfl⟩
    · exact ⟨_, m, by simp only [appendA, hlen, hr, List.length_nil, if_true], .inr ⟨q, rfl, hq, h2, h3⟩, Nat.le_refl _, fun i _ _ => rfl⟩
  rcases h with ⟨h1, h2, rfl⟩ | ⟨q, rfl, hq, h2, h3⟩
  · have hxs : xs = [] := List.length_eq_zero_iff.1 h1
    subst hxs
    refine ⟨.sl m.length 0 ys.length none, m ++ [.cells 1 false (iC ys)], ?_, .inr ⟨_, by rw [List.nil_append], by rw [List.nil_append]; exact get_concat, hm, by simp⟩, by simp, fun i hi _ => List.getElem?_append_left hi⟩
    simp only [appendA, hlen, hr]
    rw [if_neg h0, if_pos ⟨by omega, by omega, iC_one _⟩]
  · refine ⟨.sl m.length 0 (xs.length + ys.length) none, m.set q .dead ++ [.cells 1 false (iC xs ++ iC ys)], ?_, .inr ⟨_, by rw [List.length_append], ?_, hm, by simp⟩, by simp, fun i hi ho => ?_⟩
    · simp only [appendA, hlen, hr, Am.getC, hq]
      rw [if_neg h0, if_pos]
      · rw [List.drop_zero, Nat.mul_one, List.take_of_length_le (by rw [iC_len]; omega)]
      · refine ⟨trivial, by rw [iC_len]; omega, by omega, by omega, ?_⟩
        rw [List.drop_zero, Nat.mul_one, List.take_of_length_le (by rw [iC_len]; omega), List.all_append, iC_one, iC_one]; rfl
    · rw [show m.length = (m.set q .dead).length by simp, get_concat]; simp [iC]
    · have hqi : q ≠ i := by
        rintro rfl
        rcases ho with ho | ho
        · exact ho _ hq
        · omega
      rw [List.getElem?_append_left (by simpa using hi), List.getElem?_set_ne hqi]
end
end Go.Am.F10
end
section
namespace Go.Am.F10
open Go.Am.F06
end Go.Am.F10
end
section
namespace Go.Am.F10
open Go.Am.F06
end Go.Am.F10
end
section
namespace Go.Am.F10
open Go.Am.F06
end Go.Am.F10
end
section
namespace Go.Am.F10
open Go.Am.F06
def Rw (m : MM) (q n sz : Nat) (l : List AV) (v : AV) : Prop := (n = 0 ∧ l = [] ∧ v = .nils) ∨ (0 < n ∧ v = .sl q 0 n none ∧ m[q]? = some (.cells sz false l))
theorem Rw.nil {m : MM} {q sz : Nat} : Rw m q 0 sz [] .nils := .inl ⟨rfl, rfl, rfl⟩
theorem Rw.sl {m : MM} {q n sz : Nat} {l : List AV} {v : AV} (h : Rw m q n sz l v) (hl : l.length = n * sz) : Sl m false sz n l v := by
  rcases h with ⟨rfl, rfl, rfl⟩ | ⟨_, rfl, h⟩
  · exact Sl.nil
  · exact ⟨hl, .inr ⟨q, 0, none, rfl, fun _ => ⟨false, l, h, by rw [List.drop_zero, ← hl, List.take_length], by omega, fun h => by cases h⟩⟩⟩
theorem Rw.lt {m : MM} {q n sz : Nat} {l : List AV} {v : AV} (h : Rw m q n sz l v) (hn : 0 < n) : q < m.length := by
  rcases h with ⟨rfl, _⟩ | ⟨_, _, h⟩
  · omega
  · exact (List.getElem?_eq_some_iff.1 h).1
theorem Rw.keep {m m' : MM} {q n sz : Nat} {l : List AV} {v : AV} (h : Rw m q n sz l v) (hq : 0 < n → m'[q]? = m[q]?) : Rw m' q n sz l v := by
  rcases h with h | ⟨h1, h2, h3⟩
  · exact .inl h
  · exact .inr ⟨h1, h2, by rw [hq h1]; exact h3⟩
theorem Rw.one {m : MM} {q n sz : Nat} {l : List AV} {v : AV} (h : Rw m q n sz l v) : v.one = true := by
  rcases h with ⟨_, _, rfl⟩ | ⟨_, rfl, _⟩ <;> rfl
theorem Rw.push {m : MM} {q n sz bytes : Nat} {l x : List AV} {v : AV} (h : Rw m q n sz l v) (hl : l.length = n * sz) (hx : x.length = sz) (h0 : l.all AV.one = true) (h1 : x.all AV.one = true) (hn : n ≤ 1000) (hb : bytes ≤ 100) :
    ∃ v' m', appendA sz bytes v (.sl m.length 0 1 (some 1)) (m ++ [.cells sz false x]) = some (v', m') ∧ Rw m' (m.length + 1) (n + 1) sz (l ++ x) v' ∧ m.length ≤ m'.length ∧ ∀ i, i < m.length → (n = 0 ∨ i ≠ q) → m'[i]? = m[i]? := by
  have hg : (m ++ [Chunk.cells sz false x])[m.length]? = some (.cells sz false x) := get_concat
  rcases h with ⟨rfl, rfl, rfl⟩ | ⟨hp, rfl, hq⟩
  · refine ⟨_, _, append_nils hg hx h1 (by omega), .inr ⟨by omega, by simp, ?_⟩, by simp <;> omega, fun i hi _ => ?_⟩
    · rw [show m.length + 1 = (m ++ [Chunk.cells sz false x]).length by simp, get_concat]; rfl
    · rw [List.getElem?_append_left (by simp <;> omega), List.getElem?_append_left hi]
  · have hql : q < m.length := (List.getElem?_eq_some_iff.1 hq).1
    have hq' : (m ++ [Chunk.cells sz false x])[q]? = some (.cells sz false l) := by rw [List.getElem?_append_left hql]; exact hq
    have hb2 : (n + 1) * bytes ≤ 35184372088832 := Nat.le_trans (Nat.mul_le_mul (show n + 1 ≤ 1001 by omega) hb) (by decide)
    refine ⟨_, _, append_none hq' hl hg hx h0 h1 hb2 (by omega), .inr ⟨by omega, by simp, ?_⟩, by simp <;> omega, fun i hi ho => ?_⟩
    · rw [show m.length + 1 = ((m ++ [Chunk.cells sz false x]).set q .dead).length by simp, get_concat]
    · have hqi : q ≠ i := by omega
      rw [List.getElem?_append_left (by simp <;> omega), List.getElem?_set_ne hqi, List.getElem?_append_left hi]
end Go.Am.F10
end
section
namespace Go.Am.F09
variable {X : Type}
def c_conf_within : AFun X := amFunc [] conf_within
def c_conf_Config_Right : AFun X := amFunc [(176, c_conf_within)] conf_Config_Right
def c_conf_own_at : AFun X := amFunc [(157, c_conf_Config_Right), (176, c_conf_within)] conf_own_at
def c_conf_Config_Slot : AFun X := amFunc [(157, c_conf_Config_Right), (177, c_conf_own_at)] conf_Config_Slot
def c_put_NewLay_1 : AFun X := amFunc [] put_NewLay_1
def c_conf_Config_Word : AFun X := amFunc [(177, c_conf_own_at)] conf_Config_Word
def c_put_from : AFun X := amFunc [(159, c_conf_Config_Word)] put_from
def c_word_Tail : AFun X := amFunc [] word_Tail
def c_word_Head : AFun X := amFunc [] word_Head
def c_put_ring_slot : AFun X := amFunc [(182, c_word_Tail), (160, c_conf_Config_Slot)] put_ring_slot
def c_word_Pack : AFun X := amFunc [] word_Pack
def c_word_Grow : AFun X := amFunc [(179, c_word_Head), (182, c_word_Tail), (183, c_word_Pack)] word_Grow
def c_slices_Clone_int : AFun X := amFunc [] slices_Clone_int
def c_put_Lay_Done : AFun X := amFunc [] put_Lay_Done
end Go.Am.F09
end
section
namespace Go.Am.F09
variable {X : Type}
end Go.Am.F09
end
section
namespace Go.Am.F09
variable {X : Type}
end Go.Am.F09
end
section
namespace Go.Am.F09
open Go.Am.F06 Go.Am.F10
section
variable {X : Type}
def growW (w n : Int) : Int := pk (hd w) ((tl w + n) % 4294967296)
def dropW (w n : Int) : Int := pk (hd w) ((tl w - n) % 4294967296)
theorem grow_64 {w : Int} (h : W64 w) (n : Int) : W64 (growW w n) := by
  have := hd_b h
  unfold growW pk W64; omega
theorem drop_64 {w : Int} (h : W64 w) (n : Int) : W64 (dropW w n) := by
  have := hd_b h
  unfold dropW pk W64; omega
theorem grow_eq (m : Mem X) {w n : Int} (h : W64 w) : c_word_Grow [.int .u64 w, .int .u32 n] m = some (.int .u64 (growW w n), m) := by
  have a179 : assoc [(179, F10.c_word_Head (X := X)), (182, F10.c_word_Tail), (183, F10.c_word_Pack)] 179 = some F10.c_word_Head := rfl
  have a182 : assoc [(179, F10.c_word_Head (X := X)), (182, F10.c_word_Tail), (183, F10.c_word_Pack)] 182 = some F10.c_word_Tail := rfl
  have a183 : assoc [(179, F10.c_word_Head (X := X)), (182, F10.c_word_Tail), (183, F10.c_word_Pack)] 183 = some F10.c_word_Pack := rfl
  have he : c_word_Grow (X := X) = amFunc [(179, F10.c_word_Head), (182, F10.c_word_Tail), (183, F10.c_word_Pack)] word_Grow := rfl
  rw [he]
  generalize [(179, F10.c_word_Head (X := X)), (182, F10.c_word_Tail), (183, F10.c_word_Pack)] = G at a179 a182 a183 ⊢
  have hh := hd_b h
  have h1 := head_eq m h
  have h2 := tail_eq m w
  have hw : IntKind.u32.wrap (tl w + n) = (tl w + n) % 4294967296 := wrap32 _
  have h3 := pack_eq m (h := hd w) (t := (tl w + n) % 4294967296) hh.1 hh.2 (by omega) (by omega)
  refine Fn_eq (Fn_of rfl ?_)
  simp (disch := first | assumption | omega | (simp only [zl] <;> omega) | (simp only [zn])) only [word_Grow, ↓zd, zk, Nat.reduceSub, Nat.reduceAdd, Nat.reduceMul, Nat.reduceLeDiff, Nat.reduceEqDiff, reduceIte, Int.reduceEq, Int.reduceBEq, Int.reduceLE, Int.reduceLT, Int.reduceNeg, Int.reduceAdd, Int.reduceSub, Int.reduceMul, List.map, AV.cells, List.all, AV.one, eqV, eqAll, splice, fillA, List.replicate, resAll, resA, zm, zg, a179, a182, a183, h1, h2, hw, h3, growW]
def rgC (c : Cf) (p a w k : Int) (T : List AV) : List AV := cfC c ++ (.int .i64 p :: .int .i64 a :: .int .u64 w :: .int .u32 k :: T)
def pslA (c : Cf) (p w i : Int) : Int := slotA c p ((tl w + i) % 4294967296)
theorem psl_b {c : Cf} {p w i : Int} (h : thereP c p) : 0 ≤ pslA c p w i ∧ pslA c p w i < cellsN c := slot_b h (Int.emod_nonneg _ (by omega))
theorem slot_eq {m : Mem X} {xj z : Nat} {c : Cf} {p a w k i : Int} {T : List AV} (hx : m[xj]? = some (.cells z false (rgC c p a w k T))) (hr : rightP c) : c_put_ring_slot [.ptr xj 0, .int .i64 i] m = some (.int .i64 (pslA c p w i), m ++ [.cells 6 false (cfC c), .cells 6 false (cfC c), .cells 7 false (cfC c ++ [.int .i64 p]), .cells 6 false (cfC c)]) := by
  have a182 : assoc [(182, F10.c_word_Tail (X := X)), (160, F10.c_conf_Config_Slot)] 182 = some F10.c_word_Tail := rfl
  have a160 : assoc [(182, F10.c_word_Tail (X := X)), (160, F10.c_conf_Config_Slot)] 160 = some F10.c_conf_Config_Slot := rfl
  have he : c_put_ring_slot (X := X) = amFunc [(182, F10.c_word_Tail), (160, F10.c_conf_Config_Slot)] put_ring_slot := rfl
  rw [he]
  generalize [(182, F10.c_word_Tail (X := X)), (160, F10.c_conf_Config_Slot)] = G at a182 a160 ⊢
  have h2 := tail_eq m w
  have hw : IntKind.u32.wrap (tl w + IntKind.u32.wrap i) = (tl w + i) % 4294967296 := by rw [wrap32, wrap32]; omega
  have hs := slot_eqR m hr p (i := (tl w + i) % 4294967296) (by omega) (by omega)
  have hp : slotA c p ((tl w + i) % 4294967296) = pslA c p w i := rfl
  simp only [rgC, cfC, List.cons_append, List.nil_append] at hx hs
  refine Fn_eq (Fn_of rfl ?_)
  simp (disch := first | assumption | omega | (simp only [zl] <;> omega) | (simp only [zn])) only [put_ring_slot, ↓zd, zk, Nat.reduceSub, Nat.reduceAdd, Nat.reduceMul, Nat.reduceLeDiff, Nat.reduceEqDiff, reduceIte, Int.reduceEq, Int.reduceBEq, Int.reduceLE, Int.reduceLT, Int.reduceNeg, Int.reduceAdd, Int.reduceSub, Int.reduceMul, List.map, AV.cells, List.all, AV.one, eqV, eqAll, splice, fillA, List.replicate, resAll, resA, zm, zg, cfC, hx, a182, h2, hw, a160, hs, hp]
end
def Grl : List (Nat × AFun Ob) := [(159, F10.c_conf_Config_Word), (24, memF loadS), (178, F10.c_word_Len)]
def RlP (m : MM) (xj j z : Nat) (c : Cf) (p a : Int) (T : List AV) (xs : List Int) (o : Int) (r : AV) (m' : MM) : Prop := r = .int .u32 (sz (xs.getD (wrdN c p) 0)) ∧ KeepX xj j m m' ∧ m'[xj]? = some (.cells z false (rgC c p a (xs.getD (wrdN c p) 0) 0 T)) ∧ ∃ st', m'[j]? = some (.abs (.mem st')) ∧ RelM xs o st'
set_option maxHeartbeats 8000000 in
theorem rload_run {m : MM} {c : Cf} {p a w k o : Int} {T : List AV} {xs : List Int} {xj j z : Nat} {st : MemSt} (hx : m[xj]? = some (.cells z false (rgC c p a w k T))) (hj : m[j]? = some (.abs (.mem st))) (hr : RelM xs o st) (hO : OkL c xs) (hp : thereP c p) :
    Fn Grl put_ring_load [.ptr xj 0, .ptr j 0] m (RlP m xj j z c p a T xs (IntKind.u64.wrap (o + 1))) := by
  have a159 : assoc Grl 159 = some F10.c_conf_Config_Word := rfl
  have a24 : assoc Grl 24 = some (memF loadS) := rfl
  have a178 : assoc Grl 178 = some F10.c_word_Len := rfl
  generalize Grl = G at a159 a24 a178 ⊢
  have hij : xj ≠ j := fun h => by rw [h, hj] at hx; cases hx
  have lx : xj < m.length := (List.getElem?_eq_some_iff.1 hx).1
  have lj : j < m.length := (List.getElem?_eq_some_iff.1 hj).1
  have hxl := hO.1
  have hcn := cellsN_le c
  have hb := there_bounds hp
  have ha0 := addr_b hp (i := 0) (by omega) (by omega)
  have hthr : thr xs (addrA c p 0) := ⟨by omega, by omega⟩
  have hwt : (addrA c p 0).toNat = wrdN c p := rfl
  have hg := getD_64 hO.2 (wrdN c p)
  obtain ⟨st', r', _, f24, _⟩ := hr.loadE hthr
  rw [hwt] at f24
  generalize hw' : xs.getD (wrdN c p) 0 = w' at hg f24
  have f24' := fun K => f24 m K j hj
  have hwr := fun m : MM => word_run (m := m) c p
  have hz := fun m : MM => len_eq m hg
  simp only [rgC, cfC, List.cons_append, List.nil_append] at hx hwr
  refine Fn_of rfl ?_
  simp (disch := first | assumption | omega | (simp only [zl] <;> omega) | (simp only [zn])) only [put_ring_load, ↓zd, zk, Nat.reduceSub, Nat.reduceAdd, Nat.reduceMul, Nat.reduceLeDiff, Nat.reduceEqDiff, reduceIte, Int.reduceEq, Int.reduceBEq, Int.reduceLE, Int.reduceLT, Int.reduceNeg, Int.reduceAdd, Int.reduceSub, Int.reduceMul, List.map, AV.cells, List.all, AV.one, eqV, eqAll, splice, fillA, List.replicate, resAll, resA, zm, zg, cfC, hx, a159, hwr, a24, f24', a178, hz, List.set_set]
  unfold RlP
  rw [hw']
  refine ⟨rfl, ?_, ?_, st', ?_, r'⟩
  · refine ⟨by simp, fun a ha h1 h2 => ?_⟩
    rw [List.getElem?_append_left (by simpa using ha), List.getElem?_set_ne (fun h => h1 h.symm), List.getElem?_set_ne (fun h => h2 h.symm)]
  · rw [List.getElem?_append_left (by simpa using lx), List.getElem?_set_self (by simpa using lx)]; rfl
  · rw [List.getElem?_append_left (by simpa using lj), List.getElem?_set_ne hij, List.getElem?_set_self lj]
def Gch : List (Nat × AFun Ob) := [(159, F10.c_conf_Config_Word), (23, memF casS)]
def ChP (m : MM) (xj j z : Nat) (c : Cf) (p w k : Int) (T : List AV) (xs : List Int) (next o : Int) (r : AV) (m' : MM) : Prop := r = .bool (decide (xs.getD (wrdN c p) 0 = w)) ∧ KeepX xj j m m' ∧ m'[xj]? = some (.cells z false (rgC c p (if xs.getD (wrdN c p) 0 = w then 0 else 1) w k T)) ∧ ∃ st', m'[j]? = some (.abs (.mem st')) ∧ RelM (if xs.getD (wrdN c p) 0 = w then xs.set (wrdN c p) next else xs) o st'
set_option maxHeartbeats 8000000 in
theorem change_run {m : MM} {c : Cf} {p a w k o next : Int} {T : List AV} {xs : List Int} {xj j z : Nat} {st : MemSt} (hx : m[xj]? = some (.cells z false (rgC c p a w k T))) (hj : m[j]? = some (.abs (.mem st))) (hr : RelM xs o st) (hO : OkL c xs) (hp : thereP c p) :
    Fn Gch put_ring_change [.ptr xj 0, .ptr j 0, .int .u64 next] m (ChP m xj j z c p w k T xs next (IntKind.u64.wrap (o + 1))) := by
  have a159 : assoc Gch 159 = some F10.c_conf_Config_Word := rfl
  have a23 : assoc Gch 23 = some (memF casS) := rfl
  generalize Gch = G at a159 a23 ⊢
  have hij : xj ≠ j := fun h => by rw [h, hj] at hx; cases hx
  have lx : xj < m.length := (List.getElem?_eq_some_iff.1 hx).1
  have lj : j < m.length := (List.getElem?_eq_some_iff.1 hj).1
  have hxl := hO.1
  have hcn := cellsN_le c
  have hb := there_bounds hp
  have ha0 := addr_b hp (i := 0) (by omega) (by omega)
  have hthr : thr xs (addrA c p 0) := ⟨by omega, by omega⟩
  have hwt : (addrA c p 0).toNat = wrdN c p := rfl
  obtain ⟨st', r', _, f23, _⟩ := hr.casE hthr w next
  rw [hwt] at f23 r'
  have f23' := fun K => f23 m K j hj
  have hwr := fun m : MM => word_run (m := m) c p
  simp only [rgC, cfC, List.cons_append, List.nil_append] at hx hwr
  refine Fn_of rfl ?_
  by_cases heq : xs.getD (wrdN c p) 0 = w
  · have hd : decide (xs.getD (wrdN c p) 0 = w) = true := decide_eq_true heq
    simp only [hd] at f23'
    simp (disch := first | assumption | omega | (simp only [zl] <;> omega) | (simp only [zn])) only [put_ring_change, ↓zd, zk, Nat.reduceSub, Nat.reduceAdd, Nat.reduceMul, Nat.reduceLeDiff, Nat.reduceEqDiff, reduceIte, Int.reduceEq, Int.reduceBEq, Int.reduceLE, Int.reduceLT, Int.reduceNeg, Int.reduceAdd, Int.reduceSub, Int.reduceMul, List.map, AV.cells, List.all, AV.one, eqV, eqAll, splice, fillA, List.replicate, resAll, resA, zm, zg, cfC, hx, a159, hwr, a23, f23', List.set_set]
    unfold ChP
    rw [if_pos heq, if_pos heq, hd]
    rw [if_pos heq] at r'
    refine ⟨rfl, ?_, ?_, st', ?_, r'⟩
    · refine ⟨by simp, fun a ha h1 h2 => ?_⟩
      rw [List.getElem?_append_left (by simpa using ha), List.getElem?_set_ne (fun h => h1 h.symm), List.getElem?_set_ne (fun h => h2 h.symm)]
    · rw [List.getElem?_append_left (by simpa using lx), List.getElem?_set_self (by simpa using lx)]; rfl
    · rw [List.getElem?_append_left (by simpa using lj), List.getElem?_set_ne hij, List.getElem?_set_self lj]
  · have hd : decide (xs.getD (wrdN c p) 0 = w) = false := decide_eq_false heq
    simp only [hd] at f23'
    simp (disch := first | assumption | omega | (simp only [zl] <;> omega) | (simp only [zn])) only [put_ring_change, ↓zd, zk, Nat.reduceSub, Nat.reduceAdd, Nat.reduceMul, Nat.reduceLeDiff, Nat.reduceEqDiff, reduceIte, Int.reduceEq, Int.reduceBEq, Int.reduceLE, Int.reduceLT, Int.reduceNeg, Int.reduceAdd, Int.reduceSub, Int.reduceMul, List.map, AV.cells, List.all, AV.one, eqV, eqAll, splice, fillA, List.replicate, resAll, resA, zm, zg, cfC, hx, a159, hwr, a23, f23', List.set_set]
    unfold ChP
    rw [if_neg heq, if_neg heq, hd]
    rw [if_neg heq] at r'
    refine ⟨rfl, ?_, ?_, st', ?_, r'⟩
    · refine ⟨by simp, fun a ha h1 h2 => ?_⟩
      rw [List.getElem?_append_left (by simpa using ha), List.getElem?_set_ne (fun h => h1 h.symm), List.getElem?_set_ne (fun h => h2 h.symm)]
    · rw [List.getElem?_append_left (by simpa using lx), List.getElem?_set_self (by simpa using lx)]; rfl
    · rw [List.getElem?_append_left (by simpa using lj), List.getElem?_set_ne hij, List.getElem?_set_self lj]
end Go.Am.F09
end
section
namespace Go.Am.F09
open Go.Am.F06 Go.Am.F10
structure PS where
  a : Int
  w : Int
  tk : List Int
  hs : List Int
def putC (c : Cf) (p g : Int) (s : PS) (tv hv : AV) : List AV := rgC c p s.a s.w 0 [.int .i64 g, tv, hv]
def stepP (c : Cf) (p g : Int) (xs : List Int) (s : PS) : PS × List Int :=
  if s.a = 1 then ({ s with w := xs.getD (wrdN c p) 0, tk := [], a := if c.q ≤ sz (xs.getD (wrdN c p) 0) then 4 else 2 }, xs)
  else if s.a = 2 then ({ s with a := 3 }, xs.set (pslA c p s.w 0).toNat (IntKind.u64.wrap g))
  else if s.a = 3 then (if xs.getD (wrdN c p) 0 = s.w then ({ s with a := 0, hs := [] }, xs.set (wrdN c p) (growW s.w 1)) else ({ s with a := 1 }, xs))
  else if s.a = 4 then ({ s with tk := s.tk ++ [IntKind.i64.wrap (xs.getD (pslA c p s.w (s.tk.length - c.q / 2)).toNat 0)], a := if (s.tk.length : Int) + 1 = c.q / 2 then 5 else 4 }, xs)
  else if s.a = 5 then (if xs.getD (wrdN c p) 0 = s.w then ({ s with a := 0, hs := s.tk ++ [g] }, xs.set (wrdN c p) (dropW s.w (c.q / 2))) else ({ s with a := 1 }, xs))
  else (s, xs)
structure POk (c : Cf) (p : Int) (s : PS) : Prop where
  w : W64 s.w
  a : s.a = 0 ∨ (thereP c p ∧ (s.a = 1 ∨ s.a = 2 ∨ s.a = 3 ∨ (s.a = 4 ∧ (s.tk.length : Int) < c.q / 2) ∨ (s.a = 5 ∧ (s.tk.length : Int) = c.q / 2)))
  h : s.hs.length ≤ 100
def KeepT (xj j qt : Nat) (m m' : MM) : Prop := m.length ≤ m'.length ∧ ∀ i, i < m.length → i ≠ xj → i ≠ j → i ≠ qt → m'[i]? = m[i]?
theorem KeepX.t {xj j qt : Nat} {m m' : MM} (h : KeepX xj j m m') : KeepT xj j qt m m' := ⟨h.1, fun i hi h1 h2 _ => h.2 i hi h1 h2⟩
structure PM (m : MM) (xj : Nat) (c : Cf) (p g : Int) (s : PS) (qt : Nat) (tv hv : AV) : Prop where
  get : m[xj]? = some (.cells 13 false (putC c p g s tv hv))
  t : s.a = 4 ∨ s.a = 5 → Rw m qt s.tk.length 1 (iC s.tk) tv
  one : tv.one = true
  h : SI m false s.hs hv
  off : Off qt hv
theorem si_box {m : MM} {wr : Bool} {es : List Int} {v : AV} (h : SI m wr es v) {b : Nat} (hb : ∀ ro L, m[b]? ≠ some (.cells 1 ro L)) : Off b v := by
  intro q o n c hv h0 hq
  rcases h.2 with ⟨h1, _⟩ | ⟨q2, o2, c2, h1, h2⟩
  · rw [h1] at hv; cases hv
  · rw [h1] at hv; injection hv with e1 e2 e3 e4; subst e1; subst e3; subst hq
    obtain ⟨ro, L, h3, _⟩ := h2 h0
    exact hb ro L h3
theorem _root_.Go.Am.Sl.stay {m m' : MM} {wr : Bool} {sz n : Nat} {l : List AV} {v : AV} (h : Sl m wr sz n l v) (hk : ∀ q o cap, v = .sl q o n cap → 0 < n → m'[q]? = m[q]?) : Sl m' wr sz n l v := by
  refine ⟨h.1, ?_⟩
  rcases h.2 with h1 | ⟨q, o, cap, h1, h2⟩
  · exact .inl h1
  · refine .inr ⟨q, o, cap, h1, fun h0 => ?_⟩
    obtain ⟨ro, L, h3, h4⟩ := h2 h0
    exact ⟨ro, L, by rw [hk q o cap h1 h0]; exact h3, h4⟩
theorem _root_.Go.Am.Sl.lt {m : MM} {wr : Bool} {sz n : Nat} {l : List AV} {v : AV} (h : Sl m wr sz n l v) {q o : Nat} {cap : Option Nat} (hv : v = .sl q o n cap) (h0 : 0 < n) : q < m.length ∧ ∃ ro L, m[q]? = some (.cells sz ro L) := by
  rcases h.2 with ⟨h1, _⟩ | ⟨q2, o2, c2, h1, h2⟩
  · rw [h1] at hv; cases hv
  · rw [h1] at hv; injection hv with e1 e2 e3 e4; subst e1
    obtain ⟨ro, L, h3, _⟩ := h2 h0
    exact ⟨(List.getElem?_eq_some_iff.1 h3).1, ro, L, h3⟩
theorem KeepT.si {xj j qt : Nat} {m m' : MM} (h : KeepT xj j qt m m') (hxj : ∀ ro L, m[xj]? ≠ some (.cells 1 ro L)) (hj : ∀ ro L, m[j]? ≠ some (.cells 1 ro L)) {wr : Bool} {n : Nat} {l : List AV} {v : AV} (hs : Sl m wr 1 n l v) (ho : Off qt v) : Sl m' wr 1 n l v := hs.stay fun q o cap hv h0 => by
  obtain ⟨h1, ro, L, h2⟩ := hs.lt hv h0
  exact h.2 q h1 (fun hq => hxj ro L (by rw [← hq]; exact h2)) (fun hq => hj ro L (by rw [← hq]; exact h2)) (ho q o n cap hv h0)
end Go.Am.F09
end
section
namespace Go.Am.F09
open Go.Am.F06 Go.Am.F10
end Go.Am.F09
end
section
namespace Go.Am.F09
open Go.Am.F06 Go.Am.F10
def PsP (m : MM) (c : Cf) (p g : Int) (xj j qt : Nat) (hv : AV) (x : PS × List Int) (o : Int) (r : AV) (m' : MM) : Prop := r = .bool (decide (x.1.a = 0)) ∧ KeepT xj j qt m m' ∧ ∃ tv' hv' qt', PM m' xj c p g x.1 qt' tv' hv' ∧ (qt' = xj ∨ (m.length ≤ qt' ∧ qt' < m'.length) ∨ qt' = qt) ∧ (hv' = hv ∨ Fr m.length hv') ∧ ∃ st', m'[j]? = some (.abs (.mem st')) ∧ RelM x.2 o st'
theorem stepP_zero {c : Cf} {p g : Int} {s : PS} (h : s.a = 0) (xs : List Int) : stepP c p g xs s = (s, xs) := by
  unfold stepP; rw [if_neg (by omega), if_neg (by omega), if_neg (by omega), if_neg (by omega), if_neg (by omega)]
end Go.Am.F09
end
section
namespace Go.Am.F09
open Go.Am.F06 Go.Am.F10
def fromA (c : Cf) (p : Int) : Int := if thereP c p then 1 else 0
set_option maxHeartbeats 4000000 in
theorem from_eq {X : Type} (m : Mem X) (c : Cf) (p : Int) : c_put_from [.agg (cfC c), .int .i64 p] m = some (.agg (rgC c p (fromA c p) 0 0 []), m ++ [.cells 6 false (cfC c), .cells 10 false (rgC c p (fromA c p) 0 0 []), .cells 10 false (rgC c p (fromA c p) 0 0 []), .cells 6 false (cfC c), .cells 7 false (cfC c ++ [.int .i64 p]), .cells 6 false (cfC c)]) := by
  have a159 : assoc [(159, F10.c_conf_Config_Word (X := X))] 159 = some F10.c_conf_Config_Word := rfl
  have he : c_put_from (X := X) = amFunc [(159, F10.c_conf_Config_Word)] put_from := rfl
  rw [he]
  generalize [(159, F10.c_conf_Config_Word (X := X))] = G at a159 ⊢
  have hwr := fun m : Mem X => word_run (m := m) c p
  simp only [cfC, List.cons_append, List.nil_append] at hwr
  refine Fn_eq (Fn_of rfl ?_)
  by_cases h : thereP c p
  · have hb := there_bounds h
    have ha := addr_b h (i := 0) (by omega) (by omega)
    have ha0 := ha.1
    rw [fromA, if_pos h]
    simp (disch := first | assumption | omega | (simp only [zl] <;> omega) | (simp only [zn])) only [put_from, ↓zd, zk, Nat.reduceSub, Nat.reduceAdd, Nat.reduceMul, Nat.reduceLeDiff, Nat.reduceEqDiff, reduceIte, Int.reduceEq, Int.reduceBEq, Int.reduceLE, Int.reduceLT, Int.reduceNeg, Int.reduceAdd, Int.reduceSub, Int.reduceMul, List.map, AV.cells, List.all, AV.one, eqV, eqAll, splice, fillA, List.replicate, resAll, resA, zm, zg, cfC, a159, hwr, rgC, List.set_set]
  · have ha : addrA c p 0 = -1 := if_neg h
    rw [fromA, if_neg h]
    simp (disch := first | assumption | omega | (simp only [zl] <;> omega) | (simp only [zn])) only [put_from, ↓zd, zk, Nat.reduceSub, Nat.reduceAdd, Nat.reduceMul, Nat.reduceLeDiff, Nat.reduceEqDiff, reduceIte, Int.reduceEq, Int.reduceBEq, Int.reduceLE, Int.reduceLT, Int.reduceNeg, Int.reduceAdd, Int.reduceSub, Int.reduceMul, List.map, AV.cells, List.all, AV.one, eqV, eqAll, splice, fillA, List.replicate, resAll, resA, zm, zg, cfC, a159, hwr, rgC, ha, List.set_set]
def ClP (m : MM) (xs : List Int) (r : AV) (m' : MM) : Prop := Keep m m' ∧ SI m' true xs r ∧ Fr m.length r
theorem clone_run {m : MM} {wr : Bool} {xs : List Int} {v : AV} (h : SI m wr xs v) (hn : xs.length ≤ 100000) : Fn [] slices_Clone_int [v] m (ClP m xs) := by
  refine Fn_of rfl ?_
  rcases Nat.eq_zero_or_pos xs.length with h0 | h0
  · have hx0 : xs = [] := List.length_eq_zero_iff.1 h0
    subst hx0
    rcases h.2 with ⟨rfl, _⟩ | ⟨q, o, cap, rfl, _⟩
    · simp (disch := first | assumption | omega | (simp only [zl] <;> omega) | (simp only [zn])) only [slices_Clone_int, ↓zd, zk, Nat.reduceSub, Nat.reduceAdd, Nat.reduceMul, Nat.reduceLeDiff, Nat.reduceEqDiff, reduceIte, Int.reduceEq, Int.reduceBEq, Int.reduceLE, Int.reduceLT, Int.reduceNeg, Int.reduceAdd, Int.reduceSub, Int.reduceMul, List.map, AV.cells, List.all, AV.one, eqV, eqAll, splice, fillA, List.replicate, resAll, resA, zm, zg]
      exact ⟨.refl _, Sl.nil, .inl rfl⟩
    · have happ : appendA 1 8 (.sl m.length 0 0 (some 0)) (.sl q o 0 cap) (m ++ [.cells 1 false []]) = some (.sl m.length 0 0 (some 0), m ++ [.cells 1 false []]) := rfl
      simp (disch := first | assumption | omega | (simp only [zl] <;> omega) | (simp only [zn])) only [slices_Clone_int, ↓zd, zk, Nat.reduceSub, Nat.reduceAdd, Nat.reduceMul, Nat.reduceLeDiff, Nat.reduceEqDiff, reduceIte, Int.reduceEq, Int.reduceBEq, Int.reduceLE, Int.reduceLT, Int.reduceNeg, Int.reduceAdd, Int.reduceSub, Int.reduceMul, List.map, AV.cells, List.all, AV.one, eqV, eqAll, splice, fillA, List.replicate, resAll, resA, zm, zg, evA, fillA, repeatL, List.flatten_nil, happ, List.length_nil]
      exact ⟨.app _ _, ⟨rfl, .inr ⟨_, _, _, rfl, fun h => absurd h (Nat.lt_irrefl _)⟩⟩, .inr ⟨_, _, _, _, rfl, Nat.le_refl _⟩⟩
  · obtain ⟨q, o, cap, ro, L, rfl, h2, h3, h4, h5⟩ := h.at h0
    have hq : q < m.length := (List.getElem?_eq_some_iff.1 h2).1
    have hrow : rowOf (m ++ [Chunk.cells 1 false []]) 1 (.sl q o xs.length cap) = some (iC xs) := by
      simp only [rowOf, Am.getC]
      rw [List.getElem?_append_left hq, h2]
      simp only
      rw [if_neg (by omega), if_pos h4, h3]
    have hz : rowOf (m ++ [Chunk.cells 1 false []]) 1 (.sl m.length 0 0 (some 0)) = some [] := rfl
    have happ : appendA 1 8 (.sl m.length 0 0 (some 0)) (.sl q o xs.length cap) (m ++ [.cells 1 false []]) = some (.sl (m.length + 1) 0 xs.length none, m ++ [.cells 1 false [], .cells 1 false (iC xs)]) := by
      simp only [appendA, lenA, hrow, hz]
      rw [if_neg (by omega), if_neg (by omega), if_pos ⟨by omega, by omega, iC_one _⟩]
      simp
    simp (disch := first | assumption | omega | (simp only [zl] <;> omega) | (simp only [zn])) only [slices_Clone_int, ↓zd, zk, Nat.reduceSub, Nat.reduceAdd, Nat.reduceMul, Nat.reduceLeDiff, Nat.reduceEqDiff, reduceIte, Int.reduceEq, Int.reduceBEq, Int.reduceLE, Int.reduceLT, Int.reduceNeg, Int.reduceAdd, Int.reduceSub, Int.reduceMul, List.map, AV.cells, List.all, AV.one, eqV, eqAll, splice, fillA, List.replicate, resAll, resA, zm, zg, evA, fillA, repeatL, List.flatten_nil, happ]
    exact ⟨.app _ _, ⟨by rw [iC_len]; omega, .inr ⟨_, _, _, rfl, fun _ => ⟨false, iC xs, by rw [get_mid]; rfl, by rw [List.drop_zero, Nat.mul_one, List.take_of_length_le (by rw [iC_len]; omega)], by rw [iC_len]; omega, fun _ => rfl⟩⟩⟩, .inr ⟨_, _, _, _, rfl, by omega⟩⟩
def Gpo : List (Nat × AFun Ob) := [(208, c_slices_Clone_int)]
end Go.Am.F09
end
section
namespace Go.Am.F09
open Go.Am.F06 Go.Am.F10
theorem POk.step {c : Cf} {p g : Int} {s : PS} {xs : List Int} (h : POk c p s) (hx : s.a = 0 ∨ OkL c xs) : POk c p (stepP c p g xs s).1 := by
  rcases hx with h0 | hx
  · rw [stepP_zero h0]; exact h
  obtain ⟨h1, h2, h3⟩ := h
  have hg := getD_64 hx.2 (wrdN c p)
  obtain ⟨a, w, tk, hs⟩ := s
  simp only at h1 h2 h3
  rcases h2 with h2 | ⟨hp, h2⟩
  · subst h2; rw [stepP_zero rfl]; exact ⟨h1, .inl rfl, h3⟩
  have hb := there_bounds hp
  rcases h2 with rfl | rfl | rfl | ⟨rfl, h2⟩ | ⟨rfl, h2⟩
  · refine ⟨hg, .inr ⟨hp, ?_⟩, h3⟩
    simp only [stepP, if_true]
    by_cases hq : c.q ≤ sz (xs.getD (wrdN c p) 0)
    · simp only [if_pos hq, List.length_nil]; exact .inr (.inr (.inr (.inl ⟨trivial, by omega⟩)))
    · simp only [if_neg hq]; exact .inr (.inl trivial)
  · exact ⟨h1, .inr ⟨hp, by simp [stepP]⟩, h3⟩
  · by_cases heq : xs.getD (wrdN c p) 0 = w
    · have : stepP c p g xs ⟨3, w, tk, hs⟩ = (⟨0, w, tk, []⟩, xs.set (wrdN c p) (growW w 1)) := if_pos heq
      rw [this]; exact ⟨h1, .inl rfl, by simp⟩
    · have : stepP c p g xs ⟨3, w, tk, hs⟩ = (⟨1, w, tk, hs⟩, xs) := if_neg heq
      rw [this]; exact ⟨h1, .inr ⟨hp, .inl rfl⟩, h3⟩
  · refine ⟨h1, .inr ⟨hp, ?_⟩, h3⟩
    simp only [stepP, List.length_append, List.length_cons, List.length_nil]
    by_cases hq : (tk.length : Int) + 1 = c.q / 2
    · simp [hq]
    · simp [hq]; omega
  · by_cases heq : xs.getD (wrdN c p) 0 = w
    · have : stepP c p g xs ⟨5, w, tk, hs⟩ = (⟨0, w, tk, tk ++ [g]⟩, xs.set (wrdN c p) (dropW w (c.q / 2))) := if_pos heq
      rw [this]; exact ⟨h1, .inl rfl, by simp <;> omega⟩
    · have : stepP c p g xs ⟨5, w, tk, hs⟩ = (⟨1, w, tk, hs⟩, xs) := if_neg heq
      rw [this]; exact ⟨h1, .inr ⟨hp, .inl rfl⟩, h3⟩
theorem ringL_eq {c : Cf} {p v : Int} {xs L : List Int} (hp : thereP c p) (hw : xs.getD (wrdN c p) 0 = v) (hl : sz v ≤ c.q) (hn : (L.length : Int) = sz v) (hv : ∀ i, i < L.length → ringAt c p xs v i = L.getD i 0) : ringL c p xs = L := by
  rw [ringL_there hp, hw]
  have hN : ringN c v = L.length := by unfold ringN; rw [if_pos hl]; omega
  rw [hN]
  refine List.ext_getElem? fun i => ?_
  by_cases hi : i < L.length
  · rw [ringW_get _ _ _ _ hi, hv i hi, List.getD_eq_getElem?_getD, List.getElem?_eq_getElem hi]; rfl
  · rw [List.getElem?_eq_none (by rw [ringW_len]; omega), List.getElem?_eq_none (by omega)]
theorem slot_ne {c : Cf} {p x y : Int} (h : thereP c p) (hx : 0 ≤ x) (hy : 0 ≤ y) (hne : x % c.q ≠ y % c.q) : (slotA c p x).toNat ≠ (slotA c p y).toNat := by
  have hb := there_bounds h
  have h0 := Int.emod_nonneg x (b := c.q) (by omega)
  have h1 := Int.emod_nonneg y (b := c.q) (by omega)
  have hm := mul_bounds hb.2.2.2.2.1 hb.2.2.2.2.2 (q := 6 + c.q) (by omega) (by omega)
  unfold slotA; rw [if_pos h.1, if_pos h.1]; unfold addrA; rw [if_pos h, if_pos h]
  omega
theorem slot_word {c : Cf} {p x : Int} (h : thereP c p) : (slotA c p x).toNat ≠ wrdN c p := by
  have hb := there_bounds h
  have h0 := Int.emod_nonneg x (b := c.q) (by omega)
  have h1 := Int.emod_lt_of_pos x (b := c.q) (by omega)
  unfold slotA; rw [if_pos h.1]
  exact addr_ne h h (by omega) (by omega)
theorem room_mod {q a k n : Int} (hq : roomP q) (h0 : 0 < n - k) (h1 : n - k < q) : (a + k) % 4294967296 % q ≠ (a + n) % 4294967296 % q := by
  rcases hq with rfl | rfl | rfl | rfl | rfl | rfl <;> omega
theorem getD_set_ne {xs : List Int} {a b : Nat} {v : Int} (h : a ≠ b) : (xs.set a v).getD b 0 = xs.getD b 0 := by
  rw [List.getD_eq_getElem?_getD, List.getElem?_set_ne h, ← List.getD_eq_getElem?_getD]
theorem getD_set_self {xs : List Int} {a : Nat} {v : Int} (h : a < xs.length) : (xs.set a v).getD a 0 = v := by
  rw [List.getD_eq_getElem?_getD, List.getElem?_set_self h]; rfl
def slV (c : Cf) (p w0 : Int) (xs : List Int) (k : Nat) : Int := IntKind.i64.wrap (xs.getD (slotA c p ((hd w0 + k) % 4294967296)).toNat 0)
structure KV (c : Cf) (p w0 : Int) (A : List Int) (i d : Nat) (s : PS) (xs : List Int) : Prop where
  ok : OkL c xs
  w : xs.getD (wrdN c p) 0 = dW w0 d
  dl : d ≤ A.length
  sl : ∀ k, d ≤ k → k < A.length → slV c p w0 xs k = A.getD k 0
  hs : s.hs = [999]
  st : (s.a = 1 ∧ i ≤ 6 * d) ∨ ((s.a = 2 ∨ s.a = 3) ∧ ∃ e, e ≤ d ∧ s.w = dW w0 e ∧ (A.length : Int) - e < c.q ∧ (i : Int) ≤ 6 * e + (s.a - 1) ∧ (s.a = 3 → slV c p w0 xs A.length = 999)) ∨
    ((s.a = 4 ∨ s.a = 5) ∧ s.w = dW w0 0 ∧ (A.length : Int) = c.q ∧ (∀ k, k < A.length → slV c p w0 xs k = A.getD k 0) ∧ s.tk = (A.drop (A.length - (c.q / 2).toNat)).take s.tk.length ∧ (s.a = 4 → (s.tk.length : Int) < c.q / 2) ∧ (s.a = 5 → (s.tk.length : Int) = c.q / 2) ∧ i ≤ 1 + s.tk.length)
theorem KV.lt {c : Cf} {p w0 : Int} {A : List Int} {i d : Nat} {s : PS} {xs : List Int} (h : KV c p w0 A i d s xs) (hl : A.length ≤ 8) (hq : c.q ≤ 8) : i < 60 := by
  obtain ⟨_, _, hd, _, _, h⟩ := h
  rcases h with ⟨_, h⟩ | ⟨ha, e, he, _, _, h, _⟩ | ⟨ha, _, _, _, _, h4, h5, h⟩
  · omega
  · omega
  · rcases ha with ha | ha
    · have := h4 ha; omega
    · have := h5 ha; omega
theorem tl_at {w0 : Int} {A : List Int} (hA : (A.length : Int) = sz w0) (j : Int) : (tl w0 + j) % 4294967296 = (hd w0 + (A.length + j)) % 4294967296 := by
  have := tl_b w0
  unfold sz at hA; omega
theorem KV.step {c : Cf} {p w0 : Int} {A : List Int} {i d : Nat} {s : PS} {xs : List Int} (h : KV c p w0 A i d s xs) (hp : thereP c p) (hA : (A.length : Int) = sz w0) (hq : sz w0 ≤ c.q) (hq8 : c.q ≤ 8) (hw0 : W64 w0) (ha : s.a ≠ 0) :
    ((stepP c p 999 xs s).1.a ≠ 0 ∧ KV c p w0 A (i + 1) d (stepP c p 999 xs s).1 (stepP c p 999 xs s).2) ∨
    ((stepP c p 999 xs s).1.a = 0 ∧ (stepP c p 999 xs s).1.hs = [] ∧ OkL c (stepP c p 999 xs s).2 ∧ ringL c p (stepP c p 999 xs s).2 = A.drop d ++ [999] ∧ (A.length : Int) - d < c.q ∧ d ≤ A.length) ∨
    ((stepP c p 999 xs s).1.a = 0 ∧ d = 0 ∧ (A.length : Int) = c.q ∧ (stepP c p 999 xs s).1.hs = A.drop (A.length - (c.q / 2).toNat) ++ [999] ∧ OkL c (stepP c p 999 xs s).2 ∧ ringL c p (stepP c p 999 xs s).2 = A.take (A.length - (c.q / 2).toNat)) := by
  have hb := there_bounds hp
  have hroom : roomP c.q := hp.1.2.1
  have heven : c.q / 2 + c.q / 2 = c.q := by rcases hroom with h | h | h | h | h | h <;> rw [h] <;> rfl
  have htb := tl_b w0
  have hhb := hd_b hw0
  obtain ⟨h1, h2, h3, h4, h5, h6⟩ := h
  have hxl := h1.1
  have hwb := addr_b hp (i := 0) (by omega) (by omega)
  have hwl : wrdN c p < xs.length := by unfold wrdN; omega
  obtain ⟨a, w, tk, hs⟩ := s
  simp only at ha h5 h6
  rcases h6 with ⟨rfl, h7⟩ | ⟨h7 | h7, e, h8, h9, h10, h11, h12⟩ | ⟨h7 | h7, h8, h9, h10, h11, h12, h13, h14⟩
  · have hs1 : stepP c p 999 xs ⟨1, w, tk, hs⟩ = (⟨if c.q ≤ sz (dW w0 d) then 4 else 2, dW w0 d, [], hs⟩, xs) := by simp only [stepP, if_true, h2]
    have hz := dW_sz (w := w0) (i := d) (by omega)
    rw [hs1, hz]
    by_cases hfull : c.q ≤ sz w0 - d
    · have hd0 : d = 0 := by omega
      rw [if_pos hfull]
      refine .inl ⟨by simp, h1, h2, h3, h4, h5, .inr (.inr ⟨.inl rfl, by rw [hd0], by omega, fun k hk => h4 k (by omega) hk, by simp, fun _ => by simp only [List.length_nil]; omega, fun hh => by simp at hh, by simp; omega⟩)⟩
    · rw [if_neg hfull]
      exact .inl ⟨by simp, h1, h2, h3, h4, h5, .inr (.inl ⟨.inl rfl, d, Nat.le_refl _, rfl, by omega, by simp only; omega, fun hh => by simp at hh⟩)⟩
  · subst h7
    have hsl : pslA c p w 0 = slotA c p ((hd w0 + A.length) % 4294967296) := by
      unfold pslA; rw [h9, tl_dW, tl_at hA, Int.add_zero]
    have hs1 : stepP c p 999 xs ⟨2, w, tk, hs⟩ = (⟨3, w, tk, hs⟩, xs.set (slotA c p ((hd w0 + A.length) % 4294967296)).toNat 999) := by
      have : IntKind.u64.wrap 999 = 999 := by decide
      simp only [stepP, if_neg (show ¬ ((2 : Int) = 1) by decide), if_true, hsl, this]
    rw [hs1]
    have hsb := slot_b (i := (hd w0 + A.length) % 4294967296) hp (by omega)
    refine .inl ⟨by simp, h1.set _ (by unfold W64; omega), ?_, h3, fun k k1 k2 => ?_, h5, .inr (.inl ⟨.inr rfl, e, h8, h9, h10, by simp only; omega, fun _ => ?_⟩)⟩
    · rw [getD_set_ne (slot_word hp)]; exact h2
    · unfold slV
      rw [getD_set_ne (slot_ne hp (by omega) (by omega) (fun hh => room_mod (a := hd w0) (k := k) (n := A.length) hroom (by omega) (by omega) hh.symm))]
      exact h4 k k1 k2
    · unfold slV
      rw [getD_set_self (by omega)]; decide
  · subst h7
    by_cases heq : d = e
    · have hw : xs.getD (wrdN c p) 0 = w := by rw [h2, h9, heq]
      have hs1 : stepP c p 999 xs ⟨3, w, tk, hs⟩ = (⟨0, w, tk, []⟩, xs.set (wrdN c p) (growW w 1)) := if_pos hw
      rw [hs1]
      have hg : growW w 1 = pk ((hd w0 + e) % 4294967296) ((tl w0 + 1) % 4294967296) := by unfold growW; rw [h9, hd_dW, tl_dW]
      refine .inr (.inl ⟨rfl, rfl, h1.set _ (grow_64 (by rw [h9]; exact dW_64 _ _) _), ?_, by omega, h3⟩)
      have hsz : sz (growW w 1) = A.length - e + 1 := by
        rw [hg]; unfold sz; rw [hd_pk (by omega) (by omega), tl_pk (by omega) (by omega)]
        unfold sz at hA; omega
      refine ringL_eq hp (getD_set_self hwl) (by rw [hsz]; omega) (by rw [hsz, List.length_append, List.length_drop, List.length_singleton]; omega) fun k hk => ?_
      rw [List.length_append, List.length_drop, List.length_singleton] at hk
      have hpos : (hd (growW w 1) + (k : Int)) % 4294967296 = (hd w0 + ((d + k : Nat) : Int)) % 4294967296 := by
        rw [hg, hd_pk (by omega) (by omega)]; omega
      rw [ringAt, hpos, getD_set_ne (slot_word hp).symm]
      by_cases hk2 : d + k < A.length
      · have := h4 (d + k) (by omega) hk2
        unfold slV at this
        rw [this, List.getD_eq_getElem?_getD, List.getD_eq_getElem?_getD, List.getElem?_append_left (by rw [List.length_drop]; omega), List.getElem?_drop]
      · have hk3 : d + k = A.length := by omega
        have := h12 rfl
        unfold slV at this
        rw [hk3, this, List.getD_eq_getElem?_getD, List.getElem?_append_right (by rw [List.length_drop]; omega), List.length_drop, show k - (A.length - d) = 0 by omega]; rfl
    · have hw : ¬ xs.getD (wrdN c p) 0 = w := fun hh => heq (dW_inj (w := w0) (by omega) (by omega) (by rw [← h2, hh, h9]))
      have hs1 : stepP c p 999 xs ⟨3, w, tk, hs⟩ = (⟨1, w, tk, hs⟩, xs) := if_neg hw
      rw [hs1]
      exact .inl ⟨by simp, h1, h2, h3, h4, h5, .inl ⟨rfl, by omega⟩⟩
  · subst h7
    have hlt := h12 rfl
    have hsl : pslA c p w (tk.length - c.q / 2) = slotA c p ((hd w0 + ((A.length - (c.q / 2).toNat + tk.length : Nat) : Int)) % 4294967296) := by
      unfold pslA; rw [h8, tl_dW, tl_at hA]; congr 2; omega
    have hv := h10 (A.length - (c.q / 2).toNat + tk.length) (by omega)
    unfold slV at hv
    have hs1 : stepP c p 999 xs ⟨4, w, tk, hs⟩ = (⟨if (tk.length : Int) + 1 = c.q / 2 then 5 else 4, w, tk ++ [A.getD (A.length - (c.q / 2).toNat + tk.length) 0], hs⟩, xs) := by
      simp only [stepP, if_neg (show ¬ ((4 : Int) = 1) by decide), if_neg (show ¬ ((4 : Int) = 2) by decide), if_neg (show ¬ ((4 : Int) = 3) by decide), if_true, hsl, hv]
    rw [hs1]
    have htk : tk ++ [A.getD (A.length - (c.q / 2).toNat + tk.length) 0] = (A.drop (A.length - (c.q / 2).toNat)).take (tk.length + 1) := by
      have hg : (A.drop (A.length - (c.q / 2).toNat))[tk.length]? = some (A.getD (A.length - (c.q / 2).toNat + tk.length) 0) := by
        rw [List.getElem?_drop, List.getD_eq_getElem?_getD, List.getElem?_eq_getElem (by omega)]; rfl
      rw [List.take_add_one, hg, ← h11]; rfl
    refine .inl ⟨by simp only; split <;> omega, h1, h2, h3, h4, h5, .inr (.inr ⟨?_, h8, h9, h10, ?_, fun hh => ?_, fun hh => ?_, ?_⟩)⟩
    · simp only; split <;> simp
    · simp only [List.length_append, List.length_singleton]; exact htk
    · simp only [List.length_append, List.length_singleton] at hh ⊢
      by_cases hq2 : (tk.length : Int) + 1 = c.q / 2
      · rw [if_pos hq2] at hh; simp at hh
      · omega
    · simp only [List.length_append, List.length_singleton] at hh ⊢
      by_cases hq2 : (tk.length : Int) + 1 = c.q / 2
      · omega
      · rw [if_neg hq2] at hh; simp at hh
    · simp only [List.length_append, List.length_singleton]; omega
  · subst h7
    have hlt := h13 rfl
    by_cases heq : d = 0
    · have hw : xs.getD (wrdN c p) 0 = w := by rw [h2, h8, heq]
      have hs1 : stepP c p 999 xs ⟨5, w, tk, hs⟩ = (⟨0, w, tk, tk ++ [999]⟩, xs.set (wrdN c p) (dropW w (c.q / 2))) := if_pos hw
      rw [hs1]
      have hg : dropW w (c.q / 2) = pk ((hd w0 + (0 : Nat)) % 4294967296) ((tl w0 - c.q / 2) % 4294967296) := by unfold dropW; rw [h8, hd_dW, tl_dW]
      have hsz : sz (dropW w (c.q / 2)) = A.length - c.q / 2 := by
        rw [hg]; unfold sz; rw [hd_pk (by omega) (by omega), tl_pk (by omega) (by omega)]
        unfold sz at hA; omega
      refine .inr (.inr ⟨rfl, heq, h9, ?_, h1.set _ (drop_64 (by rw [h8]; exact dW_64 _ _) _), ?_⟩)
      · have : (A.drop (A.length - (c.q / 2).toNat)).take tk.length = A.drop (A.length - (c.q / 2).toNat) := List.take_of_length_le (by rw [List.length_drop]; omega)
        rw [this] at h11
        simp only; rw [← h11]
      · refine ringL_eq hp (getD_set_self hwl) (by rw [hsz]; omega) (by rw [hsz, List.length_take]; omega) fun k hk => ?_
        rw [List.length_take] at hk
        have hpos : (hd (dropW w (c.q / 2)) + (k : Int)) % 4294967296 = (hd w0 + (k : Int)) % 4294967296 := by
          rw [hg, hd_pk (by omega) (by omega)]; omega
        rw [ringAt, hpos, getD_set_ne (slot_word hp).symm]
        have := h10 k (by omega)
        unfold slV at this
        rw [this, List.getD_eq_getElem?_getD, List.getD_eq_getElem?_getD, List.getElem?_take, if_pos (by omega)]
    · have hw : ¬ xs.getD (wrdN c p) 0 = w := fun hh => heq (dW_inj (w := w0) (by omega) (by omega) (by rw [← h2, hh, h8]))
      have hs1 : stepP c p 999 xs ⟨5, w, tk, hs⟩ = (⟨1, w, tk, hs⟩, xs) := if_neg hw
      rw [hs1]
      exact .inl ⟨by simp, h1, h2, h3, h4, h5, .inl ⟨rfl, by omega⟩⟩
end Go.Am.F09
end
section
namespace Go.Am.F09
open Go.Am.F06 Go.Am.F10
theorem _root_.Go.Am.F10.Rw.si {m : MM} {q : Nat} {xs : List Int} {v : AV} (h : Rw m q xs.length 1 (iC xs) v) : SI m false xs v := h.sl (by rw [iC_len]; omega)
theorem _root_.Go.Am.F10.Rw.box {m : MM} {q n sz : Nat} {l : List AV} {v : AV} (h : Rw m q n sz l v) (h0 : 0 < n) : m[q]? = some (.cells sz false l) := by
  rcases h with ⟨h1, _⟩ | ⟨_, _, h⟩
  · omega
  · exact h
theorem SI.stayb {m m' : MM} {wr : Bool} {xs : List Int} {v : AV} (h : SI m wr xs v) {b : Nat} (hk : ∀ i, i < m.length → i ≠ b → m'[i]? = m[i]?) (ho : Off b v) : SI m' wr xs v := Sl.stay h fun q o cap hv h0 => hk q (Sl.lt h hv h0).1 (ho q o _ cap hv h0)
theorem PM.stay {m m' : MM} {xj : Nat} {c : Cf} {p g : Int} {s : PS} {qt : Nat} {tv hv : AV} (h : PM m xj c p g s qt tv hv) {b : Nat} (hk : ∀ i, i < m.length → i ≠ b → m'[i]? = m[i]?) (h1 : xj ≠ b) (h2 : qt ≠ b) (h3 : Off b hv) : PM m' xj c p g s qt tv hv :=
  ⟨by rw [hk _ (List.getElem?_eq_some_iff.1 h.get).1 h1]; exact h.get, fun ha => (h.t ha).keep fun h0 => hk qt ((h.t ha).lt h0) h2, h.one, SI.stayb h.h hk h3, h.off⟩
structure KpS (M0 : MM) (c : Cf) (p : Int) (j xj : Nat) (A : List Int) (d : Nat) (s : PS) (gone : AV) (qg qt : Nat) (tv hv : AV) (xs : List Int) (m : MM) : Prop where
  keep : KeepX xj j M0 m
  pm : PM m xj c p 999 s qt tv hv
  mem : ∃ st o, m[j]? = some (.abs (.mem st)) ∧ RelM xs o st
  rg : Rw m qg (A.take d).length 1 (iC (A.take d)) gone
  nq : 0 < (A.take d).length → qg ≠ qt
  bq : 0 < (A.take d).length → M0.length ≤ qg
  bt : qt = xj ∨ (M0.length ≤ qt ∧ qt < m.length)
  oh : 0 < (A.take d).length → Off qg hv
  ok : POk c p s
theorem KpS.step {M0 m m' : MM} {c : Cf} {p : Int} {j xj : Nat} {A : List Int} {d : Nat} {s : PS} {gone : AV} {qg qt : Nat} {tv hv : AV} {xs : List Int} (h : KpS M0 c p j xj A d s gone qg qt tv hv xs m) {x : PS × List Int} {o : Int} {r : AV} (hok : POk c p x.1) (hP : PsP m c p 999 xj j qt hv x o r m') :
    r = .bool (decide (x.1.a = 0)) ∧ ∃ qt' tv' hv', KpS M0 c p j xj A d x.1 gone qg qt' tv' hv' x.2 m' := by
  obtain ⟨rfl, k1, tv', hv', qt', hpm, hq, hh, st', j', r'⟩ := hP
  obtain ⟨hk, pm, ⟨st, o1, hj, _⟩, rg, nq, bq, bt, oh, _⟩ := h
  have hM := hk.1
  have hqx : 0 < (A.take d).length → qg ≠ xj := fun h0 hq => by have := rg.box h0; rw [hq, pm.get] at this; cases this
  have hqj : 0 < (A.take d).length → qg ≠ j := fun h0 hq => by have := rg.box h0; rw [hq, hj] at this; cases this
  have lx : xj < m.length := (List.getElem?_eq_some_iff.1 pm.get).1
  have lx' : xj < m'.length := (List.getElem?_eq_some_iff.1 hpm.get).1
  have hl1 := k1.1
  refine ⟨rfl, qt', tv', hv', ⟨Nat.le_trans hM hl1, fun i hi h1 h2 => ?_⟩, hpm, ⟨st', o, j', r'⟩, rg.keep fun h0 => ?_, fun h0 => ?_, bq, ?_, fun h0 => ?_, hok⟩
  · have hne : i ≠ qt := by rcases bt with h | h <;> omega
    rw [k1.2 i (by omega) h1 h2 hne, hk.2 i hi h1 h2]
  · exact k1.2 qg (rg.lt h0) (hqx h0) (hqj h0) (nq h0)
  · have := rg.lt h0
    have := hqx h0
    have := nq h0
    rcases hq with h | h | h <;> omega
  · rcases hq with h | h | h
    · exact .inl h
    · exact .inr ⟨by omega, h.2⟩
    · rcases bt with h' | h'
      · exact .inl (by omega)
      · exact .inr ⟨by omega, by omega⟩
  · have := rg.lt h0
    rcases hh with h | h | ⟨q, oo, n, cp, h, h'⟩
    · rw [h]; exact oh h0
    · rw [h]; intro q o n cc hq; cases hq
    · rw [h]; intro q2 o2 n2 cc hq2 _
      injection hq2 with hq2; omega
theorem PM.keep {m m' : MM} {xj : Nat} {c : Cf} {p g : Int} {s : PS} {qt : Nat} {tv hv : AV} (h : PM m xj c p g s qt tv hv) (k : Keep m m') : PM m' xj c p g s qt tv hv :=
  ⟨k.get h.get, fun ha => (h.t ha).keep fun h0 => k.2 qt ((h.t ha).lt h0), h.one, h.h.keep k, h.off⟩
end Go.Am.F09
end
section
namespace Go.Am.F09
open Go.Am.F06 Go.Am.F10
def rpC (c : Cf) (p g : Int) (s : PS) (tv hv : AV) : List AV := cfC c ++ [.int .i64 p, .int .i64 g, .int .i64 s.a, .int .u64 s.w, tv, hv]
theorem _root_.Go.Am.Sl.setb {m : MM} {wr : Bool} {sz n : Nat} {l : List AV} {v : AV} (h : Sl m wr sz n l v) {b : Nat} {C : Chunk Ob} (hb : ∀ ro L, m[b]? ≠ some (.cells sz ro L)) : Sl (m.set b C) wr sz n l v := h.put hb C
structure SLN (lo hi : Nat) (m : MM) (wr : Bool) (n : Nat) (l : List AV) (v : AV) : Prop where
  sl : Sl m wr 1 n l v
  no : ∀ b, lo ≤ b → b < hi → ∀ ro L, m[b]? ≠ some (.cells 1 ro L)
theorem SLN.set {lo hi : Nat} {m : MM} {wr : Bool} {n : Nat} {l : List AV} {v : AV} (h : SLN lo hi m wr n l v) {a : Nat} (h1 : lo ≤ a) (h2 : a < hi) {C : Chunk Ob} (hC : ∀ ro L, C ≠ .cells 1 ro L) : SLN lo hi (m.set a C) wr n l v := by
  refine ⟨Sl.put h.sl (h.no a h1 h2) C, fun b b1 b2 ro L hb => ?_⟩
  by_cases hab : a = b
  · subst hab
    by_cases hl : a < m.length
    · rw [List.getElem?_set_self hl] at hb; injection hb with hb; exact hC _ _ hb
    · rw [List.getElem?_eq_none (by rw [List.length_set]; omega)] at hb; cases hb
  · rw [List.getElem?_set_ne hab] at hb; exact h.no b b1 b2 _ _ hb
theorem SLN.app {lo hi : Nat} {m : MM} {wr : Bool} {n : Nat} {l : List AV} {v : AV} (h : SLN lo hi m wr n l v) (hh : hi ≤ m.length) (K : MM) : SLN lo hi (m ++ K) wr n l v :=
  ⟨h.sl.keep (.app _ _), fun b b1 b2 ro L hb => h.no b b1 b2 ro L (by rwa [List.getElem?_append_left (by omega)] at hb)⟩
end Go.Am.F09
end
section
namespace Go.Am.F09
open Go.Am.F06 Go.Am.F10
end Go.Am.F09
end
section
namespace Go.Am.F09
open Go.Am.F06 Go.Am.F10
def okN (c : Cf) (p g : Int) : Prop := thereP c p ∧ 0 ≤ g
instance (c : Cf) (p g : Int) : Decidable (okN c p g) := by unfold okN; infer_instance
theorem si_put {m : MM} {xs : List Int} {q o n : Nat} {cap : Option Nat} {L : List AV} (h : SI m true xs (.sl q o n cap)) (hq : m[q]? = some (.cells 1 false L)) {i : Nat} (hi : i < xs.length) (x : Int) : SI (m.set q (.cells 1 false (L.set (o + i) (.int .i64 x)))) true (xs.set i x) (.sl q o n cap) := by
  obtain ⟨hlen, hsl⟩ := h
  rcases hsl with ⟨h, _⟩ | ⟨q', o', cap', h, h5⟩
  · cases h
  · injection h with e1 e2 e3 e4; subst e1; subst e2; subst e3; subst e4
    obtain ⟨ro, L', d1, d2, d3, d4⟩ := h5 (by omega)
    rw [hq] at d1; injection d1 with d1; injection d1 with _ _ d1; subst d1
    refine ⟨by simp [iC_len], .inr ⟨q, o, cap, by rw [List.length_set], fun _ => ⟨false, _, List.getElem?_set_self (List.getElem?_eq_some_iff.1 hq).1, ?_, by simpa using d3, fun _ => rfl⟩⟩⟩
    rw [List.length_set, List.drop_set, if_neg (by omega), List.take_set, d2, iC, iC, List.map_set]
    congr 1; omega
end Go.Am.F09
end
section
namespace Go.Am.F09
open Go.Am.F06 Go.Am.F10
structure Fl (mm M : MM) (n : Nat) (h : AV) (B : Nat) : Prop where
  keep : Keep mm M
  row : ∃ ys : List Int, ys.length = n ∧ SI M true ys h
  lo : Fr mm.length h
  hi : ∀ q o cap, h = .sl q o n cap → 0 < n → q < B
  len : lenA h = some n
theorem Fl.put {mm M : MM} {n : Nat} {h : AV} {B k : Nat} (hf : Fl mm M n h B) (hk : k < n) (x : Int) : ∃ q o cap L, h = .sl q o n cap ∧ M[q]? = some (.cells 1 false L) ∧ o + k < L.length ∧ mm.length ≤ q ∧ q < B ∧ Fl mm (M.set q (.cells 1 false (L.set (o + k) (.int .i64 x)))) n h B := by
  obtain ⟨hk0, ⟨ys, rfl, hs⟩, hlo, hhi, hln⟩ := hf
  obtain ⟨q, o, cap, ro, L, rfl, h2, h3, h4, h5⟩ := hs.at (by omega)
  have := h5 rfl
  subst this
  have hq : mm.length ≤ q := by
    rcases hlo with h | ⟨_, _, _, _, h, h'⟩
    · cases h
    · injection h with e1; omega
  exact ⟨q, o, cap, L, rfl, h2, by omega, hq, hhi _ _ _ rfl (by omega), hk0.set hq _, ⟨ys.set k x, by simp, si_put hs h2 hk x⟩, hlo, hhi, hln⟩
end Go.Am.F09
end
section
namespace Go.Am.F09
open Go.Am.F06 Go.Am.F10
theorem PM.norm {m : MM} {xj : Nat} {c : Cf} {p g : Int} {s : PS} {qt : Nat} {tv hv : AV} (h : PM m xj c p g s qt tv hv) : ∃ qt', PM m xj c p g s qt' tv hv ∧ (qt' = xj ∨ (qt' = qt ∧ ∃ l, m[qt]? = some (.cells 1 false (iC l)))) := by
  have hx : ∀ ro L, m[xj]? ≠ some (.cells 1 ro L) := fun ro L hh => by rw [h.get] at hh; cases hh
  by_cases ha : s.a = 4 ∨ s.a = 5
  · rcases h.t ha with ht | ⟨h0, h1, h2⟩
    · exact ⟨xj, ⟨h.get, fun _ => .inl ht, h.one, h.h, si_box h.h hx⟩, .inl rfl⟩
    · exact ⟨qt, h, .inr ⟨rfl, _, h2⟩⟩
  · exact ⟨xj, ⟨h.get, fun hh => absurd hh ha, h.one, h.h, si_box h.h hx⟩, .inl rfl⟩
theorem su_off {m : MM} {wr : Bool} {xs : List Int} {v : AV} (hs : SU m wr xs v) {b : Nat} {l : List Int} (hb : m[b]? = some (.cells 1 false (iC l))) : Off b v := by
  intro q o n c hv h0 hq
  rcases hs.2 with ⟨h1, _⟩ | ⟨q2, o2, c2, h1, h2⟩
  · rw [h1] at hv; cases hv
  · rw [h1] at hv; injection hv with e1 e2 e3 e4; subst e1; subst e3; subst hq
    obtain ⟨ro, L, h3, h4⟩ := h2 h0
    rw [hb] at h3; injection h3 with h3; injection h3 with _ _ h3
    subst h3
    have h5 := sl_get h4.1 (j := 0) (by omega)
    rw [iC, uC, List.getElem?_map, List.getElem?_map] at h5
    obtain ⟨x, hx⟩ : ∃ x, xs[0]? = some x := ⟨_, List.getElem?_eq_getElem h0⟩
    rw [hx] at h5
    cases hy : l[o2 + 0]? with
    | none => rw [hy] at h5; cases h5
    | some y => rw [hy] at h5; cases h5
theorem su_box2 {m : MM} {wr : Bool} {xs : List Int} {v : AV} (hs : SU m wr xs v) {b : Nat} (hb : ∀ ro L, m[b]? ≠ some (.cells 1 ro L)) : Off b v := by
  intro q o n c hv h0 hq
  obtain ⟨_, ro, L, h⟩ := Sl.lt (n := xs.length) hs (by rw [hv]; congr 1; have := hs.len; rw [hv] at this; simpa [lenA] using this) (by
    have := hs.len; rw [hv] at this; simp only [lenA, Option.some.injEq] at this; omega) (q := q) (o := o) (cap := c)
  exact hb ro L (by rw [← hq]; exact h)
structure PyS (m0 : MM) (c0 c c' : Cf) (p p' g g' : Int) (cb j rb xj yb : Nat) (ps : List Pk) (lv : AV) (s : PS) (xs : List Int) (o : Int) (tv hv ytv yhv v : AV) (qt : Nat) (m : MM) : Prop where
  k0 : Keep m0 m
  pm : PM m xj c p g s qt tv hv
  qr : qt = xj ∨ ∃ l, m[qt]? = some (.cells 1 false (iC l))
  bq : m0.length ≤ qt
  mem : ∃ st, m[j]? = some (.abs (.mem st)) ∧ RelM xs o st
  ref : m[rb]? = some (.cells 2 false (memC v o))
  su : SU m false xs v
  y : m[yb]? = some (.cells 12 false (rpC c' p' g' s ytv yhv))
  yt : SI m false s.tk ytv
  yh : SI m false s.hs yhv
  ot : Off qt ytv
  oh : Off qt yhv
  ok : POk c p s
  okL : OkL c xs
  cc : s.a = 0 ∨ (c' = c ∧ p' = p ∧ g' = g)
  ps : SPk m false ps lv
theorem PyS.keep {m0 m m' : MM} {c0 c c' : Cf} {p p' g g' : Int} {cb j rb xj yb : Nat} {ps : List Pk} {lv : AV} {s : PS} {xs : List Int} {o : Int} {tv hv ytv yhv v : AV} {qt : Nat} (h : PyS m0 c0 c c' p p' g g' cb j rb xj yb ps lv s xs o tv hv ytv yhv v qt m) (k : Keep m m') : PyS m0 c0 c c' p p' g g' cb j rb xj yb ps lv s xs o tv hv ytv yhv v qt m' := by
  obtain ⟨st, hj, hr⟩ := h.mem
  exact ⟨h.k0.trans k, PM.keep h.pm k, h.qr.imp id (fun ⟨l, hl⟩ => ⟨l, k.get hl⟩), h.bq, ⟨st, k.get hj, hr⟩, k.get h.ref, h.su.keep k, k.get h.y, h.yt.keep k, h.yh.keep k, h.ot, h.oh, h.ok, h.okL, h.cc, h.ps.keep k⟩
structure PyB (m0 : MM) (c : Cf) (p g : Int) (j xj : Nat) (ps : List Pk) (lv : AV) (s : PS) (xs : List Int) (o : Int) (tv hv : AV) (qt : Nat) (m : MM) : Prop where
  k0 : Keep m0 m
  pm : PM m xj c p g s qt tv hv
  qr : qt = xj ∨ ∃ l, m[qt]? = some (.cells 1 false (iC l))
  bq : m0.length ≤ qt
  mem : ∃ st, m[j]? = some (.abs (.mem st)) ∧ RelM xs o st
  ok : POk c p s
  okL : OkL c xs
  ps : SPk m false ps lv
theorem PyS.b {m0 m : MM} {c0 c c' : Cf} {p p' g g' : Int} {cb j rb xj yb : Nat} {ps : List Pk} {lv : AV} {s : PS} {xs : List Int} {o : Int} {tv hv ytv yhv v : AV} {qt : Nat} (h : PyS m0 c0 c c' p p' g g' cb j rb xj yb ps lv s xs o tv hv ytv yhv v qt m) : PyB m0 c p g j xj ps lv s xs o tv hv qt m := ⟨h.k0, h.pm, h.qr, h.bq, h.mem, h.ok, h.okL, h.ps⟩
theorem PyB.ne {m0 m : MM} {c : Cf} {p g : Int} {j xj : Nat} {ps : List Pk} {lv : AV} {s : PS} {xs : List Int} {o : Int} {tv hv : AV} {qt : Nat} (h : PyB m0 c p g j xj ps lv s xs o tv hv qt m) {b sz : Nat} {L : List AV} (hb : m[b]? = some (.cells sz false L)) (h1 : sz ≠ 1) (h2 : sz ≠ 13) : b ≠ xj ∧ b ≠ j ∧ b ≠ qt := by
  obtain ⟨st, hj, _⟩ := h.mem
  refine ⟨fun hh => ?_, fun hh => ?_, fun hh => ?_⟩
  · rw [hh, h.pm.get] at hb; injection hb with hb; injection hb with hb; exact h2 hb.symm
  · rw [hh, hj] at hb; cases hb
  · rcases h.qr with hq | ⟨l, hl⟩
    · rw [hh, hq, h.pm.get] at hb; injection hb with hb; injection hb with hb; exact h2 hb.symm
    · rw [hh, hl] at hb; injection hb with hb; injection hb with hb; exact h1 hb.symm
theorem PyS.ne {m0 m : MM} {c0 c c' : Cf} {p p' g g' : Int} {cb j rb xj yb : Nat} {ps : List Pk} {lv : AV} {s : PS} {xs : List Int} {o : Int} {tv hv ytv yhv v : AV} {qt : Nat} (h : PyS m0 c0 c c' p p' g g' cb j rb xj yb ps lv s xs o tv hv ytv yhv v qt m) {b sz : Nat} {L : List AV} (hb : m[b]? = some (.cells sz false L)) (h1 : sz ≠ 1) (h2 : sz ≠ 13) : b ≠ xj ∧ b ≠ j ∧ b ≠ qt := h.b.ne hb h1 h2
theorem PyB.keep {m0 m m' : MM} {c : Cf} {p g : Int} {j xj : Nat} {ps : List Pk} {lv : AV} {s : PS} {xs : List Int} {o : Int} {tv hv : AV} {qt : Nat} (h : PyB m0 c p g j xj ps lv s xs o tv hv qt m) (k : Keep m m') : PyB m0 c p g j xj ps lv s xs o tv hv qt m' := by
  obtain ⟨st, hj, hr⟩ := h.mem
  exact ⟨h.k0.trans k, PM.keep h.pm k, h.qr.imp id (fun ⟨l, hl⟩ => ⟨l, k.get hl⟩), h.bq, ⟨st, k.get hj, hr⟩, h.ok, h.okL, h.ps.keep k⟩
theorem PyB.setb {m0 m : MM} {c : Cf} {p g : Int} {j xj : Nat} {ps : List Pk} {lv : AV} {s : PS} {xs : List Int} {o : Int} {tv hv : AV} {qt : Nat} (h : PyB m0 c p g j xj ps lv s xs o tv hv qt m) {b sz : Nat} {L : List AV} (hb : m[b]? = some (.cells sz false L)) (h1 : sz ≠ 1) (h2 : sz ≠ 13) (h3 : sz ≠ 3) (h0 : m0.length ≤ b) (C : Chunk Ob) : PyB m0 c p g j xj ps lv s xs o tv hv qt (m.set b C) := by
  obtain ⟨e1, e2, e3⟩ := h.ne hb h1 h2
  obtain ⟨st, hj, hr⟩ := h.mem
  have hn : ∀ z, z ≠ sz → ∀ ro L, m[b]? ≠ some (.cells z ro L) := fun z hz ro L hh => by rw [hb] at hh; injection hh with hh; injection hh with hh; exact hz hh.symm
  exact ⟨h.k0.set h0 _, PM.stay h.pm (fun i _ hi => List.getElem?_set_ne (fun hh => hi hh.symm)) (fun hh => e1 hh.symm) (fun hh => e3 hh.symm) (si_box h.pm.h (hn 1 (fun hh => h1 hh.symm))), h.qr.imp id (fun ⟨l, hl⟩ => ⟨l, by rw [List.getElem?_set_ne e3]; exact hl⟩), h.bq, ⟨st, by rw [List.getElem?_set_ne e2]; exact hj, hr⟩, h.ok, h.okL, Sl.put h.ps (hn 3 (fun hh => h3 hh.symm)) _⟩
theorem PyB.step {m0 m m' : MM} {c0 c c' : Cf} {p p' g g' : Int} {cb j rb xj yb : Nat} {ps : List Pk} {lv : AV} {s s' : PS} {xs xs' : List Int} {o o' : Int} {tv hv : AV} {qt : Nat} (h : PyB m0 c p g j xj ps lv s xs o tv hv qt m)
    (hx0 : m0.length ≤ xj) (hj0 : m0.length ≤ j) {ytv' yhv' v' : AV} (hy : m[yb]? = some (.cells 12 false (rpC c' p' g' s' ytv' yhv'))) (hyt : SI m false s'.tk ytv') (hyh : SI m false s'.hs yhv') (hot : Off qt ytv') (hoh : Off qt yhv') (hv' : SU m false xs' v') (hrb : m[rb]? = some (.cells 2 false (memC v' o'))) (hok : POk c p s') (hokL : OkL c xs') (hcc : s'.a = 0 ∨ (c' = c ∧ p' = p ∧ g' = g)) {r : AV} (hP : PsP m c p g xj j qt hv (s', xs') o' r m') :
    r = .bool (decide (s'.a = 0)) ∧ ∃ tv2 hv2 qt2, PyS m0 c0 c c' p p' g g' cb j rb xj yb ps lv s' xs' o' tv2 hv2 ytv' yhv' v' qt2 m' := by
  obtain ⟨rfl, k1, tv2, hv2, qt', hpm, hq, hh, st', hj', hr'⟩ := hP
  obtain ⟨st, hj, hr⟩ := h.mem
  obtain ⟨qt2, hpm2, hq2⟩ := PM.norm hpm
  have hnx : ∀ ro L, m[xj]? ≠ some (.cells 1 ro L) := fun ro L hh => by rw [h.pm.get] at hh; cases hh
  have hnj : ∀ ro L, m[j]? ≠ some (.cells 1 ro L) := fun ro L hh => by rw [hj] at hh; cases hh
  have hl := k1.1
  have hk0 := h.k0.1
  have hbox : ∀ {b sz : Nat} {L : List AV}, m[b]? = some (.cells sz false L) → sz ≠ 1 → sz ≠ 13 → m'[b]? = some (.cells sz false L) := fun hb h1 h2 => by
    obtain ⟨e1, e2, e3⟩ := h.ne hb h1 h2
    rw [k1.2 _ (List.getElem?_eq_some_iff.1 hb).1 e1 e2 e3]; exact hb
  have hsoff : Off qt v' := by
    rcases h.qr with hq | ⟨l, hl⟩
    · rw [hq]; exact su_box2 hv' hnx
    · exact su_off hv' hl
  have hqt2 : qt2 = xj ∨ (m.length ≤ qt2 ∧ qt2 < m'.length) ∨ qt2 = qt := by
    rcases hq2 with h1 | ⟨h1, _⟩
    · exact .inl h1
    · rw [h1]; exact hq
  have hoff2 : ∀ {w : AV} {n : Nat} {l : List AV}, Sl m false 1 n l w → Off qt w → Off qt2 w := fun {w n l} hs ho => by
    have hlen := hs.len
    have hlt : ∀ q o k cap, w = .sl q o k cap → 0 < k → q < m.length ∧ ∃ ro L, m[q]? = some (.cells 1 ro L) := fun q o k cap hw hk => by
      rw [hw] at hlen; simp only [lenA, Option.some.injEq] at hlen; subst hlen
      exact Sl.lt hs hw hk
    rcases hqt2 with e | ⟨e, _⟩ | e
    · rw [e]; intro q o k cap hw hk hh
      obtain ⟨_, ro, L, h3⟩ := hlt q o k cap hw hk
      exact hnx ro L (by rw [← hh]; exact h3)
    · intro q o k cap hw hk hh
      have := (hlt q o k cap hw hk).1
      omega
    · rw [e]; exact ho
  refine ⟨rfl, tv2, hv2, qt2, ⟨⟨by omega, fun i hi => ?_⟩, hpm2, ?_, ?_, ⟨st', hj', hr'⟩, hbox hrb (by decide) (by decide), k1.si hnx hnj hv' hsoff, hbox hy (by decide) (by decide), k1.si hnx hnj hyt hot, k1.si hnx hnj hyh hoh, hoff2 hyt hot, hoff2 hyh hoh, hok, hokL, hcc, ?_⟩⟩
  · have := h.bq
    rw [k1.2 i (by omega) (by omega) (by omega) (by omega), h.k0.2 i hi]
  · rcases hq2 with h1 | ⟨h1, l, h2⟩
    · exact .inl h1
    · exact .inr ⟨l, by rw [h1]; exact h2⟩
  · have := h.bq
    rcases hqt2 with e | ⟨e, _⟩ | e <;> omega
  · refine Sl.stay h.ps fun q o cap hw h0 => ?_
    obtain ⟨h1, ro, L, h2⟩ := Sl.lt h.ps hw h0
    have e1 : q ≠ xj := fun hh => by rw [hh, h.pm.get] at h2; cases h2
    have e2 : q ≠ j := fun hh => by rw [hh, hj] at h2; cases h2
    have e3 : q ≠ qt := fun hh => by
      rcases h.qr with hq | ⟨l, hl⟩
      · exact e1 (by rw [hh, hq])
      · rw [hh, hl] at h2; cases h2
    exact k1.2 q h1 e1 e2 e3
end Go.Am.F09
end
section
namespace Go.Am.F10
open Go.Am.F06
variable {X : Type}
theorem rows_arg {α : Type} {f : α → List AV} {sz : Nat} (hf : ∀ x, (f x).length = sz) {m : Mem X} {i len cap : Nat} (hl : 0 < len → ∃ l, m[i]? = some (.cells sz true l) ∧ l.length = len * sz ∧ ∀ k, k < len → ∃ x : α, (l.drop (k * sz)).take sz = f x) :
    ∃ ws : List α, Sl m false sz ws.length (ws.flatMap f) (.sl i 0 len (some cap)) := by
  by_cases h0 : 0 < len
  · obtain ⟨l, h2, h3, h4⟩ := hl h0
    obtain ⟨ws, e1, e2⟩ := rows_of hf len h3 h4
    subst e1; subst e2
    have hlen := rows_len hf ws
    exact ⟨ws, hlen, .inr ⟨i, 0, some cap, rfl, fun _ => ⟨true, _, h2, by rw [List.drop_zero, ← hlen, List.take_length], by omega, fun h => by cases h⟩⟩⟩
  · have : len = 0 := by omega
    subst this
    exact ⟨[], by simp, .inr ⟨i, 0, some cap, rfl, fun h => absurd h (Nat.lt_irrefl _)⟩⟩
theorem flat_byte (ws : List {z : Int // 0 ≤ z ∧ z < 256}) : ws.flatMap (fun x => [AV.int .u8 x.1]) = (ws.map Subtype.val).map (AV.int .u8) := by
  induction ws with
  | nil => rfl
  | cons a ws ih => rw [List.flatMap_cons, ih]; rfl
theorem byte_arg {m : Mem X} {i len cap : Nat} (hl : 0 < len → ∃ l, m[i]? = some (.cells 1 true l) ∧ l.length = len * 1 ∧ ∀ k, k < len → ∃ z : Int, (l.drop (k * 1)).take 1 = [.int .u8 z] ∧ 0 ≤ z ∧ z < 256) :
    ∃ bs : List Int, SB m bs (.sl i 0 len (some cap)) ∧ ∀ x, x ∈ bs → 0 ≤ x ∧ x < 256 := by
  obtain ⟨ws, h⟩ := rows_arg (f := fun x : {z : Int // 0 ≤ z ∧ z < 256} => [AV.int .u8 x.1]) (sz := 1) (m := m) (i := i) (len := len) (cap := cap) (fun _ => rfl) (fun h0 => by
    obtain ⟨l, h1, h2, h3⟩ := hl h0
    exact ⟨l, h1, h2, fun k hk => by obtain ⟨z, e, b1, b2⟩ := h3 k hk; exact ⟨⟨z, b1, b2⟩, e⟩⟩)
  rw [flat_byte] at h
  refine ⟨ws.map Subtype.val, by show Sl m false _ (ws.map Subtype.val).length _ _; rw [List.length_map]; exact h, fun x hx => ?_⟩
  obtain ⟨a, _, rfl⟩ := List.mem_map.1 hx
  exact a.2
theorem flat_pk (ws : List {x : Pk // W64 x.v}) : ws.flatMap (fun x => pkC x.1) = (ws.map Subtype.val).flatMap pkC := by
  induction ws with
  | nil => rfl
  | cons a ws ih => rw [List.flatMap_cons, ih]; rfl
theorem pk_arg {m : Mem X} {i len cap : Nat} (hl : 0 < len → ∃ l, m[i]? = some (.cells 3 true l) ∧ l.length = len * 3 ∧ ∀ k, k < len → ∃ x : Pk, (l.drop (k * 3)).take 3 = pkC x ∧ W64 x.v) :
    ∃ ps : List Pk, SPk m false ps (.sl i 0 len (some cap)) ∧ ∀ x, x ∈ ps → W64 x.v := by
  obtain ⟨ws, h⟩ := rows_arg (f := fun x : {x : Pk // W64 x.v} => pkC x.1) (sz := 3) (m := m) (i := i) (len := len) (cap := cap) (fun _ => rfl) (fun h0 => by
    obtain ⟨l, h1, h2, h3⟩ := hl h0
    exact ⟨l, h1, h2, fun k hk => by obtain ⟨z, e, b⟩ := h3 k hk; exact ⟨⟨z, b⟩, e⟩⟩)
  rw [flat_pk] at h
  refine ⟨ws.map Subtype.val, by show Sl m false _ (ws.map Subtype.val).length _ _; rw [List.length_map]; exact h, fun x hx => ?_⟩
  obtain ⟨a, _, rfl⟩ := List.mem_map.1 hx
  exact a.2
theorem pk_of {as : List AV} (hl : as.length = 3) {d : Bool} {a v : Int} (h0 : as[0]? = some (.bool d)) (h1 : as[1]? = some (.int .i64 a)) (h2 : as[2]? = some (.int .u64 v)) : as = pkC ⟨d, a, v⟩ := by
  match as, hl with
  | [x, y, z], _ =>
    simp only [List.getElem?_cons_zero, List.getElem?_cons_succ, Option.some.injEq] at h0 h1 h2
    subst h0; subst h1; subst h2; rfl
end Go.Am.F10
end
section
namespace Go.Am.F09
open Go.Am.F06 Go.Am.F10
theorem PyS.poke {m0 m m' : MM} {c0 c c' : Cf} {p p' g g' : Int} {cb j rb xj yb : Nat} {ps : List Pk} {lv : AV} {s : PS} {xs xs' : List Int} {o o' : Int} {tv hv ytv yhv v v' : AV} {qt : Nat} (h : PyS m0 c0 c c' p p' g g' cb j rb xj yb ps lv s xs o tv hv ytv yhv v qt m) (hj0 : m0.length ≤ j) (hr0 : m0.length ≤ rb) (k : KeepB j m m') {st' : MemSt} (hj' : m'[j]? = some (.abs (.mem st'))) (hr' : RelM xs' o' st') (hsu : SU m' false xs' v') (hokL : OkL c xs') :
    PyS m0 c0 c c' p p' g g' cb j rb xj yb ps lv s xs' o' tv hv ytv yhv v' qt (m'.set rb (.cells 2 false (memC v' o'))) := by
  obtain ⟨st, hj, hr⟩ := h.mem
  have hl := k.1
  have hk0 := h.k0.1
  have lr : rb < m.length := (List.getElem?_eq_some_iff.1 h.ref).1
  obtain ⟨n1, n2, n3⟩ := h.ne h.ref (by decide) (by decide)
  obtain ⟨y1, y2, y3⟩ := h.ne h.y (by decide) (by decide)
  have hyr : yb ≠ rb := fun hh => by have h1 := h.y; rw [hh, h.ref] at h1; cases h1
  have lx : xj < m.length := (List.getElem?_eq_some_iff.1 h.pm.get).1
  have ly : yb < m.length := (List.getElem?_eq_some_iff.1 h.y).1
  have hxj : xj ≠ j := fun hh => by have h1 := h.pm.get; rw [hh, hj] at h1; cases h1
  have hrb' : m'[rb]? = some (.cells 2 false (memC v o)) := by rw [k.2 rb lr n2]; exact h.ref
  have nb : ∀ sz, sz ≠ 2 → ∀ ro L, m'[rb]? ≠ some (.cells sz ro L) := fun sz hsz ro L hh => by rw [hrb'] at hh; injection hh with hh; injection hh with hh; exact hsz hh.symm
  have nj : ∀ sz ro L, m[j]? ≠ some (.cells sz ro L) := fun sz ro L hh => by rw [hj] at hh; cases hh
  have row : ∀ {wr : Bool} {sz n : Nat} {l : List AV} {w : AV}, sz ≠ 2 → Sl m wr sz n l w → Sl (m'.set rb (.cells 2 false (memC v' o'))) wr sz n l w := fun hsz hs =>
    Sl.put (Sl.stay hs fun q oo cap hw h0 => by
      obtain ⟨h1, ro, L, h2⟩ := Sl.lt hs hw h0
      exact k.2 q h1 fun hh => nj _ ro L (by rw [← hh]; exact h2)) (nb _ hsz) _
  have hg : ∀ i, i < m.length → i ≠ j → i ≠ rb → (m'.set rb (.cells 2 false (memC v' o')))[i]? = m[i]? := fun i hi h1 h2 => by
    rw [List.getElem?_set_ne (fun hh => h2 hh.symm), k.2 i hi h1]
  have hqj : ∀ l, m[qt]? = some (.cells 1 false (iC l)) → qt < m.length ∧ qt ≠ j ∧ qt ≠ rb := fun l hl => ⟨(List.getElem?_eq_some_iff.1 hl).1, fun hh => nj _ _ _ (by rw [← hh]; exact hl), fun hh => by rw [hh, h.ref] at hl; cases hl⟩
  refine ⟨⟨by simp only [List.length_set]; omega, fun i hi => by rw [hg i (by omega) (by omega) (by omega), h.k0.2 i hi]⟩, ⟨by rw [hg xj lx hxj (fun hh => n1 hh.symm)]; exact h.pm.get, fun ha => ?_, h.pm.one, row (by decide) h.pm.h, h.pm.off⟩, ?_, h.bq, ⟨st', by rw [List.getElem?_set_ne n2]; exact hj', hr'⟩, List.getElem?_set_self (by omega), Sl.put hsu (nb 1 (by decide)) _, by rw [hg yb ly y2 hyr]; exact h.y, row (by decide) h.yt, row (by decide) h.yh, h.ot, h.oh, h.ok, hokL, h.cc, row (by decide) h.ps⟩
  · refine (h.pm.t ha).keep fun h0 => ?_
    obtain ⟨q1, q2, q3⟩ := hqj _ ((h.pm.t ha).box h0)
    exact hg qt q1 q2 q3
  · rcases h.qr with hq | ⟨l, hl⟩
    · exact .inl hq
    · obtain ⟨q1, q2, q3⟩ := hqj l hl
      exact .inr ⟨l, by rw [hg qt q1 q2 q3]; exact hl⟩
end Go.Am.F09
end
