import Derived.Test.YtmgahjccidmlaaaXG13
set_option linter.unusedSimpArgs false
set_option linter.unusedVariables false
section
namespace Go.Am.F10
open Go.Am.F06
structure RelM (xs : List Int) (o : Int) (s : MemSt) : Prop where
  cells : s.cells = xs
  ops : s.ops = o
  log : s.log.length ≤ 256
theorem RelM.new (n : Int) : RelM (List.replicate (bN n) 0) 0 (newSt n) := ⟨rfl, rfl, by simp [newSt]⟩
theorem getD_set {xs : List Int} {a : Nat} (h : a < xs.length) : xs.set a (xs.getD a 0) = xs := by
  apply List.ext_getElem?
  intro j
  by_cases hj : a = j
  · subst hj
    rw [List.getElem?_set_self h, List.getD_eq_getElem?_getD, List.getElem?_eq_getElem h]; rfl
  · rw [List.getElem?_set_ne hj]
theorem RelM.acc {xs : List Int} {o : Int} {s : MemSt} (h : RelM xs o s) {a : Nat} (ha : a < xs.length) (k : Int) (g : Int → Int × Bool) :
    ∃ s', accS k g s a = some (xs.getD a 0, (g (xs.getD a 0)).2, s') ∧ RelM (xs.set a (g (xs.getD a 0)).1) (IntKind.u64.wrap (o + 1)) s' := by
  obtain ⟨rfl, rfl, hl⟩ := h
  refine ⟨noted { s with cells := s.cells.set a (g (s.cells.getD a 0)).1 } ⟨k, a, s.cells.getD a 0, (g (s.cells.getD a 0)).1⟩ (g (s.cells.getD a 0)).2, ?_, rfl, rfl, ?_⟩
  · unfold accS
    rw [if_pos hl, if_pos (by omega), Int.toNat_natCast]
  · show (logMore _ _).2.length ≤ 256
    unfold logMore
    split
    · rename_i h2; simp only [List.length_append, List.length_cons, List.length_nil]; simp only at h2; omega
    · simp only [List.length_append, List.length_drop, List.length_cons, List.length_nil]; omega
theorem RelM.load {M : MM} {j : Nat} {xs : List Int} {o : Int} {s : MemSt} (h : RelM xs o s) (hM : M[j]? = some (.abs (.mem s))) {a : Nat} (ha : a < xs.length) :
    ∃ s', memF loadS [.ptr j 0, .int .i64 a] M = some (.int .u64 (xs.getD a 0), M.set j (.abs (.mem s'))) ∧ RelM xs (IntKind.u64.wrap (o + 1)) s' := by
  obtain ⟨s', h1, h2⟩ := h.acc ha 1 (fun w => (w, true))
  rw [getD_set ha] at h2
  exact ⟨s', by simp only [memF, hM, loadS, h1, Option.map_some], h2⟩
theorem RelM.store {M : MM} {j : Nat} {xs : List Int} {o : Int} {s : MemSt} (h : RelM xs o s) (hM : M[j]? = some (.abs (.mem s))) {a : Nat} (ha : a < xs.length) (x : Int) :
    ∃ s', memF storeS [.ptr j 0, .int .i64 a, .int .u64 x] M = some (.tup [], M.set j (.abs (.mem s'))) ∧ RelM (xs.set a x) (IntKind.u64.wrap (o + 1)) s' := by
  obtain ⟨s', h1, h2⟩ := h.acc ha 2 (fun w => (x, true))
  exact ⟨s', by simp only [memF, hM, storeS, h1, Option.map_some], h2⟩
def KeepX {X : Type} (j k : Nat) (m m' : Mem X) : Prop := m.length ≤ m'.length ∧ ∀ i, i < m.length → i ≠ j → i ≠ k → m'[i]? = m[i]?
section
variable {X : Type} {j k : Nat}
theorem KeepX.refl (m : Mem X) : KeepX j k m m := ⟨Nat.le_refl _, fun _ _ _ _ => rfl⟩
theorem KeepX.trans {m m' m'' : Mem X} (h : KeepX j k m m') (i : KeepX j k m' m'') : KeepX j k m m'' :=
  ⟨Nat.le_trans h.1 i.1, fun a ha h1 h2 => (i.2 a (Nat.lt_of_lt_of_le ha h.1) h1 h2).trans (h.2 a ha h1 h2)⟩
theorem KeepX.of {m m' : Mem X} (h : Keep m m') : KeepX j k m m' := ⟨h.1, fun i hi _ _ => h.2 i hi⟩
theorem KeepX.setL {m m' : Mem X} (h : KeepX j k m m') (c : Chunk X) : KeepX j k m (m'.set j c) := ⟨by simpa using h.1, fun i hi h1 h2 => by rw [List.getElem?_set_ne (fun h => h1 h.symm)]; exact h.2 i hi h1 h2⟩
theorem KeepX.setR {m m' : Mem X} (h : KeepX j k m m') (c : Chunk X) : KeepX j k m (m'.set k c) := ⟨by simpa using h.1, fun i hi h1 h2 => by rw [List.getElem?_set_ne (fun h => h2 h.symm)]; exact h.2 i hi h1 h2⟩
theorem KeepX.set {m m' : Mem X} (h : KeepX j k m m') {q : Nat} (hq : m.length ≤ q) (c : Chunk X) : KeepX j k m (m'.set q c) := ⟨by simpa using h.1, fun i hi h1 h2 => by rw [List.getElem?_set_ne (by omega)]; exact h.2 i hi h1 h2⟩
theorem KeepX.app {m m' : Mem X} (h : KeepX j k m m') (K : Mem X) : KeepX j k m (m' ++ K) := h.trans (.of (Keep.app _ _))
theorem KeepX.get {m m' : Mem X} (h : KeepX j k m m') {i : Nat} {c : Chunk X} (hi : m[i]? = some c) (h1 : i ≠ j) (h2 : i ≠ k) : m'[i]? = some c := (h.2 i (List.getElem?_eq_some_iff.1 hi).1 h1 h2).trans hi
theorem KeepX.sl {m m' : Mem X} (h : KeepX j k m m') {szj szk : Nat} {wr : Bool} {sz n : Nat} {l : List AV} {v : AV} (hj : ∀ ro L, m[j]? ≠ some (.cells sz ro L)) (hk : ∀ ro L, m[k]? ≠ some (.cells sz ro L)) (hs : Sl m wr sz n l v) : Sl m' wr sz n l v := by
  refine ⟨hs.1, ?_⟩
  rcases hs.2 with h1 | ⟨q, o, cap, h1, h2⟩
  · exact .inl h1
  · refine .inr ⟨q, o, cap, h1, fun h0 => ?_⟩
    obtain ⟨ro, L, h3, h4⟩ := h2 h0
    refine ⟨ro, L, h.get h3 (fun hq => ?_) (fun hq => ?_), h4⟩
    · rw [hq] at h3; exact hj _ _ h3
    · rw [hq] at h3; exact hk _ _ h3
end
end Go.Am.F10
end
section
namespace Go.Am.F10
open Go.Am.F06 (memC slOne)
variable {X : Type}
def Rq (q : Int) (k : Nat) : Prop := (q = 2 ∧ k = 6) ∨ (q = 4 ∧ k = 5) ∨ (q = 8 ∧ k = 4) ∨ (q = 16 ∧ k = 3) ∨ (q = 32 ∧ k = 2) ∨ (q = 64 ∧ k = 1) ∨ (q = 128 ∧ k = 0)
theorem Rq.next {q : Int} {k : Nat} (h : Rq q k) : q = 128 ∨ (2 ≤ q ∧ q ≤ 64 ∧ k - 1 < k ∧ Rq (q * 2) (k - 1)) := by unfold Rq at h ⊢; omega
end Go.Am.F10
end
section
namespace Go.Am.F10
open Go.Am.F06 (memC slOne)
variable {X : Type}
end Go.Am.F10
end
section
namespace Go.Am.F06
end Go.Am.F06
namespace Go.Am.F10
open Go.Am.F06
structure SUN (lo hi : Nat) (m : MM) (wr : Bool) (xs : List Int) (v : AV) : Prop where
  su : SU m wr xs v
  no : ∀ b, lo ≤ b → b < hi → ∀ ro L, m[b]? ≠ some (.cells 1 ro L)
theorem SUN.set {lo hi : Nat} {m : MM} {wr : Bool} {xs : List Int} {v : AV} (h : SUN lo hi m wr xs v) {a : Nat} (h1 : lo ≤ a) (h2 : a < hi) {C : Chunk Ob} (hC : ∀ ro L, C ≠ .cells 1 ro L) : SUN lo hi (m.set a C) wr xs v := by
  refine ⟨(KeepB.at _ _).off (fun q o n c hv h0 hq => ?_) h.su, fun b b1 b2 ro L hb => ?_⟩
  · rcases h.su.2 with ⟨h3, _⟩ | ⟨q2, o2, c2, h3, h4⟩
    · rw [h3] at hv; cases hv
    · rw [h3] at hv; injection hv with e1 e2 e3 e4; subst e1; subst e3; subst hq
      obtain ⟨ro, L, h5, _⟩ := h4 h0
      exact h.no _ h1 h2 _ _ h5
  · by_cases hab : a = b
    · subst hab
      by_cases hl : a < m.length
      · rw [List.getElem?_set_self hl] at hb; injection hb with hb; exact hC _ _ hb
      · rw [List.getElem?_eq_none (by rw [List.length_set]; omega)] at hb; cases hb
    · rw [List.getElem?_set_ne hab] at hb; exact h.no b b1 b2 _ _ hb
structure GS where
  a : Int
  w : Int
  seen : Int
  has : Bool
  tries : Int
def gC (c : Cf) (p : Int) (s : GS) : List AV := getC c p s.a s.w s.seen s.has s.tries
structure GOk (c : Cf) (p : Int) (s : GS) : Prop where
  w : W64 s.w
  a : s.a = 0 ∨ (thereP c p ∧ (s.a = 1 ∨ s.a = 2 ∨ s.a = 3))
  has : s.has = true → s.a = 0
def wrdN (c : Cf) (p : Int) : Nat := (addrA c p 0).toNat
def sltN (c : Cf) (p w : Int) : Nat := (slotA c p (hd w)).toNat
def stepG (c : Cf) (p : Int) (xs : List Int) (s : GS) : GS × List Int :=
  if s.a = 1 then ({ s with w := xs.getD (wrdN c p) 0, a := if sz (xs.getD (wrdN c p) 0) = 0 ∨ c.q < sz (xs.getD (wrdN c p) 0) then 0 else 2 }, xs)
  else if s.a = 2 then ({ s with seen := IntKind.i64.wrap (xs.getD (sltN c p s.w) 0), a := 3 }, xs)
  else if s.a = 3 then if xs.getD (wrdN c p) 0 = s.w then ({ s with has := true, a := 0 }, xs.set (wrdN c p) (gainW s.w)) else ({ s with tries := IntKind.i64.wrap (s.tries + 1), a := 1 }, xs)
  else (s, xs)
def opsG (s : GS) (o : Int) : Int := if s.a = 0 then o else IntKind.u64.wrap (o + 1)
theorem getD_64 {xs : List Int} (h : ∀ x, x ∈ xs → W64 x) (i : Nat) : W64 (xs.getD i 0) := by
  rw [List.getD_eq_getElem?_getD]
  cases hx : xs[i]? with
  | none => unfold W64; simp
  | some x => exact h x (List.mem_of_getElem? hx)
theorem stepG_zero {c : Cf} {p : Int} {s : GS} (h : s.a = 0) (xs : List Int) : stepG c p xs s = (s, xs) := by
  unfold stepG; rw [if_neg (by omega), if_neg (by omega), if_neg (by omega)]
theorem GOk.step {c : Cf} {p : Int} {s : GS} {xs : List Int} (h : GOk c p s) (hx : s.a = 0 ∨ OkL c xs) : GOk c p (stepG c p xs s).1 := by
  rcases hx with h0 | hx
  · rw [stepG_zero h0]; exact h
  obtain ⟨h1, h2, h3⟩ := h
  have hg := getD_64 hx.2 (wrdN c p)
  unfold stepG
  split
  · refine ⟨hg, ?_, fun hh => ?_⟩
    · by_cases hz : sz (xs.getD (wrdN c p) 0) = 0 ∨ c.q < sz (xs.getD (wrdN c p) 0)
      · exact .inl (if_pos hz)
      · refine .inr ⟨?_, .inr (.inl (if_neg hz))⟩
        rcases h2 with h2 | h2
        · omega
        · exact h2.1
    · have := h3 hh; omega
  · split
    · refine ⟨h1, .inr ⟨?_, .inr (.inr rfl)⟩, fun hh => ?_⟩
      · rcases h2 with h2 | h2
        · omega
        · exact h2.1
      · have := h3 hh; omega
    · split
      · split
        · exact ⟨h1, .inl rfl, fun _ => rfl⟩
        · refine ⟨h1, .inr ⟨?_, .inl rfl⟩, fun hh => ?_⟩
          · rcases h2 with h2 | h2
            · omega
            · exact h2.1
          · have := h3 hh; omega
      · exact ⟨h1, h2, h3⟩
end Go.Am.F10
end
section
namespace Go.Am.F10
open Go.Am.F06
def GsQ (m : MM) (c : Cf) (p : Int) (j i : Nat) (x : GS × List Int) (o a0 : Int) (r : AV) (m' : MM) : Prop := KeepX j i m m' ∧ r = .int .i64 x.1.a ∧ m'[j]? = some (.cells 12 false (gC c p { x.1 with a := a0 })) ∧ ∃ st', m'[i]? = some (.abs (.mem st')) ∧ RelM x.2 o st'
theorem GsQ.of {m : MM} {c : Cf} {p : Int} {j i : Nat} {x : GS × List Int} {o a0 : Int} {st' : MemSt} {r : AV} {C : List AV} (hij : j ≠ i) (li : i < m.length) (lj : j < m.length) (hr : RelM x.2 o st') (hC : C = gC c p { x.1 with a := a0 }) (hv : r = .int .i64 x.1.a) (K : MM) :
    GsQ m c p j i x o a0 r ((m.set i (.abs (.mem st'))).set j (.cells 12 false C) ++ K) := by
  subst hC
  refine ⟨(((KeepX.refl m).setR _).setL _).app K, hv, ?_, st', ?_, hr⟩
  · rw [List.getElem?_append_left (by simpa using lj), List.getElem?_set_self (by simpa using lj)]
  · rw [List.getElem?_append_left (by simpa using li), List.getElem?_set_ne hij, List.getElem?_set_self li]
end Go.Am.F10
end
section
namespace Go.Am.F10
open Go.Am.F06
theorem _root_.Go.Am.Sl.put {X : Type} {m : Mem X} {wr : Bool} {sz n : Nat} {l : List AV} {v : AV} (h : Sl m wr sz n l v) {b : Nat} (hb : ∀ ro L, m[b]? ≠ some (.cells sz ro L)) (C : Chunk X) : Sl (m.set b C) wr sz n l v := by
  refine ⟨h.1, ?_⟩
  rcases h.2 with h1 | ⟨q, o, cap, h1, h2⟩
  · exact .inl h1
  · refine .inr ⟨q, o, cap, h1, fun h0 => ?_⟩
    obtain ⟨ro, L, h3, h4⟩ := h2 h0
    refine ⟨ro, L, ?_, h4⟩
    rw [List.getElem?_set_ne (fun hq => hb ro L (by rw [hq]; exact h3))]; exact h3
structure Pk where
  d : Bool
  a : Int
  v : Int
def pkC (x : Pk) : List AV := [.bool x.d, .int .i64 x.a, .int .u64 x.v]
abbrev SPk {X : Type} (m : Mem X) (wr : Bool) (es : List Pk) (v : AV) : Prop := Sl m wr 3 es.length (es.flatMap pkC) v
end Go.Am.F10
end
section
namespace Go.Am.F10
open Go.Am.F06
end Go.Am.F10
end
section
namespace Go.Am.F10
variable {X : Type}
def iC (xs : List Int) : List AV := xs.map (AV.int .i64)
theorem iC_at {xs : List Int} {k : Nat} {x : Int} (h : xs[k]? = some x) : (iC xs)[k]? = some (.int .i64 x) := by simp [iC, h]
theorem iC_len (xs : List Int) : (iC xs).length = xs.length := by simp [iC]
abbrev SI (m : Mem X) (wr : Bool) (xs : List Int) (v : AV) : Prop := Sl m wr 1 xs.length (iC xs) v
theorem SI.val {m : Mem X} {wr : Bool} {xs : List Int} {v : AV} (h : SI m wr xs v) (hn : 0 < xs.length) : ∃ q o cap ro L, v = .sl q o xs.length cap ∧ m[q]? = some (.cells 1 ro L) ∧ (wr = true → ro = false) ∧ o + xs.length ≤ L.length ∧ ∀ (i : Nat) (x : Int), xs[i]? = some x → L[o + i]? = some (.int .i64 x) := by
  obtain ⟨q, o, cap, ro, L, h1, h2, h3, h4, h5⟩ := h.at hn
  refine ⟨q, o, cap, ro, L, h1, h2, h5, by omega, fun i x hx => ?_⟩
  have hi : i < xs.length := (List.getElem?_eq_some_iff.1 hx).1
  rw [sl_get h3 (by omega)]; exact iC_at hx
theorem _root_.Go.Am.Own.si {m0 m : Mem X} {xs : List Int} {v : AV} (h : Own m0 m 1 xs.length (iC xs) v) : SI m true xs v ∧ Fr m0.length v := Own.sl h (by rw [iC_len]; omega)
theorem _root_.Go.Am.Own.keep {m0 m m' : Mem X} {n : Nat} {l : List AV} {lv : AV} (h : Own m0 m 1 n l lv) (hk : ∀ q C, m0.length ≤ q → m[q]? = some (.cells 1 false C) → m'[q]? = some (.cells 1 false C)) : Own m0 m' 1 n l lv := by
  rcases h with h | ⟨q, h1, h2, h3, h4⟩
  · exact .inl h
  · have := hk q _ h3 h2
    exact .inr ⟨q, h1, this, h3, (List.getElem?_eq_some_iff.1 this).1⟩
def Nx (m : Mem X) (v : AV) : Prop := v = .nils ∨ ∃ q o n l, v = .sl q o n none ∧ m[q]? = some (.cells 1 false l)
theorem _root_.Go.Am.Own.base {m0 m1 m : Mem X} {n : Nat} {l : List AV} {v : AV} (h : Own m1 m 1 n l v) (hl : m0.length ≤ m1.length) : Own m0 m 1 n l v := by
  rcases h with h | ⟨q, h1, h2, h3, h4⟩
  · exact .inl h
  · exact .inr ⟨q, h1, h2, by omega, h4⟩
end Go.Am.F10
end
section
namespace Go.Am.F10
open Go.Am.F06
def ringN (c : Cf) (w : Int) : Nat := if sz w ≤ c.q then (sz w).toNat else 0
def ringAt (c : Cf) (p : Int) (xs : List Int) (w : Int) (i : Nat) : Int := IntKind.i64.wrap (xs.getD (slotA c p ((hd w + i) % 4294967296)).toNat 0)
def ringW (c : Cf) (p : Int) (xs : List Int) (w : Int) (n : Nat) : List Int := (List.range n).map (ringAt c p xs w)
def ringL (c : Cf) (p : Int) (xs : List Int) : List Int := if thereP c p then ringW c p xs (xs.getD (wrdN c p) 0) (ringN c (xs.getD (wrdN c p) 0)) else []
theorem ringW_len (c : Cf) (p : Int) (xs : List Int) (w : Int) (n : Nat) : (ringW c p xs w n).length = n := by simp [ringW]
theorem ringN_le {c : Cf} {p : Int} (h : thereP c p) (w : Int) : ringN c w ≤ 64 := by
  have := there_bounds h
  unfold ringN; split <;> omega
end Go.Am.F10
end
section
namespace Go.Am.F10
open Go.Am.F06
abbrev GT := GS × List Int × Int
def nextT (c : Cf) (p : Int) (t : GT) : GT := ((stepG c p t.2.1 t.1).1, (stepG c p t.2.1 t.1).2, opsG t.1 t.2.2)
inductive Ends (c : Cf) (p : Int) : GT → Nat → GT → Prop
  | done {t : GT} (h : t.1.a = 0) : Ends c p t 0 t
  | step {t f : GT} {k : Nat} (h : t.1.a ≠ 0) (hn : Ends c p (nextT c p t) k f) : Ends c p t (k + 1) f
def dW (w : Int) (i : Nat) : Int := pk ((hd w + i) % 4294967296) (tl w)
def dX (c : Cf) (p : Int) (xs : List Int) (i : Nat) : List Int := if i = 0 then xs else xs.set (wrdN c p) (dW (xs.getD (wrdN c p) 0) i)
theorem hd_pk {h t : Int} (h0 : 0 ≤ t) (h1 : t < 4294967296) : hd (pk h t) = h := by unfold hd pk; omega
theorem tl_pk {h t : Int} (h0 : 0 ≤ t) (h1 : t < 4294967296) : tl (pk h t) = t := by unfold tl pk; omega
theorem hd_dW (w : Int) (i : Nat) : hd (dW w i) = (hd w + i) % 4294967296 := hd_pk (tl_b w).1 (tl_b w).2
theorem tl_dW (w : Int) (i : Nat) : tl (dW w i) = tl w := tl_pk (tl_b w).1 (tl_b w).2
theorem dW_zero {w : Int} (h : W64 w) : dW w 0 = w := by
  have := hd_b h
  unfold dW; rw [show (hd w + ((0 : Nat) : Int)) % 4294967296 = hd w by omega]
  unfold pk hd tl; omega
theorem dW_gain (w : Int) (i : Nat) : gainW (dW w i) = dW w (i + 1) := by
  unfold gainW; rw [hd_dW, tl_dW]; unfold dW
  congr 1; omega
theorem dW_sz {w : Int} {i : Nat} (h : (i : Int) ≤ sz w) : sz (dW w i) = sz w - i := by
  unfold sz; rw [hd_dW, tl_dW]; unfold sz at h; omega
theorem dW_64 (w : Int) (i : Nat) : W64 (dW w i) := by
  have := tl_b w
  unfold dW pk W64; omega
theorem dX_word {c : Cf} {p : Int} {xs : List Int} (hx : OkL c xs) (h : thereP c p) (i : Nat) : (dX c p xs i).getD (wrdN c p) 0 = dW (xs.getD (wrdN c p) 0) i := by
  have hb := there_bounds h
  have ha := addr_b h (i := 0) (by omega) (by omega)
  have hl := hx.1
  unfold dX; split
  · rename_i h0; subst h0
    exact (dW_zero (getD_64 hx.2 _)).symm
  · rw [List.getD_eq_getElem?_getD, List.getElem?_set_self (by unfold wrdN; omega)]; rfl
theorem dX_slot {c : Cf} {p : Int} {xs : List Int} (h : thereP c p) (i : Nat) {k : Int} (hk : 0 ≤ k) : (dX c p xs i).getD (slotA c p k).toNat 0 = xs.getD (slotA c p k).toNat 0 := by
  have hb := there_bounds h
  have h0 := Int.emod_nonneg k (b := c.q) (by omega)
  have hm := mul_bounds hb.2.2.2.2.1 hb.2.2.2.2.2 (q := 6 + c.q) (by omega) (by omega)
  unfold dX; split
  · rfl
  · rw [List.getD_eq_getElem?_getD, List.getElem?_set_ne, ← List.getD_eq_getElem?_getD]
    unfold wrdN slotA; rw [if_pos h.1]; unfold addrA; rw [if_pos h, if_pos h]; omega
theorem dX_next {c : Cf} {p : Int} {xs : List Int} (i : Nat) : (dX c p xs i).set (wrdN c p) (dW (xs.getD (wrdN c p) 0) (i + 1)) = dX c p xs (i + 1) := by
  rw [dX, dX, if_neg (Nat.succ_ne_zero i)]
  split
  · rfl
  · rw [List.set_set]
end Go.Am.F10
end
section
namespace Go.Am.F10
open Go.Am.F06
theorem Ends.next {c : Cf} {p : Int} {t f : GT} {k : Nat} (h : Ends c p t k f) :
    ((stepG c p t.2.1 t.1).1.a = 0 → ((stepG c p t.2.1 t.1).1, (stepG c p t.2.1 t.1).2, opsG t.1 t.2.2) = f) ∧
    ((stepG c p t.2.1 t.1).1.a ≠ 0 → ∃ k2, k2 < k ∧ Ends c p ((stepG c p t.2.1 t.1).1, (stepG c p t.2.1 t.1).2, opsG t.1 t.2.2) k2 f) := by
  cases h with
  | done h0 =>
    rw [stepG_zero h0]
    refine ⟨fun _ => ?_, fun hh => absurd h0 hh⟩
    show (t.1, t.2.1, opsG t.1 t.2.2) = t
    unfold opsG; rw [if_pos h0]
  | @step _ _ k hne hn =>
    refine ⟨fun h0 => ?_, fun _ => ⟨k, by omega, hn⟩⟩
    cases hn with
    | done _ => rfl
    | step h1 _ => exact absurd h0 h1
theorem ringL_there {c : Cf} {p : Int} {xs : List Int} (h : thereP c p) : ringL c p xs = ringW c p xs (xs.getD (wrdN c p) 0) (ringN c (xs.getD (wrdN c p) 0)) := if_pos h
theorem ringL_not {c : Cf} {p : Int} {xs : List Int} (h : ¬ thereP c p) : ringL c p xs = [] := if_neg h
theorem ringL_le (c : Cf) (p : Int) (xs : List Int) : (ringL c p xs).length ≤ 64 := by
  by_cases h : thereP c p
  · rw [ringL_there h, ringW_len]; exact ringN_le h _
  · rw [ringL_not h]; simp
theorem ringW_get (c : Cf) (p : Int) (xs : List Int) (w : Int) {i n : Nat} (h : i < n) : (ringW c p xs w n)[i]? = some (ringAt c p xs w i) := by
  rw [ringW, List.getElem?_map, List.getElem?_range h]; rfl
end Go.Am.F10
end
section
namespace Go.Am.F10
open Go.Am.F06
section
variable {X : Type}
end
end Go.Am.F10
end
section
namespace Go.Am.F10
open Go.Am.F06
theorem _root_.Go.Am.F06.KeepB.x {X : Type} {j : Nat} {m m' : Mem X} (h : KeepB j m m') : KeepX j j m m' := ⟨h.1, fun a ha h1 _ => h.2 a ha h1⟩
end Go.Am.F10
end
section
namespace Go.Am.F10
open Go.Am.F06
theorem ringN_pos {c : Cf} {w : Int} (h : 0 < ringN c w) : sz w ≤ c.q ∧ (ringN c w : Int) = sz w := by
  have hs : 0 ≤ sz w := by unfold sz; omega
  unfold ringN at h ⊢
  split at h
  · rename_i hh; rw [if_pos hh]; exact ⟨hh, by omega⟩
  · omega
theorem dW_inj {w : Int} {d e : Nat} (hd : d ≤ 100) (he : e ≤ 100) (h : dW w d = dW w e) : d = e := by
  have h1 := hd_dW w d
  have h2 := hd_dW w e
  rw [h, h2] at h1
  omega
structure OI (c : Cf) (p : Int) (xs : List Int) (i d g : Nat) (s : GS) : Prop where
  dl : d ≤ (ringL c p xs).length
  gl : g ≤ d
  t0 : 0 ≤ s.tries
  t1 : s.tries ≤ g
  st : s.a = 0 ∨ ((s.a = 1 ∨ (s.a = 2 ∨ s.a = 3) ∧ ∃ e, e ≤ d ∧ e < (ringL c p xs).length ∧ s.w = dW (xs.getD (wrdN c p) 0) e ∧ (s.a = 3 → s.seen = (ringL c p xs).getD e 0) ∧ s.tries + (if e < d then 1 else 0) ≤ g) ∧ (i : Int) = 3 * s.tries + s.a - 1)
theorem OI.lt {c : Cf} {p : Int} {xs : List Int} {i d g : Nat} {s : GS} (h : OI c p xs i d g s) (ha : s.a ≠ 0) : i < 200 := by
  have hle := ringL_le c p xs
  obtain ⟨h1, h2, h3, h4, h5⟩ := h
  rcases h5 with h5 | ⟨h5, h6⟩
  · exact absurd h5 ha
  · have : s.a ≤ 3 := by
      rcases h5 with h5 | ⟨h5, _⟩ <;> omega
    omega
theorem OI.step {c : Cf} {p : Int} {xs : List Int} {i d g : Nat} {s : GS} (h : OI c p xs i d g s) (hx : OkL c xs) (hp : thereP c p) (ha : s.a ≠ 0) :
    ((stepG c p (dX c p xs d) s).1.a ≠ 0 ∧ (stepG c p (dX c p xs d) s).2 = dX c p xs d ∧ OI c p xs (i + 1) d g (stepG c p (dX c p xs d) s).1) ∨
    ((stepG c p (dX c p xs d) s).1.a = 0 ∧ (stepG c p (dX c p xs d) s).1.has = s.has ∧ (stepG c p (dX c p xs d) s).2 = dX c p xs d ∧ d = (ringL c p xs).length ∧ OI c p xs (i + 1) d g (stepG c p (dX c p xs d) s).1) ∨
    ((stepG c p (dX c p xs d) s).1.a = 0 ∧ (stepG c p (dX c p xs d) s).1.has = true ∧ d < (ringL c p xs).length ∧ (stepG c p (dX c p xs d) s).1.seen = (ringL c p xs).getD d 0 ∧ (stepG c p (dX c p xs d) s).2 = dX c p xs (d + 1) ∧ OI c p xs (i + 1) (d + 1) g (stepG c p (dX c p xs d) s).1) := by
  have hle := ringL_le c p xs
  have hw := dX_word hx hp d
  have hw64 := getD_64 hx.2 (wrdN c p)
  have hlen : (ringL c p xs).length = ringN c (xs.getD (wrdN c p) 0) := by rw [ringL_there hp, ringW_len]
  have hget : ∀ e, e < (ringL c p xs).length → (ringL c p xs).getD e 0 = ringAt c p xs (xs.getD (wrdN c p) 0) e := by
    intro e he
    rw [List.getD_eq_getElem?_getD, ringL_there hp, ringW_get _ _ _ _ (by omega)]; rfl
  have hnx := dX_next (c := c) (p := p) (xs := xs) d
  obtain ⟨h1, h2, h3, h4, h5⟩ := h
  obtain ⟨a, w, seen, has, tries⟩ := s
  simp only at ha h3 h4 h5
  generalize hw0 : xs.getD (wrdN c p) 0 = w0 at hw hw64 hlen hget h5 hnx
  rcases h5 with h5 | ⟨h5 | ⟨h5 | h5, e, e1, e2, e3, e4, e5⟩, h6⟩
  · exact absurd h5 ha
  · subst h5
    have hs : stepG c p (dX c p xs d) ⟨1, w, seen, has, tries⟩ = (⟨if sz (dW w0 d) = 0 ∨ c.q < sz (dW w0 d) then 0 else 2, dW w0 d, seen, has, tries⟩, dX c p xs d) := by
      simp only [stepG, hw, if_true]
    rw [hs]
    by_cases hz : sz (dW w0 d) = 0 ∨ c.q < sz (dW w0 d)
    · rw [if_pos hz]
      refine .inr (.inl ⟨rfl, rfl, rfl, ?_, h1, h2, h3, h4, .inl rfl⟩)
      rcases Nat.eq_zero_or_pos (ringN c w0) with h0 | h0
      · omega
      · obtain ⟨q1, q2⟩ := ringN_pos h0
        have := dW_sz (w := w0) (i := d) (by omega)
        omega
    · rw [if_neg hz]
      refine .inl ⟨by simp, rfl, h1, h2, h3, h4, .inr ⟨.inr ⟨.inl rfl, d, Nat.le_refl _, ?_, by rw [hw0], fun hh => by simp at hh, by rw [if_neg (Nat.lt_irrefl _)]; simp only; omega⟩, by simp only; omega⟩⟩
      by_cases hq : sz w0 ≤ c.q
      · have h0 : ringN c w0 = (sz w0).toNat := if_pos hq
        have hs0 : 0 ≤ sz w0 := by unfold sz; omega
        have := dW_sz (w := w0) (i := d) (by omega)
        omega
      · have h0 : ringN c w0 = 0 := if_neg hq
        have hd0 : d = 0 := by omega
        subst hd0
        rw [dW_zero hw64] at hz
        omega
  · subst h5
    have hhd : 0 ≤ hd (dW w0 e) := by rw [hd_dW]; omega
    have hsl := dX_slot (xs := xs) hp d hhd
    rw [hd_dW] at hsl
    have hs : stepG c p (dX c p xs d) ⟨2, w, seen, has, tries⟩ = (⟨3, w, ringAt c p xs w0 e, has, tries⟩, dX c p xs d) := by
      simp only [stepG, if_neg (show ¬ ((2 : Int) = 1) by decide), if_true, e3, sltN, hd_dW, hsl, ringAt]
    rw [hs]
    refine .inl ⟨by simp, rfl, h1, h2, h3, h4, .inr ⟨.inr ⟨.inr rfl, e, e1, e2, by rw [hw0]; exact e3, fun _ => (hget e e2).symm, e5⟩, by simp only; omega⟩⟩
  · subst h5
    try simp only at e3 e4
    by_cases heq : dW w0 d = w
    · have hde : d = e := dW_inj (w := w0) (by omega) (by omega) (by rw [heq, e3])
      have hs : stepG c p (dX c p xs d) ⟨3, w, seen, has, tries⟩ = (⟨0, w, seen, true, tries⟩, dX c p xs (d + 1)) := by
        rw [hde] at hw hnx
        simp only [stepG, if_neg (show ¬ ((3 : Int) = 1) by decide), if_neg (show ¬ ((3 : Int) = 2) by decide), if_true, hde, hw, e3, dW_gain, hnx]
      rw [hs]
      refine .inr (.inr ⟨rfl, rfl, by omega, ?_, rfl, by omega, by omega, h3, h4, .inl rfl⟩)
      rw [hde]; exact e4 trivial
    · have hs : stepG c p (dX c p xs d) ⟨3, w, seen, has, tries⟩ = (⟨1, w, seen, has, tries + 1⟩, dX c p xs d) := by
        have ew : IntKind.i64.wrap (tries + 1) = tries + 1 := wrapI (by omega) (by omega)
        simp only [stepG, if_neg (show ¬ ((3 : Int) = 1) by decide), if_neg (show ¬ ((3 : Int) = 2) by decide), if_true, hw, if_neg heq, ew]
      have hne : e < d := by
        rcases Nat.lt_or_ge e d with h | h
        · exact h
        · exact absurd (by rw [e3]; congr 1; omega) heq
      rw [if_pos hne] at e5
      rw [hs]
      exact .inl ⟨by simp, rfl, h1, h2, by simp only; omega, by simp only at e5 ⊢; omega, .inr ⟨.inl rfl, by simp only; omega⟩⟩
end Go.Am.F10
end
section
namespace Go.Am.F10
open Go.Am.F06
section
variable {X : Type}
def q3 (k : Int) : Int := if k = 0 then 2 else if k = 1 then 4 else 8
theorem _root_.Go.Am.F10.Nx.put {m : Mem X} {v : AV} (h : Nx m v) {b : Nat} (hb : ∀ ro L, m[b]? ≠ some (.cells 1 ro L)) (C : Chunk X) : Nx (m.set b C) v := by
  rcases h with h | ⟨q, o, n, l, h1, h2⟩
  · exact .inl h
  · refine .inr ⟨q, o, n, l, h1, ?_⟩
    rw [List.getElem?_set_ne (fun hq => hb _ _ (by rw [hq]; exact h2))]; exact h2
theorem _root_.Go.Am.F10.Nx.keep {m m' : Mem X} {v : AV} (h : Nx m v) (k : Keep m m') : Nx m' v := by
  rcases h with h | ⟨q, o, n, l, h1, h2⟩
  · exact .inl h
  · exact .inr ⟨q, o, n, l, h1, k.get h2⟩
end
end Go.Am.F10
end
section
namespace Go.Am.F10
open Go.Am.F06
end Go.Am.F10
end
section
namespace Go.Am.F10
open Go.Am.F06
end Go.Am.F10
end
section
namespace Go.Am.F10
open Go.Am.F06
end Go.Am.F10
end
section
namespace Go.Am.F10
open Go.Am.F06
def Rw (m : MM) (q n sz : Nat) (l : List AV) (v : AV) : Prop := (n = 0 ∧ l = [] ∧ v = .nils) ∨ (0 < n ∧ v = .sl q 0 n none ∧ m[q]? = some (.cells sz false l))
theorem Rw.nil {m : MM} {q sz : Nat} : Rw m q 0 sz [] .nils := .inl ⟨rfl, rfl, rfl⟩
theorem Rw.sl {m : MM} {q n sz : Nat} {l : List AV} {v : AV} (h : Rw m q n sz l v) (hl : l.length = n * sz) : Sl m false sz n l v := by
  rcases h with ⟨rfl, rfl, rfl⟩ | ⟨_, rfl, h⟩
  · exact Sl.nil
  · exact ⟨hl, .inr ⟨q, 0, none, rfl, fun _ => ⟨false, l, h, by rw [List.drop_zero, ← hl, List.take_length], by omega, fun h => by cases h⟩⟩⟩
theorem Rw.lt {m : MM} {q n sz : Nat} {l : List AV} {v : AV} (h : Rw m q n sz l v) (hn : 0 < n) : q < m.length := by
  rcases h with ⟨rfl, _⟩ | ⟨_, _, h⟩
  · omega
  · exact (List.getElem?_eq_some_iff.1 h).1
theorem Rw.keep {m m' : MM} {q n sz : Nat} {l : List AV} {v : AV} (h : Rw m q n sz l v) (hq : 0 < n → m'[q]? = m[q]?) : Rw m' q n sz l v := by
  rcases h with h | ⟨h1, h2, h3⟩
  · exact .inl h
  · exact .inr ⟨h1, h2, by rw [hq h1]; exact h3⟩
theorem Rw.one {m : MM} {q n sz : Nat} {l : List AV} {v : AV} (h : Rw m q n sz l v) : v.one = true := by
  rcases h with ⟨_, _, rfl⟩ | ⟨_, rfl, _⟩ <;> rfl
theorem Rw.push {m : MM} {q n sz bytes : Nat} {l x : List AV} {v : AV} (h : Rw m q n sz l v) (hl : l.length = n * sz) (hx : x.length = sz) (h0 : l.all AV.one = true) (h1 : x.all AV.one = true) (hn : n ≤ 1000) (hb : bytes ≤ 100) :
    ∃ v' m', appendA sz bytes v (.sl m.length 0 1 (some 1)) (m ++ [.cells sz false x]) = some (v', m') ∧ Rw m' (m.length + 1) (n + 1) sz (l ++ x) v' ∧ m.length ≤ m'.length ∧ ∀ i, i < m.length → (n = 0 ∨ i ≠ q) → m'[i]? = m[i]? := by
  have hg : (m ++ [Chunk.cells sz false x])[m.length]? = some (.cells sz false x) := get_concat
  rcases h with ⟨rfl, rfl, rfl⟩ | ⟨hp, rfl, hq⟩
  · refine ⟨_, _, append_nils hg hx h1 (by omega), .inr ⟨by omega, by simp, ?_⟩, by simp <;> omega, fun i hi _ => ?_⟩
    · rw [show m.length + 1 = (m ++ [Chunk.cells sz false x]).length by simp, get_concat]; rfl
    · rw [List.getElem?_append_left (by simp <;> omega), List.getElem?_append_left hi]
  · have hql : q < m.length := (List.getElem?_eq_some_iff.1 hq).1
    have hq' : (m ++ [Chunk.cells sz false x])[q]? = some (.cells sz false l) := by rw [List.getElem?_append_left hql]; exact hq
    have hb2 : (n + 1) * bytes ≤ 35184372088832 := Nat.le_trans (Nat.mul_le_mul (show n + 1 ≤ 1001 by omega) hb) (by decide)
    refine ⟨_, _, append_none hq' hl hg hx h0 h1 hb2 (by omega), .inr ⟨by omega, by simp, ?_⟩, by simp <;> omega, fun i hi ho => ?_⟩
    · rw [show m.length + 1 = ((m ++ [Chunk.cells sz false x]).set q .dead).length by simp, get_concat]
    · have hqi : q ≠ i := by omega
      rw [List.getElem?_append_left (by simp <;> omega), List.getElem?_set_ne hqi, List.getElem?_append_left hi]
end Go.Am.F10
end
section
namespace Go.Am.F09
variable {X : Type}
def c_cell_New : AFun X := amFunc [] cell_New
def c_cell_Mem_Ops : AFun X := amFunc [] cell_Mem_Ops
end Go.Am.F09
end
section
namespace Go.Am.F09
variable {X : Type}
end Go.Am.F09
end
section
namespace Go.Am.F09
variable {X : Type}
def rootN (j k : Nat) : List AV := [.int .u64 0, .int .u64 0, .int .u64 0, .int .u64 0, .int .u64 0, .int .u64 0, .nils, .sl j 0 k (some k)]
theorem ops_eq {m : Mem X} {j a b : Nat} (hj : m[j]? = some (.cells 8 false (rootN a b))) : c_cell_Mem_Ops [.ptr j 0] m = some (.int .u64 0, m) := Fn_eq (Fn_of rfl (by simp (disch := first | assumption | omega | (simp only [zl] <;> omega) | (simp only [zn])) only [cell_Mem_Ops, ↓zd, zk, Nat.reduceSub, Nat.reduceAdd, Nat.reduceMul, Nat.reduceLeDiff, Nat.reduceEqDiff, reduceIte, Int.reduceEq, Int.reduceBEq, Int.reduceLE, Int.reduceLT, Int.reduceNeg, Int.reduceAdd, Int.reduceSub, Int.reduceMul, List.map, AV.cells, List.all, AV.one, eqV, eqAll, splice, fillA, List.replicate, resAll, resA, zm, zg, hj, rootN]))
end Go.Am.F09
end
section
namespace Go.Am.F09
open Go.Am.F06 Go.Am.F10
section
variable {X : Type}
def growW (w n : Int) : Int := pk (hd w) ((tl w + n) % 4294967296)
def dropW (w n : Int) : Int := pk (hd w) ((tl w - n) % 4294967296)
theorem grow_64 {w : Int} (h : W64 w) (n : Int) : W64 (growW w n) := by
  have := hd_b h
  unfold growW pk W64; omega
theorem drop_64 {w : Int} (h : W64 w) (n : Int) : W64 (dropW w n) := by
  have := hd_b h
  unfold dropW pk W64; omega
def rgC (c : Cf) (p a w k : Int) (T : List AV) : List AV := cfC c ++ (.int .i64 p :: .int .i64 a :: .int .u64 w :: .int .u32 k :: T)
def pslA (c : Cf) (p w i : Int) : Int := slotA c p ((tl w + i) % 4294967296)
end
end Go.Am.F09
end
section
namespace Go.Am.F09
open Go.Am.F06 Go.Am.F10
structure PS where
  a : Int
  w : Int
  tk : List Int
  hs : List Int
def putC (c : Cf) (p g : Int) (s : PS) (tv hv : AV) : List AV := rgC c p s.a s.w 0 [.int .i64 g, tv, hv]
def stepP (c : Cf) (p g : Int) (xs : List Int) (s : PS) : PS × List Int :=
  if s.a = 1 then ({ s with w := xs.getD (wrdN c p) 0, tk := [], a := if c.q ≤ sz (xs.getD (wrdN c p) 0) then 4 else 2 }, xs)
  else if s.a = 2 then ({ s with a := 3 }, xs.set (pslA c p s.w 0).toNat (IntKind.u64.wrap g))
  else if s.a = 3 then (if xs.getD (wrdN c p) 0 = s.w then ({ s with a := 0, hs := [] }, xs.set (wrdN c p) (growW s.w 1)) else ({ s with a := 1 }, xs))
  else if s.a = 4 then ({ s with tk := s.tk ++ [IntKind.i64.wrap (xs.getD (pslA c p s.w (s.tk.length - c.q / 2)).toNat 0)], a := if (s.tk.length : Int) + 1 = c.q / 2 then 5 else 4 }, xs)
  else if s.a = 5 then (if xs.getD (wrdN c p) 0 = s.w then ({ s with a := 0, hs := s.tk ++ [g] }, xs.set (wrdN c p) (dropW s.w (c.q / 2))) else ({ s with a := 1 }, xs))
  else (s, xs)
structure POk (c : Cf) (p : Int) (s : PS) : Prop where
  w : W64 s.w
  a : s.a = 0 ∨ (thereP c p ∧ (s.a = 1 ∨ s.a = 2 ∨ s.a = 3 ∨ (s.a = 4 ∧ (s.tk.length : Int) < c.q / 2) ∨ (s.a = 5 ∧ (s.tk.length : Int) = c.q / 2)))
  h : s.hs.length ≤ 100
def KeepT (xj j qt : Nat) (m m' : MM) : Prop := m.length ≤ m'.length ∧ ∀ i, i < m.length → i ≠ xj → i ≠ j → i ≠ qt → m'[i]? = m[i]?
theorem KeepX.t {xj j qt : Nat} {m m' : MM} (h : KeepX xj j m m') : KeepT xj j qt m m' := ⟨h.1, fun i hi h1 h2 _ => h.2 i hi h1 h2⟩
structure PM (m : MM) (xj : Nat) (c : Cf) (p g : Int) (s : PS) (qt : Nat) (tv hv : AV) : Prop where
  get : m[xj]? = some (.cells 13 false (putC c p g s tv hv))
  t : s.a = 4 ∨ s.a = 5 → Rw m qt s.tk.length 1 (iC s.tk) tv
  one : tv.one = true
  h : SI m false s.hs hv
  off : Off qt hv
theorem si_box {m : MM} {wr : Bool} {es : List Int} {v : AV} (h : SI m wr es v) {b : Nat} (hb : ∀ ro L, m[b]? ≠ some (.cells 1 ro L)) : Off b v := by
  intro q o n c hv h0 hq
  rcases h.2 with ⟨h1, _⟩ | ⟨q2, o2, c2, h1, h2⟩
  · rw [h1] at hv; cases hv
  · rw [h1] at hv; injection hv with e1 e2 e3 e4; subst e1; subst e3; subst hq
    obtain ⟨ro, L, h3, _⟩ := h2 h0
    exact hb ro L h3
theorem _root_.Go.Am.Sl.stay {m m' : MM} {wr : Bool} {sz n : Nat} {l : List AV} {v : AV} (h : Sl m wr sz n l v) (hk : ∀ q o cap, v = .sl q o n cap → 0 < n → m'[q]? = m[q]?) : Sl m' wr sz n l v := by
  refine ⟨h.1, ?_⟩
  rcases h.2 with h1 | ⟨q, o, cap, h1, h2⟩
  · exact .inl h1
  · refine .inr ⟨q, o, cap, h1, fun h0 => ?_⟩
    obtain ⟨ro, L, h3, h4⟩ := h2 h0
    exact ⟨ro, L, by rw [hk q o cap h1 h0]; exact h3, h4⟩
theorem _root_.Go.Am.Sl.lt {m : MM} {wr : Bool} {sz n : Nat} {l : List AV} {v : AV} (h : Sl m wr sz n l v) {q o : Nat} {cap : Option Nat} (hv : v = .sl q o n cap) (h0 : 0 < n) : q < m.length ∧ ∃ ro L, m[q]? = some (.cells sz ro L) := by
  rcases h.2 with ⟨h1, _⟩ | ⟨q2, o2, c2, h1, h2⟩
  · rw [h1] at hv; cases hv
  · rw [h1] at hv; injection hv with e1 e2 e3 e4; subst e1
    obtain ⟨ro, L, h3, _⟩ := h2 h0
    exact ⟨(List.getElem?_eq_some_iff.1 h3).1, ro, L, h3⟩
theorem KeepT.si {xj j qt : Nat} {m m' : MM} (h : KeepT xj j qt m m') (hxj : ∀ ro L, m[xj]? ≠ some (.cells 1 ro L)) (hj : ∀ ro L, m[j]? ≠ some (.cells 1 ro L)) {wr : Bool} {n : Nat} {l : List AV} {v : AV} (hs : Sl m wr 1 n l v) (ho : Off qt v) : Sl m' wr 1 n l v := hs.stay fun q o cap hv h0 => by
  obtain ⟨h1, ro, L, h2⟩ := hs.lt hv h0
  exact h.2 q h1 (fun hq => hxj ro L (by rw [← hq]; exact h2)) (fun hq => hj ro L (by rw [← hq]; exact h2)) (ho q o n cap hv h0)
end Go.Am.F09
end
section
namespace Go.Am.F09
open Go.Am.F06 Go.Am.F10
end Go.Am.F09
end
section
namespace Go.Am.F09
open Go.Am.F06 Go.Am.F10
def PsP (m : MM) (c : Cf) (p g : Int) (xj j qt : Nat) (hv : AV) (x : PS × List Int) (o : Int) (r : AV) (m' : MM) : Prop := r = .bool (decide (x.1.a = 0)) ∧ KeepT xj j qt m m' ∧ ∃ tv' hv' qt', PM m' xj c p g x.1 qt' tv' hv' ∧ (qt' = xj ∨ (m.length ≤ qt' ∧ qt' < m'.length) ∨ qt' = qt) ∧ (hv' = hv ∨ Fr m.length hv') ∧ ∃ st', m'[j]? = some (.abs (.mem st')) ∧ RelM x.2 o st'
theorem stepP_zero {c : Cf} {p g : Int} {s : PS} (h : s.a = 0) (xs : List Int) : stepP c p g xs s = (s, xs) := by
  unfold stepP; rw [if_neg (by omega), if_neg (by omega), if_neg (by omega), if_neg (by omega), if_neg (by omega)]
end Go.Am.F09
end
section
namespace Go.Am.F09
open Go.Am.F06 Go.Am.F10
end Go.Am.F09
end
section
namespace Go.Am.F09
open Go.Am.F06 Go.Am.F10
theorem POk.step {c : Cf} {p g : Int} {s : PS} {xs : List Int} (h : POk c p s) (hx : s.a = 0 ∨ OkL c xs) : POk c p (stepP c p g xs s).1 := by
  rcases hx with h0 | hx
  · rw [stepP_zero h0]; exact h
  obtain ⟨h1, h2, h3⟩ := h
  have hg := getD_64 hx.2 (wrdN c p)
  obtain ⟨a, w, tk, hs⟩ := s
  simp only at h1 h2 h3
  rcases h2 with h2 | ⟨hp, h2⟩
  · subst h2; rw [stepP_zero rfl]; exact ⟨h1, .inl rfl, h3⟩
  have hb := there_bounds hp
  rcases h2 with rfl | rfl | rfl | ⟨rfl, h2⟩ | ⟨rfl, h2⟩
  · refine ⟨hg, .inr ⟨hp, ?_⟩, h3⟩
    simp only [stepP, if_true]
    by_cases hq : c.q ≤ sz (xs.getD (wrdN c p) 0)
    · simp only [if_pos hq, List.length_nil]; exact .inr (.inr (.inr (.inl ⟨trivial, by omega⟩)))
    · simp only [if_neg hq]; exact .inr (.inl trivial)
  · exact ⟨h1, .inr ⟨hp, by simp [stepP]⟩, h3⟩
  · by_cases heq : xs.getD (wrdN c p) 0 = w
    · have : stepP c p g xs ⟨3, w, tk, hs⟩ = (⟨0, w, tk, []⟩, xs.set (wrdN c p) (growW w 1)) := if_pos heq
      rw [this]; exact ⟨h1, .inl rfl, by simp⟩
    · have : stepP c p g xs ⟨3, w, tk, hs⟩ = (⟨1, w, tk, hs⟩, xs) := if_neg heq
      rw [this]; exact ⟨h1, .inr ⟨hp, .inl rfl⟩, h3⟩
  · refine ⟨h1, .inr ⟨hp, ?_⟩, h3⟩
    simp only [stepP, List.length_append, List.length_cons, List.length_nil]
    by_cases hq : (tk.length : Int) + 1 = c.q / 2
    · simp [hq]
    · simp [hq]; omega
  · by_cases heq : xs.getD (wrdN c p) 0 = w
    · have : stepP c p g xs ⟨5, w, tk, hs⟩ = (⟨0, w, tk, tk ++ [g]⟩, xs.set (wrdN c p) (dropW w (c.q / 2))) := if_pos heq
      rw [this]; exact ⟨h1, .inl rfl, by simp <;> omega⟩
    · have : stepP c p g xs ⟨5, w, tk, hs⟩ = (⟨1, w, tk, hs⟩, xs) := if_neg heq
      rw [this]; exact ⟨h1, .inr ⟨hp, .inl rfl⟩, h3⟩
theorem ringL_eq {c : Cf} {p v : Int} {xs L : List Int} (hp : thereP c p) (hw : xs.getD (wrdN c p) 0 = v) (hl : sz v ≤ c.q) (hn : (L.length : Int) = sz v) (hv : ∀ i, i < L.length → ringAt c p xs v i = L.getD i 0) : ringL c p xs = L := by
  rw [ringL_there hp, hw]
  have hN : ringN c v = L.length := by unfold ringN; rw [if_pos hl]; omega
  rw [hN]
  refine List.ext_getElem? fun i => ?_
  by_cases hi : i < L.length
  · rw [ringW_get _ _ _ _ hi, hv i hi, List.getD_eq_getElem?_getD, List.getElem?_eq_getElem hi]; rfl
  · rw [List.getElem?_eq_none (by rw [ringW_len]; omega), List.getElem?_eq_none (by omega)]
theorem slot_ne {c : Cf} {p x y : Int} (h : thereP c p) (hx : 0 ≤ x) (hy : 0 ≤ y) (hne : x % c.q ≠ y % c.q) : (slotA c p x).toNat ≠ (slotA c p y).toNat := by
  have hb := there_bounds h
  have h0 := Int.emod_nonneg x (b := c.q) (by omega)
  have h1 := Int.emod_nonneg y (b := c.q) (by omega)
  have hm := mul_bounds hb.2.2.2.2.1 hb.2.2.2.2.2 (q := 6 + c.q) (by omega) (by omega)
  unfold slotA; rw [if_pos h.1, if_pos h.1]; unfold addrA; rw [if_pos h, if_pos h]
  omega
theorem slot_word {c : Cf} {p x : Int} (h : thereP c p) : (slotA c p x).toNat ≠ wrdN c p := by
  have hb := there_bounds h
  have h0 := Int.emod_nonneg x (b := c.q) (by omega)
  have h1 := Int.emod_lt_of_pos x (b := c.q) (by omega)
  unfold slotA; rw [if_pos h.1]
  exact addr_ne h h (by omega) (by omega)
theorem room_mod {q a k n : Int} (hq : roomP q) (h0 : 0 < n - k) (h1 : n - k < q) : (a + k) % 4294967296 % q ≠ (a + n) % 4294967296 % q := by
  rcases hq with rfl | rfl | rfl | rfl | rfl | rfl <;> omega
theorem getD_set_ne {xs : List Int} {a b : Nat} {v : Int} (h : a ≠ b) : (xs.set a v).getD b 0 = xs.getD b 0 := by
  rw [List.getD_eq_getElem?_getD, List.getElem?_set_ne h, ← List.getD_eq_getElem?_getD]
theorem getD_set_self {xs : List Int} {a : Nat} {v : Int} (h : a < xs.length) : (xs.set a v).getD a 0 = v := by
  rw [List.getD_eq_getElem?_getD, List.getElem?_set_self h]; rfl
def slV (c : Cf) (p w0 : Int) (xs : List Int) (k : Nat) : Int := IntKind.i64.wrap (xs.getD (slotA c p ((hd w0 + k) % 4294967296)).toNat 0)
structure KV (c : Cf) (p w0 : Int) (A : List Int) (i d : Nat) (s : PS) (xs : List Int) : Prop where
  ok : OkL c xs
  w : xs.getD (wrdN c p) 0 = dW w0 d
  dl : d ≤ A.length
  sl : ∀ k, d ≤ k → k < A.length → slV c p w0 xs k = A.getD k 0
  hs : s.hs = [999]
  st : (s.a = 1 ∧ i ≤ 6 * d) ∨ ((s.a = 2 ∨ s.a = 3) ∧ ∃ e, e ≤ d ∧ s.w = dW w0 e ∧ (A.length : Int) - e < c.q ∧ (i : Int) ≤ 6 * e + (s.a - 1) ∧ (s.a = 3 → slV c p w0 xs A.length = 999)) ∨
    ((s.a = 4 ∨ s.a = 5) ∧ s.w = dW w0 0 ∧ (A.length : Int) = c.q ∧ (∀ k, k < A.length → slV c p w0 xs k = A.getD k 0) ∧ s.tk = (A.drop (A.length - (c.q / 2).toNat)).take s.tk.length ∧ (s.a = 4 → (s.tk.length : Int) < c.q / 2) ∧ (s.a = 5 → (s.tk.length : Int) = c.q / 2) ∧ i ≤ 1 + s.tk.length)
theorem KV.lt {c : Cf} {p w0 : Int} {A : List Int} {i d : Nat} {s : PS} {xs : List Int} (h : KV c p w0 A i d s xs) (hl : A.length ≤ 8) (hq : c.q ≤ 8) : i < 60 := by
  obtain ⟨_, _, hd, _, _, h⟩ := h
  rcases h with ⟨_, h⟩ | ⟨ha, e, he, _, _, h, _⟩ | ⟨ha, _, _, _, _, h4, h5, h⟩
  · omega
  · omega
  · rcases ha with ha | ha
    · have := h4 ha; omega
    · have := h5 ha; omega
theorem tl_at {w0 : Int} {A : List Int} (hA : (A.length : Int) = sz w0) (j : Int) : (tl w0 + j) % 4294967296 = (hd w0 + (A.length + j)) % 4294967296 := by
  have := tl_b w0
  unfold sz at hA; omega
theorem KV.step {c : Cf} {p w0 : Int} {A : List Int} {i d : Nat} {s : PS} {xs : List Int} (h : KV c p w0 A i d s xs) (hp : thereP c p) (hA : (A.length : Int) = sz w0) (hq : sz w0 ≤ c.q) (hq8 : c.q ≤ 8) (hw0 : W64 w0) (ha : s.a ≠ 0) :
    ((stepP c p 999 xs s).1.a ≠ 0 ∧ KV c p w0 A (i + 1) d (stepP c p 999 xs s).1 (stepP c p 999 xs s).2) ∨
    ((stepP c p 999 xs s).1.a = 0 ∧ (stepP c p 999 xs s).1.hs = [] ∧ OkL c (stepP c p 999 xs s).2 ∧ ringL c p (stepP c p 999 xs s).2 = A.drop d ++ [999] ∧ (A.length : Int) - d < c.q ∧ d ≤ A.length) ∨
    ((stepP c p 999 xs s).1.a = 0 ∧ d = 0 ∧ (A.length : Int) = c.q ∧ (stepP c p 999 xs s).1.hs = A.drop (A.length - (c.q / 2).toNat) ++ [999] ∧ OkL c (stepP c p 999 xs s).2 ∧ ringL c p (stepP c p 999 xs s).2 = A.take (A.length - (c.q / 2).toNat)) := by
  have hb := there_bounds hp
  have hroom : roomP c.q := hp.1.2.1
  have heven : c.q / 2 + c.q / 2 = c.q := by rcases hroom with h | h | h | h | h | h <;> rw [h] <;> rfl
  have htb := tl_b w0
  have hhb := hd_b hw0
  obtain ⟨h1, h2, h3, h4, h5, h6⟩ := h
  have hxl := h1.1
  have hwb := addr_b hp (i := 0) (by omega) (by omega)
  have hwl : wrdN c p < xs.length := by unfold wrdN; omega
  obtain ⟨a, w, tk, hs⟩ := s
  simp only at ha h5 h6
  rcases h6 with ⟨rfl, h7⟩ | ⟨h7 | h7, e, h8, h9, h10, h11, h12⟩ | ⟨h7 | h7, h8, h9, h10, h11, h12, h13, h14⟩
  · have hs1 : stepP c p 999 xs ⟨1, w, tk, hs⟩ = (⟨if c.q ≤ sz (dW w0 d) then 4 else 2, dW w0 d, [], hs⟩, xs) := by simp only [stepP, if_true, h2]
    have hz := dW_sz (w := w0) (i := d) (by omega)
    rw [hs1, hz]
    by_cases hfull : c.q ≤ sz w0 - d
    · have hd0 : d = 0 := by omega
      rw [if_pos hfull]
      refine .inl ⟨by simp, h1, h2, h3, h4, h5, .inr (.inr ⟨.inl rfl, by rw [hd0], by omega, fun k hk => h4 k (by omega) hk, by simp, fun _ => by simp only [List.length_nil]; omega, fun hh => by simp at hh, by simp; omega⟩)⟩
    · rw [if_neg hfull]
      exact .inl ⟨by simp, h1, h2, h3, h4, h5, .inr (.inl ⟨.inl rfl, d, Nat.le_refl _, rfl, by omega, by simp only; omega, fun hh => by simp at hh⟩)⟩
  · subst h7
    have hsl : pslA c p w 0 = slotA c p ((hd w0 + A.length) % 4294967296) := by
      unfold pslA; rw [h9, tl_dW, tl_at hA, Int.add_zero]
    have hs1 : stepP c p 999 xs ⟨2, w, tk, hs⟩ = (⟨3, w, tk, hs⟩, xs.set (slotA c p ((hd w0 + A.length) % 4294967296)).toNat 999) := by
      have : IntKind.u64.wrap 999 = 999 := by decide
      simp only [stepP, if_neg (show ¬ ((2 : Int) = 1) by decide), if_true, hsl, this]
    rw [hs1]
    have hsb := slot_b (i := (hd w0 + A.length) % 4294967296) hp (by omega)
    refine .inl ⟨by simp, h1.set _ (by unfold W64; omega), ?_, h3, fun k k1 k2 => ?_, h5, .inr (.inl ⟨.inr rfl, e, h8, h9, h10, by simp only; omega, fun _ => ?_⟩)⟩
    · rw [getD_set_ne (slot_word hp)]; exact h2
    · unfold slV
      rw [getD_set_ne (slot_ne hp (by omega) (by omega) (fun hh => room_mod (a := hd w0) (k := k) (n := A.length) hroom (by omega) (by omega) hh.symm))]
      exact h4 k k1 k2
    · unfold slV
      rw [getD_set_self (by omega)]; decide
  · subst h7
    by_cases heq : d = e
    · have hw : xs.getD (wrdN c p) 0 = w := by rw [h2, h9, heq]
      have hs1 : stepP c p 999 xs ⟨3, w, tk, hs⟩ = (⟨0, w, tk, []⟩, xs.set (wrdN c p) (growW w 1)) := if_pos hw
      rw [hs1]
      have hg : growW w 1 = pk ((hd w0 + e) % 4294967296) ((tl w0 + 1) % 4294967296) := by unfold growW; rw [h9, hd_dW, tl_dW]
      refine .inr (.inl ⟨rfl, rfl, h1.set _ (grow_64 (by rw [h9]; exact dW_64 _ _) _), ?_, by omega, h3⟩)
      have hsz : sz (growW w 1) = A.length - e + 1 := by
        rw [hg]; unfold sz; rw [hd_pk (by omega) (by omega), tl_pk (by omega) (by omega)]
        unfold sz at hA; omega
      refine ringL_eq hp (getD_set_self hwl) (by rw [hsz]; omega) (by rw [hsz, List.length_append, List.length_drop, List.length_singleton]; omega) fun k hk => ?_
      rw [List.length_append, List.length_drop, List.length_singleton] at hk
      have hpos : (hd (growW w 1) + (k : Int)) % 4294967296 = (hd w0 + ((d + k : Nat) : Int)) % 4294967296 := by
        rw [hg, hd_pk (by omega) (by omega)]; omega
      rw [ringAt, hpos, getD_set_ne (slot_word hp).symm]
      by_cases hk2 : d + k < A.length
      · have := h4 (d + k) (by omega) hk2
        unfold slV at this
        rw [this, List.getD_eq_getElem?_getD, List.getD_eq_getElem?_getD, List.getElem?_append_left (by rw [List.length_drop]; omega), List.getElem?_drop]
      · have hk3 : d + k = A.length := by omega
        have := h12 rfl
        unfold slV at this
        rw [hk3, this, List.getD_eq_getElem?_getD, List.getElem?_append_right (by rw [List.length_drop]; omega), List.length_drop, show k - (A.length - d) = 0 by omega]; rfl
    · have hw : ¬ xs.getD (wrdN c p) 0 = w := fun hh => heq (dW_inj (w := w0) (by omega) (by omega) (by rw [← h2, hh, h9]))
      have hs1 : stepP c p 999 xs ⟨3, w, tk, hs⟩ = (⟨1, w, tk, hs⟩, xs) := if_neg hw
      rw [hs1]
      exact .inl ⟨by simp, h1, h2, h3, h4, h5, .inl ⟨rfl, by omega⟩⟩
  · subst h7
    have hlt := h12 rfl
    have hsl : pslA c p w (tk.length - c.q / 2) = slotA c p ((hd w0 + ((A.length - (c.q / 2).toNat + tk.length : Nat) : Int)) % 4294967296) := by
      unfold pslA; rw [h8, tl_dW, tl_at hA]; congr 2; omega
    have hv := h10 (A.length - (c.q / 2).toNat + tk.length) (by omega)
    unfold slV at hv
    have hs1 : stepP c p 999 xs ⟨4, w, tk, hs⟩ = (⟨if (tk.length : Int) + 1 = c.q / 2 then 5 else 4, w, tk ++ [A.getD (A.length - (c.q / 2).toNat + tk.length) 0], hs⟩, xs) := by
      simp only [stepP, if_neg (show ¬ ((4 : Int) = 1) by decide), if_neg (show ¬ ((4 : Int) = 2) by decide), if_neg (show ¬ ((4 : Int) = 3) by decide), if_true, hsl, hv]
    rw [hs1]
    have htk : tk ++ [A.getD (A.length - (c.q / 2).toNat + tk.length) 0] = (A.drop (A.length - (c.q / 2).toNat)).take (tk.length + 1) := by
      have hg : (A.drop (A.length - (c.q / 2).toNat))[tk.length]? = some (A.getD (A.length - (c.q / 2).toNat + tk.length) 0) := by
        rw [List.getElem?_drop, List.getD_eq_getElem?_getD, List.getElem?_eq_getElem (by omega)]; rfl
      rw [List.take_add_one, hg, ← h11]; rfl
    refine .inl ⟨by simp only; split <;> omega, h1, h2, h3, h4, h5, .inr (.inr ⟨?_, h8, h9, h10, ?_, fun hh => ?_, fun hh => ?_, ?_⟩)⟩
    · simp only; split <;> simp
    · simp only [List.length_append, List.length_singleton]; exact htk
    · simp only [List.length_append, List.length_singleton] at hh ⊢
      by_cases hq2 : (tk.length : Int) + 1 = c.q / 2
      · rw [if_pos hq2] at hh; simp at hh
      · omega
    · simp only [List.length_append, List.length_singleton] at hh ⊢
      by_cases hq2 : (tk.length : Int) + 1 = c.q / 2
      · omega
      · rw [if_neg hq2] at hh; simp at hh
    · simp only [List.length_append, List.length_singleton]; omega
  · subst h7
    have hlt := h13 rfl
    by_cases heq : d = 0
    · have hw : xs.getD (wrdN c p) 0 = w := by rw [h2, h8, heq]
      have hs1 : stepP c p 999 xs ⟨5, w, tk, hs⟩ = (⟨0, w, tk, tk ++ [999]⟩, xs.set (wrdN c p) (dropW w (c.q / 2))) := if_pos hw
      rw [hs1]
      have hg : dropW w (c.q / 2) = pk ((hd w0 + (0 : Nat)) % 4294967296) ((tl w0 - c.q / 2) % 4294967296) := by unfold dropW; rw [h8, hd_dW, tl_dW]
      have hsz : sz (dropW w (c.q / 2)) = A.length - c.q / 2 := by
        rw [hg]; unfold sz; rw [hd_pk (by omega) (by omega), tl_pk (by omega) (by omega)]
        unfold sz at hA; omega
      refine .inr (.inr ⟨rfl, heq, h9, ?_, h1.set _ (drop_64 (by rw [h8]; exact dW_64 _ _) _), ?_⟩)
      · have : (A.drop (A.length - (c.q / 2).toNat)).take tk.length = A.drop (A.length - (c.q / 2).toNat) := List.take_of_length_le (by rw [List.length_drop]; omega)
        rw [this] at h11
        simp only; rw [← h11]
      · refine ringL_eq hp (getD_set_self hwl) (by rw [hsz]; omega) (by rw [hsz, List.length_take]; omega) fun k hk => ?_
        rw [List.length_take] at hk
        have hpos : (hd (dropW w (c.q / 2)) + (k : Int)) % 4294967296 = (hd w0 + (k : Int)) % 4294967296 := by
          rw [hg, hd_pk (by omega) (by omega)]; omega
        rw [ringAt, hpos, getD_set_ne (slot_word hp).symm]
        have := h10 k (by omega)
        unfold slV at this
        rw [this, List.getD_eq_getElem?_getD, List.getD_eq_getElem?_getD, List.getElem?_take, if_pos (by omega)]
    · have hw : ¬ xs.getD (wrdN c p) 0 = w := fun hh => heq (dW_inj (w := w0) (by omega) (by omega) (by rw [← h2, hh, h8]))
      have hs1 : stepP c p 999 xs ⟨5, w, tk, hs⟩ = (⟨1, w, tk, hs⟩, xs) := if_neg hw
      rw [hs1]
      exact .inl ⟨by simp, h1, h2, h3, h4, h5, .inl ⟨rfl, by omega⟩⟩
end Go.Am.F09
end
section
namespace Go.Am.F09
open Go.Am.F06 Go.Am.F10
theorem _root_.Go.Am.F10.Rw.si {m : MM} {q : Nat} {xs : List Int} {v : AV} (h : Rw m q xs.length 1 (iC xs) v) : SI m false xs v := h.sl (by rw [iC_len]; omega)
theorem _root_.Go.Am.F10.Rw.box {m : MM} {q n sz : Nat} {l : List AV} {v : AV} (h : Rw m q n sz l v) (h0 : 0 < n) : m[q]? = some (.cells sz false l) := by
  rcases h with ⟨h1, _⟩ | ⟨_, _, h⟩
  · omega
  · exact h
theorem SI.stayb {m m' : MM} {wr : Bool} {xs : List Int} {v : AV} (h : SI m wr xs v) {b : Nat} (hk : ∀ i, i < m.length → i ≠ b → m'[i]? = m[i]?) (ho : Off b v) : SI m' wr xs v := Sl.stay h fun q o cap hv h0 => hk q (Sl.lt h hv h0).1 (ho q o _ cap hv h0)
theorem PM.stay {m m' : MM} {xj : Nat} {c : Cf} {p g : Int} {s : PS} {qt : Nat} {tv hv : AV} (h : PM m xj c p g s qt tv hv) {b : Nat} (hk : ∀ i, i < m.length → i ≠ b → m'[i]? = m[i]?) (h1 : xj ≠ b) (h2 : qt ≠ b) (h3 : Off b hv) : PM m' xj c p g s qt tv hv :=
  ⟨by rw [hk _ (List.getElem?_eq_some_iff.1 h.get).1 h1]; exact h.get, fun ha => (h.t ha).keep fun h0 => hk qt ((h.t ha).lt h0) h2, h.one, SI.stayb h.h hk h3, h.off⟩
structure KpS (M0 : MM) (c : Cf) (p : Int) (j xj : Nat) (A : List Int) (d : Nat) (s : PS) (gone : AV) (qg qt : Nat) (tv hv : AV) (xs : List Int) (m : MM) : Prop where
  keep : KeepX xj j M0 m
  pm : PM m xj c p 999 s qt tv hv
  mem : ∃ st o, m[j]? = some (.abs (.mem st)) ∧ RelM xs o st
  rg : Rw m qg (A.take d).length 1 (iC (A.take d)) gone
  nq : 0 < (A.take d).length → qg ≠ qt
  bq : 0 < (A.take d).length → M0.length ≤ qg
  bt : qt = xj ∨ (M0.length ≤ qt ∧ qt < m.length)
  oh : 0 < (A.take d).length → Off qg hv
  ok : POk c p s
theorem KpS.step {M0 m m' : MM} {c : Cf} {p : Int} {j xj : Nat} {A : List Int} {d : Nat} {s : PS} {gone : AV} {qg qt : Nat} {tv hv : AV} {xs : List Int} (h : KpS M0 c p j xj A d s gone qg qt tv hv xs m) {x : PS × List Int} {o : Int} {r : AV} (hok : POk c p x.1) (hP : PsP m c p 999 xj j qt hv x o r m') :
    r = .bool (decide (x.1.a = 0)) ∧ ∃ qt' tv' hv', KpS M0 c p j xj A d x.1 gone qg qt' tv' hv' x.2 m' := by
  obtain ⟨rfl, k1, tv', hv', qt', hpm, hq, hh, st', j', r'⟩ := hP
  obtain ⟨hk, pm, ⟨st, o1, hj, _⟩, rg, nq, bq, bt, oh, _⟩ := h
  have hM := hk.1
  have hqx : 0 < (A.take d).length → qg ≠ xj := fun h0 hq => by have := rg.box h0; rw [hq, pm.get] at this; cases this
  have hqj : 0 < (A.take d).length → qg ≠ j := fun h0 hq => by have := rg.box h0; rw [hq, hj] at this; cases this
  have lx : xj < m.length := (List.getElem?_eq_some_iff.1 pm.get).1
  have lx' : xj < m'.length := (List.getElem?_eq_some_iff.1 hpm.get).1
  have hl1 := k1.1
  refine ⟨rfl, qt', tv', hv', ⟨Nat.le_trans hM hl1, fun i hi h1 h2 => ?_⟩, hpm, ⟨st', o, j', r'⟩, rg.keep fun h0 => ?_, fun h0 => ?_, bq, ?_, fun h0 => ?_, hok⟩
  · have hne : i ≠ qt := by rcases bt with h | h <;> omega
    rw [k1.2 i (by omega) h1 h2 hne, hk.2 i hi h1 h2]
  · exact k1.2 qg (rg.lt h0) (hqx h0) (hqj h0) (nq h0)
  · have := rg.lt h0
    have := hqx h0
    have := nq h0
    rcases hq with h | h | h <;> omega
  · rcases hq with h | h | h
    · exact .inl h
    · exact .inr ⟨by omega, h.2⟩
    · rcases bt with h' | h'
      · exact .inl (by omega)
      · exact .inr ⟨by omega, by omega⟩
  · have := rg.lt h0
    rcases hh with h | h | ⟨q, oo, n, cp, h, h'⟩
    · rw [h]; exact oh h0
    · rw [h]; intro q o n cc hq; cases hq
    · rw [h]; intro q2 o2 n2 cc hq2 _
      injection hq2 with hq2; omega
theorem PM.keep {m m' : MM} {xj : Nat} {c : Cf} {p g : Int} {s : PS} {qt : Nat} {tv hv : AV} (h : PM m xj c p g s qt tv hv) (k : Keep m m') : PM m' xj c p g s qt tv hv :=
  ⟨k.get h.get, fun ha => (h.t ha).keep fun h0 => k.2 qt ((h.t ha).lt h0), h.one, h.h.keep k, h.off⟩
end Go.Am.F09
end
section
namespace Go.Am.F09
open Go.Am.F06 Go.Am.F10
def rpC (c : Cf) (p g : Int) (s : PS) (tv hv : AV) : List AV := cfC c ++ [.int .i64 p, .int .i64 g, .int .i64 s.a, .int .u64 s.w, tv, hv]
structure SLN (lo hi : Nat) (m : MM) (wr : Bool) (n : Nat) (l : List AV) (v : AV) : Prop where
  sl : Sl m wr 1 n l v
  no : ∀ b, lo ≤ b → b < hi → ∀ ro L, m[b]? ≠ some (.cells 1 ro L)
theorem SLN.set {lo hi : Nat} {m : MM} {wr : Bool} {n : Nat} {l : List AV} {v : AV} (h : SLN lo hi m wr n l v) {a : Nat} (h1 : lo ≤ a) (h2 : a < hi) {C : Chunk Ob} (hC : ∀ ro L, C ≠ .cells 1 ro L) : SLN lo hi (m.set a C) wr n l v := by
  refine ⟨Sl.put h.sl (h.no a h1 h2) C, fun b b1 b2 ro L hb => ?_⟩
  by_cases hab : a = b
  · subst hab
    by_cases hl : a < m.length
    · rw [List.getElem?_set_self hl] at hb; injection hb with hb; exact hC _ _ hb
    · rw [List.getElem?_eq_none (by rw [List.length_set]; omega)] at hb; cases hb
  · rw [List.getElem?_set_ne hab] at hb; exact h.no b b1 b2 _ _ hb
theorem SLN.app {lo hi : Nat} {m : MM} {wr : Bool} {n : Nat} {l : List AV} {v : AV} (h : SLN lo hi m wr n l v) (hh : hi ≤ m.length) (K : MM) : SLN lo hi (m ++ K) wr n l v :=
  ⟨h.sl.keep (.app _ _), fun b b1 b2 ro L hb => h.no b b1 b2 ro L (by rwa [List.getElem?_append_left (by omega)] at hb)⟩
end Go.Am.F09
end
section
namespace Go.Am.F09
open Go.Am.F06 Go.Am.F10
end Go.Am.F09
end
section
namespace Go.Am.F09
open Go.Am.F06 Go.Am.F10
def okN (c : Cf) (p g : Int) : Prop := thereP c p ∧ 0 ≤ g
instance (c : Cf) (p g : Int) : Decidable (okN c p g) := by unfold okN; infer_instance
theorem si_put {m : MM} {xs : List Int} {q o n : Nat} {cap : Option Nat} {L : List AV} (h : SI m true xs (.sl q o n cap)) (hq : m[q]? = some (.cells 1 false L)) {i : Nat} (hi : i < xs.length) (x : Int) : SI (m.set q (.cells 1 false (L.set (o + i) (.int .i64 x)))) true (xs.set i x) (.sl q o n cap) := by
  obtain ⟨hlen, hsl⟩ := h
  rcases hsl with ⟨h, _⟩ | ⟨q', o', cap', h, h5⟩
  · cases h
  · injection h with e1 e2 e3 e4; subst e1; subst e2; subst e3; subst e4
    obtain ⟨ro, L', d1, d2, d3, d4⟩ := h5 (by omega)
    rw [hq] at d1; injection d1 with d1; injection d1 with _ _ d1; subst d1
    refine ⟨by simp [iC_len], .inr ⟨q, o, cap, by rw [List.length_set], fun _ => ⟨false, _, List.getElem?_set_self (List.getElem?_eq_some_iff.1 hq).1, ?_, by simpa using d3, fun _ => rfl⟩⟩⟩
    rw [List.length_set, List.drop_set, if_neg (by omega), List.take_set, d2, iC, iC, List.map_set]
    congr 1; omega
end Go.Am.F09
end
section
namespace Go.Am.F09
open Go.Am.F06 Go.Am.F10
structure Fl (mm M : MM) (n : Nat) (h : AV) (B : Nat) : Prop where
  keep : Keep mm M
  row : ∃ ys : List Int, ys.length = n ∧ SI M true ys h
  lo : Fr mm.length h
  hi : ∀ q o cap, h = .sl q o n cap → 0 < n → q < B
  len : lenA h = some n
theorem Fl.put {mm M : MM} {n : Nat} {h : AV} {B k : Nat} (hf : Fl mm M n h B) (hk : k < n) (x : Int) : ∃ q o cap L, h = .sl q o n cap ∧ M[q]? = some (.cells 1 false L) ∧ o + k < L.length ∧ mm.length ≤ q ∧ q < B ∧ Fl mm (M.set q (.cells 1 false (L.set (o + k) (.int .i64 x)))) n h B := by
  obtain ⟨hk0, ⟨ys, rfl, hs⟩, hlo, hhi, hln⟩ := hf
  obtain ⟨q, o, cap, ro, L, rfl, h2, h3, h4, h5⟩ := hs.at (by omega)
  have := h5 rfl
  subst this
  have hq : mm.length ≤ q := by
    rcases hlo with h | ⟨_, _, _, _, h, h'⟩
    · cases h
    · injection h with e1; omega
  exact ⟨q, o, cap, L, rfl, h2, by omega, hq, hhi _ _ _ rfl (by omega), hk0.set hq _, ⟨ys.set k x, by simp, si_put hs h2 hk x⟩, hlo, hhi, hln⟩
end Go.Am.F09
end
section
namespace Go.Am.F09
open Go.Am.F06 Go.Am.F10
theorem PM.norm {m : MM} {xj : Nat} {c : Cf} {p g : Int} {s : PS} {qt : Nat} {tv hv : AV} (h : PM m xj c p g s qt tv hv) : ∃ qt', PM m xj c p g s qt' tv hv ∧ (qt' = xj ∨ (qt' = qt ∧ ∃ l, m[qt]? = some (.cells 1 false (iC l)))) := by
  have hx : ∀ ro L, m[xj]? ≠ some (.cells 1 ro L) := fun ro L hh => by rw [h.get] at hh; cases hh
  by_cases ha : s.a = 4 ∨ s.a = 5
  · rcases h.t ha with ht | ⟨h0, h1, h2⟩
    · exact ⟨xj, ⟨h.get, fun _ => .inl ht, h.one, h.h, si_box h.h hx⟩, .inl rfl⟩
    · exact ⟨qt, h, .inr ⟨rfl, _, h2⟩⟩
  · exact ⟨xj, ⟨h.get, fun hh => absurd hh ha, h.one, h.h, si_box h.h hx⟩, .inl rfl⟩
theorem su_off {m : MM} {wr : Bool} {xs : List Int} {v : AV} (hs : SU m wr xs v) {b : Nat} {l : List Int} (hb : m[b]? = some (.cells 1 false (iC l))) : Off b v := by
  intro q o n c hv h0 hq
  rcases hs.2 with ⟨h1, _⟩ | ⟨q2, o2, c2, h1, h2⟩
  · rw [h1] at hv; cases hv
  · rw [h1] at hv; injection hv with e1 e2 e3 e4; subst e1; subst e3; subst hq
    obtain ⟨ro, L, h3, h4⟩ := h2 h0
    rw [hb] at h3; injection h3 with h3; injection h3 with _ _ h3
    subst h3
    have h5 := sl_get h4.1 (j := 0) (by omega)
    rw [iC, uC, List.getElem?_map, List.getElem?_map] at h5
    obtain ⟨x, hx⟩ : ∃ x, xs[0]? = some x := ⟨_, List.getElem?_eq_getElem h0⟩
    rw [hx] at h5
    cases hy : l[o2 + 0]? with
    | none => rw [hy] at h5; cases h5
    | some y => rw [hy] at h5; cases h5
theorem su_box2 {m : MM} {wr : Bool} {xs : List Int} {v : AV} (hs : SU m wr xs v) {b : Nat} (hb : ∀ ro L, m[b]? ≠ some (.cells 1 ro L)) : Off b v := by
  intro q o n c hv h0 hq
  obtain ⟨_, ro, L, h⟩ := Sl.lt (n := xs.length) hs (by rw [hv]; congr 1; have := hs.len; rw [hv] at this; simpa [lenA] using this) (by
    have := hs.len; rw [hv] at this; simp only [lenA, Option.some.injEq] at this; omega) (q := q) (o := o) (cap := c)
  exact hb ro L (by rw [← hq]; exact h)
structure PyS (m0 : MM) (c0 c c' : Cf) (p p' g g' : Int) (cb j rb xj yb : Nat) (ps : List Pk) (lv : AV) (s : PS) (xs : List Int) (o : Int) (tv hv ytv yhv v : AV) (qt : Nat) (m : MM) : Prop where
  k0 : Keep m0 m
  pm : PM m xj c p g s qt tv hv
  qr : qt = xj ∨ ∃ l, m[qt]? = some (.cells 1 false (iC l))
  bq : m0.length ≤ qt
  mem : ∃ st, m[j]? = some (.abs (.mem st)) ∧ RelM xs o st
  ref : m[rb]? = some (.cells 2 false (memC v o))
  su : SU m false xs v
  y : m[yb]? = some (.cells 12 false (rpC c' p' g' s ytv yhv))
  yt : SI m false s.tk ytv
  yh : SI m false s.hs yhv
  ot : Off qt ytv
  oh : Off qt yhv
  ok : POk c p s
  okL : OkL c xs
  cc : s.a = 0 ∨ (c' = c ∧ p' = p ∧ g' = g)
  ps : SPk m false ps lv
theorem PyS.keep {m0 m m' : MM} {c0 c c' : Cf} {p p' g g' : Int} {cb j rb xj yb : Nat} {ps : List Pk} {lv : AV} {s : PS} {xs : List Int} {o : Int} {tv hv ytv yhv v : AV} {qt : Nat} (h : PyS m0 c0 c c' p p' g g' cb j rb xj yb ps lv s xs o tv hv ytv yhv v qt m) (k : Keep m m') : PyS m0 c0 c c' p p' g g' cb j rb xj yb ps lv s xs o tv hv ytv yhv v qt m' := by
  obtain ⟨st, hj, hr⟩ := h.mem
  exact ⟨h.k0.trans k, PM.keep h.pm k, h.qr.imp id (fun ⟨l, hl⟩ => ⟨l, k.get hl⟩), h.bq, ⟨st, k.get hj, hr⟩, k.get h.ref, h.su.keep k, k.get h.y, h.yt.keep k, h.yh.keep k, h.ot, h.oh, h.ok, h.okL, h.cc, h.ps.keep k⟩
structure PyB (m0 : MM) (c : Cf) (p g : Int) (j xj : Nat) (ps : List Pk) (lv : AV) (s : PS) (xs : List Int) (o : Int) (tv hv : AV) (qt : Nat) (m : MM) : Prop where
  k0 : Keep m0 m
  pm : PM m xj c p g s qt tv hv
  qr : qt = xj ∨ ∃ l, m[qt]? = some (.cells 1 false (iC l))
  bq : m0.length ≤ qt
  mem : ∃ st, m[j]? = some (.abs (.mem st)) ∧ RelM xs o st
  ok : POk c p s
  okL : OkL c xs
  ps : SPk m false ps lv
theorem PyS.b {m0 m : MM} {c0 c c' : Cf} {p p' g g' : Int} {cb j rb xj yb : Nat} {ps : List Pk} {lv : AV} {s : PS} {xs : List Int} {o : Int} {tv hv ytv yhv v : AV} {qt : Nat} (h : PyS m0 c0 c c' p p' g g' cb j rb xj yb ps lv s xs o tv hv ytv yhv v qt m) : PyB m0 c p g j xj ps lv s xs o tv hv qt m := ⟨h.k0, h.pm, h.qr, h.bq, h.mem, h.ok, h.okL, h.ps⟩
theorem PyB.ne {m0 m : MM} {c : Cf} {p g : Int} {j xj : Nat} {ps : List Pk} {lv : AV} {s : PS} {xs : List Int} {o : Int} {tv hv : AV} {qt : Nat} (h : PyB m0 c p g j xj ps lv s xs o tv hv qt m) {b sz : Nat} {L : List AV} (hb : m[b]? = some (.cells sz false L)) (h1 : sz ≠ 1) (h2 : sz ≠ 13) : b ≠ xj ∧ b ≠ j ∧ b ≠ qt := by
  obtain ⟨st, hj, _⟩ := h.mem
  refine ⟨fun hh => ?_, fun hh => ?_, fun hh => ?_⟩
  · rw [hh, h.pm.get] at hb; injection hb with hb; injection hb with hb; exact h2 hb.symm
  · rw [hh, hj] at hb; cases hb
  · rcases h.qr with hq | ⟨l, hl⟩
    · rw [hh, hq, h.pm.get] at hb; injection hb with hb; injection hb with hb; exact h2 hb.symm
    · rw [hh, hl] at hb; injection hb with hb; injection hb with hb; exact h1 hb.symm
theorem PyS.ne {m0 m : MM} {c0 c c' : Cf} {p p' g g' : Int} {cb j rb xj yb : Nat} {ps : List Pk} {lv : AV} {s : PS} {xs : List Int} {o : Int} {tv hv ytv yhv v : AV} {qt : Nat} (h : PyS m0 c0 c c' p p' g g' cb j rb xj yb ps lv s xs o tv hv ytv yhv v qt m) {b sz : Nat} {L : List AV} (hb : m[b]? = some (.cells sz false L)) (h1 : sz ≠ 1) (h2 : sz ≠ 13) : b ≠ xj ∧ b ≠ j ∧ b ≠ qt := h.b.ne hb h1 h2
theorem PyB.keep {m0 m m' : MM} {c : Cf} {p g : Int} {j xj : Nat} {ps : List Pk} {lv : AV} {s : PS} {xs : List Int} {o : Int} {tv hv : AV} {qt : Nat} (h : PyB m0 c p g j xj ps lv s xs o tv hv qt m) (k : Keep m m') : PyB m0 c p g j xj ps lv s xs o tv hv qt m' := by
  obtain ⟨st, hj, hr⟩ := h.mem
  exact ⟨h.k0.trans k, PM.keep h.pm k, h.qr.imp id (fun ⟨l, hl⟩ => ⟨l, k.get hl⟩), h.bq, ⟨st, k.get hj, hr⟩, h.ok, h.okL, h.ps.keep k⟩
theorem PyB.step {m0 m m' : MM} {c0 c c' : Cf} {p p' g g' : Int} {cb j rb xj yb : Nat} {ps : List Pk} {lv : AV} {s s' : PS} {xs xs' : List Int} {o o' : Int} {tv hv : AV} {qt : Nat} (h : PyB m0 c p g j xj ps lv s xs o tv hv qt m)
    (hx0 : m0.length ≤ xj) (hj0 : m0.length ≤ j) {ytv' yhv' v' : AV} (hy : m[yb]? = some (.cells 12 false (rpC c' p' g' s' ytv' yhv'))) (hyt : SI m false s'.tk ytv') (hyh : SI m false s'.hs yhv') (hot : Off qt ytv') (hoh : Off qt yhv') (hv' : SU m false xs' v') (hrb : m[rb]? = some (.cells 2 false (memC v' o'))) (hok : POk c p s') (hokL : OkL c xs') (hcc : s'.a = 0 ∨ (c' = c ∧ p' = p ∧ g' = g)) {r : AV} (hP : PsP m c p g xj j qt hv (s', xs') o' r m') :
    r = .bool (decide (s'.a = 0)) ∧ ∃ tv2 hv2 qt2, PyS m0 c0 c c' p p' g g' cb j rb xj yb ps lv s' xs' o' tv2 hv2 ytv' yhv' v' qt2 m' := by
  obtain ⟨rfl, k1, tv2, hv2, qt', hpm, hq, hh, st', hj', hr'⟩ := hP
  obtain ⟨st, hj, hr⟩ := h.mem
  obtain ⟨qt2, hpm2, hq2⟩ := PM.norm hpm
  have hnx : ∀ ro L, m[xj]? ≠ some (.cells 1 ro L) := fun ro L hh => by rw [h.pm.get] at hh; cases hh
  have hnj : ∀ ro L, m[j]? ≠ some (.cells 1 ro L) := fun ro L hh => by rw [hj] at hh; cases hh
  have hl := k1.1
  have hk0 := h.k0.1
  have hbox : ∀ {b sz : Nat} {L : List AV}, m[b]? = some (.cells sz false L) → sz ≠ 1 → sz ≠ 13 → m'[b]? = some (.cells sz false L) := fun hb h1 h2 => by
    obtain ⟨e1, e2, e3⟩ := h.ne hb h1 h2
    rw [k1.2 _ (List.getElem?_eq_some_iff.1 hb).1 e1 e2 e3]; exact hb
  have hsoff : Off qt v' := by
    rcases h.qr with hq | ⟨l, hl⟩
    · rw [hq]; exact su_box2 hv' hnx
    · exact su_off hv' hl
  have hqt2 : qt2 = xj ∨ (m.length ≤ qt2 ∧ qt2 < m'.length) ∨ qt2 = qt := by
    rcases hq2 with h1 | ⟨h1, _⟩
    · exact .inl h1
    · rw [h1]; exact hq
  have hoff2 : ∀ {w : AV} {n : Nat} {l : List AV}, Sl m false 1 n l w → Off qt w → Off qt2 w := fun {w n l} hs ho => by
    have hlen := hs.len
    have hlt : ∀ q o k cap, w = .sl q o k cap → 0 < k → q < m.length ∧ ∃ ro L, m[q]? = some (.cells 1 ro L) := fun q o k cap hw hk => by
      rw [hw] at hlen; simp only [lenA, Option.some.injEq] at hlen; subst hlen
      exact Sl.lt hs hw hk
    rcases hqt2 with e | ⟨e, _⟩ | e
    · rw [e]; intro q o k cap hw hk hh
      obtain ⟨_, ro, L, h3⟩ := hlt q o k cap hw hk
      exact hnx ro L (by rw [← hh]; exact h3)
    · intro q o k cap hw hk hh
      have := (hlt q o k cap hw hk).1
      omega
    · rw [e]; exact ho
  refine ⟨rfl, tv2, hv2, qt2, ⟨⟨by omega, fun i hi => ?_⟩, hpm2, ?_, ?_, ⟨st', hj', hr'⟩, hbox hrb (by decide) (by decide), k1.si hnx hnj hv' hsoff, hbox hy (by decide) (by decide), k1.si hnx hnj hyt hot, k1.si hnx hnj hyh hoh, hoff2 hyt hot, hoff2 hyh hoh, hok, hokL, hcc, ?_⟩⟩
  · have := h.bq
    rw [k1.2 i (by omega) (by omega) (by omega) (by omega), h.k0.2 i hi]
  · rcases hq2 with h1 | ⟨h1, l, h2⟩
    · exact .inl h1
    · exact .inr ⟨l, by rw [h1]; exact h2⟩
  · have := h.bq
    rcases hqt2 with e | ⟨e, _⟩ | e <;> omega
  · refine Sl.stay h.ps fun q o cap hw h0 => ?_
    obtain ⟨h1, ro, L, h2⟩ := Sl.lt h.ps hw h0
    have e1 : q ≠ xj := fun hh => by rw [hh, h.pm.get] at h2; cases h2
    have e2 : q ≠ j := fun hh => by rw [hh, hj] at h2; cases h2
    have e3 : q ≠ qt := fun hh => by
      rcases h.qr with hq | ⟨l, hl⟩
      · exact e1 (by rw [hh, hq])
      · rw [hh, hl] at h2; cases h2
    exact k1.2 q h1 e1 e2 e3
end Go.Am.F09
end
section
namespace Go.Am.F10
open Go.Am.F06
variable {X : Type}
end Go.Am.F10
end
section
namespace Go.Am.F09
open Go.Am.F06 Go.Am.F10
end Go.Am.F09
end
section
namespace Go.Am.F09
open Go.Am.F06 Go.Am.F10
end Go.Am.F09
end
section
namespace Go.Am.F09
open Go.Am.F06 Go.Am.F10
end Go.Am.F09
end
section
namespace Go.Am.F09
open Go.Am.F06 Go.Am.F10
end Go.Am.F09
end
section
namespace Go.Am.F09
open Go.Am.F06 Go.Am.F10
end Go.Am.F09
end
section
namespace Go.Am.F11
open Go.Am.F06 Go.Am.F10 Go.Am.F09
def stC (c : Cf) (p v a w : Int) (ly b : AV) (k : Int) : List AV := cfC c ++ [ly, .int .i64 p, .int .i64 v, .int .i64 a, .int .u64 w, b, .int .i64 k]
def thereS (c : Cf) (p v : Int) : Prop := thereP c p ∧ thereP c v ∧ p ≠ v
instance (c : Cf) (p v : Int) : Decidable (thereS c p v) := by unfold thereS; infer_instance
variable {X : Type}
theorem word_ge {c : Cf} {p : Int} : (0 ≤ addrA c p 0) ↔ thereP c p := by
  unfold addrA
  split
  · rename_i h
    have := there_bounds h
    have : 0 ≤ p * (6 + c.q) := Int.mul_nonneg (by omega) (by omega)
    exact ⟨fun _ => h, fun _ => by omega⟩
  · rename_i h
    exact ⟨fun h' => by omega, fun h' => absurd h' h⟩
set_option maxHeartbeats 4000000 in
theorem snew_run {m : Mem X} (c : Cf) (p v : Int) : Fn [(159, F10.c_conf_Config_Word)] steal_New [.agg (cfC c), .int .i64 p, .int .i64 v] m
    (fun r m' => Keep m m' ∧ ∃ xj, r = .ptr xj 0 ∧ m.length ≤ xj ∧ m'[xj]? = some (.cells 13 false (stC c p v (if thereS c p v then 1 else 0) 0 .nilp .nils 0))) := by
  have a159 : assoc [(159, F10.c_conf_Config_Word (X := X))] 159 = some F10.c_conf_Config_Word := rfl
  generalize [(159, F10.c_conf_Config_Word (X := X))] = G at a159 ⊢
  have hw := fun (m : Mem X) (p : Int) => word_run (m := m) c p
  have h1 := word_ge (c := c) (p := p)
  have h2 := word_ge (c := c) (p := v)
  simp only [cfC, List.cons_append, List.nil_append] at hw
  refine Fn_of rfl ?_
  by_cases t1 : thereP c p
  · have g1 := h1.2 t1
    by_cases t2 : thereP c v
    · have g2 := h2.2 t2
      by_cases t3 : p = v
      · have hn : ¬ thereS c p v := fun h => h.2.2 t3
        rw [if_neg hn]
        subst t3
        simp (disch := first | assumption | omega | (simp only [zl] <;> omega) | (simp only [zn])) only [steal_New, ↓zd, zk, Nat.reduceSub, Nat.reduceAdd, Nat.reduceMul, Nat.reduceLeDiff, Nat.reduceEqDiff, reduceIte, Int.reduceEq, Int.reduceBEq, Int.reduceLE, Int.reduceLT, Int.reduceNeg, Int.reduceAdd, Int.reduceSub, Int.reduceMul, List.map, AV.cells, List.all, AV.one, eqV, eqAll, splice, fillA, List.replicate, resAll, resA, zm, zg, cfC, stC, a159, hw, g1]
        refine ⟨.app _ _, m.length + 1, rfl, by omega, ?_⟩
        rw [get_mid]; rfl
      · have hn : thereS c p v := ⟨t1, t2, t3⟩
        rw [if_pos hn]
        simp (disch := first | assumption | omega | (simp only [zl] <;> omega) | (simp only [zn])) only [steal_New, ↓zd, zk, Nat.reduceSub, Nat.reduceAdd, Nat.reduceMul, Nat.reduceLeDiff, Nat.reduceEqDiff, reduceIte, Int.reduceEq, Int.reduceBEq, Int.reduceLE, Int.reduceLT, Int.reduceNeg, Int.reduceAdd, Int.reduceSub, Int.reduceMul, List.map, AV.cells, List.all, AV.one, eqV, eqAll, splice, fillA, List.replicate, resAll, resA, zm, zg, cfC, stC, a159, hw, g1, g2, t3]
        refine ⟨.app _ _, m.length + 1, rfl, by omega, ?_⟩
        rw [get_mid]; rfl
    · have g2 : ¬ (0 ≤ addrA c v 0) := fun h => t2 (h2.1 h)
      have hn : ¬ thereS c p v := fun h => t2 h.2.1
      rw [if_neg hn]
      simp (disch := first | assumption | omega | (simp only [zl] <;> omega) | (simp only [zn])) only [steal_New, ↓zd, zk, Nat.reduceSub, Nat.reduceAdd, Nat.reduceMul, Nat.reduceLeDiff, Nat.reduceEqDiff, reduceIte, Int.reduceEq, Int.reduceBEq, Int.reduceLE, Int.reduceLT, Int.reduceNeg, Int.reduceAdd, Int.reduceSub, Int.reduceMul, List.map, AV.cells, List.all, AV.one, eqV, eqAll, splice, fillA, List.replicate, resAll, resA, zm, zg, cfC, stC, a159, hw, g1, g2]
      refine ⟨.app _ _, m.length + 1, rfl, by omega, ?_⟩
      rw [get_mid]; rfl
  · have g1 : ¬ (0 ≤ addrA c p 0) := fun h => t1 (h1.1 h)
    have hn : ¬ thereS c p v := fun h => t1 h.1
    rw [if_neg hn]
    simp (disch := first | assumption | omega | (simp only [zl] <;> omega) | (simp only [zn])) only [steal_New, ↓zd, zk, Nat.reduceSub, Nat.reduceAdd, Nat.reduceMul, Nat.reduceLeDiff, Nat.reduceEqDiff, reduceIte, Int.reduceEq, Int.reduceBEq, Int.reduceLE, Int.reduceLT, Int.reduceNeg, Int.reduceAdd, Int.reduceSub, Int.reduceMul, List.map, AV.cells, List.all, AV.one, eqV, eqAll, splice, fillA, List.replicate, resAll, resA, zm, zg, cfC, stC, a159, hw, g1]
    refine ⟨.app _ _, m.length + 1, rfl, by omega, ?_⟩
    rw [get_mid]; rfl
theorem sdone_nil (m : Mem X) : c_steal_Steal_Done [.nilp] m = some (.bool true, m) := Fn_eq (Fn_of rfl (by simp (disch := first | assumption | omega | (simp only [zl] <;> omega) | (simp only [zn])) only [steal_Steal_Done, ↓zd, zk, Nat.reduceSub, Nat.reduceAdd, Nat.reduceMul, Nat.reduceLeDiff, Nat.reduceEqDiff, reduceIte, Int.reduceEq, Int.reduceBEq, Int.reduceLE, Int.reduceLT, Int.reduceNeg, Int.reduceAdd, Int.reduceSub, Int.reduceMul, List.map, AV.cells, List.all, AV.one, eqV, eqAll, splice, fillA, List.replicate, resAll, resA, zm, zg]))
theorem sdone_eq {m : Mem X} {xj : Nat} {c : Cf} {p v a w k : Int} {ly b : AV} (hx : m[xj]? = some (.cells 13 false (stC c p v a w ly b k))) : c_steal_Steal_Done [.ptr xj 0] m = some (.bool (decide (a = 0)), m) := by
  refine Fn_eq (Fn_of rfl ?_)
  simp (disch := first | assumption | omega | (simp only [zl] <;> omega) | (simp only [zn])) only [steal_Steal_Done, ↓zd, zk, Nat.reduceSub, Nat.reduceAdd, Nat.reduceMul, Nat.reduceLeDiff, Nat.reduceEqDiff, reduceIte, Int.reduceEq, Int.reduceBEq, Int.reduceLE, Int.reduceLT, Int.reduceNeg, Int.reduceAdd, Int.reduceSub, Int.reduceMul, List.map, AV.cells, List.all, AV.one, eqV, eqAll, splice, fillA, List.replicate, resAll, resA, zm, zg, hx, stC, cfC]
theorem smany_nil (m : Mem X) : c_steal_Steal_Many [.nilp] m = some (.int .i64 0, m) := Fn_eq (Fn_of rfl (by simp (disch := first | assumption | omega | (simp only [zl] <;> omega) | (simp only [zn])) only [steal_Steal_Many, ↓zd, zk, Nat.reduceSub, Nat.reduceAdd, Nat.reduceMul, Nat.reduceLeDiff, Nat.reduceEqDiff, reduceIte, Int.reduceEq, Int.reduceBEq, Int.reduceLE, Int.reduceLT, Int.reduceNeg, Int.reduceAdd, Int.reduceSub, Int.reduceMul, List.map, AV.cells, List.all, AV.one, eqV, eqAll, splice, fillA, List.replicate, resAll, resA, zm, zg]))
theorem smany_eq {m : Mem X} {xj : Nat} {c : Cf} {p v a w k : Int} {ly b : AV} (hx : m[xj]? = some (.cells 13 false (stC c p v a w ly b k))) : c_steal_Steal_Many [.ptr xj 0] m = some (.int .i64 k, m) := by
  refine Fn_eq (Fn_of rfl ?_)
  simp (disch := first | assumption | omega | (simp only [zl] <;> omega) | (simp only [zn])) only [steal_Steal_Many, ↓zd, zk, Nat.reduceSub, Nat.reduceAdd, Nat.reduceMul, Nat.reduceLeDiff, Nat.reduceEqDiff, reduceIte, Int.reduceEq, Int.reduceBEq, Int.reduceLE, Int.reduceLT, Int.reduceNeg, Int.reduceAdd, Int.reduceSub, Int.reduceMul, List.map, AV.cells, List.all, AV.one, eqV, eqAll, splice, fillA, List.replicate, resAll, resA, zm, zg, hx, stC, cfC]
def Dn (m : Mem X) (x : AV) : Prop := x = .nilp ∨ ∃ xj c p v w ly b, x = .ptr xj 0 ∧ m[xj]? = some (.cells 13 false (stC c p v 0 w ly b 0))
theorem Dn.done {m : Mem X} {x : AV} (h : Dn m x) : c_steal_Steal_Done [x] m = some (.bool true, m) := by
  rcases h with rfl | ⟨xj, c, p, v, w, ly, b, rfl, h⟩
  · exact sdone_nil m
  · rw [sdone_eq h]; rfl
theorem Dn.many {m : Mem X} {x : AV} (h : Dn m x) : c_steal_Steal_Many [x] m = some (.int .i64 0, m) := by
  rcases h with rfl | ⟨xj, c, p, v, w, ly, b, rfl, h⟩
  · exact smany_nil m
  · exact smany_eq h
theorem got_no {G : List (Nat × AFun X)} (a277 : assoc G 277 = some c_steal_Steal_Done) (a275 : assoc G 275 = some c_steal_Steal_Many) {m : Mem X} {x : AV} (h1 : ∃ d, c_steal_Steal_Done [x] m = some (.bool d, m)) (h2 : c_steal_Steal_Many [x] m = some (.int .i64 0, m)) : amFunc G steal_Steal_Got [x] m = some (.tup [.int .i64 0, .bool false], m) := by
  obtain ⟨d, h1⟩ := h1
  refine Fn_eq (Fn_of rfl ?_)
  cases d
  all_goals simp (disch := first | assumption | omega | (simp only [zl] <;> omega) | (simp only [zn])) only [steal_Steal_Got, ↓zd, zk, Nat.reduceSub, Nat.reduceAdd, Nat.reduceMul, Nat.reduceLeDiff, Nat.reduceEqDiff, reduceIte, Int.reduceEq, Int.reduceBEq, Int.reduceLE, Int.reduceLT, Int.reduceNeg, Int.reduceAdd, Int.reduceSub, Int.reduceMul, List.map, AV.cells, List.all, AV.one, eqV, eqAll, splice, fillA, List.replicate, resAll, resA, zm, zg, a277, h1, a275, h2]
theorem left_no {G : List (Nat × AFun X)} (a277 : assoc G 277 = some c_steal_Steal_Done) (a275 : assoc G 275 = some c_steal_Steal_Many) {m : Mem X} {x : AV} (h1 : ∃ d, c_steal_Steal_Done [x] m = some (.bool d, m)) (h2 : c_steal_Steal_Many [x] m = some (.int .i64 0, m)) : amFunc G steal_Steal_Left [x] m = some (.nils, m) := by
  obtain ⟨d, h1⟩ := h1
  refine Fn_eq (Fn_of rfl ?_)
  cases d
  all_goals simp (disch := first | assumption | omega | (simp only [zl] <;> omega) | (simp only [zn])) only [steal_Steal_Left, ↓zd, zk, Nat.reduceSub, Nat.reduceAdd, Nat.reduceMul, Nat.reduceLeDiff, Nat.reduceEqDiff, reduceIte, Int.reduceEq, Int.reduceBEq, Int.reduceLE, Int.reduceLT, Int.reduceNeg, Int.reduceAdd, Int.reduceSub, Int.reduceMul, List.map, AV.cells, List.all, AV.one, eqV, eqAll, splice, fillA, List.replicate, resAll, resA, zm, zg, a277, h1, a275, h2]
theorem hands_no {G : List (Nat × AFun X)} (a275 : assoc G 275 = some c_steal_Steal_Many) {m : Mem X} {x : AV} (h2 : c_steal_Steal_Many [x] m = some (.int .i64 0, m)) : amFunc G steal_Steal_Hands [x] m = some (.nils, m) := by
  refine Fn_eq (Fn_of rfl ?_)
  simp (disch := first | assumption | omega | (simp only [zl] <;> omega) | (simp only [zn])) only [steal_Steal_Hands, ↓zd, zk, Nat.reduceSub, Nat.reduceAdd, Nat.reduceMul, Nat.reduceLeDiff, Nat.reduceEqDiff, reduceIte, Int.reduceEq, Int.reduceBEq, Int.reduceLE, Int.reduceLT, Int.reduceNeg, Int.reduceAdd, Int.reduceSub, Int.reduceMul, List.map, AV.cells, List.all, AV.one, eqV, eqAll, splice, fillA, List.replicate, resAll, resA, zm, zg, a275, h2]
theorem step_no {G : List (Nat × AFun X)} (a277 : assoc G 277 = some c_steal_Steal_Done) {m : Mem X} {x u : AV} (h1 : c_steal_Steal_Done [x] m = some (.bool true, m)) : amFunc G steal_Steal_Step [x, u] m = some (.bool true, m) := by
  refine Fn_eq (Fn_of rfl ?_)
  simp (disch := first | assumption | omega | (simp only [zl] <;> omega) | (simp only [zn])) only [steal_Steal_Step, ↓zd, zk, Nat.reduceSub, Nat.reduceAdd, Nat.reduceMul, Nat.reduceLeDiff, Nat.reduceEqDiff, reduceIte, Int.reduceEq, Int.reduceBEq, Int.reduceLE, Int.reduceLT, Int.reduceNeg, Int.reduceAdd, Int.reduceSub, Int.reduceMul, List.map, AV.cells, List.all, AV.one, eqV, eqAll, splice, fillA, List.replicate, resAll, resA, zm, zg, a277, h1]
theorem Dn.keep {m m' : Mem X} {x : AV} (h : Dn m x) (k : Keep m m') : Dn m' x := by
  rcases h with rfl | ⟨xj, c, p, v, w, ly, b, rfl, h⟩
  · exact .inl rfl
  · exact .inr ⟨xj, c, p, v, w, ly, b, rfl, k.get h⟩
theorem Dn.one {m : Mem X} {x : AV} (h : Dn m x) : x.one = true := by
  rcases h with rfl | ⟨xj, c, p, v, w, ly, b, rfl, h⟩ <;> rfl
def Gnone : List (Nat × AFun X) := [(21, F09.c_cell_New), (270, c_steal_New), (278, c_steal_Steal_Got), (277, c_steal_Steal_Done), (274, c_steal_Steal_Step), (275, c_steal_Steal_Many), (279, c_steal_Steal_Left), (276, c_steal_Steal_Hands), (46, F09.c_cell_Mem_Ops), (268, pureF worksG)]
def NoI (M : Mem X) (c : Cf) (p : Int) (b z o l : Nat) (k : Nat) (e : List AV) (m : Mem X) : Prop := ∃ (i : Nat) (y9 y10 y11 y12 : AV), e = [.agg (cfC c), .int .i64 p, .ptr b 0, .bool false, .nilp, .ptr z 0, .ptr o 0, .sl l 0 5 (some 5), .int .i64 i, y9, y10, y11, y12] ∧ m = M ∧ k = 5 - i ∧ i ≤ 5
theorem new30_eq (m : Mem X) : F09.c_cell_New [.int .i64 30] m = some (.ptr (m.length + 1) 0, m ++ [.cells 1 false (repeatL 30 [.int .u64 0]), .cells 8 false (rootN m.length 30)]) := by
  have hmk : amOp [] (.make 1 8 [.int .u64 0]) [.int .i64 30, .int .i64 30] m = some (.sl m.length 0 30 (some 30), m ++ [.cells 1 false (repeatL 30 [.int .u64 0])]) := rfl
  refine Fn_eq (Fn_of rfl ?_)
  simp (disch := first | assumption | omega | (simp only [zl] <;> omega) | (simp only [zn])) only [F09.cell_New, ↓zd, zk, Nat.reduceSub, Nat.reduceAdd, Nat.reduceMul, Nat.reduceLeDiff, Nat.reduceEqDiff, reduceIte, Int.reduceEq, Int.reduceBEq, Int.reduceLE, Int.reduceLT, Int.reduceNeg, Int.reduceAdd, Int.reduceSub, Int.reduceMul, List.map, AV.cells, List.all, AV.one, eqV, eqAll, splice, fillA, List.replicate, resAll, resA, zm, hmk, rootN]
set_option maxHeartbeats 8000000 in
theorem none_run (m : Mem X) (c : Cf) (p : Int) : Fn Gnone law11_StealNone [.agg (cfC c), .int .i64 p] m (fun r m' => r = .bool true ∧ Keep m m') := by
  have a21 : assoc (Gnone (X := X)) 21 = some F09.c_cell_New := rfl
  have a270 : assoc (Gnone (X := X)) 270 = some (amFunc [(159, F10.c_conf_Config_Word)] steal_New) := rfl
  have a278 : assoc (Gnone (X := X)) 278 = some c_steal_Steal_Got := rfl
  have a277 : assoc (Gnone (X := X)) 277 = some c_steal_Steal_Done := rfl
  have a274 : assoc (Gnone (X := X)) 274 = some c_steal_Steal_Step := rfl
  have a275 : assoc (Gnone (X := X)) 275 = some c_steal_Steal_Many := rfl
  have a279 : assoc (Gnone (X := X)) 279 = some c_steal_Steal_Left := rfl
  have a276 : assoc (Gnone (X := X)) 276 = some c_steal_Steal_Hands := rfl
  have a46 : assoc (Gnone (X := X)) 46 = some F09.c_cell_Mem_Ops := rfl
  have a268 : assoc (Gnone (X := X)) 268 = some (pureF worksG) := rfl
  generalize Gnone (X := X) = G at a21 a270 a278 a277 a274 a275 a279 a276 a46 a268 ⊢
  have h1 := fun (M : Mem X) => snew_run (m := M) c p p
  have h2 := fun (M : Mem X) => snew_run (m := M) c (-1) 0
  have h3 := fun (M : Mem X) => snew_run (m := M) zeroC 0 1
  have n1 : ¬ thereS c p p := fun h => h.2.2 rfl
  have n2 : ¬ thereS c (-1) 0 := fun h => by have := h.1.2.1; omega
  have n3 : ¬ thereS zeroC 0 1 := fun h => by have := h.1.1.1.1; simp [zeroC] at this
  simp only [if_neg n1] at h1
  simp only [if_neg n2] at h2
  simp only [if_neg n3] at h3
  simp only [cfC, zeroC, List.cons_append, List.nil_append] at h1 h2 h3
  refine Fn_of rfl ?_
  simp (disch := first | assumption | omega | (simp only [zl] <;> omega) | (simp only [zn])) only [law11_StealNone, ↓zd, zk, Nat.reduceSub, Nat.reduceAdd, Nat.reduceMul, Nat.reduceLeDiff, Nat.reduceEqDiff, reduceIte, Int.reduceEq, Int.reduceBEq, Int.reduceLE, Int.reduceLT, Int.reduceNeg, Int.reduceAdd, Int.reduceSub, Int.reduceMul, List.map, AV.cells, List.all, AV.one, eqV, eqAll, splice, fillA, List.replicate, resAll, resA, zm, zg, cfC, a21, new30_eq, a270]
  have g0 : ∀ M, Keep (m ++ [Chunk.cells 6 false (cfC c), .cells 13 false (stC zeroC 0 0 0 0 .nilp .nils 0), .cells 1 false (repeatL 30 [.int .u64 0]), .cells 8 false (rootN (m.length + 2) 30)]) M → M[m.length]? = some (.cells 6 false (cfC c)) := fun M h => h.get (by rw [get_mid0]; rfl)
  have gz : ∀ M, Keep (m ++ [Chunk.cells 6 false (cfC c), .cells 13 false (stC zeroC 0 0 0 0 .nilp .nils 0), .cells 1 false (repeatL 30 [.int .u64 0]), .cells 8 false (rootN (m.length + 2) 30)]) M → M[m.length + 1]? = some (.cells 13 false (stC zeroC 0 0 0 0 .nilp .nils 0)) := fun M h => h.get (by rw [get_mid]; rfl)
  have go : ∀ M, Keep (m ++ [Chunk.cells 6 false (cfC c), .cells 13 false (stC zeroC 0 0 0 0 .nilp .nils 0), .cells 1 false (repeatL 30 [.int .u64 0]), .cells 8 false (rootN (m.length + 2) 30)]) M → M[m.length + 3]? = some (.cells 8 false (rootN (m.length + 2) 30)) := fun M h => h.get (by rw [get_mid]; rfl)
  have hk : Keep m (m ++ [Chunk.cells 6 false (cfC c), .cells 13 false (stC zeroC 0 0 0 0 .nilp .nils 0), .cells 1 false (repeatL 30 [.int .u64 0]), .cells 8 false (rootN (m.length + 2) 30)]) := .app _ _
  simp only [cfC, stC, zeroC, rootN, List.cons_append, List.nil_append] at g0 gz go hk
  refine OKT_fn (h1 _) ?_
  rintro _ m1 ⟨k1, x1, rfl, l1, g1⟩
  have e1 := g0 m1 k1
  simp (disch := first | assumption | omega | (simp only [zl] <;> omega) | (simp only [zn])) only [↓zd, zk, Nat.reduceSub, Nat.reduceAdd, Nat.reduceMul, Nat.reduceLeDiff, Nat.reduceEqDiff, reduceIte, Int.reduceEq, Int.reduceBEq, Int.reduceLE, Int.reduceLT, Int.reduceNeg, Int.reduceAdd, Int.reduceSub, Int.reduceMul, List.map, AV.cells, List.all, AV.one, eqV, eqAll, splice, fillA, List.replicate, resAll, resA, zm, zg, e1, a270]
  refine OKT_fn (h2 _) ?_
  rintro _ m2 ⟨k2, x2, rfl, l2, g2⟩
  simp (disch := first | assumption | omega | (simp only [zl] <;> omega) | (simp only [zn])) only [↓zd, zk, Nat.reduceSub, Nat.reduceAdd, Nat.reduceMul, Nat.reduceLeDiff, Nat.reduceEqDiff, reduceIte, Int.reduceEq, Int.reduceBEq, Int.reduceLE, Int.reduceLT, Int.reduceNeg, Int.reduceAdd, Int.reduceSub, Int.reduceMul, List.map, AV.cells, List.all, AV.one, eqV, eqAll, splice, fillA, List.replicate, resAll, resA, zm, zg, fillA, a270]
  refine OKT_fn (h3 _) ?_
  rintro _ m3 ⟨k3, x3, rfl, l3, g3⟩
  have k13 := (k1.trans k2).trans k3
  simp (disch := first | assumption | omega | (simp only [zl] <;> omega) | (simp only [zn])) only [↓zd, zk, Nat.reduceSub, Nat.reduceAdd, Nat.reduceMul, Nat.reduceLeDiff, Nat.reduceEqDiff, reduceIte, Int.reduceEq, Int.reduceBEq, Int.reduceLE, Int.reduceLT, Int.reduceNeg, Int.reduceAdd, Int.reduceSub, Int.reduceMul, List.map, AV.cells, List.all, AV.one, eqV, eqAll, splice, fillA, List.replicate, resAll, resA, zm, zg, evA, fillA, repeatL, List.flatten_cons, List.flatten_nil]
  have kM : Keep m3 (m3 ++ [Chunk.cells 1 false [.nilp, .ptr (m.length + 1) 0, .ptr x1 0, .ptr x2 0, .ptr x3 0]]) := .app _ _
  have gl : (m3 ++ [Chunk.cells 1 false [.nilp, .ptr (m.length + 1) 0, .ptr x1 0, .ptr x2 0, .ptr x3 0]])[m3.length]? = some (.cells 1 false [.nilp, .ptr (m.length + 1) 0, .ptr x1 0, .ptr x2 0, .ptr x3 0]) := get_concat
  generalize m3 ++ [Chunk.cells 1 false [.nilp, .ptr (m.length + 1) 0, .ptr x1 0, .ptr x2 0, .ptr x3 0]] = M at kM gl ⊢
  have k13M := k13.trans kM
  have hD : ∀ i, i < 5 → ∃ x, [AV.nilp, .ptr (m.length + 1) 0, .ptr x1 0, .ptr x2 0, .ptr x3 0][i]? = some x ∧ Dn M x := by
    intro i hi
    rcases (show i = 0 ∨ i = 1 ∨ i = 2 ∨ i = 3 ∨ i = 4 by omega) with rfl | rfl | rfl | rfl | rfl
    · exact ⟨_, rfl, .inl rfl⟩
    · exact ⟨_, rfl, .inr ⟨_, zeroC, 0, 0, 0, .nilp, .nils, rfl, gz _ k13M⟩⟩
    · exact ⟨_, rfl, .inr ⟨_, c, p, p, 0, .nilp, .nils, rfl, ((k2.trans k3).trans kM).get g1⟩⟩
    · exact ⟨_, rfl, .inr ⟨_, c, -1, 0, 0, .nilp, .nils, rfl, (k3.trans kM).get g2⟩⟩
    · exact ⟨_, rfl, .inr ⟨_, zeroC, 0, 1, 0, .nilp, .nils, rfl, kM.get g3⟩⟩
  have fo := go _ k13M
  have hkM := hk.trans k13M
  have hlen : [AV.nilp, .ptr (m.length + 1) 0, .ptr x1 0, .ptr x2 0, .ptr x3 0].length = 5 := rfl
  generalize [AV.nilp, .ptr (m.length + 1) 0, .ptr x1 0, .ptr x2 0, .ptr x3 0] = L at gl hD hlen
  clear g0 gz go hk k1 k2 k3 k13 kM g1 g2 g3 e1 k13M h1 h2 h3 n1 n2 n3
  refine W_loop (NoI M c p m.length (m.length + 1) (m.length + 2 + 1) m3.length) 5 (by simp [FUEL]) ⟨0, _, _, _, _, rfl, rfl, rfl, by omega⟩ ?_
  rintro k e m' ⟨i, y9, y10, y11, y12, rfl, rfl, rfl, hi⟩
  rcases Nat.lt_or_ge i 5 with hi5 | hi5
  · obtain ⟨x, hx, hd⟩ := hD i hi5
    have d1 := hd.done
    have d2 := hd.many
    have f278 : c_steal_Steal_Got [x] m' = some (.tup [.int .i64 0, .bool false], m') := got_no (G := [(277, c_steal_Steal_Done), (275, c_steal_Steal_Many)]) rfl rfl ⟨_, d1⟩ d2
    have f274 : ∀ u, c_steal_Steal_Step [x, u] m' = some (.bool true, m') := fun u => step_no (by rfl) d1
    have f279 : c_steal_Steal_Left [x] m' = some (.nils, m') := left_no (by rfl) (by rfl) ⟨_, d1⟩ d2
    have f276 : c_steal_Steal_Hands [x] m' = some (.nils, m') := hands_no (by rfl) d2
    simp (disch := first | assumption | omega | (simp only [zl] <;> omega) | (simp only [zn])) only [↓zd, zk, Nat.reduceSub, Nat.reduceAdd, Nat.reduceMul, Nat.reduceLeDiff, Nat.reduceEqDiff, reduceIte, Int.reduceEq, Int.reduceBEq, Int.reduceLE, Int.reduceLT, Int.reduceNeg, Int.reduceAdd, Int.reduceSub, Int.reduceMul, List.map, AV.cells, List.all, AV.one, eqV, eqAll, splice, fillA, List.replicate, resAll, resA, zm, zg, cfC, gl, hlen, hx, a278, f278, a277, d1, a274, f274, a275, d2, a279, f279, a276, f276]
    exact ⟨_, by omega, i + 1, _, _, _, _, rfl, rfl, rfl, by omega⟩
  · have f46 : F09.c_cell_Mem_Ops [.ptr (m.length + 2 + 1) 0] m' = some (.int .u64 0, m') := F09.ops_eq fo
    simp (disch := first | assumption | omega | (simp only [zl] <;> omega) | (simp only [zn])) only [↓zd, zk, Nat.reduceSub, Nat.reduceAdd, Nat.reduceMul, Nat.reduceLeDiff, Nat.reduceEqDiff, reduceIte, Int.reduceEq, Int.reduceBEq, Int.reduceLE, Int.reduceLT, Int.reduceNeg, Int.reduceAdd, Int.reduceSub, Int.reduceMul, List.map, AV.cells, List.all, AV.one, eqV, eqAll, splice, fillA, List.replicate, resAll, resA, zm, zg, cfC, a46, f46, a268, pureF, worksG]
    exact hkM
end Go.Am.F11
end
