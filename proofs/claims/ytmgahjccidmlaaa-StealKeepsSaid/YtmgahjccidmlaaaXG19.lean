import Derived.Test.YtmgahjccidmlaaaXG18
set_option linter.unusedSimpArgs false
set_option linter.unusedVariables false
section
namespace Go.Am.F09
open Go.Am.F06 Go.Am.F10
theorem _root_.Go.Am.F10.Rw.pushs {m : MM} {q : Nat} {wr : Bool} {xs ys : List Int} {v y : AV} (h : Rw m q xs.length 1 (iC xs) v) (hy : SI m wr ys y) (hl : xs.length ≤ 1000) (hl2 : ys.length ≤ 1000) :
    ∃ v' m' q', appendA 1 8 v y m = some (v', m') ∧ Rw m' q' (xs ++ ys).length 1 (iC (xs ++ ys)) v' ∧ m.length ≤ m'.length ∧ ((ys.length = 0 ∧ q' = q) ∨ m.length ≤ q') ∧ ∀ i, i < m.length → (0 < xs.length → i ≠ q) → m'[i]? = m[i]? := by
  have hr := si_row hy
  have hlen := hy.len
  by_cases h0 : ys.length = 0
  · have hx : ys = [] := List.length_eq_zero_iff.1 h0
    subst hx
    rw [List.append_nil]
    refine ⟨v, m, q, ?_, h, Nat.le_refl _, .inl ⟨rfl, rfl⟩, fun i _ _ => rfl⟩
    rcases h with ⟨h1, h2, rfl⟩ | ⟨h1, rfl, h2⟩ <;> simp only [appendA, hlen, hr, List.length_nil, if_true]
  rcases h with ⟨h1, h2, rfl⟩ | ⟨h1, rfl, hq⟩
  · have hxs : xs = [] := List.length_eq_zero_iff.1 h1
    subst hxs
    refine ⟨.sl m.length 0 ys.length none, m ++ [.cells 1 false (iC ys)], m.length, ?_, .inr ⟨by rw [List.nil_append]; omega, by rw [List.nil_append], by rw [List.nil_append]; exact get_concat⟩, by simp, .inr (Nat.le_refl _), fun i hi _ => List.getElem?_append_left hi⟩
    simp only [appendA, hlen, hr]
    rw [if_neg h0, if_pos ⟨by omega, by omega, iC_one _⟩]
  · have hql : q < m.length := (List.getElem?_eq_some_iff.1 hq).1
    refine ⟨.sl m.length 0 (xs.length + ys.length) none, m.set q .dead ++ [.cells 1 false (iC xs ++ iC ys)], m.length, ?_, .inr ⟨by rw [List.length_append]; omega, by rw [List.length_append], ?_⟩, by simp, .inr (Nat.le_refl _), fun i hi ho => ?_⟩
    · simp only [appendA, hlen, hr, Am.getC, hq]
      rw [if_neg h0, if_pos]
      · rw [List.drop_zero, Nat.mul_one, List.take_of_length_le (by rw [iC_len]; omega)]
      · refine ⟨trivial, by rw [iC_len]; omega, by omega, by omega, ?_⟩
        rw [List.drop_zero, Nat.mul_one, List.take_of_length_le (by rw [iC_len]; omega), List.all_append, iC_one, iC_one]; rfl
    · rw [show m.length = (m.set q .dead).length by simp, get_concat]; simp [iC]
    · have hqi : q ≠ i := fun h => ho h1 h.symm
      rw [List.getElem?_append_left (by simpa using hi), List.getElem?_set_ne hqi]
theorem _root_.Go.Am.F10.Rw.si {m : MM} {q : Nat} {xs : List Int} {v : AV} (h : Rw m q xs.length 1 (iC xs) v) : SI m false xs v := h.sl (by rw [iC_len]; omega)
theorem _root_.Go.Am.F10.Rw.box {m : MM} {q n sz : Nat} {l : List AV} {v : AV} (h : Rw m q n sz l v) (h0 : 0 < n) : m[q]? = some (.cells sz false l) := by
  rcases h with ⟨h1, _⟩ | ⟨_, _, h⟩
  · omega
  · exact h
theorem SI.stayb {m m' : MM} {wr : Bool} {xs : List Int} {v : AV} (h : SI m wr xs v) {b : Nat} (hk : ∀ i, i < m.length → i ≠ b → m'[i]? = m[i]?) (ho : Off b v) : SI m' wr xs v := Sl.stay h fun q o cap hv h0 => hk q (Sl.lt h hv h0).1 (ho q o _ cap hv h0)
theorem PM.stay {m m' : MM} {xj : Nat} {c : Cf} {p g : Int} {s : PS} {qt : Nat} {tv hv : AV} (h : PM m xj c p g s qt tv hv) {b : Nat} (hk : ∀ i, i < m.length → i ≠ b → m'[i]? = m[i]?) (h1 : xj ≠ b) (h2 : qt ≠ b) (h3 : Off b hv) : PM m' xj c p g s qt tv hv :=
  ⟨by rw [hk _ (List.getElem?_eq_some_iff.1 h.get).1 h1]; exact h.get, fun ha => (h.t ha).keep fun h0 => hk qt ((h.t ha).lt h0) h2, h.one, SI.stayb h.h hk h3, h.off⟩
structure KpS (M0 : MM) (c : Cf) (p : Int) (j xj : Nat) (A : List Int) (d : Nat) (s : PS) (gone : AV) (qg qt : Nat) (tv hv : AV) (xs : List Int) (m : MM) : Prop where
  keep : KeepX xj j M0 m
  pm : PM m xj c p 999 s qt tv hv
  mem : ∃ st o, m[j]? = some (.abs (.mem st)) ∧ RelM xs o st
  rg : Rw m qg (A.take d).length 1 (iC (A.take d)) gone
  nq : 0 < (A.take d).length → qg ≠ qt
  bq : 0 < (A.take d).length → M0.length ≤ qg
  bt : qt = xj ∨ (M0.length ≤ qt ∧ qt < m.length)
  oh : 0 < (A.take d).length → Off qg hv
  ok : POk c p s
theorem KpS.step {M0 m m' : MM} {c : Cf} {p : Int} {j xj : Nat} {A : List Int} {d : Nat} {s : PS} {gone : AV} {qg qt : Nat} {tv hv : AV} {xs : List Int} (h : KpS M0 c p j xj A d s gone qg qt tv hv xs m) {x : PS × List Int} {o : Int} {r : AV} (hok : POk c p x.1) (hP : PsP m c p 999 xj j qt hv x o r m') :
    r = .bool (decide (x.1.a = 0)) ∧ ∃ qt' tv' hv', KpS M0 c p j xj A d x.1 gone qg qt' tv' hv' x.2 m' := by
  obtain ⟨rfl, k1, tv', hv', qt', hpm, hq, hh, st', j', r'⟩ := hP
  obtain ⟨hk, pm, ⟨st, o1, hj, _⟩, rg, nq, bq, bt, oh, _⟩ := h
  have hM := hk.1
  have hqx : 0 < (A.take d).length → qg ≠ xj := fun h0 hq => by have := rg.box h0; rw [hq, pm.get] at this; cases this
  have hqj : 0 < (A.take d).length → qg ≠ j := fun h0 hq => by have := rg.box h0; rw [hq, hj] at this; cases this
  have lx : xj < m.length := (List.getElem?_eq_some_iff.1 pm.get).1
  have lx' : xj < m'.length := (List.getElem?_eq_some_iff.1 hpm.get).1
  have hl1 := k1.1
  refine ⟨rfl, qt', tv', hv', ⟨Nat.le_trans hM hl1, fun i hi h1 h2 => ?_⟩, hpm, ⟨st', o, j', r'⟩, rg.keep fun h0 => ?_, fun h0 => ?_, bq, ?_, fun h0 => ?_, hok⟩
  · have hne : i ≠ qt := by rcases bt with h | h <;> omega
    rw [k1.2 i (by omega) h1 h2 hne, hk.2 i hi h1 h2]
  · exact k1.2 qg (rg.lt h0) (hqx h0) (hqj h0) (nq h0)
  · have := rg.lt h0
    have := hqx h0
    have := nq h0
    rcases hq with h | h | h <;> omega
  · rcases hq with h | h | h
    · exact .inl h
    · exact .inr ⟨by omega, h.2⟩
    · rcases bt with h' | h'
      · exact .inl (by omega)
      · exact .inr ⟨by omega, by omega⟩
  · have := rg.lt h0
    rcases hh with h | h | ⟨q, oo, n, cp, h, h'⟩
    · rw [h]; exact oh h0
    · rw [h]; intro q o n cc hq; cases hq
    · rw [h]; intro q2 o2 n2 cc hq2 _
      injection hq2 with hq2; omega
theorem KpS.thief {M0 m m' : MM} {c : Cf} {p : Int} {j xj : Nat} {A : List Int} {d : Nat} {s : PS} {gone : AV} {qg qt : Nat} {tv hv : AV} {xs xs' : List Int} (h : KpS M0 c p j xj A d s gone qg qt tv hv xs m) (hk : KeepB j m m') {st' : MemSt} {o' : Int} (hj' : m'[j]? = some (.abs (.mem st'))) (hr' : RelM xs' o' st') :
    KpS M0 c p j xj A d s gone qg qt tv hv xs' m' := by
  obtain ⟨hk0, pm, ⟨st, o1, hj, _⟩, rg, nq, bq, bt, oh, hok⟩ := h
  have hM := hk0.1
  have hl := hk.1
  have hqj : 0 < (A.take d).length → qg ≠ j := fun h0 hq => by have := rg.box h0; rw [hq, hj] at this; cases this
  have hxj : xj ≠ j := fun h => by have := pm.get; rw [h, hj] at this; cases this
  have hqt : ∀ n l tv, Rw m qt n 1 l tv → 0 < n → qt ≠ j := fun n l tv h h0 hq => by have := h.box h0; rw [hq, hj] at this; cases this
  refine ⟨⟨Nat.le_trans hM hl, fun i hi h1 h2 => by rw [hk.2 i (by omega) h2, hk0.2 i hi h1 h2]⟩, ⟨by rw [hk.2 _ (List.getElem?_eq_some_iff.1 pm.get).1 hxj]; exact pm.get, fun ha => (pm.t ha).keep fun h0 => hk.2 qt ((pm.t ha).lt h0) (hqt _ _ _ (pm.t ha) h0), pm.one, SI.stayb pm.h hk.2 (si_box pm.h fun ro L h => by rw [hj] at h; cases h), pm.off⟩, ⟨st', o', hj', hr'⟩, rg.keep fun h0 => hk.2 qg (rg.lt h0) (hqj h0), nq, bq, ?_, oh, hok⟩
  rcases bt with h | h
  · exact .inl h
  · exact .inr ⟨h.1, by omega⟩
theorem PM.keep {m m' : MM} {xj : Nat} {c : Cf} {p g : Int} {s : PS} {qt : Nat} {tv hv : AV} (h : PM m xj c p g s qt tv hv) (k : Keep m m') : PM m' xj c p g s qt tv hv :=
  ⟨k.get h.get, fun ha => (h.t ha).keep fun h0 => k.2 qt ((h.t ha).lt h0), h.one, h.h.keep k, h.off⟩
theorem KpS.more {M0 m m' : MM} {c : Cf} {p : Int} {j xj : Nat} {A : List Int} {d : Nat} {s : PS} {gone : AV} {qg qt : Nat} {tv hv : AV} {xs : List Int} (h : KpS M0 c p j xj A d s gone qg qt tv hv xs m) (k : Keep m m') : KpS M0 c p j xj A d s gone qg qt tv hv xs m' := by
  obtain ⟨hk0, pm, ⟨st, o1, hj, hr⟩, rg, nq, bq, bt, oh, hok⟩ := h
  refine ⟨hk0.trans (.of k), PM.keep pm k, ⟨st, o1, k.get hj, hr⟩, rg.keep fun h0 => k.2 qg (rg.lt h0), nq, bq, ?_, oh, hok⟩
  rcases bt with h | h
  · exact .inl h
  · exact .inr ⟨h.1, Nat.lt_of_lt_of_le h.2 k.1⟩
end Go.Am.F09
end
section
namespace Go.Am.F09
open Go.Am.F06 Go.Am.F10
def rpC (c : Cf) (p g : Int) (s : PS) (tv hv : AV) : List AV := cfC c ++ [.int .i64 p, .int .i64 g, .int .i64 s.a, .int .u64 s.w, tv, hv]
theorem _root_.Go.Am.Sl.setb {m : MM} {wr : Bool} {sz n : Nat} {l : List AV} {v : AV} (h : Sl m wr sz n l v) {b : Nat} {C : Chunk Ob} (hb : ∀ ro L, m[b]? ≠ some (.cells sz ro L)) : Sl (m.set b C) wr sz n l v := h.put hb C
structure SLN (lo hi : Nat) (m : MM) (wr : Bool) (n : Nat) (l : List AV) (v : AV) : Prop where
  sl : Sl m wr 1 n l v
  no : ∀ b, lo ≤ b → b < hi → ∀ ro L, m[b]? ≠ some (.cells 1 ro L)
theorem SLN.set {lo hi : Nat} {m : MM} {wr : Bool} {n : Nat} {l : List AV} {v : AV} (h : SLN lo hi m wr n l v) {a : Nat} (h1 : lo ≤ a) (h2 : a < hi) {C : Chunk Ob} (hC : ∀ ro L, C ≠ .cells 1 ro L) : SLN lo hi (m.set a C) wr n l v := by
  refine ⟨Sl.put h.sl (h.no a h1 h2) C, fun b b1 b2 ro L hb => ?_⟩
  by_cases hab : a = b
  · subst hab
    by_cases hl : a < m.length
    · rw [List.getElem?_set_self hl] at hb; injection hb with hb; exact hC _ _ hb
    · rw [List.getElem?_eq_none (by rw [List.length_set]; omega)] at hb; cases hb
  · rw [List.getElem?_set_ne hab] at hb; exact h.no b b1 b2 _ _ hb
theorem SLN.app {lo hi : Nat} {m : MM} {wr : Bool} {n : Nat} {l : List AV} {v : AV} (h : SLN lo hi m wr n l v) (hh : hi ≤ m.length) (K : MM) : SLN lo hi (m ++ K) wr n l v :=
  ⟨h.sl.keep (.app _ _), fun b b1 b2 ro L hb => h.no b b1 b2 ro L (by rwa [List.getElem?_append_left (by omega)] at hb)⟩
end Go.Am.F09
end
section
namespace Go.Am.F09
open Go.Am.F06 Go.Am.F10
end Go.Am.F09
end
section
namespace Go.Am.F09
open Go.Am.F06 Go.Am.F10
def okN (c : Cf) (p g : Int) : Prop := thereP c p ∧ 0 ≤ g
instance (c : Cf) (p g : Int) : Decidable (okN c p g) := by unfold okN; infer_instance
theorem si_put {m : MM} {xs : List Int} {q o n : Nat} {cap : Option Nat} {L : List AV} (h : SI m true xs (.sl q o n cap)) (hq : m[q]? = some (.cells 1 false L)) {i : Nat} (hi : i < xs.length) (x : Int) : SI (m.set q (.cells 1 false (L.set (o + i) (.int .i64 x)))) true (xs.set i x) (.sl q o n cap) := by
  obtain ⟨hlen, hsl⟩ := h
  rcases hsl with ⟨h, _⟩ | ⟨q', o', cap', h, h5⟩
  · cases h
  · injection h with e1 e2 e3 e4; subst e1; subst e2; subst e3; subst e4
    obtain ⟨ro, L', d1, d2, d3, d4⟩ := h5 (by omega)
    rw [hq] at d1; injection d1 with d1; injection d1 with _ _ d1; subst d1
    refine ⟨by simp [iC_len], .inr ⟨q, o, cap, by rw [List.length_set], fun _ => ⟨false, _, List.getElem?_set_self (List.getElem?_eq_some_iff.1 hq).1, ?_, by simpa using d3, fun _ => rfl⟩⟩⟩
    rw [List.length_set, List.drop_set, if_neg (by omega), List.take_set, d2, iC, iC, List.map_set]
    congr 1; omega
end Go.Am.F09
end
section
namespace Go.Am.F09
open Go.Am.F06 Go.Am.F10
structure Fl (mm M : MM) (n : Nat) (h : AV) (B : Nat) : Prop where
  keep : Keep mm M
  row : ∃ ys : List Int, ys.length = n ∧ SI M true ys h
  lo : Fr mm.length h
  hi : ∀ q o cap, h = .sl q o n cap → 0 < n → q < B
  len : lenA h = some n
theorem Fl.put {mm M : MM} {n : Nat} {h : AV} {B k : Nat} (hf : Fl mm M n h B) (hk : k < n) (x : Int) : ∃ q o cap L, h = .sl q o n cap ∧ M[q]? = some (.cells 1 false L) ∧ o + k < L.length ∧ mm.length ≤ q ∧ q < B ∧ Fl mm (M.set q (.cells 1 false (L.set (o + k) (.int .i64 x)))) n h B := by
  obtain ⟨hk0, ⟨ys, rfl, hs⟩, hlo, hhi, hln⟩ := hf
  obtain ⟨q, o, cap, ro, L, rfl, h2, h3, h4, h5⟩ := hs.at (by omega)
  have := h5 rfl
  subst this
  have hq : mm.length ≤ q := by
    rcases hlo with h | ⟨_, _, _, _, h, h'⟩
    · cases h
    · injection h with e1; omega
  exact ⟨q, o, cap, L, rfl, h2, by omega, hq, hhi _ _ _ rfl (by omega), hk0.set hq _, ⟨ys.set k x, by simp, si_put hs h2 hk x⟩, hlo, hhi, hln⟩
end Go.Am.F09
end
section
namespace Go.Am.F09
open Go.Am.F06 Go.Am.F10
theorem PM.norm {m : MM} {xj : Nat} {c : Cf} {p g : Int} {s : PS} {qt : Nat} {tv hv : AV} (h : PM m xj c p g s qt tv hv) : ∃ qt', PM m xj c p g s qt' tv hv ∧ (qt' = xj ∨ (qt' = qt ∧ ∃ l, m[qt]? = some (.cells 1 false (iC l)))) := by
  have hx : ∀ ro L, m[xj]? ≠ some (.cells 1 ro L) := fun ro L hh => by rw [h.get] at hh; cases hh
  by_cases ha : s.a = 4 ∨ s.a = 5
  · rcases h.t ha with ht | ⟨h0, h1, h2⟩
    · exact ⟨xj, ⟨h.get, fun _ => .inl ht, h.one, h.h, si_box h.h hx⟩, .inl rfl⟩
    · exact ⟨qt, h, .inr ⟨rfl, _, h2⟩⟩
  · exact ⟨xj, ⟨h.get, fun hh => absurd hh ha, h.one, h.h, si_box h.h hx⟩, .inl rfl⟩
theorem su_off {m : MM} {wr : Bool} {xs : List Int} {v : AV} (hs : SU m wr xs v) {b : Nat} {l : List Int} (hb : m[b]? = some (.cells 1 false (iC l))) : Off b v := by
  intro q o n c hv h0 hq
  rcases hs.2 with ⟨h1, _⟩ | ⟨q2, o2, c2, h1, h2⟩
  · rw [h1] at hv; cases hv
  · rw [h1] at hv; injection hv with e1 e2 e3 e4; subst e1; subst e3; subst hq
    obtain ⟨ro, L, h3, h4⟩ := h2 h0
    rw [hb] at h3; injection h3 with h3; injection h3 with _ _ h3
    subst h3
    have h5 := sl_get h4.1 (j := 0) (by omega)
    rw [iC, uC, List.getElem?_map, List.getElem?_map] at h5
    obtain ⟨x, hx⟩ : ∃ x, xs[0]? = some x := ⟨_, List.getElem?_eq_getElem h0⟩
    rw [hx] at h5
    cases hy : l[o2 + 0]? with
    | none => rw [hy] at h5; cases h5
    | some y => rw [hy] at h5; cases h5
theorem su_box2 {m : MM} {wr : Bool} {xs : List Int} {v : AV} (hs : SU m wr xs v) {b : Nat} (hb : ∀ ro L, m[b]? ≠ some (.cells 1 ro L)) : Off b v := by
  intro q o n c hv h0 hq
  obtain ⟨_, ro, L, h⟩ := Sl.lt (n := xs.length) hs (by rw [hv]; congr 1; have := hs.len; rw [hv] at this; simpa [lenA] using this) (by
    have := hs.len; rw [hv] at this; simp only [lenA, Option.some.injEq] at this; omega) (q := q) (o := o) (cap := c)
  exact hb ro L (by rw [← hq]; exact h)
structure PyS (m0 : MM) (c0 c c' : Cf) (p p' g g' : Int) (cb j rb xj yb : Nat) (ps : List Pk) (lv : AV) (s : PS) (xs : List Int) (o : Int) (tv hv ytv yhv v : AV) (qt : Nat) (m : MM) : Prop where
  k0 : Keep m0 m
  pm : PM m xj c p g s qt tv hv
  qr : qt = xj ∨ ∃ l, m[qt]? = some (.cells 1 false (iC l))
  bq : m0.length ≤ qt
  mem : ∃ st, m[j]? = some (.abs (.mem st)) ∧ RelM xs o st
  ref : m[rb]? = some (.cells 2 false (memC v o))
  su : SU m false xs v
  y : m[yb]? = some (.cells 12 false (rpC c' p' g' s ytv yhv))
  yt : SI m false s.tk ytv
  yh : SI m false s.hs yhv
  ot : Off qt ytv
  oh : Off qt yhv
  ok : POk c p s
  okL : OkL c xs
  cc : s.a = 0 ∨ (c' = c ∧ p' = p ∧ g' = g)
  ps : SPk m false ps lv
theorem PyS.keep {m0 m m' : MM} {c0 c c' : Cf} {p p' g g' : Int} {cb j rb xj yb : Nat} {ps : List Pk} {lv : AV} {s : PS} {xs : List Int} {o : Int} {tv hv ytv yhv v : AV} {qt : Nat} (h : PyS m0 c0 c c' p p' g g' cb j rb xj yb ps lv s xs o tv hv ytv yhv v qt m) (k : Keep m m') : PyS m0 c0 c c' p p' g g' cb j rb xj yb ps lv s xs o tv hv ytv yhv v qt m' := by
  obtain ⟨st, hj, hr⟩ := h.mem
  exact ⟨h.k0.trans k, PM.keep h.pm k, h.qr.imp id (fun ⟨l, hl⟩ => ⟨l, k.get hl⟩), h.bq, ⟨st, k.get hj, hr⟩, k.get h.ref, h.su.keep k, k.get h.y, h.yt.keep k, h.yh.keep k, h.ot, h.oh, h.ok, h.okL, h.cc, h.ps.keep k⟩
structure PyB (m0 : MM) (c : Cf) (p g : Int) (j xj : Nat) (ps : List Pk) (lv : AV) (s : PS) (xs : List Int) (o : Int) (tv hv : AV) (qt : Nat) (m : MM) : Prop where
  k0 : Keep m0 m
  pm : PM m xj c p g s qt tv hv
  qr : qt = xj ∨ ∃ l, m[qt]? = some (.cells 1 false (iC l))
  bq : m0.length ≤ qt
  mem : ∃ st, m[j]? = some (.abs (.mem st)) ∧ RelM xs o st
  ok : POk c p s
  okL : OkL c xs
  ps : SPk m false ps lv
theorem PyS.b {m0 m : MM} {c0 c c' : Cf} {p p' g g' : Int} {cb j rb xj yb : Nat} {ps : List Pk} {lv : AV} {s : PS} {xs : List Int} {o : Int} {tv hv ytv yhv v : AV} {qt : Nat} (h : PyS m0 c0 c c' p p' g g' cb j rb xj yb ps lv s xs o tv hv ytv yhv v qt m) : PyB m0 c p g j xj ps lv s xs o tv hv qt m := ⟨h.k0, h.pm, h.qr, h.bq, h.mem, h.ok, h.okL, h.ps⟩
theorem PyB.ne {m0 m : MM} {c : Cf} {p g : Int} {j xj : Nat} {ps : List Pk} {lv : AV} {s : PS} {xs : List Int} {o : Int} {tv hv : AV} {qt : Nat} (h : PyB m0 c p g j xj ps lv s xs o tv hv qt m) {b sz : Nat} {L : List AV} (hb : m[b]? = some (.cells sz false L)) (h1 : sz ≠ 1) (h2 : sz ≠ 13) : b ≠ xj ∧ b ≠ j ∧ b ≠ qt := by
  obtain ⟨st, hj, _⟩ := h.mem
  refine ⟨fun hh => ?_, fun hh => ?_, fun hh => ?_⟩
  · rw [hh, h.pm.get] at hb; injection hb with hb; injection hb with hb; exact h2 hb.symm
  · rw [hh, hj] at hb; cases hb
  · rcases h.qr with hq | ⟨l, hl⟩
    · rw [hh, hq, h.pm.get] at hb; injection hb with hb; injection hb with hb; exact h2 hb.symm
    · rw [hh, hl] at hb; injection hb with hb; injection hb with hb; exact h1 hb.symm
theorem PyS.ne {m0 m : MM} {c0 c c' : Cf} {p p' g g' : Int} {cb j rb xj yb : Nat} {ps : List Pk} {lv : AV} {s : PS} {xs : List Int} {o : Int} {tv hv ytv yhv v : AV} {qt : Nat} (h : PyS m0 c0 c c' p p' g g' cb j rb xj yb ps lv s xs o tv hv ytv yhv v qt m) {b sz : Nat} {L : List AV} (hb : m[b]? = some (.cells sz false L)) (h1 : sz ≠ 1) (h2 : sz ≠ 13) : b ≠ xj ∧ b ≠ j ∧ b ≠ qt := h.b.ne hb h1 h2
theorem PyB.keep {m0 m m' : MM} {c : Cf} {p g : Int} {j xj : Nat} {ps : List Pk} {lv : AV} {s : PS} {xs : List Int} {o : Int} {tv hv : AV} {qt : Nat} (h : PyB m0 c p g j xj ps lv s xs o tv hv qt m) (k : Keep m m') : PyB m0 c p g j xj ps lv s xs o tv hv qt m' := by
  obtain ⟨st, hj, hr⟩ := h.mem
  exact ⟨h.k0.trans k, PM.keep h.pm k, h.qr.imp id (fun ⟨l, hl⟩ => ⟨l, k.get hl⟩), h.bq, ⟨st, k.get hj, hr⟩, h.ok, h.okL, h.ps.keep k⟩
theorem PyB.setb {m0 m : MM} {c : Cf} {p g : Int} {j xj : Nat} {ps : List Pk} {lv : AV} {s : PS} {xs : List Int} {o : Int} {tv hv : AV} {qt : Nat} (h : PyB m0 c p g j xj ps lv s xs o tv hv qt m) {b sz : Nat} {L : List AV} (hb : m[b]? = some (.cells sz false L)) (h1 : sz ≠ 1) (h2 : sz ≠ 13) (h3 : sz ≠ 3) (h0 : m0.length ≤ b) (C : Chunk Ob) : PyB m0 c p g j xj ps lv s xs o tv hv qt (m.set b C) := by
  obtain ⟨e1, e2, e3⟩ := h.ne hb h1 h2
  obtain ⟨st, hj, hr⟩ := h.mem
  have hn : ∀ z, z ≠ sz → ∀ ro L, m[b]? ≠ some (.cells z ro L) := fun z hz ro L hh => by rw [hb] at hh; injection hh with hh; injection hh with hh; exact hz hh.symm
  exact ⟨h.k0.set h0 _, PM.stay h.pm (fun i _ hi => List.getElem?_set_ne (fun hh => hi hh.symm)) (fun hh => e1 hh.symm) (fun hh => e3 hh.symm) (si_box h.pm.h (hn 1 (fun hh => h1 hh.symm))), h.qr.imp id (fun ⟨l, hl⟩ => ⟨l, by rw [List.getElem?_set_ne e3]; exact hl⟩), h.bq, ⟨st, by rw [List.getElem?_set_ne e2]; exact hj, hr⟩, h.ok, h.okL, Sl.put h.ps (hn 3 (fun hh => h3 hh.symm)) _⟩
theorem PyB.step {m0 m m' : MM} {c0 c c' : Cf} {p p' g g' : Int} {cb j rb xj yb : Nat} {ps : List Pk} {lv : AV} {s s' : PS} {xs xs' : List Int} {o o' : Int} {tv hv : AV} {qt : Nat} (h : PyB m0 c p g j xj ps lv s xs o tv hv qt m)
    (hx0 : m0.length ≤ xj) (hj0 : m0.length ≤ j) {ytv' yhv' v' : AV} (hy : m[yb]? = some (.cells 12 false (rpC c' p' g' s' ytv' yhv'))) (hyt : SI m false s'.tk ytv') (hyh : SI m false s'.hs yhv') (hot : Off qt ytv') (hoh : Off qt yhv') (hv' : SU m false xs' v') (hrb : m[rb]? = some (.cells 2 false (memC v' o'))) (hok : POk c p s') (hokL : OkL c xs') (hcc : s'.a = 0 ∨ (c' = c ∧ p' = p ∧ g' = g)) {r : AV} (hP : PsP m c p g xj j qt hv (s', xs') o' r m') :
    r = .bool (decide (s'.a = 0)) ∧ ∃ tv2 hv2 qt2, PyS m0 c0 c c' p p' g g' cb j rb xj yb ps lv s' xs' o' tv2 hv2 ytv' yhv' v' qt2 m' := by
  obtain ⟨rfl, k1, tv2, hv2, qt', hpm, hq, hh, st', hj', hr'⟩ := hP
  obtain ⟨st, hj, hr⟩ := h.mem
  obtain ⟨qt2, hpm2, hq2⟩ := PM.norm hpm
  have hnx : ∀ ro L, m[xj]? ≠ some (.cells 1 ro L) := fun ro L hh => by rw [h.pm.get] at hh; cases hh
  have hnj : ∀ ro L, m[j]? ≠ some (.cells 1 ro L) := fun ro L hh => by rw [hj] at hh; cases hh
  have hl := k1.1
  have hk0 := h.k0.1
  have hbox : ∀ {b sz : Nat} {L : List AV}, m[b]? = some (.cells sz false L) → sz ≠ 1 → sz ≠ 13 → m'[b]? = some (.cells sz false L) := fun hb h1 h2 => by
    obtain ⟨e1, e2, e3⟩ := h.ne hb h1 h2
    rw [k1.2 _ (List.getElem?_eq_some_iff.1 hb).1 e1 e2 e3]; exact hb
  have hsoff : Off qt v' := by
    rcases h.qr with hq | ⟨l, hl⟩
    · rw [hq]; exact su_box2 hv' hnx
    · exact su_off hv' hl
  have hqt2 : qt2 = xj ∨ (m.length ≤ qt2 ∧ qt2 < m'.length) ∨ qt2 = qt := by
    rcases hq2 with h1 | ⟨h1, _⟩
    · exact .inl h1
    · rw [h1]; exact hq
  have hoff2 : ∀ {w : AV} {n : Nat} {l : List AV}, Sl m false 1 n l w → Off qt w → Off qt2 w := fun {w n l} hs ho => by
    have hlen := hs.len
    have hlt : ∀ q o k cap, w = .sl q o k cap → 0 < k → q < m.length ∧ ∃ ro L, m[q]? = some (.cells 1 ro L) := fun q o k cap hw hk => by
      rw [hw] at hlen; simp only [lenA, Option.some.injEq] at hlen; subst hlen
      exact Sl.lt hs hw hk
    rcases hqt2 with e | ⟨e, _⟩ | e
    · rw [e]; intro q o k cap hw hk hh
      obtain ⟨_, ro, L, h3⟩ := hlt q o k cap hw hk
      exact hnx ro L (by rw [← hh]; exact h3)
    · intro q o k cap hw hk hh
      have := (hlt q o k cap hw hk).1
      omega
    · rw [e]; exact ho
  refine ⟨rfl, tv2, hv2, qt2, ⟨⟨by omega, fun i hi => ?_⟩, hpm2, ?_, ?_, ⟨st', hj', hr'⟩, hbox hrb (by decide) (by decide), k1.si hnx hnj hv' hsoff, hbox hy (by decide) (by decide), k1.si hnx hnj hyt hot, k1.si hnx hnj hyh hoh, hoff2 hyt hot, hoff2 hyh hoh, hok, hokL, hcc, ?_⟩⟩
  · have := h.bq
    rw [k1.2 i (by omega) (by omega) (by omega) (by omega), h.k0.2 i hi]
  · rcases hq2 with h1 | ⟨h1, l, h2⟩
    · exact .inl h1
    · exact .inr ⟨l, by rw [h1]; exact h2⟩
  · have := h.bq
    rcases hqt2 with e | ⟨e, _⟩ | e <;> omega
  · refine Sl.stay h.ps fun q o cap hw h0 => ?_
    obtain ⟨h1, ro, L, h2⟩ := Sl.lt h.ps hw h0
    have e1 : q ≠ xj := fun hh => by rw [hh, h.pm.get] at h2; cases h2
    have e2 : q ≠ j := fun hh => by rw [hh, hj] at h2; cases h2
    have e3 : q ≠ qt := fun hh => by
      rcases h.qr with hq | ⟨l, hl⟩
      · exact e1 (by rw [hh, hq])
      · rw [hh, hl] at h2; cases h2
    exact k1.2 q h1 e1 e2 e3
end Go.Am.F09
end
section
namespace Go.Am.F10
open Go.Am.F06
variable {X : Type}
theorem rows_arg {α : Type} {f : α → List AV} {sz : Nat} (hf : ∀ x, (f x).length = sz) {m : Mem X} {i len cap : Nat} (hl : 0 < len → ∃ l, m[i]? = some (.cells sz true l) ∧ l.length = len * sz ∧ ∀ k, k < len → ∃ x : α, (l.drop (k * sz)).take sz = f x) :
    ∃ ws : List α, Sl m false sz ws.length (ws.flatMap f) (.sl i 0 len (some cap)) := by
  by_cases h0 : 0 < len
  · obtain ⟨l, h2, h3, h4⟩ := hl h0
    obtain ⟨ws, e1, e2⟩ := rows_of hf len h3 h4
    subst e1; subst e2
    have hlen := rows_len hf ws
    exact ⟨ws, hlen, .inr ⟨i, 0, some cap, rfl, fun _ => ⟨true, _, h2, by rw [List.drop_zero, ← hlen, List.take_length], by omega, fun h => by cases h⟩⟩⟩
  · have : len = 0 := by omega
    subst this
    exact ⟨[], by simp, .inr ⟨i, 0, some cap, rfl, fun h => absurd h (Nat.lt_irrefl _)⟩⟩
theorem flat_byte (ws : List {z : Int // 0 ≤ z ∧ z < 256}) : ws.flatMap (fun x => [AV.int .u8 x.1]) = (ws.map Subtype.val).map (AV.int .u8) := by
  induction ws with
  | nil => rfl
  | cons a ws ih => rw [List.flatMap_cons, ih]; rfl
theorem byte_arg {m : Mem X} {i len cap : Nat} (hl : 0 < len → ∃ l, m[i]? = some (.cells 1 true l) ∧ l.length = len * 1 ∧ ∀ k, k < len → ∃ z : Int, (l.drop (k * 1)).take 1 = [.int .u8 z] ∧ 0 ≤ z ∧ z < 256) :
    ∃ bs : List Int, SB m bs (.sl i 0 len (some cap)) ∧ ∀ x, x ∈ bs → 0 ≤ x ∧ x < 256 := by
  obtain ⟨ws, h⟩ := rows_arg (f := fun x : {z : Int // 0 ≤ z ∧ z < 256} => [AV.int .u8 x.1]) (sz := 1) (m := m) (i := i) (len := len) (cap := cap) (fun _ => rfl) (fun h0 => by
    obtain ⟨l, h1, h2, h3⟩ := hl h0
    exact ⟨l, h1, h2, fun k hk => by obtain ⟨z, e, b1, b2⟩ := h3 k hk; exact ⟨⟨z, b1, b2⟩, e⟩⟩)
  rw [flat_byte] at h
  refine ⟨ws.map Subtype.val, by show Sl m false _ (ws.map Subtype.val).length _ _; rw [List.length_map]; exact h, fun x hx => ?_⟩
  obtain ⟨a, _, rfl⟩ := List.mem_map.1 hx
  exact a.2
end Go.Am.F10
end
section
namespace Go.Am.F09
open Go.Am.F06 Go.Am.F10
end Go.Am.F09
end
section
namespace Go.Am.F09
open Go.Am.F06 Go.Am.F10
theorem neg_eq {X : Type} (m : Mem X) (x : Int) : c_put_NewLay_1 [.int .i64 x] m = some (.bool (decide (x < 0)), m) := by
  have he : c_put_NewLay_1 (X := X) = amFunc [] put_NewLay_1 := rfl
  rw [he]
  exact Fn_eq (Fn_of rfl (by simp (disch := first | assumption | omega | (simp only [zl] <;> omega) | (simp only [zn])) only [put_NewLay_1, ↓zd, zk, Nat.reduceSub, Nat.reduceAdd, Nat.reduceMul, Nat.reduceLeDiff, Nat.reduceEqDiff, reduceIte, Int.reduceEq, Int.reduceBEq, Int.reduceLE, Int.reduceLT, Int.reduceNeg, Int.reduceAdd, Int.reduceSub, Int.reduceMul, List.map, AV.cells, List.all, AV.one, eqV, eqAll, splice, fillA, List.replicate, resAll, resA, zm, zg]))
def Gif : List (Nat × AFun Ob) := [(213, c_put_NewLay_1)]
def Gdf : List (Nat × AFun Ob) := [(97, amFunc Gif slices_IndexFunc_int), (213, c_put_NewLay_1)]
def PInv (q n : Nat) (xs : List Int) (m0 : MM) (k : Nat) (e : List AV) (m : MM) : Prop := ∃ (i : Nat) (x3 x6 x7 : AV),
  e = [.sl q 0 n none, .fn 213 [] [], .int .i64 0, x3, .int .i64 n, .int .i64 i, x6, x7] ∧ m = m0 ∧ k = n - i ∧ i ≤ n ∧ ∀ j x, j < i → xs[j]? = some x → ¬ x < 0
theorem indexf_run {m : MM} {xs : List Int} {q : Nat} (hq : m[q]? = some (.cells 1 false (iC xs))) (hx : xs.length ≤ 1000) :
    ∃ r : Int, ((0 ≤ r ∧ (∃ x, xs[r.toNat]? = some x ∧ x < 0) ∧ ∀ j x, j < r.toNat → xs[j]? = some x → ¬ x < 0) ∨ (r = -1 ∧ ∀ x, x ∈ xs → ¬ x < 0)) ∧ amFunc Gif slices_IndexFunc_int [.sl q 0 xs.length none, .fn 213 [] []] m = some (.int .i64 r, m) := by
  have : Fn Gif slices_IndexFunc_int [.sl q 0 xs.length none, .fn 213 [] []] m (fun v m' => ∃ r : Int, ((0 ≤ r ∧ (∃ x, xs[r.toNat]? = some x ∧ x < 0) ∧ ∀ j x, j < r.toNat → xs[j]? = some x → ¬ x < 0) ∨ (r = -1 ∧ ∀ x, x ∈ xs → ¬ x < 0)) ∧ v = .int .i64 r ∧ m' = m) := by
    have a213 : assoc Gif 213 = some c_put_NewLay_1 := rfl
    generalize Gif = G at a213 ⊢
    refine Fn_of rfl ?_
    simp (disch := first | assumption | omega | (simp only [zl] <;> omega) | (simp only [zn])) only [slices_IndexFunc_int, ↓zd, zk, Nat.reduceSub, Nat.reduceAdd, Nat.reduceMul, Nat.reduceLeDiff, Nat.reduceEqDiff, reduceIte, Int.reduceEq, Int.reduceBEq, Int.reduceLE, Int.reduceLT, Int.reduceNeg, Int.reduceAdd, Int.reduceSub, Int.reduceMul, List.map, AV.cells, List.all, AV.one, eqV, eqAll, splice, fillA, List.replicate, resAll, resA]
    refine W_loop (PInv q xs.length xs m) xs.length (by simp only [FUEL]; omega) ⟨0, _, _, _, rfl, rfl, rfl, Nat.zero_le _, fun j x hj => by omega⟩ ?_
    rintro k e m' ⟨i, x3, x6, x7, rfl, rfl, rfl, hi, hne⟩
    simp (disch := first | assumption | omega | (simp only [zl] <;> omega) | (simp only [zn])) only [↓zd, zk, Nat.reduceSub, Nat.reduceAdd, Nat.reduceMul, Nat.reduceLeDiff, Nat.reduceEqDiff, reduceIte, Int.reduceEq, Int.reduceBEq, Int.reduceLE, Int.reduceLT, Int.reduceNeg, Int.reduceAdd, Int.reduceSub, Int.reduceMul, List.map, AV.cells, List.all, AV.one, eqV, eqAll, splice, fillA, List.replicate, resAll, resA]
    refine CW_of (fun h => ?_) (fun h => ?_)
    · simp only [decide_eq_true_eq] at h
      obtain ⟨y, hyi⟩ : ∃ y, xs[i]? = some y := ⟨_, List.getElem?_eq_getElem (by omega)⟩
      have hp := fun m : MM => neg_eq m y
      by_cases hy : y < 0
      · simp (disch := first | assumption | omega | (simp only [zl] <;> omega) | (simp only [zn])) only [↓zd, zk, Nat.reduceSub, Nat.reduceAdd, Nat.reduceMul, Nat.reduceLeDiff, Nat.reduceEqDiff, reduceIte, Int.reduceEq, Int.reduceBEq, Int.reduceLE, Int.reduceLT, Int.reduceNeg, Int.reduceAdd, Int.reduceSub, Int.reduceMul, List.map, AV.cells, List.all, AV.one, eqV, eqAll, splice, fillA, List.replicate, resAll, resA, hq, iC_at hyi, a213, hp, hy, List.append_nil]
        exact ⟨i, .inl ⟨by omega, ⟨y, hyi, hy⟩, hne⟩, rfl⟩
      · simp (disch := first | assumption | omega | (simp only [zl] <;> omega) | (simp only [zn])) only [↓zd, zk, Nat.reduceSub, Nat.reduceAdd, Nat.reduceMul, Nat.reduceLeDiff, Nat.reduceEqDiff, reduceIte, Int.reduceEq, Int.reduceBEq, Int.reduceLE, Int.reduceLT, Int.reduceNeg, Int.reduceAdd, Int.reduceSub, Int.reduceMul, List.map, AV.cells, List.all, AV.one, eqV, eqAll, splice, fillA, List.replicate, resAll, resA, hq, iC_at hyi, a213, hp, hy, List.append_nil]
        refine ⟨_, by omega, i + 1, _, _, _, rfl, rfl, rfl, by omega, fun j x hj hjx => ?_⟩
        by_cases hji : j = i
        · subst hji; rw [hyi] at hjx; injection hjx with hjx; subst hjx; exact hy
        · exact hne j x (by omega) hjx
    · simp only [decide_eq_false_iff_not] at h
      simp (disch := first | assumption | omega | (simp only [zl] <;> omega) | (simp only [zn])) only [↓zd, zk, Nat.reduceSub, Nat.reduceAdd, Nat.reduceMul, Nat.reduceLeDiff, Nat.reduceEqDiff, reduceIte, Int.reduceEq, Int.reduceBEq, Int.reduceLE, Int.reduceLT, Int.reduceNeg, Int.reduceAdd, Int.reduceSub, Int.reduceMul, List.map, AV.cells, List.all, AV.one, eqV, eqAll, splice, fillA, List.replicate, resAll, resA]
      refine ⟨-1, .inr ⟨rfl, fun x hx => ?_⟩, rfl⟩
      obtain ⟨j, hj⟩ := List.mem_iff_getElem?.1 hx
      exact hne j x (by have := (List.getElem?_eq_some_iff.1 hj).1; omega) hj
  obtain ⟨v, m', h1, r, h2, rfl, rfl⟩ := this
  exact ⟨r, h2, h1⟩
def posL (xs : List Int) : List Int := xs.filter fun x => decide (¬ x < 0)
theorem pos_len (xs : List Int) : (posL xs).length ≤ xs.length := List.length_filter_le _ _
theorem pos_snoc {xs : List Int} {j : Nat} {x : Int} (h : xs[j]? = some x) : posL (xs.take (j + 1)) = if x < 0 then posL (xs.take j) else posL (xs.take j) ++ [x] := by
  rw [List.take_add_one, h, posL, List.filter_append, ← posL]
  by_cases hx : x < 0
  · simp [hx]
  · simp [hx]; omega
theorem pos_all {xs : List Int} (h : ∀ x, x ∈ xs → ¬ x < 0) : posL xs = xs := List.filter_eq_self.2 fun x hx => by simpa using h x hx
def BInv (q : Nat) (xs : List Int) (m0 : MM) (k : Nat) (e : List AV) (m : MM) : Prop := ∃ (j cnt : Nat) (L : List AV) (x5 x6 x7 x8 : AV),
  e = [.sl q 0 xs.length none, .fn 213 [] [], .nils, .int .i64 cnt, .int .i64 j, x5, x6, x7, x8] ∧ m = m0.set q (.cells 1 false L) ∧ k = xs.length - j ∧ j ≤ xs.length ∧ cnt < j ∧ cnt = (posL (xs.take j)).length ∧
  L.length = xs.length ∧ L.take cnt = iC (posL (xs.take j)) ∧ (∀ k x, j ≤ k → xs[k]? = some x → L[k]? = some (.int .i64 x)) ∧ L.all AV.one = true
theorem rep_len (n : Nat) : (repeatL n [AV.int .i64 0]).length = n := by simp [repeatL]
theorem rep_one (n : Nat) : (repeatL n [AV.int .i64 0]).all AV.one = true := by
  simp only [repeatL, List.all_eq_true, List.mem_flatten]
  rintro x ⟨l, hl, hx⟩
  rw [List.mem_replicate] at hl
  obtain ⟨_, rfl⟩ := hl
  simp at hx; subst hx; rfl
set_option maxHeartbeats 4000000 in
theorem delete_run {M m : MM} {xs : List Int} {q : Nat} (hk : Keep M m) (hqM : M.length ≤ q) (hq : m[q]? = some (.cells 1 false (iC xs))) (hx : xs.length ≤ 1000) :
    Fn Gdf slices_DeleteFunc_int [.sl q 0 xs.length none, .fn 213 [] []] m (fun r m' => Keep M m' ∧ SI m' true (posL xs) r ∧ Fr M.length r ∧ Nx m' r) := by
  have a97 : assoc Gdf 97 = some (amFunc Gif slices_IndexFunc_int) := rfl
  have a213 : assoc Gdf 213 = some c_put_NewLay_1 := rfl
  generalize Gdf = G at a97 a213 ⊢
  refine Fn_of rfl ?_
  obtain ⟨r, hr, hrun⟩ := indexf_run hq hx
  have hql : q < m.length := (List.getElem?_eq_some_iff.1 hq).1
  rcases hr with ⟨hr0, ⟨x0, hx0i, hx0w⟩, hr2⟩ | ⟨rfl, hr1⟩
  · obtain ⟨i0, rfl⟩ : ∃ i0 : Nat, r = i0 := ⟨r.toNat, by omega⟩
    simp only [Int.toNat_natCast] at hx0i hr2
    have hi0 : i0 < xs.length := (List.getElem?_eq_some_iff.1 hx0i).1
    have hsq : ∀ c, (m.set q c)[q]? = some c := fun c => List.getElem?_set_self hql
    have hne : ¬ ((i0 : Int) = -1) := by omega
    simp (disch := first | assumption | omega | (simp only [zl] <;> omega) | (simp only [zn])) only [slices_DeleteFunc_int, ↓zd, zk, Nat.reduceSub, Nat.reduceAdd, Nat.reduceMul, Nat.reduceLeDiff, Nat.reduceEqDiff, reduceIte, Int.reduceEq, Int.reduceBEq, Int.reduceLE, Int.reduceLT, Int.reduceNeg, Int.reduceAdd, Int.reduceSub, Int.reduceMul, List.map, AV.cells, List.all, AV.one, eqV, eqAll, splice, fillA, List.replicate, resAll, resA, a97, hrun]
    have hl0 : posL (xs.take (i0 + 1)) = xs.take i0 := by
      rw [pos_snoc hx0i, if_pos hx0w]
      exact pos_all fun x hx => by
        obtain ⟨j, hj⟩ := List.mem_iff_getElem?.1 hx
        rw [List.getElem?_take] at hj
        split at hj
        · exact hr2 j x ‹_› hj
        · cases hj
    refine W_loop (BInv q xs m) (xs.length - (i0 + 1)) (by simp only [FUEL]; omega) ⟨i0 + 1, i0, iC xs, _, _, _, _, rfl, ?_, rfl, by omega, by omega, ?_, iC_len _, ?_, fun k x _ h => iC_at h, iC_one _⟩ ?_
    · refine (List.ext_getElem? fun j => ?_)
      by_cases hj : q = j
      · subst hj; rw [hsq, hq]
      · rw [List.getElem?_set_ne hj]
    · rw [hl0, List.length_take]; omega
    · rw [hl0]; simp [iC, List.map_take]
    rintro k e m' ⟨j, cnt, L, x5, x6, x7, x8, rfl, rfl, rfl, hj, hcj, hcnt, hL, hLt, hLr, hLo⟩
    simp (disch := first | assumption | omega | (simp only [zl] <;> omega) | (simp only [zn])) only [↓zd, zk, Nat.reduceSub, Nat.reduceAdd, Nat.reduceMul, Nat.reduceLeDiff, Nat.reduceEqDiff, reduceIte, Int.reduceEq, Int.reduceBEq, Int.reduceLE, Int.reduceLT, Int.reduceNeg, Int.reduceAdd, Int.reduceSub, Int.reduceMul, List.map, AV.cells, List.all, AV.one, eqV, eqAll, splice, fillA, List.replicate, resAll, resA]
    refine CW_of (fun h => ?_) (fun h => ?_)
    · simp only [decide_eq_true_eq] at h
      obtain ⟨y, hyj⟩ : ∃ y, xs[j]? = some y := ⟨_, List.getElem?_eq_getElem (by omega)⟩
      have hLy := hLr j y (Nat.le_refl _) hyj
      have hp := fun m : MM => neg_eq m y
      have hsn := pos_snoc hyj
      by_cases hy : y < 0
      · rw [if_pos hy] at hsn
        simp (disch := first | assumption | omega | (simp only [zl] <;> omega) | (simp only [zn])) only [↓zd, zk, Nat.reduceSub, Nat.reduceAdd, Nat.reduceMul, Nat.reduceLeDiff, Nat.reduceEqDiff, reduceIte, Int.reduceEq, Int.reduceBEq, Int.reduceLE, Int.reduceLT, Int.reduceNeg, Int.reduceAdd, Int.reduceSub, Int.reduceMul, List.map, AV.cells, List.all, AV.one, eqV, eqAll, splice, fillA, List.replicate, resAll, resA, hsq, hLy, a213, hp, hy, List.append_nil]
        exact ⟨_, by omega, j + 1, cnt, L, _, _, _, _, rfl, rfl, rfl, by omega, by omega, by rw [hsn]; exact hcnt, hL, by rw [hsn]; exact hLt, fun k x h1 h2 => hLr k x (by omega) h2, hLo⟩
      · rw [if_neg hy] at hsn
        simp (disch := first | assumption | omega | (simp only [zl] <;> omega) | (simp only [zn])) only [↓zd, zk, Nat.reduceSub, Nat.reduceAdd, Nat.reduceMul, Nat.reduceLeDiff, Nat.reduceEqDiff, reduceIte, Int.reduceEq, Int.reduceBEq, Int.reduceLE, Int.reduceLT, Int.reduceNeg, Int.reduceAdd, Int.reduceSub, Int.reduceMul, List.map, AV.cells, List.all, AV.one, eqV, eqAll, splice, fillA, List.replicate, resAll, resA, hsq, hLy, a213, hp, hy, List.set_set, List.append_nil]
        refine ⟨_, by omega, j + 1, cnt + 1, L.set cnt (.int .i64 y), _, _, _, _, rfl, rfl, rfl, by omega, by omega, by rw [hsn]; simp [hcnt], by simp [hL], ?_, fun k x h1 h2 => ?_, ?_⟩
        · have hcl : cnt < L.length := by omega
          rw [hsn, List.take_add_one, List.getElem?_set_self hcl]
          have : (L.set cnt (AV.int .i64 y)).take cnt = L.take cnt := by rw [List.take_set_of_le (Nat.le_refl _)]
          rw [this, hLt]; simp [iC]
        · rw [List.getElem?_set_ne (by omega)]; exact hLr k x (by omega) h2
        · simp only [List.all_eq_true] at hLo ⊢
          intro a ha
          rcases List.mem_or_eq_of_mem_set ha with h | h
          · exact hLo a h
          · subst h; rfl
    · simp only [decide_eq_false_iff_not] at h
      have hjn : j = xs.length := by omega
      rw [hjn, List.take_length] at hcnt hLt
      have hz1 := rep_len (xs.length - cnt)
      have hz2 := rep_one (xs.length - cnt)
      have hnz : ¬ (xs.length - cnt = 0) := by omega
      simp (disch := first | assumption | omega | (simp only [zl] <;> omega) | (simp only [zn])) only [↓zd, zk, Nat.reduceSub, Nat.reduceAdd, Nat.reduceMul, Nat.reduceLeDiff, Nat.reduceEqDiff, reduceIte, Int.reduceEq, Int.reduceBEq, Int.reduceLE, Int.reduceLT, Int.reduceNeg, Int.reduceAdd, Int.reduceSub, Int.reduceMul, List.map, AV.cells, List.all, AV.one, eqV, eqAll, splice, fillA, List.replicate, resAll, resA, evA, sliceA, Option.getD_none, Option.getD_some, hsq, clearA, stC_agg, hz1, hz2, hL, List.set_set, Nat.sub_zero]
      have hk' : ∀ c, Keep M (m.set q c) := fun c => hk.set hqM c
      rw [hcnt]
      refine ⟨hk' _, ⟨by rw [iC_len]; omega, .inr ⟨q, 0, none, rfl, fun _ => ⟨false, _, hsq _, ?_, ?_, fun _ => rfl⟩⟩⟩, .inr ⟨q, 0, _, none, rfl, hqM⟩, .inr ⟨q, 0, _, _, rfl, hsq _⟩⟩
      · rw [List.drop_zero, Nat.mul_one, ← hcnt, List.append_assoc, List.take_append_of_le_length (by rw [List.length_take]; omega), List.take_take, Nat.min_self, hLt]
      · simp only [List.length_append, List.length_take, List.length_drop, hz1]; omega
  · simp (disch := first | assumption | omega | (simp only [zl] <;> omega) | (simp only [zn])) only [slices_DeleteFunc_int, ↓zd, zk, Nat.reduceSub, Nat.reduceAdd, Nat.reduceMul, Nat.reduceLeDiff, Nat.reduceEqDiff, reduceIte, Int.reduceEq, Int.reduceBEq, Int.reduceLE, Int.reduceLT, Int.reduceNeg, Int.reduceAdd, Int.reduceSub, Int.reduceMul, List.map, AV.cells, List.all, AV.one, eqV, eqAll, splice, fillA, List.replicate, resAll, resA, a97, hrun]
    rw [pos_all hr1]
    exact ⟨hk, ⟨by rw [iC_len]; omega, .inr ⟨q, 0, none, rfl, fun _ => ⟨false, iC xs, hq, by rw [List.drop_zero, Nat.mul_one, ← iC_len, List.take_length], by rw [iC_len]; omega, fun _ => rfl⟩⟩⟩, .inr ⟨q, 0, _, none, rfl, hqM⟩, .inr ⟨q, 0, _, _, rfl, hq⟩⟩
theorem delete_nil {m : MM} {v : AV} (hv : lenA v = some 0) : Fn Gdf slices_DeleteFunc_int [v, .fn 213 [] []] m (fun r m' => r = v ∧ m' = m) := by
  have a97 : assoc Gdf 97 = some (amFunc Gif slices_IndexFunc_int) := rfl
  have hi : amFunc Gif slices_IndexFunc_int [v, .fn 213 [] []] m = some (.int .i64 (-1), m) := by
    generalize Gif = G
    refine Fn_eq (Fn_of rfl ?_)
    simp (disch := first | assumption | omega | (simp only [zl] <;> omega) | (simp only [zn])) only [slices_IndexFunc_int, ↓zd, zk, Nat.reduceSub, Nat.reduceAdd, Nat.reduceMul, Nat.reduceLeDiff, Nat.reduceEqDiff, reduceIte, Int.reduceEq, Int.reduceBEq, Int.reduceLE, Int.reduceLT, Int.reduceNeg, Int.reduceAdd, Int.reduceSub, Int.reduceMul, List.map, AV.cells, List.all, AV.one, eqV, eqAll, splice, fillA, List.replicate, resAll, resA, ev_len, hv, Int.ofNat_zero]
    refine W_loop (fun k e m' => ∃ x3 x6 x7 : AV, e = [v, .fn 213 [] [], .int .i64 0, x3, .int .i64 0, .int .i64 0, x6, x7] ∧ m' = m) 0 (by simp [FUEL]) ⟨_, _, _, rfl, rfl⟩ ?_
    rintro k e m' ⟨x3, x6, x7, rfl, rfl⟩
    simp (disch := first | assumption | omega | (simp only [zl] <;> omega) | (simp only [zn])) only [↓zd, zk, Nat.reduceSub, Nat.reduceAdd, Nat.reduceMul, Nat.reduceLeDiff, Nat.reduceEqDiff, reduceIte, Int.reduceEq, Int.reduceBEq, Int.reduceLE, Int.reduceLT, Int.reduceNeg, Int.reduceAdd, Int.reduceSub, Int.reduceMul, List.map, AV.cells, List.all, AV.one, eqV, eqAll, splice, fillA, List.replicate, resAll, resA]
  generalize Gdf = G at a97 ⊢
  refine Fn_of rfl ?_
  simp (disch := first | assumption | omega | (simp only [zl] <;> omega) | (simp only [zn])) only [slices_DeleteFunc_int, ↓zd, zk, Nat.reduceSub, Nat.reduceAdd, Nat.reduceMul, Nat.reduceLeDiff, Nat.reduceEqDiff, reduceIte, Int.reduceEq, Int.reduceBEq, Int.reduceLE, Int.reduceLT, Int.reduceNeg, Int.reduceAdd, Int.reduceSub, Int.reduceMul, List.map, AV.cells, List.all, AV.one, eqV, eqAll, splice, fillA, List.replicate, resAll, resA, a97, hi]
end Go.Am.F09
end
section
namespace Go.Am.F09
open Go.Am.F06 Go.Am.F10
structure LS where
  a : Int
  w : Int
  k : Int
  n : Int
  ls : List Int
def layC (c : Cf) (p : Int) (s : LS) (lv : AV) : List AV := rgC c p s.a s.w s.k [.int .u32 s.n, lv]
def roomN (c : Cf) (w : Int) (len : Nat) : Int := if c.q ≤ sz w then 0 else if (len : Int) < c.q - sz w then len else c.q - sz w
def stepL (c : Cf) (p : Int) (xs : List Int) (s : LS) : LS × List Int :=
  if s.a = 0 then (s, xs)
  else if s.ls.length = 0 then ({ s with a := 0 }, xs)
  else if s.a = 1 then ({ s with w := xs.getD (wrdN c p) 0, k := 0, n := roomN c (xs.getD (wrdN c p) 0) s.ls.length, a := if roomN c (xs.getD (wrdN c p) 0) s.ls.length = 0 then 0 else 2 }, xs)
  else if s.a = 2 then ({ s with k := s.k + 1, a := if s.k + 1 = s.n then 3 else 2 }, xs.set (pslA c p s.w s.k).toNat (IntKind.u64.wrap (s.ls.getD s.k.toNat 0)))
  else if xs.getD (wrdN c p) 0 = s.w then ({ s with a := 0, ls := s.ls.drop s.n.toNat }, xs.set (wrdN c p) (growW s.w s.n)) else ({ s with a := 1 }, xs)
def opsL (s : LS) (o : Int) : Int := if s.a = 0 then o else if s.ls.length = 0 then o else IntKind.u64.wrap (o + 1)
structure LOk (c : Cf) (p : Int) (s : LS) : Prop where
  w : W64 s.w
  a : s.a = 0 ∨ (thereP c p ∧ (s.a = 1 ∨ (s.a = 2 ∧ 0 ≤ s.k ∧ s.k < s.n ∧ s.n ≤ s.ls.length) ∨ (s.a = 3 ∧ 0 ≤ s.n ∧ s.n ≤ s.ls.length)))
  l : s.ls.length ≤ 100
theorem room_b {c : Cf} {w : Int} {len : Nat} : 0 ≤ roomN c w len ∧ roomN c w len ≤ len := by
  have : 0 ≤ sz w := by unfold sz; omega
  unfold roomN; split
  · omega
  · split <;> omega
structure LM (m : MM) (xj : Nat) (c : Cf) (p : Int) (s : LS) (lv : AV) : Prop where
  get : m[xj]? = some (.cells 12 false (layC c p s lv))
  l : SI m false s.ls lv
  nx : 0 < s.ls.length → Nx m lv
theorem ldone_eq {X : Type} {m : Mem X} {xj : Nat} {c : Cf} {p : Int} {s : LS} {lv : AV} (hx : m[xj]? = some (.cells 12 false (layC c p s lv))) : c_put_Lay_Done [.ptr xj 0] m = some (.bool (decide (s.a = 0)), m) := by
  simp only [layC, rgC, cfC, List.cons_append, List.nil_append] at hx
  exact Fn_eq (Fn_of rfl (by simp (disch := first | assumption | omega | (simp only [zl] <;> omega) | (simp only [zn])) only [put_Lay_Done, ↓zd, zk, Nat.reduceSub, Nat.reduceAdd, Nat.reduceMul, Nat.reduceLeDiff, Nat.reduceEqDiff, reduceIte, Int.reduceEq, Int.reduceBEq, Int.reduceLE, Int.reduceLT, Int.reduceNeg, Int.reduceAdd, Int.reduceSub, Int.reduceMul, List.map, AV.cells, List.all, AV.one, eqV, eqAll, splice, fillA, List.replicate, resAll, resA, zm, zg, hx]))
def Glk : List (Nat × AFun Ob) := [(219, amFunc Grl put_ring_load)]
def LkP (m : MM) (xj j : Nat) (c : Cf) (p : Int) (x : LS × List Int) (lv : AV) (o : Int) (r : AV) (m' : MM) : Prop := r = .tup [] ∧ KeepX xj j m m' ∧ m'[xj]? = some (.cells 12 false (layC c p x.1 lv)) ∧ ∃ st', m'[j]? = some (.abs (.mem st')) ∧ RelM x.2 o st'
set_option maxHeartbeats 8000000 in
theorem llook_run {m : MM} {c : Cf} {p o : Int} {s : LS} {xj j : Nat} {lv : AV} {xs : List Int} {st : MemSt} (hx : LM m xj c p s lv) (hj : m[j]? = some (.abs (.mem st))) (hr : RelM xs o st) (hO : OkL c xs) (hk : LOk c p s) (ha : s.a = 1) (hl : 0 < s.ls.length) :
    Fn Glk put_Lay_look [.ptr xj 0, .ptr j 0] m (LkP m xj j c p (stepL c p xs s) lv (IntKind.u64.wrap (o + 1))) := by
  have a219 : assoc Glk 219 = some (amFunc Grl put_ring_load) := rfl
  generalize Glk = G at a219 ⊢
  obtain ⟨a, w, k, n, ls⟩ := s
  simp only at ha hl
  subst ha
  obtain ⟨hx, hls, hnx⟩ := hx
  simp only at hls
  have hij : xj ≠ j := fun h => by rw [h, hj] at hx; cases hx
  have hp : thereP c p := hk.a.elim (fun h => by simp at h) (·.1)
  have hb := there_bounds hp
  have hlk := hk.l
  simp only at hlk
  have hlen := hls.len
  have hone := slOne hls
  simp only [AV.one] at hone
  have e0 : IntKind.u32.wrap c.q = c.q := by rw [wrap32]; omega
  have hs1 : stepL c p xs ⟨1, w, k, n, ls⟩ = (⟨if roomN c (xs.getD (wrdN c p) 0) ls.length = 0 then 0 else 2, xs.getD (wrdN c p) 0, 0, roomN c (xs.getD (wrdN c p) 0) ls.length, ls⟩, xs) := by
    simp only [stepL, if_neg (show ¬ ((1 : Int) = 0) by decide), if_neg (show ¬ (ls.length = 0) by omega), if_true]
  rw [hs1]
  have hrun := rload_run hx hj hr hO hp
  refine Fn_of rfl ?_
  simp only [layC, rgC, cfC, List.cons_append, List.nil_append] at hx
  simp (disch := first | assumption | omega | (simp only [zl] <;> omega) | (simp only [zn])) only [put_Lay_look, ↓zd, zk, Nat.reduceSub, Nat.reduceAdd, Nat.reduceMul, Nat.reduceLeDiff, Nat.reduceEqDiff, reduceIte, Int.reduceEq, Int.reduceBEq, Int.reduceLE, Int.reduceLT, Int.reduceNeg, Int.reduceAdd, Int.reduceSub, Int.reduceMul, List.map, AV.cells, List.all, AV.one, eqV, eqAll, splice, fillA, List.replicate, resAll, resA, zm, zg, hx, a219]
  refine OK_fn hrun ?_
  rintro _ m1 ⟨rfl, k1, x1, st', j1, r1⟩
  have lx1 : xj < m1.length := (List.getElem?_eq_some_iff.1 x1).1
  generalize xs.getD (wrdN c p) 0 = w' at x1
  have hz0 : 0 ≤ sz w' ∧ sz w' < 4294967296 := by unfold sz; omega
  have hrb := room_b (c := c) (w := w') (len := ls.length)
  have hput : ∀ C, KeepX xj j m (m1.set xj C) := fun C => k1.setL C
  simp only [rgC, cfC, List.cons_append, List.nil_append] at x1
  have fin : ∀ a n : Int, LkP m xj j c p (⟨a, w', 0, n, ls⟩, xs) lv (IntKind.u64.wrap (o + 1)) (.tup []) (m1.set xj (.cells 12 false (layC c p ⟨a, w', 0, n, ls⟩ lv))) := fun a n =>
    ⟨rfl, hput _, List.getElem?_set_self lx1, st', by rw [List.getElem?_set_ne hij]; exact j1, r1⟩
  have e4 : IntKind.u32.wrap (ls.length : Int) = ls.length := by rw [wrap32]; omega
  have e5 : c.q - sz w' ≤ 64 → 0 < c.q - sz w' → IntKind.u32.wrap (c.q - sz w') = c.q - sz w' := fun h1 h2 => by rw [wrap32]; omega
  simp only [layC, rgC, cfC, List.cons_append, List.nil_append] at fin
  have hw00 : IntKind.u32.wrap 0 = 0 := by decide
  rcases (show c.q < sz w' ∨ c.q = sz w' ∨ (sz w' < c.q ∧ (ls.length : Int) ≤ c.q - sz w') ∨ (sz w' < c.q ∧ c.q - sz w' < (ls.length : Int)) by omega) with h | h | ⟨h, h'⟩ | ⟨h, h'⟩
  · have hroom : roomN c w' ls.length = 0 := if_pos (by omega)
    rw [hroom, if_pos rfl]
    clear hroom hrb
    simp (disch := first | assumption | omega | (simp only [zl] <;> omega) | (simp only [zn])) only [↓zd, zk, Nat.reduceSub, Nat.reduceAdd, Nat.reduceMul, Nat.reduceLeDiff, Nat.reduceEqDiff, reduceIte, Int.reduceEq, Int.reduceBEq, Int.reduceLE, Int.reduceLT, Int.reduceNeg, Int.reduceAdd, Int.reduceSub, Int.reduceMul, List.map, AV.cells, List.all, AV.one, eqV, eqAll, splice, fillA, List.replicate, resAll, resA, zm, zg, x1, ev_len, hlen, e0, h, Int.sub_self, hw00, List.set_set]
    exact fin _ _
  · have hroom : roomN c w' ls.length = 0 := if_pos (by omega)
    rw [hroom, if_pos rfl]
    clear hroom hrb
    have hh : sz w' = c.q := h.symm
    simp (disch := first | assumption | omega | (simp only [zl] <;> omega) | (simp only [zn])) only [↓zd, zk, Nat.reduceSub, Nat.reduceAdd, Nat.reduceMul, Nat.reduceLeDiff, Nat.reduceEqDiff, reduceIte, Int.reduceEq, Int.reduceBEq, Int.reduceLE, Int.reduceLT, Int.reduceNeg, Int.reduceAdd, Int.reduceSub, Int.reduceMul, List.map, AV.cells, List.all, AV.one, eqV, eqAll, splice, fillA, List.replicate, resAll, resA, zm, zg, x1, ev_len, hlen, e0, hh, Int.sub_self, hw00, List.set_set]
    exact fin _ _
  · have hroom : roomN c w' ls.length = ls.length := by unfold roomN; rw [if_neg (by omega)]; split <;> omega
    rw [hroom, if_neg (by omega)]
    clear hroom hrb
    simp (disch := first | assumption | omega | (simp only [zl] <;> omega) | (simp only [zn])) only [↓zd, zk, Nat.reduceSub, Nat.reduceAdd, Nat.reduceMul, Nat.reduceLeDiff, Nat.reduceEqDiff, reduceIte, Int.reduceEq, Int.reduceBEq, Int.reduceLE, Int.reduceLT, Int.reduceNeg, Int.reduceAdd, Int.reduceSub, Int.reduceMul, List.map, AV.cells, List.all, AV.one, eqV, eqAll, splice, fillA, List.replicate, resAll, resA, zm, zg, x1, ev_len, hlen, e0, e4, h, h', List.set_set]
    exact fin _ _
  · have hroom : roomN c w' ls.length = c.q - sz w' := by unfold roomN; rw [if_neg (by omega), if_neg (by omega)]
    rw [hroom, if_neg (by omega)]
    clear hroom hrb
    simp (disch := first | assumption | omega | (simp only [zl] <;> omega) | (simp only [zn])) only [↓zd, zk, Nat.reduceSub, Nat.reduceAdd, Nat.reduceMul, Nat.reduceLeDiff, Nat.reduceEqDiff, reduceIte, Int.reduceEq, Int.reduceBEq, Int.reduceLE, Int.reduceLT, Int.reduceNeg, Int.reduceAdd, Int.reduceSub, Int.reduceMul, List.map, AV.cells, List.all, AV.one, eqV, eqAll, splice, fillA, List.replicate, resAll, resA, zm, zg, x1, ev_len, hlen, e0, e5, h, h', List.set_set]
    exact fin _ _
end Go.Am.F09
end
section
namespace Go.Am.F09
open Go.Am.F06 Go.Am.F10
def Glst : List (Nat × AFun Ob) := [(196, c_put_Lay_Done), (209, amFunc Glk put_Lay_look), (210, c_put_ring_slot), (22, memF storeS), (211, c_word_Grow), (212, amFunc Gch put_ring_change)]
def LsP (m : MM) (c : Cf) (p : Int) (xj j : Nat) (x : LS × List Int) (o : Int) (r : AV) (m' : MM) : Prop := r = .bool (decide (x.1.a = 0)) ∧ KeepX xj j m m' ∧ (∃ lv', LM m' xj c p x.1 lv') ∧ ∃ st', m'[j]? = some (.abs (.mem st')) ∧ RelM x.2 o st'
def SubV (v v' : AV) : Prop := ∀ Q : Nat → Prop, (∀ q o n cap, v = .sl q o n cap → 0 < n → Q q) → ∀ q o n cap, v' = .sl q o n cap → 0 < n → Q q
theorem SubV.refl (v : AV) : SubV v v := fun _ h => h
theorem SubV.drop (q o n k : Nat) : SubV (.sl q o n none) (.sl q (o + k) (n - k) none) := fun Q h q' o' n' cap hv h0 => by
  injection hv with e1 e2 e3 e4; subst e1
  exact h q o n none rfl (by omega)
def LsQ (m : MM) (lv : AV) (c : Cf) (p : Int) (xj j : Nat) (x : LS × List Int) (o : Int) (r : AV) (m' : MM) : Prop := r = .bool (decide (x.1.a = 0)) ∧ KeepX xj j m m' ∧ (∃ lv', LM m' xj c p x.1 lv' ∧ SubV lv lv') ∧ ∃ st', m'[j]? = some (.abs (.mem st')) ∧ RelM x.2 o st'
theorem LM.mv {m m' : MM} {xj j : Nat} {c : Cf} {p : Int} {s : LS} {lv : AV} (hl : SI m false s.ls lv) (hn : 0 < s.ls.length → Nx m lv) (hnx : ∀ ro L, m[xj]? ≠ some (.cells 1 ro L)) (hnj : ∀ ro L, m[j]? ≠ some (.cells 1 ro L)) (k : KeepX xj j m m') : SI m' false s.ls lv ∧ (0 < s.ls.length → Nx m' lv) := by
  refine ⟨k.sl (szj := 0) (szk := 0) hnx hnj hl, fun h0 => ?_⟩
  rcases hn h0 with h | ⟨q, o, n, l, h1, h2⟩
  · exact .inl h
  · exact .inr ⟨q, o, n, l, h1, k.get h2 (fun h => hnx false l (by rw [← h]; exact h2)) (fun h => hnj false l (by rw [← h]; exact h2))⟩
set_option maxHeartbeats 16000000 in
theorem lstep_runQ {m : MM} {c : Cf} {p o : Int} {s : LS} {xj j : Nat} {lv : AV} {xs : List Int} {st : MemSt} (hx : LM m xj c p s lv) (hj : m[j]? = some (.abs (.mem st))) (hr : RelM xs o st) (hO : s.a = 0 ∨ OkL c xs) (hk : LOk c p s) :
    Fn Glst put_Lay_Step [.ptr xj 0, .ptr j 0] m (LsQ m lv c p xj j (stepL c p xs s) (opsL s o)) := by
  have a196 : assoc Glst 196 = some c_put_Lay_Done := rfl
  have a209 : assoc Glst 209 = some (amFunc Glk put_Lay_look) := rfl
  have a210 : assoc Glst 210 = some c_put_ring_slot := rfl
  have a22 : assoc Glst 22 = some (memF storeS) := rfl
  have a211 : assoc Glst 211 = some c_word_Grow := rfl
  have a212 : assoc Glst 212 = some (amFunc Gch put_ring_change) := rfl
  generalize Glst = G at a196 a209 a210 a22 a211 a212 ⊢
  have hd := ldone_eq hx.get
  have hx0 := hx
  obtain ⟨hg, hls, hnx⟩ := hx
  have hij : xj ≠ j := fun h => by rw [h, hj] at hg; cases hg
  have lx : xj < m.length := (List.getElem?_eq_some_iff.1 hg).1
  have lj : j < m.length := (List.getElem?_eq_some_iff.1 hj).1
  have nx : ∀ ro L, m[xj]? ≠ some (.cells 1 ro L) := fun ro L h => by rw [hg] at h; cases h
  have nj : ∀ ro L, m[j]? ≠ some (.cells 1 ro L) := fun ro L h => by rw [hj] at h; cases h
  have hlen := hls.len
  refine Fn_of rfl ?_
  by_cases h0 : s.a = 0
  · have e1 : stepL c p xs s = (s, xs) := if_pos h0
    have e2 : opsL s o = o := if_pos h0
    rw [decide_eq_true h0] at hd
    rw [e1, e2]
    simp (disch := first | assumption | omega | (simp only [zl] <;> omega) | (simp only [zn])) only [put_Lay_Step, ↓zd, zk, Nat.reduceSub, Nat.reduceAdd, Nat.reduceMul, Nat.reduceLeDiff, Nat.reduceEqDiff, reduceIte, Int.reduceEq, Int.reduceBEq, Int.reduceLE, Int.reduceLT, Int.reduceNeg, Int.reduceAdd, Int.reduceSub, Int.reduceMul, List.map, AV.cells, List.all, AV.one, eqV, eqAll, splice, fillA, List.replicate, resAll, resA, zm, zg, a196, hd]
    exact ⟨by rw [decide_eq_true h0], .refl _, ⟨lv, ⟨hg, hls, hnx⟩, .refl _⟩, st, hj, hr⟩
  rw [decide_eq_false h0] at hd
  have hO' := hO.resolve_left h0
  obtain ⟨a, w, k, n, ls⟩ := s
  simp only at h0 hls hnx hlen
  have hw := hk.w
  have hll := hk.l
  have hka := hk.a
  simp only at hw hll hka
  have hp : thereP c p := hka.elim (fun h => absurd h h0) (·.1)
  have hb := there_bounds hp
  by_cases hz : ls.length = 0
  · have e1 : stepL c p xs ⟨a, w, k, n, ls⟩ = (⟨0, w, k, n, ls⟩, xs) := by simp only [stepL, if_neg h0, if_pos hz]
    have e2 : opsL ⟨a, w, k, n, ls⟩ o = o := by simp only [opsL, if_neg h0, if_pos hz]
    rw [e1, e2]
    simp only [layC, rgC, cfC, List.cons_append, List.nil_append] at hg
    rw [hz] at hlen
    simp (disch := first | assumption | omega | (simp only [zl] <;> omega) | (simp only [zn])) only [put_Lay_Step, ↓zd, zk, Nat.reduceSub, Nat.reduceAdd, Nat.reduceMul, Nat.reduceLeDiff, Nat.reduceEqDiff, reduceIte, Int.reduceEq, Int.reduceBEq, Int.reduceLE, Int.reduceLT, Int.reduceNeg, Int.reduceAdd, Int.reduceSub, Int.reduceMul, List.map, AV.cells, List.all, AV.one, eqV, eqAll, splice, fillA, List.replicate, resAll, resA, zm, zg, a196, hd, hg, ev_len, hlen, Int.ofNat_zero]
    have hk1 : KeepX xj j m (m.set xj (.cells 12 false (layC c p ⟨0, w, k, n, ls⟩ lv))) := (KeepX.refl m).setL _
    obtain ⟨e3, e4⟩ := LM.mv (s := ⟨0, w, k, n, ls⟩) (c := c) (p := p) hls hnx nx nj hk1
    exact ⟨rfl, hk1, ⟨lv, ⟨List.getElem?_set_self lx, e3, e4⟩, .refl _⟩, st, by rw [List.getElem?_set_ne hij]; exact hj, hr⟩
  have e2 : opsL ⟨a, w, k, n, ls⟩ o = IntKind.u64.wrap (o + 1) := by simp only [opsL, if_neg h0, if_neg hz]
  rw [e2]
  have hlz : ¬ ((ls.length : Int) = 0) := by omega
  rcases (show a = 1 ∨ (a = 2 ∧ 0 ≤ k ∧ k < n ∧ n ≤ ls.length) ∨ (a = 3 ∧ 0 ≤ n ∧ n ≤ ls.length) by rcases hka with h | ⟨_, h⟩; exact absurd h h0; exact h) with rfl | ⟨rfl, hk0, hkn, hnl⟩ | ⟨rfl, hn0, hnl⟩
  · have hrun := llook_run hx0 hj hr hO' hk rfl (by simp only; omega)
    simp only [layC, rgC, cfC, List.cons_append, List.nil_append] at hg
    simp (disch := first | assumption | omega | (simp only [zl] <;> omega) | (simp only [zn])) only [put_Lay_Step, ↓zd, zk, Nat.reduceSub, Nat.reduceAdd, Nat.reduceMul, Nat.reduceLeDiff, Nat.reduceEqDiff, reduceIte, Int.reduceEq, Int.reduceBEq, Int.reduceLE, Int.reduceLT, Int.reduceNeg, Int.reduceAdd, Int.reduceSub, Int.reduceMul, List.map, AV.cells, List.all, AV.one, eqV, eqAll, splice, fillA, List.replicate, resAll, resA, zm, zg, a196, hd, hg, ev_len, hlen, hlz, a209]
    refine OK_fn hrun ?_
    rintro _ m1 ⟨rfl, k1, x1, st', j1, r1⟩
    have hsl : (stepL c p xs ⟨1, w, k, n, ls⟩).1.ls = ls := by simp only [stepL, if_neg (show ¬ ((1 : Int) = 0) by decide), if_neg hz, if_true]
    obtain ⟨e3, e4⟩ := LM.mv (s := ⟨1, w, k, n, ls⟩) (c := c) (p := p) hls hnx nx nj k1
    have hlm : LM m1 xj c p (stepL c p xs ⟨1, w, k, n, ls⟩).1 lv := ⟨x1, by rw [hsl]; exact e3, by rw [hsl]; exact e4⟩
    generalize stepL c p xs ⟨1, w, k, n, ls⟩ = sx at x1 r1 hlm ⊢
    simp only [layC, rgC, cfC, List.cons_append, List.nil_append] at x1
    simp (disch := first | assumption | omega | (simp only [zl] <;> omega) | (simp only [zn])) only [↓zd, zk, Nat.reduceSub, Nat.reduceAdd, Nat.reduceMul, Nat.reduceLeDiff, Nat.reduceEqDiff, reduceIte, Int.reduceEq, Int.reduceBEq, Int.reduceLE, Int.reduceLT, Int.reduceNeg, Int.reduceAdd, Int.reduceSub, Int.reduceMul, List.map, AV.cells, List.all, AV.one, eqV, eqAll, splice, fillA, List.replicate, resAll, resA, zm, zg, x1]
    exact ⟨rfl, k1, ⟨lv, hlm, .refl _⟩, st', j1, r1⟩
  · obtain ⟨kN, rfl⟩ : ∃ kN : Nat, k = kN := ⟨k.toNat, by omega⟩
    obtain ⟨x, hxk⟩ : ∃ x, ls[kN]? = some x := ⟨_, List.getElem?_eq_getElem (by omega)⟩
    obtain ⟨q, oo, cap, ro, L, rfl, b2, b3, b4, b5⟩ := hls.val (by omega)
    have b6 := b5 kN x hxk
    have hcn := cellsN_le c
    have hxl := hO'.1
    have hsb := psl_b (c := c) (p := p) (w := w) (i := kN) hp
    have hthr : thr xs (pslA c p w kN) := ⟨by omega, by omega⟩
    obtain ⟨st', r', _, f22, _⟩ := hr.storeE hthr (IntKind.u64.wrap x)
    have f22' := fun K => f22 m K j hj
    have hsl := slot_eq (i := kN) hg hp.1
    have hg' := fun K : MM => (Keep.app m K).get hg
    have b2' := fun K : MM => (Keep.app m K).get b2
    have e1 : stepL c p xs ⟨2, w, kN, n, ls⟩ = (⟨if (kN : Int) + 1 = n then 3 else 2, w, kN + 1, n, ls⟩, xs.set (pslA c p w kN).toNat (IntKind.u64.wrap x)) := by
      have : ls.getD kN 0 = x := by rw [List.getD_eq_getElem?_getD, hxk]; rfl
      simp only [stepL, if_neg (show ¬ ((2 : Int) = 0) by decide), if_neg (show ¬ ((2 : Int) = 1) by decide), if_neg hz, if_true, Int.toNat_natCast, this]
    rw [e1]
    have e3 : IntKind.u32.wrap ((kN : Int) + 1) = kN + 1 := by rw [wrap32]; omega
    simp only [layC, rgC, cfC, List.cons_append, List.nil_append] at hg hsl hg'
    have fin : ∀ a (K : MM), LsQ m (.sl q oo ls.length cap) c p xj j (⟨a, w, kN + 1, n, ls⟩, xs.set (pslA c p w kN).toNat (IntKind.u64.wrap x)) (IntKind.u64.wrap (o + 1)) (.bool (decide (a = 0))) ((m.set j (.abs (.mem st'))).set xj (.cells 12 false (layC c p ⟨a, w, kN + 1, n, ls⟩ (.sl q oo ls.length cap))) ++ K) := fun a K => by
      have hk1 : KeepX xj j m ((m.set j (.abs (.mem st'))).set xj (.cells 12 false (layC c p ⟨a, w, kN + 1, n, ls⟩ (.sl q oo ls.length cap))) ++ K) := (((KeepX.refl m).setR _).setL _).app K
      obtain ⟨e3, e4⟩ := LM.mv (s := ⟨a, w, kN + 1, n, ls⟩) (c := c) (p := p) hls hnx nx nj hk1
      exact ⟨rfl, hk1, ⟨_, ⟨by rw [List.getElem?_append_left (by simpa using lx), List.getElem?_set_self (by simpa using lx)], e3, e4⟩, .refl _⟩, st', by rw [List.getElem?_append_left (by simpa using lj), List.getElem?_set_ne hij, List.getElem?_set_self lj], r'⟩
    simp only [layC, rgC, cfC, List.cons_append, List.nil_append] at fin
    by_cases hq : (kN : Int) + 1 = n
    · rw [if_pos hq]
      have hkn' : decide ((kN : Int) + 1 = n) = true := decide_eq_true hq
      simp (disch := first | assumption | omega | (simp only [zl] <;> omega) | (simp only [zn])) only [put_Lay_Step, ↓zd, zk, Nat.reduceSub, Nat.reduceAdd, Nat.reduceMul, Nat.reduceLeDiff, Nat.reduceEqDiff, reduceIte, Int.reduceEq, Int.reduceBEq, Int.reduceLE, Int.reduceLT, Int.reduceNeg, Int.reduceAdd, Int.reduceSub, Int.reduceMul, List.map, AV.cells, List.all, AV.one, eqV, eqAll, splice, fillA, List.replicate, resAll, resA, zm, zg, a196, hd, hg, hg', ev_len, hlen, hlz, a210, hsl, b2, b2', b6, a22, f22', e3, hkn', List.set_set]
      exact fin 3 _
    · rw [if_neg hq]
      have hkn' : decide ((kN : Int) + 1 = n) = false := decide_eq_false hq
      simp (disch := first | assumption | omega | (simp only [zl] <;> omega) | (simp only [zn])) only [put_Lay_Step, ↓zd, zk, Nat.reduceSub, Nat.reduceAdd, Nat.reduceMul, Nat.reduceLeDiff, Nat.reduceEqDiff, reduceIte, Int.reduceEq, Int.reduceBEq, Int.reduceLE, Int.reduceLT, Int.reduceNeg, Int.reduceAdd, Int.reduceSub, Int.reduceMul, List.map, AV.cells, List.all, AV.one, eqV, eqAll, splice, fillA, List.replicate, resAll, resA, zm, zg, a196, hd, hg, hg', ev_len, hlen, hlz, a210, hsl, b2, b2', b6, a22, f22', e3, hkn', List.set_set]
      exact fin 2 _
  · have hgw := fun m : MM => grow_eq m (n := n) hw
    have hrun := change_run (next := growW w n) hg hj hr hO' hp
    have hng := hg
    have e1 : stepL c p xs ⟨3, w, k, n, ls⟩ = (if xs.getD (wrdN c p) 0 = w then (⟨0, w, k, n, ls.drop n.toNat⟩, xs.set (wrdN c p) (growW w n)) else (⟨1, w, k, n, ls⟩, xs)) := by
      simp only [stepL, if_neg (show ¬ ((3 : Int) = 0) by decide), if_neg (show ¬ ((3 : Int) = 1) by decide), if_neg (show ¬ ((3 : Int) = 2) by decide), if_neg hz]
    rw [e1]
    simp only [layC, rgC, cfC, List.cons_append, List.nil_append] at hg
    simp (disch := first | assumption | omega | (simp only [zl] <;> omega) | (simp only [zn])) only [put_Lay_Step, ↓zd, zk, Nat.reduceSub, Nat.reduceAdd, Nat.reduceMul, Nat.reduceLeDiff, Nat.reduceEqDiff, reduceIte, Int.reduceEq, Int.reduceBEq, Int.reduceLE, Int.reduceLT, Int.reduceNeg, Int.reduceAdd, Int.reduceSub, Int.reduceMul, List.map, AV.cells, List.all, AV.one, eqV, eqAll, splice, fillA, List.replicate, resAll, resA, zm, zg, a196, hd, hg, ev_len, hlen, hlz, a211, hgw, a212]
    refine OK_fn hrun ?_
    rintro _ m1 ⟨rfl, k1, x1, st', j1, r1⟩
    have lx1 : xj < m1.length := (List.getElem?_eq_some_iff.1 x1).1
    obtain ⟨e3, e4⟩ := LM.mv (s := ⟨3, w, k, n, ls⟩) (c := c) (p := p) hls hnx nx nj k1
    have nx1 : ∀ ro L, m1[xj]? ≠ some (.cells 1 ro L) := fun ro L h => by rw [x1] at h; cases h
    by_cases heq : xs.getD (wrdN c p) 0 = w
    · rw [if_pos heq] at x1 r1 ⊢
      have hdd : decide (xs.getD (wrdN c p) 0 = w) = true := decide_eq_true heq
      obtain ⟨nN, rfl⟩ : ∃ nN : Nat, n = nN := ⟨n.toNat, by omega⟩
      have hdr := fun (C : Chunk Ob) => si_drop (xs := ls) (k := nN) (e3.put nx1 C) ((e4 (by simp only; omega)).put nx1 C) (by omega)
      have hdr1 := (si_drop (xs := ls) (k := nN) e3 (e4 (by simp only; omega)) (by omega)).1
      have hnl2 : ∃ q oo nn L, lv = .sl q oo nn none ∧ m1[q]? = some (.cells 1 false L) := by
        rcases e4 (by simp only; omega) with h | ⟨q, oo, nn, L, h1, h2⟩
        · rw [h] at hlen; simp only [lenA, Option.some.injEq] at hlen; omega
        · exact ⟨q, oo, nn, L, h1, h2⟩
      obtain ⟨q, oo, nn, L, rfl, hq1⟩ := hnl2
      have hdv : dropA (.sl q oo nn none) nN = .sl q (oo + nN) (nn - nN) none := rfl
      rw [hdv] at hdr1
      simp only [hdv] at hdr
      simp only [rgC, cfC, List.cons_append, List.nil_append] at x1
      have hqx : q ≠ xj := fun h => by rw [h, x1] at hq1; cases hq1
      simp (disch := first | assumption | omega | (simp only [zl] <;> omega) | (simp only [zn])) only [↓zd, zk, Nat.reduceSub, Nat.reduceAdd, Nat.reduceMul, Nat.reduceLeDiff, Nat.reduceEqDiff, reduceIte, Int.reduceEq, Int.reduceBEq, Int.reduceLE, Int.reduceLT, Int.reduceNeg, Int.reduceAdd, Int.reduceSub, Int.reduceMul, List.map, AV.cells, List.all, AV.one, eqV, eqAll, splice, fillA, List.replicate, resAll, resA, zm, zg, hdd, x1, evA, hdr1, Int.toNat_natCast]
      refine ⟨rfl, k1.setL _, ⟨.sl q (oo + nN) (nn - nN) none, ⟨by rw [List.getElem?_set_self lx1]; rfl, ?_, fun _ => .inr ⟨q, _, _, L, rfl, by rw [List.getElem?_set_ne hqx.symm]; exact hq1⟩⟩, .drop _ _ _ _⟩, st', by rw [List.getElem?_set_ne hij]; exact j1, r1⟩
      exact (hdr _).2
    · rw [if_neg heq] at x1 r1 ⊢
      have hdd : decide (xs.getD (wrdN c p) 0 = w) = false := decide_eq_false heq
      simp only [rgC, cfC, List.cons_append, List.nil_append] at x1
      simp (disch := first | assumption | omega | (simp only [zl] <;> omega) | (simp only [zn])) only [↓zd, zk, Nat.reduceSub, Nat.reduceAdd, Nat.reduceMul, Nat.reduceLeDiff, Nat.reduceEqDiff, reduceIte, Int.reduceEq, Int.reduceBEq, Int.reduceLE, Int.reduceLT, Int.reduceNeg, Int.reduceAdd, Int.reduceSub, Int.reduceMul, List.map, AV.cells, List.all, AV.one, eqV, eqAll, splice, fillA, List.replicate, resAll, resA, zm, zg, hdd, x1]
      exact ⟨rfl, k1, ⟨lv, ⟨x1, e3, e4⟩, .refl _⟩, st', j1, r1⟩
end Go.Am.F09
end
section
namespace Go.Am.F09
open Go.Am.F06 Go.Am.F10
def Cl2 (m : MM) (xs : List Int) (r : AV) (m' : MM) : Prop := Keep m m' ∧ ((xs = [] ∧ lenA r = some 0 ∧ (r = .nils ∨ ∃ q o c, r = .sl q o 0 c ∧ m.length ≤ q)) ∨ ∃ q, r = .sl q 0 xs.length none ∧ m.length ≤ q ∧ m'[q]? = some (.cells 1 false (iC xs)))
theorem clone_run2 {m : MM} {wr : Bool} {xs : List Int} {v : AV} (h : SI m wr xs v) (hn : xs.length ≤ 100000) : Fn [] slices_Clone_int [v] m (Cl2 m xs) := by
  refine Fn_of rfl ?_
  rcases Nat.eq_zero_or_pos xs.length with h0 | h0
  · have hx0 : xs = [] := List.length_eq_zero_iff.1 h0
    subst hx0
    rcases h.2 with ⟨rfl, _⟩ | ⟨q, o, cap, rfl, _⟩
    · simp (disch := first | assumption | omega | (simp only [zl] <;> omega) | (simp only [zn])) only [slices_Clone_int, ↓zd, zk, Nat.reduceSub, Nat.reduceAdd, Nat.reduceMul, Nat.reduceLeDiff, Nat.reduceEqDiff, reduceIte, Int.reduceEq, Int.reduceBEq, Int.reduceLE, Int.reduceLT, Int.reduceNeg, Int.reduceAdd, Int.reduceSub, Int.reduceMul, List.map, AV.cells, List.all, AV.one, eqV, eqAll, splice, fillA, List.replicate, resAll, resA, zm, zg]
      exact ⟨.refl _, .inl ⟨rfl, rfl, .inl rfl⟩⟩
    · have happ : appendA 1 8 (.sl m.length 0 0 (some 0)) (.sl q o 0 cap) (m ++ [.cells 1 false []]) = some (.sl m.length 0 0 (some 0), m ++ [.cells 1 false []]) := rfl
      simp (disch := first | assumption | omega | (simp only [zl] <;> omega) | (simp only [zn])) only [slices_Clone_int, ↓zd, zk, Nat.reduceSub, Nat.reduceAdd, Nat.reduceMul, Nat.reduceLeDiff, Nat.reduceEqDiff, reduceIte, Int.reduceEq, Int.reduceBEq, Int.reduceLE, Int.reduceLT, Int.reduceNeg, Int.reduceAdd, Int.reduceSub, Int.reduceMul, List.map, AV.cells, List.all, AV.one, eqV, eqAll, splice, fillA, List.replicate, resAll, resA, zm, zg, evA, fillA, repeatL, List.flatten_nil, happ, List.length_nil]
      exact ⟨.app _ _, .inl ⟨rfl, rfl, .inr ⟨_, _, _, rfl, Nat.le_refl _⟩⟩⟩
  · obtain ⟨q, o, cap, ro, L, rfl, h2, h3, h4, h5⟩ := h.at h0
    have hq : q < m.length := (List.getElem?_eq_some_iff.1 h2).1
    have hrow : rowOf (m ++ [Chunk.cells 1 false []]) 1 (.sl q o xs.length cap) = some (iC xs) := by
      simp only [rowOf, Am.getC]
      rw [List.getElem?_append_left hq, h2]
      simp only
      rw [if_neg (by omega), if_pos h4, h3]
    have hz : rowOf (m ++ [Chunk.cells 1 false []]) 1 (.sl m.length 0 0 (some 0)) = some [] := rfl
    have happ : appendA 1 8 (.sl m.length 0 0 (some 0)) (.sl q o xs.length cap) (m ++ [.cells 1 false []]) = some (.sl (m.length + 1) 0 xs.length none, m ++ [.cells 1 false [], .cells 1 false (iC xs)]) := by
      simp only [appendA, lenA, hrow, hz]
      rw [if_neg (by omega), if_neg (by omega), if_pos ⟨by omega, by omega, iC_one _⟩]
      simp
    simp (disch := first | assumption | omega | (simp only [zl] <;> omega) | (simp only [zn])) only [slices_Clone_int, ↓zd, zk, Nat.reduceSub, Nat.reduceAdd, Nat.reduceMul, Nat.reduceLeDiff, Nat.reduceEqDiff, reduceIte, Int.reduceEq, Int.reduceBEq, Int.reduceLE, Int.reduceLT, Int.reduceNeg, Int.reduceAdd, Int.reduceSub, Int.reduceMul, List.map, AV.cells, List.all, AV.one, eqV, eqAll, splice, fillA, List.replicate, resAll, resA, zm, zg, evA, fillA, repeatL, List.flatten_nil, happ]
    exact ⟨.app _ _, .inr ⟨_, rfl, by omega, by rw [get_mid]; rfl⟩⟩
def newL (c : Cf) (p : Int) (xs : List Int) : LS := if thereP c p then ⟨1, 0, 0, 0, posL xs⟩ else ⟨0, 0, 0, 0, []⟩
theorem newL_ok (c : Cf) (p : Int) {xs : List Int} (h : xs.length ≤ 100) : LOk c p (newL c p xs) := by
  have := pos_len xs
  unfold newL; split
  · rename_i hp
    exact ⟨by unfold W64; simp, .inr ⟨hp, .inl rfl⟩, by simp only; omega⟩
  · exact ⟨by unfold W64; simp, .inl rfl, by simp⟩
def NlP (m : MM) (c : Cf) (p : Int) (xs : List Int) (r : AV) (m' : MM) : Prop := ∃ xj lv, r = .ptr xj 0 ∧ m.length ≤ xj ∧ Keep m m' ∧ LM m' xj c p (newL c p xs) lv ∧ Fr m.length lv
def Gnl : List (Nat × AFun Ob) := [(206, c_put_from), (208, c_slices_Clone_int), (95, amFunc Gdf slices_DeleteFunc_int)]
set_option maxHeartbeats 8000000 in
theorem newlay_run {m : MM} {wr : Bool} {c : Cf} {p : Int} {xs : List Int} {v : AV} (hv : SI m wr xs v) (hn : xs.length ≤ 1000) : Fn Gnl put_NewLay [.agg (cfC c), .int .i64 p, v] m (NlP m c p xs) := by
  have a206 : assoc Gnl 206 = some c_put_from := rfl
  have a208 : assoc Gnl 208 = some c_slices_Clone_int := rfl
  have a95 : assoc Gnl 95 = some (amFunc Gdf slices_DeleteFunc_int) := rfl
  have he : c_slices_Clone_int (X := Ob) = amFunc [] slices_Clone_int := rfl
  generalize Gnl = G at a206 a208 a95 ⊢
  have hfr := from_eq (m ++ [.cells 6 false (cfC c)]) c p
  by_cases h1 : thereP c p
  · have hnl : newL c p xs = ⟨1, 0, 0, 0, posL xs⟩ := if_pos h1
    unfold NlP
    rw [hnl]
    rw [fromA, if_pos h1] at hfr
    simp only [rgC, cfC, List.cons_append, List.nil_append, List.append_assoc] at hfr
    refine Fn_of rfl ?_
    simp (disch := first | assumption | omega | (simp only [zl] <;> omega) | (simp only [zn])) only [put_NewLay, ↓zd, zk, Nat.reduceSub, Nat.reduceAdd, Nat.reduceMul, Nat.reduceLeDiff, Nat.reduceEqDiff, reduceIte, Int.reduceEq, Int.reduceBEq, Int.reduceLE, Int.reduceLT, Int.reduceNeg, Int.reduceAdd, Int.reduceSub, Int.reduceMul, List.map, AV.cells, List.all, AV.one, eqV, eqAll, splice, fillA, List.replicate, resAll, resA, zm, zg, cfC, a206, hfr, List.set_set, List.drop_succ_cons, List.drop_zero, List.drop_nil, List.append_nil, a208, he]
    have hcl := fun K : MM => clone_run2 (hv.keep (Keep.app m K)) (by omega)
    refine OK_fn (hcl _) ?_
    rintro w m1 ⟨k1, hw⟩
    have km : Keep m m1 := (Keep.app m _).trans k1
    have g7 := k1.get (i := m.length + 7) (c := .cells 12 false (layC c p ⟨1, 0, 0, 0, []⟩ .nils)) (by rw [get_mid]; rfl)
    have l7 : m.length + 7 < m1.length := (List.getElem?_eq_some_iff.1 g7).1
    simp only [List.length_append, List.length_cons, List.length_nil] at hw
    rcases hw with ⟨rfl, hl0, hw⟩ | ⟨q, rfl, hq, hq1⟩
    · simp (disch := first | assumption | omega | (simp only [zl] <;> omega) | (simp only [zn])) only [↓zd, zk, Nat.reduceSub, Nat.reduceAdd, Nat.reduceMul, Nat.reduceLeDiff, Nat.reduceEqDiff, reduceIte, Int.reduceEq, Int.reduceBEq, Int.reduceLE, Int.reduceLT, Int.reduceNeg, Int.reduceAdd, Int.reduceSub, Int.reduceMul, List.map, AV.cells, List.all, AV.one, eqV, eqAll, splice, fillA, List.replicate, resAll, resA, zm, zg, a95]
      refine OK_fn (delete_nil hl0) ?_
      rintro w2 m2 ⟨hw2, rfl⟩
      rw [hw2]
      clear hw2
      have hx : ∃ q o cc, w = .nils ∨ (w = .sl q o 0 cc ∧ m.length ≤ q) := by
        rcases hw with h | ⟨q, o, cc, h, h'⟩
        · exact ⟨0, 0, none, .inl h⟩
        · exact ⟨q, o, cc, .inr ⟨h, by omega⟩⟩
      have hp0 : posL [] = [] := rfl
      rw [hp0]
      simp only [layC, rgC, cfC, List.cons_append, List.nil_append] at g7
      obtain ⟨q, o, cc, rfl | ⟨rfl, hqm⟩⟩ := hx
      · simp (disch := first | assumption | omega | (simp only [zl] <;> omega) | (simp only [zn])) only [↓zd, zk, Nat.reduceSub, Nat.reduceAdd, Nat.reduceMul, Nat.reduceLeDiff, Nat.reduceEqDiff, reduceIte, Int.reduceEq, Int.reduceBEq, Int.reduceLE, Int.reduceLT, Int.reduceNeg, Int.reduceAdd, Int.reduceSub, Int.reduceMul, List.map, AV.cells, List.all, AV.one, eqV, eqAll, splice, fillA, List.replicate, resAll, resA, zm, zg, g7]
        exact ⟨_, .nils, rfl, by omega, km.set (by omega) _, ⟨by rw [List.getElem?_set_self l7]; rfl, Sl.nil, fun h => by simp at h⟩, .inl rfl⟩
      · simp (disch := first | assumption | omega | (simp only [zl] <;> omega) | (simp only [zn])) only [↓zd, zk, Nat.reduceSub, Nat.reduceAdd, Nat.reduceMul, Nat.reduceLeDiff, Nat.reduceEqDiff, reduceIte, Int.reduceEq, Int.reduceBEq, Int.reduceLE, Int.reduceLT, Int.reduceNeg, Int.reduceAdd, Int.reduceSub, Int.reduceMul, List.map, AV.cells, List.all, AV.one, eqV, eqAll, splice, fillA, List.replicate, resAll, resA, zm, zg, g7]
        exact ⟨_, .sl q o 0 cc, rfl, by omega, km.set (by omega) _, ⟨by rw [List.getElem?_set_self l7]; rfl, ⟨rfl, .inr ⟨_, _, _, rfl, fun h => absurd h (Nat.lt_irrefl _)⟩⟩, fun h => by simp at h⟩, .inr ⟨_, _, _, _, rfl, hqm⟩⟩
    · simp (disch := first | assumption | omega | (simp only [zl] <;> omega) | (simp only [zn])) only [↓zd, zk, Nat.reduceSub, Nat.reduceAdd, Nat.reduceMul, Nat.reduceLeDiff, Nat.reduceEqDiff, reduceIte, Int.reduceEq, Int.reduceBEq, Int.reduceLE, Int.reduceLT, Int.reduceNeg, Int.reduceAdd, Int.reduceSub, Int.reduceMul, List.map, AV.cells, List.all, AV.one, eqV, eqAll, splice, fillA, List.replicate, resAll, resA, zm, zg, a95]
      have hkq : Keep (m1.take (m.length + 8)) m1 := ⟨by rw [List.length_take]; omega, fun i hi => by
        rw [List.length_take] at hi
        rw [List.getElem?_take, if_pos (by omega)]⟩
      refine OK_fn (delete_run hkq (by rw [List.length_take]; omega) hq1 hn) ?_
      rintro w2 m2 ⟨k2, sl2, fr2, nx2⟩
      have hlt : (m1.take (m.length + 8)).length = m.length + 8 := by rw [List.length_take]; omega
      have hg2 : m2[m.length + 7]? = some (.cells 12 false (layC c p ⟨1, 0, 0, 0, []⟩ .nils)) := by
        rw [k2.2 _ (by omega), List.getElem?_take, if_pos (by omega)]; exact g7
      have l2 : m.length + 7 < m2.length := (List.getElem?_eq_some_iff.1 hg2).1
      have km2 : Keep m m2 := ⟨by have := k2.1; omega, fun i hi => by rw [k2.2 i (by omega), List.getElem?_take, if_pos (by omega), km.2 i hi]⟩
      have nb : ∀ ro L, m2[m.length + 7]? ≠ some (.cells 1 ro L) := fun ro L h => by rw [hg2] at h; cases h
      rw [hlt] at fr2
      have hw2 : w2 = .nils ∨ ∃ q o nn, w2 = .sl q o nn none := by
        rcases nx2 with h | ⟨q, o, nn, l, h, _⟩
        · exact .inl h
        · exact .inr ⟨q, o, nn, h⟩
      have hfr2 : Fr m.length w2 := by
        rcases fr2 with h | ⟨q, o, nn, cc, h, h'⟩
        · exact .inl h
        · exact .inr ⟨q, o, nn, cc, h, by omega⟩
      have hsl := Sl.put sl2.ro nb
      have hnx := fun C => Nx.put nx2 nb C
      simp only [layC, rgC, cfC, List.cons_append, List.nil_append] at hg2
      rcases hw2 with rfl | ⟨q2, o2, nn2, rfl⟩
      · simp (disch := first | assumption | omega | (simp only [zl] <;> omega) | (simp only [zn])) only [↓zd, zk, Nat.reduceSub, Nat.reduceAdd, Nat.reduceMul, Nat.reduceLeDiff, Nat.reduceEqDiff, reduceIte, Int.reduceEq, Int.reduceBEq, Int.reduceLE, Int.reduceLT, Int.reduceNeg, Int.reduceAdd, Int.reduceSub, Int.reduceMul, List.map, AV.cells, List.all, AV.one, eqV, eqAll, splice, fillA, List.replicate, resAll, resA, zm, zg, hg2]
        exact ⟨_, _, rfl, by omega, km2.set (by omega) _, ⟨by rw [List.getElem?_set_self l2]; rfl, hsl _, fun _ => hnx _⟩, hfr2⟩
      · simp (disch := first | assumption | omega | (simp only [zl] <;> omega) | (simp only [zn])) only [↓zd, zk, Nat.reduceSub, Nat.reduceAdd, Nat.reduceMul, Nat.reduceLeDiff, Nat.reduceEqDiff, reduceIte, Int.reduceEq, Int.reduceBEq, Int.reduceLE, Int.reduceLT, Int.reduceNeg, Int.reduceAdd, Int.reduceSub, Int.reduceMul, List.map, AV.cells, List.all, AV.one, eqV, eqAll, splice, fillA, List.replicate, resAll, resA, zm, zg, hg2]
        exact ⟨_, _, rfl, by omega, km2.set (by omega) _, ⟨by rw [List.getElem?_set_self l2]; rfl, hsl _, fun _ => hnx _⟩, hfr2⟩
  · have hnl : newL c p xs = ⟨0, 0, 0, 0, []⟩ := if_neg h1
    unfold NlP
    rw [hnl]
    rw [fromA, if_neg h1] at hfr
    simp only [rgC, cfC, List.cons_append, List.nil_append, List.append_assoc] at hfr
    refine Fn_of rfl ?_
    simp (disch := first | assumption | omega | (simp only [zl] <;> omega) | (simp only [zn])) only [put_NewLay, ↓zd, zk, Nat.reduceSub, Nat.reduceAdd, Nat.reduceMul, Nat.reduceLeDiff, Nat.reduceEqDiff, reduceIte, Int.reduceEq, Int.reduceBEq, Int.reduceLE, Int.reduceLT, Int.reduceNeg, Int.reduceAdd, Int.reduceSub, Int.reduceMul, List.map, AV.cells, List.all, AV.one, eqV, eqAll, splice, fillA, List.replicate, resAll, resA, zm, zg, cfC, a206, hfr, List.set_set, List.drop_succ_cons, List.drop_zero, List.drop_nil, List.append_nil]
    exact ⟨_, .nils, rfl, by omega, .app _ _, ⟨by rw [get_mid]; rfl, Sl.nil, fun h => by simp at h⟩, .inl rfl⟩
theorem lhands_run {m : MM} {xj : Nat} {c : Cf} {p : Int} {s : LS} {lv : AV} (hx : LM m xj c p s lv) (hl : s.ls.length ≤ 100000) : Fn Gpo put_Lay_Hands [.ptr xj 0] m (ClP m s.ls) := by
  have a208 : assoc Gpo 208 = some c_slices_Clone_int := rfl
  have he : c_slices_Clone_int (X := Ob) = amFunc [] slices_Clone_int := rfl
  generalize Gpo = G at a208 ⊢
  have hg := hx.get
  simp only [layC, rgC, cfC, List.cons_append, List.nil_append] at hg
  refine Fn_of rfl ?_
  simp (disch := first | assumption | omega | (simp only [zl] <;> omega) | (simp only [zn])) only [put_Lay_Hands, ↓zd, zk, Nat.reduceSub, Nat.reduceAdd, Nat.reduceMul, Nat.reduceLeDiff, Nat.reduceEqDiff, reduceIte, Int.reduceEq, Int.reduceBEq, Int.reduceLE, Int.reduceLT, Int.reduceNeg, Int.reduceAdd, Int.reduceSub, Int.reduceMul, List.map, AV.cells, List.all, AV.one, eqV, eqAll, splice, fillA, List.replicate, resAll, resA, zm, zg, hg, a208, he]
  refine OK_fn (clone_run hx.l hl) ?_
  intro r m1 hc
  simp (disch := first | assumption | omega | (simp only [zl] <;> omega) | (simp only [zn])) only [↓zd, zk, Nat.reduceSub, Nat.reduceAdd, Nat.reduceMul, Nat.reduceLeDiff, Nat.reduceEqDiff, reduceIte, Int.reduceEq, Int.reduceBEq, Int.reduceLE, Int.reduceLT, Int.reduceNeg, Int.reduceAdd, Int.reduceSub, Int.reduceMul, List.map, AV.cells, List.all, AV.one, eqV, eqAll, splice, fillA, List.replicate, resAll, resA, zm, zg]
  exact hc
end Go.Am.F09
end
section
namespace Go.Am.F11
open Go.Am.F06 Go.Am.F10 Go.Am.F09
def stC (c : Cf) (p v a w : Int) (ly b : AV) (k : Int) : List AV := cfC c ++ [ly, .int .i64 p, .int .i64 v, .int .i64 a, .int .u64 w, b, .int .i64 k]
def thereS (c : Cf) (p v : Int) : Prop := thereP c p ∧ thereP c v ∧ p ≠ v
instance (c : Cf) (p v : Int) : Decidable (thereS c p v) := by unfold thereS; infer_instance
variable {X : Type}
theorem word_ge {c : Cf} {p : Int} : (0 ≤ addrA c p 0) ↔ thereP c p := by
  unfold addrA
  split
  · rename_i h
    have := there_bounds h
    have : 0 ≤ p * (6 + c.q) := Int.mul_nonneg (by omega) (by omega)
    exact ⟨fun _ => h, fun _ => by omega⟩
  · rename_i h
    exact ⟨fun h' => by omega, fun h' => absurd h' h⟩
set_option maxHeartbeats 4000000 in
theorem snew_run {m : Mem X} (c : Cf) (p v : Int) : Fn [(159, F10.c_conf_Config_Word)] steal_New [.agg (cfC c), .int .i64 p, .int .i64 v] m
    (fun r m' => Keep m m' ∧ ∃ xj, r = .ptr xj 0 ∧ m.length ≤ xj ∧ m'[xj]? = some (.cells 13 false (stC c p v (if thereS c p v then 1 else 0) 0 .nilp .nils 0))) := by
  have a159 : assoc [(159, F10.c_conf_Config_Word (X := X))] 159 = some F10.c_conf_Config_Word := rfl
  generalize [(159, F10.c_conf_Config_Word (X := X))] = G at a159 ⊢
  have hw := fun (m : Mem X) (p : Int) => word_run (m := m) c p
  have h1 := word_ge (c := c) (p := p)
  have h2 := word_ge (c := c) (p := v)
  simp only [cfC, List.cons_append, List.nil_append] at hw
  refine Fn_of rfl ?_
  by_cases t1 : thereP c p
  · have g1 := h1.2 t1
    by_cases t2 : thereP c v
    · have g2 := h2.2 t2
      by_cases t3 : p = v
      · have hn : ¬ thereS c p v := fun h => h.2.2 t3
        rw [if_neg hn]
        subst t3
        simp (disch := first | assumption | omega | (simp only [zl] <;> omega) | (simp only [zn])) only [steal_New, ↓zd, zk, Nat.reduceSub, Nat.reduceAdd, Nat.reduceMul, Nat.reduceLeDiff, Nat.reduceEqDiff, reduceIte, Int.reduceEq, Int.reduceBEq, Int.reduceLE, Int.reduceLT, Int.reduceNeg, Int.reduceAdd, Int.reduceSub, Int.reduceMul, List.map, AV.cells, List.all, AV.one, eqV, eqAll, splice, fillA, List.replicate, resAll, resA, zm, zg, cfC, stC, a159, hw, g1]
        refine ⟨.app _ _, m.length + 1, rfl, by omega, ?_⟩
        rw [get_mid]; rfl
      · have hn : thereS c p v := ⟨t1, t2, t3⟩
        rw [if_pos hn]
        simp (disch := first | assumption | omega | (simp only [zl] <;> omega) | (simp only [zn])) only [steal_New, ↓zd, zk, Nat.reduceSub, Nat.reduceAdd, Nat.reduceMul, Nat.reduceLeDiff, Nat.reduceEqDiff, reduceIte, Int.reduceEq, Int.reduceBEq, Int.reduceLE, Int.reduceLT, Int.reduceNeg, Int.reduceAdd, Int.reduceSub, Int.reduceMul, List.map, AV.cells, List.all, AV.one, eqV, eqAll, splice, fillA, List.replicate, resAll, resA, zm, zg, cfC, stC, a159, hw, g1, g2, t3]
        refine ⟨.app _ _, m.length + 1, rfl, by omega, ?_⟩
        rw [get_mid]; rfl
    · have g2 : ¬ (0 ≤ addrA c v 0) := fun h => t2 (h2.1 h)
      have hn : ¬ thereS c p v := fun h => t2 h.2.1
      rw [if_neg hn]
      simp (disch := first | assumption | omega | (simp only [zl] <;> omega) | (simp only [zn])) only [steal_New, ↓zd, zk, Nat.reduceSub, Nat.reduceAdd, Nat.reduceMul, Nat.reduceLeDiff, Nat.reduceEqDiff, reduceIte, Int.reduceEq, Int.reduceBEq, Int.reduceLE, Int.reduceLT, Int.reduceNeg, Int.reduceAdd, Int.reduceSub, Int.reduceMul, List.map, AV.cells, List.all, AV.one, eqV, eqAll, splice, fillA, List.replicate, resAll, resA, zm, zg, cfC, stC, a159, hw, g1, g2]
      refine ⟨.app _ _, m.length + 1, rfl, by omega, ?_⟩
      rw [get_mid]; rfl
  · have g1 : ¬ (0 ≤ addrA c p 0) := fun h => t1 (h1.1 h)
    have hn : ¬ thereS c p v := fun h => t1 h.1
    rw [if_neg hn]
    simp (disch := first | assumption | omega | (simp only [zl] <;> omega) | (simp only [zn])) only [steal_New, ↓zd, zk, Nat.reduceSub, Nat.reduceAdd, Nat.reduceMul, Nat.reduceLeDiff, Nat.reduceEqDiff, reduceIte, Int.reduceEq, Int.reduceBEq, Int.reduceLE, Int.reduceLT, Int.reduceNeg, Int.reduceAdd, Int.reduceSub, Int.reduceMul, List.map, AV.cells, List.all, AV.one, eqV, eqAll, splice, fillA, List.replicate, resAll, resA, zm, zg, cfC, stC, a159, hw, g1]
    refine ⟨.app _ _, m.length + 1, rfl, by omega, ?_⟩
    rw [get_mid]; rfl
theorem sdone_nil (m : Mem X) : c_steal_Steal_Done [.nilp] m = some (.bool true, m) := Fn_eq (Fn_of rfl (by simp (disch := first | assumption | omega | (simp only [zl] <;> omega) | (simp only [zn])) only [steal_Steal_Done, ↓zd, zk, Nat.reduceSub, Nat.reduceAdd, Nat.reduceMul, Nat.reduceLeDiff, Nat.reduceEqDiff, reduceIte, Int.reduceEq, Int.reduceBEq, Int.reduceLE, Int.reduceLT, Int.reduceNeg, Int.reduceAdd, Int.reduceSub, Int.reduceMul, List.map, AV.cells, List.all, AV.one, eqV, eqAll, splice, fillA, List.replicate, resAll, resA, zm, zg]))
theorem sdone_eq {m : Mem X} {xj : Nat} {c : Cf} {p v a w k : Int} {ly b : AV} (hx : m[xj]? = some (.cells 13 false (stC c p v a w ly b k))) : c_steal_Steal_Done [.ptr xj 0] m = some (.bool (decide (a = 0)), m) := by
  refine Fn_eq (Fn_of rfl ?_)
  simp (disch := first | assumption | omega | (simp only [zl] <;> omega) | (simp only [zn])) only [steal_Steal_Done, ↓zd, zk, Nat.reduceSub, Nat.reduceAdd, Nat.reduceMul, Nat.reduceLeDiff, Nat.reduceEqDiff, reduceIte, Int.reduceEq, Int.reduceBEq, Int.reduceLE, Int.reduceLT, Int.reduceNeg, Int.reduceAdd, Int.reduceSub, Int.reduceMul, List.map, AV.cells, List.all, AV.one, eqV, eqAll, splice, fillA, List.replicate, resAll, resA, zm, zg, hx, stC, cfC]
theorem smany_eq {m : Mem X} {xj : Nat} {c : Cf} {p v a w k : Int} {ly b : AV} (hx : m[xj]? = some (.cells 13 false (stC c p v a w ly b k))) : c_steal_Steal_Many [.ptr xj 0] m = some (.int .i64 k, m) := by
  refine Fn_eq (Fn_of rfl ?_)
  simp (disch := first | assumption | omega | (simp only [zl] <;> omega) | (simp only [zn])) only [steal_Steal_Many, ↓zd, zk, Nat.reduceSub, Nat.reduceAdd, Nat.reduceMul, Nat.reduceLeDiff, Nat.reduceEqDiff, reduceIte, Int.reduceEq, Int.reduceBEq, Int.reduceLE, Int.reduceLT, Int.reduceNeg, Int.reduceAdd, Int.reduceSub, Int.reduceMul, List.map, AV.cells, List.all, AV.one, eqV, eqAll, splice, fillA, List.replicate, resAll, resA, zm, zg, hx, stC, cfC]
def Dn (m : Mem X) (x : AV) : Prop := x = .nilp ∨ ∃ xj c p v w ly b, x = .ptr xj 0 ∧ m[xj]? = some (.cells 13 false (stC c p v 0 w ly b 0))
theorem Dn.done {m : Mem X} {x : AV} (h : Dn m x) : c_steal_Steal_Done [x] m = some (.bool true, m) := by
  rcases h with rfl | ⟨xj, c, p, v, w, ly, b, rfl, h⟩
  · exact sdone_nil m
  · rw [sdone_eq h]; rfl
theorem got_no {G : List (Nat × AFun X)} (a277 : assoc G 277 = some c_steal_Steal_Done) (a275 : assoc G 275 = some c_steal_Steal_Many) {m : Mem X} {x : AV} (h1 : ∃ d, c_steal_Steal_Done [x] m = some (.bool d, m)) (h2 : c_steal_Steal_Many [x] m = some (.int .i64 0, m)) : amFunc G steal_Steal_Got [x] m = some (.tup [.int .i64 0, .bool false], m) := by
  obtain ⟨d, h1⟩ := h1
  refine Fn_eq (Fn_of rfl ?_)
  cases d
  all_goals simp (disch := first | assumption | omega | (simp only [zl] <;> omega) | (simp only [zn])) only [steal_Steal_Got, ↓zd, zk, Nat.reduceSub, Nat.reduceAdd, Nat.reduceMul, Nat.reduceLeDiff, Nat.reduceEqDiff, reduceIte, Int.reduceEq, Int.reduceBEq, Int.reduceLE, Int.reduceLT, Int.reduceNeg, Int.reduceAdd, Int.reduceSub, Int.reduceMul, List.map, AV.cells, List.all, AV.one, eqV, eqAll, splice, fillA, List.replicate, resAll, resA, zm, zg, a277, h1, a275, h2]
theorem Dn.keep {m m' : Mem X} {x : AV} (h : Dn m x) (k : Keep m m') : Dn m' x := by
  rcases h with rfl | ⟨xj, c, p, v, w, ly, b, rfl, h⟩
  · exact .inl rfl
  · exact .inr ⟨xj, c, p, v, w, ly, b, rfl, k.get h⟩
theorem Dn.one {m : Mem X} {x : AV} (h : Dn m x) : x.one = true := by
  rcases h with rfl | ⟨xj, c, p, v, w, ly, b, rfl, h⟩ <;> rfl
end Go.Am.F11
end
