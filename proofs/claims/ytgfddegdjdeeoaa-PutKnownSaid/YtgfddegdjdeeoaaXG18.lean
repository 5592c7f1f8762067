import Derived.Test.YtgfddegdjdeeoaaXG17
set_option linter.unusedSimpArgs false
set_option linter.unusedVariables false
section
namespace Go.Am.F09
open Go.Am.F06 Go.Am.F10
theorem _root_.Go.Am.F10.Rw.pushs {m : MM} {q : Nat} {wr : Bool} {xs ys : List Int} {v y : AV} (h : Rw m q xs.length 1 (iC xs) v) (hy : SI m wr ys y) (hl : xs.length ≤ 1000) (hl2 : ys.length ≤ 1000) :
    ∃ v' m' q', appendA 1 8 v y m = some (v', m') ∧ Rw m' q' (xs ++ ys).length 1 (iC (xs ++ ys)) v' ∧ m.length ≤ m'.length ∧ ((ys.length = 0 ∧ q' = q) ∨ m.length ≤ q') ∧ ∀ i, i < m.length → (0 < xs.length → i ≠ q) → m'[i]? = m[i]? := by
  have hr := si_row hy
  have hlen := hy.len
  by_cases h0 : ys.length = 0
  · have hx : ys = [] := List.length_eq_zero_iff.1 h0
    subst hx
    rw [List.append_nil]
    refine ⟨v, m, q, ?_, h, Nat.le_refl _, .inl ⟨rfl, rfl⟩, fun i _ _ => rfl⟩
    rcases h with ⟨h1, h2, rfl⟩ | ⟨h1, rfl, h2⟩ <;> simp only [appendA, hlen, hr, List.length_nil, if_true]
  rcases h with ⟨h1, h2, rfl⟩ | ⟨h1, rfl, hq⟩
  · have hxs : xs = [] := List.length_eq_zero_iff.1 h1
    subst hxs
    refine ⟨.sl m.length 0 ys.length none, m ++ [.cells 1 false (iC ys)], m.length, ?_, .inr ⟨by rw [List.nil_append]; omega, by rw [List.nil_append], by rw [List.nil_append]; exact get_concat⟩, by simp, .inr (Nat.le_refl _), fun i hi _ => List.getElem?_append_left hi⟩
    simp only [appendA, hlen, hr]
    rw [if_neg h0, if_pos ⟨by omega, by omega, iC_one _⟩]
  · have hql : q < m.length := (List.getElem?_eq_some_iff.1 hq).1
    refine ⟨.sl m.length 0 (xs.length + ys.length) none, m.set q .dead ++ [.cells 1 false (iC xs ++ iC ys)], m.length, ?_, .inr ⟨by rw [List.length_append]; omega, by rw [List.length_append], ?_⟩, by simp, .inr (Nat.le_refl _), fun i hi ho => ?_⟩
    · simp only [appendA, hlen, hr, Am.getC, hq]
      rw [if_neg h0, if_pos]
      · rw [List.drop_zero, Nat.mul_one, List.take_of_length_le (by rw [iC_len]; omega)]
      · refine ⟨trivial, by rw [iC_len]; omega, by omega, by omega, ?_⟩
        rw [List.drop_zero, Nat.mul_one, List.take_of_length_le (by rw [iC_len]; omega), List.all_append, iC_one, iC_one]; rfl
    · rw [show m.length = (m.set q .dead).length by simp, get_concat]; simp [iC]
    · have hqi : q ≠ i := fun h => ho h1 h.symm
      rw [List.getElem?_append_left (by simpa using hi), List.getElem?_set_ne hqi]
theorem _root_.Go.Am.F10.Rw.si {m : MM} {q : Nat} {xs : List Int} {v : AV} (h : Rw m q xs.length 1 (iC xs) v) : SI m false xs v := h.sl (by rw [iC_len]; omega)
theorem _root_.Go.Am.F10.Rw.box {m : MM} {q n sz : Nat} {l : List AV} {v : AV} (h : Rw m q n sz l v) (h0 : 0 < n) : m[q]? = some (.cells sz false l) := by
  rcases h with ⟨h1, _⟩ | ⟨_, _, h⟩
  · omega
  · exact h
theorem SI.stayb {m m' : MM} {wr : Bool} {xs : List Int} {v : AV} (h : SI m wr xs v) {b : Nat} (hk : ∀ i, i < m.length → i ≠ b → m'[i]? = m[i]?) (ho : Off b v) : SI m' wr xs v := Sl.stay h fun q o cap hv h0 => hk q (Sl.lt h hv h0).1 (ho q o _ cap hv h0)
theorem PM.stay {m m' : MM} {xj : Nat} {c : Cf} {p g : Int} {s : PS} {qt : Nat} {tv hv : AV} (h : PM m xj c p g s qt tv hv) {b : Nat} (hk : ∀ i, i < m.length → i ≠ b → m'[i]? = m[i]?) (h1 : xj ≠ b) (h2 : qt ≠ b) (h3 : Off b hv) : PM m' xj c p g s qt tv hv :=
  ⟨by rw [hk _ (List.getElem?_eq_some_iff.1 h.get).1 h1]; exact h.get, fun ha => (h.t ha).keep fun h0 => hk qt ((h.t ha).lt h0) h2, h.one, SI.stayb h.h hk h3, h.off⟩
structure KpS (M0 : MM) (c : Cf) (p : Int) (j xj : Nat) (A : List Int) (d : Nat) (s : PS) (gone : AV) (qg qt : Nat) (tv hv : AV) (xs : List Int) (m : MM) : Prop where
  keep : KeepX xj j M0 m
  pm : PM m xj c p 999 s qt tv hv
  mem : ∃ st o, m[j]? = some (.abs (.mem st)) ∧ RelM xs o st
  rg : Rw m qg (A.take d).length 1 (iC (A.take d)) gone
  nq : 0 < (A.take d).length → qg ≠ qt
  bq : 0 < (A.take d).length → M0.length ≤ qg
  bt : qt = xj ∨ (M0.length ≤ qt ∧ qt < m.length)
  oh : 0 < (A.take d).length → Off qg hv
  ok : POk c p s
def KpE (A : List Int) (d : Nat) (q : Int) (R H : List Int) (fl : Bool) : Prop := A.take d ++ R ++ H = A ++ [999] ∧ (R.length : Int) ≤ q ∧ (0 < H.length → fl = true ∧ (H.length : Int) = q / 2 + 1 ∧ (R.length : Int) = q / 2)
def KpV (c : Cf) (p w0 : Int) (A : List Int) (i d : Nat) (s : PS) (xs : List Int) (fl dn : Bool) : Prop := (dn = false ∧ s.a ≠ 0 ∧ KV c p w0 A i d s xs) ∨ (dn = true ∧ s.a = 0 ∧ OkL c xs ∧ KpE A d c.q (ringL c p xs) s.hs fl)
theorem KpS.step {M0 m m' : MM} {c : Cf} {p : Int} {j xj : Nat} {A : List Int} {d : Nat} {s : PS} {gone : AV} {qg qt : Nat} {tv hv : AV} {xs : List Int} (h : KpS M0 c p j xj A d s gone qg qt tv hv xs m) {x : PS × List Int} {o : Int} {r : AV} (hok : POk c p x.1) (hP : PsP m c p 999 xj j qt hv x o r m') :
    r = .bool (decide (x.1.a = 0)) ∧ ∃ qt' tv' hv', KpS M0 c p j xj A d x.1 gone qg qt' tv' hv' x.2 m' := by
  obtain ⟨rfl, k1, tv', hv', qt', hpm, hq, hh, st', j', r'⟩ := hP
  obtain ⟨hk, pm, ⟨st, o1, hj, _⟩, rg, nq, bq, bt, oh, _⟩ := h
  have hM := hk.1
  have hqx : 0 < (A.take d).length → qg ≠ xj := fun h0 hq => by have := rg.box h0; rw [hq, pm.get] at this; cases this
  have hqj : 0 < (A.take d).length → qg ≠ j := fun h0 hq => by have := rg.box h0; rw [hq, hj] at this; cases this
  have lx : xj < m.length := (List.getElem?_eq_some_iff.1 pm.get).1
  have lx' : xj < m'.length := (List.getElem?_eq_some_iff.1 hpm.get).1
  have hl1 := k1.1
  refine ⟨rfl, qt', tv', hv', ⟨Nat.le_trans hM hl1, fun i hi h1 h2 => ?_⟩, hpm, ⟨st', o, j', r'⟩, rg.keep fun h0 => ?_, fun h0 => ?_, bq, ?_, fun h0 => ?_, hok⟩
  · have hne : i ≠ qt := by rcases bt with h | h <;> omega
    rw [k1.2 i (by omega) h1 h2 hne, hk.2 i hi h1 h2]
  · exact k1.2 qg (rg.lt h0) (hqx h0) (hqj h0) (nq h0)
  · have := rg.lt h0
    have := hqx h0
    have := nq h0
    rcases hq with h | h | h <;> omega
  · rcases hq with h | h | h
    · exact .inl h
    · exact .inr ⟨by omega, h.2⟩
    · rcases bt with h' | h'
      · exact .inl (by omega)
      · exact .inr ⟨by omega, by omega⟩
  · have := rg.lt h0
    rcases hh with h | h | ⟨q, oo, n, cp, h, h'⟩
    · rw [h]; exact oh h0
    · rw [h]; intro q o n cc hq; cases hq
    · rw [h]; intro q2 o2 n2 cc hq2 _
      injection hq2 with hq2; omega
theorem KpS.thief {M0 m m' : MM} {c : Cf} {p : Int} {j xj : Nat} {A : List Int} {d : Nat} {s : PS} {gone : AV} {qg qt : Nat} {tv hv : AV} {xs xs' : List Int} (h : KpS M0 c p j xj A d s gone qg qt tv hv xs m) (hk : KeepB j m m') {st' : MemSt} {o' : Int} (hj' : m'[j]? = some (.abs (.mem st'))) (hr' : RelM xs' o' st') :
    KpS M0 c p j xj A d s gone qg qt tv hv xs' m' := by
  obtain ⟨hk0, pm, ⟨st, o1, hj, _⟩, rg, nq, bq, bt, oh, hok⟩ := h
  have hM := hk0.1
  have hl := hk.1
  have hqj : 0 < (A.take d).length → qg ≠ j := fun h0 hq => by have := rg.box h0; rw [hq, hj] at this; cases this
  have hxj : xj ≠ j := fun h => by have := pm.get; rw [h, hj] at this; cases this
  have hqt : ∀ n l tv, Rw m qt n 1 l tv → 0 < n → qt ≠ j := fun n l tv h h0 hq => by have := h.box h0; rw [hq, hj] at this; cases this
  refine ⟨⟨Nat.le_trans hM hl, fun i hi h1 h2 => by rw [hk.2 i (by omega) h2, hk0.2 i hi h1 h2]⟩, ⟨by rw [hk.2 _ (List.getElem?_eq_some_iff.1 pm.get).1 hxj]; exact pm.get, fun ha => (pm.t ha).keep fun h0 => hk.2 qt ((pm.t ha).lt h0) (hqt _ _ _ (pm.t ha) h0), pm.one, SI.stayb pm.h hk.2 (si_box pm.h fun ro L h => by rw [hj] at h; cases h), pm.off⟩, ⟨st', o', hj', hr'⟩, rg.keep fun h0 => hk.2 qg (rg.lt h0) (hqj h0), nq, bq, ?_, oh, hok⟩
  rcases bt with h | h
  · exact .inl h
  · exact .inr ⟨h.1, by omega⟩
theorem PM.keep {m m' : MM} {xj : Nat} {c : Cf} {p g : Int} {s : PS} {qt : Nat} {tv hv : AV} (h : PM m xj c p g s qt tv hv) (k : Keep m m') : PM m' xj c p g s qt tv hv :=
  ⟨k.get h.get, fun ha => (h.t ha).keep fun h0 => k.2 qt ((h.t ha).lt h0), h.one, h.h.keep k, h.off⟩
theorem KpS.more {M0 m m' : MM} {c : Cf} {p : Int} {j xj : Nat} {A : List Int} {d : Nat} {s : PS} {gone : AV} {qg qt : Nat} {tv hv : AV} {xs : List Int} (h : KpS M0 c p j xj A d s gone qg qt tv hv xs m) (k : Keep m m') : KpS M0 c p j xj A d s gone qg qt tv hv xs m' := by
  obtain ⟨hk0, pm, ⟨st, o1, hj, hr⟩, rg, nq, bq, bt, oh, hok⟩ := h
  refine ⟨hk0.trans (.of k), PM.keep pm k, ⟨st, o1, k.get hj, hr⟩, rg.keep fun h0 => k.2 qg (rg.lt h0), nq, bq, ?_, oh, hok⟩
  rcases bt with h | h
  · exact .inl h
  · exact .inr ⟨h.1, Nat.lt_of_lt_of_le h.2 k.1⟩
theorem KpS.gain {M0 m : MM} {c : Cf} {p : Int} {j xj : Nat} {A : List Int} {d n : Nat} {s : PS} {gone tk : AV} {qg qt : Nat} {tv hv : AV} {xs : List Int} (h : KpS M0 c p j xj A d s gone qg qt tv hv xs m) (hA : A.length ≤ 64) (hd : d + n ≤ A.length) (ht : SI m true ((A.drop d).take n) tk) :
    ∃ gone' m' qg', appendA 1 8 gone tk m = some (gone', m') ∧ KpS M0 c p j xj A (d + n) s gone' qg' qt tv hv xs m' := by
  obtain ⟨hk0, pm, ⟨st, o1, hj, hr⟩, rg, nq, bq, bt, oh, hok⟩ := h
  have hM := hk0.1
  obtain ⟨gone', m', qg', happ, rg', hl, hq', hf⟩ := Rw.pushs rg ht (by rw [List.length_take]; omega) (by rw [List.length_take, List.length_drop]; omega)
  rw [← List.take_add] at rg'
  have hqx : 0 < (A.take d).length → qg ≠ xj := fun h0 hq => by have := rg.box h0; rw [hq, pm.get] at this; cases this
  have hqj : 0 < (A.take d).length → qg ≠ j := fun h0 hq => by have := rg.box h0; rw [hq, hj] at this; cases this
  have lx : xj < m.length := (List.getElem?_eq_some_iff.1 pm.get).1
  have lj : j < m.length := (List.getElem?_eq_some_iff.1 hj).1
  have hd0 : (A.take d).length = d := by rw [List.length_take]; omega
  have hd1 : (A.take (d + n)).length = d + n := by rw [List.length_take]; omega
  rw [hd0] at nq bq oh hf hqx hqj
  have hnl : ((A.drop d).take n).length = n := by rw [List.length_take, List.length_drop]; omega
  rw [hnl] at hq'
  have hoff : ∀ q o k cap, hv = .sl q o k cap → 0 < k → q < m.length := fun q o k cap hq h0 => by
    have hh := pm.h
    rcases hh.2 with ⟨h1, _⟩ | ⟨q2, o2, c2, h1, h2⟩
    · rw [h1] at hq; cases hq
    · rw [h1] at hq; injection hq with e1 e2 e3 e4; subst e1; subst e3
      obtain ⟨ro, L, h3, _⟩ := h2 h0
      exact (List.getElem?_eq_some_iff.1 h3).1
  have hfr : ∀ i, i < m.length → (0 < d → i ≠ qg) → m'[i]? = m[i]? := hf
  have pm' : PM m' xj c p 999 s qt tv hv := by
    refine ⟨by rw [hfr xj lx fun h => (hqx h).symm]; exact pm.get, fun ha => (pm.t ha).keep fun h0 => hfr qt ((pm.t ha).lt h0) fun h => (nq h).symm, pm.one, ?_, pm.off⟩
    exact Sl.stay pm.h fun q o cap hq h0 => hfr q (hoff q o _ cap hq h0) fun h => oh h q o _ cap hq h0
  refine ⟨gone', m', qg', happ, ⟨by omega, fun i hi h1 h2 => by rw [hfr i (by omega) (fun h => by have := bq h; omega), hk0.2 i hi h1 h2]⟩, pm', ⟨st, o1, by rw [hfr j lj fun h => (hqj h).symm]; exact hj, hr⟩, rg', fun h0 => ?_, fun h0 => ?_, ?_, fun h0 => ?_, hok⟩
  · rw [hd1] at h0
    rcases hq' with ⟨h, h'⟩ | h
    · rw [h']; exact nq (by omega)
    · rcases bt with h' | h' <;> omega
  · rw [hd1] at h0
    rcases hq' with ⟨h, h'⟩ | h
    · rw [h']; exact bq (by omega)
    · omega
  · rcases bt with h' | h'
    · exact .inl h'
    · exact .inr ⟨h'.1, by omega⟩
  · rw [hd1] at h0
    rcases hq' with ⟨h, h'⟩ | h
    · rw [h']; exact oh (by omega)
    · intro q o k cap hq hk
      have := hoff q o k cap hq hk
      omega
end Go.Am.F09
end
section
namespace Go.Am.F09
open Go.Am.F06 Go.Am.F10
def rpC (c : Cf) (p g : Int) (s : PS) (tv hv : AV) : List AV := cfC c ++ [.int .i64 p, .int .i64 g, .int .i64 s.a, .int .u64 s.w, tv, hv]
def RpP (m : MM) (c : Cf) (p g : Int) (tv hv : AV) (x : PS × List Int) (o : Int) (r : AV) (m' : MM) : Prop := Keep m m' ∧ ∃ tv' hv' v', r = .tup [.agg (rpC c p g x.1 tv' hv'), .agg (memC v' o)] ∧ SI m' false x.1.tk tv' ∧ SI m' false x.1.hs hv' ∧ SU m' false x.2 v' ∧ (tv' = tv ∨ Fr m.length tv') ∧ (hv' = hv ∨ Fr m.length hv')
def Grp : List (Nat × AFun Ob) := [(170, F10.c_ref09_Head), (171, F10.c_ref09_Tail), (172, F10.c_ref09_Word), (64, F06.c_ref06_Load), (173, F10.c_ref09_Size), (174, F10.c_ref09_Slot), (65, F06.c_ref06_Store), (175, F10.c_ref09_Pack), (66, F06.c_ref06_CAS)]
theorem _root_.Go.Am.Sl.setb {m : MM} {wr : Bool} {sz n : Nat} {l : List AV} {v : AV} (h : Sl m wr sz n l v) {b : Nat} {C : Chunk Ob} (hb : ∀ ro L, m[b]? ≠ some (.cells sz ro L)) : Sl (m.set b C) wr sz n l v := h.put hb C
set_option maxHeartbeats 16000000 in
theorem rpstep1 {m : MM} {wr : Bool} {c : Cf} {p g o : Int} {s : PS} {xs : List Int} {v tv hv : AV} (hs : SU m wr xs v) (ht : SI m false s.tk tv) (hh : SI m false s.hs hv) (hok : POk c p s) (hx : OkL c xs) (ha : s.a = 1) :
    Fn Grp ref09_Step [.agg (rpC c p g s tv hv), .agg (memC v o)] m (RpP m c p g tv hv (stepP c p g xs s) (IntKind.u64.wrap (o + 1))) := by
  have a171 : assoc Grp 171 = some F10.c_ref09_Tail := rfl
  have a172 : assoc Grp 172 = some F10.c_ref09_Word := rfl
  have a64 : assoc Grp 64 = some F06.c_ref06_Load := rfl
  have a173 : assoc Grp 173 = some F10.c_ref09_Size := rfl
  generalize Grp = G at a171 a172 a64 a173 ⊢
  have hone := slOne hs
  have hone2 := slOne ht
  have hone3 := slOne hh
  simp only [AV.one] at hone hone2 hone3
  obtain ⟨a, w, tk, hl⟩ := s
  simp only at ha
  subst ha
  have hp : thereP c p := hok.a.elim (fun h => by simp at h) (·.1)
  have hw := hok.w
  simp only at hw ht hh
  have hb := there_bounds hp
  have hcn := cellsN_le c
  have hxl := hx.1
  have ha0 := addr_b hp (i := 0) (by omega) (by omega)
  have htl := fun m : MM => rtail_eq m hw
  have hrw := fun m : MM => rword_eq m hp
  simp only [word_at hp, cfC] at hrw
  have hwn : ((wrdN c p : Nat) : Int) = addrA c p 0 := by unfold wrdN; omega
  have hrl := fun K : MM => rload_eq (hs.keep (Keep.app m K)) o (a := wrdN c p) (by omega)
  rw [hwn] at hrl
  have hg := getD_64 hx.2 (wrdN c p)
  have hs1 : stepP c p g xs ⟨1, w, tk, hl⟩ = (⟨if c.q ≤ sz (xs.getD (wrdN c p) 0) then 4 else 2, xs.getD (wrdN c p) 0, [], hl⟩, xs) := by simp only [stepP, if_true]
  rw [hs1]
  generalize xs.getD (wrdN c p) 0 = w' at hg hrl
  simp only [memC, List.append_assoc, List.cons_append, List.nil_append] at hrl
  have hz := fun m : MM => rsize_eq m hg
  have e0 : IntKind.u32.wrap c.q = c.q := by rw [wrap32]; omega
  refine Fn_of rfl ?_
  by_cases hq : c.q ≤ sz w'
  · rw [if_pos hq]
    simp (disch := first | assumption | omega | (simp only [zl] <;> omega) | (simp only [zn])) only [ref09_Step, ↓zd, zk, Nat.reduceSub, Nat.reduceAdd, Nat.reduceMul, Nat.reduceLeDiff, Nat.reduceEqDiff, reduceIte, Int.reduceEq, Int.reduceBEq, Int.reduceLE, Int.reduceLT, Int.reduceNeg, Int.reduceAdd, Int.reduceSub, Int.reduceMul, List.map, AV.cells, List.all, AV.one, eqV, eqAll, splice, fillA, List.replicate, resAll, resA, zm, zg, rpC, cfC, memC, hone, hone2, hone3, a171, htl, a172, hrw, a64, hrl, a173, hz, e0, hq]
    exact ⟨Keep.app _ _, .nils, hv, v, rfl, Sl.nil, hh.keep (.app _ _), (hs.keep (.app _ _)).ro, .inr (.inl rfl), .inl rfl⟩
  · rw [if_neg hq]
    simp (disch := first | assumption | omega | (simp only [zl] <;> omega) | (simp only [zn])) only [ref09_Step, ↓zd, zk, Nat.reduceSub, Nat.reduceAdd, Nat.reduceMul, Nat.reduceLeDiff, Nat.reduceEqDiff, reduceIte, Int.reduceEq, Int.reduceBEq, Int.reduceLE, Int.reduceLT, Int.reduceNeg, Int.reduceAdd, Int.reduceSub, Int.reduceMul, List.map, AV.cells, List.all, AV.one, eqV, eqAll, splice, fillA, List.replicate, resAll, resA, zm, zg, rpC, cfC, memC, hone, hone2, hone3, a171, htl, a172, hrw, a64, hrl, a173, hz, e0, hq]
    exact ⟨Keep.app _ _, .nils, hv, v, rfl, Sl.nil, hh.keep (.app _ _), (hs.keep (.app _ _)).ro, .inr (.inl rfl), .inl rfl⟩
structure SLN (lo hi : Nat) (m : MM) (wr : Bool) (n : Nat) (l : List AV) (v : AV) : Prop where
  sl : Sl m wr 1 n l v
  no : ∀ b, lo ≤ b → b < hi → ∀ ro L, m[b]? ≠ some (.cells 1 ro L)
theorem SLN.set {lo hi : Nat} {m : MM} {wr : Bool} {n : Nat} {l : List AV} {v : AV} (h : SLN lo hi m wr n l v) {a : Nat} (h1 : lo ≤ a) (h2 : a < hi) {C : Chunk Ob} (hC : ∀ ro L, C ≠ .cells 1 ro L) : SLN lo hi (m.set a C) wr n l v := by
  refine ⟨Sl.put h.sl (h.no a h1 h2) C, fun b b1 b2 ro L hb => ?_⟩
  by_cases hab : a = b
  · subst hab
    by_cases hl : a < m.length
    · rw [List.getElem?_set_self hl] at hb; injection hb with hb; exact hC _ _ hb
    · rw [List.getElem?_eq_none (by rw [List.length_set]; omega)] at hb; cases hb
  · rw [List.getElem?_set_ne hab] at hb; exact h.no b b1 b2 _ _ hb
theorem SLN.app {lo hi : Nat} {m : MM} {wr : Bool} {n : Nat} {l : List AV} {v : AV} (h : SLN lo hi m wr n l v) (hh : hi ≤ m.length) (K : MM) : SLN lo hi (m ++ K) wr n l v :=
  ⟨h.sl.keep (.app _ _), fun b b1 b2 ro L hb => h.no b b1 b2 ro L (by rwa [List.getElem?_append_left (by omega)] at hb)⟩
set_option maxHeartbeats 16000000 in
theorem rpstep2 {m : MM} {wr : Bool} {c : Cf} {p g o : Int} {s : PS} {xs : List Int} {v tv hv : AV} (hs : SU m wr xs v) (ht : SI m false s.tk tv) (hh : SI m false s.hs hv) (hok : POk c p s) (hx : OkL c xs) (ha : s.a = 2) :
    Fn Grp ref09_Step [.agg (rpC c p g s tv hv), .agg (memC v o)] m (RpP m c p g tv hv (stepP c p g xs s) (IntKind.u64.wrap (o + 1))) := by
  have a171 : assoc Grp 171 = some F10.c_ref09_Tail := rfl
  have a174 : assoc Grp 174 = some F10.c_ref09_Slot := rfl
  have a65 : assoc Grp 65 = some F06.c_ref06_Store := rfl
  generalize Grp = G at a171 a174 a65 ⊢
  have hone := slOne hs
  have hone2 := slOne ht
  have hone3 := slOne hh
  simp only [AV.one] at hone hone2 hone3
  obtain ⟨a, w, tk, hl⟩ := s
  simp only at ha
  subst ha
  have hp : thereP c p := hok.a.elim (fun h => by simp at h) (·.1)
  have hw := hok.w
  simp only at hw ht hh
  have hb := there_bounds hp
  have hcn := cellsN_le c
  have hxl := hx.1
  have htb := tl_b w
  have htl := fun m : MM => rtail_eq m hw
  have hsl := fun m : MM => rslot_eq m hp htb.1 htb.2
  have hps : pslA c p w 0 = slotA c p (tl w) := by unfold pslA; congr 1; omega
  have hsb := slot_b (i := tl w) hp htb.1
  have hthr : thr xs (slotA c p (tl w)) := ⟨by omega, by omega⟩
  have hs1 : stepP c p g xs ⟨2, w, tk, hl⟩ = (⟨3, w, tk, hl⟩, xs.set (slotA c p (tl w)).toNat (IntKind.u64.wrap g)) := by rw [← hps]; rfl
  rw [hs1]
  simp only [cfC] at hsl
  refine Fn_of rfl ?_
  simp (disch := first | assumption | omega | (simp only [zl] <;> omega) | (simp only [zn])) only [ref09_Step, ↓zd, zk, Nat.reduceSub, Nat.reduceAdd, Nat.reduceMul, Nat.reduceLeDiff, Nat.reduceEqDiff, reduceIte, Int.reduceEq, Int.reduceBEq, Int.reduceLE, Int.reduceLT, Int.reduceNeg, Int.reduceAdd, Int.reduceSub, Int.reduceMul, List.map, AV.cells, List.all, AV.one, eqV, eqAll, splice, fillA, List.replicate, resAll, resA, zm, zg, rpC, cfC, memC, hone, hone2, hone3, a171, htl, a174, hsl, a65, F06.c_ref06_Store]
  have hst := fun K : MM => refstore_run (hs.keep (Keep.app m K)) (by omega) o (slotA c p (tl w)) (IntKind.u64.wrap g)
  simp only [memC] at hst
  refine OKT_fn (hst _) ?_
  rintro _ m1 ⟨k1, v', rfl, s1⟩
  rw [if_pos hthr] at s1
  simp only [if_pos hthr]
  have km : Keep m m1 := (Keep.app m _).trans k1
  have g0 := k1.get (i := m.length) (by rw [get_mid0]; rfl)
  have g1 := k1.get (i := m.length + 1) (by rw [get_mid]; rfl)
  have g2 := k1.get (i := m.length + 2) (by rw [get_mid]; rfl)
  have g3 := k1.get (i := m.length + 3) (by rw [get_mid]; rfl)
  have hl1 : m.length + 3 < m1.length := (List.getElem?_eq_some_iff.1 g3).1
  have hone' := slOne s1
  simp only [AV.one] at hone'
  have hno : ∀ b, m.length ≤ b → b < m.length + 4 → ∀ ro L, m1[b]? ≠ some (.cells 1 ro L) := by
    intro b b1 b2 ro L hb
    rcases (show b = m.length ∨ b = m.length + 1 ∨ b = m.length + 2 ∨ b = m.length + 3 by omega) with rfl | rfl | rfl | rfl
    · rw [g0] at hb; cases hb
    · rw [g1] at hb; cases hb
    · rw [g2] at hb; cases hb
    · rw [g3] at hb; cases hb
  simp (disch := first | assumption | omega | (simp only [zl] <;> omega) | (simp only [zn])) only [↓zd, zk, Nat.reduceSub, Nat.reduceAdd, Nat.reduceMul, Nat.reduceLeDiff, Nat.reduceEqDiff, reduceIte, Int.reduceEq, Int.reduceBEq, Int.reduceLE, Int.reduceLT, Int.reduceNeg, Int.reduceAdd, Int.reduceSub, Int.reduceMul, List.map, AV.cells, List.all, AV.one, eqV, eqAll, splice, fillA, List.replicate, resAll, resA, zm, zg, memC, g0, g1, g2, g3, hone', hone2, hone3]
  refine ⟨?_, tv, hv, v', rfl, ?_, ?_, ?_, .inl rfl, .inl rfl⟩
  · repeat' first | exact km | refine Keep.set ?_ (by omega) _
  · refine SLN.sl (lo := m.length) (hi := m.length + 4) ?_
    repeat' first | exact ⟨ht.keep km, hno⟩ | refine SLN.set ?_ (by omega) (by omega) (by intro _ _ h; cases h)
  · refine SLN.sl (lo := m.length) (hi := m.length + 4) ?_
    repeat' first | exact ⟨hh.keep km, hno⟩ | refine SLN.set ?_ (by omega) (by omega) (by intro _ _ h; cases h)
  · refine SLN.sl (lo := m.length) (hi := m.length + 4) ?_
    repeat' first | exact ⟨s1, hno⟩ | refine SLN.set ?_ (by omega) (by omega) (by intro _ _ h; cases h)
set_option maxHeartbeats 16000000 in
theorem rpstep3 {m : MM} {wr : Bool} {c : Cf} {p g o : Int} {s : PS} {xs : List Int} {v tv hv : AV} (hs : SU m wr xs v) (ht : SI m false s.tk tv) (hh : SI m false s.hs hv) (hok : POk c p s) (hx : OkL c xs) (ha : s.a = 3) :
    Fn Grp ref09_Step [.agg (rpC c p g s tv hv), .agg (memC v o)] m (RpP m c p g tv hv (stepP c p g xs s) (IntKind.u64.wrap (o + 1))) := by
  have a170 : assoc Grp 170 = some F10.c_ref09_Head := rfl
  have a171 : assoc Grp 171 = some F10.c_ref09_Tail := rfl
  have a172 : assoc Grp 172 = some F10.c_ref09_Word := rfl
  have a175 : assoc Grp 175 = some F10.c_ref09_Pack := rfl
  have a66 : assoc Grp 66 = some F06.c_ref06_CAS := rfl
  generalize Grp = G at a170 a171 a172 a175 a66 ⊢
  have hone := slOne hs
  have hone2 := slOne ht
  have hone3 := slOne hh
  simp only [AV.one] at hone hone2 hone3
  obtain ⟨a, w, tk, hl⟩ := s
  simp only at ha
  subst ha
  have hp : thereP c p := hok.a.elim (fun h => by simp at h) (·.1)
  have hw := hok.w
  simp only at hw ht hh
  have hb := there_bounds hp
  have hcn := cellsN_le c
  have hxl := hx.1
  have htb := tl_b w
  have hhb := hd_b hw
  have ha0 := addr_b hp (i := 0) (by omega) (by omega)
  have htl := fun m : MM => rtail_eq m hw
  have hhd := fun m : MM => rhead_eq m hw
  have hrw := fun m : MM => rword_eq m hp
  simp only [word_at hp, cfC] at hrw
  have hwt : (addrA c p 0).toNat = wrdN c p := rfl
  have hthr : thr xs (addrA c p 0) := ⟨by omega, by omega⟩
  have e1 : IntKind.u32.wrap (tl w + 1) = (tl w + 1) % 4294967296 := wrap32 _
  have hpk := fun m : MM => rpack_eq m (h := hd w) (t := (tl w + 1) % 4294967296) hhb.1 hhb.2 (by omega) (by omega)
  have hgw : pk (hd w) ((tl w + 1) % 4294967296) = growW w 1 := rfl
  have hs1 : stepP c p g xs ⟨3, w, tk, hl⟩ = (if xs.getD (wrdN c p) 0 = w then (⟨0, w, tk, []⟩, xs.set (wrdN c p) (growW w 1)) else (⟨1, w, tk, hl⟩, xs)) := rfl
  rw [hs1]
  refine Fn_of rfl ?_
  simp (disch := first | assumption | omega | (simp only [zl] <;> omega) | (simp only [zn])) only [ref09_Step, ↓zd, zk, Nat.reduceSub, Nat.reduceAdd, Nat.reduceMul, Nat.reduceLeDiff, Nat.reduceEqDiff, reduceIte, Int.reduceEq, Int.reduceBEq, Int.reduceLE, Int.reduceLT, Int.reduceNeg, Int.reduceAdd, Int.reduceSub, Int.reduceMul, List.map, AV.cells, List.all, AV.one, eqV, eqAll, splice, fillA, List.replicate, resAll, resA, zm, zg, rpC, cfC, memC, hone, hone2, hone3, a170, hhd, a171, htl, a172, hrw, e1, a175, hpk, hgw, a66, F06.c_ref06_CAS]
  have hcas := fun K : MM => rcas_run (hs.keep (Keep.app m K)) (by omega) o hthr w (growW w 1)
  simp only [memC] at hcas
  refine OKT_fn (hcas _) ?_
  rintro _ m1 ⟨k1, v', rfl, s1⟩
  rw [hwt] at s1
  have km : Keep m m1 := (Keep.app m _).trans k1
  have g0 := k1.get (i := m.length) (by rw [get_mid0]; rfl)
  have g1 := k1.get (i := m.length + 1) (by rw [get_mid]; rfl)
  have g2 := k1.get (i := m.length + 2) (by rw [get_mid]; rfl)
  have g3 := k1.get (i := m.length + 3) (by rw [get_mid]; rfl)
  have hl1 : m.length + 3 < m1.length := (List.getElem?_eq_some_iff.1 g3).1
  have hone' := slOne s1
  simp only [AV.one] at hone'
  have hno : ∀ b, m.length ≤ b → b < m.length + 4 → ∀ ro L, m1[b]? ≠ some (.cells 1 ro L) := by
    intro b b1 b2 ro L hb
    rcases (show b = m.length ∨ b = m.length + 1 ∨ b = m.length + 2 ∨ b = m.length + 3 by omega) with rfl | rfl | rfl | rfl
    · rw [g0] at hb; cases hb
    · rw [g1] at hb; cases hb
    · rw [g2] at hb; cases hb
    · rw [g3] at hb; cases hb
  by_cases heq : xs.getD (wrdN c p) 0 = w
  · have hd : decide (xs.getD (addrA c p 0).toNat 0 = w) = true := by rw [hwt]; exact decide_eq_true heq
    rw [if_pos heq] at s1 ⊢
    simp (disch := first | assumption | omega | (simp only [zl] <;> omega) | (simp only [zn])) only [↓zd, zk, Nat.reduceSub, Nat.reduceAdd, Nat.reduceMul, Nat.reduceLeDiff, Nat.reduceEqDiff, reduceIte, Int.reduceEq, Int.reduceBEq, Int.reduceLE, Int.reduceLT, Int.reduceNeg, Int.reduceAdd, Int.reduceSub, Int.reduceMul, List.map, AV.cells, List.all, AV.one, eqV, eqAll, splice, fillA, List.replicate, resAll, resA, zm, zg, memC, hd, g0, g1, g2, g3, hone', hone2, hone3]
    refine ⟨?_, tv, .nils, v', rfl, ?_, Sl.nil, ?_, .inl rfl, .inr (.inl rfl)⟩
    · repeat' first | exact km | refine Keep.set ?_ (by omega) _
    · refine SLN.sl (lo := m.length) (hi := m.length + 4) ?_
      repeat' first | exact ⟨ht.keep km, hno⟩ | refine SLN.set ?_ (by omega) (by omega) (by intro _ _ h; cases h)
    · refine SLN.sl (lo := m.length) (hi := m.length + 4) ?_
      repeat' first | exact ⟨s1, hno⟩ | refine SLN.set ?_ (by omega) (by omega) (by intro _ _ h; cases h)
  · have hd : decide (xs.getD (addrA c p 0).toNat 0 = w) = false := by rw [hwt]; exact decide_eq_false heq
    rw [if_neg heq] at s1 ⊢
    simp (disch := first | assumption | omega | (simp only [zl] <;> omega) | (simp only [zn])) only [↓zd, zk, Nat.reduceSub, Nat.reduceAdd, Nat.reduceMul, Nat.reduceLeDiff, Nat.reduceEqDiff, reduceIte, Int.reduceEq, Int.reduceBEq, Int.reduceLE, Int.reduceLT, Int.reduceNeg, Int.reduceAdd, Int.reduceSub, Int.reduceMul, List.map, AV.cells, List.all, AV.one, eqV, eqAll, splice, fillA, List.replicate, resAll, resA, zm, zg, memC, hd, g0, g1, g2, g3, hone', hone2, hone3]
    refine ⟨?_, tv, hv, v', rfl, ?_, ?_, ?_, .inl rfl, .inl rfl⟩
    · repeat' first | exact km | refine Keep.set ?_ (by omega) _
    · refine SLN.sl (lo := m.length) (hi := m.length + 4) ?_
      repeat' first | exact ⟨ht.keep km, hno⟩ | refine SLN.set ?_ (by omega) (by omega) (by intro _ _ h; cases h)
    · refine SLN.sl (lo := m.length) (hi := m.length + 4) ?_
      repeat' first | exact ⟨hh.keep km, hno⟩ | refine SLN.set ?_ (by omega) (by omega) (by intro _ _ h; cases h)
    · refine SLN.sl (lo := m.length) (hi := m.length + 4) ?_
      repeat' first | exact ⟨s1, hno⟩ | refine SLN.set ?_ (by omega) (by omega) (by intro _ _ h; cases h)
end Go.Am.F09
end
section
namespace Go.Am.F09
open Go.Am.F06 Go.Am.F10
set_option maxHeartbeats 16000000 in
theorem rpstep4 {m : MM} {wr : Bool} {c : Cf} {p g o : Int} {s : PS} {xs : List Int} {v tv hv : AV} (hs : SU m wr xs v) (ht : SI m false s.tk tv) (hh : SI m false s.hs hv) (hok : POk c p s) (hx : OkL c xs) (ha : s.a = 4) :
    Fn Grp ref09_Step [.agg (rpC c p g s tv hv), .agg (memC v o)] m (RpP m c p g tv hv (stepP c p g xs s) (IntKind.u64.wrap (o + 1))) := by
  have a171 : assoc Grp 171 = some F10.c_ref09_Tail := rfl
  have a174 : assoc Grp 174 = some F10.c_ref09_Slot := rfl
  have a64 : assoc Grp 64 = some F06.c_ref06_Load := rfl
  generalize Grp = G at a171 a174 a64 ⊢
  have hone := slOne hs
  have hone2 := slOne ht
  have hone3 := slOne hh
  simp only [AV.one] at hone hone2 hone3
  obtain ⟨a, w, tk, hl⟩ := s
  simp only at ha
  subst ha
  have hpl : thereP c p ∧ (tk.length : Int) < c.q / 2 := hok.a.elim (fun h => by simp at h) (fun h => ⟨h.1, by have := h.2; simp only at this; omega⟩)
  obtain ⟨hp, hlt⟩ := hpl
  have hw := hok.w
  simp only at hw ht hh
  have hb := there_bounds hp
  have hcn := cellsN_le c
  have hxl := hx.1
  have htb := tl_b w
  have htl := fun m : MM => rtail_eq m hw
  have hlen := ht.len
  have eq1 : c.q.tdiv 2 = c.q / 2 := Int.tdiv_eq_ediv_of_nonneg (by omega)
  have eq2 : IntKind.u32.wrap (IntKind.u32.wrap (tl w - IntKind.u32.wrap (c.q / 2)) + IntKind.u32.wrap (tk.length : Int)) = (tl w + (tk.length - c.q / 2)) % 4294967296 := by rw [wrap32, wrap32, wrap32, wrap32]; omega
  have hsl := fun m : MM => rslot_eq m hp (i := (tl w + (tk.length - c.q / 2)) % 4294967296) (by omega) (by omega)
  have hps : slotA c p ((tl w + (tk.length - c.q / 2)) % 4294967296) = pslA c p w (tk.length - c.q / 2) := rfl
  rw [hps] at hsl
  have hsb := psl_b (c := c) (p := p) (w := w) (i := tk.length - c.q / 2) hp
  have hrl := fun K : MM => rload_eq (hs.keep (Keep.app m K)) o (a := (pslA c p w (tk.length - c.q / 2)).toNat) (by omega)
  have hpn : (((pslA c p w (tk.length - c.q / 2)).toNat : Nat) : Int) = pslA c p w (tk.length - c.q / 2) := by omega
  rw [hpn] at hrl
  generalize hv1 : xs.getD (pslA c p w (tk.length - c.q / 2)).toNat 0 = x at hrl
  have hs1 : stepP c p g xs ⟨4, w, tk, hl⟩ = (⟨if (tk.length : Int) + 1 = c.q / 2 then 5 else 4, w, tk ++ [IntKind.i64.wrap x], hl⟩, xs) := by rw [← hv1]; rfl
  rw [hs1]
  simp only [memC, List.append_assoc, List.cons_append, List.nil_append] at hrl
  simp only [cfC] at hsl
  refine Fn_of rfl ?_
  simp (disch := first | assumption | omega | (simp only [zl] <;> omega) | (simp only [zn])) only [ref09_Step, ↓zd, zk, Nat.reduceSub, Nat.reduceAdd, Nat.reduceMul, Nat.reduceLeDiff, Nat.reduceEqDiff, reduceIte, Int.reduceEq, Int.reduceBEq, Int.reduceLE, Int.reduceLT, Int.reduceNeg, Int.reduceAdd, Int.reduceSub, Int.reduceMul, List.map, AV.cells, List.all, AV.one, eqV, eqAll, splice, fillA, List.replicate, resAll, resA, zm, zg, rpC, cfC, memC, hone, hone2, hone3, a171, htl, eq1, ev_len, hlen, eq2, a174, hsl, a64, hrl]
  obtain ⟨K, hK⟩ : ∃ K : MM, K = [Chunk.cells 12 false (rpC c p g ⟨4, w, tk, hl⟩ tv hv), .cells 2 false (memC v (IntKind.u64.wrap (o + 1))), .cells 12 false [.int .i64 0, .int .i64 0, .int .i64 0, .int .i64 0, .int .i64 0, .int .i64 0, .int .i64 0, .int .i64 0, .int .i64 0, .int .u64 0, .nils, .nils], .cells 2 false [.nils, .int .u64 0], .cells 2 false (memC v (IntKind.u64.wrap (o + 1))), .cells 6 false (cfC c), .cells 6 false (cfC c), .cells 2 false (memC v o), .cells 2 false (memC v (IntKind.u64.wrap (o + 1))), .cells 2 false (memC v o)] := ⟨_, rfl⟩
  have g0 : (m ++ K)[m.length]? = some (.cells 12 false (rpC c p g ⟨4, w, tk, hl⟩ tv hv)) := by rw [hK, get_mid0]; rfl
  have g1 : (m ++ K)[m.length + 1]? = some (.cells 2 false (memC v (IntKind.u64.wrap (o + 1)))) := by rw [hK, get_mid]; rfl
  have g2 : (m ++ K)[m.length + 2]? = some (.cells 12 false [.int .i64 0, .int .i64 0, .int .i64 0, .int .i64 0, .int .i64 0, .int .i64 0, .int .i64 0, .int .i64 0, .int .i64 0, .int .u64 0, .nils, .nils]) := by rw [hK, get_mid]; rfl
  have g3 : (m ++ K)[m.length + 3]? = some (.cells 2 false [.nils, .int .u64 0]) := by rw [hK, get_mid]; rfl
  simp only [rpC, memC, cfC, List.cons_append, List.nil_append] at hK g0 g1 g2 g3
  rw [← hK]
  have hkM := Keep.app m K
  generalize m ++ K = M at hkM g0 g1 g2 g3 ⊢
  clear hK hrl hsl hps
  obtain ⟨l1, M1, hap1, ow1, ln1, f1⟩ := own_pushs (m0 := M) (xs := []) own_nil (ht.keep hkM) (by simp) (by omega) (Nat.le_refl _)
  have k1 : Keep M M1 := ⟨ln1, fun i hi => f1 i hi (.inr hi)⟩
  rw [List.nil_append] at ow1
  obtain ⟨l2, M2, hap2, ow2, ln2, f2⟩ := own_push2 ow1 (IntKind.i64.wrap x) (by omega) ln1
  have k2 : Keep M M2 := ⟨by omega, fun i hi => by rw [f2 i (by omega) (.inr hi), k1.2 i hi]⟩
  have hsi2 := (Own.si ow2).1.ro
  have hlen2 := hsi2.len
  have h0 := k2.get g0
  have h1 := k2.get g1
  have h2 := k2.get g2
  have h3 := k2.get g3
  have lm : m.length + 3 < M2.length := (List.getElem?_eq_some_iff.1 h3).1
  have hkm : Keep m M2 := hkM.trans k2
  have hone1 := ow1.val1
  simp only [AV.one] at hone1
  have hl2 : ∃ q, l2 = .sl q 0 (tk.length + 1) none ∧ m.length ≤ q := by
    rcases ow2 with ⟨h, _⟩ | ⟨q, h, _, h2, _⟩
    · simp at h
    · exact ⟨q, by rw [h]; simp, Nat.le_trans hkM.1 h2⟩
  obtain ⟨q2, rfl, hq2m⟩ := hl2
  have hno : ∀ b, m.length ≤ b → b < m.length + 4 → ∀ ro L, M2[b]? ≠ some (.cells 1 ro L) := by
    intro b b1 b2 ro L hb
    rcases (show b = m.length ∨ b = m.length + 1 ∨ b = m.length + 2 ∨ b = m.length + 3 by omega) with rfl | rfl | rfl | rfl
    · rw [h0] at hb; cases hb
    · rw [h1] at hb; cases hb
    · rw [h2] at hb; cases hb
    · rw [h3] at hb; cases hb
  have htl2 : lenA (.sl q2 0 (tk.length + 1) none) = some (tk.length + 1) := rfl
  by_cases hq : (tk.length : Int) + 1 = c.q / 2
  · rw [if_pos hq]
    simp (disch := first | assumption | omega | (simp only [zl] <;> omega) | (simp only [zn])) only [↓zd, zk, Nat.reduceSub, Nat.reduceAdd, Nat.reduceMul, Nat.reduceLeDiff, Nat.reduceEqDiff, reduceIte, Int.reduceEq, Int.reduceBEq, Int.reduceLE, Int.reduceLT, Int.reduceNeg, Int.reduceAdd, Int.reduceSub, Int.reduceMul, List.map, AV.cells, List.all, AV.one, eqV, eqAll, splice, fillA, List.replicate, resAll, resA, zm, zg, evA, fillA, repeatL, List.flatten_cons, List.flatten_nil, hap1, hone1, hap2, h0, h1, h2, h3, ev_len, htl2, hq, hone, hone3]
    refine ⟨?_, .sl q2 0 (tk.length + 1) none, hv, v, rfl, ?_, ?_, ?_, .inr (.inr ⟨_, _, _, _, rfl, hq2m⟩), .inl rfl⟩
    · repeat' first | exact hkm | refine Keep.set ?_ (by omega) _
    · refine SLN.sl (lo := m.length) (hi := m.length + 4) ?_
      repeat' first | exact ⟨hsi2, hno⟩ | refine SLN.set ?_ (by omega) (by omega) (by intro _ _ h; cases h)
    · refine SLN.sl (lo := m.length) (hi := m.length + 4) ?_
      repeat' first | exact ⟨hh.keep hkm, hno⟩ | refine SLN.set ?_ (by omega) (by omega) (by intro _ _ h; cases h)
    · refine SLN.sl (lo := m.length) (hi := m.length + 4) ?_
      repeat' first | exact ⟨(hs.keep hkm).ro, hno⟩ | refine SLN.set ?_ (by omega) (by omega) (by intro _ _ h; cases h)
  · rw [if_neg hq]
    simp (disch := first | assumption | omega | (simp only [zl] <;> omega) | (simp only [zn])) only [↓zd, zk, Nat.reduceSub, Nat.reduceAdd, Nat.reduceMul, Nat.reduceLeDiff, Nat.reduceEqDiff, reduceIte, Int.reduceEq, Int.reduceBEq, Int.reduceLE, Int.reduceLT, Int.reduceNeg, Int.reduceAdd, Int.reduceSub, Int.reduceMul, List.map, AV.cells, List.all, AV.one, eqV, eqAll, splice, fillA, List.replicate, resAll, resA, zm, zg, evA, fillA, repeatL, List.flatten_cons, List.flatten_nil, hap1, hone1, hap2, h0, h1, h2, h3, ev_len, htl2, hq, hone, hone3]
    refine ⟨?_, .sl q2 0 (tk.length + 1) none, hv, v, rfl, ?_, ?_, ?_, .inr (.inr ⟨_, _, _, _, rfl, hq2m⟩), .inl rfl⟩
    · repeat' first | exact hkm | refine Keep.set ?_ (by omega) _
    · refine SLN.sl (lo := m.length) (hi := m.length + 4) ?_
      repeat' first | exact ⟨hsi2, hno⟩ | refine SLN.set ?_ (by omega) (by omega) (by intro _ _ h; cases h)
    · refine SLN.sl (lo := m.length) (hi := m.length + 4) ?_
      repeat' first | exact ⟨hh.keep hkm, hno⟩ | refine SLN.set ?_ (by omega) (by omega) (by intro _ _ h; cases h)
    · refine SLN.sl (lo := m.length) (hi := m.length + 4) ?_
      repeat' first | exact ⟨(hs.keep hkm).ro, hno⟩ | refine SLN.set ?_ (by omega) (by omega) (by intro _ _ h; cases h)
set_option maxHeartbeats 16000000 in
theorem rpstep5 {m : MM} {wr : Bool} {c : Cf} {p g o : Int} {s : PS} {xs : List Int} {v tv hv : AV} (hs : SU m wr xs v) (ht : SI m false s.tk tv) (hh : SI m false s.hs hv) (hok : POk c p s) (hx : OkL c xs) (ha : s.a = 5) :
    Fn Grp ref09_Step [.agg (rpC c p g s tv hv), .agg (memC v o)] m (RpP m c p g tv hv (stepP c p g xs s) (IntKind.u64.wrap (o + 1))) := by
  have a170 : assoc Grp 170 = some F10.c_ref09_Head := rfl
  have a171 : assoc Grp 171 = some F10.c_ref09_Tail := rfl
  have a172 : assoc Grp 172 = some F10.c_ref09_Word := rfl
  have a175 : assoc Grp 175 = some F10.c_ref09_Pack := rfl
  have a66 : assoc Grp 66 = some F06.c_ref06_CAS := rfl
  generalize Grp = G at a170 a171 a172 a175 a66 ⊢
  have hone := slOne hs
  have hone2 := slOne ht
  have hone3 := slOne hh
  simp only [AV.one] at hone hone2 hone3
  obtain ⟨a, w, tk, hl⟩ := s
  simp only at ha
  subst ha
  have hpl : thereP c p ∧ (tk.length : Int) = c.q / 2 := hok.a.elim (fun h => by simp at h) (fun h => ⟨h.1, by have := h.2; simp only at this; omega⟩)
  obtain ⟨hp, hlt⟩ := hpl
  have hw := hok.w
  simp only at hw ht hh
  have hb := there_bounds hp
  have hcn := cellsN_le c
  have hxl := hx.1
  have htb := tl_b w
  have hhb := hd_b hw
  have ha0 := addr_b hp (i := 0) (by omega) (by omega)
  have htl := fun m : MM => rtail_eq m hw
  have hhd := fun m : MM => rhead_eq m hw
  have hrw := fun m : MM => rword_eq m hp
  simp only [word_at hp, cfC] at hrw
  have hwt : (addrA c p 0).toNat = wrdN c p := rfl
  have hthr : thr xs (addrA c p 0) := ⟨by omega, by omega⟩
  have eq1 : c.q.tdiv 2 = c.q / 2 := Int.tdiv_eq_ediv_of_nonneg (by omega)
  have eq2 : IntKind.u32.wrap (c.q / 2) = c.q / 2 := by rw [wrap32]; omega
  have e1 : IntKind.u32.wrap (tl w - c.q / 2) = (tl w - c.q / 2) % 4294967296 := wrap32 _
  have hpk := fun m : MM => rpack_eq m (h := hd w) (t := (tl w - c.q / 2) % 4294967296) hhb.1 hhb.2 (by omega) (by omega)
  have hgw : pk (hd w) ((tl w - c.q / 2) % 4294967296) = dropW w (c.q / 2) := rfl
  have hs1 : stepP c p g xs ⟨5, w, tk, hl⟩ = (if xs.getD (wrdN c p) 0 = w then (⟨0, w, tk, tk ++ [g]⟩, xs.set (wrdN c p) (dropW w (c.q / 2))) else (⟨1, w, tk, hl⟩, xs)) := rfl
  rw [hs1]
  refine Fn_of rfl ?_
  simp (disch := first | assumption | omega | (simp only [zl] <;> omega) | (simp only [zn])) only [ref09_Step, ↓zd, zk, Nat.reduceSub, Nat.reduceAdd, Nat.reduceMul, Nat.reduceLeDiff, Nat.reduceEqDiff, reduceIte, Int.reduceEq, Int.reduceBEq, Int.reduceLE, Int.reduceLT, Int.reduceNeg, Int.reduceAdd, Int.reduceSub, Int.reduceMul, List.map, AV.cells, List.all, AV.one, eqV, eqAll, splice, fillA, List.replicate, resAll, resA, zm, zg, rpC, cfC, memC, hone, hone2, hone3, a170, hhd, a171, htl, a172, hrw, eq1, eq2, e1, a175, hpk, hgw, a66, F06.c_ref06_CAS]
  have hcas := fun K : MM => rcas_run (hs.keep (Keep.app m K)) (by omega) o hthr w (dropW w (c.q / 2))
  simp only [memC] at hcas
  refine OKT_fn (hcas _) ?_
  rintro _ M ⟨k1, v', rfl, s1⟩
  rw [hwt] at s1
  have hkM : Keep m M := (Keep.app m _).trans k1
  have g0 := k1.get (i := m.length) (by rw [get_mid0]; rfl)
  have g1 := k1.get (i := m.length + 1) (by rw [get_mid]; rfl)
  have g2 := k1.get (i := m.length + 2) (by rw [get_mid]; rfl)
  have g3 := k1.get (i := m.length + 3) (by rw [get_mid]; rfl)
  have hl1 : m.length + 3 < M.length := (List.getElem?_eq_some_iff.1 g3).1
  have hone' := slOne s1
  simp only [AV.one] at hone'
  have hno : ∀ b, m.length ≤ b → b < m.length + 4 → ∀ ro L, M[b]? ≠ some (.cells 1 ro L) := by
    intro b b1 b2 ro L hb
    rcases (show b = m.length ∨ b = m.length + 1 ∨ b = m.length + 2 ∨ b = m.length + 3 by omega) with rfl | rfl | rfl | rfl
    · rw [g0] at hb; cases hb
    · rw [g1] at hb; cases hb
    · rw [g2] at hb; cases hb
    · rw [g3] at hb; cases hb
  by_cases heq : xs.getD (wrdN c p) 0 = w
  · have hd : decide (xs.getD (addrA c p 0).toNat 0 = w) = true := by rw [hwt]; exact decide_eq_true heq
    rw [if_pos heq] at s1 ⊢
    simp (disch := first | assumption | omega | (simp only [zl] <;> omega) | (simp only [zn])) only [↓zd, zk, Nat.reduceSub, Nat.reduceAdd, Nat.reduceMul, Nat.reduceLeDiff, Nat.reduceEqDiff, reduceIte, Int.reduceEq, Int.reduceBEq, Int.reduceLE, Int.reduceLT, Int.reduceNeg, Int.reduceAdd, Int.reduceSub, Int.reduceMul, List.map, AV.cells, List.all, AV.one, eqV, eqAll, splice, fillA, List.replicate, resAll, resA, zm, zg, memC, hd, g0, g1, g2, g3, hone', hone2, hone3]
    obtain ⟨B, hB⟩ : ∃ B : MM, B = ((M.set (m.length + 1) (.cells 2 false (memC v' (IntKind.u64.wrap (o + 1))))).set m.length (.cells 12 false (rpC c p g ⟨1, w, tk, hl⟩ tv hv))).set m.length (.cells 12 false (rpC c p g ⟨0, w, tk, hl⟩ tv hv)) := ⟨_, rfl⟩
    have b0 : B[m.length]? = some (.cells 12 false (rpC c p g ⟨0, w, tk, hl⟩ tv hv)) := by rw [hB, List.getElem?_set_self (by simp only [List.length_set]; omega)]
    have b1 : B[m.length + 1]? = some (.cells 2 false (memC v' (IntKind.u64.wrap (o + 1)))) := by rw [hB, List.getElem?_set_ne (by omega), List.getElem?_set_ne (by omega), List.getElem?_set_self (by omega)]
    have b2 := g2
    rw [← List.getElem?_set_ne (show m.length + 1 ≠ m.length + 2 by omega) (a := .cells 2 false (memC v' (IntKind.u64.wrap (o + 1)))), ← List.getElem?_set_ne (show m.length ≠ m.length + 2 by omega) (a := .cells 12 false (rpC c p g ⟨1, w, tk, hl⟩ tv hv)), ← List.getElem?_set_ne (show m.length ≠ m.length + 2 by omega) (a := .cells 12 false (rpC c p g ⟨0, w, tk, hl⟩ tv hv)), ← hB] at b2
    have b3 := g3
    rw [← List.getElem?_set_ne (show m.length + 1 ≠ m.length + 3 by omega) (a := .cells 2 false (memC v' (IntKind.u64.wrap (o + 1)))), ← List.getElem?_set_ne (show m.length ≠ m.length + 3 by omega) (a := .cells 12 false (rpC c p g ⟨1, w, tk, hl⟩ tv hv)), ← List.getElem?_set_ne (show m.length ≠ m.length + 3 by omega) (a := .cells 12 false (rpC c p g ⟨0, w, tk, hl⟩ tv hv)), ← hB] at b3
    have kB : Keep m B := by rw [hB]; exact ((hkM.set (by omega) _).set (Nat.le_refl _) _).set (Nat.le_refl _) _
    have sB : SLN m.length (m.length + 4) B false (xs.set (wrdN c p) (dropW w (c.q / 2))).length (uC (xs.set (wrdN c p) (dropW w (c.q / 2)))) v' := by
      rw [hB]
      repeat' first | exact ⟨s1, hno⟩ | refine SLN.set ?_ (by omega) (by omega) (by intro _ _ h; cases h)
    simp only [rpC, memC, cfC, List.cons_append, List.nil_append] at hB b0 b1
    rw [← hB]
    clear hB g0 g1 g2 g3 hno s1 k1 hkM hcas hrw hpk
    obtain ⟨l1, M1, hap1, ow1, ln1, f1⟩ := own_pushs (m0 := B) (xs := []) own_nil (ht.keep kB) (by simp) (by omega) (Nat.le_refl _)
    have k1 : Keep B M1 := ⟨ln1, fun i hi => f1 i hi (.inr hi)⟩
    rw [List.nil_append] at ow1
    obtain ⟨l2, M2, hap2, ow2, ln2, f2⟩ := own_push2 ow1 g (by omega) ln1
    have k2 : Keep B M2 := ⟨by omega, fun i hi => by rw [f2 i (by omega) (.inr hi), k1.2 i hi]⟩
    have hsi2 := (Own.si ow2).1.ro
    have h0 := k2.get b0
    have h1 := k2.get b1
    have h2 := k2.get b2
    have h3 := k2.get b3
    have c0 := k1.get b0
    have lm : m.length + 3 < M2.length := (List.getElem?_eq_some_iff.1 h3).1
    have hkm : Keep m M2 := kB.trans k2
    have hone1 := ow1.val1
    simp only [AV.one] at hone1
    have hl2 : ∃ q, l2 = .sl q 0 (tk.length + 1) none ∧ m.length ≤ q := by
      rcases ow2 with ⟨h, _⟩ | ⟨q, h, _, h2, _⟩
      · simp at h
      · exact ⟨q, by rw [h]; simp, Nat.le_trans kB.1 h2⟩
    obtain ⟨q2, rfl, hq2m⟩ := hl2
    have hno2 : ∀ b, m.length ≤ b → b < m.length + 4 → ∀ ro L, M2[b]? ≠ some (.cells 1 ro L) := by
      intro b b1 b2 ro L hb
      rcases (show b = m.length ∨ b = m.length + 1 ∨ b = m.length + 2 ∨ b = m.length + 3 by omega) with rfl | rfl | rfl | rfl
      · rw [h0] at hb; cases hb
      · rw [h1] at hb; cases hb
      · rw [h2] at hb; cases hb
      · rw [h3] at hb; cases hb
    simp (disch := first | assumption | omega | (simp only [zl] <;> omega) | (simp only [zn])) only [↓zd, zk, Nat.reduceSub, Nat.reduceAdd, Nat.reduceMul, Nat.reduceLeDiff, Nat.reduceEqDiff, reduceIte, Int.reduceEq, Int.reduceBEq, Int.reduceLE, Int.reduceLT, Int.reduceNeg, Int.reduceAdd, Int.reduceSub, Int.reduceMul, List.map, AV.cells, List.all, AV.one, eqV, eqAll, splice, fillA, List.replicate, resAll, resA, zm, zg, evA, fillA, repeatL, List.flatten_cons, List.flatten_nil, hap1, c0, hone1, hap2, h0, h1, h2, h3, hone', hone2]
    refine ⟨?_, tv, .sl q2 0 (tk.length + 1) none, v', rfl, ?_, ?_, ?_, .inl rfl, .inr (.inr ⟨_, _, _, _, rfl, hq2m⟩)⟩
    · repeat' first | exact hkm | refine Keep.set ?_ (by omega) _
    · refine SLN.sl (lo := m.length) (hi := m.length + 4) ?_
      repeat' first | exact ⟨ht.keep hkm, hno2⟩ | refine SLN.set ?_ (by omega) (by omega) (by intro _ _ h; cases h)
    · refine SLN.sl (lo := m.length) (hi := m.length + 4) ?_
      repeat' first | exact ⟨hsi2, hno2⟩ | refine SLN.set ?_ (by omega) (by omega) (by intro _ _ h; cases h)
    · refine SLN.sl (lo := m.length) (hi := m.length + 4) ?_
      repeat' first | exact ⟨sB.sl.keep k2, hno2⟩ | refine SLN.set ?_ (by omega) (by omega) (by intro _ _ h; cases h)
  · have hd : decide (xs.getD (addrA c p 0).toNat 0 = w) = false := by rw [hwt]; exact decide_eq_false heq
    rw [if_neg heq] at s1 ⊢
    simp (disch := first | assumption | omega | (simp only [zl] <;> omega) | (simp only [zn])) only [↓zd, zk, Nat.reduceSub, Nat.reduceAdd, Nat.reduceMul, Nat.reduceLeDiff, Nat.reduceEqDiff, reduceIte, Int.reduceEq, Int.reduceBEq, Int.reduceLE, Int.reduceLT, Int.reduceNeg, Int.reduceAdd, Int.reduceSub, Int.reduceMul, List.map, AV.cells, List.all, AV.one, eqV, eqAll, splice, fillA, List.replicate, resAll, resA, zm, zg, memC, hd, g0, g1, g2, g3, hone', hone2, hone3]
    refine ⟨?_, tv, hv, v', rfl, ?_, ?_, ?_, .inl rfl, .inl rfl⟩
    · repeat' first | exact hkM | refine Keep.set ?_ (by omega) _
    · refine SLN.sl (lo := m.length) (hi := m.length + 4) ?_
      repeat' first | exact ⟨ht.keep hkM, hno⟩ | refine SLN.set ?_ (by omega) (by omega) (by intro _ _ h; cases h)
    · refine SLN.sl (lo := m.length) (hi := m.length + 4) ?_
      repeat' first | exact ⟨hh.keep hkM, hno⟩ | refine SLN.set ?_ (by omega) (by omega) (by intro _ _ h; cases h)
    · refine SLN.sl (lo := m.length) (hi := m.length + 4) ?_
      repeat' first | exact ⟨s1, hno⟩ | refine SLN.set ?_ (by omega) (by omega) (by intro _ _ h; cases h)
theorem rpstep_run {m : MM} {wr : Bool} {c : Cf} {p g o : Int} {s : PS} {xs : List Int} {v tv hv : AV} (hs : SU m wr xs v) (ht : SI m false s.tk tv) (hh : SI m false s.hs hv) (hok : POk c p s) (hx : s.a = 0 ∨ OkL c xs) :
    Fn Grp ref09_Step [.agg (rpC c p g s tv hv), .agg (memC v o)] m (RpP m c p g tv hv (stepP c p g xs s) (opsP s o)) := by
  by_cases h0 : s.a = 0
  · rw [stepP_zero h0, opsP, if_pos h0]
    have a171 : assoc Grp 171 = some F10.c_ref09_Tail := rfl
    generalize Grp = G at a171 ⊢
    have hone := slOne hs
    have hone2 := slOne ht
    have hone3 := slOne hh
    simp only [AV.one] at hone hone2 hone3
    have htl := fun m : MM => rtail_eq m hok.w
    refine Fn_of rfl ?_
    simp (disch := first | assumption | omega | (simp only [zl] <;> omega) | (simp only [zn])) only [ref09_Step, ↓zd, zk, Nat.reduceSub, Nat.reduceAdd, Nat.reduceMul, Nat.reduceLeDiff, Nat.reduceEqDiff, reduceIte, Int.reduceEq, Int.reduceBEq, Int.reduceLE, Int.reduceLT, Int.reduceNeg, Int.reduceAdd, Int.reduceSub, Int.reduceMul, List.map, AV.cells, List.all, AV.one, eqV, eqAll, splice, fillA, List.replicate, resAll, resA, zm, zg, rpC, cfC, memC, hone, hone2, hone3, a171, htl, h0]
    exact ⟨Keep.app _ _, tv, hv, v, by rw [rpC, cfC, h0]; rfl, ht.keep (.app _ _), hh.keep (.app _ _), (hs.keep (.app _ _)).ro, .inl rfl, .inl rfl⟩
  · have hx' := hx.resolve_left h0
    rw [opsP, if_neg h0]
    have hka := hok.a
    rcases (show s.a = 1 ∨ s.a = 2 ∨ s.a = 3 ∨ s.a = 4 ∨ s.a = 5 by omega) with ha | ha | ha | ha | ha
    · exact rpstep1 hs ht hh hok hx' ha
    · exact rpstep2 hs ht hh hok hx' ha
    · exact rpstep3 hs ht hh hok hx' ha
    · exact rpstep4 hs ht hh hok hx' ha
    · exact rpstep5 hs ht hh hok hx' ha
end Go.Am.F09
end
section
namespace Go.Am.F09
open Go.Am.F06 Go.Am.F10
def okN (c : Cf) (p g : Int) : Prop := thereP c p ∧ 0 ≤ g
instance (c : Cf) (p g : Int) : Decidable (okN c p g) := by unfold okN; infer_instance
def ncC (c : Cf) (p g : Int) : Cf := if okN c p g then c else zeroC
def ncP (c : Cf) (p g : Int) : Int := if okN c p g then p else 0
def ncG (c : Cf) (p g : Int) : Int := if okN c p g then g else 0
def RnP (m : MM) (c : Cf) (p g : Int) (r : AV) (m' : MM) : Prop := Keep m m' ∧ ∃ hv, r = .agg (rpC (ncC c p g) (ncP c p g) (ncG c p g) (newS c p g) .nils hv) ∧ SI m' false (newS c p g).hs hv
set_option maxHeartbeats 8000000 in
theorem rpnew_run {m : MM} {c : Cf} {p g : Int} : Fn [(169, F10.c_ref09_There)] ref09_New [.agg (cfC c), .int .i64 p, .int .i64 g] m (RnP m c p g) := by
  have a169 : assoc [(169, F10.c_ref09_There (X := Ob))] 169 = some F10.c_ref09_There := rfl
  generalize [(169, F10.c_ref09_There (X := Ob))] = G at a169 ⊢
  have hr := fun K : MM => rthere_eq (m ++ K) c p
  simp only [cfC, List.append_assoc, List.cons_append, List.nil_append] at hr
  refine Fn_of rfl ?_
  by_cases h : thereP c p
  · simp only [decide_eq_true h] at hr
    by_cases hg : 0 ≤ g
    · have hk : okN c p g := ⟨h, hg⟩
      have hn : newS c p g = ⟨1, 0, [], [g]⟩ := if_pos hk
      unfold RnP ncC ncP ncG
      rw [hn, if_pos hk, if_pos hk, if_pos hk]
      simp (disch := first | assumption | omega | (simp only [zl] <;> omega) | (simp only [zn])) only [ref09_New, ↓zd, zk, Nat.reduceSub, Nat.reduceAdd, Nat.reduceMul, Nat.reduceLeDiff, Nat.reduceEqDiff, reduceIte, Int.reduceEq, Int.reduceBEq, Int.reduceLE, Int.reduceLT, Int.reduceNeg, Int.reduceAdd, Int.reduceSub, Int.reduceMul, List.map, AV.cells, List.all, AV.one, eqV, eqAll, splice, fillA, List.replicate, resAll, resA, zm, zg, cfC, a169, hr, evA, fillA, repeatL, List.flatten_cons, List.flatten_nil]
      refine ⟨.app _ _, _, rfl, ⟨rfl, .inr ⟨_, _, _, rfl, fun _ => ⟨false, _, by rw [get_mid]; rfl, rfl, by simp, fun h => by cases h⟩⟩⟩⟩
    · have hk : ¬ okN c p g := fun h => hg h.2
      have hn : newS c p g = ⟨0, 0, [], []⟩ := if_neg hk
      unfold RnP ncC ncP ncG
      rw [hn, if_neg hk, if_neg hk, if_neg hk]
      simp (disch := first | assumption | omega | (simp only [zl] <;> omega) | (simp only [zn])) only [ref09_New, ↓zd, zk, Nat.reduceSub, Nat.reduceAdd, Nat.reduceMul, Nat.reduceLeDiff, Nat.reduceEqDiff, reduceIte, Int.reduceEq, Int.reduceBEq, Int.reduceLE, Int.reduceLT, Int.reduceNeg, Int.reduceAdd, Int.reduceSub, Int.reduceMul, List.map, AV.cells, List.all, AV.one, eqV, eqAll, splice, fillA, List.replicate, resAll, resA, zm, zg, cfC, a169, hr]
      exact ⟨.app _ _, .nils, rfl, Sl.nil⟩
  · simp only [decide_eq_false h] at hr
    have hk : ¬ okN c p g := fun hh => h hh.1
    have hn : newS c p g = ⟨0, 0, [], []⟩ := if_neg hk
    unfold RnP ncC ncP ncG
    rw [hn, if_neg hk, if_neg hk, if_neg hk]
    simp (disch := first | assumption | omega | (simp only [zl] <;> omega) | (simp only [zn])) only [ref09_New, ↓zd, zk, Nat.reduceSub, Nat.reduceAdd, Nat.reduceMul, Nat.reduceLeDiff, Nat.reduceEqDiff, reduceIte, Int.reduceEq, Int.reduceBEq, Int.reduceLE, Int.reduceLT, Int.reduceNeg, Int.reduceAdd, Int.reduceSub, Int.reduceMul, List.map, AV.cells, List.all, AV.one, eqV, eqAll, splice, fillA, List.replicate, resAll, resA, zm, zg, cfC, a169, hr]
    exact ⟨.app _ _, .nils, rfl, Sl.nil⟩
def Gpk : List (Nat × AFun Ob) := [(87, F10.c_kit_Pick), (22, memF storeS), (65, F06.c_ref06_Store)]
def PkP (m : MM) (j : Nat) (x : Pk) (xs : List Int) (o : Int) (r : AV) (m' : MM) : Prop := KeepB j m m' ∧ ∃ v' xs' o' st', r = .agg (memC v' o') ∧ SU m' false xs' v' ∧ m'[j]? = some (.abs (.mem st')) ∧ RelM xs' o' st' ∧ (∀ c, OkL c xs → W64 x.v → OkL c xs') ∧ o ≤ o' ∧ o' ≤ o + 1
set_option maxHeartbeats 8000000 in
theorem poked_run {m : MM} {wr : Bool} {j : Nat} {x : Pk} {xs : List Int} {o : Int} {v : AV} {st : MemSt} (hj : m[j]? = some (.abs (.mem st))) (hr : RelM xs o st) (hs : SU m wr xs v) (hn : xs.length ≤ 65536) (h0 : 0 ≤ o) (h1 : o ≤ 10000) :
    Fn Gpk law09_poked [.ptr j 0, .agg (memC v o), .agg (pkC x)] m (PkP m j x xs o) := by
  have a87 : assoc Gpk 87 = some F10.c_kit_Pick := rfl
  have a22 : assoc Gpk 22 = some (memF storeS) := rfl
  have a65 : assoc Gpk 65 = some F06.c_ref06_Store := rfl
  generalize Gpk = G at a87 a22 a65 ⊢
  have hone := slOne hs
  simp only [AV.one] at hone
  have hlen := hs.len
  have lj : j < m.length := (List.getElem?_eq_some_iff.1 hj).1
  have same : ∀ K : MM, PkP m j x xs o (.agg (memC v o)) (m ++ K) := fun K => ⟨.of (.app _ _), v, xs, o, st, rfl, (hs.keep (.app _ _)).ro, (Keep.app m K).get hj, hr, fun _ h _ => h, by omega, by omega⟩
  simp only [memC] at same
  refine Fn_of rfl ?_
  cases hd : x.d with
  | false =>
    simp (disch := first | assumption | omega | (simp only [zl] <;> omega) | (simp only [zn])) only [law09_poked, ↓zd, zk, Nat.reduceSub, Nat.reduceAdd, Nat.reduceMul, Nat.reduceLeDiff, Nat.reduceEqDiff, reduceIte, Int.reduceEq, Int.reduceBEq, Int.reduceLE, Int.reduceLT, Int.reduceNeg, Int.reduceAdd, Int.reduceSub, Int.reduceMul, List.map, AV.cells, List.all, AV.one, eqV, eqAll, splice, fillA, List.replicate, resAll, resA, zm, zg, memC, pkC, hone, hd]
    exact same _
  | true =>
    rcases Nat.eq_zero_or_pos xs.length with hz | hz
    · rw [hz] at hlen
      simp (disch := first | assumption | omega | (simp only [zl] <;> omega) | (simp only [zn])) only [law09_poked, ↓zd, zk, Nat.reduceSub, Nat.reduceAdd, Nat.reduceMul, Nat.reduceLeDiff, Nat.reduceEqDiff, reduceIte, Int.reduceEq, Int.reduceBEq, Int.reduceLE, Int.reduceLT, Int.reduceNeg, Int.reduceAdd, Int.reduceSub, Int.reduceMul, List.map, AV.cells, List.all, AV.one, eqV, eqAll, splice, fillA, List.replicate, resAll, resA, zm, zg, memC, pkC, hone, hd, ev_len, hlen, Int.ofNat_zero]
      exact same _
    · have hpick := fun m : MM => F10.pick_eq m x.a xs.length (by omega) (by omega)
      have hm0 := Int.emod_nonneg x.a (b := (xs.length : Int)) (by omega)
      have hm1 := Int.emod_lt_of_pos x.a (b := (xs.length : Int)) (by omega)
      have hthr : thr xs (x.a % (xs.length : Int)) := ⟨hm0, hm1⟩
      obtain ⟨st9, r9, _, f22, _⟩ := hr.storeE hthr x.v
      have f22' := fun K => f22 m K j hj
      simp (disch := first | assumption | omega | (simp only [zl] <;> omega) | (simp only [zn])) only [law09_poked, ↓zd, zk, Nat.reduceSub, Nat.reduceAdd, Nat.reduceMul, Nat.reduceLeDiff, Nat.reduceEqDiff, reduceIte, Int.reduceEq, Int.reduceBEq, Int.reduceLE, Int.reduceLT, Int.reduceNeg, Int.reduceAdd, Int.reduceSub, Int.reduceMul, List.map, AV.cells, List.all, AV.one, eqV, eqAll, splice, fillA, List.replicate, resAll, resA, zm, zg, memC, pkC, hone, hd, ev_len, hlen, a87, hpick, a22, f22', a65, F06.c_ref06_Store]
      have nj : ∀ ro L, m[j]? ≠ some (.cells 1 ro L) := fun ro L h => by rw [hj] at h; cases h
      have hst := fun K : MM => refstore_run ((Sl.put hs nj (.abs (.mem st9))).keep (Keep.app _ K)) (by omega) o (x.a % (xs.length : Int)) x.v
      simp only [memC] at hst
      refine OK_fn (hst _) ?_
      rintro _ m1 ⟨k1, v', rfl, s1⟩
      simp only [if_pos hthr] at s1 ⊢
      have hl := k1.1
      simp only [List.length_append, List.length_set, List.length_cons, List.length_nil] at hl
      have g2 := k1.get (i := m.length + 2) (c := .cells 2 false [.nils, .int .u64 0]) (by rw [show m.length + 2 = (m.set j (.abs (.mem st9))).length + 2 by simp, get_mid]; rfl)
      have gj := k1.get (i := j) (c := .abs (.mem st9)) (by rw [List.getElem?_append_left (by simpa using lj), List.getElem?_set_self lj])
      have l2 : m.length + 2 < m1.length := (List.getElem?_eq_some_iff.1 g2).1
      have hone' := slOne s1
      simp only [AV.one] at hone'
      have hw : IntKind.u64.wrap (o + 1) = o + 1 := wrapU (by omega) (by omega)
      rw [hw] at r9
      simp (disch := first | assumption | omega | (simp only [zl] <;> omega) | (simp only [zn])) only [↓zd, zk, Nat.reduceSub, Nat.reduceAdd, Nat.reduceMul, Nat.reduceLeDiff, Nat.reduceEqDiff, reduceIte, Int.reduceEq, Int.reduceBEq, Int.reduceLE, Int.reduceLT, Int.reduceNeg, Int.reduceAdd, Int.reduceSub, Int.reduceMul, List.map, AV.cells, List.all, AV.one, eqV, eqAll, splice, fillA, List.replicate, resAll, resA, zm, zg, memC, g2, hone', hw]
      refine ⟨⟨by simp only [List.length_set]; omega, fun i hi hne => ?_⟩, v', _, o + 1, st9, rfl, Sl.put s1 (fun ro L h => by rw [g2] at h; cases h) _, ?_, r9, fun c hc hv => hc.set _ hv, by omega, by omega⟩
      · rw [List.getElem?_set_ne (by omega), k1.2 i (by simp; omega), List.getElem?_append_left (by simpa using hi), List.getElem?_set_ne (fun h => hne h.symm)]
      · rw [List.getElem?_set_ne (by omega)]; exact gj
theorem si_put {m : MM} {xs : List Int} {q o n : Nat} {cap : Option Nat} {L : List AV} (h : SI m true xs (.sl q o n cap)) (hq : m[q]? = some (.cells 1 false L)) {i : Nat} (hi : i < xs.length) (x : Int) : SI (m.set q (.cells 1 false (L.set (o + i) (.int .i64 x)))) true (xs.set i x) (.sl q o n cap) := by
  obtain ⟨hlen, hsl⟩ := h
  rcases hsl with ⟨h, _⟩ | ⟨q', o', cap', h, h5⟩
  · cases h
  · injection h with e1 e2 e3 e4; subst e1; subst e2; subst e3; subst e4
    obtain ⟨ro, L', d1, d2, d3, d4⟩ := h5 (by omega)
    rw [hq] at d1; injection d1 with d1; injection d1 with _ _ d1; subst d1
    refine ⟨by simp [iC_len], .inr ⟨q, o, cap, by rw [List.length_set], fun _ => ⟨false, _, List.getElem?_set_self (List.getElem?_eq_some_iff.1 hq).1, ?_, by simpa using d3, fun _ => rfl⟩⟩⟩
    rw [List.length_set, List.drop_set, if_neg (by omega), List.take_set, d2, iC, iC, List.map_set]
    congr 1; omega
end Go.Am.F09
end
section
namespace Go.Am.F09
open Go.Am.F06 Go.Am.F10
def Gpy : List (Nat × AFun Ob) := [(184, pureF worksG), (134, F10.c_docs_Filled), (135, amFunc F10.Gmem F10.docs_Mem), (185, c_put_New), (147, F10.c_docs_Config), (189, c_ref09_New), (190, amFunc Gpo put_Put_Hands), (187, amFunc Gpo put_Put_Over), (84, F10.c_kit_SameInts), (191, c_put_Put_Done), (68, amFunc F10.Gsmem F10.docs_SameMem), (46, memF fun s rest => (opsAsk s rest).map fun v => (v, s)), (192, amFunc Grp ref09_Step), (186, amFunc Gpst put_Put_Step), (193, amFunc Gpk law09_poked)]
def pyB : AC := match sqN 4 law09_PutPlays.body with | .seq _ (.block _ (.loop b)) => b | _ => .skip
def pyC : AC := match pyB with | .seq c _ => c | _ => .skip
def pyX : AC := match pyB with | .seq _ (.seq (.block _ r) _) => r | _ => .skip
def pyI : AC := match pyB with | .seq _ (.seq _ i) => i | _ => .skip
def pyT : AC := sqN 2 pyX
def pyU : AC := sqT 3 pyX
def pyE : AC := sqT 5 law09_PutPlays.body
theorem pplays_body : law09_PutPlays = { nloc := 31, npar := 5, res := [.loc 6], body := .seq (sqN 0 law09_PutPlays.body) (.seq (sqN 1 law09_PutPlays.body) (.seq (sqN 2 law09_PutPlays.body) (.seq (sqN 3 law09_PutPlays.body) (.seq (.seq (.region [⟨.mov, [.c (.int .i64 0)], some 11, none⟩]) (.block 0 (.loop (.seq pyC (.seq (.block 1 (.seq (sqN 0 pyX) (.seq (sqN 1 pyX) (.seq pyT pyU)))) pyI))))) pyE)))) } := rfl
structure Fl (mm M : MM) (n : Nat) (h : AV) (B : Nat) : Prop where
  keep : Keep mm M
  row : ∃ ys : List Int, ys.length = n ∧ SI M true ys h
  lo : Fr mm.length h
  hi : ∀ q o cap, h = .sl q o n cap → 0 < n → q < B
  len : lenA h = some n
theorem Fl.put {mm M : MM} {n : Nat} {h : AV} {B k : Nat} (hf : Fl mm M n h B) (hk : k < n) (x : Int) : ∃ q o cap L, h = .sl q o n cap ∧ M[q]? = some (.cells 1 false L) ∧ o + k < L.length ∧ mm.length ≤ q ∧ q < B ∧ Fl mm (M.set q (.cells 1 false (L.set (o + k) (.int .i64 x)))) n h B := by
  obtain ⟨hk0, ⟨ys, rfl, hs⟩, hlo, hhi, hln⟩ := hf
  obtain ⟨q, o, cap, ro, L, rfl, h2, h3, h4, h5⟩ := hs.at (by omega)
  have := h5 rfl
  subst this
  have hq : mm.length ≤ q := by
    rcases hlo with h | ⟨_, _, _, _, h, h'⟩
    · cases h
    · injection h with e1; omega
  exact ⟨q, o, cap, L, rfl, h2, by omega, hq, hhi _ _ _ rfl (by omega), hk0.set hq _, ⟨ys.set k x, by simp, si_put hs h2 hk x⟩, hlo, hhi, hln⟩
def PtE (c0 : Cf) (p g : Int) (bv lv : AV) (cb j rb xj yb i : Nat) (ov : AV) (e : List AV) : Prop := ∃ z13 z14 z15 z16 z17 z18 z19 z20 z21 z22 z23 z24 z25 z26 z27 z28 z29 z30 : AV,
  e = [.agg (cfC c0), .int .i64 p, .int .i64 g, bv, lv, .ptr cb 0, .bool false, .ptr j 0, .ptr rb 0, .ptr xj 0, .ptr yb 0, .int .i64 i, ov, z13, z14, z15, z16, z17, z18, z19, z20, z21, z22, z23, z24, z25, z26, z27, z28, z29, z30]
def PtI (m0 : MM) (c0 : Cf) (p g : Int) (bv lv : AV) (cb j rb xj yb i : Nat) (ov : AV) (k : Nat) (e : List AV) (m : MM) : Prop := ∃ (t : Nat) (z14 z15 z16 z17 z18 z19 z20 z21 z22 z23 z24 z25 z26 z27 z28 z29 z30 : AV),
  e = [.agg (cfC c0), .int .i64 p, .int .i64 g, bv, lv, .ptr cb 0, .bool false, .ptr j 0, .ptr rb 0, .ptr xj 0, .ptr yb 0, .int .i64 i, ov, .int .i64 t, z14, z15, z16, z17, z18, z19, z20, z21, z22, z23, z24, z25, z26, z27, z28, z29, z30] ∧ k = 2 - t ∧ t ≤ 2 ∧ Keep m0 m
def FhI (mm M1 : MM) (c0 : Cf) (p g : Int) (bv lv : AV) (cb j rb xj yb i t n : Nat) (ov h o : AV) (B : Nat) (k : Nat) (e : List AV) (m : MM) : Prop := ∃ (u : Nat) (z17 z18 z19 z20 z21 z22 z23 z24 z25 z26 z27 z28 z29 z30 : AV),
  e = [.agg (cfC c0), .int .i64 p, .int .i64 g, bv, lv, .ptr cb 0, .bool false, .ptr j 0, .ptr rb 0, .ptr xj 0, .ptr yb 0, .int .i64 i, ov, .int .i64 t, h, o, .int .i64 u, z17, z18, z19, z20, z21, z22, z23, z24, z25, z26, z27, z28, z29, z30] ∧ k = n - u ∧ u ≤ n ∧ Fl mm m n h B ∧ M1.length ≤ m.length ∧ ∀ a, a < M1.length → B ≤ a → m[a]? = M1[a]?
def FoI (mm : MM) (c0 : Cf) (p g : Int) (bv lv : AV) (cb j rb xj yb i t n : Nat) (ov h o z16 : AV) (B : Nat) (k : Nat) (e : List AV) (m : MM) : Prop := ∃ (u : Nat) (z18 z19 z20 z21 z22 z23 z24 z25 z26 z27 z28 z29 z30 : AV),
  e = [.agg (cfC c0), .int .i64 p, .int .i64 g, bv, lv, .ptr cb 0, .bool false, .ptr j 0, .ptr rb 0, .ptr xj 0, .ptr yb 0, .int .i64 i, ov, .int .i64 t, h, o, z16, .int .i64 u, z18, z19, z20, z21, z22, z23, z24, z25, z26, z27, z28, z29, z30] ∧ k = n - u ∧ u ≤ n ∧ Fl mm m n o B
set_option maxHeartbeats 16000000 in
theorem pyT_run {m : MM} {c0 c c' : Cf} {p g p1 p' g1 g' : Int} {bv lv ov tv hv ytv yhv : AV} {cb j rb xj yb i qt : Nat} {s : PS} {z13 z14 z15 z16 z17 z18 z19 z20 z21 z22 z23 z24 z25 z26 z27 z28 z29 z30 : AV}
    (hpm : PM m xj c p1 g1 s qt tv hv) (hy : m[yb]? = some (.cells 12 false (rpC c' p' g' s ytv yhv))) (hyh : SI m false s.hs yhv) (hl : s.hs.length ≤ 100) (hov : SI m false (if s.a = 0 then s.hs else []) ov) :
    W Gpy pyT (fun x e m' => x = .normal ∧ Keep m m' ∧ PtE c0 p g bv lv cb j rb xj yb i ov e) [.agg (cfC c0), .int .i64 p, .int .i64 g, bv, lv, .ptr cb 0, .bool false, .ptr j 0, .ptr rb 0, .ptr xj 0, .ptr yb 0, .int .i64 i, ov, z13, z14, z15, z16, z17, z18, z19, z20, z21, z22, z23, z24, z25, z26, z27, z28, z29, z30] m := by
  have a190 : assoc Gpy 190 = some (amFunc Gpo put_Put_Hands) := rfl
  have a187 : assoc Gpy 187 = some (amFunc Gpo put_Put_Over) := rfl
  have a84 : assoc Gpy 84 = some F10.c_kit_SameInts := rfl
  have hse : F10.c_kit_SameInts (X := Ob) = amFunc [] F10.kit_SameInts := rfl
  have hl2 : (if s.a = 0 then s.hs else []).length ≤ 100 := by
    split
    · exact hl
    · simp
  generalize Gpy = G at a190 a187 a84 ⊢
  simp (disch := first | assumption | omega | (simp only [zl] <;> omega) | (simp only [zn])) only [pyT, pyX, pyB, sqN, law09_PutPlays, ↓zd, zk, Nat.reduceSub, Nat.reduceAdd, Nat.reduceMul, Nat.reduceLeDiff, Nat.reduceEqDiff, reduceIte, Int.reduceEq, Int.reduceBEq, Int.reduceLE, Int.reduceLT, Int.reduceNeg, Int.reduceAdd, Int.reduceSub, Int.reduceMul, List.map, AV.cells, List.all, AV.one, eqV, eqAll, splice, fillA, List.replicate, resAll, resA, zm, zg]
  refine W_loop (PtI m c0 p g bv lv cb j rb xj yb i ov) 2 (by simp only [FUEL]; omega) ⟨0, _, _, _, _, _, _, _, _, _, _, _, _, _, _, _, _, _, rfl, rfl, by omega, .refl _⟩ ?_
  rintro k e mm ⟨t, y14, y15, y16, y17, y18, y19, y20, y21, y22, y23, y24, y25, y26, y27, y28, y29, y30, rfl, rfl, ht, hk⟩
  rcases Nat.lt_or_ge t 2 with h2 | h2
  · simp (disch := first | assumption | omega | (simp only [zl] <;> omega) | (simp only [zn])) only [↓zd, zk, Nat.reduceSub, Nat.reduceAdd, Nat.reduceMul, Nat.reduceLeDiff, Nat.reduceEqDiff, reduceIte, Int.reduceEq, Int.reduceBEq, Int.reduceLE, Int.reduceLT, Int.reduceNeg, Int.reduceAdd, Int.reduceSub, Int.reduceMul, List.map, AV.cells, List.all, AV.one, eqV, eqAll, splice, fillA, List.replicate, resAll, resA, zm, zg, a190]
    refine OK_fn (phands_run (PM.keep hpm hk) (by omega)) ?_
    rintro h m1 ⟨k1, s1, f1⟩
    have hk1 := hk.trans k1
    simp (disch := first | assumption | omega | (simp only [zl] <;> omega) | (simp only [zn])) only [↓zd, zk, Nat.reduceSub, Nat.reduceAdd, Nat.reduceMul, Nat.reduceLeDiff, Nat.reduceEqDiff, reduceIte, Int.reduceEq, Int.reduceBEq, Int.reduceLE, Int.reduceLT, Int.reduceNeg, Int.reduceAdd, Int.reduceSub, Int.reduceMul, List.map, AV.cells, List.all, AV.one, eqV, eqAll, splice, fillA, List.replicate, resAll, resA, zm, zg, a187]
    refine OK_fn (pover_run (PM.keep hpm hk1) (by omega)) ?_
    rintro o m2 ⟨k2, s2, f2⟩
    have hk2 := hk1.trans k2
    have s1' := s1.keep k2
    have hy2 := hk2.get hy
    have e1 := Fn_eq (same_run s1' (hyh.keep hk2) (by simp only [FUEL]; omega))
    have e2 := Fn_eq (same_run s2 (hov.keep hk2) (by simp only [FUEL]; omega))
    rw [← hse] at e1 e2
    simp only [decide_true] at e1 e2
    simp only [rpC, cfC, List.cons_append, List.nil_append] at hy2
    simp (disch := first | assumption | omega | (simp only [zl] <;> omega) | (simp only [zn])) only [↓zd, zk, Nat.reduceSub, Nat.reduceAdd, Nat.reduceMul, Nat.reduceLeDiff, Nat.reduceEqDiff, reduceIte, Int.reduceEq, Int.reduceBEq, Int.reduceLE, Int.reduceLT, Int.reduceNeg, Int.reduceAdd, Int.reduceSub, Int.reduceMul, List.map, AV.cells, List.all, AV.one, eqV, eqAll, splice, fillA, List.replicate, resAll, resA, zm, zg, hy2, a84, e1, e2]
    generalize s.hs = hs at s1' s1 hl
    generalize (if s.a = 0 then _ else _) = os at s2 hl2
    refine W_loop (FhI mm m2 c0 p g bv lv cb j rb xj yb i t hs.length ov h o m1.length) hs.length (by simp only [FUEL]; omega) ⟨0, _, _, _, _, _, _, _, _, _, _, _, _, _, _, rfl, rfl, by omega, ⟨k1.trans k2, ⟨hs, rfl, s1'⟩, f1, fun q oo cap hq h0 => (Sl.lt s1 hq h0).1, s1.len⟩, Nat.le_refl _, fun _ _ _ => rfl⟩ ?_
    rintro k e M ⟨u, w17, w18, w19, w20, w21, w22, w23, w24, w25, w26, w27, w28, w29, w30, rfl, rfl, hu, hF, hlM, hM⟩
    have hln := hF.len
    rcases Nat.lt_or_ge u hs.length with hu2 | hu2
    · obtain ⟨q, oo, cap, L, rfl, b1, b2, b3, b4, hF'⟩ := hF.put hu2 77
      simp (disch := first | assumption | omega | (simp only [zl] <;> omega) | (simp only [zn])) only [↓zd, zk, Nat.reduceSub, Nat.reduceAdd, Nat.reduceMul, Nat.reduceLeDiff, Nat.reduceEqDiff, reduceIte, Int.reduceEq, Int.reduceBEq, Int.reduceLE, Int.reduceLT, Int.reduceNeg, Int.reduceAdd, Int.reduceSub, Int.reduceMul, List.map, AV.cells, List.all, AV.one, eqV, eqAll, splice, fillA, List.replicate, resAll, resA, zm, zg, ev_len, hln, b1]
      refine ⟨hs.length - (u + 1), by omega, u + 1, _, _, _, _, _, _, _, _, _, _, _, _, _, _, rfl, rfl, by omega, hF', by simpa using hlM, fun a ha hB => by rw [List.getElem?_set_ne (by omega)]; exact hM a ha hB⟩
    · simp (disch := first | assumption | omega | (simp only [zl] <;> omega) | (simp only [zn])) only [↓zd, zk, Nat.reduceSub, Nat.reduceAdd, Nat.reduceMul, Nat.reduceLeDiff, Nat.reduceEqDiff, reduceIte, Int.reduceEq, Int.reduceBEq, Int.reduceLE, Int.reduceLT, Int.reduceNeg, Int.reduceAdd, Int.reduceSub, Int.reduceMul, List.map, AV.cells, List.all, AV.one, eqV, eqAll, splice, fillA, List.replicate, resAll, resA, zm, zg, ev_len, hln]
      have so : SI M true os o := Sl.stay s2 fun q oo cap hq h0 => by
        refine hM q (Sl.lt s2 hq h0).1 ?_
        rcases f2 with h | ⟨_, _, _, _, h, h'⟩
        · rw [h] at hq; cases hq
        · rw [h] at hq; injection hq with e1; omega
      have hFo : Fl mm M os.length o M.length := ⟨hF.keep, ⟨os, rfl, so⟩, by
        rcases f2 with h | ⟨_, _, _, _, h, h'⟩
        · exact .inl h
        · exact .inr ⟨_, _, _, _, h, Nat.le_trans k1.1 h'⟩, fun q oo cap hq h0 => (Sl.lt so hq h0).1, so.len⟩
      refine W_loop (FoI mm c0 p g bv lv cb j rb xj yb i t os.length ov h o _ M.length) os.length (by simp only [FUEL]; omega) ⟨0, _, _, _, _, _, _, _, _, _, _, _, _, _, rfl, rfl, by omega, hFo⟩ ?_
      rintro k e M2 ⟨u2, v18, v19, v20, v21, v22, v23, v24, v25, v26, v27, v28, v29, v30, rfl, rfl, hu3, hG⟩
      have hlo := hG.len
      rcases Nat.lt_or_ge u2 os.length with hu4 | hu4
      · obtain ⟨q, oo, cap, L, rfl, b1, b2, b3, b4, hG'⟩ := hG.put hu4 77
        simp (disch := first | assumption | omega | (simp only [zl] <;> omega) | (simp only [zn])) only [↓zd, zk, Nat.reduceSub, Nat.reduceAdd, Nat.reduceMul, Nat.reduceLeDiff, Nat.reduceEqDiff, reduceIte, Int.reduceEq, Int.reduceBEq, Int.reduceLE, Int.reduceLT, Int.reduceNeg, Int.reduceAdd, Int.reduceSub, Int.reduceMul, List.map, AV.cells, List.all, AV.one, eqV, eqAll, splice, fillA, List.replicate, resAll, resA, zm, zg, ev_len, hlo, b1]
        exact ⟨os.length - (u2 + 1), by omega, u2 + 1, _, _, _, _, _, _, _, _, _, _, _, _, _, rfl, rfl, by omega, hG'⟩
      · simp (disch := first | assumption | omega | (simp only [zl] <;> omega) | (simp only [zn])) only [↓zd, zk, Nat.reduceSub, Nat.reduceAdd, Nat.reduceMul, Nat.reduceLeDiff, Nat.reduceEqDiff, reduceIte, Int.reduceEq, Int.reduceBEq, Int.reduceLE, Int.reduceLT, Int.reduceNeg, Int.reduceAdd, Int.reduceSub, Int.reduceMul, List.map, AV.cells, List.all, AV.one, eqV, eqAll, splice, fillA, List.replicate, resAll, resA, zm, zg, ev_len, hlo]
        exact ⟨2 - (t + 1), by omega, t + 1, _, _, _, _, _, _, _, _, _, _, _, _, _, _, _, _, _, rfl, rfl, by omega, hk.trans hG.keep⟩
  · simp (disch := first | assumption | omega | (simp only [zl] <;> omega) | (simp only [zn])) only [↓zd, zk, Nat.reduceSub, Nat.reduceAdd, Nat.reduceMul, Nat.reduceLeDiff, Nat.reduceEqDiff, reduceIte, Int.reduceEq, Int.reduceBEq, Int.reduceLE, Int.reduceLT, Int.reduceNeg, Int.reduceAdd, Int.reduceSub, Int.reduceMul, List.map, AV.cells, List.all, AV.one, eqV, eqAll, splice, fillA, List.replicate, resAll, resA, zm, zg]
    exact ⟨hk, _, _, _, _, _, _, _, _, _, _, _, _, _, _, _, _, _, _, rfl⟩
end Go.Am.F09
end
section
namespace Go.Am.F09
open Go.Am.F06 Go.Am.F10
theorem PM.norm {m : MM} {xj : Nat} {c : Cf} {p g : Int} {s : PS} {qt : Nat} {tv hv : AV} (h : PM m xj c p g s qt tv hv) : ∃ qt', PM m xj c p g s qt' tv hv ∧ (qt' = xj ∨ (qt' = qt ∧ ∃ l, m[qt]? = some (.cells 1 false (iC l)))) := by
  have hx : ∀ ro L, m[xj]? ≠ some (.cells 1 ro L) := fun ro L hh => by rw [h.get] at hh; cases hh
  by_cases ha : s.a = 4 ∨ s.a = 5
  · rcases h.t ha with ht | ⟨h0, h1, h2⟩
    · exact ⟨xj, ⟨h.get, fun _ => .inl ht, h.one, h.h, si_box h.h hx⟩, .inl rfl⟩
    · exact ⟨qt, h, .inr ⟨rfl, _, h2⟩⟩
  · exact ⟨xj, ⟨h.get, fun hh => absurd hh ha, h.one, h.h, si_box h.h hx⟩, .inl rfl⟩
theorem su_off {m : MM} {wr : Bool} {xs : List Int} {v : AV} (hs : SU m wr xs v) {b : Nat} {l : List Int} (hb : m[b]? = some (.cells 1 false (iC l))) : Off b v := by
  intro q o n c hv h0 hq
  rcases hs.2 with ⟨h1, _⟩ | ⟨q2, o2, c2, h1, h2⟩
  · rw [h1] at hv; cases hv
  · rw [h1] at hv; injection hv with e1 e2 e3 e4; subst e1; subst e3; subst hq
    obtain ⟨ro, L, h3, h4⟩ := h2 h0
    rw [hb] at h3; injection h3 with h3; injection h3 with _ _ h3
    subst h3
    have h5 := sl_get h4.1 (j := 0) (by omega)
    rw [iC, uC, List.getElem?_map, List.getElem?_map] at h5
    obtain ⟨x, hx⟩ : ∃ x, xs[0]? = some x := ⟨_, List.getElem?_eq_getElem h0⟩
    rw [hx] at h5
    cases hy : l[o2 + 0]? with
    | none => rw [hy] at h5; cases h5
    | some y => rw [hy] at h5; cases h5
theorem su_box2 {m : MM} {wr : Bool} {xs : List Int} {v : AV} (hs : SU m wr xs v) {b : Nat} (hb : ∀ ro L, m[b]? ≠ some (.cells 1 ro L)) : Off b v := by
  intro q o n c hv h0 hq
  obtain ⟨_, ro, L, h⟩ := Sl.lt (n := xs.length) hs (by rw [hv]; congr 1; have := hs.len; rw [hv] at this; simpa [lenA] using this) (by
    have := hs.len; rw [hv] at this; simp only [lenA, Option.some.injEq] at this; omega) (q := q) (o := o) (cap := c)
  exact hb ro L (by rw [← hq]; exact h)
structure PyS (m0 : MM) (c0 c c' : Cf) (p p' g g' : Int) (cb j rb xj yb : Nat) (ps : List Pk) (lv : AV) (s : PS) (xs : List Int) (o : Int) (tv hv ytv yhv v : AV) (qt : Nat) (m : MM) : Prop where
  k0 : Keep m0 m
  pm : PM m xj c p g s qt tv hv
  qr : qt = xj ∨ ∃ l, m[qt]? = some (.cells 1 false (iC l))
  bq : m0.length ≤ qt
  mem : ∃ st, m[j]? = some (.abs (.mem st)) ∧ RelM xs o st
  ref : m[rb]? = some (.cells 2 false (memC v o))
  su : SU m false xs v
  y : m[yb]? = some (.cells 12 false (rpC c' p' g' s ytv yhv))
  yt : SI m false s.tk ytv
  yh : SI m false s.hs yhv
  ot : Off qt ytv
  oh : Off qt yhv
  ok : POk c p s
  okL : OkL c xs
  cc : s.a = 0 ∨ (c' = c ∧ p' = p ∧ g' = g)
  ps : SPk m false ps lv
theorem PyS.keep {m0 m m' : MM} {c0 c c' : Cf} {p p' g g' : Int} {cb j rb xj yb : Nat} {ps : List Pk} {lv : AV} {s : PS} {xs : List Int} {o : Int} {tv hv ytv yhv v : AV} {qt : Nat} (h : PyS m0 c0 c c' p p' g g' cb j rb xj yb ps lv s xs o tv hv ytv yhv v qt m) (k : Keep m m') : PyS m0 c0 c c' p p' g g' cb j rb xj yb ps lv s xs o tv hv ytv yhv v qt m' := by
  obtain ⟨st, hj, hr⟩ := h.mem
  exact ⟨h.k0.trans k, PM.keep h.pm k, h.qr.imp id (fun ⟨l, hl⟩ => ⟨l, k.get hl⟩), h.bq, ⟨st, k.get hj, hr⟩, k.get h.ref, h.su.keep k, k.get h.y, h.yt.keep k, h.yh.keep k, h.ot, h.oh, h.ok, h.okL, h.cc, h.ps.keep k⟩
structure PyB (m0 : MM) (c : Cf) (p g : Int) (j xj : Nat) (ps : List Pk) (lv : AV) (s : PS) (xs : List Int) (o : Int) (tv hv : AV) (qt : Nat) (m : MM) : Prop where
  k0 : Keep m0 m
  pm : PM m xj c p g s qt tv hv
  qr : qt = xj ∨ ∃ l, m[qt]? = some (.cells 1 false (iC l))
  bq : m0.length ≤ qt
  mem : ∃ st, m[j]? = some (.abs (.mem st)) ∧ RelM xs o st
  ok : POk c p s
  okL : OkL c xs
  ps : SPk m false ps lv
theorem PyS.b {m0 m : MM} {c0 c c' : Cf} {p p' g g' : Int} {cb j rb xj yb : Nat} {ps : List Pk} {lv : AV} {s : PS} {xs : List Int} {o : Int} {tv hv ytv yhv v : AV} {qt : Nat} (h : PyS m0 c0 c c' p p' g g' cb j rb xj yb ps lv s xs o tv hv ytv yhv v qt m) : PyB m0 c p g j xj ps lv s xs o tv hv qt m := ⟨h.k0, h.pm, h.qr, h.bq, h.mem, h.ok, h.okL, h.ps⟩
theorem PyB.ne {m0 m : MM} {c : Cf} {p g : Int} {j xj : Nat} {ps : List Pk} {lv : AV} {s : PS} {xs : List Int} {o : Int} {tv hv : AV} {qt : Nat} (h : PyB m0 c p g j xj ps lv s xs o tv hv qt m) {b sz : Nat} {L : List AV} (hb : m[b]? = some (.cells sz false L)) (h1 : sz ≠ 1) (h2 : sz ≠ 13) : b ≠ xj ∧ b ≠ j ∧ b ≠ qt := by
  obtain ⟨st, hj, _⟩ := h.mem
  refine ⟨fun hh => ?_, fun hh => ?_, fun hh => ?_⟩
  · rw [hh, h.pm.get] at hb; injection hb with hb; injection hb with hb; exact h2 hb.symm
  · rw [hh, hj] at hb; cases hb
  · rcases h.qr with hq | ⟨l, hl⟩
    · rw [hh, hq, h.pm.get] at hb; injection hb with hb; injection hb with hb; exact h2 hb.symm
    · rw [hh, hl] at hb; injection hb with hb; injection hb with hb; exact h1 hb.symm
theorem PyS.ne {m0 m : MM} {c0 c c' : Cf} {p p' g g' : Int} {cb j rb xj yb : Nat} {ps : List Pk} {lv : AV} {s : PS} {xs : List Int} {o : Int} {tv hv ytv yhv v : AV} {qt : Nat} (h : PyS m0 c0 c c' p p' g g' cb j rb xj yb ps lv s xs o tv hv ytv yhv v qt m) {b sz : Nat} {L : List AV} (hb : m[b]? = some (.cells sz false L)) (h1 : sz ≠ 1) (h2 : sz ≠ 13) : b ≠ xj ∧ b ≠ j ∧ b ≠ qt := h.b.ne hb h1 h2
theorem PyB.keep {m0 m m' : MM} {c : Cf} {p g : Int} {j xj : Nat} {ps : List Pk} {lv : AV} {s : PS} {xs : List Int} {o : Int} {tv hv : AV} {qt : Nat} (h : PyB m0 c p g j xj ps lv s xs o tv hv qt m) (k : Keep m m') : PyB m0 c p g j xj ps lv s xs o tv hv qt m' := by
  obtain ⟨st, hj, hr⟩ := h.mem
  exact ⟨h.k0.trans k, PM.keep h.pm k, h.qr.imp id (fun ⟨l, hl⟩ => ⟨l, k.get hl⟩), h.bq, ⟨st, k.get hj, hr⟩, h.ok, h.okL, h.ps.keep k⟩
theorem PyB.setb {m0 m : MM} {c : Cf} {p g : Int} {j xj : Nat} {ps : List Pk} {lv : AV} {s : PS} {xs : List Int} {o : Int} {tv hv : AV} {qt : Nat} (h : PyB m0 c p g j xj ps lv s xs o tv hv qt m) {b sz : Nat} {L : List AV} (hb : m[b]? = some (.cells sz false L)) (h1 : sz ≠ 1) (h2 : sz ≠ 13) (h3 : sz ≠ 3) (h0 : m0.length ≤ b) (C : Chunk Ob) : PyB m0 c p g j xj ps lv s xs o tv hv qt (m.set b C) := by
  obtain ⟨e1, e2, e3⟩ := h.ne hb h1 h2
  obtain ⟨st, hj, hr⟩ := h.mem
  have hn : ∀ z, z ≠ sz → ∀ ro L, m[b]? ≠ some (.cells z ro L) := fun z hz ro L hh => by rw [hb] at hh; injection hh with hh; injection hh with hh; exact hz hh.symm
  exact ⟨h.k0.set h0 _, PM.stay h.pm (fun i _ hi => List.getElem?_set_ne (fun hh => hi hh.symm)) (fun hh => e1 hh.symm) (fun hh => e3 hh.symm) (si_box h.pm.h (hn 1 (fun hh => h1 hh.symm))), h.qr.imp id (fun ⟨l, hl⟩ => ⟨l, by rw [List.getElem?_set_ne e3]; exact hl⟩), h.bq, ⟨st, by rw [List.getElem?_set_ne e2]; exact hj, hr⟩, h.ok, h.okL, Sl.put h.ps (hn 3 (fun hh => h3 hh.symm)) _⟩
theorem PyB.step {m0 m m' : MM} {c0 c c' : Cf} {p p' g g' : Int} {cb j rb xj yb : Nat} {ps : List Pk} {lv : AV} {s s' : PS} {xs xs' : List Int} {o o' : Int} {tv hv : AV} {qt : Nat} (h : PyB m0 c p g j xj ps lv s xs o tv hv qt m)
    (hx0 : m0.length ≤ xj) (hj0 : m0.length ≤ j) {ytv' yhv' v' : AV} (hy : m[yb]? = some (.cells 12 false (rpC c' p' g' s' ytv' yhv'))) (hyt : SI m false s'.tk ytv') (hyh : SI m false s'.hs yhv') (hot : Off qt ytv') (hoh : Off qt yhv') (hv' : SU m false xs' v') (hrb : m[rb]? = some (.cells 2 false (memC v' o'))) (hok : POk c p s') (hokL : OkL c xs') (hcc : s'.a = 0 ∨ (c' = c ∧ p' = p ∧ g' = g)) {r : AV} (hP : PsP m c p g xj j qt hv (s', xs') o' r m') :
    r = .bool (decide (s'.a = 0)) ∧ ∃ tv2 hv2 qt2, PyS m0 c0 c c' p p' g g' cb j rb xj yb ps lv s' xs' o' tv2 hv2 ytv' yhv' v' qt2 m' := by
  obtain ⟨rfl, k1, tv2, hv2, qt', hpm, hq, hh, st', hj', hr'⟩ := hP
  obtain ⟨st, hj, hr⟩ := h.mem
  obtain ⟨qt2, hpm2, hq2⟩ := PM.norm hpm
  have hnx : ∀ ro L, m[xj]? ≠ some (.cells 1 ro L) := fun ro L hh => by rw [h.pm.get] at hh; cases hh
  have hnj : ∀ ro L, m[j]? ≠ some (.cells 1 ro L) := fun ro L hh => by rw [hj] at hh; cases hh
  have hl := k1.1
  have hk0 := h.k0.1
  have hbox : ∀ {b sz : Nat} {L : List AV}, m[b]? = some (.cells sz false L) → sz ≠ 1 → sz ≠ 13 → m'[b]? = some (.cells sz false L) := fun hb h1 h2 => by
    obtain ⟨e1, e2, e3⟩ := h.ne hb h1 h2
    rw [k1.2 _ (List.getElem?_eq_some_iff.1 hb).1 e1 e2 e3]; exact hb
  have hsoff : Off qt v' := by
    rcases h.qr with hq | ⟨l, hl⟩
    · rw [hq]; exact su_box2 hv' hnx
    · exact su_off hv' hl
  have hqt2 : qt2 = xj ∨ (m.length ≤ qt2 ∧ qt2 < m'.length) ∨ qt2 = qt := by
    rcases hq2 with h1 | ⟨h1, _⟩
    · exact .inl h1
    · rw [h1]; exact hq
  have hoff2 : ∀ {w : AV} {n : Nat} {l : List AV}, Sl m false 1 n l w → Off qt w → Off qt2 w := fun {w n l} hs ho => by
    have hlen := hs.len
    have hlt : ∀ q o k cap, w = .sl q o k cap → 0 < k → q < m.length ∧ ∃ ro L, m[q]? = some (.cells 1 ro L) := fun q o k cap hw hk => by
      rw [hw] at hlen; simp only [lenA, Option.some.injEq] at hlen; subst hlen
      exact Sl.lt hs hw hk
    rcases hqt2 with e | ⟨e, _⟩ | e
    · rw [e]; intro q o k cap hw hk hh
      obtain ⟨_, ro, L, h3⟩ := hlt q o k cap hw hk
      exact hnx ro L (by rw [← hh]; exact h3)
    · intro q o k cap hw hk hh
      have := (hlt q o k cap hw hk).1
      omega
    · rw [e]; exact ho
  refine ⟨rfl, tv2, hv2, qt2, ⟨⟨by omega, fun i hi => ?_⟩, hpm2, ?_, ?_, ⟨st', hj', hr'⟩, hbox hrb (by decide) (by decide), k1.si hnx hnj hv' hsoff, hbox hy (by decide) (by decide), k1.si hnx hnj hyt hot, k1.si hnx hnj hyh hoh, hoff2 hyt hot, hoff2 hyh hoh, hok, hokL, hcc, ?_⟩⟩
  · have := h.bq
    rw [k1.2 i (by omega) (by omega) (by omega) (by omega), h.k0.2 i hi]
  · rcases hq2 with h1 | ⟨h1, l, h2⟩
    · exact .inl h1
    · exact .inr ⟨l, by rw [h1]; exact h2⟩
  · have := h.bq
    rcases hqt2 with e | ⟨e, _⟩ | e <;> omega
  · refine Sl.stay h.ps fun q o cap hw h0 => ?_
    obtain ⟨h1, ro, L, h2⟩ := Sl.lt h.ps hw h0
    have e1 : q ≠ xj := fun hh => by rw [hh, h.pm.get] at h2; cases h2
    have e2 : q ≠ j := fun hh => by rw [hh, hj] at h2; cases h2
    have e3 : q ≠ qt := fun hh => by
      rcases h.qr with hq | ⟨l, hl⟩
      · exact e1 (by rw [hh, hq])
      · rw [hh, hl] at h2; cases h2
    exact k1.2 q h1 e1 e2 e3
end Go.Am.F09
end
section
namespace Go.Am.F10
open Go.Am.F06
variable {X : Type}
theorem pk_of {as : List AV} (hl : as.length = 3) {d : Bool} {a v : Int} (h0 : as[0]? = some (.bool d)) (h1 : as[1]? = some (.int .i64 a)) (h2 : as[2]? = some (.int .u64 v)) : as = pkC ⟨d, a, v⟩ := by
  match as, hl with
  | [x, y, z], _ =>
    simp only [List.getElem?_cons_zero, List.getElem?_cons_succ, Option.some.injEq] at h0 h1 h2
    subst h0; subst h1; subst h2; rfl
end Go.Am.F10
end
