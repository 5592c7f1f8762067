/- The plain law behind SliceTells: what a look tells, and the runs of looks. -/
import Derived.Test.YtfiogjimbhgacaaXP18
import Derived.Test.YtfiogjimbhgacaaXAmKit
set_option linter.unusedSimpArgs false
set_option linter.unusedVariables false
namespace Go.Am.F18

/-- From k up to i each look is of the kind, with i's number. -/
def R (act : Nat → Prop) (val : Nat → Int) (i k : Nat) : Prop := k ≤ i ∧ ∀ j, k ≤ j → j ≤ i → act j ∧ val j = val i

theorem R_self {act : Nat → Prop} {val : Nat → Int} {i : Nat} (h : act i) : R act val i i := by
  refine ⟨Nat.le_refl _, fun j h1 h2 => ?_⟩
  have : j = i := by omega
  subst this; exact ⟨h, rfl⟩
theorem R_down {act : Nat → Prop} {val : Nat → Int} {i k : Nat} (h : R act val (i + 1) k) (hk : k ≤ i) : R act val i k ∧ val i = val (i + 1) :=
  ⟨⟨hk, fun j h1 h2 => ⟨(h.2 j h1 (by omega)).1, (h.2 j h1 (by omega)).2.trans (h.2 i hk (by omega)).2.symm⟩⟩, (h.2 i hk (by omega)).2⟩
theorem R_up {act : Nat → Prop} {val : Nat → Int} {i k : Nat} (h : R act val i k) (ha : act (i + 1)) (hv : val i = val (i + 1)) : R act val (i + 1) k :=
  ⟨by have := h.1; omega, fun j h1 h2 => by
    by_cases hj : j = i + 1
    · subst hj; exact ⟨ha, rfl⟩
    · have := h.2 j h1 (by omega); exact ⟨this.1, this.2.trans hv⟩⟩

/-- What a count knows ahead of look i. -/
def RunInv (act : Nat → Prop) (val : Nat → Int) (S : Nat → Int) : Nat → Bool → Int → Int → Prop
  | 0, ok, _, _ => ok = false
  | j + 1, ok, v, t => (act j ∧ ok = true ∧ v = val j ∧ ∃ a, t = S (a + 1) ∧ R act val j a ∧ ∀ k, R act val j k → a ≤ k) ∨ (¬ act j ∧ ok = false)

theorem run_step {act : Nat → Prop} {val : Nat → Int} {S : Nat → Int} {i : Nat} {ok : Bool} {v t : Int} (h : RunInv act val S i ok v t) (ha : act i) :
    RunInv act val S (i + 1) true (val i) (if ok = true ∧ v = val i then t else S (i + 1)) := by
  refine .inl ⟨ha, rfl, rfl, ?_⟩
  cases i with
  | zero =>
    simp only [RunInv] at h; subst h
    exact ⟨0, by simp, R_self ha, fun k _ => Nat.zero_le _⟩
  | succ i =>
    rcases h with ⟨h1, h2, h3, a, h4, h5, h6⟩ | ⟨h1, h2⟩
    · by_cases hv : v = val (i + 1)
      · refine ⟨a, by simp [h2, hv, h4], R_up h5 ha (by rw [← h3, hv]), fun k hk => ?_⟩
        by_cases hki : k ≤ i
        · exact h6 k (R_down hk hki).1
        · have := h5.1; have := hk.1; omega
      · refine ⟨i + 1, by simp [hv], R_self ha, fun k hk => ?_⟩
        by_cases hki : k ≤ i
        · exact absurd (h3.trans (R_down hk hki).2) hv
        · have := hk.1; omega
    · refine ⟨i + 1, by simp [h2], R_self ha, fun k hk => ?_⟩
      by_cases hki : k ≤ i
      · exact absurd (hk.2 i hki (by omega)).1 h1
      · have := hk.1; omega

theorem run_not {act : Nat → Prop} {val : Nat → Int} {S : Nat → Int} {i : Nat} {v t : Int} (ha : ¬ act i) : RunInv act val S (i + 1) false v t := .inr ⟨ha, rfl⟩

theorem run_old {act : Nat → Prop} {val : Nat → Int} {S : Nat → Int} (hS : ∀ a b, a ≤ b → S a ≤ S b) (h0 : ∀ a, 0 ≤ S a) {i : Nat} (hi : S (i + 1) < 9223372036854775808) {ok : Bool} {v t : Int} (h : RunInv act val S (i + 1) ok v t) :
    oldP ok t (S (i + 1)) = true ↔ ∃ k, R act val i k ∧ 10000000 ≤ S (i + 1) - S (k + 1) := by
  rcases h with ⟨h1, rfl, h3, a, rfl, h5, h6⟩ | ⟨h1, rfl⟩
  · have ha := hS (a + 1) (i + 1) (by have := h5.1; omega)
    have := h0 (a + 1)
    have hw : IntKind.i64.wrap ((if S (i + 1) > 0 then S (i + 1) else 0) - if S (a + 1) > 0 then S (a + 1) else 0) = S (i + 1) - S (a + 1) := by
      rw [wrapI] <;> (repeat' split) <;> omega
    simp only [oldP, hw, Bool.true_and, decide_eq_true_eq]
    constructor
    · intro h; exact ⟨a, h5, h⟩
    · rintro ⟨k, hk, hd⟩
      have := hS (a + 1) (k + 1) (by have := h6 k hk; omega)
      omega
  · simp only [oldP, Bool.false_and, Bool.false_eq_true, false_iff]
    rintro ⟨k, hk, _⟩
    exact h1 (hk.2 i hk.1 (Nat.le_refl _)).1

structure Gl where
  stat : Int
  tick : Int
  sys : Int
  now : Int

def D (x : Int) : Int := (x.tmod 20000000 + 20000000).tmod 20000000
theorem tm_lt (x : Int) : -20000000 < x.tmod 20000000 ∧ x.tmod 20000000 < 20000000 := by
  refine ⟨?_, Int.tmod_lt_of_pos _ (by omega)⟩
  have := Int.tmod_lt_of_pos (-x) (b := 20000000) (by omega)
  rw [Int.neg_tmod] at this
  omega
theorem D_bd (x : Int) : 0 ≤ D x ∧ D x < 20000000 := by
  have := tm_lt x
  refine ⟨Int.tmod_nonneg _ (by omega), (tm_lt _).2⟩

/-- The time ahead of look i. -/
def S (g : Nat → Gl) : Nat → Int
  | 0 => 0
  | i + 1 => S g i + D (g i).now
theorem S_mono (g : Nat → Gl) : ∀ a b, a ≤ b → S g a ≤ S g b := by
  intro a b h
  induction h with
  | refl => exact Int.le_refl _
  | step _ ih => have := D_bd (g ‹_›).now; simp only [S]; omega
theorem S_nonneg (g : Nat → Gl) (a : Nat) : 0 ≤ S g a := S_mono g 0 a (Nat.zero_le _)
theorem S_le (g : Nat → Gl) : ∀ a : Nat, S g a ≤ a * 20000000
  | 0 => by simp [S]
  | a + 1 => by have := D_bd (g a).now; have := S_le g a; simp only [S]; omega

def active (g : Nat → Gl) (j : Nat) : Prop := (g j).stat = 1 ∨ (g j).stat = 2
def calling (g : Nat → Gl) (j : Nat) : Prop := (g j).stat = 2
def tick (g : Nat → Gl) (j : Nat) : Int := (g j).tick
def sys (g : Nat → Gl) (j : Nat) : Int := (g j).sys

def Inv (g : Nat → Gl) (i : Nat) (s : Seen) : Prop := RunInv (active g) (tick g) (S g) i s.is s.tick s.tickAt ∧ RunInv (calling g) (sys g) (S g) i s.call s.sys s.sysAt

theorem inv_zero (g : Nat → Gl) : Inv g 0 ⟨false, 0, 0, false, 0, 0⟩ := ⟨rfl, rfl⟩

def slowP (g : Nat → Gl) (i : Nat) : Prop := ∃ k, R (active g) (tick g) i k ∧ 10000000 ≤ S g (i + 1) - S g (k + 1)
def callP (g : Nat → Gl) (i : Nat) : Prop := ∃ k, R (calling g) (sys g) i k ∧ 10000000 ≤ S g (i + 1) - S g (k + 1)

theorem look_law {g : Nat → Gl} {i : Nat} (hi : i ≤ 60) {s : Seen} (h : Inv g i s) :
    Inv g (i + 1) (look s (g i).stat (g i).tick (g i).sys (S g (i + 1))).1 ∧
    ((callP g i → (look s (g i).stat (g i).tick (g i).sys (S g (i + 1))).2 = 2) ∧ (¬ callP g i → slowP g i → (look s (g i).stat (g i).tick (g i).sys (S g (i + 1))).2 = 1) ∧
      (¬ callP g i → ¬ slowP g i → (look s (g i).stat (g i).tick (g i).sys (S g (i + 1))).2 = 0)) := by
  have hlt : S g (i + 1) < 9223372036854775808 := by have := S_le g (i + 1); omega
  obtain ⟨ht, hc⟩ := h
  by_cases h1 : (g i).stat = 1
  · have ha : active g i := .inl h1
    have hnc : ¬ calling g i := by simp [calling, h1]
    have ht' := run_step ht ha
    have hc' : RunInv (calling g) (sys g) (S g) (i + 1) false 0 0 := run_not hnc
    have o := run_old (S_mono g) (S_nonneg g) hlt ht'
    have o2 := run_old (S_mono g) (S_nonneg g) hlt hc'
    have hoff : ¬ callP g i := by rintro ⟨k, hk, _⟩; exact hnc (hk.2 i hk.1 (Nat.le_refl _)).1
    simp only [look, h1, if_true]
    refine ⟨⟨ht', hc'⟩, fun h => absurd h hoff, fun _ h => ?_, fun _ h => ?_⟩
    · exact if_pos (o.2 h)
    · exact if_neg (fun k => h (o.1 k))
  · by_cases h2 : (g i).stat = 2
    · have ha : active g i := .inr h2
      have hca : calling g i := h2
      have ht' := run_step ht ha
      have hc' := run_step hc hca
      have o := run_old (S_mono g) (S_nonneg g) hlt ht'
      have o2 := run_old (S_mono g) (S_nonneg g) hlt hc'
      have h21 : ¬ ((2 : Int) = 1) := by omega
      simp only [look, h2, if_true, if_neg h21]
      refine ⟨⟨ht', hc'⟩, fun h => ?_, fun h' h => ?_, fun h' h => ?_⟩
      · exact if_pos (o2.2 h)
      · exact (if_neg (fun k => h' (o2.1 k))).trans (if_pos (o.2 h))
      · exact (if_neg (fun k => h' (o2.1 k))).trans (if_neg (fun k => h (o.1 k)))
    · have ha : ¬ active g i := by simp [active, h1, h2]
      have hca : ¬ calling g i := h2
      simp only [look, if_neg h1, if_neg h2]
      refine ⟨⟨run_not ha, run_not hca⟩, ?_, ?_, ?_⟩
      · rintro ⟨k, hk, _⟩; exact absurd (hk.2 i hk.1 (Nat.le_refl _)).1 hca
      · rintro _ ⟨k, hk, _⟩; exact absurd (hk.2 i hk.1 (Nat.le_refl _)).1 ha
      · intros; first | rfl | trivial
end Go.Am.F18
