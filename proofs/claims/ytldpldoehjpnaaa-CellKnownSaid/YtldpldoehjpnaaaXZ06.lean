/- A copy of a memory, told as one abstract chunk. -/
import Derived.Test.YtldpldoehjpnaaaXY06
set_option linter.unusedSimpArgs false
set_option linter.unusedVariables false
namespace Go.Am.F06

def rho3 (n a b : Nat) (c : Option Nat) : Nat → Option Nat := fun j => if j < n then some j else if j = a then some n else if j = b then some (n + 1) else if c = some j then some (n + 2) else none

theorem fold_three {f : AFun Ob} {args : List AV} {m mh : MM} {i a b : Nat} {c : Option Nat} {s : MemSt} {root root' : Chunk Ob} (hi : i < m.length) (hrun : f args m = some (.ptr a 0, mh)) (ha : m.length + 2 ≤ a) (hb : m.length + 2 ≤ b) (hab : a ≠ b) (hc : ∀ q, c = some q → m.length + 2 ≤ q ∧ q ≠ a ∧ q ≠ b ∧ mh[q]? = some (.cells 4 false (s.log.flatMap accC)))
    (hra : mh[a]? = some root) (hren : renC (rho3 m.length a b c) root = some root') (hrb : mh[b]? = some (.cells 1 false (uC s.cells))) (hk : ∀ j, j < m.length → j ≠ i → mh[j]? = m[j]?) (hat : MemAt mh i m.length (m.length + 1) s) :
    ∃ ρ γ v0 m0, FoldAt concM f ρ γ v0 m0 args m (.ptr m.length 0) (m.set i (.abs (.mem s)) ++ [root', .cells 1 false (uC s.cells), .cells 4 false (s.log.flatMap accC)]) := by
  have key : ∀ j x, rho3 m.length a b c j = some x → (j < m.length ∧ x = j) ∨ (j = a ∧ x = m.length) ∨ (j = b ∧ x = m.length + 1) ∨ (c = some j ∧ x = m.length + 2) := by
    intro j x h
    unfold rho3 at h
    repeat' split at h
    all_goals first | (injection h with h; subst h; simp_all) | cases h
  refine fold_memK (k1 := m.length) (k2 := m.length + 1) (ρ := rho3 m.length a b c) hi hrun ?_ (fun j hj => if_pos hj) (fun j x hj hle => ?_) (fun j j' x h1 h2 => ?_) ⟨?_, ?_⟩ hk (by omega) (by omega) (by omega) hat
  · have : rho3 m.length a b c a = some m.length := by unfold rho3; rw [if_neg (by omega), if_pos rfl]
    simp [AV.ren, this]
  · rcases key j x hj with ⟨h, _⟩ | ⟨rfl, rfl⟩ | ⟨rfl, rfl⟩ | ⟨h, rfl⟩
    · omega
    · exact ⟨Nat.le_refl _, by simp, by omega, by omega, _, _, hra, hren, by simp⟩
    · exact ⟨by omega, by simp, by omega, by omega, _, _, hrb, by simp only [renC, uC, renL_map (f := AV.int .u64) (fun _ => rfl)]; rfl, by simp [uC]⟩
    · obtain ⟨q1, q2, q3, q4⟩ := hc _ h
      exact ⟨by omega, by simp, by omega, by omega, _, _, q4, by simp only [renC, renL_accs]; rfl, by simp⟩
  · rcases key j x h1 with ⟨a1, a2⟩ | ⟨a1, a2⟩ | ⟨a1, a2⟩ | ⟨a1, a2⟩ <;> rcases key j' x h2 with ⟨b1, b2⟩ | ⟨b1, b2⟩ | ⟨b1, b2⟩ | ⟨b1, b2⟩ <;> first | omega | (rw [a1] at b1; injection b1)
  · unfold rho3
    rw [if_neg (by omega), if_neg (by omega), if_neg (by omega), if_neg]
    intro h; have := (hc _ h).1; omega
  · unfold rho3
    rw [if_neg (by omega), if_neg (by omega), if_neg (by omega), if_neg]
    intro h; have := (hc _ h).1; omega

def rootC (n : Nat) (s : MemSt) : Chunk Ob := .cells 8 false (rootL s (if s.log = [] then .nils else .sl (n + 2) 0 s.log.length none) (if s.cells = [] then .sl (n + 1) 0 0 (some 0) else .sl (n + 1) 0 s.cells.length none))
def midF : AFun Ob := fun args m => match args with
  | [.ptr i 0] => match m[i]? with
    | some (.abs (.mem s)) => if s.cells.length ≤ 65536 ∧ s.log.length ≤ 65536 then some (.ptr m.length 0, m.set i (.abs (.mem s)) ++ [rootC m.length s, .cells 1 false (uC s.cells), .cells 4 false (s.log.flatMap accC)]) else none
    | _ => none
  | _ => none

set_option maxHeartbeats 4000000 in
theorem mid_fold : Fold concM (unf 0 plM c_cell_Mem_Copy) midF := by
  intro args m v m' hg
  unfold midF at hg
  split at hg
  case h_2 => cases hg
  rename_i i
  split at hg
  case h_2 => cases hg
  rename_i s hs
  split at hg
  case isFalse => cases hg
  rename_i hb
  simp only [Option.some.injEq, Prod.mk.injEq] at hg
  obtain ⟨rfl, rfl⟩ := hg
  have hi : i < m.length := (List.getElem?_eq_some_iff.1 hs).1
  have hu : ∀ w, (unf 0 plM c_cell_Mem_Copy) [.ptr i 0] m = w ↔ c_cell_Mem_Copy [.ptr i 0] (m.set i (plM (.mem s) i m.length).1 ++ (plM (.mem s) i m.length).2) = w := fun w => by simp only [unf, List.getElem?_cons_zero, hs]
  have hat : ∀ J : MM, MemAt (m.set i (plM (.mem s) i m.length).1 ++ ((plM (.mem s) i m.length).2 ++ J)) i m.length (m.length + 1) s := fun J => ⟨⟨_, ms_root hi _ _, .inl rfl⟩, fun _ => by rw [ms_mid0]; rfl, fun _ => by rw [ms_mid]; rfl⟩
  have hlt : ∀ k, ¬ (m.length + k < m.length) := fun k => by omega
  by_cases h0 : s.cells = []
  · by_cases h1 : s.log = []
    · obtain ⟨_, _, hr, rfl, rfl⟩ := copy_run00 hi hb.1 hb.2 h0 h1
      refine fold_three (a := m.length + 3) (b := m.length + 2) (c := none) hi ((hu _).2 hr) (by omega) (by omega) (by omega) (fun q h => by cases h) (by rw [ms_mid]; rfl) ?_ (by rw [ms_mid, h0]; rfl) (fun j hj hji => ms_other hj hji _ _) (hat _)
      simp [renC, rootC, rootL, AV.renL, AV.ren, rho3, h0, h1, hlt]
    · obtain ⟨_, _, hr, rfl, rfl⟩ := copy_run01 hi hb.1 hb.2 h0 h1
      refine fold_three (a := m.length + 3) (b := m.length + 2) (c := some (m.length + 5)) hi ((hu _).2 hr) (by omega) (by omega) (by omega) (fun q h => by injection h with h; subst h; exact ⟨by omega, by omega, by omega, by rw [ms_mid]; rfl⟩) (by rw [ms_mid]; rfl) ?_ (by rw [ms_mid, h0]; rfl) (fun j hj hji => ms_other hj hji _ _) (hat _)
      simp [renC, rootC, rootL, AV.renL, AV.ren, rho3, h0, h1, hlt]
  · by_cases h1 : s.log = []
    · obtain ⟨_, _, hr, rfl, rfl⟩ := copy_run10 hi hb.1 hb.2 h0 h1
      refine fold_three (a := m.length + 4) (b := m.length + 3) (c := none) hi ((hu _).2 hr) (by omega) (by omega) (by omega) (fun q h => by cases h) (by rw [ms_mid]; rfl) ?_ (by rw [ms_mid]; rfl) (fun j hj hji => ms_other hj hji _ _) (hat _)
      simp [renC, rootC, rootL, AV.renL, AV.ren, rho3, h0, h1, hlt]
    · obtain ⟨_, _, hr, rfl, rfl⟩ := copy_run11 hi hb.1 hb.2 h0 h1
      refine fold_three (a := m.length + 4) (b := m.length + 3) (c := some (m.length + 6)) hi ((hu _).2 hr) (by omega) (by omega) (by omega) (fun q h => by injection h with h; subst h; exact ⟨by omega, by omega, by omega, by rw [ms_mid]; rfl⟩) (by rw [ms_mid]; rfl) ?_ (by rw [ms_mid]; rfl) (fun j hj hji => ms_other hj hji _ _) (hat _)
      simp [renC, rootC, rootL, AV.renL, AV.ren, rho3, h0, h1, hlt]

def copyF : AFun Ob := fun args m => match args with
  | [.ptr i 0] => match m[i]? with
    | some (.abs (.mem s)) => if s.cells.length ≤ 65536 ∧ s.log.length ≤ 65536 then some (.ptr m.length 0, m ++ [.abs (.mem { s with ck := false, pre := [] })]) else none
    | _ => none
  | _ => none

theorem set_same {m : MM} {i : Nat} {c : Chunk Ob} (h : m[i]? = some c) : m.set i c = m := by
  apply List.ext_getElem?
  intro j
  by_cases hj : i = j
  · subst hj; rw [List.getElem?_set_self (List.getElem?_eq_some_iff.1 h).1, h]
  · rw [List.getElem?_set_ne hj]

theorem copy_fold : Fold concM midF copyF := by
  intro args m v m' hg
  unfold copyF at hg
  split at hg
  case h_2 => cases hg
  rename_i i
  split at hg
  case h_2 => cases hg
  rename_i s hs
  split at hg
  case isFalse => cases hg
  rename_i hb
  simp only [Option.some.injEq, Prod.mk.injEq] at hg
  obtain ⟨rfl, rfl⟩ := hg
  have hrun : midF [.ptr i 0] m = some (.ptr m.length 0, m ++ [rootC m.length s, .cells 1 false (uC s.cells), .cells 4 false (s.log.flatMap accC)]) := by
    simp only [midF, hs]
    rw [if_pos hb, set_same hs]
  refine fold_new (q := m.length) (k1 := m.length + 1) (k2 := m.length + 2) hrun (by simp [AV.ren, rhoN_q]) (by omega) (by omega) (by omega) (fun j hj => List.getElem?_append_left hj) (by omega) (by omega) (by omega) ⟨?_, fun _ => ?_, fun _ => ?_⟩
  · by_cases h0 : s.cells = []
    · refine ⟨_, by rw [get_mid0]; rfl, .inr ⟨h0, m.length + 1, 0, ?_⟩⟩
      rw [if_pos h0]
    · refine ⟨_, by rw [get_mid0]; rfl, .inl ?_⟩
      rw [cvA, if_neg h0, if_neg h0]; rfl
  · rw [get_mid]; rfl
  · rw [get_mid]; rfl
end Go.Am.F06
