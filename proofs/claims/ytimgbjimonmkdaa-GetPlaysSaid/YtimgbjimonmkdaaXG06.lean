import Derived.Test.YtimgbjimonmkdaaXE06
set_option linter.unusedSimpArgs false
set_option linter.unusedVariables false
namespace Go.Am.F06
def Cc (m : MM) (i : Nat) (s : MemSt) (M : MM) : Prop := ∃ lv L, M = m.set i (.cells 8 false (rootL s lv (cvA i m.length s))) ++ L ∧ (∀ R, LogAt m.length (m.set i R ++ L) lv s) ∧ L[0]? = some (.cells 1 false (uC s.cells))
theorem logAt_app {m L : MM} {i : Nat} {s : MemSt} {lv : AV} (h : ∀ R, LogAt m.length (m.set i R ++ L) lv s) (K : MM) : ∀ R, LogAt m.length (m.set i R ++ (L ++ K)) lv s := by
  intro R
  rcases h R with h | ⟨k2, h0, h1, h2, h3⟩
  · exact .inl h
  · exact .inr ⟨k2, h0, h1, h2, by rw [← List.append_assoc, List.getElem?_append_left (List.getElem?_eq_some_iff.1 h3).1]; exact h3⟩
theorem get0_app {α : Type} {L K : List α} {c : α} (h : L[0]? = some c) : (L ++ K)[0]? = some c := by
  rw [List.getElem?_append_left (List.getElem?_eq_some_iff.1 h).1]; exact h
theorem Cc.app {m M : MM} {i : Nat} {s : MemSt} (h : Cc m i s M) (K : MM) : Cc m i s (M ++ K) := by
  obtain ⟨lv, L, rfl, h1, h2⟩ := h
  exact ⟨lv, L ++ K, by rw [List.append_assoc], logAt_app h1 K, get0_app h2⟩
def okR (s : MemSt) (e : Acc) : Prop := 0 ≤ e.at' ∧ e.at' < s.cells.length ∧ s.cells.getD e.at'.toNat 0 = e.old ∧ (e.kind = 1 → e.new = e.old) ∧ 1 ≤ e.kind ∧ e.kind ≤ 4
instance (s : MemSt) (e : Acc) : Decidable (okR s e) := by unfold okR; infer_instance
theorem Cc.cells {m M : MM} {i : Nat} {s : MemSt} (h : Cc m i s M) : M[m.length]? = some (.cells 1 false (uC s.cells)) := by
  obtain ⟨lv, L, rfl, h1, h2⟩ := h
  rw [ms_mid0]; exact h2
theorem Cc.root {m M : MM} {i : Nat} (hi : i < m.length) {s : MemSt} (h : Cc m i s M) : ∃ lv, M[i]? = some (.cells 8 false (rootL s lv (cvA i m.length s))) := by
  obtain ⟨lv, L, rfl, h1, h2⟩ := h
  exact ⟨lv, ms_root hi _ _⟩
theorem Cc.keep {m M : MM} {i : Nat} {s : MemSt} (h : Cc m i s M) : KeepB i m M := by
  obtain ⟨lv, L, rfl, h1, h2⟩ := h
  exact (KeepB.at m _).trans (KeepB.app _ _)
theorem Cc.memAt {m M : MM} {i : Nat} (hi : i < m.length) {s : MemSt} (h : Cc m i s M) : ∃ k1 k2, m.length ≤ M.length ∧ (∀ j, j < m.length → j ≠ i → M[j]? = m[j]?) ∧ m.length ≤ k1 ∧ m.length ≤ k2 ∧ k1 ≠ k2 ∧ MemAt M i k1 k2 s := by
  obtain ⟨lv, L, rfl, h1, h2⟩ := h
  exact memAt_of hi h1 h2
end Go.Am.F06
