import Derived.Test.YtimgbjimonmkdaaXB06
set_option linter.unusedSimpArgs false
set_option linter.unusedVariables false
namespace Go.Am.F06
def KeepB {X : Type} (k : Nat) (m m' : Mem X) : Prop := m.length ≤ m'.length ∧ ∀ i, i < m.length → i ≠ k → m'[i]? = m[i]?
section
variable {X : Type} {k : Nat}
theorem KeepB.refl (m : Mem X) : KeepB k m m := ⟨Nat.le_refl _, fun _ _ _ => rfl⟩
theorem KeepB.trans {m m' m'' : Mem X} (h : KeepB k m m') (j : KeepB k m' m'') : KeepB k m m'' :=
  ⟨Nat.le_trans h.1 j.1, fun i hi hk => (j.2 i (Nat.lt_of_lt_of_le hi h.1) hk).trans (h.2 i hi hk)⟩
theorem KeepB.of {m m' : Mem X} (h : Keep m m') : KeepB k m m' := ⟨h.1, fun i hi _ => h.2 i hi⟩
theorem KeepB.app (m J : Mem X) : KeepB k m (m ++ J) := .of (Keep.app m J)
theorem KeepB.at (m : Mem X) (c : Chunk X) : KeepB k m (m.set k c) := ⟨by simp, fun i hi hk => by rw [List.getElem?_set_ne (fun h => hk h.symm)]⟩
theorem KeepB.set {m m' : Mem X} (h : KeepB k m m') {q : Nat} (hq : m.length ≤ q) (c : Chunk X) : KeepB k m (m'.set q c) :=
  ⟨by simpa using h.1, fun i hi hk => by rw [List.getElem?_set_ne (by omega)]; exact h.2 i hi hk⟩
theorem KeepB.get {m m' : Mem X} (h : KeepB k m m') {i : Nat} {c : Chunk X} (hi : m[i]? = some c) (hk : i ≠ k) : m'[i]? = some c := (h.2 i (List.getElem?_eq_some_iff.1 hi).1 hk).trans hi
theorem KeepB.sl {m m' : Mem X} (h : KeepB k m m') {x : X} (hk : m[k]? = some (.abs x)) {wr : Bool} {sz n : Nat} {l : List AV} {v : AV} (hs : Sl m wr sz n l v) : Sl m' wr sz n l v := by
  refine ⟨hs.1, ?_⟩
  rcases hs.2 with h1 | ⟨q, o, cap, h1, h2⟩
  · exact .inl h1
  · refine .inr ⟨q, o, cap, h1, fun h0 => ?_⟩
    obtain ⟨ro, L, h3, h4⟩ := h2 h0
    refine ⟨ro, L, h.get h3 (fun hq => ?_), h4⟩
    rw [hq, hk] at h3; injection h3 with h3; cases h3
theorem get_at {α : Type} {l k : List α} {n i : Nat} (h : l.length = n) : (l ++ k)[n + i]? = k[i]? := by rw [← h]; exact get_mid
theorem get_at0 {α : Type} {l k : List α} {n : Nat} (h : l.length = n) : (l ++ k)[n]? = k[0]? := by rw [← h]; exact get_mid0
theorem set_at {α : Type} {l k : List α} {n i : Nat} {y : α} (h : l.length = n) : (l ++ k).set (n + i) y = l ++ k.set i y := by rw [← h]; exact set_mid
theorem set_at0 {α : Type} {l k : List α} {n : Nat} {y : α} (h : l.length = n) : (l ++ k).set n y = l ++ k.set 0 y := by rw [← h]; exact set_mid0
end
def stepL (n : Nat) (es : List Acc) (kind a old x : Int) : List Acc := match doE n es kind a old x with
  | none => es
  | some e => es ++ [e]
theorem memF_of {step : MemSt → List AV → Option (AV × MemSt)} {M : MM} {j : Nat} {s s' : MemSt} {rest : List AV} {v : AV} (hM : M[j]? = some (.abs (.mem s))) (h : step s rest = some (v, s')) : memF step (.ptr j 0 :: rest) M = some (v, M.set j (.abs (.mem s'))) := by
  simp only [memF, hM, h]
end Go.Am.F06
