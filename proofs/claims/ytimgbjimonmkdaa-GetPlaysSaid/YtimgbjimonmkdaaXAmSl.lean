import Derived.Test.YtimgbjimonmkdaaXAmRows
set_option linter.unusedSimpArgs false
set_option linter.unusedVariables false
namespace Go.Am
section
variable {X : Type}
def Sl (m : Mem X) (wr : Bool) (sz n : Nat) (l : List AV) (v : AV) : Prop :=
  l.length = n * sz ∧ ((v = .nils ∧ n = 0) ∨ ∃ q o cap, v = .sl q o n cap ∧ (0 < n → ∃ ro L, m[q]? = some (.cells sz ro L) ∧ (L.drop o).take (n * sz) = l ∧ o + n * sz ≤ L.length ∧ (wr = true → ro = false)))
def Keep (m m' : Mem X) : Prop := m.length ≤ m'.length ∧ ∀ i, i < m.length → m'[i]? = m[i]?
theorem Keep.refl (m : Mem X) : Keep m m := ⟨Nat.le_refl _, fun _ _ => rfl⟩
theorem Keep.trans {m m' m'' : Mem X} (h : Keep m m') (k : Keep m' m'') : Keep m m'' :=
  ⟨Nat.le_trans h.1 k.1, fun i hi => (k.2 i (Nat.lt_of_lt_of_le hi h.1)).trans (h.2 i hi)⟩
theorem Keep.app (m J : Mem X) : Keep m (m ++ J) := ⟨by simp, fun i hi => List.getElem?_append_left hi⟩
theorem Keep.set {m m' : Mem X} (h : Keep m m') {q : Nat} (hq : m.length ≤ q) (c : Chunk X) : Keep m (m'.set q c) :=
  ⟨by simpa using h.1, fun i hi => by rw [List.getElem?_set_ne (by omega)]; exact h.2 i hi⟩
theorem Keep.get {m m' : Mem X} (h : Keep m m') {i : Nat} {c : Chunk X} (hi : m[i]? = some c) : m'[i]? = some c := (h.2 i (List.getElem?_eq_some_iff.1 hi).1).trans hi
theorem Sl.keep {m m' : Mem X} {wr : Bool} {sz n : Nat} {l : List AV} {v : AV} (h : Sl m wr sz n l v) (k : Keep m m') : Sl m' wr sz n l v := by
  obtain ⟨h0, h⟩ := h
  refine ⟨h0, ?_⟩
  rcases h with h | ⟨q, o, cap, h1, h2⟩
  · exact .inl h
  · refine .inr ⟨q, o, cap, h1, fun hn => ?_⟩
    obtain ⟨ro, L, h3, h4⟩ := h2 hn
    exact ⟨ro, L, k.get h3, h4⟩
theorem Sl.ro {m : Mem X} {wr : Bool} {sz n : Nat} {l : List AV} {v : AV} (h : Sl m wr sz n l v) : Sl m false sz n l v := by
  obtain ⟨h0, h⟩ := h
  refine ⟨h0, ?_⟩
  rcases h with h | ⟨q, o, cap, h1, h2⟩
  · exact .inl h
  · refine .inr ⟨q, o, cap, h1, fun hn => ?_⟩
    obtain ⟨ro, L, h3, h4, h5, _⟩ := h2 hn
    exact ⟨ro, L, h3, h4, h5, fun h => by cases h⟩
theorem Sl.len {m : Mem X} {wr : Bool} {sz n : Nat} {l : List AV} {v : AV} (h : Sl m wr sz n l v) : lenA v = some n := by
  rcases h.2 with ⟨h1, rfl⟩ | ⟨q, o, cap, h1, _⟩ <;> rw [h1] <;> rfl
theorem Sl.nil {m : Mem X} {wr : Bool} {sz : Nat} : Sl m wr sz 0 [] .nils := ⟨by simp, .inl ⟨rfl, rfl⟩⟩
theorem Sl.at {m : Mem X} {wr : Bool} {sz n : Nat} {l : List AV} {v : AV} (h : Sl m wr sz n l v) (hn : 0 < n) : ∃ q o cap ro L, v = .sl q o n cap ∧ m[q]? = some (.cells sz ro L) ∧ (L.drop o).take (n * sz) = l ∧ o + n * sz ≤ L.length ∧ (wr = true → ro = false) := by
  rcases h.2 with ⟨_, h1⟩ | ⟨q, o, cap, h1, h2⟩
  · omega
  · obtain ⟨ro, L, h3⟩ := h2 hn
    exact ⟨q, o, cap, ro, L, h1, h3⟩
theorem sl_get {L l : List AV} {o k : Nat} (h : (L.drop o).take k = l) {j : Nat} (hj : j < k) : L[o + j]? = l[j]? := by
  rw [← h, List.getElem?_take, if_pos hj, List.getElem?_drop]
theorem ev_len (G : List (Nat × AFun X)) (v : AV) (m : Mem X) : amOp G .len [v] m = match lenA v with | some n => some (.int .i64 n, m) | none => none := by
  simp only [amOp]
  cases lenA v <;> rfl
def Fr (n0 : Nat) (v : AV) : Prop := v = .nils ∨ ∃ q o n cap, v = .sl q o n cap ∧ n0 ≤ q
theorem Own.sl {m0 m : Mem X} {sz n : Nat} {l : List AV} {v : AV} (h : Own m0 m sz n l v) (hl : l.length = n * sz) : Sl m true sz n l v ∧ Fr m0.length v := by
  rcases h with ⟨rfl, rfl, rfl⟩ | ⟨q, rfl, h1, h2, h3⟩
  · exact ⟨Sl.nil, .inl rfl⟩
  · exact ⟨⟨hl, .inr ⟨q, 0, none, rfl, fun _ => ⟨false, l, h1, by rw [List.drop_zero, ← hl, List.take_length], by omega, fun _ => rfl⟩⟩⟩, .inr ⟨q, 0, n, none, rfl, h2⟩⟩
end
end Go.Am
