import Derived.Test.YtimgbjimonmkdaaXAmKit
import Derived.Test.YtimgbjimonmkdaaXAmLift
set_option linter.unusedSimpArgs false
set_option linter.unusedVariables false
namespace Go.Am
section
variable {α : Type} {f : α → List AV} {sz : Nat}
theorem rows_len (hf : ∀ x, (f x).length = sz) : ∀ (ws : List α), (ws.flatMap f).length = ws.length * sz
  | [] => by simp
  | x :: xs => by rw [List.flatMap_cons, List.length_append, hf, rows_len hf xs, List.length_cons, Nat.succ_mul]; omega
theorem rows_part (hf : ∀ x, (f x).length = sz) : ∀ {ws : List α} {k : Nat} {x : α}, ws[k]? = some x → ((ws.flatMap f).drop (k * sz)).take sz = f x
  | [], k, x, h => by simp at h
  | y :: ys, 0, x, h => by
    simp only [List.getElem?_cons_zero, Option.some.injEq] at h; subst h
    rw [List.flatMap_cons, Nat.zero_mul, List.drop_zero, List.take_left' (hf _)]
  | y :: ys, k + 1, x, h => by
    simp only [List.getElem?_cons_succ] at h
    rw [List.flatMap_cons, Nat.succ_mul, Nat.add_comm, ← List.drop_drop, List.drop_left' (hf _)]
    exact rows_part hf h
theorem rows_at (hf : ∀ x, (f x).length = sz) {ws : List α} {k : Nat} {x : α} (h : ws[k]? = some x) {o : Nat} (ho : o < sz) : (ws.flatMap f)[k * sz + o]? = (f x)[o]? := by
  rw [← rows_part hf h, List.getElem?_take, if_pos ho, List.getElem?_drop]
theorem rows_one : ∀ {f : α → List AV} {ws : List α}, (∀ x, (f x).all AV.one = true) → (ws.flatMap f).all AV.one = true
  | f, [], _ => rfl
  | f, x :: xs, h => by rw [List.flatMap_cons, List.all_append, h x, rows_one h]; rfl
theorem rows_of (hf : ∀ x, (f x).length = sz) : ∀ (n : Nat) {l : List AV}, l.length = n * sz → (∀ k, k < n → ∃ x, (l.drop (k * sz)).take sz = f x) → ∃ ws : List α, ws.length = n ∧ l = ws.flatMap f
  | 0, l, hl, _ => ⟨[], rfl, by simp at hl; simp [hl]⟩
  | n + 1, l, hl, h => by
    obtain ⟨x, hx⟩ := h 0 (by omega)
    rw [Nat.zero_mul, List.drop_zero] at hx
    obtain ⟨ws, h1, h2⟩ := rows_of hf n (l := l.drop sz) (by rw [List.length_drop, hl, Nat.succ_mul]; omega) (fun k hk => by
      obtain ⟨y, hy⟩ := h (k + 1) (by omega)
      exact ⟨y, by rw [← hy, List.drop_drop, Nat.succ_mul]; congr 2; omega⟩)
    exact ⟨x :: ws, by simp [h1], by rw [List.flatMap_cons, ← h2, ← hx, List.take_append_drop]⟩
section
variable {X : Type} {m : Mem X} {bytes j q n : Nat} {c : Option Nat} {sz' : Nat} {ro : Bool} {l x : List AV}
theorem append_nils (hx : m[j]? = some (.cells sz' ro x)) (hl : x.length = sz) (h1 : x.all AV.one = true) (hb : bytes ≤ 35184372088832) : appendA sz bytes .nils (.sl j 0 1 c) m = some (.sl m.length 0 1 none, m ++ [.cells sz false x]) := by
  have hr : rowOf m sz (.sl j 0 1 c) = some x := by
    simp only [rowOf, getC, hx]
    rw [if_neg (by omega), if_pos (by omega), List.drop_zero, List.take_of_length_le (by omega)]
  simp only [appendA, lenA, hr]
  rw [if_neg (by omega), if_pos ⟨by omega, by omega, h1⟩]
end
def Own {X : Type} (m0 m : Mem X) (sz n : Nat) (l : List AV) (lv : AV) : Prop := (n = 0 ∧ l = [] ∧ lv = .nils) ∨ ∃ q, lv = .sl q 0 n none ∧ m[q]? = some (.cells sz false l) ∧ m0.length ≤ q ∧ q < m.length
section
variable {X : Type} {m0 J : Mem X} {bytes j n : Nat} {c : Option Nat} {sz' : Nat} {ro : Bool} {l x : List AV} {lv : AV}
end
end
end Go.Am
