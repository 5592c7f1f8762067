/- Rows of equal parts: slices of structs, cell by cell. -/
import Derived.Test.YtgfddegdjdeeoaaXAmKit
import Derived.Test.YtgfddegdjdeeoaaXAmLift
set_option linter.unusedSimpArgs false
set_option linter.unusedVariables false
namespace Go.Am
section
variable {α : Type} {f : α → List AV} {sz : Nat}

theorem rows_len (hf : ∀ x, (f x).length = sz) : ∀ (ws : List α), (ws.flatMap f).length = ws.length * sz
  | [] => by simp
  | x :: xs => by rw [List.flatMap_cons, List.length_append, hf, rows_len hf xs, List.length_cons, Nat.succ_mul]; omega

theorem rows_part (hf : ∀ x, (f x).length = sz) : ∀ {ws : List α} {k : Nat} {x : α}, ws[k]? = some x → ((ws.flatMap f).drop (k * sz)).take sz = f x
  | [], k, x, h => by simp at h
  | y :: ys, 0, x, h => by
    simp only [List.getElem?_cons_zero, Option.some.injEq] at h; subst h
    rw [List.flatMap_cons, Nat.zero_mul, List.drop_zero, List.take_left' (hf _)]
  | y :: ys, k + 1, x, h => by
    simp only [List.getElem?_cons_succ] at h
    rw [List.flatMap_cons, Nat.succ_mul, Nat.add_comm, ← List.drop_drop, List.drop_left' (hf _)]
    exact rows_part hf h

theorem rows_at (hf : ∀ x, (f x).length = sz) {ws : List α} {k : Nat} {x : α} (h : ws[k]? = some x) {o : Nat} (ho : o < sz) : (ws.flatMap f)[k * sz + o]? = (f x)[o]? := by
  rw [← rows_part hf h, List.getElem?_take, if_pos ho, List.getElem?_drop]
theorem rows_at0 (hf : ∀ x, (f x).length = sz) {ws : List α} {k : Nat} {x : α} (h : ws[k]? = some x) (ho : 0 < sz) : (ws.flatMap f)[k * sz]? = (f x)[0]? := rows_at hf h (o := 0) ho

theorem splice_cons {β : Type} {y : β} {l : List β} {o : Nat} {vs : List β} : splice (y :: l) (o + 1) vs = y :: splice l o vs := by
  simp only [splice, List.take_succ_cons, List.cons_append, Nat.add_right_comm o 1 vs.length, List.drop_succ_cons]
theorem splice_app {β : Type} {a l : List β} {o n : Nat} {vs : List β} (ha : a.length = n) : splice (a ++ l) (n + o) vs = a ++ splice l o vs := by
  subst ha
  induction a with
  | nil => simp
  | cons y ys ih =>
    rw [List.length_cons, Nat.add_right_comm, List.cons_append, splice_cons, ih]; rfl

theorem rows_put (hf : ∀ x, (f x).length = sz) : ∀ {ws : List α} {k : Nat} {x : α}, k < ws.length → splice (ws.flatMap f) (k * sz) (f x) = (ws.set k x).flatMap f
  | [], k, x, h => by simp at h
  | y :: ys, 0, x, h => by
    rw [List.flatMap_cons, Nat.zero_mul, List.set_cons_zero, List.flatMap_cons]
    simp only [splice, List.take_zero, List.nil_append, Nat.zero_add]
    rw [hf, List.drop_left' (hf _)]
  | y :: ys, k + 1, x, h => by
    rw [List.flatMap_cons, Nat.succ_mul, Nat.add_comm, splice_app (hf y), rows_put hf (by simpa using h), List.set_cons_succ, List.flatMap_cons]

theorem rows_one : ∀ {f : α → List AV} {ws : List α}, (∀ x, (f x).all AV.one = true) → (ws.flatMap f).all AV.one = true
  | f, [], _ => rfl
  | f, x :: xs, h => by rw [List.flatMap_cons, List.all_append, h x, rows_one h]; rfl

theorem rows_rep (hf : ∀ x, (f x).length = sz) (n : Nat) (x : α) : repeatL n (f x) = (List.replicate n x).flatMap f := by
  simp only [repeatL, List.flatMap, List.map_replicate]

theorem rows_of (hf : ∀ x, (f x).length = sz) : ∀ (n : Nat) {l : List AV}, l.length = n * sz → (∀ k, k < n → ∃ x, (l.drop (k * sz)).take sz = f x) → ∃ ws : List α, ws.length = n ∧ l = ws.flatMap f
  | 0, l, hl, _ => ⟨[], rfl, by simp at hl; simp [hl]⟩
  | n + 1, l, hl, h => by
    obtain ⟨x, hx⟩ := h 0 (by omega)
    rw [Nat.zero_mul, List.drop_zero] at hx
    obtain ⟨ws, h1, h2⟩ := rows_of hf n (l := l.drop sz) (by rw [List.length_drop, hl, Nat.succ_mul]; omega) (fun k hk => by
      obtain ⟨y, hy⟩ := h (k + 1) (by omega)
      exact ⟨y, by rw [← hy, List.drop_drop, Nat.succ_mul]; congr 2; omega⟩)
    exact ⟨x :: ws, by simp [h1], by rw [List.flatMap_cons, ← h2, ← hx, List.take_append_drop]⟩

section
variable {X : Type} {m : Mem X} {bytes j q n : Nat} {c : Option Nat} {sz' : Nat} {ro : Bool} {l x : List AV}
/-- One more part. -/
theorem append_nils (hx : m[j]? = some (.cells sz' ro x)) (hl : x.length = sz) (h1 : x.all AV.one = true) (hb : bytes ≤ 35184372088832) : appendA sz bytes .nils (.sl j 0 1 c) m = some (.sl m.length 0 1 none, m ++ [.cells sz false x]) := by
  have hr : rowOf m sz (.sl j 0 1 c) = some x := by
    simp only [rowOf, getC, hx]
    rw [if_neg (by omega), if_pos (by omega), List.drop_zero, List.take_of_length_le (by omega)]
  simp only [appendA, lenA, hr]
  rw [if_neg (by omega), if_pos ⟨by omega, by omega, h1⟩]
theorem append_none (hq : m[q]? = some (.cells sz false l)) (hn : l.length = n * sz) (hx : m[j]? = some (.cells sz' ro x)) (hl : x.length = sz) (h0 : l.all AV.one = true) (h1 : x.all AV.one = true) (hb : (n + 1) * bytes ≤ 35184372088832) (hn1 : n + 1 ≤ 35184372088832) :
    appendA sz bytes (.sl q 0 n none) (.sl j 0 1 c) m = some (.sl m.length 0 (n + 1) none, m.set q .dead ++ [.cells sz false (l ++ x)]) := by
  have hr : rowOf m sz (.sl j 0 1 c) = some x := by
    simp only [rowOf, getC, hx]
    rw [if_neg (by omega), if_pos (by omega), List.drop_zero, List.take_of_length_le (by omega)]
  have ht : (l.drop 0).take (n * sz) = l := by rw [List.drop_zero, List.take_of_length_le (by omega)]
  simp only [appendA, lenA, hr, getC, hq, ht]
  rw [if_neg (by omega), if_pos ⟨trivial, by omega, hb, hn1, by rw [List.all_append, h0, h1]; rfl⟩]
end

/-- A row that grows by append, above a memory m0. -/
def Own {X : Type} (m0 m : Mem X) (sz n : Nat) (l : List AV) (lv : AV) : Prop := (n = 0 ∧ l = [] ∧ lv = .nils) ∨ ∃ q, lv = .sl q 0 n none ∧ m[q]? = some (.cells sz false l) ∧ m0.length ≤ q ∧ q < m.length
section
variable {X : Type} {m0 J : Mem X} {bytes j n : Nat} {c : Option Nat} {sz' : Nat} {ro : Bool} {l x : List AV} {lv : AV}
theorem own_nil {m : Mem X} : Own m0 m sz 0 [] .nils := .inl ⟨rfl, rfl, rfl⟩
theorem own_app (ho : Own m0 (m0 ++ J) sz n l lv) (hl : l.length = n * sz) (h0 : l.all AV.one = true) (hx : (m0 ++ J)[j]? = some (.cells sz' ro x)) (hxl : x.length = sz) (h1 : x.all AV.one = true) (hb : (n + 1) * bytes ≤ 35184372088832) (hn1 : n + 1 ≤ 35184372088832) :
    ∃ q' J', appendA sz bytes lv (.sl j 0 1 c) (m0 ++ J) = some (.sl q' 0 (n + 1) none, m0 ++ J') ∧ Own m0 (m0 ++ J') sz (n + 1) (l ++ x) (.sl q' 0 (n + 1) none) := by
  rcases ho with ⟨rfl, rfl, rfl⟩ | ⟨q, rfl, hq, h2, h3⟩
  · refine ⟨_, J ++ [.cells sz false x], by rw [append_nils hx hxl h1 (by omega), List.append_assoc], .inr ⟨_, rfl, ?_, by simp, by simp⟩⟩
    rw [← List.append_assoc, get_concat]; rfl
  · refine ⟨_, J.set (q - m0.length) .dead ++ [.cells sz false (l ++ x)], by rw [append_none hq hl hx hxl h0 h1 hb hn1, List.set_append_right _ _ h2, List.append_assoc], .inr ⟨_, rfl, ?_, by simp, by simp⟩⟩
    rw [← List.append_assoc, ← List.set_append_right _ _ h2, List.getElem?_append_right (by simp)]
    simp
end

theorem flat_renL {l : List AV} (h : ∀ a, a ∈ l → AV.ren (fun _ => none) a = some a) : AV.renL (fun _ => none) l = some l := by
  induction l with
  | nil => rfl
  | cons a l ih => simp only [AV.renL, h a (by simp), ih (fun b hb => h b (by simp [hb]))]
end
end Go.Am
