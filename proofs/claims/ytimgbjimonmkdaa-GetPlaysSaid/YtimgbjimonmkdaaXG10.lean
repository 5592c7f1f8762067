import Derived.Test.YtimgbjimonmkdaaXE10
set_option linter.unusedSimpArgs false
set_option linter.unusedVariables false
namespace Go.Am.F10
open Go.Am.F06
variable {X : Type}
theorem rows_arg {α : Type} {f : α → List AV} {sz : Nat} (hf : ∀ x, (f x).length = sz) {m : Mem X} {i len cap : Nat} (hl : 0 < len → ∃ l, m[i]? = some (.cells sz true l) ∧ l.length = len * sz ∧ ∀ k, k < len → ∃ x : α, (l.drop (k * sz)).take sz = f x) :
    ∃ ws : List α, Sl m false sz ws.length (ws.flatMap f) (.sl i 0 len (some cap)) := by
  by_cases h0 : 0 < len
  · obtain ⟨l, h2, h3, h4⟩ := hl h0
    obtain ⟨ws, e1, e2⟩ := rows_of hf len h3 h4
    subst e1; subst e2
    have hlen := rows_len hf ws
    exact ⟨ws, hlen, .inr ⟨i, 0, some cap, rfl, fun _ => ⟨true, _, h2, by rw [List.drop_zero, ← hlen, List.take_length], by omega, fun h => by cases h⟩⟩⟩
  · have : len = 0 := by omega
    subst this
    exact ⟨[], by simp, .inr ⟨i, 0, some cap, rfl, fun h => absurd h (Nat.lt_irrefl _)⟩⟩
theorem flat_byte (ws : List {z : Int // 0 ≤ z ∧ z < 256}) : ws.flatMap (fun x => [AV.int .u8 x.1]) = (ws.map Subtype.val).map (AV.int .u8) := by
  induction ws with
  | nil => rfl
  | cons a ws ih => rw [List.flatMap_cons, ih]; rfl
theorem byte_arg {m : Mem X} {i len cap : Nat} (hl : 0 < len → ∃ l, m[i]? = some (.cells 1 true l) ∧ l.length = len * 1 ∧ ∀ k, k < len → ∃ z : Int, (l.drop (k * 1)).take 1 = [.int .u8 z] ∧ 0 ≤ z ∧ z < 256) :
    ∃ bs : List Int, SB m bs (.sl i 0 len (some cap)) ∧ ∀ x, x ∈ bs → 0 ≤ x ∧ x < 256 := by
  obtain ⟨ws, h⟩ := rows_arg (f := fun x : {z : Int // 0 ≤ z ∧ z < 256} => [AV.int .u8 x.1]) (sz := 1) (m := m) (i := i) (len := len) (cap := cap) (fun _ => rfl) (fun h0 => by
    obtain ⟨l, h1, h2, h3⟩ := hl h0
    exact ⟨l, h1, h2, fun k hk => by obtain ⟨z, e, b1, b2⟩ := h3 k hk; exact ⟨⟨z, b1, b2⟩, e⟩⟩)
  rw [flat_byte] at h
  refine ⟨ws.map Subtype.val, by show Sl m false _ (ws.map Subtype.val).length _ _; rw [List.length_map]; exact h, fun x hx => ?_⟩
  obtain ⟨a, _, rfl⟩ := List.mem_map.1 hx
  exact a.2
theorem flat_pk (ws : List {x : Pk // W64 x.v}) : ws.flatMap (fun x => pkC x.1) = (ws.map Subtype.val).flatMap pkC := by
  induction ws with
  | nil => rfl
  | cons a ws ih => rw [List.flatMap_cons, ih]; rfl
theorem pk_arg {m : Mem X} {i len cap : Nat} (hl : 0 < len → ∃ l, m[i]? = some (.cells 3 true l) ∧ l.length = len * 3 ∧ ∀ k, k < len → ∃ x : Pk, (l.drop (k * 3)).take 3 = pkC x ∧ W64 x.v) :
    ∃ ps : List Pk, SPk m false ps (.sl i 0 len (some cap)) ∧ ∀ x, x ∈ ps → W64 x.v := by
  obtain ⟨ws, h⟩ := rows_arg (f := fun x : {x : Pk // W64 x.v} => pkC x.1) (sz := 3) (m := m) (i := i) (len := len) (cap := cap) (fun _ => rfl) (fun h0 => by
    obtain ⟨l, h1, h2, h3⟩ := hl h0
    exact ⟨l, h1, h2, fun k hk => by obtain ⟨z, e, b⟩ := h3 k hk; exact ⟨⟨z, b⟩, e⟩⟩)
  rw [flat_pk] at h
  refine ⟨ws.map Subtype.val, by show Sl m false _ (ws.map Subtype.val).length _ _; rw [List.length_map]; exact h, fun x hx => ?_⟩
  obtain ⟨a, _, rfl⟩ := List.mem_map.1 hx
  exact a.2
theorem pk_of {as : List AV} (hl : as.length = 3) {d : Bool} {a v : Int} (h0 : as[0]? = some (.bool d)) (h1 : as[1]? = some (.int .i64 a)) (h2 : as[2]? = some (.int .u64 v)) : as = pkC ⟨d, a, v⟩ := by
  match as, hl with
  | [x, y, z], _ =>
    simp only [List.getElem?_cons_zero, List.getElem?_cons_succ, Option.some.injEq] at h0 h1 h2
    subst h0; subst h1; subst h2; rfl
end Go.Am.F10
