import Derived.Test.YtimgbjimonmkdaaXAmLift
set_option linter.unusedSimpArgs false
set_option linter.unusedVariables false
namespace Go.Am
section
variable {X : Type}
theorem renL_self {ρ : Nat → Option Nat} {l : List AV} (h : ∀ a, a ∈ l → AV.ren ρ a = some a) : AV.renL ρ l = some l := by
  induction l with
  | nil => rfl
  | cons a l ih => simp only [AV.renL, h a (by simp), ih (fun b hb => h b (by simp [hb]))]
def below (n : Nat) : Nat → Option Nat := fun i => if i < n then some i else none
theorem ren_below {num : Nat → Nat} {μ : Mu} {n : Nat} (hn : ∀ i p, μ i = some p → i < n) {a : AV} {d : Value} (h : VR num μ a d) : AV.ren (below n) a = some a := by
  have one : ∀ {i : Nat} {p : Pl}, μ i = some p → below n i = some i := fun h => if_pos (hn _ _ h)
  have all : ∀ {as : List AV} {cs : Array Value}, as.length = cs.size → (∀ (j : Nat) (a : AV) (d : Value), as[j]? = some a → cs[j]? = some d → AV.ren (below n) a = some a) → AV.renL (below n) as = some as := by
    intro as cs hl h
    refine renL_self fun a ha => ?_
    obtain ⟨j, hj⟩ := List.mem_iff_getElem?.1 ha
    have hjl : j < cs.size := by rw [← hl]; exact (List.getElem?_eq_some_iff.1 hj).1
    exact h j a cs[j] hj (Array.getElem?_eq_getElem hjl)
  induction h with
  | undef v => rfl
  | bool b => rfl
  | int k n => rfl
  | str s => rfl
  | nilp => rfl
  | ptr h => simp only [AV.ren, one h]
  | nils => rfl
  | sl h => simp only [AV.ren, one h]
  | slu h _ _ => simp only [AV.ren, one h]
  | slz h => simp only [AV.ren, one h]
  | slz0 h => simp only [AV.ren, one h]
  | nilm => rfl
  | map h => simp only [AV.ren, one h]
  | nilf => rfl
  | fn h1 _ h3 _ ih2 ih4 => simp only [AV.ren, all h1 ih2, all h3 ih4]
  | agg h1 _ ih => simp only [AV.ren, all h1 ih]
  | tup h1 _ ih => simp only [AV.ren, all h1 ih]
structure DropAt (f : AFun X) (ρ : Nat → Option Nat) (v0 : AV) (m0 : Mem X) (args : List AV) (m : Mem X) (v : AV) (m' : Mem X) : Prop where
  run : f args m = some (v0, m0)
  res : AV.ren ρ v0 = some v
  mlen : m.length ≤ m'.length
  old : ∀ i, i < m.length → ρ i = some i
  new : ∀ (j i : Nat), ρ j = some i → m.length ≤ j → m.length ≤ i ∧ i < m'.length
  inj : ∀ j j' i, ρ j = some i → ρ j' = some i → j = j'
  ch : ∀ (j i : Nat) (c : Chunk X), ρ j = some i → m0[j]? = some c → (∃ c', renC ρ c = some c' ∧ m'[i]? = some c') ∨ (j < m.length ∧ m[j]? = some c ∧ m'[j]? = some c)
def Drop (f g : AFun X) : Prop := ∀ args m v m', g args m = some (v, m') → ∃ ρ v0 m0, DropAt f ρ v0 m0 args m v m'
theorem Drop.mono {f g : AFun X} (h : Drop f g) : Mono g := fun args m v m' hg => by
  obtain ⟨_, _, _, k⟩ := h args m v m' hg
  exact k.mlen
variable {A : AbsSem X} {num : Nat → Nat} {P : Program}
open Classical in
end
end Go.Am
