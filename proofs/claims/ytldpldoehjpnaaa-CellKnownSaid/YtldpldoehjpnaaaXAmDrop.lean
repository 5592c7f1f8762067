/- A function known over every memory, but for what it leaves behind: what is left behind unread is dropped, new chunks are told by where they lie then. -/
import Derived.Test.YtldpldoehjpnaaaXAmLift
set_option linter.unusedSimpArgs false
set_option linter.unusedVariables false
namespace Go.Am
section
variable {X : Type}

theorem renL_self {ρ : Nat → Option Nat} {l : List AV} (h : ∀ a, a ∈ l → AV.ren ρ a = some a) : AV.renL ρ l = some l := by
  induction l with
  | nil => rfl
  | cons a l ih => simp only [AV.renL, h a (by simp), ih (fun b hb => h b (by simp [hb]))]

def below (n : Nat) : Nat → Option Nat := fun i => if i < n then some i else none

theorem ren_below {num : Nat → Nat} {μ : Mu} {n : Nat} (hn : ∀ i p, μ i = some p → i < n) {a : AV} {d : Value} (h : VR num μ a d) : AV.ren (below n) a = some a := by
  have one : ∀ {i : Nat} {p : Pl}, μ i = some p → below n i = some i := fun h => if_pos (hn _ _ h)
  have all : ∀ {as : List AV} {cs : Array Value}, as.length = cs.size → (∀ (j : Nat) (a : AV) (d : Value), as[j]? = some a → cs[j]? = some d → AV.ren (below n) a = some a) → AV.renL (below n) as = some as := by
    intro as cs hl h
    refine renL_self fun a ha => ?_
    obtain ⟨j, hj⟩ := List.mem_iff_getElem?.1 ha
    have hjl : j < cs.size := by rw [← hl]; exact (List.getElem?_eq_some_iff.1 hj).1
    exact h j a cs[j] hj (Array.getElem?_eq_getElem hjl)
  induction h with
  | undef v => rfl
  | bool b => rfl
  | int k n => rfl
  | str s => rfl
  | nilp => rfl
  | ptr h => simp only [AV.ren, one h]
  | nils => rfl
  | sl h => simp only [AV.ren, one h]
  | slu h _ _ => simp only [AV.ren, one h]
  | slz h => simp only [AV.ren, one h]
  | slz0 h => simp only [AV.ren, one h]
  | nilm => rfl
  | map h => simp only [AV.ren, one h]
  | nilf => rfl
  | fn h1 _ h3 _ ih2 ih4 => simp only [AV.ren, all h1 ih2, all h3 ih4]
  | agg h1 _ ih => simp only [AV.ren, all h1 ih]
  | tup h1 _ ih => simp only [AV.ren, all h1 ih]

structure DropAt (f : AFun X) (ρ : Nat → Option Nat) (v0 : AV) (m0 : Mem X) (args : List AV) (m : Mem X) (v : AV) (m' : Mem X) : Prop where
  run : f args m = some (v0, m0)
  res : AV.ren ρ v0 = some v
  mlen : m.length ≤ m'.length
  old : ∀ i, i < m.length → ρ i = some i
  new : ∀ (j i : Nat), ρ j = some i → m.length ≤ j → m.length ≤ i ∧ i < m'.length
  inj : ∀ j j' i, ρ j = some i → ρ j' = some i → j = j'
  ch : ∀ (j i : Nat) (c : Chunk X), ρ j = some i → m0[j]? = some c → (∃ c', renC ρ c = some c' ∧ m'[i]? = some c') ∨ (j < m.length ∧ m[j]? = some c ∧ m'[j]? = some c)

/-- g is f without what it leaves behind. -/
def Drop (f g : AFun X) : Prop := ∀ args m v m', g args m = some (v, m') → ∃ ρ v0 m0, DropAt f ρ v0 m0 args m v m'

theorem Drop.mono {f g : AFun X} (h : Drop f g) : Mono g := fun args m v m' hg => by
  obtain ⟨_, _, _, k⟩ := h args m v m' hg
  exact k.mlen

variable {A : AbsSem X} {num : Nat → Nat} {P : Program}

open Classical in
theorem drop_sound {f g : AFun X} (h : Drop f g) {k : FuncId} (hf : Sound A num P k f) : Sound A num P k g := by
  intro F μ m w args vs v m' hS hV hg
  obtain ⟨ρ, v0, m0, D⟩ := h args m v m' hg
  obtain ⟨own0, hS0⟩ := hS
  refine (hf F μ m w args vs v0 m0 ⟨own0, hS0⟩ hV D.run).mono fun e w' he => ?_
  obtain ⟨F', μ', cv, rfl, hv, ⟨own', hS'⟩, hE⟩ := he
  let μ2 : Mu := fun i => if h : ∃ j, ρ j = some i then μ' h.choose else none
  let own2 : Nat → Option Nat := fun c => match own' c with | some j => ρ j | none => none
  have hμ2 : ∀ (j i : Nat), ρ j = some i → μ2 i = μ' j := by
    intro j i hj
    have hex : ∃ j, ρ j = some i := ⟨j, hj⟩
    have : hex.choose = j := D.inj _ _ _ hex.choose_spec hj
    simp only [μ2, dif_pos hex, this]
  have hfw : ∀ j i p, ρ j = some i → μ' j = some p → μ2 i = some p := fun j i p h1 h2 => by rw [hμ2 j i h1]; exact h2
  have hlt : ∀ i p, μ i = some p → i < m.length := by
    intro i p hp
    rcases Nat.lt_or_ge i m.length with h1 | h1
    · exact h1
    · rw [hS0.new i h1] at hp; cases hp
  have hbel : ∀ j i p, below m.length j = some i → μ' j = some p → μ2 i = some p := by
    intro j i p h1 h2
    unfold below at h1
    split at h1
    · rename_i hj; injection h1 with h1; subst h1; exact hfw j j p (D.old j hj) h2
    · cases h1
  have hli : ∀ j i, ρ j = some i → i < m'.length := by
    intro j i hj
    rcases Nat.lt_or_ge j m.length with h1 | h1
    · have := (D.old j h1).symm.trans hj
      injection this with this; subst this
      have := D.mlen; omega
    · exact (D.new j i hj h1).2
  refine ⟨F', μ2, cv, rfl, ren_forth hfw D.res hv, ⟨own2, fun c i ho => ?_, hS'.lt, fun i hi => ?_, fun i ch p hi hp => ?_⟩, ?_⟩
  · simp only [own2] at ho
    split at ho
    · rename_i j hj; exact hS'.isF c j hj
    · cases ho
  · simp only [μ2]
    rw [dif_neg]
    rintro ⟨j, hj⟩
    have := hli j i hj; omega
  · have hex : ∃ j, ρ j = some i := by
      rcases Classical.em (∃ j, ρ j = some i) with h1 | h1
      · exact h1
      · simp only [μ2, dif_neg h1] at hp; cases hp
    obtain ⟨j, hj⟩ := hex
    rw [hμ2 j i hj] at hp
    have hjl : j < m0.length := by
      rcases Nat.lt_or_ge j m0.length with h1 | h1
      · exact h1
      · rw [hS'.new j h1] at hp; cases hp
    have hc := List.getElem?_eq_getElem hjl
    generalize m0[j] = c at hc
    have hok := hS'.ok j c p hc hp
    have hown : ∀ b, own' b = some j ↔ own2 b = some i := by
      intro b
      constructor
      · intro h1; simp only [own2, h1, hj]
      · intro h1
        simp only [own2] at h1
        split at h1
        · rename_i j' hj'; rw [D.inj _ _ _ h1 hj] at hj'; exact hj'
        · cases h1
    rcases D.ch j i c hj hc with ⟨c', h1, h2⟩ | ⟨h1, h2, h3⟩
    · rw [hi] at h2; injection h2 with h2; subst h2
      cases c with
      | cells sz ro l =>
        simp only [renC] at h1
        split at h1
        · rename_i l' hl
          injection h1 with h1; subst h1
          obtain ⟨arr, T, fr, k1, k2, k3, k4, k5⟩ := hok
          refine ⟨arr, T, fr, k1, k2, ⟨by rw [← renL_length hl]; exact k3.1, k3.2.1, fun o a ha => ?_⟩, k4, fun hro => ⟨(hown _).1 (k5 hro).1, (k5 hro).2⟩⟩
          obtain ⟨b, hb, hr⟩ := renL_get hl ha
          obtain ⟨v, hv1, hv2⟩ := k3.2.2 o b hb
          exact ⟨v, hv1, ren_forth hfw hr hv2⟩
        · cases h1
      | abs x =>
        injection h1 with h1; subst h1
        exact A.frame hok (fun b => hown b) (fun _ _ => rfl)
      | dead => injection h1 with h1; subst h1; trivial
    · have hij : i = j := by have := (D.old j h1).symm.trans hj; injection this with this; exact this.symm
      subst hij
      rw [hi] at h3; injection h3 with h3; subst h3
      have hp0 : μ i = some p := (hE.mu i h1).symm.trans hp
      have hok0 := hS0.ok i ch p h2 hp0
      cases ch with
      | cells sz ro l =>
        obtain ⟨arr, T, fr, k1, k2, k3, k4, k5⟩ := hok
        obtain ⟨arr0, T0, fr0, j1, j2, j3, j4, j5⟩ := hok0
        refine ⟨arr, T, fr, k1, k2, ⟨k3.1, k3.2.1, fun o a ha => ?_⟩, k4, fun hro => ⟨(hown _).1 (k5 hro).1, (k5 hro).2⟩⟩
        obtain ⟨v, hv1, hv2⟩ := k3.2.2 o a ha
        obtain ⟨v0, _, hv0⟩ := j3.2.2 o a ha
        exact ⟨v, hv1, ren_forth hbel (ren_below hlt hv0) hv2⟩
      | abs x => exact A.frame hok (fun b => hown b) (fun _ _ => rfl)
      | dead => trivial
  · exact ⟨fun i hi => by rw [hμ2 i i (D.old i hi)]; exact hE.mu i hi, hE.fr, hE.size, hE.keep, hE.os, hE.tape, hE.output⟩

/-- Nothing new, nothing turned: a value without places. -/
theorem drop_val {f g : AFun X} (h : ∀ args m v m', g args m = some (v, m') → m' = m ∧ AV.ren no v = some v ∧ ∃ J, f args m = some (v, m ++ J)) : Drop f g := by
  intro args m v m' hg
  obtain ⟨rfl, h1, J, h2⟩ := h args m v m' hg
  refine ⟨below m'.length, v, m' ++ J, h2, ren_no h1, Nat.le_refl _, fun i hi => if_pos hi, fun j i hj hle => ?_, fun j j' i h1 h2 => ?_, fun j i c hj hc => ?_⟩
  · unfold below at hj; split at hj
    · omega
    · cases hj
  · unfold below at h1 h2; split at h1 <;> split at h2 <;> simp_all
  · unfold below at hj; split at hj
    · rename_i hl
      injection hj with hj; subst hj
      rw [List.getElem?_append_left hl] at hc
      exact .inr ⟨hl, hc, hc⟩
    · cases hj

/-- One new chunk without places in it; the value may name it; J: all that was left behind, the chunk is at its place q. -/
theorem drop_new {f g : AFun X} (h : ∀ args m v m', g args m = some (v, m') → ∃ (J : Mem X) (q : Nat) (c : Chunk X) (v0 : AV), m' = m ++ [c] ∧ J[q]? = some c ∧ renC no c = some c ∧ f args m = some (v0, m ++ J) ∧
    AV.ren (fun j => if j < m.length then some j else if j = m.length + q then some m.length else none) v0 = some v) : Drop f g := by
  intro args m v m' hg
  obtain ⟨J, q, c, v0, rfl, h1, h2, h3, h4⟩ := h args m v m' hg
  refine ⟨_, v0, m ++ J, h3, h4, by simp, fun i hi => if_pos hi, fun j i hj hle => ?_, fun j j' i h1 h2 => ?_, fun j i c' hj hc => ?_⟩
  · skip
    split at hj
    · omega
    · split at hj
      · injection hj with hj; subst hj; simp
      · cases hj
  · skip
    split at h1 <;> split at h2
    · injection h1 with h1; injection h2 with h2; omega
    · split at h2
      · injection h1 with h1; injection h2 with h2; omega
      · cases h2
    · split at h1
      · injection h1 with h1; injection h2 with h2; omega
      · cases h1
    · split at h1 <;> split at h2 <;> first | omega | (cases h1; done) | (cases h2; done)
  · skip
    split at hj
    · rename_i hl
      injection hj with hj; subst hj
      rw [List.getElem?_append_left hl] at hc
      exact .inr ⟨hl, hc, by rw [List.getElem?_append_left hl]; exact hc⟩
    · split at hj
      · rename_i hjq
        injection hj with hj; subst hj; subst hjq
        rw [List.getElem?_append_right (by omega), Nat.add_sub_cancel_left, h1] at hc
        injection hc with hc; subst hc
        refine .inl ⟨c, ?_, by simp⟩
        cases c with
        | cells sz ro l =>
          simp only [renC] at h2 ⊢
          split at h2
          · rename_i l' hl
            simp only [Option.some.injEq, Chunk.cells.injEq, true_and] at h2
            subst h2
            rw [renL_no hl]
          · cases h2
        | abs x => rfl
        | dead => rfl
      · cases hj
end
end Go.Am
