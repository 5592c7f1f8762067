import Derived.Test.YtimgbjimonmkdaaXAmDrop
set_option linter.unusedSimpArgs false
set_option linter.unusedVariables false
namespace Go.Am
section
variable {X : Type}
def grpOk (l : Mem X) : Prop := ∀ c, c ∈ l → (∃ sz cs, c = .cells sz false cs) ∨ c = .dead
def AbsOf (num : Nat → Nat) (conc : X → Mem X) : AbsSem X where
  holds x own p H := ∃ μ : Mu, μ 0 = some p ∧ grpOk (conc x) ∧ Sim (AbsSem.no X) num own μ (conc x) H
  frame := by
    rintro x own own' p H H' ⟨μ, h0, hg, ownm, hS⟩ ho hk
    refine ⟨μ, h0, hg, ownm, fun c i h => (ho c).1 (hS.isF c i h), fun c hc => ?_, hS.new, fun i ch q hi hq => ?_⟩
    · have h1 := (ho c).2 hc
      have h2 := hS.lt c h1
      have h3 := hk c h1
      rw [Array.getElem?_eq_getElem h2] at h3
      exact (Array.getElem?_eq_some_iff.1 h3).1
    · have hok := hS.ok i ch q hi hq
      rcases hg ch (List.mem_of_getElem? hi) with ⟨sz, cs, rfl⟩ | rfl
      · obtain ⟨arr, T, fr, k1, k2, k3, k4, k5⟩ := hok
        have h1 := hS.isF _ _ (k5 rfl).1
        exact ⟨arr, T, fr, k1, (hk _ h1).trans k2, k3, fun h => (by cases h), k5⟩
      · trivial
def Placed (θ : Nat → Option Nat) (l l' : Mem X) : Prop := l.length = l'.length ∧ ∀ (j : Nat) (c : Chunk X), l[j]? = some c → ∃ c', renC θ c = some c' ∧ l'[j]? = some c'
def place (i n : Nat) : Nat → Option Nat := fun l => if l = 0 then some i else some (n + (l - 1))
def unf (k : Nat) (pl : X → Nat → Nat → Chunk X × Mem X) (f : AFun X) : AFun X := fun args m =>
  match args[k]? with
  | some (.ptr i _) => match m[i]? with
    | some (.abs x) => f args (m.set i (pl x i m.length).1 ++ (pl x i m.length).2)
    | _ => none
  | _ => none
variable {num : Nat → Nat} {conc : X → Mem X} {P : Program}
theorem chunk_place {μl μ : Mu} {θ : Nat → Option Nat} {own1 F own2 F2 : Nat → Prop} {p : Pl} {H : Array Obj} {c c' : Chunk X} {A B : AbsSem X} (hg : (∃ sz cs, c = .cells sz false cs) ∨ c = .dead) (hr : renC θ c = some c')
    (hf : ∀ j i p, θ j = some i → μl j = some p → μ i = some p) (ho : own1 p.c → own2 p.c) (h : ChunkOk A num μl F own1 p H c) : ChunkOk B num μ F2 own2 p H c' := by
  rcases hg with ⟨sz, cs, rfl⟩ | rfl
  · simp only [renC] at hr
    split at hr
    · rename_i l' hl
      injection hr with hr; subst hr
      obtain ⟨arr, T, fr, k1, k2, k3, k4, k5⟩ := h
      refine ⟨arr, T, fr, k1, k2, ⟨by rw [← renL_length hl]; exact k3.1, k3.2.1, fun o a ha => ?_⟩, fun h => (by cases h), fun h => ⟨ho (k5 h).1, (k5 h).2⟩⟩
      obtain ⟨b, hb, hrb⟩ := renL_get hl ha
      obtain ⟨v, hv1, hv2⟩ := k3.2.2 o b hb
      exact ⟨v, hv1, ren_forth hf hrb hv2⟩
    · cases hr
  · injection hr with hr; subst hr; trivial
theorem unf_sound {k : Nat} {pl : X → Nat → Nat → Chunk X × Mem X} (hpl : ∀ x i n, Placed (place i n) (conc x) ((pl x i n).1 :: (pl x i n).2)) {f : AFun X} {fid : FuncId} (hf : Sound (AbsOf num conc) num P fid f) : Sound (AbsOf num conc) num P fid (unf k pl f) := by
  intro F μ m w args vs v m' hS0 hV hg
  obtain ⟨own, hS⟩ := hS0
  unfold unf at hg
  split at hg
  case h_2 => cases hg
  rename_i i o hk
  split at hg
  case h_2 => cases hg
  rename_i x hi
  obtain ⟨d, hd, hvd⟩ := hV.get hk
  obtain ⟨p, hp, _⟩ := hvd.ptr_inv
  have hil : i < m.length := (List.getElem?_eq_some_iff.1 hi).1
  obtain ⟨μl, hl0, hgrp, ownl, hL⟩ := hS.ok i _ p hi hp
  obtain ⟨hlen, hch⟩ := hpl x i m.length
  generalize pl x i m.length = pr at hg hlen hch
  obtain ⟨c0, rest⟩ := pr
  simp only at hg hlen hch
  let μh : Mu := fun j => if j < m.length then μ j else μl (j - m.length + 1)
  let ownh : Nat → Option Nat := fun c => match own c with
    | some j => if j = i then (match ownl c with | some l => place i m.length l | none => none) else some j
    | none => none
  have hθ : ∀ l j q, place i m.length l = some j → μl l = some q → μh j = some q := by
    intro l j q h1 h2
    unfold place at h1
    split at h1
    · rename_i h0; subst h0; injection h1 with h1; subst h1
      simp only [μh, if_pos hil]; rw [hp, ← hl0]; exact h2
    · rename_i h0; injection h1 with h1; subst h1
      simp only [μh]; rw [if_neg (by omega)]
      have : m.length + (l - 1) - m.length + 1 = l := by omega
      rw [this]; exact h2
  have hμ : ∀ j q, μ j = some q → μh j = some q := by
    intro j q h
    have : j < m.length := by
      rcases Nat.lt_or_ge j m.length with h1 | h1
      · exact h1
      · rw [hS.new j h1] at h; cases h
    simp only [μh, if_pos this]; exact h
  have hownl : ∀ c l, ownl c = some l → ownh c = place i m.length l := by
    intro c l h
    have := hL.isF c l h
    simp only [ownh, this, if_true, h]
  have hsim : Sim (AbsOf num conc) num F μh (m.set i c0 ++ rest) w.heap := by
    refine ⟨ownh, fun c j h => ?_, hS.lt, fun j hj => ?_, fun j ch q hj hq => ?_⟩
    · simp only [ownh] at h
      split at h
      · rename_i j' hj'; exact hS.isF c j' hj'
      · cases h
    · simp only [List.length_append, List.length_set] at hj
      simp only [μh]; rw [if_neg (by omega)]
      exact hL.new _ (by simp only [List.length_cons] at hlen; omega)
    · by_cases hjm : j < m.length
      · rw [List.getElem?_append_left (by simpa using hjm)] at hj
        simp only [μh, if_pos hjm] at hq
        by_cases hji : i = j
        · subst hji
          rw [List.getElem?_set_self hil] at hj
          injection hj with hj; subst hj
          rw [hp] at hq; injection hq with hq; subst hq
          have hc0 : 0 < (conc x).length := by rw [hlen]; simp
          have hc := List.getElem?_eq_getElem hc0
          obtain ⟨c', h1, h2⟩ := hch 0 _ hc
          simp only [List.getElem?_cons_zero, Option.some.injEq] at h2
          subst h2
          refine chunk_place (hgrp _ (List.mem_of_getElem? hc)) h1 hθ (fun h => ?_) (hL.ok 0 _ p hc hl0)
          rw [hownl _ _ h]; rfl
        · rw [List.getElem?_set_ne hji] at hj
          refine (hS.ok j ch q hj hq).keep hμ (fun c => ?_) (fun _ _ => rfl) (fun _ _ h => ⟨rfl, h⟩)
          constructor
          · intro h; simp only [ownh, h]; rw [if_neg (fun h => hji h.symm)]
          · intro h
            simp only [ownh] at h
            split at h
            · rename_i j' hj'
              split at h
              · split at h
                · unfold place at h
                  split at h
                  · injection h with h; exact absurd h hji
                  · injection h with h; omega
                · cases h
              · rw [hj']; exact h
            · cases h
      · rw [List.getElem?_append_right (by simp; omega)] at hj
        simp only [List.length_set] at hj
        simp only [μh, if_neg hjm] at hq
        have hll : j - m.length + 1 < (conc x).length := by
          have := (List.getElem?_eq_some_iff.1 hj).1
          rw [hlen]; simp; omega
        have hc := List.getElem?_eq_getElem hll
        obtain ⟨c', h1, h2⟩ := hch _ _ hc
        simp only [List.getElem?_cons_succ] at h2
        rw [hj] at h2; injection h2 with h2; subst h2
        refine chunk_place (hgrp _ (List.mem_of_getElem? hc)) h1 hθ (fun h => ?_) (hL.ok _ _ q hc hq)
        rw [hownl _ _ h]
        unfold place; rw [if_neg (by omega)]; congr 1; omega
  refine (hf F μh _ w args vs v m' hsim (hV.mono hμ) hg).mono fun e w' he => ?_
  obtain ⟨F', μ', cv, h1, h2, h3, h4⟩ := he
  refine ⟨F', μ', cv, h1, h2, h3, ⟨fun j hj => ?_, h4.fr, h4.size, h4.keep, h4.os, h4.tape, h4.output⟩⟩
  rw [h4.mu j (by simp; omega)]
  simp only [μh, if_pos hj]
def GrA (θ : Nat → Option Nat) (a b : AV) : Prop := AV.ren θ a = some b ∨ (a = .sl 0 0 0 (some 0) ∧ ∃ i o, b = .sl i o 0 (some 0))
def GrC (θ : Nat → Option Nat) : Chunk X → Chunk X → Prop
  | .cells sz ro cs, c' => ∃ l', c' = .cells sz ro l' ∧ cs.length = l'.length ∧ ∀ (o : Nat) (a b : AV), cs[o]? = some a → l'[o]? = some b → GrA θ a b
  | .dead, _ => True
  | .abs _, _ => False
theorem grC_of {θ : Nat → Option Nat} {c c' : Chunk X} (h : renC θ c = some c') (hc : ∀ x, c ≠ .abs x) : GrC θ c c' := by
  cases c with
  | cells sz ro cs =>
    simp only [renC] at h
    split at h
    · rename_i l' hl
      injection h with h; subst h
      refine ⟨l', rfl, renL_length hl, fun o a b ha hb => .inl ?_⟩
      obtain ⟨b', h1, h2⟩ := renL_get' hl ha
      rw [hb] at h1; injection h1 with h1; subst h1; exact h2
    · cases h
  | abs x => exact absurd rfl (hc x)
  | dead => trivial
structure FoldAt (conc : X → Mem X) (f : AFun X) (ρ γ : Nat → Option Nat) (v0 : AV) (m0 : Mem X) (args : List AV) (m : Mem X) (v : AV) (m' : Mem X) : Prop where
  run : f args m = some (v0, m0)
  res : AV.ren ρ v0 = some v
  mlen : m.length ≤ m'.length
  old : ∀ i, i < m.length → ρ i = some i
  new : ∀ (j i : Nat), ρ j = some i → m.length ≤ j → m.length ≤ i ∧ i < m'.length
  inj : ∀ j j' i, ρ j = some i → ρ j' = some i → j = j'
  hid : ∀ j i, γ j = some i → ρ j = none
  ch : ∀ (j i : Nat) (c : Chunk X), ρ j = some i → m0[j]? = some c →
    ((∀ j', γ j' ≠ some i) ∧ ((∃ c', renC ρ c = some c' ∧ m'[i]? = some c') ∨ (j < m.length ∧ m[j]? = some c ∧ m'[j]? = some c))) ∨
    (∃ (x : X) (θ : Nat → Option Nat), m'[i]? = some (.abs x) ∧ grpOk (conc x) ∧ θ 0 = some j ∧ (∀ l k, θ l = some k → l < (conc x).length) ∧
      (∀ (l k : Nat) (c : Chunk X), θ l = some k → (conc x)[l]? = some c → ∃ c', GrC θ c c' ∧ m0[k]? = some c') ∧ (∀ l k, θ l = some k → l ≠ 0 → γ k = some i) ∧ (∀ l l' k, θ l = some k → θ l' = some k → l = l'))
def Fold (conc : X → Mem X) (f g : AFun X) : Prop := ∀ args m v m', g args m = some (v, m') → ∃ ρ γ v0 m0, FoldAt conc f ρ γ v0 m0 args m v m'
theorem Fold.mono {f g : AFun X} (h : Fold conc f g) : Mono g := fun args m v m' hg => by
  obtain ⟨_, _, _, _, k⟩ := h args m v m' hg
  exact k.mlen
open Classical in
theorem fold_sound {f g : AFun X} (h : Fold conc f g) {k : FuncId} (hf : Sound (AbsOf num conc) num P k f) : Sound (AbsOf num conc) num P k g := by
  intro F μ m w args vs v m' hS hV hg
  obtain ⟨ρ, γ, v0, m0, D⟩ := h args m v m' hg
  obtain ⟨own0, hS0⟩ := hS
  refine (hf F μ m w args vs v0 m0 ⟨own0, hS0⟩ hV D.run).mono fun e w' he => ?_
  obtain ⟨F', μ', cv, rfl, hv, ⟨own', hS'⟩, hE⟩ := he
  let μ2 : Mu := fun i => if h : ∃ j, ρ j = some i then μ' h.choose else none
  let own2 : Nat → Option Nat := fun c => match own' c with
    | some j => (match ρ j with | some i => some i | none => γ j)
    | none => none
  have hμ2 : ∀ (j i : Nat), ρ j = some i → μ2 i = μ' j := by
    intro j i hj
    have hex : ∃ j, ρ j = some i := ⟨j, hj⟩
    have : hex.choose = j := D.inj _ _ _ hex.choose_spec hj
    simp only [μ2, dif_pos hex, this]
  have hfw : ∀ j i p, ρ j = some i → μ' j = some p → μ2 i = some p := fun j i p h1 h2 => by rw [hμ2 j i h1]; exact h2
  have hlt : ∀ i p, μ i = some p → i < m.length := by
    intro i p hp
    rcases Nat.lt_or_ge i m.length with h1 | h1
    · exact h1
    · rw [hS0.new i h1] at hp; cases hp
  have hbel : ∀ j i p, below m.length j = some i → μ' j = some p → μ2 i = some p := by
    intro j i p h1 h2
    unfold below at h1
    split at h1
    · rename_i hj; injection h1 with h1; subst h1; exact hfw j j p (D.old j hj) h2
    · cases h1
  have hli : ∀ j i, ρ j = some i → i < m'.length := by
    intro j i hj
    rcases Nat.lt_or_ge j m.length with h1 | h1
    · have := (D.old j h1).symm.trans hj
      injection this with this; subst this
      have := D.mlen; omega
    · exact (D.new j i hj h1).2
  refine ⟨F', μ2, cv, rfl, ren_forth hfw D.res hv, ⟨own2, fun c i ho => ?_, hS'.lt, fun i hi => ?_, fun i ch p hi hp => ?_⟩, ?_⟩
  · simp only [own2] at ho
    split at ho
    · rename_i j hj; exact hS'.isF c j hj
    · cases ho
  · simp only [μ2]
    rw [dif_neg]
    rintro ⟨j, hj⟩
    have := hli j i hj; omega
  · have hex : ∃ j, ρ j = some i := by
      rcases Classical.em (∃ j, ρ j = some i) with h1 | h1
      · exact h1
      · simp only [μ2, dif_neg h1] at hp; cases hp
    obtain ⟨j, hj⟩ := hex
    rw [hμ2 j i hj] at hp
    have hjl : j < m0.length := by
      rcases Nat.lt_or_ge j m0.length with h1 | h1
      · exact h1
      · rw [hS'.new j h1] at hp; cases hp
    have hc := List.getElem?_eq_getElem hjl
    generalize m0[j] = c at hc
    have hok := hS'.ok j c p hc hp
    rcases D.ch j i c hj hc with ⟨hγ, hcase⟩ | ⟨x, θ, h1, hgrp, ht0, htl, htc, htg, hti⟩
    · have hown : ∀ b, own' b = some j ↔ own2 b = some i := by
        intro b
        constructor
        · intro h1; simp only [own2, h1, hj]
        · intro h1
          simp only [own2] at h1
          split at h1
          · rename_i j' hj'
            split at h1
            · rename_i i' hi'
              injection h1 with h1; subst h1
              rw [D.inj _ _ _ hi' hj] at hj'; exact hj'
            · exact absurd h1 (hγ _)
          · cases h1
      rcases hcase with ⟨c', h1, h2⟩ | ⟨h1, h2, h3⟩
      · rw [hi] at h2; injection h2 with h2; subst h2
        cases c with
        | cells sz ro l =>
          simp only [renC] at h1
          split at h1
          · rename_i l' hl
            injection h1 with h1; subst h1
            obtain ⟨arr, T, fr, k1, k2, k3, k4, k5⟩ := hok
            refine ⟨arr, T, fr, k1, k2, ⟨by rw [← renL_length hl]; exact k3.1, k3.2.1, fun o a ha => ?_⟩, k4, fun hro => ⟨(hown _).1 (k5 hro).1, (k5 hro).2⟩⟩
            obtain ⟨b, hb, hr⟩ := renL_get hl ha
            obtain ⟨v, hv1, hv2⟩ := k3.2.2 o b hb
            exact ⟨v, hv1, ren_forth hfw hr hv2⟩
          · cases h1
        | abs x =>
          injection h1 with h1; subst h1
          exact (AbsOf num conc).frame hok (fun b => hown b) (fun _ _ => rfl)
        | dead => injection h1 with h1; subst h1; trivial
      · have hij : i = j := by have := (D.old j h1).symm.trans hj; injection this with this; exact this.symm
        subst hij
        rw [hi] at h3; injection h3 with h3; subst h3
        have hp0 : μ i = some p := (hE.mu i h1).symm.trans hp
        have hok0 := hS0.ok i ch p h2 hp0
        cases ch with
        | cells sz ro l =>
          obtain ⟨arr, T, fr, k1, k2, k3, k4, k5⟩ := hok
          obtain ⟨arr0, T0, fr0, j1, j2, j3, j4, j5⟩ := hok0
          refine ⟨arr, T, fr, k1, k2, ⟨k3.1, k3.2.1, fun o a ha => ?_⟩, k4, fun hro => ⟨(hown _).1 (k5 hro).1, (k5 hro).2⟩⟩
          obtain ⟨v, hv1, hv2⟩ := k3.2.2 o a ha
          obtain ⟨v0, _, hv0⟩ := j3.2.2 o a ha
          exact ⟨v, hv1, ren_forth hbel (ren_below hlt hv0) hv2⟩
        | abs x => exact (AbsOf num conc).frame hok (fun b => hown b) (fun _ _ => rfl)
        | dead => trivial
    · rw [hi] at h1; injection h1 with h1; subst h1
      let μl : Mu := fun l => match θ l with | some k => μ' k | none => none
      let ownl : Nat → Option Nat := fun b => match own' b with
        | some k => if h : ∃ l, θ l = some k then some h.choose else none
        | none => none
      have hownl : ∀ b l k, θ l = some k → own' b = some k → ownl b = some l := by
        intro b l k h1 h2
        have hex : ∃ l, θ l = some k := ⟨l, h1⟩
        have : hex.choose = l := hti _ _ _ hex.choose_spec h1
        simp only [ownl, h2, dif_pos hex, this]
      refine ⟨μl, by simp only [μl, ht0]; exact hp, hgrp, ownl, fun b l hb => ?_, fun b hb => ?_, fun l hl => ?_, fun l c q hlc hq => ?_⟩
      · simp only [ownl] at hb
        split at hb
        · rename_i k hk
          split at hb
          · rename_i hex
            injection hb with hb
            have hs := hex.choose_spec
            rw [hb] at hs
            by_cases hl0 : l = 0
            · subst hl0
              rw [ht0] at hs; injection hs with hs; subst hs
              simp only [own2, hk, hj]
            · have h1 := htg l k hs hl0
              simp only [own2, hk, D.hid k i h1, h1]
          · cases hb
        · cases hb
      · simp only [own2] at hb
        split at hb
        · rename_i k hk; exact hS'.lt b (hS'.isF b k hk)
        · cases hb
      · have : θ l = none := by
          cases ht : θ l with
          | none => rfl
          | some k => have := htl l k ht; omega
        simp only [μl, this]
      · have hex : ∃ k, θ l = some k := by
          cases ht : θ l with
          | none => simp only [μl, ht] at hq; cases hq
          | some k => exact ⟨k, rfl⟩
        obtain ⟨k, h1⟩ := hex
        obtain ⟨c', h2, h3⟩ := htc l k c h1 hlc
        simp only [μl, h1] at hq
        have hok := hS'.ok k c' q h3 hq
        rcases hgrp c (List.mem_of_getElem? hlc) with ⟨sz, cs, rfl⟩ | rfl
        · obtain ⟨l', rfl, g1, g2⟩ := h2
          obtain ⟨arr, T, fr, k1, k2, k3, k4, k5⟩ := hok
          refine ⟨arr, T, fr, k1, k2, ⟨by rw [g1]; exact k3.1, k3.2.1, fun o a ha => ?_⟩, fun h => (by cases h), fun _ => ⟨hownl _ _ _ h1 (k5 rfl).1, (k5 rfl).2⟩⟩
          have hol : o < l'.length := by rw [← g1]; exact (List.getElem?_eq_some_iff.1 ha).1
          have hb := List.getElem?_eq_getElem hol
          obtain ⟨v, hv1, hv2⟩ := k3.2.2 o _ hb
          refine ⟨v, hv1, ?_⟩
          rcases g2 o a _ ha hb with hr | ⟨rfl, i2, o2, hr⟩
          · exact ren_back (fun j i p g1 g2 => by simp only [μl, g1]; exact g2) hr hv2
          · rw [hr] at hv2
            obtain ⟨p2, A2, c2, _, rfl, h4⟩ := hv2.sl_inv
            have hc2 : c2 = 0 := by
              rcases h4 with ⟨_, h4 | ⟨h4, _⟩⟩ | ⟨_, h4, _⟩
              · injection h4 with h4; exact h4.symm
              · cases h4
              · exact h4
            subst hc2
            exact VR.slz0 (p := p) (by simp only [μl, ht0]; exact hp)
        · trivial
  · exact ⟨fun i hi => by rw [hμ2 i i (D.old i hi)]; exact hE.mu i hi, hE.fr, hE.size, hE.keep, hE.os, hE.tape, hE.output⟩
end
end Go.Am
