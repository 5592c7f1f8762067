import Derived.Test.YtmgahjccidmlaaaXG14
set_option linter.unusedSimpArgs false
set_option linter.unusedVariables false
section
namespace Go.Am
section
variable {X : Type}
def grpOk (l : Mem X) : Prop := ∀ c, c ∈ l → (∃ sz cs, c = .cells sz false cs) ∨ c = .dead
def AbsOf (num : Nat → Nat) (conc : X → Mem X) : AbsSem X where
  holds x own p H := ∃ μ : Mu, μ 0 = some p ∧ grpOk (conc x) ∧ Sim (AbsSem.no X) num own μ (conc x) H
  frame := by
    rintro x own own' p H H' ⟨μ, h0, hg, ownm, hS⟩ ho hk
    refine ⟨μ, h0, hg, ownm, fun c i h => (ho c).1 (hS.isF c i h), fun c hc => ?_, hS.new, fun i ch q hi hq => ?_⟩
    · have h1 := (ho c).2 hc
      have h2 := hS.lt c h1
      have h3 := hk c h1
      rw [Array.getElem?_eq_getElem h2] at h3
      exact (Array.getElem?_eq_some_iff.1 h3).1
    · have hok := hS.ok i ch q hi hq
      rcases hg ch (List.mem_of_getElem? hi) with ⟨sz, cs, rfl⟩ | rfl
      · obtain ⟨arr, T, fr, k1, k2, k3, k4, k5⟩ := hok
        have h1 := hS.isF _ _ (k5 rfl).1
        exact ⟨arr, T, fr, k1, (hk _ h1).trans k2, k3, fun h => (by cases h), k5⟩
      · trivial
def Placed (θ : Nat → Option Nat) (l l' : Mem X) : Prop := l.length = l'.length ∧ ∀ (j : Nat) (c : Chunk X), l[j]? = some c → ∃ c', renC θ c = some c' ∧ l'[j]? = some c'
def place (i n : Nat) : Nat → Option Nat := fun l => if l = 0 then some i else some (n + (l - 1))
def unf (k : Nat) (pl : X → Nat → Nat → Chunk X × Mem X) (f : AFun X) : AFun X := fun args m =>
  match args[k]? with
  | some (.ptr i _) => match m[i]? with
    | some (.abs x) => f args (m.set i (pl x i m.length).1 ++ (pl x i m.length).2)
    | _ => none
  | _ => none
variable {num : Nat → Nat} {conc : X → Mem X} {P : Program}
theorem chunk_place {μl μ : Mu} {θ : Nat → Option Nat} {own1 F own2 F2 : Nat → Prop} {p : Pl} {H : Array Obj} {c c' : Chunk X} {A B : AbsSem X} (hg : (∃ sz cs, c = .cells sz false cs) ∨ c = .dead) (hr : renC θ c = some c')
    (hf : ∀ j i p, θ j = some i → μl j = some p → μ i = some p) (ho : own1 p.c → own2 p.c) (h : ChunkOk A num μl F own1 p H c) : ChunkOk B num μ F2 own2 p H c' := by
  rcases hg with ⟨sz, cs, rfl⟩ | rfl
  · simp only [renC] at hr
    split at hr
    · rename_i l' hl
      injection hr with hr; subst hr
      obtain ⟨arr, T, fr, k1, k2, k3, k4, k5⟩ := h
      refine ⟨arr, T, fr, k1, k2, ⟨by rw [← renL_length hl]; exact k3.1, k3.2.1, fun o a ha => ?_⟩, fun h => (by cases h), fun h => ⟨ho (k5 h).1, (k5 h).2⟩⟩
      obtain ⟨b, hb, hrb⟩ := renL_get hl ha
      obtain ⟨v, hv1, hv2⟩ := k3.2.2 o b hb
      exact ⟨v, hv1, ren_forth hf hrb hv2⟩
    · cases hr
  · injection hr with hr; subst hr; trivial
theorem unf_sound {k : Nat} {pl : X → Nat → Nat → Chunk X × Mem X} (hpl : ∀ x i n, Placed (place i n) (conc x) ((pl x i n).1 :: (pl x i n).2)) {f : AFun X} {fid : FuncId} (hf : Sound (AbsOf num conc) num P fid f) : Sound (AbsOf num conc) num P fid (unf k pl f) := by
  intro F μ m w args vs v m' hS0 hV hg
  obtain ⟨own, hS⟩ := hS0
  unfold unf at hg
  split at hg
  case h_2 => cases hg
  rename_i i o hk
  split at hg
  case h_2 => cases hg
  rename_i x hi
  obtain ⟨d, hd, hvd⟩ := hV.get hk
  obtain ⟨p, hp, _⟩ := hvd.ptr_inv
  have hil : i < m.length := (List.getElem?_eq_some_iff.1 hi).1
  obtain ⟨μl, hl0, hgrp, ownl, hL⟩ := hS.ok i _ p hi hp
  obtain ⟨hlen, hch⟩ := hpl x i m.length
  generalize pl x i m.length = pr at hg hlen hch
  obtain ⟨c0, rest⟩ := pr
  simp only at hg hlen hch
  let μh : Mu := fun j => if j < m.length then μ j else μl (j - m.length + 1)
  let ownh : Nat → Option Nat := fun c => match own c with
    | some j => if j = i then (match ownl c with | some l => place i m.length l | none => none) else some j
    | none => none
  have hθ : ∀ l j q, place i m.length l = some j → μl l = some q → μh j = some q := by
    intro l j q h1 h2
    unfold place at h1
    split at h1
    · rename_i h0; subst h0; injection h1 with h1; subst h1
      simp only [μh, if_pos hil]; rw [hp, ← hl0]; exact h2
    · rename_i h0; injection h1 with h1; subst h1
      simp only [μh]; rw [if_neg (by omega)]
      have : m.length + (l - 1) - m.length + 1 = l := by omega
      rw [this]; exact h2
  have hμ : ∀ j q, μ j = some q → μh j = some q := by
    intro j q h
    have : j < m.length := by
      rcases Nat.lt_or_ge j m.length with h1 | h1
      · exact h1
      · rw [hS.new j h1] at h; cases h
    simp only [μh, if_pos this]; exact h
  have hownl : ∀ c l, ownl c = some l → ownh c = place i m.length l := by
    intro c l h
    have := hL.isF c l h
    simp only [ownh, this, if_true, h]
  have hsim : Sim (AbsOf num conc) num F μh (m.set i c0 ++ rest) w.heap := by
    refine ⟨ownh, fun c j h => ?_, hS.lt, fun j hj => ?_, fun j ch q hj hq => ?_⟩
    · simp only [ownh] at h
      split at h
      · rename_i j' hj'; exact hS.isF c j' hj'
      · cases h
    · simp only [List.length_append, List.length_set] at hj
      simp only [μh]; rw [if_neg (by omega)]
      exact hL.new _ (by simp only [List.length_cons] at hlen; omega)
    · by_cases hjm : j < m.length
      · rw [List.getElem?_append_left (by simpa using hjm)] at hj
        simp only [μh, if_pos hjm] at hq
        by_cases hji : i = j
        · subst hji
          rw [List.getElem?_set_self hil] at hj
          injection hj with hj; subst hj
          rw [hp] at hq; injection hq with hq; subst hq
          have hc0 : 0 < (conc x).length := by rw [hlen]; simp
          have hc := List.getElem?_eq_getElem hc0
          obtain ⟨c', h1, h2⟩ := hch 0 _ hc
          simp only [List.getElem?_cons_zero, Option.some.injEq] at h2
          subst h2
          refine chunk_place (hgrp _ (List.mem_of_getElem? hc)) h1 hθ (fun h => ?_) (hL.ok 0 _ p hc hl0)
          rw [hownl _ _ h]; rfl
        · rw [List.getElem?_set_ne hji] at hj
          refine (hS.ok j ch q hj hq).keep hμ (fun c => ?_) (fun _ _ => rfl) (fun _ _ h => ⟨rfl, h⟩)
          constructor
          · intro h; simp only [ownh, h]; rw [if_neg (fun h => hji h.symm)]
          · intro h
            simp only [ownh] at h
            split at h
            · rename_i j' hj'
              split at h
              · split at h
                · unfold place at h
                  split at h
                  · injection h with h; exact absurd h hji
                  · injection h with h; omega
                · cases h
              · rw [hj']; exact h
            · cases h
      · rw [List.getElem?_append_right (by simp; omega)] at hj
        simp only [List.length_set] at hj
        simp only [μh, if_neg hjm] at hq
        have hll : j - m.length + 1 < (conc x).length := by
          have := (List.getElem?_eq_some_iff.1 hj).1
          rw [hlen]; simp; omega
        have hc := List.getElem?_eq_getElem hll
        obtain ⟨c', h1, h2⟩ := hch _ _ hc
        simp only [List.getElem?_cons_succ] at h2
        rw [hj] at h2; injection h2 with h2; subst h2
        refine chunk_place (hgrp _ (List.mem_of_getElem? hc)) h1 hθ (fun h => ?_) (hL.ok _ _ q hc hq)
        rw [hownl _ _ h]
        unfold place; rw [if_neg (by omega)]; congr 1; omega
  refine (hf F μh _ w args vs v m' hsim (hV.mono hμ) hg).mono fun e w' he => ?_
  obtain ⟨F', μ', cv, h1, h2, h3, h4⟩ := he
  refine ⟨F', μ', cv, h1, h2, h3, ⟨fun j hj => ?_, h4.fr, h4.size, h4.keep, h4.os, h4.tape, h4.output⟩⟩
  rw [h4.mu j (by simp; omega)]
  simp only [μh, if_pos hj]
def GrA (θ : Nat → Option Nat) (a b : AV) : Prop := AV.ren θ a = some b ∨ (a = .sl 0 0 0 (some 0) ∧ ∃ i o, b = .sl i o 0 (some 0))
def GrC (θ : Nat → Option Nat) : Chunk X → Chunk X → Prop
  | .cells sz ro cs, c' => ∃ l', c' = .cells sz ro l' ∧ cs.length = l'.length ∧ ∀ (o : Nat) (a b : AV), cs[o]? = some a → l'[o]? = some b → GrA θ a b
  | .dead, _ => True
  | .abs _, _ => False
  | .tab _ _, _ => False
theorem grC_of {θ : Nat → Option Nat} {c c' : Chunk X} (h : renC θ c = some c') (hc : ∀ x, c ≠ .abs x) : GrC θ c c' := by
  cases c with
  | cells sz ro cs =>
    simp only [renC] at h
    split at h
    · rename_i l' hl
      injection h with h; subst h
      refine ⟨l', rfl, renL_length hl, fun o a b ha hb => .inl ?_⟩
      obtain ⟨b', h1, h2⟩ := renL_get' hl ha
      rw [hb] at h1; injection h1 with h1; subst h1; exact h2
    · cases h
  | abs x => exact absurd rfl (hc x)
  | dead => trivial
  | tab l ck => cases h
structure FoldAt (conc : X → Mem X) (f : AFun X) (ρ γ : Nat → Option Nat) (v0 : AV) (m0 : Mem X) (args : List AV) (m : Mem X) (v : AV) (m' : Mem X) : Prop where
  run : f args m = some (v0, m0)
  res : AV.ren ρ v0 = some v
  mlen : m.length ≤ m'.length
  old : ∀ i, i < m.length → ρ i = some i
  new : ∀ (j i : Nat), ρ j = some i → m.length ≤ j → m.length ≤ i ∧ i < m'.length
  inj : ∀ j j' i, ρ j = some i → ρ j' = some i → j = j'
  hid : ∀ j i, γ j = some i → ρ j = none
  ch : ∀ (j i : Nat) (c : Chunk X), ρ j = some i → m0[j]? = some c →
    ((∀ j', γ j' ≠ some i) ∧ ((∃ c', renC ρ c = some c' ∧ m'[i]? = some c') ∨ (j < m.length ∧ m[j]? = some c ∧ m'[j]? = some c))) ∨
    (∃ (x : X) (θ : Nat → Option Nat), m'[i]? = some (.abs x) ∧ grpOk (conc x) ∧ θ 0 = some j ∧ (∀ l k, θ l = some k → l < (conc x).length) ∧
      (∀ (l k : Nat) (c : Chunk X), θ l = some k → (conc x)[l]? = some c → ∃ c', GrC θ c c' ∧ m0[k]? = some c') ∧ (∀ l k, θ l = some k → l ≠ 0 → γ k = some i) ∧ (∀ l l' k, θ l = some k → θ l' = some k → l = l'))
def Fold (conc : X → Mem X) (f g : AFun X) : Prop := ∀ args m v m', g args m = some (v, m') → ∃ ρ γ v0 m0, FoldAt conc f ρ γ v0 m0 args m v m'
theorem Fold.mono {f g : AFun X} (h : Fold conc f g) : Mono g := fun args m v m' hg => by
  obtain ⟨_, _, _, _, k⟩ := h args m v m' hg
  exact k.mlen
open Classical in
theorem fold_sound {f g : AFun X} (h : Fold conc f g) {k : FuncId} (hf : Sound (AbsOf num conc) num P k f) : Sound (AbsOf num conc) num P k g := by
  intro F μ m w args vs v m' hS hV hg
  obtain ⟨ρ, γ, v0, m0, D⟩ := h args m v m' hg
  obtain ⟨own0, hS0⟩ := hS
  refine (hf F μ m w args vs v0 m0 ⟨own0, hS0⟩ hV D.run).mono fun e w' he => ?_
  obtain ⟨F', μ', cv, rfl, hv, ⟨own', hS'⟩, hE⟩ := he
  let μ2 : Mu := fun i => if h : ∃ j, ρ j = some i then μ' h.choose else none
  let own2 : Nat → Option Nat := fun c => match own' c with
    | some j => (match ρ j with | some i => some i | none => γ j)
    | none => none
  have hμ2 : ∀ (j i : Nat), ρ j = some i → μ2 i = μ' j := by
    intro j i hj
    have hex : ∃ j, ρ j = some i := ⟨j, hj⟩
    have : hex.choose = j := D.inj _ _ _ hex.choose_spec hj
    simp only [μ2, dif_pos hex, this]
  have hfw : ∀ j i p, ρ j = some i → μ' j = some p → μ2 i = some p := fun j i p h1 h2 => by rw [hμ2 j i h1]; exact h2
  have hlt : ∀ i p, μ i = some p → i < m.length := by
    intro i p hp
    rcases Nat.lt_or_ge i m.length with h1 | h1
    · exact h1
    · rw [hS0.new i h1] at hp; cases hp
  have hbel : ∀ j i p, below m.length j = some i → μ' j = some p → μ2 i = some p := by
    intro j i p h1 h2
    unfold below at h1
    split at h1
    · rename_i hj; injection h1 with h1; subst h1; exact hfw j j p (D.old j hj) h2
    · cases h1
  have hli : ∀ j i, ρ j = some i → i < m'.length := by
    intro j i hj
    rcases Nat.lt_or_ge j m.length with h1 | h1
    · have := (D.old j h1).symm.trans hj
      injection this with this; subst this
      have := D.mlen; omega
    · exact (D.new j i hj h1).2
  refine ⟨F', μ2, cv, rfl, ren_forth hfw D.res hv, ⟨own2, fun c i ho => ?_, hS'.lt, fun i hi => ?_, fun i ch p hi hp => ?_⟩, ?_⟩
  · simp only [own2] at ho
    split at ho
    · rename_i j hj; exact hS'.isF c j hj
    · cases ho
  · simp only [μ2]
    rw [dif_neg]
    rintro ⟨j, hj⟩
    have := hli j i hj; omega
  · have hex : ∃ j, ρ j = some i := by
      rcases Classical.em (∃ j, ρ j = some i) with h1 | h1
      · exact h1
      · simp only [μ2, dif_neg h1] at hp; cases hp
    obtain ⟨j, hj⟩ := hex
    rw [hμ2 j i hj] at hp
    have hjl : j < m0.length := by
      rcases Nat.lt_or_ge j m0.length with h1 | h1
      · exact h1
      · rw [hS'.new j h1] at hp; cases hp
    have hc := List.getElem?_eq_getElem hjl
    generalize m0[j] = c at hc
    have hok := hS'.ok j c p hc hp
    rcases D.ch j i c hj hc with ⟨hγ, hcase⟩ | ⟨x, θ, h1, hgrp, ht0, htl, htc, htg, hti⟩
    · have hown : ∀ b, own' b = some j ↔ own2 b = some i := by
        intro b
        constructor
        · intro h1; simp only [own2, h1, hj]
        · intro h1
          simp only [own2] at h1
          split at h1
          · rename_i j' hj'
            split at h1
            · rename_i i' hi'
              injection h1 with h1; subst h1
              rw [D.inj _ _ _ hi' hj] at hj'; exact hj'
            · exact absurd h1 (hγ _)
          · cases h1
      rcases hcase with ⟨c', h1, h2⟩ | ⟨h1, h2, h3⟩
      · rw [hi] at h2; injection h2 with h2; subst h2
        cases c with
        | cells sz ro l =>
          simp only [renC] at h1
          split at h1
          · rename_i l' hl
            injection h1 with h1; subst h1
            obtain ⟨arr, T, fr, k1, k2, k3, k4, k5⟩ := hok
            refine ⟨arr, T, fr, k1, k2, ⟨by rw [← renL_length hl]; exact k3.1, k3.2.1, fun o a ha => ?_⟩, k4, fun hro => ⟨(hown _).1 (k5 hro).1, (k5 hro).2⟩⟩
            obtain ⟨b, hb, hr⟩ := renL_get hl ha
            obtain ⟨v, hv1, hv2⟩ := k3.2.2 o b hb
            exact ⟨v, hv1, ren_forth hfw hr hv2⟩
          · cases h1
        | abs x =>
          injection h1 with h1; subst h1
          exact (AbsOf num conc).frame hok (fun b => hown b) (fun _ _ => rfl)
        | dead => injection h1 with h1; subst h1; trivial
        | tab l ck => cases h1
      · have hij : i = j := by have := (D.old j h1).symm.trans hj; injection this with this; exact this.symm
        subst hij
        rw [hi] at h3; injection h3 with h3; subst h3
        have hp0 : μ i = some p := (hE.mu i h1).symm.trans hp
        have hok0 := hS0.ok i ch p h2 hp0
        cases ch with
        | cells sz ro l =>
          obtain ⟨arr, T, fr, k1, k2, k3, k4, k5⟩ := hok
          obtain ⟨arr0, T0, fr0, j1, j2, j3, j4, j5⟩ := hok0
          refine ⟨arr, T, fr, k1, k2, ⟨k3.1, k3.2.1, fun o a ha => ?_⟩, k4, fun hro => ⟨(hown _).1 (k5 hro).1, (k5 hro).2⟩⟩
          obtain ⟨v, hv1, hv2⟩ := k3.2.2 o a ha
          obtain ⟨v0, _, hv0⟩ := j3.2.2 o a ha
          exact ⟨v, hv1, ren_forth hbel (ren_below hlt hv0) hv2⟩
        | abs x => exact (AbsOf num conc).frame hok (fun b => hown b) (fun _ _ => rfl)
        | dead => trivial
        | tab l ck =>
          obtain ⟨es, k1, k2, k3, k4⟩ := hok
          obtain ⟨es0, j1, j2, j3, j4⟩ := hok0
          refine ⟨es, k1, (hown _).1 k2, k3, fun o k b a ha => ?_⟩
          obtain ⟨e, e1, e2, e3, hv2⟩ := k4 o k b a ha
          obtain ⟨e0, _, _, _, hv0⟩ := j4 o k b a ha
          exact ⟨e, e1, e2, e3, ren_forth hbel (ren_below hlt hv0) hv2⟩
    · rw [hi] at h1; injection h1 with h1; subst h1
      let μl : Mu := fun l => match θ l with | some k => μ' k | none => none
      let ownl : Nat → Option Nat := fun b => match own' b with
        | some k => if h : ∃ l, θ l = some k then some h.choose else none
        | none => none
      have hownl : ∀ b l k, θ l = some k → own' b = some k → ownl b = some l := by
        intro b l k h1 h2
        have hex : ∃ l, θ l = some k := ⟨l, h1⟩
        have : hex.choose = l := hti _ _ _ hex.choose_spec h1
        simp only [ownl, h2, dif_pos hex, this]
      refine ⟨μl, by simp only [μl, ht0]; exact hp, hgrp, ownl, fun b l hb => ?_, fun b hb => ?_, fun l hl => ?_, fun l c q hlc hq => ?_⟩
      · simp only [ownl] at hb
        split at hb
        · rename_i k hk
          split at hb
          · rename_i hex
            injection hb with hb
            have hs := hex.choose_spec
            rw [hb] at hs
            by_cases hl0 : l = 0
            · subst hl0
              rw [ht0] at hs; injection hs with hs; subst hs
              simp only [own2, hk, hj]
            · have h1 := htg l k hs hl0
              simp only [own2, hk, D.hid k i h1, h1]
          · cases hb
        · cases hb
      · simp only [own2] at hb
        split at hb
        · rename_i k hk; exact hS'.lt b (hS'.isF b k hk)
        · cases hb
      · have : θ l = none := by
          cases ht : θ l with
          | none => rfl
          | some k => have := htl l k ht; omega
        simp only [μl, this]
      · have hex : ∃ k, θ l = some k := by
          cases ht : θ l with
          | none => simp only [μl, ht] at hq; cases hq
          | some k => exact ⟨k, rfl⟩
        obtain ⟨k, h1⟩ := hex
        obtain ⟨c', h2, h3⟩ := htc l k c h1 hlc
        simp only [μl, h1] at hq
        have hok := hS'.ok k c' q h3 hq
        rcases hgrp c (List.mem_of_getElem? hlc) with ⟨sz, cs, rfl⟩ | rfl
        · obtain ⟨l', rfl, g1, g2⟩ := h2
          obtain ⟨arr, T, fr, k1, k2, k3, k4, k5⟩ := hok
          refine ⟨arr, T, fr, k1, k2, ⟨by rw [g1]; exact k3.1, k3.2.1, fun o a ha => ?_⟩, fun h => (by cases h), fun _ => ⟨hownl _ _ _ h1 (k5 rfl).1, (k5 rfl).2⟩⟩
          have hol : o < l'.length := by rw [← g1]; exact (List.getElem?_eq_some_iff.1 ha).1
          have hb := List.getElem?_eq_getElem hol
          obtain ⟨v, hv1, hv2⟩ := k3.2.2 o _ hb
          refine ⟨v, hv1, ?_⟩
          rcases g2 o a _ ha hb with hr | ⟨rfl, i2, o2, hr⟩
          · exact ren_back (fun j i p g1 g2 => by simp only [μl, g1]; exact g2) hr hv2
          · rw [hr] at hv2
            obtain ⟨p2, A2, c2, _, rfl, h4⟩ := hv2.sl_inv
            have hc2 : c2 = 0 := by
              rcases h4 with ⟨_, h4 | ⟨h4, _⟩⟩ | ⟨_, h4, _⟩
              · injection h4 with h4; exact h4.symm
              · cases h4
              · exact h4
            subst hc2
            exact VR.slz0 (p := p) (by simp only [μl, ht0]; exact hp)
        · trivial
  · exact ⟨fun i hi => by rw [hμ2 i i (D.old i hi)]; exact hE.mu i hi, hE.fr, hE.size, hE.keep, hE.os, hE.tape, hE.output⟩
end
end Go.Am
end
section
namespace Go.Am
structure Acc where
  kind : Int
  at' : Int
  old : Int
  new : Int
  deriving DecidableEq
structure MemSt where
  cells : List Int
  ck : Bool
  ops : Int
  loads : Int
  stores : Int
  swaps : Int
  fails : Int
  adds : Int
  log : List Acc
  pre : List Acc
inductive Ob where
  | mem (s : MemSt)
def accC (e : Acc) : List AV := [.int .i64 e.kind, .int .i64 e.at', .int .u64 e.old, .int .u64 e.new]
def uC (xs : List Int) : List AV := xs.map (AV.int .u64)
def cvA (i k1 : Nat) (s : MemSt) : AV := if s.cells = [] then .sl i 0 0 (some 0) else .sl k1 0 s.cells.length (if s.ck then some s.cells.length else none)
def lvA (k2 : Nat) (s : MemSt) : AV := if s.log = [] then .nils else .sl k2 (s.pre.length * 4) s.log.length none
def rootL (s : MemSt) (lv cv : AV) : List AV := [.int .u64 s.ops, .int .u64 s.loads, .int .u64 s.stores, .int .u64 s.swaps, .int .u64 s.fails, .int .u64 s.adds, lv, cv]
abbrev MM := Mem Ob
def concM : Ob → MM
  | .mem s => [.cells 8 false (rootL s (lvA 2 s) (cvA 0 1 s)), .cells 1 false (uC s.cells), .cells 4 false ((s.pre ++ s.log).flatMap accC)]
def plM : Ob → Nat → Nat → Chunk Ob × MM
  | .mem s, i, n => (.cells 8 false (rootL s (lvA (n + 1) s) (cvA i n s)), [.cells 1 false (uC s.cells), .cells 4 false ((s.pre ++ s.log).flatMap accC)])
theorem renL_map {α : Type} {ρ : Nat → Option Nat} {f : α → AV} (h : ∀ x, AV.ren ρ (f x) = some (f x)) : ∀ xs : List α, AV.renL ρ (xs.map f) = some (xs.map f)
  | [] => rfl
  | x :: xs => by simp only [List.map_cons, AV.renL, h x, renL_map h xs]
theorem renL_append {ρ : Nat → Option Nat} : ∀ {a b a' b' : List AV}, AV.renL ρ a = some a' → AV.renL ρ b = some b' → AV.renL ρ (a ++ b) = some (a' ++ b')
  | [], b, a', b', ha, hb => by simp only [AV.renL, Option.some.injEq] at ha; subst ha; simpa using hb
  | x :: a, b, a', b', ha, hb => by
    simp only [AV.renL] at ha
    split at ha
    · rename_i y ys h1 h2
      injection ha with ha; subst ha
      simp only [List.cons_append, AV.renL, h1, renL_append h2 hb]
    · cases ha
theorem renL_accs {ρ : Nat → Option Nat} : ∀ l : List Acc, AV.renL ρ (l.flatMap accC) = some (l.flatMap accC)
  | [] => rfl
  | e :: l => by rw [List.flatMap_cons]; exact renL_append rfl (renL_accs l)
theorem plM_ok : ∀ (x : Ob) (i n : Nat), Placed (place i n) (concM x) ((plM x i n).1 :: (plM x i n).2) := by
  rintro ⟨s⟩ i n
  refine ⟨rfl, fun j c hj => ?_⟩
  match j, hj with
  | 0, hj =>
    simp only [concM, List.getElem?_cons_zero, Option.some.injEq] at hj
    subst hj
    refine ⟨_, ?_, rfl⟩
    have h1 : AV.ren (place i n) (lvA 2 s) = some (lvA (n + 1) s) := by unfold lvA; split <;> simp [AV.ren, place]
    have h2 : AV.ren (place i n) (cvA 0 1 s) = some (cvA i n s) := by unfold cvA; split <;> simp [AV.ren, place]
    simp only [renC, rootL, AV.renL, h1, h2, AV.ren]; rfl
  | 1, hj =>
    simp only [concM, List.getElem?_cons_succ, List.getElem?_cons_zero, Option.some.injEq] at hj
    subst hj
    refine ⟨_, ?_, rfl⟩
    simp only [renC, uC, renL_map (f := AV.int .u64) (fun _ => rfl)]
  | 2, hj =>
    simp only [concM, List.getElem?_cons_succ, List.getElem?_cons_zero, Option.some.injEq] at hj
    subst hj
    refine ⟨_, ?_, rfl⟩
    simp only [renC, renL_accs]
  | j + 3, hj => simp [concM] at hj
structure MemAt (m : MM) (i k1 k2 : Nat) (s : MemSt) : Prop where
  root : ∃ cv, m[i]? = some (.cells 8 false (rootL s (lvA k2 s) cv)) ∧ (cv = cvA i k1 s ∨ (s.cells = [] ∧ ∃ q o, cv = .sl q o 0 (some 0)))
  cells : s.cells ≠ [] → m[k1]? = some (.cells 1 false (uC s.cells))
  log : s.log ≠ [] → m[k2]? = some (.cells 4 false ((s.pre ++ s.log).flatMap accC))
def memF (step : MemSt → List AV → Option (AV × MemSt)) : AFun Ob := fun args m =>
  match args with
  | .ptr i 0 :: rest => match m[i]? with
    | some (.abs (.mem s)) => match step s rest with
      | some (v, s') => some (v, m.set i (.abs (.mem s')))
      | none => none
    | _ => none
  | _ => none
theorem fold_mem {f : AFun Ob} {args : List AV} {m mh : MM} {i k1 k2 : Nat} {v : AV} {s' : MemSt} (hi : i < m.length) (hrun : f args m = some (v, mh)) (hv : AV.ren no v = some v) (hlen : m.length ≤ mh.length)
    (hk : ∀ j, j < m.length → j ≠ i → mh[j]? = m[j]?) (h1 : m.length ≤ k1) (h2 : m.length ≤ k2) (h12 : k1 ≠ k2) (hat : MemAt mh i k1 k2 s') : ∃ ρ γ v0 m0, FoldAt concM f ρ γ v0 m0 args m v (m.set i (.abs (.mem s'))) := by
  let θ : Nat → Option Nat := fun l => if l = 0 then some i else if l = 1 ∧ s'.cells ≠ [] then some k1 else if l = 2 ∧ s'.log ≠ [] then some k2 else none
  refine ⟨below m.length, fun j => if j = k1 ∨ j = k2 then some i else none, v, mh, hrun, ren_no hv, by simp, fun j hj => if_pos hj, fun j q hj hle => ?_, fun j j' q ha hb => ?_, fun j q hj => ?_, fun j q c hj hc => ?_⟩
  · unfold below at hj; split at hj
    · omega
    · cases hj
  · unfold below at ha hb; split at ha <;> split at hb <;> simp_all
  · split at hj
    · unfold below; rw [if_neg (by omega)]
    · cases hj
  · unfold below at hj; split at hj
    · rename_i hjl
      injection hj with hj; subst hj
      by_cases hji : j = i
      · subst hji
        refine .inr ⟨.mem s', θ, by rw [List.getElem?_set_self hi], ?_, rfl, fun l k hl => ?_, fun l k c' hl hc' => ?_, fun l k hl h0 => ?_, fun l l' k ha hb => ?_⟩
        · intro c hc
          simp only [concM, List.mem_cons, List.not_mem_nil, or_false] at hc
          rcases hc with rfl | rfl | rfl <;> exact .inl ⟨_, _, rfl⟩
        · simp only [θ] at hl
          show l < 3
          split at hl
          · omega
          · split at hl
            · omega
            · split at hl
              · omega
              · cases hl
        · match l, hc' with
          | 0, hc' =>
            simp only [concM, List.getElem?_cons_zero, Option.some.injEq] at hc'
            subst hc'
            have hk0 : k = j := by simp only [θ, if_true] at hl; injection hl with hl; exact hl.symm
            subst hk0
            obtain ⟨cv, hr, hcv⟩ := hat.root
            refine ⟨.cells 8 false (rootL s' (lvA k2 s') cv), ⟨rootL s' (lvA k2 s') cv, rfl, rfl, ?_⟩, hr⟩
            have hlv : AV.ren θ (lvA 2 s') = some (lvA k2 s') := by
              unfold lvA
              split
              · rfl
              · rename_i hne; simp [AV.ren, θ, hne]
            have hcv' : GrA θ (cvA 0 1 s') cv := by
              rcases hcv with rfl | ⟨h0, q, o, rfl⟩
              · left
                unfold cvA
                split
                · simp [AV.ren, θ]
                · rename_i hne; simp [AV.ren, θ, hne]
              · right
                exact ⟨by simp [cvA, h0], q, o, rfl⟩
            intro o a b ha hb
            match o, ha, hb with
            | 0, ha, hb | 1, ha, hb | 2, ha, hb | 3, ha, hb | 4, ha, hb | 5, ha, hb =>
              simp only [rootL, List.getElem?_cons_succ, List.getElem?_cons_zero, Option.some.injEq] at ha hb
              subst ha; subst hb; exact .inl rfl
            | 6, ha, hb =>
              simp only [rootL, List.getElem?_cons_succ, List.getElem?_cons_zero, Option.some.injEq] at ha hb
              subst ha; subst hb; exact .inl hlv
            | 7, ha, hb =>
              simp only [rootL, List.getElem?_cons_succ, List.getElem?_cons_zero, Option.some.injEq] at ha hb
              subst ha; subst hb; exact hcv'
            | o + 8, ha, hb => simp [rootL] at ha
          | 1, hc' =>
            simp only [concM, List.getElem?_cons_succ, List.getElem?_cons_zero, Option.some.injEq] at hc'
            subst hc'
            have hne : s'.cells ≠ [] := fun h => by simp [θ, h] at hl
            have hk0 : k = k1 := by simp [θ, hne] at hl; exact hl.symm
            subst hk0
            exact ⟨_, grC_of (by simp only [renC, uC, renL_map (f := AV.int .u64) (fun _ => rfl)]) (fun x h => by cases h), hat.cells hne⟩
          | 2, hc' =>
            simp only [concM, List.getElem?_cons_succ, List.getElem?_cons_zero, Option.some.injEq] at hc'
            subst hc'
            have hne : s'.log ≠ [] := fun h => by simp [θ, h] at hl
            have hk0 : k = k2 := by simp [θ, hne] at hl; exact hl.symm
            subst hk0
            exact ⟨_, grC_of (by simp only [renC, renL_accs]) (fun x h => by cases h), hat.log hne⟩
          | l + 3, hc' => simp [concM] at hc'
        · simp only [θ] at hl
          rw [if_neg h0] at hl
          split at hl
          · injection hl with hl; subst hl; simp
          · split at hl
            · injection hl with hl; subst hl; simp
            · cases hl
        · have key : ∀ l, θ l = some k → (l = 0 ∧ k = j) ∨ (l = 1 ∧ k = k1) ∨ (l = 2 ∧ k = k2) := by
            intro l hl
            simp only [θ] at hl
            split at hl
            · rename_i h0; injection hl with hl; exact .inl ⟨h0, hl.symm⟩
            · split at hl
              · rename_i h0; injection hl with hl; exact .inr (.inl ⟨h0.1, hl.symm⟩)
              · split at hl
                · rename_i h0; injection hl with hl; exact .inr (.inr ⟨h0.1, hl.symm⟩)
                · cases hl
          rcases key l ha with ⟨a1, a2⟩ | ⟨a1, a2⟩ | ⟨a1, a2⟩ <;> rcases key l' hb with ⟨b1, b2⟩ | ⟨b1, b2⟩ | ⟨b1, b2⟩ <;> omega
      · refine .inl ⟨fun j' h => ?_, .inr ⟨hjl, ?_, ?_⟩⟩
        · split at h
          · injection h with h; exact hji h.symm
          · cases h
        · rw [← hk j hjl hji]; exact hc
        · rw [List.getElem?_set_ne (fun h => hji h.symm), ← hk j hjl hji]; exact hc
    · cases hj
theorem mem_fold {f : AFun Ob} {step : MemSt → List AV → Option (AV × MemSt)} (h : ∀ (m : MM) (i : Nat) (rest : List AV) (s s' : MemSt) (v : AV), i < m.length → step s rest = some (v, s') → AV.ren no v = some v ∧
    ∃ mh k1 k2, f (.ptr i 0 :: rest) (m.set i (plM (.mem s) i m.length).1 ++ (plM (.mem s) i m.length).2) = some (v, mh) ∧ m.length ≤ mh.length ∧ (∀ j, j < m.length → j ≠ i → mh[j]? = m[j]?) ∧ m.length ≤ k1 ∧ m.length ≤ k2 ∧ k1 ≠ k2 ∧ MemAt mh i k1 k2 s') :
    Fold concM (unf 0 plM f) (memF step) := by
  intro args m v m' hg
  unfold memF at hg
  split at hg
  case h_2 => cases hg
  rename_i i rest
  split at hg
  case h_2 => cases hg
  rename_i s hs
  split at hg
  case h_2 => cases hg
  rename_i v0 s' hst
  simp only [Option.some.injEq, Prod.mk.injEq] at hg
  obtain ⟨rfl, rfl⟩ := hg
  have hi : i < m.length := (List.getElem?_eq_some_iff.1 hs).1
  obtain ⟨hv, mh, k1, k2, h1, h2, h3, h4, h5, h6, h7⟩ := h m i rest s s' v0 hi hst
  exact fold_mem hi (by simp only [unf, List.getElem?_cons_zero, hs]; exact h1) hv h2 h3 h4 h5 h6 h7
def rhoN (n q : Nat) : Nat → Option Nat := fun j => if j < n then some j else if j = q then some n else none
theorem fold_memN {f : AFun Ob} {args : List AV} {m mh : MM} {i k1 k2 q : Nat} {v0 v : AV} {s' : MemSt} {sz : Nat} {ro : Bool} {L : List AV} (hi : i < m.length) (hrun : f args m = some (v0, mh)) (hv : AV.ren (rhoN m.length q) v0 = some v) (hq : m.length ≤ q) (hq1 : q ≠ k1) (hq2 : q ≠ k2) (hqc : mh[q]? = some (.cells sz ro L)) (hL : ∀ ρ, AV.renL ρ L = some L)
    (hk : ∀ j, j < m.length → j ≠ i → mh[j]? = m[j]?) (h1 : m.length ≤ k1) (h2 : m.length ≤ k2) (h12 : k1 ≠ k2) (hat : MemAt mh i k1 k2 s') : ∃ ρ γ v0 m0, FoldAt concM f ρ γ v0 m0 args m v (m.set i (.abs (.mem s')) ++ [.cells sz ro L]) := by
  let θ : Nat → Option Nat := fun l => if l = 0 then some i else if l = 1 ∧ s'.cells ≠ [] then some k1 else if l = 2 ∧ s'.log ≠ [] then some k2 else none
  have key : ∀ j x, rhoN m.length q j = some x → (j < m.length ∧ x = j) ∨ (j = q ∧ x = m.length) := by
    intro j x hj
    unfold rhoN at hj
    split at hj
    · rename_i h; injection hj with hj; exact .inl ⟨h, hj.symm⟩
    · split at hj
      · rename_i h; injection hj with hj; exact .inr ⟨h, hj.symm⟩
      · cases hj
  refine ⟨rhoN m.length q, fun j => if j = k1 ∨ j = k2 then some i else none, v0, mh, hrun, hv, by simp, fun j hj => if_pos hj, fun j x hj hle => ?_, fun j j' x ha hb => ?_, fun j x hj => ?_, fun j x c hj hc => ?_⟩
  · rcases key j x hj with ⟨h, _⟩ | ⟨_, rfl⟩
    · omega
    · simp
  · rcases key j x ha with ⟨a1, a2⟩ | ⟨a1, a2⟩ <;> rcases key j' x hb with ⟨b1, b2⟩ | ⟨b1, b2⟩ <;> omega
  · split at hj
    · unfold rhoN; rw [if_neg (by omega), if_neg (by omega)]
    · cases hj
  · rcases key j x hj with ⟨hjl, rfl⟩ | ⟨rfl, rfl⟩
    · have hgl : ∀ c, (m.set i (.abs (.mem s')) ++ [Chunk.cells sz ro L])[x]? = some c ↔ (m.set i (.abs (.mem s')))[x]? = some c := fun c => by rw [List.getElem?_append_left (by simpa using hjl)]
      simp only [hgl]
      by_cases hji : x = i
      · subst hji
        refine .inr ⟨.mem s', θ, by rw [List.getElem?_set_self hi], ?_, rfl, fun l k hl => ?_, fun l k c' hl hc' => ?_, fun l k hl h0 => ?_, fun l l' k ha hb => ?_⟩
        · intro c hc
          simp only [concM, List.mem_cons, List.not_mem_nil, or_false] at hc
          rcases hc with rfl | rfl | rfl <;> exact .inl ⟨_, _, rfl⟩
        · simp only [θ] at hl
          show l < 3
          split at hl
          · omega
          · split at hl
            · omega
            · split at hl
              · omega
              · cases hl
        · match l, hc' with
          | 0, hc' =>
            simp only [concM, List.getElem?_cons_zero, Option.some.injEq] at hc'
            subst hc'
            have hk0 : k = x := by simp only [θ, if_true] at hl; injection hl with hl; exact hl.symm
            subst hk0
            obtain ⟨cv, hr, hcv⟩ := hat.root
            refine ⟨.cells 8 false (rootL s' (lvA k2 s') cv), ⟨rootL s' (lvA k2 s') cv, rfl, rfl, ?_⟩, hr⟩
            have hlv : AV.ren θ (lvA 2 s') = some (lvA k2 s') := by
              unfold lvA
              split
              · rfl
              · rename_i hne; simp [AV.ren, θ, hne]
            have hcv' : GrA θ (cvA 0 1 s') cv := by
              rcases hcv with rfl | ⟨h0, q, o, rfl⟩
              · left
                unfold cvA
                split
                · simp [AV.ren, θ]
                · rename_i hne; simp [AV.ren, θ, hne]
              · right
                exact ⟨by simp [cvA, h0], q, o, rfl⟩
            intro o a b ha hb
            match o, ha, hb with
            | 0, ha, hb | 1, ha, hb | 2, ha, hb | 3, ha, hb | 4, ha, hb | 5, ha, hb =>
              simp only [rootL, List.getElem?_cons_succ, List.getElem?_cons_zero, Option.some.injEq] at ha hb
              subst ha; subst hb; exact .inl rfl
            | 6, ha, hb =>
              simp only [rootL, List.getElem?_cons_succ, List.getElem?_cons_zero, Option.some.injEq] at ha hb
              subst ha; subst hb; exact .inl hlv
            | 7, ha, hb =>
              simp only [rootL, List.getElem?_cons_succ, List.getElem?_cons_zero, Option.some.injEq] at ha hb
              subst ha; subst hb; exact hcv'
            | o + 8, ha, hb => simp [rootL] at ha
          | 1, hc' =>
            simp only [concM, List.getElem?_cons_succ, List.getElem?_cons_zero, Option.some.injEq] at hc'
            subst hc'
            have hne : s'.cells ≠ [] := fun h => by simp [θ, h] at hl
            have hk0 : k = k1 := by simp [θ, hne] at hl; exact hl.symm
            subst hk0
            exact ⟨_, grC_of (by simp only [renC, uC, renL_map (f := AV.int .u64) (fun _ => rfl)]) (fun x h => by cases h), hat.cells hne⟩
          | 2, hc' =>
            simp only [concM, List.getElem?_cons_succ, List.getElem?_cons_zero, Option.some.injEq] at hc'
            subst hc'
            have hne : s'.log ≠ [] := fun h => by simp [θ, h] at hl
            have hk0 : k = k2 := by simp [θ, hne] at hl; exact hl.symm
            subst hk0
            exact ⟨_, grC_of (by simp only [renC, renL_accs]) (fun x h => by cases h), hat.log hne⟩
          | l + 3, hc' => simp [concM] at hc'
        · simp only [θ] at hl
          rw [if_neg h0] at hl
          split at hl
          · injection hl with hl; subst hl; simp
          · split at hl
            · injection hl with hl; subst hl; simp
            · cases hl
        · have key2 : ∀ l, θ l = some k → (l = 0 ∧ k = x) ∨ (l = 1 ∧ k = k1) ∨ (l = 2 ∧ k = k2) := by
            intro l hl
            simp only [θ] at hl
            split at hl
            · rename_i h0; injection hl with hl; exact .inl ⟨h0, hl.symm⟩
            · split at hl
              · rename_i h0; injection hl with hl; exact .inr (.inl ⟨h0.1, hl.symm⟩)
              · split at hl
                · rename_i h0; injection hl with hl; exact .inr (.inr ⟨h0.1, hl.symm⟩)
                · cases hl
          rcases key2 l ha with ⟨a1, a2⟩ | ⟨a1, a2⟩ | ⟨a1, a2⟩ <;> rcases key2 l' hb with ⟨b1, b2⟩ | ⟨b1, b2⟩ | ⟨b1, b2⟩ <;> omega
      · refine .inl ⟨fun j' h => ?_, .inr ⟨hjl, ?_, ?_⟩⟩
        · split at h
          · injection h with h; exact hji h.symm
          · cases h
        · rw [← hk x hjl hji]; exact hc
        · rw [List.getElem?_set_ne (fun h => hji h.symm), ← hk x hjl hji]; exact hc
    · refine .inl ⟨fun j' h => ?_, .inl ⟨.cells sz ro L, ?_, by simp⟩⟩
      · split at h
        · injection h with h; omega
        · cases h
      · rw [hqc] at hc; injection hc with hc; subst hc
        simp only [renC, hL]
theorem fold_new {f : AFun Ob} {args : List AV} {m mh : MM} {k1 k2 q : Nat} {v0 v : AV} {s' : MemSt} (hrun : f args m = some (v0, mh)) (hv : AV.ren (rhoN m.length q) v0 = some v) (hq : m.length ≤ q) (hq1 : q ≠ k1) (hq2 : q ≠ k2)
    (hk : ∀ j, j < m.length → mh[j]? = m[j]?) (h1 : m.length ≤ k1) (h2 : m.length ≤ k2) (h12 : k1 ≠ k2) (hat : MemAt mh q k1 k2 s') : ∃ ρ γ v0 m0, FoldAt concM f ρ γ v0 m0 args m v (m ++ [.abs (.mem s')]) := by
  let θ : Nat → Option Nat := fun l => if l = 0 then some q else if l = 1 ∧ s'.cells ≠ [] then some k1 else if l = 2 ∧ s'.log ≠ [] then some k2 else none
  have key : ∀ j x, rhoN m.length q j = some x → (j < m.length ∧ x = j) ∨ (j = q ∧ x = m.length) := by
    intro j x hj
    unfold rhoN at hj
    split at hj
    · rename_i h; injection hj with hj; exact .inl ⟨h, hj.symm⟩
    · split at hj
      · rename_i h; injection hj with hj; exact .inr ⟨h, hj.symm⟩
      · cases hj
  refine ⟨rhoN m.length q, fun j => if j = k1 ∨ j = k2 then some m.length else none, v0, mh, hrun, hv, by simp, fun j hj => if_pos hj, fun j x hj hle => ?_, fun j j' x ha hb => ?_, fun j x hj => ?_, fun j x c hj hc => ?_⟩
  · rcases key j x hj with ⟨h, _⟩ | ⟨_, h⟩
    · omega
    · rw [h]; simp
  · rcases key j x ha with ⟨a1, a2⟩ | ⟨a1, a2⟩ <;> rcases key j' x hb with ⟨b1, b2⟩ | ⟨b1, b2⟩ <;> omega
  · split at hj
    · unfold rhoN; rw [if_neg (by omega), if_neg (by omega)]
    · cases hj
  · rcases key j x hj with ⟨hjl, hx⟩ | ⟨hjq, hx⟩
    · subst hx
      refine .inl ⟨fun j' h => ?_, .inr ⟨hjl, by rw [← hk _ hjl]; exact hc, by rw [List.getElem?_append_left hjl, ← hk _ hjl]; exact hc⟩⟩
      split at h
      · injection h with h; omega
      · cases h
    · subst hjq; subst hx
      refine .inr ⟨.mem s', θ, by simp, ?_, rfl, fun l k hl => ?_, fun l k c' hl hc' => ?_, fun l k hl h0 => ?_, fun l l' k ha hb => ?_⟩
      · intro c hc
        simp only [concM, List.mem_cons, List.not_mem_nil, or_false] at hc
        rcases hc with rfl | rfl | rfl <;> exact .inl ⟨_, _, rfl⟩
      · simp only [θ] at hl
        show l < 3
        split at hl
        · omega
        · split at hl
          · omega
          · split at hl
            · omega
            · cases hl
      · match l, hc' with
        | 0, hc' =>
          simp only [concM, List.getElem?_cons_zero, Option.some.injEq] at hc'
          subst hc'
          have hk0 : k = j := by simp only [θ, if_true] at hl; injection hl with hl; exact hl.symm
          subst hk0
          obtain ⟨cv, hr, hcv⟩ := hat.root
          refine ⟨.cells 8 false (rootL s' (lvA k2 s') cv), ⟨rootL s' (lvA k2 s') cv, rfl, rfl, ?_⟩, hr⟩
          have hlv : AV.ren θ (lvA 2 s') = some (lvA k2 s') := by
            unfold lvA
            split
            · rfl
            · rename_i hne; simp [AV.ren, θ, hne]
          have hcv' : GrA θ (cvA 0 1 s') cv := by
            rcases hcv with rfl | ⟨h0, q, o, rfl⟩
            · left
              unfold cvA
              split
              · simp [AV.ren, θ]
              · rename_i hne; simp [AV.ren, θ, hne]
            · right
              exact ⟨by simp [cvA, h0], q, o, rfl⟩
          intro o a b ha hb
          match o, ha, hb with
          | 0, ha, hb | 1, ha, hb | 2, ha, hb | 3, ha, hb | 4, ha, hb | 5, ha, hb =>
            simp only [rootL, List.getElem?_cons_succ, List.getElem?_cons_zero, Option.some.injEq] at ha hb
            subst ha; subst hb; exact .inl rfl
          | 6, ha, hb =>
            simp only [rootL, List.getElem?_cons_succ, List.getElem?_cons_zero, Option.some.injEq] at ha hb
            subst ha; subst hb; exact .inl hlv
          | 7, ha, hb =>
            simp only [rootL, List.getElem?_cons_succ, List.getElem?_cons_zero, Option.some.injEq] at ha hb
            subst ha; subst hb; exact hcv'
          | o + 8, ha, hb => simp [rootL] at ha
        | 1, hc' =>
          simp only [concM, List.getElem?_cons_succ, List.getElem?_cons_zero, Option.some.injEq] at hc'
          subst hc'
          have hne : s'.cells ≠ [] := fun h => by simp [θ, h] at hl
          have hk0 : k = k1 := by simp [θ, hne] at hl; exact hl.symm
          subst hk0
          exact ⟨_, grC_of (by simp only [renC, uC, renL_map (f := AV.int .u64) (fun _ => rfl)]) (fun x h => by cases h), hat.cells hne⟩
        | 2, hc' =>
          simp only [concM, List.getElem?_cons_succ, List.getElem?_cons_zero, Option.some.injEq] at hc'
          subst hc'
          have hne : s'.log ≠ [] := fun h => by simp [θ, h] at hl
          have hk0 : k = k2 := by simp [θ, hne] at hl; exact hl.symm
          subst hk0
          exact ⟨_, grC_of (by simp only [renC, renL_accs]) (fun x h => by cases h), hat.log hne⟩
        | l + 3, hc' => simp [concM] at hc'
      · simp only [θ] at hl
        rw [if_neg h0] at hl
        split at hl
        · injection hl with hl; subst hl; simp
        · split at hl
          · injection hl with hl; subst hl; simp
          · cases hl
      · have key2 : ∀ l, θ l = some k → (l = 0 ∧ k = j) ∨ (l = 1 ∧ k = k1) ∨ (l = 2 ∧ k = k2) := by
          intro l hl
          simp only [θ] at hl
          split at hl
          · rename_i h0; injection hl with hl; exact .inl ⟨h0, hl.symm⟩
          · split at hl
            · rename_i h0; injection hl with hl; exact .inr (.inl ⟨h0.1, hl.symm⟩)
            · split at hl
              · rename_i h0; injection hl with hl; exact .inr (.inr ⟨h0.1, hl.symm⟩)
              · cases hl
        rcases key2 l ha with ⟨a1, a2⟩ | ⟨a1, a2⟩ | ⟨a1, a2⟩ <;> rcases key2 l' hb with ⟨b1, b2⟩ | ⟨b1, b2⟩ | ⟨b1, b2⟩ <;> omega
end Go.Am
end
section
namespace Go.Am.F06
set_option maxRecDepth 10000
def cell_New : AFn := { nloc := 2, npar := 1, res := [.loc 1], body :=
    (.seq
    (.region [
    ⟨.mov, [.c (.nilp)], some 1, none⟩])
    (.seq
    (.region [
    ⟨.mov, [.loc 0], none, none⟩,
    ⟨.min, [.tmp 0, .c (.int .i64 65536)], none, none⟩,
    ⟨.max, [.c (.int .i64 0), .tmp 1], none, none⟩,
    ⟨.make 1 8 [.int .u64 0], [.tmp 2, .tmp 2], none, none⟩,
    ⟨.build [.int .u64 0, .int .u64 0, .int .u64 0, .int .u64 0, .int .u64 0, .int .u64 0, .nils, .nils] [(7, 1)], [.tmp 3], none, none⟩,
    ⟨.box, [.tmp 4], none, none⟩,
    ⟨.mov, [.tmp 5], some 1, none⟩])
    .ret)) }
def cell_Mem_Store : AFn := { nloc := 4, npar := 3, res := [], body :=
    (.seq
    (.region [
    ⟨.box, [.loc 2], some 3, none⟩])
    (.region [
    ⟨.mov, [.loc 0], none, none⟩,
    ⟨.mov, [.loc 1], none, none⟩,
    ⟨.mkfn 49 0, [.loc 3], none, none⟩,
    ⟨.call 50, [.tmp 0, .c (.int .i64 2), .tmp 1, .tmp 2], none, none⟩])) }
def cell_Mem_CAS : AFn := { nloc := 8, npar := 4, res := [.loc 6], body :=
    (.seq
    (.region [
    ⟨.box, [.loc 2], some 4, none⟩,
    ⟨.box, [.loc 3], some 5, none⟩,
    ⟨.mov, [.c (.bool false)], some 6, none⟩])
    (.seq
    (.region [
    ⟨.mov, [.loc 0], none, none⟩,
    ⟨.mov, [.loc 1], none, none⟩,
    ⟨.mkfn 51 0, [.loc 4, .loc 5], none, none⟩,
    ⟨.call 50, [.tmp 0, .c (.int .i64 3), .tmp 1, .tmp 2], none, none⟩,
    ⟨.mov, [.tmp 3], none, none⟩,
    ⟨.extract 0, [.tmp 4], none, none⟩,
    ⟨.extract 1, [.tmp 4], none, none⟩,
    ⟨.mov, [.tmp 5], none, none⟩,
    ⟨.mov, [.tmp 6], some 7, none⟩])
    (.seq
    (.region [
    ⟨.mov, [.loc 7], none, none⟩,
    ⟨.mov, [.tmp 0], some 6, none⟩])
    .ret))) }
def cell_Mem_Load : AFn := { nloc := 4, npar := 2, res := [.loc 2], body :=
    (.seq
    (.region [
    ⟨.mov, [.c (.int .u64 0)], some 2, none⟩])
    (.seq
    (.region [
    ⟨.mov, [.loc 0], none, none⟩,
    ⟨.mov, [.loc 1], none, none⟩,
    ⟨.call 50, [.tmp 0, .c (.int .i64 1), .tmp 1, .c (.fn 52 [] [])], none, none⟩,
    ⟨.mov, [.tmp 2], none, none⟩,
    ⟨.extract 0, [.tmp 3], none, none⟩,
    ⟨.extract 1, [.tmp 3], none, none⟩,
    ⟨.mov, [.tmp 4], some 3, none⟩,
    ⟨.mov, [.tmp 5], none, none⟩])
    (.seq
    (.region [
    ⟨.mov, [.loc 3], none, none⟩,
    ⟨.mov, [.tmp 0], some 2, none⟩])
    .ret))) }
def cell_Mem_All : AFn := { nloc := 3, npar := 1, res := [.loc 1], body :=
    (.seq
    (.region [
    ⟨.mov, [.c (.nils)], some 1, none⟩])
    (.seq
    (.seq
    (.region [
    ⟨.mov, [.loc 0], none, none⟩,
    ⟨.eqv .ptr false, [.tmp 0, .c (.nilp)], some 2, none⟩])
    (.cond (.loc 2)
      (.seq
      (.region [
    ⟨.mov, [.c (.nils)], some 1, none⟩])
      .ret)
      .skip))
    (.seq
    (.region [
    ⟨.mov, [.loc 0], none, none⟩,
    ⟨.nilc, [.tmp 0], none, none⟩,
    ⟨.faddr 7, [.tmp 1], none, none⟩,
    ⟨.load none, [.tmp 2], none, none⟩,
    ⟨.call 61, [.tmp 3], none, none⟩,
    ⟨.mov, [.tmp 4], some 1, none⟩])
    .ret))) }
def cell_Mem_access : AFn := { nloc := 8, npar := 4, res := [.loc 4, .loc 5], body :=
    (.seq
    (.region [
    ⟨.mov, [.c (.int .u64 0)], some 4, none⟩,
    ⟨.mov, [.c (.bool false)], some 5, none⟩])
    (.seq
    (.seq
    (.region [
    ⟨.mov, [.loc 0], none, none⟩,
    ⟨.mov, [.loc 2], none, none⟩,
    ⟨.call 56, [.tmp 0, .tmp 1], none, none⟩,
    ⟨.not, [.tmp 2], some 7, none⟩])
    (.cond (.loc 7)
      (.seq
      (.region [
    ⟨.mov, [.c (.int .u64 0)], some 4, none⟩,
    ⟨.mov, [.c (.bool false)], some 5, none⟩])
      .ret)
      .skip))
    (.seq
    (.region [
    ⟨.mov, [.loc 0], none, none⟩,
    ⟨.nilc, [.tmp 0], none, none⟩,
    ⟨.faddr 7, [.tmp 1], none, none⟩,
    ⟨.load none, [.tmp 2], none, none⟩,
    ⟨.mov, [.loc 2], none, none⟩,
    ⟨.iaddr 1 none, [.tmp 3, .tmp 4], none, none⟩,
    ⟨.load none, [.tmp 5], none, none⟩,
    ⟨.mov, [.tmp 6], some 4, none⟩])
    (.seq
    (.region [
    ⟨.mov, [.loc 3], none, none⟩,
    ⟨.mov, [.loc 4], none, none⟩,
    ⟨.callv, [.tmp 0, .tmp 1], none, none⟩,
    ⟨.mov, [.tmp 2], none, none⟩,
    ⟨.extract 0, [.tmp 3], none, none⟩,
    ⟨.extract 1, [.tmp 3], none, none⟩,
    ⟨.mov, [.tmp 4], some 6, none⟩,
    ⟨.mov, [.tmp 5], some 5, none⟩])
    (.seq
    (.region [
    ⟨.mov, [.loc 0], none, none⟩,
    ⟨.nilc, [.tmp 0], none, none⟩,
    ⟨.faddr 7, [.tmp 1], none, none⟩,
    ⟨.load none, [.tmp 2], none, none⟩,
    ⟨.mov, [.loc 2], none, none⟩,
    ⟨.mov, [.loc 6], none, none⟩,
    ⟨.iaddr 1 none, [.tmp 3, .tmp 4], none, none⟩,
    ⟨.store 1, [.tmp 6, .tmp 5], none, none⟩])
    (.seq
    (.region [
    ⟨.mov, [.loc 0], none, none⟩,
    ⟨.nilc, [.tmp 0], none, none⟩,
    ⟨.faddr 0, [.tmp 1], none, none⟩,
    ⟨.mov, [.loc 1], none, none⟩,
    ⟨.mov, [.loc 2], none, none⟩,
    ⟨.mov, [.loc 4], none, none⟩,
    ⟨.mov, [.loc 6], none, none⟩,
    ⟨.build [.int .i64 0, .int .i64 0, .int .u64 0, .int .u64 0] [(0, 1), (1, 1), (2, 1), (3, 1)], [.tmp 3, .tmp 4, .tmp 5, .tmp 6], none, none⟩,
    ⟨.mov, [.loc 5], none, none⟩,
    ⟨.call 71, [.tmp 2, .tmp 7, .tmp 8], none, none⟩])
    (.seq
    (.region [
    ⟨.mov, [.loc 4], none, none⟩,
    ⟨.mov, [.loc 5], none, none⟩,
    ⟨.mov, [.tmp 0], some 4, none⟩,
    ⟨.mov, [.tmp 1], some 5, none⟩])
    .ret))))))) }
def cell_Mem_Store_1 : AFn := { nloc := 4, npar := 2, res := [.loc 2, .loc 3], body :=
    (.seq
    (.region [
    ⟨.mov, [.c (.int .u64 0)], some 2, none⟩,
    ⟨.mov, [.c (.bool false)], some 3, none⟩])
    (.seq
    (.region [
    ⟨.load none, [.loc 1], none, none⟩,
    ⟨.mov, [.tmp 0], some 2, none⟩,
    ⟨.mov, [.c (.bool true)], some 3, none⟩])
    .ret)) }
def cell_Mem_CAS_1 : AFn := { nloc := 6, npar := 3, res := [.loc 3, .loc 4], body :=
    (.seq
    (.region [
    ⟨.mov, [.c (.int .u64 0)], some 3, none⟩,
    ⟨.mov, [.c (.bool false)], some 4, none⟩])
    (.seq
    (.seq
    (.region [
    ⟨.mov, [.loc 0], none, none⟩,
    ⟨.load none, [.loc 1], none, none⟩,
    ⟨.bin .neq, [.tmp 0, .tmp 1], some 5, none⟩])
    (.cond (.loc 5)
      (.seq
      (.region [
    ⟨.mov, [.loc 0], none, none⟩,
    ⟨.mov, [.tmp 0], some 3, none⟩,
    ⟨.mov, [.c (.bool false)], some 4, none⟩])
      .ret)
      .skip))
    (.seq
    (.region [
    ⟨.load none, [.loc 2], none, none⟩,
    ⟨.mov, [.tmp 0], some 3, none⟩,
    ⟨.mov, [.c (.bool true)], some 4, none⟩])
    .ret))) }
def cell_Mem_Load_1 : AFn := { nloc := 3, npar := 1, res := [.loc 1, .loc 2], body :=
    (.seq
    (.region [
    ⟨.mov, [.c (.int .u64 0)], some 1, none⟩,
    ⟨.mov, [.c (.bool false)], some 2, none⟩])
    (.seq
    (.region [
    ⟨.mov, [.loc 0], none, none⟩,
    ⟨.mov, [.tmp 0], some 1, none⟩,
    ⟨.mov, [.c (.bool true)], some 2, none⟩])
    .ret)) }
def cell_Mem_there : AFn := { nloc := 3, npar := 2, res := [.loc 2], body :=
    (.seq
    (.region [
    ⟨.mov, [.c (.bool false)], some 2, none⟩])
    (.seq
    (.region [
    ⟨.mov, [.loc 0], none, none⟩,
    ⟨.eqv .ptr true, [.tmp 0, .c (.nilp)], none, none⟩,
    ⟨.mov, [.tmp 1], none, none⟩,
    ⟨.mov, [.loc 1], none, some (2, true)⟩,
    ⟨.bin .geq, [.tmp 3, .c (.int .i64 0)], none, some (2, true)⟩,
    ⟨.pick, [.tmp 2, .tmp 4, .c (.bool false)], none, none⟩,
    ⟨.mov, [.tmp 5], none, none⟩,
    ⟨.mov, [.loc 1], none, some (6, true)⟩,
    ⟨.mov, [.loc 0], none, some (6, true)⟩,
    ⟨.nilc, [.tmp 8], none, some (6, true)⟩,
    ⟨.faddr 7, [.tmp 9], none, some (6, true)⟩,
    ⟨.load none, [.tmp 10], none, some (6, true)⟩,
    ⟨.len, [.tmp 11], none, some (6, true)⟩,
    ⟨.bin .lss, [.tmp 7, .tmp 12], none, some (6, true)⟩,
    ⟨.pick, [.tmp 6, .tmp 13, .c (.bool false)], none, none⟩,
    ⟨.mov, [.tmp 14], some 2, none⟩])
    .ret)) }
def slices_Clone_uint64 : AFn := { nloc := 3, npar := 1, res := [.loc 1], body :=
    (.seq
    (.region [
    ⟨.mov, [.c (.nils)], some 1, none⟩])
    (.seq
    (.seq
    (.region [
    ⟨.mov, [.loc 0], none, none⟩,
    ⟨.eqv .slc false, [.tmp 0, .c (.nils)], some 2, none⟩])
    (.cond (.loc 2)
      (.seq
      (.region [
    ⟨.mov, [.c (.nils)], some 1, none⟩])
      .ret)
      .skip))
    (.seq
    (.region [
    ⟨.lit 0 1 [.int .u64 0] [], [], none, none⟩,
    ⟨.mov, [.loc 0], none, none⟩,
    ⟨.append 1 8, [.tmp 0, .tmp 1], none, none⟩,
    ⟨.mov, [.tmp 2], some 1, none⟩])
    .ret))) }
def ref06_New : AFn := { nloc := 2, npar := 1, res := [.cell 1 (some 2)], body :=
    (.seq
    (.region [
    ⟨.alloc [.nils, .int .u64 0], [], some 1, none⟩])
    (.seq
    (.region [
    ⟨.mov, [.loc 0], none, none⟩,
    ⟨.min, [.tmp 0, .c (.int .i64 65536)], none, none⟩,
    ⟨.max, [.c (.int .i64 0), .tmp 1], none, none⟩,
    ⟨.make 1 8 [.int .u64 0], [.tmp 2, .tmp 2], none, none⟩,
    ⟨.build [.nils, .int .u64 0] [(0, 1)], [.tmp 3], none, none⟩,
    ⟨.store 2, [.loc 1, .tmp 4], none, none⟩])
    .ret)) }
def ref06_Store : AFn := { nloc := 6, npar := 3, res := [.cell 4 (some 2)], body :=
    (.seq
    (.region [
    ⟨.box, [.loc 0], some 3, none⟩,
    ⟨.alloc [.nils, .int .u64 0], [], some 4, none⟩])
    (.seq
    (.seq
    (.region [
    ⟨.load (some 2), [.loc 3], none, none⟩,
    ⟨.mov, [.loc 1], none, none⟩,
    ⟨.call 72, [.tmp 0, .tmp 1], none, none⟩,
    ⟨.not, [.tmp 2], some 5, none⟩])
    (.cond (.loc 5)
      (.seq
      (.region [
    ⟨.load (some 2), [.loc 3], none, none⟩,
    ⟨.store 2, [.loc 4, .tmp 0], none, none⟩])
      .ret)
      .skip))
    (.seq
    (.region [
    ⟨.load (some 2), [.loc 3], none, none⟩,
    ⟨.mov, [.loc 1], none, none⟩,
    ⟨.mov, [.loc 2], none, none⟩,
    ⟨.call 73, [.tmp 0, .tmp 1, .tmp 2], none, none⟩,
    ⟨.store 2, [.loc 4, .tmp 3], none, none⟩])
    .ret))) }
def cell_counts_note : AFn := { nloc := 9, npar := 3, res := [], body :=
    (.seq
    (.region [
    ⟨.box, [.loc 1], some 3, none⟩])
    (.seq
    (.region [
    ⟨.mov, [.loc 0], none, none⟩,
    ⟨.nilc, [.tmp 0], none, none⟩,
    ⟨.faddr 0, [.tmp 1], none, none⟩,
    ⟨.load none, [.tmp 2], none, none⟩,
    ⟨.bin .add, [.tmp 3, .c (.int .u64 1)], none, none⟩,
    ⟨.nilc, [.tmp 0], none, none⟩,
    ⟨.faddr 0, [.tmp 5], none, none⟩,
    ⟨.store 1, [.tmp 6, .tmp 4], none, none⟩])
    (.seq
    (.block 0
    (.seq
    (.region [
    ⟨.faddr 0, [.loc 3], none, none⟩,
    ⟨.load none, [.tmp 0], none, none⟩,
    ⟨.bin .eql, [.tmp 1, .c (.int .i64 1)], none, none⟩,
    ⟨.mov, [.tmp 2], some 4, none⟩])
    (.cond (.loc 4)
      (.region [
    ⟨.mov, [.loc 0], none, none⟩,
    ⟨.nilc, [.tmp 0], none, none⟩,
    ⟨.faddr 1, [.tmp 1], none, none⟩,
    ⟨.faddr 0, [.tmp 2], none, none⟩,
    ⟨.load none, [.tmp 3], none, none⟩,
    ⟨.bin .add, [.tmp 4, .c (.int .u64 1)], none, none⟩,
    ⟨.nilc, [.tmp 0], none, none⟩,
    ⟨.faddr 1, [.tmp 6], none, none⟩,
    ⟨.faddr 0, [.tmp 7], none, none⟩,
    ⟨.store 1, [.tmp 8, .tmp 5], none, none⟩])
      (.seq
      (.region [
    ⟨.faddr 0, [.loc 3], none, none⟩,
    ⟨.load none, [.tmp 0], none, none⟩,
    ⟨.bin .eql, [.tmp 1, .c (.int .i64 2)], none, none⟩,
    ⟨.mov, [.tmp 2], some 5, none⟩])
      (.cond (.loc 5)
        (.region [
    ⟨.mov, [.loc 0], none, none⟩,
    ⟨.nilc, [.tmp 0], none, none⟩,
    ⟨.faddr 1, [.tmp 1], none, none⟩,
    ⟨.faddr 1, [.tmp 2], none, none⟩,
    ⟨.load none, [.tmp 3], none, none⟩,
    ⟨.bin .add, [.tmp 4, .c (.int .u64 1)], none, none⟩,
    ⟨.nilc, [.tmp 0], none, none⟩,
    ⟨.faddr 1, [.tmp 6], none, none⟩,
    ⟨.faddr 1, [.tmp 7], none, none⟩,
    ⟨.store 1, [.tmp 8, .tmp 5], none, none⟩])
        (.seq
        (.region [
    ⟨.faddr 0, [.loc 3], none, none⟩,
    ⟨.load none, [.tmp 0], none, none⟩,
    ⟨.bin .eql, [.tmp 1, .c (.int .i64 3)], none, none⟩,
    ⟨.mov, [.tmp 2], none, none⟩,
    ⟨.mov, [.loc 2], none, some (3, true)⟩,
    ⟨.pick, [.tmp 3, .tmp 4, .c (.bool false)], none, none⟩,
    ⟨.mov, [.tmp 5], some 6, none⟩])
        (.cond (.loc 6)
          (.region [
    ⟨.mov, [.loc 0], none, none⟩,
    ⟨.nilc, [.tmp 0], none, none⟩,
    ⟨.faddr 1, [.tmp 1], none, none⟩,
    ⟨.faddr 2, [.tmp 2], none, none⟩,
    ⟨.load none, [.tmp 3], none, none⟩,
    ⟨.bin .add, [.tmp 4, .c (.int .u64 1)], none, none⟩,
    ⟨.nilc, [.tmp 0], none, none⟩,
    ⟨.faddr 1, [.tmp 6], none, none⟩,
    ⟨.faddr 2, [.tmp 7], none, none⟩,
    ⟨.store 1, [.tmp 8, .tmp 5], none, none⟩])
          (.seq
          (.region [
    ⟨.faddr 0, [.loc 3], none, none⟩,
    ⟨.load none, [.tmp 0], none, none⟩,
    ⟨.bin .eql, [.tmp 1, .c (.int .i64 3)], none, none⟩,
    ⟨.mov, [.tmp 2], some 7, none⟩])
          (.cond (.loc 7)
            (.region [
    ⟨.mov, [.loc 0], none, none⟩,
    ⟨.nilc, [.tmp 0], none, none⟩,
    ⟨.faddr 1, [.tmp 1], none, none⟩,
    ⟨.faddr 3, [.tmp 2], none, none⟩,
    ⟨.load none, [.tmp 3], none, none⟩,
    ⟨.bin .add, [.tmp 4, .c (.int .u64 1)], none, none⟩,
    ⟨.nilc, [.tmp 0], none, none⟩,
    ⟨.faddr 1, [.tmp 6], none, none⟩,
    ⟨.faddr 3, [.tmp 7], none, none⟩,
    ⟨.store 1, [.tmp 8, .tmp 5], none, none⟩])
            (.region [
    ⟨.mov, [.loc 0], none, none⟩,
    ⟨.nilc, [.tmp 0], none, none⟩,
    ⟨.faddr 1, [.tmp 1], none, none⟩,
    ⟨.faddr 4, [.tmp 2], none, none⟩,
    ⟨.load none, [.tmp 3], none, none⟩,
    ⟨.bin .add, [.tmp 4, .c (.int .u64 1)], none, none⟩,
    ⟨.nilc, [.tmp 0], none, none⟩,
    ⟨.faddr 1, [.tmp 6], none, none⟩,
    ⟨.faddr 4, [.tmp 7], none, none⟩,
    ⟨.store 1, [.tmp 8, .tmp 5], none, none⟩]))))))))))
    (.seq
    (.draw [0, 1, 2, 3, 4, 5, 6, 7, 8, 9, 10] 0 [
    ⟨.mov, [.loc 0], none, none⟩,
    ⟨.mov, [.loc 0], none, none⟩,
    ⟨.nilc, [.tmp 1], none, none⟩,
    ⟨.faddr 6, [.tmp 2], none, none⟩,
    ⟨.load none, [.tmp 3], none, none⟩,
    ⟨.load (some 4), [.loc 3], none, none⟩,
    ⟨.lit 1 4 [.int .i64 0, .int .i64 0, .int .u64 0, .int .u64 0] [(0, 4)], [.tmp 5], none, none⟩,
    ⟨.append 4 32, [.tmp 4, .tmp 6], none, none⟩,
    ⟨.nilc, [.tmp 0], none, none⟩,
    ⟨.faddr 6, [.tmp 8], none, none⟩,
    ⟨.store 1, [.tmp 9, .tmp 7], none, none⟩] [(4, [7])])
    (.seq
    (.region [
    ⟨.mov, [.loc 0], none, none⟩,
    ⟨.nilc, [.tmp 0], none, none⟩,
    ⟨.faddr 6, [.tmp 1], none, none⟩,
    ⟨.load none, [.tmp 2], none, none⟩,
    ⟨.len, [.tmp 3], none, none⟩,
    ⟨.bin .gtr, [.tmp 4, .c (.int .i64 256)], some 8, none⟩])
    (.cond (.loc 8)
      (.region [
    ⟨.mov, [.loc 0], none, none⟩,
    ⟨.mov, [.loc 0], none, none⟩,
    ⟨.nilc, [.tmp 1], none, none⟩,
    ⟨.faddr 6, [.tmp 2], none, none⟩,
    ⟨.load none, [.tmp 3], none, none⟩,
    ⟨.slice 4 true false false, [.tmp 4, .c (.int .i64 1)], none, none⟩,
    ⟨.nilc, [.tmp 0], none, none⟩,
    ⟨.faddr 6, [.tmp 6], none, none⟩,
    ⟨.store 1, [.tmp 7, .tmp 5], none, none⟩])
      .skip)))))) }
def ref06_there : AFn := { nloc := 4, npar := 2, res := [.loc 3], body :=
    (.seq
    (.region [
    ⟨.box, [.loc 0], some 2, none⟩,
    ⟨.mov, [.c (.bool false)], some 3, none⟩])
    (.seq
    (.region [
    ⟨.mov, [.loc 1], none, none⟩,
    ⟨.bin .geq, [.tmp 0, .c (.int .i64 0)], none, none⟩,
    ⟨.mov, [.tmp 1], none, none⟩,
    ⟨.mov, [.loc 1], none, some (2, true)⟩,
    ⟨.faddr 0, [.loc 2], none, some (2, true)⟩,
    ⟨.load none, [.tmp 4], none, some (2, true)⟩,
    ⟨.len, [.tmp 5], none, some (2, true)⟩,
    ⟨.bin .lss, [.tmp 3, .tmp 6], none, some (2, true)⟩,
    ⟨.pick, [.tmp 2, .tmp 7, .c (.bool false)], none, none⟩,
    ⟨.mov, [.tmp 8], some 3, none⟩])
    .ret)) }
def ref06_with : AFn := { nloc := 6, npar := 3, res := [.cell 4 (some 2)], body :=
    (.seq
    (.region [
    ⟨.box, [.loc 0], some 3, none⟩,
    ⟨.alloc [.nils, .int .u64 0], [], some 4, none⟩])
    (.seq
    (.region [
    ⟨.mov, [.c (.nils)], some 5, none⟩])
    (.seq
    (.region [
    ⟨.mov, [.loc 5], none, none⟩,
    ⟨.faddr 0, [.loc 3], none, none⟩,
    ⟨.load none, [.tmp 1], none, none⟩,
    ⟨.append 1 8, [.tmp 0, .tmp 2], none, none⟩,
    ⟨.mov, [.tmp 3], some 5, none⟩])
    (.seq
    (.region [
    ⟨.mov, [.loc 5], none, none⟩,
    ⟨.mov, [.loc 1], none, none⟩,
    ⟨.mov, [.loc 2], none, none⟩,
    ⟨.iaddr 1 none, [.tmp 0, .tmp 1], none, none⟩,
    ⟨.store 1, [.tmp 3, .tmp 2], none, none⟩])
    (.seq
    (.region [
    ⟨.mov, [.loc 5], none, none⟩,
    ⟨.faddr 1, [.loc 3], none, none⟩,
    ⟨.load none, [.tmp 1], none, none⟩,
    ⟨.bin .add, [.tmp 2, .c (.int .u64 1)], none, none⟩,
    ⟨.build [.nils, .int .u64 0] [(0, 1), (1, 1)], [.tmp 0, .tmp 3], none, none⟩,
    ⟨.store 2, [.loc 4, .tmp 4], none, none⟩])
    .ret))))) }
end Go.Am.F06
end
section
namespace Go.Am.F06
variable {X : Type}
def c_cell_New : AFun X := amFunc [] cell_New
def c_cell_Mem_there : AFun X := amFunc [] cell_Mem_there
def c_cell_counts_note : AFun X := amFunc [] cell_counts_note
def c_cell_Mem_Store_1 : AFun X := amFunc [] cell_Mem_Store_1
def c_cell_Mem_CAS_1 : AFun X := amFunc [] cell_Mem_CAS_1
def c_cell_Mem_Load_1 : AFun X := amFunc [] cell_Mem_Load_1
def c_slices_Clone_uint64 : AFun X := amFunc [] slices_Clone_uint64
def c_cell_Mem_All : AFun X := amFunc [(61, c_slices_Clone_uint64)] cell_Mem_All
def c_ref06_there : AFun X := amFunc [] ref06_there
def c_ref06_with : AFun X := amFunc [] ref06_with
end Go.Am.F06
end
