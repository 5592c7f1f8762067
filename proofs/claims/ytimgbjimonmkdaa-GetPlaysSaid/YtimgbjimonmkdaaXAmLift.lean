import Derived.Test.YtimgbjimonmkdaaXAmCode
set_option linter.unusedSimpArgs false
set_option linter.unusedVariables false
namespace Go.Am
mutual
def AV.ren (ρ : Nat → Option Nat) : AV → Option AV
  | .ptr i o => match ρ i with | some k => some (.ptr k o) | none => none
  | .sl i o len cap => match ρ i with | some k => some (.sl k o len cap) | none => none
  | .map i => match ρ i with | some k => some (.map k) | none => none
  | .fn f a b => match AV.renL ρ a, AV.renL ρ b with | some a, some b => some (.fn f a b) | _, _ => none
  | .agg cs => match AV.renL ρ cs with | some cs => some (.agg cs) | none => none
  | .tup cs => match AV.renL ρ cs with | some cs => some (.tup cs) | none => none
  | .undef => some .undef
  | .bool b => some (.bool b)
  | .int k n => some (.int k n)
  | .str s => some (.str s)
  | .nilp => some .nilp
  | .nils => some .nils
  | .nilm => some .nilm
  | .nilf => some .nilf
def AV.renL (ρ : Nat → Option Nat) : List AV → Option (List AV)
  | [] => some []
  | a :: as => match AV.ren ρ a, AV.renL ρ as with | some a, some as => some (a :: as) | _, _ => none
end

def renC {X : Type} (ρ : Nat → Option Nat) : Chunk X → Option (Chunk X)
  | .cells sz ro l => match AV.renL ρ l with | some l => some (.cells sz ro l) | none => none
  | .abs x => some (.abs x)
  | .dead => some .dead
section
variable {num : Nat → Nat} {μ μ' : Mu} {ρ : Nat → Option Nat}
theorem VR.fn_inv {f : Nat} {a b : List AV} {v : Value} (h : VR num μ (.fn f a b) v) : ∃ cs ds : Array Value, v = .func (.func (num f)) cs ds ∧ VRL num μ a cs.toList ∧ VRL num μ b ds.toList := by
  cases h with
  | fn h1 h2 h3 h4 => exact ⟨_, _, rfl, ⟨by simpa using h1, fun j x d hx hd => h2 j x d hx (by simpa using hd)⟩, by simpa using h3, fun j x d hx hd => h4 j x d hx (by simpa using hd)⟩
theorem VR.fn_of {f : Nat} {a b : List AV} {cs ds : Array Value} (h : VRL num μ a cs.toList) (k : VRL num μ b ds.toList) : VR num μ (.fn f a b) (.func (.func (num f)) cs ds) :=
  .fn (by simpa using h.1) (fun j x d hx hd => h.2 j x d hx (by simpa using hd)) (by simpa using k.1) (fun j x d hx hd => k.2 j x d hx (by simpa using hd))
mutual
theorem ren_forth (hρ : ∀ j i p, ρ j = some i → μ j = some p → μ' i = some p) : ∀ {a b : AV} {v : Value}, AV.ren ρ a = some b → VR num μ a v → VR num μ' b v
  | .ptr i o, b, v, h, hv => by
    simp only [AV.ren] at h
    split at h
    · rename_i k hk; injection h with h; subst h
      cases hv with
      | ptr hp => exact .ptr (hρ _ _ _ hk hp)
    · cases h
  | .sl i o len cap, b, v, h, hv => by
    simp only [AV.ren] at h
    split at h
    · rename_i k hk; injection h with h; subst h
      cases hv with
      | sl hp => exact .sl (hρ _ _ _ hk hp)
      | slu hp hl hr => exact .slu (hρ _ _ _ hk hp) hl hr
      | slz hp => exact .slz (hρ _ _ _ hk hp)
      | slz0 hp => exact .slz0 (hρ _ _ _ hk hp)
    · cases h
  | .map i, b, v, h, hv => by
    simp only [AV.ren] at h
    split at h
    · rename_i k hk; injection h with h; subst h
      cases hv with
      | map hp => exact .map (hρ _ _ _ hk hp)
    · cases h
  | .fn f x y, b, v, h, hv => by
    simp only [AV.ren] at h
    split at h
    · rename_i x' y' hx hy; injection h with h; subst h
      obtain ⟨cs, ds, rfl, h1, h2⟩ := hv.fn_inv
      exact VR.fn_of (renL_forth hρ hx h1) (renL_forth hρ hy h2)
    · cases h
  | .agg cs, b, v, h, hv => by
    simp only [AV.ren] at h
    split at h
    · rename_i cs' hx; injection h with h; subst h
      obtain ⟨ds, rfl, h1⟩ := hv.agg_inv
      have := VR.agg_of (renL_forth hρ hx h1)
      simpa using this
    · cases h
  | .tup cs, b, v, h, hv => by
    simp only [AV.ren] at h
    split at h
    · rename_i cs' hx; injection h with h; subst h
      obtain ⟨ds, rfl, h1⟩ := hv.tup_inv
      have := VR.tup_of (renL_forth hρ hx h1)
      simpa using this
    · cases h
  | .undef, b, v, h, hv => by injection h with h; subst h; exact .undef v
  | .bool _, b, v, h, hv => by injection h with h; subst h; cases hv; exact .bool _
  | .int _ _, b, v, h, hv => by injection h with h; subst h; cases hv; exact .int _ _
  | .str _, b, v, h, hv => by injection h with h; subst h; cases hv; exact .str _
  | .nilp, b, v, h, hv => by injection h with h; subst h; cases hv; exact .nilp
  | .nils, b, v, h, hv => by injection h with h; subst h; cases hv; exact .nils
  | .nilm, b, v, h, hv => by injection h with h; subst h; cases hv; exact .nilm
  | .nilf, b, v, h, hv => by injection h with h; subst h; cases hv; exact .nilf
theorem renL_forth (hρ : ∀ j i p, ρ j = some i → μ j = some p → μ' i = some p) : ∀ {as bs : List AV} {vs : List Value}, AV.renL ρ as = some bs → VRL num μ as vs → VRL num μ' bs vs
  | [], bs, vs, h, hv => by injection h with h; subst h; rw [hv.nil_inv]; exact VRL.nil
  | a :: as, bs, vs, h, hv => by
    simp only [AV.renL] at h
    split at h
    · rename_i a' as' h1 h2; injection h with h; subst h
      obtain ⟨v, vs', rfl, k1, k2⟩ := hv.cons_inv
      exact VRL.cons (ren_forth hρ h1 k1) (renL_forth hρ h2 k2)
    · cases h
end

mutual
theorem ren_back (hρ : ∀ j i p, ρ j = some i → μ' i = some p → μ j = some p) : ∀ {a b : AV} {v : Value}, AV.ren ρ a = some b → VR num μ' b v → VR num μ a v
  | .ptr i o, b, v, h, hv => by
    simp only [AV.ren] at h
    split at h
    · rename_i k hk; injection h with h; subst h
      cases hv with
      | ptr hp => exact .ptr (hρ _ _ _ hk hp)
    · cases h
  | .sl i o len cap, b, v, h, hv => by
    simp only [AV.ren] at h
    split at h
    · rename_i k hk; injection h with h; subst h
      cases hv with
      | sl hp => exact .sl (hρ _ _ _ hk hp)
      | slu hp hl hr => exact .slu (hρ _ _ _ hk hp) hl hr
      | slz hp => exact .slz (hρ _ _ _ hk hp)
      | slz0 hp => exact .slz0 (hρ _ _ _ hk hp)
    · cases h
  | .map i, b, v, h, hv => by
    simp only [AV.ren] at h
    split at h
    · rename_i k hk; injection h with h; subst h
      cases hv with
      | map hp => exact .map (hρ _ _ _ hk hp)
    · cases h
  | .fn f x y, b, v, h, hv => by
    simp only [AV.ren] at h
    split at h
    · rename_i x' y' hx hy; injection h with h; subst h
      obtain ⟨cs, ds, rfl, h1, h2⟩ := hv.fn_inv
      exact VR.fn_of (renL_back hρ hx h1) (renL_back hρ hy h2)
    · cases h
  | .agg cs, b, v, h, hv => by
    simp only [AV.ren] at h
    split at h
    · rename_i cs' hx; injection h with h; subst h
      obtain ⟨ds, rfl, h1⟩ := hv.agg_inv
      have := VR.agg_of (renL_back hρ hx h1)
      simpa using this
    · cases h
  | .tup cs, b, v, h, hv => by
    simp only [AV.ren] at h
    split at h
    · rename_i cs' hx; injection h with h; subst h
      obtain ⟨ds, rfl, h1⟩ := hv.tup_inv
      have := VR.tup_of (renL_back hρ hx h1)
      simpa using this
    · cases h
  | .undef, b, v, h, hv => by exact .undef v
  | .bool _, b, v, h, hv => by injection h with h; subst h; cases hv; exact .bool _
  | .int _ _, b, v, h, hv => by injection h with h; subst h; cases hv; exact .int _ _
  | .str _, b, v, h, hv => by injection h with h; subst h; cases hv; exact .str _
  | .nilp, b, v, h, hv => by injection h with h; subst h; cases hv; exact .nilp
  | .nils, b, v, h, hv => by injection h with h; subst h; cases hv; exact .nils
  | .nilm, b, v, h, hv => by injection h with h; subst h; cases hv; exact .nilm
  | .nilf, b, v, h, hv => by injection h with h; subst h; cases hv; exact .nilf
theorem renL_back (hρ : ∀ j i p, ρ j = some i → μ' i = some p → μ j = some p) : ∀ {as bs : List AV} {vs : List Value}, AV.renL ρ as = some bs → VRL num μ' bs vs → VRL num μ as vs
  | [], bs, vs, h, hv => by injection h with h; subst h; rw [hv.nil_inv]; exact VRL.nil
  | a :: as, bs, vs, h, hv => by
    simp only [AV.renL] at h
    split at h
    · rename_i a' as' h1 h2; injection h with h; subst h
      obtain ⟨v, vs', rfl, k1, k2⟩ := hv.cons_inv
      exact VRL.cons (ren_back hρ h1 k1) (renL_back hρ h2 k2)
    · cases h
end
end
theorem renL_length {ρ : Nat → Option Nat} : ∀ {as bs : List AV}, AV.renL ρ as = some bs → as.length = bs.length
  | [], bs, h => by injection h with h; subst h; rfl
  | a :: as, bs, h => by
    simp only [AV.renL] at h
    split at h
    · rename_i a' as' h1 h2; injection h with h; subst h; simp [renL_length h2]
    · cases h
theorem renL_get {ρ : Nat → Option Nat} : ∀ {as bs : List AV}, AV.renL ρ as = some bs → ∀ {o : Nat} {b : AV}, bs[o]? = some b → ∃ a, as[o]? = some a ∧ AV.ren ρ a = some b
  | [], bs, h, o, b, hb => by injection h with h; subst h; simp at hb
  | a :: as, bs, h, o, b, hb => by
    simp only [AV.renL] at h
    split at h
    · rename_i a' as' h1 h2; injection h with h; subst h
      cases o with
      | zero => simp at hb; subst hb; exact ⟨a, rfl, h1⟩
      | succ o => simp at hb; obtain ⟨x, hx, hr⟩ := renL_get h2 hb; exact ⟨x, by simpa using hx, hr⟩
    · cases h
theorem renL_get' {ρ : Nat → Option Nat} : ∀ {as bs : List AV}, AV.renL ρ as = some bs → ∀ {o : Nat} {a : AV}, as[o]? = some a → ∃ b, bs[o]? = some b ∧ AV.ren ρ a = some b
  | [], bs, h, o, b, hb => by simp at hb
  | a :: as, bs, h, o, b, hb => by
    simp only [AV.renL] at h
    split at h
    · rename_i a' as' h1 h2; injection h with h; subst h
      cases o with
      | zero => simp at hb; subst hb; exact ⟨a', rfl, h1⟩
      | succ o => simp at hb; obtain ⟨x, hx, hr⟩ := renL_get' h2 hb; exact ⟨x, by simpa using hx, hr⟩
    · cases h
section
variable {X : Type}
structure LiftAt (f : AFun X) (is : List Nat) (ρ : Nat → Option Nat) (as' : List AV) (ms : Mem X) (v' : AV) (ms' : Mem X) (args : List AV) (m : Mem X) (v : AV) (m' : Mem X) : Prop where
  lt : ∀ i, i ∈ is → i < m.length
  len : ms.length = is.length
  ch : ∀ (j i : Nat) (c : Chunk X), is[j]? = some i → ms[j]? = some c → ∃ c', renC (fun j => is[j]?) c = some c' ∧ m[i]? = some c'
  arg : AV.renL (fun j => is[j]?) as' = some args
  run : f as' ms = some (v', ms')
  h0 : ∀ j, j < is.length → ρ j = is[j]?
  new : ∀ (j i : Nat), is.length ≤ j → ρ j = some i → m.length ≤ i ∧ i < m'.length ∧ j < ms'.length ∧ ∀ sz l, ms'[j]? ≠ some (.cells sz true l)
  inj : ∀ j j' i, ρ j = some i → ρ j' = some i → j = j'
  mlen : m.length ≤ m'.length
  mlen' : ms.length ≤ ms'.length
  same : ∀ (i : Nat), i < m.length → i ∉ is → m'[i]? = m[i]?
  ch' : ∀ (j i : Nat) (c : Chunk X), ρ j = some i → ms'[j]? = some c → ∃ c', renC ρ c = some c' ∧ m'[i]? = some c'
  ro : ∀ (j sz : Nat) (l : List AV), j < is.length → ms'[j]? = some (.cells sz true l) → ∃ sz l, ms[j]? = some (.cells sz true l)
  res : AV.ren ρ v' = some v
def Lift (f g : AFun X) : Prop := ∀ args m v m', g args m = some (v, m') → ∃ is ρ as' ms v' ms', LiftAt f is ρ as' ms v' ms' args m v m'
theorem Lift.mono {f g : AFun X} (h : Lift f g) : Mono g := fun args m v m' hg => by
  obtain ⟨_, _, _, _, _, _, k⟩ := h args m v m' hg
  exact k.mlen
variable {A : AbsSem X} {num : Nat → Nat} {P : Program}
open Classical in
theorem lift_sound {f g : AFun X} (h : Lift f g) {k : FuncId} (hf : Sound A num P k f) : Sound A num P k g := by
  intro F μ m w args vs v m' hS hV hg
  obtain ⟨is, ρ, as', ms, v', ms', L⟩ := h args m v m' hg
  obtain ⟨own, hS⟩ := hS
  -- the small memory
  have hisn : ∀ j j' i, is[j]? = some i → is[j']? = some i → j = j' := fun j j' i h1 h2 =>
    L.inj j j' i ((L.h0 j (List.getElem?_eq_some_iff.1 h1).1).trans h1) ((L.h0 j' (List.getElem?_eq_some_iff.1 h2).1).trans h2)
  let μs : Mu := fun j => match is[j]? with | some i => μ i | none => none
  let owns : Nat → Option Nat := fun c => if h : ∃ j, ∃ i, own c = some i ∧ is[j]? = some i then some h.choose else none
  let Fs : Nat → Prop := fun c => ∃ i, i ∈ is ∧ own c = some i
  have hμs : ∀ j i, is[j]? = some i → μs j = μ i := fun j i h1 => by simp only [μs, h1]
  have howns : ∀ c j i, is[j]? = some i → (own c = some i ↔ owns c = some j) := by
    intro c j i hj
    constructor
    · intro ho
      have hex : ∃ j, ∃ i, own c = some i ∧ is[j]? = some i := ⟨j, i, ho, hj⟩
      have hc := hex.choose_spec
      obtain ⟨i', h1, h2⟩ := hc
      have : i' = i := by rw [ho] at h1; exact (Option.some.inj h1).symm
      subst this
      have : hex.choose = j := hisn _ _ _ h2 hj
      simp only [owns, dif_pos hex, this]
    · intro ho
      simp only [owns] at ho
      split at ho
      · rename_i hex
        obtain ⟨i', h1, h2⟩ := hex.choose_spec
        injection ho with ho
        rw [ho, hj] at h2
        injection h2 with h2; subst h2; exact h1
      · cases ho
  have hownsF : ∀ c j, owns c = some j → Fs c ∧ j < is.length := by
    intro c j ho
    simp only [owns] at ho
    split at ho
    · rename_i hex
      obtain ⟨i', h1, h2⟩ := hex.choose_spec
      injection ho with ho
      exact ⟨⟨i', List.mem_of_getElem? h2, h1⟩, by rw [← ho]; exact (List.getElem?_eq_some_iff.1 h2).1⟩
    · cases ho
  have hFsF : ∀ c, Fs c → F c := fun c ⟨i, _, h1⟩ => hS.isF c i h1
  have hsim : Sim A num Fs μs ms w.heap := by
    refine ⟨owns, fun c j ho => (hownsF c j ho).1, fun c hc => hS.lt c (hFsF c hc), fun j hj => ?_, fun j ch p hj hp => ?_⟩
    · have : is[j]? = none := List.getElem?_eq_none (by rw [← L.len]; exact hj)
      simp only [μs, this]
    · have hjl : j < is.length := by rw [← L.len]; exact (List.getElem?_eq_some_iff.1 hj).1
      have hi := List.getElem?_eq_getElem hjl
      obtain ⟨c', h1, h2⟩ := L.ch j _ ch hi hj
      rw [hμs j _ hi] at hp
      have hok := hS.ok _ c' p h2 hp
      have hback : ∀ (j : Nat) (i : Nat) (p : Pl), is[j]? = some i → μ i = some p → μs j = some p := fun j i p h1 h2 => by rw [hμs j i h1]; exact h2
      cases ch with
      | cells sz ro l =>
        simp only [renC] at h1
        split at h1
        · rename_i l' hl
          injection h1 with h1; subst h1
          obtain ⟨arr, T, fr, k1, k2, k3, k4, k5⟩ := hok
          refine ⟨arr, T, fr, k1, k2, ⟨by rw [renL_length hl]; exact k3.1, k3.2.1, fun o a ha => ?_⟩, fun hro hFs => k4 hro (hFsF _ hFs), fun hro => ⟨(howns _ _ _ hi).1 (k5 hro).1, (k5 hro).2⟩⟩
          obtain ⟨b, hb, hr⟩ := renL_get' hl ha
          obtain ⟨v, hv1, hv2⟩ := k3.2.2 o b hb
          exact ⟨v, hv1, ren_back hback hr hv2⟩
        · cases h1
      | abs x =>
        injection h1 with h1; subst h1
        exact A.frame hok (fun c => howns c _ _ hi) (fun _ _ => rfl)
      | dead => trivial
  have hargs : VRL num μs as' vs := renL_back (fun j i p h1 h2 => by rw [hμs j i h1]; exact h2) L.arg hV
  refine (hf Fs μs ms w as' vs v' ms' hsim hargs L.run).mono fun e w' he => ?_
  obtain ⟨F', μ', cv, rfl, hcv, ⟨own', hS'⟩, hE⟩ := he
  -- back to the great one
  have hF'd : ∀ c, F' c → F c → Fs c := by
    intro c h1 h2
    rcases hE.fr c h1 with h3 | h3
    · exact h3
    · have := hS.lt c h2; omega
  let μ2 : Mu := fun i => if i < m.length then μ i else if h : ∃ j, ρ j = some i then μ' h.choose else none
  let F2 : Nat → Prop := fun c => (F c ∧ ¬ Fs c) ∨ F' c
  let own2 : Nat → Option Nat := fun c => if F' c then (match own' c with | some j => ρ j | none => none) else if Fs c then none else match own c with | some i => if i < m.length then some i else none | none => none
  have hμ2 : ∀ (j i : Nat) (p : Pl), ρ j = some i → μ' j = some p → μ2 i = some p := by
    intro j i p hj hp
    simp only [μ2]
    by_cases hjl : j < is.length
    · have hi : is[j]? = some i := (L.h0 j hjl).symm.trans hj
      have hlt := L.lt i (List.mem_of_getElem? hi)
      rw [if_pos hlt, ← hμs j i hi, ← hE.mu j (by rw [L.len]; exact hjl)]
      exact hp
    · have := (L.new j i (by omega) hj).1
      rw [if_neg (by omega)]
      have hex : ∃ j, ρ j = some i := ⟨j, hj⟩
      have : hex.choose = j := L.inj _ _ _ hex.choose_spec hj
      rw [dif_pos hex, this]; exact hp
  have hρlt : ∀ (j i : Nat), ρ j = some i → i < m.length → is[j]? = some i := by
    intro j i hj hi
    by_cases hjl : j < is.length
    · exact (L.h0 j hjl).symm.trans hj
    · have := (L.new j i (by omega) hj).1; omega
  have hown2 : ∀ (c j i : Nat), ρ j = some i → (own' c = some j ↔ own2 c = some i) := by
    intro c j i hj
    constructor
    · intro ho
      have := hS'.isF c j ho
      simp only [own2, if_pos this, ho, hj]
    · intro ho
      simp only [own2] at ho
      split at ho
      · split at ho
        · rename_i j' hj'
          rw [hj', L.inj _ _ _ ho hj]
        · cases ho
      · split at ho
        · cases ho
        · rename_i hnF hnFs
          split at ho
          · rename_i i' hi'
            split at ho
            · rename_i hlt
              injection ho with ho; subst ho
              exact absurd ⟨i', List.mem_of_getElem? (hρlt j i' hj hlt), hi'⟩ hnFs
            · cases ho
          · cases ho
  have hown2' : ∀ (c i : Nat), i < m.length → i ∉ is → (own c = some i ↔ own2 c = some i) := by
    intro c i hlt hni
    constructor
    · intro ho
      have hFc := hS.isF c i ho
      have hnFs : ¬ Fs c := fun ⟨i', h1, h2⟩ => by
        rw [ho] at h2; injection h2 with h2; subst h2; exact hni h1
      have hnF' : ¬ F' c := fun h1 => hnFs (hF'd c h1 hFc)
      simp only [own2, if_neg hnF', if_neg hnFs, ho, if_pos hlt]
    · intro ho
      simp only [own2] at ho
      split at ho
      · split at ho
        · rename_i j' hj'
          exact absurd (List.mem_of_getElem? (hρlt j' i ho hlt)) hni
        · cases ho
      · split at ho
        · cases ho
        · split at ho
          · rename_i i' hi'
            split at ho
            · injection ho with ho; subst ho; exact hi'
            · cases ho
          · cases ho
  have hkept : ∀ c, c < w.heap.size → ¬ Fs c → w'.heap[c]? = w.heap[c]? := fun c h1 h2 => hE.keep c h1 h2
  have small : ∀ (j i : Nat) (c : Chunk X) (p : Pl), ρ j = some i → ms'[j]? = some c → μ' j = some p → ∀ ch, m'[i]? = some ch → ChunkOk A num μ2 F2 (fun c => own2 c = some i) p w'.heap ch := by
    intro j i c p hj hc hp ch hch
    obtain ⟨c', h1, h2⟩ := L.ch' j i c hj hc
    have : c' = ch := by rw [h2] at hch; exact Option.some.inj hch
    subst this
    have hok := hS'.ok j c p hc hp
    cases c with
    | cells sz ro l =>
      simp only [renC] at h1
      split at h1
      · rename_i l' hl
        injection h1 with h1; subst h1
        obtain ⟨arr, T, fr, k1, k2, k3, k4, k5⟩ := hok
        refine ⟨arr, T, fr, k1, k2, ⟨by rw [← renL_length hl]; exact k3.1, k3.2.1, fun o a ha => ?_⟩, fun hro hF2 => ?_, fun hro => ⟨(hown2 _ _ _ hj).1 (k5 hro).1, (k5 hro).2⟩⟩
        · obtain ⟨b, hb, hr⟩ := renL_get hl ha
          obtain ⟨v, hv1, hv2⟩ := k3.2.2 o b hb
          exact ⟨v, hv1, ren_forth hμ2 hr hv2⟩
        · subst hro
          rcases hF2 with ⟨hF, hnFs⟩ | hF'
          · by_cases hjl : j < is.length
            · obtain ⟨sz0, l0, hm0⟩ := L.ro j sz l hjl hc
              have hi := List.getElem?_eq_getElem hjl
              have hi' : is[j]? = some i := (L.h0 j hjl).symm.trans hj
              have hps : μs j = some p := (hE.mu j (by rw [L.len]; exact hjl)).symm.trans hp
              obtain ⟨c0, g1, g2⟩ := L.ch j i _ hi' hm0
              simp only [renC] at g1
              split at g1
              · injection g1 with g1; subst g1
                obtain ⟨_, _, _, _, _, _, q4, _⟩ := hS.ok i _ p g2 ((hμs j i hi').symm.trans hps)
                exact q4 rfl hF
              · cases g1
            · exact absurd hc ((L.new j i (by omega) hj).2.2.2 sz l)
          · exact k4 rfl hF'
      · cases h1
    | abs x =>
      injection h1 with h1; subst h1
      exact A.frame hok (fun c => hown2 c _ _ hj) (fun _ _ => rfl)
    | dead => injection h1 with h1; subst h1; trivial
  refine ⟨F2, μ2, cv, rfl, ren_forth hμ2 L.res hcv, ⟨own2, ?_⟩, ?_⟩
  · refine ⟨fun c i ho => ?_, fun c hc => ?_, fun i hi => ?_, fun i ch p hi hp => ?_⟩
    · simp only [own2] at ho
      split at ho
      · rename_i hF'; exact .inr hF'
      · split at ho
        · cases ho
        · rename_i hnFs
          split at ho
          · rename_i i' hi'; exact .inl ⟨hS.isF c i' hi', hnFs⟩
          · cases ho
    · rcases hc with ⟨h1, _⟩ | h1
      · exact Nat.lt_of_lt_of_le (hS.lt c h1) hE.size
      · exact hS'.lt c h1
    · simp only [μ2]
      have := L.mlen
      rw [if_neg (by omega)]
      split
      · rename_i hex
        have hj := hex.choose_spec
        by_cases hjl : hex.choose < is.length
        · have h1 := L.lt i (List.mem_of_getElem? ((L.h0 _ hjl).symm.trans hj)); omega
        · have := (L.new _ i (by omega) hj).2.1; omega
      · rfl
    · by_cases hlt : i < m.length
      · have hp0 : μ i = some p := by simpa only [μ2, if_pos hlt] using hp
        by_cases hni : i ∈ is
        · obtain ⟨j, hj⟩ := List.getElem?_of_mem hni
          have hjl := (List.getElem?_eq_some_iff.1 hj).1
          have hρj : ρ j = some i := (L.h0 j hjl).trans hj
          have hpj : μ' j = some p := (hE.mu j (by rw [L.len]; exact hjl)).trans ((hμs j i hj).trans hp0)
          have hms := List.getElem?_eq_getElem (show j < ms'.length by have := L.mlen'; have := L.len; omega)
          exact small j i _ p hρj hms hpj ch hi
        · rw [L.same i hlt hni] at hi
          refine (hS.ok i ch p hi hp0).keep (fun i' p' hp' => ?_) (fun c => hown2' c i hlt hni) (fun c hc => ?_) (fun c hc hFc => ⟨hkept c hc (fun h1 => hFc (hFsF c h1)), fun h1 => ?_⟩)
          · have : i' < m.length := by
              rcases Nat.lt_or_ge i' m.length with h1 | h1
              · exact h1
              · rw [hS.new i' h1] at hp'; cases hp'
            simp only [μ2, if_pos this]; exact hp'
          · refine hkept c (hS.lt c (hS.isF c i hc)) (fun ⟨i', h1, h2⟩ => ?_)
            rw [hc] at h2; injection h2 with h2; subst h2; exact hni h1
          · rcases h1 with ⟨h1, _⟩ | h1
            · exact hFc h1
            · rcases hE.fr c h1 with h2 | h2
              · exact hFc (hFsF c h2)
              · omega
      · simp only [μ2, if_neg hlt] at hp
        split at hp
        · rename_i hex
          have hj := hex.choose_spec
          by_cases hjl : hex.choose < is.length
          · have h1 := L.lt i (List.mem_of_getElem? ((L.h0 _ hjl).symm.trans hj)); omega
          · have hn := L.new _ i (by omega) hj
            exact small _ i _ p hj (List.getElem?_eq_getElem hn.2.2.1) hp ch hi
        · cases hp
  · refine ⟨fun i hi => by simp only [μ2, if_pos hi], fun c hc => ?_, hE.size, fun c hc hFc => hE.keep c hc (fun h1 => hFc (hFsF c h1)), hE.os, hE.tape, hE.output⟩
    rcases hc with ⟨h1, _⟩ | h1
    · exact .inl h1
    · rcases hE.fr c h1 with h2 | h2
      · exact .inl (hFsF c h2)
      · exact .inr h2
end
end Go.Am
namespace Go.Am
section
variable {X : Type}
mutual
theorem ren_no {ρ : Nat → Option Nat} : ∀ {a b : AV}, AV.ren (fun _ => none) a = some b → AV.ren ρ a = some b
  | .ptr i o, b, h => by simp [AV.ren] at h
  | .sl i o len cap, b, h => by simp [AV.ren] at h
  | .map i, b, h => by simp [AV.ren] at h
  | .fn f x y, b, h => by
    simp only [AV.ren] at h ⊢
    split at h
    · rename_i x' y' hx hy; rw [renL_no hx, renL_no hy]; exact h
    · cases h
  | .agg cs, b, h => by
    simp only [AV.ren] at h ⊢
    split at h
    · rename_i x' hx; rw [renL_no hx]; exact h
    · cases h
  | .tup cs, b, h => by
    simp only [AV.ren] at h ⊢
    split at h
    · rename_i x' hx; rw [renL_no hx]; exact h
    · cases h
  | .undef, b, h => h
  | .bool _, b, h => h
  | .int _ _, b, h => h
  | .str _, b, h => h
  | .nilp, b, h => h
  | .nils, b, h => h
  | .nilm, b, h => h
  | .nilf, b, h => h
theorem renL_no {ρ : Nat → Option Nat} : ∀ {a b : List AV}, AV.renL (fun _ => none) a = some b → AV.renL ρ a = some b
  | [], b, h => h
  | a :: as, b, h => by
    simp only [AV.renL] at h ⊢
    split at h
    · rename_i x y hx hy; rw [ren_no hx, renL_no hy]; exact h
    · cases h
end

def pureF (g : List AV → Option AV) : AFun X := fun args m => match g args with | some v => some (v, m) | none => none
def no : Nat → Option Nat := fun _ => none
theorem lift_pure {f : AFun X} {g : List AV → Option AV} (h : ∀ args v, g args = some v → AV.renL no args = some args ∧ AV.ren no v = some v ∧ ∃ ms', f args [] = some (v, ms')) : Lift f (pureF g) := by
  intro args m v m' hg
  unfold pureF at hg
  split at hg
  · rename_i u hu
    simp only [Option.some.injEq, Prod.mk.injEq] at hg
    obtain ⟨rfl, rfl⟩ := hg
    obtain ⟨h1, h2, ms', h3⟩ := h args u hu
    refine ⟨[], no, args, [], u, ms', ?_⟩
    exact { lt := fun i hi => by simp at hi, len := rfl, ch := fun j i c hj => by simp at hj, arg := by simp only [List.getElem?_nil]; exact h1, run := h3, h0 := fun j hj => by simp at hj,
            new := fun j i _ hj => by simp [no] at hj, inj := fun j j' i hj => by simp [no] at hj, mlen := Nat.le_refl _, mlen' := by simp, same := fun _ _ _ => rfl,
            ch' := fun j i c hj => by simp [no] at hj, ro := fun j sz l hj => by simp at hj, res := h2 }
  · cases hg
def only (i : Nat) : Nat → Option Nat := fun j => if j = 0 then some i else none
end
end Go.Am
