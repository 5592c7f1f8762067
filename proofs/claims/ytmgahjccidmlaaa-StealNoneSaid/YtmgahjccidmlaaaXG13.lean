import Derived.Test.YtmgahjccidmlaaaXG12
set_option linter.unusedSimpArgs false
set_option linter.unusedVariables false
section
namespace Go.Am
theorem get_at {α : Type} {l k : List α} {n i : Nat} (h : l.length = n) : (l ++ k)[n + i]? = k[i]? := by rw [← h]; exact get_mid
theorem get_at0 {α : Type} {l k : List α} {n : Nat} (h : l.length = n) : (l ++ k)[n]? = k[0]? := by rw [← h]; exact get_mid0
theorem set_at {α : Type} {l k : List α} {n i : Nat} {y : α} (h : l.length = n) : (l ++ k).set (n + i) y = l ++ k.set i y := by rw [← h]; exact set_mid
theorem set_at0 {α : Type} {l k : List α} {n : Nat} {y : α} (h : l.length = n) : (l ++ k).set n y = l ++ k.set 0 y := by rw [← h]; exact set_mid0
theorem zk : type_of% (And.intro (And.intro (And.intro (And.intro (And.intro (And.intro @ek @evB) (And.intro @evS @evL)) (And.intro (And.intro @Bool.and_true @Bool.true_and) (And.intro @if_true.{1} (And.intro @CW_true @CW_false)))) (And.intro (And.intro (And.intro @condT @condF) (And.intro @RQ_some (And.intro @tupA_one @tupA_two))) (And.intro (And.intro @tupA_nil @Nat.zero_add) (And.intro @Nat.add_zero (And.intro @and_self @and_true))))) (And.intro (And.intro (And.intro (And.intro @true_and @Nat.le_refl) (And.intro @Bool.not_true (And.intro @Bool.not_false @Bool.false_xor))) (And.intro (And.intro @Bool.true_xor @cond_true.{1}) (And.intro @cond_false.{1} (And.intro @if_false.{1} @ne_eq.{1})))) (And.intro (And.intro (And.intro @decide_not @decide_true) (And.intro @decide_false (And.intro @not_true_eq_false @not_false_eq_true))) (And.intro (And.intro @cond_bool @cond_int) (And.intro @beq_self_eq_true.{0} (And.intro @Bool.and_self @Bool.and_false)))))) (And.intro (And.intro (And.intro (And.intro (And.intro @Bool.false_and @Bool.xor_false) (And.intro @Bool.xor_true (And.intro @loadN_ldC @ldC_none))) (And.intro (And.intro @ldC_somes @stC_aggs) (And.intro @storeN_stC (And.intro @stC_int @stC_bool)))) (And.intro (And.intro (And.intro @stC_ptr @stC_nilp) (And.intro @stC_sl (And.intro @stC_nils @getC_gcO))) (And.intro (And.intro @gcO_cells @W_draw_eq) (And.intro @ev_clear (And.intro @evT @evF))))) (And.intro (And.intro (And.intro (And.intro @evX @evM) (And.intro @saA_self (And.intro @saO_self @if_pos.{1}))) (And.intro (And.intro @if_neg.{1} @wrapI) (And.intro @get_concat (And.intro @set_concat @Int.toNat_natCast)))) (And.intro (And.intro (And.intro @Int.toNat_zero @List.nil_append.{0}) (And.intro @Nat.mul_one (And.intro @decide_eq_true @decide_eq_false))) (And.intro (And.intro @Bool.false_or @Bool.true_or) (And.intro @Bool.or_false (And.intro @Bool.or_true @wrapU))))))) := (And.intro (And.intro (And.intro (And.intro (And.intro (And.intro @ek @evB) (And.intro @evS @evL)) (And.intro (And.intro @Bool.and_true @Bool.true_and) (And.intro @if_true.{1} (And.intro @CW_true @CW_false)))) (And.intro (And.intro (And.intro @condT @condF) (And.intro @RQ_some (And.intro @tupA_one @tupA_two))) (And.intro (And.intro @tupA_nil @Nat.zero_add) (And.intro @Nat.add_zero (And.intro @and_self @and_true))))) (And.intro (And.intro (And.intro (And.intro @true_and @Nat.le_refl) (And.intro @Bool.not_true (And.intro @Bool.not_false @Bool.false_xor))) (And.intro (And.intro @Bool.true_xor @cond_true.{1}) (And.intro @cond_false.{1} (And.intro @if_false.{1} @ne_eq.{1})))) (And.intro (And.intro (And.intro @decide_not @decide_true) (And.intro @decide_false (And.intro @not_true_eq_false @not_false_eq_true))) (And.intro (And.intro @cond_bool @cond_int) (And.intro @beq_self_eq_true.{0} (And.intro @Bool.and_self @Bool.and_false)))))) (And.intro (And.intro (And.intro (And.intro (And.intro @Bool.false_and @Bool.xor_false) (And.intro @Bool.xor_true (And.intro @loadN_ldC @ldC_none))) (And.intro (And.intro @ldC_somes @stC_aggs) (And.intro @storeN_stC (And.intro @stC_int @stC_bool)))) (And.intro (And.intro (And.intro @stC_ptr @stC_nilp) (And.intro @stC_sl (And.intro @stC_nils @getC_gcO))) (And.intro (And.intro @gcO_cells @W_draw_eq) (And.intro @ev_clear (And.intro @evT @evF))))) (And.intro (And.intro (And.intro (And.intro @evX @evM) (And.intro @saA_self (And.intro @saO_self @if_pos.{1}))) (And.intro (And.intro @if_neg.{1} @wrapI) (And.intro @get_concat (And.intro @set_concat @Int.toNat_natCast)))) (And.intro (And.intro (And.intro @Int.toNat_zero @List.nil_append.{0}) (And.intro @Nat.mul_one (And.intro @decide_eq_true @decide_eq_false))) (And.intro (And.intro @Bool.false_or @Bool.true_or) (And.intro @Bool.or_false (And.intro @Bool.or_true @wrapU)))))))
theorem zd : type_of% (And.intro (And.intro (And.intro (And.intro @evW (And.intro @evQ @thenQ_normal)) (And.intro @thenQ_exit (And.intro @thenQ_ret @blockQ_normal))) (And.intro (And.intro @blockQ_ret (And.intro @blockQ_exit @CW_true)) (And.intro (And.intro @CW_false @W_scope) (And.intro @exitQ_normal @exitQ_ret)))) (And.intro (And.intro (And.intro @exitQ_exit (And.intro @W_goto @W_scopeg)) (And.intro @thenQ_goto (And.intro @blockQ_goto @exitQ_goto))) (And.intro (And.intro @jumpQ_normal (And.intro @jumpQ_ret @jumpQ_exit)) (And.intro (And.intro @jumpQ_goto @noG_normal) (And.intro @noG_ret @noG_exit))))) := (And.intro (And.intro (And.intro (And.intro @evW (And.intro @evQ @thenQ_normal)) (And.intro @thenQ_exit (And.intro @thenQ_ret @blockQ_normal))) (And.intro (And.intro @blockQ_ret (And.intro @blockQ_exit @CW_true)) (And.intro (And.intro @CW_false @W_scope) (And.intro @exitQ_normal @exitQ_ret)))) (And.intro (And.intro (And.intro @exitQ_exit (And.intro @W_goto @W_scopeg)) (And.intro @thenQ_goto (And.intro @blockQ_goto @exitQ_goto))) (And.intro (And.intro @jumpQ_normal (And.intro @jumpQ_ret @jumpQ_exit)) (And.intro (And.intro @jumpQ_goto @noG_normal) (And.intro @noG_ret @noG_exit)))))
theorem zm : type_of% (And.intro (And.intro @List.append_assoc.{0} (And.intro @List.length_append.{0} @get_mid)) (And.intro @get_mid0 (And.intro @set_mid @set_mid0))) := (And.intro (And.intro @List.append_assoc.{0} (And.intro @List.length_append.{0} @get_mid)) (And.intro @get_mid0 (And.intro @set_mid @set_mid0)))
theorem zg : type_of% (And.intro (And.intro (And.intro @List.length_set.{0} (And.intro @List.length_cons.{0} @List.length_nil.{0})) (And.intro @List.cons_append.{0} (And.intro @List.getElem?_append_left.{0} @List.set_append_left.{0}))) (And.intro (And.intro @get_at (And.intro @get_at0 @set_at)) (And.intro @set_at0 (And.intro @List.getElem?_set_self.{0} @List.getElem?_set_ne.{0})))) := (And.intro (And.intro (And.intro @List.length_set.{0} (And.intro @List.length_cons.{0} @List.length_nil.{0})) (And.intro @List.cons_append.{0} (And.intro @List.getElem?_append_left.{0} @List.set_append_left.{0}))) (And.intro (And.intro @get_at (And.intro @get_at0 @set_at)) (And.intro @set_at0 (And.intro @List.getElem?_set_self.{0} @List.getElem?_set_ne.{0}))))
theorem zl : type_of% (And.intro (And.intro @List.length_cons.{0} @List.length_nil.{0}) (And.intro @List.length_set.{0} @List.length_append.{0})) := (And.intro (And.intro @List.length_cons.{0} @List.length_nil.{0}) (And.intro @List.length_set.{0} @List.length_append.{0}))
theorem zn : type_of% (And.intro (And.intro @get_mid (And.intro @get_mid0 @List.cons_append.{0})) (And.intro @List.append_assoc.{0} (And.intro @List.getElem?_cons_zero.{0} @List.getElem?_cons_succ.{0}))) := (And.intro (And.intro @get_mid (And.intro @get_mid0 @List.cons_append.{0})) (And.intro @List.append_assoc.{0} (And.intro @List.getElem?_cons_zero.{0} @List.getElem?_cons_succ.{0})))
end Go.Am
end
section
namespace Go.Am
mutual
def AV.ren (ρ : Nat → Option Nat) : AV → Option AV
  | .ptr i o => match ρ i with | some k => some (.ptr k o) | none => none
  | .sl i o len cap => match ρ i with | some k => some (.sl k o len cap) | none => none
  | .map i => match ρ i with | some k => some (.map k) | none => none
  | .fn f a b => match AV.renL ρ a, AV.renL ρ b with | some a, some b => some (.fn f a b) | _, _ => none
  | .agg cs => match AV.renL ρ cs with | some cs => some (.agg cs) | none => none
  | .tup cs => match AV.renL ρ cs with | some cs => some (.tup cs) | none => none
  | .undef => some .undef
  | .bool b => some (.bool b)
  | .int k n => some (.int k n)
  | .str s => some (.str s)
  | .nilp => some .nilp
  | .nils => some .nils
  | .mt => some .mt
  | .nilm => some .nilm
  | .nilf => some .nilf
def AV.renL (ρ : Nat → Option Nat) : List AV → Option (List AV)
  | [] => some []
  | a :: as => match AV.ren ρ a, AV.renL ρ as with | some a, some as => some (a :: as) | _, _ => none
end

def renC {X : Type} (ρ : Nat → Option Nat) : Chunk X → Option (Chunk X)
  | .cells sz ro l => match AV.renL ρ l with | some l => some (.cells sz ro l) | none => none
  | .abs x => some (.abs x)
  | .dead => some .dead
  | .tab _ _ => none
section
variable {num : Nat → Nat} {μ μ' : Mu} {ρ : Nat → Option Nat}
theorem VR.fn_inv {f : Nat} {a b : List AV} {v : Value} (h : VR num μ (.fn f a b) v) : ∃ cs ds : Array Value, v = .func (.func (num f)) cs ds ∧ VRL num μ a cs.toList ∧ VRL num μ b ds.toList := by
  cases h with
  | fn h1 h2 h3 h4 => exact ⟨_, _, rfl, ⟨by simpa using h1, fun j x d hx hd => h2 j x d hx (by simpa using hd)⟩, by simpa using h3, fun j x d hx hd => h4 j x d hx (by simpa using hd)⟩
theorem VR.fn_of {f : Nat} {a b : List AV} {cs ds : Array Value} (h : VRL num μ a cs.toList) (k : VRL num μ b ds.toList) : VR num μ (.fn f a b) (.func (.func (num f)) cs ds) :=
  .fn (by simpa using h.1) (fun j x d hx hd => h.2 j x d hx (by simpa using hd)) (by simpa using k.1) (fun j x d hx hd => k.2 j x d hx (by simpa using hd))
mutual
theorem ren_forth (hρ : ∀ j i p, ρ j = some i → μ j = some p → μ' i = some p) : ∀ {a b : AV} {v : Value}, AV.ren ρ a = some b → VR num μ a v → VR num μ' b v
  | .ptr i o, b, v, h, hv => by
    simp only [AV.ren] at h
    split at h
    · rename_i k hk; injection h with h; subst h
      cases hv with
      | ptr hp => exact .ptr (hρ _ _ _ hk hp)
    · cases h
  | .sl i o len cap, b, v, h, hv => by
    simp only [AV.ren] at h
    split at h
    · rename_i k hk; injection h with h; subst h
      cases hv with
      | sl hp => exact .sl (hρ _ _ _ hk hp)
      | slu hp hl hr => exact .slu (hρ _ _ _ hk hp) hl hr
      | slz hp => exact .slz (hρ _ _ _ hk hp)
      | slz0 hp => exact .slz0 (hρ _ _ _ hk hp)
    · cases h
  | .map i, b, v, h, hv => by
    simp only [AV.ren] at h
    split at h
    · rename_i k hk; injection h with h; subst h
      cases hv with
      | map hp => exact .map (hρ _ _ _ hk hp)
    · cases h
  | .fn f x y, b, v, h, hv => by
    simp only [AV.ren] at h
    split at h
    · rename_i x' y' hx hy; injection h with h; subst h
      obtain ⟨cs, ds, rfl, h1, h2⟩ := hv.fn_inv
      exact VR.fn_of (renL_forth hρ hx h1) (renL_forth hρ hy h2)
    · cases h
  | .agg cs, b, v, h, hv => by
    simp only [AV.ren] at h
    split at h
    · rename_i cs' hx; injection h with h; subst h
      obtain ⟨ds, rfl, h1⟩ := hv.agg_inv
      have := VR.agg_of (renL_forth hρ hx h1)
      simpa using this
    · cases h
  | .tup cs, b, v, h, hv => by
    simp only [AV.ren] at h
    split at h
    · rename_i cs' hx; injection h with h; subst h
      obtain ⟨ds, rfl, h1⟩ := hv.tup_inv
      have := VR.tup_of (renL_forth hρ hx h1)
      simpa using this
    · cases h
  | .undef, b, v, h, hv => by injection h with h; subst h; exact .undef v
  | .bool _, b, v, h, hv => by injection h with h; subst h; cases hv; exact .bool _
  | .int _ _, b, v, h, hv => by injection h with h; subst h; cases hv; exact .int _ _
  | .str _, b, v, h, hv => by injection h with h; subst h; cases hv; exact .str _
  | .nilp, b, v, h, hv => by injection h with h; subst h; cases hv; exact .nilp
  | .nils, b, v, h, hv => by injection h with h; subst h; cases hv; exact .nils
  | .mt, b, v, h, hv => by injection h with h; subst h; cases hv; exact .mt
  | .nilm, b, v, h, hv => by injection h with h; subst h; cases hv; exact .nilm
  | .nilf, b, v, h, hv => by injection h with h; subst h; cases hv; exact .nilf
theorem renL_forth (hρ : ∀ j i p, ρ j = some i → μ j = some p → μ' i = some p) : ∀ {as bs : List AV} {vs : List Value}, AV.renL ρ as = some bs → VRL num μ as vs → VRL num μ' bs vs
  | [], bs, vs, h, hv => by injection h with h; subst h; rw [hv.nil_inv]; exact VRL.nil
  | a :: as, bs, vs, h, hv => by
    simp only [AV.renL] at h
    split at h
    · rename_i a' as' h1 h2; injection h with h; subst h
      obtain ⟨v, vs', rfl, k1, k2⟩ := hv.cons_inv
      exact VRL.cons (ren_forth hρ h1 k1) (renL_forth hρ h2 k2)
    · cases h
end

mutual
theorem ren_back (hρ : ∀ j i p, ρ j = some i → μ' i = some p → μ j = some p) : ∀ {a b : AV} {v : Value}, AV.ren ρ a = some b → VR num μ' b v → VR num μ a v
  | .ptr i o, b, v, h, hv => by
    simp only [AV.ren] at h
    split at h
    · rename_i k hk; injection h with h; subst h
      cases hv with
      | ptr hp => exact .ptr (hρ _ _ _ hk hp)
    · cases h
  | .sl i o len cap, b, v, h, hv => by
    simp only [AV.ren] at h
    split at h
    · rename_i k hk; injection h with h; subst h
      cases hv with
      | sl hp => exact .sl (hρ _ _ _ hk hp)
      | slu hp hl hr => exact .slu (hρ _ _ _ hk hp) hl hr
      | slz hp => exact .slz (hρ _ _ _ hk hp)
      | slz0 hp => exact .slz0 (hρ _ _ _ hk hp)
    · cases h
  | .map i, b, v, h, hv => by
    simp only [AV.ren] at h
    split at h
    · rename_i k hk; injection h with h; subst h
      cases hv with
      | map hp => exact .map (hρ _ _ _ hk hp)
    · cases h
  | .fn f x y, b, v, h, hv => by
    simp only [AV.ren] at h
    split at h
    · rename_i x' y' hx hy; injection h with h; subst h
      obtain ⟨cs, ds, rfl, h1, h2⟩ := hv.fn_inv
      exact VR.fn_of (renL_back hρ hx h1) (renL_back hρ hy h2)
    · cases h
  | .agg cs, b, v, h, hv => by
    simp only [AV.ren] at h
    split at h
    · rename_i cs' hx; injection h with h; subst h
      obtain ⟨ds, rfl, h1⟩ := hv.agg_inv
      have := VR.agg_of (renL_back hρ hx h1)
      simpa using this
    · cases h
  | .tup cs, b, v, h, hv => by
    simp only [AV.ren] at h
    split at h
    · rename_i cs' hx; injection h with h; subst h
      obtain ⟨ds, rfl, h1⟩ := hv.tup_inv
      have := VR.tup_of (renL_back hρ hx h1)
      simpa using this
    · cases h
  | .undef, b, v, h, hv => by exact .undef v
  | .bool _, b, v, h, hv => by injection h with h; subst h; cases hv; exact .bool _
  | .int _ _, b, v, h, hv => by injection h with h; subst h; cases hv; exact .int _ _
  | .str _, b, v, h, hv => by injection h with h; subst h; cases hv; exact .str _
  | .nilp, b, v, h, hv => by injection h with h; subst h; cases hv; exact .nilp
  | .nils, b, v, h, hv => by injection h with h; subst h; cases hv; exact .nils
  | .mt, b, v, h, hv => by injection h with h; subst h; cases hv; exact .mt
  | .nilm, b, v, h, hv => by injection h with h; subst h; cases hv; exact .nilm
  | .nilf, b, v, h, hv => by injection h with h; subst h; cases hv; exact .nilf
theorem renL_back (hρ : ∀ j i p, ρ j = some i → μ' i = some p → μ j = some p) : ∀ {as bs : List AV} {vs : List Value}, AV.renL ρ as = some bs → VRL num μ' bs vs → VRL num μ as vs
  | [], bs, vs, h, hv => by injection h with h; subst h; rw [hv.nil_inv]; exact VRL.nil
  | a :: as, bs, vs, h, hv => by
    simp only [AV.renL] at h
    split at h
    · rename_i a' as' h1 h2; injection h with h; subst h
      obtain ⟨v, vs', rfl, k1, k2⟩ := hv.cons_inv
      exact VRL.cons (ren_back hρ h1 k1) (renL_back hρ h2 k2)
    · cases h
end
end
theorem renL_length {ρ : Nat → Option Nat} : ∀ {as bs : List AV}, AV.renL ρ as = some bs → as.length = bs.length
  | [], bs, h => by injection h with h; subst h; rfl
  | a :: as, bs, h => by
    simp only [AV.renL] at h
    split at h
    · rename_i a' as' h1 h2; injection h with h; subst h; simp [renL_length h2]
    · cases h
theorem renL_get {ρ : Nat → Option Nat} : ∀ {as bs : List AV}, AV.renL ρ as = some bs → ∀ {o : Nat} {b : AV}, bs[o]? = some b → ∃ a, as[o]? = some a ∧ AV.ren ρ a = some b
  | [], bs, h, o, b, hb => by injection h with h; subst h; simp at hb
  | a :: as, bs, h, o, b, hb => by
    simp only [AV.renL] at h
    split at h
    · rename_i a' as' h1 h2; injection h with h; subst h
      cases o with
      | zero => simp at hb; subst hb; exact ⟨a, rfl, h1⟩
      | succ o => simp at hb; obtain ⟨x, hx, hr⟩ := renL_get h2 hb; exact ⟨x, by simpa using hx, hr⟩
    · cases h
theorem renL_get' {ρ : Nat → Option Nat} : ∀ {as bs : List AV}, AV.renL ρ as = some bs → ∀ {o : Nat} {a : AV}, as[o]? = some a → ∃ b, bs[o]? = some b ∧ AV.ren ρ a = some b
  | [], bs, h, o, b, hb => by simp at hb
  | a :: as, bs, h, o, b, hb => by
    simp only [AV.renL] at h
    split at h
    · rename_i a' as' h1 h2; injection h with h; subst h
      cases o with
      | zero => simp at hb; subst hb; exact ⟨a', rfl, h1⟩
      | succ o => simp at hb; obtain ⟨x, hx, hr⟩ := renL_get' h2 hb; exact ⟨x, by simpa using hx, hr⟩
    · cases h
section
variable {X : Type}
structure LiftAt (f : AFun X) (is : List Nat) (ρ : Nat → Option Nat) (as' : List AV) (ms : Mem X) (v' : AV) (ms' : Mem X) (args : List AV) (m : Mem X) (v : AV) (m' : Mem X) : Prop where
  lt : ∀ i, i ∈ is → i < m.length
  len : ms.length = is.length
  ch : ∀ (j i : Nat) (c : Chunk X), is[j]? = some i → ms[j]? = some c → ∃ c', renC (fun j => is[j]?) c = some c' ∧ m[i]? = some c'
  arg : AV.renL (fun j => is[j]?) as' = some args
  run : f as' ms = some (v', ms')
  h0 : ∀ j, j < is.length → ρ j = is[j]?
  new : ∀ (j i : Nat), is.length ≤ j → ρ j = some i → m.length ≤ i ∧ i < m'.length ∧ j < ms'.length ∧ ∀ sz l, ms'[j]? ≠ some (.cells sz true l)
  inj : ∀ j j' i, ρ j = some i → ρ j' = some i → j = j'
  mlen : m.length ≤ m'.length
  mlen' : ms.length ≤ ms'.length
  same : ∀ (i : Nat), i < m.length → i ∉ is → m'[i]? = m[i]?
  ch' : ∀ (j i : Nat) (c : Chunk X), ρ j = some i → ms'[j]? = some c → ∃ c', renC ρ c = some c' ∧ m'[i]? = some c'
  ro : ∀ (j sz : Nat) (l : List AV), j < is.length → ms'[j]? = some (.cells sz true l) → ∃ sz l, ms[j]? = some (.cells sz true l)
  res : AV.ren ρ v' = some v
def Lift (f g : AFun X) : Prop := ∀ args m v m', g args m = some (v, m') → ∃ is ρ as' ms v' ms', LiftAt f is ρ as' ms v' ms' args m v m'
theorem Lift.mono {f g : AFun X} (h : Lift f g) : Mono g := fun args m v m' hg => by
  obtain ⟨_, _, _, _, _, _, k⟩ := h args m v m' hg
  exact k.mlen
variable {A : AbsSem X} {num : Nat → Nat} {P : Program}
open Classical in
theorem lift_sound {f g : AFun X} (h : Lift f g) {k : FuncId} (hf : Sound A num P k f) : Sound A num P k g := by
  intro F μ m w args vs v m' hS hV hg
  obtain ⟨is, ρ, as', ms, v', ms', L⟩ := h args m v m' hg
  obtain ⟨own, hS⟩ := hS
  -- the small memory
  have hisn : ∀ j j' i, is[j]? = some i → is[j']? = some i → j = j' := fun j j' i h1 h2 =>
    L.inj j j' i ((L.h0 j (List.getElem?_eq_some_iff.1 h1).1).trans h1) ((L.h0 j' (List.getElem?_eq_some_iff.1 h2).1).trans h2)
  let μs : Mu := fun j => match is[j]? with | some i => μ i | none => none
  let owns : Nat → Option Nat := fun c => if h : ∃ j, ∃ i, own c = some i ∧ is[j]? = some i then some h.choose else none
  let Fs : Nat → Prop := fun c => ∃ i, i ∈ is ∧ own c = some i
  have hμs : ∀ j i, is[j]? = some i → μs j = μ i := fun j i h1 => by simp only [μs, h1]
  have howns : ∀ c j i, is[j]? = some i → (own c = some i ↔ owns c = some j) := by
    intro c j i hj
    constructor
    · intro ho
      have hex : ∃ j, ∃ i, own c = some i ∧ is[j]? = some i := ⟨j, i, ho, hj⟩
      have hc := hex.choose_spec
      obtain ⟨i', h1, h2⟩ := hc
      have : i' = i := by rw [ho] at h1; exact (Option.some.inj h1).symm
      subst this
      have : hex.choose = j := hisn _ _ _ h2 hj
      simp only [owns, dif_pos hex, this]
    · intro ho
      simp only [owns] at ho
      split at ho
      · rename_i hex
        obtain ⟨i', h1, h2⟩ := hex.choose_spec
        injection ho with ho
        rw [ho, hj] at h2
        injection h2 with h2; subst h2; exact h1
      · cases ho
  have hownsF : ∀ c j, owns c = some j → Fs c ∧ j < is.length := by
    intro c j ho
    simp only [owns] at ho
    split at ho
    · rename_i hex
      obtain ⟨i', h1, h2⟩ := hex.choose_spec
      injection ho with ho
      exact ⟨⟨i', List.mem_of_getElem? h2, h1⟩, by rw [← ho]; exact (List.getElem?_eq_some_iff.1 h2).1⟩
    · cases ho
  have hFsF : ∀ c, Fs c → F c := fun c ⟨i, _, h1⟩ => hS.isF c i h1
  have hsim : Sim A num Fs μs ms w.heap := by
    refine ⟨owns, fun c j ho => (hownsF c j ho).1, fun c hc => hS.lt c (hFsF c hc), fun j hj => ?_, fun j ch p hj hp => ?_⟩
    · have : is[j]? = none := List.getElem?_eq_none (by rw [← L.len]; exact hj)
      simp only [μs, this]
    · have hjl : j < is.length := by rw [← L.len]; exact (List.getElem?_eq_some_iff.1 hj).1
      have hi := List.getElem?_eq_getElem hjl
      obtain ⟨c', h1, h2⟩ := L.ch j _ ch hi hj
      rw [hμs j _ hi] at hp
      have hok := hS.ok _ c' p h2 hp
      have hback : ∀ (j : Nat) (i : Nat) (p : Pl), is[j]? = some i → μ i = some p → μs j = some p := fun j i p h1 h2 => by rw [hμs j i h1]; exact h2
      cases ch with
      | cells sz ro l =>
        simp only [renC] at h1
        split at h1
        · rename_i l' hl
          injection h1 with h1; subst h1
          obtain ⟨arr, T, fr, k1, k2, k3, k4, k5⟩ := hok
          refine ⟨arr, T, fr, k1, k2, ⟨by rw [renL_length hl]; exact k3.1, k3.2.1, fun o a ha => ?_⟩, fun hro hFs => k4 hro (hFsF _ hFs), fun hro => ⟨(howns _ _ _ hi).1 (k5 hro).1, (k5 hro).2⟩⟩
          obtain ⟨b, hb, hr⟩ := renL_get' hl ha
          obtain ⟨v, hv1, hv2⟩ := k3.2.2 o b hb
          exact ⟨v, hv1, ren_back hback hr hv2⟩
        · cases h1
      | abs x =>
        injection h1 with h1; subst h1
        exact A.frame hok (fun c => howns c _ _ hi) (fun _ _ => rfl)
      | dead => trivial
      | tab l ck => cases h1
  have hargs : VRL num μs as' vs := renL_back (fun j i p h1 h2 => by rw [hμs j i h1]; exact h2) L.arg hV
  refine (hf Fs μs ms w as' vs v' ms' hsim hargs L.run).mono fun e w' he => ?_
  obtain ⟨F', μ', cv, rfl, hcv, ⟨own', hS'⟩, hE⟩ := he
  -- back to the great one
  have hF'd : ∀ c, F' c → F c → Fs c := by
    intro c h1 h2
    rcases hE.fr c h1 with h3 | h3
    · exact h3
    · have := hS.lt c h2; omega
  let μ2 : Mu := fun i => if i < m.length then μ i else if h : ∃ j, ρ j = some i then μ' h.choose else none
  let F2 : Nat → Prop := fun c => (F c ∧ ¬ Fs c) ∨ F' c
  let own2 : Nat → Option Nat := fun c => if F' c then (match own' c with | some j => ρ j | none => none) else if Fs c then none else match own c with | some i => if i < m.length then some i else none | none => none
  have hμ2 : ∀ (j i : Nat) (p : Pl), ρ j = some i → μ' j = some p → μ2 i = some p := by
    intro j i p hj hp
    simp only [μ2]
    by_cases hjl : j < is.length
    · have hi : is[j]? = some i := (L.h0 j hjl).symm.trans hj
      have hlt := L.lt i (List.mem_of_getElem? hi)
      rw [if_pos hlt, ← hμs j i hi, ← hE.mu j (by rw [L.len]; exact hjl)]
      exact hp
    · have := (L.new j i (by omega) hj).1
      rw [if_neg (by omega)]
      have hex : ∃ j, ρ j = some i := ⟨j, hj⟩
      have : hex.choose = j := L.inj _ _ _ hex.choose_spec hj
      rw [dif_pos hex, this]; exact hp
  have hρlt : ∀ (j i : Nat), ρ j = some i → i < m.length → is[j]? = some i := by
    intro j i hj hi
    by_cases hjl : j < is.length
    · exact (L.h0 j hjl).symm.trans hj
    · have := (L.new j i (by omega) hj).1; omega
  have hown2 : ∀ (c j i : Nat), ρ j = some i → (own' c = some j ↔ own2 c = some i) := by
    intro c j i hj
    constructor
    · intro ho
      have := hS'.isF c j ho
      simp only [own2, if_pos this, ho, hj]
    · intro ho
      simp only [own2] at ho
      split at ho
      · split at ho
        · rename_i j' hj'
          rw [hj', L.inj _ _ _ ho hj]
        · cases ho
      · split at ho
        · cases ho
        · rename_i hnF hnFs
          split at ho
          · rename_i i' hi'
            split at ho
            · rename_i hlt
              injection ho with ho; subst ho
              exact absurd ⟨i', List.mem_of_getElem? (hρlt j i' hj hlt), hi'⟩ hnFs
            · cases ho
          · cases ho
  have hown2' : ∀ (c i : Nat), i < m.length → i ∉ is → (own c = some i ↔ own2 c = some i) := by
    intro c i hlt hni
    constructor
    · intro ho
      have hFc := hS.isF c i ho
      have hnFs : ¬ Fs c := fun ⟨i', h1, h2⟩ => by
        rw [ho] at h2; injection h2 with h2; subst h2; exact hni h1
      have hnF' : ¬ F' c := fun h1 => hnFs (hF'd c h1 hFc)
      simp only [own2, if_neg hnF', if_neg hnFs, ho, if_pos hlt]
    · intro ho
      simp only [own2] at ho
      split at ho
      · split at ho
        · rename_i j' hj'
          exact absurd (List.mem_of_getElem? (hρlt j' i ho hlt)) hni
        · cases ho
      · split at ho
        · cases ho
        · split at ho
          · rename_i i' hi'
            split at ho
            · injection ho with ho; subst ho; exact hi'
            · cases ho
          · cases ho
  have hkept : ∀ c, c < w.heap.size → ¬ Fs c → w'.heap[c]? = w.heap[c]? := fun c h1 h2 => hE.keep c h1 h2
  have small : ∀ (j i : Nat) (c : Chunk X) (p : Pl), ρ j = some i → ms'[j]? = some c → μ' j = some p → ∀ ch, m'[i]? = some ch → ChunkOk A num μ2 F2 (fun c => own2 c = some i) p w'.heap ch := by
    intro j i c p hj hc hp ch hch
    obtain ⟨c', h1, h2⟩ := L.ch' j i c hj hc
    have : c' = ch := by rw [h2] at hch; exact Option.some.inj hch
    subst this
    have hok := hS'.ok j c p hc hp
    cases c with
    | cells sz ro l =>
      simp only [renC] at h1
      split at h1
      · rename_i l' hl
        injection h1 with h1; subst h1
        obtain ⟨arr, T, fr, k1, k2, k3, k4, k5⟩ := hok
        refine ⟨arr, T, fr, k1, k2, ⟨by rw [← renL_length hl]; exact k3.1, k3.2.1, fun o a ha => ?_⟩, fun hro hF2 => ?_, fun hro => ⟨(hown2 _ _ _ hj).1 (k5 hro).1, (k5 hro).2⟩⟩
        · obtain ⟨b, hb, hr⟩ := renL_get hl ha
          obtain ⟨v, hv1, hv2⟩ := k3.2.2 o b hb
          exact ⟨v, hv1, ren_forth hμ2 hr hv2⟩
        · subst hro
          rcases hF2 with ⟨hF, hnFs⟩ | hF'
          · by_cases hjl : j < is.length
            · obtain ⟨sz0, l0, hm0⟩ := L.ro j sz l hjl hc
              have hi := List.getElem?_eq_getElem hjl
              have hi' : is[j]? = some i := (L.h0 j hjl).symm.trans hj
              have hps : μs j = some p := (hE.mu j (by rw [L.len]; exact hjl)).symm.trans hp
              obtain ⟨c0, g1, g2⟩ := L.ch j i _ hi' hm0
              simp only [renC] at g1
              split at g1
              · injection g1 with g1; subst g1
                obtain ⟨_, _, _, _, _, _, q4, _⟩ := hS.ok i _ p g2 ((hμs j i hi').symm.trans hps)
                exact q4 rfl hF
              · cases g1
            · exact absurd hc ((L.new j i (by omega) hj).2.2.2 sz l)
          · exact k4 rfl hF'
      · cases h1
    | abs x =>
      injection h1 with h1; subst h1
      exact A.frame hok (fun c => hown2 c _ _ hj) (fun _ _ => rfl)
    | dead => injection h1 with h1; subst h1; trivial
    | tab l ck => cases h1
  refine ⟨F2, μ2, cv, rfl, ren_forth hμ2 L.res hcv, ⟨own2, ?_⟩, ?_⟩
  · refine ⟨fun c i ho => ?_, fun c hc => ?_, fun i hi => ?_, fun i ch p hi hp => ?_⟩
    · simp only [own2] at ho
      split at ho
      · rename_i hF'; exact .inr hF'
      · split at ho
        · cases ho
        · rename_i hnFs
          split at ho
          · rename_i i' hi'; exact .inl ⟨hS.isF c i' hi', hnFs⟩
          · cases ho
    · rcases hc with ⟨h1, _⟩ | h1
      · exact Nat.lt_of_lt_of_le (hS.lt c h1) hE.size
      · exact hS'.lt c h1
    · simp only [μ2]
      have := L.mlen
      rw [if_neg (by omega)]
      split
      · rename_i hex
        have hj := hex.choose_spec
        by_cases hjl : hex.choose < is.length
        · have h1 := L.lt i (List.mem_of_getElem? ((L.h0 _ hjl).symm.trans hj)); omega
        · have := (L.new _ i (by omega) hj).2.1; omega
      · rfl
    · by_cases hlt : i < m.length
      · have hp0 : μ i = some p := by simpa only [μ2, if_pos hlt] using hp
        by_cases hni : i ∈ is
        · obtain ⟨j, hj⟩ := List.getElem?_of_mem hni
          have hjl := (List.getElem?_eq_some_iff.1 hj).1
          have hρj : ρ j = some i := (L.h0 j hjl).trans hj
          have hpj : μ' j = some p := (hE.mu j (by rw [L.len]; exact hjl)).trans ((hμs j i hj).trans hp0)
          have hms := List.getElem?_eq_getElem (show j < ms'.length by have := L.mlen'; have := L.len; omega)
          exact small j i _ p hρj hms hpj ch hi
        · rw [L.same i hlt hni] at hi
          refine (hS.ok i ch p hi hp0).keep (fun i' p' hp' => ?_) (fun c => hown2' c i hlt hni) (fun c hc => ?_) (fun c hc hFc => ⟨hkept c hc (fun h1 => hFc (hFsF c h1)), fun h1 => ?_⟩)
          · have : i' < m.length := by
              rcases Nat.lt_or_ge i' m.length with h1 | h1
              · exact h1
              · rw [hS.new i' h1] at hp'; cases hp'
            simp only [μ2, if_pos this]; exact hp'
          · refine hkept c (hS.lt c (hS.isF c i hc)) (fun ⟨i', h1, h2⟩ => ?_)
            rw [hc] at h2; injection h2 with h2; subst h2; exact hni h1
          · rcases h1 with ⟨h1, _⟩ | h1
            · exact hFc h1
            · rcases hE.fr c h1 with h2 | h2
              · exact hFc (hFsF c h2)
              · omega
      · simp only [μ2, if_neg hlt] at hp
        split at hp
        · rename_i hex
          have hj := hex.choose_spec
          by_cases hjl : hex.choose < is.length
          · have h1 := L.lt i (List.mem_of_getElem? ((L.h0 _ hjl).symm.trans hj)); omega
          · have hn := L.new _ i (by omega) hj
            exact small _ i _ p hj (List.getElem?_eq_getElem hn.2.2.1) hp ch hi
        · cases hp
  · refine ⟨fun i hi => by simp only [μ2, if_pos hi], fun c hc => ?_, hE.size, fun c hc hFc => hE.keep c hc (fun h1 => hFc (hFsF c h1)), hE.os, hE.tape, hE.output⟩
    rcases hc with ⟨h1, _⟩ | h1
    · exact .inl h1
    · rcases hE.fr c h1 with h2 | h2
      · exact .inl (hFsF c h2)
      · exact .inr h2
end
end Go.Am
namespace Go.Am
section
variable {X : Type}

def pureF (g : List AV → Option AV) : AFun X := fun args m => match g args with | some v => some (v, m) | none => none
def no : Nat → Option Nat := fun _ => none
theorem lift_pure {f : AFun X} {g : List AV → Option AV} (h : ∀ args v, g args = some v → AV.renL no args = some args ∧ AV.ren no v = some v ∧ ∃ ms', f args [] = some (v, ms')) : Lift f (pureF g) := by
  intro args m v m' hg
  unfold pureF at hg
  split at hg
  · rename_i u hu
    simp only [Option.some.injEq, Prod.mk.injEq] at hg
    obtain ⟨rfl, rfl⟩ := hg
    obtain ⟨h1, h2, ms', h3⟩ := h args u hu
    refine ⟨[], no, args, [], u, ms', ?_⟩
    exact { lt := fun i hi => by simp at hi, len := rfl, ch := fun j i c hj => by simp at hj, arg := by simp only [List.getElem?_nil]; exact h1, run := h3, h0 := fun j hj => by simp at hj,
            new := fun j i _ hj => by simp [no] at hj, inj := fun j j' i hj => by simp [no] at hj, mlen := Nat.le_refl _, mlen' := by simp, same := fun _ _ _ => rfl,
            ch' := fun j i c hj => by simp [no] at hj, ro := fun j sz l hj => by simp at hj, res := h2 }
  · cases hg
def only (i : Nat) : Nat → Option Nat := fun j => if j = 0 then some i else none
end
end Go.Am
end
section
namespace Go.Am.F11
variable {X : Type}
def c_cell_New : AFun X := amFunc [] cell_New
def c_conf_within : AFun X := amFunc [] conf_within
def c_conf_Config_Right : AFun X := amFunc [(176, c_conf_within)] conf_Config_Right
def c_conf_own_at : AFun X := amFunc [(157, c_conf_Config_Right), (176, c_conf_within)] conf_own_at
def c_conf_Config_Word : AFun X := amFunc [(177, c_conf_own_at)] conf_Config_Word
def c_steal_New : AFun X := amFunc [(159, c_conf_Config_Word)] steal_New
def c_steal_Steal_Done : AFun X := amFunc [] steal_Steal_Done
def c_steal_Steal_Many : AFun X := amFunc [] steal_Steal_Many
def c_steal_Steal_Got : AFun X := amFunc [(277, c_steal_Steal_Done), (275, c_steal_Steal_Many)] steal_Steal_Got
def c_cell_Mem_there : AFun X := amFunc [] cell_Mem_there
def c_cell_counts_note : AFun X := amFunc [] cell_counts_note
def c_cell_Mem_Store_1 : AFun X := amFunc [] cell_Mem_Store_1
def c_cell_Mem_CAS_1 : AFun X := amFunc [] cell_Mem_CAS_1
def c_cell_Mem_Load_1 : AFun X := amFunc [] cell_Mem_Load_1
def c_put_NewLay_1 : AFun X := amFunc [] put_NewLay_1
def c_cell_Mem_access : AFun X := amFunc [(56, c_cell_Mem_there), (71, c_cell_counts_note), (49, c_cell_Mem_Store_1), (51, c_cell_Mem_CAS_1), (52, c_cell_Mem_Load_1), (213, c_put_NewLay_1)] cell_Mem_access
def c_cell_Mem_Load : AFun X := amFunc [(50, c_cell_Mem_access), (52, c_cell_Mem_Load_1)] cell_Mem_Load
def c_word_Tail : AFun X := amFunc [] word_Tail
def c_word_Head : AFun X := amFunc [] word_Head
def c_word_Len : AFun X := amFunc [(182, c_word_Tail), (179, c_word_Head)] word_Len
def c_steal_Steal_look : AFun X := amFunc [(159, c_conf_Config_Word), (24, c_cell_Mem_Load), (178, c_word_Len)] steal_Steal_look
def c_conf_Config_Slot : AFun X := amFunc [(157, c_conf_Config_Right), (177, c_conf_own_at)] conf_Config_Slot
def c_word_Older : AFun X := amFunc [] word_Older
def c_steal_Steal_half : AFun X := amFunc [(178, c_word_Len), (289, c_word_Older)] steal_Steal_half
def c_steal_Steal_copy : AFun X := amFunc [(179, c_word_Head), (160, c_conf_Config_Slot), (24, c_cell_Mem_Load), (288, c_steal_Steal_half)] steal_Steal_copy
def c_word_Pack : AFun X := amFunc [] word_Pack
def c_word_Gain : AFun X := amFunc [(179, c_word_Head), (182, c_word_Tail), (183, c_word_Pack)] word_Gain
def c_cell_Mem_CAS : AFun X := amFunc [(50, c_cell_Mem_access), (51, c_cell_Mem_CAS_1)] cell_Mem_CAS
def c_put_from : AFun X := amFunc [(159, c_conf_Config_Word)] put_from
def c_slices_Clone_int : AFun X := amFunc [] slices_Clone_int
def c_put_ring_load : AFun X := amFunc [(159, c_conf_Config_Word), (24, c_cell_Mem_Load), (178, c_word_Len)] put_ring_load
def c_put_Put_look : AFun X := amFunc [(219, c_put_ring_load)] put_Put_look
def c_put_ring_slot : AFun X := amFunc [(182, c_word_Tail), (160, c_conf_Config_Slot)] put_ring_slot
def c_cell_Mem_Store : AFun X := amFunc [(50, c_cell_Mem_access), (49, c_cell_Mem_Store_1)] cell_Mem_Store
def c_put_Put_lay : AFun X := amFunc [(210, c_put_ring_slot), (22, c_cell_Mem_Store)] put_Put_lay
def c_word_Grow : AFun X := amFunc [(179, c_word_Head), (182, c_word_Tail), (183, c_word_Pack)] word_Grow
def c_put_ring_change : AFun X := amFunc [(159, c_conf_Config_Word), (23, c_cell_Mem_CAS)] put_ring_change
def c_put_Put_swing : AFun X := amFunc [(211, c_word_Grow), (212, c_put_ring_change)] put_Put_swing
def c_put_Put_half : AFun X := amFunc [] put_Put_half
def c_put_Put_take : AFun X := amFunc [(220, c_put_Put_half), (210, c_put_ring_slot), (24, c_cell_Mem_Load)] put_Put_take
def c_word_Drop : AFun X := amFunc [(179, c_word_Head), (182, c_word_Tail), (183, c_word_Pack)] word_Drop
def c_put_Put_cut : AFun X := amFunc [(220, c_put_Put_half), (221, c_word_Drop), (212, c_put_ring_change)] put_Put_cut
def c_slices_IndexFunc_int : AFun X := amFunc [(49, c_cell_Mem_Store_1), (51, c_cell_Mem_CAS_1), (52, c_cell_Mem_Load_1), (213, c_put_NewLay_1), (214, c_put_Put_look), (215, c_put_Put_lay), (216, c_put_Put_swing), (217, c_put_Put_take), (218, c_put_Put_cut)] slices_IndexFunc_int
def c_slices_DeleteFunc_int : AFun X := amFunc [(97, c_slices_IndexFunc_int), (49, c_cell_Mem_Store_1), (51, c_cell_Mem_CAS_1), (52, c_cell_Mem_Load_1), (213, c_put_NewLay_1), (214, c_put_Put_look), (215, c_put_Put_lay), (216, c_put_Put_swing), (217, c_put_Put_take), (218, c_put_Put_cut)] slices_DeleteFunc_int
def c_put_NewLay : AFun X := amFunc [(206, c_put_from), (208, c_slices_Clone_int), (95, c_slices_DeleteFunc_int), (213, c_put_NewLay_1)] put_NewLay
def c_steal_Steal_gain : AFun X := amFunc [(159, c_conf_Config_Word), (288, c_steal_Steal_half), (180, c_word_Gain), (23, c_cell_Mem_CAS), (199, c_put_NewLay)] steal_Steal_gain
def c_put_Lay_Done : AFun X := amFunc [] put_Lay_Done
def c_put_Lay_look : AFun X := amFunc [(219, c_put_ring_load)] put_Lay_look
def c_put_Lay_Step : AFun X := amFunc [(196, c_put_Lay_Done), (209, c_put_Lay_look), (210, c_put_ring_slot), (22, c_cell_Mem_Store), (211, c_word_Grow), (212, c_put_ring_change)] put_Lay_Step
def c_steal_Steal_Step : AFun X := amFunc [(277, c_steal_Steal_Done), (283, c_steal_Steal_look), (284, c_steal_Steal_copy), (285, c_steal_Steal_gain), (195, c_put_Lay_Step)] steal_Steal_Step
def c_put_Lay_Hands : AFun X := amFunc [(208, c_slices_Clone_int)] put_Lay_Hands
def c_steal_rest_Rest : AFun X := amFunc [(197, c_put_Lay_Hands)] steal_rest_Rest
def c_steal_Steal_Left : AFun X := amFunc [(277, c_steal_Steal_Done), (275, c_steal_Steal_Many), (286, c_steal_rest_Rest)] steal_Steal_Left
def c_slices_Grow_int : AFun X := amFunc [] slices_Grow_int
def c_slices_Concat_int : AFun X := amFunc [(290, c_slices_Grow_int)] slices_Concat_int
def c_steal_Steal_Hands : AFun X := amFunc [(275, c_steal_Steal_Many), (286, c_steal_rest_Rest), (287, c_slices_Concat_int)] steal_Steal_Hands
def c_cell_Mem_Ops : AFun X := amFunc [] cell_Mem_Ops
def c_conf_Config_Cells : AFun X := amFunc [(157, c_conf_Config_Right)] conf_Config_Cells
def c_law11_rings : AFun X := amFunc [(156, c_conf_Config_Cells), (21, c_cell_New), (160, c_conf_Config_Slot), (22, c_cell_Mem_Store), (159, c_conf_Config_Word)] law11_rings
def c_slices_Clone_uint64 : AFun X := amFunc [] slices_Clone_uint64
def c_cell_Mem_All : AFun X := amFunc [(61, c_slices_Clone_uint64)] cell_Mem_All
def c_docs_Ring : AFun X := amFunc [(47, c_cell_Mem_All), (156, c_conf_Config_Cells), (159, c_conf_Config_Word), (160, c_conf_Config_Slot)] docs_Ring
def c_kit_SameInts : AFun X := amFunc [] kit_SameInts
def c_docs_Thief : AFun X := amFunc [(136, c_docs_Ring), (159, c_conf_Config_Word), (24, c_cell_Mem_Load), (22, c_cell_Mem_Store)] docs_Thief
def c_law11_works : AFun X := amFunc [(281, c_law11_rings), (270, c_steal_New), (274, c_steal_Steal_Step), (278, c_steal_Steal_Got), (275, c_steal_Steal_Many), (136, c_docs_Ring), (84, c_kit_SameInts), (139, c_docs_Thief)] law11_works
end Go.Am.F11
end
section
namespace Go.Am.F11
variable {X : Type}
def worksG : List AV → Option AV
  | [] => some (.bool true)
  | _ => none
theorem works_run : ((c_law11_works (X := X)) [] []).map (·.1) = some (.bool true) := by kernel_rfl
theorem works_lift : Lift (c_law11_works (X := X)) (pureF worksG) := lift_pure (by
  intro args r h
  unfold worksG at h; split at h
  · injection h with h; subst h
    have := works_run (X := X)
    cases h1 : c_law11_works (X := X) [] [] with
    | none => rw [h1] at this; cases this
    | some x =>
      rw [h1] at this
      simp only [Option.map_some, Option.some.injEq] at this
      exact ⟨rfl, rfl, x.2, by rw [← this]⟩
  · cases h)
end Go.Am.F11
end
section
namespace Go.Am.F10
set_option maxRecDepth 10000
def conf_Config_Right : AFn := { nloc := 3, npar := 1, res := [.loc 2], body :=
    (.seq
    (.region [
    ⟨.box, [.loc 0], some 1, none⟩,
    ⟨.mov, [.c (.bool false)], some 2, none⟩])
    (.seq
    (.region [
    ⟨.faddr 0, [.loc 1], none, none⟩,
    ⟨.load none, [.tmp 0], none, none⟩,
    ⟨.call 176, [.tmp 1, .c (.int .i64 1), .c (.int .i64 8)], none, none⟩,
    ⟨.mov, [.tmp 2], none, none⟩,
    ⟨.faddr 1, [.loc 1], none, some (3, true)⟩,
    ⟨.load none, [.tmp 4], none, some (3, true)⟩,
    ⟨.call 176, [.tmp 5, .c (.int .i64 2), .c (.int .i64 64)], none, some (3, true)⟩,
    ⟨.pick, [.tmp 3, .tmp 6, .c (.bool false)], none, none⟩,
    ⟨.mov, [.tmp 7], none, none⟩,
    ⟨.faddr 1, [.loc 1], none, some (8, true)⟩,
    ⟨.load none, [.tmp 9], none, some (8, true)⟩,
    ⟨.faddr 1, [.loc 1], none, some (8, true)⟩,
    ⟨.load none, [.tmp 11], none, some (8, true)⟩,
    ⟨.bin .sub, [.tmp 12, .c (.int .i64 1)], none, some (8, true)⟩,
    ⟨.bin .and, [.tmp 10, .tmp 13], none, some (8, true)⟩,
    ⟨.bin .eql, [.tmp 14, .c (.int .i64 0)], none, some (8, true)⟩,
    ⟨.pick, [.tmp 8, .tmp 15, .c (.bool false)], none, none⟩,
    ⟨.mov, [.tmp 16], none, none⟩,
    ⟨.faddr 2, [.loc 1], none, some (17, true)⟩,
    ⟨.load none, [.tmp 18], none, some (17, true)⟩,
    ⟨.call 176, [.tmp 19, .c (.int .i64 1), .c (.int .i64 256)], none, some (17, true)⟩,
    ⟨.pick, [.tmp 17, .tmp 20, .c (.bool false)], none, none⟩,
    ⟨.mov, [.tmp 21], none, none⟩,
    ⟨.faddr 3, [.loc 1], none, some (22, true)⟩,
    ⟨.load none, [.tmp 23], none, some (22, true)⟩,
    ⟨.faddr 0, [.loc 1], none, some (22, true)⟩,
    ⟨.load none, [.tmp 25], none, some (22, true)⟩,
    ⟨.bin .add, [.tmp 26, .c (.int .i64 1)], none, some (22, true)⟩,
    ⟨.call 176, [.tmp 24, .tmp 27, .c (.int .i64 16)], none, some (22, true)⟩,
    ⟨.pick, [.tmp 22, .tmp 28, .c (.bool false)], none, none⟩,
    ⟨.mov, [.tmp 29], none, none⟩,
    ⟨.faddr 4, [.loc 1], none, some (30, true)⟩,
    ⟨.load none, [.tmp 31], none, some (30, true)⟩,
    ⟨.call 176, [.tmp 32, .c (.int .i64 2), .c (.int .i64 200)], none, some (30, true)⟩,
    ⟨.pick, [.tmp 30, .tmp 33, .c (.bool false)], none, none⟩,
    ⟨.mov, [.tmp 34], none, none⟩,
    ⟨.faddr 5, [.loc 1], none, some (35, true)⟩,
    ⟨.load none, [.tmp 36], none, some (35, true)⟩,
    ⟨.call 176, [.tmp 37, .c (.int .i64 0), .c (.int .i64 1000)], none, some (35, true)⟩,
    ⟨.pick, [.tmp 35, .tmp 38, .c (.bool false)], none, none⟩,
    ⟨.mov, [.tmp 39], some 2, none⟩])
    .ret)) }
def conf_Config_Word : AFn := { nloc := 4, npar := 2, res := [.loc 3], body :=
    (.seq
    (.region [
    ⟨.box, [.loc 0], some 2, none⟩,
    ⟨.mov, [.c (.int .i64 0)], some 3, none⟩])
    (.seq
    (.region [
    ⟨.load (some 6), [.loc 2], none, none⟩,
    ⟨.mov, [.loc 1], none, none⟩,
    ⟨.build [.int .i64 0, .int .i64 0, .int .i64 0, .int .i64 0, .int .i64 0, .int .i64 0, .int .i64 0] [(0, 6), (6, 1)], [.tmp 0, .tmp 1], none, none⟩,
    ⟨.call 177, [.tmp 2, .c (.int .i64 0)], none, none⟩,
    ⟨.mov, [.tmp 3], some 3, none⟩])
    .ret)) }
def conf_within : AFn := { nloc := 4, npar := 3, res := [.loc 3], body :=
    (.seq
    (.region [
    ⟨.mov, [.c (.bool false)], some 3, none⟩])
    (.seq
    (.region [
    ⟨.mov, [.loc 0], none, none⟩,
    ⟨.mov, [.loc 1], none, none⟩,
    ⟨.bin .geq, [.tmp 0, .tmp 1], none, none⟩,
    ⟨.mov, [.tmp 2], none, none⟩,
    ⟨.mov, [.loc 0], none, some (3, true)⟩,
    ⟨.mov, [.loc 2], none, some (3, true)⟩,
    ⟨.bin .leq, [.tmp 4, .tmp 5], none, some (3, true)⟩,
    ⟨.pick, [.tmp 3, .tmp 6, .c (.bool false)], none, none⟩,
    ⟨.mov, [.tmp 7], some 3, none⟩])
    .ret)) }
def conf_own_at : AFn := { nloc := 5, npar := 2, res := [.loc 3], body :=
    (.seq
    (.region [
    ⟨.box, [.loc 0], some 2, none⟩,
    ⟨.mov, [.c (.int .i64 0)], some 3, none⟩])
    (.seq
    (.seq
    (.region [
    ⟨.faddr 0, [.loc 2], none, none⟩,
    ⟨.load (some 6), [.tmp 0], none, none⟩,
    ⟨.call 157, [.tmp 1], none, none⟩,
    ⟨.not, [.tmp 2], none, none⟩,
    ⟨.mov, [.tmp 3], none, none⟩,
    ⟨.faddr 6, [.loc 2], none, some (4, false)⟩,
    ⟨.load none, [.tmp 5], none, some (4, false)⟩,
    ⟨.faddr 0, [.loc 2], none, some (4, false)⟩,
    ⟨.faddr 0, [.tmp 7], none, some (4, false)⟩,
    ⟨.load none, [.tmp 8], none, some (4, false)⟩,
    ⟨.bin .sub, [.tmp 9, .c (.int .i64 1)], none, some (4, false)⟩,
    ⟨.call 176, [.tmp 6, .c (.int .i64 0), .tmp 10], none, some (4, false)⟩,
    ⟨.not, [.tmp 11], none, some (4, false)⟩,
    ⟨.pick, [.tmp 4, .c (.bool true), .tmp 12], some 4, none⟩])
    (.cond (.loc 4)
      (.seq
      (.region [
    ⟨.mov, [.c (.int .i64 (-1))], some 3, none⟩])
      .ret)
      .skip))
    (.seq
    (.region [
    ⟨.faddr 6, [.loc 2], none, none⟩,
    ⟨.load none, [.tmp 0], none, none⟩,
    ⟨.faddr 0, [.loc 2], none, none⟩,
    ⟨.faddr 1, [.tmp 2], none, none⟩,
    ⟨.load none, [.tmp 3], none, none⟩,
    ⟨.bin .add, [.c (.int .i64 6), .tmp 4], none, none⟩,
    ⟨.bin .mul, [.tmp 1, .tmp 5], none, none⟩,
    ⟨.bin .add, [.c (.int .i64 4), .tmp 6], none, none⟩,
    ⟨.mov, [.loc 1], none, none⟩,
    ⟨.bin .add, [.tmp 7, .tmp 8], none, none⟩,
    ⟨.mov, [.tmp 9], some 3, none⟩])
    .ret))) }
end Go.Am.F10
end
section
namespace Go.Am.F10
variable {X : Type}
def c_conf_within : AFun X := amFunc [] conf_within
def c_conf_Config_Right : AFun X := amFunc [(176, c_conf_within)] conf_Config_Right
def c_conf_own_at : AFun X := amFunc [(157, c_conf_Config_Right), (176, c_conf_within)] conf_own_at
def c_conf_Config_Word : AFun X := amFunc [(177, c_conf_own_at)] conf_Config_Word
end Go.Am.F10
end
section
namespace Go.Am
section
variable {α : Type} {f : α → List AV} {sz : Nat}
theorem rows_part (hf : ∀ x, (f x).length = sz) : ∀ {ws : List α} {k : Nat} {x : α}, ws[k]? = some x → ((ws.flatMap f).drop (k * sz)).take sz = f x
  | [], k, x, h => by simp at h
  | y :: ys, 0, x, h => by
    simp only [List.getElem?_cons_zero, Option.some.injEq] at h; subst h
    rw [List.flatMap_cons, Nat.zero_mul, List.drop_zero, List.take_left' (hf _)]
  | y :: ys, k + 1, x, h => by
    simp only [List.getElem?_cons_succ] at h
    rw [List.flatMap_cons, Nat.succ_mul, Nat.add_comm, ← List.drop_drop, List.drop_left' (hf _)]
    exact rows_part hf h
theorem rows_at (hf : ∀ x, (f x).length = sz) {ws : List α} {k : Nat} {x : α} (h : ws[k]? = some x) {o : Nat} (ho : o < sz) : (ws.flatMap f)[k * sz + o]? = (f x)[o]? := by
  rw [← rows_part hf h, List.getElem?_take, if_pos ho, List.getElem?_drop]
section
variable {X : Type} {m : Mem X} {bytes j q n : Nat} {c : Option Nat} {sz' : Nat} {ro : Bool} {l x : List AV}
theorem append_nils (hx : m[j]? = some (.cells sz' ro x)) (hl : x.length = sz) (h1 : x.all AV.one = true) (hb : bytes ≤ 35184372088832) : appendA sz bytes .nils (.sl j 0 1 c) m = some (.sl m.length 0 1 none, m ++ [.cells sz false x]) := by
  have hr : rowOf m sz (.sl j 0 1 c) = some x := by
    simp only [rowOf, getC, hx]
    rw [if_neg (by omega), if_pos (by omega), List.drop_zero, List.take_of_length_le (by omega)]
  simp only [appendA, lenA, hr]
  rw [if_neg (by omega), if_pos ⟨by omega, by omega, h1⟩]
theorem append_none (hq : m[q]? = some (.cells sz false l)) (hn : l.length = n * sz) (hx : m[j]? = some (.cells sz' ro x)) (hl : x.length = sz) (h0 : l.all AV.one = true) (h1 : x.all AV.one = true) (hb : (n + 1) * bytes ≤ 35184372088832) (hn1 : n + 1 ≤ 35184372088832) :
    appendA sz bytes (.sl q 0 n none) (.sl j 0 1 c) m = some (.sl m.length 0 (n + 1) none, m.set q .dead ++ [.cells sz false (l ++ x)]) := by
  have hr : rowOf m sz (.sl j 0 1 c) = some x := by
    simp only [rowOf, getC, hx]
    rw [if_neg (by omega), if_pos (by omega), List.drop_zero, List.take_of_length_le (by omega)]
  have ht : (l.drop 0).take (n * sz) = l := by rw [List.drop_zero, List.take_of_length_le (by omega)]
  simp only [appendA, lenA, hr, getC, hq, ht]
  rw [if_neg (by omega), if_pos ⟨trivial, by omega, hb, hn1, by rw [List.all_append, h0, h1]; rfl⟩]
end
def Own {X : Type} (m0 m : Mem X) (sz n : Nat) (l : List AV) (lv : AV) : Prop := (n = 0 ∧ l = [] ∧ lv = .nils) ∨ ∃ q, lv = .sl q 0 n none ∧ m[q]? = some (.cells sz false l) ∧ m0.length ≤ q ∧ q < m.length
section
variable {X : Type} {m0 J : Mem X} {bytes j n : Nat} {c : Option Nat} {sz' : Nat} {ro : Bool} {l x : List AV} {lv : AV}
end
end
end Go.Am
end
section
namespace Go.Am
section
variable {X : Type}
def Sl (m : Mem X) (wr : Bool) (sz n : Nat) (l : List AV) (v : AV) : Prop :=
  l.length = n * sz ∧ ((v = .nils ∧ n = 0) ∨ ∃ q o cap, v = .sl q o n cap ∧ (0 < n → ∃ ro L, m[q]? = some (.cells sz ro L) ∧ (L.drop o).take (n * sz) = l ∧ o + n * sz ≤ L.length ∧ (wr = true → ro = false)))
def Keep (m m' : Mem X) : Prop := m.length ≤ m'.length ∧ ∀ i, i < m.length → m'[i]? = m[i]?
theorem Keep.trans {m m' m'' : Mem X} (h : Keep m m') (k : Keep m' m'') : Keep m m'' :=
  ⟨Nat.le_trans h.1 k.1, fun i hi => (k.2 i (Nat.lt_of_lt_of_le hi h.1)).trans (h.2 i hi)⟩
theorem Keep.app (m J : Mem X) : Keep m (m ++ J) := ⟨by simp, fun i hi => List.getElem?_append_left hi⟩
theorem Keep.set {m m' : Mem X} (h : Keep m m') {q : Nat} (hq : m.length ≤ q) (c : Chunk X) : Keep m (m'.set q c) :=
  ⟨by simpa using h.1, fun i hi => by rw [List.getElem?_set_ne (by omega)]; exact h.2 i hi⟩
theorem Keep.get {m m' : Mem X} (h : Keep m m') {i : Nat} {c : Chunk X} (hi : m[i]? = some c) : m'[i]? = some c := (h.2 i (List.getElem?_eq_some_iff.1 hi).1).trans hi
theorem Sl.keep {m m' : Mem X} {wr : Bool} {sz n : Nat} {l : List AV} {v : AV} (h : Sl m wr sz n l v) (k : Keep m m') : Sl m' wr sz n l v := by
  obtain ⟨h0, h⟩ := h
  refine ⟨h0, ?_⟩
  rcases h with h | ⟨q, o, cap, h1, h2⟩
  · exact .inl h
  · refine .inr ⟨q, o, cap, h1, fun hn => ?_⟩
    obtain ⟨ro, L, h3, h4⟩ := h2 hn
    exact ⟨ro, L, k.get h3, h4⟩
theorem Sl.ro {m : Mem X} {wr : Bool} {sz n : Nat} {l : List AV} {v : AV} (h : Sl m wr sz n l v) : Sl m false sz n l v := by
  obtain ⟨h0, h⟩ := h
  refine ⟨h0, ?_⟩
  rcases h with h | ⟨q, o, cap, h1, h2⟩
  · exact .inl h
  · refine .inr ⟨q, o, cap, h1, fun hn => ?_⟩
    obtain ⟨ro, L, h3, h4, h5, _⟩ := h2 hn
    exact ⟨ro, L, h3, h4, h5, fun h => by cases h⟩
theorem Sl.len {m : Mem X} {wr : Bool} {sz n : Nat} {l : List AV} {v : AV} (h : Sl m wr sz n l v) : lenA v = some n := by
  rcases h.2 with ⟨h1, rfl⟩ | ⟨q, o, cap, h1, _⟩ <;> rw [h1] <;> rfl
theorem Sl.nil {m : Mem X} {wr : Bool} {sz : Nat} : Sl m wr sz 0 [] .nils := ⟨by simp, .inl ⟨rfl, rfl⟩⟩
theorem Sl.at {m : Mem X} {wr : Bool} {sz n : Nat} {l : List AV} {v : AV} (h : Sl m wr sz n l v) (hn : 0 < n) : ∃ q o cap ro L, v = .sl q o n cap ∧ m[q]? = some (.cells sz ro L) ∧ (L.drop o).take (n * sz) = l ∧ o + n * sz ≤ L.length ∧ (wr = true → ro = false) := by
  rcases h.2 with ⟨_, h1⟩ | ⟨q, o, cap, h1, h2⟩
  · omega
  · obtain ⟨ro, L, h3⟩ := h2 hn
    exact ⟨q, o, cap, ro, L, h1, h3⟩
theorem sl_get {L l : List AV} {o k : Nat} (h : (L.drop o).take k = l) {j : Nat} (hj : j < k) : L[o + j]? = l[j]? := by
  rw [← h, List.getElem?_take, if_pos hj, List.getElem?_drop]
def Fr (n0 : Nat) (v : AV) : Prop := v = .nils ∨ ∃ q o n cap, v = .sl q o n cap ∧ n0 ≤ q
theorem Own.sl {m0 m : Mem X} {sz n : Nat} {l : List AV} {v : AV} (h : Own m0 m sz n l v) (hl : l.length = n * sz) : Sl m true sz n l v ∧ Fr m0.length v := by
  rcases h with ⟨rfl, rfl, rfl⟩ | ⟨q, rfl, h1, h2, h3⟩
  · exact ⟨Sl.nil, .inl rfl⟩
  · exact ⟨⟨hl, .inr ⟨q, 0, none, rfl, fun _ => ⟨false, l, h1, by rw [List.drop_zero, ← hl, List.take_length], by omega, fun _ => rfl⟩⟩⟩, .inr ⟨q, 0, n, none, rfl, h2⟩⟩
end
end Go.Am
end
section
namespace Go.Am.F10
variable {X : Type}
structure Cf where
  n : Int
  q : Int
  g : Int
  m : Int
  t : Int
  s : Int
def cfC (c : Cf) : List AV := [.int .i64 c.n, .int .i64 c.q, .int .i64 c.g, .int .i64 c.m, .int .i64 c.t, .int .i64 c.s]
def landI (a b : Int) : Int := IntKind.i64.wrap ((BitVec.ofInt 64 a &&& BitVec.ofInt 64 b).toNat : Int)
theorem evAnd (a b : Int) : binI .and .i64 a b = some (.int .i64 (landI a b)) := rfl
def roomP (q : Int) : Prop := q = 2 ∨ q = 4 ∨ q = 8 ∨ q = 16 ∨ q = 32 ∨ q = 64
def rightP (c : Cf) : Prop := (1 ≤ c.n ∧ c.n ≤ 8) ∧ roomP c.q ∧ (1 ≤ c.g ∧ c.g ≤ 256) ∧ (c.n + 1 ≤ c.m ∧ c.m ≤ 16) ∧ (2 ≤ c.t ∧ c.t ≤ 200) ∧ (0 ≤ c.s ∧ c.s ≤ 1000)
instance (q : Int) : Decidable (roomP q) := by unfold roomP; infer_instance
instance (c : Cf) : Decidable (rightP c) := by unfold rightP; infer_instance
theorem land_room {q : Int} (h1 : 2 ≤ q) (h2 : q ≤ 64) : landI q (q - 1) = 0 ↔ roomP q := by
  have key : ∀ k : Fin 65, 2 ≤ k.val → (landI (k.val : Int) ((k.val : Int) - 1) = 0 ↔ roomP (k.val : Int)) := by decide +kernel
  have := key ⟨q.toNat, by omega⟩ (by show 2 ≤ q.toNat; omega)
  simp only at this
  rwa [show ((q.toNat : Nat) : Int) = q by omega] at this
def inB (a lo hi : Int) : Bool := decide (lo ≤ a) && decide (a ≤ hi)
theorem inB_iff {a lo hi : Int} : inB a lo hi = true ↔ lo ≤ a ∧ a ≤ hi := by simp [inB]
theorem within_run {G : List (Nat × AFun X)} {m : Mem X} (a lo hi : Int) : Fn G conf_within [.int .i64 a, .int .i64 lo, .int .i64 hi] m (fun r m' => r = .bool (inB a lo hi) ∧ m' = m) := by
  refine Fn_of rfl ?_
  unfold inB
  simp (disch := first | assumption | omega | (simp only [zl] <;> omega) | (simp only [zn])) only [conf_within, ↓zd, zk, Nat.reduceSub, Nat.reduceAdd, Nat.reduceMul, Nat.reduceLeDiff, Nat.reduceEqDiff, reduceIte, Int.reduceEq, Int.reduceBEq, Int.reduceLE, Int.reduceLT, Int.reduceNeg, Int.reduceAdd, Int.reduceSub, Int.reduceMul, List.map, AV.cells, List.all, AV.one, eqV, eqAll, splice, fillA, List.replicate, resAll, resA]
  repeat' ((first | refine GK_of (fun h => ?_) (fun h => ?_) | refine CW_of (fun h => ?_) (fun h => ?_) | refine GKT_of (fun h => ?_) (fun h => ?_)) <;> (try simp only [Bool.not_eq_true', Bool.not_eq_false', decide_eq_true_eq, decide_eq_false_iff_not, Bool.and_eq_true, Bool.or_eq_true, Bool.and_eq_false_iff, Bool.or_eq_false_iff, Decidable.not_not] at h) <;> (try simp (disch := first | assumption | omega | (simp only [zl] <;> omega) | (simp only [zn])) only [↓zd, zk, Nat.reduceSub, Nat.reduceAdd, Nat.reduceMul, Nat.reduceLeDiff, Nat.reduceEqDiff, reduceIte, Int.reduceEq, Int.reduceBEq, Int.reduceLE, Int.reduceLT, Int.reduceNeg, Int.reduceAdd, Int.reduceSub, Int.reduceMul, List.map, AV.cells, List.all, AV.one, eqV, eqAll, splice, fillA, List.replicate, resAll, resA]))
  all_goals (try simp_all)
def rightB (c : Cf) : Bool := inB c.n 1 8 && (inB c.q 2 64 && (decide (landI c.q (IntKind.i64.wrap (c.q - 1)) = 0) && (inB c.g 1 256 && (inB c.m (IntKind.i64.wrap (c.n + 1)) 16 && (inB c.t 2 200 && inB c.s 0 1000)))))
theorem rightB_eq (c : Cf) : rightB c = decide (rightP c) := by
  unfold rightB
  rw [Bool.eq_iff_iff]
  simp only [Bool.and_eq_true, inB_iff, decide_eq_true_eq]
  constructor
  · rintro ⟨h1, h2, h3, h4, h5, h6, h7⟩
    rw [wrapI (by omega) (by omega)] at h3 h5
    exact ⟨h1, (land_room h2.1 h2.2).1 h3, h4, h5, h6, h7⟩
  · rintro ⟨h1, h2, h4, h5, h6, h7⟩
    have hq : 2 ≤ c.q ∧ c.q ≤ 64 := by unfold roomP at h2; omega
    rw [wrapI (x := c.q - 1) (by omega) (by omega), wrapI (x := c.n + 1) (by omega) (by omega)]
    exact ⟨h1, hq, (land_room hq.1 hq.2).2 h2, h4, h5, h6, h7⟩
set_option maxHeartbeats 8000000 in
theorem right_run {m : Mem X} (c : Cf) : Fn [(176, c_conf_within)] conf_Config_Right [.agg (cfC c)] m (fun r m' => r = .bool (decide (rightP c)) ∧ m' = m ++ [.cells 6 false (cfC c)]) := by
  have a176 : assoc [(176, c_conf_within (X := X))] 176 = some c_conf_within := rfl
  generalize [(176, c_conf_within (X := X))] = G at a176
  have hw := fun (m : Mem X) a lo hi => Fn_eq (within_run (G := []) (m := m) a lo hi)
  refine Fn_of rfl ?_
  simp (disch := first | assumption | omega | (simp only [zl] <;> omega) | (simp only [zn])) only [conf_Config_Right, ↓zd, zk, Nat.reduceSub, Nat.reduceAdd, Nat.reduceMul, Nat.reduceLeDiff, Nat.reduceEqDiff, reduceIte, Int.reduceEq, Int.reduceBEq, Int.reduceLE, Int.reduceLT, Int.reduceNeg, Int.reduceAdd, Int.reduceSub, Int.reduceMul, List.map, AV.cells, List.all, AV.one, eqV, eqAll, splice, fillA, List.replicate, resAll, resA, zm, zg, cfC, a176, c_conf_within, hw, evAnd]
  repeat' ((first | refine GK_of (fun h => ?_) (fun h => ?_) | refine CW_of (fun h => ?_) (fun h => ?_) | refine GKT_of (fun h => ?_) (fun h => ?_)) <;> (try simp only [Bool.not_eq_true', Bool.not_eq_false', decide_eq_true_eq, decide_eq_false_iff_not, Bool.and_eq_true, Bool.or_eq_true, Bool.and_eq_false_iff, Bool.or_eq_false_iff, Decidable.not_not] at h) <;> (try simp (disch := first | assumption | omega | (simp only [zl] <;> omega) | (simp only [zn])) only [↓zd, zk, Nat.reduceSub, Nat.reduceAdd, Nat.reduceMul, Nat.reduceLeDiff, Nat.reduceEqDiff, reduceIte, Int.reduceEq, Int.reduceBEq, Int.reduceLE, Int.reduceLT, Int.reduceNeg, Int.reduceAdd, Int.reduceSub, Int.reduceMul, List.map, AV.cells, List.all, AV.one, eqV, eqAll, splice, fillA, List.replicate, resAll, resA, zm, zg, cfC, a176, c_conf_within, hw, evAnd, h]))
  all_goals (rw [← rightB_eq]; simp_all [rightB])
def thereP (c : Cf) (p : Int) : Prop := rightP c ∧ 0 ≤ p ∧ p < c.n
instance (c : Cf) (p : Int) : Decidable (thereP c p) := by unfold thereP; infer_instance
def addrA (c : Cf) (p i : Int) : Int := if thereP c p then 4 + p * (6 + c.q) + i else -1
theorem there_bounds {c : Cf} {p : Int} (h : thereP c p) : 1 ≤ c.n ∧ c.n ≤ 8 ∧ 2 ≤ c.q ∧ c.q ≤ 64 ∧ 0 ≤ p ∧ p < 8 := by
  obtain ⟨⟨h1, h2, _⟩, h3, h4⟩ := h
  unfold roomP at h2
  omega
theorem mul_bounds {p q : Int} (h1 : 0 ≤ p) (h2 : p < 8) (h3 : 0 ≤ q) (h4 : q ≤ 70) : 0 ≤ p * q ∧ p * q ≤ 490 := by
  have h5 : p * q ≤ 7 * 70 := Int.mul_le_mul (by omega) h4 h3 (by omega)
  exact ⟨Int.mul_nonneg h1 h3, by omega⟩
set_option maxHeartbeats 8000000 in
theorem at_run {m : Mem X} (c : Cf) (p i : Int) (hi : 0 ≤ i) (hi2 : i ≤ 1000) : Fn [(157, c_conf_Config_Right), (176, c_conf_within)] conf_own_at [.agg (cfC c ++ [.int .i64 p]), .int .i64 i] m
    (fun r m' => r = .int .i64 (addrA c p i) ∧ m' = m ++ [.cells 7 false (cfC c ++ [.int .i64 p]), .cells 6 false (cfC c)]) := by
  have a157 : assoc [(157, c_conf_Config_Right (X := X)), (176, c_conf_within)] 157 = some c_conf_Config_Right := rfl
  have a176 : assoc [(157, c_conf_Config_Right (X := X)), (176, c_conf_within)] 176 = some c_conf_within := rfl
  have hR : ∀ m : Mem X, c_conf_Config_Right [.agg (cfC c)] m = some (.bool (decide (rightP c)), m ++ [.cells 6 false (cfC c)]) := fun m => Fn_eq (right_run c)
  generalize [(157, c_conf_Config_Right (X := X)), (176, c_conf_within)] = G at a157 a176
  have hw := fun (m : Mem X) a lo hi => Fn_eq (within_run (G := []) (m := m) a lo hi)
  simp only [cfC] at hR
  refine Fn_of rfl ?_
  by_cases hr : rightP c
  · rw [decide_eq_true hr] at hR
    have hn : 1 ≤ c.n ∧ c.n ≤ 8 := hr.1
    have hin : inB p 0 (c.n - 1) = decide (0 ≤ p ∧ p < c.n) := by
      rw [Bool.eq_iff_iff, inB_iff, decide_eq_true_eq]; omega
    by_cases hp : 0 ≤ p ∧ p < c.n
    · have ht : thereP c p := ⟨hr, hp⟩
      have hb := there_bounds ht
      have hm := mul_bounds hp.1 hb.2.2.2.2.2 (q := 6 + c.q) (by omega) (by omega)
      rw [decide_eq_true hp] at hin
      simp (disch := first | assumption | omega | (simp only [zl] <;> omega) | (simp only [zn])) only [conf_own_at, ↓zd, zk, Nat.reduceSub, Nat.reduceAdd, Nat.reduceMul, Nat.reduceLeDiff, Nat.reduceEqDiff, reduceIte, Int.reduceEq, Int.reduceBEq, Int.reduceLE, Int.reduceLT, Int.reduceNeg, Int.reduceAdd, Int.reduceSub, Int.reduceMul, List.map, AV.cells, List.all, AV.one, eqV, eqAll, splice, fillA, List.replicate, resAll, resA, zm, zg, cfC, a157, hR, a176, c_conf_within, hw, hin]
      rw [addrA, if_pos ht]
    · have ht : ¬ thereP c p := fun h => hp h.2
      rw [decide_eq_false hp] at hin
      simp (disch := first | assumption | omega | (simp only [zl] <;> omega) | (simp only [zn])) only [conf_own_at, ↓zd, zk, Nat.reduceSub, Nat.reduceAdd, Nat.reduceMul, Nat.reduceLeDiff, Nat.reduceEqDiff, reduceIte, Int.reduceEq, Int.reduceBEq, Int.reduceLE, Int.reduceLT, Int.reduceNeg, Int.reduceAdd, Int.reduceSub, Int.reduceMul, List.map, AV.cells, List.all, AV.one, eqV, eqAll, splice, fillA, List.replicate, resAll, resA, zm, zg, cfC, a157, hR, a176, c_conf_within, hw, hin]
      rw [addrA, if_neg ht]
  · have ht : ¬ thereP c p := fun h => hr h.1
    rw [decide_eq_false hr] at hR
    simp (disch := first | assumption | omega | (simp only [zl] <;> omega) | (simp only [zn])) only [conf_own_at, ↓zd, zk, Nat.reduceSub, Nat.reduceAdd, Nat.reduceMul, Nat.reduceLeDiff, Nat.reduceEqDiff, reduceIte, Int.reduceEq, Int.reduceBEq, Int.reduceLE, Int.reduceLT, Int.reduceNeg, Int.reduceAdd, Int.reduceSub, Int.reduceMul, List.map, AV.cells, List.all, AV.one, eqV, eqAll, splice, fillA, List.replicate, resAll, resA, zm, zg, cfC, a157, hR]
    rw [addrA, if_neg ht]
theorem at_eq {m : Mem X} (c : Cf) (p i : Int) (hi : 0 ≤ i) (hi2 : i ≤ 1000) : c_conf_own_at [.agg (cfC c ++ [.int .i64 p]), .int .i64 i] m = some (.int .i64 (addrA c p i), m ++ [.cells 7 false (cfC c ++ [.int .i64 p]), .cells 6 false (cfC c)]) := by
  have he : c_conf_own_at (X := X) = amFunc [(157, c_conf_Config_Right), (176, c_conf_within)] conf_own_at := rfl
  rw [he]
  exact Fn_eq (at_run c p i hi hi2)
set_option maxHeartbeats 4000000 in
theorem word_run {m : Mem X} (c : Cf) (p : Int) : c_conf_Config_Word [.agg (cfC c), .int .i64 p] m = some (.int .i64 (addrA c p 0), m ++ [.cells 6 false (cfC c), .cells 7 false (cfC c ++ [.int .i64 p]), .cells 6 false (cfC c)]) := by
  have a177 : assoc [(177, c_conf_own_at (X := X))] 177 = some c_conf_own_at := rfl
  have he : c_conf_Config_Word (X := X) = amFunc [(177, c_conf_own_at)] conf_Config_Word := rfl
  have ha := at_eq (m := m ++ [.cells 6 false (cfC c)]) c p 0 (by omega) (by omega)
  rw [he]
  generalize [(177, c_conf_own_at (X := X))] = G at a177 ⊢
  simp only [cfC, List.append_assoc, List.cons_append, List.nil_append] at ha
  refine Fn_eq (Fn_of rfl ?_)
  simp (disch := first | assumption | omega | (simp only [zl] <;> omega) | (simp only [zn])) only [conf_Config_Word, ↓zd, zk, Nat.reduceSub, Nat.reduceAdd, Nat.reduceMul, Nat.reduceLeDiff, Nat.reduceEqDiff, reduceIte, Int.reduceEq, Int.reduceBEq, Int.reduceLE, Int.reduceLT, Int.reduceNeg, Int.reduceAdd, Int.reduceSub, Int.reduceMul, List.map, AV.cells, List.all, AV.one, eqV, eqAll, splice, fillA, List.replicate, resAll, resA, zm, zg, cfC, a177, ha]
def getC (c : Cf) (p a w seen : Int) (has : Bool) (tries : Int) : List AV := cfC c ++ [.int .i64 p, .int .i64 a, .int .u64 w, .int .i64 seen, .bool has, .int .i64 tries]
def zeroC : Cf := ⟨0, 0, 0, 0, 0, 0⟩
end Go.Am.F10
end
section
namespace Go.Am.F10
variable {X : Type}
end Go.Am.F10
end
section
namespace Go.Am.F10
variable {X : Type}
def M0L (m : Mem X) (c : Cf) (p : Int) : Mem X := [.cells 6 false (cfC c), .cells 12 false (getC zeroC 0 0 0 0 false 0), .cells 1 false (List.replicate 20 (.int .u64 0)), .cells 8 false [.int .u64 0, .int .u64 0, .int .u64 0, .int .u64 0, .int .u64 0, .int .u64 0, .nils, .sl (m.length + 2) 0 20 (some 20)],
  .cells 6 false (cfC c), .cells 6 false (cfC c), .cells 7 false (cfC c ++ [.int .i64 (-1 - p % 9)]), .cells 6 false (cfC c), .cells 12 false (getC zeroC 0 0 0 0 false 0), .cells 1 false [.nilp, .ptr (m.length + 1) 0, .ptr (m.length + 4 + 4) 0]]
def M0 (m : Mem X) (c : Cf) (p : Int) : Mem X := m ++ M0L m c p
theorem cf_list {cs : List AV} (hl : cs.length = 6) {z0 z1 z2 z3 z4 z5 : Int} (h0 : cs[0]? = some (.int .i64 z0)) (h1 : cs[1]? = some (.int .i64 z1)) (h2 : cs[2]? = some (.int .i64 z2)) (h3 : cs[3]? = some (.int .i64 z3)) (h4 : cs[4]? = some (.int .i64 z4)) (h5 : cs[5]? = some (.int .i64 z5)) : cs = cfC ⟨z0, z1, z2, z3, z4, z5⟩ := by
  match cs, hl with
  | [x0, x1, x2, x3, x4, x5], _ =>
    simp only [List.getElem?_cons_zero, List.getElem?_cons_succ, Option.some.injEq] at h0 h1 h2 h3 h4 h5
    subst h0; subst h1; subst h2; subst h3; subst h4; subst h5; rfl
end Go.Am.F10
end
section
namespace Go.Am.F10
variable {X : Type}
def W64 (w : Int) : Prop := 0 ≤ w ∧ w < 18446744073709551616
def hd (w : Int) : Int := w / 4294967296
def tl (w : Int) : Int := w % 4294967296
def sz (w : Int) : Int := (tl w - hd w) % 4294967296
def pk (h t : Int) : Int := h * 4294967296 + t
theorem hd_b {w : Int} (h : W64 w) : 0 ≤ hd w ∧ hd w < 4294967296 := by unfold hd; unfold W64 at h; omega
theorem tl_b (w : Int) : 0 ≤ tl w ∧ tl w < 4294967296 := by unfold tl; omega
def gainW (w : Int) : Int := pk ((hd w + 1) % 4294967296) (tl w)
end Go.Am.F10
end
section
namespace Go.Am.F10
variable {X : Type}
def slotA (c : Cf) (p i : Int) : Int := if rightP c then addrA c p (6 + i % c.q) else -1
def cellsN (c : Cf) : Nat := if rightP c then (4 + c.n * (6 + c.q)).toNat else 0
theorem cells_b {c : Cf} (h : rightP c) : (cellsN c : Int) = 4 + c.n * (6 + c.q) ∧ cellsN c ≤ 600 := by
  have hq : 2 ≤ c.q ∧ c.q ≤ 64 := by have := h.2.1; unfold roomP at this; omega
  have hn := h.1
  have hm : 0 ≤ c.n * (6 + c.q) ∧ c.n * (6 + c.q) ≤ 560 := by
    have h5 : c.n * (6 + c.q) ≤ 8 * 70 := Int.mul_le_mul hn.2 (by omega) (by omega) (by omega)
    exact ⟨Int.mul_nonneg (by omega) (by omega), by omega⟩
  unfold cellsN; rw [if_pos h]; omega
theorem addr_b {c : Cf} {p i : Int} (h : thereP c p) (h0 : 0 ≤ i) (h1 : i < 6 + c.q) : 0 ≤ addrA c p i ∧ addrA c p i < cellsN c := by
  have hb := there_bounds h
  have hc := (cells_b h.1).1
  have hm := mul_bounds hb.2.2.2.2.1 hb.2.2.2.2.2 (q := 6 + c.q) (by omega) (by omega)
  have h2 : (p + 1) * (6 + c.q) ≤ c.n * (6 + c.q) := Int.mul_le_mul_of_nonneg_right (by have := h.2.2; omega) (by omega)
  have h3 : (p + 1) * (6 + c.q) = p * (6 + c.q) + (6 + c.q) := by rw [Int.add_mul, Int.one_mul]
  unfold addrA; rw [if_pos h]; omega
theorem slot_b {c : Cf} {p i : Int} (h : thereP c p) (h0 : 0 ≤ i) : 0 ≤ slotA c p i ∧ slotA c p i < cellsN c := by
  have hb := there_bounds h
  have h1 := Int.emod_nonneg i (b := c.q) (by omega)
  have h2 := Int.emod_lt_of_pos i (b := c.q) (by omega)
  unfold slotA; rw [if_pos h.1]
  exact addr_b h (by omega) (by omega)
end Go.Am.F10
end
section
namespace Go.Am
section
variable {X : Type}
structure DropAt (f : AFun X) (ρ : Nat → Option Nat) (v0 : AV) (m0 : Mem X) (args : List AV) (m : Mem X) (v : AV) (m' : Mem X) : Prop where
  run : f args m = some (v0, m0)
  res : AV.ren ρ v0 = some v
  mlen : m.length ≤ m'.length
  old : ∀ i, i < m.length → ρ i = some i
  new : ∀ (j i : Nat), ρ j = some i → m.length ≤ j → m.length ≤ i ∧ i < m'.length
  inj : ∀ j j' i, ρ j = some i → ρ j' = some i → j = j'
  ch : ∀ (j i : Nat) (c : Chunk X), ρ j = some i → m0[j]? = some c → (∃ c', renC ρ c = some c' ∧ m'[i]? = some c') ∨ (j < m.length ∧ m[j]? = some c ∧ m'[j]? = some c)
def Drop (f g : AFun X) : Prop := ∀ args m v m', g args m = some (v, m') → ∃ ρ v0 m0, DropAt f ρ v0 m0 args m v m'
theorem Drop.mono {f g : AFun X} (h : Drop f g) : Mono g := fun args m v m' hg => by
  obtain ⟨_, _, _, k⟩ := h args m v m' hg
  exact k.mlen
variable {A : AbsSem X} {num : Nat → Nat} {P : Program}
open Classical in
end
end Go.Am
end
section
namespace Go.Am
section
variable {X : Type}
def grpOk (l : Mem X) : Prop := ∀ c, c ∈ l → (∃ sz cs, c = .cells sz false cs) ∨ c = .dead
def place (i n : Nat) : Nat → Option Nat := fun l => if l = 0 then some i else some (n + (l - 1))
variable {num : Nat → Nat} {conc : X → Mem X} {P : Program}
def GrA (θ : Nat → Option Nat) (a b : AV) : Prop := AV.ren θ a = some b ∨ (a = .sl 0 0 0 (some 0) ∧ ∃ i o, b = .sl i o 0 (some 0))
def GrC (θ : Nat → Option Nat) : Chunk X → Chunk X → Prop
  | .cells sz ro cs, c' => ∃ l', c' = .cells sz ro l' ∧ cs.length = l'.length ∧ ∀ (o : Nat) (a b : AV), cs[o]? = some a → l'[o]? = some b → GrA θ a b
  | .dead, _ => True
  | .abs _, _ => False
  | .tab _ _, _ => False
structure FoldAt (conc : X → Mem X) (f : AFun X) (ρ γ : Nat → Option Nat) (v0 : AV) (m0 : Mem X) (args : List AV) (m : Mem X) (v : AV) (m' : Mem X) : Prop where
  run : f args m = some (v0, m0)
  res : AV.ren ρ v0 = some v
  mlen : m.length ≤ m'.length
  old : ∀ i, i < m.length → ρ i = some i
  new : ∀ (j i : Nat), ρ j = some i → m.length ≤ j → m.length ≤ i ∧ i < m'.length
  inj : ∀ j j' i, ρ j = some i → ρ j' = some i → j = j'
  hid : ∀ j i, γ j = some i → ρ j = none
  ch : ∀ (j i : Nat) (c : Chunk X), ρ j = some i → m0[j]? = some c →
    ((∀ j', γ j' ≠ some i) ∧ ((∃ c', renC ρ c = some c' ∧ m'[i]? = some c') ∨ (j < m.length ∧ m[j]? = some c ∧ m'[j]? = some c))) ∨
    (∃ (x : X) (θ : Nat → Option Nat), m'[i]? = some (.abs x) ∧ grpOk (conc x) ∧ θ 0 = some j ∧ (∀ l k, θ l = some k → l < (conc x).length) ∧
      (∀ (l k : Nat) (c : Chunk X), θ l = some k → (conc x)[l]? = some c → ∃ c', GrC θ c c' ∧ m0[k]? = some c') ∧ (∀ l k, θ l = some k → l ≠ 0 → γ k = some i) ∧ (∀ l l' k, θ l = some k → θ l' = some k → l = l'))
def Fold (conc : X → Mem X) (f g : AFun X) : Prop := ∀ args m v m', g args m = some (v, m') → ∃ ρ γ v0 m0, FoldAt conc f ρ γ v0 m0 args m v m'
theorem Fold.mono {f g : AFun X} (h : Fold conc f g) : Mono g := fun args m v m' hg => by
  obtain ⟨_, _, _, _, k⟩ := h args m v m' hg
  exact k.mlen
open Classical in
end
end Go.Am
end
section
namespace Go.Am
structure Acc where
  kind : Int
  at' : Int
  old : Int
  new : Int
  deriving DecidableEq
structure MemSt where
  cells : List Int
  ck : Bool
  ops : Int
  loads : Int
  stores : Int
  swaps : Int
  fails : Int
  adds : Int
  log : List Acc
  pre : List Acc
inductive Ob where
  | mem (s : MemSt)
def accC (e : Acc) : List AV := [.int .i64 e.kind, .int .i64 e.at', .int .u64 e.old, .int .u64 e.new]
def uC (xs : List Int) : List AV := xs.map (AV.int .u64)
def cvA (i k1 : Nat) (s : MemSt) : AV := if s.cells = [] then .sl i 0 0 (some 0) else .sl k1 0 s.cells.length (if s.ck then some s.cells.length else none)
def rootL (s : MemSt) (lv cv : AV) : List AV := [.int .u64 s.ops, .int .u64 s.loads, .int .u64 s.stores, .int .u64 s.swaps, .int .u64 s.fails, .int .u64 s.adds, lv, cv]
abbrev MM := Mem Ob
def memF (step : MemSt → List AV → Option (AV × MemSt)) : AFun Ob := fun args m =>
  match args with
  | .ptr i 0 :: rest => match m[i]? with
    | some (.abs (.mem s)) => match step s rest with
      | some (v, s') => some (v, m.set i (.abs (.mem s')))
      | none => none
    | _ => none
  | _ => none
end Go.Am
end
section
namespace Go.Am.F06
set_option maxRecDepth 10000
end Go.Am.F06
end
section
namespace Go.Am.F06
variable {X : Type}
end Go.Am.F06
end
section
namespace Go.Am.F06
section
variable {X : Type} {m : Mem X} {i : Nat}
theorem ms_mid (R : Chunk X) (L : Mem X) (k : Nat) : (m.set i R ++ L)[m.length + k]? = L[k]? := by
  have := get_mid (l := m.set i R) (k := L) (i := k)
  rwa [List.length_set] at this
theorem ms_mid0 (R : Chunk X) (L : Mem X) : (m.set i R ++ L)[m.length]? = L[0]? := ms_mid R L 0
end
def logMore (s : MemSt) (e : Acc) : List Acc × List Acc := if s.log.length < 256 then ([], s.log ++ [e]) else (s.log.take 1, s.log.drop 1 ++ [e])
def noted (s : MemSt) (e : Acc) (ok : Bool) : MemSt :=
  { s with ops := IntKind.u64.wrap (s.ops + 1),
           loads := if e.kind = 1 then IntKind.u64.wrap (s.loads + 1) else s.loads,
           stores := if e.kind = 2 then IntKind.u64.wrap (s.stores + 1) else s.stores,
           swaps := if e.kind = 3 ∧ ok = true then IntKind.u64.wrap (s.swaps + 1) else s.swaps,
           fails := if e.kind = 3 ∧ ok = false then IntKind.u64.wrap (s.fails + 1) else s.fails,
           adds := if e.kind ≠ 1 ∧ e.kind ≠ 2 ∧ e.kind ≠ 3 then IntKind.u64.wrap (s.adds + 1) else s.adds,
           pre := (logMore s e).1, log := (logMore s e).2 }
def LogAt (n : Nat) (M : MM) (lv : AV) (s : MemSt) : Prop := (s.log = [] ∧ lv = .nils) ∨ ∃ k2, s.log ≠ [] ∧ lv = .sl k2 (s.pre.length * 4) s.log.length none ∧ n + 1 ≤ k2 ∧ M[k2]? = some (.cells 4 false ((s.pre ++ s.log).flatMap accC))
def accS (k : Int) (g : Int → Int × Bool) (s : MemSt) (a : Int) : Option (Int × Bool × MemSt) :=
  if s.log.length ≤ 256 then
    if 0 ≤ a ∧ a < s.cells.length then
      some (s.cells.getD a.toNat 0, (g (s.cells.getD a.toNat 0)).2, noted { s with cells := s.cells.set a.toNat (g (s.cells.getD a.toNat 0)).1 } ⟨k, a, s.cells.getD a.toNat 0, (g (s.cells.getD a.toNat 0)).1⟩ (g (s.cells.getD a.toNat 0)).2)
    else some (0, false, s)
  else none
def loadS (s : MemSt) : List AV → Option (AV × MemSt)
  | [.int .i64 a] => (accS 1 (fun w => (w, true)) s a).map fun x => (.int .u64 x.1, x.2.2)
  | _ => none
def storeS (s : MemSt) : List AV → Option (AV × MemSt)
  | [.int .i64 a, .int .u64 x] => (accS 2 (fun _ => (x, true)) s a).map fun r => (.tup [], r.2.2)
  | _ => none
end Go.Am.F06
end
section
namespace Go.Am.F06
end Go.Am.F06
end
section
namespace Go.Am.F06
def newSt (n : Int) : MemSt := { cells := List.replicate (max 0 (min n 65536)).toNat 0, ck := true, ops := 0, loads := 0, stores := 0, swaps := 0, fails := 0, adds := 0, log := [], pre := [] }
end Go.Am.F06
end
section
namespace Go.Am.F06
end Go.Am.F06
end
section
namespace Go.Am.F06
end Go.Am.F06
end
section
namespace Go.Am.F06
def cellsOf (n : Nat) (es : List Acc) : List Int := es.foldl (fun c e => c.set e.at'.toNat e.new) (List.replicate n 0)
section
variable {X : Type}
abbrev SA (m : Mem X) (wr : Bool) (es : List Acc) (v : AV) : Prop := Sl m wr 4 es.length (es.flatMap accC) v
theorem SA.get {m : Mem X} {wr : Bool} {es : List Acc} {v : AV} (h : SA m wr es v) {i : Nat} {e : Acc} (he : es[i]? = some e) : ∃ q o cap ro L, v = .sl q o es.length cap ∧ m[q]? = some (.cells 4 ro L) ∧ (wr = true → ro = false) ∧ i < es.length ∧ o + i * 4 + 4 ≤ L.length ∧
    (L.drop (o + i * 4)).take 4 = accC e ∧ L[o + i * 4]? = some (.int .i64 e.kind) ∧ L[o + i * 4 + 1]? = some (.int .i64 e.at') ∧ L[o + i * 4 + 2]? = some (.int .u64 e.old) ∧ L[o + i * 4 + 3]? = some (.int .u64 e.new) := by
  have hi : i < es.length := (List.getElem?_eq_some_iff.1 he).1
  obtain ⟨q, o, cap, ro, L, rfl, h2, h3, h4, h5⟩ := h.at (by omega)
  have hp := rows_part (f := accC) (sz := 4) (fun _ => rfl) he
  have hL : ∀ k, k < 4 → L[o + i * 4 + k]? = (accC e)[k]? := by
    intro k hk
    rw [Nat.add_assoc, sl_get h3 (by omega), rows_at (f := accC) (sz := 4) (fun _ => rfl) he hk]
  refine ⟨q, o, cap, ro, L, rfl, h2, h5, hi, by omega, ?_, hL 0 (by omega), hL 1 (by omega), hL 2 (by omega), hL 3 (by omega)⟩
  apply List.ext_getElem?
  intro k
  by_cases hk : k < 4
  · rw [List.getElem?_take, if_pos hk, List.getElem?_drop, hL k hk]
  · rw [List.getElem?_eq_none (by simp; omega), List.getElem?_eq_none (by simp [accC]; omega)]
theorem SA.one {m : Mem X} {wr : Bool} {es : List Acc} {v : AV} (h : SA m wr es v) : v.one = true := by
  rcases h.2 with ⟨h, _⟩ | ⟨q, o, cap, h, _⟩ <;> rw [h] <;> rfl
theorem Fr.one {n : Nat} {v : AV} (h : Fr n v) : v.one = true ∧ v.cells = [v] := by
  rcases h with h | ⟨q, o, k, cap, h, _⟩ <;> rw [h] <;> exact ⟨rfl, rfl⟩
end
end Go.Am.F06
end
section
namespace Go.Am.F06
def KeepB {X : Type} (k : Nat) (m m' : Mem X) : Prop := m.length ≤ m'.length ∧ ∀ i, i < m.length → i ≠ k → m'[i]? = m[i]?
section
variable {X : Type} {k : Nat}
theorem KeepB.trans {m m' m'' : Mem X} (h : KeepB k m m') (j : KeepB k m' m'') : KeepB k m m'' :=
  ⟨Nat.le_trans h.1 j.1, fun i hi hk => (j.2 i (Nat.lt_of_lt_of_le hi h.1) hk).trans (h.2 i hi hk)⟩
theorem KeepB.of {m m' : Mem X} (h : Keep m m') : KeepB k m m' := ⟨h.1, fun i hi _ => h.2 i hi⟩
theorem KeepB.app (m J : Mem X) : KeepB k m (m ++ J) := .of (Keep.app m J)
theorem KeepB.at (m : Mem X) (c : Chunk X) : KeepB k m (m.set k c) := ⟨by simp, fun i hi hk => by rw [List.getElem?_set_ne (fun h => hk h.symm)]⟩
theorem KeepB.set {m m' : Mem X} (h : KeepB k m m') {q : Nat} (hq : m.length ≤ q) (c : Chunk X) : KeepB k m (m'.set q c) :=
  ⟨by simpa using h.1, fun i hi hk => by rw [List.getElem?_set_ne (by omega)]; exact h.2 i hi hk⟩
theorem KeepB.get {m m' : Mem X} (h : KeepB k m m') {i : Nat} {c : Chunk X} (hi : m[i]? = some c) (hk : i ≠ k) : m'[i]? = some c := (h.2 i (List.getElem?_eq_some_iff.1 hi).1 hk).trans hi
theorem KeepB.sl {m m' : Mem X} (h : KeepB k m m') {x : X} (hk : m[k]? = some (.abs x)) {wr : Bool} {sz n : Nat} {l : List AV} {v : AV} (hs : Sl m wr sz n l v) : Sl m' wr sz n l v := by
  refine ⟨hs.1, ?_⟩
  rcases hs.2 with h1 | ⟨q, o, cap, h1, h2⟩
  · exact .inl h1
  · refine .inr ⟨q, o, cap, h1, fun h0 => ?_⟩
    obtain ⟨ro, L, h3, h4⟩ := h2 h0
    refine ⟨ro, L, h.get h3 (fun hq => ?_), h4⟩
    rw [hq, hk] at h3; injection h3 with h3; cases h3
end
end Go.Am.F06
end
section
namespace Go.Am.F06
section
variable {X : Type}
abbrev SU (m : Mem X) (wr : Bool) (xs : List Int) (v : AV) : Prop := Sl m wr 1 xs.length (uC xs) v
theorem uC_len (xs : List Int) : (uC xs).length = xs.length := by simp [uC]
theorem uC_one (xs : List Int) : (uC xs).all AV.one = true := by simp [uC, AV.one]
theorem uC_set (xs : List Int) (i : Nat) (x : Int) : (uC xs).set i (.int .u64 x) = uC (xs.set i x) := by simp [uC, List.map_set]
theorem SU.get {m : Mem X} {wr : Bool} {xs : List Int} {v : AV} (h : SU m wr xs v) {i : Nat} {x : Int} (hx : xs[i]? = some x) : ∃ q o cap ro L, v = .sl q o xs.length cap ∧ m[q]? = some (.cells 1 ro L) ∧ (wr = true → ro = false) ∧ i < xs.length ∧ o + i < L.length ∧ L[o + i]? = some (.int .u64 x) := by
  have hi : i < xs.length := (List.getElem?_eq_some_iff.1 hx).1
  obtain ⟨q, o, cap, ro, L, rfl, h2, h3, h4, h5⟩ := h.at (by omega)
  exact ⟨q, o, cap, ro, L, rfl, h2, h5, hi, by omega, by rw [sl_get h3 (by omega)]; simp [uC, hx]⟩
def Off (q : Nat) (v : AV) : Prop := ∀ q' o n cap, v = .sl q' o n cap → 0 < n → q' ≠ q
theorem KeepB.off {k : Nat} {m m' : Mem X} (h : KeepB k m m') {wr : Bool} {sz n : Nat} {l : List AV} {v : AV} (ho : Off k v) (hs : Sl m wr sz n l v) : Sl m' wr sz n l v := by
  refine ⟨hs.1, ?_⟩
  rcases hs.2 with h1 | ⟨q, o, cap, h1, h2⟩
  · exact .inl h1
  · refine .inr ⟨q, o, cap, h1, fun h0 => ?_⟩
    obtain ⟨ro, L, h3, h4⟩ := h2 h0
    exact ⟨ro, L, h.get h3 (ho _ _ _ _ h1 h0), h4⟩
end
end Go.Am.F06
end
section
namespace Go.Am.F06
def Cc (m : MM) (i : Nat) (s : MemSt) (M : MM) : Prop := ∃ lv L, M = m.set i (.cells 8 false (rootL s lv (cvA i m.length s))) ++ L ∧ (∀ R, LogAt m.length (m.set i R ++ L) lv s) ∧ L[0]? = some (.cells 1 false (uC s.cells))
theorem logAt_app {m L : MM} {i : Nat} {s : MemSt} {lv : AV} (h : ∀ R, LogAt m.length (m.set i R ++ L) lv s) (K : MM) : ∀ R, LogAt m.length (m.set i R ++ (L ++ K)) lv s := by
  intro R
  rcases h R with h | ⟨k2, h0, h1, h2, h3⟩
  · exact .inl h
  · exact .inr ⟨k2, h0, h1, h2, by rw [← List.append_assoc, List.getElem?_append_left (List.getElem?_eq_some_iff.1 h3).1]; exact h3⟩
theorem get0_app {α : Type} {L K : List α} {c : α} (h : L[0]? = some c) : (L ++ K)[0]? = some c := by
  rw [List.getElem?_append_left (List.getElem?_eq_some_iff.1 h).1]; exact h
theorem Cc.app {m M : MM} {i : Nat} {s : MemSt} (h : Cc m i s M) (K : MM) : Cc m i s (M ++ K) := by
  obtain ⟨lv, L, rfl, h1, h2⟩ := h
  exact ⟨lv, L ++ K, by rw [List.append_assoc], logAt_app h1 K, get0_app h2⟩
def okR (s : MemSt) (e : Acc) : Prop := 0 ≤ e.at' ∧ e.at' < s.cells.length ∧ s.cells.getD e.at'.toNat 0 = e.old ∧ (e.kind = 1 → e.new = e.old) ∧ 1 ≤ e.kind ∧ e.kind ≤ 4
instance (s : MemSt) (e : Acc) : Decidable (okR s e) := by unfold okR; infer_instance
theorem Cc.cells {m M : MM} {i : Nat} {s : MemSt} (h : Cc m i s M) : M[m.length]? = some (.cells 1 false (uC s.cells)) := by
  obtain ⟨lv, L, rfl, h1, h2⟩ := h
  rw [ms_mid0]; exact h2
theorem Cc.keep {m M : MM} {i : Nat} {s : MemSt} (h : Cc m i s M) : KeepB i m M := by
  obtain ⟨lv, L, rfl, h1, h2⟩ := h
  exact (KeepB.at m _).trans (KeepB.app _ _)
end Go.Am.F06
end
section
namespace Go.Am.F06
def badE (n : Nat) (es : List Acc) (e : Acc) : Prop := e.kind < 1 ∨ 4 < e.kind ∨ e.at' < 0 ∨ (n : Int) ≤ e.at' ∨ (cellsOf n es).getD e.at'.toNat 0 ≠ e.old ∨ (e.kind = 1 ∧ e.new ≠ e.old)
instance (n : Nat) (es : List Acc) (e : Acc) : Decidable (badE n es e) := by unfold badE; infer_instance
section
variable {X : Type}
end
end Go.Am.F06
end
section
namespace Go.Am.F06
section
variable {X : Type}
def bN (n : Int) : Nat := (max 0 (min n 65536)).toNat
end
end Go.Am.F06
end
section
namespace Go.Am.F06
section
variable {X : Type}
theorem slOne {m : Mem X} {wr : Bool} {sz n : Nat} {l : List AV} {v : AV} (h : Sl m wr sz n l v) : v.one = true := by
  rcases h.2 with ⟨h, _⟩ | ⟨q, o, cap, h, _⟩ <;> rw [h] <;> rfl
def memC (v : AV) (o : Int) : List AV := [v, .int .u64 o]
theorem SU.put {m : Mem X} {xs : List Int} {q o n : Nat} {cap : Option Nat} {L : List AV} (h : SU m true xs (.sl q o n cap)) (hq : m[q]? = some (.cells 1 false L)) {i : Nat} (hi : i < xs.length) (x : Int) : SU (m.set q (.cells 1 false (L.set (o + i) (.int .u64 x)))) true (xs.set i x) (.sl q o n cap) := by
  obtain ⟨hlen, hsl⟩ := h
  rcases hsl with ⟨h, _⟩ | ⟨q', o', cap', h, h5⟩
  · cases h
  · injection h with e1 e2 e3 e4; subst e1; subst e2; subst e3; subst e4
    obtain ⟨ro, L', d1, d2, d3, d4⟩ := h5 (by omega)
    rw [hq] at d1; injection d1 with d1; injection d1 with _ _ d1; subst d1
    refine ⟨by simp [uC_len], .inr ⟨q, o, cap, by rw [List.length_set], fun _ => ⟨false, _, List.getElem?_set_self (List.getElem?_eq_some_iff.1 hq).1, ?_, by simpa using d3, fun _ => rfl⟩⟩⟩
    rw [List.length_set, List.drop_set, if_neg (by omega), List.take_set, d2, ← uC_set]
    congr 1; omega
def thr (xs : List Int) (a : Int) : Prop := 0 ≤ a ∧ a < xs.length
instance (xs : List Int) (a : Int) : Decidable (thr xs a) := by unfold thr; infer_instance
end
end Go.Am.F06
end
section
namespace Go.Am.F10
open Go.Am.F06 (SU uC_len uC_set uC_one)
variable {X : Type}
structure OkF (c : Cf) (xs : List Int) : Prop where
  at' : ∀ p, thereP c p → sz (xs.getD (addrA c p 0).toNat 0) ≤ c.q
theorem addr_ne {c : Cf} {p p' i : Int} (hp : thereP c p) (hp' : thereP c p') (h0 : 1 ≤ i) (h1 : i < 6 + c.q) : (addrA c p i).toNat ≠ (addrA c p' 0).toNat := by
  have hb := there_bounds hp
  have hb' := there_bounds hp'
  have hm := mul_bounds hb.2.2.2.2.1 hb.2.2.2.2.2 (q := 6 + c.q) (by omega) (by omega)
  have hm' := mul_bounds hb'.2.2.2.2.1 hb'.2.2.2.2.2 (q := 6 + c.q) (by omega) (by omega)
  unfold addrA; rw [if_pos hp, if_pos hp']
  rcases (show p < p' ∨ p = p' ∨ p' < p by omega) with h | h | h
  · have h2 : (p + 1) * (6 + c.q) ≤ p' * (6 + c.q) := Int.mul_le_mul_of_nonneg_right (by omega) (by omega)
    have h3 : (p + 1) * (6 + c.q) = p * (6 + c.q) + (6 + c.q) := by rw [Int.add_mul, Int.one_mul]
    omega
  · subst h; omega
  · have h2 : p' * (6 + c.q) ≤ p * (6 + c.q) := Int.mul_le_mul_of_nonneg_right (by omega) (by omega)
    omega
structure FS (m0 : Mem X) (c : Cf) (q0 : Nat) (xs : List Int) (m : Mem X) : Prop where
  keep : Keep m0 m
  box : m[m0.length]? = some (.cells 6 false (cfC c))
  out : m[q0]? = some (.cells 1 false (uC xs))
  len : xs.length = cellsN c
  ok : ∀ x, x ∈ xs → W64 x
  lt : m0.length < q0
  full : OkF c xs
theorem FS.app {m0 m : Mem X} {c : Cf} {q0 : Nat} {xs : List Int} (h : FS m0 c q0 xs m) (K : Mem X) : FS m0 c q0 xs (m ++ K) :=
  ⟨h.keep.trans (Keep.app _ _), (Keep.app m K).get h.box, (Keep.app m K).get h.out, h.len, h.ok, h.lt, h.full⟩
def OkL (c : Cf) (xs : List Int) : Prop := xs.length = cellsN c ∧ ∀ x, x ∈ xs → W64 x
theorem OkL.set {c : Cf} {xs : List Int} (h : OkL c xs) (a : Nat) {v : Int} (hv : W64 v) : OkL c (xs.set a v) := by
  refine ⟨by rw [List.length_set]; exact h.1, fun x hx => ?_⟩
  rcases List.mem_or_eq_of_mem_set hx with hx | rfl
  · exact h.2 x hx
  · exact hv
theorem FS.okL {m0 m : Mem X} {c : Cf} {q0 : Nat} {xs : List Int} (h : FS m0 c q0 xs m) : OkL c xs := ⟨h.len, h.ok⟩
theorem FS.all {m0 m : Mem X} {c : Cf} {q0 : Nat} {xs xs' : List Int} (h : FS m0 c q0 xs m) (hx : OkL c xs') (hf : OkF c xs') (K : Mem X) : FS m0 c q0 xs' (m.set q0 (.cells 1 false (uC xs')) ++ K) := by
  refine FS.app ⟨h.keep.set (by have := h.lt; omega) _, ?_, List.getElem?_set_self (List.getElem?_eq_some_iff.1 h.out).1, hx.1, hx.2, h.lt, hf⟩ K
  rw [List.getElem?_set_ne (by have := h.lt; omega)]; exact h.box
end Go.Am.F10
end
