import Derived.Test.YtimgbjimonmkdaaXAmWp
set_option linter.unusedSimpArgs false
set_option linter.unusedVariables false
namespace Go.Am
section
variable {X : Type}
def OK (G : List (Nat × AFun X)) (os : List AOper) (Q : List AV → Mem X → Prop) (e : List AV) (dst : Option Nat) (rt : List AV) (x : Option (AV × Mem X)) : Prop := OB x fun v m => WO G os Q (putL e dst v) (rt ++ [v]) m
def GK (G : List (Nat × AFun X)) (op : AOp) (args : List Src) (os : List AOper) (Q : List AV → Mem X → Prop) (e : List AV) (dst : Option Nat) (rt : List AV) (m : Mem X) (g : Option Bool) : Prop :=
  WG g (OK G os Q e dst rt (amOp G op (args.map (getS e rt)) m)) (WO G os Q (putL e dst .skip) (rt ++ [.skip]) m)
def WI (b : Bool) (K L : Prop) : Prop := if b = true then K else L
theorem WI_true {K L : Prop} : WI true K L = K := by simp [WI]
theorem WI_false {K L : Prop} : WI false K L = L := by simp [WI]
theorem WI_of {b : Bool} {K L : Prop} (h1 : b = true → K) (h2 : b = false → L) : WI b K L := by
  cases b with
  | true => simpa [WI] using h1 rfl
  | false => simpa [WI] using h2 rfl
theorem WG_bool {b : Bool} {K L : Prop} : WG (some b) K L = WI b K L := by cases b <;> simp [WG, WI]
theorem evB (k : IntKind) (a b : Int) :
    (binI .add k a b = some (.int k (k.wrap (a + b)))) ∧
    (binI .sub k a b = some (.int k (k.wrap (a - b)))) ∧
    (binI .mul k a b = some (.int k (k.wrap (a * b)))) ∧
    (binI .quo k a b = if b = 0 then none else some (.int k (k.wrap (a.tdiv b)))) ∧
    (binI .rem k a b = if b = 0 then none else some (.int k (a.tmod b))) ∧
    (binI .eql k a b = some (.bool (decide (a = b)))) ∧
    (binI .neq k a b = some (.bool (decide (a ≠ b)))) ∧
    (binI .lss k a b = some (.bool (decide (a < b)))) ∧
    (binI .leq k a b = some (.bool (decide (a ≤ b)))) ∧
    (binI .gtr k a b = some (.bool (decide (b < a)))) ∧
    (binI .geq k a b = some (.bool (decide (b ≤ a)))) := by
  refine ⟨rfl, rfl, rfl, rfl, rfl, ?_, ?_, rfl, rfl, rfl, rfl⟩
  · simp only [binI]; congr 2
  · simp only [binI]; congr 2; by_cases h : a = b <;> simp [h]
theorem evS :
    (∀ e rt j, getS e rt (.loc j) = e.getD j .skip) ∧
    (∀ e rt j, getS e rt (.tmp j) = rt.getD j .skip) ∧
    (∀ e rt v, getS e rt (.c v) = v) ∧
    (∀ e v, putL e none v = e) ∧
    (∀ e j v, putL e (some j) v = e.set j v) ∧
    (∀ rt j, wantedA rt (some (j, true)) = match rt[j]? with | some (.bool b) => some b | some (.tup []) => some false | _ => none) ∧
    (∀ rt j, wantedA rt (some (j, false)) = match rt[j]? with | some (.bool b) => some (!b) | some (.tup []) => some false | _ => none) := by
  refine ⟨fun _ _ _ => rfl, fun _ _ _ => rfl, fun _ _ _ => rfl, fun _ _ => rfl, fun _ _ _ => rfl, fun rt j => ?_, fun rt j => ?_⟩
  · simp only [wantedA]; split <;> simp_all
  · simp only [wantedA]; split <;> simp_all
theorem evL {α : Type} :
    (∀ (x d : α) xs, (x :: xs).getD 0 d = x) ∧
    (∀ (x d : α) xs n, (x :: xs).getD (n + 1) d = xs.getD n d) ∧
    (∀ (x : α) xs, (x :: xs)[0]? = some x) ∧
    (∀ (x : α) xs n, (x :: xs)[n + 1]? = xs[n]?) ∧
    (∀ (x y : α) xs, (x :: xs).set 0 y = y :: xs) ∧
    (∀ (x y : α) xs n, (x :: xs).set (n + 1) y = x :: xs.set n y) ∧
    (∀ (x : α) xs ys, x :: xs ++ ys = x :: (xs ++ ys)) ∧
    (∀ (xs : List α), [] ++ xs = xs) ∧
    (∀ (x : α) xs n, (x :: xs).take (n + 1) = x :: xs.take n) ∧
    (∀ (xs : List α), xs.take 0 = []) ∧
    (∀ (x : α) xs n, (x :: xs).drop (n + 1) = xs.drop n) ∧
    (∀ (xs : List α), xs.drop 0 = xs) ∧
    (∀ (x : α) xs, (x :: xs).length = xs.length + 1) ∧
    (([] : List α).length = 0) := by
  refine ⟨fun _ _ _ => rfl, fun _ _ _ _ => rfl, fun _ _ => rfl, fun _ _ _ => rfl, fun _ _ _ => rfl, fun _ _ _ _ => rfl, fun _ _ _ => rfl, fun _ => rfl, fun _ _ _ => rfl, fun _ => rfl, fun _ _ _ => rfl, fun _ => rfl, fun _ _ => rfl, rfl⟩
theorem WO_eq {G : List (Nat × AFun X)} : ∀ {ops : List AOper} {Q : List AV → Mem X → Prop} {e rt : List AV} {m : Mem X}, WO G ops Q e rt m = ∃ e' m', amOps G ops e rt m = some (e', m') ∧ Q e' m' := by
  intro ops
  induction ops with
  | nil =>
    intro Q e rt m
    refine propext ⟨WO_out, ?_⟩
    rintro ⟨e', m', h, hq⟩
    simp only [amOps, Option.some.injEq, Prod.mk.injEq] at h
    obtain ⟨rfl, rfl⟩ := h
    exact hq
  | cons o os ih =>
    intro Q e rt m
    refine propext ⟨WO_out, ?_⟩
    rintro ⟨e', m', h, hq⟩
    simp only [amOps] at h
    split at h
    · rename_i hw
      split at h
      · rename_i v m1 h1
        refine .inl ⟨hw, v, m1, h1, ?_⟩
        show WO G os Q (putL e o.dst v) (rt ++ [v]) m1
        rw [ih]; exact ⟨e', m', h, hq⟩
      · cases h
    · rename_i hw
      refine .inr ⟨hw, ?_⟩
      rw [ih]; exact ⟨e', m', h, hq⟩
    · cases h
def CW (G : List (Nat × AFun X)) (t f : AC) (Q : AX → List AV → Mem X → Prop) (e : List AV) (m : Mem X) (v : AV) : Prop := ∃ b, v = .bool b ∧ WI b (W G t Q e m) (W G f Q e m)
theorem CW_bool {G : List (Nat × AFun X)} {t f : AC} {Q : AX → List AV → Mem X → Prop} {e : List AV} {m : Mem X} {b : Bool} : CW G t f Q e m (.bool b) = WI b (W G t Q e m) (W G f Q e m) := by simp [CW]
def RQ (Q : AV → Mem X → Prop) (m : Mem X) (x : Option (List AV)) : Prop := ∃ vs, x = some vs ∧ Q (tupA vs) m
theorem RQ_some {Q : AV → Mem X → Prop} {m : Mem X} {vs : List AV} : RQ Q m (some vs) = Q (tupA vs) m := by simp [RQ]
theorem evW (G : List (Nat × AFun X)) :
    (∀ ops Q e m, W G (.region ops) Q e m = WO G ops (Q .normal) e ([] ++ []) m) ∧
    (∀ a b Q e m, W G (.seq a b) Q e m = W G a (thenQ Q (W G b Q)) e m) ∧
    (∀ c t f Q e m, W G (.cond c t f) Q e m = CW G t f Q e m (getS e [] c)) ∧
    (∀ id b Q e m, W G (.block id b) Q e m = W G b (blockQ id Q) e m) ∧
    (∀ Q e m, W G .skip Q e m = Q .normal e m) ∧
    (∀ id Q e m, W G (.exit id) Q e m = Q (.exit id) e m) ∧
    (∀ Q e m, W G .ret Q e m = Q .ret e m) := by
  refine ⟨fun ops Q e m => ?_, fun a b Q e m => ?_, fun c t f Q e m => ?_, fun id b Q e m => ?_, fun _ _ _ => W_skip, fun _ _ _ _ => W_exit, fun _ _ _ => W_ret⟩
  · refine propext ⟨?_, W_region⟩
    rintro ⟨x, e', m', h, hq⟩
    simp only [am] at h
    split at h
    · rename_i e1 m1 h1
      simp only [Option.some.injEq, Prod.mk.injEq] at h
      obtain ⟨rfl, rfl, rfl⟩ := h
      rw [WO_eq]; exact ⟨_, _, h1, hq⟩
    · cases h
  · refine propext ⟨?_, W_seq⟩
    rintro ⟨x, e', m', h, hq⟩
    simp only [am] at h
    split at h
    · rename_i e1 m1 h1
      exact ⟨_, _, _, h1, ⟨x, e', m', h, hq⟩⟩
    · rename_i hne
      refine ⟨_, _, _, h, ?_⟩
      cases x with
      | normal => exact absurd h (hne e' m')
      | exit id => exact hq
      | ret => exact hq
  · refine propext ⟨?_, ?_⟩
    · rintro ⟨x, e', m', h, hq⟩
      simp only [am] at h
      split at h
      · rename_i b hb
        refine ⟨b, hb, ?_⟩
        cases b with
        | true => simp only [if_true] at h; rw [WI_true]; exact ⟨x, e', m', h, hq⟩
        | false => rw [WI_false]; exact ⟨x, e', m', h, hq⟩
      · cases h
    · rintro ⟨b, hb, hw⟩
      exact W_cond hb hw
  · refine propext ⟨?_, W_block⟩
    rintro ⟨x, e', m', h, hq⟩
    simp only [am] at h
    split at h
    · rename_i id' e1 m1 h1
      refine ⟨_, _, _, h1, ?_⟩
      simp only [blockQ]
      split at h
      · rename_i hi
        simp only [Option.some.injEq, Prod.mk.injEq] at h
        obtain ⟨rfl, rfl, rfl⟩ := h
        rw [if_pos hi]; exact hq
      · rename_i hi
        simp only [Option.some.injEq, Prod.mk.injEq] at h
        obtain ⟨rfl, rfl, rfl⟩ := h
        rw [if_neg hi]; exact hq
    · rename_i hne
      refine ⟨_, _, _, h, ?_⟩
      cases x with
      | normal => exact hq
      | exit id => exact absurd h (hne id e' m')
      | ret => exact hq
theorem evQ : (∀ res Q e (m : Mem X), resQ res Q .normal e m = RQ Q m (resAll e m res)) ∧
    (∀ res Q e (m : Mem X), resQ res Q .ret e m = RQ Q m (resAll e m res)) := ⟨fun _ _ _ _ => rfl, fun _ _ _ _ => rfl⟩
theorem cond_bool {b x y : Bool} : cond b (AV.bool x) (AV.bool y) = AV.bool (cond b x y) := by cases b <;> rfl
theorem cond_int {b : Bool} {k : IntKind} {x y : Int} : cond b (AV.int k x) (AV.int k y) = AV.int k (cond b x y) := by cases b <;> rfl
theorem tupA_one {v : AV} : tupA [v] = v := rfl
theorem tupA_two {v u : AV} {vs : List AV} : tupA (v :: u :: vs) = .tup (v :: u :: vs) := rfl
theorem tupA_nil : tupA [] = .tup [] := rfl
end
end Go.Am
