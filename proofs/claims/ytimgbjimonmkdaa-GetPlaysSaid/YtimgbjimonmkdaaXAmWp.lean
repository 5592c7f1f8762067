import Derived.Test.YtimgbjimonmkdaaXAmDef
set_option linter.unusedSimpArgs false
set_option linter.unusedVariables false
namespace Go.Am
section
variable {X : Type} {G : List (Nat × AFun X)}
def OB (x : Option (AV × Mem X)) (K : AV → Mem X → Prop) : Prop := ∃ v m, x = some (v, m) ∧ K v m
theorem OB_some {v : AV} {m : Mem X} {K : AV → Mem X → Prop} : OB (some (v, m)) K = K v m := by
  apply propext
  constructor
  · rintro ⟨v', m', h, hk⟩
    simp only [Option.some.injEq, Prod.mk.injEq] at h
    obtain ⟨rfl, rfl⟩ := h
    exact hk
  · intro h; exact ⟨v, m, rfl, h⟩
theorem OB_none {K : AV → Mem X → Prop} : OB none K = False := by simp [OB]
def WG (x : Option Bool) (K1 K2 : Prop) : Prop := (x = some true ∧ K1) ∨ (x = some false ∧ K2)
theorem WG_none {j : List AV} {K1 K2 : Prop} : WG (wantedA j none) K1 K2 = K1 := by simp [WG, wantedA]
def WO (G : List (Nat × AFun X)) : List AOper → (List AV → Mem X → Prop) → List AV → List AV → Mem X → Prop
  | [], Q, e, _, m => Q e m
  | o :: os, Q, e, rt, m => WG (wantedA rt o.guard) (OB (amOp G o.op (o.args.map (getS e rt)) m) fun v m' => WO G os Q (putL e o.dst v) (rt ++ [v]) m')
      (WO G os Q (putL e o.dst .skip) (rt ++ [.skip]) m)
theorem WO_out : ∀ {ops : List AOper} {Q : List AV → Mem X → Prop} {e rt : List AV} {m : Mem X}, WO G ops Q e rt m → ∃ e' m', amOps G ops e rt m = some (e', m') ∧ Q e' m'
  | [], Q, e, rt, m, h => ⟨e, m, rfl, h⟩
  | o :: os, Q, e, rt, m, h => by
    unfold WO at h
    rcases h with ⟨h1, v, m', h2, h3⟩ | ⟨h1, h3⟩
    · obtain ⟨e', m'', h4, h5⟩ := WO_out h3
      exact ⟨e', m'', by simp only [amOps, h1, h2, h4], h5⟩
    · obtain ⟨e', m'', h4, h5⟩ := WO_out h3
      exact ⟨e', m'', by simp only [amOps, h1, h4], h5⟩
def WT (G : List (Nat × AFun X)) (fin : List (Bool × List AV × AV × Mem X) → Mem X → Bool) : List AOper → (List AV → Mem X → Prop) → List AV → List AV → Mem X → List (Bool × List AV × AV × Mem X) → Prop
  | [], Q, e, _, m, tr => fin tr m = true ∧ Q e m
  | o :: os, Q, e, rt, m, tr => WG (wantedA rt o.guard) (OB (amOp G o.op (o.args.map (getS e rt)) m) fun v m' => WT G fin os Q (putL e o.dst v) (rt ++ [v]) m' (tr ++ [(true, o.args.map (getS e rt), v, m)]))
      (WT G fin os Q (putL e o.dst .skip) (rt ++ [.skip]) m (tr ++ [(false, o.args.map (getS e rt), .skip, m)]))
theorem WT_out {fin : List (Bool × List AV × AV × Mem X) → Mem X → Bool} : ∀ {ops : List AOper} {Q : List AV → Mem X → Prop} {e rt : List AV} {m : Mem X} {tr : List (Bool × List AV × AV × Mem X)}, WT G fin ops Q e rt m tr →
    ∃ e' m' tr', amOpsT G ops e rt m = some (e', m', tr') ∧ fin (tr ++ tr') m' = true ∧ Q e' m'
  | [], Q, e, rt, m, tr, h => ⟨e, m, [], rfl, by simpa using h.1, h.2⟩
  | o :: os, Q, e, rt, m, tr, h => by
    unfold WT at h
    rcases h with ⟨h1, v, m', h2, h3⟩ | ⟨h1, h3⟩
    · obtain ⟨e', m'', tr', h4, h5, h6⟩ := WT_out h3
      exact ⟨e', m'', (true, o.args.map (getS e rt), v, m) :: tr', by simp only [amOpsT, h1, h2, h4], by simpa using h5, h6⟩
    · obtain ⟨e', m'', tr', h4, h5, h6⟩ := WT_out h3
      exact ⟨e', m'', (false, o.args.map (getS e rt), .skip, m) :: tr', by simp only [amOpsT, h1, h4], by simpa using h5, h6⟩
def W (G : List (Nat × AFun X)) (c : AC) (Q : AX → List AV → Mem X → Prop) (e : List AV) (m : Mem X) : Prop := ∃ x e' m', am G c e m = some (x, e', m') ∧ Q x e' m'
variable {Q : AX → List AV → Mem X → Prop} {e : List AV} {m : Mem X}
theorem W_skip : W G .skip Q e m = Q .normal e m := by
  apply propext
  constructor
  · rintro ⟨x, e', m', h, hk⟩
    simp only [am, Option.some.injEq, Prod.mk.injEq] at h
    obtain ⟨rfl, rfl, rfl⟩ := h
    exact hk
  · intro h; exact ⟨_, _, _, rfl, h⟩
theorem W_exit {id : Nat} : W G (.exit id) Q e m = Q (.exit id) e m := by
  apply propext
  constructor
  · rintro ⟨x, e', m', h, hk⟩
    simp only [am, Option.some.injEq, Prod.mk.injEq] at h
    obtain ⟨rfl, rfl, rfl⟩ := h
    exact hk
  · intro h; exact ⟨_, _, _, rfl, h⟩
theorem W_ret : W G .ret Q e m = Q .ret e m := by
  apply propext
  constructor
  · rintro ⟨x, e', m', h, hk⟩
    simp only [am, Option.some.injEq, Prod.mk.injEq] at h
    obtain ⟨rfl, rfl, rfl⟩ := h
    exact hk
  · intro h; exact ⟨_, _, _, rfl, h⟩
theorem W_region {ops : List AOper} (h : WO G ops (Q .normal) e [] m) : W G (.region ops) Q e m := by
  obtain ⟨e', m', h1, h2⟩ := WO_out h
  exact ⟨_, _, _, by simp only [am, h1], h2⟩
theorem W_draw {p : List Nat} {k : Nat} {ops : List AOper} {stab : List (Nat × List Nat)} (h : WT G (fun tr m => stabOk G ops tr m stab) ops (Q .normal) e [] m []) : W G (.draw p k ops stab) Q e m := by
  obtain ⟨e', m', tr, h1, h2, h3⟩ := WT_out h
  exact ⟨_, _, _, by simp only [am, h1]; rw [if_pos (by simpa using h2)], h3⟩
def thenQ (Q : AX → List AV → Mem X → Prop) (K : List AV → Mem X → Prop) : AX → List AV → Mem X → Prop
  | .normal, e, m => K e m
  | x, e, m => Q x e m
theorem thenQ_normal {K : List AV → Mem X → Prop} : thenQ Q K .normal e m = K e m := rfl
theorem thenQ_exit {K : List AV → Mem X → Prop} {id : Nat} : thenQ Q K (.exit id) e m = Q (.exit id) e m := rfl
theorem thenQ_ret {K : List AV → Mem X → Prop} : thenQ Q K .ret e m = Q .ret e m := rfl
theorem W_seq {a b : AC} (h : W G a (thenQ Q (fun e m => W G b Q e m)) e m) : W G (.seq a b) Q e m := by
  obtain ⟨x, e', m', h1, h2⟩ := h
  cases x with
  | normal =>
    obtain ⟨y, e2, m2, h3, h4⟩ := h2
    exact ⟨y, e2, m2, by simp only [am, h1, h3], h4⟩
  | exit id => exact ⟨_, _, _, by simp only [am, h1], h2⟩
  | ret => exact ⟨_, _, _, by simp only [am, h1], h2⟩
theorem W_cond {c : Src} {t f : AC} {b : Bool} (hc : getS e [] c = .bool b) (h : if b = true then W G t Q e m else W G f Q e m) : W G (.cond c t f) Q e m := by
  cases b with
  | true => obtain ⟨x, e', m', h1, h2⟩ := h; exact ⟨x, e', m', by simp only [am, hc, h1, if_true], h2⟩
  | false => obtain ⟨x, e', m', h1, h2⟩ := h; exact ⟨x, e', m', by simp only [am, hc, h1]; rfl, h2⟩
def blockQ (id : Nat) (Q : AX → List AV → Mem X → Prop) : AX → List AV → Mem X → Prop
  | .exit id', e, m => if id' = id then Q .normal e m else Q (.exit id') e m
  | x, e, m => Q x e m
theorem blockQ_normal {id : Nat} : blockQ id Q .normal e m = Q .normal e m := rfl
theorem blockQ_ret {id : Nat} : blockQ id Q .ret e m = Q .ret e m := rfl
theorem blockQ_exit {id id' : Nat} : blockQ id Q (.exit id') e m = if id' = id then Q .normal e m else Q (.exit id') e m := rfl
theorem W_block {id : Nat} {b : AC} (h : W G b (blockQ id Q) e m) : W G (.block id b) Q e m := by
  obtain ⟨x, e', m', h1, h2⟩ := h
  cases x with
  | normal => exact ⟨_, _, _, by simp only [am, h1], h2⟩
  | exit id' =>
    simp only [blockQ] at h2
    by_cases hi : id' = id
    · rw [if_pos hi] at h2; exact ⟨_, _, _, by simp only [am, h1]; rw [if_pos hi], h2⟩
    · rw [if_neg hi] at h2; exact ⟨_, _, _, by simp only [am, h1]; rw [if_neg hi], h2⟩
  | ret => exact ⟨_, _, _, by simp only [am, h1], h2⟩
theorem W_loop {b : AC} (I : Nat → List AV → Mem X → Prop) (n : Nat) (hn : n < FUEL) (h0 : I n e m)
    (hs : ∀ n e m, I n e m → W G b (thenQ Q (fun e' m' => ∃ k, k < n ∧ I k e' m')) e m) : W G (.loop b) Q e m := by
  have key : ∀ (N n : Nat) (e : List AV) (m : Mem X), n < N → I n e m → ∃ x e' m', iter (am G b) N e m = some (x, e', m') ∧ Q x e' m' := by
    intro N
    induction N with
    | zero => intro n e m h; omega
    | succ N ih =>
      intro n e m hlt hI
      obtain ⟨x, e1, m1, h1, h2⟩ := hs n e m hI
      cases x with
      | normal =>
        obtain ⟨k, hk, hI'⟩ := h2
        obtain ⟨x, e2, m2, h3, h4⟩ := ih k e1 m1 (by omega) hI'
        exact ⟨x, e2, m2, by simp only [iter, h1, h3], h4⟩
      | exit id => exact ⟨_, _, _, by simp only [iter, h1], h2⟩
      | ret => exact ⟨_, _, _, by simp only [iter, h1], h2⟩
  exact key FUEL n e m hn h0
def Fn (G : List (Nat × AFun X)) (F : AFn) (args : List AV) (m : Mem X) (Q : AV → Mem X → Prop) : Prop := OB (amFunc G F args m) Q
def resQ (res : List ARes) (Q : AV → Mem X → Prop) : AX → List AV → Mem X → Prop
  | .exit _, _, _ => False
  | _, e, m => ∃ vs, resAll e m res = some vs ∧ Q (tupA vs) m
theorem Fn_of {F : AFn} {args : List AV} {Q : AV → Mem X → Prop} (hl : args.length = F.npar) (h : W G F.body (resQ F.res Q) (args ++ List.replicate (F.nloc - F.npar) .skip) m) : Fn G F args m Q := by
  obtain ⟨x, e', m', h1, h2⟩ := h
  cases x with
  | exit id => cases h2
  | normal =>
    obtain ⟨vs, h3, h4⟩ := h2
    exact ⟨_, _, by simp only [amFunc, h1, h3]; rw [if_pos hl], h4⟩
  | ret =>
    obtain ⟨vs, h3, h4⟩ := h2
    exact ⟨_, _, by simp only [amFunc, h1, h3]; rw [if_pos hl], h4⟩
end
end Go.Am
