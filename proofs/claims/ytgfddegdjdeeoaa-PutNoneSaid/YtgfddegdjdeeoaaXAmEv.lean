/- Rules for going through the abstract machine by simp. -/
import Derived.Test.YtgfddegdjdeeoaaXAmWp
set_option linter.unusedSimpArgs false
set_option linter.unusedVariables false
namespace Go.Am
section
variable {X : Type}

/-- What follows an operation: all of it data, so that nothing is gone into ahead of its time. -/
def OK (G : List (Nat × AFun X)) (os : List AOper) (Q : List AV → Mem X → Prop) (e : List AV) (dst : Option Nat) (rt : List AV) (x : Option (AV × Mem X)) : Prop := OB x fun v m => WO G os Q (putL e dst v) (rt ++ [v]) m

def GK (G : List (Nat × AFun X)) (op : AOp) (args : List Src) (os : List AOper) (Q : List AV → Mem X → Prop) (e : List AV) (dst : Option Nat) (rt : List AV) (m : Mem X) (g : Option Bool) : Prop :=
  WG g (OK G os Q e dst rt (amOp G op (args.map (getS e rt)) m)) (WO G os Q (putL e dst .skip) (rt ++ [.skip]) m)

/-- A case on a Bool that is not yet known. -/
def WI (b : Bool) (K L : Prop) : Prop := if b = true then K else L
theorem WI_true {K L : Prop} : WI true K L = K := by simp [WI]
theorem WI_false {K L : Prop} : WI false K L = L := by simp [WI]
theorem WI_of {b : Bool} {K L : Prop} (h1 : b = true → K) (h2 : b = false → L) : WI b K L := by
  cases b with
  | true => simpa [WI] using h1 rfl
  | false => simpa [WI] using h2 rfl
theorem WG_bool {b : Bool} {K L : Prop} : WG (some b) K L = WI b K L := by cases b <;> simp [WG, WI]
theorem OK_if {G : List (Nat × AFun X)} {os : List AOper} {Q : List AV → Mem X → Prop} {e : List AV} {dst : Option Nat} {rt : List AV} {c : Prop} [Decidable c] {x : Option (AV × Mem X)} : OK G os Q e dst rt (if c then x else none) = (c ∧ OK G os Q e dst rt x) := by
  by_cases h : c <;> simp [h, OK, OB_none]

theorem fillA_nil {z : List AV} : fillA z [] [] = some z := rfl

/-- The steps. -/
theorem ev (G : List (Nat × AFun X)) :
    (∀ (Q : List AV → Mem X → Prop) e rt m, WO G [] Q e rt m = Q e m) ∧
    (∀ op args dst os (Q : List AV → Mem X → Prop) e rt m, WO G (⟨op, args, dst, none⟩ :: os) Q e rt m = OK G os Q e dst rt (amOp G op (args.map (getS e rt)) m)) ∧
    (∀ op args dst g os (Q : List AV → Mem X → Prop) e rt m, WO G (⟨op, args, dst, some g⟩ :: os) Q e rt m = GK G op args os Q e dst rt m (wantedA rt (some g))) ∧
    (∀ os Q e dst rt v m, OK G os Q e dst rt (some (v, m)) = WO G os Q (putL e dst v) (rt ++ [v]) m) ∧
    (∀ os Q e dst rt, OK G os Q e dst rt none = False) ∧
    (∀ op args os Q e dst rt m b, GK G op args os Q e dst rt m (some b) = WI b (OK G os Q e dst rt (amOp G op (args.map (getS e rt)) m)) (WO G os Q (putL e dst .skip) (rt ++ [.skip]) m)) ∧
    (∀ v m, amOp G .mov [v] m = some (v, m)) ∧
    (∀ c a b m, amOp G .pick [.bool c, a, b] m = some (cond c a b, m)) ∧
    (∀ z m, amOp G (.alloc z) [] m = some (.ptr m.length 0, m ++ [.cells z.length false z])) ∧
    (∀ z ps vs m, amOp G (.build z ps) vs m = match fillA z ps vs with | some cs => some (.agg cs, m) | none => none) ∧
    (∀ n i o m, amOp G (.load n) [.ptr i o] m = match loadN m i o n with | some v => some (v, m) | none => none) ∧
    (∀ n i o v m, amOp G (.store n) [.ptr i o, v] m = match storeN m i o n v with | some m' => some (.skip, m') | none => none) ∧
    (∀ i o m, amOp G .nilc [.ptr i o] m = some (.ptr i o, m)) ∧
    (∀ f a b m, amOp G .nilc [.fn f a b] m = some (.fn f a b, m)) ∧
    (∀ b m, amOp G .not [.bool b] m = some (.bool (!b), m)) ∧
    (∀ k n m, amOp G .neg [.int k n] m = some (.int k (k.wrap (0 - n)), m)) ∧
    (∀ k k' n m, amOp G (.conv k) [.int k' n] m = some (.int k (k.wrap n), m)) ∧
    (∀ op k a b m, amOp G (.bin op) [.int k a, .int k b] m = match binI op k a b with | some v => some (v, m) | none => none) ∧
    (∀ op k k' a b m, amOp G (.shf op) [.int k a, .int k' b] m = match shfI op k a b with | some v => some (v, m) | none => none) ∧
    (∀ k neg x y m, amOp G (.eqv k neg) [x, y] m = match eqV m k x y with | some b => some (.bool (xor neg b), m) | none => none) ∧
    (∀ off i o m, amOp G (.faddr off) [.ptr i o] m = some (.ptr i (o + off), m)) ∧
    (∀ sz i o len c k n m, amOp G (.iaddr sz none) [.sl i o len c, .int k n] m = if 0 ≤ n ∧ n < len then some (.ptr i (o + n.toNat * sz), m) else none) ∧
    (∀ sz len i o k n m, amOp G (.iaddr sz (some len)) [.ptr i o, .int k n] m = if 0 ≤ n ∧ n < len then some (.ptr i (o + n.toNat * sz), m) else none) ∧
    (∀ off cs m, amOp G (.field off none) [.agg cs] m = match cs[off]? with | some v => some (v, m) | none => none) ∧
    (∀ off n cs m, amOp G (.field off (some n)) [.agg cs] m = if off + n ≤ cs.length then some (.agg ((cs.drop off).take n), m) else none) ∧
    (∀ i vs m, amOp G (.extract i) [.tup vs] m = match vs[i]? with | some v => some (v, m) | none => none) ∧
    (∀ f vs m, amOp G (.call f) vs m = match assoc G f with | some F => F vs m | none => none) ∧
    (∀ f a c vs m, amOp G .callv (.fn f a c :: vs) m = match assoc G f with | some F => F (a ++ vs ++ c) m | none => none) ∧
    (∀ i o len c m, amOp G .len [.sl i o len c] m = some (.int .i64 len, m)) ∧
    (∀ m, amOp G .len [.nils] m = some (.int .i64 0, m)) ∧
    (∀ k a b m, amOp G .min [.int k a, .int k b] m = some (.int k (if b < a then b else a), m)) ∧
    (∀ k a b m, amOp G .max [.int k a, .int k b] m = some (.int k (if b > a then b else a), m)) ∧
    (∀ v m, amOp G .box [v] m = if v.cells.all AV.one = true then some (.ptr m.length 0, m ++ [.cells v.cells.length false v.cells]) else none) ∧
    (∀ f n vs m, amOp G (.mkfn f n) vs m = if n ≤ vs.length then some (.fn f (vs.take n) (vs.drop n), m) else none) := by
  refine ⟨fun _ _ _ _ => rfl, fun _ _ _ _ _ _ _ _ => by simp only [WO, WG_none, OK], fun _ _ _ _ _ _ _ _ _ => rfl, fun _ _ _ _ _ _ _ => by simp only [OK, OB_some], fun _ _ _ _ _ => by simp only [OK, OB_none], fun _ _ _ _ _ _ _ _ _ => by simp only [GK, WG_bool], fun _ _ => rfl, fun _ _ _ _ => rfl, fun _ _ => rfl, ?_, fun _ _ _ _ => rfl, fun _ _ _ _ _ => rfl, fun _ _ _ => rfl, fun _ _ _ _ => rfl, fun _ _ => rfl, fun _ _ _ => rfl,
    fun _ _ _ _ => rfl, fun _ _ _ _ _ => by simp only [amOp, if_true] <;> rfl, fun _ _ _ _ _ _ => rfl, fun _ _ _ _ _ => rfl, fun _ _ _ _ => rfl, fun _ _ _ _ _ _ _ _ => rfl, fun _ _ _ _ _ _ _ => rfl, fun _ _ _ => rfl, fun _ _ _ _ => rfl, fun _ _ _ => rfl, ?_,
    fun _ _ _ _ _ => rfl, fun _ _ _ _ _ => rfl, fun _ => rfl, fun _ _ _ _ => by simp [amOp, foldI], fun _ _ _ _ => by simp [amOp, foldI], fun _ _ => rfl, ?_⟩
  · intro z ps vs m; cases vs <;> rfl
  · intro f vs m; cases vs <;> rfl
  · intro f n vs m; cases vs <;> rfl

theorem evB (k : IntKind) (a b : Int) :
    (binI .add k a b = some (.int k (k.wrap (a + b)))) ∧
    (binI .sub k a b = some (.int k (k.wrap (a - b)))) ∧
    (binI .mul k a b = some (.int k (k.wrap (a * b)))) ∧
    (binI .quo k a b = if b = 0 then none else some (.int k (k.wrap (a.tdiv b)))) ∧
    (binI .rem k a b = if b = 0 then none else some (.int k (a.tmod b))) ∧
    (binI .eql k a b = some (.bool (decide (a = b)))) ∧
    (binI .neq k a b = some (.bool (decide (a ≠ b)))) ∧
    (binI .lss k a b = some (.bool (decide (a < b)))) ∧
    (binI .leq k a b = some (.bool (decide (a ≤ b)))) ∧
    (binI .gtr k a b = some (.bool (decide (b < a)))) ∧
    (binI .geq k a b = some (.bool (decide (b ≤ a)))) := by
  refine ⟨rfl, rfl, rfl, rfl, rfl, ?_, ?_, rfl, rfl, rfl, rfl⟩
  · simp only [binI]; congr 2
  · simp only [binI]; congr 2; by_cases h : a = b <;> simp [h]

theorem evS :
    (∀ e rt j, getS e rt (.loc j) = e.getD j .skip) ∧
    (∀ e rt j, getS e rt (.tmp j) = rt.getD j .skip) ∧
    (∀ e rt v, getS e rt (.c v) = v) ∧
    (∀ e v, putL e none v = e) ∧
    (∀ e j v, putL e (some j) v = e.set j v) ∧
    (∀ rt j, wantedA rt (some (j, true)) = match rt[j]? with | some (.bool b) => some b | some (.tup []) => some false | _ => none) ∧
    (∀ rt j, wantedA rt (some (j, false)) = match rt[j]? with | some (.bool b) => some (!b) | some (.tup []) => some false | _ => none) := by
  refine ⟨fun _ _ _ => rfl, fun _ _ _ => rfl, fun _ _ _ => rfl, fun _ _ => rfl, fun _ _ _ => rfl, fun rt j => ?_, fun rt j => ?_⟩
  · simp only [wantedA]; split <;> simp_all
  · simp only [wantedA]; split <;> simp_all

/-- Lists, place by place. -/
theorem evL {α : Type} :
    (∀ (x d : α) xs, (x :: xs).getD 0 d = x) ∧
    (∀ (x d : α) xs n, (x :: xs).getD (n + 1) d = xs.getD n d) ∧
    (∀ (x : α) xs, (x :: xs)[0]? = some x) ∧
    (∀ (x : α) xs n, (x :: xs)[n + 1]? = xs[n]?) ∧
    (∀ (x y : α) xs, (x :: xs).set 0 y = y :: xs) ∧
    (∀ (x y : α) xs n, (x :: xs).set (n + 1) y = x :: xs.set n y) ∧
    (∀ (x : α) xs ys, x :: xs ++ ys = x :: (xs ++ ys)) ∧
    (∀ (xs : List α), [] ++ xs = xs) ∧
    (∀ (x : α) xs n, (x :: xs).take (n + 1) = x :: xs.take n) ∧
    (∀ (xs : List α), xs.take 0 = []) ∧
    (∀ (x : α) xs n, (x :: xs).drop (n + 1) = xs.drop n) ∧
    (∀ (xs : List α), xs.drop 0 = xs) ∧
    (∀ (x : α) xs, (x :: xs).length = xs.length + 1) ∧
    (([] : List α).length = 0) := by
  refine ⟨fun _ _ _ => rfl, fun _ _ _ _ => rfl, fun _ _ => rfl, fun _ _ _ => rfl, fun _ _ _ => rfl, fun _ _ _ _ => rfl, fun _ _ _ => rfl, fun _ => rfl, fun _ _ _ => rfl, fun _ => rfl, fun _ _ _ => rfl, fun _ => rfl, fun _ _ => rfl, rfl⟩

theorem WO_eq {G : List (Nat × AFun X)} : ∀ {ops : List AOper} {Q : List AV → Mem X → Prop} {e rt : List AV} {m : Mem X}, WO G ops Q e rt m = ∃ e' m', amOps G ops e rt m = some (e', m') ∧ Q e' m' := by
  intro ops
  induction ops with
  | nil =>
    intro Q e rt m
    refine propext ⟨WO_out, ?_⟩
    rintro ⟨e', m', h, hq⟩
    simp only [amOps, Option.some.injEq, Prod.mk.injEq] at h
    obtain ⟨rfl, rfl⟩ := h
    exact hq
  | cons o os ih =>
    intro Q e rt m
    refine propext ⟨WO_out, ?_⟩
    rintro ⟨e', m', h, hq⟩
    simp only [amOps] at h
    split at h
    · rename_i hw
      split at h
      · rename_i v m1 h1
        refine .inl ⟨hw, v, m1, h1, ?_⟩
        show WO G os Q (putL e o.dst v) (rt ++ [v]) m1
        rw [ih]; exact ⟨e', m', h, hq⟩
      · cases h
    · rename_i hw
      refine .inr ⟨hw, ?_⟩
      rw [ih]; exact ⟨e', m', h, hq⟩
    · cases h

/-- A case on a value that is to be a Bool. -/
def CW (G : List (Nat × AFun X)) (t f : AC) (Q : AX → List AV → Mem X → Prop) (e : List AV) (m : Mem X) (v : AV) : Prop := ∃ b, v = .bool b ∧ WI b (W G t Q e m) (W G f Q e m)
theorem CW_bool {G : List (Nat × AFun X)} {t f : AC} {Q : AX → List AV → Mem X → Prop} {e : List AV} {m : Mem X} {b : Bool} : CW G t f Q e m (.bool b) = WI b (W G t Q e m) (W G f Q e m) := by simp [CW]

def RQ (Q : AV → Mem X → Prop) (m : Mem X) (x : Option (List AV)) : Prop := ∃ vs, x = some vs ∧ Q (tupA vs) m
theorem RQ_some {Q : AV → Mem X → Prop} {m : Mem X} {vs : List AV} : RQ Q m (some vs) = Q (tupA vs) m := by simp [RQ]

/-- The code. -/
theorem evW (G : List (Nat × AFun X)) :
    (∀ ops Q e m, W G (.region ops) Q e m = WO G ops (Q .normal) e ([] ++ []) m) ∧
    (∀ a b Q e m, W G (.seq a b) Q e m = W G a (thenQ Q (W G b Q)) e m) ∧
    (∀ c t f Q e m, W G (.cond c t f) Q e m = CW G t f Q e m (getS e [] c)) ∧
    (∀ id b Q e m, W G (.block id b) Q e m = W G b (blockQ id Q) e m) ∧
    (∀ Q e m, W G .skip Q e m = Q .normal e m) ∧
    (∀ id Q e m, W G (.exit id) Q e m = Q (.exit id) e m) ∧
    (∀ Q e m, W G .ret Q e m = Q .ret e m) := by
  refine ⟨fun ops Q e m => ?_, fun a b Q e m => ?_, fun c t f Q e m => ?_, fun id b Q e m => ?_, fun _ _ _ => W_skip, fun _ _ _ _ => W_exit, fun _ _ _ => W_ret⟩
  · refine propext ⟨?_, W_region⟩
    rintro ⟨x, e', m', h, hq⟩
    simp only [am] at h
    split at h
    · rename_i e1 m1 h1
      simp only [Option.some.injEq, Prod.mk.injEq] at h
      obtain ⟨rfl, rfl, rfl⟩ := h
      rw [WO_eq]; exact ⟨_, _, h1, hq⟩
    · cases h
  · refine propext ⟨?_, W_seq⟩
    rintro ⟨x, e', m', h, hq⟩
    simp only [am] at h
    split at h
    · rename_i e1 m1 h1
      exact ⟨_, _, _, h1, ⟨x, e', m', h, hq⟩⟩
    · rename_i hne
      refine ⟨_, _, _, h, ?_⟩
      cases x with
      | normal => exact absurd h (hne e' m')
      | exit id => exact hq
      | ret => exact hq
  · refine propext ⟨?_, ?_⟩
    · rintro ⟨x, e', m', h, hq⟩
      simp only [am] at h
      split at h
      · rename_i b hb
        refine ⟨b, hb, ?_⟩
        cases b with
        | true => simp only [if_true] at h; rw [WI_true]; exact ⟨x, e', m', h, hq⟩
        | false => rw [WI_false]; exact ⟨x, e', m', h, hq⟩
      · cases h
    · rintro ⟨b, hb, hw⟩
      exact W_cond hb hw
  · refine propext ⟨?_, W_block⟩
    rintro ⟨x, e', m', h, hq⟩
    simp only [am] at h
    split at h
    · rename_i id' e1 m1 h1
      refine ⟨_, _, _, h1, ?_⟩
      simp only [blockQ]
      split at h
      · rename_i hi
        simp only [Option.some.injEq, Prod.mk.injEq] at h
        obtain ⟨rfl, rfl, rfl⟩ := h
        rw [if_pos hi]; exact hq
      · rename_i hi
        simp only [Option.some.injEq, Prod.mk.injEq] at h
        obtain ⟨rfl, rfl, rfl⟩ := h
        rw [if_neg hi]; exact hq
    · rename_i hne
      refine ⟨_, _, _, h, ?_⟩
      cases x with
      | normal => exact hq
      | exit id => exact absurd h (hne id e' m')
      | ret => exact hq

theorem evQ : (∀ res Q e (m : Mem X), resQ res Q .normal e m = RQ Q m (resAll e m res)) ∧
    (∀ res Q e (m : Mem X), resQ res Q .ret e m = RQ Q m (resAll e m res)) := ⟨fun _ _ _ _ => rfl, fun _ _ _ _ => rfl⟩

theorem cond_bool {b x y : Bool} : cond b (AV.bool x) (AV.bool y) = AV.bool (cond b x y) := by cases b <;> rfl
theorem cond_int {b : Bool} {k : IntKind} {x y : Int} : cond b (AV.int k x) (AV.int k y) = AV.int k (cond b x y) := by cases b <;> rfl

theorem tupA_one {v : AV} : tupA [v] = v := rfl
theorem tupA_two {v u : AV} {vs : List AV} : tupA (v :: u :: vs) = .tup (v :: u :: vs) := rfl
theorem tupA_nil : tupA [] = .tup [] := rfl

theorem assoc_here {f : Nat} {F : AFun X} {G : List (Nat × AFun X)} : assoc ((f, F) :: G) f = some F := by simp [assoc]
theorem assoc_there {f g : Nat} {F : AFun X} {G : List (Nat × AFun X)} : assoc ((g, F) :: G) f = if g = f then some F else assoc G f := rfl

theorem getC_eq {m : Mem X} {i : Nat} {sz : Nat} {ro : Bool} {l : List AV} (h : m[i]? = some (.cells sz ro l)) : getC m i = some (sz, ro, l) := by simp [getC, h]
end
end Go.Am
