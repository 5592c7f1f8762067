import Derived.Test.YtimgbjimonmkdaaXAmOp6
set_option linter.unusedSimpArgs false
set_option linter.unusedVariables false
namespace Go.Am
mutual
theorem AV.beq_eq : ∀ {a b : AV}, AV.beq a b = true → a = b
  | .undef, b, h => by cases b <;> simp_all [AV.beq]
  | .bool _, b, h => by cases b <;> simp_all [AV.beq]
  | .int _ _, b, h => by cases b <;> simp_all [AV.beq]
  | .str s, b, h => by
    cases b <;> simp [AV.beq] at h
    rename_i t
    obtain ⟨⟨s⟩⟩ := s
    obtain ⟨⟨t⟩⟩ := t
    simp at h; simp [h]
  | .nilp, b, h => by cases b <;> simp_all [AV.beq]
  | .ptr _ _, b, h => by cases b <;> simp_all [AV.beq]
  | .nils, b, h => by cases b <;> simp_all [AV.beq]
  | .sl _ _ _ _, b, h => by cases b <;> simp_all [AV.beq]
  | .nilm, b, h => by cases b <;> simp_all [AV.beq]
  | .map _, b, h => by cases b <;> simp_all [AV.beq]
  | .nilf, b, h => by cases b <;> simp_all [AV.beq]
  | .fn f p q, b, h => by
    cases b <;> simp [AV.beq] at h
    obtain ⟨⟨rfl, h1⟩, h2⟩ := h
    rw [AV.beqL_eq h1, AV.beqL_eq h2]
  | .agg p, b, h => by
    cases b <;> simp [AV.beq] at h
    rw [AV.beqL_eq h]
  | .tup p, b, h => by
    cases b <;> simp [AV.beq] at h
    rw [AV.beqL_eq h]
theorem AV.beqL_eq : ∀ {a b : List AV}, AV.beqL a b = true → a = b
  | [], [], _ => rfl
  | a :: as, b :: bs, h => by
    simp only [AV.beqL, Bool.and_eq_true] at h
    rw [AV.beq_eq h.1, AV.beqL_eq h.2]
  | [], _ :: _, h => by simp [AV.beqL] at h
  | _ :: _, [], h => by simp [AV.beqL] at h
end

section
variable {X : Type} {A : AbsSem X} {num : Nat → Nat} {P : Program}
def StepOk (G : List (Nat × AFun X)) (o : AOper) (env rt : List AV) (m : Mem X) (wd : Bool) (v : AV) (m' : Mem X) : Prop :=
  wantedA rt o.guard = some wd ∧ (wd = true → amOp G o.op (o.args.map (getS env rt)) m = some (v, m')) ∧ (wd = false → v = .skip ∧ m' = m)
structure Run (G : List (Nat × AFun X)) (ops : List AOper) (rt0 : List AV) (Es : List (List AV)) (Ms : List (Mem X)) (Ws : List Bool) (Vs : List AV) : Prop where
  le : Es.length = ops.length + 1
  lm : Ms.length = ops.length + 1
  lw : Ws.length = ops.length
  lv : Vs.length = ops.length
  step : ∀ (k : Nat) (o : AOper) (e : List AV) (m m' : Mem X) (wd : Bool) (v : AV), ops[k]? = some o → Es[k]? = some e → Ms[k]? = some m → Ms[k + 1]? = some m' → Ws[k]? = some wd → Vs[k]? = some v →
    StepOk G o e (rt0 ++ Vs.take k) m wd v m' ∧ Es[k + 1]? = some (putL e o.dst v)
theorem run_of_amOpsT {G : List (Nat × AFun X)} : ∀ {ops : List AOper} {env rt : List AV} {m : Mem X} {env' : List AV} {m' : Mem X} {tr : List (Bool × List AV × AV × Mem X)}, amOpsT G ops env rt m = some (env', m', tr) →
    ∃ Es Ws, Run G ops rt Es (tr.map (fun e => e.2.2.2) ++ [m']) Ws (tr.map fun e => e.2.2.1) ∧ Es[0]? = some env ∧ Es[ops.length]? = some env' ∧ (tr.map (fun e => e.2.2.2) ++ [m'])[0]? = some m ∧
      ∀ (k : Nat) (o : AOper) (e : List AV) (x : Bool × List AV × AV × Mem X), ops[k]? = some o → Es[k]? = some e → tr[k]? = some x → Ws[k]? = some x.1 ∧ x.2.1 = o.args.map (getS e (rt ++ (tr.map fun e => e.2.2.1).take k))
  | [], env, rt, m, env', m', tr, h => by
    simp only [amOpsT, Option.some.injEq, Prod.mk.injEq] at h
    obtain ⟨rfl, rfl, rfl⟩ := h
    exact ⟨[env], [], ⟨rfl, rfl, rfl, rfl, by simp⟩, rfl, rfl, rfl, by simp⟩
  | o :: os, env, rt, m, env', m', tr, h => by
    have fin : ∀ (wd : Bool) (v : AV) (m1 : Mem X) (tr1 : List (Bool × List AV × AV × Mem X)), StepOk G o env rt m wd v m1 → amOpsT G os (putL env o.dst v) (rt ++ [v]) m1 = some (env', m', tr1) → tr = (wd, o.args.map (getS env rt), v, m) :: tr1 →
        ∃ Es Ws, Run G (o :: os) rt Es (tr.map (fun e => e.2.2.2) ++ [m']) Ws (tr.map fun e => e.2.2.1) ∧ Es[0]? = some env ∧ Es[(o :: os).length]? = some env' ∧ (tr.map (fun e => e.2.2.2) ++ [m'])[0]? = some m ∧
        ∀ (k : Nat) (o' : AOper) (e : List AV) (x : Bool × List AV × AV × Mem X), (o :: os)[k]? = some o' → Es[k]? = some e → tr[k]? = some x → Ws[k]? = some x.1 ∧ x.2.1 = o'.args.map (getS e (rt ++ (tr.map fun e => e.2.2.1).take k)) := by
      intro wd v m1 tr1 hst hrec htr
      subst htr
      obtain ⟨Es, Ws, hr, h0, hn, hm0, hx⟩ := run_of_amOpsT hrec
      refine ⟨env :: Es, wd :: Ws, ⟨by simp [hr.le], by simp [hr.lm], by simp [hr.lw], by simp [hr.lv], ?_⟩, rfl, by simpa using hn, rfl, ?_⟩
      · intro k o' e m2 m3 wd' v' ho he hm hm' hw hv
        cases k with
        | zero =>
          simp at ho he hm hw hv
          subst ho; subst he; subst hm; subst hw; subst hv
          have e3 : m3 = m1 := by
            simp only [List.map_cons, List.cons_append, Nat.zero_add, List.getElem?_cons_succ] at hm'
            rw [hm0] at hm'; injection hm' with hm'; exact hm'.symm
          subst e3
          exact ⟨by simpa using hst, by simpa using h0⟩
        | succ k =>
          have := hr.step k o' e m2 m3 wd' v' (by simpa using ho) (by simpa using he) (by simpa using hm) (by simpa using hm') (by simpa using hw) (by simpa using hv)
          simpa [List.append_assoc] using this
      · intro k o' e x ho he hx'
        cases k with
        | zero =>
          simp at ho he hx'
          subst ho; subst he; subst hx'
          exact ⟨rfl, by simp⟩
        | succ k =>
          have := hx k o' e x (by simpa using ho) (by simpa using he) (by simpa using hx')
          simpa [List.append_assoc] using this
    simp only [amOpsT] at h
    split at h
    · rename_i hw
      split at h
      · rename_i v m1 hop
        split at h
        · rename_i e1 m2 tr1 hrec
          simp only [Option.some.injEq, Prod.mk.injEq] at h
          obtain ⟨rfl, rfl, rfl⟩ := h
          exact fin true v m1 tr1 ⟨hw, fun _ => hop, by simp⟩ hrec rfl
        · cases h
      · cases h
    · rename_i hw
      split at h
      · rename_i e1 m2 tr1 hrec
        simp only [Option.some.injEq, Prod.mk.injEq] at h
        obtain ⟨rfl, rfl, rfl⟩ := h
        exact fin false .skip m tr1 ⟨hw, by simp, fun _ => ⟨rfl, rfl⟩⟩ hrec rfl
      · cases h
    · cases h
theorem amOps_iff_T {G : List (Nat × AFun X)} : ∀ {ops : List AOper} {env rt : List AV} {m : Mem X} {env' : List AV} {m' : Mem X}, amOps G ops env rt m = some (env', m') → ∃ tr, amOpsT G ops env rt m = some (env', m', tr)
  | [], env, rt, m, env', m', h => by
    simp only [amOps, Option.some.injEq, Prod.mk.injEq] at h
    obtain ⟨rfl, rfl⟩ := h
    exact ⟨[], rfl⟩
  | o :: os, env, rt, m, env', m', h => by
    simp only [amOps] at h
    simp only [amOpsT]
    split at h
    · rename_i hw
      split at h
      · rename_i v m1 hop
        obtain ⟨tr, htr⟩ := amOps_iff_T h
        exact ⟨(true, o.args.map (getS env rt), v, m) :: tr, by simp only [htr]⟩
      · cases h
    · rename_i hw
      obtain ⟨tr, htr⟩ := amOps_iff_T h
      exact ⟨(false, o.args.map (getS env rt), .skip, m) :: tr, by simp only [htr]⟩
    · cases h

def constV : AV → Value → Bool
  | .agg as, .agg vs => constL as vs.toList
  | a, v => constA a v
theorem constV_ok {x : AV} {v : Value} {μ : Mu} (h : constV x v = true) : VR num μ x v := by
  unfold constV at h
  split at h
  · have := VR.agg_of (constL_ok (num := num) (μ := μ) h); simpa using this
  · exact constA_ok h
def srcOk (num : Nat → Nat) (L : List Nat) (ops : Array Oper) (σ : List Nat) (k : Nat) (x : Operand) (s : Src) : Bool :=
  match x, s with
  | .tmp t, .tmp k' => decide (k' < k) && decide (((σ[k']?).bind fun i => (ops[i]?).bind (·.dst)) = some t)
  | .tmp t, .loc j => decide (L[j]? = some t)
  | .const v, .c av => constV av v
  | .func g, .c (.fn f [] []) => decide (num f = g)
  | _, _ => false
def srcsOk (num : Nat → Nat) (L : List Nat) (ops : Array Oper) (σ : List Nat) (k : Nat) : List Operand → List Src → Bool
  | [], [] => true
  | x :: xs, s :: ss => srcOk num L ops σ k x s && srcsOk num L ops σ k xs ss
  | _, _ => false
def dstOk (L : List Nat) (nt : Nat) (d : Option Nat) (j : Option Nat) : Bool :=
  match d, j with
  | none, none => true
  | some d, none => decide (d < nt) && !L.contains d
  | some d, some j => decide (d < nt) && decide (L[j]? = some d)
  | none, some _ => false
def guardOk (ops : Array Oper) (σ : List Nat) (k : Nat) (g : Option (Nat × Bool)) (ag : Option (Nat × Bool)) : Bool :=
  match g, ag with
  | none, none => true
  | some (i, b), some (k', b') => decide (b = b') && decide (k' < k) && decide (σ[k']? = some i) && ((ops[i]?).bind (·.dst)).isSome
  | _, _ => false
def operOk (P : Program) (num : Nat → Nat) (L : List Nat) (nt : Nat) (ops : Array Oper) (σ : List Nat) (k : Nat) (o : Oper) (ao : AOper) : Bool :=
  (match chkOp P num o.op ao.op with
   | some xs => srcsOk num L ops σ k xs ao.args
   | none => false) && dstOk L nt o.dst ao.dst && guardOk ops σ k o.guard ao.guard
def distinct : List Nat → Bool
  | [] => true
  | x :: xs => !xs.contains x && distinct xs
theorem distinct_ok : ∀ {l : List Nat}, distinct l = true → ∀ {i j : Nat} {x : Nat}, l[i]? = some x → l[j]? = some x → i = j
  | [], _, i, j, x, h, _ => by simp at h
  | y :: l, h, i, j, x, hi, hj => by
    simp only [distinct, Bool.and_eq_true, Bool.not_eq_true', List.contains_eq_mem, decide_eq_false_iff_not] at h
    cases i with
    | zero =>
      cases j with
      | zero => rfl
      | succ j =>
        simp at hi hj; subst hi
        exact absurd (List.mem_of_getElem? hj) h.1
    | succ i =>
      cases j with
      | zero =>
        simp at hi hj; subst hj
        exact absurd (List.mem_of_getElem? hi) h.1
      | succ j => have := distinct_ok h.2 (i := i) (j := j) (x := x) (by simpa using hi) (by simpa using hj); omega
def chkAll (P : Program) (num : Nat → Nat) (L : List Nat) (nt : Nat) (ops : Array Oper) (σ : List Nat) (aops : List AOper) : Bool :=
  decide (aops.length = ops.size) && decide (σ.length = ops.size) && distinct σ && σ.all (· < ops.size) && distinct L && distinct (ops.toList.filterMap (·.dst)) &&
    (List.range ops.size).all fun k => match σ[k]?, aops[k]? with
      | some i, some ao => match ops[i]? with
        | some o => operOk P num L nt ops σ k o ao
        | none => false
      | _, _ => false
theorem filterMap_distinct : ∀ {l : List Oper}, distinct (l.filterMap (·.dst)) = true → ∀ {i j : Nat} {x y : Oper} {d : Nat}, l[i]? = some x → l[j]? = some y → x.dst = some d → y.dst = some d → i = j
  | [], _, i, j, x, y, d, h, _, _, _ => by simp at h
  | z :: l, h, i, j, x, y, d, hi, hj, hx, hy => by
    cases hz : z.dst with
    | none =>
      rw [List.filterMap_cons_none hz] at h
      cases i with
      | zero => simp at hi; subst hi; rw [hz] at hx; cases hx
      | succ i =>
        cases j with
        | zero => simp at hj; subst hj; rw [hz] at hy; cases hy
        | succ j => have := filterMap_distinct h (i := i) (j := j) (by simpa using hi) (by simpa using hj) hx hy; omega
    | some d0 =>
      rw [List.filterMap_cons_some hz] at h
      simp only [distinct, Bool.and_eq_true, Bool.not_eq_true', List.contains_eq_mem, decide_eq_false_iff_not] at h
      have hno : ∀ (j : Nat) (y : Oper), l[j]? = some y → y.dst ≠ some d0 := fun j y hj hy => h.1 (List.mem_filterMap.2 ⟨y, List.mem_of_getElem? hj, hy⟩)
      cases i with
      | zero =>
        simp at hi; subst hi
        rw [hz] at hx; injection hx with hx; subst hx
        cases j with
        | zero => rfl
        | succ j => exact absurd hy (hno j y (by simpa using hj))
      | succ i =>
        cases j with
        | zero =>
          simp at hj; subst hj
          rw [hz] at hy; injection hy with hy; subst hy
          exact absurd hx (hno i x (by simpa using hi))
        | succ j => have := filterMap_distinct h.2 (i := i) (j := j) (by simpa using hi) (by simpa using hj) hx hy; omega
structure RegOk (P : Program) (num : Nat → Nat) (L : List Nat) (nt : Nat) (ops : Array Oper) (σ : List Nat) (aops : List AOper) : Prop where
  len : aops.length = ops.size
  sl : σ.length = ops.size
  inj : ∀ {k k' i : Nat}, σ[k]? = some i → σ[k']? = some i → k = k'
  lt : ∀ {k i : Nat}, σ[k]? = some i → i < ops.size
  Ln : ∀ {j j' t : Nat}, L[j]? = some t → L[j']? = some t → j = j'
  dst : ∀ {i j : Nat} {x y : Oper} {d : Nat}, ops[i]? = some x → ops[j]? = some y → x.dst = some d → y.dst = some d → i = j
  op : ∀ {k i : Nat} {o : Oper} {ao : AOper}, σ[k]? = some i → ops[i]? = some o → aops[k]? = some ao → operOk P num L nt ops σ k o ao = true
theorem regOk_of {L : List Nat} {nt : Nat} {ops : Array Oper} {σ : List Nat} {aops : List AOper} (h : chkAll P num L nt ops σ aops = true) : RegOk P num L nt ops σ aops := by
  unfold chkAll at h
  simp only [Bool.and_eq_true, decide_eq_true_eq] at h
  obtain ⟨⟨⟨⟨⟨⟨h1, h2⟩, h3⟩, h4⟩, h5⟩, h6⟩, h7⟩ := h
  refine ⟨h1, h2, fun a b => distinct_ok h3 a b, fun {k i} hk => ?_, fun a b => distinct_ok h5 a b, fun {i j x y d} a b c e => filterMap_distinct h6 (i := i) (j := j) (by simpa using a) (by simpa using b) c e, fun {k i o ao} hk hi ha => ?_⟩
  · have := List.all_eq_true.1 h4 i (List.mem_of_getElem? hk)
    simpa using this
  · have hk' : k < ops.size := by rw [← h2]; exact (List.getElem?_eq_some_iff.1 hk).1
    have := List.all_eq_true.1 h7 k (List.mem_range.2 hk')
    rw [hk, ha] at this
    simp only [hi] at this
    exact this
theorem operOk_ok {L : List Nat} {nt : Nat} {ops : Array Oper} {σ : List Nat} {k : Nat} {o : Oper} {ao : AOper} (h : operOk P num L nt ops σ k o ao = true) :
    (∃ xs, chkOp P num o.op ao.op = some xs ∧ srcsOk num L ops σ k xs ao.args = true) ∧ dstOk L nt o.dst ao.dst = true ∧ guardOk ops σ k o.guard ao.guard = true := by
  unfold operOk at h
  simp only [Bool.and_eq_true] at h
  obtain ⟨⟨h1, h2⟩, h3⟩ := h
  refine ⟨?_, h2, h3⟩
  split at h1
  · rename_i xs hxs; exact ⟨xs, hxs, h1⟩
  · cases h1
theorem srcs_VRL {L : List Nat} {ops : Array Oper} {σ : List Nat} {k : Nat} {μ : Mu} {a : Act} {env rt : List AV} :
    ∀ {xs : List Operand} {ss : List Src}, srcsOk num L ops σ k xs ss = true → (∀ (x : Operand) (s : Src), s ∈ ss → srcOk num L ops σ k x s = true → VR num μ (getS env rt s) (a.eval x)) → VRL num μ (ss.map (getS env rt)) (xs.map a.eval)
  | [], [], _, _ => VRL.nil
  | x :: xs, s :: ss, h, hall => by
    simp only [srcsOk, Bool.and_eq_true] at h
    exact VRL.cons (hall x s (by simp) h.1) (srcs_VRL h.2 (fun x s hs => hall x s (by simp [hs])))
  | [], _ :: _, h, _ => by simp [srcsOk] at h
  | _ :: _, [], h, _ => by simp [srcsOk] at h
def EnvOk (num : Nat → Nat) (L : List Nat) (nt : Nat) (μ : Mu) (env : List AV) (a : Act) : Prop :=
  env.length = L.length ∧ a.tmps.size = nt ∧ ∀ (j t : Nat), L[j]? = some t → VR num μ (env.getD j .skip) (a.tmps.getD t Go.undef)
theorem getD_put {a : Act} {d t : Nat} {v : Value} (hd : d < a.tmps.size) : (a.put (some d) v).tmps.getD t Go.undef = if t = d then v else a.tmps.getD t Go.undef := by
  simp only [Act.put, Array.getD_eq_getD_getElem?, Array.getElem?_setIfInBounds]
  by_cases h : d = t
  · subst h; simp [hd]
  · rw [if_neg h, if_neg (Ne.symm h)]
theorem size_put {a : Act} {d : Option Nat} {v : Value} : (a.put d v).tmps.size = a.tmps.size := by
  cases d <;> simp [Act.put]
theorem defers_put {a : Act} {d : Option Nat} {v : Value} : (a.put d v).defers = a.defers := by
  cases d <;> rfl
theorem EnvOk.mono {L : List Nat} {nt : Nat} {μ μ' : Mu} {env : List AV} {a : Act} (h : EnvOk num L nt μ env a) (hm : ∀ i p, μ i = some p → μ' i = some p) : EnvOk num L nt μ' env a :=
  ⟨h.1, h.2.1, fun j t ht => (h.2.2 j t ht).mono hm⟩
theorem EnvOk.put {L : List Nat} {nt : Nat} {μ : Mu} {env : List AV} {a : Act} (h : EnvOk num L nt μ env a) (hL : ∀ {j j' t : Nat}, L[j]? = some t → L[j']? = some t → j = j') {d j : Option Nat} (hd : dstOk L nt d j = true) {v : AV} {cv : Value} (hv : VR num μ v cv) :
    EnvOk num L nt μ (putL env j v) (a.put d cv) := by
  refine ⟨by cases j <;> simp [putL, h.1], by rw [size_put]; exact h.2.1, fun i t ht => ?_⟩
  unfold dstOk at hd
  cases d with
  | none =>
    cases j with
    | none => exact h.2.2 i t ht
    | some j => cases hd
  | some d =>
    cases j with
    | none =>
      simp only [Bool.and_eq_true, decide_eq_true_eq, Bool.not_eq_true', List.contains_eq_mem, decide_eq_false_iff_not] at hd
      rw [getD_put (by rw [h.2.1]; exact hd.1)]
      rw [if_neg (fun e => hd.2 (by subst e; exact List.mem_of_getElem? ht))]
      exact h.2.2 i t ht
    | some j =>
      simp only [Bool.and_eq_true, decide_eq_true_eq] at hd
      rw [getD_put (by rw [h.2.1]; exact hd.1)]
      have hjl : j < env.length := by rw [h.1]; exact (List.getElem?_eq_some_iff.1 hd.2).1
      by_cases hij : i = j
      · subst hij
        rw [hd.2] at ht; injection ht with ht; subst ht
        simp [putL, hjl, hv]
      · rw [if_neg (fun e => hij (hL ht (by rw [e]; exact hd.2)))]
        have := h.2.2 i t ht
        simpa [putL, List.getElem?_set, Ne.symm hij] using this
theorem wanted_of {ops : Array Oper} {σ : List Nat} {k : Nat} {o : Oper} {ao : AOper} {μ : Mu} {a : Act} {rt : List AV} {wd : Bool} (hg : guardOk ops σ k o.guard ao.guard = true) (hw : wantedA rt ao.guard = some wd)
    (hall : ∀ (k' : Nat) (b : Bool) (i d : Nat) (oi : Oper), ao.guard = some (k', b) → k' < k → σ[k']? = some i → ops[i]? = some oi → oi.dst = some d → d < a.tmps.size ∧ VR num μ (rt.getD k' .skip) (a.tmps.getD d Go.undef)) : Region.wanted o (yielded ops a.tmps) = wd := by
  unfold guardOk at hg
  unfold wantedA at hw
  unfold Region.wanted
  cases h1 : o.guard with
  | none =>
    cases h2 : ao.guard with
    | none => rw [h2] at hw; simp at hw; simp [hw]
    | some _ => rw [h1, h2] at hg; cases hg
  | some ib =>
    obtain ⟨i, b⟩ := ib
    cases h2 : ao.guard with
    | none => rw [h1, h2] at hg; cases hg
    | some kb =>
      obtain ⟨k', b'⟩ := kb
      rw [h1, h2] at hg
      rw [h2] at hw
      simp only [Bool.and_eq_true, decide_eq_true_eq] at hg
      obtain ⟨⟨⟨rfl, g2⟩, g3⟩, g4⟩ := hg
      obtain ⟨d, hd⟩ := Option.isSome_iff_exists.1 g4
      cases ho : ops[i]? with
      | none => rw [ho] at hd; cases hd
      | some oi =>
        rw [ho] at hd
        simp only [Option.bind_some] at hd
        obtain ⟨hlt, hvr⟩ := hall k' b i d oi h2 g2 g3 ho hd
        simp only
        have hyd : yielded ops a.tmps i = match a.tmps[d]? with | some (.bool b) => some b | _ => none := by
          unfold yielded; rw [ho]; simp only [Option.bind_some, hd]
          cases a.tmps[d]? with
          | none => rfl
          | some u => cases u <;> rfl
        have hdd : a.tmps[d]? = some (a.tmps.getD d Go.undef) := by simp [hlt]
        rw [hyd, hdd]
        have hrt : rt.getD k' .skip = match rt[k']? with | some v => v | none => .skip := by rw [List.getD_eq_getElem?_getD]; cases rt[k']? <;> rfl
        simp only at hw
        split at hw
        · rename_i c hc
          injection hw with hw; subst hw
          rw [hrt, hc] at hvr
          simp only at hvr
          rw [hvr.bool_inv]
          simp
        · rename_i hc
          injection hw with hw; subst hw
          rw [hrt, hc] at hvr
          simp only at hvr
          rw [hvr.skip_inv]
          simp [Go.undef]
        · cases hw

theorem text_run {G : List (Nat × AFun X)} (hG : Known A num P G) {L : List Nat} {nt : Nat} {ops : Array Oper} {aops : List AOper} (R : RegOk P num L nt ops (List.range ops.size) aops) {Es : List (List AV)} {Ms : List (Mem X)} {Ws : List Bool} {Vs : List AV}
    (T : Run G aops [] Es Ms Ws Vs) {Q : Exit → Act → World → Prop} {n0 : Nat} {F0 : Nat → Prop} {μ0 : Mu} {w0 : World} {D : List Deferred}
    (hn : ∀ (k : Nat) (m : Mem X), Ms[k]? = some m → n0 ≤ m.length)
    (hQ : ∀ F μ a w e m, Es[ops.size]? = some e → Ms[ops.size]? = some m → EnvOk num L nt μ e a → Sim A num F μ m w.heap → Ext n0 F0 μ0 w0 F μ w → a.defers = D → Q .normal a w) :
    ∀ (d k : Nat), k + d = ops.size → ∀ (F : Nat → Prop) (μ : Mu) (a : Act) (w : World) (e : List AV) (m : Mem X), Es[k]? = some e → Ms[k]? = some m → EnvOk num L nt μ e a → Sim A num F μ m w.heap → Ext n0 F0 μ0 w0 F μ w → a.defers = D →
      (∀ (k' dd : Nat) (oi : Oper), k' < k → ops[k']? = some oi → oi.dst = some dd → dd < a.tmps.size ∧ VR num μ (Vs.getD k' .skip) (a.tmps.getD dd Go.undef)) → wpOps P ops Q (List.range' k d) a w
  | 0, k, hk, F, μ, a, w, e, m, he, hm, hE, hS, hX, hD, _ => by
    have : k = ops.size := by omega
    subst this
    simp only [List.range'_zero, wpOps]
    exact hQ F μ a w e m he hm hE hS hX hD
  | d + 1, k, hk, F, μ, a, w, e, m, he, hm, hE, hS, hX, hD, hR => by
    rw [List.range'_succ, wpOps_cons]
    have hkl : k < ops.size := by omega
    have ho : ops[k]? = some ops[k] := Array.getElem?_eq_getElem hkl
    have hao : aops[k]? = some (aops[k]'(by rw [R.len]; exact hkl)) := List.getElem?_eq_getElem (by rw [R.len]; exact hkl)
    have hσ : (List.range ops.size)[k]? = some k := List.getElem?_range hkl
    obtain ⟨⟨xs, hc, hsrc⟩, hdst, hgd⟩ := operOk_ok (R.op hσ ho hao)
    have hw : Ws[k]? = some (Ws[k]'(by rw [T.lw, R.len]; exact hkl)) := List.getElem?_eq_getElem _
    have hv : Vs[k]? = some (Vs[k]'(by rw [T.lv, R.len]; exact hkl)) := List.getElem?_eq_getElem _
    have hm' : Ms[k + 1]? = some (Ms[k + 1]'(by rw [T.lm, R.len]; omega)) := List.getElem?_eq_getElem _
    obtain ⟨⟨s1, s2, s3⟩, he'⟩ := T.step k _ e m _ _ _ hao he hm hm' hw hv
    generalize ops[k] = o at *
    generalize aops[k]'(by rw [R.len]; exact hkl) = ao at *
    generalize Ws[k]'(by rw [T.lw, R.len]; exact hkl) = wd at *
    generalize hvg : Vs[k]'(by rw [T.lv, R.len]; exact hkl) = v at *
    generalize Ms[k + 1]'(by rw [T.lm, R.len]; omega) = m1 at *
    simp only [List.nil_append] at s1 s2
    have hget : ∀ k', k' < k → (Vs.take k).getD k' .skip = Vs.getD k' .skip := fun k' hk' => by
      simp [List.getD_eq_getElem?_getD, List.getElem?_take, hk']
    have hall : ∀ (k' i dd : Nat) (oi : Oper), k' < k → (List.range ops.size)[k']? = some i → ops[i]? = some oi → oi.dst = some dd → dd < a.tmps.size ∧ VR num μ ((Vs.take k).getD k' .skip) (a.tmps.getD dd Go.undef) := by
      intro k' i dd oi hk' hi hoi hdd
      rw [List.getElem?_range (by omega)] at hi
      injection hi with hi; subst hi
      rw [hget k' hk']
      exact hR k' dd oi hk' hoi hdd
    have hwant := wanted_of (num := num) (μ := μ) hgd s1 (fun k' _ i dd oi _ => hall k' i dd oi)
    have hargs : VRL num μ (ao.args.map (getS e (Vs.take k))) (xs.map a.eval) := by
      refine srcs_VRL hsrc (fun x s hmem hs => ?_)
      clear hmem
      unfold srcOk at hs
      split at hs
      · rename_i t k'
        simp only [Bool.and_eq_true, decide_eq_true_eq] at hs
        obtain ⟨h1, h2⟩ := hs
        rw [List.getElem?_range (by omega)] at h2
        simp only [Option.bind_some] at h2
        cases hoi : ops[k']? with
        | none => rw [hoi] at h2; cases h2
        | some oi =>
          rw [hoi] at h2
          simp only [Option.bind_some] at h2
          have := (hall k' k' t oi h1 (List.getElem?_range (by omega)) hoi h2).2
          simpa [getS, Act.eval] using this
      · rename_i t j
        have := hE.2.2 j t (by simpa using hs)
        simpa [getS, Act.eval] using this
      · exact constV_ok hs
      · rename_i g f
        simp only [decide_eq_true_eq] at hs
        subst hs
        exact .fn (cs := #[]) (ds := #[]) rfl (by simp) rfl (by simp)
      · cases hs
    have next : ∀ (F' : Nat → Prop) (μ' : Mu) (cv : Value) (w' : World), VR num μ' v cv → Sim A num F' μ' m1 w'.heap → Ext m.length F μ w F' μ' w' → wpOps P ops Q (List.range' (k + 1) d) (a.put o.dst cv) w' := by
      intro F' μ' cv w' h1 h2 h3
      have hle := hS.mu_le h3
      refine text_run hG R T hn hQ d (k + 1) (by omega) F' μ' _ w' _ m1 he' hm' ((hE.mono hle).put (fun a b => R.Ln a b) hdst h1) h2 (hX.trans h3 (hn k m hm)) (by rw [defers_put]; exact hD) (fun k' dd oi hk' hoi hdd => ?_)
      rw [size_put]
      rcases Nat.lt_succ_iff_lt_or_eq.1 hk' with hlt | heq
      · obtain ⟨h4, h5⟩ := hR k' dd oi hlt hoi hdd
        refine ⟨h4, ?_⟩
        cases hod : o.dst with
        | none => simpa [Act.put] using h5.mono hle
        | some d0 =>
          have hne : dd ≠ d0 := fun e => by
            have := R.dst hoi ho hdd (by rw [hod, e])
            omega
          have hd0 : d0 < a.tmps.size := by
            rw [hod] at hdst
            rw [hE.2.1]
            unfold dstOk at hdst
            split at hdst <;> simp_all
          rw [getD_put hd0, if_neg hne]
          exact h5.mono hle
      · subst heq
        rw [ho] at hoi; injection hoi with hoi; subst hoi
        have hd0 : dd < a.tmps.size := by
          rw [hdd] at hdst
          rw [hE.2.1]
          unfold dstOk at hdst
          split at hdst <;> simp_all
        refine ⟨hd0, ?_⟩
        rw [hdd, getD_put hd0, if_pos rfl]
        have : Vs.getD k' .skip = v := by rw [List.getD_eq_getElem?_getD, hv]; rfl
        rw [this]
        exact h1
    unfold wpOp
    rw [ho]
    simp only [hwant]
    cases wd with
    | true =>
      simp only [if_true]
      exact .inl (op_sound hG hc hargs hS (s2 rfl) _ Q next)
    | false =>
      simp only [Bool.false_eq_true, if_false]
      obtain ⟨rfl, rfl⟩ := s3 rfl
      exact next F μ Go.undef w VR.skip hS (Ext.refl _ _ _ _)
end
end Go.Am
