import Derived.Test.YtimgbjimonmkdaaXAmOp5
set_option linter.unusedSimpArgs false
set_option linter.unusedVariables false
namespace Go.Am
def elemChk (P : Program) (t : TypeId) (sz : Nat) (bytes : Option Nat) : Bool :=
  match P.underlying t with
  | some (.slice e) => match P.info? e with
    | some i => match i.zero with
      | some z => decide (i.size = sz) && (match bytes with | none => true | some b => decide (i.bytes = b)) && decide (z.cells.size = sz)
      | none => false
    | none => false
  | _ => false
def elemZero (P : Program) (t : TypeId) (z : List AV) : Bool :=
  match P.underlying t with
  | some (.slice e) => zeroIs P e z
  | _ => false
def elemSize (P : Program) (t : TypeId) (sz : Nat) : Bool :=
  match P.underlying t with
  | some (.slice e) => match P.info? e with
    | some i => decide (i.size = sz)
    | none => false
  | _ => false
def arrChk (P : Program) (t : TypeId) (len sz : Nat) (n : Option (Option Nat)) : Bool :=
  match P.underlying t with
  | some (.array l e) => match P.info? e with
    | some i => decide (l = len) && decide (i.size = sz) && (match n with | none => true | some n => decide (sizeN P e = some n))
    | none => false
  | _ => false
def fieldChk (P : Program) (s : TypeId) (f off : Nat) (n : Option (Option Nat)) : Bool :=
  match P.underlying s with
  | some (.struct fs) => match fs[f]? with
    | some fd => match P.info? fd.type with
      | some i => decide (fd.offset = off) && decide (i.size ≠ 0) && (match n with | none => true | some n => decide (sizeN P fd.type = some n))
      | none => false
    | none => false
  | _ => false
def eqChk (P : Program) (t : TypeId) : EK → Bool
  | .bool => match P.underlying t with | some .bool => true | _ => false
  | .ptr => match P.underlying t with
    | some (.pointer e) => match P.info? e with
      | some i => decide (i.size ≠ 0)
      | none => false
    | _ => false
  | .slc => match P.underlying t with | some (.slice _) => true | _ => false
  | .map => match P.underlying t with | some (.map _ _) => true | _ => false
  | .agg sh => decide (flat P 20 t = some sh) && decide (aggOf P t = some true) && !P.eqGuardType P.depth t
def isIntT (P : Program) (t : TypeId) (k : IntKind) : Bool :=
  match P.underlying t with
  | some (.int k') => decide (k' = k)
  | _ => false
theorem isIntT_ok {P : Program} {t : TypeId} {k : IntKind} (h : isIntT P t k = true) : P.underlying t = some (.int k) := by
  unfold isIntT at h
  split at h
  · rename_i k' hu; simp at h; subst h; exact hu
  · cases h
def optArgs (l h k : Option Operand) : List Operand := l.toList ++ (h.toList ++ k.toList)
def chkOp (P : Program) (num : Nat → Nat) (op : Op) (aop : AOp) : Option (List Operand) :=
  match aop with
  | .mov => match op with
    | .move x => some [x]
    | .assign x => some [x]
    | _ => none
  | .pick => match op with
    | .pick c x y => some [c, x, y]
    | _ => none
  | .box => match op with
    | .box _ x => some [x]
    | _ => none
  | .alloc z => match op with
    | .alloc t => if zeroIs P t z = true then some [] else none
    | _ => none
  | .build z ps => match op with
    | .build t parts => match placesOf P t with
      | some pl => if zeroIs P t z = true ∧ parts.toList.map (fun p => pl p.1) = ps.map some then some (parts.toList.map (·.2)) else none
      | none => none
    | _ => none
  | .lit n sz z ps => match op with
    | .buildSlice t len parts => if len = n ∧ elemChk P t sz none = true ∧ elemZero P t z = true ∧ len * sz ≤ 16777216 ∧ parts.toList.map (fun p => (p.1 * sz, sz)) = ps then some (parts.toList.map (·.2)) else none
    | _ => none
  | .load n => match op with
    | .load t x => if sizeN P t = some n then some [x] else none
    | _ => none
  | .store n => match op with
    | .store t x y => if (P.info? t).map (·.size) = some n then some [x, y] else none
    | _ => none
  | .nilc => match op with
    | .nilCheck x => some [x]
    | _ => none
  | .bin b => match op with
    | .binOp b' _ x y _ => if b = b' then some [x, y] else none
    | _ => none
  | .shf b => match op with
    | .binOp b' _ x y _ => if b = b' then some [x, y] else none
    | _ => none
  | .eqv k neg => match op with
    | .binOp b t x y _ => if b = eqlOp neg ∧ eqChk P t k = true then some [x, y] else none
    | _ => none
  | .not => match op with
    | .unOp .not _ x => some [x]
    | _ => none
  | .neg => match op with
    | .unOp .neg _ x => some [x]
    | _ => none
  | .conv k => match op with
    | .convert s t x => if (P.underlying s).isSome = true ∧ isIntT P t k = true then some [x] else none
    | _ => none
  | .mkfn f n => match op with
    | .makeFunc (.func g) first cap => if num f = g ∧ first.size = n then some (first.toList ++ cap.toList) else none
    | _ => none
  | .make sz bytes z => match op with
    | .makeSlice t x y => if elemChk P t sz (some bytes) = true ∧ elemZero P t z = true then some [x, y] else none
    | _ => none
  | .slice sz lo hi mx => match op with
    | .slice t x l h k => if elemSize P t sz = true ∧ lo = l.isSome ∧ hi = h.isSome ∧ mx = k.isSome then some (x :: optArgs l h k) else none
    | _ => none
  | .faddr off => match op with
    | .fieldAddr s x f => if fieldChk P s f off none = true then some [x] else none
    | _ => none
  | .iaddr sz none => match op with
    | .indexAddr t x y => if elemSize P t sz = true then some [x, y] else none
    | _ => none
  | .iaddr sz (some len) => match op with
    | .indexAddr t x y => if arrChk P t len sz none = true then some [x, y] else none
    | _ => none
  | .field off n => match op with
    | .field s x f => if fieldChk P s f off (some n) = true then some [x] else none
    | _ => none
  | .index len sz n => match op with
    | .index t x y => if arrChk P t len sz (some n) = true then some [x, y] else none
    | _ => none
  | .extract i => match op with
    | .extract x j => if i = j then some [x] else none
    | _ => none
  | .call f => match op with
    | .call { callee := .value (.func g), args, .. } => if num f = g then some args.toList else none
    | _ => none
  | .callv => match op with
    | .call { callee := .value x, args, .. } => some (x :: args.toList)
    | _ => none
  | .len => match op with
    | .call { callee := .builtin .len, args, argTypes } => match args.toList, argTypes.toList with
      | [x], [t] => match P.underlying t with
        | some (.slice _) => some [x]
        | _ => none
      | _, _ => none
    | _ => none
  | .append sz bytes => match op with
    | .call { callee := .builtin .append, args, argTypes } => match args.toList, argTypes.toList with
      | [s, x], [t, u] => if t = u ∧ elemChk P t sz (some bytes) = true then some [s, x] else none
      | _, _ => none
    | _ => none
  | .min => match op with
    | .call { callee := .builtin .min, args, .. } => some args.toList
    | _ => none
  | .max => match op with
    | .call { callee := .builtin .max, args, .. } => some args.toList
    | _ => none
  | .clear sz z => match op with
    | .call { callee := .builtin .clear, args, argTypes } => match args.toList, argTypes.toList with
      | [x], [t] => if elemChk P t sz none = true ∧ elemZero P t z = true then some [x] else none
      | _, _ => none
    | _ => none
section
variable {X : Type} {A : AbsSem X} {num : Nat → Nat} {P : Program} {o : Oper} {a : Act} {F : Nat → Prop} {μ : Mu} {m : Mem X} {w : World}
theorem elemChk_ok {t : TypeId} {sz : Nat} {b : Option Nat} (h : elemChk P t sz b = true) : ∃ e i z bytes, ElemIs P t e i z sz bytes ∧ (∀ n, b = some n → bytes = n) := by
  unfold elemChk at h
  split at h
  · rename_i e hu
    split at h
    · rename_i i hi
      split at h
      · rename_i z hz
        simp only [Bool.and_eq_true, decide_eq_true_eq] at h
        obtain ⟨⟨h1, h2⟩, h3⟩ := h
        refine ⟨e, i, z, i.bytes, ⟨hu, hi, hz, h1, rfl, h3⟩, fun n hn => ?_⟩
        subst hn
        simpa using h2
      · cases h
    · cases h
  · cases h
theorem elemZero_ok {t e : TypeId} {z : List AV} (h : elemZero P t z = true) (hu : P.underlying t = some (.slice e)) : zeroIs P e z = true := by
  unfold elemZero at h
  rw [hu] at h
  exact h
theorem elemSize_ok {t : TypeId} {sz : Nat} (h : elemSize P t sz = true) : ∃ e i, P.underlying t = some (.slice e) ∧ P.info? e = some i ∧ i.size = sz := by
  unfold elemSize at h
  split at h
  · rename_i e hu
    split at h
    · rename_i i hi; exact ⟨e, i, hu, hi, by simpa using h⟩
    · cases h
  · cases h
theorem arrChk_ok {t : TypeId} {len sz : Nat} {n : Option (Option Nat)} (h : arrChk P t len sz n = true) : ∃ e i, P.underlying t = some (.array len e) ∧ P.info? e = some i ∧ i.size = sz ∧ ∀ k, n = some k → sizeN P e = some k := by
  unfold arrChk at h
  split at h
  · rename_i l e hu
    split at h
    · rename_i i hi
      simp only [Bool.and_eq_true, decide_eq_true_eq] at h
      obtain ⟨⟨h1, h2⟩, h3⟩ := h
      subst h1
      refine ⟨e, i, hu, hi, h2, fun k hk => ?_⟩
      subst hk
      simpa using h3
    · cases h
  · cases h
theorem fieldChk_ok {s : TypeId} {f off : Nat} {n : Option (Option Nat)} (h : fieldChk P s f off n = true) : ∃ fs fd i, P.underlying s = some (.struct fs) ∧ fs[f]? = some fd ∧ P.info? fd.type = some i ∧ fd.offset = off ∧ i.size ≠ 0 ∧ ∀ k, n = some k → sizeN P fd.type = some k := by
  unfold fieldChk at h
  split at h
  · rename_i fs hu
    split at h
    · rename_i fd hf
      split at h
      · rename_i i hi
        simp only [Bool.and_eq_true, decide_eq_true_eq] at h
        obtain ⟨⟨h1, h2⟩, h3⟩ := h
        refine ⟨fs, fd, i, hu, hf, hi, h1, h2, fun k hk => ?_⟩
        subst hk
        simpa using h3
      · cases h
    · cases h
  · cases h
theorem optN_ok {b : Bool} {vs vs' : List AV} {n : Option Nat} (h : optN b vs = some (n, vs')) {l : Option Operand} (hb : b = l.isSome) {rest : List Operand} (hv : VRL num μ vs ((l.toList ++ rest).map a.eval)) :
    BoundIs n (l.map a.eval) ∧ VRL num μ vs' (rest.map a.eval) := by
  subst hb
  cases l with
  | none =>
    simp only [Option.isSome_none, optN, Option.some.injEq, Prod.mk.injEq] at h
    obtain ⟨rfl, rfl⟩ := h
    exact ⟨trivial, by simpa using hv⟩
  | some x =>
    simp only [Option.toList_some, List.singleton_append, List.map_cons] at hv
    unfold optN at h
    split at h
    · rename_i hbb; simp at hbb
    · rename_i k z vs0 _
      split at h
      · rename_i h0
        simp only [Option.some.injEq, Prod.mk.injEq] at h
        obtain ⟨rfl, rfl⟩ := h
        obtain ⟨d, ds, he, h1, h2⟩ := hv.cons_inv
        injection he with e1 e2
        subst e1; subst e2
        exact ⟨⟨k, z, h1.int_inv, h0, rfl⟩, h2⟩
      · cases h
    · cases h
theorem VRL.one_inv {x : AV} {y : Operand} (h : VRL num μ [x] ([y].map a.eval)) : VR num μ x (a.eval y) := by
  obtain ⟨d, ds, he, h1, _⟩ := h.cons_inv
  simp at he; obtain ⟨rfl, rfl⟩ := he; exact h1
theorem VRL.two_inv {x x' : AV} {y y' : Operand} (h : VRL num μ [x, x'] ([y, y'].map a.eval)) : VR num μ x (a.eval y) ∧ VR num μ x' (a.eval y') := by
  obtain ⟨d, ds, he, h1, h2⟩ := h.cons_inv
  simp at he; obtain ⟨rfl, rfl⟩ := he
  exact ⟨h1, VRL.one_inv (a := a) (y := y') (by simpa using h2)⟩
theorem VRL.three_inv {x x' x'' : AV} {y y' y'' : Operand} (h : VRL num μ [x, x', x''] ([y, y', y''].map a.eval)) : VR num μ x (a.eval y) ∧ VR num μ x' (a.eval y') ∧ VR num μ x'' (a.eval y'') := by
  obtain ⟨d, ds, he, h1, h2⟩ := h.cons_inv
  simp at he; obtain ⟨rfl, rfl⟩ := he
  exact ⟨h1, VRL.two_inv (a := a) (y := y') (y' := y'') (by simpa using h2)⟩
def Known (A : AbsSem X) (num : Nat → Nat) (P : Program) (G : List (Nat × AFun X)) : Prop := ∀ g f, assoc G g = some f → callOk P (num g) = true ∧ Sound A num P (num g) f ∧ Mono f
theorem op_sound {G : List (Nat × AFun X)} (hG : Known A num P G) {aop : AOp} {xs : List Operand} (hc : chkOp P num o.op aop = some xs) {vs : List AV} (hv : VRL num μ vs (xs.map a.eval)) (hs : Sim A num F μ m w.heap)
    {v : AV} {m' : Mem X} (h : amOp G aop vs m = some (v, m')) : Does A num P o a m.length F μ w v m' := by
  cases aop with
  | mov =>
    simp only [chkOp] at hc
    unfold amOp at h
    split at hc <;> first | (cases hc; done) | skip
    all_goals
      rename_i x ho
      injection hc with hc; subst hc
      match vs, h with
      | [u], h =>
        simp only [Option.some.injEq, Prod.mk.injEq] at h; obtain ⟨rfl, rfl⟩ := h
        exact does_mov (by simp [ho]) hv.one_inv hs
  | pick =>
    simp only [chkOp] at hc
    split at hc <;> first | (cases hc; done) | skip
    rename_i c x y ho
    injection hc with hc; subst hc
    match vs, h with
    | [.bool b, p, q], h =>
      simp only [amOp, Option.some.injEq, Prod.mk.injEq] at h; obtain ⟨rfl, rfl⟩ := h
      obtain ⟨h1, h2, h3⟩ := hv.three_inv
      exact does_pick ho h1 h2 h3 hs
  | box =>
    simp only [chkOp] at hc
    split at hc <;> first | (cases hc; done) | skip
    rename_i t x ho
    injection hc with hc; subst hc
    match vs, h with
    | [u], h =>
      simp only [amOp] at h
      split at h
      · rename_i h1
        simp only [Option.some.injEq, Prod.mk.injEq] at h; obtain ⟨rfl, rfl⟩ := h
        exact does_box ho hv.one_inv h1 hs
      · cases h
  | alloc z =>
    simp only [chkOp] at hc
    split at hc <;> first | (cases hc; done) | skip
    rename_i t ho
    split at hc
    · rename_i hz
      injection hc with hc; subst hc
      match vs, h with
      | [], h =>
        simp only [amOp, Option.some.injEq, Prod.mk.injEq] at h; obtain ⟨rfl, rfl⟩ := h
        exact does_alloc ho hz hs
    · cases hc
  | build z ps =>
    simp only [chkOp] at hc
    split at hc <;> first | (cases hc; done) | skip
    rename_i t parts ho
    split at hc
    · rename_i pl hpl
      split at hc
      · rename_i hz
        obtain ⟨hz, hps⟩ := hz
        injection hc with hc; subst hc
        simp only [amOp] at h
        split at h
        · rename_i cs hf
          simp only [Option.some.injEq, Prod.mk.injEq] at h; obtain ⟨rfl, rfl⟩ := h
          refine does_build ho hpl hz (ps := ps) (vs := vs) (fun j p hj => ?_) (by simpa [Function.comp_def] using hv) hf hs
          have := congrArg (·[j]?) hps
          simp only [List.getElem?_map, hj, Option.map_some] at this
          cases hq : ps[j]? with
          | none => rw [hq] at this; cases this
          | some q => rw [hq] at this; simpa using this
        · cases h
      · cases hc
    · cases hc
  | lit n sz z ps =>
    simp only [chkOp] at hc
    split at hc <;> first | (cases hc; done) | skip
    rename_i t len parts ho
    split at hc
    · rename_i hz
      obtain ⟨rfl, h1, h2, h3, h4⟩ := hz
      injection hc with hc; subst hc
      obtain ⟨e, i, zv, bytes, T, _⟩ := elemChk_ok h1
      simp only [amOp] at h
      split at h
      · rename_i cs hf
        split at h
        · simp only [Option.some.injEq, Prod.mk.injEq] at h; obtain ⟨rfl, rfl⟩ := h
          refine does_lit ho T (elemZero_ok h2 T.h1) h3 (ps := ps) (vs := vs) (fun j p hj => ?_) (by simpa [Function.comp_def] using hv) hf hs
          have := congrArg (·[j]?) h4
          simp only [List.getElem?_map, hj, Option.map_some] at this
          exact this
        · cases h
      · cases h
    · cases hc
  | load n =>
    simp only [chkOp] at hc
    split at hc <;> first | (cases hc; done) | skip
    rename_i t x ho
    split at hc
    · rename_i ht
      injection hc with hc; subst hc
      match vs, h with
      | [.ptr i q], h =>
        simp only [amOp] at h
        split at h
        · rename_i u hu
          simp only [Option.some.injEq, Prod.mk.injEq] at h; obtain ⟨rfl, rfl⟩ := h
          exact does_load ho ht hv.one_inv hu hs
        · cases h
    · cases hc
  | store n =>
    simp only [chkOp] at hc
    split at hc <;> first | (cases hc; done) | skip
    rename_i t x y ho
    split at hc
    · rename_i ht
      injection hc with hc; subst hc
      match vs, h with
      | [.ptr i q, u], h =>
        simp only [amOp] at h
        split at h
        · rename_i m1 hm
          simp only [Option.some.injEq, Prod.mk.injEq] at h; obtain ⟨rfl, rfl⟩ := h
          cases hi : P.info? t with
          | none => rw [hi] at ht; cases ht
          | some ti =>
            rw [hi] at ht
            obtain ⟨h1, h2⟩ := hv.two_inv
            exact does_store ho hi (by simpa using ht) h1 h2 hm hs
        · cases h
    · cases hc
  | nilc =>
    simp only [chkOp] at hc
    split at hc <;> first | (cases hc; done) | skip
    rename_i x ho
    injection hc with hc; subst hc
    match vs, h with
    | [.ptr i q], h =>
      simp only [amOp, Option.some.injEq, Prod.mk.injEq] at h; obtain ⟨rfl, rfl⟩ := h
      exact does_nilc ho hv.one_inv (.inl ⟨_, _, rfl⟩) hs
    | [.fn f p q], h =>
      simp only [amOp, Option.some.injEq, Prod.mk.injEq] at h; obtain ⟨rfl, rfl⟩ := h
      exact does_nilc ho hv.one_inv (.inr ⟨_, _, _, rfl⟩) hs
  | bin b =>
    simp only [chkOp] at hc
    split at hc <;> first | (cases hc; done) | skip
    rename_i b' t x y yt ho
    split at hc
    · rename_i hb
      subst hb
      injection hc with hc; subst hc
      match vs, h with
      | [.int k p, .int k' q], h =>
        simp only [amOp] at h
        split at h
        · rename_i hk
          subst hk
          split at h
          · rename_i u hu
            simp only [Option.some.injEq, Prod.mk.injEq] at h; obtain ⟨rfl, rfl⟩ := h
            obtain ⟨h1, h2⟩ := hv.two_inv
            exact does_bin ho h1 h2 hu hs
          · cases h
        · cases h
    · cases hc
  | shf b =>
    simp only [chkOp] at hc
    split at hc <;> first | (cases hc; done) | skip
    rename_i b' t x y yt ho
    split at hc
    · rename_i hb
      subst hb
      injection hc with hc; subst hc
      match vs, h with
      | [.int k p, .int k' q], h =>
        simp only [amOp] at h
        split at h
        · rename_i u hu
          simp only [Option.some.injEq, Prod.mk.injEq] at h; obtain ⟨rfl, rfl⟩ := h
          obtain ⟨h1, h2⟩ := hv.two_inv
          exact does_shf ho h1 h2 hu hs
        · cases h
    · cases hc
  | eqv k neg =>
    simp only [chkOp] at hc
    split at hc <;> first | (cases hc; done) | skip
    rename_i b' t x y yt ho
    split at hc
    · rename_i hb
      obtain ⟨rfl, hk⟩ := hb
      injection hc with hc; subst hc
      match vs, h with
      | [p, q], h =>
        simp only [amOp] at h
        split at h
        · rename_i b hb
          simp only [Option.some.injEq, Prod.mk.injEq] at h; obtain ⟨rfl, rfl⟩ := h
          obtain ⟨h1, h2⟩ := hv.two_inv
          cases k with
          | bool =>
            simp only [eqChk] at hk
            split at hk
            · rename_i hu
              cases p <;> cases q <;> simp only [eqV] at hb <;> try (cases hb; done)
              injection hb with hb; subst hb
              exact does_eq_bool ho hu h1 h2 hs
            · cases hk
          | ptr =>
            simp only [eqChk] at hk
            split at hk
            · rename_i e hu
              split at hk
              · rename_i i hi
                exact does_eq_ptr ho hu hi (by simpa using hk) h1 h2 hb hs
              · cases hk
            · cases hk
          | slc =>
            simp only [eqChk] at hk
            split at hk
            · rename_i e hu
              exact does_eq_slc ho hu h1 h2 hb hs
            · cases hk
          | map =>
            simp only [eqChk] at hk
            split at hk
            · rename_i k e hu
              exact does_eq_map ho hu h1 h2 hb hs
            · cases hk
          | agg sh =>
            simp only [eqChk, Bool.and_eq_true, decide_eq_true_eq, Bool.not_eq_true'] at hk
            obtain ⟨⟨k1, k2⟩, k3⟩ := hk
            cases p <;> cases q <;> simp only [eqV] at hb <;> try (cases hb; done)
            exact does_eq_agg ho k1 k2 k3 h1 h2 hb hs
        · cases h
    · cases hc
  | not =>
    simp only [chkOp] at hc
    split at hc <;> first | (cases hc; done) | skip
    rename_i t x ho
    injection hc with hc; subst hc
    match vs, h with
    | [.bool b], h =>
      simp only [amOp, Option.some.injEq, Prod.mk.injEq] at h; obtain ⟨rfl, rfl⟩ := h
      exact does_not ho hv.one_inv hs
  | neg =>
    simp only [chkOp] at hc
    split at hc <;> first | (cases hc; done) | skip
    rename_i t x ho
    injection hc with hc; subst hc
    match vs, h with
    | [.int k n], h =>
      simp only [amOp, Option.some.injEq, Prod.mk.injEq] at h; obtain ⟨rfl, rfl⟩ := h
      exact does_neg ho hv.one_inv hs
  | conv k =>
    simp only [chkOp] at hc
    split at hc <;> first | (cases hc; done) | skip
    rename_i s t x ho
    split at hc
    · rename_i hst
      obtain ⟨h1, h2⟩ := hst
      injection hc with hc; subst hc
      match vs, h with
      | [.int k' n], h =>
        simp only [amOp, Option.some.injEq, Prod.mk.injEq] at h; obtain ⟨rfl, rfl⟩ := h
        exact does_conv ho (Option.isSome_iff_exists.1 h1) (isIntT_ok h2) hv.one_inv hs
    · cases hc
  | mkfn f n =>
    simp only [chkOp] at hc
    split at hc <;> first | (cases hc; done) | skip
    rename_i g first cap ho
    split at hc
    · rename_i hst
      obtain ⟨h1, h2⟩ := hst
      injection hc with hc; subst hc
      simp only [amOp] at h
      split at h
      · simp only [Option.some.injEq, Prod.mk.injEq] at h; obtain ⟨rfl, rfl⟩ := h
        have e1 := hv.take n
        have e2 := hv.drop n
        rw [← List.map_take, ← h2] at e1
        rw [← List.map_drop, ← h2] at e2
        simp only [← Array.length_toList, List.take_left, List.drop_left] at e1 e2
        exact does_mkfn ho h1 (by simpa [h2] using e1) (by simpa [h2] using e2) hs
      · cases h
    · cases hc
  | make sz bytes z =>
    simp only [chkOp] at hc
    split at hc <;> first | (cases hc; done) | skip
    rename_i t x y ho
    split at hc
    · rename_i hst
      obtain ⟨h1, h2⟩ := hst
      injection hc with hc; subst hc
      obtain ⟨e, i, zv, bytes', T, hb⟩ := elemChk_ok h1
      have := hb bytes rfl
      subst this
      match vs, h with
      | [.int .i64 n, .int .i64 c], h =>
        simp only [amOp] at h
        split at h
        · rename_i hcond
          obtain ⟨c1, c2, c3, c4⟩ := hcond
          simp only [Option.some.injEq, Prod.mk.injEq] at h; obtain ⟨rfl, rfl⟩ := h
          obtain ⟨k1, k2⟩ := hv.two_inv
          exact does_make ho T (elemZero_ok h2 T.h1) k1 k2 c1 c2 c3 c4 hs
        · cases h
    · cases hc
  | slice sz lo hi mx =>
    simp only [chkOp] at hc
    split at hc <;> first | (cases hc; done) | skip
    rename_i t x l hh k ho
    split at hc
    · rename_i hst
      obtain ⟨h1, h2, h3, h4⟩ := hst
      injection hc with hc; subst hc
      obtain ⟨e, i, hu, hi, hsz⟩ := elemSize_ok h1
      subst hsz
      match vs, h with
      | u :: us, h =>
        simp only [amOp] at h
        split at h
        · rename_i nl us1 o1
          split at h
          · rename_i nh us2 o2
            split at h
            · rename_i nk o3
              split at h
              · rename_i r hr
                simp only [Option.some.injEq, Prod.mk.injEq] at h; obtain ⟨rfl, rfl⟩ := h
                simp only [List.map_cons] at hv
                obtain ⟨d, ds, he, k1, k2⟩ := hv.cons_inv
                injection he with e1 e2
                subst e1; subst e2
                obtain ⟨b1, r1⟩ := optN_ok o1 h2 (rest := hh.toList ++ k.toList) k2
                obtain ⟨b2, r2⟩ := optN_ok o2 h3 (rest := k.toList) r1
                obtain ⟨b3, _⟩ := optN_ok o3 h4 (rest := []) (by simpa using r2)
                exact does_slice ho hu hi k1 b1 b2 b3 hr hs
              · cases h
            · cases h
          · cases h
        · cases h
    · cases hc
  | faddr off =>
    simp only [chkOp] at hc
    split at hc <;> first | (cases hc; done) | skip
    rename_i s x f ho
    split at hc
    · rename_i hst
      injection hc with hc; subst hc
      obtain ⟨fs, fd, i, hu, hf, hi, rfl, h0, _⟩ := fieldChk_ok hst
      match vs, h with
      | [.ptr k q], h =>
        simp only [amOp, Option.some.injEq, Prod.mk.injEq] at h; obtain ⟨rfl, rfl⟩ := h
        exact does_faddr ho hu hf hi h0 hv.one_inv hs
    · cases hc
  | iaddr sz arr =>
    cases arr with
    | none =>
      simp only [chkOp] at hc
      split at hc <;> first | (cases hc; done) | skip
      rename_i t x y ho
      split at hc
      · rename_i hst
        injection hc with hc; subst hc
        obtain ⟨e, i, hu, hi, rfl⟩ := elemSize_ok hst
        match vs, h with
        | [.sl k q len cap, .int kk n], h =>
          simp only [amOp] at h
          split at h
          · rename_i hn
            simp only [Option.some.injEq, Prod.mk.injEq] at h; obtain ⟨rfl, rfl⟩ := h
            obtain ⟨h1, h2⟩ := hv.two_inv
            exact does_iaddr ho hu hi h1 h2 hn.1 hn.2 hs
          · cases h
      · cases hc
    | some len =>
      simp only [chkOp] at hc
      split at hc <;> first | (cases hc; done) | skip
      rename_i t x y ho
      split at hc
      · rename_i hst
        injection hc with hc; subst hc
        obtain ⟨e, i, hu, hi, rfl, _⟩ := arrChk_ok hst
        match vs, h with
        | [.ptr k q, .int kk n], h =>
          simp only [amOp] at h
          split at h
          · rename_i hn
            simp only [Option.some.injEq, Prod.mk.injEq] at h; obtain ⟨rfl, rfl⟩ := h
            obtain ⟨h1, h2⟩ := hv.two_inv
            exact does_iaddrA ho hu hi h1 h2 hn.1 hn.2 hs
          · cases h
      · cases hc
  | field off n =>
    simp only [chkOp] at hc
    split at hc <;> first | (cases hc; done) | skip
    rename_i s x f ho
    split at hc
    · rename_i hst
      injection hc with hc; subst hc
      obtain ⟨fs, fd, i, hu, hf, hi, rfl, h0, hn⟩ := fieldChk_ok hst
      cases n with
      | none =>
        match vs, h with
        | [.agg cs], h =>
          simp only [amOp] at h
          split at h
          · rename_i u hu'
            simp only [Option.some.injEq, Prod.mk.injEq] at h; obtain ⟨rfl, rfl⟩ := h
            exact does_field ho hu hf (hn none rfl) hv.one_inv (v := u) hu' hs
          · cases h
      | some k =>
        match vs, h with
        | [.agg cs], h =>
          simp only [amOp] at h
          split at h
          · rename_i hle
            simp only [Option.some.injEq, Prod.mk.injEq] at h; obtain ⟨rfl, rfl⟩ := h
            exact does_field ho hu hf (hn (some k) rfl) hv.one_inv (by simp [partA, hle]) hs
          · cases h
    · cases hc
  | index len sz n =>
    simp only [chkOp] at hc
    split at hc <;> first | (cases hc; done) | skip
    rename_i t x y ho
    split at hc
    · rename_i hst
      injection hc with hc; subst hc
      obtain ⟨e, i, hu, hi, rfl, hn⟩ := arrChk_ok hst
      cases n with
      | none =>
        match vs, h with
        | [.agg cs, .int kk j], h =>
          obtain ⟨h1, h2⟩ := hv.two_inv
          simp only [amOp] at h
          split at h
          · rename_i hj
            split at h
            · rename_i u hu'
              simp only [Option.some.injEq, Prod.mk.injEq] at h; obtain ⟨rfl, rfl⟩ := h
              exact does_index ho hu hi (hn none rfl) h1 h2 hj.1 hj.2 (v := u) hu' hs
            · cases h
          · cases h
      | some k =>
        match vs, h with
        | [.agg cs, .int kk j], h =>
          obtain ⟨h1, h2⟩ := hv.two_inv
          simp only [amOp] at h
          split at h
          · rename_i hle
            simp only [Option.some.injEq, Prod.mk.injEq] at h; obtain ⟨rfl, rfl⟩ := h
            exact does_index ho hu hi (hn (some k) rfl) h1 h2 hle.1 hle.2.1 (by simp [partA, hle.2.2]) hs
          · cases h
    · cases hc
  | extract i =>
    simp only [chkOp] at hc
    split at hc <;> first | (cases hc; done) | skip
    rename_i x j ho
    split at hc
    · rename_i hij
      subst hij
      injection hc with hc; subst hc
      match vs, h with
      | [.tup us], h =>
        simp only [amOp] at h
        split at h
        · rename_i u hu
          simp only [Option.some.injEq, Prod.mk.injEq] at h; obtain ⟨rfl, rfl⟩ := h
          exact does_extract ho hv.one_inv hu hs
        · cases h
    · cases hc
  | call f =>
    simp only [chkOp] at hc
    split at hc <;> first | (cases hc; done) | skip
    rename_i g args ts ho
    split at hc
    · rename_i hg
      subst hg
      injection hc with hc; subst hc
      simp only [amOp] at h
      split at h
      · rename_i Fn hF
        obtain ⟨k1, k2, _⟩ := hG _ _ hF
        exact does_call ho (g := f) (first := []) (cap := []) (.fn (cs := #[]) (ds := #[]) rfl (by simp) rfl (by simp)) k1 k2 hv (by simpa using h) hs
      · cases h
    · cases hc
  | callv =>
    simp only [chkOp] at hc
    split at hc <;> first | (cases hc; done) | skip
    rename_i x args ts ho
    injection hc with hc; subst hc
    cases vs with
    | nil => simp [amOp] at h
    | cons u us =>
      cases u <;> simp only [amOp] at h <;> try (cases h; done)
      rename_i f first cap
      split at h
      · rename_i Fn hF
        obtain ⟨k1, k2, _⟩ := hG _ _ hF
        simp only [List.map_cons] at hv
        obtain ⟨d, ds, he, j1, j2⟩ := hv.cons_inv
        injection he with e1 e2
        subst e1; subst e2
        exact does_call ho j1 k1 k2 j2 h hs
      · cases h
  | len =>
    simp only [chkOp] at hc
    split at hc <;> first | (cases hc; done) | skip
    rename_i args ts ho
    split at hc
    · rename_i x t ha ht
      split at hc
      · rename_i e hu
        injection hc with hc; subst hc
        match vs, h with
        | [u], h =>
          simp only [amOp] at h
          split at h
          · rename_i n hn
            simp only [Option.some.injEq, Prod.mk.injEq] at h; obtain ⟨rfl, rfl⟩ := h
            have e1 : args = #[x] := Array.toList_inj.1 (by simpa using ha)
            have e2 : ts = #[t] := Array.toList_inj.1 (by simpa using ht)
            subst e1; subst e2
            exact does_len ho hv.one_inv hn hu hs
          · cases h
      · cases hc
    · cases hc
  | append sz bytes =>
    simp only [chkOp] at hc
    split at hc <;> first | (cases hc; done) | skip
    rename_i args ts ho
    split at hc
    · rename_i s x t u ha ht
      split at hc
      · rename_i hst
        obtain ⟨rfl, h1⟩ := hst
        injection hc with hc; subst hc
        obtain ⟨e, i, zv, bytes', T, hb⟩ := elemChk_ok h1
        have := hb bytes rfl
        subst this
        match vs, h with
        | [p, q], h =>
          simp only [amOp] at h
          have e1 : args = #[s, x] := Array.toList_inj.1 (by simpa using ha)
          have e2 : ts = #[t, t] := Array.toList_inj.1 (by simpa using ht)
          subst e1; subst e2
          obtain ⟨k1, k2⟩ := hv.two_inv
          exact does_append ho T k1 k2 h hs
      · cases hc
    · cases hc
  | min =>
    simp only [chkOp] at hc
    split at hc <;> first | (cases hc; done) | skip
    rename_i args ts ho
    injection hc with hc; subst hc
    cases vs with
    | nil => simp [amOp] at h
    | cons u us =>
      cases u <;> simp only [amOp] at h <;> try (cases h; done)
      rename_i k n
      split at h
      · rename_i r hr
        simp only [Option.some.injEq, Prod.mk.injEq] at h; obtain ⟨rfl, rfl⟩ := h
        exact does_min ho hv hr hs
      · cases h
  | max =>
    simp only [chkOp] at hc
    split at hc <;> first | (cases hc; done) | skip
    rename_i args ts ho
    injection hc with hc; subst hc
    cases vs with
    | nil => simp [amOp] at h
    | cons u us =>
      cases u <;> simp only [amOp] at h <;> try (cases h; done)
      rename_i k n
      split at h
      · rename_i r hr
        simp only [Option.some.injEq, Prod.mk.injEq] at h; obtain ⟨rfl, rfl⟩ := h
        exact does_max ho hv hr hs
      · cases h
  | clear sz z =>
    simp only [chkOp] at hc
    split at hc <;> first | (cases hc; done) | skip
    rename_i args ts ho
    split at hc
    · rename_i x t ha ht
      split at hc
      · rename_i hst
        obtain ⟨h1, h2⟩ := hst
        injection hc with hc; subst hc
        obtain ⟨e, i, zv, bytes', T, hb⟩ := elemChk_ok h1
        match vs, h with
        | [u], h =>
          simp only [amOp] at h
          split at h
          · rename_i m1 hm
            simp only [Option.some.injEq, Prod.mk.injEq] at h; obtain ⟨rfl, rfl⟩ := h
            have e1 : args = #[x] := Array.toList_inj.1 (by simpa using ha)
            have e2 : ts = #[t] := Array.toList_inj.1 (by simpa using ht)
            subst e1; subst e2
            exact does_clear ho T (elemZero_ok h2 T.h1) hv.one_inv hm hs
          · cases h
      · cases hc
    · cases hc
theorem appendA_len {sz bytes : Nat} {s x v : AV} {m m' : Mem X} (h : appendA sz bytes s x m = some (v, m')) : m.length ≤ m'.length := by
  unfold appendA at h
  repeat' split at h
  all_goals first
    | (simp at h; done)
    | (simp only [Option.some.injEq, Prod.mk.injEq] at h; obtain ⟨_, rfl⟩ := h; simp)
theorem storeN_len {m m' : Mem X} {i q n : Nat} {v : AV} (h : storeN m i q n v = some m') : m.length ≤ m'.length := by
  unfold storeN at h
  repeat' split at h
  all_goals first
    | (simp at h; done)
    | (simp only [Option.some.injEq] at h; subst h; simp)
theorem clearA_len {sz : Nat} {z : List AV} {x : AV} {m m' : Mem X} (h : clearA sz z x m = some m') : m.length ≤ m'.length := by
  unfold clearA at h
  repeat' split at h
  all_goals first
    | (cases h; done)
    | exact storeN_len h
    | (injection h with h; subst h; exact Nat.le_refl _)
theorem amOp_len {G : List (Nat × AFun X)} (hG : ∀ g f, assoc G g = some f → Mono f) {op : AOp} {vs : List AV} {m m' : Mem X} {v : AV} (h : amOp G op vs m = some (v, m')) : m.length ≤ m'.length := by
  unfold amOp at h
  repeat' split at h
  all_goals first
    | (simp at h; done)
    | exact appendA_len h
    | exact hG _ _ ‹_› _ _ _ _ h
    | (rename_i hst; simp only [Option.some.injEq, Prod.mk.injEq] at h; obtain ⟨_, rfl⟩ := h; exact storeN_len hst)
    | (rename_i hst; simp only [Option.some.injEq, Prod.mk.injEq] at h; obtain ⟨_, rfl⟩ := h; exact clearA_len hst)
    | (simp only [Option.some.injEq, Prod.mk.injEq] at h; obtain ⟨_, rfl⟩ := h; simp)
end
end Go.Am
