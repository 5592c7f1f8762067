import Derived.Test.YtgfddegdjdeeoaaXG13
set_option linter.unusedSimpArgs false
set_option linter.unusedVariables false
section
namespace Go.Am
structure Acc where
  kind : Int
  at' : Int
  old : Int
  new : Int
  deriving DecidableEq
structure MemSt where
  cells : List Int
  ck : Bool
  ops : Int
  loads : Int
  stores : Int
  swaps : Int
  fails : Int
  adds : Int
  log : List Acc
  pre : List Acc
inductive Ob where
  | mem (s : MemSt)
def accC (e : Acc) : List AV := [.int .i64 e.kind, .int .i64 e.at', .int .u64 e.old, .int .u64 e.new]
def uC (xs : List Int) : List AV := xs.map (AV.int .u64)
def cvA (i k1 : Nat) (s : MemSt) : AV := if s.cells = [] then .sl i 0 0 (some 0) else .sl k1 0 s.cells.length (if s.ck then some s.cells.length else none)
def lvA (k2 : Nat) (s : MemSt) : AV := if s.log = [] then .nils else .sl k2 (s.pre.length * 4) s.log.length none
def rootL (s : MemSt) (lv cv : AV) : List AV := [.int .u64 s.ops, .int .u64 s.loads, .int .u64 s.stores, .int .u64 s.swaps, .int .u64 s.fails, .int .u64 s.adds, lv, cv]
abbrev MM := Mem Ob
def concM : Ob → MM
  | .mem s => [.cells 8 false (rootL s (lvA 2 s) (cvA 0 1 s)), .cells 1 false (uC s.cells), .cells 4 false ((s.pre ++ s.log).flatMap accC)]
def plM : Ob → Nat → Nat → Chunk Ob × MM
  | .mem s, i, n => (.cells 8 false (rootL s (lvA (n + 1) s) (cvA i n s)), [.cells 1 false (uC s.cells), .cells 4 false ((s.pre ++ s.log).flatMap accC)])
theorem renL_map {α : Type} {ρ : Nat → Option Nat} {f : α → AV} (h : ∀ x, AV.ren ρ (f x) = some (f x)) : ∀ xs : List α, AV.renL ρ (xs.map f) = some (xs.map f)
  | [] => rfl
  | x :: xs => by simp only [List.map_cons, AV.renL, h x, renL_map h xs]
theorem renL_append {ρ : Nat → Option Nat} : ∀ {a b a' b' : List AV}, AV.renL ρ a = some a' → AV.renL ρ b = some b' → AV.renL ρ (a ++ b) = some (a' ++ b')
  | [], b, a', b', ha, hb => by simp only [AV.renL, Option.some.injEq] at ha; subst ha; simpa using hb
  | x :: a, b, a', b', ha, hb => by
    simp only [AV.renL] at ha
    split at ha
    · rename_i y ys h1 h2
      injection ha with ha; subst ha
      simp only [List.cons_append, AV.renL, h1, renL_append h2 hb]
    · cases ha
theorem renL_accs {ρ : Nat → Option Nat} : ∀ l : List Acc, AV.renL ρ (l.flatMap accC) = some (l.flatMap accC)
  | [] => rfl
  | e :: l => by rw [List.flatMap_cons]; exact renL_append rfl (renL_accs l)
theorem plM_ok : ∀ (x : Ob) (i n : Nat), Placed (place i n) (concM x) ((plM x i n).1 :: (plM x i n).2) := by
  rintro ⟨s⟩ i n
  refine ⟨rfl, fun j c hj => ?_⟩
  match j, hj with
  | 0, hj =>
    simp only [concM, List.getElem?_cons_zero, Option.some.injEq] at hj
    subst hj
    refine ⟨_, ?_, rfl⟩
    have h1 : AV.ren (place i n) (lvA 2 s) = some (lvA (n + 1) s) := by unfold lvA; split <;> simp [AV.ren, place]
    have h2 : AV.ren (place i n) (cvA 0 1 s) = some (cvA i n s) := by unfold cvA; split <;> simp [AV.ren, place]
    simp only [renC, rootL, AV.renL, h1, h2, AV.ren]; rfl
  | 1, hj =>
    simp only [concM, List.getElem?_cons_succ, List.getElem?_cons_zero, Option.some.injEq] at hj
    subst hj
    refine ⟨_, ?_, rfl⟩
    simp only [renC, uC, renL_map (f := AV.int .u64) (fun _ => rfl)]
  | 2, hj =>
    simp only [concM, List.getElem?_cons_succ, List.getElem?_cons_zero, Option.some.injEq] at hj
    subst hj
    refine ⟨_, ?_, rfl⟩
    simp only [renC, renL_accs]
  | j + 3, hj => simp [concM] at hj
structure MemAt (m : MM) (i k1 k2 : Nat) (s : MemSt) : Prop where
  root : ∃ cv, m[i]? = some (.cells 8 false (rootL s (lvA k2 s) cv)) ∧ (cv = cvA i k1 s ∨ (s.cells = [] ∧ ∃ q o, cv = .sl q o 0 (some 0)))
  cells : s.cells ≠ [] → m[k1]? = some (.cells 1 false (uC s.cells))
  log : s.log ≠ [] → m[k2]? = some (.cells 4 false ((s.pre ++ s.log).flatMap accC))
def memF (step : MemSt → List AV → Option (AV × MemSt)) : AFun Ob := fun args m =>
  match args with
  | .ptr i 0 :: rest => match m[i]? with
    | some (.abs (.mem s)) => match step s rest with
      | some (v, s') => some (v, m.set i (.abs (.mem s')))
      | none => none
    | _ => none
  | _ => none
theorem fold_mem {f : AFun Ob} {args : List AV} {m mh : MM} {i k1 k2 : Nat} {v : AV} {s' : MemSt} (hi : i < m.length) (hrun : f args m = some (v, mh)) (hv : AV.ren no v = some v) (hlen : m.length ≤ mh.length)
    (hk : ∀ j, j < m.length → j ≠ i → mh[j]? = m[j]?) (h1 : m.length ≤ k1) (h2 : m.length ≤ k2) (h12 : k1 ≠ k2) (hat : MemAt mh i k1 k2 s') : ∃ ρ γ v0 m0, FoldAt concM f ρ γ v0 m0 args m v (m.set i (.abs (.mem s'))) := by
  let θ : Nat → Option Nat := fun l => if l = 0 then some i else if l = 1 ∧ s'.cells ≠ [] then some k1 else if l = 2 ∧ s'.log ≠ [] then some k2 else none
  refine ⟨below m.length, fun j => if j = k1 ∨ j = k2 then some i else none, v, mh, hrun, ren_no hv, by simp, fun j hj => if_pos hj, fun j q hj hle => ?_, fun j j' q ha hb => ?_, fun j q hj => ?_, fun j q c hj hc => ?_⟩
  · unfold below at hj; split at hj
    · omega
    · cases hj
  · unfold below at ha hb; split at ha <;> split at hb <;> simp_all
  · split at hj
    · unfold below; rw [if_neg (by omega)]
    · cases hj
  · unfold below at hj; split at hj
    · rename_i hjl
      injection hj with hj; subst hj
      by_cases hji : j = i
      · subst hji
        refine .inr ⟨.mem s', θ, by rw [List.getElem?_set_self hi], ?_, rfl, fun l k hl => ?_, fun l k c' hl hc' => ?_, fun l k hl h0 => ?_, fun l l' k ha hb => ?_⟩
        · intro c hc
          simp only [concM, List.mem_cons, List.not_mem_nil, or_false] at hc
          rcases hc with rfl | rfl | rfl <;> exact .inl ⟨_, _, rfl⟩
        · simp only [θ] at hl
          show l < 3
          split at hl
          · omega
          · split at hl
            · omega
            · split at hl
              · omega
              · cases hl
        · match l, hc' with
          | 0, hc' =>
            simp only [concM, List.getElem?_cons_zero, Option.some.injEq] at hc'
            subst hc'
            have hk0 : k = j := by simp only [θ, if_true] at hl; injection hl with hl; exact hl.symm
            subst hk0
            obtain ⟨cv, hr, hcv⟩ := hat.root
            refine ⟨.cells 8 false (rootL s' (lvA k2 s') cv), ⟨rootL s' (lvA k2 s') cv, rfl, rfl, ?_⟩, hr⟩
            have hlv : AV.ren θ (lvA 2 s') = some (lvA k2 s') := by
              unfold lvA
              split
              · rfl
              · rename_i hne; simp [AV.ren, θ, hne]
            have hcv' : GrA θ (cvA 0 1 s') cv := by
              rcases hcv with rfl | ⟨h0, q, o, rfl⟩
              · left
                unfold cvA
                split
                · simp [AV.ren, θ]
                · rename_i hne; simp [AV.ren, θ, hne]
              · right
                exact ⟨by simp [cvA, h0], q, o, rfl⟩
            intro o a b ha hb
            match o, ha, hb with
            | 0, ha, hb | 1, ha, hb | 2, ha, hb | 3, ha, hb | 4, ha, hb | 5, ha, hb =>
              simp only [rootL, List.getElem?_cons_succ, List.getElem?_cons_zero, Option.some.injEq] at ha hb
              subst ha; subst hb; exact .inl rfl
            | 6, ha, hb =>
              simp only [rootL, List.getElem?_cons_succ, List.getElem?_cons_zero, Option.some.injEq] at ha hb
              subst ha; subst hb; exact .inl hlv
            | 7, ha, hb =>
              simp only [rootL, List.getElem?_cons_succ, List.getElem?_cons_zero, Option.some.injEq] at ha hb
              subst ha; subst hb; exact hcv'
            | o + 8, ha, hb => simp [rootL] at ha
          | 1, hc' =>
            simp only [concM, List.getElem?_cons_succ, List.getElem?_cons_zero, Option.some.injEq] at hc'
            subst hc'
            have hne : s'.cells ≠ [] := fun h => by simp [θ, h] at hl
            have hk0 : k = k1 := by simp [θ, hne] at hl; exact hl.symm
            subst hk0
            exact ⟨_, grC_of (by simp only [renC, uC, renL_map (f := AV.int .u64) (fun _ => rfl)]) (fun x h => by cases h), hat.cells hne⟩
          | 2, hc' =>
            simp only [concM, List.getElem?_cons_succ, List.getElem?_cons_zero, Option.some.injEq] at hc'
            subst hc'
            have hne : s'.log ≠ [] := fun h => by simp [θ, h] at hl
            have hk0 : k = k2 := by simp [θ, hne] at hl; exact hl.symm
            subst hk0
            exact ⟨_, grC_of (by simp only [renC, renL_accs]) (fun x h => by cases h), hat.log hne⟩
          | l + 3, hc' => simp [concM] at hc'
        · simp only [θ] at hl
          rw [if_neg h0] at hl
          split at hl
          · injection hl with hl; subst hl; simp
          · split at hl
            · injection hl with hl; subst hl; simp
            · cases hl
        · have key : ∀ l, θ l = some k → (l = 0 ∧ k = j) ∨ (l = 1 ∧ k = k1) ∨ (l = 2 ∧ k = k2) := by
            intro l hl
            simp only [θ] at hl
            split at hl
            · rename_i h0; injection hl with hl; exact .inl ⟨h0, hl.symm⟩
            · split at hl
              · rename_i h0; injection hl with hl; exact .inr (.inl ⟨h0.1, hl.symm⟩)
              · split at hl
                · rename_i h0; injection hl with hl; exact .inr (.inr ⟨h0.1, hl.symm⟩)
                · cases hl
          rcases key l ha with ⟨a1, a2⟩ | ⟨a1, a2⟩ | ⟨a1, a2⟩ <;> rcases key l' hb with ⟨b1, b2⟩ | ⟨b1, b2⟩ | ⟨b1, b2⟩ <;> omega
      · refine .inl ⟨fun j' h => ?_, .inr ⟨hjl, ?_, ?_⟩⟩
        · split at h
          · injection h with h; exact hji h.symm
          · cases h
        · rw [← hk j hjl hji]; exact hc
        · rw [List.getElem?_set_ne (fun h => hji h.symm), ← hk j hjl hji]; exact hc
    · cases hj
theorem mem_fold {f : AFun Ob} {step : MemSt → List AV → Option (AV × MemSt)} (h : ∀ (m : MM) (i : Nat) (rest : List AV) (s s' : MemSt) (v : AV), i < m.length → step s rest = some (v, s') → AV.ren no v = some v ∧
    ∃ mh k1 k2, f (.ptr i 0 :: rest) (m.set i (plM (.mem s) i m.length).1 ++ (plM (.mem s) i m.length).2) = some (v, mh) ∧ m.length ≤ mh.length ∧ (∀ j, j < m.length → j ≠ i → mh[j]? = m[j]?) ∧ m.length ≤ k1 ∧ m.length ≤ k2 ∧ k1 ≠ k2 ∧ MemAt mh i k1 k2 s') :
    Fold concM (unf 0 plM f) (memF step) := by
  intro args m v m' hg
  unfold memF at hg
  split at hg
  case h_2 => cases hg
  rename_i i rest
  split at hg
  case h_2 => cases hg
  rename_i s hs
  split at hg
  case h_2 => cases hg
  rename_i v0 s' hst
  simp only [Option.some.injEq, Prod.mk.injEq] at hg
  obtain ⟨rfl, rfl⟩ := hg
  have hi : i < m.length := (List.getElem?_eq_some_iff.1 hs).1
  obtain ⟨hv, mh, k1, k2, h1, h2, h3, h4, h5, h6, h7⟩ := h m i rest s s' v0 hi hst
  exact fold_mem hi (by simp only [unf, List.getElem?_cons_zero, hs]; exact h1) hv h2 h3 h4 h5 h6 h7
def rhoN (n q : Nat) : Nat → Option Nat := fun j => if j < n then some j else if j = q then some n else none
theorem fold_memN {f : AFun Ob} {args : List AV} {m mh : MM} {i k1 k2 q : Nat} {v0 v : AV} {s' : MemSt} {sz : Nat} {ro : Bool} {L : List AV} (hi : i < m.length) (hrun : f args m = some (v0, mh)) (hv : AV.ren (rhoN m.length q) v0 = some v) (hq : m.length ≤ q) (hq1 : q ≠ k1) (hq2 : q ≠ k2) (hqc : mh[q]? = some (.cells sz ro L)) (hL : ∀ ρ, AV.renL ρ L = some L)
    (hk : ∀ j, j < m.length → j ≠ i → mh[j]? = m[j]?) (h1 : m.length ≤ k1) (h2 : m.length ≤ k2) (h12 : k1 ≠ k2) (hat : MemAt mh i k1 k2 s') : ∃ ρ γ v0 m0, FoldAt concM f ρ γ v0 m0 args m v (m.set i (.abs (.mem s')) ++ [.cells sz ro L]) := by
  let θ : Nat → Option Nat := fun l => if l = 0 then some i else if l = 1 ∧ s'.cells ≠ [] then some k1 else if l = 2 ∧ s'.log ≠ [] then some k2 else none
  have key : ∀ j x, rhoN m.length q j = some x → (j < m.length ∧ x = j) ∨ (j = q ∧ x = m.length) := by
    intro j x hj
    unfold rhoN at hj
    split at hj
    · rename_i h; injection hj with hj; exact .inl ⟨h, hj.symm⟩
    · split at hj
      · rename_i h; injection hj with hj; exact .inr ⟨h, hj.symm⟩
      · cases hj
  refine ⟨rhoN m.length q, fun j => if j = k1 ∨ j = k2 then some i else none, v0, mh, hrun, hv, by simp, fun j hj => if_pos hj, fun j x hj hle => ?_, fun j j' x ha hb => ?_, fun j x hj => ?_, fun j x c hj hc => ?_⟩
  · rcases key j x hj with ⟨h, _⟩ | ⟨_, rfl⟩
    · omega
    · simp
  · rcases key j x ha with ⟨a1, a2⟩ | ⟨a1, a2⟩ <;> rcases key j' x hb with ⟨b1, b2⟩ | ⟨b1, b2⟩ <;> omega
  · split at hj
    · unfold rhoN; rw [if_neg (by omega), if_neg (by omega)]
    · cases hj
  · rcases key j x hj with ⟨hjl, rfl⟩ | ⟨rfl, rfl⟩
    · have hgl : ∀ c, (m.set i (.abs (.mem s')) ++ [Chunk.cells sz ro L])[x]? = some c ↔ (m.set i (.abs (.mem s')))[x]? = some c := fun c => by rw [List.getElem?_append_left (by simpa using hjl)]
      simp only [hgl]
      by_cases hji : x = i
      · subst hji
        refine .inr ⟨.mem s', θ, by rw [List.getElem?_set_self hi], ?_, rfl, fun l k hl => ?_, fun l k c' hl hc' => ?_, fun l k hl h0 => ?_, fun l l' k ha hb => ?_⟩
        · intro c hc
          simp only [concM, List.mem_cons, List.not_mem_nil, or_false] at hc
          rcases hc with rfl | rfl | rfl <;> exact .inl ⟨_, _, rfl⟩
        · simp only [θ] at hl
          show l < 3
          split at hl
          · omega
          · split at hl
            · omega
            · split at hl
              · omega
              · cases hl
        · match l, hc' with
          | 0, hc' =>
            simp only [concM, List.getElem?_cons_zero, Option.some.injEq] at hc'
            subst hc'
            have hk0 : k = x := by simp only [θ, if_true] at hl; injection hl with hl; exact hl.symm
            subst hk0
            obtain ⟨cv, hr, hcv⟩ := hat.root
            refine ⟨.cells 8 false (rootL s' (lvA k2 s') cv), ⟨rootL s' (lvA k2 s') cv, rfl, rfl, ?_⟩, hr⟩
            have hlv : AV.ren θ (lvA 2 s') = some (lvA k2 s') := by
              unfold lvA
              split
              · rfl
              · rename_i hne; simp [AV.ren, θ, hne]
            have hcv' : GrA θ (cvA 0 1 s') cv := by
              rcases hcv with rfl | ⟨h0, q, o, rfl⟩
              · left
                unfold cvA
                split
                · simp [AV.ren, θ]
                · rename_i hne; simp [AV.ren, θ, hne]
              · right
                exact ⟨by simp [cvA, h0], q, o, rfl⟩
            intro o a b ha hb
            match o, ha, hb with
            | 0, ha, hb | 1, ha, hb | 2, ha, hb | 3, ha, hb | 4, ha, hb | 5, ha, hb =>
              simp only [rootL, List.getElem?_cons_succ, List.getElem?_cons_zero, Option.some.injEq] at ha hb
              subst ha; subst hb; exact .inl rfl
            | 6, ha, hb =>
              simp only [rootL, List.getElem?_cons_succ, List.getElem?_cons_zero, Option.some.injEq] at ha hb
              subst ha; subst hb; exact .inl hlv
            | 7, ha, hb =>
              simp only [rootL, List.getElem?_cons_succ, List.getElem?_cons_zero, Option.some.injEq] at ha hb
              subst ha; subst hb; exact hcv'
            | o + 8, ha, hb => simp [rootL] at ha
          | 1, hc' =>
            simp only [concM, List.getElem?_cons_succ, List.getElem?_cons_zero, Option.some.injEq] at hc'
            subst hc'
            have hne : s'.cells ≠ [] := fun h => by simp [θ, h] at hl
            have hk0 : k = k1 := by simp [θ, hne] at hl; exact hl.symm
            subst hk0
            exact ⟨_, grC_of (by simp only [renC, uC, renL_map (f := AV.int .u64) (fun _ => rfl)]) (fun x h => by cases h), hat.cells hne⟩
          | 2, hc' =>
            simp only [concM, List.getElem?_cons_succ, List.getElem?_cons_zero, Option.some.injEq] at hc'
            subst hc'
            have hne : s'.log ≠ [] := fun h => by simp [θ, h] at hl
            have hk0 : k = k2 := by simp [θ, hne] at hl; exact hl.symm
            subst hk0
            exact ⟨_, grC_of (by simp only [renC, renL_accs]) (fun x h => by cases h), hat.log hne⟩
          | l + 3, hc' => simp [concM] at hc'
        · simp only [θ] at hl
          rw [if_neg h0] at hl
          split at hl
          · injection hl with hl; subst hl; simp
          · split at hl
            · injection hl with hl; subst hl; simp
            · cases hl
        · have key2 : ∀ l, θ l = some k → (l = 0 ∧ k = x) ∨ (l = 1 ∧ k = k1) ∨ (l = 2 ∧ k = k2) := by
            intro l hl
            simp only [θ] at hl
            split at hl
            · rename_i h0; injection hl with hl; exact .inl ⟨h0, hl.symm⟩
            · split at hl
              · rename_i h0; injection hl with hl; exact .inr (.inl ⟨h0.1, hl.symm⟩)
              · split at hl
                · rename_i h0; injection hl with hl; exact .inr (.inr ⟨h0.1, hl.symm⟩)
                · cases hl
          rcases key2 l ha with ⟨a1, a2⟩ | ⟨a1, a2⟩ | ⟨a1, a2⟩ <;> rcases key2 l' hb with ⟨b1, b2⟩ | ⟨b1, b2⟩ | ⟨b1, b2⟩ <;> omega
      · refine .inl ⟨fun j' h => ?_, .inr ⟨hjl, ?_, ?_⟩⟩
        · split at h
          · injection h with h; exact hji h.symm
          · cases h
        · rw [← hk x hjl hji]; exact hc
        · rw [List.getElem?_set_ne (fun h => hji h.symm), ← hk x hjl hji]; exact hc
    · refine .inl ⟨fun j' h => ?_, .inl ⟨.cells sz ro L, ?_, by simp⟩⟩
      · split at h
        · injection h with h; omega
        · cases h
      · rw [hqc] at hc; injection hc with hc; subst hc
        simp only [renC, hL]
theorem fold_new {f : AFun Ob} {args : List AV} {m mh : MM} {k1 k2 q : Nat} {v0 v : AV} {s' : MemSt} (hrun : f args m = some (v0, mh)) (hv : AV.ren (rhoN m.length q) v0 = some v) (hq : m.length ≤ q) (hq1 : q ≠ k1) (hq2 : q ≠ k2)
    (hk : ∀ j, j < m.length → mh[j]? = m[j]?) (h1 : m.length ≤ k1) (h2 : m.length ≤ k2) (h12 : k1 ≠ k2) (hat : MemAt mh q k1 k2 s') : ∃ ρ γ v0 m0, FoldAt concM f ρ γ v0 m0 args m v (m ++ [.abs (.mem s')]) := by
  let θ : Nat → Option Nat := fun l => if l = 0 then some q else if l = 1 ∧ s'.cells ≠ [] then some k1 else if l = 2 ∧ s'.log ≠ [] then some k2 else none
  have key : ∀ j x, rhoN m.length q j = some x → (j < m.length ∧ x = j) ∨ (j = q ∧ x = m.length) := by
    intro j x hj
    unfold rhoN at hj
    split at hj
    · rename_i h; injection hj with hj; exact .inl ⟨h, hj.symm⟩
    · split at hj
      · rename_i h; injection hj with hj; exact .inr ⟨h, hj.symm⟩
      · cases hj
  refine ⟨rhoN m.length q, fun j => if j = k1 ∨ j = k2 then some m.length else none, v0, mh, hrun, hv, by simp, fun j hj => if_pos hj, fun j x hj hle => ?_, fun j j' x ha hb => ?_, fun j x hj => ?_, fun j x c hj hc => ?_⟩
  · rcases key j x hj with ⟨h, _⟩ | ⟨_, h⟩
    · omega
    · rw [h]; simp
  · rcases key j x ha with ⟨a1, a2⟩ | ⟨a1, a2⟩ <;> rcases key j' x hb with ⟨b1, b2⟩ | ⟨b1, b2⟩ <;> omega
  · split at hj
    · unfold rhoN; rw [if_neg (by omega), if_neg (by omega)]
    · cases hj
  · rcases key j x hj with ⟨hjl, hx⟩ | ⟨hjq, hx⟩
    · subst hx
      refine .inl ⟨fun j' h => ?_, .inr ⟨hjl, by rw [← hk _ hjl]; exact hc, by rw [List.getElem?_append_left hjl, ← hk _ hjl]; exact hc⟩⟩
      split at h
      · injection h with h; omega
      · cases h
    · subst hjq; subst hx
      refine .inr ⟨.mem s', θ, by simp, ?_, rfl, fun l k hl => ?_, fun l k c' hl hc' => ?_, fun l k hl h0 => ?_, fun l l' k ha hb => ?_⟩
      · intro c hc
        simp only [concM, List.mem_cons, List.not_mem_nil, or_false] at hc
        rcases hc with rfl | rfl | rfl <;> exact .inl ⟨_, _, rfl⟩
      · simp only [θ] at hl
        show l < 3
        split at hl
        · omega
        · split at hl
          · omega
          · split at hl
            · omega
            · cases hl
      · match l, hc' with
        | 0, hc' =>
          simp only [concM, List.getElem?_cons_zero, Option.some.injEq] at hc'
          subst hc'
          have hk0 : k = j := by simp only [θ, if_true] at hl; injection hl with hl; exact hl.symm
          subst hk0
          obtain ⟨cv, hr, hcv⟩ := hat.root
          refine ⟨.cells 8 false (rootL s' (lvA k2 s') cv), ⟨rootL s' (lvA k2 s') cv, rfl, rfl, ?_⟩, hr⟩
          have hlv : AV.ren θ (lvA 2 s') = some (lvA k2 s') := by
            unfold lvA
            split
            · rfl
            · rename_i hne; simp [AV.ren, θ, hne]
          have hcv' : GrA θ (cvA 0 1 s') cv := by
            rcases hcv with rfl | ⟨h0, q, o, rfl⟩
            · left
              unfold cvA
              split
              · simp [AV.ren, θ]
              · rename_i hne; simp [AV.ren, θ, hne]
            · right
              exact ⟨by simp [cvA, h0], q, o, rfl⟩
          intro o a b ha hb
          match o, ha, hb with
          | 0, ha, hb | 1, ha, hb | 2, ha, hb | 3, ha, hb | 4, ha, hb | 5, ha, hb =>
            simp only [rootL, List.getElem?_cons_succ, List.getElem?_cons_zero, Option.some.injEq] at ha hb
            subst ha; subst hb; exact .inl rfl
          | 6, ha, hb =>
            simp only [rootL, List.getElem?_cons_succ, List.getElem?_cons_zero, Option.some.injEq] at ha hb
            subst ha; subst hb; exact .inl hlv
          | 7, ha, hb =>
            simp only [rootL, List.getElem?_cons_succ, List.getElem?_cons_zero, Option.some.injEq] at ha hb
            subst ha; subst hb; exact hcv'
          | o + 8, ha, hb => simp [rootL] at ha
        | 1, hc' =>
          simp only [concM, List.getElem?_cons_succ, List.getElem?_cons_zero, Option.some.injEq] at hc'
          subst hc'
          have hne : s'.cells ≠ [] := fun h => by simp [θ, h] at hl
          have hk0 : k = k1 := by simp [θ, hne] at hl; exact hl.symm
          subst hk0
          exact ⟨_, grC_of (by simp only [renC, uC, renL_map (f := AV.int .u64) (fun _ => rfl)]) (fun x h => by cases h), hat.cells hne⟩
        | 2, hc' =>
          simp only [concM, List.getElem?_cons_succ, List.getElem?_cons_zero, Option.some.injEq] at hc'
          subst hc'
          have hne : s'.log ≠ [] := fun h => by simp [θ, h] at hl
          have hk0 : k = k2 := by simp [θ, hne] at hl; exact hl.symm
          subst hk0
          exact ⟨_, grC_of (by simp only [renC, renL_accs]) (fun x h => by cases h), hat.log hne⟩
        | l + 3, hc' => simp [concM] at hc'
      · simp only [θ] at hl
        rw [if_neg h0] at hl
        split at hl
        · injection hl with hl; subst hl; simp
        · split at hl
          · injection hl with hl; subst hl; simp
          · cases hl
      · have key2 : ∀ l, θ l = some k → (l = 0 ∧ k = j) ∨ (l = 1 ∧ k = k1) ∨ (l = 2 ∧ k = k2) := by
          intro l hl
          simp only [θ] at hl
          split at hl
          · rename_i h0; injection hl with hl; exact .inl ⟨h0, hl.symm⟩
          · split at hl
            · rename_i h0; injection hl with hl; exact .inr (.inl ⟨h0.1, hl.symm⟩)
            · split at hl
              · rename_i h0; injection hl with hl; exact .inr (.inr ⟨h0.1, hl.symm⟩)
              · cases hl
        rcases key2 l ha with ⟨a1, a2⟩ | ⟨a1, a2⟩ | ⟨a1, a2⟩ <;> rcases key2 l' hb with ⟨b1, b2⟩ | ⟨b1, b2⟩ | ⟨b1, b2⟩ <;> omega
end Go.Am
end
section
namespace Go.Am.F06
set_option maxRecDepth 10000
def cell_New : AFn := { nloc := 2, npar := 1, res := [.loc 1], body :=
    (.seq
    (.region [
    ⟨.mov, [.c (.nilp)], some 1, none⟩])
    (.seq
    (.region [
    ⟨.mov, [.loc 0], none, none⟩,
    ⟨.min, [.tmp 0, .c (.int .i64 65536)], none, none⟩,
    ⟨.max, [.c (.int .i64 0), .tmp 1], none, none⟩,
    ⟨.make 1 8 [.int .u64 0], [.tmp 2, .tmp 2], none, none⟩,
    ⟨.build [.int .u64 0, .int .u64 0, .int .u64 0, .int .u64 0, .int .u64 0, .int .u64 0, .nils, .nils] [(7, 1)], [.tmp 3], none, none⟩,
    ⟨.box, [.tmp 4], none, none⟩,
    ⟨.mov, [.tmp 5], some 1, none⟩])
    .ret)) }
def cell_Mem_Store : AFn := { nloc := 4, npar := 3, res := [], body :=
    (.seq
    (.region [
    ⟨.box, [.loc 2], some 3, none⟩])
    (.region [
    ⟨.mov, [.loc 0], none, none⟩,
    ⟨.mov, [.loc 1], none, none⟩,
    ⟨.mkfn 49 0, [.loc 3], none, none⟩,
    ⟨.call 50, [.tmp 0, .c (.int .i64 2), .tmp 1, .tmp 2], none, none⟩])) }
def cell_Mem_CAS : AFn := { nloc := 8, npar := 4, res := [.loc 6], body :=
    (.seq
    (.region [
    ⟨.box, [.loc 2], some 4, none⟩,
    ⟨.box, [.loc 3], some 5, none⟩,
    ⟨.mov, [.c (.bool false)], some 6, none⟩])
    (.seq
    (.region [
    ⟨.mov, [.loc 0], none, none⟩,
    ⟨.mov, [.loc 1], none, none⟩,
    ⟨.mkfn 51 0, [.loc 4, .loc 5], none, none⟩,
    ⟨.call 50, [.tmp 0, .c (.int .i64 3), .tmp 1, .tmp 2], none, none⟩,
    ⟨.mov, [.tmp 3], none, none⟩,
    ⟨.extract 0, [.tmp 4], none, none⟩,
    ⟨.extract 1, [.tmp 4], none, none⟩,
    ⟨.mov, [.tmp 5], none, none⟩,
    ⟨.mov, [.tmp 6], some 7, none⟩])
    (.seq
    (.region [
    ⟨.mov, [.loc 7], none, none⟩,
    ⟨.mov, [.tmp 0], some 6, none⟩])
    .ret))) }
def cell_Mem_Load : AFn := { nloc := 4, npar := 2, res := [.loc 2], body :=
    (.seq
    (.region [
    ⟨.mov, [.c (.int .u64 0)], some 2, none⟩])
    (.seq
    (.region [
    ⟨.mov, [.loc 0], none, none⟩,
    ⟨.mov, [.loc 1], none, none⟩,
    ⟨.call 50, [.tmp 0, .c (.int .i64 1), .tmp 1, .c (.fn 52 [] [])], none, none⟩,
    ⟨.mov, [.tmp 2], none, none⟩,
    ⟨.extract 0, [.tmp 3], none, none⟩,
    ⟨.extract 1, [.tmp 3], none, none⟩,
    ⟨.mov, [.tmp 4], some 3, none⟩,
    ⟨.mov, [.tmp 5], none, none⟩])
    (.seq
    (.region [
    ⟨.mov, [.loc 3], none, none⟩,
    ⟨.mov, [.tmp 0], some 2, none⟩])
    .ret))) }
def cell_Mem_Len : AFn := { nloc := 3, npar := 1, res := [.loc 1], body :=
    (.seq
    (.region [
    ⟨.mov, [.c (.int .i64 0)], some 1, none⟩])
    (.seq
    (.seq
    (.region [
    ⟨.mov, [.loc 0], none, none⟩,
    ⟨.eqv .ptr false, [.tmp 0, .c (.nilp)], some 2, none⟩])
    (.cond (.loc 2)
      (.seq
      (.region [
    ⟨.mov, [.c (.int .i64 0)], some 1, none⟩])
      .ret)
      .skip))
    (.seq
    (.region [
    ⟨.mov, [.loc 0], none, none⟩,
    ⟨.nilc, [.tmp 0], none, none⟩,
    ⟨.faddr 7, [.tmp 1], none, none⟩,
    ⟨.load none, [.tmp 2], none, none⟩,
    ⟨.len, [.tmp 3], none, none⟩,
    ⟨.mov, [.tmp 4], some 1, none⟩])
    .ret))) }
def cell_Mem_Ops : AFn := { nloc := 3, npar := 1, res := [.loc 1], body :=
    (.seq
    (.region [
    ⟨.mov, [.c (.int .u64 0)], some 1, none⟩])
    (.seq
    (.seq
    (.region [
    ⟨.mov, [.loc 0], none, none⟩,
    ⟨.eqv .ptr false, [.tmp 0, .c (.nilp)], some 2, none⟩])
    (.cond (.loc 2)
      (.seq
      (.region [
    ⟨.mov, [.c (.int .u64 0)], some 1, none⟩])
      .ret)
      .skip))
    (.seq
    (.region [
    ⟨.mov, [.loc 0], none, none⟩,
    ⟨.nilc, [.tmp 0], none, none⟩,
    ⟨.faddr 0, [.tmp 1], none, none⟩,
    ⟨.faddr 0, [.tmp 2], none, none⟩,
    ⟨.load none, [.tmp 3], none, none⟩,
    ⟨.mov, [.tmp 4], some 1, none⟩])
    .ret))) }
def cell_Mem_All : AFn := { nloc := 3, npar := 1, res := [.loc 1], body :=
    (.seq
    (.region [
    ⟨.mov, [.c (.nils)], some 1, none⟩])
    (.seq
    (.seq
    (.region [
    ⟨.mov, [.loc 0], none, none⟩,
    ⟨.eqv .ptr false, [.tmp 0, .c (.nilp)], some 2, none⟩])
    (.cond (.loc 2)
      (.seq
      (.region [
    ⟨.mov, [.c (.nils)], some 1, none⟩])
      .ret)
      .skip))
    (.seq
    (.region [
    ⟨.mov, [.loc 0], none, none⟩,
    ⟨.nilc, [.tmp 0], none, none⟩,
    ⟨.faddr 7, [.tmp 1], none, none⟩,
    ⟨.load none, [.tmp 2], none, none⟩,
    ⟨.call 61, [.tmp 3], none, none⟩,
    ⟨.mov, [.tmp 4], some 1, none⟩])
    .ret))) }
def cell_Mem_access : AFn := { nloc := 8, npar := 4, res := [.loc 4, .loc 5], body :=
    (.seq
    (.region [
    ⟨.mov, [.c (.int .u64 0)], some 4, none⟩,
    ⟨.mov, [.c (.bool false)], some 5, none⟩])
    (.seq
    (.seq
    (.region [
    ⟨.mov, [.loc 0], none, none⟩,
    ⟨.mov, [.loc 2], none, none⟩,
    ⟨.call 56, [.tmp 0, .tmp 1], none, none⟩,
    ⟨.not, [.tmp 2], some 7, none⟩])
    (.cond (.loc 7)
      (.seq
      (.region [
    ⟨.mov, [.c (.int .u64 0)], some 4, none⟩,
    ⟨.mov, [.c (.bool false)], some 5, none⟩])
      .ret)
      .skip))
    (.seq
    (.region [
    ⟨.mov, [.loc 0], none, none⟩,
    ⟨.nilc, [.tmp 0], none, none⟩,
    ⟨.faddr 7, [.tmp 1], none, none⟩,
    ⟨.load none, [.tmp 2], none, none⟩,
    ⟨.mov, [.loc 2], none, none⟩,
    ⟨.iaddr 1 none, [.tmp 3, .tmp 4], none, none⟩,
    ⟨.load none, [.tmp 5], none, none⟩,
    ⟨.mov, [.tmp 6], some 4, none⟩])
    (.seq
    (.region [
    ⟨.mov, [.loc 3], none, none⟩,
    ⟨.mov, [.loc 4], none, none⟩,
    ⟨.callv, [.tmp 0, .tmp 1], none, none⟩,
    ⟨.mov, [.tmp 2], none, none⟩,
    ⟨.extract 0, [.tmp 3], none, none⟩,
    ⟨.extract 1, [.tmp 3], none, none⟩,
    ⟨.mov, [.tmp 4], some 6, none⟩,
    ⟨.mov, [.tmp 5], some 5, none⟩])
    (.seq
    (.region [
    ⟨.mov, [.loc 0], none, none⟩,
    ⟨.nilc, [.tmp 0], none, none⟩,
    ⟨.faddr 7, [.tmp 1], none, none⟩,
    ⟨.load none, [.tmp 2], none, none⟩,
    ⟨.mov, [.loc 2], none, none⟩,
    ⟨.mov, [.loc 6], none, none⟩,
    ⟨.iaddr 1 none, [.tmp 3, .tmp 4], none, none⟩,
    ⟨.store 1, [.tmp 6, .tmp 5], none, none⟩])
    (.seq
    (.region [
    ⟨.mov, [.loc 0], none, none⟩,
    ⟨.nilc, [.tmp 0], none, none⟩,
    ⟨.faddr 0, [.tmp 1], none, none⟩,
    ⟨.mov, [.loc 1], none, none⟩,
    ⟨.mov, [.loc 2], none, none⟩,
    ⟨.mov, [.loc 4], none, none⟩,
    ⟨.mov, [.loc 6], none, none⟩,
    ⟨.build [.int .i64 0, .int .i64 0, .int .u64 0, .int .u64 0] [(0, 1), (1, 1), (2, 1), (3, 1)], [.tmp 3, .tmp 4, .tmp 5, .tmp 6], none, none⟩,
    ⟨.mov, [.loc 5], none, none⟩,
    ⟨.call 71, [.tmp 2, .tmp 7, .tmp 8], none, none⟩])
    (.seq
    (.region [
    ⟨.mov, [.loc 4], none, none⟩,
    ⟨.mov, [.loc 5], none, none⟩,
    ⟨.mov, [.tmp 0], some 4, none⟩,
    ⟨.mov, [.tmp 1], some 5, none⟩])
    .ret))))))) }
def cell_Mem_Store_1 : AFn := { nloc := 4, npar := 2, res := [.loc 2, .loc 3], body :=
    (.seq
    (.region [
    ⟨.mov, [.c (.int .u64 0)], some 2, none⟩,
    ⟨.mov, [.c (.bool false)], some 3, none⟩])
    (.seq
    (.region [
    ⟨.load none, [.loc 1], none, none⟩,
    ⟨.mov, [.tmp 0], some 2, none⟩,
    ⟨.mov, [.c (.bool true)], some 3, none⟩])
    .ret)) }
def cell_Mem_CAS_1 : AFn := { nloc := 6, npar := 3, res := [.loc 3, .loc 4], body :=
    (.seq
    (.region [
    ⟨.mov, [.c (.int .u64 0)], some 3, none⟩,
    ⟨.mov, [.c (.bool false)], some 4, none⟩])
    (.seq
    (.seq
    (.region [
    ⟨.mov, [.loc 0], none, none⟩,
    ⟨.load none, [.loc 1], none, none⟩,
    ⟨.bin .neq, [.tmp 0, .tmp 1], some 5, none⟩])
    (.cond (.loc 5)
      (.seq
      (.region [
    ⟨.mov, [.loc 0], none, none⟩,
    ⟨.mov, [.tmp 0], some 3, none⟩,
    ⟨.mov, [.c (.bool false)], some 4, none⟩])
      .ret)
      .skip))
    (.seq
    (.region [
    ⟨.load none, [.loc 2], none, none⟩,
    ⟨.mov, [.tmp 0], some 3, none⟩,
    ⟨.mov, [.c (.bool true)], some 4, none⟩])
    .ret))) }
def cell_Mem_Load_1 : AFn := { nloc := 3, npar := 1, res := [.loc 1, .loc 2], body :=
    (.seq
    (.region [
    ⟨.mov, [.c (.int .u64 0)], some 1, none⟩,
    ⟨.mov, [.c (.bool false)], some 2, none⟩])
    (.seq
    (.region [
    ⟨.mov, [.loc 0], none, none⟩,
    ⟨.mov, [.tmp 0], some 1, none⟩,
    ⟨.mov, [.c (.bool true)], some 2, none⟩])
    .ret)) }
def ref06_At : AFn := { nloc := 7, npar := 2, res := [.loc 3], body :=
    (.seq
    (.region [
    ⟨.box, [.loc 0], some 2, none⟩,
    ⟨.mov, [.c (.int .u64 0)], some 3, none⟩])
    (.seq
    (.seq
    (.region [
    ⟨.faddr 1, [.loc 2], none, none⟩,
    ⟨.load none, [.tmp 0], none, none⟩,
    ⟨.len, [.tmp 1], none, none⟩,
    ⟨.bin .sub, [.tmp 2, .c (.int .i64 1)], none, none⟩,
    ⟨.mov, [.tmp 3], some 4, none⟩])
    (.block 0
    (.loop
    (.seq
    (.seq
    (.region [
    ⟨.mov, [.loc 4], none, none⟩,
    ⟨.bin .geq, [.tmp 0, .c (.int .i64 0)], some 5, none⟩])
    (.cond (.loc 5)
      .skip
      (.exit 0)))
    (.seq
    (.block 1
    (.seq
    (.region [
    ⟨.faddr 1, [.loc 2], none, none⟩,
    ⟨.load none, [.tmp 0], none, none⟩,
    ⟨.mov, [.loc 4], none, none⟩,
    ⟨.iaddr 4 none, [.tmp 1, .tmp 2], none, none⟩,
    ⟨.faddr 1, [.tmp 3], none, none⟩,
    ⟨.load none, [.tmp 4], none, none⟩,
    ⟨.mov, [.loc 1], none, none⟩,
    ⟨.bin .eql, [.tmp 5, .tmp 6], some 6, none⟩])
    (.cond (.loc 6)
      (.seq
      (.region [
    ⟨.faddr 1, [.loc 2], none, none⟩,
    ⟨.load none, [.tmp 0], none, none⟩,
    ⟨.mov, [.loc 4], none, none⟩,
    ⟨.iaddr 4 none, [.tmp 1, .tmp 2], none, none⟩,
    ⟨.faddr 3, [.tmp 3], none, none⟩,
    ⟨.load none, [.tmp 4], none, none⟩,
    ⟨.mov, [.tmp 5], some 3, none⟩])
      .ret)
      .skip)))
    (.region [
    ⟨.mov, [.loc 4], none, none⟩,
    ⟨.bin .sub, [.tmp 0, .c (.int .i64 1)], none, none⟩,
    ⟨.mov, [.tmp 1], some 4, none⟩]))))))
    (.seq
    (.region [
    ⟨.mov, [.c (.int .u64 0)], some 3, none⟩])
    .ret))) }
def cell_Mem_there : AFn := { nloc := 3, npar := 2, res := [.loc 2], body :=
    (.seq
    (.region [
    ⟨.mov, [.c (.bool false)], some 2, none⟩])
    (.seq
    (.region [
    ⟨.mov, [.loc 0], none, none⟩,
    ⟨.eqv .ptr true, [.tmp 0, .c (.nilp)], none, none⟩,
    ⟨.mov, [.tmp 1], none, none⟩,
    ⟨.mov, [.loc 1], none, some (2, true)⟩,
    ⟨.bin .geq, [.tmp 3, .c (.int .i64 0)], none, some (2, true)⟩,
    ⟨.pick, [.tmp 2, .tmp 4, .c (.bool false)], none, none⟩,
    ⟨.mov, [.tmp 5], none, none⟩,
    ⟨.mov, [.loc 1], none, some (6, true)⟩,
    ⟨.mov, [.loc 0], none, some (6, true)⟩,
    ⟨.nilc, [.tmp 8], none, some (6, true)⟩,
    ⟨.faddr 7, [.tmp 9], none, some (6, true)⟩,
    ⟨.load none, [.tmp 10], none, some (6, true)⟩,
    ⟨.len, [.tmp 11], none, some (6, true)⟩,
    ⟨.bin .lss, [.tmp 7, .tmp 12], none, some (6, true)⟩,
    ⟨.pick, [.tmp 6, .tmp 13, .c (.bool false)], none, none⟩,
    ⟨.mov, [.tmp 14], some 2, none⟩])
    .ret)) }
def docs_SameCells : AFn := { nloc := 7, npar := 2, res := [.loc 2], body :=
    (.seq
    (.region [
    ⟨.mov, [.c (.bool false)], some 2, none⟩])
    (.seq
    (.seq
    (.region [
    ⟨.mov, [.loc 0], none, none⟩,
    ⟨.len, [.tmp 0], none, none⟩,
    ⟨.mov, [.loc 1], none, none⟩,
    ⟨.len, [.tmp 2], none, none⟩,
    ⟨.bin .neq, [.tmp 1, .tmp 3], some 4, none⟩])
    (.cond (.loc 4)
      (.seq
      (.region [
    ⟨.mov, [.c (.bool false)], some 2, none⟩])
      .ret)
      .skip))
    (.seq
    (.seq
    (.region [
    ⟨.mov, [.c (.int .i64 0)], some 3, none⟩])
    (.block 0
    (.loop
    (.seq
    (.seq
    (.region [
    ⟨.mov, [.loc 3], none, none⟩,
    ⟨.mov, [.loc 0], none, none⟩,
    ⟨.len, [.tmp 1], none, none⟩,
    ⟨.bin .lss, [.tmp 0, .tmp 2], some 5, none⟩])
    (.cond (.loc 5)
      .skip
      (.exit 0)))
    (.seq
    (.block 1
    (.seq
    (.seq
    (.region [
    ⟨.mov, [.loc 0], none, none⟩,
    ⟨.mov, [.loc 3], none, none⟩,
    ⟨.iaddr 1 none, [.tmp 0, .tmp 1], none, none⟩,
    ⟨.load none, [.tmp 2], none, none⟩,
    ⟨.mov, [.loc 1], none, none⟩,
    ⟨.mov, [.loc 3], none, none⟩,
    ⟨.iaddr 1 none, [.tmp 4, .tmp 5], none, none⟩,
    ⟨.load none, [.tmp 6], none, none⟩,
    ⟨.bin .neq, [.tmp 3, .tmp 7], some 6, none⟩])
    (.cond (.loc 6)
      (.seq
      (.region [
    ⟨.mov, [.c (.bool false)], some 2, none⟩])
      .ret)
      .skip))
    (.region [
    ⟨.mov, [.loc 0], none, none⟩,
    ⟨.mov, [.loc 3], none, none⟩,
    ⟨.mov, [.loc 0], none, none⟩,
    ⟨.mov, [.loc 3], none, none⟩,
    ⟨.iaddr 1 none, [.tmp 2, .tmp 3], none, none⟩,
    ⟨.load none, [.tmp 4], none, none⟩,
    ⟨.bin .add, [.tmp 5, .c (.int .u64 77)], none, none⟩,
    ⟨.iaddr 1 none, [.tmp 0, .tmp 1], none, none⟩,
    ⟨.store 1, [.tmp 7, .tmp 6], none, none⟩])))
    (.region [
    ⟨.mov, [.loc 3], none, none⟩,
    ⟨.bin .add, [.tmp 0, .c (.int .i64 1)], none, none⟩,
    ⟨.mov, [.tmp 1], some 3, none⟩]))))))
    (.seq
    (.region [
    ⟨.mov, [.c (.bool true)], some 2, none⟩])
    .ret)))) }
def slices_Clone_uint64 : AFn := { nloc := 3, npar := 1, res := [.loc 1], body :=
    (.seq
    (.region [
    ⟨.mov, [.c (.nils)], some 1, none⟩])
    (.seq
    (.seq
    (.region [
    ⟨.mov, [.loc 0], none, none⟩,
    ⟨.eqv .slc false, [.tmp 0, .c (.nils)], some 2, none⟩])
    (.cond (.loc 2)
      (.seq
      (.region [
    ⟨.mov, [.c (.nils)], some 1, none⟩])
      .ret)
      .skip))
    (.seq
    (.region [
    ⟨.lit 0 1 [.int .u64 0] [], [], none, none⟩,
    ⟨.mov, [.loc 0], none, none⟩,
    ⟨.append 1 8, [.tmp 0, .tmp 1], none, none⟩,
    ⟨.mov, [.tmp 2], some 1, none⟩])
    .ret))) }
def ref06_New : AFn := { nloc := 2, npar := 1, res := [.cell 1 (some 2)], body :=
    (.seq
    (.region [
    ⟨.alloc [.nils, .int .u64 0], [], some 1, none⟩])
    (.seq
    (.region [
    ⟨.mov, [.loc 0], none, none⟩,
    ⟨.min, [.tmp 0, .c (.int .i64 65536)], none, none⟩,
    ⟨.max, [.c (.int .i64 0), .tmp 1], none, none⟩,
    ⟨.make 1 8 [.int .u64 0], [.tmp 2, .tmp 2], none, none⟩,
    ⟨.build [.nils, .int .u64 0] [(0, 1)], [.tmp 3], none, none⟩,
    ⟨.store 2, [.loc 1, .tmp 4], none, none⟩])
    .ret)) }
def ref06_Load : AFn := { nloc := 6, npar := 2, res := [.cell 3 (some 2), .loc 4], body :=
    (.seq
    (.region [
    ⟨.box, [.loc 0], some 2, none⟩,
    ⟨.alloc [.nils, .int .u64 0], [], some 3, none⟩,
    ⟨.mov, [.c (.int .u64 0)], some 4, none⟩])
    (.seq
    (.seq
    (.region [
    ⟨.load (some 2), [.loc 2], none, none⟩,
    ⟨.mov, [.loc 1], none, none⟩,
    ⟨.call 72, [.tmp 0, .tmp 1], none, none⟩,
    ⟨.not, [.tmp 2], some 5, none⟩])
    (.cond (.loc 5)
      (.seq
      (.region [
    ⟨.load (some 2), [.loc 2], none, none⟩,
    ⟨.store 2, [.loc 3, .tmp 0], none, none⟩,
    ⟨.mov, [.c (.int .u64 0)], some 4, none⟩])
      .ret)
      .skip))
    (.seq
    (.draw [0, 1, 2, 3, 4, 5, 6, 7, 8, 9, 10, 11, 12] 0 [
    ⟨.faddr 0, [.loc 2], none, none⟩,
    ⟨.load none, [.tmp 0], none, none⟩,
    ⟨.faddr 1, [.loc 2], none, none⟩,
    ⟨.load none, [.tmp 2], none, none⟩,
    ⟨.bin .add, [.tmp 3, .c (.int .u64 1)], none, none⟩,
    ⟨.build [.nils, .int .u64 0] [(0, 1), (1, 1)], [.tmp 1, .tmp 4], none, none⟩,
    ⟨.faddr 0, [.loc 2], none, none⟩,
    ⟨.load none, [.tmp 6], none, none⟩,
    ⟨.mov, [.loc 1], none, none⟩,
    ⟨.iaddr 1 none, [.tmp 7, .tmp 8], none, none⟩,
    ⟨.load none, [.tmp 9], none, none⟩,
    ⟨.store 2, [.loc 3, .tmp 5], none, none⟩,
    ⟨.mov, [.tmp 10], some 4, none⟩] [(7, [12]), (10, [12])])
    .ret))) }
def ref06_Store : AFn := { nloc := 6, npar := 3, res := [.cell 4 (some 2)], body :=
    (.seq
    (.region [
    ⟨.box, [.loc 0], some 3, none⟩,
    ⟨.alloc [.nils, .int .u64 0], [], some 4, none⟩])
    (.seq
    (.seq
    (.region [
    ⟨.load (some 2), [.loc 3], none, none⟩,
    ⟨.mov, [.loc 1], none, none⟩,
    ⟨.call 72, [.tmp 0, .tmp 1], none, none⟩,
    ⟨.not, [.tmp 2], some 5, none⟩])
    (.cond (.loc 5)
      (.seq
      (.region [
    ⟨.load (some 2), [.loc 3], none, none⟩,
    ⟨.store 2, [.loc 4, .tmp 0], none, none⟩])
      .ret)
      .skip))
    (.seq
    (.region [
    ⟨.load (some 2), [.loc 3], none, none⟩,
    ⟨.mov, [.loc 1], none, none⟩,
    ⟨.mov, [.loc 2], none, none⟩,
    ⟨.call 73, [.tmp 0, .tmp 1, .tmp 2], none, none⟩,
    ⟨.store 2, [.loc 4, .tmp 3], none, none⟩])
    .ret))) }
def ref06_CAS : AFn := { nloc := 9, npar := 4, res := [.cell 5 (some 2), .loc 6], body :=
    (.seq
    (.region [
    ⟨.box, [.loc 0], some 4, none⟩,
    ⟨.alloc [.nils, .int .u64 0], [], some 5, none⟩,
    ⟨.mov, [.c (.bool false)], some 6, none⟩])
    (.seq
    (.seq
    (.region [
    ⟨.load (some 2), [.loc 4], none, none⟩,
    ⟨.mov, [.loc 1], none, none⟩,
    ⟨.call 72, [.tmp 0, .tmp 1], none, none⟩,
    ⟨.not, [.tmp 2], some 7, none⟩])
    (.cond (.loc 7)
      (.seq
      (.region [
    ⟨.load (some 2), [.loc 4], none, none⟩,
    ⟨.store 2, [.loc 5, .tmp 0], none, none⟩,
    ⟨.mov, [.c (.bool false)], some 6, none⟩])
      .ret)
      .skip))
    (.seq
    (.seq
    (.region [
    ⟨.faddr 0, [.loc 4], none, none⟩,
    ⟨.load none, [.tmp 0], none, none⟩,
    ⟨.mov, [.loc 1], none, none⟩,
    ⟨.iaddr 1 none, [.tmp 1, .tmp 2], none, none⟩,
    ⟨.load none, [.tmp 3], none, none⟩,
    ⟨.mov, [.loc 2], none, none⟩,
    ⟨.bin .neq, [.tmp 4, .tmp 5], some 8, none⟩])
    (.cond (.loc 8)
      (.seq
      (.region [
    ⟨.faddr 0, [.loc 4], none, none⟩,
    ⟨.load none, [.tmp 0], none, none⟩,
    ⟨.faddr 1, [.loc 4], none, none⟩,
    ⟨.load none, [.tmp 2], none, none⟩,
    ⟨.bin .add, [.tmp 3, .c (.int .u64 1)], none, none⟩,
    ⟨.build [.nils, .int .u64 0] [(0, 1), (1, 1)], [.tmp 1, .tmp 4], none, none⟩,
    ⟨.store 2, [.loc 5, .tmp 5], none, none⟩,
    ⟨.mov, [.c (.bool false)], some 6, none⟩])
      .ret)
      .skip))
    (.seq
    (.region [
    ⟨.load (some 2), [.loc 4], none, none⟩,
    ⟨.mov, [.loc 1], none, none⟩,
    ⟨.mov, [.loc 3], none, none⟩,
    ⟨.call 73, [.tmp 0, .tmp 1, .tmp 2], none, none⟩,
    ⟨.store 2, [.loc 5, .tmp 3], none, none⟩,
    ⟨.mov, [.c (.bool true)], some 6, none⟩])
    .ret)))) }
def docs_SameMem : AFn := { nloc := 4, npar := 2, res := [.loc 3], body :=
    (.seq
    (.region [
    ⟨.box, [.loc 1], some 2, none⟩,
    ⟨.mov, [.c (.bool false)], some 3, none⟩])
    (.seq
    (.draw [0, 1, 2, 3, 4, 5, 6, 7, 8, 9, 10, 11, 12, 13, 14, 15, 16, 17, 18, 19, 20] 0 [
    ⟨.mov, [.loc 0], none, none⟩,
    ⟨.call 34, [.tmp 0], none, none⟩,
    ⟨.faddr 0, [.loc 2], none, none⟩,
    ⟨.load none, [.tmp 2], none, none⟩,
    ⟨.len, [.tmp 3], none, none⟩,
    ⟨.bin .eql, [.tmp 1, .tmp 4], none, none⟩,
    ⟨.mov, [.tmp 5], none, none⟩,
    ⟨.mov, [.loc 0], none, some (6, true)⟩,
    ⟨.call 46, [.tmp 7], none, some (6, true)⟩,
    ⟨.faddr 1, [.loc 2], none, some (6, true)⟩,
    ⟨.load none, [.tmp 9], none, some (6, true)⟩,
    ⟨.bin .eql, [.tmp 8, .tmp 10], none, some (6, true)⟩,
    ⟨.pick, [.tmp 6, .tmp 11, .c (.bool false)], none, none⟩,
    ⟨.mov, [.tmp 12], none, none⟩,
    ⟨.mov, [.loc 0], none, some (13, true)⟩,
    ⟨.call 47, [.tmp 14], none, some (13, true)⟩,
    ⟨.faddr 0, [.loc 2], none, some (13, true)⟩,
    ⟨.load none, [.tmp 16], none, some (13, true)⟩,
    ⟨.call 58, [.tmp 15, .tmp 17], none, some (13, true)⟩,
    ⟨.pick, [.tmp 13, .tmp 18, .c (.bool false)], none, none⟩,
    ⟨.mov, [.tmp 19], some 3, none⟩] [(3, [0]), (10, [2]), (17, [9])])
    .ret)) }
def cell_Mem_Add_1 : AFn := { nloc := 4, npar := 2, res := [.loc 2, .loc 3], body :=
    (.seq
    (.region [
    ⟨.mov, [.c (.int .u64 0)], some 2, none⟩,
    ⟨.mov, [.c (.bool false)], some 3, none⟩])
    (.seq
    (.region [
    ⟨.mov, [.loc 0], none, none⟩,
    ⟨.load none, [.loc 1], none, none⟩,
    ⟨.bin .add, [.tmp 0, .tmp 1], none, none⟩,
    ⟨.mov, [.tmp 2], some 2, none⟩,
    ⟨.mov, [.c (.bool true)], some 3, none⟩])
    .ret)) }
def cell_counts_note : AFn := { nloc := 9, npar := 3, res := [], body :=
    (.seq
    (.region [
    ⟨.box, [.loc 1], some 3, none⟩])
    (.seq
    (.region [
    ⟨.mov, [.loc 0], none, none⟩,
    ⟨.nilc, [.tmp 0], none, none⟩,
    ⟨.faddr 0, [.tmp 1], none, none⟩,
    ⟨.load none, [.tmp 2], none, none⟩,
    ⟨.bin .add, [.tmp 3, .c (.int .u64 1)], none, none⟩,
    ⟨.nilc, [.tmp 0], none, none⟩,
    ⟨.faddr 0, [.tmp 5], none, none⟩,
    ⟨.store 1, [.tmp 6, .tmp 4], none, none⟩])
    (.seq
    (.block 0
    (.seq
    (.region [
    ⟨.faddr 0, [.loc 3], none, none⟩,
    ⟨.load none, [.tmp 0], none, none⟩,
    ⟨.bin .eql, [.tmp 1, .c (.int .i64 1)], none, none⟩,
    ⟨.mov, [.tmp 2], some 4, none⟩])
    (.cond (.loc 4)
      (.region [
    ⟨.mov, [.loc 0], none, none⟩,
    ⟨.nilc, [.tmp 0], none, none⟩,
    ⟨.faddr 1, [.tmp 1], none, none⟩,
    ⟨.faddr 0, [.tmp 2], none, none⟩,
    ⟨.load none, [.tmp 3], none, none⟩,
    ⟨.bin .add, [.tmp 4, .c (.int .u64 1)], none, none⟩,
    ⟨.nilc, [.tmp 0], none, none⟩,
    ⟨.faddr 1, [.tmp 6], none, none⟩,
    ⟨.faddr 0, [.tmp 7], none, none⟩,
    ⟨.store 1, [.tmp 8, .tmp 5], none, none⟩])
      (.seq
      (.region [
    ⟨.faddr 0, [.loc 3], none, none⟩,
    ⟨.load none, [.tmp 0], none, none⟩,
    ⟨.bin .eql, [.tmp 1, .c (.int .i64 2)], none, none⟩,
    ⟨.mov, [.tmp 2], some 5, none⟩])
      (.cond (.loc 5)
        (.region [
    ⟨.mov, [.loc 0], none, none⟩,
    ⟨.nilc, [.tmp 0], none, none⟩,
    ⟨.faddr 1, [.tmp 1], none, none⟩,
    ⟨.faddr 1, [.tmp 2], none, none⟩,
    ⟨.load none, [.tmp 3], none, none⟩,
    ⟨.bin .add, [.tmp 4, .c (.int .u64 1)], none, none⟩,
    ⟨.nilc, [.tmp 0], none, none⟩,
    ⟨.faddr 1, [.tmp 6], none, none⟩,
    ⟨.faddr 1, [.tmp 7], none, none⟩,
    ⟨.store 1, [.tmp 8, .tmp 5], none, none⟩])
        (.seq
        (.region [
    ⟨.faddr 0, [.loc 3], none, none⟩,
    ⟨.load none, [.tmp 0], none, none⟩,
    ⟨.bin .eql, [.tmp 1, .c (.int .i64 3)], none, none⟩,
    ⟨.mov, [.tmp 2], none, none⟩,
    ⟨.mov, [.loc 2], none, some (3, true)⟩,
    ⟨.pick, [.tmp 3, .tmp 4, .c (.bool false)], none, none⟩,
    ⟨.mov, [.tmp 5], some 6, none⟩])
        (.cond (.loc 6)
          (.region [
    ⟨.mov, [.loc 0], none, none⟩,
    ⟨.nilc, [.tmp 0], none, none⟩,
    ⟨.faddr 1, [.tmp 1], none, none⟩,
    ⟨.faddr 2, [.tmp 2], none, none⟩,
    ⟨.load none, [.tmp 3], none, none⟩,
    ⟨.bin .add, [.tmp 4, .c (.int .u64 1)], none, none⟩,
    ⟨.nilc, [.tmp 0], none, none⟩,
    ⟨.faddr 1, [.tmp 6], none, none⟩,
    ⟨.faddr 2, [.tmp 7], none, none⟩,
    ⟨.store 1, [.tmp 8, .tmp 5], none, none⟩])
          (.seq
          (.region [
    ⟨.faddr 0, [.loc 3], none, none⟩,
    ⟨.load none, [.tmp 0], none, none⟩,
    ⟨.bin .eql, [.tmp 1, .c (.int .i64 3)], none, none⟩,
    ⟨.mov, [.tmp 2], some 7, none⟩])
          (.cond (.loc 7)
            (.region [
    ⟨.mov, [.loc 0], none, none⟩,
    ⟨.nilc, [.tmp 0], none, none⟩,
    ⟨.faddr 1, [.tmp 1], none, none⟩,
    ⟨.faddr 3, [.tmp 2], none, none⟩,
    ⟨.load none, [.tmp 3], none, none⟩,
    ⟨.bin .add, [.tmp 4, .c (.int .u64 1)], none, none⟩,
    ⟨.nilc, [.tmp 0], none, none⟩,
    ⟨.faddr 1, [.tmp 6], none, none⟩,
    ⟨.faddr 3, [.tmp 7], none, none⟩,
    ⟨.store 1, [.tmp 8, .tmp 5], none, none⟩])
            (.region [
    ⟨.mov, [.loc 0], none, none⟩,
    ⟨.nilc, [.tmp 0], none, none⟩,
    ⟨.faddr 1, [.tmp 1], none, none⟩,
    ⟨.faddr 4, [.tmp 2], none, none⟩,
    ⟨.load none, [.tmp 3], none, none⟩,
    ⟨.bin .add, [.tmp 4, .c (.int .u64 1)], none, none⟩,
    ⟨.nilc, [.tmp 0], none, none⟩,
    ⟨.faddr 1, [.tmp 6], none, none⟩,
    ⟨.faddr 4, [.tmp 7], none, none⟩,
    ⟨.store 1, [.tmp 8, .tmp 5], none, none⟩]))))))))))
    (.seq
    (.draw [0, 1, 2, 3, 4, 5, 6, 7, 8, 9, 10] 0 [
    ⟨.mov, [.loc 0], none, none⟩,
    ⟨.mov, [.loc 0], none, none⟩,
    ⟨.nilc, [.tmp 1], none, none⟩,
    ⟨.faddr 6, [.tmp 2], none, none⟩,
    ⟨.load none, [.tmp 3], none, none⟩,
    ⟨.load (some 4), [.loc 3], none, none⟩,
    ⟨.lit 1 4 [.int .i64 0, .int .i64 0, .int .u64 0, .int .u64 0] [(0, 4)], [.tmp 5], none, none⟩,
    ⟨.append 4 32, [.tmp 4, .tmp 6], none, none⟩,
    ⟨.nilc, [.tmp 0], none, none⟩,
    ⟨.faddr 6, [.tmp 8], none, none⟩,
    ⟨.store 1, [.tmp 9, .tmp 7], none, none⟩] [(4, [7])])
    (.seq
    (.region [
    ⟨.mov, [.loc 0], none, none⟩,
    ⟨.nilc, [.tmp 0], none, none⟩,
    ⟨.faddr 6, [.tmp 1], none, none⟩,
    ⟨.load none, [.tmp 2], none, none⟩,
    ⟨.len, [.tmp 3], none, none⟩,
    ⟨.bin .gtr, [.tmp 4, .c (.int .i64 256)], some 8, none⟩])
    (.cond (.loc 8)
      (.region [
    ⟨.mov, [.loc 0], none, none⟩,
    ⟨.mov, [.loc 0], none, none⟩,
    ⟨.nilc, [.tmp 1], none, none⟩,
    ⟨.faddr 6, [.tmp 2], none, none⟩,
    ⟨.load none, [.tmp 3], none, none⟩,
    ⟨.slice 4 true false false, [.tmp 4, .c (.int .i64 1)], none, none⟩,
    ⟨.nilc, [.tmp 0], none, none⟩,
    ⟨.faddr 6, [.tmp 6], none, none⟩,
    ⟨.store 1, [.tmp 7, .tmp 5], none, none⟩])
      .skip)))))) }
def ref06_there : AFn := { nloc := 4, npar := 2, res := [.loc 3], body :=
    (.seq
    (.region [
    ⟨.box, [.loc 0], some 2, none⟩,
    ⟨.mov, [.c (.bool false)], some 3, none⟩])
    (.seq
    (.region [
    ⟨.mov, [.loc 1], none, none⟩,
    ⟨.bin .geq, [.tmp 0, .c (.int .i64 0)], none, none⟩,
    ⟨.mov, [.tmp 1], none, none⟩,
    ⟨.mov, [.loc 1], none, some (2, true)⟩,
    ⟨.faddr 0, [.loc 2], none, some (2, true)⟩,
    ⟨.load none, [.tmp 4], none, some (2, true)⟩,
    ⟨.len, [.tmp 5], none, some (2, true)⟩,
    ⟨.bin .lss, [.tmp 3, .tmp 6], none, some (2, true)⟩,
    ⟨.pick, [.tmp 2, .tmp 7, .c (.bool false)], none, none⟩,
    ⟨.mov, [.tmp 8], some 3, none⟩])
    .ret)) }
def ref06_with : AFn := { nloc := 6, npar := 3, res := [.cell 4 (some 2)], body :=
    (.seq
    (.region [
    ⟨.box, [.loc 0], some 3, none⟩,
    ⟨.alloc [.nils, .int .u64 0], [], some 4, none⟩])
    (.seq
    (.region [
    ⟨.mov, [.c (.nils)], some 5, none⟩])
    (.seq
    (.region [
    ⟨.mov, [.loc 5], none, none⟩,
    ⟨.faddr 0, [.loc 3], none, none⟩,
    ⟨.load none, [.tmp 1], none, none⟩,
    ⟨.append 1 8, [.tmp 0, .tmp 2], none, none⟩,
    ⟨.mov, [.tmp 3], some 5, none⟩])
    (.seq
    (.region [
    ⟨.mov, [.loc 5], none, none⟩,
    ⟨.mov, [.loc 1], none, none⟩,
    ⟨.mov, [.loc 2], none, none⟩,
    ⟨.iaddr 1 none, [.tmp 0, .tmp 1], none, none⟩,
    ⟨.store 1, [.tmp 3, .tmp 2], none, none⟩])
    (.seq
    (.region [
    ⟨.mov, [.loc 5], none, none⟩,
    ⟨.faddr 1, [.loc 3], none, none⟩,
    ⟨.load none, [.tmp 1], none, none⟩,
    ⟨.bin .add, [.tmp 2, .c (.int .u64 1)], none, none⟩,
    ⟨.build [.nils, .int .u64 0] [(0, 1), (1, 1)], [.tmp 0, .tmp 3], none, none⟩,
    ⟨.store 2, [.loc 4, .tmp 4], none, none⟩])
    .ret))))) }
end Go.Am.F06
end
section
namespace Go.Am.F06
variable {X : Type}
def c_cell_New : AFun X := amFunc [] cell_New
def c_cell_Mem_there : AFun X := amFunc [] cell_Mem_there
def c_cell_counts_note : AFun X := amFunc [] cell_counts_note
def c_cell_Mem_Store_1 : AFun X := amFunc [] cell_Mem_Store_1
def c_cell_Mem_CAS_1 : AFun X := amFunc [] cell_Mem_CAS_1
def c_cell_Mem_Load_1 : AFun X := amFunc [] cell_Mem_Load_1
def c_cell_Mem_Add_1 : AFun X := amFunc [] cell_Mem_Add_1
def c_cell_Mem_access : AFun X := amFunc [(56, c_cell_Mem_there), (71, c_cell_counts_note), (49, c_cell_Mem_Store_1), (51, c_cell_Mem_CAS_1), (52, c_cell_Mem_Load_1), (70, c_cell_Mem_Add_1)] cell_Mem_access
def c_cell_Mem_Store : AFun X := amFunc [(50, c_cell_Mem_access), (49, c_cell_Mem_Store_1)] cell_Mem_Store
def c_cell_Mem_CAS : AFun X := amFunc [(50, c_cell_Mem_access), (51, c_cell_Mem_CAS_1)] cell_Mem_CAS
def c_cell_Mem_Load : AFun X := amFunc [(50, c_cell_Mem_access), (52, c_cell_Mem_Load_1)] cell_Mem_Load
def c_cell_Mem_Ops : AFun X := amFunc [] cell_Mem_Ops
def c_cell_Mem_Len : AFun X := amFunc [] cell_Mem_Len
def c_slices_Clone_uint64 : AFun X := amFunc [] slices_Clone_uint64
def c_cell_Mem_All : AFun X := amFunc [(61, c_slices_Clone_uint64)] cell_Mem_All
def c_docs_SameCells : AFun X := amFunc [] docs_SameCells
def c_ref06_New : AFun X := amFunc [] ref06_New
def c_ref06_there : AFun X := amFunc [] ref06_there
def c_ref06_Load : AFun X := amFunc [(72, c_ref06_there)] ref06_Load
def c_ref06_with : AFun X := amFunc [] ref06_with
def c_ref06_Store : AFun X := amFunc [(72, c_ref06_there), (73, c_ref06_with)] ref06_Store
def c_ref06_CAS : AFun X := amFunc [(72, c_ref06_there), (73, c_ref06_with)] ref06_CAS
end Go.Am.F06
end
