import Derived.Test.YtmgahjccidmlaaaXG21
set_option linter.unusedSimpArgs false
set_option linter.unusedVariables false
section
namespace Go.Am.F11
open Go.Am.F06 Go.Am.F10 Go.Am.F09
def PK (m : MM) (P : Nat → Prop) : Prop := ∀ i, P i → ∃ sz L, m[i]? = some (Chunk.cells sz false L) ∧ (sz = 13 ∨ sz = 12 ∨ (sz = 1 ∧ ∃ l : List Int, L = iC l))
theorem TM.norm {m : MM} {P : Nat → Prop} {c : Cf} {p v : Int} {xj : Nat} {s : TS} (h : TM m P c p v xj s) : ∃ P' : Nat → Prop, (∀ i, P' i → P i) ∧ PK m P' ∧ TM m P' c p v xj s := by
  obtain ⟨hown, lyv, bv, hj, hB, hL⟩ := h
  refine ⟨fun i => P i ∧ (i = xj ∨ (∃ n cap, bv = .sl i 0 n cap) ∨ lyv = .ptr i 0), fun i h => h.1, ?_, ⟨hown, .inl rfl⟩, lyv, bv, hj, ?_, ?_⟩
  · rintro i ⟨hi, rfl | ⟨n, cap, rfl⟩ | rfl⟩
    · exact ⟨_, _, hj, .inl rfl⟩
    · rcases hB with ⟨h, _⟩ | ⟨cap', ⟨qb, L, h1, h2, h3, h4, h5, h6, h7⟩, _⟩
      · cases h
      · injection h2 with e1; subst e1
        exact ⟨_, _, h3, .inr (.inr ⟨rfl, h7⟩)⟩
    · rcases hL with ⟨_, h⟩ | ⟨h0, lb, lxv, h1, h2, h3⟩
      · cases h
      · injection h1 with e1; subst e1
        exact ⟨_, _, h3.get, .inr (.inl rfl)⟩
  · rcases hB with h | ⟨cap', ⟨qb, L, h1, h2, h3⟩, h4⟩
    · exact .inl h
    · exact .inr ⟨cap', ⟨qb, L, ⟨h1, .inr (.inl ⟨_, _, h2⟩)⟩, h2, h3⟩, h4⟩
  · rcases hL with h | ⟨h0, lb, lxv, h1, h2, h3⟩
    · exact .inl h
    · exact .inr ⟨h0, lb, lxv, h1, ⟨h2, .inr (.inr h1)⟩, h3⟩
theorem PK.ne {m : MM} {P : Nat → Prop} (h : PK m P) {b sz : Nat} {ro : Bool} {L : List AV} (hb : m[b]? = some (.cells sz ro L)) (h1 : sz ≠ 1) (h2 : sz ≠ 12) (h3 : sz ≠ 13) : ¬ P b := fun hp => by
  obtain ⟨sz', L', h4, h5⟩ := h b hp
  rw [hb] at h4; injection h4 with h4; injection h4 with h4
  subst h4
  rcases h5 with h | h | h
  · exact h3 h
  · exact h2 h
  · exact h1 h.1
theorem PK.abs {m : MM} {P : Nat → Prop} (h : PK m P) {b : Nat} {x : Ob} (hb : m[b]? = some (.abs x)) : ¬ P b := fun hp => by
  obtain ⟨sz', L', h4, h5⟩ := h b hp
  rw [hb] at h4; cases h4
theorem PK.su {m : MM} {P : Nat → Prop} (h : PK m P) {wr : Bool} {xs : List Int} {v : AV} (hs : SU m wr xs v) : OffP P v := fun q o n cap hv h0 hp => by
  have hlen := hs.len
  rw [hv] at hlen; simp only [lenA, Option.some.injEq] at hlen; subst hlen
  obtain ⟨_, ro, L, h2⟩ := Sl.lt (n := xs.length) hs hv h0
  obtain ⟨sz', L', h4, h5⟩ := h q hp
  rw [h2] at h4; injection h4 with h4; injection h4 with e1 e2 e3
  rcases h5 with h | h | ⟨_, l, hl⟩
  · omega
  · omega
  · refine su_off hs (b := q) (l := l) ?_ q o xs.length cap hv h0 rfl
    rw [h2, e3, hl, e2]
theorem PK.off3 {m : MM} {P : Nat → Prop} (h : PK m P) {wr : Bool} {n : Nat} {l : List AV} {v : AV} (hs : Sl m wr 3 n l v) : OffP P v := fun q o k cap hv h0 hp => by
  have hlen := hs.len
  rw [hv] at hlen; simp only [lenA, Option.some.injEq] at hlen; subst hlen
  obtain ⟨_, ro, L, h2⟩ := Sl.lt hs hv h0
  exact h.ne h2 (by decide) (by decide) (by decide) hp
theorem PK.fr {m : MM} {P : Nat → Prop} (h : PK m P) {n : Nat} (hn : m.length ≤ n) {v : AV} (hf : Fr n v) : OffP P v := fun q o k cap hv _ hp => by
  obtain ⟨_, _, h4, _⟩ := h q hp
  have := (List.getElem?_eq_some_iff.1 h4).1
  rcases hf with h | ⟨_, _, _, _, h, h'⟩
  · rw [h] at hv; cases hv
  · rw [h] at hv; injection hv with e1; omega
theorem PK.others {m m' : MM} {P : Nat → Prop} (h : PK m P) (k : KeepN P m m') : PK m' P := fun i hi => by
  obtain ⟨sz, L, h1, h2⟩ := h i hi
  exact ⟨sz, L, k.get h1 hi, h2⟩
theorem RowsK.si {m m' : MM} (k : RowsK m m') {wr : Bool} {n : Nat} {l : List AV} {v : AV} (h : Sl m wr 1 n l v) : Sl m' wr 1 n l v :=
  Sl.stay h fun q o cap hv h0 => by
    obtain ⟨h1, ro, L, h2⟩ := Sl.lt h hv h0
    rw [h2]; exact k _ _ _ h2
theorem RowsK.nx {m m' : MM} (k : RowsK m m') {v : AV} (h : Nx m v) : Nx m' v := by
  rcases h with h | ⟨q, o, n, l, h1, h2⟩
  · exact .inl h
  · exact .inr ⟨q, o, n, l, h1, k _ _ _ h2⟩
theorem nx_off {m m' : MM} {P : Nat → Prop} {j n : Nat} {v : AV} (h : Nx m v) (k : KeepP P j m m') (hj : ∀ ro L, m[j]? ≠ some (.cells 1 ro L)) (hl : lenA v = some n) (h0 : 0 < n) (ho : OffP P v) : Nx m' v := by
  rcases h with h | ⟨q, o, n', l, h1, h2⟩
  · exact .inl h
  · rw [h1] at hl; simp only [lenA, Option.some.injEq] at hl; subst hl
    exact .inr ⟨q, o, n', l, h1, k.get h2 (fun hh => hj _ _ (by rw [← hh]; exact h2)) (ho _ _ _ _ h1 h0)⟩
structure StB (m0 : MM) (c : Cf) (p v : Int) (j xj : Nat) (P : Nat → Prop) (ps : List Pk) (lv : AV) (s : TS) (xs : List Int) (o : Int) (m : MM) : Prop where
  k0 : Keep m0 m
  bs : ∀ i, P i → m0.length ≤ i
  pk : PK m P
  tm : TM m P c p v xj s
  mem : ∃ st, m[j]? = some (.abs (.mem st)) ∧ RelM xs o st
  ok : TOk c p v s
  okL : OkL c xs
  ps : SPk m false ps lv
variable {m0 m m' : MM} {c c' : Cf} {p v p' v' : Int} {j xj rb yb : Nat} {P : Nat → Prop} {ps : List Pk} {lv : AV} {s s' : TS} {xs xs' : List Int} {o o' : Int}
theorem StB.keep (h : StB m0 c p v j xj P ps lv s xs o m) (k : Keep m m') : StB m0 c p v j xj P ps lv s xs o m' := by
  obtain ⟨st, hj, hr⟩ := h.mem
  exact ⟨h.k0.trans k, h.bs, h.pk.others (.of k), h.tm.others (.of k), ⟨st, k.get hj, hr⟩, h.ok, h.okL, h.ps.keep k⟩
theorem StB.setb (h : StB m0 c p v j xj P ps lv s xs o m) {b sz : Nat} {L : List AV} (hb : m[b]? = some (.cells sz false L)) (h1 : sz ≠ 1) (h2 : sz ≠ 12) (h3 : sz ≠ 13) (h4 : sz ≠ 3) (h0 : m0.length ≤ b) (C : Chunk Ob) : StB m0 c p v j xj P ps lv s xs o (m.set b C) := by
  obtain ⟨st, hj, hr⟩ := h.mem
  have hn : ∀ z, z ≠ sz → ∀ ro L, m[b]? ≠ some (.cells z ro L) := fun z hz ro L hh => by rw [hb] at hh; injection hh with hh; injection hh with hh; exact hz hh.symm
  have k : KeepN P m (m.set b C) := (KeepN.of (.refl m)).set (h.pk.ne hb h1 h2 h3) (hn 1 (fun hh => h1 hh.symm)) C
  exact ⟨h.k0.set h0 _, h.bs, h.pk.others k, h.tm.others k, ⟨st, by rw [List.getElem?_set_ne (fun hh => by rw [hh, hj] at hb; cases hb)]; exact hj, hr⟩, h.ok, h.okL, Sl.put h.ps (hn 3 (fun hh => h4 hh.symm)) _⟩
theorem StB.poke (h : StB m0 c p v j xj P ps lv s xs o m) (hj0 : m0.length ≤ j) (k : KeepB j m m') {st' : MemSt} (hj' : m'[j]? = some (.abs (.mem st'))) (hr' : RelM xs' o' st') (hokL : OkL c xs') : StB m0 c p v j xj P ps lv s xs' o' m' := by
  obtain ⟨st, hj, hr⟩ := h.mem
  have hjP := h.pk.abs hj
  have kn : KeepN P m m' := ⟨k.1, fun i hi hp => k.2 i hi (fun hh => by
    rcases hp with hp | ⟨ro, L, hp⟩
    · exact hjP (by rw [← hh]; exact hp)
    · rw [hh, hj] at hp; cases hp)⟩
  refine ⟨⟨Nat.le_trans h.k0.1 k.1, fun i hi => by rw [k.2 i (Nat.lt_of_lt_of_le hi h.k0.1) (by omega), h.k0.2 i hi]⟩, h.bs, h.pk.others kn, h.tm.others kn, ⟨st', hj', hr'⟩, h.ok, hokL, ?_⟩
  exact Sl.stay h.ps fun q o cap hv h0 => by
    obtain ⟨h1, ro, L, h2⟩ := Sl.lt h.ps hv h0
    exact k.2 q h1 (fun hh => by rw [hh, hj] at h2; cases h2)
structure StR (c' : Cf) (p' v' : Int) (rb yb : Nat) (P : Nat → Prop) (F : AV → Prop) (s : TS) (xs : List Int) (o : Int) (bv : AV) (ly : List AV) (mv : AV) (m : MM) : Prop where
  ref : m[rb]? = some (.cells 2 false (memC mv o))
  su : SU m false xs mv
  y : m[yb]? = some (.cells 24 false (rsC c' p' v' s.a s.w bv s.k ly))
  bl : SI m false s.bl bv
  nx : 0 < s.bl.length → Nx m bv
  ob : OffP P bv
  ly : RLy m c' p' s F ly
variable {F : AV → Prop} {bv mv : AV} {ly : List AV}
theorem RLy.keep (h : RLy m c p s F ly) (k : Keep m m') : RLy m' c p s F ly := by
  rcases h with h | ⟨h1, lv, h, h2, h3, h4⟩
  · exact .inl h
  · exact .inr ⟨h1, lv, h, h2.keep k, fun h0 => (h3 h0).keep k, h4⟩
theorem RLy.put (h : RLy m c p s F ly) {b : Nat} (hb : ∀ ro L, m[b]? ≠ some (.cells 1 ro L)) (C : Chunk Ob) : RLy (m.set b C) c p s F ly := by
  rcases h with h | ⟨h1, lv, h, h2, h3, h4⟩
  · exact .inl h
  · exact .inr ⟨h1, lv, h, Sl.put h2 hb C, fun h0 => (h3 h0).put hb C, h4⟩
theorem RLy.mono {F' : AV → Prop} (h : RLy m c p s F ly) (hF : ∀ v, F v → F' v) : RLy m c p s F' ly := by
  rcases h with h | ⟨h1, lv, h, h2, h3, h4⟩
  · exact .inl h
  · exact .inr ⟨h1, lv, h, h2, h3, hF _ h4⟩
theorem StR.keep (h : StR c' p' v' rb yb P F s xs o bv ly mv m) (k : Keep m m') : StR c' p' v' rb yb P F s xs o bv ly mv m' :=
  ⟨k.get h.ref, h.su.keep k, k.get h.y, h.bl.keep k, fun h0 => (h.nx h0).keep k, h.ob, h.ly.keep k⟩
theorem StB.step (h : StB m0 c p v j xj P ps lv s xs o m) (hj0 : m0.length ≤ j) (hok : TOk c p v s') (hokL : OkL c xs') (hR : StR c' p' v' rb yb P (fun lv => s.k = 0 → OffP P lv) s' xs' o' bv ly mv m) {r : AV} (hP : SsP m P c p v xj j (s', xs') o' r m') (hrk : 0 < s.k → RowsK m m') :
    r = .bool (decide (s'.a = 0)) ∧ ∃ P', StB m0 c p v j xj P' ps lv s' xs' o' m' ∧ StR c' p' v' rb yb P' (fun _ => True) s' xs' o' bv ly mv m' := by
  obtain ⟨rfl, k1, htm, st', hj', hr'⟩ := hP
  obtain ⟨st, hj, hr⟩ := h.mem
  obtain ⟨P', hsub, hpk, htm'⟩ := htm.norm
  have hjn : ∀ sz ro L, m[j]? ≠ some (.cells sz ro L) := fun sz ro L hh => by rw [hj] at hh; cases hh
  have hbox : ∀ {b sz : Nat} {L : List AV}, m[b]? = some (.cells sz false L) → sz ≠ 1 → sz ≠ 12 → sz ≠ 13 → m'[b]? = some (.cells sz false L) := fun hb h1 h2 h3 =>
    k1.get hb (fun hh => hjn _ _ _ (by rw [← hh]; exact hb)) (h.pk.ne hb h1 h2 h3)
  have hnew : ∀ {w : AV} {n : Nat} {l : List AV}, Sl m false 1 n l w → OffP P w → OffP P' w := fun hs ho q o n cap hv h0 hp => OffP.new ho hs q o n cap hv h0 (hsub _ hp)
  refine ⟨rfl, P', ⟨⟨by have := h.k0.1; have := k1.1; omega, fun i hi => ?_⟩, fun i hi => ?_, hpk, htm', ⟨st', hj', hr'⟩, hok, hokL, ?_⟩, ⟨hbox hR.ref (by decide) (by decide) (by decide), Sl.off hR.su k1 (hjn 1) (h.pk.su hR.su), hbox hR.y (by decide) (by decide) (by decide), Sl.off hR.bl k1 (hjn 1) hR.ob, fun h0 => nx_off (hR.nx h0) k1 (hjn 1) hR.bl.len h0 hR.ob, hnew hR.bl hR.ob, ?_⟩⟩
  · have := h.k0.1
    rw [k1.2 i (by omega) (by omega) (fun hp => by have := h.bs i hp; omega), h.k0.2 i hi]
  · rcases hsub i hi with hp | hp
    · exact h.bs i hp
    · have := h.k0.1; omega
  · exact Sl.off h.ps k1 (hjn 3) (h.pk.off3 h.ps)
  · rcases hR.ly with hl | ⟨h1, lv, e, h2, h3, h4⟩
    · exact .inl hl
    · refine .inr ⟨h1, lv, e, ?_, ?_, trivial⟩
      · by_cases hk : 0 < s.k
        · exact (hrk hk).si h2
        · exact Sl.off h2 k1 (hjn 1) (h4 (by rcases h.ok.k with hk | hk <;> omega))
      · intro h0
        by_cases hk : 0 < s.k
        · exact (hrk hk).nx (h3 h0)
        · exact nx_off (h3 h0) k1 (hjn 1) h2.len h0 (h4 (by rcases h.ok.k with hk | hk <;> omega))
end Go.Am.F11
end
section
namespace Go.Am.F11
open Go.Am.F06 Go.Am.F10 Go.Am.F09
section
variable {m0 m m' : MM} {c c' : Cf} {p v p' v' : Int} {j xj rb yb : Nat} {P : Nat → Prop} {ps : List Pk} {lv : AV} {s s' : TS} {xs xs' : List Int} {o o' : Int} {F : AV → Prop} {bv mv mv' : AV} {ly : List AV}
theorem StR.poke (h : StR c' p' v' rb yb P F s xs o bv ly mv m) (k : KeepB j m m') {x : Ob} (hj : m[j]? = some (.abs x)) (hsu : SU m' false xs' mv') : StR c' p' v' rb yb P F s xs' o' bv ly mv' (m'.set rb (.cells 2 false (memC mv' o'))) := by
  have nj : ∀ sz ro L, m[j]? ≠ some (.cells sz ro L) := fun sz ro L hh => by rw [hj] at hh; cases hh
  have hrj : rb ≠ j := fun hh => nj _ _ _ (by rw [← hh]; exact h.ref)
  have hyj : yb ≠ j := fun hh => nj _ _ _ (by rw [← hh]; exact h.y)
  have hyr : yb ≠ rb := fun hh => by have h1 := h.y; rw [hh, h.ref] at h1; cases h1
  have lr : rb < m.length := (List.getElem?_eq_some_iff.1 h.ref).1
  have hrb' := k.get h.ref hrj
  have nb : ∀ ro L, m'[rb]? ≠ some (.cells 1 ro L) := fun ro L hh => by rw [hrb'] at hh; cases hh
  have row : ∀ {wr : Bool} {n : Nat} {l : List AV} {w : AV}, Sl m wr 1 n l w → Sl m' wr 1 n l w := fun hs => Sl.stay hs fun q oo cap hw h0 => by
    obtain ⟨h1, ro, L, h2⟩ := Sl.lt hs hw h0
    exact k.2 q h1 fun hh => nj _ _ _ (by rw [← hh]; exact h2)
  have nxk : ∀ {w : AV}, Nx m w → Nx m' w := fun hn => by
    rcases hn with hn | ⟨q, o, n, l, h1, h2⟩
    · exact .inl hn
    · exact .inr ⟨q, o, n, l, h1, k.get h2 (fun hh => nj _ _ _ (by rw [← hh]; exact h2))⟩
  refine ⟨List.getElem?_set_self (by have := k.1; omega), Sl.put hsu nb _, by rw [List.getElem?_set_ne (fun h => hyr h.symm)]; exact k.get h.y hyj, Sl.put (row h.bl) nb _, fun h0 => (nxk (h.nx h0)).put nb _, h.ob, RLy.put ?_ nb _⟩
  rcases h.ly with h | ⟨h1, lv, h, h2, h3, h4⟩
  · exact .inl h
  · exact .inr ⟨h1, lv, h, row h2, fun h0 => nxk (h3 h0), h4⟩
theorem RLy.len (h : RLy m c p s F ly) : ly.length = 12 ∧ ly.all AV.one = true := by
  rcases h with ⟨_, rfl⟩ | ⟨_, lv, rfl, h, _⟩
  · exact ⟨rfl, rfl⟩
  · refine ⟨rfl, ?_⟩
    have h1 := slOne h
    rw [List.all_eq_true]
    intro x hx
    simp only [rlC, cfC, List.cons_append, List.nil_append, List.mem_cons, List.not_mem_nil, or_false] at hx
    rcases hx with rfl | rfl | rfl | rfl | rfl | rfl | rfl | rfl | rfl | rfl | rfl | rfl <;> first | rfl | assumption
end
theorem rsC_len (c : Cf) (p v a w k : Int) (bv : AV) {ly : List AV} (h : ly.length = 12) : (rsC c p v a w bv k ly).length = 24 := by
  simp [rsC, cfC, h]
theorem rsC_take (c : Cf) (p v a w k : Int) (bv : AV) {ly : List AV} (h : ly.length = 12) : (rsC c p v a w bv k ly).take 24 = rsC c p v a w bv k ly := List.take_of_length_le (by rw [rsC_len _ _ _ _ _ _ _ h]; omega)
theorem rsC_all (c : Cf) (p v a w k : Int) {bv : AV} (hb : bv.one = true) {ly : List AV} (h : ly.all AV.one = true) : (rsC c p v a w bv k ly).all AV.one = true := by
  rw [rsC, List.all_append, h, Bool.and_true, List.all_eq_true]
  intro x hx
  simp only [cfC, List.cons_append, List.nil_append, List.mem_cons, List.not_mem_nil, or_false] at hx
  rcases hx with rfl | rfl | rfl | rfl | rfl | rfl | rfl | rfl | rfl | rfl | rfl | rfl <;> first | rfl | assumption
theorem rsC_at (c : Cf) (p v a w k : Int) (bv : AV) (ly : List AV) : (rsC c p v a w bv k ly)[8]? = some (.int .i64 a) := rfl
theorem rsC_drop (c : Cf) (p v a w k : Int) (bv : AV) {ly : List AV} (h : ly.length = 12) : (rsC c p v a w bv k ly).drop 24 = [] := List.drop_eq_nil_of_le (by rw [rsC_len _ _ _ _ _ _ _ h]; omega)
theorem rsC_put (c : Cf) (p v a w k : Int) (bv : AV) {ly L : List AV} (h : ly.length = 12) (hL : L.length = 24) : splice L 0 (rsC c p v a w bv k ly) = rsC c p v a w bv k ly := by
  simp only [splice, List.take_zero, List.nil_append, rsC_len _ _ _ _ _ _ _ h, Nat.zero_add]
  rw [List.drop_eq_nil_of_le (by omega), List.append_nil]
def Gsp : List (Nat × AFun Ob) := [(268, pureF worksG), (134, F10.c_docs_Filled), (135, amFunc F10.Gmem F10.docs_Mem), (270, c_steal_New), (147, F10.c_docs_Config), (271, c_ref11_New), (272, amFunc Gis11 law11_is), (68, amFunc F10.Gsmem F10.docs_SameMem), (46, memF fun s rest => (opsAsk s rest).map fun v => (v, s)), (273, amFunc Grs11 ref11_Step), (274, amFunc Gst steal_Steal_Step), (87, F10.c_kit_Pick), (22, memF storeS), (65, F06.c_ref06_Store)]
def SpI (m0 : MM) (c c' : Cf) (p p' v v' : Int) (bv0 lv : AV) (cb j rb xj yb : Nat) (ps : List Pk) (k : Nat) (e : List AV) (m : MM) : Prop := ∃ (i : Nat) (P : Nat → Prop) (s : TS) (xs : List Int) (o : Int) (bv mv : AV) (ly : List AV) (y12 y13 y14 y15 y16 y17 y18 y19 y20 y21 : AV),
  e = [.agg (cfC c), .int .i64 p, .int .i64 v, bv0, lv, .ptr cb 0, .bool false, .ptr j 0, .ptr rb 0, .ptr xj 0, .ptr yb 0, .int .i64 i, y12, y13, y14, y15, y16, y17, y18, y19, y20, y21] ∧ k = ps.length - i ∧ i ≤ ps.length ∧ 0 ≤ o ∧ o ≤ 700 + 2 * i ∧
  StB m0 c p v j xj P ps lv s xs o m ∧ StR c' p' v' rb yb P (fun _ => True) s xs o bv ly mv m ∧ RcT c c' p p' v v' s
set_option maxHeartbeats 16000000 in
theorem splays_run {m0 : MM} {c : Cf} {p v : Int} {bs : List Int} {bv lv : AV} {ps : List Pk} (hB : SB m0 bs bv) (hb : ∀ x, x ∈ bs → 0 ≤ x ∧ x < 256) (hl : SPk m0 false ps lv) (hv : ∀ x, x ∈ ps → W64 x.v) :
    Fn Gsp law11_StealPlays [.agg (cfC c), .int .i64 p, .int .i64 v, bv, lv] m0 (fun r m' => r = .bool true ∧ Keep m0 m') := by
  have a268 : assoc Gsp 268 = some (pureF worksG) := rfl
  have a134 : assoc Gsp 134 = some F10.c_docs_Filled := rfl
  have a135 : assoc Gsp 135 = some (amFunc F10.Gmem F10.docs_Mem) := rfl
  have a270 : assoc Gsp 270 = some c_steal_New := rfl
  have a147 : assoc Gsp 147 = some F10.c_docs_Config := rfl
  have a271 : assoc Gsp 271 = some c_ref11_New := rfl
  have a272 : assoc Gsp 272 = some (amFunc Gis11 law11_is) := rfl
  have a68 : assoc Gsp 68 = some (amFunc F10.Gsmem F10.docs_SameMem) := rfl
  have a46 : assoc Gsp 46 = some (memF fun s rest => (opsAsk s rest).map fun v => (v, s)) := rfl
  have a273 : assoc Gsp 273 = some (amFunc Grs11 ref11_Step) := rfl
  have a274 : assoc Gsp 274 = some (amFunc Gst steal_Steal_Step) := rfl
  have a87 : assoc Gsp 87 = some F10.c_kit_Pick := rfl
  have a22 : assoc Gsp 22 = some (memF storeS) := rfl
  have a65 : assoc Gsp 65 = some F06.c_ref06_Store := rfl
  generalize Gsp = G at a268 a134 a135 a270 a147 a271 a272 a68 a46 a273 a274 a87 a22 a65 ⊢
  have hfe : F10.c_docs_Filled (X := Ob) = amFunc Gfill F10.docs_Filled := rfl
  have hne : c_steal_New (X := Ob) = amFunc [(159, F10.c_conf_Config_Word)] steal_New := rfl
  have hre : c_ref11_New (X := Ob) = amFunc [(169, F10.c_ref09_There)] ref11_New := rfl
  have hlenl := hl.len
  have hlenb := hB.len
  refine Fn_of rfl ?_
  by_cases h1 : 80 < ps.length
  · simp (disch := first | assumption | omega | (simp only [zl] <;> omega) | (simp only [zn])) only [law11_StealPlays, ↓zd, zk, Nat.reduceSub, Nat.reduceAdd, Nat.reduceMul, Nat.reduceLeDiff, Nat.reduceEqDiff, reduceIte, Int.reduceEq, Int.reduceBEq, Int.reduceLE, Int.reduceLT, Int.reduceNeg, Int.reduceAdd, Int.reduceSub, Int.reduceMul, List.map, AV.cells, List.all, AV.one, eqV, eqAll, splice, fillA, List.replicate, resAll, resA, zm, zg, cfC, ev_len, hlenl, hlenb, a268, pureF, worksG]
    exact .app _ _
  by_cases h2 : 40 < bs.length
  · simp (disch := first | assumption | omega | (simp only [zl] <;> omega) | (simp only [zn])) only [law11_StealPlays, ↓zd, zk, Nat.reduceSub, Nat.reduceAdd, Nat.reduceMul, Nat.reduceLeDiff, Nat.reduceEqDiff, reduceIte, Int.reduceEq, Int.reduceBEq, Int.reduceLE, Int.reduceLT, Int.reduceNeg, Int.reduceAdd, Int.reduceSub, Int.reduceMul, List.map, AV.cells, List.all, AV.one, eqV, eqAll, splice, fillA, List.replicate, resAll, resA, zm, zg, cfC, ev_len, hlenl, hlenb, a268, pureF, worksG]
    exact .app _ _
  simp (disch := first | assumption | omega | (simp only [zl] <;> omega) | (simp only [zn])) only [law11_StealPlays, ↓zd, zk, Nat.reduceSub, Nat.reduceAdd, Nat.reduceMul, Nat.reduceLeDiff, Nat.reduceEqDiff, reduceIte, Int.reduceEq, Int.reduceBEq, Int.reduceLE, Int.reduceLT, Int.reduceNeg, Int.reduceAdd, Int.reduceSub, Int.reduceMul, List.map, AV.cells, List.all, AV.one, eqV, eqAll, splice, fillA, List.replicate, resAll, resA, zm, zg, cfC, ev_len, hlenl, hlenb, a134, hfe]
  have hB1 : SB (m0 ++ [Chunk.cells 6 false (cfC c)]) bs bv := hB.keep (Keep.app _ _)
  refine OK_fn (filled_run (c := c) hB1 hb) ?_
  rintro r1 m1 ⟨xs0, k1, s1, x1, x2⟩
  have gb1 : m1[m0.length]? = some (Chunk.cells 6 false (cfC c)) := k1.get get_concat
  have hk1 : Keep m0 m1 := (Keep.app m0 _).trans k1
  have hcn := cellsN_le c
  simp (disch := first | assumption | omega | (simp only [zl] <;> omega) | (simp only [zn])) only [↓zd, zk, Nat.reduceSub, Nat.reduceAdd, Nat.reduceMul, Nat.reduceLeDiff, Nat.reduceEqDiff, reduceIte, Int.reduceEq, Int.reduceBEq, Int.reduceLE, Int.reduceLT, Int.reduceNeg, Int.reduceAdd, Int.reduceSub, Int.reduceMul, List.map, AV.cells, List.all, AV.one, eqV, eqAll, splice, fillA, List.replicate, resAll, resA, zm, zg, a135]
  refine OK_fn (mem_run s1 (by omega)) ?_
  rintro _ m2 ⟨st, mv, rfl, k2, g2, rm, s2⟩
  have gb2 := k2.get gb1
  have hk2 := hk1.trans k2
  have hone := slOne s2
  simp only [AV.one] at hone
  have lb : m0.length < m2.length := (List.getElem?_eq_some_iff.1 gb2).1
  have lj2 : m1.length + 1 < m2.length := (List.getElem?_eq_some_iff.1 g2).1
  have hj0 : m0.length ≤ m1.length + 1 := by have := hk1.1; omega
  generalize m1.length + 1 = j at g2 hj0 lj2 ⊢
  have gb3 : ∀ K : MM, (m2 ++ K)[m0.length]? = some (.cells 6 false (cfC c)) := fun K => (Keep.app m2 K).get gb2
  simp only [cfC] at gb2 gb3
  simp (disch := first | assumption | omega | (simp only [zl] <;> omega) | (simp only [zn])) only [↓zd, zk, Nat.reduceSub, Nat.reduceAdd, Nat.reduceMul, Nat.reduceLeDiff, Nat.reduceEqDiff, reduceIte, Int.reduceEq, Int.reduceBEq, Int.reduceLE, Int.reduceLT, Int.reduceNeg, Int.reduceAdd, Int.reduceSub, Int.reduceMul, List.map, AV.cells, List.all, AV.one, eqV, eqAll, splice, fillA, List.replicate, resAll, resA, zm, zg, memC, hone, gb2, gb3, cfC, a270, hne]
  have hnw := fun M : MM => snew_run (m := M) c p v
  simp only [cfC] at hnw
  refine OKT_fn (hnw _) ?_
  rintro _ m3 ⟨k3, xj, rfl, hxl, hgx⟩
  have gb4 := k3.get (i := m0.length) (gb3 _)
  have f147 := fun m : MM => F10.config_eq m c
  simp only [cfC] at f147
  simp (disch := first | assumption | omega | (simp only [zl] <;> omega) | (simp only [zn])) only [↓zd, zk, Nat.reduceSub, Nat.reduceAdd, Nat.reduceMul, Nat.reduceLeDiff, Nat.reduceEqDiff, reduceIte, Int.reduceEq, Int.reduceBEq, Int.reduceLE, Int.reduceLT, Int.reduceNeg, Int.reduceAdd, Int.reduceSub, Int.reduceMul, List.map, AV.cells, List.all, AV.one, eqV, eqAll, splice, fillA, List.replicate, resAll, resA, zm, zg, cfC, gb4, a147, f147, a271, hre]
  have hrn := fun M : MM => rsnew_run (m := M) c p v
  simp only [cfC] at hrn
  refine OKT_fn (hrn _) ?_
  rintro _ m4 ⟨k4, rfl⟩
  have k34 := (k3.trans (Keep.app _ _)).trans k4
  have gr4 := k34.get (i := m2.length) (c := .cells 2 false [mv, .int .u64 xs0.length]) (by rw [get_mid0]; rfl)
  have gy4 := k34.get (i := m2.length + 1) (by rw [get_mid]; rfl)
  have gx4 := ((Keep.app m3 _).trans k4).get hgx
  have gj4 := k34.get (i := j) (c := .abs (.mem st)) ((Keep.app m2 _).get g2)
  have k24 : Keep m2 m4 := (Keep.app m2 _).trans k34
  have hz12 : zlC.length = 12 := rfl
  have hl0 := rsC_len (nsC c p v) (nsI c p v p) (nsI c p v v) (newT c p v).a 0 0 .nils hz12
  have hal0 := rsC_all (nsC c p v) (nsI c p v p) (nsI c p v v) (newT c p v).a 0 0 (bv := .nils) rfl (ly := zlC) rfl
  have hpu0 := fun L hL => rsC_put (L := L) (nsC c p v) (nsI c p v p) (nsI c p v v) (newT c p v).a 0 0 .nils hz12 hL
  have gy3 := k3.get (i := m2.length + 1) (by rw [get_mid]; rfl)
  have gy3' := fun K : MM => (Keep.app m3 K).get gy3
  simp (disch := first | assumption | omega | (simp only [zl] <;> omega) | (simp only [zn])) only [↓zd, zk, Nat.reduceSub, Nat.reduceAdd, Nat.reduceMul, Nat.reduceLeDiff, Nat.reduceEqDiff, reduceIte, Int.reduceEq, Int.reduceBEq, Int.reduceLE, Int.reduceLT, Int.reduceNeg, Int.reduceAdd, Int.reduceSub, Int.reduceMul, List.map, AV.cells, List.all, AV.one, eqV, eqAll, splice, fillA, List.replicate, resAll, resA, zm, zg, cfC, gy4, gy3, gy3', gb2, gb3, gb4, hl0, hal0, List.drop_succ_cons, List.drop_zero, List.drop_nil, List.append_nil]
  have hk4 : Keep m0 m4 := hk2.trans k24
  have ly4 : m2.length + 1 < m4.length := (List.getElem?_eq_some_iff.1 gy4).1
  have hl12 : m0.length ≤ m2.length := hk2.1
  simp only [List.length_append, List.length_cons, List.length_nil] at hxl
  have hne1 : ∀ sz, sz ≠ 24 → ∀ ro L, m4[m2.length + 1]? ≠ some (.cells sz ro L) := fun sz hsz ro L hh => by rw [gy4] at hh; injection hh with hh; injection hh with hh; exact hsz hh.symm
  have hSB : StB m0 c p v j xj (fun i => i = xj) ps lv (newT c p v) xs0 xs0.length m4 :=
    ⟨hk4, fun i hi => by omega, fun i hi => by subst hi; exact ⟨13, _, gx4, .inl rfl⟩, newT_TM rfl gx4, ⟨st, gj4, rm⟩, newT_ok c p v, ⟨x1, x2⟩, hl.keep hk4⟩
  have hSR : StR (nsC c p v) (nsI c p v p) (nsI c p v v) m2.length (m2.length + 1) (fun i => i = xj) (fun _ => True) (newT c p v) xs0 xs0.length .nils zlC mv (m4.set (m2.length + 1) (.cells 24 false (rsC (nsC c p v) (nsI c p v p) (nsI c p v v) (newT c p v).a 0 .nils 0 zlC))) :=
    ⟨by rw [List.getElem?_set_ne (by omega)]; exact gr4, Sl.put (s2.keep k24) (hne1 1 (by decide)) _, List.getElem?_set_self ly4, Sl.nil, (fun h => by cases h), (fun q o n cap h => by cases h), .inl ⟨rfl, rfl⟩⟩
  have hSB' := hSB.setb gy4 (by decide) (by decide) (by decide) (by decide) (by omega) (.cells 24 false (rsC (nsC c p v) (nsI c p v p) (nsI c p v v) (newT c p v).a 0 .nils 0 zlC))
  have hxl0 : xs0.length ≤ 600 := by omega
  refine W_loop (SpI m0 c (nsC c p v) p (nsI c p v p) v (nsI c p v v) bv lv m0.length j m2.length xj (m2.length + 1) ps) ps.length (by simp only [FUEL]; omega) ⟨0, _, _, _, _, _, _, _, _, _, _, _, _, _, _, _, _, _, rfl, by omega, by omega, by omega, by omega, hSB', hSR, RcT.new c p v⟩ ?_
  have hb0 : m0.length ≤ m2.length ∧ m0.length ≤ m2.length + 1 := by omega
  clear hSB hSB' hSR hne1 hk4 ly4 hl12 hxl0 gy3' gy3 gy4 gx4 gr4 gj4 k24 k34 k4 k3 hxl hgx gb4 hl0 hal0 hpu0 hrn hnw f147 gb3 gb2 gb1 hB1 hone lb lj2 g2 rm s2 s1 x1 x2 k2 k1 hk2 hk1 hB hlenb hfe hne hre h2
  generalize nsC c p v = c'
  generalize nsI c p v p = p'
  generalize nsI c p v v = v'
  generalize m2.length + 1 = yb at hb0 ⊢
  generalize m2.length = rb at hb0 ⊢
  obtain ⟨hrb0, hyb0⟩ := hb0
  rintro k e m ⟨i, P, s, xs, o, bv1, mv, ly, y12, y13, y14, y15, y16, y17, y18, y19, y20, y21, rfl, rfl, hi, ho0, ho1, hB, hR, hcc⟩
  obtain ⟨st, gj, hr⟩ := hB.mem
  have hone := slOne hR.su
  simp only [AV.one] at hone
  have h12 := hR.ly.len
  have hgy := hR.y
  have hgr := hR.ref
  simp only [memC] at hgr
  have hS := rsC_len c' p' v' s.a s.w s.k bv1 h12.1
  have hA := rsC_all c' p' v' s.a s.w s.k (slOne hR.bl) h12.2
  have hTk := rsC_take c' p' v' s.a s.w s.k bv1 h12.1
  have hDr := rsC_drop c' p' v' s.a s.w s.k bv1 h12.1
  have hxl := hB.okL.1
  have hcn := cellsN_le c
  simp (disch := first | assumption | omega | (simp only [zl] <;> omega) | (simp only [zn])) only [↓zd, zk, Nat.reduceSub, Nat.reduceAdd, Nat.reduceMul, Nat.reduceLeDiff, Nat.reduceEqDiff, reduceIte, Int.reduceEq, Int.reduceBEq, Int.reduceLE, Int.reduceLT, Int.reduceNeg, Int.reduceAdd, Int.reduceSub, Int.reduceMul, List.map, AV.cells, List.all, AV.one, eqV, eqAll, splice, fillA, List.replicate, resAll, resA, zm, zg, ev_len, hlenl, hgy, hS, hA, hTk, List.drop_zero, a272]
  refine OK_fn (is_run hB.tm hB.ok hcc hR.bl hR.ly) ?_
  rintro _ m3 ⟨rfl, k3⟩
  have hB3 := hB.keep k3
  have hR3 := hR.keep k3
  have gy3 := hR3.y
  simp (disch := first | assumption | omega | (simp only [zl] <;> omega) | (simp only [zn])) only [↓zd, zk, Nat.reduceSub, Nat.reduceAdd, Nat.reduceMul, Nat.reduceLeDiff, Nat.reduceEqDiff, reduceIte, Int.reduceEq, Int.reduceBEq, Int.reduceLE, Int.reduceLT, Int.reduceNeg, Int.reduceAdd, Int.reduceSub, Int.reduceMul, List.map, AV.cells, List.all, AV.one, eqV, eqAll, splice, fillA, List.replicate, resAll, resA, zm, zg, gy3, hS, hA, hTk, List.drop_zero, a272]
  refine OK_fn (is_run hB3.tm hB.ok hcc hR3.bl hR3.ly) ?_
  rintro _ m4 ⟨rfl, k4⟩
  have hB4 := hB3.keep k4
  have hR4 := hR3.keep k4
  have gr4 := hR4.ref
  simp only [memC] at gr4
  simp (disch := first | assumption | omega | (simp only [zl] <;> omega) | (simp only [zn])) only [↓zd, zk, Nat.reduceSub, Nat.reduceAdd, Nat.reduceMul, Nat.reduceLeDiff, Nat.reduceEqDiff, reduceIte, Int.reduceEq, Int.reduceBEq, Int.reduceLE, Int.reduceLT, Int.reduceNeg, Int.reduceAdd, Int.reduceSub, Int.reduceMul, List.map, AV.cells, List.all, AV.one, eqV, eqAll, splice, fillA, List.replicate, resAll, resA, zm, zg, gr4, hone, a68]
  refine OK_fn (samemem_run (k4.get (k3.get gj)) hr hR4.su (by omega)) ?_
  rintro _ m5 ⟨rfl, k5⟩
  have hB5 := hB4.keep k5
  have hR5 := hR4.keep k5
  have gj5 := k5.get (k4.get (k3.get gj))
  have f46 := ops_of gj5
  rw [hr.ops] at f46
  clear k3 k4 k5 hB3 hR3 hB4 hR4 gy3 gr4 hB hR gj hgy hgr
  by_cases hie : i = ps.length
  · subst hie
    simp (disch := first | assumption | omega | (simp only [zl] <;> omega) | (simp only [zn])) only [↓zd, zk, Nat.reduceSub, Nat.reduceAdd, Nat.reduceMul, Nat.reduceLeDiff, Nat.reduceEqDiff, reduceIte, Int.reduceEq, Int.reduceBEq, Int.reduceLE, Int.reduceLT, Int.reduceNeg, Int.reduceAdd, Int.reduceSub, Int.reduceMul, List.map, AV.cells, List.all, AV.one, eqV, eqAll, splice, fillA, List.replicate, resAll, resA, zm, zg, ev_len, hlenl, a268, pureF, worksG]
    exact hB5.k0
  have hlt : i < ps.length := by omega
  obtain ⟨pk, hpk⟩ : ∃ pk, ps[i]? = some pk := ⟨_, List.getElem?_eq_getElem hlt⟩
  have gy5 := hR5.y
  have gr5 := hR5.ref
  simp only [memC] at gr5
  simp (disch := first | assumption | omega | (simp only [zl] <;> omega) | (simp only [zn])) only [↓zd, zk, Nat.reduceSub, Nat.reduceAdd, Nat.reduceMul, Nat.reduceLeDiff, Nat.reduceEqDiff, reduceIte, Int.reduceEq, Int.reduceBEq, Int.reduceLE, Int.reduceLT, Int.reduceNeg, Int.reduceAdd, Int.reduceSub, Int.reduceMul, List.map, AV.cells, List.all, AV.one, eqV, eqAll, splice, fillA, List.replicate, resAll, resA, zm, zg, ev_len, hlenl, a46, f46, gy5, hS, hA, hTk, List.drop_zero, gr5, hone, a273]
  have okc := hcc.ok hB5.ok
  have hrs := rsstep_run (o := o) hR5.su hR5.bl hR5.nx hR5.ly okc (hcc.elim (fun h => .inr (by rw [h.1]; exact hB5.okL)) (fun h => .inl h.1))
  rw [hcc.st] at hrs
  simp only [memC] at hrs
  refine OK_fn hrs ?_
  rintro _ m6 ⟨k6, bv2, ly2, mv2, rfl, sbl, fnx, ffr, fly, ssu⟩
  have hok' := hB5.ok.step (xs := xs) (.inr hB5.okL)
  have hokL' := stepT_ok hB5.okL hB5.ok
  have hcc' := hcc.step xs
  have hB6 := hB5.keep k6
  have gy6 := k6.get gy5
  have gr6 := k6.get gr5
  have hop : o ≤ opsT s o ∧ opsT s o ≤ o + 1 := by
    unfold opsT opsL
    split
    · omega
    · split
      · split
        · omega
        · split
          · omega
          · rw [wrapU (by omega) (by omega)]; omega
      · rw [wrapU (by omega) (by omega)]; omega
  have hob : OffP P bv2 := ffr.elim (fun h => by rw [h]; exact hR5.ob) (hB5.pk.fr (Nat.le_refl _))
  have hly : RLy m6 c' p' (stepT c p v xs s).1 (fun lv => s.k = 0 → OffP P lv) ly2 := fly.mono fun _ h h0 => hB5.pk.fr (Nat.le_refl _) (h h0)
  have hstep := fun (m : MM) (st : MemSt) (hT : TM m P c p v xj s) (hj : m[j]? = some (.abs (.mem st))) (hr : RelM xs o st) => sstep_run (o := o) hT hj hr hB5.ok (.inr hB5.okL)
  have hS5 := hS
  have hDr5 := hDr
  clear hrs hcc fly ffr okc hB5 hR5 gy5 gr5 gj5 hS hA hTk hDr h12 f46
  have hsk : s.k = 0 ∨ 0 < s.k := by rcases hB6.ok.k with h | h <;> omega
  generalize stepT c p v xs s = sx at sbl fnx hly ssu hok' hokL' hcc' hstep ⊢
  generalize opsT s o = o' at hop hstep ⊢
  obtain ⟨s', xs'⟩ := sx
  simp only at sbl fnx hly ssu hok' hokL' hcc'
  have ny : yb ≠ rb := fun hh => by rw [hh, gr6] at gy6; cases gy6
  have lr6 : rb < m6.length := (List.getElem?_eq_some_iff.1 gr6).1
  have ly6 : yb < m6.length := (List.getElem?_eq_some_iff.1 gy6).1
  have hone' := slOne ssu
  simp only [AV.one] at hone'
  have h12 := hly.len
  have hS := rsC_len c' p' v' s'.a s'.w s'.k bv2 h12.1
  have hA := rsC_all c' p' v' s'.a s'.w s'.k (slOne sbl) h12.2
  have hTk := rsC_take c' p' v' s'.a s'.w s'.k bv2 h12.1
  have hDr := rsC_drop c' p' v' s'.a s'.w s'.k bv2 h12.1
  have ha8 := rsC_at c' p' v' s'.a s'.w s'.k bv2 ly2
  have hput : ∀ {L : List AV}, L.length = 24 → splice L 0 (rsC c' p' v' s'.a s'.w bv2 s'.k ly2) = rsC c' p' v' s'.a s'.w bv2 s'.k ly2 := fun hL => rsC_put _ _ _ _ _ _ _ h12.1 hL
  have hB7 := ((hB6.setb gy6 (by decide) (by decide) (by decide) (by decide) hyb0 (.cells 24 false (rsC c' p' v' s'.a s'.w bv2 s'.k ly2))).setb (b := rb) (by rw [List.getElem?_set_ne ny]; exact gr6) (by decide) (by decide) (by decide) (by decide) hrb0 (.cells 2 false [mv2, .int .u64 o'])).keep (Keep.app _ [Chunk.cells 24 false (rsC c' p' v' s'.a s'.w bv2 s'.k ly2), Chunk.cells 2 false [mv2, .int .u64 o']])
  have n1y : ∀ ro L, m6[yb]? ≠ some (.cells 1 ro L) := fun ro L hh => by rw [gy6] at hh; cases hh
  have n1r : ∀ C : Chunk Ob, ∀ ro L, (m6.set yb C)[rb]? ≠ some (.cells 1 ro L) := fun C ro L hh => by rw [List.getElem?_set_ne ny, gr6] at hh; cases hh
  have hR7 : StR c' p' v' rb yb P (fun lv => s.k = 0 → OffP P lv) s' xs' o' bv2 ly2 mv2 ((m6.set yb (.cells 24 false (rsC c' p' v' s'.a s'.w bv2 s'.k ly2))).set rb (.cells 2 false [mv2, .int .u64 o']) ++ [Chunk.cells 24 false (rsC c' p' v' s'.a s'.w bv2 s'.k ly2), Chunk.cells 2 false [mv2, .int .u64 o']]) :=
    StR.keep ⟨List.getElem?_set_self (by simpa using lr6), Sl.put (Sl.put ssu n1y _) (n1r _) _, by rw [List.getElem?_set_ne (fun h => ny h.symm), List.getElem?_set_self ly6], Sl.put (Sl.put sbl n1y _) (n1r _) _, fun h0 => ((fnx h0).put n1y _).put (n1r _) _, hob, (hly.put n1y _).put (n1r _) _⟩ (Keep.app _ _)
  have G2 := hR7.ref
  have G3 := hR7.y
  simp only [memC] at G2
  generalize hM7 : (m6.set yb (.cells 24 false (rsC c' p' v' s'.a s'.w bv2 s'.k ly2))).set rb (.cells 2 false [mv2, .int .u64 o']) ++ [Chunk.cells 24 false (rsC c' p' v' s'.a s'.w bv2 s'.k ly2), Chunk.cells 2 false [mv2, .int .u64 o']] = M7 at hB7 hR7 G2 G3
  clear hly sbl fnx ssu hob hB6 k6 n1y n1r
  simp (disch := first | assumption | omega | (simp only [zl] <;> omega) | (simp only [zn])) only [↓zd, zk, Nat.reduceSub, Nat.reduceAdd, Nat.reduceMul, Nat.reduceLeDiff, Nat.reduceEqDiff, reduceIte, Int.reduceEq, Int.reduceBEq, Int.reduceLE, Int.reduceLT, Int.reduceNeg, Int.reduceAdd, Int.reduceSub, Int.reduceMul, List.map, AV.cells, List.all, AV.one, eqV, eqAll, splice, fillA, List.replicate, resAll, resA, zm, zg, memC, hone', gy6, gr6, hS, hA, hTk, hDr, hS5, hDr5, hput, List.drop_zero, List.drop_succ_cons, List.drop_nil, List.append_nil, a274]
  rw [hM7]
  obtain ⟨st7, gj7, hr7⟩ := hB7.mem
  refine OKT_fn (hstep _ _ hB7.tm gj7 hr7) ?_
  rintro r8 m8 ⟨hP, hrk⟩
  obtain ⟨rfl, P8, hB8, hR8⟩ := hB7.step (by omega) hok' hokL' hR7 hP hrk
  obtain ⟨st8, gj8, r8⟩ := hB8.mem
  have hy8 := hR8.y
  have gr8 := hR8.ref
  have f46 := ops_of gj8
  rw [r8.ops] at f46
  have ho3 : IntKind.u64.wrap (o + 1) = o + 1 := wrapU (by omega) (by omega)
  have ho4 : ¬ (o + 1 < o') := by omega
  have hlx8 : xs'.length ≤ 600 := by have := hB8.okL.1; omega
  have hlen9 := hR8.su.len
  obtain ⟨q, oo, cap, ro, L, rfl, c2, c3, c4, c5, c6, c7⟩ := spk_get hB8.ps hpk
  simp only [memC] at gr8
  clear hP hrk hM7 hB7 hR7 gj7 hr7 hstep gy6 gr6 lr6 ly6 hput hS5 hDr5
  rcases Nat.eq_zero_or_pos xs'.length with hz | hz
  all_goals obtain ⟨b3, hb3⟩ : ∃ b3, decide (s'.a = 0) = b3 := ⟨_, rfl⟩
  all_goals cases b3
  all_goals cases hd : pk.d
  all_goals simp only [hb3]
  all_goals try (simp (disch := first | assumption | omega | (simp only [zl] <;> omega) | (simp only [zn])) only [↓zd, zk, Nat.reduceSub, Nat.reduceAdd, Nat.reduceMul, Nat.reduceLeDiff, Nat.reduceEqDiff, reduceIte, Int.reduceEq, Int.reduceBEq, Int.reduceLE, Int.reduceLT, Int.reduceNeg, Int.reduceAdd, Int.reduceSub, Int.reduceMul, List.map, AV.cells, List.all, AV.one, eqV, eqAll, splice, fillA, List.replicate, resAll, resA, zm, zg, G3, hy8, gr8, hb3, hS, hA, hTk, hDr, ha8, List.drop_zero, List.drop_succ_cons, List.drop_nil, List.append_nil, f46, ho3, ho4, a46, c2, c5, ev_len, hlenl, hlen9, hd, hz, Int.ofNat_zero]; refine ⟨ps.length - (i + 1), by omega, i + 1, P8, s', xs', o', _, _, _, _, _, _, _, _, _, _, _, _, _, rfl, rfl, by omega, by omega, by omega, hB8, hR8, hcc'⟩; done)
  all_goals have hpick := fun m : MM => F10.pick_eq m pk.a xs'.length (by omega) (by omega)
  all_goals have hm0 := Int.emod_nonneg pk.a (b := (xs'.length : Int)) (by omega)
  all_goals have hm1 := Int.emod_lt_of_pos pk.a (b := (xs'.length : Int)) (by omega)
  all_goals have hthr : thr xs' (pk.a % (xs'.length : Int)) := ⟨hm0, hm1⟩
  all_goals obtain ⟨st9, r9, _, _, f22⟩ := r8.storeE hthr pk.v
  all_goals have lj8 : j < m8.length := (List.getElem?_eq_some_iff.1 gj8).1
  all_goals have nj1 : ∀ ro L, m8[j]? ≠ some (.cells 1 ro L) := fun ro L h => by rw [gj8] at h; cases h
  all_goals have hqj : j ≠ q := fun h => by rw [← h, gj8] at c2; cases c2
  all_goals have hjr : j ≠ rb := fun h => by rw [← h, gj8] at gr8; cases gr8
  all_goals have hst := refstore_run (Sl.put hR8.su nj1 (.abs (.mem st9))) (by omega) o' (pk.a % (xs'.length : Int)) pk.v
  all_goals rw [if_pos hthr, if_pos hthr] at hst
  all_goals simp only [memC] at hst
  all_goals simp (disch := first | assumption | omega | (simp only [zl] <;> omega) | (simp only [zn])) only [↓zd, zk, Nat.reduceSub, Nat.reduceAdd, Nat.reduceMul, Nat.reduceLeDiff, Nat.reduceEqDiff, reduceIte, Int.reduceEq, Int.reduceBEq, Int.reduceLE, Int.reduceLT, Int.reduceNeg, Int.reduceAdd, Int.reduceSub, Int.reduceMul, List.map, AV.cells, List.all, AV.one, eqV, eqAll, splice, fillA, List.replicate, resAll, resA, zm, zg, G3, hy8, gr8, hone', hb3, hS, hA, hTk, hDr, ha8, List.drop_zero, List.drop_succ_cons, List.drop_nil, List.append_nil, f46, ho3, ho4, a46, c2, c5, c6, c7, ev_len, hlenl, hlen9, hd, a87, hpick, a22, f22, gj8, a65, F06.c_ref06_Store]
  all_goals refine OK_fn hst ?_
  all_goals rintro _ m10 ⟨k10, v10, rfl, s10⟩
  all_goals have gr10 := k10.get (i := rb) (by rw [List.getElem?_set_ne hjr]; exact gr8)
  all_goals have gj10 := k10.get (i := j) (List.getElem?_set_self lj8)
  all_goals have hone9 := slOne s10
  all_goals simp only [AV.one] at hone9
  all_goals simp (disch := first | assumption | omega | (simp only [zl] <;> omega) | (simp only [zn])) only [↓zd, zk, Nat.reduceSub, Nat.reduceAdd, Nat.reduceMul, Nat.reduceLeDiff, Nat.reduceEqDiff, reduceIte, Int.reduceEq, Int.reduceBEq, Int.reduceLE, Int.reduceLT, Int.reduceNeg, Int.reduceAdd, Int.reduceSub, Int.reduceMul, List.map, AV.cells, List.all, AV.one, eqV, eqAll, splice, fillA, List.replicate, resAll, resA, zm, zg, memC, hone9, gr10]
  all_goals have ho9 : IntKind.u64.wrap (o' + 1) = o' + 1 := wrapU (by omega) (by omega)
  all_goals rw [ho9] at r9
  all_goals have kb : KeepB j m8 m10 := (KeepB.at m8 (.abs (.mem st9))).trans (KeepB.of k10)
  all_goals have okL9 := hB8.okL.set (pk.a % (xs'.length : Int)).toNat (hv _ (List.mem_of_getElem? hpk))
  all_goals have hR10 := hR8.poke (o' := o' + 1) kb gj8 s10
  all_goals have hB10 := (hB8.poke (by omega) kb gj10 r9 okL9).setb gr10 (by decide) (by decide) (by decide) (by decide) hrb0 (.cells 2 false (memC v10 (o' + 1)))
  all_goals refine ⟨ps.length - (i + 1), by omega, i + 1, P8, s', xs'.set (pk.a % (xs'.length : Int)).toNat pk.v, o' + 1, bv2, v10, ly2, _, _, _, _, _, _, _, _, _, _, rfl, rfl, by omega, by omega, by omega, ?_, ?_, hcc'⟩
  all_goals first | (rw [ho9]; exact hB10) | (rw [ho9]; exact hR10) | exact hB10 | exact hR10
end Go.Am.F11
end
