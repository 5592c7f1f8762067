import Derived.Test.YtmgahjccidmlaaaXG17
set_option linter.unusedSimpArgs false
set_option linter.unusedVariables false
section
namespace Go.Am.F09
open Go.Am.F06 Go.Am.F10
section
variable {X : Type}
def growW (w n : Int) : Int := pk (hd w) ((tl w + n) % 4294967296)
def dropW (w n : Int) : Int := pk (hd w) ((tl w - n) % 4294967296)
theorem grow_64 {w : Int} (h : W64 w) (n : Int) : W64 (growW w n) := by
  have := hd_b h
  unfold growW pk W64; omega
theorem drop_64 {w : Int} (h : W64 w) (n : Int) : W64 (dropW w n) := by
  have := hd_b h
  unfold dropW pk W64; omega
theorem grow_eq (m : Mem X) {w n : Int} (h : W64 w) : c_word_Grow [.int .u64 w, .int .u32 n] m = some (.int .u64 (growW w n), m) := by
  have a179 : assoc [(179, F10.c_word_Head (X := X)), (182, F10.c_word_Tail), (183, F10.c_word_Pack)] 179 = some F10.c_word_Head := rfl
  have a182 : assoc [(179, F10.c_word_Head (X := X)), (182, F10.c_word_Tail), (183, F10.c_word_Pack)] 182 = some F10.c_word_Tail := rfl
  have a183 : assoc [(179, F10.c_word_Head (X := X)), (182, F10.c_word_Tail), (183, F10.c_word_Pack)] 183 = some F10.c_word_Pack := rfl
  have he : c_word_Grow (X := X) = amFunc [(179, F10.c_word_Head), (182, F10.c_word_Tail), (183, F10.c_word_Pack)] word_Grow := rfl
  rw [he]
  generalize [(179, F10.c_word_Head (X := X)), (182, F10.c_word_Tail), (183, F10.c_word_Pack)] = G at a179 a182 a183 ⊢
  have hh := hd_b h
  have h1 := head_eq m h
  have h2 := tail_eq m w
  have hw : IntKind.u32.wrap (tl w + n) = (tl w + n) % 4294967296 := wrap32 _
  have h3 := pack_eq m (h := hd w) (t := (tl w + n) % 4294967296) hh.1 hh.2 (by omega) (by omega)
  refine Fn_eq (Fn_of rfl ?_)
  simp (disch := first | assumption | omega | (simp only [zl] <;> omega) | (simp only [zn])) only [word_Grow, ↓zd, zk, Nat.reduceSub, Nat.reduceAdd, Nat.reduceMul, Nat.reduceLeDiff, Nat.reduceEqDiff, reduceIte, Int.reduceEq, Int.reduceBEq, Int.reduceLE, Int.reduceLT, Int.reduceNeg, Int.reduceAdd, Int.reduceSub, Int.reduceMul, List.map, AV.cells, List.all, AV.one, eqV, eqAll, splice, fillA, List.replicate, resAll, resA, zm, zg, a179, a182, a183, h1, h2, hw, h3, growW]
theorem drop_eq (m : Mem X) {w n : Int} (h : W64 w) : c_word_Drop [.int .u64 w, .int .u32 n] m = some (.int .u64 (dropW w n), m) := by
  have a179 : assoc [(179, F10.c_word_Head (X := X)), (182, F10.c_word_Tail), (183, F10.c_word_Pack)] 179 = some F10.c_word_Head := rfl
  have a182 : assoc [(179, F10.c_word_Head (X := X)), (182, F10.c_word_Tail), (183, F10.c_word_Pack)] 182 = some F10.c_word_Tail := rfl
  have a183 : assoc [(179, F10.c_word_Head (X := X)), (182, F10.c_word_Tail), (183, F10.c_word_Pack)] 183 = some F10.c_word_Pack := rfl
  have he : c_word_Drop (X := X) = amFunc [(179, F10.c_word_Head), (182, F10.c_word_Tail), (183, F10.c_word_Pack)] word_Drop := rfl
  rw [he]
  generalize [(179, F10.c_word_Head (X := X)), (182, F10.c_word_Tail), (183, F10.c_word_Pack)] = G at a179 a182 a183 ⊢
  have hh := hd_b h
  have h1 := head_eq m h
  have h2 := tail_eq m w
  have hw : IntKind.u32.wrap (tl w - n) = (tl w - n) % 4294967296 := wrap32 _
  have h3 := pack_eq m (h := hd w) (t := (tl w - n) % 4294967296) hh.1 hh.2 (by omega) (by omega)
  refine Fn_eq (Fn_of rfl ?_)
  simp (disch := first | assumption | omega | (simp only [zl] <;> omega) | (simp only [zn])) only [word_Drop, ↓zd, zk, Nat.reduceSub, Nat.reduceAdd, Nat.reduceMul, Nat.reduceLeDiff, Nat.reduceEqDiff, reduceIte, Int.reduceEq, Int.reduceBEq, Int.reduceLE, Int.reduceLT, Int.reduceNeg, Int.reduceAdd, Int.reduceSub, Int.reduceMul, List.map, AV.cells, List.all, AV.one, eqV, eqAll, splice, fillA, List.replicate, resAll, resA, zm, zg, a179, a182, a183, h1, h2, hw, h3, dropW]
def rgC (c : Cf) (p a w k : Int) (T : List AV) : List AV := cfC c ++ (.int .i64 p :: .int .i64 a :: .int .u64 w :: .int .u32 k :: T)
def pslA (c : Cf) (p w i : Int) : Int := slotA c p ((tl w + i) % 4294967296)
theorem psl_b {c : Cf} {p w i : Int} (h : thereP c p) : 0 ≤ pslA c p w i ∧ pslA c p w i < cellsN c := slot_b h (Int.emod_nonneg _ (by omega))
theorem slot_eq {m : Mem X} {xj z : Nat} {c : Cf} {p a w k i : Int} {T : List AV} (hx : m[xj]? = some (.cells z false (rgC c p a w k T))) (hr : rightP c) : c_put_ring_slot [.ptr xj 0, .int .i64 i] m = some (.int .i64 (pslA c p w i), m ++ [.cells 6 false (cfC c), .cells 6 false (cfC c), .cells 7 false (cfC c ++ [.int .i64 p]), .cells 6 false (cfC c)]) := by
  have a182 : assoc [(182, F10.c_word_Tail (X := X)), (160, F10.c_conf_Config_Slot)] 182 = some F10.c_word_Tail := rfl
  have a160 : assoc [(182, F10.c_word_Tail (X := X)), (160, F10.c_conf_Config_Slot)] 160 = some F10.c_conf_Config_Slot := rfl
  have he : c_put_ring_slot (X := X) = amFunc [(182, F10.c_word_Tail), (160, F10.c_conf_Config_Slot)] put_ring_slot := rfl
  rw [he]
  generalize [(182, F10.c_word_Tail (X := X)), (160, F10.c_conf_Config_Slot)] = G at a182 a160 ⊢
  have h2 := tail_eq m w
  have hw : IntKind.u32.wrap (tl w + IntKind.u32.wrap i) = (tl w + i) % 4294967296 := by rw [wrap32, wrap32]; omega
  have hs := slot_eqR m hr p (i := (tl w + i) % 4294967296) (by omega) (by omega)
  have hp : slotA c p ((tl w + i) % 4294967296) = pslA c p w i := rfl
  simp only [rgC, cfC, List.cons_append, List.nil_append] at hx hs
  refine Fn_eq (Fn_of rfl ?_)
  simp (disch := first | assumption | omega | (simp only [zl] <;> omega) | (simp only [zn])) only [put_ring_slot, ↓zd, zk, Nat.reduceSub, Nat.reduceAdd, Nat.reduceMul, Nat.reduceLeDiff, Nat.reduceEqDiff, reduceIte, Int.reduceEq, Int.reduceBEq, Int.reduceLE, Int.reduceLT, Int.reduceNeg, Int.reduceAdd, Int.reduceSub, Int.reduceMul, List.map, AV.cells, List.all, AV.one, eqV, eqAll, splice, fillA, List.replicate, resAll, resA, zm, zg, cfC, hx, a182, h2, hw, a160, hs, hp]
end
def Grl : List (Nat × AFun Ob) := [(159, F10.c_conf_Config_Word), (24, memF loadS), (178, F10.c_word_Len)]
def RlP (m : MM) (xj j z : Nat) (c : Cf) (p a : Int) (T : List AV) (xs : List Int) (o : Int) (r : AV) (m' : MM) : Prop := r = .int .u32 (sz (xs.getD (wrdN c p) 0)) ∧ KeepX xj j m m' ∧ m'[xj]? = some (.cells z false (rgC c p a (xs.getD (wrdN c p) 0) 0 T)) ∧ ∃ st', m'[j]? = some (.abs (.mem st')) ∧ RelM xs o st'
set_option maxHeartbeats 8000000 in
theorem rload_run {m : MM} {c : Cf} {p a w k o : Int} {T : List AV} {xs : List Int} {xj j z : Nat} {st : MemSt} (hx : m[xj]? = some (.cells z false (rgC c p a w k T))) (hj : m[j]? = some (.abs (.mem st))) (hr : RelM xs o st) (hO : OkL c xs) (hp : thereP c p) :
    Fn Grl put_ring_load [.ptr xj 0, .ptr j 0] m (RlP m xj j z c p a T xs (IntKind.u64.wrap (o + 1))) := by
  have a159 : assoc Grl 159 = some F10.c_conf_Config_Word := rfl
  have a24 : assoc Grl 24 = some (memF loadS) := rfl
  have a178 : assoc Grl 178 = some F10.c_word_Len := rfl
  generalize Grl = G at a159 a24 a178 ⊢
  have hij : xj ≠ j := fun h => by rw [h, hj] at hx; cases hx
  have lx : xj < m.length := (List.getElem?_eq_some_iff.1 hx).1
  have lj : j < m.length := (List.getElem?_eq_some_iff.1 hj).1
  have hxl := hO.1
  have hcn := cellsN_le c
  have hb := there_bounds hp
  have ha0 := addr_b hp (i := 0) (by omega) (by omega)
  have hthr : thr xs (addrA c p 0) := ⟨by omega, by omega⟩
  have hwt : (addrA c p 0).toNat = wrdN c p := rfl
  have hg := getD_64 hO.2 (wrdN c p)
  obtain ⟨st', r', _, f24, _⟩ := hr.loadE hthr
  rw [hwt] at f24
  generalize hw' : xs.getD (wrdN c p) 0 = w' at hg f24
  have f24' := fun K => f24 m K j hj
  have hwr := fun m : MM => word_run (m := m) c p
  have hz := fun m : MM => len_eq m hg
  simp only [rgC, cfC, List.cons_append, List.nil_append] at hx hwr
  refine Fn_of rfl ?_
  simp (disch := first | assumption | omega | (simp only [zl] <;> omega) | (simp only [zn])) only [put_ring_load, ↓zd, zk, Nat.reduceSub, Nat.reduceAdd, Nat.reduceMul, Nat.reduceLeDiff, Nat.reduceEqDiff, reduceIte, Int.reduceEq, Int.reduceBEq, Int.reduceLE, Int.reduceLT, Int.reduceNeg, Int.reduceAdd, Int.reduceSub, Int.reduceMul, List.map, AV.cells, List.all, AV.one, eqV, eqAll, splice, fillA, List.replicate, resAll, resA, zm, zg, cfC, hx, a159, hwr, a24, f24', a178, hz, List.set_set]
  unfold RlP
  rw [hw']
  refine ⟨rfl, ?_, ?_, st', ?_, r'⟩
  · refine ⟨by simp, fun a ha h1 h2 => ?_⟩
    rw [List.getElem?_append_left (by simpa using ha), List.getElem?_set_ne (fun h => h1 h.symm), List.getElem?_set_ne (fun h => h2 h.symm)]
  · rw [List.getElem?_append_left (by simpa using lx), List.getElem?_set_self (by simpa using lx)]; rfl
  · rw [List.getElem?_append_left (by simpa using lj), List.getElem?_set_ne hij, List.getElem?_set_self lj]
def Gch : List (Nat × AFun Ob) := [(159, F10.c_conf_Config_Word), (23, memF casS)]
def ChP (m : MM) (xj j z : Nat) (c : Cf) (p w k : Int) (T : List AV) (xs : List Int) (next o : Int) (r : AV) (m' : MM) : Prop := r = .bool (decide (xs.getD (wrdN c p) 0 = w)) ∧ KeepX xj j m m' ∧ m'[xj]? = some (.cells z false (rgC c p (if xs.getD (wrdN c p) 0 = w then 0 else 1) w k T)) ∧ ∃ st', m'[j]? = some (.abs (.mem st')) ∧ RelM (if xs.getD (wrdN c p) 0 = w then xs.set (wrdN c p) next else xs) o st'
set_option maxHeartbeats 8000000 in
theorem change_run {m : MM} {c : Cf} {p a w k o next : Int} {T : List AV} {xs : List Int} {xj j z : Nat} {st : MemSt} (hx : m[xj]? = some (.cells z false (rgC c p a w k T))) (hj : m[j]? = some (.abs (.mem st))) (hr : RelM xs o st) (hO : OkL c xs) (hp : thereP c p) :
    Fn Gch put_ring_change [.ptr xj 0, .ptr j 0, .int .u64 next] m (ChP m xj j z c p w k T xs next (IntKind.u64.wrap (o + 1))) := by
  have a159 : assoc Gch 159 = some F10.c_conf_Config_Word := rfl
  have a23 : assoc Gch 23 = some (memF casS) := rfl
  generalize Gch = G at a159 a23 ⊢
  have hij : xj ≠ j := fun h => by rw [h, hj] at hx; cases hx
  have lx : xj < m.length := (List.getElem?_eq_some_iff.1 hx).1
  have lj : j < m.length := (List.getElem?_eq_some_iff.1 hj).1
  have hxl := hO.1
  have hcn := cellsN_le c
  have hb := there_bounds hp
  have ha0 := addr_b hp (i := 0) (by omega) (by omega)
  have hthr : thr xs (addrA c p 0) := ⟨by omega, by omega⟩
  have hwt : (addrA c p 0).toNat = wrdN c p := rfl
  obtain ⟨st', r', _, f23, _⟩ := hr.casE hthr w next
  rw [hwt] at f23 r'
  have f23' := fun K => f23 m K j hj
  have hwr := fun m : MM => word_run (m := m) c p
  simp only [rgC, cfC, List.cons_append, List.nil_append] at hx hwr
  refine Fn_of rfl ?_
  by_cases heq : xs.getD (wrdN c p) 0 = w
  · have hd : decide (xs.getD (wrdN c p) 0 = w) = true := decide_eq_true heq
    simp only [hd] at f23'
    simp (disch := first | assumption | omega | (simp only [zl] <;> omega) | (simp only [zn])) only [put_ring_change, ↓zd, zk, Nat.reduceSub, Nat.reduceAdd, Nat.reduceMul, Nat.reduceLeDiff, Nat.reduceEqDiff, reduceIte, Int.reduceEq, Int.reduceBEq, Int.reduceLE, Int.reduceLT, Int.reduceNeg, Int.reduceAdd, Int.reduceSub, Int.reduceMul, List.map, AV.cells, List.all, AV.one, eqV, eqAll, splice, fillA, List.replicate, resAll, resA, zm, zg, cfC, hx, a159, hwr, a23, f23', List.set_set]
    unfold ChP
    rw [if_pos heq, if_pos heq, hd]
    rw [if_pos heq] at r'
    refine ⟨rfl, ?_, ?_, st', ?_, r'⟩
    · refine ⟨by simp, fun a ha h1 h2 => ?_⟩
      rw [List.getElem?_append_left (by simpa using ha), List.getElem?_set_ne (fun h => h1 h.symm), List.getElem?_set_ne (fun h => h2 h.symm)]
    · rw [List.getElem?_append_left (by simpa using lx), List.getElem?_set_self (by simpa using lx)]; rfl
    · rw [List.getElem?_append_left (by simpa using lj), List.getElem?_set_ne hij, List.getElem?_set_self lj]
  · have hd : decide (xs.getD (wrdN c p) 0 = w) = false := decide_eq_false heq
    simp only [hd] at f23'
    simp (disch := first | assumption | omega | (simp only [zl] <;> omega) | (simp only [zn])) only [put_ring_change, ↓zd, zk, Nat.reduceSub, Nat.reduceAdd, Nat.reduceMul, Nat.reduceLeDiff, Nat.reduceEqDiff, reduceIte, Int.reduceEq, Int.reduceBEq, Int.reduceLE, Int.reduceLT, Int.reduceNeg, Int.reduceAdd, Int.reduceSub, Int.reduceMul, List.map, AV.cells, List.all, AV.one, eqV, eqAll, splice, fillA, List.replicate, resAll, resA, zm, zg, cfC, hx, a159, hwr, a23, f23', List.set_set]
    unfold ChP
    rw [if_neg heq, if_neg heq, hd]
    rw [if_neg heq] at r'
    refine ⟨rfl, ?_, ?_, st', ?_, r'⟩
    · refine ⟨by simp, fun a ha h1 h2 => ?_⟩
      rw [List.getElem?_append_left (by simpa using ha), List.getElem?_set_ne (fun h => h1 h.symm), List.getElem?_set_ne (fun h => h2 h.symm)]
    · rw [List.getElem?_append_left (by simpa using lx), List.getElem?_set_self (by simpa using lx)]; rfl
    · rw [List.getElem?_append_left (by simpa using lj), List.getElem?_set_ne hij, List.getElem?_set_self lj]
end Go.Am.F09
end
section
namespace Go.Am.F09
open Go.Am.F06 Go.Am.F10
structure PS where
  a : Int
  w : Int
  tk : List Int
  hs : List Int
def putC (c : Cf) (p g : Int) (s : PS) (tv hv : AV) : List AV := rgC c p s.a s.w 0 [.int .i64 g, tv, hv]
def stepP (c : Cf) (p g : Int) (xs : List Int) (s : PS) : PS × List Int :=
  if s.a = 1 then ({ s with w := xs.getD (wrdN c p) 0, tk := [], a := if c.q ≤ sz (xs.getD (wrdN c p) 0) then 4 else 2 }, xs)
  else if s.a = 2 then ({ s with a := 3 }, xs.set (pslA c p s.w 0).toNat (IntKind.u64.wrap g))
  else if s.a = 3 then (if xs.getD (wrdN c p) 0 = s.w then ({ s with a := 0, hs := [] }, xs.set (wrdN c p) (growW s.w 1)) else ({ s with a := 1 }, xs))
  else if s.a = 4 then ({ s with tk := s.tk ++ [IntKind.i64.wrap (xs.getD (pslA c p s.w (s.tk.length - c.q / 2)).toNat 0)], a := if (s.tk.length : Int) + 1 = c.q / 2 then 5 else 4 }, xs)
  else if s.a = 5 then (if xs.getD (wrdN c p) 0 = s.w then ({ s with a := 0, hs := s.tk ++ [g] }, xs.set (wrdN c p) (dropW s.w (c.q / 2))) else ({ s with a := 1 }, xs))
  else (s, xs)
def opsP (s : PS) (o : Int) : Int := if s.a = 0 then o else IntKind.u64.wrap (o + 1)
structure POk (c : Cf) (p : Int) (s : PS) : Prop where
  w : W64 s.w
  a : s.a = 0 ∨ (thereP c p ∧ (s.a = 1 ∨ s.a = 2 ∨ s.a = 3 ∨ (s.a = 4 ∧ (s.tk.length : Int) < c.q / 2) ∨ (s.a = 5 ∧ (s.tk.length : Int) = c.q / 2)))
  h : s.hs.length ≤ 100
def KeepT (xj j qt : Nat) (m m' : MM) : Prop := m.length ≤ m'.length ∧ ∀ i, i < m.length → i ≠ xj → i ≠ j → i ≠ qt → m'[i]? = m[i]?
theorem KeepX.t {xj j qt : Nat} {m m' : MM} (h : KeepX xj j m m') : KeepT xj j qt m m' := ⟨h.1, fun i hi h1 h2 _ => h.2 i hi h1 h2⟩
structure PM (m : MM) (xj : Nat) (c : Cf) (p g : Int) (s : PS) (qt : Nat) (tv hv : AV) : Prop where
  get : m[xj]? = some (.cells 13 false (putC c p g s tv hv))
  t : s.a = 4 ∨ s.a = 5 → Rw m qt s.tk.length 1 (iC s.tk) tv
  one : tv.one = true
  h : SI m false s.hs hv
  off : Off qt hv
theorem si_box {m : MM} {wr : Bool} {es : List Int} {v : AV} (h : SI m wr es v) {b : Nat} (hb : ∀ ro L, m[b]? ≠ some (.cells 1 ro L)) : Off b v := by
  intro q o n c hv h0 hq
  rcases h.2 with ⟨h1, _⟩ | ⟨q2, o2, c2, h1, h2⟩
  · rw [h1] at hv; cases hv
  · rw [h1] at hv; injection hv with e1 e2 e3 e4; subst e1; subst e3; subst hq
    obtain ⟨ro, L, h3, _⟩ := h2 h0
    exact hb ro L h3
theorem si_lt {m : MM} {wr : Bool} {es : List Int} {v : AV} (h : SI m wr es v) {b : Nat} (hb : m.length ≤ b) : Off b v := si_box h fun ro L h => by rw [List.getElem?_eq_none hb] at h; cases h
theorem _root_.Go.Am.Sl.stay {m m' : MM} {wr : Bool} {sz n : Nat} {l : List AV} {v : AV} (h : Sl m wr sz n l v) (hk : ∀ q o cap, v = .sl q o n cap → 0 < n → m'[q]? = m[q]?) : Sl m' wr sz n l v := by
  refine ⟨h.1, ?_⟩
  rcases h.2 with h1 | ⟨q, o, cap, h1, h2⟩
  · exact .inl h1
  · refine .inr ⟨q, o, cap, h1, fun h0 => ?_⟩
    obtain ⟨ro, L, h3, h4⟩ := h2 h0
    exact ⟨ro, L, by rw [hk q o cap h1 h0]; exact h3, h4⟩
theorem _root_.Go.Am.Sl.lt {m : MM} {wr : Bool} {sz n : Nat} {l : List AV} {v : AV} (h : Sl m wr sz n l v) {q o : Nat} {cap : Option Nat} (hv : v = .sl q o n cap) (h0 : 0 < n) : q < m.length ∧ ∃ ro L, m[q]? = some (.cells sz ro L) := by
  rcases h.2 with ⟨h1, _⟩ | ⟨q2, o2, c2, h1, h2⟩
  · rw [h1] at hv; cases hv
  · rw [h1] at hv; injection hv with e1 e2 e3 e4; subst e1
    obtain ⟨ro, L, h3, _⟩ := h2 h0
    exact ⟨(List.getElem?_eq_some_iff.1 h3).1, ro, L, h3⟩
theorem KeepT.si {xj j qt : Nat} {m m' : MM} (h : KeepT xj j qt m m') (hxj : ∀ ro L, m[xj]? ≠ some (.cells 1 ro L)) (hj : ∀ ro L, m[j]? ≠ some (.cells 1 ro L)) {wr : Bool} {n : Nat} {l : List AV} {v : AV} (hs : Sl m wr 1 n l v) (ho : Off qt v) : Sl m' wr 1 n l v := hs.stay fun q o cap hv h0 => by
  obtain ⟨h1, ro, L, h2⟩ := hs.lt hv h0
  exact h.2 q h1 (fun hq => hxj ro L (by rw [← hq]; exact h2)) (fun hq => hj ro L (by rw [← hq]; exact h2)) (ho q o n cap hv h0)
def PfP (m : MM) (c : Cf) (p g : Int) (xj j qt : Nat) (hv : AV) (x : PS × List Int) (o : Int) (r : AV) (m' : MM) : Prop := r = .tup [] ∧ KeepT xj j qt m m' ∧ ∃ tv' hv' qt', PM m' xj c p g x.1 qt' tv' hv' ∧ (qt' = xj ∨ (m.length ≤ qt' ∧ qt' < m'.length) ∨ qt' = qt) ∧ (hv' = hv ∨ Fr m.length hv') ∧ ∃ st', m'[j]? = some (.abs (.mem st')) ∧ RelM x.2 o st'
def Gplk : List (Nat × AFun Ob) := [(219, amFunc Grl put_ring_load)]
set_option maxHeartbeats 8000000 in
theorem plook_run {m : MM} {c : Cf} {p g o : Int} {s : PS} {qt xj j : Nat} {tv hv : AV} {xs : List Int} {st : MemSt} (hx : PM m xj c p g s qt tv hv) (hj : m[j]? = some (.abs (.mem st))) (hr : RelM xs o st) (hO : OkL c xs) (hk : POk c p s) (ha : s.a = 1) :
    Fn Gplk put_Put_look [.ptr xj 0, .ptr j 0] m (PfP m c p g xj j qt hv (stepP c p g xs s) (IntKind.u64.wrap (o + 1))) := by
  have a219 : assoc Gplk 219 = some (amFunc Grl put_ring_load) := rfl
  generalize Gplk = G at a219 ⊢
  obtain ⟨a, w, tk, hs⟩ := s
  simp only at ha
  subst ha
  obtain ⟨hx, ht, h1, hh, hoff⟩ := hx
  have hij : xj ≠ j := fun h => by rw [h, hj] at hx; cases hx
  have lx : xj < m.length := (List.getElem?_eq_some_iff.1 hx).1
  have lj : j < m.length := (List.getElem?_eq_some_iff.1 hj).1
  have hp : thereP c p := hk.a.elim (fun h => by simp at h) (·.1)
  have hb := there_bounds hp
  have e0 : IntKind.u32.wrap c.q = c.q := by rw [wrap32]; omega
  have hxc := hx
  simp only [putC, rgC, cfC, List.cons_append, List.nil_append] at hx
  refine Fn_of rfl ?_
  have hM : (m.set xj (.cells 13 false (rgC c p 2 w 0 [.int .i64 g, .nils, hv])))[xj]? = some (.cells 13 false (rgC c p 2 w 0 [.int .i64 g, .nils, hv])) := List.getElem?_set_self lx
  have hMj : (m.set xj (.cells 13 false (rgC c p 2 w 0 [.int .i64 g, .nils, hv])))[j]? = some (.abs (.mem st)) := by rw [List.getElem?_set_ne hij]; exact hj
  have hrun := rload_run hM hMj hr hO hp
  simp only [rgC, cfC, List.cons_append, List.nil_append] at hrun
  simp (disch := first | assumption | omega | (simp only [zl] <;> omega) | (simp only [zn])) only [put_Put_look, ↓zd, zk, Nat.reduceSub, Nat.reduceAdd, Nat.reduceMul, Nat.reduceLeDiff, Nat.reduceEqDiff, reduceIte, Int.reduceEq, Int.reduceBEq, Int.reduceLE, Int.reduceLT, Int.reduceNeg, Int.reduceAdd, Int.reduceSub, Int.reduceMul, List.map, AV.cells, List.all, AV.one, eqV, eqAll, splice, fillA, List.replicate, resAll, resA, zm, zg, hx, a219, List.set_set]
  refine OKT_fn hrun ?_
  rintro _ m1 ⟨rfl, k1, x1, st', j1, r1⟩
  have lx1 : xj < m1.length := (List.getElem?_eq_some_iff.1 x1).1
  have hnx : ∀ ro L, m[xj]? ≠ some (.cells 1 ro L) := fun ro L h => by rw [hx] at h; cases h
  have hnj : ∀ ro L, m[j]? ≠ some (.cells 1 ro L) := fun ro L h => by rw [hj] at h; cases h
  have kk : KeepX xj j m m1 := ⟨by simpa using k1.1, fun i hi h1 h2 => by rw [k1.2 i (by simpa using hi) h1 h2, List.getElem?_set_ne (fun h => h1 h.symm)]⟩
  have hh1 : SI m1 false hs hv := (KeepX.t (qt := m.length) kk).si hnx hnj hh (si_lt hh (Nat.le_refl _))
  have hs1 : stepP c p g xs ⟨1, w, tk, hs⟩ = (⟨if c.q ≤ sz (xs.getD (wrdN c p) 0) then 4 else 2, xs.getD (wrdN c p) 0, [], hs⟩, xs) := by simp only [stepP, if_true]
  rw [hs1]
  generalize xs.getD (wrdN c p) 0 = w' at x1
  simp only [rgC, cfC, List.cons_append, List.nil_append] at x1
  have nb : ∀ ro L, m1[xj]? ≠ some (.cells 1 ro L) := fun ro L h => by rw [x1] at h; cases h
  by_cases hq : c.q ≤ sz w'
  · rw [if_pos hq]
    simp (disch := first | assumption | omega | (simp only [zl] <;> omega) | (simp only [zn])) only [↓zd, zk, Nat.reduceSub, Nat.reduceAdd, Nat.reduceMul, Nat.reduceLeDiff, Nat.reduceEqDiff, reduceIte, Int.reduceEq, Int.reduceBEq, Int.reduceLE, Int.reduceLT, Int.reduceNeg, Int.reduceAdd, Int.reduceSub, Int.reduceMul, List.map, AV.cells, List.all, AV.one, eqV, eqAll, splice, fillA, List.replicate, resAll, resA, zm, zg, x1, e0, hq]
    refine ⟨rfl, KeepX.t (kk.setL _), .nils, hv, xj, ⟨by rw [List.getElem?_set_self lx1]; rfl, fun _ => Rw.nil, rfl, Sl.put hh1 nb _, si_box hh1 nb⟩, .inl rfl, .inl rfl, st', by rw [List.getElem?_set_ne hij]; exact j1, r1⟩
  · rw [if_neg hq]
    simp (disch := first | assumption | omega | (simp only [zl] <;> omega) | (simp only [zn])) only [↓zd, zk, Nat.reduceSub, Nat.reduceAdd, Nat.reduceMul, Nat.reduceLeDiff, Nat.reduceEqDiff, reduceIte, Int.reduceEq, Int.reduceBEq, Int.reduceLE, Int.reduceLT, Int.reduceNeg, Int.reduceAdd, Int.reduceSub, Int.reduceMul, List.map, AV.cells, List.all, AV.one, eqV, eqAll, splice, fillA, List.replicate, resAll, resA, zm, zg, x1, e0, hq]
    refine ⟨rfl, KeepX.t kk, .nils, hv, xj, ⟨x1, fun h => by simp at h, rfl, hh1, si_box hh1 nb⟩, .inl rfl, .inl rfl, st', j1, r1⟩
def Gply : List (Nat × AFun Ob) := [(210, c_put_ring_slot), (22, memF storeS)]
set_option maxHeartbeats 8000000 in
theorem play_run {m : MM} {c : Cf} {p g o : Int} {s : PS} {qt xj j : Nat} {tv hv : AV} {xs : List Int} {st : MemSt} (hx : PM m xj c p g s qt tv hv) (hj : m[j]? = some (.abs (.mem st))) (hr : RelM xs o st) (hO : OkL c xs) (hk : POk c p s) (ha : s.a = 2) :
    Fn Gply put_Put_lay [.ptr xj 0, .ptr j 0] m (PfP m c p g xj j qt hv (stepP c p g xs s) (IntKind.u64.wrap (o + 1))) := by
  have a210 : assoc Gply 210 = some c_put_ring_slot := rfl
  have a22 : assoc Gply 22 = some (memF storeS) := rfl
  generalize Gply = G at a210 a22 ⊢
  obtain ⟨a, w, tk, hs⟩ := s
  simp only at ha
  subst ha
  obtain ⟨hx, ht, h1, hh, hoff⟩ := hx
  have hij : xj ≠ j := fun h => by rw [h, hj] at hx; cases hx
  have lx : xj < m.length := (List.getElem?_eq_some_iff.1 hx).1
  have lj : j < m.length := (List.getElem?_eq_some_iff.1 hj).1
  have hp : thereP c p := hk.a.elim (fun h => by simp at h) (·.1)
  have hcn := cellsN_le c
  have hxl := hO.1
  have hsb := psl_b (c := c) (p := p) (w := w) (i := 0) hp
  have hthr : thr xs (pslA c p w 0) := ⟨by omega, by omega⟩
  obtain ⟨st', r', _, f22, _⟩ := hr.storeE hthr (IntKind.u64.wrap g)
  have f22' := fun K => f22 m K j hj
  have hsl := slot_eq (i := 0) hx hp.1
  have hnx : ∀ ro L, m[xj]? ≠ some (.cells 1 ro L) := fun ro L h => by rw [hx] at h; cases h
  have hnj : ∀ ro L, m[j]? ≠ some (.cells 1 ro L) := fun ro L h => by rw [hj] at h; cases h
  have hs1 : stepP c p g xs ⟨2, w, tk, hs⟩ = (⟨3, w, tk, hs⟩, xs.set (pslA c p w 0).toNat (IntKind.u64.wrap g)) := rfl
  rw [hs1]
  have hx' := fun K : MM => (Keep.app m K).get hx
  simp only [putC, rgC, cfC, List.cons_append, List.nil_append] at hx hsl hx'
  refine Fn_of rfl ?_
  simp (disch := first | assumption | omega | (simp only [zl] <;> omega) | (simp only [zn])) only [put_Put_lay, ↓zd, zk, Nat.reduceSub, Nat.reduceAdd, Nat.reduceMul, Nat.reduceLeDiff, Nat.reduceEqDiff, reduceIte, Int.reduceEq, Int.reduceBEq, Int.reduceLE, Int.reduceLT, Int.reduceNeg, Int.reduceAdd, Int.reduceSub, Int.reduceMul, List.map, AV.cells, List.all, AV.one, eqV, eqAll, splice, fillA, List.replicate, resAll, resA, zm, zg, hx, hx', a210, hsl, a22, f22']
  refine ⟨rfl, KeepX.t ((((KeepX.refl m).setR _).setL _).app _), tv, hv, xj, ⟨?_, fun h => by simp at h, h1, ?_, ?_⟩, .inl rfl, .inl rfl, st', ?_, r'⟩
  · rw [List.getElem?_append_left (by simpa using lx), List.getElem?_set_self (by simpa using lx)]; rfl
  · exact ((hh.put hnj _).put (fun ro L h => by rw [List.getElem?_set_ne (fun h => hij h.symm)] at h; exact hnx ro L h) _).keep (.app _ _)
  · exact si_box hh hnx
  · rw [List.getElem?_append_left (by simpa using lj), List.getElem?_set_ne hij, List.getElem?_set_self lj]
def Gpsw : List (Nat × AFun Ob) := [(211, c_word_Grow), (212, amFunc Gch put_ring_change)]
set_option maxHeartbeats 8000000 in
theorem pswing_run {m : MM} {c : Cf} {p g o : Int} {s : PS} {qt xj j : Nat} {tv hv : AV} {xs : List Int} {st : MemSt} (hx : PM m xj c p g s qt tv hv) (hj : m[j]? = some (.abs (.mem st))) (hr : RelM xs o st) (hO : OkL c xs) (hk : POk c p s) (ha : s.a = 3) :
    Fn Gpsw put_Put_swing [.ptr xj 0, .ptr j 0] m (PfP m c p g xj j qt hv (stepP c p g xs s) (IntKind.u64.wrap (o + 1))) := by
  have a211 : assoc Gpsw 211 = some c_word_Grow := rfl
  have a212 : assoc Gpsw 212 = some (amFunc Gch put_ring_change) := rfl
  generalize Gpsw = G at a211 a212 ⊢
  obtain ⟨a, w, tk, hs⟩ := s
  simp only at ha
  subst ha
  obtain ⟨hx, ht, h1, hh, hoff⟩ := hx
  have hij : xj ≠ j := fun h => by rw [h, hj] at hx; cases hx
  have hp : thereP c p := hk.a.elim (fun h => by simp at h) (·.1)
  have hw := hk.w
  simp only at hw
  have hg := fun m : MM => grow_eq m (n := 1) hw
  have hrun := change_run (next := growW w 1) hx hj hr hO hp
  have hnx : ∀ ro L, m[xj]? ≠ some (.cells 1 ro L) := fun ro L h => by rw [hx] at h; cases h
  have hnj : ∀ ro L, m[j]? ≠ some (.cells 1 ro L) := fun ro L h => by rw [hj] at h; cases h
  have hs1 : stepP c p g xs ⟨3, w, tk, hs⟩ = (if xs.getD (wrdN c p) 0 = w then (⟨0, w, tk, []⟩, xs.set (wrdN c p) (growW w 1)) else (⟨1, w, tk, hs⟩, xs)) := rfl
  rw [hs1]
  simp only [putC, rgC, cfC, List.cons_append, List.nil_append] at hx
  refine Fn_of rfl ?_
  simp (disch := first | assumption | omega | (simp only [zl] <;> omega) | (simp only [zn])) only [put_Put_swing, ↓zd, zk, Nat.reduceSub, Nat.reduceAdd, Nat.reduceMul, Nat.reduceLeDiff, Nat.reduceEqDiff, reduceIte, Int.reduceEq, Int.reduceBEq, Int.reduceLE, Int.reduceLT, Int.reduceNeg, Int.reduceAdd, Int.reduceSub, Int.reduceMul, List.map, AV.cells, List.all, AV.one, eqV, eqAll, splice, fillA, List.replicate, resAll, resA, zm, zg, hx, a211, hg, a212]
  refine OK_fn hrun ?_
  rintro _ m1 ⟨rfl, k1, x1, st', j1, r1⟩
  have lx1 : xj < m1.length := (List.getElem?_eq_some_iff.1 x1).1
  have hh1 : SI m1 false hs hv := (KeepX.t (qt := m.length) k1).si hnx hnj hh (si_lt hh (Nat.le_refl _))
  have nb : ∀ ro L, m1[xj]? ≠ some (.cells 1 ro L) := fun ro L h => by rw [x1] at h; cases h
  by_cases heq : xs.getD (wrdN c p) 0 = w
  · rw [if_pos heq] at x1 r1 ⊢
    have hd : decide (xs.getD (wrdN c p) 0 = w) = true := decide_eq_true heq
    simp only [rgC, cfC, List.cons_append, List.nil_append] at x1
    simp (disch := first | assumption | omega | (simp only [zl] <;> omega) | (simp only [zn])) only [↓zd, zk, Nat.reduceSub, Nat.reduceAdd, Nat.reduceMul, Nat.reduceLeDiff, Nat.reduceEqDiff, reduceIte, Int.reduceEq, Int.reduceBEq, Int.reduceLE, Int.reduceLT, Int.reduceNeg, Int.reduceAdd, Int.reduceSub, Int.reduceMul, List.map, AV.cells, List.all, AV.one, eqV, eqAll, splice, fillA, List.replicate, resAll, resA, zm, zg, hd, x1]
    refine ⟨rfl, KeepX.t (k1.setL _), tv, .nils, xj, ⟨by rw [List.getElem?_set_self lx1]; rfl, fun h => by simp at h, h1, Sl.nil, fun q o n c h => by cases h⟩, .inl rfl, .inr (.inl rfl), st', by rw [List.getElem?_set_ne hij]; exact j1, r1⟩
  · rw [if_neg heq] at x1 r1 ⊢
    have hd : decide (xs.getD (wrdN c p) 0 = w) = false := decide_eq_false heq
    simp (disch := first | assumption | omega | (simp only [zl] <;> omega) | (simp only [zn])) only [↓zd, zk, Nat.reduceSub, Nat.reduceAdd, Nat.reduceMul, Nat.reduceLeDiff, Nat.reduceEqDiff, reduceIte, Int.reduceEq, Int.reduceBEq, Int.reduceLE, Int.reduceLT, Int.reduceNeg, Int.reduceAdd, Int.reduceSub, Int.reduceMul, List.map, AV.cells, List.all, AV.one, eqV, eqAll, splice, fillA, List.replicate, resAll, resA, zm, zg, hd]
    exact ⟨rfl, KeepX.t k1, tv, hv, xj, ⟨x1, fun h => by simp at h, h1, hh1, si_box hh1 nb⟩, .inl rfl, .inl rfl, st', j1, r1⟩
end Go.Am.F09
end
section
namespace Go.Am.F09
open Go.Am.F06 Go.Am.F10
theorem half_eq {X : Type} {m : Mem X} {xj : Nat} {c : Cf} {p a w k : Int} {T : List AV} (hx : m[xj]? = some (.cells 13 false (rgC c p a w k T))) (h0 : 2 ≤ c.q) (h1 : c.q ≤ 64) : c_put_Put_half [.ptr xj 0] m = some (.int .u32 (c.q / 2), m) := by
  have he : c_put_Put_half (X := X) = amFunc [] put_Put_half := rfl
  rw [he]
  have e1 : c.q.tdiv 2 = c.q / 2 := Int.tdiv_eq_ediv_of_nonneg (by omega)
  have e2 : IntKind.u32.wrap (c.q / 2) = c.q / 2 := by rw [wrap32]; omega
  simp only [rgC, cfC, List.cons_append, List.nil_append] at hx
  refine Fn_eq (Fn_of rfl ?_)
  simp (disch := first | assumption | omega | (simp only [zl] <;> omega) | (simp only [zn])) only [put_Put_half, ↓zd, zk, Nat.reduceSub, Nat.reduceAdd, Nat.reduceMul, Nat.reduceLeDiff, Nat.reduceEqDiff, reduceIte, Int.reduceEq, Int.reduceBEq, Int.reduceLE, Int.reduceLT, Int.reduceNeg, Int.reduceAdd, Int.reduceSub, Int.reduceMul, List.map, AV.cells, List.all, AV.one, eqV, eqAll, splice, fillA, List.replicate, resAll, resA, zm, zg, hx, e1, e2]
def Gptk : List (Nat × AFun Ob) := [(220, c_put_Put_half), (210, c_put_ring_slot), (24, memF loadS)]
set_option maxHeartbeats 16000000 in
theorem ptake_run {m : MM} {c : Cf} {p g o : Int} {s : PS} {qt xj j : Nat} {tv hv : AV} {xs : List Int} {st : MemSt} (hx : PM m xj c p g s qt tv hv) (hj : m[j]? = some (.abs (.mem st))) (hr : RelM xs o st) (hO : OkL c xs) (hk : POk c p s) (ha : s.a = 4) :
    Fn Gptk put_Put_take [.ptr xj 0, .ptr j 0] m (PfP m c p g xj j qt hv (stepP c p g xs s) (IntKind.u64.wrap (o + 1))) := by
  have a220 : assoc Gptk 220 = some c_put_Put_half := rfl
  have a210 : assoc Gptk 210 = some c_put_ring_slot := rfl
  have a24 : assoc Gptk 24 = some (memF loadS) := rfl
  generalize Gptk = G at a220 a210 a24 ⊢
  obtain ⟨a, w, tk, hs⟩ := s
  simp only at ha
  subst ha
  obtain ⟨hx, ht, h1, hh, hoff⟩ := hx
  have hij : xj ≠ j := fun h => by rw [h, hj] at hx; cases hx
  have lx : xj < m.length := (List.getElem?_eq_some_iff.1 hx).1
  have lj : j < m.length := (List.getElem?_eq_some_iff.1 hj).1
  have hpl : thereP c p ∧ (tk.length : Int) < c.q / 2 := hk.a.elim (fun h => by simp at h) (fun h => ⟨h.1, by have := h.2; simp only at this; omega⟩)
  obtain ⟨hp, hlt⟩ := hpl
  have hb := there_bounds hp
  have hcn := cellsN_le c
  have hxl := hO.1
  have hrw := ht (.inl rfl)
  simp only at hrw
  have htl := (hrw.sl (by rw [iC_len]; omega)).len
  have hsb := psl_b (c := c) (p := p) (w := w) (i := tk.length - c.q / 2) hp
  have hthr : thr xs (pslA c p w (tk.length - c.q / 2)) := ⟨by omega, by omega⟩
  obtain ⟨st', r', _, f24, _⟩ := hr.loadE hthr
  have f24' := fun K => f24 m K j hj
  generalize hv1 : xs.getD (pslA c p w (tk.length - c.q / 2)).toNat 0 = v at f24'
  have hhalf := fun K : MM => half_eq ((Keep.app m K).get hx) (by omega) (by omega)
  have hhalf0 := half_eq hx (by omega) (by omega)
  have hsl := fun K : MM => slot_eq (i := tk.length - c.q / 2) ((Keep.app m K).get hx) hp.1
  have hsl0 := slot_eq (i := tk.length - c.q / 2) hx hp.1
  have hnx : ∀ ro L, m[xj]? ≠ some (.cells 1 ro L) := fun ro L h => by rw [hx] at h; cases h
  have hnj : ∀ ro L, m[j]? ≠ some (.cells 1 ro L) := fun ro L h => by rw [hj] at h; cases h
  have hx' := fun K : MM => (Keep.app m K).get hx
  have eh : IntKind.i64.wrap (c.q / 2) = c.q / 2 := wrapI (by omega) (by omega)
  have hs1 : stepP c p g xs ⟨4, w, tk, hs⟩ = (⟨if (tk.length : Int) + 1 = c.q / 2 then 5 else 4, w, tk ++ [IntKind.i64.wrap v], hs⟩, xs) := by rw [← hv1]; rfl
  rw [hs1]
  have hone := h1
  simp only [AV.one] at hone
  -- the memory at the append
  have hqj : 0 < tk.length → qt ≠ j := fun h hq => by
    rcases hrw with ⟨h2, _⟩ | ⟨_, _, h2⟩
    · omega
    · rw [hq, hj] at h2; cases h2
  have hqx : 0 < tk.length → qt ≠ xj := fun h hq => by
    rcases hrw with ⟨h2, _⟩ | ⟨_, _, h2⟩
    · omega
    · rw [hq, hx] at h2; cases h2
  have hK0 : ∀ i, i < m.length → i ≠ j → (m.set j (.abs (.mem st')) ++ [Chunk.cells 6 false (cfC c), .cells 6 false (cfC c), .cells 7 false (cfC c ++ [.int .i64 p]), .cells 6 false (cfC c)])[i]? = m[i]? := fun i hi hne => by
    rw [List.getElem?_append_left (by simpa using hi), List.getElem?_set_ne (fun h => hne h.symm)]
  have hrw1 := hrw.keep (m' := m.set j (.abs (.mem st')) ++ [Chunk.cells 6 false (cfC c), .cells 6 false (cfC c), .cells 7 false (cfC c ++ [.int .i64 p]), .cells 6 false (cfC c)]) (fun h => hK0 qt (hrw.lt h) (hqj h))
  obtain ⟨tv', m2, hap, rw2, hl2, hf2⟩ := hrw1.push (x := [.int .i64 (IntKind.i64.wrap v)]) (bytes := 8) (by rw [iC_len]; omega) rfl (iC_one _) rfl (by omega) (by omega)
  have hlM : (m.set j (.abs (.mem st')) ++ [Chunk.cells 6 false (cfC c), .cells 6 false (cfC c), .cells 7 false (cfC c ++ [.int .i64 p]), .cells 6 false (cfC c)] : MM).length = m.length + 4 := by simp
  have hf3 : ∀ i, i < m.length → i ≠ j → (tk.length = 0 ∨ i ≠ qt) → m2[i]? = m[i]? := fun i hi h2 h3 => by rw [hf2 i (by omega) h3, hK0 i hi h2]
  have hj2 : m2[j]? = some (.abs (.mem st')) := by
    rw [hf2 j (by omega) (by by_cases h : 0 < tk.length; exact .inr (hqj h).symm; left; omega), List.getElem?_append_left (by simpa using lj), List.getElem?_set_self lj]
  have hx2 : m2[xj]? = some (.cells 13 false (rgC c p 4 w 0 [.int .i64 g, tv, hv])) := by
    rw [hf3 xj lx hij (by by_cases h : 0 < tk.length; exact .inr (hqx h).symm; left; omega)]; exact hx
  have htv : tv' = .sl (m.length + 4 + 1) 0 (tk.length + 1) none := by
    rcases rw2 with ⟨h, _⟩ | ⟨_, h, _⟩
    · omega
    · rw [h, hlM]
  subst htv
  have lx2 : xj < m2.length := (List.getElem?_eq_some_iff.1 hx2).1
  have htl2 : lenA (.sl (m.length + 4 + 1) 0 (tk.length + 1) none) = some (tk.length + 1) := (rw2.sl (by simp [iC])).len
  have hx3 : (m2.set xj (.cells 13 false (rgC c p 4 w 0 [.int .i64 g, (.sl (m.length + 4 + 1) 0 (tk.length + 1) none), hv])))[xj]? = some (.cells 13 false (rgC c p 4 w 0 [.int .i64 g, (.sl (m.length + 4 + 1) 0 (tk.length + 1) none), hv])) := List.getElem?_set_self lx2
  have hhalf3 := half_eq hx3 (by omega) (by omega)
  have hkT : KeepX xj xj m2 (m2.set xj (.cells 13 false (rgC c p 4 w 0 [.int .i64 g, (.sl (m.length + 4 + 1) 0 (tk.length + 1) none), hv]))) := (KeepX.refl _).setL _
  have hnx2 : ∀ ro L, m2[xj]? ≠ some (.cells 1 ro L) := fun ro L h => by rw [hx2] at h; cases h
  have kT : ∀ C, KeepT xj j qt m (m2.set xj C) := fun C => ⟨by simp only [List.length_set]; omega, fun i hi h1 h2 h3 => by rw [List.getElem?_set_ne (fun h => h1 h.symm), hf3 i hi h2 (.inr h3)]⟩
  have hh2 : ∀ C, SI (m2.set xj C) false hs hv := fun C => (kT C).si hnx hnj hh hoff
  have hoff2 : Off (m.length + 4 + 1) hv := si_lt hh (by omega)
  have rw3 : ∀ C, Rw (m2.set xj C) (m.length + 4 + 1) (tk.length + 1) 1 (iC tk ++ [.int .i64 (IntKind.i64.wrap v)]) (.sl (m.length + 4 + 1) 0 (tk.length + 1) none) := fun C => by
    have := rw2.keep (m' := m2.set xj C) (fun _ => by rw [List.getElem?_set_ne (by rw [hlM]; omega)])
    rw [hlM] at this; exact this
  have hiC : iC tk ++ [.int .i64 (IntKind.i64.wrap v)] = iC (tk ++ [IntKind.i64.wrap v]) := (iC_app _ _).symm
  simp only [putC, rgC, cfC, List.cons_append, List.nil_append] at hx hsl hsl0 hx' hx2 hx3 hhalf3
  simp only [cfC, List.append_assoc, List.cons_append, List.nil_append, List.length_append, List.length_set, List.length_cons, List.length_nil, Nat.zero_add, Nat.reduceAdd] at hap
  refine Fn_of rfl ?_
  simp (disch := first | assumption | omega | (simp only [zl] <;> omega) | (simp only [zn])) only [put_Put_take, ↓zd, zk, Nat.reduceSub, Nat.reduceAdd, Nat.reduceMul, Nat.reduceLeDiff, Nat.reduceEqDiff, reduceIte, Int.reduceEq, Int.reduceBEq, Int.reduceLE, Int.reduceLT, Int.reduceNeg, Int.reduceAdd, Int.reduceSub, Int.reduceMul, List.map, AV.cells, List.all, AV.one, eqV, eqAll, splice, fillA, List.replicate, resAll, resA, zm, zg, hx, hx', ev_len, htl, a220, hhalf0, eh, a210, hsl0, a24, f24', evA, fillA, repeatL, List.flatten_cons, List.flatten_nil, hap, hone, hx2, hx3, htl2, hhalf3]
  by_cases hq : (tk.length : Int) + 1 = c.q / 2
  · rw [if_pos hq]
    simp (disch := first | assumption | omega | (simp only [zl] <;> omega) | (simp only [zn])) only [↓zd, zk, Nat.reduceSub, Nat.reduceAdd, Nat.reduceMul, Nat.reduceLeDiff, Nat.reduceEqDiff, reduceIte, Int.reduceEq, Int.reduceBEq, Int.reduceLE, Int.reduceLT, Int.reduceNeg, Int.reduceAdd, Int.reduceSub, Int.reduceMul, List.map, AV.cells, List.all, AV.one, eqV, eqAll, splice, fillA, List.replicate, resAll, resA, zm, zg, hq, hx3, List.set_set]
    refine ⟨rfl, kT _, .sl (m.length + 4 + 1) 0 (tk.length + 1) none, hv, m.length + 4 + 1, ⟨by rw [List.getElem?_set_self lx2]; rfl, fun _ => ?_, rw2.one, hh2 _, hoff2⟩, .inr (.inl ⟨by omega, by have := rw2.lt (by omega); rw [hlM] at this; simpa using this⟩), .inl rfl, st', by rw [List.getElem?_set_ne hij]; exact hj2, r'⟩
    rw [← hiC, List.length_append]; exact rw3 _
  · rw [if_neg hq]
    simp (disch := first | assumption | omega | (simp only [zl] <;> omega) | (simp only [zn])) only [↓zd, zk, Nat.reduceSub, Nat.reduceAdd, Nat.reduceMul, Nat.reduceLeDiff, Nat.reduceEqDiff, reduceIte, Int.reduceEq, Int.reduceBEq, Int.reduceLE, Int.reduceLT, Int.reduceNeg, Int.reduceAdd, Int.reduceSub, Int.reduceMul, List.map, AV.cells, List.all, AV.one, eqV, eqAll, splice, fillA, List.replicate, resAll, resA, zm, zg, hq]
    refine ⟨rfl, kT _, .sl (m.length + 4 + 1) 0 (tk.length + 1) none, hv, m.length + 4 + 1, ⟨by rw [List.getElem?_set_self lx2]; rfl, fun _ => ?_, rw2.one, hh2 _, hoff2⟩, .inr (.inl ⟨by omega, by have := rw2.lt (by omega); rw [hlM] at this; simpa using this⟩), .inl rfl, st', by rw [List.getElem?_set_ne hij]; exact hj2, r'⟩
    rw [← hiC, List.length_append]; exact rw3 _
end Go.Am.F09
end
section
namespace Go.Am.F09
open Go.Am.F06 Go.Am.F10
def Gpct : List (Nat × AFun Ob) := [(220, c_put_Put_half), (221, c_word_Drop), (212, amFunc Gch put_ring_change)]
set_option maxHeartbeats 16000000 in
theorem pcut_run {m : MM} {c : Cf} {p g o : Int} {s : PS} {qt xj j : Nat} {tv hv : AV} {xs : List Int} {st : MemSt} (hx : PM m xj c p g s qt tv hv) (hj : m[j]? = some (.abs (.mem st))) (hr : RelM xs o st) (hO : OkL c xs) (hk : POk c p s) (ha : s.a = 5) :
    Fn Gpct put_Put_cut [.ptr xj 0, .ptr j 0] m (PfP m c p g xj j qt hv (stepP c p g xs s) (IntKind.u64.wrap (o + 1))) := by
  have a220 : assoc Gpct 220 = some c_put_Put_half := rfl
  have a221 : assoc Gpct 221 = some c_word_Drop := rfl
  have a212 : assoc Gpct 212 = some (amFunc Gch put_ring_change) := rfl
  generalize Gpct = G at a220 a221 a212 ⊢
  obtain ⟨a, w, tk, hs⟩ := s
  simp only at ha
  subst ha
  obtain ⟨hx, ht, h1, hh, hoff⟩ := hx
  have hij : xj ≠ j := fun h => by rw [h, hj] at hx; cases hx
  have lx : xj < m.length := (List.getElem?_eq_some_iff.1 hx).1
  have hpl : thereP c p ∧ (tk.length : Int) = c.q / 2 := hk.a.elim (fun h => by simp at h) (fun h => ⟨h.1, by have := h.2; simp only at this; omega⟩)
  obtain ⟨hp, hlt⟩ := hpl
  have hb := there_bounds hp
  have hw := hk.w
  simp only at hw
  have hg := fun m : MM => drop_eq m (n := c.q / 2) hw
  have hhalf0 := half_eq hx (by omega) (by omega)
  have hrun := change_run (next := dropW w (c.q / 2)) hx hj hr hO hp
  have hnx : ∀ ro L, m[xj]? ≠ some (.cells 1 ro L) := fun ro L h => by rw [hx] at h; cases h
  have hnj : ∀ ro L, m[j]? ≠ some (.cells 1 ro L) := fun ro L h => by rw [hj] at h; cases h
  have hrw := ht (.inr rfl)
  simp only at hrw
  have hpos : 0 < tk.length := by omega
  have hql := hrw.lt hpos
  have hqm : ∃ L, m[qt]? = some (.cells 1 false L) := by
    rcases hrw with ⟨h, _⟩ | ⟨_, _, h⟩
    · omega
    · exact ⟨_, h⟩
  obtain ⟨Lq, hqm⟩ := hqm
  have hqx : qt ≠ xj := fun h => hnx false Lq (by rw [← h]; exact hqm)
  have hqj : qt ≠ j := fun h => hnj false Lq (by rw [← h]; exact hqm)
  have hs1 : stepP c p g xs ⟨5, w, tk, hs⟩ = (if xs.getD (wrdN c p) 0 = w then (⟨0, w, tk, tk ++ [g]⟩, xs.set (wrdN c p) (dropW w (c.q / 2))) else (⟨1, w, tk, hs⟩, xs)) := rfl
  rw [hs1]
  simp only [putC, rgC, cfC, List.cons_append, List.nil_append] at hx
  refine Fn_of rfl ?_
  simp (disch := first | assumption | omega | (simp only [zl] <;> omega) | (simp only [zn])) only [put_Put_cut, ↓zd, zk, Nat.reduceSub, Nat.reduceAdd, Nat.reduceMul, Nat.reduceLeDiff, Nat.reduceEqDiff, reduceIte, Int.reduceEq, Int.reduceBEq, Int.reduceLE, Int.reduceLT, Int.reduceNeg, Int.reduceAdd, Int.reduceSub, Int.reduceMul, List.map, AV.cells, List.all, AV.one, eqV, eqAll, splice, fillA, List.replicate, resAll, resA, zm, zg, hx, a220, hhalf0, a221, hg, a212]
  refine OKT_fn hrun ?_
  rintro _ m1 ⟨rfl, k1, x1, st', j1, r1⟩
  have lx1 : xj < m1.length := (List.getElem?_eq_some_iff.1 x1).1
  have hh1 : SI m1 false hs hv := (KeepX.t (qt := m.length) k1).si hnx hnj hh (si_lt hh (Nat.le_refl _))
  have nb : ∀ ro L, m1[xj]? ≠ some (.cells 1 ro L) := fun ro L h => by rw [x1] at h; cases h
  by_cases heq : xs.getD (wrdN c p) 0 = w
  · rw [if_pos heq] at x1 r1 ⊢
    have hd : decide (xs.getD (wrdN c p) 0 = w) = true := decide_eq_true heq
    have hrw1 := hrw.keep (m' := m1) (fun _ => k1.2 qt hql hqx hqj)
    obtain ⟨hv', m2, hap, rw2, hl2, hf2⟩ := hrw1.push (x := [.int .i64 g]) (bytes := 8) (by rw [iC_len]; omega) rfl (iC_one _) rfl (by omega) (by omega)
    have x2 := hf2 xj lx1 (.inr hqx.symm)
    rw [x1] at x2
    have j2 := hf2 j (List.getElem?_eq_some_iff.1 j1).1 (.inr hqj.symm)
    rw [j1] at j2
    have lx2 : xj < m2.length := (List.getElem?_eq_some_iff.1 x2).1
    have hl1 := k1.1
    have htv : hv' = .sl (m1.length + 1) 0 (tk.length + 1) none := by
      rcases rw2 with ⟨h, _⟩ | ⟨_, h, _⟩
      · omega
      · exact h
    subst htv
    have hx1' := fun K : MM => (Keep.app m1 K).get x1
    simp only [rgC, cfC, List.cons_append, List.nil_append] at x1 x2 hx1'
    have hone := h1
    simp only [AV.one] at hone
    simp (disch := first | assumption | omega | (simp only [zl] <;> omega) | (simp only [zn])) only [↓zd, zk, Nat.reduceSub, Nat.reduceAdd, Nat.reduceMul, Nat.reduceLeDiff, Nat.reduceEqDiff, reduceIte, Int.reduceEq, Int.reduceBEq, Int.reduceLE, Int.reduceLT, Int.reduceNeg, Int.reduceAdd, Int.reduceSub, Int.reduceMul, List.map, AV.cells, List.all, AV.one, eqV, eqAll, splice, fillA, List.replicate, resAll, resA, zm, zg, hd, hx, x1, x2, hx1', evA, fillA, repeatL, List.flatten_cons, List.flatten_nil, hap, hone]
    have kT : ∀ C, KeepT xj j qt m (m2.set xj C) := fun C => ⟨by simp only [List.length_set]; omega, fun i hi h1 h2 h3 => by rw [List.getElem?_set_ne (fun h => h1 h.symm), hf2 i (by omega) (.inr h3), k1.2 i hi h1 h2]⟩
    refine ⟨rfl, kT _, tv, .sl (m1.length + 1) 0 (tk.length + 1) none, xj, ⟨by rw [List.getElem?_set_self lx2]; rfl, fun h => by simp at h, h1, ?_, fun q o n cc hq _ => ?_⟩, .inl rfl, .inr (.inr ⟨_, _, _, _, rfl, by omega⟩), st', by rw [List.getElem?_set_ne hij]; exact j2, r1⟩
    · have := (rw2.keep (m' := m2.set xj (.cells 13 false (putC c p g ⟨0, w, tk, tk ++ [g]⟩ tv (.sl (m1.length + 1) 0 (tk.length + 1) none)))) (fun _ => by rw [List.getElem?_set_ne (by omega)])).sl (by simp [iC])
      show Sl _ false 1 (tk ++ [g]).length (iC (tk ++ [g])) _
      rw [iC_app, List.length_append]
      exact this
    · injection hq with hq; omega
  · rw [if_neg heq] at x1 r1 ⊢
    have hd : decide (xs.getD (wrdN c p) 0 = w) = false := decide_eq_false heq
    simp (disch := first | assumption | omega | (simp only [zl] <;> omega) | (simp only [zn])) only [↓zd, zk, Nat.reduceSub, Nat.reduceAdd, Nat.reduceMul, Nat.reduceLeDiff, Nat.reduceEqDiff, reduceIte, Int.reduceEq, Int.reduceBEq, Int.reduceLE, Int.reduceLT, Int.reduceNeg, Int.reduceAdd, Int.reduceSub, Int.reduceMul, List.map, AV.cells, List.all, AV.one, eqV, eqAll, splice, fillA, List.replicate, resAll, resA, zm, zg, hd, hx]
    exact ⟨rfl, KeepX.t k1, tv, hv, xj, ⟨x1, fun h => by simp at h, h1, hh1, si_box hh1 nb⟩, .inl rfl, .inl rfl, st', j1, r1⟩
theorem ev_index {X : Type} (G : List (Nat × AFun X)) (len sz : Nat) (cs : List AV) (k : IntKind) (n : Int) (m : Mem X) : amOp G (.index len sz none) [.agg cs, .int k n] m = if 0 ≤ n ∧ n < len then (match cs[n.toNat * sz]? with | some v => some (v, m) | none => none) else none := rfl
theorem ways_eq {X : Type} (m : Mem X) : c_put_ways [] m = some (.agg [.nilf, .fn 214 [] [], .fn 215 [] [], .fn 216 [] [], .fn 217 [] [], .fn 218 [] []], m ++ [.cells 6 false [.nilf, .fn 214 [] [], .fn 215 [] [], .fn 216 [] [], .fn 217 [] [], .fn 218 [] []]]) := by
  have he : c_put_ways (X := X) = amFunc [(214, c_put_Put_look), (215, c_put_Put_lay), (216, c_put_Put_swing), (217, c_put_Put_take), (218, c_put_Put_cut)] put_ways := rfl
  rw [he]
  generalize [(214, c_put_Put_look (X := X)), (215, c_put_Put_lay), (216, c_put_Put_swing), (217, c_put_Put_take), (218, c_put_Put_cut)] = G
  exact Fn_eq (Fn_of rfl (by simp (disch := first | assumption | omega | (simp only [zl] <;> omega) | (simp only [zn])) only [put_ways, ↓zd, zk, Nat.reduceSub, Nat.reduceAdd, Nat.reduceMul, Nat.reduceLeDiff, Nat.reduceEqDiff, reduceIte, Int.reduceEq, Int.reduceBEq, Int.reduceLE, Int.reduceLT, Int.reduceNeg, Int.reduceAdd, Int.reduceSub, Int.reduceMul, List.map, AV.cells, List.all, AV.one, eqV, eqAll, splice, fillA, List.replicate, resAll, resA, zm, zg]))
theorem pdone_eq {X : Type} {m : Mem X} {xj : Nat} {c : Cf} {p g : Int} {s : PS} {tv hv : AV} (hx : m[xj]? = some (.cells 13 false (putC c p g s tv hv))) : c_put_Put_Done [.ptr xj 0] m = some (.bool (decide (s.a = 0)), m) := by
  simp only [putC, rgC, cfC, List.cons_append, List.nil_append] at hx
  exact Fn_eq (Fn_of rfl (by simp (disch := first | assumption | omega | (simp only [zl] <;> omega) | (simp only [zn])) only [put_Put_Done, ↓zd, zk, Nat.reduceSub, Nat.reduceAdd, Nat.reduceMul, Nat.reduceLeDiff, Nat.reduceEqDiff, reduceIte, Int.reduceEq, Int.reduceBEq, Int.reduceLE, Int.reduceLT, Int.reduceNeg, Int.reduceAdd, Int.reduceSub, Int.reduceMul, List.map, AV.cells, List.all, AV.one, eqV, eqAll, splice, fillA, List.replicate, resAll, resA, zm, zg, hx]))
def Gpst : List (Nat × AFun Ob) := [(191, c_put_Put_Done), (207, c_put_ways), (214, amFunc Gplk put_Put_look), (215, amFunc Gply put_Put_lay), (216, amFunc Gpsw put_Put_swing), (217, amFunc Gptk put_Put_take), (218, amFunc Gpct put_Put_cut)]
def PsP (m : MM) (c : Cf) (p g : Int) (xj j qt : Nat) (hv : AV) (x : PS × List Int) (o : Int) (r : AV) (m' : MM) : Prop := r = .bool (decide (x.1.a = 0)) ∧ KeepT xj j qt m m' ∧ ∃ tv' hv' qt', PM m' xj c p g x.1 qt' tv' hv' ∧ (qt' = xj ∨ (m.length ≤ qt' ∧ qt' < m'.length) ∨ qt' = qt) ∧ (hv' = hv ∨ Fr m.length hv') ∧ ∃ st', m'[j]? = some (.abs (.mem st')) ∧ RelM x.2 o st'
theorem stepP_zero {c : Cf} {p g : Int} {s : PS} (h : s.a = 0) (xs : List Int) : stepP c p g xs s = (s, xs) := by
  unfold stepP; rw [if_neg (by omega), if_neg (by omega), if_neg (by omega), if_neg (by omega), if_neg (by omega)]
theorem PM.more {m : MM} {xj : Nat} {c : Cf} {p g : Int} {s : PS} {qt : Nat} {tv hv : AV} (h : PM m xj c p g s qt tv hv) (K : MM) : PM (m ++ K) xj c p g s qt tv hv :=
  ⟨(Keep.app m K).get h.get, fun ha => (h.t ha).keep (fun hn => List.getElem?_append_left ((h.t ha).lt hn)), h.one, h.h.keep (.app _ _), h.off⟩
set_option maxHeartbeats 16000000 in
theorem pstep_run {m : MM} {c : Cf} {p g o : Int} {s : PS} {qt xj j : Nat} {tv hv : AV} {xs : List Int} {st : MemSt} (hx : PM m xj c p g s qt tv hv) (hj : m[j]? = some (.abs (.mem st))) (hr : RelM xs o st) (hO : s.a = 0 ∨ OkL c xs) (hk : POk c p s) :
    Fn Gpst put_Put_Step [.ptr xj 0, .ptr j 0] m (PsP m c p g xj j qt hv (stepP c p g xs s) (opsP s o)) := by
  have a191 : assoc Gpst 191 = some c_put_Put_Done := rfl
  have a207 : assoc Gpst 207 = some c_put_ways := rfl
  have a214 : assoc Gpst 214 = some (amFunc Gplk put_Put_look) := rfl
  have a215 : assoc Gpst 215 = some (amFunc Gply put_Put_lay) := rfl
  have a216 : assoc Gpst 216 = some (amFunc Gpsw put_Put_swing) := rfl
  have a217 : assoc Gpst 217 = some (amFunc Gptk put_Put_take) := rfl
  have a218 : assoc Gpst 218 = some (amFunc Gpct put_Put_cut) := rfl
  generalize Gpst = G at a191 a207 a214 a215 a216 a217 a218 ⊢
  have hd := pdone_eq hx.get
  refine Fn_of rfl ?_
  by_cases h0 : s.a = 0
  · rw [decide_eq_true h0] at hd
    rw [stepP_zero h0, opsP, if_pos h0]
    simp (disch := first | assumption | omega | (simp only [zl] <;> omega) | (simp only [zn])) only [put_Put_Step, ↓zd, zk, Nat.reduceSub, Nat.reduceAdd, Nat.reduceMul, Nat.reduceLeDiff, Nat.reduceEqDiff, reduceIte, Int.reduceEq, Int.reduceBEq, Int.reduceLE, Int.reduceLT, Int.reduceNeg, Int.reduceAdd, Int.reduceSub, Int.reduceMul, List.map, AV.cells, List.all, AV.one, eqV, eqAll, splice, fillA, List.replicate, resAll, resA, zm, zg, a191, hd]
    exact ⟨by rw [decide_eq_true h0], ⟨Nat.le_refl _, fun _ _ _ _ _ => rfl⟩, tv, hv, qt, hx, .inr (.inr rfl), .inl rfl, st, hj, hr⟩
  · have hO' := hO.resolve_left h0
    rw [decide_eq_false h0] at hd
    rw [opsP, if_neg h0]
    have hway := ways_eq m
    have hM := hx.more [.cells 6 false [.nilf, .fn 214 [] [], .fn 215 [] [], .fn 216 [] [], .fn 217 [] [], .fn 218 [] []]]
    have hMj := (Keep.app m [.cells 6 false [.nilf, .fn 214 [] [], .fn 215 [] [], .fn 216 [] [], .fn 217 [] [], .fn 218 [] []]]).get hj
    have hget := hM.get
    have hget0 := hx.get
    simp only [putC, rgC, cfC, List.cons_append, List.nil_append] at hget hget0
    have key : ∀ (r : AV) (m' : MM), PfP (m ++ [.cells 6 false [.nilf, .fn 214 [] [], .fn 215 [] [], .fn 216 [] [], .fn 217 [] [], .fn 218 [] []]]) c p g xj j qt hv (stepP c p g xs s) (IntKind.u64.wrap (o + 1)) r m' → PsP m c p g xj j qt hv (stepP c p g xs s) (IntKind.u64.wrap (o + 1)) (.bool (decide ((stepP c p g xs s).1.a = 0))) m' := by
      rintro r m' ⟨_, hk, tv', hv', qt', hpm, hq, hh, hst⟩
      refine ⟨rfl, ⟨by have := hk.1; simp at this; omega, fun i hi h1 h2 h3 => by rw [hk.2 i (by simp; omega) h1 h2 h3, List.getElem?_append_left hi]⟩, tv', hv', qt', hpm, ?_, ?_, hst⟩
      · rcases hq with h | h | h
        · exact .inl h
        · exact .inr (.inl ⟨by have := h.1; simp at this; omega, h.2⟩)
        · exact .inr (.inr h)
      · rcases hh with h | h | ⟨q, o, n, cp, h, h'⟩
        · exact .inl h
        · exact .inr (.inl h)
        · exact .inr (.inr ⟨q, o, n, cp, h, by simp at h'; omega⟩)
    have hka := hk.a
    have ha : s.a = 1 ∨ s.a = 2 ∨ s.a = 3 ∨ s.a = 4 ∨ s.a = 5 := by omega
    rcases ha with ha | ha | ha | ha | ha
    · simp (disch := first | assumption | omega | (simp only [zl] <;> omega) | (simp only [zn])) only [put_Put_Step, ↓zd, zk, Nat.reduceSub, Nat.reduceAdd, Nat.reduceMul, Nat.reduceLeDiff, Nat.reduceEqDiff, reduceIte, Int.reduceEq, Int.reduceBEq, Int.reduceLE, Int.reduceLT, Int.reduceNeg, Int.reduceAdd, Int.reduceSub, Int.reduceMul, List.map, AV.cells, List.all, AV.one, eqV, eqAll, splice, fillA, List.replicate, resAll, resA, zm, zg, a191, hd, a207, hway, hget, ha, ev_index, Int.reduceToNat, List.getElem?_cons_succ, List.getElem?_cons_zero, List.append_nil, a214]
      refine OKT_fn (plook_run hM hMj hr hO' hk ha) ?_
      intro r m1 hpf
      have hpf' := hpf
      obtain ⟨rfl, _, tv', hv', qt', hpm, _⟩ := hpf'
      have hd2 := pdone_eq hpm.get
      simp (disch := first | assumption | omega | (simp only [zl] <;> omega) | (simp only [zn])) only [↓zd, zk, Nat.reduceSub, Nat.reduceAdd, Nat.reduceMul, Nat.reduceLeDiff, Nat.reduceEqDiff, reduceIte, Int.reduceEq, Int.reduceBEq, Int.reduceLE, Int.reduceLT, Int.reduceNeg, Int.reduceAdd, Int.reduceSub, Int.reduceMul, List.map, AV.cells, List.all, AV.one, eqV, eqAll, splice, fillA, List.replicate, resAll, resA, zm, zg, hget0, ha, a191, hd2]
      exact key _ _ hpf
    · simp (disch := first | assumption | omega | (simp only [zl] <;> omega) | (simp only [zn])) only [put_Put_Step, ↓zd, zk, Nat.reduceSub, Nat.reduceAdd, Nat.reduceMul, Nat.reduceLeDiff, Nat.reduceEqDiff, reduceIte, Int.reduceEq, Int.reduceBEq, Int.reduceLE, Int.reduceLT, Int.reduceNeg, Int.reduceAdd, Int.reduceSub, Int.reduceMul, List.map, AV.cells, List.all, AV.one, eqV, eqAll, splice, fillA, List.replicate, resAll, resA, zm, zg, a191, hd, a207, hway, hget, ha, ev_index, Int.reduceToNat, List.getElem?_cons_succ, List.getElem?_cons_zero, List.append_nil, a215]
      refine OKT_fn (play_run hM hMj hr hO' hk ha) ?_
      intro r m1 hpf
      have hpf' := hpf
      obtain ⟨rfl, _, tv', hv', qt', hpm, _⟩ := hpf'
      have hd2 := pdone_eq hpm.get
      simp (disch := first | assumption | omega | (simp only [zl] <;> omega) | (simp only [zn])) only [↓zd, zk, Nat.reduceSub, Nat.reduceAdd, Nat.reduceMul, Nat.reduceLeDiff, Nat.reduceEqDiff, reduceIte, Int.reduceEq, Int.reduceBEq, Int.reduceLE, Int.reduceLT, Int.reduceNeg, Int.reduceAdd, Int.reduceSub, Int.reduceMul, List.map, AV.cells, List.all, AV.one, eqV, eqAll, splice, fillA, List.replicate, resAll, resA, zm, zg, hget0, ha, a191, hd2]
      exact key _ _ hpf
    · simp (disch := first | assumption | omega | (simp only [zl] <;> omega) | (simp only [zn])) only [put_Put_Step, ↓zd, zk, Nat.reduceSub, Nat.reduceAdd, Nat.reduceMul, Nat.reduceLeDiff, Nat.reduceEqDiff, reduceIte, Int.reduceEq, Int.reduceBEq, Int.reduceLE, Int.reduceLT, Int.reduceNeg, Int.reduceAdd, Int.reduceSub, Int.reduceMul, List.map, AV.cells, List.all, AV.one, eqV, eqAll, splice, fillA, List.replicate, resAll, resA, zm, zg, a191, hd, a207, hway, hget, ha, ev_index, Int.reduceToNat, List.getElem?_cons_succ, List.getElem?_cons_zero, List.append_nil, a216]
      refine OKT_fn (pswing_run hM hMj hr hO' hk ha) ?_
      intro r m1 hpf
      have hpf' := hpf
      obtain ⟨rfl, _, tv', hv', qt', hpm, _⟩ := hpf'
      have hd2 := pdone_eq hpm.get
      simp (disch := first | assumption | omega | (simp only [zl] <;> omega) | (simp only [zn])) only [↓zd, zk, Nat.reduceSub, Nat.reduceAdd, Nat.reduceMul, Nat.reduceLeDiff, Nat.reduceEqDiff, reduceIte, Int.reduceEq, Int.reduceBEq, Int.reduceLE, Int.reduceLT, Int.reduceNeg, Int.reduceAdd, Int.reduceSub, Int.reduceMul, List.map, AV.cells, List.all, AV.one, eqV, eqAll, splice, fillA, List.replicate, resAll, resA, zm, zg, hget0, ha, a191, hd2]
      exact key _ _ hpf
    · simp (disch := first | assumption | omega | (simp only [zl] <;> omega) | (simp only [zn])) only [put_Put_Step, ↓zd, zk, Nat.reduceSub, Nat.reduceAdd, Nat.reduceMul, Nat.reduceLeDiff, Nat.reduceEqDiff, reduceIte, Int.reduceEq, Int.reduceBEq, Int.reduceLE, Int.reduceLT, Int.reduceNeg, Int.reduceAdd, Int.reduceSub, Int.reduceMul, List.map, AV.cells, List.all, AV.one, eqV, eqAll, splice, fillA, List.replicate, resAll, resA, zm, zg, a191, hd, a207, hway, hget, ha, ev_index, Int.reduceToNat, List.getElem?_cons_succ, List.getElem?_cons_zero, List.append_nil, a217]
      refine OKT_fn (ptake_run hM hMj hr hO' hk ha) ?_
      intro r m1 hpf
      have hpf' := hpf
      obtain ⟨rfl, _, tv', hv', qt', hpm, _⟩ := hpf'
      have hd2 := pdone_eq hpm.get
      simp (disch := first | assumption | omega | (simp only [zl] <;> omega) | (simp only [zn])) only [↓zd, zk, Nat.reduceSub, Nat.reduceAdd, Nat.reduceMul, Nat.reduceLeDiff, Nat.reduceEqDiff, reduceIte, Int.reduceEq, Int.reduceBEq, Int.reduceLE, Int.reduceLT, Int.reduceNeg, Int.reduceAdd, Int.reduceSub, Int.reduceMul, List.map, AV.cells, List.all, AV.one, eqV, eqAll, splice, fillA, List.replicate, resAll, resA, zm, zg, hget0, ha, a191, hd2]
      exact key _ _ hpf
    · simp (disch := first | assumption | omega | (simp only [zl] <;> omega) | (simp only [zn])) only [put_Put_Step, ↓zd, zk, Nat.reduceSub, Nat.reduceAdd, Nat.reduceMul, Nat.reduceLeDiff, Nat.reduceEqDiff, reduceIte, Int.reduceEq, Int.reduceBEq, Int.reduceLE, Int.reduceLT, Int.reduceNeg, Int.reduceAdd, Int.reduceSub, Int.reduceMul, List.map, AV.cells, List.all, AV.one, eqV, eqAll, splice, fillA, List.replicate, resAll, resA, zm, zg, a191, hd, a207, hway, hget, ha, ev_index, Int.reduceToNat, List.getElem?_cons_succ, List.getElem?_cons_zero, List.append_nil, a218]
      refine OKT_fn (pcut_run hM hMj hr hO' hk ha) ?_
      intro r m1 hpf
      have hpf' := hpf
      obtain ⟨rfl, _, tv', hv', qt', hpm, _⟩ := hpf'
      have hd2 := pdone_eq hpm.get
      simp (disch := first | assumption | omega | (simp only [zl] <;> omega) | (simp only [zn])) only [↓zd, zk, Nat.reduceSub, Nat.reduceAdd, Nat.reduceMul, Nat.reduceLeDiff, Nat.reduceEqDiff, reduceIte, Int.reduceEq, Int.reduceBEq, Int.reduceLE, Int.reduceLT, Int.reduceNeg, Int.reduceAdd, Int.reduceSub, Int.reduceMul, List.map, AV.cells, List.all, AV.one, eqV, eqAll, splice, fillA, List.replicate, resAll, resA, zm, zg, hget0, ha, a191, hd2]
      exact key _ _ hpf
end Go.Am.F09
end
section
namespace Go.Am.F09
open Go.Am.F06 Go.Am.F10
def fromA (c : Cf) (p : Int) : Int := if thereP c p then 1 else 0
set_option maxHeartbeats 4000000 in
theorem from_eq {X : Type} (m : Mem X) (c : Cf) (p : Int) : c_put_from [.agg (cfC c), .int .i64 p] m = some (.agg (rgC c p (fromA c p) 0 0 []), m ++ [.cells 6 false (cfC c), .cells 10 false (rgC c p (fromA c p) 0 0 []), .cells 10 false (rgC c p (fromA c p) 0 0 []), .cells 6 false (cfC c), .cells 7 false (cfC c ++ [.int .i64 p]), .cells 6 false (cfC c)]) := by
  have a159 : assoc [(159, F10.c_conf_Config_Word (X := X))] 159 = some F10.c_conf_Config_Word := rfl
  have he : c_put_from (X := X) = amFunc [(159, F10.c_conf_Config_Word)] put_from := rfl
  rw [he]
  generalize [(159, F10.c_conf_Config_Word (X := X))] = G at a159 ⊢
  have hwr := fun m : Mem X => word_run (m := m) c p
  simp only [cfC, List.cons_append, List.nil_append] at hwr
  refine Fn_eq (Fn_of rfl ?_)
  by_cases h : thereP c p
  · have hb := there_bounds h
    have ha := addr_b h (i := 0) (by omega) (by omega)
    have ha0 := ha.1
    rw [fromA, if_pos h]
    simp (disch := first | assumption | omega | (simp only [zl] <;> omega) | (simp only [zn])) only [put_from, ↓zd, zk, Nat.reduceSub, Nat.reduceAdd, Nat.reduceMul, Nat.reduceLeDiff, Nat.reduceEqDiff, reduceIte, Int.reduceEq, Int.reduceBEq, Int.reduceLE, Int.reduceLT, Int.reduceNeg, Int.reduceAdd, Int.reduceSub, Int.reduceMul, List.map, AV.cells, List.all, AV.one, eqV, eqAll, splice, fillA, List.replicate, resAll, resA, zm, zg, cfC, a159, hwr, rgC, List.set_set]
  · have ha : addrA c p 0 = -1 := if_neg h
    rw [fromA, if_neg h]
    simp (disch := first | assumption | omega | (simp only [zl] <;> omega) | (simp only [zn])) only [put_from, ↓zd, zk, Nat.reduceSub, Nat.reduceAdd, Nat.reduceMul, Nat.reduceLeDiff, Nat.reduceEqDiff, reduceIte, Int.reduceEq, Int.reduceBEq, Int.reduceLE, Int.reduceLT, Int.reduceNeg, Int.reduceAdd, Int.reduceSub, Int.reduceMul, List.map, AV.cells, List.all, AV.one, eqV, eqAll, splice, fillA, List.replicate, resAll, resA, zm, zg, cfC, a159, hwr, rgC, ha, List.set_set]
def newS (c : Cf) (p g : Int) : PS := if thereP c p ∧ 0 ≤ g then ⟨1, 0, [], [g]⟩ else ⟨0, 0, [], []⟩
theorem newS_ok (c : Cf) (p g : Int) : POk c p (newS c p g) := by
  unfold newS; split
  · rename_i h
    exact ⟨by unfold W64; simp, .inr ⟨h.1, .inl rfl⟩, by simp⟩
  · exact ⟨by unfold W64; simp, .inl rfl, by simp⟩
def PnP (m : MM) (c : Cf) (p g : Int) (r : AV) (m' : MM) : Prop := ∃ xj hv, r = .ptr xj 0 ∧ m.length ≤ xj ∧ Keep m m' ∧ PM m' xj c p g (newS c p g) xj .nils hv ∧ Fr m.length hv
set_option maxHeartbeats 8000000 in
theorem pnew_run {m : MM} {c : Cf} {p g : Int} : Fn [(206, c_put_from)] put_New [.agg (cfC c), .int .i64 p, .int .i64 g] m (PnP m c p g) := by
  have a206 : assoc [(206, c_put_from (X := Ob))] 206 = some c_put_from := rfl
  generalize [(206, c_put_from (X := Ob))] = G at a206 ⊢
  have hfr := from_eq (m ++ [.cells 6 false (cfC c)]) c p
  by_cases h : thereP c p ∧ 0 ≤ g
  · obtain ⟨h1, h2⟩ := h
    have hn : newS c p g = ⟨1, 0, [], [g]⟩ := if_pos ⟨h1, h2⟩
    unfold PnP
    rw [hn]
    rw [fromA, if_pos h1] at hfr
    simp only [rgC, cfC, List.cons_append, List.nil_append, List.append_assoc] at hfr
    refine Fn_of rfl ?_
    simp (disch := first | assumption | omega | (simp only [zl] <;> omega) | (simp only [zn])) only [put_New, ↓zd, zk, Nat.reduceSub, Nat.reduceAdd, Nat.reduceMul, Nat.reduceLeDiff, Nat.reduceEqDiff, reduceIte, Int.reduceEq, Int.reduceBEq, Int.reduceLE, Int.reduceLT, Int.reduceNeg, Int.reduceAdd, Int.reduceSub, Int.reduceMul, List.map, AV.cells, List.all, AV.one, eqV, eqAll, splice, fillA, List.replicate, resAll, resA, zm, zg, cfC, a206, hfr, List.set_set, evA, fillA, repeatL, List.flatten_cons, List.flatten_nil, List.drop_succ_cons, List.drop_zero, List.drop_nil, List.append_nil]
    refine ⟨_, .sl (m.length + 8) 0 1 (some 1), rfl, by omega, .app _ _, ⟨by rw [get_mid]; rfl, fun h => by simp at h, rfl, ⟨rfl, .inr ⟨_, _, _, rfl, fun _ => ⟨false, _, by rw [get_mid]; rfl, rfl, by simp, fun h => by cases h⟩⟩⟩, fun q o n cc hq _ => ?_⟩, .inr ⟨_, _, _, _, rfl, by omega⟩⟩
    injection hq with hq; omega
  · have hn : newS c p g = ⟨0, 0, [], []⟩ := if_neg h
    unfold PnP
    rw [hn]
    by_cases h1 : thereP c p
    · have h2 : g < 0 := by
        rcases Int.lt_or_le g 0 with h3 | h3
        · exact h3
        · exact absurd ⟨h1, h3⟩ h
      rw [fromA, if_pos h1] at hfr
      simp only [rgC, cfC, List.cons_append, List.nil_append, List.append_assoc] at hfr
      refine Fn_of rfl ?_
      simp (disch := first | assumption | omega | (simp only [zl] <;> omega) | (simp only [zn])) only [put_New, ↓zd, zk, Nat.reduceSub, Nat.reduceAdd, Nat.reduceMul, Nat.reduceLeDiff, Nat.reduceEqDiff, reduceIte, Int.reduceEq, Int.reduceBEq, Int.reduceLE, Int.reduceLT, Int.reduceNeg, Int.reduceAdd, Int.reduceSub, Int.reduceMul, List.map, AV.cells, List.all, AV.one, eqV, eqAll, splice, fillA, List.replicate, resAll, resA, zm, zg, cfC, a206, hfr, List.set_set, List.drop_succ_cons, List.drop_zero, List.drop_nil, List.append_nil]
      exact ⟨_, .nils, rfl, by omega, .app _ _, ⟨by rw [get_mid]; rfl, fun h => by simp at h, rfl, Sl.nil, fun q o n cc hq => by cases hq⟩, .inl rfl⟩
    · rw [fromA, if_neg h1] at hfr
      simp only [rgC, cfC, List.cons_append, List.nil_append, List.append_assoc] at hfr
      refine Fn_of rfl ?_
      by_cases h2 : g < 0
      · simp (disch := first | assumption | omega | (simp only [zl] <;> omega) | (simp only [zn])) only [put_New, ↓zd, zk, Nat.reduceSub, Nat.reduceAdd, Nat.reduceMul, Nat.reduceLeDiff, Nat.reduceEqDiff, reduceIte, Int.reduceEq, Int.reduceBEq, Int.reduceLE, Int.reduceLT, Int.reduceNeg, Int.reduceAdd, Int.reduceSub, Int.reduceMul, List.map, AV.cells, List.all, AV.one, eqV, eqAll, splice, fillA, List.replicate, resAll, resA, zm, zg, cfC, a206, hfr, h2, List.set_set, List.drop_succ_cons, List.drop_zero, List.drop_nil, List.append_nil]
        exact ⟨_, .nils, rfl, by omega, .app _ _, ⟨by rw [get_mid]; rfl, fun h => by simp at h, rfl, Sl.nil, fun q o n cc hq => by cases hq⟩, .inl rfl⟩
      · simp (disch := first | assumption | omega | (simp only [zl] <;> omega) | (simp only [zn])) only [put_New, ↓zd, zk, Nat.reduceSub, Nat.reduceAdd, Nat.reduceMul, Nat.reduceLeDiff, Nat.reduceEqDiff, reduceIte, Int.reduceEq, Int.reduceBEq, Int.reduceLE, Int.reduceLT, Int.reduceNeg, Int.reduceAdd, Int.reduceSub, Int.reduceMul, List.map, AV.cells, List.all, AV.one, eqV, eqAll, splice, fillA, List.replicate, resAll, resA, zm, zg, cfC, a206, hfr, h2, List.set_set, List.drop_succ_cons, List.drop_zero, List.drop_nil, List.append_nil]
        exact ⟨_, .nils, rfl, by omega, .app _ _, ⟨by rw [get_mid]; rfl, fun h => by simp at h, rfl, Sl.nil, fun q o n cc hq => by cases hq⟩, .inl rfl⟩
def ClP (m : MM) (xs : List Int) (r : AV) (m' : MM) : Prop := Keep m m' ∧ SI m' true xs r ∧ Fr m.length r
theorem clone_run {m : MM} {wr : Bool} {xs : List Int} {v : AV} (h : SI m wr xs v) (hn : xs.length ≤ 100000) : Fn [] slices_Clone_int [v] m (ClP m xs) := by
  refine Fn_of rfl ?_
  rcases Nat.eq_zero_or_pos xs.length with h0 | h0
  · have hx0 : xs = [] := List.length_eq_zero_iff.1 h0
    subst hx0
    rcases h.2 with ⟨rfl, _⟩ | ⟨q, o, cap, rfl, _⟩
    · simp (disch := first | assumption | omega | (simp only [zl] <;> omega) | (simp only [zn])) only [slices_Clone_int, ↓zd, zk, Nat.reduceSub, Nat.reduceAdd, Nat.reduceMul, Nat.reduceLeDiff, Nat.reduceEqDiff, reduceIte, Int.reduceEq, Int.reduceBEq, Int.reduceLE, Int.reduceLT, Int.reduceNeg, Int.reduceAdd, Int.reduceSub, Int.reduceMul, List.map, AV.cells, List.all, AV.one, eqV, eqAll, splice, fillA, List.replicate, resAll, resA, zm, zg]
      exact ⟨.refl _, Sl.nil, .inl rfl⟩
    · have happ : appendA 1 8 (.sl m.length 0 0 (some 0)) (.sl q o 0 cap) (m ++ [.cells 1 false []]) = some (.sl m.length 0 0 (some 0), m ++ [.cells 1 false []]) := rfl
      simp (disch := first | assumption | omega | (simp only [zl] <;> omega) | (simp only [zn])) only [slices_Clone_int, ↓zd, zk, Nat.reduceSub, Nat.reduceAdd, Nat.reduceMul, Nat.reduceLeDiff, Nat.reduceEqDiff, reduceIte, Int.reduceEq, Int.reduceBEq, Int.reduceLE, Int.reduceLT, Int.reduceNeg, Int.reduceAdd, Int.reduceSub, Int.reduceMul, List.map, AV.cells, List.all, AV.one, eqV, eqAll, splice, fillA, List.replicate, resAll, resA, zm, zg, evA, fillA, repeatL, List.flatten_nil, happ, List.length_nil]
      exact ⟨.app _ _, ⟨rfl, .inr ⟨_, _, _, rfl, fun h => absurd h (Nat.lt_irrefl _)⟩⟩, .inr ⟨_, _, _, _, rfl, Nat.le_refl _⟩⟩
  · obtain ⟨q, o, cap, ro, L, rfl, h2, h3, h4, h5⟩ := h.at h0
    have hq : q < m.length := (List.getElem?_eq_some_iff.1 h2).1
    have hrow : rowOf (m ++ [Chunk.cells 1 false []]) 1 (.sl q o xs.length cap) = some (iC xs) := by
      simp only [rowOf, Am.getC]
      rw [List.getElem?_append_left hq, h2]
      simp only
      rw [if_neg (by omega), if_pos h4, h3]
    have hz : rowOf (m ++ [Chunk.cells 1 false []]) 1 (.sl m.length 0 0 (some 0)) = some [] := rfl
    have happ : appendA 1 8 (.sl m.length 0 0 (some 0)) (.sl q o xs.length cap) (m ++ [.cells 1 false []]) = some (.sl (m.length + 1) 0 xs.length none, m ++ [.cells 1 false [], .cells 1 false (iC xs)]) := by
      simp only [appendA, lenA, hrow, hz]
      rw [if_neg (by omega), if_neg (by omega), if_pos ⟨by omega, by omega, iC_one _⟩]
      simp
    simp (disch := first | assumption | omega | (simp only [zl] <;> omega) | (simp only [zn])) only [slices_Clone_int, ↓zd, zk, Nat.reduceSub, Nat.reduceAdd, Nat.reduceMul, Nat.reduceLeDiff, Nat.reduceEqDiff, reduceIte, Int.reduceEq, Int.reduceBEq, Int.reduceLE, Int.reduceLT, Int.reduceNeg, Int.reduceAdd, Int.reduceSub, Int.reduceMul, List.map, AV.cells, List.all, AV.one, eqV, eqAll, splice, fillA, List.replicate, resAll, resA, zm, zg, evA, fillA, repeatL, List.flatten_nil, happ]
    exact ⟨.app _ _, ⟨by rw [iC_len]; omega, .inr ⟨_, _, _, rfl, fun _ => ⟨false, iC xs, by rw [get_mid]; rfl, by rw [List.drop_zero, Nat.mul_one, List.take_of_length_le (by rw [iC_len]; omega)], by rw [iC_len]; omega, fun _ => rfl⟩⟩⟩, .inr ⟨_, _, _, _, rfl, by omega⟩⟩
def Gpo : List (Nat × AFun Ob) := [(208, c_slices_Clone_int)]
theorem pover_run {m : MM} {xj : Nat} {c : Cf} {p g : Int} {s : PS} {qt : Nat} {tv hv : AV} (hx : PM m xj c p g s qt tv hv) (hl : s.hs.length ≤ 100000) : Fn Gpo put_Put_Over [.ptr xj 0] m (ClP m (if s.a = 0 then s.hs else [])) := by
  have a208 : assoc Gpo 208 = some c_slices_Clone_int := rfl
  have he : c_slices_Clone_int (X := Ob) = amFunc [] slices_Clone_int := rfl
  generalize Gpo = G at a208 ⊢
  have hg := hx.get
  simp only [putC, rgC, cfC, List.cons_append, List.nil_append] at hg
  refine Fn_of rfl ?_
  by_cases h0 : s.a = 0
  · rw [if_pos h0]
    simp (disch := first | assumption | omega | (simp only [zl] <;> omega) | (simp only [zn])) only [put_Put_Over, ↓zd, zk, Nat.reduceSub, Nat.reduceAdd, Nat.reduceMul, Nat.reduceLeDiff, Nat.reduceEqDiff, reduceIte, Int.reduceEq, Int.reduceBEq, Int.reduceLE, Int.reduceLT, Int.reduceNeg, Int.reduceAdd, Int.reduceSub, Int.reduceMul, List.map, AV.cells, List.all, AV.one, eqV, eqAll, splice, fillA, List.replicate, resAll, resA, zm, zg, hg, h0, a208, he]
    refine OK_fn (clone_run hx.h hl) ?_
    intro r m1 hc
    simp (disch := first | assumption | omega | (simp only [zl] <;> omega) | (simp only [zn])) only [↓zd, zk, Nat.reduceSub, Nat.reduceAdd, Nat.reduceMul, Nat.reduceLeDiff, Nat.reduceEqDiff, reduceIte, Int.reduceEq, Int.reduceBEq, Int.reduceLE, Int.reduceLT, Int.reduceNeg, Int.reduceAdd, Int.reduceSub, Int.reduceMul, List.map, AV.cells, List.all, AV.one, eqV, eqAll, splice, fillA, List.replicate, resAll, resA, zm, zg]
    exact hc
  · rw [if_neg h0]
    simp (disch := first | assumption | omega | (simp only [zl] <;> omega) | (simp only [zn])) only [put_Put_Over, ↓zd, zk, Nat.reduceSub, Nat.reduceAdd, Nat.reduceMul, Nat.reduceLeDiff, Nat.reduceEqDiff, reduceIte, Int.reduceEq, Int.reduceBEq, Int.reduceLE, Int.reduceLT, Int.reduceNeg, Int.reduceAdd, Int.reduceSub, Int.reduceMul, List.map, AV.cells, List.all, AV.one, eqV, eqAll, splice, fillA, List.replicate, resAll, resA, zm, zg, hg, h0]
    exact ⟨.refl _, Sl.nil, .inl rfl⟩
end Go.Am.F09
end
section
namespace Go.Am.F09
open Go.Am.F06 Go.Am.F10
theorem POk.step {c : Cf} {p g : Int} {s : PS} {xs : List Int} (h : POk c p s) (hx : s.a = 0 ∨ OkL c xs) : POk c p (stepP c p g xs s).1 := by
  rcases hx with h0 | hx
  · rw [stepP_zero h0]; exact h
  obtain ⟨h1, h2, h3⟩ := h
  have hg := getD_64 hx.2 (wrdN c p)
  obtain ⟨a, w, tk, hs⟩ := s
  simp only at h1 h2 h3
  rcases h2 with h2 | ⟨hp, h2⟩
  · subst h2; rw [stepP_zero rfl]; exact ⟨h1, .inl rfl, h3⟩
  have hb := there_bounds hp
  rcases h2 with rfl | rfl | rfl | ⟨rfl, h2⟩ | ⟨rfl, h2⟩
  · refine ⟨hg, .inr ⟨hp, ?_⟩, h3⟩
    simp only [stepP, if_true]
    by_cases hq : c.q ≤ sz (xs.getD (wrdN c p) 0)
    · simp only [if_pos hq, List.length_nil]; exact .inr (.inr (.inr (.inl ⟨trivial, by omega⟩)))
    · simp only [if_neg hq]; exact .inr (.inl trivial)
  · exact ⟨h1, .inr ⟨hp, by simp [stepP]⟩, h3⟩
  · by_cases heq : xs.getD (wrdN c p) 0 = w
    · have : stepP c p g xs ⟨3, w, tk, hs⟩ = (⟨0, w, tk, []⟩, xs.set (wrdN c p) (growW w 1)) := if_pos heq
      rw [this]; exact ⟨h1, .inl rfl, by simp⟩
    · have : stepP c p g xs ⟨3, w, tk, hs⟩ = (⟨1, w, tk, hs⟩, xs) := if_neg heq
      rw [this]; exact ⟨h1, .inr ⟨hp, .inl rfl⟩, h3⟩
  · refine ⟨h1, .inr ⟨hp, ?_⟩, h3⟩
    simp only [stepP, List.length_append, List.length_cons, List.length_nil]
    by_cases hq : (tk.length : Int) + 1 = c.q / 2
    · simp [hq]
    · simp [hq]; omega
  · by_cases heq : xs.getD (wrdN c p) 0 = w
    · have : stepP c p g xs ⟨5, w, tk, hs⟩ = (⟨0, w, tk, tk ++ [g]⟩, xs.set (wrdN c p) (dropW w (c.q / 2))) := if_pos heq
      rw [this]; exact ⟨h1, .inl rfl, by simp <;> omega⟩
    · have : stepP c p g xs ⟨5, w, tk, hs⟩ = (⟨1, w, tk, hs⟩, xs) := if_neg heq
      rw [this]; exact ⟨h1, .inr ⟨hp, .inl rfl⟩, h3⟩
theorem ringL_eq {c : Cf} {p v : Int} {xs L : List Int} (hp : thereP c p) (hw : xs.getD (wrdN c p) 0 = v) (hl : sz v ≤ c.q) (hn : (L.length : Int) = sz v) (hv : ∀ i, i < L.length → ringAt c p xs v i = L.getD i 0) : ringL c p xs = L := by
  rw [ringL_there hp, hw]
  have hN : ringN c v = L.length := by unfold ringN; rw [if_pos hl]; omega
  rw [hN]
  refine List.ext_getElem? fun i => ?_
  by_cases hi : i < L.length
  · rw [ringW_get _ _ _ _ hi, hv i hi, List.getD_eq_getElem?_getD, List.getElem?_eq_getElem hi]; rfl
  · rw [List.getElem?_eq_none (by rw [ringW_len]; omega), List.getElem?_eq_none (by omega)]
theorem slot_ne {c : Cf} {p x y : Int} (h : thereP c p) (hx : 0 ≤ x) (hy : 0 ≤ y) (hne : x % c.q ≠ y % c.q) : (slotA c p x).toNat ≠ (slotA c p y).toNat := by
  have hb := there_bounds h
  have h0 := Int.emod_nonneg x (b := c.q) (by omega)
  have h1 := Int.emod_nonneg y (b := c.q) (by omega)
  have hm := mul_bounds hb.2.2.2.2.1 hb.2.2.2.2.2 (q := 6 + c.q) (by omega) (by omega)
  unfold slotA; rw [if_pos h.1, if_pos h.1]; unfold addrA; rw [if_pos h, if_pos h]
  omega
theorem slot_word {c : Cf} {p x : Int} (h : thereP c p) : (slotA c p x).toNat ≠ wrdN c p := by
  have hb := there_bounds h
  have h0 := Int.emod_nonneg x (b := c.q) (by omega)
  have h1 := Int.emod_lt_of_pos x (b := c.q) (by omega)
  unfold slotA; rw [if_pos h.1]
  exact addr_ne h h (by omega) (by omega)
theorem room_mod {q a k n : Int} (hq : roomP q) (h0 : 0 < n - k) (h1 : n - k < q) : (a + k) % 4294967296 % q ≠ (a + n) % 4294967296 % q := by
  rcases hq with rfl | rfl | rfl | rfl | rfl | rfl <;> omega
theorem getD_set_ne {xs : List Int} {a b : Nat} {v : Int} (h : a ≠ b) : (xs.set a v).getD b 0 = xs.getD b 0 := by
  rw [List.getD_eq_getElem?_getD, List.getElem?_set_ne h, ← List.getD_eq_getElem?_getD]
theorem getD_set_self {xs : List Int} {a : Nat} {v : Int} (h : a < xs.length) : (xs.set a v).getD a 0 = v := by
  rw [List.getD_eq_getElem?_getD, List.getElem?_set_self h]; rfl
def slV (c : Cf) (p w0 : Int) (xs : List Int) (k : Nat) : Int := IntKind.i64.wrap (xs.getD (slotA c p ((hd w0 + k) % 4294967296)).toNat 0)
structure KV (c : Cf) (p w0 : Int) (A : List Int) (i d : Nat) (s : PS) (xs : List Int) : Prop where
  ok : OkL c xs
  w : xs.getD (wrdN c p) 0 = dW w0 d
  dl : d ≤ A.length
  sl : ∀ k, d ≤ k → k < A.length → slV c p w0 xs k = A.getD k 0
  hs : s.hs = [999]
  st : (s.a = 1 ∧ i ≤ 6 * d) ∨ ((s.a = 2 ∨ s.a = 3) ∧ ∃ e, e ≤ d ∧ s.w = dW w0 e ∧ (A.length : Int) - e < c.q ∧ (i : Int) ≤ 6 * e + (s.a - 1) ∧ (s.a = 3 → slV c p w0 xs A.length = 999)) ∨
    ((s.a = 4 ∨ s.a = 5) ∧ s.w = dW w0 0 ∧ (A.length : Int) = c.q ∧ (∀ k, k < A.length → slV c p w0 xs k = A.getD k 0) ∧ s.tk = (A.drop (A.length - (c.q / 2).toNat)).take s.tk.length ∧ (s.a = 4 → (s.tk.length : Int) < c.q / 2) ∧ (s.a = 5 → (s.tk.length : Int) = c.q / 2) ∧ i ≤ 1 + s.tk.length)
theorem KV.lt {c : Cf} {p w0 : Int} {A : List Int} {i d : Nat} {s : PS} {xs : List Int} (h : KV c p w0 A i d s xs) (hl : A.length ≤ 8) (hq : c.q ≤ 8) : i < 60 := by
  obtain ⟨_, _, hd, _, _, h⟩ := h
  rcases h with ⟨_, h⟩ | ⟨ha, e, he, _, _, h, _⟩ | ⟨ha, _, _, _, _, h4, h5, h⟩
  · omega
  · omega
  · rcases ha with ha | ha
    · have := h4 ha; omega
    · have := h5 ha; omega
theorem KV.ring {c : Cf} {p w0 : Int} {A : List Int} {i d : Nat} {s : PS} {xs : List Int} (h : KV c p w0 A i d s xs) (hp : thereP c p) (hA : (A.length : Int) = sz w0) (hq : sz w0 ≤ c.q) : ringL c p xs = A.drop d := by
  have hdl := h.dl
  refine ringL_eq hp h.w ?_ ?_ fun i hi => ?_
  · rw [dW_sz (by omega)]; omega
  · rw [dW_sz (by omega), List.length_drop]; omega
  · rw [List.length_drop] at hi
    have := h.sl (d + i) (by omega) (by omega)
    unfold slV at this
    have e : (hd (dW w0 d) + (i : Int)) % 4294967296 = (hd w0 + ((d + i : Nat) : Int)) % 4294967296 := by rw [hd_dW]; omega
    rw [ringAt, e, this, List.getD_eq_getElem?_getD, List.getD_eq_getElem?_getD, List.getElem?_drop]
theorem KV.thief {c : Cf} {p w0 : Int} {A : List Int} {i d : Nat} {s : PS} {xs : List Int} (h : KV c p w0 A i d s xs) (hp : thereP c p) {n : Nat} (hn : d + n ≤ A.length) : KV c p w0 A i (d + n) s (dX c p xs n) := by
  have hsl : ∀ k, slV c p w0 (dX c p xs n) k = slV c p w0 xs k := fun k => by
    unfold slV; rw [dX_slot hp n (by omega)]
  obtain ⟨h1, h2, h3, h4, h5, h6⟩ := h
  refine ⟨dX_ok h1 n, by rw [dX_word h1 hp, h2, dW_add], hn, fun k k1 k2 => by rw [hsl]; exact h4 k (by omega) k2, h5, ?_⟩
  rcases h6 with ⟨ha, h⟩ | ⟨ha, e, he, hw, h7, h, h8⟩ | ⟨ha, hw, h7, h8, h9⟩
  · exact .inl ⟨ha, by omega⟩
  · exact .inr (.inl ⟨ha, e, by omega, hw, h7, h, fun hh => by rw [hsl]; exact h8 hh⟩)
  · exact .inr (.inr ⟨ha, hw, h7, fun k hk => by rw [hsl]; exact h8 k hk, h9⟩)
theorem tl_at {w0 : Int} {A : List Int} (hA : (A.length : Int) = sz w0) (j : Int) : (tl w0 + j) % 4294967296 = (hd w0 + (A.length + j)) % 4294967296 := by
  have := tl_b w0
  unfold sz at hA; omega
theorem KV.step {c : Cf} {p w0 : Int} {A : List Int} {i d : Nat} {s : PS} {xs : List Int} (h : KV c p w0 A i d s xs) (hp : thereP c p) (hA : (A.length : Int) = sz w0) (hq : sz w0 ≤ c.q) (hq8 : c.q ≤ 8) (hw0 : W64 w0) (ha : s.a ≠ 0) :
    ((stepP c p 999 xs s).1.a ≠ 0 ∧ KV c p w0 A (i + 1) d (stepP c p 999 xs s).1 (stepP c p 999 xs s).2) ∨
    ((stepP c p 999 xs s).1.a = 0 ∧ (stepP c p 999 xs s).1.hs = [] ∧ OkL c (stepP c p 999 xs s).2 ∧ ringL c p (stepP c p 999 xs s).2 = A.drop d ++ [999] ∧ (A.length : Int) - d < c.q ∧ d ≤ A.length) ∨
    ((stepP c p 999 xs s).1.a = 0 ∧ d = 0 ∧ (A.length : Int) = c.q ∧ (stepP c p 999 xs s).1.hs = A.drop (A.length - (c.q / 2).toNat) ++ [999] ∧ OkL c (stepP c p 999 xs s).2 ∧ ringL c p (stepP c p 999 xs s).2 = A.take (A.length - (c.q / 2).toNat)) := by
  have hb := there_bounds hp
  have hroom : roomP c.q := hp.1.2.1
  have heven : c.q / 2 + c.q / 2 = c.q := by rcases hroom with h | h | h | h | h | h <;> rw [h] <;> rfl
  have htb := tl_b w0
  have hhb := hd_b hw0
  obtain ⟨h1, h2, h3, h4, h5, h6⟩ := h
  have hxl := h1.1
  have hwb := addr_b hp (i := 0) (by omega) (by omega)
  have hwl : wrdN c p < xs.length := by unfold wrdN; omega
  obtain ⟨a, w, tk, hs⟩ := s
  simp only at ha h5 h6
  rcases h6 with ⟨rfl, h7⟩ | ⟨h7 | h7, e, h8, h9, h10, h11, h12⟩ | ⟨h7 | h7, h8, h9, h10, h11, h12, h13, h14⟩
  · have hs1 : stepP c p 999 xs ⟨1, w, tk, hs⟩ = (⟨if c.q ≤ sz (dW w0 d) then 4 else 2, dW w0 d, [], hs⟩, xs) := by simp only [stepP, if_true, h2]
    have hz := dW_sz (w := w0) (i := d) (by omega)
    rw [hs1, hz]
    by_cases hfull : c.q ≤ sz w0 - d
    · have hd0 : d = 0 := by omega
      rw [if_pos hfull]
      refine .inl ⟨by simp, h1, h2, h3, h4, h5, .inr (.inr ⟨.inl rfl, by rw [hd0], by omega, fun k hk => h4 k (by omega) hk, by simp, fun _ => by simp only [List.length_nil]; omega, fun hh => by simp at hh, by simp; omega⟩)⟩
    · rw [if_neg hfull]
      exact .inl ⟨by simp, h1, h2, h3, h4, h5, .inr (.inl ⟨.inl rfl, d, Nat.le_refl _, rfl, by omega, by simp only; omega, fun hh => by simp at hh⟩)⟩
  · subst h7
    have hsl : pslA c p w 0 = slotA c p ((hd w0 + A.length) % 4294967296) := by
      unfold pslA; rw [h9, tl_dW, tl_at hA, Int.add_zero]
    have hs1 : stepP c p 999 xs ⟨2, w, tk, hs⟩ = (⟨3, w, tk, hs⟩, xs.set (slotA c p ((hd w0 + A.length) % 4294967296)).toNat 999) := by
      have : IntKind.u64.wrap 999 = 999 := by decide
      simp only [stepP, if_neg (show ¬ ((2 : Int) = 1) by decide), if_true, hsl, this]
    rw [hs1]
    have hsb := slot_b (i := (hd w0 + A.length) % 4294967296) hp (by omega)
    refine .inl ⟨by simp, h1.set _ (by unfold W64; omega), ?_, h3, fun k k1 k2 => ?_, h5, .inr (.inl ⟨.inr rfl, e, h8, h9, h10, by simp only; omega, fun _ => ?_⟩)⟩
    · rw [getD_set_ne (slot_word hp)]; exact h2
    · unfold slV
      rw [getD_set_ne (slot_ne hp (by omega) (by omega) (fun hh => room_mod (a := hd w0) (k := k) (n := A.length) hroom (by omega) (by omega) hh.symm))]
      exact h4 k k1 k2
    · unfold slV
      rw [getD_set_self (by omega)]; decide
  · subst h7
    by_cases heq : d = e
    · have hw : xs.getD (wrdN c p) 0 = w := by rw [h2, h9, heq]
      have hs1 : stepP c p 999 xs ⟨3, w, tk, hs⟩ = (⟨0, w, tk, []⟩, xs.set (wrdN c p) (growW w 1)) := if_pos hw
      rw [hs1]
      have hg : growW w 1 = pk ((hd w0 + e) % 4294967296) ((tl w0 + 1) % 4294967296) := by unfold growW; rw [h9, hd_dW, tl_dW]
      refine .inr (.inl ⟨rfl, rfl, h1.set _ (grow_64 (by rw [h9]; exact dW_64 _ _) _), ?_, by omega, h3⟩)
      have hsz : sz (growW w 1) = A.length - e + 1 := by
        rw [hg]; unfold sz; rw [hd_pk (by omega) (by omega), tl_pk (by omega) (by omega)]
        unfold sz at hA; omega
      refine ringL_eq hp (getD_set_self hwl) (by rw [hsz]; omega) (by rw [hsz, List.length_append, List.length_drop, List.length_singleton]; omega) fun k hk => ?_
      rw [List.length_append, List.length_drop, List.length_singleton] at hk
      have hpos : (hd (growW w 1) + (k : Int)) % 4294967296 = (hd w0 + ((d + k : Nat) : Int)) % 4294967296 := by
        rw [hg, hd_pk (by omega) (by omega)]; omega
      rw [ringAt, hpos, getD_set_ne (slot_word hp).symm]
      by_cases hk2 : d + k < A.length
      · have := h4 (d + k) (by omega) hk2
        unfold slV at this
        rw [this, List.getD_eq_getElem?_getD, List.getD_eq_getElem?_getD, List.getElem?_append_left (by rw [List.length_drop]; omega), List.getElem?_drop]
      · have hk3 : d + k = A.length := by omega
        have := h12 rfl
        unfold slV at this
        rw [hk3, this, List.getD_eq_getElem?_getD, List.getElem?_append_right (by rw [List.length_drop]; omega), List.length_drop, show k - (A.length - d) = 0 by omega]; rfl
    · have hw : ¬ xs.getD (wrdN c p) 0 = w := fun hh => heq (dW_inj (w := w0) (by omega) (by omega) (by rw [← h2, hh, h9]))
      have hs1 : stepP c p 999 xs ⟨3, w, tk, hs⟩ = (⟨1, w, tk, hs⟩, xs) := if_neg hw
      rw [hs1]
      exact .inl ⟨by simp, h1, h2, h3, h4, h5, .inl ⟨rfl, by omega⟩⟩
  · subst h7
    have hlt := h12 rfl
    have hsl : pslA c p w (tk.length - c.q / 2) = slotA c p ((hd w0 + ((A.length - (c.q / 2).toNat + tk.length : Nat) : Int)) % 4294967296) := by
      unfold pslA; rw [h8, tl_dW, tl_at hA]; congr 2; omega
    have hv := h10 (A.length - (c.q / 2).toNat + tk.length) (by omega)
    unfold slV at hv
    have hs1 : stepP c p 999 xs ⟨4, w, tk, hs⟩ = (⟨if (tk.length : Int) + 1 = c.q / 2 then 5 else 4, w, tk ++ [A.getD (A.length - (c.q / 2).toNat + tk.length) 0], hs⟩, xs) := by
      simp only [stepP, if_neg (show ¬ ((4 : Int) = 1) by decide), if_neg (show ¬ ((4 : Int) = 2) by decide), if_neg (show ¬ ((4 : Int) = 3) by decide), if_true, hsl, hv]
    rw [hs1]
    have htk : tk ++ [A.getD (A.length - (c.q / 2).toNat + tk.length) 0] = (A.drop (A.length - (c.q / 2).toNat)).take (tk.length + 1) := by
      have hg : (A.drop (A.length - (c.q / 2).toNat))[tk.length]? = some (A.getD (A.length - (c.q / 2).toNat + tk.length) 0) := by
        rw [List.getElem?_drop, List.getD_eq_getElem?_getD, List.getElem?_eq_getElem (by omega)]; rfl
      rw [List.take_add_one, hg, ← h11]; rfl
    refine .inl ⟨by simp only; split <;> omega, h1, h2, h3, h4, h5, .inr (.inr ⟨?_, h8, h9, h10, ?_, fun hh => ?_, fun hh => ?_, ?_⟩)⟩
    · simp only; split <;> simp
    · simp only [List.length_append, List.length_singleton]; exact htk
    · simp only [List.length_append, List.length_singleton] at hh ⊢
      by_cases hq2 : (tk.length : Int) + 1 = c.q / 2
      · rw [if_pos hq2] at hh; simp at hh
      · omega
    · simp only [List.length_append, List.length_singleton] at hh ⊢
      by_cases hq2 : (tk.length : Int) + 1 = c.q / 2
      · omega
      · rw [if_neg hq2] at hh; simp at hh
    · simp only [List.length_append, List.length_singleton]; omega
  · subst h7
    have hlt := h13 rfl
    by_cases heq : d = 0
    · have hw : xs.getD (wrdN c p) 0 = w := by rw [h2, h8, heq]
      have hs1 : stepP c p 999 xs ⟨5, w, tk, hs⟩ = (⟨0, w, tk, tk ++ [999]⟩, xs.set (wrdN c p) (dropW w (c.q / 2))) := if_pos hw
      rw [hs1]
      have hg : dropW w (c.q / 2) = pk ((hd w0 + (0 : Nat)) % 4294967296) ((tl w0 - c.q / 2) % 4294967296) := by unfold dropW; rw [h8, hd_dW, tl_dW]
      have hsz : sz (dropW w (c.q / 2)) = A.length - c.q / 2 := by
        rw [hg]; unfold sz; rw [hd_pk (by omega) (by omega), tl_pk (by omega) (by omega)]
        unfold sz at hA; omega
      refine .inr (.inr ⟨rfl, heq, h9, ?_, h1.set _ (drop_64 (by rw [h8]; exact dW_64 _ _) _), ?_⟩)
      · have : (A.drop (A.length - (c.q / 2).toNat)).take tk.length = A.drop (A.length - (c.q / 2).toNat) := List.take_of_length_le (by rw [List.length_drop]; omega)
        rw [this] at h11
        simp only; rw [← h11]
      · refine ringL_eq hp (getD_set_self hwl) (by rw [hsz]; omega) (by rw [hsz, List.length_take]; omega) fun k hk => ?_
        rw [List.length_take] at hk
        have hpos : (hd (dropW w (c.q / 2)) + (k : Int)) % 4294967296 = (hd w0 + (k : Int)) % 4294967296 := by
          rw [hg, hd_pk (by omega) (by omega)]; omega
        rw [ringAt, hpos, getD_set_ne (slot_word hp).symm]
        have := h10 k (by omega)
        unfold slV at this
        rw [this, List.getD_eq_getElem?_getD, List.getD_eq_getElem?_getD, List.getElem?_take, if_pos (by omega)]
    · have hw : ¬ xs.getD (wrdN c p) 0 = w := fun hh => heq (dW_inj (w := w0) (by omega) (by omega) (by rw [← h2, hh, h8]))
      have hs1 : stepP c p 999 xs ⟨5, w, tk, hs⟩ = (⟨1, w, tk, hs⟩, xs) := if_neg hw
      rw [hs1]
      exact .inl ⟨by simp, h1, h2, h3, h4, h5, .inl ⟨rfl, by omega⟩⟩
end Go.Am.F09
end
