import Derived.Test.YtmgahjccidmlaaaXG16
set_option linter.unusedSimpArgs false
set_option linter.unusedVariables false
section
namespace Go.Am.F10
open Go.Am.F06 (SU uC_len uC_set uC_one)
variable {X : Type}
theorem wrap64_b (z : Int) : W64 (IntKind.u64.wrap z) := by rw [wrap64]; unfold W64; omega
theorem wrap32_b (z : Int) : 0 ≤ IntKind.u32.wrap z ∧ IntKind.u32.wrap z < 4294967296 := by rw [wrap32]; omega
def orU (a b : Int) : Int := IntKind.u64.wrap ((BitVec.ofInt 64 a ||| BitVec.ofInt 64 b).toNat : Int)
theorem evOr (a b : Int) : binI .or .u64 a b = some (.int .u64 (orU a b)) := rfl
theorem stC_u {m : Mem X} {i o : Nat} {n : Int} {xs : List Int} (h : o < xs.length) : stC m i o 1 (.int .u64 n) (some (1, false, uC xs)) = some (m.set i (.cells 1 false (uC (xs.set o n)))) := by
  rw [stC_int (by rw [uC_len]; exact h), uC_set]
structure OkF (c : Cf) (xs : List Int) : Prop where
  at' : ∀ p, thereP c p → sz (xs.getD (addrA c p 0).toNat 0) ≤ c.q
theorem OkF.setw {c : Cf} {xs : List Int} (h : OkF c xs) {p v : Int} (hp : thereP c p) (hv : sz v ≤ c.q) : OkF c (xs.set (addrA c p 0).toNat v) := by
  refine ⟨fun p' hp' => ?_⟩
  by_cases he : (addrA c p 0).toNat = (addrA c p' 0).toNat
  · rw [← he]
    by_cases hl : (addrA c p 0).toNat < xs.length
    · rw [List.getD_eq_getElem?_getD, List.getElem?_set_self hl]; exact hv
    · rw [List.getD_eq_getElem?_getD, List.getElem?_eq_none (by rw [List.length_set]; omega)]
      have hb := there_bounds hp
      have : sz 0 = 0 := by decide
      show sz 0 ≤ c.q
      omega
  · rw [List.getD_eq_getElem?_getD, List.getElem?_set_ne he, ← List.getD_eq_getElem?_getD]; exact h.at' p' hp'
theorem addr_ne {c : Cf} {p p' i : Int} (hp : thereP c p) (hp' : thereP c p') (h0 : 1 ≤ i) (h1 : i < 6 + c.q) : (addrA c p i).toNat ≠ (addrA c p' 0).toNat := by
  have hb := there_bounds hp
  have hb' := there_bounds hp'
  have hm := mul_bounds hb.2.2.2.2.1 hb.2.2.2.2.2 (q := 6 + c.q) (by omega) (by omega)
  have hm' := mul_bounds hb'.2.2.2.2.1 hb'.2.2.2.2.2 (q := 6 + c.q) (by omega) (by omega)
  unfold addrA; rw [if_pos hp, if_pos hp']
  rcases (show p < p' ∨ p = p' ∨ p' < p by omega) with h | h | h
  · have h2 : (p + 1) * (6 + c.q) ≤ p' * (6 + c.q) := Int.mul_le_mul_of_nonneg_right (by omega) (by omega)
    have h3 : (p + 1) * (6 + c.q) = p * (6 + c.q) + (6 + c.q) := by rw [Int.add_mul, Int.one_mul]
    omega
  · subst h; omega
  · have h2 : p' * (6 + c.q) ≤ p * (6 + c.q) := Int.mul_le_mul_of_nonneg_right (by omega) (by omega)
    omega
theorem OkF.seta {c : Cf} {xs : List Int} (h : OkF c xs) {p i v : Int} (hp : thereP c p) (h0 : 1 ≤ i) (h1 : i < 6 + c.q) : OkF c (xs.set (addrA c p i).toNat v) := by
  refine ⟨fun p' hp' => ?_⟩
  rw [List.getD_eq_getElem?_getD, List.getElem?_set_ne (addr_ne hp hp' h0 h1), ← List.getD_eq_getElem?_getD]; exact h.at' p' hp'
theorem OkF.setb {c : Cf} {xs : List Int} (h : OkF c xs) {p i v : Int} (hp : thereP c p) (h0 : 1 ≤ i) (h1 : i ≤ 5) : OkF c (xs.set (addrA c p i).toNat v) := h.seta hp h0 (by have := there_bounds hp; omega)
theorem OkF.sets {c : Cf} {xs : List Int} (h : OkF c xs) {p k v : Int} (hp : thereP c p) : OkF c (xs.set (slotA c p k).toNat v) := by
  have hb := there_bounds hp
  have h0 := Int.emod_nonneg k (b := c.q) (by omega)
  have h1 := Int.emod_lt_of_pos k (b := c.q) (by omega)
  unfold slotA; rw [if_pos hp.1]
  exact h.seta hp (by omega) (by omega)
theorem word_sz {h n q : Int} (h0 : 0 ≤ h) (h1 : h < 4294967296) (n0 : 0 ≤ n) (n1 : n ≤ q) (hq : q ≤ 64) : sz (orU (IntKind.u64.wrap (IntKind.u64.wrap h * 4294967296)) (IntKind.u64.wrap (IntKind.u32.wrap (h + n)))) ≤ q := by
  have e1 : IntKind.u64.wrap h = h := wrapU h0 (by omega)
  have e2 : IntKind.u64.wrap (h * 4294967296) = h * 4294967296 := wrapU (by omega) (by omega)
  have e3 : IntKind.u32.wrap (h + n) = (h + n) % 4294967296 := wrap32 _
  have e4 : IntKind.u64.wrap ((h + n) % 4294967296) = (h + n) % 4294967296 := wrapU (by omega) (by omega)
  have ho := or_eq h0 h1 (t := (h + n) % 4294967296) (by omega) (by omega)
  rw [evOr] at ho
  injection ho with ho; injection ho with _ ho
  rw [e1, e2, e3, e4, ho]
  unfold sz hd tl pk; omega
theorem mod_le {b q n : Int} (hb : 0 ≤ b) (hq : 0 ≤ q) (hq2 : q ≤ 64) (hn : n = IntKind.u32.wrap (b.tmod (q + 1))) : n ≤ q := by
  have h0 := Int.emod_nonneg b (b := q + 1) (by omega)
  have h1 := Int.emod_lt_of_pos b (b := q + 1) (by omega)
  rw [hn, Int.tmod_eq_emod_of_nonneg hb, wrap32]; omega
structure FS (m0 : Mem X) (c : Cf) (q0 : Nat) (xs : List Int) (m : Mem X) : Prop where
  keep : Keep m0 m
  box : m[m0.length]? = some (.cells 6 false (cfC c))
  out : m[q0]? = some (.cells 1 false (uC xs))
  len : xs.length = cellsN c
  ok : ∀ x, x ∈ xs → W64 x
  lt : m0.length < q0
  full : OkF c xs
theorem FS.app {m0 m : Mem X} {c : Cf} {q0 : Nat} {xs : List Int} (h : FS m0 c q0 xs m) (K : Mem X) : FS m0 c q0 xs (m ++ K) :=
  ⟨h.keep.trans (Keep.app _ _), (Keep.app m K).get h.box, (Keep.app m K).get h.out, h.len, h.ok, h.lt, h.full⟩
def OkL (c : Cf) (xs : List Int) : Prop := xs.length = cellsN c ∧ ∀ x, x ∈ xs → W64 x
theorem OkL.set {c : Cf} {xs : List Int} (h : OkL c xs) (a : Nat) {v : Int} (hv : W64 v) : OkL c (xs.set a v) := by
  refine ⟨by rw [List.length_set]; exact h.1, fun x hx => ?_⟩
  rcases List.mem_or_eq_of_mem_set hx with hx | rfl
  · exact h.2 x hx
  · exact hv
theorem FS.okL {m0 m : Mem X} {c : Cf} {q0 : Nat} {xs : List Int} (h : FS m0 c q0 xs m) : OkL c xs := ⟨h.len, h.ok⟩
theorem FS.all {m0 m : Mem X} {c : Cf} {q0 : Nat} {xs xs' : List Int} (h : FS m0 c q0 xs m) (hx : OkL c xs') (hf : OkF c xs') (K : Mem X) : FS m0 c q0 xs' (m.set q0 (.cells 1 false (uC xs')) ++ K) := by
  refine FS.app ⟨h.keep.set (by have := h.lt; omega) _, ?_, List.getElem?_set_self (List.getElem?_eq_some_iff.1 h.out).1, hx.1, hx.2, h.lt, hf⟩ K
  rw [List.getElem?_set_ne (by have := h.lt; omega)]; exact h.box
def FI (m0 : Mem X) (c : Cf) (q0 : Nat) (bv : AV) (k : Nat) (e : List AV) (m : Mem X) : Prop := ∃ (p : Nat) (xs : List Int) (y6 y7 y8 y9 y10 y11 y12 : AV),
  e = [.agg (cfC c), bv, .ptr m0.length 0, .nils, .sl q0 0 (cellsN c) (some (cellsN c)), .int .i64 p, y6, y7, y8, y9, y10, y11, y12] ∧ FS m0 c q0 xs m ∧ (rightP c → (k : Int) = c.n - p ∧ (p : Int) ≤ c.n) ∧ (¬ rightP c → k = 0)
def FI2 (m0 : Mem X) (c : Cf) (q0 : Nat) (bv : AV) (p : Nat) (h n : Int) (y9 y10 : AV) (k : Nat) (e : List AV) (m : Mem X) : Prop := ∃ (i : Int) (xs : List Int) (y11 y12 : AV),
  e = [.agg (cfC c), bv, .ptr m0.length 0, .nils, .sl q0 0 (cellsN c) (some (cellsN c)), .int .i64 p, .int .u32 h, .int .u32 n, .int .u32 i, y9, y10, y11, y12] ∧ FS m0 c q0 xs m ∧ (k : Int) = n - i ∧ 0 ≤ i ∧ i ≤ n
def Gfill : List (Nat × AFun X) := [(156, c_conf_Config_Cells), (157, c_conf_Config_Right), (158, c_docs_byteAt), (159, c_conf_Config_Word), (160, c_conf_Config_Slot), (161, c_conf_Config_Next), (162, c_conf_Config_Stat), (163, c_conf_Config_Tick), (164, c_conf_Config_Sys), (165, c_conf_Config_Flag)]
set_option maxHeartbeats 16000000 in
theorem filled_runF {m0 : Mem X} {c : Cf} {bs : List Int} {bv : AV} (hB : SB m0 bs bv) (hb : ∀ x, x ∈ bs → 0 ≤ x ∧ x < 256) :
    Fn Gfill docs_Filled [.agg (cfC c), bv] m0 (fun r m' => ∃ xs, Keep m0 m' ∧ SU m' true xs r ∧ xs.length = cellsN c ∧ (∀ x, x ∈ xs → W64 x) ∧ OkF c xs) := by
  have a156 : assoc (Gfill (X := X)) 156 = some c_conf_Config_Cells := rfl
  have a157 : assoc (Gfill (X := X)) 157 = some c_conf_Config_Right := rfl
  have a158 : assoc (Gfill (X := X)) 158 = some c_docs_byteAt := rfl
  have a159 : assoc (Gfill (X := X)) 159 = some c_conf_Config_Word := rfl
  have a160 : assoc (Gfill (X := X)) 160 = some c_conf_Config_Slot := rfl
  have a161 : assoc (Gfill (X := X)) 161 = some c_conf_Config_Next := rfl
  have a162 : assoc (Gfill (X := X)) 162 = some c_conf_Config_Stat := rfl
  have a163 : assoc (Gfill (X := X)) 163 = some c_conf_Config_Tick := rfl
  have a164 : assoc (Gfill (X := X)) 164 = some c_conf_Config_Sys := rfl
  have a165 : assoc (Gfill (X := X)) 165 = some c_conf_Config_Flag := rfl
  generalize Gfill (X := X) = G at a156 a157 a158 a159 a160 a161 a162 a163 a164 a165 ⊢
  obtain ⟨J, hcells⟩ := cells_eq (m0 ++ [.cells 6 false (cfC c)]) c
  have hN := cellsN_le c
  have hmk : ∀ M : Mem X, amOp G (.make 1 8 [.int .u64 0]) [.int .i64 (cellsN c), .int .i64 (cellsN c)] M = some (.sl M.length 0 (cellsN c) (some (cellsN c)), M ++ [.cells 1 false (uC (List.replicate (cellsN c) 0))]) := fun M => by
    have hrep : repeatL (cellsN c) [AV.int .u64 0] = uC (List.replicate (cellsN c) 0) := by simp [repeatL, uC]
    simp only [amOp]
    rw [if_pos (by omega), Int.toNat_natCast, hrep]
  simp only [cfC, List.append_assoc, List.cons_append, List.nil_append] at hcells
  have e4 : ∀ p : Nat, (p : Int) < 8 → IntKind.i64.wrap (4 * (p : Int)) = 4 * (p : Int) := fun p hp => wrapI (by omega) (by omega)
  refine Fn_of rfl ?_
  simp (disch := first | assumption | omega | (simp only [zl] <;> omega) | (simp only [zn])) only [docs_Filled, ↓zd, zk, Nat.reduceSub, Nat.reduceAdd, Nat.reduceMul, Nat.reduceLeDiff, Nat.reduceEqDiff, reduceIte, Int.reduceEq, Int.reduceBEq, Int.reduceLE, Int.reduceLT, Int.reduceNeg, Int.reduceAdd, Int.reduceSub, Int.reduceMul, List.map, AV.cells, List.all, AV.one, eqV, eqAll, splice, fillA, List.replicate, resAll, resA, zm, zg, cfC, a156, hcells, hmk]
  have hF0 : FS m0 c (m0.length + (J.length + 1)) (List.replicate (cellsN c) 0) (m0 ++ Chunk.cells 6 false (cfC c) :: (J ++ [Chunk.cells 1 false (uC (List.replicate (cellsN c) 0))])) := by
    refine ⟨Keep.app _ _, by rw [get_mid0]; rfl, ?_, by simp, fun x hx => ?_, by omega, ⟨fun p hp => ?_⟩⟩
    · rw [get_mid, List.getElem?_cons_succ, get_concat]
    · rw [List.eq_of_mem_replicate hx]; unfold W64; omega
    · have hz : (List.replicate (cellsN c) (0 : Int)).getD (addrA c p 0).toNat 0 = 0 := by
        rw [List.getD_eq_getElem?_getD, List.getElem?_replicate]; split <;> rfl
      rw [hz]
      have : sz 0 = 0 := by decide
      have hb := there_bounds hp
      omega
  have hRT : ∀ m : Mem X, c_conf_Config_Right [.agg [.int .i64 c.n, .int .i64 c.q, .int .i64 c.g, .int .i64 c.m, .int .i64 c.t, .int .i64 c.s]] m = some (.bool (decide (rightP c)), m ++ [.cells 6 false (cfC c)]) := fun m => right_eq m c
  refine W_loop (FI m0 c (m0.length + (J.length + 1)) bv) (if rightP c then c.n.toNat else 0) ?_ ⟨0, List.replicate (cellsN c) 0, _, _, _, _, _, _, _, rfl, hF0, fun hr => ?_, fun hr => if_neg hr⟩ ?_
  · split
    · rename_i hr; have := hr.1; simp only [FUEL]; omega
    · simp [FUEL]
  · rw [if_pos hr]; have := hr.1; omega
  clear hF0 hcells hmk
  generalize m0.length + (J.length + 1) = q0
  rintro k e m ⟨p, xs, y6, y7, y8, y9, y10, y11, y12, rfl, hF, hk1, hk2⟩
  have hbox := hF.box
  have hout := hF.out
  have hul : (uC xs).length = cellsN c := by rw [uC_len]; exact hF.len
  have hl0 : m0.length < m.length := (List.getElem?_eq_some_iff.1 hbox).1
  have hlq : q0 < m.length := (List.getElem?_eq_some_iff.1 hout).1
  have fin : ∀ K : Mem X, ∃ xs, Keep m0 (m ++ K) ∧ SU (m ++ K) true xs (.sl q0 0 (cellsN c) (some (cellsN c))) ∧ xs.length = cellsN c ∧ (∀ x, x ∈ xs → W64 x) ∧ OkF c xs := fun K => by
    have hF' := hF.app K
    refine ⟨xs, hF'.keep, ⟨by rw [uC_len]; omega, .inr ⟨_, _, _, by rw [hF.len], fun _ => ⟨false, _, hF'.out, by rw [List.drop_zero, Nat.mul_one, ← uC_len, List.take_length], by rw [uC_len]; omega, fun _ => rfl⟩⟩⟩, hF.len, hF.ok, hF.full⟩
  simp only [cfC] at hbox
  by_cases hr : rightP c
  · simp only [decide_eq_true hr] at hRT
    obtain ⟨hk1, hk1'⟩ := hk1 hr
    by_cases hp : (p : Int) < c.n
    · have ht : thereP c p := ⟨hr, by omega, hp⟩
      have htb := there_bounds ht
      have hq0 := hF.lt
      have hbv := byteV_b hb
      have hby0 : ∀ i : Int, 0 ≤ i → c_docs_byteAt [bv, .int .i64 i] m = some (.int .i64 (byteV bs i), m) := fun i hi => byte_eq (hB.keep hF.keep) hb hi
      have hby1 : ∀ (K : Mem X) (i : Int), 0 ≤ i → c_docs_byteAt [bv, .int .i64 i] (m ++ K) = some (.int .i64 (byteV bs i), m ++ K) := fun K i hi => byte_eq (hB.keep (hF.keep.trans (Keep.app _ _))) hb hi
      have hA : ∀ k : Int, 0 ≤ k → k < 8 → 0 ≤ addrA c p k ∧ addrA c p k < cellsN c := fun k h0 h1 => addr_b ht h0 (by omega)
      have hA0 := hA 0 (by omega) (by omega)
      have eq1 : IntKind.i64.wrap (c.q + 1) = c.q + 1 := wrapI (by omega) (by omega)
      have hA1 := hA 1 (by omega) (by omega)
      have hA2 := hA 2 (by omega) (by omega)
      have hA3 := hA 3 (by omega) (by omega)
      have hA4 := hA 4 (by omega) (by omega)
      have hA5 := hA 5 (by omega) (by omega)
      have hs := fun (M : Mem X) (z : Int) => slot_eqR M hr (p : Int) (wrap32_b z).1 (wrap32_b z).2
      have hnx := fun M : Mem X => next_eq M c (p : Int)
      have hst := fun M : Mem X => stat_eq M c (p : Int)
      have htk := fun M : Mem X => tick_eq M c (p : Int)
      have hsy := fun M : Mem X => sys_eq M c (p : Int)
      have hfl := fun M : Mem X => flag_eq M c (p : Int)
      simp only [cfC, List.cons_append, List.nil_append] at hs hnx hst htk hsy hfl
      have hw0 := fun m : Mem X => word_run (m := m) c (p : Int)
      simp only [cfC, List.cons_append, List.nil_append] at hw0
      simp (disch := first | assumption | omega | (simp only [zl] <;> omega) | (simp only [zn])) only [↓zd, zk, Nat.reduceSub, Nat.reduceAdd, Nat.reduceMul, Nat.reduceLeDiff, Nat.reduceEqDiff, reduceIte, Int.reduceEq, Int.reduceBEq, Int.reduceLE, Int.reduceLT, Int.reduceNeg, Int.reduceAdd, Int.reduceSub, Int.reduceMul, List.map, AV.cells, List.all, AV.one, eqV, eqAll, splice, fillA, List.replicate, resAll, resA, zm, zg, cfC, hbox, a157, hRT, a158, hby0, hby1]
      refine CW_of (fun _ => ?_) (fun _ => ?_)
      all_goals simp (disch := first | assumption | omega | (simp only [zl] <;> omega) | (simp only [zn])) only [↓zd, zk, Nat.reduceSub, Nat.reduceAdd, Nat.reduceMul, Nat.reduceLeDiff, Nat.reduceEqDiff, reduceIte, Int.reduceEq, Int.reduceBEq, Int.reduceLE, Int.reduceLT, Int.reduceNeg, Int.reduceAdd, Int.reduceSub, Int.reduceMul, List.map, AV.cells, List.all, AV.one, eqV, eqAll, splice, fillA, List.replicate, resAll, resA, zm, zg, cfC, hbox, a157, hRT, a158, hby0, hby1, eq1, a159, hw0, shl_eq, evOr, hout, hul, uC_set]
      · refine W_loop (FI2 m0 c q0 bv p _ _ _ _) (IntKind.u32.wrap ((byteV bs (4 * (p : Int) + 1)).tmod (c.q + 1))).toNat (by have := wrap32_b ((byteV bs (4 * (p : Int) + 1)).tmod (c.q + 1)); simp only [FUEL]; omega) ⟨0, _, _, _, rfl, hF.all (hF.okL.set _ (wrap64_b _)) (hF.full.setw ht (word_sz (wrap32_b _).1 (wrap32_b _).2 (wrap32_b _).1 (mod_le (hbv _).1 (by omega) (by omega) rfl) (by omega))) _, by have := wrap32_b ((byteV bs (4 * (p : Int) + 1)).tmod (c.q + 1)); omega, by omega, (wrap32_b _).1⟩ ?_
        clear hF hout hul hby0 hby1 hl0 hlq fin hbox
        rintro k2 e m2 ⟨i, xs2, y11, y12, rfl, hF, hk, hi0, hi1⟩
        have hbox := hF.box
        have hout := hF.out
        have hul : (uC xs2).length = cellsN c := by rw [uC_len]; exact hF.len
        have hl0 : m0.length < m2.length := (List.getElem?_eq_some_iff.1 hbox).1
        have hlq : q0 < m2.length := (List.getElem?_eq_some_iff.1 hout).1
        simp only [cfC] at hbox
        have hn32 := wrap32_b ((byteV bs (4 * (p : Int) + 1)).tmod (c.q + 1))
        generalize IntKind.u32.wrap ((byteV bs (4 * (p : Int) + 1)).tmod (c.q + 1)) = n at hk hi1 hn32 ⊢
        have hlx : xs2.length = cellsN c := hF.len
        simp (disch := first | assumption | omega | (simp only [zl] <;> omega) | (simp only [zn])) only [↓zd, zk, Nat.reduceSub, Nat.reduceAdd, Nat.reduceMul, Nat.reduceLeDiff, Nat.reduceEqDiff, reduceIte, Int.reduceEq, Int.reduceBEq, Int.reduceLE, Int.reduceLT, Int.reduceNeg, Int.reduceAdd, Int.reduceSub, Int.reduceMul, List.map, AV.cells, List.all, AV.one, eqV, eqAll, splice, fillA, List.replicate, resAll, resA, zm, zg, cfC]
        refine CW_of (fun hlt => ?_) (fun hge => ?_)
        · simp only [decide_eq_true_eq] at hlt
          have hi1' : IntKind.u32.wrap (i + 1) = i + 1 := by rw [wrap32]; omega
          have hsA := slot_b ht (wrap32_b (IntKind.u32.wrap (IntKind.u32.wrap (0 - IntKind.u32.wrap ((byteV bs (4 * (p : Int))).tmod 7)) - 1) + i)).1
          simp (disch := first | assumption | omega | (simp only [zl] <;> omega) | (simp only [zn])) only [↓zd, zk, Nat.reduceSub, Nat.reduceAdd, Nat.reduceMul, Nat.reduceLeDiff, Nat.reduceEqDiff, reduceIte, Int.reduceEq, Int.reduceBEq, Int.reduceLE, Int.reduceLT, Int.reduceNeg, Int.reduceAdd, Int.reduceSub, Int.reduceMul, List.map, AV.cells, List.all, AV.one, eqV, eqAll, splice, fillA, List.replicate, resAll, resA, zm, zg, cfC, hbox, a160, hs, hout, hul, uC_set, hi1']
          exact ⟨k2 - 1, by omega, i + 1, _, _, _, rfl, hF.all (hF.okL.set _ (by unfold W64; omega)) (hF.full.sets ht) _, by omega, by omega, by omega⟩
        · simp only [decide_eq_false_iff_not] at hge
          have hby0 : ∀ i : Int, 0 ≤ i → c_docs_byteAt [bv, .int .i64 i] m2 = some (.int .i64 (byteV bs i), m2) := fun i hi => byte_eq (hB.keep hF.keep) hb hi
          have hby1 : ∀ (K : Mem X) (i : Int), 0 ≤ i → c_docs_byteAt [bv, .int .i64 i] (m2 ++ K) = some (.int .i64 (byteV bs i), m2 ++ K) := fun K i hi => byte_eq (hB.keep (hF.keep.trans (Keep.app _ _))) hb hi
          have hby2 : ∀ (A : Chunk X) (K : Mem X) (i : Int), 0 ≤ i → c_docs_byteAt [bv, .int .i64 i] (m2.set q0 A ++ K) = some (.int .i64 (byteV bs i), m2.set q0 A ++ K) := fun A K i hi => byte_eq (hB.keep ((hF.keep.set (by omega) A).trans (Keep.app _ _))) hb hi
          simp (disch := first | assumption | omega | (simp only [zl] <;> omega) | (simp only [zn])) only [↓zd, zk, Nat.reduceSub, Nat.reduceAdd, Nat.reduceMul, Nat.reduceLeDiff, Nat.reduceEqDiff, reduceIte, Int.reduceEq, Int.reduceBEq, Int.reduceLE, Int.reduceLT, Int.reduceNeg, Int.reduceAdd, Int.reduceSub, Int.reduceMul, List.map, AV.cells, List.all, AV.one, eqV, eqAll, splice, fillA, List.replicate, resAll, resA, zm, zg, cfC, a158, hby0]
          refine CW_of (fun _ => ?_) (fun _ => ?_)
          all_goals simp (disch := first | assumption | omega | (simp only [zl] <;> omega) | (simp only [zn])) only [↓zd, zk, Nat.reduceSub, Nat.reduceAdd, Nat.reduceMul, Nat.reduceLeDiff, Nat.reduceEqDiff, reduceIte, Int.reduceEq, Int.reduceBEq, Int.reduceLE, Int.reduceLT, Int.reduceNeg, Int.reduceAdd, Int.reduceSub, Int.reduceMul, List.map, AV.cells, List.all, AV.one, eqV, eqAll, splice, fillA, List.replicate, resAll, resA, zm, zg, cfC, hbox, a158, hby0, hby1, hby2, hout, stC_u, List.set_set, a161, hnx, a162, hst, a163, htk, a164, hsy, a165, hfl]
          all_goals simp only [uC_set]
          all_goals refine ⟨k - 1, by omega, p + 1, _, _, _, _, _, _, _, _, rfl, hF.all (by (repeat' refine OkL.set ?_ _ (by first | exact wrap64_b _ | (unfold W64; omega))); exact hF.okL) (by (repeat' refine OkF.setb ?_ ht (by decide) (by decide)); exact hF.full) _, fun _ => ⟨by omega, by omega⟩, fun h => absurd hr h⟩
      · refine W_loop (FI2 m0 c q0 bv p _ _ _ _) (IntKind.u32.wrap ((byteV bs (4 * (p : Int) + 1)).tmod (c.q + 1))).toNat (by have := wrap32_b ((byteV bs (4 * (p : Int) + 1)).tmod (c.q + 1)); simp only [FUEL]; omega) ⟨0, _, _, _, rfl, hF.all (hF.okL.set _ (wrap64_b _)) (hF.full.setw ht (word_sz (wrap32_b _).1 (wrap32_b _).2 (wrap32_b _).1 (mod_le (hbv _).1 (by omega) (by omega) rfl) (by omega))) _, by have := wrap32_b ((byteV bs (4 * (p : Int) + 1)).tmod (c.q + 1)); omega, by omega, (wrap32_b _).1⟩ ?_
        clear hF hout hul hby0 hby1 hl0 hlq fin hbox
        rintro k2 e m2 ⟨i, xs2, y11, y12, rfl, hF, hk, hi0, hi1⟩
        have hbox := hF.box
        have hout := hF.out
        have hul : (uC xs2).length = cellsN c := by rw [uC_len]; exact hF.len
        have hl0 : m0.length < m2.length := (List.getElem?_eq_some_iff.1 hbox).1
        have hlq : q0 < m2.length := (List.getElem?_eq_some_iff.1 hout).1
        simp only [cfC] at hbox
        have hn32 := wrap32_b ((byteV bs (4 * (p : Int) + 1)).tmod (c.q + 1))
        generalize IntKind.u32.wrap ((byteV bs (4 * (p : Int) + 1)).tmod (c.q + 1)) = n at hk hi1 hn32 ⊢
        have hlx : xs2.length = cellsN c := hF.len
        simp (disch := first | assumption | omega | (simp only [zl] <;> omega) | (simp only [zn])) only [↓zd, zk, Nat.reduceSub, Nat.reduceAdd, Nat.reduceMul, Nat.reduceLeDiff, Nat.reduceEqDiff, reduceIte, Int.reduceEq, Int.reduceBEq, Int.reduceLE, Int.reduceLT, Int.reduceNeg, Int.reduceAdd, Int.reduceSub, Int.reduceMul, List.map, AV.cells, List.all, AV.one, eqV, eqAll, splice, fillA, List.replicate, resAll, resA, zm, zg, cfC]
        refine CW_of (fun hlt => ?_) (fun hge => ?_)
        · simp only [decide_eq_true_eq] at hlt
          have hi1' : IntKind.u32.wrap (i + 1) = i + 1 := by rw [wrap32]; omega
          have hsA := slot_b ht (wrap32_b (IntKind.u32.wrap ((byteV bs (4 * (p : Int))).tmod 7) + i)).1
          simp (disch := first | assumption | omega | (simp only [zl] <;> omega) | (simp only [zn])) only [↓zd, zk, Nat.reduceSub, Nat.reduceAdd, Nat.reduceMul, Nat.reduceLeDiff, Nat.reduceEqDiff, reduceIte, Int.reduceEq, Int.reduceBEq, Int.reduceLE, Int.reduceLT, Int.reduceNeg, Int.reduceAdd, Int.reduceSub, Int.reduceMul, List.map, AV.cells, List.all, AV.one, eqV, eqAll, splice, fillA, List.replicate, resAll, resA, zm, zg, cfC, hbox, a160, hs, hout, hul, uC_set, hi1']
          exact ⟨k2 - 1, by omega, i + 1, _, _, _, rfl, hF.all (hF.okL.set _ (by unfold W64; omega)) (hF.full.sets ht) _, by omega, by omega, by omega⟩
        · simp only [decide_eq_false_iff_not] at hge
          have hby0 : ∀ i : Int, 0 ≤ i → c_docs_byteAt [bv, .int .i64 i] m2 = some (.int .i64 (byteV bs i), m2) := fun i hi => byte_eq (hB.keep hF.keep) hb hi
          have hby1 : ∀ (K : Mem X) (i : Int), 0 ≤ i → c_docs_byteAt [bv, .int .i64 i] (m2 ++ K) = some (.int .i64 (byteV bs i), m2 ++ K) := fun K i hi => byte_eq (hB.keep (hF.keep.trans (Keep.app _ _))) hb hi
          have hby2 : ∀ (A : Chunk X) (K : Mem X) (i : Int), 0 ≤ i → c_docs_byteAt [bv, .int .i64 i] (m2.set q0 A ++ K) = some (.int .i64 (byteV bs i), m2.set q0 A ++ K) := fun A K i hi => byte_eq (hB.keep ((hF.keep.set (by omega) A).trans (Keep.app _ _))) hb hi
          simp (disch := first | assumption | omega | (simp only [zl] <;> omega) | (simp only [zn])) only [↓zd, zk, Nat.reduceSub, Nat.reduceAdd, Nat.reduceMul, Nat.reduceLeDiff, Nat.reduceEqDiff, reduceIte, Int.reduceEq, Int.reduceBEq, Int.reduceLE, Int.reduceLT, Int.reduceNeg, Int.reduceAdd, Int.reduceSub, Int.reduceMul, List.map, AV.cells, List.all, AV.one, eqV, eqAll, splice, fillA, List.replicate, resAll, resA, zm, zg, cfC, a158, hby0]
          refine CW_of (fun _ => ?_) (fun _ => ?_)
          all_goals simp (disch := first | assumption | omega | (simp only [zl] <;> omega) | (simp only [zn])) only [↓zd, zk, Nat.reduceSub, Nat.reduceAdd, Nat.reduceMul, Nat.reduceLeDiff, Nat.reduceEqDiff, reduceIte, Int.reduceEq, Int.reduceBEq, Int.reduceLE, Int.reduceLT, Int.reduceNeg, Int.reduceAdd, Int.reduceSub, Int.reduceMul, List.map, AV.cells, List.all, AV.one, eqV, eqAll, splice, fillA, List.replicate, resAll, resA, zm, zg, cfC, hbox, a158, hby0, hby1, hby2, hout, stC_u, List.set_set, a161, hnx, a162, hst, a163, htk, a164, hsy, a165, hfl]
          all_goals simp only [uC_set]
          all_goals refine ⟨k - 1, by omega, p + 1, _, _, _, _, _, _, _, _, rfl, hF.all (by (repeat' refine OkL.set ?_ _ (by first | exact wrap64_b _ | (unfold W64; omega))); exact hF.okL) (by (repeat' refine OkF.setb ?_ ht (by decide) (by decide)); exact hF.full) _, fun _ => ⟨by omega, by omega⟩, fun h => absurd hr h⟩
    · simp (disch := first | assumption | omega | (simp only [zl] <;> omega) | (simp only [zn])) only [↓zd, zk, Nat.reduceSub, Nat.reduceAdd, Nat.reduceMul, Nat.reduceLeDiff, Nat.reduceEqDiff, reduceIte, Int.reduceEq, Int.reduceBEq, Int.reduceLE, Int.reduceLT, Int.reduceNeg, Int.reduceAdd, Int.reduceSub, Int.reduceMul, List.map, AV.cells, List.all, AV.one, eqV, eqAll, splice, fillA, List.replicate, resAll, resA, zm, zg, cfC, hbox]
      have := fin []
      rwa [List.append_nil] at this
  · simp only [decide_eq_false hr] at hRT
    by_cases hp : (p : Int) < c.n
    · simp (disch := first | assumption | omega | (simp only [zl] <;> omega) | (simp only [zn])) only [↓zd, zk, Nat.reduceSub, Nat.reduceAdd, Nat.reduceMul, Nat.reduceLeDiff, Nat.reduceEqDiff, reduceIte, Int.reduceEq, Int.reduceBEq, Int.reduceLE, Int.reduceLT, Int.reduceNeg, Int.reduceAdd, Int.reduceSub, Int.reduceMul, List.map, AV.cells, List.all, AV.one, eqV, eqAll, splice, fillA, List.replicate, resAll, resA, zm, zg, cfC, hbox, a157, hRT]
      exact fin _
    · simp (disch := first | assumption | omega | (simp only [zl] <;> omega) | (simp only [zn])) only [↓zd, zk, Nat.reduceSub, Nat.reduceAdd, Nat.reduceMul, Nat.reduceLeDiff, Nat.reduceEqDiff, reduceIte, Int.reduceEq, Int.reduceBEq, Int.reduceLE, Int.reduceLT, Int.reduceNeg, Int.reduceAdd, Int.reduceSub, Int.reduceMul, List.map, AV.cells, List.all, AV.one, eqV, eqAll, splice, fillA, List.replicate, resAll, resA, zm, zg, cfC, hbox]
      have := fin []
      rwa [List.append_nil] at this
theorem filled_run {m0 : Mem X} {c : Cf} {bs : List Int} {bv : AV} (hB : SB m0 bs bv) (hb : ∀ x, x ∈ bs → 0 ≤ x ∧ x < 256) :
    Fn Gfill docs_Filled [.agg (cfC c), bv] m0 (fun r m' => ∃ xs, Keep m0 m' ∧ SU m' true xs r ∧ xs.length = cellsN c ∧ ∀ x, x ∈ xs → W64 x) := by
  obtain ⟨r, m', h1, xs, h2, h3, h4, h5, _⟩ := filled_runF (c := c) hB hb
  exact ⟨r, m', h1, xs, h2, h3, h4, h5⟩
end Go.Am.F10
end
section
namespace Go.Am.F10
open Go.Am.F06
structure RelM (xs : List Int) (o : Int) (s : MemSt) : Prop where
  cells : s.cells = xs
  ops : s.ops = o
  log : s.log.length ≤ 256
theorem RelM.new (n : Int) : RelM (List.replicate (bN n) 0) 0 (newSt n) := ⟨rfl, rfl, by simp [newSt]⟩
theorem getD_set {xs : List Int} {a : Nat} (h : a < xs.length) : xs.set a (xs.getD a 0) = xs := by
  apply List.ext_getElem?
  intro j
  by_cases hj : a = j
  · subst hj
    rw [List.getElem?_set_self h, List.getD_eq_getElem?_getD, List.getElem?_eq_getElem h]; rfl
  · rw [List.getElem?_set_ne hj]
theorem RelM.acc {xs : List Int} {o : Int} {s : MemSt} (h : RelM xs o s) {a : Nat} (ha : a < xs.length) (k : Int) (g : Int → Int × Bool) :
    ∃ s', accS k g s a = some (xs.getD a 0, (g (xs.getD a 0)).2, s') ∧ RelM (xs.set a (g (xs.getD a 0)).1) (IntKind.u64.wrap (o + 1)) s' := by
  obtain ⟨rfl, rfl, hl⟩ := h
  refine ⟨noted { s with cells := s.cells.set a (g (s.cells.getD a 0)).1 } ⟨k, a, s.cells.getD a 0, (g (s.cells.getD a 0)).1⟩ (g (s.cells.getD a 0)).2, ?_, rfl, rfl, ?_⟩
  · unfold accS
    rw [if_pos hl, if_pos (by omega), Int.toNat_natCast]
  · show (logMore _ _).2.length ≤ 256
    unfold logMore
    split
    · rename_i h2; simp only [List.length_append, List.length_cons, List.length_nil]; simp only at h2; omega
    · simp only [List.length_append, List.length_drop, List.length_cons, List.length_nil]; omega
theorem RelM.load {M : MM} {j : Nat} {xs : List Int} {o : Int} {s : MemSt} (h : RelM xs o s) (hM : M[j]? = some (.abs (.mem s))) {a : Nat} (ha : a < xs.length) :
    ∃ s', memF loadS [.ptr j 0, .int .i64 a] M = some (.int .u64 (xs.getD a 0), M.set j (.abs (.mem s'))) ∧ RelM xs (IntKind.u64.wrap (o + 1)) s' := by
  obtain ⟨s', h1, h2⟩ := h.acc ha 1 (fun w => (w, true))
  rw [getD_set ha] at h2
  exact ⟨s', by simp only [memF, hM, loadS, h1, Option.map_some], h2⟩
theorem RelM.store {M : MM} {j : Nat} {xs : List Int} {o : Int} {s : MemSt} (h : RelM xs o s) (hM : M[j]? = some (.abs (.mem s))) {a : Nat} (ha : a < xs.length) (x : Int) :
    ∃ s', memF storeS [.ptr j 0, .int .i64 a, .int .u64 x] M = some (.tup [], M.set j (.abs (.mem s'))) ∧ RelM (xs.set a x) (IntKind.u64.wrap (o + 1)) s' := by
  obtain ⟨s', h1, h2⟩ := h.acc ha 2 (fun w => (x, true))
  exact ⟨s', by simp only [memF, hM, storeS, h1, Option.map_some], h2⟩
def KeepX {X : Type} (j k : Nat) (m m' : Mem X) : Prop := m.length ≤ m'.length ∧ ∀ i, i < m.length → i ≠ j → i ≠ k → m'[i]? = m[i]?
section
variable {X : Type} {j k : Nat}
theorem KeepX.refl (m : Mem X) : KeepX j k m m := ⟨Nat.le_refl _, fun _ _ _ _ => rfl⟩
theorem KeepX.trans {m m' m'' : Mem X} (h : KeepX j k m m') (i : KeepX j k m' m'') : KeepX j k m m'' :=
  ⟨Nat.le_trans h.1 i.1, fun a ha h1 h2 => (i.2 a (Nat.lt_of_lt_of_le ha h.1) h1 h2).trans (h.2 a ha h1 h2)⟩
theorem KeepX.of {m m' : Mem X} (h : Keep m m') : KeepX j k m m' := ⟨h.1, fun i hi _ _ => h.2 i hi⟩
theorem KeepX.setL {m m' : Mem X} (h : KeepX j k m m') (c : Chunk X) : KeepX j k m (m'.set j c) := ⟨by simpa using h.1, fun i hi h1 h2 => by rw [List.getElem?_set_ne (fun h => h1 h.symm)]; exact h.2 i hi h1 h2⟩
theorem KeepX.setR {m m' : Mem X} (h : KeepX j k m m') (c : Chunk X) : KeepX j k m (m'.set k c) := ⟨by simpa using h.1, fun i hi h1 h2 => by rw [List.getElem?_set_ne (fun h => h2 h.symm)]; exact h.2 i hi h1 h2⟩
theorem KeepX.set {m m' : Mem X} (h : KeepX j k m m') {q : Nat} (hq : m.length ≤ q) (c : Chunk X) : KeepX j k m (m'.set q c) := ⟨by simpa using h.1, fun i hi h1 h2 => by rw [List.getElem?_set_ne (by omega)]; exact h.2 i hi h1 h2⟩
theorem KeepX.app {m m' : Mem X} (h : KeepX j k m m') (K : Mem X) : KeepX j k m (m' ++ K) := h.trans (.of (Keep.app _ _))
theorem KeepX.get {m m' : Mem X} (h : KeepX j k m m') {i : Nat} {c : Chunk X} (hi : m[i]? = some c) (h1 : i ≠ j) (h2 : i ≠ k) : m'[i]? = some c := (h.2 i (List.getElem?_eq_some_iff.1 hi).1 h1 h2).trans hi
theorem KeepX.sl {m m' : Mem X} (h : KeepX j k m m') {szj szk : Nat} {wr : Bool} {sz n : Nat} {l : List AV} {v : AV} (hj : ∀ ro L, m[j]? ≠ some (.cells sz ro L)) (hk : ∀ ro L, m[k]? ≠ some (.cells sz ro L)) (hs : Sl m wr sz n l v) : Sl m' wr sz n l v := by
  refine ⟨hs.1, ?_⟩
  rcases hs.2 with h1 | ⟨q, o, cap, h1, h2⟩
  · exact .inl h1
  · refine .inr ⟨q, o, cap, h1, fun h0 => ?_⟩
    obtain ⟨ro, L, h3, h4⟩ := h2 h0
    refine ⟨ro, L, h.get h3 (fun hq => ?_) (fun hq => ?_), h4⟩
    · rw [hq] at h3; exact hj _ _ h3
    · rw [hq] at h3; exact hk _ _ h3
end
theorem take_more {xs : List Int} {i : Nat} {x : Int} (h : xs[i]? = some x) (n : Nat) (hn : n = xs.length) : (xs.take i ++ List.replicate (n - i) 0).set i x = xs.take (i + 1) ++ List.replicate (n - (i + 1)) 0 := by
  subst hn
  have hi : i < xs.length := (List.getElem?_eq_some_iff.1 h).1
  have hl : (xs.take i).length = i := by rw [List.length_take]; omega
  rw [List.set_append_right _ _ (by omega), hl, Nat.sub_self, List.take_add_one, h]
  obtain ⟨k, hk⟩ : ∃ k, xs.length - i = k + 1 := ⟨xs.length - i - 1, by omega⟩
  rw [hk, List.replicate_succ, List.set_cons_zero, show xs.length - (i + 1) = k by omega]
  simp
def Gmem : List (Nat × AFun Ob) := [(21, newF), (63, c_ref06_New), (22, memF storeS), (65, c_ref06_Store)]
def MmI (m0 m1 : MM) (xs : List Int) (cv : AV) (k : Nat) (e : List AV) (m : MM) : Prop := ∃ (i : Nat) (s : MemSt) (v y6 : AV),
  e = [cv, .nilp, .ptr m0.length 0, .ptr (m0.length + 1) 0, .ptr m1.length 0, .int .i64 i, y6] ∧ k = xs.length - i ∧ i ≤ xs.length ∧ Keep m0 m ∧ m[m0.length]? = some (.cells 2 false [.nils, .int .u64 0]) ∧ m[m0.length + 1]? = some (.abs (.mem s)) ∧ m[m1.length]? = some (.cells 2 false (memC v i)) ∧
  RelM (xs.take i ++ List.replicate (xs.length - i) 0) i s ∧ SU m false (xs.take i ++ List.replicate (xs.length - i) 0) v
set_option maxHeartbeats 4000000 in
theorem mem_run {m0 : MM} {wr : Bool} {xs : List Int} {cv : AV} (hc : SU m0 wr xs cv) (hn : xs.length ≤ 65536) :
    Fn Gmem docs_Mem [cv] m0 (fun r m' => ∃ s v, r = .tup [.ptr (m0.length + 1) 0, .agg (memC v xs.length)] ∧ Keep m0 m' ∧ m'[m0.length + 1]? = some (.abs (.mem s)) ∧ RelM xs xs.length s ∧ SU m' false xs v) := by
  have a21 : assoc Gmem 21 = some newF := rfl
  have a63 : assoc Gmem 63 = some c_ref06_New := rfl
  have a22 : assoc Gmem 22 = some (memF storeS) := rfl
  have a65 : assoc Gmem 65 = some c_ref06_Store := rfl
  generalize Gmem = G at a21 a63 a22 a65 ⊢
  have hlen := hc.len
  have hbN : bN (xs.length : Int) = xs.length := by unfold bN; omega
  have hnew : ∀ M : MM, newF [.int .i64 xs.length] M = some (.ptr M.length 0, M ++ [.abs (.mem (newSt xs.length))]) := fun M => rfl
  refine Fn_of rfl ?_
  simp (disch := first | assumption | omega | (simp only [zl] <;> omega) | (simp only [zn])) only [docs_Mem, ↓zd, zk, Nat.reduceSub, Nat.reduceAdd, Nat.reduceMul, Nat.reduceLeDiff, Nat.reduceEqDiff, reduceIte, Int.reduceEq, Int.reduceBEq, Int.reduceLE, Int.reduceLT, Int.reduceNeg, Int.reduceAdd, Int.reduceSub, Int.reduceMul, List.map, AV.cells, List.all, AV.one, eqV, eqAll, splice, fillA, List.replicate, resAll, resA, zm, zg, ev_len, hlen, a21, hnew, a63, c_ref06_New]
  refine OK_fn (refnew_run _) ?_
  rintro _ m1 ⟨v0, rfl, k1, s1⟩
  have hone := slOne s1
  simp only [AV.one] at hone
  rw [hbN, cellsOf_nil] at s1
  have hr := RelM.new (xs.length : Int)
  rw [hbN] at hr
  simp (disch := first | assumption | omega | (simp only [zl] <;> omega) | (simp only [zn])) only [↓zd, zk, Nat.reduceSub, Nat.reduceAdd, Nat.reduceMul, Nat.reduceLeDiff, Nat.reduceEqDiff, reduceIte, Int.reduceEq, Int.reduceBEq, Int.reduceLE, Int.reduceLT, Int.reduceNeg, Int.reduceAdd, Int.reduceSub, Int.reduceMul, List.map, AV.cells, List.all, AV.one, eqV, eqAll, splice, fillA, List.replicate, resAll, resA, zm, zg, memC, hone]
  have g0 : m1[m0.length]? = some (Chunk.cells 2 false [.nils, .int .u64 0]) := k1.get (by rw [get_mid0]; rfl)
  have g1 : m1[m0.length + 1]? = some (.abs (.mem (newSt xs.length))) := k1.get (by rw [get_mid]; rfl)
  have l1 : m0.length + 1 < m1.length := (List.getElem?_eq_some_iff.1 g1).1
  have kk : Keep m0 m1 := (Keep.app m0 _).trans k1
  refine W_loop (MmI m0 m1 xs cv) xs.length (by simp only [FUEL]; omega) ⟨0, newSt xs.length, v0, _, rfl, rfl, by omega, kk.trans (Keep.app _ _), (Keep.app m1 _).get g0, (Keep.app m1 _).get g1, by rw [get_concat]; rfl, hr, (s1.keep (Keep.app _ _)).ro⟩ ?_
  rintro k e m ⟨i, s, v, y6, rfl, rfl, hi, hk, b0, b1, b2, hr, sv⟩
  have hl2 : m1.length < m.length := (List.getElem?_eq_some_iff.1 b2).1
  have hone := slOne sv
  simp only [AV.one] at hone
  have hlen2 := sv.len
  have hll : (xs.take i ++ List.replicate (xs.length - i) 0).length = xs.length := by simp only [List.length_append, List.length_take, List.length_replicate]; omega
  rw [hll] at hlen2
  simp only [memC] at b2
  simp (disch := first | assumption | omega | (simp only [zl] <;> omega) | (simp only [zn])) only [↓zd, zk, Nat.reduceSub, Nat.reduceAdd, Nat.reduceMul, Nat.reduceLeDiff, Nat.reduceEqDiff, reduceIte, Int.reduceEq, Int.reduceBEq, Int.reduceLE, Int.reduceLT, Int.reduceNeg, Int.reduceAdd, Int.reduceSub, Int.reduceMul, List.map, AV.cells, List.all, AV.one, eqV, eqAll, splice, fillA, List.replicate, resAll, resA, zm, zg, ev_len, hlen]
  by_cases hi2 : i < xs.length
  · obtain ⟨x, hx⟩ : ∃ x, xs[i]? = some x := ⟨_, List.getElem?_eq_getElem (by omega)⟩
    obtain ⟨q, oo, cap, ro, L, rfl, c2, c3, c4, c5, c6⟩ := SU.get (hc.keep hk) hx
    have hqm : q < m.length := (List.getElem?_eq_some_iff.1 c2).1
    obtain ⟨s', f22, r'⟩ := hr.store b1 (a := i) (by omega) x
    have hmore := take_more hx _ rfl
    rw [hmore] at r'
    rw [wrapU (by omega) (by omega)] at r'
    have e1 : q ≠ m0.length + 1 := fun h => by rw [h, b1] at c2; cases c2
    have hq1 : (m.set (m0.length + 1) (.abs (.mem s')))[q]? = some (.cells 1 ro L) := by rw [List.getElem?_set_ne (fun h => e1 h.symm)]; exact c2
    have hsv : SU (m.set (m0.length + 1) (.abs (.mem s'))) false (xs.take i ++ List.replicate (xs.length - i) 0) v := (KeepB.at m _).sl b1 sv
    have hst := refstore_run hsv (by omega) i i x
    have ht : thr (xs.take i ++ List.replicate (xs.length - i) 0) i := ⟨by omega, by omega⟩
    rw [if_pos ht, if_pos ht, Int.toNat_natCast, hmore, wrapU (by omega) (by omega)] at hst
    simp (disch := first | assumption | omega | (simp only [zl] <;> omega) | (simp only [zn])) only [↓zd, zk, Nat.reduceSub, Nat.reduceAdd, Nat.reduceMul, Nat.reduceLeDiff, Nat.reduceEqDiff, reduceIte, Int.reduceEq, Int.reduceBEq, Int.reduceLE, Int.reduceLT, Int.reduceNeg, Int.reduceAdd, Int.reduceSub, Int.reduceMul, List.map, AV.cells, List.all, AV.one, eqV, eqAll, splice, fillA, List.replicate, resAll, resA, zm, zg, ev_len, hlen, hlen2, b2, c2, c6, a22, f22, hq1, a65, c_ref06_Store]
    refine OK_fn hst ?_
    rintro _ m2 ⟨k2, v', rfl, s2⟩
    have hone' := slOne s2
    simp only [AV.one] at hone'
    have d0 : m2[m0.length]? = some (Chunk.cells 2 false [.nils, .int .u64 0]) := k2.get (by rw [List.getElem?_set_ne (by omega)]; exact b0)
    have d1 : m2[m0.length + 1]? = some (.abs (.mem s')) := k2.get (List.getElem?_set_self (by omega))
    have d2 : m2[m1.length]? = some (Chunk.cells 2 false [v, .int .u64 i]) := k2.get (by rw [List.getElem?_set_ne (by omega)]; exact b2)
    have hl3 : m1.length < m2.length := (List.getElem?_eq_some_iff.1 d2).1
    simp (disch := first | assumption | omega | (simp only [zl] <;> omega) | (simp only [zn])) only [↓zd, zk, Nat.reduceSub, Nat.reduceAdd, Nat.reduceMul, Nat.reduceLeDiff, Nat.reduceEqDiff, reduceIte, Int.reduceEq, Int.reduceBEq, Int.reduceLE, Int.reduceLT, Int.reduceNeg, Int.reduceAdd, Int.reduceSub, Int.reduceMul, List.map, AV.cells, List.all, AV.one, eqV, eqAll, splice, fillA, List.replicate, resAll, resA, zm, zg, memC, d2, hone']
    refine ⟨_, by omega, i + 1, s', v', _, rfl, rfl, by omega, ((hk.set (by omega) _).trans k2).set (by omega) _, ?_, ?_, List.getElem?_set_self hl3, r', (KeepB.at _ _).off (su_box s2 d2) s2⟩
    · rw [List.getElem?_set_ne (by omega)]; exact d0
    · rw [List.getElem?_set_ne (by omega)]; exact d1
  · have hie : i = xs.length := by omega
    subst hie
    have hz : xs.take xs.length ++ List.replicate (xs.length - xs.length) 0 = xs := by rw [List.take_length, Nat.sub_self]; simp
    rw [hz] at hr sv
    simp (disch := first | assumption | omega | (simp only [zl] <;> omega) | (simp only [zn])) only [↓zd, zk, Nat.reduceSub, Nat.reduceAdd, Nat.reduceMul, Nat.reduceLeDiff, Nat.reduceEqDiff, reduceIte, Int.reduceEq, Int.reduceBEq, Int.reduceLE, Int.reduceLT, Int.reduceNeg, Int.reduceAdd, Int.reduceSub, Int.reduceMul, List.map, AV.cells, List.all, AV.one, eqV, eqAll, splice, fillA, List.replicate, resAll, resA, zm, zg, ev_len, hlen, b0, b2, hone]
    exact ⟨s, v, rfl, hk.set (by omega) _, b1, hr, (KeepB.at _ _).off (su_box sv b0) sv⟩
end Go.Am.F10
end
section
namespace Go.Am.F10
open Go.Am.F06 (memC slOne)
variable {X : Type}
def Rq (q : Int) (k : Nat) : Prop := (q = 2 ∧ k = 6) ∨ (q = 4 ∧ k = 5) ∨ (q = 8 ∧ k = 4) ∨ (q = 16 ∧ k = 3) ∨ (q = 32 ∧ k = 2) ∨ (q = 64 ∧ k = 1) ∨ (q = 128 ∧ k = 0)
theorem Rq.next {q : Int} {k : Nat} (h : Rq q k) : q = 128 ∨ (2 ≤ q ∧ q ≤ 64 ∧ k - 1 < k ∧ Rq (q * 2) (k - 1)) := by unfold Rq at h ⊢; omega
def RrI (m0 : Mem X) (c : Cf) (k : Nat) (e : List AV) (m : Mem X) : Prop := ∃ (q : Int) (y5 : AV), e = [.agg (cfC c), .ptr m0.length 0, .bool false, .bool (decide (roomP c.q ∧ c.q < q)), .int .i64 q, y5] ∧ m = m0 ++ [.cells 6 false (cfC c)] ∧ Rq q k
theorem room_next {c q : Int} {k : Nat} (h : Rq q k) (h7 : ¬ q = 128) : (roomP c ∧ c < q * 2) ↔ ((roomP c ∧ c < q) ∨ c = q) := by
  unfold roomP; unfold Rq at h; omega
set_option maxHeartbeats 8000000 in
theorem rright_run {G : List (Nat × AFun X)} {m0 : Mem X} (c : Cf) : Fn G ref05_Right [.agg (cfC c)] m0 (fun r m' => r = .bool (decide (rightP c)) ∧ m' = m0 ++ [.cells 6 false (cfC c)]) := by
  refine Fn_of rfl ?_
  simp (disch := first | assumption | omega | (simp only [zl] <;> omega) | (simp only [zn])) only [ref05_Right, ↓zd, zk, Nat.reduceSub, Nat.reduceAdd, Nat.reduceMul, Nat.reduceLeDiff, Nat.reduceEqDiff, reduceIte, Int.reduceEq, Int.reduceBEq, Int.reduceLE, Int.reduceLT, Int.reduceNeg, Int.reduceAdd, Int.reduceSub, Int.reduceMul, List.map, AV.cells, List.all, AV.one, eqV, eqAll, splice, fillA, List.replicate, resAll, resA, zm, zg, cfC]
  have h0 : (roomP c.q ∧ c.q < 2) = False := by unfold roomP; simp; omega
  refine W_loop (RrI m0 c) 6 (by simp only [FUEL]; omega) ⟨2, _, by simp only [h0, decide_false]; rfl, rfl, by unfold Rq; omega⟩ ?_
  rintro k e m ⟨q, y5, rfl, rfl, hq⟩
  have hbox : (m0 ++ [Chunk.cells 6 false (cfC c)])[m0.length]? = some (.cells 6 false (cfC c)) := get_concat
  generalize hM : m0 ++ [Chunk.cells 6 false (cfC c)] = M at hbox ⊢
  simp only [cfC] at hbox hM
  by_cases h7 : q = 128
  · subst h7
    have hroom : decide (roomP c.q ∧ c.q < 128) = decide (roomP c.q) := by
      have : (roomP c.q ∧ c.q < 128) ↔ roomP c.q := by unfold roomP; omega
      simp only [this]
    by_cases hr : roomP c.q
    · simp only [decide_eq_true hr] at hroom
      clear hq
      have hrp : decide ((1 ≤ c.n ∧ c.n ≤ 8) ∧ (1 ≤ c.g ∧ c.g ≤ 256) ∧ (c.n + 1 ≤ c.m ∧ c.m ≤ 16) ∧ (2 ≤ c.t ∧ c.t ≤ 200) ∧ (0 ≤ c.s ∧ c.s ≤ 1000)) = decide (rightP c) := decide_eq_decide.2 ⟨fun h => ⟨h.1, hr, h.2⟩, fun h => ⟨h.1, h.2.2⟩⟩
      clear hr
      simp (disch := first | assumption | omega | (simp only [zl] <;> omega) | (simp only [zn])) only [↓zd, zk, Nat.reduceSub, Nat.reduceAdd, Nat.reduceMul, Nat.reduceLeDiff, Nat.reduceEqDiff, reduceIte, Int.reduceEq, Int.reduceBEq, Int.reduceLE, Int.reduceLT, Int.reduceNeg, Int.reduceAdd, Int.reduceSub, Int.reduceMul, List.map, AV.cells, List.all, AV.one, eqV, eqAll, splice, fillA, List.replicate, resAll, resA, zm, zg, hroom, hbox]
      repeat' ((first | refine GK_of (fun h => ?_) (fun h => ?_) | refine CW_of (fun h => ?_) (fun h => ?_) | refine GKT_of (fun h => ?_) (fun h => ?_)) <;> (try simp only [Bool.not_eq_true', Bool.not_eq_false', decide_eq_true_eq, decide_eq_false_iff_not, Bool.and_eq_true, Bool.or_eq_true, Bool.and_eq_false_iff, Bool.or_eq_false_iff, Decidable.not_not] at h) <;> (try simp (disch := first | assumption | omega | (simp only [zl] <;> omega) | (simp only [zn])) only [↓zd, zk, Nat.reduceSub, Nat.reduceAdd, Nat.reduceMul, Nat.reduceLeDiff, Nat.reduceEqDiff, reduceIte, Int.reduceEq, Int.reduceBEq, Int.reduceLE, Int.reduceLT, Int.reduceNeg, Int.reduceAdd, Int.reduceSub, Int.reduceMul, List.map, AV.cells, List.all, AV.one, eqV, eqAll, splice, fillA, List.replicate, resAll, resA, zm, zg, hbox, h]))
      all_goals refine ⟨congrArg _ ?_, hM.symm⟩
      all_goals rw [← hrp]
      all_goals first | (rw [decide_eq_true (by omega)]; done) | (rw [decide_eq_false (by omega)]; done) | (rw [decide_eq_decide]; omega)
    · simp only [decide_eq_false hr] at hroom
      simp (disch := first | assumption | omega | (simp only [zl] <;> omega) | (simp only [zn])) only [↓zd, zk, Nat.reduceSub, Nat.reduceAdd, Nat.reduceMul, Nat.reduceLeDiff, Nat.reduceEqDiff, reduceIte, Int.reduceEq, Int.reduceBEq, Int.reduceLE, Int.reduceLT, Int.reduceNeg, Int.reduceAdd, Int.reduceSub, Int.reduceMul, List.map, AV.cells, List.all, AV.one, eqV, eqAll, splice, fillA, List.replicate, resAll, resA, zm, zg, hroom, hbox]
      refine ⟨?_, hM.symm⟩
      rw [decide_eq_false (fun h => hr h.2.1)]
  · have hn := room_next (c := c.q) hq h7
    obtain ⟨hge, hle, hk1, hq'⟩ := hq.next.resolve_left h7
    have hb3 : ∀ b : Bool, (b = true ↔ ((roomP c.q ∧ c.q < q) ∨ c.q = q)) → decide (roomP c.q ∧ c.q < q * 2) = b := fun b h => by rw [Bool.eq_iff_iff, decide_eq_true_eq, hn, h]
    clear hn hq
    by_cases hb : roomP c.q ∧ c.q < q
    · have hb2 : decide (roomP c.q ∧ c.q < q) = true := decide_eq_true hb
      have hb4 := hb3 true ⟨fun _ => .inl hb, fun _ => rfl⟩
      clear hb hb3
      simp (disch := first | assumption | omega | (simp only [zl] <;> omega) | (simp only [zn])) only [↓zd, zk, Nat.reduceSub, Nat.reduceAdd, Nat.reduceMul, Nat.reduceLeDiff, Nat.reduceEqDiff, reduceIte, Int.reduceEq, Int.reduceBEq, Int.reduceLE, Int.reduceLT, Int.reduceNeg, Int.reduceAdd, Int.reduceSub, Int.reduceMul, List.map, AV.cells, List.all, AV.one, eqV, eqAll, splice, fillA, List.replicate, resAll, resA, zm, zg, hb2, hbox]
      exact ⟨k - 1, hk1, q * 2, _, by rw [hb4], hM.symm, hq'⟩
    · have hb2 : decide (roomP c.q ∧ c.q < q) = false := decide_eq_false hb
      by_cases hcq : c.q = q
      · have hb4 := hb3 true ⟨fun _ => .inr hcq, fun _ => rfl⟩
        clear hb hb3
        simp (disch := first | assumption | omega | (simp only [zl] <;> omega) | (simp only [zn])) only [↓zd, zk, Nat.reduceSub, Nat.reduceAdd, Nat.reduceMul, Nat.reduceLeDiff, Nat.reduceEqDiff, reduceIte, Int.reduceEq, Int.reduceBEq, Int.reduceLE, Int.reduceLT, Int.reduceNeg, Int.reduceAdd, Int.reduceSub, Int.reduceMul, List.map, AV.cells, List.all, AV.one, eqV, eqAll, splice, fillA, List.replicate, resAll, resA, zm, zg, hb2, hbox, hcq]
        exact ⟨k - 1, hk1, q * 2, _, by rw [hb4, ← hcq], hM.symm, hq'⟩
      · have hb4 := hb3 false (iff_of_false (by simp) (fun h => h.elim hb hcq))
        clear hb hb3
        simp (disch := first | assumption | omega | (simp only [zl] <;> omega) | (simp only [zn])) only [↓zd, zk, Nat.reduceSub, Nat.reduceAdd, Nat.reduceMul, Nat.reduceLeDiff, Nat.reduceEqDiff, reduceIte, Int.reduceEq, Int.reduceBEq, Int.reduceLE, Int.reduceLT, Int.reduceNeg, Int.reduceAdd, Int.reduceSub, Int.reduceMul, List.map, AV.cells, List.all, AV.one, eqV, eqAll, splice, fillA, List.replicate, resAll, resA, zm, zg, hb2, hbox, hcq]
        exact ⟨k - 1, hk1, q * 2, _, by rw [hb4], hM.symm, hq'⟩
end Go.Am.F10
end
section
namespace Go.Am.F10
open Go.Am.F06 (memC slOne)
variable {X : Type}
theorem rright_eq (m : Mem X) (c : Cf) : c_ref05_Right [.agg (cfC c)] m = some (.bool (decide (rightP c)), m ++ [.cells 6 false (cfC c)]) := Fn_eq (rright_run (G := []) c)
theorem rthere_eq (m : Mem X) (c : Cf) (p : Int) : c_ref09_There [.agg (cfC c), .int .i64 p] m = some (.bool (decide (thereP c p)), m ++ [.cells 6 false (cfC c), .cells 6 false (cfC c)]) := by
  have a181 : assoc [(181, c_ref05_Right (X := X))] 181 = some c_ref05_Right := rfl
  have he : c_ref09_There (X := X) = amFunc [(181, c_ref05_Right)] ref09_There := rfl
  rw [he]
  generalize [(181, c_ref05_Right (X := X))] = G at a181 ⊢
  have hr := rright_eq (m ++ [.cells 6 false (cfC c)]) c
  simp only [cfC, List.append_assoc, List.cons_append, List.nil_append] at hr
  refine Fn_eq (Fn_of rfl ?_)
  by_cases h : rightP c
  · simp only [decide_eq_true h] at hr
    simp (disch := first | assumption | omega | (simp only [zl] <;> omega) | (simp only [zn])) only [ref09_There, ↓zd, zk, Nat.reduceSub, Nat.reduceAdd, Nat.reduceMul, Nat.reduceLeDiff, Nat.reduceEqDiff, reduceIte, Int.reduceEq, Int.reduceBEq, Int.reduceLE, Int.reduceLT, Int.reduceNeg, Int.reduceAdd, Int.reduceSub, Int.reduceMul, List.map, AV.cells, List.all, AV.one, eqV, eqAll, splice, fillA, List.replicate, resAll, resA, zm, zg, cfC, a181, hr]
    repeat' ((first | refine GK_of (fun h => ?_) (fun h => ?_) | refine CW_of (fun h => ?_) (fun h => ?_) | refine GKT_of (fun h => ?_) (fun h => ?_)) <;> (try simp only [Bool.not_eq_true', Bool.not_eq_false', decide_eq_true_eq, decide_eq_false_iff_not, Bool.and_eq_true, Bool.or_eq_true, Bool.and_eq_false_iff, Bool.or_eq_false_iff, Decidable.not_not] at h) <;> (try simp (disch := first | assumption | omega | (simp only [zl] <;> omega) | (simp only [zn])) only [↓zd, zk, Nat.reduceSub, Nat.reduceAdd, Nat.reduceMul, Nat.reduceLeDiff, Nat.reduceEqDiff, reduceIte, Int.reduceEq, Int.reduceBEq, Int.reduceLE, Int.reduceLT, Int.reduceNeg, Int.reduceAdd, Int.reduceSub, Int.reduceMul, List.map, AV.cells, List.all, AV.one, eqV, eqAll, splice, fillA, List.replicate, resAll, resA, zm, zg, cfC, h]))
    all_goals refine congrArg _ ?_
    all_goals rw [← Bool.eq_iff_iff.2 (show decide (0 ≤ p ∧ p < c.n) = true ↔ decide (thereP c p) = true by simp only [decide_eq_true_eq]; exact ⟨fun hh => ⟨‹rightP c›, hh⟩, fun hh => hh.2⟩)]
    all_goals first | (rw [decide_eq_true (by omega)]; done) | (rw [decide_eq_false (by omega)]; done) | (rw [decide_eq_decide]; omega)
  · simp only [decide_eq_false h] at hr
    simp (disch := first | assumption | omega | (simp only [zl] <;> omega) | (simp only [zn])) only [ref09_There, ↓zd, zk, Nat.reduceSub, Nat.reduceAdd, Nat.reduceMul, Nat.reduceLeDiff, Nat.reduceEqDiff, reduceIte, Int.reduceEq, Int.reduceBEq, Int.reduceLE, Int.reduceLT, Int.reduceNeg, Int.reduceAdd, Int.reduceSub, Int.reduceMul, List.map, AV.cells, List.all, AV.one, eqV, eqAll, splice, fillA, List.replicate, resAll, resA, zm, zg, cfC, a181, hr]
    rw [decide_eq_false (fun hc => h hc.1)]
theorem config_eq (m : Mem X) (c : Cf) : c_docs_Config [.agg (cfC c)] m = some (.agg (cfC c), m ++ [.cells 6 false (cfC c), .cells 6 false (cfC c)]) := by
  have he : c_docs_Config (X := X) = amFunc [] docs_Config := rfl
  rw [he]
  refine Fn_eq (Fn_of rfl ?_)
  simp (disch := first | assumption | omega | (simp only [zl] <;> omega) | (simp only [zn])) only [docs_Config, ↓zd, zk, Nat.reduceSub, Nat.reduceAdd, Nat.reduceMul, Nat.reduceLeDiff, Nat.reduceEqDiff, reduceIte, Int.reduceEq, Int.reduceBEq, Int.reduceLE, Int.reduceLT, Int.reduceNeg, Int.reduceAdd, Int.reduceSub, Int.reduceMul, List.map, AV.cells, List.all, AV.one, eqV, eqAll, splice, fillA, List.replicate, resAll, resA, zm, zg, cfC]
end Go.Am.F10
end
section
namespace Go.Am.F06
set_option maxHeartbeats 4000000 in
theorem rload_eq {m : MM} {wr : Bool} {xs : List Int} {v : AV} (hs : SU m wr xs v) (o : Int) {a : Nat} (ha : a < xs.length) : c_ref06_Load [.agg (memC v o), .int .i64 a] m = some (.tup [.agg (memC v (IntKind.u64.wrap (o + 1))), .int .u64 (xs.getD a 0)], m ++ [.cells 2 false (memC v o), .cells 2 false (memC v (IntKind.u64.wrap (o + 1))), .cells 2 false (memC v o)]) := by
  have he : c_ref06_Load (X := Ob) = amFunc [(72, c_ref06_there)] ref06_Load := rfl
  rw [he]
  have a72 : assoc [(72, c_ref06_there (X := Ob))] 72 = some c_ref06_there := rfl
  generalize [(72, c_ref06_there (X := Ob))] = G at a72
  have hone := slOne hs
  simp only [AV.one] at hone
  have ht := Fn_eq (refthere_run (G := []) (hs.keep (Keep.app m [Chunk.cells 2 false [v, .int .u64 o], .cells 2 false [.nils, .int .u64 0]])) o a)
  rw [thr_b] at ht
  simp only [memC, List.append_assoc, List.cons_append, List.nil_append] at ht
  have h : thr xs a := ⟨by omega, by omega⟩
  obtain ⟨x, hx⟩ : ∃ x, xs[a]? = some x := ⟨_, List.getElem?_eq_getElem (by omega)⟩
  have hd : xs.getD a 0 = x := by rw [List.getD_eq_getElem?_getD, hx]; rfl
  obtain ⟨q, oo, cap, ro, L, rfl, b2, b3, b4, b5, b6⟩ := SU.get hs hx
  have hqm : q < m.length := (List.getElem?_eq_some_iff.1 b2).1
  simp only [h, decide_true] at ht
  rw [hd]
  refine Fn_eq (Fn_of rfl ?_)
  simp (disch := first | assumption | omega | (simp only [zl] <;> omega) | (simp only [zn])) only [ref06_Load, ↓zd, zk, Nat.reduceSub, Nat.reduceAdd, Nat.reduceMul, Nat.reduceLeDiff, Nat.reduceEqDiff, reduceIte, Int.reduceEq, Int.reduceBEq, Int.reduceLE, Int.reduceLT, Int.reduceNeg, Int.reduceAdd, Int.reduceSub, Int.reduceMul, List.map, AV.cells, List.all, AV.one, eqV, eqAll, splice, fillA, List.replicate, resAll, resA, zm, zg, memC, hone, a72, c_ref06_there, ht, b2, b6]
def RcP (m : MM) (xs : List Int) (o a old x : Int) (r : AV) (m' : MM) : Prop := Keep m m' ∧ ∃ v', r = .tup [.agg (memC v' o), .bool (decide (xs.getD a.toNat 0 = old))] ∧ SU m' false (if xs.getD a.toNat 0 = old then xs.set a.toNat x else xs) v'
set_option maxHeartbeats 4000000 in
theorem rcas_run {m : MM} {wr : Bool} {xs : List Int} {v : AV} (hs : SU m wr xs v) (hn : xs.length ≤ 65536) (o : Int) {a : Int} (ha : thr xs a) (old x : Int) : Fn [(72, c_ref06_there), (73, c_ref06_with)] ref06_CAS [.agg (memC v o), .int .i64 a, .int .u64 old, .int .u64 x] m (RcP m xs (IntKind.u64.wrap (o + 1)) a old x) := by
  have a72 : assoc [(72, c_ref06_there (X := Ob)), (73, c_ref06_with)] 72 = some c_ref06_there := rfl
  have a73 : assoc [(72, c_ref06_there (X := Ob)), (73, c_ref06_with)] 73 = some c_ref06_with := rfl
  generalize [(72, c_ref06_there (X := Ob)), (73, c_ref06_with)] = G at a72 a73
  have hone := slOne hs
  simp only [AV.one] at hone
  have ht := Fn_eq (refthere_run (G := []) (hs.keep (Keep.app m [Chunk.cells 2 false [v, .int .u64 o], .cells 2 false [.nils, .int .u64 0]])) o a)
  rw [thr_b] at ht
  simp only [memC, List.append_assoc, List.cons_append, List.nil_append] at ht
  refine Fn_of rfl ?_
  obtain ⟨h0, h1⟩ := id ha
  obtain ⟨k, rfl⟩ : ∃ k : Nat, a = k := ⟨a.toNat, by omega⟩
  obtain ⟨w, hw⟩ : ∃ w, xs[k]? = some w := ⟨_, List.getElem?_eq_getElem (by omega)⟩
  obtain ⟨q, oo, cap, ro, L, rfl, b2, b3, b4, b5, b6⟩ := SU.get hs hw
  have hqm : q < m.length := (List.getElem?_eq_some_iff.1 b2).1
  have hgd : xs.getD k 0 = w := by rw [List.getD_eq_getElem?_getD, hw]; rfl
  simp only [ha, decide_true] at ht
  have hw := refwith_run (G := []) (hs.keep (Keep.app m [Chunk.cells 2 false [.sl q oo xs.length cap, .int .u64 o], .cells 2 false [.nils, .int .u64 0], .cells 2 false [.sl q oo xs.length cap, .int .u64 o]])) hn (a := k) (by omega) o x
  by_cases hwo : w = old
  · subst hwo
    simp (disch := first | assumption | omega | (simp only [zl] <;> omega) | (simp only [zn])) only [ref06_CAS, ↓zd, zk, Nat.reduceSub, Nat.reduceAdd, Nat.reduceMul, Nat.reduceLeDiff, Nat.reduceEqDiff, reduceIte, Int.reduceEq, Int.reduceBEq, Int.reduceLE, Int.reduceLT, Int.reduceNeg, Int.reduceAdd, Int.reduceSub, Int.reduceMul, List.map, AV.cells, List.all, AV.one, eqV, eqAll, splice, fillA, List.replicate, resAll, resA, zm, zg, memC, hone, a72, c_ref06_there, ht, a73, c_ref06_with, b2, b6]
    refine OK_fn hw ?_
    rintro _ m1 ⟨k1, v', rfl, s1⟩
    have g1 : m1[m.length + 1]? = some (.cells 2 false [.nils, .int .u64 0]) := k1.get (by rw [get_mid]; rfl)
    have hl1 : m.length + 1 < m1.length := (List.getElem?_eq_some_iff.1 g1).1
    have hone' := slOne s1
    simp only [AV.one] at hone'
    simp (disch := first | assumption | omega | (simp only [zl] <;> omega) | (simp only [zn])) only [↓zd, zk, Nat.reduceSub, Nat.reduceAdd, Nat.reduceMul, Nat.reduceLeDiff, Nat.reduceEqDiff, reduceIte, Int.reduceEq, Int.reduceBEq, Int.reduceLE, Int.reduceLT, Int.reduceNeg, Int.reduceAdd, Int.reduceSub, Int.reduceMul, List.map, AV.cells, List.all, AV.one, eqV, eqAll, splice, fillA, List.replicate, resAll, resA, zm, zg, memC, g1, hone']
    refine ⟨((Keep.app m _).trans k1).set (by omega) _, v', ?_, ?_⟩
    · rw [Int.toNat_natCast, hgd, decide_eq_true rfl]; rfl
    · rw [Int.toNat_natCast, hgd, if_pos rfl]; exact (KeepB.at _ _).off (su_box s1 g1) s1
  · simp (disch := first | assumption | omega | (simp only [zl] <;> omega) | (simp only [zn])) only [ref06_CAS, ↓zd, zk, Nat.reduceSub, Nat.reduceAdd, Nat.reduceMul, Nat.reduceLeDiff, Nat.reduceEqDiff, reduceIte, Int.reduceEq, Int.reduceBEq, Int.reduceLE, Int.reduceLT, Int.reduceNeg, Int.reduceAdd, Int.reduceSub, Int.reduceMul, List.map, AV.cells, List.all, AV.one, eqV, eqAll, splice, fillA, List.replicate, resAll, resA, zm, zg, memC, hone, a72, c_ref06_there, ht, b2, b6]
    refine ⟨Keep.app _ _, .sl q oo xs.length cap, ?_, ?_⟩
    · rw [Int.toNat_natCast, hgd, decide_eq_false hwo]; rfl
    · rw [Int.toNat_natCast, hgd, if_neg hwo]; exact (hs.keep (Keep.app _ _)).ro
end Go.Am.F06
namespace Go.Am.F10
open Go.Am.F06
theorem word_at {c : Cf} {p : Int} (h : thereP c p) : wordA c p = addrA c p 0 := by unfold addrA wordA; rw [if_pos h, Int.add_zero]
theorem slot_at {c : Cf} {p : Int} (h : thereP c p) (i : Int) : wordA c p + 6 + i % c.q = slotA c p i := by unfold slotA; rw [if_pos h.1]; unfold addrA wordA; rw [if_pos h]; omega
theorem rslot_eq {X : Type} (m : Mem X) {c : Cf} {p : Int} (h : thereP c p) {i : Int} (hi : 0 ≤ i) (hi2 : i < 4294967296) : c_ref09_Slot [.agg (cfC c), .int .i64 p, .int .u32 i] m = some (.int .i64 (slotA c p i), m ++ [.cells 6 false (cfC c), .cells 6 false (cfC c)]) := by
  have a172 : assoc [(172, c_ref09_Word (X := X))] 172 = some c_ref09_Word := rfl
  have he : c_ref09_Slot (X := X) = amFunc [(172, c_ref09_Word)] ref09_Slot := rfl
  rw [he]
  generalize [(172, c_ref09_Word (X := X))] = G at a172 ⊢
  have hb := there_bounds h
  have hw := fun m : Mem X => rword_eq m h
  have hwa := addr_b h (i := 0) (by omega) (by omega)
  rw [← word_at h] at hwa
  have hcn := cellsN_le c
  have h0 := Int.emod_nonneg i (b := c.q) (by omega)
  have h1 := Int.emod_lt_of_pos i (b := c.q) (by omega)
  have e0 : IntKind.u32.wrap c.q = c.q := by rw [wrap32]; omega
  have e1 : i.tmod c.q = i % c.q := Int.tmod_eq_emod_of_nonneg hi
  have e2 : IntKind.i64.wrap (i % c.q) = i % c.q := wrapI (by omega) (by omega)
  have e3 : IntKind.i64.wrap (wordA c p + 6) = wordA c p + 6 := wrapI (by omega) (by omega)
  have e4 : IntKind.i64.wrap (wordA c p + 6 + i % c.q) = slotA c p i := by rw [wrapI (by omega) (by omega)]; exact slot_at h i
  have e5 : ¬ (c.q = 0) := by omega
  simp only [cfC] at hw
  refine Fn_eq (Fn_of rfl ?_)
  simp (disch := first | assumption | omega | (simp only [zl] <;> omega) | (simp only [zn])) only [ref09_Slot, ↓zd, zk, Nat.reduceSub, Nat.reduceAdd, Nat.reduceMul, Nat.reduceLeDiff, Nat.reduceEqDiff, reduceIte, Int.reduceEq, Int.reduceBEq, Int.reduceLE, Int.reduceLT, Int.reduceNeg, Int.reduceAdd, Int.reduceSub, Int.reduceMul, List.map, AV.cells, List.all, AV.one, eqV, eqAll, splice, fillA, List.replicate, resAll, resA, zm, zg, cfC, a172, hw, e0, e5, e1, e2, e3, e4]
structure SUN (lo hi : Nat) (m : MM) (wr : Bool) (xs : List Int) (v : AV) : Prop where
  su : SU m wr xs v
  no : ∀ b, lo ≤ b → b < hi → ∀ ro L, m[b]? ≠ some (.cells 1 ro L)
theorem SUN.set {lo hi : Nat} {m : MM} {wr : Bool} {xs : List Int} {v : AV} (h : SUN lo hi m wr xs v) {a : Nat} (h1 : lo ≤ a) (h2 : a < hi) {C : Chunk Ob} (hC : ∀ ro L, C ≠ .cells 1 ro L) : SUN lo hi (m.set a C) wr xs v := by
  refine ⟨(KeepB.at _ _).off (fun q o n c hv h0 hq => ?_) h.su, fun b b1 b2 ro L hb => ?_⟩
  · rcases h.su.2 with ⟨h3, _⟩ | ⟨q2, o2, c2, h3, h4⟩
    · rw [h3] at hv; cases hv
    · rw [h3] at hv; injection hv with e1 e2 e3 e4; subst e1; subst e3; subst hq
      obtain ⟨ro, L, h5, _⟩ := h4 h0
      exact h.no _ h1 h2 _ _ h5
  · by_cases hab : a = b
    · subst hab
      by_cases hl : a < m.length
      · rw [List.getElem?_set_self hl] at hb; injection hb with hb; exact hC _ _ hb
      · rw [List.getElem?_eq_none (by rw [List.length_set]; omega)] at hb; cases hb
    · rw [List.getElem?_set_ne hab] at hb; exact h.no b b1 b2 _ _ hb
structure GS where
  a : Int
  w : Int
  seen : Int
  has : Bool
  tries : Int
def gC (c : Cf) (p : Int) (s : GS) : List AV := getC c p s.a s.w s.seen s.has s.tries
structure GOk (c : Cf) (p : Int) (s : GS) : Prop where
  w : W64 s.w
  a : s.a = 0 ∨ (thereP c p ∧ (s.a = 1 ∨ s.a = 2 ∨ s.a = 3))
  has : s.has = true → s.a = 0
def wrdN (c : Cf) (p : Int) : Nat := (addrA c p 0).toNat
def sltN (c : Cf) (p w : Int) : Nat := (slotA c p (hd w)).toNat
def stepG (c : Cf) (p : Int) (xs : List Int) (s : GS) : GS × List Int :=
  if s.a = 1 then ({ s with w := xs.getD (wrdN c p) 0, a := if sz (xs.getD (wrdN c p) 0) = 0 ∨ c.q < sz (xs.getD (wrdN c p) 0) then 0 else 2 }, xs)
  else if s.a = 2 then ({ s with seen := IntKind.i64.wrap (xs.getD (sltN c p s.w) 0), a := 3 }, xs)
  else if s.a = 3 then if xs.getD (wrdN c p) 0 = s.w then ({ s with has := true, a := 0 }, xs.set (wrdN c p) (gainW s.w)) else ({ s with tries := IntKind.i64.wrap (s.tries + 1), a := 1 }, xs)
  else (s, xs)
def opsG (s : GS) (o : Int) : Int := if s.a = 0 then o else IntKind.u64.wrap (o + 1)
theorem getD_64 {xs : List Int} (h : ∀ x, x ∈ xs → W64 x) (i : Nat) : W64 (xs.getD i 0) := by
  rw [List.getD_eq_getElem?_getD]
  cases hx : xs[i]? with
  | none => unfold W64; simp
  | some x => exact h x (List.mem_of_getElem? hx)
theorem stepG_zero {c : Cf} {p : Int} {s : GS} (h : s.a = 0) (xs : List Int) : stepG c p xs s = (s, xs) := by
  unfold stepG; rw [if_neg (by omega), if_neg (by omega), if_neg (by omega)]
theorem GOk.step {c : Cf} {p : Int} {s : GS} {xs : List Int} (h : GOk c p s) (hx : s.a = 0 ∨ OkL c xs) : GOk c p (stepG c p xs s).1 := by
  rcases hx with h0 | hx
  · rw [stepG_zero h0]; exact h
  obtain ⟨h1, h2, h3⟩ := h
  have hg := getD_64 hx.2 (wrdN c p)
  unfold stepG
  split
  · refine ⟨hg, ?_, fun hh => ?_⟩
    · by_cases hz : sz (xs.getD (wrdN c p) 0) = 0 ∨ c.q < sz (xs.getD (wrdN c p) 0)
      · exact .inl (if_pos hz)
      · refine .inr ⟨?_, .inr (.inl (if_neg hz))⟩
        rcases h2 with h2 | h2
        · omega
        · exact h2.1
    · have := h3 hh; omega
  · split
    · refine ⟨h1, .inr ⟨?_, .inr (.inr rfl)⟩, fun hh => ?_⟩
      · rcases h2 with h2 | h2
        · omega
        · exact h2.1
      · have := h3 hh; omega
    · split
      · split
        · exact ⟨h1, .inl rfl, fun _ => rfl⟩
        · refine ⟨h1, .inr ⟨?_, .inl rfl⟩, fun hh => ?_⟩
          · rcases h2 with h2 | h2
            · omega
            · exact h2.1
          · have := h3 hh; omega
      · exact ⟨h1, h2, h3⟩
end Go.Am.F10
end
section
namespace Go.Am.F10
open Go.Am.F06
theorem memF_app {step : MemSt → List AV → Option (AV × MemSt)} {M : MM} {j : Nat} {s s' : MemSt} {rest : List AV} {v : AV} (h : memF step (.ptr j 0 :: rest) M = some (v, M.set j (.abs (.mem s')))) (hs : M[j]? = some (.abs (.mem s))) (hst : step s rest = some (v, s')) (K : MM) : memF step (.ptr j 0 :: rest) (M ++ K) = some (v, M.set j (.abs (.mem s')) ++ K) := by
  have lj : j < M.length := (List.getElem?_eq_some_iff.1 hs).1
  simp only [memF]
  rw [List.getElem?_append_left lj, hs]
  simp only [hst, List.set_append_left _ _ lj]
theorem RelM.loadE {xs : List Int} {o : Int} {s : MemSt} (h : RelM xs o s) {a : Int} (ha : thr xs a) :
    ∃ s', RelM xs (IntKind.u64.wrap (o + 1)) s' ∧ loadS s [.int .i64 a] = some (.int .u64 (xs.getD a.toNat 0), s') ∧ (∀ (M K : MM) (j : Nat), M[j]? = some (.abs (.mem s)) → memF loadS [.ptr j 0, .int .i64 a] (M ++ K) = some (.int .u64 (xs.getD a.toNat 0), M.set j (.abs (.mem s')) ++ K)) ∧ ∀ (M : MM) (j : Nat), M[j]? = some (.abs (.mem s)) → memF loadS [.ptr j 0, .int .i64 a] M = some (.int .u64 (xs.getD a.toNat 0), M.set j (.abs (.mem s'))) := by
  obtain ⟨k, rfl⟩ : ∃ k : Nat, a = k := ⟨a.toNat, by have := ha.1; omega⟩
  have ha' : k < xs.length := by have := ha.2; omega
  obtain ⟨s', h1, h2⟩ := h.acc ha' 1 (fun w => (w, true))
  rw [getD_set ha'] at h2
  have hs : loadS s [.int .i64 k] = some (.int .u64 (xs.getD k 0), s') := by simp only [loadS, h1, Option.map_some]
  exact ⟨s', h2, hs, fun M K j hM => memF_app (memF_of hM hs) hM hs K, fun M j hM => memF_of hM hs⟩
theorem RelM.storeE {xs : List Int} {o : Int} {s : MemSt} (h : RelM xs o s) {a : Int} (ha : thr xs a) (x : Int) :
    ∃ s', RelM (xs.set a.toNat x) (IntKind.u64.wrap (o + 1)) s' ∧ storeS s [.int .i64 a, .int .u64 x] = some (.tup [], s') ∧ (∀ (M K : MM) (j : Nat), M[j]? = some (.abs (.mem s)) → memF storeS [.ptr j 0, .int .i64 a, .int .u64 x] (M ++ K) = some (.tup [], M.set j (.abs (.mem s')) ++ K)) ∧ ∀ (M : MM) (j : Nat), M[j]? = some (.abs (.mem s)) → memF storeS [.ptr j 0, .int .i64 a, .int .u64 x] M = some (.tup [], M.set j (.abs (.mem s'))) := by
  obtain ⟨k, rfl⟩ : ∃ k : Nat, a = k := ⟨a.toNat, by have := ha.1; omega⟩
  have ha' : k < xs.length := by have := ha.2; omega
  obtain ⟨s', h1, h2⟩ := h.acc ha' 2 (fun w => (x, true))
  have hs : storeS s [.int .i64 k, .int .u64 x] = some (.tup [], s') := by simp only [storeS, h1, Option.map_some]
  exact ⟨s', h2, hs, fun M K j hM => memF_app (memF_of hM hs) hM hs K, fun M j hM => memF_of hM hs⟩
theorem RelM.casE {xs : List Int} {o : Int} {s : MemSt} (h : RelM xs o s) {a : Int} (ha : thr xs a) (x y : Int) :
    ∃ s', RelM (if xs.getD a.toNat 0 = x then xs.set a.toNat y else xs) (IntKind.u64.wrap (o + 1)) s' ∧ casS s [.int .i64 a, .int .u64 x, .int .u64 y] = some (.bool (decide (xs.getD a.toNat 0 = x)), s') ∧ (∀ (M K : MM) (j : Nat), M[j]? = some (.abs (.mem s)) → memF casS [.ptr j 0, .int .i64 a, .int .u64 x, .int .u64 y] (M ++ K) = some (.bool (decide (xs.getD a.toNat 0 = x)), M.set j (.abs (.mem s')) ++ K)) ∧ ∀ (M : MM) (j : Nat), M[j]? = some (.abs (.mem s)) → memF casS [.ptr j 0, .int .i64 a, .int .u64 x, .int .u64 y] M = some (.bool (decide (xs.getD a.toNat 0 = x)), M.set j (.abs (.mem s'))) := by
  obtain ⟨k, rfl⟩ : ∃ k : Nat, a = k := ⟨a.toNat, by have := ha.1; omega⟩
  have ha' : k < xs.length := by have := ha.2; omega
  obtain ⟨s', h1, h2⟩ := h.acc ha' 3 (fun w => if w = x then (y, true) else (w, false))
  have hs : casS s [.int .i64 k, .int .u64 x, .int .u64 y] = some (.bool (decide (xs.getD k 0 = x)), s') := by
    simp only [casS, h1, Option.map_some]
    by_cases hx : xs.getD k 0 = x
    · simp only [if_pos hx, decide_eq_true hx]
    · simp only [if_neg hx, decide_eq_false hx]
  refine ⟨s', ?_, hs, fun M K j hM => memF_app (memF_of hM hs) hM hs K, fun M j hM => memF_of hM hs⟩
  rw [Int.toNat_natCast]
  by_cases hx : xs.getD k 0 = x
  · simp only [if_pos hx] at h2 ⊢; exact h2
  · simp only [if_neg hx, getD_set ha'] at h2 ⊢; exact h2
def GsQ (m : MM) (c : Cf) (p : Int) (j i : Nat) (x : GS × List Int) (o a0 : Int) (r : AV) (m' : MM) : Prop := KeepX j i m m' ∧ r = .int .i64 x.1.a ∧ m'[j]? = some (.cells 12 false (gC c p { x.1 with a := a0 })) ∧ ∃ st', m'[i]? = some (.abs (.mem st')) ∧ RelM x.2 o st'
theorem GsQ.of {m : MM} {c : Cf} {p : Int} {j i : Nat} {x : GS × List Int} {o a0 : Int} {st' : MemSt} {r : AV} {C : List AV} (hij : j ≠ i) (li : i < m.length) (lj : j < m.length) (hr : RelM x.2 o st') (hC : C = gC c p { x.1 with a := a0 }) (hv : r = .int .i64 x.1.a) (K : MM) :
    GsQ m c p j i x o a0 r ((m.set i (.abs (.mem st'))).set j (.cells 12 false C) ++ K) := by
  subst hC
  refine ⟨(((KeepX.refl m).setR _).setL _).app K, hv, ?_, st', ?_, hr⟩
  · rw [List.getElem?_append_left (by simpa using lj), List.getElem?_set_self (by simpa using lj)]
  · rw [List.getElem?_append_left (by simpa using li), List.getElem?_set_ne hij, List.getElem?_set_self li]
end Go.Am.F10
end
section
namespace Go.Am.F10
open Go.Am.F06
theorem _root_.Go.Am.Sl.put {X : Type} {m : Mem X} {wr : Bool} {sz n : Nat} {l : List AV} {v : AV} (h : Sl m wr sz n l v) {b : Nat} (hb : ∀ ro L, m[b]? ≠ some (.cells sz ro L)) (C : Chunk X) : Sl (m.set b C) wr sz n l v := by
  refine ⟨h.1, ?_⟩
  rcases h.2 with h1 | ⟨q, o, cap, h1, h2⟩
  · exact .inl h1
  · refine .inr ⟨q, o, cap, h1, fun h0 => ?_⟩
    obtain ⟨ro, L, h3, h4⟩ := h2 h0
    refine ⟨ro, L, ?_, h4⟩
    rw [List.getElem?_set_ne (fun hq => hb ro L (by rw [hq]; exact h3))]; exact h3
def Gsmem : List (Nat × AFun Ob) := [(34, memF fun s rest => (lenAsk s rest).map fun v => (v, s)), (46, memF fun s rest => (opsAsk s rest).map fun v => (v, s)), (47, memNF allS), (58, F06.c_docs_SameCells)]
set_option maxHeartbeats 8000000 in
theorem samemem_run {m : MM} {wr : Bool} {j : Nat} {xs : List Int} {o : Int} {v : AV} {s : MemSt} (hj : m[j]? = some (.abs (.mem s))) (hr : RelM xs o s) (hs : SU m wr xs v) (hn : xs.length ≤ 65536) :
    Fn Gsmem docs_SameMem [.ptr j 0, .agg (memC v o)] m (fun r m' => r = .bool true ∧ Keep m m') := by
  have a34 : assoc Gsmem 34 = some (memF fun s rest => (lenAsk s rest).map fun v => (v, s)) := rfl
  have a46 : assoc Gsmem 46 = some (memF fun s rest => (opsAsk s rest).map fun v => (v, s)) := rfl
  have a47 : assoc Gsmem 47 = some (memNF allS) := rfl
  have a58 : assoc Gsmem 58 = some F06.c_docs_SameCells := rfl
  generalize Gsmem = G at a34 a46 a47 a58 ⊢
  obtain ⟨rfl, rfl, hlog⟩ := hr
  have hone := slOne hs
  simp only [AV.one] at hone
  have hlen := hs.len
  have lj : j < m.length := (List.getElem?_eq_some_iff.1 hj).1
  have hj1 : (m ++ [Chunk.cells 2 false [v, .int .u64 s.ops]])[j]? = some (.abs (.mem s)) := by rw [List.getElem?_append_left lj]; exact hj
  have f34 := len_of hj1
  have f46 := ops_of hj1
  obtain ⟨l1, f47, s47, q47⟩ := all_of hj1 (by omega)
  have hs2 : SU (m ++ [Chunk.cells 2 false [v, .int .u64 s.ops]] ++ [.cells 1 false (uC s.cells)]) wr s.cells v := (hs.keep (Keep.app m _)).keep (Keep.app _ _)
  generalize hC : Chunk.cells 1 false (uC s.cells) = C at f47 s47 hs2
  have g1 : (m ++ [Chunk.cells 2 false [v, .int .u64 s.ops]])[m.length]? = some (Chunk.cells 2 false [v, .int .u64 s.ops]) := get_concat
  have g2 : (m ++ [Chunk.cells 2 false [v, .int .u64 s.ops]] ++ [C])[m.length]? = some (Chunk.cells 2 false [v, .int .u64 s.ops]) := by rw [List.getElem?_append_left (by simp)]; exact g1
  have hoff : Off (slq l1) v := by
    rw [q47]; exact sl_off hs (by simp)
  refine Fn_of rfl ?_
  simp (disch := first | assumption | omega | (simp only [zl] <;> omega) | (simp only [zn])) only [docs_SameMem, ↓zd, zk, Nat.reduceSub, Nat.reduceAdd, Nat.reduceMul, Nat.reduceLeDiff, Nat.reduceEqDiff, reduceIte, Int.reduceEq, Int.reduceBEq, Int.reduceLE, Int.reduceLT, Int.reduceNeg, Int.reduceAdd, Int.reduceSub, Int.reduceMul, List.map, AV.cells, List.all, AV.one, eqV, eqAll, splice, fillA, List.replicate, resAll, resA, memC, hone, ev_len, hlen, g1, a34, f34, a46, f46, a47, f47, g2, a58, F06.c_docs_SameCells]
  refine OKT_fn (samecells_run s47 hs2 hoff (by omega)) ?_
  rintro _ M4 ⟨rfl, k4⟩
  have hl4 : m.length + 2 ≤ M4.length := by have := k4.1; simpa using this
  have hK4 : Keep m M4 := by
    refine ⟨by omega, fun i hi => ?_⟩
    rw [k4.2 i (by simp; omega) (by rw [q47]; simp; omega), List.getElem?_append_left (by simp; omega), List.getElem?_append_left hi]
  simp (disch := first | assumption | omega | (simp only [zl] <;> omega) | (simp only [zn])) only [↓zd, zk, Nat.reduceSub, Nat.reduceAdd, Nat.reduceMul, Nat.reduceLeDiff, Nat.reduceEqDiff, reduceIte, Int.reduceEq, Int.reduceBEq, Int.reduceLE, Int.reduceLT, Int.reduceNeg, Int.reduceAdd, Int.reduceSub, Int.reduceMul, List.map, AV.cells, List.all, AV.one, eqV, eqAll, splice, fillA, List.replicate, resAll, resA, g1, g2]
  exact hK4
structure Pk where
  d : Bool
  a : Int
  v : Int
def pkC (x : Pk) : List AV := [.bool x.d, .int .i64 x.a, .int .u64 x.v]
abbrev SPk {X : Type} (m : Mem X) (wr : Bool) (es : List Pk) (v : AV) : Prop := Sl m wr 3 es.length (es.flatMap pkC) v
theorem spk_get {X : Type} {m : Mem X} {wr : Bool} {es : List Pk} {v : AV} (h : SPk m wr es v) {i : Nat} {e : Pk} (he : es[i]? = some e) : ∃ q o cap ro L, v = .sl q o es.length cap ∧ m[q]? = some (.cells 3 ro L) ∧ i < es.length ∧ o + i * 3 + 3 ≤ L.length ∧
    L[o + i * 3]? = some (.bool e.d) ∧ L[o + i * 3 + 1]? = some (.int .i64 e.a) ∧ L[o + i * 3 + 2]? = some (.int .u64 e.v) := by
  have hi : i < es.length := (List.getElem?_eq_some_iff.1 he).1
  obtain ⟨q, o, cap, ro, L, rfl, h2, h3, h4, h5⟩ := h.at (by omega)
  have hL : ∀ k, k < 3 → L[o + i * 3 + k]? = (pkC e)[k]? := by
    intro k hk
    rw [Nat.add_assoc, sl_get h3 (by omega), rows_at (f := pkC) (sz := 3) (fun _ => rfl) he hk]
  exact ⟨q, o, cap, ro, L, rfl, h2, hi, by omega, hL 0 (by omega), hL 1 (by omega), hL 2 (by omega)⟩
end Go.Am.F10
end
section
namespace Go.Am.F10
open Go.Am.F06
end Go.Am.F10
end
section
namespace Go.Am.F10
variable {X : Type}
def iC (xs : List Int) : List AV := xs.map (AV.int .i64)
theorem iC_at {xs : List Int} {k : Nat} {x : Int} (h : xs[k]? = some x) : (iC xs)[k]? = some (.int .i64 x) := by simp [iC, h]
theorem iC_len (xs : List Int) : (iC xs).length = xs.length := by simp [iC]
theorem iC_one (xs : List Int) : (iC xs).all AV.one = true := by simp [iC, AV.one]
theorem iC_app (xs : List Int) (x : Int) : iC (xs ++ [x]) = iC xs ++ [.int .i64 x] := by simp [iC]
abbrev SI (m : Mem X) (wr : Bool) (xs : List Int) (v : AV) : Prop := Sl m wr 1 xs.length (iC xs) v
theorem SI.val {m : Mem X} {wr : Bool} {xs : List Int} {v : AV} (h : SI m wr xs v) (hn : 0 < xs.length) : ∃ q o cap ro L, v = .sl q o xs.length cap ∧ m[q]? = some (.cells 1 ro L) ∧ (wr = true → ro = false) ∧ o + xs.length ≤ L.length ∧ ∀ (i : Nat) (x : Int), xs[i]? = some x → L[o + i]? = some (.int .i64 x) := by
  obtain ⟨q, o, cap, ro, L, h1, h2, h3, h4, h5⟩ := h.at hn
  refine ⟨q, o, cap, ro, L, h1, h2, h5, by omega, fun i x hx => ?_⟩
  have hi : i < xs.length := (List.getElem?_eq_some_iff.1 hx).1
  rw [sl_get h3 (by omega)]; exact iC_at hx
def MInv (n : Nat) (a b : AV) (xs ys : List Int) (m0 : Mem X) (k : Nat) (e : List AV) (m : Mem X) : Prop := ∃ (i : Nat) (x4 x5 x6 : AV),
  e = [a, b, .bool false, .int .i64 i, x4, x5, x6] ∧ m = m0 ∧ k = n - i ∧ i ≤ n ∧ ∀ j, j < i → xs[j]? = ys[j]?
theorem same_run {m : Mem X} {w1 w2 : Bool} {xs ys : List Int} {a b : AV} (ha : SI m w1 xs a) (hb : SI m w2 ys b) (hx : xs.length < FUEL) : Fn [] kit_SameInts [a, b] m (fun r m' => r = .bool (decide (xs = ys)) ∧ m' = m) := by
  refine Fn_of rfl ?_
  have hF : xs.length < 1099511627776 := hx
  have h1 := ha.len
  have h2 := hb.len
  by_cases hn : xs.length = ys.length
  · rcases Nat.eq_zero_or_pos xs.length with h0 | h0
    · have hx0 : xs = [] := List.length_eq_zero_iff.1 h0
      have hy0 : ys = [] := List.length_eq_zero_iff.1 (by omega)
      rw [hx0] at h1; rw [hy0] at h2
      subst hx0; subst hy0
      simp (disch := first | assumption | omega | (simp only [zl] <;> omega) | (simp only [zn])) only [kit_SameInts, ↓zd, zk, Nat.reduceSub, Nat.reduceAdd, Nat.reduceMul, Nat.reduceLeDiff, Nat.reduceEqDiff, reduceIte, Int.reduceEq, Int.reduceBEq, Int.reduceLE, Int.reduceLT, Int.reduceNeg, Int.reduceAdd, Int.reduceSub, Int.reduceMul, List.map, AV.cells, List.all, AV.one, eqV, eqAll, splice, fillA, List.replicate, resAll, resA, ev_len, h1, h2]
      refine W_loop (fun k e m' => ∃ x4 x5 x6 : AV, e = [a, b, .bool false, .int .i64 0, x4, x5, x6] ∧ m' = m) 0 (by simp [FUEL]) ⟨_, _, _, rfl, rfl⟩ ?_
      rintro k e m' ⟨x4, x5, x6, rfl, rfl⟩
      simp (disch := first | assumption | omega | (simp only [zl] <;> omega) | (simp only [zn])) only [↓zd, zk, Nat.reduceSub, Nat.reduceAdd, Nat.reduceMul, Nat.reduceLeDiff, Nat.reduceEqDiff, reduceIte, Int.reduceEq, Int.reduceBEq, Int.reduceLE, Int.reduceLT, Int.reduceNeg, Int.reduceAdd, Int.reduceSub, Int.reduceMul, List.map, AV.cells, List.all, AV.one, eqV, eqAll, splice, fillA, List.replicate, resAll, resA, ev_len, h1]
    · obtain ⟨q, o, cap, ro, L, rfl, hq, _, hL, hat⟩ := ha.val h0
      obtain ⟨q', o', cap', ro', L', rfl, hq', _, hL', hat'⟩ := hb.val (by omega)
      simp (disch := first | assumption | omega | (simp only [zl] <;> omega) | (simp only [zn])) only [kit_SameInts, ↓zd, zk, Nat.reduceSub, Nat.reduceAdd, Nat.reduceMul, Nat.reduceLeDiff, Nat.reduceEqDiff, reduceIte, Int.reduceEq, Int.reduceBEq, Int.reduceLE, Int.reduceLT, Int.reduceNeg, Int.reduceAdd, Int.reduceSub, Int.reduceMul, List.map, AV.cells, List.all, AV.one, eqV, eqAll, splice, fillA, List.replicate, resAll, resA]
      refine W_loop (MInv xs.length (.sl q o xs.length cap) (.sl q' o' ys.length cap') xs ys m) xs.length hx ⟨0, _, _, _, rfl, rfl, rfl, Nat.zero_le _, fun j hj => by omega⟩ ?_
      rintro k e m' ⟨i, x4, x5, x6, rfl, rfl, rfl, hi, heq⟩
      simp (disch := first | assumption | omega | (simp only [zl] <;> omega) | (simp only [zn])) only [↓zd, zk, Nat.reduceSub, Nat.reduceAdd, Nat.reduceMul, Nat.reduceLeDiff, Nat.reduceEqDiff, reduceIte, Int.reduceEq, Int.reduceBEq, Int.reduceLE, Int.reduceLT, Int.reduceNeg, Int.reduceAdd, Int.reduceSub, Int.reduceMul, List.map, AV.cells, List.all, AV.one, eqV, eqAll, splice, fillA, List.replicate, resAll, resA]
      refine CW_of (fun h => ?_) (fun h => ?_)
      · simp only [decide_eq_true_eq] at h
        obtain ⟨x, hxi⟩ : ∃ x, xs[i]? = some x := ⟨_, List.getElem?_eq_getElem (by omega)⟩
        obtain ⟨y, hyi⟩ : ∃ y, ys[i]? = some y := ⟨_, List.getElem?_eq_getElem (by omega)⟩
        simp (disch := first | assumption | omega | (simp only [zl] <;> omega) | (simp only [zn])) only [↓zd, zk, Nat.reduceSub, Nat.reduceAdd, Nat.reduceMul, Nat.reduceLeDiff, Nat.reduceEqDiff, reduceIte, Int.reduceEq, Int.reduceBEq, Int.reduceLE, Int.reduceLT, Int.reduceNeg, Int.reduceAdd, Int.reduceSub, Int.reduceMul, List.map, AV.cells, List.all, AV.one, eqV, eqAll, splice, fillA, List.replicate, resAll, resA, hq, hq', hat i x hxi, hat' i y hyi]
        by_cases hxy : x = y
        · subst hxy
          simp (disch := first | assumption | omega | (simp only [zl] <;> omega) | (simp only [zn])) only [↓zd, zk, Nat.reduceSub, Nat.reduceAdd, Nat.reduceMul, Nat.reduceLeDiff, Nat.reduceEqDiff, reduceIte, Int.reduceEq, Int.reduceBEq, Int.reduceLE, Int.reduceLT, Int.reduceNeg, Int.reduceAdd, Int.reduceSub, Int.reduceMul, List.map, AV.cells, List.all, AV.one, eqV, eqAll, splice, fillA, List.replicate, resAll, resA]
          refine ⟨_, by omega, i + 1, _, _, _, rfl, rfl, rfl, by omega, fun j hj => ?_⟩
          by_cases hji : j = i
          · subst hji; rw [hxi, hyi]
          · exact heq j (by omega)
        · simp (disch := first | assumption | omega | (simp only [zl] <;> omega) | (simp only [zn])) only [↓zd, zk, Nat.reduceSub, Nat.reduceAdd, Nat.reduceMul, Nat.reduceLeDiff, Nat.reduceEqDiff, reduceIte, Int.reduceEq, Int.reduceBEq, Int.reduceLE, Int.reduceLT, Int.reduceNeg, Int.reduceAdd, Int.reduceSub, Int.reduceMul, List.map, AV.cells, List.all, AV.one, eqV, eqAll, splice, fillA, List.replicate, resAll, resA, hxy]
          have : ¬ xs = ys := fun h => by rw [h, hyi] at hxi; injection hxi with hxi; exact hxy hxi.symm
          simp [this]
      · simp only [decide_eq_false_iff_not] at h
        simp (disch := first | assumption | omega | (simp only [zl] <;> omega) | (simp only [zn])) only [↓zd, zk, Nat.reduceSub, Nat.reduceAdd, Nat.reduceMul, Nat.reduceLeDiff, Nat.reduceEqDiff, reduceIte, Int.reduceEq, Int.reduceBEq, Int.reduceLE, Int.reduceLT, Int.reduceNeg, Int.reduceAdd, Int.reduceSub, Int.reduceMul, List.map, AV.cells, List.all, AV.one, eqV, eqAll, splice, fillA, List.replicate, resAll, resA]
        have : xs = ys := List.ext_getElem? fun j => by
          by_cases hj : j < i
          · exact heq j hj
          · rw [List.getElem?_eq_none (by omega), List.getElem?_eq_none (by omega)]
        simp [this]
  · have hne : ¬ ((xs.length : Int) = ys.length) := by omega
    have : ¬ xs = ys := fun h => hn (by rw [h])
    simp (disch := first | assumption | omega | (simp only [zl] <;> omega) | (simp only [zn])) only [kit_SameInts, ↓zd, zk, Nat.reduceSub, Nat.reduceAdd, Nat.reduceMul, Nat.reduceLeDiff, Nat.reduceEqDiff, reduceIte, Int.reduceEq, Int.reduceBEq, Int.reduceLE, Int.reduceLT, Int.reduceNeg, Int.reduceAdd, Int.reduceSub, Int.reduceMul, List.map, AV.cells, List.all, AV.one, eqV, eqAll, splice, fillA, List.replicate, resAll, resA, ev_len, h1, h2, hne, this]
theorem _root_.Go.Am.Own.si {m0 m : Mem X} {xs : List Int} {v : AV} (h : Own m0 m 1 xs.length (iC xs) v) : SI m true xs v ∧ Fr m0.length v := Own.sl h (by rw [iC_len]; omega)
theorem _root_.Go.Am.Own.val1 {m0 m : Mem X} {xs : List Int} {v : AV} (h : Own m0 m 1 xs.length (iC xs) v) : v.one = true := by
  rcases h with ⟨_, _, rfl⟩ | ⟨q, rfl, _⟩ <;> rfl
theorem _root_.Go.Am.Own.keep {m0 m m' : Mem X} {n : Nat} {l : List AV} {lv : AV} (h : Own m0 m 1 n l lv) (hk : ∀ q C, m0.length ≤ q → m[q]? = some (.cells 1 false C) → m'[q]? = some (.cells 1 false C)) : Own m0 m' 1 n l lv := by
  rcases h with h | ⟨q, h1, h2, h3, h4⟩
  · exact .inl h
  · have := hk q _ h3 h2
    exact .inr ⟨q, h1, this, h3, (List.getElem?_eq_some_iff.1 this).1⟩
def Nx (m : Mem X) (v : AV) : Prop := v = .nils ∨ ∃ q o n l, v = .sl q o n none ∧ m[q]? = some (.cells 1 false l)
theorem _root_.Go.Am.Own.nx {m0 m : Mem X} {n : Nat} {l : List AV} {v : AV} (h : Own m0 m 1 n l v) : Nx m v := by
  rcases h with ⟨_, _, rfl⟩ | ⟨q, rfl, h1, _⟩
  · exact .inl rfl
  · exact .inr ⟨_, _, _, _, rfl, h1⟩
theorem _root_.Go.Am.Own.base {m0 m1 m : Mem X} {n : Nat} {l : List AV} {v : AV} (h : Own m1 m 1 n l v) (hl : m0.length ≤ m1.length) : Own m0 m 1 n l v := by
  rcases h with h | ⟨q, h1, h2, h3, h4⟩
  · exact .inl h
  · exact .inr ⟨q, h1, h2, by omega, h4⟩
end Go.Am.F10
end
section
namespace Go.Am.F10
open Go.Am.F06
def ringN (c : Cf) (w : Int) : Nat := if sz w ≤ c.q then (sz w).toNat else 0
def ringAt (c : Cf) (p : Int) (xs : List Int) (w : Int) (i : Nat) : Int := IntKind.i64.wrap (xs.getD (slotA c p ((hd w + i) % 4294967296)).toNat 0)
def ringW (c : Cf) (p : Int) (xs : List Int) (w : Int) (n : Nat) : List Int := (List.range n).map (ringAt c p xs w)
def ringL (c : Cf) (p : Int) (xs : List Int) : List Int := if thereP c p then ringW c p xs (xs.getD (wrdN c p) 0) (ringN c (xs.getD (wrdN c p) 0)) else []
theorem ringW_len (c : Cf) (p : Int) (xs : List Int) (w : Int) (n : Nat) : (ringW c p xs w n).length = n := by simp [ringW]
theorem ringN_le {c : Cf} {p : Int} (h : thereP c p) (w : Int) : ringN c w ≤ 64 := by
  have := there_bounds h
  unfold ringN; split <;> omega
end Go.Am.F10
end
section
namespace Go.Am.F10
open Go.Am.F06
def stC (c : Cf) (p : Int) : Cf := if thereP c p then c else zeroC
abbrev GT := GS × List Int × Int
def nextT (c : Cf) (p : Int) (t : GT) : GT := ((stepG c p t.2.1 t.1).1, (stepG c p t.2.1 t.1).2, opsG t.1 t.2.2)
inductive Ends (c : Cf) (p : Int) : GT → Nat → GT → Prop
  | done {t : GT} (h : t.1.a = 0) : Ends c p t 0 t
  | step {t f : GT} {k : Nat} (h : t.1.a ≠ 0) (hn : Ends c p (nextT c p t) k f) : Ends c p t (k + 1) f
def dW (w : Int) (i : Nat) : Int := pk ((hd w + i) % 4294967296) (tl w)
def dX (c : Cf) (p : Int) (xs : List Int) (i : Nat) : List Int := if i = 0 then xs else xs.set (wrdN c p) (dW (xs.getD (wrdN c p) 0) i)
theorem hd_pk {h t : Int} (h0 : 0 ≤ t) (h1 : t < 4294967296) : hd (pk h t) = h := by unfold hd pk; omega
theorem tl_pk {h t : Int} (h0 : 0 ≤ t) (h1 : t < 4294967296) : tl (pk h t) = t := by unfold tl pk; omega
theorem hd_dW (w : Int) (i : Nat) : hd (dW w i) = (hd w + i) % 4294967296 := hd_pk (tl_b w).1 (tl_b w).2
theorem tl_dW (w : Int) (i : Nat) : tl (dW w i) = tl w := tl_pk (tl_b w).1 (tl_b w).2
theorem dW_zero {w : Int} (h : W64 w) : dW w 0 = w := by
  have := hd_b h
  unfold dW; rw [show (hd w + ((0 : Nat) : Int)) % 4294967296 = hd w by omega]
  unfold pk hd tl; omega
theorem dW_gain (w : Int) (i : Nat) : gainW (dW w i) = dW w (i + 1) := by
  unfold gainW; rw [hd_dW, tl_dW]; unfold dW
  congr 1; omega
theorem dW_sz {w : Int} {i : Nat} (h : (i : Int) ≤ sz w) : sz (dW w i) = sz w - i := by
  unfold sz; rw [hd_dW, tl_dW]; unfold sz at h; omega
theorem dW_64 (w : Int) (i : Nat) : W64 (dW w i) := by
  have := tl_b w
  unfold dW pk W64; omega
theorem dX_word {c : Cf} {p : Int} {xs : List Int} (hx : OkL c xs) (h : thereP c p) (i : Nat) : (dX c p xs i).getD (wrdN c p) 0 = dW (xs.getD (wrdN c p) 0) i := by
  have hb := there_bounds h
  have ha := addr_b h (i := 0) (by omega) (by omega)
  have hl := hx.1
  unfold dX; split
  · rename_i h0; subst h0
    exact (dW_zero (getD_64 hx.2 _)).symm
  · rw [List.getD_eq_getElem?_getD, List.getElem?_set_self (by unfold wrdN; omega)]; rfl
theorem dX_slot {c : Cf} {p : Int} {xs : List Int} (h : thereP c p) (i : Nat) {k : Int} (hk : 0 ≤ k) : (dX c p xs i).getD (slotA c p k).toNat 0 = xs.getD (slotA c p k).toNat 0 := by
  have hb := there_bounds h
  have h0 := Int.emod_nonneg k (b := c.q) (by omega)
  have hm := mul_bounds hb.2.2.2.2.1 hb.2.2.2.2.2 (q := 6 + c.q) (by omega) (by omega)
  unfold dX; split
  · rfl
  · rw [List.getD_eq_getElem?_getD, List.getElem?_set_ne, ← List.getD_eq_getElem?_getD]
    unfold wrdN slotA; rw [if_pos h.1]; unfold addrA; rw [if_pos h, if_pos h]; omega
theorem dX_next {c : Cf} {p : Int} {xs : List Int} (i : Nat) : (dX c p xs i).set (wrdN c p) (dW (xs.getD (wrdN c p) 0) (i + 1)) = dX c p xs (i + 1) := by
  rw [dX, dX, if_neg (Nat.succ_ne_zero i)]
  split
  · rfl
  · rw [List.set_set]
end Go.Am.F10
end
section
namespace Go.Am.F10
open Go.Am.F06
theorem Ends.next {c : Cf} {p : Int} {t f : GT} {k : Nat} (h : Ends c p t k f) :
    ((stepG c p t.2.1 t.1).1.a = 0 → ((stepG c p t.2.1 t.1).1, (stepG c p t.2.1 t.1).2, opsG t.1 t.2.2) = f) ∧
    ((stepG c p t.2.1 t.1).1.a ≠ 0 → ∃ k2, k2 < k ∧ Ends c p ((stepG c p t.2.1 t.1).1, (stepG c p t.2.1 t.1).2, opsG t.1 t.2.2) k2 f) := by
  cases h with
  | done h0 =>
    rw [stepG_zero h0]
    refine ⟨fun _ => ?_, fun hh => absurd h0 hh⟩
    show (t.1, t.2.1, opsG t.1 t.2.2) = t
    unfold opsG; rw [if_pos h0]
  | @step _ _ k hne hn =>
    refine ⟨fun h0 => ?_, fun _ => ⟨k, by omega, hn⟩⟩
    cases hn with
    | done _ => rfl
    | step h1 _ => exact absurd h0 h1
theorem ringL_there {c : Cf} {p : Int} {xs : List Int} (h : thereP c p) : ringL c p xs = ringW c p xs (xs.getD (wrdN c p) 0) (ringN c (xs.getD (wrdN c p) 0)) := if_pos h
theorem ringL_not {c : Cf} {p : Int} {xs : List Int} (h : ¬ thereP c p) : ringL c p xs = [] := if_neg h
theorem ringL_le (c : Cf) (p : Int) (xs : List Int) : (ringL c p xs).length ≤ 64 := by
  by_cases h : thereP c p
  · rw [ringL_there h, ringW_len]; exact ringN_le h _
  · rw [ringL_not h]; simp
theorem ringW_get (c : Cf) (p : Int) (xs : List Int) (w : Int) {i n : Nat} (h : i < n) : (ringW c p xs w n)[i]? = some (ringAt c p xs w i) := by
  rw [ringW, List.getElem?_map, List.getElem?_range h]; rfl
end Go.Am.F10
end
section
namespace Go.Am.F10
open Go.Am.F06
section
variable {X : Type}
theorem own_push2 {m0 m : Mem X} {xs : List Int} {v : AV} (h : Own m0 m 1 xs.length (iC xs) v) (x : Int) (hl : xs.length ≤ 100000) (hm : m0.length ≤ m.length) :
    ∃ v' m', appendA 1 8 v (.sl m.length 0 1 (some 1)) (m ++ [.cells 1 false [.int .i64 x]]) = some (v', m') ∧ Own m0 m' 1 (xs ++ [x]).length (iC (xs ++ [x])) v' ∧ m.length ≤ m'.length ∧ (∀ i, i < m.length → (∀ ys, m[i]? ≠ some (.cells 1 false (iC ys))) ∨ i < m0.length → m'[i]? = m[i]?) := by
  have hx : (m ++ [Chunk.cells 1 false [.int .i64 x]])[m.length]? = some (.cells 1 false [.int .i64 x]) := get_concat
  rw [iC_app, List.length_append]
  rcases h with ⟨h1, h2, rfl⟩ | ⟨q, rfl, hq, h2, h3⟩
  · have hxs : xs = [] := List.length_eq_zero_iff.1 h1
    subst hxs
    refine ⟨_, _, append_nils hx rfl rfl (by decide), .inr ⟨_, rfl, get_concat, by simp <;> omega, by simp⟩, by simp <;> omega, fun i hi _ => ?_⟩
    rw [List.getElem?_append_left (by simp <;> omega), List.getElem?_append_left hi]
  · have hq' : (m ++ [Chunk.cells 1 false [.int .i64 x]])[q]? = some (.cells 1 false (iC xs)) := by rw [List.getElem?_append_left h3]; exact hq
    refine ⟨_, _, append_none hq' (by rw [iC_len]; omega) hx rfl (iC_one _) rfl (by omega) (by omega), .inr ⟨_, rfl, ?_, by simp <;> omega, by simp⟩, by simp <;> omega, fun i hi ho => ?_⟩
    · have : (m ++ [Chunk.cells 1 false [AV.int .i64 x]]).length = ((m ++ [Chunk.cells 1 false [AV.int .i64 x]]).set q .dead).length := by simp
      rw [this, get_concat]
    · have hqi : q ≠ i := by
        rintro rfl
        rcases ho with ho | ho
        · exact ho _ hq
        · omega
      rw [List.getElem?_append_left (by simp <;> omega), List.getElem?_set_ne hqi, List.getElem?_append_left hi]
end
end Go.Am.F10
end
section
namespace Go.Am.F10
open Go.Am.F06
theorem _root_.Go.Am.F06.KeepB.x {X : Type} {j : Nat} {m m' : Mem X} (h : KeepB j m m') : KeepX j j m m' := ⟨h.1, fun a ha h1 _ => h.2 a ha h1⟩
end Go.Am.F10
end
