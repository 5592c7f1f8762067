import Derived.Test.YtgfddegdjdeeoaaXG16
set_option linter.unusedSimpArgs false
set_option linter.unusedVariables false
section
namespace Go.Am.F10
open Go.Am.F06 (SU uC_len uC_set uC_one)
variable {X : Type}
theorem wrap64_b (z : Int) : W64 (IntKind.u64.wrap z) := by rw [wrap64]; unfold W64; omega
theorem wrap32_b (z : Int) : 0 ≤ IntKind.u32.wrap z ∧ IntKind.u32.wrap z < 4294967296 := by rw [wrap32]; omega
def orU (a b : Int) : Int := IntKind.u64.wrap ((BitVec.ofInt 64 a ||| BitVec.ofInt 64 b).toNat : Int)
theorem evOr (a b : Int) : binI .or .u64 a b = some (.int .u64 (orU a b)) := rfl
theorem stC_u {m : Mem X} {i o : Nat} {n : Int} {xs : List Int} (h : o < xs.length) : stC m i o 1 (.int .u64 n) (some (1, false, uC xs)) = some (m.set i (.cells 1 false (uC (xs.set o n)))) := by
  rw [stC_int (by rw [uC_len]; exact h), uC_set]
structure OkF (c : Cf) (xs : List Int) : Prop where
  at' : ∀ p, thereP c p → sz (xs.getD (addrA c p 0).toNat 0) ≤ c.q
theorem OkF.setw {c : Cf} {xs : List Int} (h : OkF c xs) {p v : Int} (hp : thereP c p) (hv : sz v ≤ c.q) : OkF c (xs.set (addrA c p 0).toNat v) := by
  refine ⟨fun p' hp' => ?_⟩
  by_cases he : (addrA c p 0).toNat = (addrA c p' 0).toNat
  · rw [← he]
    by_cases hl : (addrA c p 0).toNat < xs.length
    · rw [List.getD_eq_getElem?_getD, List.getElem?_set_self hl]; exact hv
    · rw [List.getD_eq_getElem?_getD, List.getElem?_eq_none (by rw [List.length_set]; omega)]
      have hb := there_bounds hp
      have : sz 0 = 0 := by decide
      show sz 0 ≤ c.q
      omega
  · rw [List.getD_eq_getElem?_getD, List.getElem?_set_ne he, ← List.getD_eq_getElem?_getD]; exact h.at' p' hp'
theorem addr_ne {c : Cf} {p p' i : Int} (hp : thereP c p) (hp' : thereP c p') (h0 : 1 ≤ i) (h1 : i < 6 + c.q) : (addrA c p i).toNat ≠ (addrA c p' 0).toNat := by
  have hb := there_bounds hp
  have hb' := there_bounds hp'
  have hm := mul_bounds hb.2.2.2.2.1 hb.2.2.2.2.2 (q := 6 + c.q) (by omega) (by omega)
  have hm' := mul_bounds hb'.2.2.2.2.1 hb'.2.2.2.2.2 (q := 6 + c.q) (by omega) (by omega)
  unfold addrA; rw [if_pos hp, if_pos hp']
  rcases (show p < p' ∨ p = p' ∨ p' < p by omega) with h | h | h
  · have h2 : (p + 1) * (6 + c.q) ≤ p' * (6 + c.q) := Int.mul_le_mul_of_nonneg_right (by omega) (by omega)
    have h3 : (p + 1) * (6 + c.q) = p * (6 + c.q) + (6 + c.q) := by rw [Int.add_mul, Int.one_mul]
    omega
  · subst h; omega
  · have h2 : p' * (6 + c.q) ≤ p * (6 + c.q) := Int.mul_le_mul_of_nonneg_right (by omega) (by omega)
    omega
theorem OkF.seta {c : Cf} {xs : List Int} (h : OkF c xs) {p i v : Int} (hp : thereP c p) (h0 : 1 ≤ i) (h1 : i < 6 + c.q) : OkF c (xs.set (addrA c p i).toNat v) := by
  refine ⟨fun p' hp' => ?_⟩
  rw [List.getD_eq_getElem?_getD, List.getElem?_set_ne (addr_ne hp hp' h0 h1), ← List.getD_eq_getElem?_getD]; exact h.at' p' hp'
theorem OkF.setb {c : Cf} {xs : List Int} (h : OkF c xs) {p i v : Int} (hp : thereP c p) (h0 : 1 ≤ i) (h1 : i ≤ 5) : OkF c (xs.set (addrA c p i).toNat v) := h.seta hp h0 (by have := there_bounds hp; omega)
theorem OkF.sets {c : Cf} {xs : List Int} (h : OkF c xs) {p k v : Int} (hp : thereP c p) : OkF c (xs.set (slotA c p k).toNat v) := by
  have hb := there_bounds hp
  have h0 := Int.emod_nonneg k (b := c.q) (by omega)
  have h1 := Int.emod_lt_of_pos k (b := c.q) (by omega)
  unfold slotA; rw [if_pos hp.1]
  exact h.seta hp (by omega) (by omega)
theorem word_sz {h n q : Int} (h0 : 0 ≤ h) (h1 : h < 4294967296) (n0 : 0 ≤ n) (n1 : n ≤ q) (hq : q ≤ 64) : sz (orU (IntKind.u64.wrap (IntKind.u64.wrap h * 4294967296)) (IntKind.u64.wrap (IntKind.u32.wrap (h + n)))) ≤ q := by
  have e1 : IntKind.u64.wrap h = h := wrapU h0 (by omega)
  have e2 : IntKind.u64.wrap (h * 4294967296) = h * 4294967296 := wrapU (by omega) (by omega)
  have e3 : IntKind.u32.wrap (h + n) = (h + n) % 4294967296 := wrap32 _
  have e4 : IntKind.u64.wrap ((h + n) % 4294967296) = (h + n) % 4294967296 := wrapU (by omega) (by omega)
  have ho := or_eq h0 h1 (t := (h + n) % 4294967296) (by omega) (by omega)
  rw [evOr] at ho
  injection ho with ho; injection ho with _ ho
  rw [e1, e2, e3, e4, ho]
  unfold sz hd tl pk; omega
theorem mod_le {b q n : Int} (hb : 0 ≤ b) (hq : 0 ≤ q) (hq2 : q ≤ 64) (hn : n = IntKind.u32.wrap (b.tmod (q + 1))) : n ≤ q := by
  have h0 := Int.emod_nonneg b (b := q + 1) (by omega)
  have h1 := Int.emod_lt_of_pos b (b := q + 1) (by omega)
  rw [hn, Int.tmod_eq_emod_of_nonneg hb, wrap32]; omega
structure FS (m0 : Mem X) (c : Cf) (q0 : Nat) (xs : List Int) (m : Mem X) : Prop where
  keep : Keep m0 m
  box : m[m0.length]? = some (.cells 6 false (cfC c))
  out : m[q0]? = some (.cells 1 false (uC xs))
  len : xs.length = cellsN c
  ok : ∀ x, x ∈ xs → W64 x
  lt : m0.length < q0
  full : OkF c xs
theorem FS.app {m0 m : Mem X} {c : Cf} {q0 : Nat} {xs : List Int} (h : FS m0 c q0 xs m) (K : Mem X) : FS m0 c q0 xs (m ++ K) :=
  ⟨h.keep.trans (Keep.app _ _), (Keep.app m K).get h.box, (Keep.app m K).get h.out, h.len, h.ok, h.lt, h.full⟩
def OkL (c : Cf) (xs : List Int) : Prop := xs.length = cellsN c ∧ ∀ x, x ∈ xs → W64 x
theorem OkL.set {c : Cf} {xs : List Int} (h : OkL c xs) (a : Nat) {v : Int} (hv : W64 v) : OkL c (xs.set a v) := by
  refine ⟨by rw [List.length_set]; exact h.1, fun x hx => ?_⟩
  rcases List.mem_or_eq_of_mem_set hx with hx | rfl
  · exact h.2 x hx
  · exact hv
theorem FS.okL {m0 m : Mem X} {c : Cf} {q0 : Nat} {xs : List Int} (h : FS m0 c q0 xs m) : OkL c xs := ⟨h.len, h.ok⟩
theorem FS.all {m0 m : Mem X} {c : Cf} {q0 : Nat} {xs xs' : List Int} (h : FS m0 c q0 xs m) (hx : OkL c xs') (hf : OkF c xs') (K : Mem X) : FS m0 c q0 xs' (m.set q0 (.cells 1 false (uC xs')) ++ K) := by
  refine FS.app ⟨h.keep.set (by have := h.lt; omega) _, ?_, List.getElem?_set_self (List.getElem?_eq_some_iff.1 h.out).1, hx.1, hx.2, h.lt, hf⟩ K
  rw [List.getElem?_set_ne (by have := h.lt; omega)]; exact h.box
def FI (m0 : Mem X) (c : Cf) (q0 : Nat) (bv : AV) (k : Nat) (e : List AV) (m : Mem X) : Prop := ∃ (p : Nat) (xs : List Int) (y6 y7 y8 y9 y10 y11 y12 : AV),
  e = [.agg (cfC c), bv, .ptr m0.length 0, .nils, .sl q0 0 (cellsN c) (some (cellsN c)), .int .i64 p, y6, y7, y8, y9, y10, y11, y12] ∧ FS m0 c q0 xs m ∧ (rightP c → (k : Int) = c.n - p ∧ (p : Int) ≤ c.n) ∧ (¬ rightP c → k = 0)
def FI2 (m0 : Mem X) (c : Cf) (q0 : Nat) (bv : AV) (p : Nat) (h n : Int) (y9 y10 : AV) (k : Nat) (e : List AV) (m : Mem X) : Prop := ∃ (i : Int) (xs : List Int) (y11 y12 : AV),
  e = [.agg (cfC c), bv, .ptr m0.length 0, .nils, .sl q0 0 (cellsN c) (some (cellsN c)), .int .i64 p, .int .u32 h, .int .u32 n, .int .u32 i, y9, y10, y11, y12] ∧ FS m0 c q0 xs m ∧ (k : Int) = n - i ∧ 0 ≤ i ∧ i ≤ n
def Gfill : List (Nat × AFun X) := [(156, c_conf_Config_Cells), (157, c_conf_Config_Right), (158, c_docs_byteAt), (159, c_conf_Config_Word), (160, c_conf_Config_Slot), (161, c_conf_Config_Next), (162, c_conf_Config_Stat), (163, c_conf_Config_Tick), (164, c_conf_Config_Sys), (165, c_conf_Config_Flag)]
set_option maxHeartbeats 16000000 in
theorem filled_runF {m0 : Mem X} {c : Cf} {bs : List Int} {bv : AV} (hB : SB m0 bs bv) (hb : ∀ x, x ∈ bs → 0 ≤ x ∧ x < 256) :
    Fn Gfill docs_Filled [.agg (cfC c), bv] m0 (fun r m' => ∃ xs, Keep m0 m' ∧ SU m' true xs r ∧ xs.length = cellsN c ∧ (∀ x, x ∈ xs → W64 x) ∧ OkF c xs) := by
  have a156 : assoc (Gfill (X := X)) 156 = some c_conf_Config_Cells := rfl
  have a157 : assoc (Gfill (X := X)) 157 = some c_conf_Config_Right := rfl
  have a158 : assoc (Gfill (X := X)) 158 = some c_docs_byteAt := rfl
  have a159 : assoc (Gfill (X := X)) 159 = some c_conf_Config_Word := rfl
  have a160 : assoc (Gfill (X := X)) 160 = some c_conf_Config_Slot := rfl
  have a161 : assoc (Gfill (X := X)) 161 = some c_conf_Config_Next := rfl
  have a162 : assoc (Gfill (X := X)) 162 = some c_conf_Config_Stat := rfl
  have a163 : assoc (Gfill (X := X)) 163 = some c_conf_Config_Tick := rfl
  have a164 : assoc (Gfill (X := X)) 164 = some c_conf_Config_Sys := rfl
  have a165 : assoc (Gfill (X := X)) 165 = some c_conf_Config_Flag := rfl
  generalize Gfill (X := X) = G at a156 a157 a158 a159 a160 a161 a162 a163 a164 a165 ⊢
  obtain ⟨J, hcells⟩ := cells_eq (m0 ++ [.cells 6 false (cfC c)]) c
  have hN := cellsN_le c
  have hmk : ∀ M : Mem X, amOp G (.make 1 8 [.int .u64 0]) [.int .i64 (cellsN c), .int .i64 (cellsN c)] M = some (.sl M.length 0 (cellsN c) (some (cellsN c)), M ++ [.cells 1 false (uC (List.replicate (cellsN c) 0))]) := fun M => by
    have hrep : repeatL (cellsN c) [AV.int .u64 0] = uC (List.replicate (cellsN c) 0) := by simp [repeatL, uC]
    simp only [amOp]
    rw [if_pos (by omega), Int.toNat_natCast, hrep]
  simp only [cfC, List.append_assoc, List.cons_append, List.nil_append] at hcells
  have e4 : ∀ p : Nat, (p : Int) < 8 → IntKind.i64.wrap (4 * (p : Int)) = 4 * (p : Int) := fun p hp => wrapI (by omega) (by omega)
  refine Fn_of rfl ?_
  simp (disch := first | assumption | omega | (simp only [List.length_cons, List.length_nil, List.length_set, List.length_append] <;> omega) | (simp only [get_mid, get_mid0, List.cons_append, List.append_assoc, List.getElem?_cons_zero, List.getElem?_cons_succ])) only [docs_Filled, ek, ↓evW, ↓evQ, evB, evS, evL, List.map, AV.cells, List.all, AV.one, Bool.and_true, Bool.true_and, if_true, ↓thenQ_normal, ↓thenQ_exit, ↓thenQ_ret, ↓blockQ_normal, ↓blockQ_ret, ↓blockQ_exit, ↓CW_true, ↓CW_false, CW_true, CW_false, condT, condF, RQ_some, tupA_one, tupA_two, tupA_nil, Nat.reduceSub, Nat.reduceAdd, Nat.reduceMul, Nat.zero_add, Nat.add_zero, Nat.reduceLeDiff, Nat.reduceEqDiff, eqV, eqAll, fillA, and_self, and_true, true_and, Nat.le_refl, Bool.not_true, Bool.not_false, Bool.false_xor, Bool.true_xor, cond_true, cond_false, List.replicate, if_false, reduceIte, resAll, resA, ne_eq, decide_not, decide_true, decide_false, Int.reduceEq, Bool.not_true, Bool.not_false, not_true_eq_false, not_false_eq_true, cond_bool, cond_int, beq_self_eq_true, Int.reduceBEq, Bool.and_self, Bool.and_false, Bool.false_and, Bool.xor_false, Bool.xor_true, loadN_ldC, ldC_none, ldC_somes, stC_aggs, splice, storeN_stC, stC_int, stC_bool, stC_ptr, stC_nilp, stC_sl, stC_nils, getC_gcO, gcO_cells, W_draw_eq, ↓W_scope, ev_clear, evT, evF, evX, evM, ↓exitQ_normal, ↓exitQ_ret, ↓exitQ_exit, saA_self, saO_self, if_pos, if_neg, wrapI, get_concat, set_concat, Int.toNat_natCast, Int.toNat_zero, List.nil_append, Nat.mul_one, decide_eq_true, decide_eq_false, Int.reduceLE, Int.reduceLT, Int.reduceNeg, Bool.false_or, Bool.true_or, Bool.or_false, Bool.or_true, wrapU, Int.reduceAdd, Int.reduceSub, Int.reduceMul, List.append_assoc, List.length_append, get_mid, get_mid0, set_mid, set_mid0, List.length_set, List.length_cons, List.length_nil, List.cons_append, List.getElem?_append_left, List.set_append_left, get_at, get_at0, set_at, set_at0, List.getElem?_set_self, List.getElem?_set_ne, cfC, a156, hcells, hmk]
  have hF0 : FS m0 c (m0.length + (J.length + 1)) (List.replicate (cellsN c) 0) (m0 ++ Chunk.cells 6 false (cfC c) :: (J ++ [Chunk.cells 1 false (uC (List.replicate (cellsN c) 0))])) := by
    refine ⟨Keep.app _ _, by rw [get_mid0]; rfl, ?_, by simp, fun x hx => ?_, by omega, ⟨fun p hp => ?_⟩⟩
    · rw [get_mid, List.getElem?_cons_succ, get_concat]
    · rw [List.eq_of_mem_replicate hx]; unfold W64; omega
    · have hz : (List.replicate (cellsN c) (0 : Int)).getD (addrA c p 0).toNat 0 = 0 := by
        rw [List.getD_eq_getElem?_getD, List.getElem?_replicate]; split <;> rfl
      rw [hz]
      have : sz 0 = 0 := by decide
      have hb := there_bounds hp
      omega
  have hRT : ∀ m : Mem X, c_conf_Config_Right [.agg [.int .i64 c.n, .int .i64 c.q, .int .i64 c.g, .int .i64 c.m, .int .i64 c.t, .int .i64 c.s]] m = some (.bool (decide (rightP c)), m ++ [.cells 6 false (cfC c)]) := fun m => right_eq m c
  refine W_loop (FI m0 c (m0.length + (J.length + 1)) bv) (if rightP c then c.n.toNat else 0) ?_ ⟨0, List.replicate (cellsN c) 0, _, _, _, _, _, _, _, rfl, hF0, fun hr => ?_, fun hr => if_neg hr⟩ ?_
  · split
    · rename_i hr; have := hr.1; simp only [FUEL]; omega
    · simp [FUEL]
  · rw [if_pos hr]; have := hr.1; omega
  clear hF0 hcells hmk
  generalize m0.length + (J.length + 1) = q0
  rintro k e m ⟨p, xs, y6, y7, y8, y9, y10, y11, y12, rfl, hF, hk1, hk2⟩
  have hbox := hF.box
  have hout := hF.out
  have hul : (uC xs).length = cellsN c := by rw [uC_len]; exact hF.len
  have hl0 : m0.length < m.length := (List.getElem?_eq_some_iff.1 hbox).1
  have hlq : q0 < m.length := (List.getElem?_eq_some_iff.1 hout).1
  have fin : ∀ K : Mem X, ∃ xs, Keep m0 (m ++ K) ∧ SU (m ++ K) true xs (.sl q0 0 (cellsN c) (some (cellsN c))) ∧ xs.length = cellsN c ∧ (∀ x, x ∈ xs → W64 x) ∧ OkF c xs := fun K => by
    have hF' := hF.app K
    refine ⟨xs, hF'.keep, ⟨by rw [uC_len]; omega, .inr ⟨_, _, _, by rw [hF.len], fun _ => ⟨false, _, hF'.out, by rw [List.drop_zero, Nat.mul_one, ← uC_len, List.take_length], by rw [uC_len]; omega, fun _ => rfl⟩⟩⟩, hF.len, hF.ok, hF.full⟩
  simp only [cfC] at hbox
  by_cases hr : rightP c
  · simp only [decide_eq_true hr] at hRT
    obtain ⟨hk1, hk1'⟩ := hk1 hr
    by_cases hp : (p : Int) < c.n
    · have ht : thereP c p := ⟨hr, by omega, hp⟩
      have htb := there_bounds ht
      have hq0 := hF.lt
      have hbv := byteV_b hb
      have hby0 : ∀ i : Int, 0 ≤ i → c_docs_byteAt [bv, .int .i64 i] m = some (.int .i64 (byteV bs i), m) := fun i hi => byte_eq (hB.keep hF.keep) hb hi
      have hby1 : ∀ (K : Mem X) (i : Int), 0 ≤ i → c_docs_byteAt [bv, .int .i64 i] (m ++ K) = some (.int .i64 (byteV bs i), m ++ K) := fun K i hi => byte_eq (hB.keep (hF.keep.trans (Keep.app _ _))) hb hi
      have hA : ∀ k : Int, 0 ≤ k → k < 8 → 0 ≤ addrA c p k ∧ addrA c p k < cellsN c := fun k h0 h1 => addr_b ht h0 (by omega)
      have hA0 := hA 0 (by omega) (by omega)
      have eq1 : IntKind.i64.wrap (c.q + 1) = c.q + 1 := wrapI (by omega) (by omega)
      have hA1 := hA 1 (by omega) (by omega)
      have hA2 := hA 2 (by omega) (by omega)
      have hA3 := hA 3 (by omega) (by omega)
      have hA4 := hA 4 (by omega) (by omega)
      have hA5 := hA 5 (by omega) (by omega)
      have hs := fun (M : Mem X) (z : Int) => slot_eqR M hr (p : Int) (wrap32_b z).1 (wrap32_b z).2
      have hnx := fun M : Mem X => next_eq M c (p : Int)
      have hst := fun M : Mem X => stat_eq M c (p : Int)
      have htk := fun M : Mem X => tick_eq M c (p : Int)
      have hsy := fun M : Mem X => sys_eq M c (p : Int)
      have hfl := fun M : Mem X => flag_eq M c (p : Int)
      simp only [cfC, List.cons_append, List.nil_append] at hs hnx hst htk hsy hfl
      have hw0 := fun m : Mem X => word_run (m := m) c (p : Int)
      simp only [cfC, List.cons_append, List.nil_append] at hw0
      simp (disch := first | assumption | omega | (simp only [List.length_cons, List.length_nil, List.length_set, List.length_append] <;> omega) | (simp only [get_mid, get_mid0, List.cons_append, List.append_assoc, List.getElem?_cons_zero, List.getElem?_cons_succ])) only [ek, ↓evW, ↓evQ, evB, evS, evL, List.map, AV.cells, List.all, AV.one, Bool.and_true, Bool.true_and, if_true, ↓thenQ_normal, ↓thenQ_exit, ↓thenQ_ret, ↓blockQ_normal, ↓blockQ_ret, ↓blockQ_exit, ↓CW_true, ↓CW_false, CW_true, CW_false, condT, condF, RQ_some, tupA_one, tupA_two, tupA_nil, Nat.reduceSub, Nat.reduceAdd, Nat.reduceMul, Nat.zero_add, Nat.add_zero, Nat.reduceLeDiff, Nat.reduceEqDiff, eqV, eqAll, fillA, and_self, and_true, true_and, Nat.le_refl, Bool.not_true, Bool.not_false, Bool.false_xor, Bool.true_xor, cond_true, cond_false, List.replicate, if_false, reduceIte, resAll, resA, ne_eq, decide_not, decide_true, decide_false, Int.reduceEq, Bool.not_true, Bool.not_false, not_true_eq_false, not_false_eq_true, cond_bool, cond_int, beq_self_eq_true, Int.reduceBEq, Bool.and_self, Bool.and_false, Bool.false_and, Bool.xor_false, Bool.xor_true, loadN_ldC, ldC_none, ldC_somes, stC_aggs, splice, storeN_stC, stC_int, stC_bool, stC_ptr, stC_nilp, stC_sl, stC_nils, getC_gcO, gcO_cells, W_draw_eq, ↓W_scope, ev_clear, evT, evF, evX, evM, ↓exitQ_normal, ↓exitQ_ret, ↓exitQ_exit, saA_self, saO_self, if_pos, if_neg, wrapI, get_concat, set_concat, Int.toNat_natCast, Int.toNat_zero, List.nil_append, Nat.mul_one, decide_eq_true, decide_eq_false, Int.reduceLE, Int.reduceLT, Int.reduceNeg, Bool.false_or, Bool.true_or, Bool.or_false, Bool.or_true, wrapU, Int.reduceAdd, Int.reduceSub, Int.reduceMul, List.append_assoc, List.length_append, get_mid, get_mid0, set_mid, set_mid0, List.length_set, List.length_cons, List.length_nil, List.cons_append, List.getElem?_append_left, List.set_append_left, get_at, get_at0, set_at, set_at0, List.getElem?_set_self, List.getElem?_set_ne, cfC, hbox, a157, hRT, a158, hby0, hby1]
      refine CW_of (fun _ => ?_) (fun _ => ?_)
      all_goals simp (disch := first | assumption | omega | (simp only [List.length_cons, List.length_nil, List.length_set, List.length_append] <;> omega) | (simp only [get_mid, get_mid0, List.cons_append, List.append_assoc, List.getElem?_cons_zero, List.getElem?_cons_succ])) only [ek, ↓evW, ↓evQ, evB, evS, evL, List.map, AV.cells, List.all, AV.one, Bool.and_true, Bool.true_and, if_true, ↓thenQ_normal, ↓thenQ_exit, ↓thenQ_ret, ↓blockQ_normal, ↓blockQ_ret, ↓blockQ_exit, ↓CW_true, ↓CW_false, CW_true, CW_false, condT, condF, RQ_some, tupA_one, tupA_two, tupA_nil, Nat.reduceSub, Nat.reduceAdd, Nat.reduceMul, Nat.zero_add, Nat.add_zero, Nat.reduceLeDiff, Nat.reduceEqDiff, eqV, eqAll, fillA, and_self, and_true, true_and, Nat.le_refl, Bool.not_true, Bool.not_false, Bool.false_xor, Bool.true_xor, cond_true, cond_false, List.replicate, if_false, reduceIte, resAll, resA, ne_eq, decide_not, decide_true, decide_false, Int.reduceEq, Bool.not_true, Bool.not_false, not_true_eq_false, not_false_eq_true, cond_bool, cond_int, beq_self_eq_true, Int.reduceBEq, Bool.and_self, Bool.and_false, Bool.false_and, Bool.xor_false, Bool.xor_true, loadN_ldC, ldC_none, ldC_somes, stC_aggs, splice, storeN_stC, stC_int, stC_bool, stC_ptr, stC_nilp, stC_sl, stC_nils, getC_gcO, gcO_cells, W_draw_eq, ↓W_scope, ev_clear, evT, evF, evX, evM, ↓exitQ_normal, ↓exitQ_ret, ↓exitQ_exit, saA_self, saO_self, if_pos, if_neg, wrapI, get_concat, set_concat, Int.toNat_natCast, Int.toNat_zero, List.nil_append, Nat.mul_one, decide_eq_true, decide_eq_false, Int.reduceLE, Int.reduceLT, Int.reduceNeg, Bool.false_or, Bool.true_or, Bool.or_false, Bool.or_true, wrapU, Int.reduceAdd, Int.reduceSub, Int.reduceMul, List.append_assoc, List.length_append, get_mid, get_mid0, set_mid, set_mid0, List.length_set, List.length_cons, List.length_nil, List.cons_append, List.getElem?_append_left, List.set_append_left, get_at, get_at0, set_at, set_at0, List.getElem?_set_self, List.getElem?_set_ne, cfC, hbox, a157, hRT, a158, hby0, hby1, eq1, a159, hw0, shl_eq, evOr, hout, hul, uC_set]
      · refine W_loop (FI2 m0 c q0 bv p _ _ _ _) (IntKind.u32.wrap ((byteV bs (4 * (p : Int) + 1)).tmod (c.q + 1))).toNat (by have := wrap32_b ((byteV bs (4 * (p : Int) + 1)).tmod (c.q + 1)); simp only [FUEL]; omega) ⟨0, _, _, _, rfl, hF.all (hF.okL.set _ (wrap64_b _)) (hF.full.setw ht (word_sz (wrap32_b _).1 (wrap32_b _).2 (wrap32_b _).1 (mod_le (hbv _).1 (by omega) (by omega) rfl) (by omega))) _, by have := wrap32_b ((byteV bs (4 * (p : Int) + 1)).tmod (c.q + 1)); omega, by omega, (wrap32_b _).1⟩ ?_
        clear hF hout hul hby0 hby1 hl0 hlq fin hbox
        rintro k2 e m2 ⟨i, xs2, y11, y12, rfl, hF, hk, hi0, hi1⟩
        have hbox := hF.box
        have hout := hF.out
        have hul : (uC xs2).length = cellsN c := by rw [uC_len]; exact hF.len
        have hl0 : m0.length < m2.length := (List.getElem?_eq_some_iff.1 hbox).1
        have hlq : q0 < m2.length := (List.getElem?_eq_some_iff.1 hout).1
        simp only [cfC] at hbox
        have hn32 := wrap32_b ((byteV bs (4 * (p : Int) + 1)).tmod (c.q + 1))
        generalize IntKind.u32.wrap ((byteV bs (4 * (p : Int) + 1)).tmod (c.q + 1)) = n at hk hi1 hn32 ⊢
        have hlx : xs2.length = cellsN c := hF.len
        simp (disch := first | assumption | omega | (simp only [List.length_cons, List.length_nil, List.length_set, List.length_append] <;> omega) | (simp only [get_mid, get_mid0, List.cons_append, List.append_assoc, List.getElem?_cons_zero, List.getElem?_cons_succ])) only [ek, ↓evW, ↓evQ, evB, evS, evL, List.map, AV.cells, List.all, AV.one, Bool.and_true, Bool.true_and, if_true, ↓thenQ_normal, ↓thenQ_exit, ↓thenQ_ret, ↓blockQ_normal, ↓blockQ_ret, ↓blockQ_exit, ↓CW_true, ↓CW_false, CW_true, CW_false, condT, condF, RQ_some, tupA_one, tupA_two, tupA_nil, Nat.reduceSub, Nat.reduceAdd, Nat.reduceMul, Nat.zero_add, Nat.add_zero, Nat.reduceLeDiff, Nat.reduceEqDiff, eqV, eqAll, fillA, and_self, and_true, true_and, Nat.le_refl, Bool.not_true, Bool.not_false, Bool.false_xor, Bool.true_xor, cond_true, cond_false, List.replicate, if_false, reduceIte, resAll, resA, ne_eq, decide_not, decide_true, decide_false, Int.reduceEq, Bool.not_true, Bool.not_false, not_true_eq_false, not_false_eq_true, cond_bool, cond_int, beq_self_eq_true, Int.reduceBEq, Bool.and_self, Bool.and_false, Bool.false_and, Bool.xor_false, Bool.xor_true, loadN_ldC, ldC_none, ldC_somes, stC_aggs, splice, storeN_stC, stC_int, stC_bool, stC_ptr, stC_nilp, stC_sl, stC_nils, getC_gcO, gcO_cells, W_draw_eq, ↓W_scope, ev_clear, evT, evF, evX, evM, ↓exitQ_normal, ↓exitQ_ret, ↓exitQ_exit, saA_self, saO_self, if_pos, if_neg, wrapI, get_concat, set_concat, Int.toNat_natCast, Int.toNat_zero, List.nil_append, Nat.mul_one, decide_eq_true, decide_eq_false, Int.reduceLE, Int.reduceLT, Int.reduceNeg, Bool.false_or, Bool.true_or, Bool.or_false, Bool.or_true, wrapU, Int.reduceAdd, Int.reduceSub, Int.reduceMul, List.append_assoc, List.length_append, get_mid, get_mid0, set_mid, set_mid0, List.length_set, List.length_cons, List.length_nil, List.cons_append, List.getElem?_append_left, List.set_append_left, get_at, get_at0, set_at, set_at0, List.getElem?_set_self, List.getElem?_set_ne, cfC]
        refine CW_of (fun hlt => ?_) (fun hge => ?_)
        · simp only [decide_eq_true_eq] at hlt
          have hi1' : IntKind.u32.wrap (i + 1) = i + 1 := by rw [wrap32]; omega
          have hsA := slot_b ht (wrap32_b (IntKind.u32.wrap (IntKind.u32.wrap (0 - IntKind.u32.wrap ((byteV bs (4 * (p : Int))).tmod 7)) - 1) + i)).1
          simp (disch := first | assumption | omega | (simp only [List.length_cons, List.length_nil, List.length_set, List.length_append] <;> omega) | (simp only [get_mid, get_mid0, List.cons_append, List.append_assoc, List.getElem?_cons_zero, List.getElem?_cons_succ])) only [ek, ↓evW, ↓evQ, evB, evS, evL, List.map, AV.cells, List.all, AV.one, Bool.and_true, Bool.true_and, if_true, ↓thenQ_normal, ↓thenQ_exit, ↓thenQ_ret, ↓blockQ_normal, ↓blockQ_ret, ↓blockQ_exit, ↓CW_true, ↓CW_false, CW_true, CW_false, condT, condF, RQ_some, tupA_one, tupA_two, tupA_nil, Nat.reduceSub, Nat.reduceAdd, Nat.reduceMul, Nat.zero_add, Nat.add_zero, Nat.reduceLeDiff, Nat.reduceEqDiff, eqV, eqAll, fillA, and_self, and_true, true_and, Nat.le_refl, Bool.not_true, Bool.not_false, Bool.false_xor, Bool.true_xor, cond_true, cond_false, List.replicate, if_false, reduceIte, resAll, resA, ne_eq, decide_not, decide_true, decide_false, Int.reduceEq, Bool.not_true, Bool.not_false, not_true_eq_false, not_false_eq_true, cond_bool, cond_int, beq_self_eq_true, Int.reduceBEq, Bool.and_self, Bool.and_false, Bool.false_and, Bool.xor_false, Bool.xor_true, loadN_ldC, ldC_none, ldC_somes, stC_aggs, splice, storeN_stC, stC_int, stC_bool, stC_ptr, stC_nilp, stC_sl, stC_nils, getC_gcO, gcO_cells, W_draw_eq, ↓W_scope, ev_clear, evT, evF, evX, evM, ↓exitQ_normal, ↓exitQ_ret, ↓exitQ_exit, saA_self, saO_self, if_pos, if_neg, wrapI, get_concat, set_concat, Int.toNat_natCast, Int.toNat_zero, List.nil_append, Nat.mul_one, decide_eq_true, decide_eq_false, Int.reduceLE, Int.reduceLT, Int.reduceNeg, Bool.false_or, Bool.true_or, Bool.or_false, Bool.or_true, wrapU, Int.reduceAdd, Int.reduceSub, Int.reduceMul, List.append_assoc, List.length_append, get_mid, get_mid0, set_mid, set_mid0, List.length_set, List.length_cons, List.length_nil, List.cons_append, List.getElem?_append_left, List.set_append_left, get_at, get_at0, set_at, set_at0, List.getElem?_set_self, List.getElem?_set_ne, cfC, hbox, a160, hs, hout, hul, uC_set, hi1']
          exact ⟨k2 - 1, by omega, i + 1, _, _, _, rfl, hF.all (hF.okL.set _ (by unfold W64; omega)) (hF.full.sets ht) _, by omega, by omega, by omega⟩
        · simp only [decide_eq_false_iff_not] at hge
          have hby0 : ∀ i : Int, 0 ≤ i → c_docs_byteAt [bv, .int .i64 i] m2 = some (.int .i64 (byteV bs i), m2) := fun i hi => byte_eq (hB.keep hF.keep) hb hi
          have hby1 : ∀ (K : Mem X) (i : Int), 0 ≤ i → c_docs_byteAt [bv, .int .i64 i] (m2 ++ K) = some (.int .i64 (byteV bs i), m2 ++ K) := fun K i hi => byte_eq (hB.keep (hF.keep.trans (Keep.app _ _))) hb hi
          have hby2 : ∀ (A : Chunk X) (K : Mem X) (i : Int), 0 ≤ i → c_docs_byteAt [bv, .int .i64 i] (m2.set q0 A ++ K) = some (.int .i64 (byteV bs i), m2.set q0 A ++ K) := fun A K i hi => byte_eq (hB.keep ((hF.keep.set (by omega) A).trans (Keep.app _ _))) hb hi
          simp (disch := first | assumption | omega | (simp only [List.length_cons, List.length_nil, List.length_set, List.length_append] <;> omega) | (simp only [get_mid, get_mid0, List.cons_append, List.append_assoc, List.getElem?_cons_zero, List.getElem?_cons_succ])) only [ek, ↓evW, ↓evQ, evB, evS, evL, List.map, AV.cells, List.all, AV.one, Bool.and_true, Bool.true_and, if_true, ↓thenQ_normal, ↓thenQ_exit, ↓thenQ_ret, ↓blockQ_normal, ↓blockQ_ret, ↓blockQ_exit, ↓CW_true, ↓CW_false, CW_true, CW_false, condT, condF, RQ_some, tupA_one, tupA_two, tupA_nil, Nat.reduceSub, Nat.reduceAdd, Nat.reduceMul, Nat.zero_add, Nat.add_zero, Nat.reduceLeDiff, Nat.reduceEqDiff, eqV, eqAll, fillA, and_self, and_true, true_and, Nat.le_refl, Bool.not_true, Bool.not_false, Bool.false_xor, Bool.true_xor, cond_true, cond_false, List.replicate, if_false, reduceIte, resAll, resA, ne_eq, decide_not, decide_true, decide_false, Int.reduceEq, Bool.not_true, Bool.not_false, not_true_eq_false, not_false_eq_true, cond_bool, cond_int, beq_self_eq_true, Int.reduceBEq, Bool.and_self, Bool.and_false, Bool.false_and, Bool.xor_false, Bool.xor_true, loadN_ldC, ldC_none, ldC_somes, stC_aggs, splice, storeN_stC, stC_int, stC_bool, stC_ptr, stC_nilp, stC_sl, stC_nils, getC_gcO, gcO_cells, W_draw_eq, ↓W_scope, ev_clear, evT, evF, evX, evM, ↓exitQ_normal, ↓exitQ_ret, ↓exitQ_exit, saA_self, saO_self, if_pos, if_neg, wrapI, get_concat, set_concat, Int.toNat_natCast, Int.toNat_zero, List.nil_append, Nat.mul_one, decide_eq_true, decide_eq_false, Int.reduceLE, Int.reduceLT, Int.reduceNeg, Bool.false_or, Bool.true_or, Bool.or_false, Bool.or_true, wrapU, Int.reduceAdd, Int.reduceSub, Int.reduceMul, List.append_assoc, List.length_append, get_mid, get_mid0, set_mid, set_mid0, List.length_set, List.length_cons, List.length_nil, List.cons_append, List.getElem?_append_left, List.set_append_left, get_at, get_at0, set_at, set_at0, List.getElem?_set_self, List.getElem?_set_ne, cfC, a158, hby0]
          refine CW_of (fun _ => ?_) (fun _ => ?_)
          all_goals simp (disch := first | assumption | omega | (simp only [List.length_cons, List.length_nil, List.length_set, List.length_append] <;> omega) | (simp only [get_mid, get_mid0, List.cons_append, List.append_assoc, List.getElem?_cons_zero, List.getElem?_cons_succ])) only [ek, ↓evW, ↓evQ, evB, evS, evL, List.map, AV.cells, List.all, AV.one, Bool.and_true, Bool.true_and, if_true, ↓thenQ_normal, ↓thenQ_exit, ↓thenQ_ret, ↓blockQ_normal, ↓blockQ_ret, ↓blockQ_exit, ↓CW_true, ↓CW_false, CW_true, CW_false, condT, condF, RQ_some, tupA_one, tupA_two, tupA_nil, Nat.reduceSub, Nat.reduceAdd, Nat.reduceMul, Nat.zero_add, Nat.add_zero, Nat.reduceLeDiff, Nat.reduceEqDiff, eqV, eqAll, fillA, and_self, and_true, true_and, Nat.le_refl, Bool.not_true, Bool.not_false, Bool.false_xor, Bool.true_xor, cond_true, cond_false, List.replicate, if_false, reduceIte, resAll, resA, ne_eq, decide_not, decide_true, decide_false, Int.reduceEq, Bool.not_true, Bool.not_false, not_true_eq_false, not_false_eq_true, cond_bool, cond_int, beq_self_eq_true, Int.reduceBEq, Bool.and_self, Bool.and_false, Bool.false_and, Bool.xor_false, Bool.xor_true, loadN_ldC, ldC_none, ldC_somes, stC_aggs, splice, storeN_stC, stC_int, stC_bool, stC_ptr, stC_nilp, stC_sl, stC_nils, getC_gcO, gcO_cells, W_draw_eq, ↓W_scope, ev_clear, evT, evF, evX, evM, ↓exitQ_normal, ↓exitQ_ret, ↓exitQ_exit, saA_self, saO_self, if_pos, if_neg, wrapI, get_concat, set_concat, Int.toNat_natCast, Int.toNat_zero, List.nil_append, Nat.mul_one, decide_eq_true, decide_eq_false, Int.reduceLE, Int.reduceLT, Int.reduceNeg, Bool.false_or, Bool.true_or, Bool.or_false, Bool.or_true, wrapU, Int.reduceAdd, Int.reduceSub, Int.reduceMul, List.append_assoc, List.length_append, get_mid, get_mid0, set_mid, set_mid0, List.length_set, List.length_cons, List.length_nil, List.cons_append, List.getElem?_append_left, List.set_append_left, get_at, get_at0, set_at, set_at0, List.getElem?_set_self, List.getElem?_set_ne, cfC, hbox, a158, hby0, hby1, hby2, hout, stC_u, List.set_set, a161, hnx, a162, hst, a163, htk, a164, hsy, a165, hfl]
          all_goals simp only [uC_set]
          all_goals refine ⟨k - 1, by omega, p + 1, _, _, _, _, _, _, _, _, rfl, hF.all (by (repeat' refine OkL.set ?_ _ (by first | exact wrap64_b _ | (unfold W64; omega))); exact hF.okL) (by (repeat' refine OkF.setb ?_ ht (by decide) (by decide)); exact hF.full) _, fun _ => ⟨by omega, by omega⟩, fun h => absurd hr h⟩
      · refine W_loop (FI2 m0 c q0 bv p _ _ _ _) (IntKind.u32.wrap ((byteV bs (4 * (p : Int) + 1)).tmod (c.q + 1))).toNat (by have := wrap32_b ((byteV bs (4 * (p : Int) + 1)).tmod (c.q + 1)); simp only [FUEL]; omega) ⟨0, _, _, _, rfl, hF.all (hF.okL.set _ (wrap64_b _)) (hF.full.setw ht (word_sz (wrap32_b _).1 (wrap32_b _).2 (wrap32_b _).1 (mod_le (hbv _).1 (by omega) (by omega) rfl) (by omega))) _, by have := wrap32_b ((byteV bs (4 * (p : Int) + 1)).tmod (c.q + 1)); omega, by omega, (wrap32_b _).1⟩ ?_
        clear hF hout hul hby0 hby1 hl0 hlq fin hbox
        rintro k2 e m2 ⟨i, xs2, y11, y12, rfl, hF, hk, hi0, hi1⟩
        have hbox := hF.box
        have hout := hF.out
        have hul : (uC xs2).length = cellsN c := by rw [uC_len]; exact hF.len
        have hl0 : m0.length < m2.length := (List.getElem?_eq_some_iff.1 hbox).1
        have hlq : q0 < m2.length := (List.getElem?_eq_some_iff.1 hout).1
        simp only [cfC] at hbox
        have hn32 := wrap32_b ((byteV bs (4 * (p : Int) + 1)).tmod (c.q + 1))
        generalize IntKind.u32.wrap ((byteV bs (4 * (p : Int) + 1)).tmod (c.q + 1)) = n at hk hi1 hn32 ⊢
        have hlx : xs2.length = cellsN c := hF.len
        simp (disch := first | assumption | omega | (simp only [List.length_cons, List.length_nil, List.length_set, List.length_append] <;> omega) | (simp only [get_mid, get_mid0, List.cons_append, List.append_assoc, List.getElem?_cons_zero, List.getElem?_cons_succ])) only [ek, ↓evW, ↓evQ, evB, evS, evL, List.map, AV.cells, List.all, AV.one, Bool.and_true, Bool.true_and, if_true, ↓thenQ_normal, ↓thenQ_exit, ↓thenQ_ret, ↓blockQ_normal, ↓blockQ_ret, ↓blockQ_exit, ↓CW_true, ↓CW_false, CW_true, CW_false, condT, condF, RQ_some, tupA_one, tupA_two, tupA_nil, Nat.reduceSub, Nat.reduceAdd, Nat.reduceMul, Nat.zero_add, Nat.add_zero, Nat.reduceLeDiff, Nat.reduceEqDiff, eqV, eqAll, fillA, and_self, and_true, true_and, Nat.le_refl, Bool.not_true, Bool.not_false, Bool.false_xor, Bool.true_xor, cond_true, cond_false, List.replicate, if_false, reduceIte, resAll, resA, ne_eq, decide_not, decide_true, decide_false, Int.reduceEq, Bool.not_true, Bool.not_false, not_true_eq_false, not_false_eq_true, cond_bool, cond_int, beq_self_eq_true, Int.reduceBEq, Bool.and_self, Bool.and_false, Bool.false_and, Bool.xor_false, Bool.xor_true, loadN_ldC, ldC_none, ldC_somes, stC_aggs, splice, storeN_stC, stC_int, stC_bool, stC_ptr, stC_nilp, stC_sl, stC_nils, getC_gcO, gcO_cells, W_draw_eq, ↓W_scope, ev_clear, evT, evF, evX, evM, ↓exitQ_normal, ↓exitQ_ret, ↓exitQ_exit, saA_self, saO_self, if_pos, if_neg, wrapI, get_concat, set_concat, Int.toNat_natCast, Int.toNat_zero, List.nil_append, Nat.mul_one, decide_eq_true, decide_eq_false, Int.reduceLE, Int.reduceLT, Int.reduceNeg, Bool.false_or, Bool.true_or, Bool.or_false, Bool.or_true, wrapU, Int.reduceAdd, Int.reduceSub, Int.reduceMul, List.append_assoc, List.length_append, get_mid, get_mid0, set_mid, set_mid0, List.length_set, List.length_cons, List.length_nil, List.cons_append, List.getElem?_append_left, List.set_append_left, get_at, get_at0, set_at, set_at0, List.getElem?_set_self, List.getElem?_set_ne, cfC]
        refine CW_of (fun hlt => ?_) (fun hge => ?_)
        · simp only [decide_eq_true_eq] at hlt
          have hi1' : IntKind.u32.wrap (i + 1) = i + 1 := by rw [wrap32]; omega
          have hsA := slot_b ht (wrap32_b (IntKind.u32.wrap ((byteV bs (4 * (p : Int))).tmod 7) + i)).1
          simp (disch := first | assumption | omega | (simp only [List.length_cons, List.length_nil, List.length_set, List.length_append] <;> omega) | (simp only [get_mid, get_mid0, List.cons_append, List.append_assoc, List.getElem?_cons_zero, List.getElem?_cons_succ])) only [ek, ↓evW, ↓evQ, evB, evS, evL, List.map, AV.cells, List.all, AV.one, Bool.and_true, Bool.true_and, if_true, ↓thenQ_normal, ↓thenQ_exit, ↓thenQ_ret, ↓blockQ_normal, ↓blockQ_ret, ↓blockQ_exit, ↓CW_true, ↓CW_false, CW_true, CW_false, condT, condF, RQ_some, tupA_one, tupA_two, tupA_nil, Nat.reduceSub, Nat.reduceAdd, Nat.reduceMul, Nat.zero_add, Nat.add_zero, Nat.reduceLeDiff, Nat.reduceEqDiff, eqV, eqAll, fillA, and_self, and_true, true_and, Nat.le_refl, Bool.not_true, Bool.not_false, Bool.false_xor, Bool.true_xor, cond_true, cond_false, List.replicate, if_false, reduceIte, resAll, resA, ne_eq, decide_not, decide_true, decide_false, Int.reduceEq, Bool.not_true, Bool.not_false, not_true_eq_false, not_false_eq_true, cond_bool, cond_int, beq_self_eq_true, Int.reduceBEq, Bool.and_self, Bool.and_false, Bool.false_and, Bool.xor_false, Bool.xor_true, loadN_ldC, ldC_none, ldC_somes, stC_aggs, splice, storeN_stC, stC_int, stC_bool, stC_ptr, stC_nilp, stC_sl, stC_nils, getC_gcO, gcO_cells, W_draw_eq, ↓W_scope, ev_clear, evT, evF, evX, evM, ↓exitQ_normal, ↓exitQ_ret, ↓exitQ_exit, saA_self, saO_self, if_pos, if_neg, wrapI, get_concat, set_concat, Int.toNat_natCast, Int.toNat_zero, List.nil_append, Nat.mul_one, decide_eq_true, decide_eq_false, Int.reduceLE, Int.reduceLT, Int.reduceNeg, Bool.false_or, Bool.true_or, Bool.or_false, Bool.or_true, wrapU, Int.reduceAdd, Int.reduceSub, Int.reduceMul, List.append_assoc, List.length_append, get_mid, get_mid0, set_mid, set_mid0, List.length_set, List.length_cons, List.length_nil, List.cons_append, List.getElem?_append_left, List.set_append_left, get_at, get_at0, set_at, set_at0, List.getElem?_set_self, List.getElem?_set_ne, cfC, hbox, a160, hs, hout, hul, uC_set, hi1']
          exact ⟨k2 - 1, by omega, i + 1, _, _, _, rfl, hF.all (hF.okL.set _ (by unfold W64; omega)) (hF.full.sets ht) _, by omega, by omega, by omega⟩
        · simp only [decide_eq_false_iff_not] at hge
          have hby0 : ∀ i : Int, 0 ≤ i → c_docs_byteAt [bv, .int .i64 i] m2 = some (.int .i64 (byteV bs i), m2) := fun i hi => byte_eq (hB.keep hF.keep) hb hi
          have hby1 : ∀ (K : Mem X) (i : Int), 0 ≤ i → c_docs_byteAt [bv, .int .i64 i] (m2 ++ K) = some (.int .i64 (byteV bs i), m2 ++ K) := fun K i hi => byte_eq (hB.keep (hF.keep.trans (Keep.app _ _))) hb hi
          have hby2 : ∀ (A : Chunk X) (K : Mem X) (i : Int), 0 ≤ i → c_docs_byteAt [bv, .int .i64 i] (m2.set q0 A ++ K) = some (.int .i64 (byteV bs i), m2.set q0 A ++ K) := fun A K i hi => byte_eq (hB.keep ((hF.keep.set (by omega) A).trans (Keep.app _ _))) hb hi
          simp (disch := first | assumption | omega | (simp only [List.length_cons, List.length_nil, List.length_set, List.length_append] <;> omega) | (simp only [get_mid, get_mid0, List.cons_append, List.append_assoc, List.getElem?_cons_zero, List.getElem?_cons_succ])) only [ek, ↓evW, ↓evQ, evB, evS, evL, List.map, AV.cells, List.all, AV.one, Bool.and_true, Bool.true_and, if_true, ↓thenQ_normal, ↓thenQ_exit, ↓thenQ_ret, ↓blockQ_normal, ↓blockQ_ret, ↓blockQ_exit, ↓CW_true, ↓CW_false, CW_true, CW_false, condT, condF, RQ_some, tupA_one, tupA_two, tupA_nil, Nat.reduceSub, Nat.reduceAdd, Nat.reduceMul, Nat.zero_add, Nat.add_zero, Nat.reduceLeDiff, Nat.reduceEqDiff, eqV, eqAll, fillA, and_self, and_true, true_and, Nat.le_refl, Bool.not_true, Bool.not_false, Bool.false_xor, Bool.true_xor, cond_true, cond_false, List.replicate, if_false, reduceIte, resAll, resA, ne_eq, decide_not, decide_true, decide_false, Int.reduceEq, Bool.not_true, Bool.not_false, not_true_eq_false, not_false_eq_true, cond_bool, cond_int, beq_self_eq_true, Int.reduceBEq, Bool.and_self, Bool.and_false, Bool.false_and, Bool.xor_false, Bool.xor_true, loadN_ldC, ldC_none, ldC_somes, stC_aggs, splice, storeN_stC, stC_int, stC_bool, stC_ptr, stC_nilp, stC_sl, stC_nils, getC_gcO, gcO_cells, W_draw_eq, ↓W_scope, ev_clear, evT, evF, evX, evM, ↓exitQ_normal, ↓exitQ_ret, ↓exitQ_exit, saA_self, saO_self, if_pos, if_neg, wrapI, get_concat, set_concat, Int.toNat_natCast, Int.toNat_zero, List.nil_append, Nat.mul_one, decide_eq_true, decide_eq_false, Int.reduceLE, Int.reduceLT, Int.reduceNeg, Bool.false_or, Bool.true_or, Bool.or_false, Bool.or_true, wrapU, Int.reduceAdd, Int.reduceSub, Int.reduceMul, List.append_assoc, List.length_append, get_mid, get_mid0, set_mid, set_mid0, List.length_set, List.length_cons, List.length_nil, List.cons_append, List.getElem?_append_left, List.set_append_left, get_at, get_at0, set_at, set_at0, List.getElem?_set_self, List.getElem?_set_ne, cfC, a158, hby0]
          refine CW_of (fun _ => ?_) (fun _ => ?_)
          all_goals simp (disch := first | assumption | omega | (simp only [List.length_cons, List.length_nil, List.length_set, List.length_append] <;> omega) | (simp only [get_mid, get_mid0, List.cons_append, List.append_assoc, List.getElem?_cons_zero, List.getElem?_cons_succ])) only [ek, ↓evW, ↓evQ, evB, evS, evL, List.map, AV.cells, List.all, AV.one, Bool.and_true, Bool.true_and, if_true, ↓thenQ_normal, ↓thenQ_exit, ↓thenQ_ret, ↓blockQ_normal, ↓blockQ_ret, ↓blockQ_exit, ↓CW_true, ↓CW_false, CW_true, CW_false, condT, condF, RQ_some, tupA_one, tupA_two, tupA_nil, Nat.reduceSub, Nat.reduceAdd, Nat.reduceMul, Nat.zero_add, Nat.add_zero, Nat.reduceLeDiff, Nat.reduceEqDiff, eqV, eqAll, fillA, and_self, and_true, true_and, Nat.le_refl, Bool.not_true, Bool.not_false, Bool.false_xor, Bool.true_xor, cond_true, cond_false, List.replicate, if_false, reduceIte, resAll, resA, ne_eq, decide_not, decide_true, decide_false, Int.reduceEq, Bool.not_true, Bool.not_false, not_true_eq_false, not_false_eq_true, cond_bool, cond_int, beq_self_eq_true, Int.reduceBEq, Bool.and_self, Bool.and_false, Bool.false_and, Bool.xor_false, Bool.xor_true, loadN_ldC, ldC_none, ldC_somes, stC_aggs, splice, storeN_stC, stC_int, stC_bool, stC_ptr, stC_nilp, stC_sl, stC_nils, getC_gcO, gcO_cells, W_draw_eq, ↓W_scope, ev_clear, evT, evF, evX, evM, ↓exitQ_normal, ↓exitQ_ret, ↓exitQ_exit, saA_self, saO_self, if_pos, if_neg, wrapI, get_concat, set_concat, Int.toNat_natCast, Int.toNat_zero, List.nil_append, Nat.mul_one, decide_eq_true, decide_eq_false, Int.reduceLE, Int.reduceLT, Int.reduceNeg, Bool.false_or, Bool.true_or, Bool.or_false, Bool.or_true, wrapU, Int.reduceAdd, Int.reduceSub, Int.reduceMul, List.append_assoc, List.length_append, get_mid, get_mid0, set_mid, set_mid0, List.length_set, List.length_cons, List.length_nil, List.cons_append, List.getElem?_append_left, List.set_append_left, get_at, get_at0, set_at, set_at0, List.getElem?_set_self, List.getElem?_set_ne, cfC, hbox, a158, hby0, hby1, hby2, hout, stC_u, List.set_set, a161, hnx, a162, hst, a163, htk, a164, hsy, a165, hfl]
          all_goals simp only [uC_set]
          all_goals refine ⟨k - 1, by omega, p + 1, _, _, _, _, _, _, _, _, rfl, hF.all (by (repeat' refine OkL.set ?_ _ (by first | exact wrap64_b _ | (unfold W64; omega))); exact hF.okL) (by (repeat' refine OkF.setb ?_ ht (by decide) (by decide)); exact hF.full) _, fun _ => ⟨by omega, by omega⟩, fun h => absurd hr h⟩
    · simp (disch := first | assumption | omega | (simp only [List.length_cons, List.length_nil, List.length_set, List.length_append] <;> omega) | (simp only [get_mid, get_mid0, List.cons_append, List.append_assoc, List.getElem?_cons_zero, List.getElem?_cons_succ])) only [ek, ↓evW, ↓evQ, evB, evS, evL, List.map, AV.cells, List.all, AV.one, Bool.and_true, Bool.true_and, if_true, ↓thenQ_normal, ↓thenQ_exit, ↓thenQ_ret, ↓blockQ_normal, ↓blockQ_ret, ↓blockQ_exit, ↓CW_true, ↓CW_false, CW_true, CW_false, condT, condF, RQ_some, tupA_one, tupA_two, tupA_nil, Nat.reduceSub, Nat.reduceAdd, Nat.reduceMul, Nat.zero_add, Nat.add_zero, Nat.reduceLeDiff, Nat.reduceEqDiff, eqV, eqAll, fillA, and_self, and_true, true_and, Nat.le_refl, Bool.not_true, Bool.not_false, Bool.false_xor, Bool.true_xor, cond_true, cond_false, List.replicate, if_false, reduceIte, resAll, resA, ne_eq, decide_not, decide_true, decide_false, Int.reduceEq, Bool.not_true, Bool.not_false, not_true_eq_false, not_false_eq_true, cond_bool, cond_int, beq_self_eq_true, Int.reduceBEq, Bool.and_self, Bool.and_false, Bool.false_and, Bool.xor_false, Bool.xor_true, loadN_ldC, ldC_none, ldC_somes, stC_aggs, splice, storeN_stC, stC_int, stC_bool, stC_ptr, stC_nilp, stC_sl, stC_nils, getC_gcO, gcO_cells, W_draw_eq, ↓W_scope, ev_clear, evT, evF, evX, evM, ↓exitQ_normal, ↓exitQ_ret, ↓exitQ_exit, saA_self, saO_self, if_pos, if_neg, wrapI, get_concat, set_concat, Int.toNat_natCast, Int.toNat_zero, List.nil_append, Nat.mul_one, decide_eq_true, decide_eq_false, Int.reduceLE, Int.reduceLT, Int.reduceNeg, Bool.false_or, Bool.true_or, Bool.or_false, Bool.or_true, wrapU, Int.reduceAdd, Int.reduceSub, Int.reduceMul, List.append_assoc, List.length_append, get_mid, get_mid0, set_mid, set_mid0, List.length_set, List.length_cons, List.length_nil, List.cons_append, List.getElem?_append_left, List.set_append_left, get_at, get_at0, set_at, set_at0, List.getElem?_set_self, List.getElem?_set_ne, cfC, hbox]
      have := fin []
      rwa [List.append_nil] at this
  · simp only [decide_eq_false hr] at hRT
    by_cases hp : (p : Int) < c.n
    · simp (disch := first | assumption | omega | (simp only [List.length_cons, List.length_nil, List.length_set, List.length_append] <;> omega) | (simp only [get_mid, get_mid0, List.cons_append, List.append_assoc, List.getElem?_cons_zero, List.getElem?_cons_succ])) only [ek, ↓evW, ↓evQ, evB, evS, evL, List.map, AV.cells, List.all, AV.one, Bool.and_true, Bool.true_and, if_true, ↓thenQ_normal, ↓thenQ_exit, ↓thenQ_ret, ↓blockQ_normal, ↓blockQ_ret, ↓blockQ_exit, ↓CW_true, ↓CW_false, CW_true, CW_false, condT, condF, RQ_some, tupA_one, tupA_two, tupA_nil, Nat.reduceSub, Nat.reduceAdd, Nat.reduceMul, Nat.zero_add, Nat.add_zero, Nat.reduceLeDiff, Nat.reduceEqDiff, eqV, eqAll, fillA, and_self, and_true, true_and, Nat.le_refl, Bool.not_true, Bool.not_false, Bool.false_xor, Bool.true_xor, cond_true, cond_false, List.replicate, if_false, reduceIte, resAll, resA, ne_eq, decide_not, decide_true, decide_false, Int.reduceEq, Bool.not_true, Bool.not_false, not_true_eq_false, not_false_eq_true, cond_bool, cond_int, beq_self_eq_true, Int.reduceBEq, Bool.and_self, Bool.and_false, Bool.false_and, Bool.xor_false, Bool.xor_true, loadN_ldC, ldC_none, ldC_somes, stC_aggs, splice, storeN_stC, stC_int, stC_bool, stC_ptr, stC_nilp, stC_sl, stC_nils, getC_gcO, gcO_cells, W_draw_eq, ↓W_scope, ev_clear, evT, evF, evX, evM, ↓exitQ_normal, ↓exitQ_ret, ↓exitQ_exit, saA_self, saO_self, if_pos, if_neg, wrapI, get_concat, set_concat, Int.toNat_natCast, Int.toNat_zero, List.nil_append, Nat.mul_one, decide_eq_true, decide_eq_false, Int.reduceLE, Int.reduceLT, Int.reduceNeg, Bool.false_or, Bool.true_or, Bool.or_false, Bool.or_true, wrapU, Int.reduceAdd, Int.reduceSub, Int.reduceMul, List.append_assoc, List.length_append, get_mid, get_mid0, set_mid, set_mid0, List.length_set, List.length_cons, List.length_nil, List.cons_append, List.getElem?_append_left, List.set_append_left, get_at, get_at0, set_at, set_at0, List.getElem?_set_self, List.getElem?_set_ne, cfC, hbox, a157, hRT]
      exact fin _
    · simp (disch := first | assumption | omega | (simp only [List.length_cons, List.length_nil, List.length_set, List.length_append] <;> omega) | (simp only [get_mid, get_mid0, List.cons_append, List.append_assoc, List.getElem?_cons_zero, List.getElem?_cons_succ])) only [ek, ↓evW, ↓evQ, evB, evS, evL, List.map, AV.cells, List.all, AV.one, Bool.and_true, Bool.true_and, if_true, ↓thenQ_normal, ↓thenQ_exit, ↓thenQ_ret, ↓blockQ_normal, ↓blockQ_ret, ↓blockQ_exit, ↓CW_true, ↓CW_false, CW_true, CW_false, condT, condF, RQ_some, tupA_one, tupA_two, tupA_nil, Nat.reduceSub, Nat.reduceAdd, Nat.reduceMul, Nat.zero_add, Nat.add_zero, Nat.reduceLeDiff, Nat.reduceEqDiff, eqV, eqAll, fillA, and_self, and_true, true_and, Nat.le_refl, Bool.not_true, Bool.not_false, Bool.false_xor, Bool.true_xor, cond_true, cond_false, List.replicate, if_false, reduceIte, resAll, resA, ne_eq, decide_not, decide_true, decide_false, Int.reduceEq, Bool.not_true, Bool.not_false, not_true_eq_false, not_false_eq_true, cond_bool, cond_int, beq_self_eq_true, Int.reduceBEq, Bool.and_self, Bool.and_false, Bool.false_and, Bool.xor_false, Bool.xor_true, loadN_ldC, ldC_none, ldC_somes, stC_aggs, splice, storeN_stC, stC_int, stC_bool, stC_ptr, stC_nilp, stC_sl, stC_nils, getC_gcO, gcO_cells, W_draw_eq, ↓W_scope, ev_clear, evT, evF, evX, evM, ↓exitQ_normal, ↓exitQ_ret, ↓exitQ_exit, saA_self, saO_self, if_pos, if_neg, wrapI, get_concat, set_concat, Int.toNat_natCast, Int.toNat_zero, List.nil_append, Nat.mul_one, decide_eq_true, decide_eq_false, Int.reduceLE, Int.reduceLT, Int.reduceNeg, Bool.false_or, Bool.true_or, Bool.or_false, Bool.or_true, wrapU, Int.reduceAdd, Int.reduceSub, Int.reduceMul, List.append_assoc, List.length_append, get_mid, get_mid0, set_mid, set_mid0, List.length_set, List.length_cons, List.length_nil, List.cons_append, List.getElem?_append_left, List.set_append_left, get_at, get_at0, set_at, set_at0, List.getElem?_set_self, List.getElem?_set_ne, cfC, hbox]
      have := fin []
      rwa [List.append_nil] at this
theorem filled_run {m0 : Mem X} {c : Cf} {bs : List Int} {bv : AV} (hB : SB m0 bs bv) (hb : ∀ x, x ∈ bs → 0 ≤ x ∧ x < 256) :
    Fn Gfill docs_Filled [.agg (cfC c), bv] m0 (fun r m' => ∃ xs, Keep m0 m' ∧ SU m' true xs r ∧ xs.length = cellsN c ∧ ∀ x, x ∈ xs → W64 x) := by
  obtain ⟨r, m', h1, xs, h2, h3, h4, h5, _⟩ := filled_runF (c := c) hB hb
  exact ⟨r, m', h1, xs, h2, h3, h4, h5⟩
end Go.Am.F10
end
section
namespace Go.Am.F10
open Go.Am.F06
structure RelM (xs : List Int) (o : Int) (s : MemSt) : Prop where
  cells : s.cells = xs
  ops : s.ops = o
  log : s.log.length ≤ 256
theorem RelM.new (n : Int) : RelM (List.replicate (bN n) 0) 0 (newSt n) := ⟨rfl, rfl, by simp [newSt]⟩
theorem getD_set {xs : List Int} {a : Nat} (h : a < xs.length) : xs.set a (xs.getD a 0) = xs := by
  apply List.ext_getElem?
  intro j
  by_cases hj : a = j
  · subst hj
    rw [List.getElem?_set_self h, List.getD_eq_getElem?_getD, List.getElem?_eq_getElem h]; rfl
  · rw [List.getElem?_set_ne hj]
theorem RelM.acc {xs : List Int} {o : Int} {s : MemSt} (h : RelM xs o s) {a : Nat} (ha : a < xs.length) (k : Int) (g : Int → Int × Bool) :
    ∃ s', accS k g s a = some (xs.getD a 0, (g (xs.getD a 0)).2, s') ∧ RelM (xs.set a (g (xs.getD a 0)).1) (IntKind.u64.wrap (o + 1)) s' := by
  obtain ⟨rfl, rfl, hl⟩ := h
  refine ⟨noted { s with cells := s.cells.set a (g (s.cells.getD a 0)).1 } ⟨k, a, s.cells.getD a 0, (g (s.cells.getD a 0)).1⟩ (g (s.cells.getD a 0)).2, ?_, rfl, rfl, ?_⟩
  · unfold accS
    rw [if_pos hl, if_pos (by omega), Int.toNat_natCast]
  · show (logMore _ _).2.length ≤ 256
    unfold logMore
    split
    · rename_i h2; simp only [List.length_append, List.length_cons, List.length_nil]; simp only at h2; omega
    · simp only [List.length_append, List.length_drop, List.length_cons, List.length_nil]; omega
theorem RelM.load {M : MM} {j : Nat} {xs : List Int} {o : Int} {s : MemSt} (h : RelM xs o s) (hM : M[j]? = some (.abs (.mem s))) {a : Nat} (ha : a < xs.length) :
    ∃ s', memF loadS [.ptr j 0, .int .i64 a] M = some (.int .u64 (xs.getD a 0), M.set j (.abs (.mem s'))) ∧ RelM xs (IntKind.u64.wrap (o + 1)) s' := by
  obtain ⟨s', h1, h2⟩ := h.acc ha 1 (fun w => (w, true))
  rw [getD_set ha] at h2
  exact ⟨s', by simp only [memF, hM, loadS, h1, Option.map_some], h2⟩
theorem RelM.store {M : MM} {j : Nat} {xs : List Int} {o : Int} {s : MemSt} (h : RelM xs o s) (hM : M[j]? = some (.abs (.mem s))) {a : Nat} (ha : a < xs.length) (x : Int) :
    ∃ s', memF storeS [.ptr j 0, .int .i64 a, .int .u64 x] M = some (.tup [], M.set j (.abs (.mem s'))) ∧ RelM (xs.set a x) (IntKind.u64.wrap (o + 1)) s' := by
  obtain ⟨s', h1, h2⟩ := h.acc ha 2 (fun w => (x, true))
  exact ⟨s', by simp only [memF, hM, storeS, h1, Option.map_some], h2⟩
def KeepX {X : Type} (j k : Nat) (m m' : Mem X) : Prop := m.length ≤ m'.length ∧ ∀ i, i < m.length → i ≠ j → i ≠ k → m'[i]? = m[i]?
section
variable {X : Type} {j k : Nat}
theorem KeepX.refl (m : Mem X) : KeepX j k m m := ⟨Nat.le_refl _, fun _ _ _ _ => rfl⟩
theorem KeepX.trans {m m' m'' : Mem X} (h : KeepX j k m m') (i : KeepX j k m' m'') : KeepX j k m m'' :=
  ⟨Nat.le_trans h.1 i.1, fun a ha h1 h2 => (i.2 a (Nat.lt_of_lt_of_le ha h.1) h1 h2).trans (h.2 a ha h1 h2)⟩
theorem KeepX.of {m m' : Mem X} (h : Keep m m') : KeepX j k m m' := ⟨h.1, fun i hi _ _ => h.2 i hi⟩
theorem KeepX.setL {m m' : Mem X} (h : KeepX j k m m') (c : Chunk X) : KeepX j k m (m'.set j c) := ⟨by simpa using h.1, fun i hi h1 h2 => by rw [List.getElem?_set_ne (fun h => h1 h.symm)]; exact h.2 i hi h1 h2⟩
theorem KeepX.setR {m m' : Mem X} (h : KeepX j k m m') (c : Chunk X) : KeepX j k m (m'.set k c) := ⟨by simpa using h.1, fun i hi h1 h2 => by rw [List.getElem?_set_ne (fun h => h2 h.symm)]; exact h.2 i hi h1 h2⟩
theorem KeepX.set {m m' : Mem X} (h : KeepX j k m m') {q : Nat} (hq : m.length ≤ q) (c : Chunk X) : KeepX j k m (m'.set q c) := ⟨by simpa using h.1, fun i hi h1 h2 => by rw [List.getElem?_set_ne (by omega)]; exact h.2 i hi h1 h2⟩
theorem KeepX.app {m m' : Mem X} (h : KeepX j k m m') (K : Mem X) : KeepX j k m (m' ++ K) := h.trans (.of (Keep.app _ _))
theorem KeepX.get {m m' : Mem X} (h : KeepX j k m m') {i : Nat} {c : Chunk X} (hi : m[i]? = some c) (h1 : i ≠ j) (h2 : i ≠ k) : m'[i]? = some c := (h.2 i (List.getElem?_eq_some_iff.1 hi).1 h1 h2).trans hi
theorem KeepX.sl {m m' : Mem X} (h : KeepX j k m m') {szj szk : Nat} {wr : Bool} {sz n : Nat} {l : List AV} {v : AV} (hj : ∀ ro L, m[j]? ≠ some (.cells sz ro L)) (hk : ∀ ro L, m[k]? ≠ some (.cells sz ro L)) (hs : Sl m wr sz n l v) : Sl m' wr sz n l v := by
  refine ⟨hs.1, ?_⟩
  rcases hs.2 with h1 | ⟨q, o, cap, h1, h2⟩
  · exact .inl h1
  · refine .inr ⟨q, o, cap, h1, fun h0 => ?_⟩
    obtain ⟨ro, L, h3, h4⟩ := h2 h0
    refine ⟨ro, L, h.get h3 (fun hq => ?_) (fun hq => ?_), h4⟩
    · rw [hq] at h3; exact hj _ _ h3
    · rw [hq] at h3; exact hk _ _ h3
end
theorem take_more {xs : List Int} {i : Nat} {x : Int} (h : xs[i]? = some x) (n : Nat) (hn : n = xs.length) : (xs.take i ++ List.replicate (n - i) 0).set i x = xs.take (i + 1) ++ List.replicate (n - (i + 1)) 0 := by
  subst hn
  have hi : i < xs.length := (List.getElem?_eq_some_iff.1 h).1
  have hl : (xs.take i).length = i := by rw [List.length_take]; omega
  rw [List.set_append_right _ _ (by omega), hl, Nat.sub_self, List.take_add_one, h]
  obtain ⟨k, hk⟩ : ∃ k, xs.length - i = k + 1 := ⟨xs.length - i - 1, by omega⟩
  rw [hk, List.replicate_succ, List.set_cons_zero, show xs.length - (i + 1) = k by omega]
  simp
def Gmem : List (Nat × AFun Ob) := [(21, newF), (63, c_ref06_New), (22, memF storeS), (65, c_ref06_Store)]
def MmI (m0 m1 : MM) (xs : List Int) (cv : AV) (k : Nat) (e : List AV) (m : MM) : Prop := ∃ (i : Nat) (s : MemSt) (v y6 : AV),
  e = [cv, .nilp, .ptr m0.length 0, .ptr (m0.length + 1) 0, .ptr m1.length 0, .int .i64 i, y6] ∧ k = xs.length - i ∧ i ≤ xs.length ∧ Keep m0 m ∧ m[m0.length]? = some (.cells 2 false [.nils, .int .u64 0]) ∧ m[m0.length + 1]? = some (.abs (.mem s)) ∧ m[m1.length]? = some (.cells 2 false (memC v i)) ∧
  RelM (xs.take i ++ List.replicate (xs.length - i) 0) i s ∧ SU m false (xs.take i ++ List.replicate (xs.length - i) 0) v
set_option maxHeartbeats 4000000 in
theorem mem_run {m0 : MM} {wr : Bool} {xs : List Int} {cv : AV} (hc : SU m0 wr xs cv) (hn : xs.length ≤ 65536) :
    Fn Gmem docs_Mem [cv] m0 (fun r m' => ∃ s v, r = .tup [.ptr (m0.length + 1) 0, .agg (memC v xs.length)] ∧ Keep m0 m' ∧ m'[m0.length + 1]? = some (.abs (.mem s)) ∧ RelM xs xs.length s ∧ SU m' false xs v) := by
  have a21 : assoc Gmem 21 = some newF := rfl
  have a63 : assoc Gmem 63 = some c_ref06_New := rfl
  have a22 : assoc Gmem 22 = some (memF storeS) := rfl
  have a65 : assoc Gmem 65 = some c_ref06_Store := rfl
  generalize Gmem = G at a21 a63 a22 a65 ⊢
  have hlen := hc.len
  have hbN : bN (xs.length : Int) = xs.length := by unfold bN; omega
  have hnew : ∀ M : MM, newF [.int .i64 xs.length] M = some (.ptr M.length 0, M ++ [.abs (.mem (newSt xs.length))]) := fun M => rfl
  refine Fn_of rfl ?_
  simp (disch := first | assumption | omega | (simp only [List.length_cons, List.length_nil, List.length_set, List.length_append] <;> omega) | (simp only [get_mid, get_mid0, List.cons_append, List.append_assoc, List.getElem?_cons_zero, List.getElem?_cons_succ])) only [docs_Mem, ek, ↓evW, ↓evQ, evB, evS, evL, List.map, AV.cells, List.all, AV.one, Bool.and_true, Bool.true_and, if_true, ↓thenQ_normal, ↓thenQ_exit, ↓thenQ_ret, ↓blockQ_normal, ↓blockQ_ret, ↓blockQ_exit, ↓CW_true, ↓CW_false, CW_true, CW_false, condT, condF, RQ_some, tupA_one, tupA_two, tupA_nil, Nat.reduceSub, Nat.reduceAdd, Nat.reduceMul, Nat.zero_add, Nat.add_zero, Nat.reduceLeDiff, Nat.reduceEqDiff, eqV, eqAll, fillA, and_self, and_true, true_and, Nat.le_refl, Bool.not_true, Bool.not_false, Bool.false_xor, Bool.true_xor, cond_true, cond_false, List.replicate, if_false, reduceIte, resAll, resA, ne_eq, decide_not, decide_true, decide_false, Int.reduceEq, Bool.not_true, Bool.not_false, not_true_eq_false, not_false_eq_true, cond_bool, cond_int, beq_self_eq_true, Int.reduceBEq, Bool.and_self, Bool.and_false, Bool.false_and, Bool.xor_false, Bool.xor_true, loadN_ldC, ldC_none, ldC_somes, stC_aggs, splice, storeN_stC, stC_int, stC_bool, stC_ptr, stC_nilp, stC_sl, stC_nils, getC_gcO, gcO_cells, W_draw_eq, ↓W_scope, ev_clear, evT, evF, evX, evM, ↓exitQ_normal, ↓exitQ_ret, ↓exitQ_exit, saA_self, saO_self, if_pos, if_neg, wrapI, get_concat, set_concat, Int.toNat_natCast, Int.toNat_zero, List.nil_append, Nat.mul_one, decide_eq_true, decide_eq_false, Int.reduceLE, Int.reduceLT, Int.reduceNeg, Bool.false_or, Bool.true_or, Bool.or_false, Bool.or_true, wrapU, Int.reduceAdd, Int.reduceSub, Int.reduceMul, List.append_assoc, List.length_append, get_mid, get_mid0, set_mid, set_mid0, List.length_set, List.length_cons, List.length_nil, List.cons_append, List.getElem?_append_left, List.set_append_left, get_at, get_at0, set_at, set_at0, List.getElem?_set_self, List.getElem?_set_ne, ev_len, hlen, a21, hnew, a63, c_ref06_New]
  refine OK_fn (refnew_run _) ?_
  rintro _ m1 ⟨v0, rfl, k1, s1⟩
  have hone := slOne s1
  simp only [AV.one] at hone
  rw [hbN, cellsOf_nil] at s1
  have hr := RelM.new (xs.length : Int)
  rw [hbN] at hr
  simp (disch := first | assumption | omega | (simp only [List.length_cons, List.length_nil, List.length_set, List.length_append] <;> omega) | (simp only [get_mid, get_mid0, List.cons_append, List.append_assoc, List.getElem?_cons_zero, List.getElem?_cons_succ])) only [ek, ↓evW, ↓evQ, evB, evS, evL, List.map, AV.cells, List.all, AV.one, Bool.and_true, Bool.true_and, if_true, ↓thenQ_normal, ↓thenQ_exit, ↓thenQ_ret, ↓blockQ_normal, ↓blockQ_ret, ↓blockQ_exit, ↓CW_true, ↓CW_false, CW_true, CW_false, condT, condF, RQ_some, tupA_one, tupA_two, tupA_nil, Nat.reduceSub, Nat.reduceAdd, Nat.reduceMul, Nat.zero_add, Nat.add_zero, Nat.reduceLeDiff, Nat.reduceEqDiff, eqV, eqAll, fillA, and_self, and_true, true_and, Nat.le_refl, Bool.not_true, Bool.not_false, Bool.false_xor, Bool.true_xor, cond_true, cond_false, List.replicate, if_false, reduceIte, resAll, resA, ne_eq, decide_not, decide_true, decide_false, Int.reduceEq, Bool.not_true, Bool.not_false, not_true_eq_false, not_false_eq_true, cond_bool, cond_int, beq_self_eq_true, Int.reduceBEq, Bool.and_self, Bool.and_false, Bool.false_and, Bool.xor_false, Bool.xor_true, loadN_ldC, ldC_none, ldC_somes, stC_aggs, splice, storeN_stC, stC_int, stC_bool, stC_ptr, stC_nilp, stC_sl, stC_nils, getC_gcO, gcO_cells, W_draw_eq, ↓W_scope, ev_clear, evT, evF, evX, evM, ↓exitQ_normal, ↓exitQ_ret, ↓exitQ_exit, saA_self, saO_self, if_pos, if_neg, wrapI, get_concat, set_concat, Int.toNat_natCast, Int.toNat_zero, List.nil_append, Nat.mul_one, decide_eq_true, decide_eq_false, Int.reduceLE, Int.reduceLT, Int.reduceNeg, Bool.false_or, Bool.true_or, Bool.or_false, Bool.or_true, wrapU, Int.reduceAdd, Int.reduceSub, Int.reduceMul, List.append_assoc, List.length_append, get_mid, get_mid0, set_mid, set_mid0, List.length_set, List.length_cons, List.length_nil, List.cons_append, List.getElem?_append_left, List.set_append_left, get_at, get_at0, set_at, set_at0, List.getElem?_set_self, List.getElem?_set_ne, memC, hone]
  have g0 : m1[m0.length]? = some (Chunk.cells 2 false [.nils, .int .u64 0]) := k1.get (by rw [get_mid0]; rfl)
  have g1 : m1[m0.length + 1]? = some (.abs (.mem (newSt xs.length))) := k1.get (by rw [get_mid]; rfl)
  have l1 : m0.length + 1 < m1.length := (List.getElem?_eq_some_iff.1 g1).1
  have kk : Keep m0 m1 := (Keep.app m0 _).trans k1
  refine W_loop (MmI m0 m1 xs cv) xs.length (by simp only [FUEL]; omega) ⟨0, newSt xs.length, v0, _, rfl, rfl, by omega, kk.trans (Keep.app _ _), (Keep.app m1 _).get g0, (Keep.app m1 _).get g1, by rw [get_concat]; rfl, hr, (s1.keep (Keep.app _ _)).ro⟩ ?_
  rintro k e m ⟨i, s, v, y6, rfl, rfl, hi, hk, b0, b1, b2, hr, sv⟩
  have hl2 : m1.length < m.length := (List.getElem?_eq_some_iff.1 b2).1
  have hone := slOne sv
  simp only [AV.one] at hone
  have hlen2 := sv.len
  have hll : (xs.take i ++ List.replicate (xs.length - i) 0).length = xs.length := by simp only [List.length_append, List.length_take, List.length_replicate]; omega
  rw [hll] at hlen2
  simp only [memC] at b2
  simp (disch := first | assumption | omega | (simp only [List.length_cons, List.length_nil, List.length_set, List.length_append] <;> omega) | (simp only [get_mid, get_mid0, List.cons_append, List.append_assoc, List.getElem?_cons_zero, List.getElem?_cons_succ])) only [ek, ↓evW, ↓evQ, evB, evS, evL, List.map, AV.cells, List.all, AV.one, Bool.and_true, Bool.true_and, if_true, ↓thenQ_normal, ↓thenQ_exit, ↓thenQ_ret, ↓blockQ_normal, ↓blockQ_ret, ↓blockQ_exit, ↓CW_true, ↓CW_false, CW_true, CW_false, condT, condF, RQ_some, tupA_one, tupA_two, tupA_nil, Nat.reduceSub, Nat.reduceAdd, Nat.reduceMul, Nat.zero_add, Nat.add_zero, Nat.reduceLeDiff, Nat.reduceEqDiff, eqV, eqAll, fillA, and_self, and_true, true_and, Nat.le_refl, Bool.not_true, Bool.not_false, Bool.false_xor, Bool.true_xor, cond_true, cond_false, List.replicate, if_false, reduceIte, resAll, resA, ne_eq, decide_not, decide_true, decide_false, Int.reduceEq, Bool.not_true, Bool.not_false, not_true_eq_false, not_false_eq_true, cond_bool, cond_int, beq_self_eq_true, Int.reduceBEq, Bool.and_self, Bool.and_false, Bool.false_and, Bool.xor_false, Bool.xor_true, loadN_ldC, ldC_none, ldC_somes, stC_aggs, splice, storeN_stC, stC_int, stC_bool, stC_ptr, stC_nilp, stC_sl, stC_nils, getC_gcO, gcO_cells, W_draw_eq, ↓W_scope, ev_clear, evT, evF, evX, evM, ↓exitQ_normal, ↓exitQ_ret, ↓exitQ_exit, saA_self, saO_self, if_pos, if_neg, wrapI, get_concat, set_concat, Int.toNat_natCast, Int.toNat_zero, List.nil_append, Nat.mul_one, decide_eq_true, decide_eq_false, Int.reduceLE, Int.reduceLT, Int.reduceNeg, Bool.false_or, Bool.true_or, Bool.or_false, Bool.or_true, wrapU, Int.reduceAdd, Int.reduceSub, Int.reduceMul, List.append_assoc, List.length_append, get_mid, get_mid0, set_mid, set_mid0, List.length_set, List.length_cons, List.length_nil, List.cons_append, List.getElem?_append_left, List.set_append_left, get_at, get_at0, set_at, set_at0, List.getElem?_set_self, List.getElem?_set_ne, ev_len, hlen]
  by_cases hi2 : i < xs.length
  · obtain ⟨x, hx⟩ : ∃ x, xs[i]? = some x := ⟨_, List.getElem?_eq_getElem (by omega)⟩
    obtain ⟨q, oo, cap, ro, L, rfl, c2, c3, c4, c5, c6⟩ := SU.get (hc.keep hk) hx
    have hqm : q < m.length := (List.getElem?_eq_some_iff.1 c2).1
    obtain ⟨s', f22, r'⟩ := hr.store b1 (a := i) (by omega) x
    have hmore := take_more hx _ rfl
    rw [hmore] at r'
    rw [wrapU (by omega) (by omega)] at r'
    have e1 : q ≠ m0.length + 1 := fun h => by rw [h, b1] at c2; cases c2
    have hq1 : (m.set (m0.length + 1) (.abs (.mem s')))[q]? = some (.cells 1 ro L) := by rw [List.getElem?_set_ne (fun h => e1 h.symm)]; exact c2
    have hsv : SU (m.set (m0.length + 1) (.abs (.mem s'))) false (xs.take i ++ List.replicate (xs.length - i) 0) v := (KeepB.at m _).sl b1 sv
    have hst := refstore_run hsv (by omega) i i x
    have ht : thr (xs.take i ++ List.replicate (xs.length - i) 0) i := ⟨by omega, by omega⟩
    rw [if_pos ht, if_pos ht, Int.toNat_natCast, hmore, wrapU (by omega) (by omega)] at hst
    simp (disch := first | assumption | omega | (simp only [List.length_cons, List.length_nil, List.length_set, List.length_append] <;> omega) | (simp only [get_mid, get_mid0, List.cons_append, List.append_assoc, List.getElem?_cons_zero, List.getElem?_cons_succ])) only [ek, ↓evW, ↓evQ, evB, evS, evL, List.map, AV.cells, List.all, AV.one, Bool.and_true, Bool.true_and, if_true, ↓thenQ_normal, ↓thenQ_exit, ↓thenQ_ret, ↓blockQ_normal, ↓blockQ_ret, ↓blockQ_exit, ↓CW_true, ↓CW_false, CW_true, CW_false, condT, condF, RQ_some, tupA_one, tupA_two, tupA_nil, Nat.reduceSub, Nat.reduceAdd, Nat.reduceMul, Nat.zero_add, Nat.add_zero, Nat.reduceLeDiff, Nat.reduceEqDiff, eqV, eqAll, fillA, and_self, and_true, true_and, Nat.le_refl, Bool.not_true, Bool.not_false, Bool.false_xor, Bool.true_xor, cond_true, cond_false, List.replicate, if_false, reduceIte, resAll, resA, ne_eq, decide_not, decide_true, decide_false, Int.reduceEq, Bool.not_true, Bool.not_false, not_true_eq_false, not_false_eq_true, cond_bool, cond_int, beq_self_eq_true, Int.reduceBEq, Bool.and_self, Bool.and_false, Bool.false_and, Bool.xor_false, Bool.xor_true, loadN_ldC, ldC_none, ldC_somes, stC_aggs, splice, storeN_stC, stC_int, stC_bool, stC_ptr, stC_nilp, stC_sl, stC_nils, getC_gcO, gcO_cells, W_draw_eq, ↓W_scope, ev_clear, evT, evF, evX, evM, ↓exitQ_normal, ↓exitQ_ret, ↓exitQ_exit, saA_self, saO_self, if_pos, if_neg, wrapI, get_concat, set_concat, Int.toNat_natCast, Int.toNat_zero, List.nil_append, Nat.mul_one, decide_eq_true, decide_eq_false, Int.reduceLE, Int.reduceLT, Int.reduceNeg, Bool.false_or, Bool.true_or, Bool.or_false, Bool.or_true, wrapU, Int.reduceAdd, Int.reduceSub, Int.reduceMul, List.append_assoc, List.length_append, get_mid, get_mid0, set_mid, set_mid0, List.length_set, List.length_cons, List.length_nil, List.cons_append, List.getElem?_append_left, List.set_append_left, get_at, get_at0, set_at, set_at0, List.getElem?_set_self, List.getElem?_set_ne, ev_len, hlen, hlen2, b2, c2, c6, a22, f22, hq1, a65, c_ref06_Store]
    refine OK_fn hst ?_
    rintro _ m2 ⟨k2, v', rfl, s2⟩
    have hone' := slOne s2
    simp only [AV.one] at hone'
    have d0 : m2[m0.length]? = some (Chunk.cells 2 false [.nils, .int .u64 0]) := k2.get (by rw [List.getElem?_set_ne (by omega)]; exact b0)
    have d1 : m2[m0.length + 1]? = some (.abs (.mem s')) := k2.get (List.getElem?_set_self (by omega))
    have d2 : m2[m1.length]? = some (Chunk.cells 2 false [v, .int .u64 i]) := k2.get (by rw [List.getElem?_set_ne (by omega)]; exact b2)
    have hl3 : m1.length < m2.length := (List.getElem?_eq_some_iff.1 d2).1
    simp (disch := first | assumption | omega | (simp only [List.length_cons, List.length_nil, List.length_set, List.length_append] <;> omega) | (simp only [get_mid, get_mid0, List.cons_append, List.append_assoc, List.getElem?_cons_zero, List.getElem?_cons_succ])) only [ek, ↓evW, ↓evQ, evB, evS, evL, List.map, AV.cells, List.all, AV.one, Bool.and_true, Bool.true_and, if_true, ↓thenQ_normal, ↓thenQ_exit, ↓thenQ_ret, ↓blockQ_normal, ↓blockQ_ret, ↓blockQ_exit, ↓CW_true, ↓CW_false, CW_true, CW_false, condT, condF, RQ_some, tupA_one, tupA_two, tupA_nil, Nat.reduceSub, Nat.reduceAdd, Nat.reduceMul, Nat.zero_add, Nat.add_zero, Nat.reduceLeDiff, Nat.reduceEqDiff, eqV, eqAll, fillA, and_self, and_true, true_and, Nat.le_refl, Bool.not_true, Bool.not_false, Bool.false_xor, Bool.true_xor, cond_true, cond_false, List.replicate, if_false, reduceIte, resAll, resA, ne_eq, decide_not, decide_true, decide_false, Int.reduceEq, Bool.not_true, Bool.not_false, not_true_eq_false, not_false_eq_true, cond_bool, cond_int, beq_self_eq_true, Int.reduceBEq, Bool.and_self, Bool.and_false, Bool.false_and, Bool.xor_false, Bool.xor_true, loadN_ldC, ldC_none, ldC_somes, stC_aggs, splice, storeN_stC, stC_int, stC_bool, stC_ptr, stC_nilp, stC_sl, stC_nils, getC_gcO, gcO_cells, W_draw_eq, ↓W_scope, ev_clear, evT, evF, evX, evM, ↓exitQ_normal, ↓exitQ_ret, ↓exitQ_exit, saA_self, saO_self, if_pos, if_neg, wrapI, get_concat, set_concat, Int.toNat_natCast, Int.toNat_zero, List.nil_append, Nat.mul_one, decide_eq_true, decide_eq_false, Int.reduceLE, Int.reduceLT, Int.reduceNeg, Bool.false_or, Bool.true_or, Bool.or_false, Bool.or_true, wrapU, Int.reduceAdd, Int.reduceSub, Int.reduceMul, List.append_assoc, List.length_append, get_mid, get_mid0, set_mid, set_mid0, List.length_set, List.length_cons, List.length_nil, List.cons_append, List.getElem?_append_left, List.set_append_left, get_at, get_at0, set_at, set_at0, List.getElem?_set_self, List.getElem?_set_ne, memC, d2, hone']
    refine ⟨_, by omega, i + 1, s', v', _, rfl, rfl, by omega, ((hk.set (by omega) _).trans k2).set (by omega) _, ?_, ?_, List.getElem?_set_self hl3, r', (KeepB.at _ _).off (su_box s2 d2) s2⟩
    · rw [List.getElem?_set_ne (by omega)]; exact d0
    · rw [List.getElem?_set_ne (by omega)]; exact d1
  · have hie : i = xs.length := by omega
    subst hie
    have hz : xs.take xs.length ++ List.replicate (xs.length - xs.length) 0 = xs := by rw [List.take_length, Nat.sub_self]; simp
    rw [hz] at hr sv
    simp (disch := first | assumption | omega | (simp only [List.length_cons, List.length_nil, List.length_set, List.length_append] <;> omega) | (simp only [get_mid, get_mid0, List.cons_append, List.append_assoc, List.getElem?_cons_zero, List.getElem?_cons_succ])) only [ek, ↓evW, ↓evQ, evB, evS, evL, List.map, AV.cells, List.all, AV.one, Bool.and_true, Bool.true_and, if_true, ↓thenQ_normal, ↓thenQ_exit, ↓thenQ_ret, ↓blockQ_normal, ↓blockQ_ret, ↓blockQ_exit, ↓CW_true, ↓CW_false, CW_true, CW_false, condT, condF, RQ_some, tupA_one, tupA_two, tupA_nil, Nat.reduceSub, Nat.reduceAdd, Nat.reduceMul, Nat.zero_add, Nat.add_zero, Nat.reduceLeDiff, Nat.reduceEqDiff, eqV, eqAll, fillA, and_self, and_true, true_and, Nat.le_refl, Bool.not_true, Bool.not_false, Bool.false_xor, Bool.true_xor, cond_true, cond_false, List.replicate, if_false, reduceIte, resAll, resA, ne_eq, decide_not, decide_true, decide_false, Int.reduceEq, Bool.not_true, Bool.not_false, not_true_eq_false, not_false_eq_true, cond_bool, cond_int, beq_self_eq_true, Int.reduceBEq, Bool.and_self, Bool.and_false, Bool.false_and, Bool.xor_false, Bool.xor_true, loadN_ldC, ldC_none, ldC_somes, stC_aggs, splice, storeN_stC, stC_int, stC_bool, stC_ptr, stC_nilp, stC_sl, stC_nils, getC_gcO, gcO_cells, W_draw_eq, ↓W_scope, ev_clear, evT, evF, evX, evM, ↓exitQ_normal, ↓exitQ_ret, ↓exitQ_exit, saA_self, saO_self, if_pos, if_neg, wrapI, get_concat, set_concat, Int.toNat_natCast, Int.toNat_zero, List.nil_append, Nat.mul_one, decide_eq_true, decide_eq_false, Int.reduceLE, Int.reduceLT, Int.reduceNeg, Bool.false_or, Bool.true_or, Bool.or_false, Bool.or_true, wrapU, Int.reduceAdd, Int.reduceSub, Int.reduceMul, List.append_assoc, List.length_append, get_mid, get_mid0, set_mid, set_mid0, List.length_set, List.length_cons, List.length_nil, List.cons_append, List.getElem?_append_left, List.set_append_left, get_at, get_at0, set_at, set_at0, List.getElem?_set_self, List.getElem?_set_ne, ev_len, hlen, b0, b2, hone]
    exact ⟨s, v, rfl, hk.set (by omega) _, b1, hr, (KeepB.at _ _).off (su_box sv b0) sv⟩
end Go.Am.F10
end
section
namespace Go.Am.F10
open Go.Am.F06 (memC slOne)
variable {X : Type}
def Rq (q : Int) (k : Nat) : Prop := (q = 2 ∧ k = 6) ∨ (q = 4 ∧ k = 5) ∨ (q = 8 ∧ k = 4) ∨ (q = 16 ∧ k = 3) ∨ (q = 32 ∧ k = 2) ∨ (q = 64 ∧ k = 1) ∨ (q = 128 ∧ k = 0)
theorem Rq.next {q : Int} {k : Nat} (h : Rq q k) : q = 128 ∨ (2 ≤ q ∧ q ≤ 64 ∧ k - 1 < k ∧ Rq (q * 2) (k - 1)) := by unfold Rq at h ⊢; omega
def RrI (m0 : Mem X) (c : Cf) (k : Nat) (e : List AV) (m : Mem X) : Prop := ∃ (q : Int) (y5 : AV), e = [.agg (cfC c), .ptr m0.length 0, .bool false, .bool (decide (roomP c.q ∧ c.q < q)), .int .i64 q, y5] ∧ m = m0 ++ [.cells 6 false (cfC c)] ∧ Rq q k
theorem room_next {c q : Int} {k : Nat} (h : Rq q k) (h7 : ¬ q = 128) : (roomP c ∧ c < q * 2) ↔ ((roomP c ∧ c < q) ∨ c = q) := by
  unfold roomP; unfold Rq at h; omega
set_option maxHeartbeats 8000000 in
theorem rright_run {G : List (Nat × AFun X)} {m0 : Mem X} (c : Cf) : Fn G ref05_Right [.agg (cfC c)] m0 (fun r m' => r = .bool (decide (rightP c)) ∧ m' = m0 ++ [.cells 6 false (cfC c)]) := by
  refine Fn_of rfl ?_
  simp (disch := first | assumption | omega | (simp only [List.length_cons, List.length_nil, List.length_set, List.length_append] <;> omega) | (simp only [get_mid, get_mid0, List.cons_append, List.append_assoc, List.getElem?_cons_zero, List.getElem?_cons_succ])) only [ref05_Right, ek, ↓evW, ↓evQ, evB, evS, evL, List.map, AV.cells, List.all, AV.one, Bool.and_true, Bool.true_and, if_true, ↓thenQ_normal, ↓thenQ_exit, ↓thenQ_ret, ↓blockQ_normal, ↓blockQ_ret, ↓blockQ_exit, ↓CW_true, ↓CW_false, CW_true, CW_false, condT, condF, RQ_some, tupA_one, tupA_two, tupA_nil, Nat.reduceSub, Nat.reduceAdd, Nat.reduceMul, Nat.zero_add, Nat.add_zero, Nat.reduceLeDiff, Nat.reduceEqDiff, eqV, eqAll, fillA, and_self, and_true, true_and, Nat.le_refl, Bool.not_true, Bool.not_false, Bool.false_xor, Bool.true_xor, cond_true, cond_false, List.replicate, if_false, reduceIte, resAll, resA, ne_eq, decide_not, decide_true, decide_false, Int.reduceEq, Bool.not_true, Bool.not_false, not_true_eq_false, not_false_eq_true, cond_bool, cond_int, beq_self_eq_true, Int.reduceBEq, Bool.and_self, Bool.and_false, Bool.false_and, Bool.xor_false, Bool.xor_true, loadN_ldC, ldC_none, ldC_somes, stC_aggs, splice, storeN_stC, stC_int, stC_bool, stC_ptr, stC_nilp, stC_sl, stC_nils, getC_gcO, gcO_cells, W_draw_eq, ↓W_scope, ev_clear, evT, evF, evX, evM, ↓exitQ_normal, ↓exitQ_ret, ↓exitQ_exit, saA_self, saO_self, if_pos, if_neg, wrapI, get_concat, set_concat, Int.toNat_natCast, Int.toNat_zero, List.nil_append, Nat.mul_one, decide_eq_true, decide_eq_false, Int.reduceLE, Int.reduceLT, Int.reduceNeg, Bool.false_or, Bool.true_or, Bool.or_false, Bool.or_true, wrapU, Int.reduceAdd, Int.reduceSub, Int.reduceMul, List.append_assoc, List.length_append, get_mid, get_mid0, set_mid, set_mid0, List.length_set, List.length_cons, List.length_nil, List.cons_append, List.getElem?_append_left, List.set_append_left, get_at, get_at0, set_at, set_at0, List.getElem?_set_self, List.getElem?_set_ne, cfC]
  have h0 : (roomP c.q ∧ c.q < 2) = False := by unfold roomP; simp; omega
  refine W_loop (RrI m0 c) 6 (by simp only [FUEL]; omega) ⟨2, _, by simp only [h0, decide_false]; rfl, rfl, by unfold Rq; omega⟩ ?_
  rintro k e m ⟨q, y5, rfl, rfl, hq⟩
  have hbox : (m0 ++ [Chunk.cells 6 false (cfC c)])[m0.length]? = some (.cells 6 false (cfC c)) := get_concat
  generalize hM : m0 ++ [Chunk.cells 6 false (cfC c)] = M at hbox ⊢
  simp only [cfC] at hbox hM
  by_cases h7 : q = 128
  · subst h7
    have hroom : decide (roomP c.q ∧ c.q < 128) = decide (roomP c.q) := by
      have : (roomP c.q ∧ c.q < 128) ↔ roomP c.q := by unfold roomP; omega
      simp only [this]
    by_cases hr : roomP c.q
    · simp only [decide_eq_true hr] at hroom
      clear hq
      have hrp : decide ((1 ≤ c.n ∧ c.n ≤ 8) ∧ (1 ≤ c.g ∧ c.g ≤ 256) ∧ (c.n + 1 ≤ c.m ∧ c.m ≤ 16) ∧ (2 ≤ c.t ∧ c.t ≤ 200) ∧ (0 ≤ c.s ∧ c.s ≤ 1000)) = decide (rightP c) := decide_eq_decide.2 ⟨fun h => ⟨h.1, hr, h.2⟩, fun h => ⟨h.1, h.2.2⟩⟩
      clear hr
      simp (disch := first | assumption | omega | (simp only [List.length_cons, List.length_nil, List.length_set, List.length_append] <;> omega) | (simp only [get_mid, get_mid0, List.cons_append, List.append_assoc, List.getElem?_cons_zero, List.getElem?_cons_succ])) only [ek, ↓evW, ↓evQ, evB, evS, evL, List.map, AV.cells, List.all, AV.one, Bool.and_true, Bool.true_and, if_true, ↓thenQ_normal, ↓thenQ_exit, ↓thenQ_ret, ↓blockQ_normal, ↓blockQ_ret, ↓blockQ_exit, ↓CW_true, ↓CW_false, CW_true, CW_false, condT, condF, RQ_some, tupA_one, tupA_two, tupA_nil, Nat.reduceSub, Nat.reduceAdd, Nat.reduceMul, Nat.zero_add, Nat.add_zero, Nat.reduceLeDiff, Nat.reduceEqDiff, eqV, eqAll, fillA, and_self, and_true, true_and, Nat.le_refl, Bool.not_true, Bool.not_false, Bool.false_xor, Bool.true_xor, cond_true, cond_false, List.replicate, if_false, reduceIte, resAll, resA, ne_eq, decide_not, decide_true, decide_false, Int.reduceEq, Bool.not_true, Bool.not_false, not_true_eq_false, not_false_eq_true, cond_bool, cond_int, beq_self_eq_true, Int.reduceBEq, Bool.and_self, Bool.and_false, Bool.false_and, Bool.xor_false, Bool.xor_true, loadN_ldC, ldC_none, ldC_somes, stC_aggs, splice, storeN_stC, stC_int, stC_bool, stC_ptr, stC_nilp, stC_sl, stC_nils, getC_gcO, gcO_cells, W_draw_eq, ↓W_scope, ev_clear, evT, evF, evX, evM, ↓exitQ_normal, ↓exitQ_ret, ↓exitQ_exit, saA_self, saO_self, if_pos, if_neg, wrapI, get_concat, set_concat, Int.toNat_natCast, Int.toNat_zero, List.nil_append, Nat.mul_one, decide_eq_true, decide_eq_false, Int.reduceLE, Int.reduceLT, Int.reduceNeg, Bool.false_or, Bool.true_or, Bool.or_false, Bool.or_true, wrapU, Int.reduceAdd, Int.reduceSub, Int.reduceMul, List.append_assoc, List.length_append, get_mid, get_mid0, set_mid, set_mid0, List.length_set, List.length_cons, List.length_nil, List.cons_append, List.getElem?_append_left, List.set_append_left, get_at, get_at0, set_at, set_at0, List.getElem?_set_self, List.getElem?_set_ne, hroom, hbox]
      repeat' ((first | refine GK_of (fun h => ?_) (fun h => ?_) | refine CW_of (fun h => ?_) (fun h => ?_) | refine GKT_of (fun h => ?_) (fun h => ?_)) <;> (try simp only [Bool.not_eq_true', Bool.not_eq_false', decide_eq_true_eq, decide_eq_false_iff_not, Bool.and_eq_true, Bool.or_eq_true, Bool.and_eq_false_iff, Bool.or_eq_false_iff, Decidable.not_not] at h) <;> (try simp (disch := first | assumption | omega | (simp only [List.length_cons, List.length_nil, List.length_set, List.length_append] <;> omega) | (simp only [get_mid, get_mid0, List.cons_append, List.append_assoc, List.getElem?_cons_zero, List.getElem?_cons_succ])) only [ek, ↓evW, ↓evQ, evB, evS, evL, List.map, AV.cells, List.all, AV.one, Bool.and_true, Bool.true_and, if_true, ↓thenQ_normal, ↓thenQ_exit, ↓thenQ_ret, ↓blockQ_normal, ↓blockQ_ret, ↓blockQ_exit, ↓CW_true, ↓CW_false, CW_true, CW_false, condT, condF, RQ_some, tupA_one, tupA_two, tupA_nil, Nat.reduceSub, Nat.reduceAdd, Nat.reduceMul, Nat.zero_add, Nat.add_zero, Nat.reduceLeDiff, Nat.reduceEqDiff, eqV, eqAll, fillA, and_self, and_true, true_and, Nat.le_refl, Bool.not_true, Bool.not_false, Bool.false_xor, Bool.true_xor, cond_true, cond_false, List.replicate, if_false, reduceIte, resAll, resA, ne_eq, decide_not, decide_true, decide_false, Int.reduceEq, Bool.not_true, Bool.not_false, not_true_eq_false, not_false_eq_true, cond_bool, cond_int, beq_self_eq_true, Int.reduceBEq, Bool.and_self, Bool.and_false, Bool.false_and, Bool.xor_false, Bool.xor_true, loadN_ldC, ldC_none, ldC_somes, stC_aggs, splice, storeN_stC, stC_int, stC_bool, stC_ptr, stC_nilp, stC_sl, stC_nils, getC_gcO, gcO_cells, W_draw_eq, ↓W_scope, ev_clear, evT, evF, evX, evM, ↓exitQ_normal, ↓exitQ_ret, ↓exitQ_exit, saA_self, saO_self, if_pos, if_neg, wrapI, get_concat, set_concat, Int.toNat_natCast, Int.toNat_zero, List.nil_append, Nat.mul_one, decide_eq_true, decide_eq_false, Int.reduceLE, Int.reduceLT, Int.reduceNeg, Bool.false_or, Bool.true_or, Bool.or_false, Bool.or_true, wrapU, Int.reduceAdd, Int.reduceSub, Int.reduceMul, List.append_assoc, List.length_append, get_mid, get_mid0, set_mid, set_mid0, List.length_set, List.length_cons, List.length_nil, List.cons_append, List.getElem?_append_left, List.set_append_left, get_at, get_at0, set_at, set_at0, List.getElem?_set_self, List.getElem?_set_ne, hbox, h]))
      all_goals refine ⟨congrArg _ ?_, hM.symm⟩
      all_goals rw [← hrp]
      all_goals first | (rw [decide_eq_true (by omega)]; done) | (rw [decide_eq_false (by omega)]; done) | (rw [decide_eq_decide]; omega)
    · simp only [decide_eq_false hr] at hroom
      simp (disch := first | assumption | omega | (simp only [List.length_cons, List.length_nil, List.length_set, List.length_append] <;> omega) | (simp only [get_mid, get_mid0, List.cons_append, List.append_assoc, List.getElem?_cons_zero, List.getElem?_cons_succ])) only [ek, ↓evW, ↓evQ, evB, evS, evL, List.map, AV.cells, List.all, AV.one, Bool.and_true, Bool.true_and, if_true, ↓thenQ_normal, ↓thenQ_exit, ↓thenQ_ret, ↓blockQ_normal, ↓blockQ_ret, ↓blockQ_exit, ↓CW_true, ↓CW_false, CW_true, CW_false, condT, condF, RQ_some, tupA_one, tupA_two, tupA_nil, Nat.reduceSub, Nat.reduceAdd, Nat.reduceMul, Nat.zero_add, Nat.add_zero, Nat.reduceLeDiff, Nat.reduceEqDiff, eqV, eqAll, fillA, and_self, and_true, true_and, Nat.le_refl, Bool.not_true, Bool.not_false, Bool.false_xor, Bool.true_xor, cond_true, cond_false, List.replicate, if_false, reduceIte, resAll, resA, ne_eq, decide_not, decide_true, decide_false, Int.reduceEq, Bool.not_true, Bool.not_false, not_true_eq_false, not_false_eq_true, cond_bool, cond_int, beq_self_eq_true, Int.reduceBEq, Bool.and_self, Bool.and_false, Bool.false_and, Bool.xor_false, Bool.xor_true, loadN_ldC, ldC_none, ldC_somes, stC_aggs, splice, storeN_stC, stC_int, stC_bool, stC_ptr, stC_nilp, stC_sl, stC_nils, getC_gcO, gcO_cells, W_draw_eq, ↓W_scope, ev_clear, evT, evF, evX, evM, ↓exitQ_normal, ↓exitQ_ret, ↓exitQ_exit, saA_self, saO_self, if_pos, if_neg, wrapI, get_concat, set_concat, Int.toNat_natCast, Int.toNat_zero, List.nil_append, Nat.mul_one, decide_eq_true, decide_eq_false, Int.reduceLE, Int.reduceLT, Int.reduceNeg, Bool.false_or, Bool.true_or, Bool.or_false, Bool.or_true, wrapU, Int.reduceAdd, Int.reduceSub, Int.reduceMul, List.append_assoc, List.length_append, get_mid, get_mid0, set_mid, set_mid0, List.length_set, List.length_cons, List.length_nil, List.cons_append, List.getElem?_append_left, List.set_append_left, get_at, get_at0, set_at, set_at0, List.getElem?_set_self, List.getElem?_set_ne, hroom, hbox]
      refine ⟨?_, hM.symm⟩
      rw [decide_eq_false (fun h => hr h.2.1)]
  · have hn := room_next (c := c.q) hq h7
    obtain ⟨hge, hle, hk1, hq'⟩ := hq.next.resolve_left h7
    have hb3 : ∀ b : Bool, (b = true ↔ ((roomP c.q ∧ c.q < q) ∨ c.q = q)) → decide (roomP c.q ∧ c.q < q * 2) = b := fun b h => by rw [Bool.eq_iff_iff, decide_eq_true_eq, hn, h]
    clear hn hq
    by_cases hb : roomP c.q ∧ c.q < q
    · have hb2 : decide (roomP c.q ∧ c.q < q) = true := decide_eq_true hb
      have hb4 := hb3 true ⟨fun _ => .inl hb, fun _ => rfl⟩
      clear hb hb3
      simp (disch := first | assumption | omega | (simp only [List.length_cons, List.length_nil, List.length_set, List.length_append] <;> omega) | (simp only [get_mid, get_mid0, List.cons_append, List.append_assoc, List.getElem?_cons_zero, List.getElem?_cons_succ])) only [ek, ↓evW, ↓evQ, evB, evS, evL, List.map, AV.cells, List.all, AV.one, Bool.and_true, Bool.true_and, if_true, ↓thenQ_normal, ↓thenQ_exit, ↓thenQ_ret, ↓blockQ_normal, ↓blockQ_ret, ↓blockQ_exit, ↓CW_true, ↓CW_false, CW_true, CW_false, condT, condF, RQ_some, tupA_one, tupA_two, tupA_nil, Nat.reduceSub, Nat.reduceAdd, Nat.reduceMul, Nat.zero_add, Nat.add_zero, Nat.reduceLeDiff, Nat.reduceEqDiff, eqV, eqAll, fillA, and_self, and_true, true_and, Nat.le_refl, Bool.not_true, Bool.not_false, Bool.false_xor, Bool.true_xor, cond_true, cond_false, List.replicate, if_false, reduceIte, resAll, resA, ne_eq, decide_not, decide_true, decide_false, Int.reduceEq, Bool.not_true, Bool.not_false, not_true_eq_false, not_false_eq_true, cond_bool, cond_int, beq_self_eq_true, Int.reduceBEq, Bool.and_self, Bool.and_false, Bool.false_and, Bool.xor_false, Bool.xor_true, loadN_ldC, ldC_none, ldC_somes, stC_aggs, splice, storeN_stC, stC_int, stC_bool, stC_ptr, stC_nilp, stC_sl, stC_nils, getC_gcO, gcO_cells, W_draw_eq, ↓W_scope, ev_clear, evT, evF, evX, evM, ↓exitQ_normal, ↓exitQ_ret, ↓exitQ_exit, saA_self, saO_self, if_pos, if_neg, wrapI, get_concat, set_concat, Int.toNat_natCast, Int.toNat_zero, List.nil_append, Nat.mul_one, decide_eq_true, decide_eq_false, Int.reduceLE, Int.reduceLT, Int.reduceNeg, Bool.false_or, Bool.true_or, Bool.or_false, Bool.or_true, wrapU, Int.reduceAdd, Int.reduceSub, Int.reduceMul, List.append_assoc, List.length_append, get_mid, get_mid0, set_mid, set_mid0, List.length_set, List.length_cons, List.length_nil, List.cons_append, List.getElem?_append_left, List.set_append_left, get_at, get_at0, set_at, set_at0, List.getElem?_set_self, List.getElem?_set_ne, hb2, hbox]
      exact ⟨k - 1, hk1, q * 2, _, by rw [hb4], hM.symm, hq'⟩
    · have hb2 : decide (roomP c.q ∧ c.q < q) = false := decide_eq_false hb
      by_cases hcq : c.q = q
      · have hb4 := hb3 true ⟨fun _ => .inr hcq, fun _ => rfl⟩
        clear hb hb3
        simp (disch := first | assumption | omega | (simp only [List.length_cons, List.length_nil, List.length_set, List.length_append] <;> omega) | (simp only [get_mid, get_mid0, List.cons_append, List.append_assoc, List.getElem?_cons_zero, List.getElem?_cons_succ])) only [ek, ↓evW, ↓evQ, evB, evS, evL, List.map, AV.cells, List.all, AV.one, Bool.and_true, Bool.true_and, if_true, ↓thenQ_normal, ↓thenQ_exit, ↓thenQ_ret, ↓blockQ_normal, ↓blockQ_ret, ↓blockQ_exit, ↓CW_true, ↓CW_false, CW_true, CW_false, condT, condF, RQ_some, tupA_one, tupA_two, tupA_nil, Nat.reduceSub, Nat.reduceAdd, Nat.reduceMul, Nat.zero_add, Nat.add_zero, Nat.reduceLeDiff, Nat.reduceEqDiff, eqV, eqAll, fillA, and_self, and_true, true_and, Nat.le_refl, Bool.not_true, Bool.not_false, Bool.false_xor, Bool.true_xor, cond_true, cond_false, List.replicate, if_false, reduceIte, resAll, resA, ne_eq, decide_not, decide_true, decide_false, Int.reduceEq, Bool.not_true, Bool.not_false, not_true_eq_false, not_false_eq_true, cond_bool, cond_int, beq_self_eq_true, Int.reduceBEq, Bool.and_self, Bool.and_false, Bool.false_and, Bool.xor_false, Bool.xor_true, loadN_ldC, ldC_none, ldC_somes, stC_aggs, splice, storeN_stC, stC_int, stC_bool, stC_ptr, stC_nilp, stC_sl, stC_nils, getC_gcO, gcO_cells, W_draw_eq, ↓W_scope, ev_clear, evT, evF, evX, evM, ↓exitQ_normal, ↓exitQ_ret, ↓exitQ_exit, saA_self, saO_self, if_pos, if_neg, wrapI, get_concat, set_concat, Int.toNat_natCast, Int.toNat_zero, List.nil_append, Nat.mul_one, decide_eq_true, decide_eq_false, Int.reduceLE, Int.reduceLT, Int.reduceNeg, Bool.false_or, Bool.true_or, Bool.or_false, Bool.or_true, wrapU, Int.reduceAdd, Int.reduceSub, Int.reduceMul, List.append_assoc, List.length_append, get_mid, get_mid0, set_mid, set_mid0, List.length_set, List.length_cons, List.length_nil, List.cons_append, List.getElem?_append_left, List.set_append_left, get_at, get_at0, set_at, set_at0, List.getElem?_set_self, List.getElem?_set_ne, hb2, hbox, hcq]
        exact ⟨k - 1, hk1, q * 2, _, by rw [hb4, ← hcq], hM.symm, hq'⟩
      · have hb4 := hb3 false (iff_of_false (by simp) (fun h => h.elim hb hcq))
        clear hb hb3
        simp (disch := first | assumption | omega | (simp only [List.length_cons, List.length_nil, List.length_set, List.length_append] <;> omega) | (simp only [get_mid, get_mid0, List.cons_append, List.append_assoc, List.getElem?_cons_zero, List.getElem?_cons_succ])) only [ek, ↓evW, ↓evQ, evB, evS, evL, List.map, AV.cells, List.all, AV.one, Bool.and_true, Bool.true_and, if_true, ↓thenQ_normal, ↓thenQ_exit, ↓thenQ_ret, ↓blockQ_normal, ↓blockQ_ret, ↓blockQ_exit, ↓CW_true, ↓CW_false, CW_true, CW_false, condT, condF, RQ_some, tupA_one, tupA_two, tupA_nil, Nat.reduceSub, Nat.reduceAdd, Nat.reduceMul, Nat.zero_add, Nat.add_zero, Nat.reduceLeDiff, Nat.reduceEqDiff, eqV, eqAll, fillA, and_self, and_true, true_and, Nat.le_refl, Bool.not_true, Bool.not_false, Bool.false_xor, Bool.true_xor, cond_true, cond_false, List.replicate, if_false, reduceIte, resAll, resA, ne_eq, decide_not, decide_true, decide_false, Int.reduceEq, Bool.not_true, Bool.not_false, not_true_eq_false, not_false_eq_true, cond_bool, cond_int, beq_self_eq_true, Int.reduceBEq, Bool.and_self, Bool.and_false, Bool.false_and, Bool.xor_false, Bool.xor_true, loadN_ldC, ldC_none, ldC_somes, stC_aggs, splice, storeN_stC, stC_int, stC_bool, stC_ptr, stC_nilp, stC_sl, stC_nils, getC_gcO, gcO_cells, W_draw_eq, ↓W_scope, ev_clear, evT, evF, evX, evM, ↓exitQ_normal, ↓exitQ_ret, ↓exitQ_exit, saA_self, saO_self, if_pos, if_neg, wrapI, get_concat, set_concat, Int.toNat_natCast, Int.toNat_zero, List.nil_append, Nat.mul_one, decide_eq_true, decide_eq_false, Int.reduceLE, Int.reduceLT, Int.reduceNeg, Bool.false_or, Bool.true_or, Bool.or_false, Bool.or_true, wrapU, Int.reduceAdd, Int.reduceSub, Int.reduceMul, List.append_assoc, List.length_append, get_mid, get_mid0, set_mid, set_mid0, List.length_set, List.length_cons, List.length_nil, List.cons_append, List.getElem?_append_left, List.set_append_left, get_at, get_at0, set_at, set_at0, List.getElem?_set_self, List.getElem?_set_ne, hb2, hbox, hcq]
        exact ⟨k - 1, hk1, q * 2, _, by rw [hb4], hM.symm, hq'⟩
end Go.Am.F10
end
