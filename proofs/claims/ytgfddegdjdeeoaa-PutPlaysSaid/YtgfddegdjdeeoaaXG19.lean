import Derived.Test.YtgfddegdjdeeoaaXG18
set_option linter.unusedSimpArgs false
set_option linter.unusedVariables false
section
namespace Go.Am.F09
variable {X : Type}
def worksG : List AV → Option AV
  | [] => some (.bool true)
  | _ => none
theorem works_run : ((c_law09_works (X := X)) [] []).map (·.1) = some (.bool true) := by kernel_rfl
theorem works_lift : Lift (c_law09_works (X := X)) (pureF worksG) := lift_pure (by
  intro args r h
  unfold worksG at h; split at h
  · injection h with h; subst h
    have := works_run (X := X)
    cases h1 : c_law09_works (X := X) [] [] with
    | none => rw [h1] at this; cases this
    | some x =>
      rw [h1] at this
      simp only [Option.map_some, Option.some.injEq] at this
      exact ⟨rfl, rfl, x.2, by rw [← this]⟩
  · cases h)
end Go.Am.F09
end
section
namespace Go.Am.F09
variable {X : Type}
theorem get_at {α : Type} {l k : List α} {n i : Nat} (h : l.length = n) : (l ++ k)[n + i]? = k[i]? := by rw [← h]; exact get_mid
theorem get_at0 {α : Type} {l k : List α} {n : Nat} (h : l.length = n) : (l ++ k)[n]? = k[0]? := by rw [← h]; exact get_mid0
theorem set_at {α : Type} {l k : List α} {n i : Nat} {y : α} (h : l.length = n) : (l ++ k).set (n + i) y = l ++ k.set i y := by rw [← h]; exact set_mid
theorem set_at0 {α : Type} {l k : List α} {n : Nat} {y : α} (h : l.length = n) : (l ++ k).set n y = l ++ k.set 0 y := by rw [← h]; exact set_mid0
theorem pick_run {G : List (Nat × AFun X)} {m : Mem X} (i n : Int) (hn : 0 < n) (hn2 : n ≤ 100000) : Fn G kit_Pick [.int .i64 i, .int .i64 n] m (fun r m' => r = .int .i64 (i % n) ∧ m' = m) := by
  refine Fn_of rfl ?_
  have h1 := Int.emod_nonneg i (b := n) (by omega)
  have h2 := Int.emod_lt_of_pos i hn
  have ht : (IntKind.i64.wrap (i.tmod n + n)).tmod n = i % n := by
    have h3 : -n < i.tmod n ∧ i.tmod n < n := by
      refine ⟨?_, Int.tmod_lt_of_pos i hn⟩
      have := Int.tmod_lt_of_pos (-i) hn
      rw [Int.neg_tmod] at this
      omega
    rw [wrapI (by omega) (by omega), Int.tmod_eq_emod_of_nonneg (by omega)]
    have hd : i.tmod n + n = i + n * (1 - i.tdiv n) := by
      have := Int.mul_tdiv_add_tmod i n
      rw [Int.mul_sub, Int.mul_one]; omega
    rw [hd, Int.add_mul_emod_self_left]
  simp (disch := first | assumption | omega | (simp only [List.length_cons, List.length_nil, List.length_set, List.length_append] <;> omega) | (simp only [get_mid, get_mid0, List.cons_append, List.append_assoc, List.getElem?_cons_zero, List.getElem?_cons_succ])) only [kit_Pick, ek, ↓evW, ↓evQ, evB, evS, evL, List.map, AV.cells, List.all, AV.one, Bool.and_true, Bool.true_and, if_true, ↓thenQ_normal, ↓thenQ_exit, ↓thenQ_ret, ↓blockQ_normal, ↓blockQ_ret, ↓blockQ_exit, ↓CW_true, ↓CW_false, CW_true, CW_false, condT, condF, RQ_some, tupA_one, tupA_two, tupA_nil, Nat.reduceSub, Nat.reduceAdd, Nat.reduceMul, Nat.zero_add, Nat.add_zero, Nat.reduceLeDiff, Nat.reduceEqDiff, eqV, eqAll, fillA, and_self, and_true, true_and, Nat.le_refl, Bool.not_true, Bool.not_false, Bool.false_xor, Bool.true_xor, cond_true, cond_false, List.replicate, if_false, reduceIte, resAll, resA, ne_eq, decide_not, decide_true, decide_false, Int.reduceEq, Bool.not_true, Bool.not_false, not_true_eq_false, not_false_eq_true, cond_bool, cond_int, beq_self_eq_true, Int.reduceBEq, Bool.and_self, Bool.and_false, Bool.false_and, Bool.xor_false, Bool.xor_true, loadN_ldC, ldC_none, ldC_somes, stC_aggs, splice, storeN_stC, stC_int, stC_bool, stC_ptr, stC_nilp, stC_sl, stC_nils, getC_gcO, gcO_cells, W_draw_eq, ↓W_scope, ev_clear, evT, evF, evX, evM, ↓exitQ_normal, ↓exitQ_ret, ↓exitQ_exit, saA_self, saO_self, if_pos, if_neg, wrapI, get_concat, set_concat, Int.toNat_natCast, Int.toNat_zero, List.nil_append, Nat.mul_one, decide_eq_true, decide_eq_false, Int.reduceLE, Int.reduceLT, Int.reduceNeg, Bool.false_or, Bool.true_or, Bool.or_false, Bool.or_true, wrapU, Int.reduceAdd, Int.reduceSub, Int.reduceMul, List.append_assoc, List.length_append, get_mid, get_mid0, set_mid, set_mid0, List.length_set, List.length_cons, List.length_nil, List.cons_append, List.getElem?_append_left, List.set_append_left, get_at, get_at0, set_at, set_at0, List.getElem?_set_self, List.getElem?_set_ne, ht]
theorem pick_eq (m : Mem X) (i n : Int) (hn : 0 < n) (hn2 : n ≤ 100000) : c_kit_Pick [.int .i64 i, .int .i64 n] m = some (.int .i64 (i % n), m) := Fn_eq (pick_run i n hn hn2)
end Go.Am.F09
end
section
namespace Go.Am.F09
open Go.Am.F06 Go.Am.F10
section
variable {X : Type}
def growW (w n : Int) : Int := pk (hd w) ((tl w + n) % 4294967296)
def dropW (w n : Int) : Int := pk (hd w) ((tl w - n) % 4294967296)
theorem grow_64 {w : Int} (h : W64 w) (n : Int) : W64 (growW w n) := by
  have := hd_b h
  unfold growW pk W64; omega
theorem drop_64 {w : Int} (h : W64 w) (n : Int) : W64 (dropW w n) := by
  have := hd_b h
  unfold dropW pk W64; omega
theorem grow_eq (m : Mem X) {w n : Int} (h : W64 w) : c_word_Grow [.int .u64 w, .int .u32 n] m = some (.int .u64 (growW w n), m) := by
  have a179 : assoc [(179, F10.c_word_Head (X := X)), (182, F10.c_word_Tail), (183, F10.c_word_Pack)] 179 = some F10.c_word_Head := rfl
  have a182 : assoc [(179, F10.c_word_Head (X := X)), (182, F10.c_word_Tail), (183, F10.c_word_Pack)] 182 = some F10.c_word_Tail := rfl
  have a183 : assoc [(179, F10.c_word_Head (X := X)), (182, F10.c_word_Tail), (183, F10.c_word_Pack)] 183 = some F10.c_word_Pack := rfl
  have he : c_word_Grow (X := X) = amFunc [(179, F10.c_word_Head), (182, F10.c_word_Tail), (183, F10.c_word_Pack)] word_Grow := rfl
  rw [he]
  generalize [(179, F10.c_word_Head (X := X)), (182, F10.c_word_Tail), (183, F10.c_word_Pack)] = G at a179 a182 a183 ⊢
  have hh := hd_b h
  have h1 := head_eq m h
  have h2 := tail_eq m w
  have hw : IntKind.u32.wrap (tl w + n) = (tl w + n) % 4294967296 := wrap32 _
  have h3 := pack_eq m (h := hd w) (t := (tl w + n) % 4294967296) hh.1 hh.2 (by omega) (by omega)
  refine Fn_eq (Fn_of rfl ?_)
  simp (disch := first | assumption | omega | (simp only [List.length_cons, List.length_nil, List.length_set, List.length_append] <;> omega) | (simp only [get_mid, get_mid0, List.cons_append, List.append_assoc, List.getElem?_cons_zero, List.getElem?_cons_succ])) only [word_Grow, ek, ↓evW, ↓evQ, evB, evS, evL, List.map, AV.cells, List.all, AV.one, Bool.and_true, Bool.true_and, if_true, ↓thenQ_normal, ↓thenQ_exit, ↓thenQ_ret, ↓blockQ_normal, ↓blockQ_ret, ↓blockQ_exit, ↓CW_true, ↓CW_false, CW_true, CW_false, condT, condF, RQ_some, tupA_one, tupA_two, tupA_nil, Nat.reduceSub, Nat.reduceAdd, Nat.reduceMul, Nat.zero_add, Nat.add_zero, Nat.reduceLeDiff, Nat.reduceEqDiff, eqV, eqAll, fillA, and_self, and_true, true_and, Nat.le_refl, Bool.not_true, Bool.not_false, Bool.false_xor, Bool.true_xor, cond_true, cond_false, List.replicate, if_false, reduceIte, resAll, resA, ne_eq, decide_not, decide_true, decide_false, Int.reduceEq, Bool.not_true, Bool.not_false, not_true_eq_false, not_false_eq_true, cond_bool, cond_int, beq_self_eq_true, Int.reduceBEq, Bool.and_self, Bool.and_false, Bool.false_and, Bool.xor_false, Bool.xor_true, loadN_ldC, ldC_none, ldC_somes, stC_aggs, splice, storeN_stC, stC_int, stC_bool, stC_ptr, stC_nilp, stC_sl, stC_nils, getC_gcO, gcO_cells, W_draw_eq, ↓W_scope, ev_clear, evT, evF, evX, evM, ↓exitQ_normal, ↓exitQ_ret, ↓exitQ_exit, saA_self, saO_self, if_pos, if_neg, wrapI, get_concat, set_concat, Int.toNat_natCast, Int.toNat_zero, List.nil_append, Nat.mul_one, decide_eq_true, decide_eq_false, Int.reduceLE, Int.reduceLT, Int.reduceNeg, Bool.false_or, Bool.true_or, Bool.or_false, Bool.or_true, wrapU, Int.reduceAdd, Int.reduceSub, Int.reduceMul, List.append_assoc, List.length_append, get_mid, get_mid0, set_mid, set_mid0, List.length_set, List.length_cons, List.length_nil, List.cons_append, List.getElem?_append_left, List.set_append_left, get_at, get_at0, set_at, set_at0, List.getElem?_set_self, List.getElem?_set_ne, a179, a182, a183, h1, h2, hw, h3, growW]
theorem drop_eq (m : Mem X) {w n : Int} (h : W64 w) : c_word_Drop [.int .u64 w, .int .u32 n] m = some (.int .u64 (dropW w n), m) := by
  have a179 : assoc [(179, F10.c_word_Head (X := X)), (182, F10.c_word_Tail), (183, F10.c_word_Pack)] 179 = some F10.c_word_Head := rfl
  have a182 : assoc [(179, F10.c_word_Head (X := X)), (182, F10.c_word_Tail), (183, F10.c_word_Pack)] 182 = some F10.c_word_Tail := rfl
  have a183 : assoc [(179, F10.c_word_Head (X := X)), (182, F10.c_word_Tail), (183, F10.c_word_Pack)] 183 = some F10.c_word_Pack := rfl
  have he : c_word_Drop (X := X) = amFunc [(179, F10.c_word_Head), (182, F10.c_word_Tail), (183, F10.c_word_Pack)] word_Drop := rfl
  rw [he]
  generalize [(179, F10.c_word_Head (X := X)), (182, F10.c_word_Tail), (183, F10.c_word_Pack)] = G at a179 a182 a183 ⊢
  have hh := hd_b h
  have h1 := head_eq m h
  have h2 := tail_eq m w
  have hw : IntKind.u32.wrap (tl w - n) = (tl w - n) % 4294967296 := wrap32 _
  have h3 := pack_eq m (h := hd w) (t := (tl w - n) % 4294967296) hh.1 hh.2 (by omega) (by omega)
  refine Fn_eq (Fn_of rfl ?_)
  simp (disch := first | assumption | omega | (simp only [List.length_cons, List.length_nil, List.length_set, List.length_append] <;> omega) | (simp only [get_mid, get_mid0, List.cons_append, List.append_assoc, List.getElem?_cons_zero, List.getElem?_cons_succ])) only [word_Drop, ek, ↓evW, ↓evQ, evB, evS, evL, List.map, AV.cells, List.all, AV.one, Bool.and_true, Bool.true_and, if_true, ↓thenQ_normal, ↓thenQ_exit, ↓thenQ_ret, ↓blockQ_normal, ↓blockQ_ret, ↓blockQ_exit, ↓CW_true, ↓CW_false, CW_true, CW_false, condT, condF, RQ_some, tupA_one, tupA_two, tupA_nil, Nat.reduceSub, Nat.reduceAdd, Nat.reduceMul, Nat.zero_add, Nat.add_zero, Nat.reduceLeDiff, Nat.reduceEqDiff, eqV, eqAll, fillA, and_self, and_true, true_and, Nat.le_refl, Bool.not_true, Bool.not_false, Bool.false_xor, Bool.true_xor, cond_true, cond_false, List.replicate, if_false, reduceIte, resAll, resA, ne_eq, decide_not, decide_true, decide_false, Int.reduceEq, Bool.not_true, Bool.not_false, not_true_eq_false, not_false_eq_true, cond_bool, cond_int, beq_self_eq_true, Int.reduceBEq, Bool.and_self, Bool.and_false, Bool.false_and, Bool.xor_false, Bool.xor_true, loadN_ldC, ldC_none, ldC_somes, stC_aggs, splice, storeN_stC, stC_int, stC_bool, stC_ptr, stC_nilp, stC_sl, stC_nils, getC_gcO, gcO_cells, W_draw_eq, ↓W_scope, ev_clear, evT, evF, evX, evM, ↓exitQ_normal, ↓exitQ_ret, ↓exitQ_exit, saA_self, saO_self, if_pos, if_neg, wrapI, get_concat, set_concat, Int.toNat_natCast, Int.toNat_zero, List.nil_append, Nat.mul_one, decide_eq_true, decide_eq_false, Int.reduceLE, Int.reduceLT, Int.reduceNeg, Bool.false_or, Bool.true_or, Bool.or_false, Bool.or_true, wrapU, Int.reduceAdd, Int.reduceSub, Int.reduceMul, List.append_assoc, List.length_append, get_mid, get_mid0, set_mid, set_mid0, List.length_set, List.length_cons, List.length_nil, List.cons_append, List.getElem?_append_left, List.set_append_left, get_at, get_at0, set_at, set_at0, List.getElem?_set_self, List.getElem?_set_ne, a179, a182, a183, h1, h2, hw, h3, dropW]
def rgC (c : Cf) (p a w k : Int) (T : List AV) : List AV := cfC c ++ (.int .i64 p :: .int .i64 a :: .int .u64 w :: .int .u32 k :: T)
def pslA (c : Cf) (p w i : Int) : Int := slotA c p ((tl w + i) % 4294967296)
theorem psl_b {c : Cf} {p w i : Int} (h : thereP c p) : 0 ≤ pslA c p w i ∧ pslA c p w i < cellsN c := slot_b h (Int.emod_nonneg _ (by omega))
theorem slot_eq {m : Mem X} {xj z : Nat} {c : Cf} {p a w k i : Int} {T : List AV} (hx : m[xj]? = some (.cells z false (rgC c p a w k T))) (hr : rightP c) : c_put_ring_slot [.ptr xj 0, .int .i64 i] m = some (.int .i64 (pslA c p w i), m ++ [.cells 6 false (cfC c), .cells 6 false (cfC c), .cells 7 false (cfC c ++ [.int .i64 p]), .cells 6 false (cfC c)]) := by
  have a182 : assoc [(182, F10.c_word_Tail (X := X)), (160, F10.c_conf_Config_Slot)] 182 = some F10.c_word_Tail := rfl
  have a160 : assoc [(182, F10.c_word_Tail (X := X)), (160, F10.c_conf_Config_Slot)] 160 = some F10.c_conf_Config_Slot := rfl
  have he : c_put_ring_slot (X := X) = amFunc [(182, F10.c_word_Tail), (160, F10.c_conf_Config_Slot)] put_ring_slot := rfl
  rw [he]
  generalize [(182, F10.c_word_Tail (X := X)), (160, F10.c_conf_Config_Slot)] = G at a182 a160 ⊢
  have h2 := tail_eq m w
  have hw : IntKind.u32.wrap (tl w + IntKind.u32.wrap i) = (tl w + i) % 4294967296 := by rw [wrap32, wrap32]; omega
  have hs := slot_eqR m hr p (i := (tl w + i) % 4294967296) (by omega) (by omega)
  have hp : slotA c p ((tl w + i) % 4294967296) = pslA c p w i := rfl
  simp only [rgC, cfC, List.cons_append, List.nil_append] at hx hs
  refine Fn_eq (Fn_of rfl ?_)
  simp (disch := first | assumption | omega | (simp only [List.length_cons, List.length_nil, List.length_set, List.length_append] <;> omega) | (simp only [get_mid, get_mid0, List.cons_append, List.append_assoc, List.getElem?_cons_zero, List.getElem?_cons_succ])) only [put_ring_slot, ek, ↓evW, ↓evQ, evB, evS, evL, List.map, AV.cells, List.all, AV.one, Bool.and_true, Bool.true_and, if_true, ↓thenQ_normal, ↓thenQ_exit, ↓thenQ_ret, ↓blockQ_normal, ↓blockQ_ret, ↓blockQ_exit, ↓CW_true, ↓CW_false, CW_true, CW_false, condT, condF, RQ_some, tupA_one, tupA_two, tupA_nil, Nat.reduceSub, Nat.reduceAdd, Nat.reduceMul, Nat.zero_add, Nat.add_zero, Nat.reduceLeDiff, Nat.reduceEqDiff, eqV, eqAll, fillA, and_self, and_true, true_and, Nat.le_refl, Bool.not_true, Bool.not_false, Bool.false_xor, Bool.true_xor, cond_true, cond_false, List.replicate, if_false, reduceIte, resAll, resA, ne_eq, decide_not, decide_true, decide_false, Int.reduceEq, Bool.not_true, Bool.not_false, not_true_eq_false, not_false_eq_true, cond_bool, cond_int, beq_self_eq_true, Int.reduceBEq, Bool.and_self, Bool.and_false, Bool.false_and, Bool.xor_false, Bool.xor_true, loadN_ldC, ldC_none, ldC_somes, stC_aggs, splice, storeN_stC, stC_int, stC_bool, stC_ptr, stC_nilp, stC_sl, stC_nils, getC_gcO, gcO_cells, W_draw_eq, ↓W_scope, ev_clear, evT, evF, evX, evM, ↓exitQ_normal, ↓exitQ_ret, ↓exitQ_exit, saA_self, saO_self, if_pos, if_neg, wrapI, get_concat, set_concat, Int.toNat_natCast, Int.toNat_zero, List.nil_append, Nat.mul_one, decide_eq_true, decide_eq_false, Int.reduceLE, Int.reduceLT, Int.reduceNeg, Bool.false_or, Bool.true_or, Bool.or_false, Bool.or_true, wrapU, Int.reduceAdd, Int.reduceSub, Int.reduceMul, List.append_assoc, List.length_append, get_mid, get_mid0, set_mid, set_mid0, List.length_set, List.length_cons, List.length_nil, List.cons_append, List.getElem?_append_left, List.set_append_left, get_at, get_at0, set_at, set_at0, List.getElem?_set_self, List.getElem?_set_ne, cfC, hx, a182, h2, hw, a160, hs, hp]
end
def Grl : List (Nat × AFun Ob) := [(159, F10.c_conf_Config_Word), (24, memF loadS), (178, F10.c_word_Len)]
def RlP (m : MM) (xj j z : Nat) (c : Cf) (p a : Int) (T : List AV) (xs : List Int) (o : Int) (r : AV) (m' : MM) : Prop := r = .int .u32 (sz (xs.getD (wrdN c p) 0)) ∧ KeepX xj j m m' ∧ m'[xj]? = some (.cells z false (rgC c p a (xs.getD (wrdN c p) 0) 0 T)) ∧ ∃ st', m'[j]? = some (.abs (.mem st')) ∧ RelM xs o st'
set_option maxHeartbeats 8000000 in
theorem rload_run {m : MM} {c : Cf} {p a w k o : Int} {T : List AV} {xs : List Int} {xj j z : Nat} {st : MemSt} (hx : m[xj]? = some (.cells z false (rgC c p a w k T))) (hj : m[j]? = some (.abs (.mem st))) (hr : RelM xs o st) (hO : OkL c xs) (hp : thereP c p) :
    Fn Grl put_ring_load [.ptr xj 0, .ptr j 0] m (RlP m xj j z c p a T xs (IntKind.u64.wrap (o + 1))) := by
  have a159 : assoc Grl 159 = some F10.c_conf_Config_Word := rfl
  have a24 : assoc Grl 24 = some (memF loadS) := rfl
  have a178 : assoc Grl 178 = some F10.c_word_Len := rfl
  generalize Grl = G at a159 a24 a178 ⊢
  have hij : xj ≠ j := fun h => by rw [h, hj] at hx; cases hx
  have lx : xj < m.length := (List.getElem?_eq_some_iff.1 hx).1
  have lj : j < m.length := (List.getElem?_eq_some_iff.1 hj).1
  have hxl := hO.1
  have hcn := cellsN_le c
  have hb := there_bounds hp
  have ha0 := addr_b hp (i := 0) (by omega) (by omega)
  have hthr : thr xs (addrA c p 0) := ⟨by omega, by omega⟩
  have hwt : (addrA c p 0).toNat = wrdN c p := rfl
  have hg := getD_64 hO.2 (wrdN c p)
  obtain ⟨st', r', _, f24, _⟩ := hr.loadE hthr
  rw [hwt] at f24
  generalize hw' : xs.getD (wrdN c p) 0 = w' at hg f24
  have f24' := fun K => f24 m K j hj
  have hwr := fun m : MM => word_run (m := m) c p
  have hz := fun m : MM => len_eq m hg
  simp only [rgC, cfC, List.cons_append, List.nil_append] at hx hwr
  refine Fn_of rfl ?_
  simp (disch := first | assumption | omega | (simp only [List.length_cons, List.length_nil, List.length_set, List.length_append] <;> omega) | (simp only [get_mid, get_mid0, List.cons_append, List.append_assoc, List.getElem?_cons_zero, List.getElem?_cons_succ])) only [put_ring_load, ek, ↓evW, ↓evQ, evB, evS, evL, List.map, AV.cells, List.all, AV.one, Bool.and_true, Bool.true_and, if_true, ↓thenQ_normal, ↓thenQ_exit, ↓thenQ_ret, ↓blockQ_normal, ↓blockQ_ret, ↓blockQ_exit, ↓CW_true, ↓CW_false, CW_true, CW_false, condT, condF, RQ_some, tupA_one, tupA_two, tupA_nil, Nat.reduceSub, Nat.reduceAdd, Nat.reduceMul, Nat.zero_add, Nat.add_zero, Nat.reduceLeDiff, Nat.reduceEqDiff, eqV, eqAll, fillA, and_self, and_true, true_and, Nat.le_refl, Bool.not_true, Bool.not_false, Bool.false_xor, Bool.true_xor, cond_true, cond_false, List.replicate, if_false, reduceIte, resAll, resA, ne_eq, decide_not, decide_true, decide_false, Int.reduceEq, Bool.not_true, Bool.not_false, not_true_eq_false, not_false_eq_true, cond_bool, cond_int, beq_self_eq_true, Int.reduceBEq, Bool.and_self, Bool.and_false, Bool.false_and, Bool.xor_false, Bool.xor_true, loadN_ldC, ldC_none, ldC_somes, stC_aggs, splice, storeN_stC, stC_int, stC_bool, stC_ptr, stC_nilp, stC_sl, stC_nils, getC_gcO, gcO_cells, W_draw_eq, ↓W_scope, ev_clear, evT, evF, evX, evM, ↓exitQ_normal, ↓exitQ_ret, ↓exitQ_exit, saA_self, saO_self, if_pos, if_neg, wrapI, get_concat, set_concat, Int.toNat_natCast, Int.toNat_zero, List.nil_append, Nat.mul_one, decide_eq_true, decide_eq_false, Int.reduceLE, Int.reduceLT, Int.reduceNeg, Bool.false_or, Bool.true_or, Bool.or_false, Bool.or_true, wrapU, Int.reduceAdd, Int.reduceSub, Int.reduceMul, List.append_assoc, List.length_append, get_mid, get_mid0, set_mid, set_mid0, List.length_set, List.length_cons, List.length_nil, List.cons_append, List.getElem?_append_left, List.set_append_left, get_at, get_at0, set_at, set_at0, List.getElem?_set_self, List.getElem?_set_ne, cfC, hx, a159, hwr, a24, f24', a178, hz, List.set_set]
  unfold RlP
  rw [hw']
  refine ⟨rfl, ?_, ?_, st', ?_, r'⟩
  · refine ⟨by simp, fun a ha h1 h2 => ?_⟩
    rw [List.getElem?_append_left (by simpa using ha), List.getElem?_set_ne (fun h => h1 h.symm), List.getElem?_set_ne (fun h => h2 h.symm)]
  · rw [List.getElem?_append_left (by simpa using lx), List.getElem?_set_self (by simpa using lx)]; rfl
  · rw [List.getElem?_append_left (by simpa using lj), List.getElem?_set_ne hij, List.getElem?_set_self lj]
def Gch : List (Nat × AFun Ob) := [(159, F10.c_conf_Config_Word), (23, memF casS)]
def ChP (m : MM) (xj j z : Nat) (c : Cf) (p w k : Int) (T : List AV) (xs : List Int) (next o : Int) (r : AV) (m' : MM) : Prop := r = .bool (decide (xs.getD (wrdN c p) 0 = w)) ∧ KeepX xj j m m' ∧ m'[xj]? = some (.cells z false (rgC c p (if xs.getD (wrdN c p) 0 = w then 0 else 1) w k T)) ∧ ∃ st', m'[j]? = some (.abs (.mem st')) ∧ RelM (if xs.getD (wrdN c p) 0 = w then xs.set (wrdN c p) next else xs) o st'
set_option maxHeartbeats 8000000 in
theorem change_run {m : MM} {c : Cf} {p a w k o next : Int} {T : List AV} {xs : List Int} {xj j z : Nat} {st : MemSt} (hx : m[xj]? = some (.cells z false (rgC c p a w k T))) (hj : m[j]? = some (.abs (.mem st))) (hr : RelM xs o st) (hO : OkL c xs) (hp : thereP c p) :
    Fn Gch put_ring_change [.ptr xj 0, .ptr j 0, .int .u64 next] m (ChP m xj j z c p w k T xs next (IntKind.u64.wrap (o + 1))) := by
  have a159 : assoc Gch 159 = some F10.c_conf_Config_Word := rfl
  have a23 : assoc Gch 23 = some (memF casS) := rfl
  generalize Gch = G at a159 a23 ⊢
  have hij : xj ≠ j := fun h => by rw [h, hj] at hx; cases hx
  have lx : xj < m.length := (List.getElem?_eq_some_iff.1 hx).1
  have lj : j < m.length := (List.getElem?_eq_some_iff.1 hj).1
  have hxl := hO.1
  have hcn := cellsN_le c
  have hb := there_bounds hp
  have ha0 := addr_b hp (i := 0) (by omega) (by omega)
  have hthr : thr xs (addrA c p 0) := ⟨by omega, by omega⟩
  have hwt : (addrA c p 0).toNat = wrdN c p := rfl
  obtain ⟨st', r', _, f23, _⟩ := hr.casE hthr w next
  rw [hwt] at f23 r'
  have f23' := fun K => f23 m K j hj
  have hwr := fun m : MM => word_run (m := m) c p
  simp only [rgC, cfC, List.cons_append, List.nil_append] at hx hwr
  refine Fn_of rfl ?_
  by_cases heq : xs.getD (wrdN c p) 0 = w
  · have hd : decide (xs.getD (wrdN c p) 0 = w) = true := decide_eq_true heq
    simp only [hd] at f23'
    simp (disch := first | assumption | omega | (simp only [List.length_cons, List.length_nil, List.length_set, List.length_append] <;> omega) | (simp only [get_mid, get_mid0, List.cons_append, List.append_assoc, List.getElem?_cons_zero, List.getElem?_cons_succ])) only [put_ring_change, ek, ↓evW, ↓evQ, evB, evS, evL, List.map, AV.cells, List.all, AV.one, Bool.and_true, Bool.true_and, if_true, ↓thenQ_normal, ↓thenQ_exit, ↓thenQ_ret, ↓blockQ_normal, ↓blockQ_ret, ↓blockQ_exit, ↓CW_true, ↓CW_false, CW_true, CW_false, condT, condF, RQ_some, tupA_one, tupA_two, tupA_nil, Nat.reduceSub, Nat.reduceAdd, Nat.reduceMul, Nat.zero_add, Nat.add_zero, Nat.reduceLeDiff, Nat.reduceEqDiff, eqV, eqAll, fillA, and_self, and_true, true_and, Nat.le_refl, Bool.not_true, Bool.not_false, Bool.false_xor, Bool.true_xor, cond_true, cond_false, List.replicate, if_false, reduceIte, resAll, resA, ne_eq, decide_not, decide_true, decide_false, Int.reduceEq, Bool.not_true, Bool.not_false, not_true_eq_false, not_false_eq_true, cond_bool, cond_int, beq_self_eq_true, Int.reduceBEq, Bool.and_self, Bool.and_false, Bool.false_and, Bool.xor_false, Bool.xor_true, loadN_ldC, ldC_none, ldC_somes, stC_aggs, splice, storeN_stC, stC_int, stC_bool, stC_ptr, stC_nilp, stC_sl, stC_nils, getC_gcO, gcO_cells, W_draw_eq, ↓W_scope, ev_clear, evT, evF, evX, evM, ↓exitQ_normal, ↓exitQ_ret, ↓exitQ_exit, saA_self, saO_self, if_pos, if_neg, wrapI, get_concat, set_concat, Int.toNat_natCast, Int.toNat_zero, List.nil_append, Nat.mul_one, decide_eq_true, decide_eq_false, Int.reduceLE, Int.reduceLT, Int.reduceNeg, Bool.false_or, Bool.true_or, Bool.or_false, Bool.or_true, wrapU, Int.reduceAdd, Int.reduceSub, Int.reduceMul, List.append_assoc, List.length_append, get_mid, get_mid0, set_mid, set_mid0, List.length_set, List.length_cons, List.length_nil, List.cons_append, List.getElem?_append_left, List.set_append_left, get_at, get_at0, set_at, set_at0, List.getElem?_set_self, List.getElem?_set_ne, cfC, hx, a159, hwr, a23, f23', List.set_set]
    unfold ChP
    rw [if_pos heq, if_pos heq, hd]
    rw [if_pos heq] at r'
    refine ⟨rfl, ?_, ?_, st', ?_, r'⟩
    · refine ⟨by simp, fun a ha h1 h2 => ?_⟩
      rw [List.getElem?_append_left (by simpa using ha), List.getElem?_set_ne (fun h => h1 h.symm), List.getElem?_set_ne (fun h => h2 h.symm)]
    · rw [List.getElem?_append_left (by simpa using lx), List.getElem?_set_self (by simpa using lx)]; rfl
    · rw [List.getElem?_append_left (by simpa using lj), List.getElem?_set_ne hij, List.getElem?_set_self lj]
  · have hd : decide (xs.getD (wrdN c p) 0 = w) = false := decide_eq_false heq
    simp only [hd] at f23'
    simp (disch := first | assumption | omega | (simp only [List.length_cons, List.length_nil, List.length_set, List.length_append] <;> omega) | (simp only [get_mid, get_mid0, List.cons_append, List.append_assoc, List.getElem?_cons_zero, List.getElem?_cons_succ])) only [put_ring_change, ek, ↓evW, ↓evQ, evB, evS, evL, List.map, AV.cells, List.all, AV.one, Bool.and_true, Bool.true_and, if_true, ↓thenQ_normal, ↓thenQ_exit, ↓thenQ_ret, ↓blockQ_normal, ↓blockQ_ret, ↓blockQ_exit, ↓CW_true, ↓CW_false, CW_true, CW_false, condT, condF, RQ_some, tupA_one, tupA_two, tupA_nil, Nat.reduceSub, Nat.reduceAdd, Nat.reduceMul, Nat.zero_add, Nat.add_zero, Nat.reduceLeDiff, Nat.reduceEqDiff, eqV, eqAll, fillA, and_self, and_true, true_and, Nat.le_refl, Bool.not_true, Bool.not_false, Bool.false_xor, Bool.true_xor, cond_true, cond_false, List.replicate, if_false, reduceIte, resAll, resA, ne_eq, decide_not, decide_true, decide_false, Int.reduceEq, Bool.not_true, Bool.not_false, not_true_eq_false, not_false_eq_true, cond_bool, cond_int, beq_self_eq_true, Int.reduceBEq, Bool.and_self, Bool.and_false, Bool.false_and, Bool.xor_false, Bool.xor_true, loadN_ldC, ldC_none, ldC_somes, stC_aggs, splice, storeN_stC, stC_int, stC_bool, stC_ptr, stC_nilp, stC_sl, stC_nils, getC_gcO, gcO_cells, W_draw_eq, ↓W_scope, ev_clear, evT, evF, evX, evM, ↓exitQ_normal, ↓exitQ_ret, ↓exitQ_exit, saA_self, saO_self, if_pos, if_neg, wrapI, get_concat, set_concat, Int.toNat_natCast, Int.toNat_zero, List.nil_append, Nat.mul_one, decide_eq_true, decide_eq_false, Int.reduceLE, Int.reduceLT, Int.reduceNeg, Bool.false_or, Bool.true_or, Bool.or_false, Bool.or_true, wrapU, Int.reduceAdd, Int.reduceSub, Int.reduceMul, List.append_assoc, List.length_append, get_mid, get_mid0, set_mid, set_mid0, List.length_set, List.length_cons, List.length_nil, List.cons_append, List.getElem?_append_left, List.set_append_left, get_at, get_at0, set_at, set_at0, List.getElem?_set_self, List.getElem?_set_ne, cfC, hx, a159, hwr, a23, f23', List.set_set]
    unfold ChP
    rw [if_neg heq, if_neg heq, hd]
    rw [if_neg heq] at r'
    refine ⟨rfl, ?_, ?_, st', ?_, r'⟩
    · refine ⟨by simp, fun a ha h1 h2 => ?_⟩
      rw [List.getElem?_append_left (by simpa using ha), List.getElem?_set_ne (fun h => h1 h.symm), List.getElem?_set_ne (fun h => h2 h.symm)]
    · rw [List.getElem?_append_left (by simpa using lx), List.getElem?_set_self (by simpa using lx)]; rfl
    · rw [List.getElem?_append_left (by simpa using lj), List.getElem?_set_ne hij, List.getElem?_set_self lj]
end Go.Am.F09
end
section
namespace Go.Am.F09
open Go.Am.F06 Go.Am.F10
structure PS where
  a : Int
  w : Int
  tk : List Int
  hs : List Int
def putC (c : Cf) (p g : Int) (s : PS) (tv hv : AV) : List AV := rgC c p s.a s.w 0 [.int .i64 g, tv, hv]
def stepP (c : Cf) (p g : Int) (xs : List Int) (s : PS) : PS × List Int :=
  if s.a = 1 then ({ s with w := xs.getD (wrdN c p) 0, tk := [], a := if c.q ≤ sz (xs.getD (wrdN c p) 0) then 4 else 2 }, xs)
  else if s.a = 2 then ({ s with a := 3 }, xs.set (pslA c p s.w 0).toNat (IntKind.u64.wrap g))
  else if s.a = 3 then (if xs.getD (wrdN c p) 0 = s.w then ({ s with a := 0, hs := [] }, xs.set (wrdN c p) (growW s.w 1)) else ({ s with a := 1 }, xs))
  else if s.a = 4 then ({ s with tk := s.tk ++ [IntKind.i64.wrap (xs.getD (pslA c p s.w (s.tk.length - c.q / 2)).toNat 0)], a := if (s.tk.length : Int) + 1 = c.q / 2 then 5 else 4 }, xs)
  else if s.a = 5 then (if xs.getD (wrdN c p) 0 = s.w then ({ s with a := 0, hs := s.tk ++ [g] }, xs.set (wrdN c p) (dropW s.w (c.q / 2))) else ({ s with a := 1 }, xs))
  else (s, xs)
def opsP (s : PS) (o : Int) : Int := if s.a = 0 then o else IntKind.u64.wrap (o + 1)
structure POk (c : Cf) (p : Int) (s : PS) : Prop where
  w : W64 s.w
  a : s.a = 0 ∨ (thereP c p ∧ (s.a = 1 ∨ s.a = 2 ∨ s.a = 3 ∨ (s.a = 4 ∧ (s.tk.length : Int) < c.q / 2) ∨ (s.a = 5 ∧ (s.tk.length : Int) = c.q / 2)))
  h : s.hs.length ≤ 100
def KeepT (xj j qt : Nat) (m m' : MM) : Prop := m.length ≤ m'.length ∧ ∀ i, i < m.length → i ≠ xj → i ≠ j → i ≠ qt → m'[i]? = m[i]?
theorem KeepX.t {xj j qt : Nat} {m m' : MM} (h : KeepX xj j m m') : KeepT xj j qt m m' := ⟨h.1, fun i hi h1 h2 _ => h.2 i hi h1 h2⟩
structure PM (m : MM) (xj : Nat) (c : Cf) (p g : Int) (s : PS) (qt : Nat) (tv hv : AV) : Prop where
  get : m[xj]? = some (.cells 13 false (putC c p g s tv hv))
  t : s.a = 4 ∨ s.a = 5 → Rw m qt s.tk.length 1 (iC s.tk) tv
  one : tv.one = true
  h : SI m false s.hs hv
  off : Off qt hv
theorem si_box {m : MM} {wr : Bool} {es : List Int} {v : AV} (h : SI m wr es v) {b : Nat} (hb : ∀ ro L, m[b]? ≠ some (.cells 1 ro L)) : Off b v := by
  intro q o n c hv h0 hq
  rcases h.2 with ⟨h1, _⟩ | ⟨q2, o2, c2, h1, h2⟩
  · rw [h1] at hv; cases hv
  · rw [h1] at hv; injection hv with e1 e2 e3 e4; subst e1; subst e3; subst hq
    obtain ⟨ro, L, h3, _⟩ := h2 h0
    exact hb ro L h3
theorem si_lt {m : MM} {wr : Bool} {es : List Int} {v : AV} (h : SI m wr es v) {b : Nat} (hb : m.length ≤ b) : Off b v := si_box h fun ro L h => by rw [List.getElem?_eq_none hb] at h; cases h
theorem _root_.Go.Am.Sl.stay {m m' : MM} {wr : Bool} {sz n : Nat} {l : List AV} {v : AV} (h : Sl m wr sz n l v) (hk : ∀ q o cap, v = .sl q o n cap → 0 < n → m'[q]? = m[q]?) : Sl m' wr sz n l v := by
  refine ⟨h.1, ?_⟩
  rcases h.2 with h1 | ⟨q, o, cap, h1, h2⟩
  · exact .inl h1
  · refine .inr ⟨q, o, cap, h1, fun h0 => ?_⟩
    obtain ⟨ro, L, h3, h4⟩ := h2 h0
    exact ⟨ro, L, by rw [hk q o cap h1 h0]; exact h3, h4⟩
theorem _root_.Go.Am.Sl.lt {m : MM} {wr : Bool} {sz n : Nat} {l : List AV} {v : AV} (h : Sl m wr sz n l v) {q o : Nat} {cap : Option Nat} (hv : v = .sl q o n cap) (h0 : 0 < n) : q < m.length ∧ ∃ ro L, m[q]? = some (.cells sz ro L) := by
  rcases h.2 with ⟨h1, _⟩ | ⟨q2, o2, c2, h1, h2⟩
  · rw [h1] at hv; cases hv
  · rw [h1] at hv; injection hv with e1 e2 e3 e4; subst e1
    obtain ⟨ro, L, h3, _⟩ := h2 h0
    exact ⟨(List.getElem?_eq_some_iff.1 h3).1, ro, L, h3⟩
theorem KeepT.si {xj j qt : Nat} {m m' : MM} (h : KeepT xj j qt m m') (hxj : ∀ ro L, m[xj]? ≠ some (.cells 1 ro L)) (hj : ∀ ro L, m[j]? ≠ some (.cells 1 ro L)) {wr : Bool} {n : Nat} {l : List AV} {v : AV} (hs : Sl m wr 1 n l v) (ho : Off qt v) : Sl m' wr 1 n l v := hs.stay fun q o cap hv h0 => by
  obtain ⟨h1, ro, L, h2⟩ := hs.lt hv h0
  exact h.2 q h1 (fun hq => hxj ro L (by rw [← hq]; exact h2)) (fun hq => hj ro L (by rw [← hq]; exact h2)) (ho q o n cap hv h0)
def PfP (m : MM) (c : Cf) (p g : Int) (xj j qt : Nat) (hv : AV) (x : PS × List Int) (o : Int) (r : AV) (m' : MM) : Prop := r = .tup [] ∧ KeepT xj j qt m m' ∧ ∃ tv' hv' qt', PM m' xj c p g x.1 qt' tv' hv' ∧ (qt' = xj ∨ (m.length ≤ qt' ∧ qt' < m'.length) ∨ qt' = qt) ∧ (hv' = hv ∨ Fr m.length hv') ∧ ∃ st', m'[j]? = some (.abs (.mem st')) ∧ RelM x.2 o st'
def Gplk : List (Nat × AFun Ob) := [(219, amFunc Grl put_ring_load)]
set_option maxHeartbeats 8000000 in
theorem plook_run {m : MM} {c : Cf} {p g o : Int} {s : PS} {qt xj j : Nat} {tv hv : AV} {xs : List Int} {st : MemSt} (hx : PM m xj c p g s qt tv hv) (hj : m[j]? = some (.abs (.mem st))) (hr : RelM xs o st) (hO : OkL c xs) (hk : POk c p s) (ha : s.a = 1) :
    Fn Gplk put_Put_look [.ptr xj 0, .ptr j 0] m (PfP m c p g xj j qt hv (stepP c p g xs s) (IntKind.u64.wrap (o + 1))) := by
  have a219 : assoc Gplk 219 = some (amFunc Grl put_ring_load) := rfl
  generalize Gplk = G at a219 ⊢
  obtain ⟨a, w, tk, hs⟩ := s
  simp only at ha
  subst ha
  obtain ⟨hx, ht, h1, hh, hoff⟩ := hx
  have hij : xj ≠ j := fun h => by rw [h, hj] at hx; cases hx
  have lx : xj < m.length := (List.getElem?_eq_some_iff.1 hx).1
  have lj : j < m.length := (List.getElem?_eq_some_iff.1 hj).1
  have hp : thereP c p := hk.a.elim (fun h => by simp at h) (·.1)
  have hb := there_bounds hp
  have e0 : IntKind.u32.wrap c.q = c.q := by rw [wrap32]; omega
  have hxc := hx
  simp only [putC, rgC, cfC, List.cons_append, List.nil_append] at hx
  refine Fn_of rfl ?_
  have hM : (m.set xj (.cells 13 false (rgC c p 2 w 0 [.int .i64 g, .nils, hv])))[xj]? = some (.cells 13 false (rgC c p 2 w 0 [.int .i64 g, .nils, hv])) := List.getElem?_set_self lx
  have hMj : (m.set xj (.cells 13 false (rgC c p 2 w 0 [.int .i64 g, .nils, hv])))[j]? = some (.abs (.mem st)) := by rw [List.getElem?_set_ne hij]; exact hj
  have hrun := rload_run hM hMj hr hO hp
  simp only [rgC, cfC, List.cons_append, List.nil_append] at hrun
  simp (disch := first | assumption | omega | (simp only [List.length_cons, List.length_nil, List.length_set, List.length_append] <;> omega) | (simp only [get_mid, get_mid0, List.cons_append, List.append_assoc, List.getElem?_cons_zero, List.getElem?_cons_succ])) only [put_Put_look, ek, ↓evW, ↓evQ, evB, evS, evL, List.map, AV.cells, List.all, AV.one, Bool.and_true, Bool.true_and, if_true, ↓thenQ_normal, ↓thenQ_exit, ↓thenQ_ret, ↓blockQ_normal, ↓blockQ_ret, ↓blockQ_exit, ↓CW_true, ↓CW_false, CW_true, CW_false, condT, condF, RQ_some, tupA_one, tupA_two, tupA_nil, Nat.reduceSub, Nat.reduceAdd, Nat.reduceMul, Nat.zero_add, Nat.add_zero, Nat.reduceLeDiff, Nat.reduceEqDiff, eqV, eqAll, fillA, and_self, and_true, true_and, Nat.le_refl, Bool.not_true, Bool.not_false, Bool.false_xor, Bool.true_xor, cond_true, cond_false, List.replicate, if_false, reduceIte, resAll, resA, ne_eq, decide_not, decide_true, decide_false, Int.reduceEq, Bool.not_true, Bool.not_false, not_true_eq_false, not_false_eq_true, cond_bool, cond_int, beq_self_eq_true, Int.reduceBEq, Bool.and_self, Bool.and_false, Bool.false_and, Bool.xor_false, Bool.xor_true, loadN_ldC, ldC_none, ldC_somes, stC_aggs, splice, storeN_stC, stC_int, stC_bool, stC_ptr, stC_nilp, stC_sl, stC_nils, getC_gcO, gcO_cells, W_draw_eq, ↓W_scope, ev_clear, evT, evF, evX, evM, ↓exitQ_normal, ↓exitQ_ret, ↓exitQ_exit, saA_self, saO_self, if_pos, if_neg, wrapI, get_concat, set_concat, Int.toNat_natCast, Int.toNat_zero, List.nil_append, Nat.mul_one, decide_eq_true, decide_eq_false, Int.reduceLE, Int.reduceLT, Int.reduceNeg, Bool.false_or, Bool.true_or, Bool.or_false, Bool.or_true, wrapU, Int.reduceAdd, Int.reduceSub, Int.reduceMul, List.append_assoc, List.length_append, get_mid, get_mid0, set_mid, set_mid0, List.length_set, List.length_cons, List.length_nil, List.cons_append, List.getElem?_append_left, List.set_append_left, get_at, get_at0, set_at, set_at0, List.getElem?_set_self, List.getElem?_set_ne, hx, a219, List.set_set]
  refine OKT_fn hrun ?_
  rintro _ m1 ⟨rfl, k1, x1, st', j1, r1⟩
  have lx1 : xj < m1.length := (List.getElem?_eq_some_iff.1 x1).1
  have hnx : ∀ ro L, m[xj]? ≠ some (.cells 1 ro L) := fun ro L h => by rw [hx] at h; cases h
  have hnj : ∀ ro L, m[j]? ≠ some (.cells 1 ro L) := fun ro L h => by rw [hj] at h; cases h
  have kk : KeepX xj j m m1 := ⟨by simpa using k1.1, fun i hi h1 h2 => by rw [k1.2 i (by simpa using hi) h1 h2, List.getElem?_set_ne (fun h => h1 h.symm)]⟩
  have hh1 : SI m1 false hs hv := (KeepX.t (qt := m.length) kk).si hnx hnj hh (si_lt hh (Nat.le_refl _))
  have hs1 : stepP c p g xs ⟨1, w, tk, hs⟩ = (⟨if c.q ≤ sz (xs.getD (wrdN c p) 0) then 4 else 2, xs.getD (wrdN c p) 0, [], hs⟩, xs) := by simp only [stepP, if_true]
  rw [hs1]
  generalize xs.getD (wrdN c p) 0 = w' at x1
  simp only [rgC, cfC, List.cons_append, List.nil_append] at x1
  have nb : ∀ ro L, m1[xj]? ≠ some (.cells 1 ro L) := fun ro L h => by rw [x1] at h; cases h
  by_cases hq : c.q ≤ sz w'
  · rw [if_pos hq]
    simp (disch := first | assumption | omega | (simp only [List.length_cons, List.length_nil, List.length_set, List.length_append] <;> omega) | (simp only [get_mid, get_mid0, List.cons_append, List.append_assoc, List.getElem?_cons_zero, List.getElem?_cons_succ])) only [ek, ↓evW, ↓evQ, evB, evS, evL, List.map, AV.cells, List.all, AV.one, Bool.and_true, Bool.true_and, if_true, ↓thenQ_normal, ↓thenQ_exit, ↓thenQ_ret, ↓blockQ_normal, ↓blockQ_ret, ↓blockQ_exit, ↓CW_true, ↓CW_false, CW_true, CW_false, condT, condF, RQ_some, tupA_one, tupA_two, tupA_nil, Nat.reduceSub, Nat.reduceAdd, Nat.reduceMul, Nat.zero_add, Nat.add_zero, Nat.reduceLeDiff, Nat.reduceEqDiff, eqV, eqAll, fillA, and_self, and_true, true_and, Nat.le_refl, Bool.not_true, Bool.not_false, Bool.false_xor, Bool.true_xor, cond_true, cond_false, List.replicate, if_false, reduceIte, resAll, resA, ne_eq, decide_not, decide_true, decide_false, Int.reduceEq, Bool.not_true, Bool.not_false, not_true_eq_false, not_false_eq_true, cond_bool, cond_int, beq_self_eq_true, Int.reduceBEq, Bool.and_self, Bool.and_false, Bool.false_and, Bool.xor_false, Bool.xor_true, loadN_ldC, ldC_none, ldC_somes, stC_aggs, splice, storeN_stC, stC_int, stC_bool, stC_ptr, stC_nilp, stC_sl, stC_nils, getC_gcO, gcO_cells, W_draw_eq, ↓W_scope, ev_clear, evT, evF, evX, evM, ↓exitQ_normal, ↓exitQ_ret, ↓exitQ_exit, saA_self, saO_self, if_pos, if_neg, wrapI, get_concat, set_concat, Int.toNat_natCast, Int.toNat_zero, List.nil_append, Nat.mul_one, decide_eq_true, decide_eq_false, Int.reduceLE, Int.reduceLT, Int.reduceNeg, Bool.false_or, Bool.true_or, Bool.or_false, Bool.or_true, wrapU, Int.reduceAdd, Int.reduceSub, Int.reduceMul, List.append_assoc, List.length_append, get_mid, get_mid0, set_mid, set_mid0, List.length_set, List.length_cons, List.length_nil, List.cons_append, List.getElem?_append_left, List.set_append_left, get_at, get_at0, set_at, set_at0, List.getElem?_set_self, List.getElem?_set_ne, x1, e0, hq]
    refine ⟨rfl, KeepX.t (kk.setL _), .nils, hv, xj, ⟨by rw [List.getElem?_set_self lx1]; rfl, fun _ => Rw.nil, rfl, Sl.put hh1 nb _, si_box hh1 nb⟩, .inl rfl, .inl rfl, st', by rw [List.getElem?_set_ne hij]; exact j1, r1⟩
  · rw [if_neg hq]
    simp (disch := first | assumption | omega | (simp only [List.length_cons, List.length_nil, List.length_set, List.length_append] <;> omega) | (simp only [get_mid, get_mid0, List.cons_append, List.append_assoc, List.getElem?_cons_zero, List.getElem?_cons_succ])) only [ek, ↓evW, ↓evQ, evB, evS, evL, List.map, AV.cells, List.all, AV.one, Bool.and_true, Bool.true_and, if_true, ↓thenQ_normal, ↓thenQ_exit, ↓thenQ_ret, ↓blockQ_normal, ↓blockQ_ret, ↓blockQ_exit, ↓CW_true, ↓CW_false, CW_true, CW_false, condT, condF, RQ_some, tupA_one, tupA_two, tupA_nil, Nat.reduceSub, Nat.reduceAdd, Nat.reduceMul, Nat.zero_add, Nat.add_zero, Nat.reduceLeDiff, Nat.reduceEqDiff, eqV, eqAll, fillA, and_self, and_true, true_and, Nat.le_refl, Bool.not_true, Bool.not_false, Bool.false_xor, Bool.true_xor, cond_true, cond_false, List.replicate, if_false, reduceIte, resAll, resA, ne_eq, decide_not, decide_true, decide_false, Int.reduceEq, Bool.not_true, Bool.not_false, not_true_eq_false, not_false_eq_true, cond_bool, cond_int, beq_self_eq_true, Int.reduceBEq, Bool.and_self, Bool.and_false, Bool.false_and, Bool.xor_false, Bool.xor_true, loadN_ldC, ldC_none, ldC_somes, stC_aggs, splice, storeN_stC, stC_int, stC_bool, stC_ptr, stC_nilp, stC_sl, stC_nils, getC_gcO, gcO_cells, W_draw_eq, ↓W_scope, ev_clear, evT, evF, evX, evM, ↓exitQ_normal, ↓exitQ_ret, ↓exitQ_exit, saA_self, saO_self, if_pos, if_neg, wrapI, get_concat, set_concat, Int.toNat_natCast, Int.toNat_zero, List.nil_append, Nat.mul_one, decide_eq_true, decide_eq_false, Int.reduceLE, Int.reduceLT, Int.reduceNeg, Bool.false_or, Bool.true_or, Bool.or_false, Bool.or_true, wrapU, Int.reduceAdd, Int.reduceSub, Int.reduceMul, List.append_assoc, List.length_append, get_mid, get_mid0, set_mid, set_mid0, List.length_set, List.length_cons, List.length_nil, List.cons_append, List.getElem?_append_left, List.set_append_left, get_at, get_at0, set_at, set_at0, List.getElem?_set_self, List.getElem?_set_ne, x1, e0, hq]
    refine ⟨rfl, KeepX.t kk, .nils, hv, xj, ⟨x1, fun h => by simp at h, rfl, hh1, si_box hh1 nb⟩, .inl rfl, .inl rfl, st', j1, r1⟩
def Gply : List (Nat × AFun Ob) := [(210, c_put_ring_slot), (22, memF storeS)]
set_option maxHeartbeats 8000000 in
theorem play_run {m : MM} {c : Cf} {p g o : Int} {s : PS} {qt xj j : Nat} {tv hv : AV} {xs : List Int} {st : MemSt} (hx : PM m xj c p g s qt tv hv) (hj : m[j]? = some (.abs (.mem st))) (hr : RelM xs o st) (hO : OkL c xs) (hk : POk c p s) (ha : s.a = 2) :
    Fn Gply put_Put_lay [.ptr xj 0, .ptr j 0] m (PfP m c p g xj j qt hv (stepP c p g xs s) (IntKind.u64.wrap (o + 1))) := by
  have a210 : assoc Gply 210 = some c_put_ring_slot := rfl
  have a22 : assoc Gply 22 = some (memF storeS) := rfl
  generalize Gply = G at a210 a22 ⊢
  obtain ⟨a, w, tk, hs⟩ := s
  simp only at ha
  subst ha
  obtain ⟨hx, ht, h1, hh, hoff⟩ := hx
  have hij : xj ≠ j := fun h => by rw [h, hj] at hx; cases hx
  have lx : xj < m.length := (List.getElem?_eq_some_iff.1 hx).1
  have lj : j < m.length := (List.getElem?_eq_some_iff.1 hj).1
  have hp : thereP c p := hk.a.elim (fun h => by simp at h) (·.1)
  have hcn := cellsN_le c
  have hxl := hO.1
  have hsb := psl_b (c := c) (p := p) (w := w) (i := 0) hp
  have hthr : thr xs (pslA c p w 0) := ⟨by omega, by omega⟩
  obtain ⟨st', r', _, f22, _⟩ := hr.storeE hthr (IntKind.u64.wrap g)
  have f22' := fun K => f22 m K j hj
  have hsl := slot_eq (i := 0) hx hp.1
  have hnx : ∀ ro L, m[xj]? ≠ some (.cells 1 ro L) := fun ro L h => by rw [hx] at h; cases h
  have hnj : ∀ ro L, m[j]? ≠ some (.cells 1 ro L) := fun ro L h => by rw [hj] at h; cases h
  have hs1 : stepP c p g xs ⟨2, w, tk, hs⟩ = (⟨3, w, tk, hs⟩, xs.set (pslA c p w 0).toNat (IntKind.u64.wrap g)) := rfl
  rw [hs1]
  have hx' := fun K : MM => (Keep.app m K).get hx
  simp only [putC, rgC, cfC, List.cons_append, List.nil_append] at hx hsl hx'
  refine Fn_of rfl ?_
  simp (disch := first | assumption | omega | (simp only [List.length_cons, List.length_nil, List.length_set, List.length_append] <;> omega) | (simp only [get_mid, get_mid0, List.cons_append, List.append_assoc, List.getElem?_cons_zero, List.getElem?_cons_succ])) only [put_Put_lay, ek, ↓evW, ↓evQ, evB, evS, evL, List.map, AV.cells, List.all, AV.one, Bool.and_true, Bool.true_and, if_true, ↓thenQ_normal, ↓thenQ_exit, ↓thenQ_ret, ↓blockQ_normal, ↓blockQ_ret, ↓blockQ_exit, ↓CW_true, ↓CW_false, CW_true, CW_false, condT, condF, RQ_some, tupA_one, tupA_two, tupA_nil, Nat.reduceSub, Nat.reduceAdd, Nat.reduceMul, Nat.zero_add, Nat.add_zero, Nat.reduceLeDiff, Nat.reduceEqDiff, eqV, eqAll, fillA, and_self, and_true, true_and, Nat.le_refl, Bool.not_true, Bool.not_false, Bool.false_xor, Bool.true_xor, cond_true, cond_false, List.replicate, if_false, reduceIte, resAll, resA, ne_eq, decide_not, decide_true, decide_false, Int.reduceEq, Bool.not_true, Bool.not_false, not_true_eq_false, not_false_eq_true, cond_bool, cond_int, beq_self_eq_true, Int.reduceBEq, Bool.and_self, Bool.and_false, Bool.false_and, Bool.xor_false, Bool.xor_true, loadN_ldC, ldC_none, ldC_somes, stC_aggs, splice, storeN_stC, stC_int, stC_bool, stC_ptr, stC_nilp, stC_sl, stC_nils, getC_gcO, gcO_cells, W_draw_eq, ↓W_scope, ev_clear, evT, evF, evX, evM, ↓exitQ_normal, ↓exitQ_ret, ↓exitQ_exit, saA_self, saO_self, if_pos, if_neg, wrapI, get_concat, set_concat, Int.toNat_natCast, Int.toNat_zero, List.nil_append, Nat.mul_one, decide_eq_true, decide_eq_false, Int.reduceLE, Int.reduceLT, Int.reduceNeg, Bool.false_or, Bool.true_or, Bool.or_false, Bool.or_true, wrapU, Int.reduceAdd, Int.reduceSub, Int.reduceMul, List.append_assoc, List.length_append, get_mid, get_mid0, set_mid, set_mid0, List.length_set, List.length_cons, List.length_nil, List.cons_append, List.getElem?_append_left, List.set_append_left, get_at, get_at0, set_at, set_at0, List.getElem?_set_self, List.getElem?_set_ne, hx, hx', a210, hsl, a22, f22']
  refine ⟨rfl, KeepX.t ((((KeepX.refl m).setR _).setL _).app _), tv, hv, xj, ⟨?_, fun h => by simp at h, h1, ?_, ?_⟩, .inl rfl, .inl rfl, st', ?_, r'⟩
  · rw [List.getElem?_append_left (by simpa using lx), List.getElem?_set_self (by simpa using lx)]; rfl
  · exact ((hh.put hnj _).put (fun ro L h => by rw [List.getElem?_set_ne (fun h => hij h.symm)] at h; exact hnx ro L h) _).keep (.app _ _)
  · exact si_box hh hnx
  · rw [List.getElem?_append_left (by simpa using lj), List.getElem?_set_ne hij, List.getElem?_set_self lj]
def Gpsw : List (Nat × AFun Ob) := [(211, c_word_Grow), (212, amFunc Gch put_ring_change)]
set_option maxHeartbeats 8000000 in
theorem pswing_run {m : MM} {c : Cf} {p g o : Int} {s : PS} {qt xj j : Nat} {tv hv : AV} {xs : List Int} {st : MemSt} (hx : PM m xj c p g s qt tv hv) (hj : m[j]? = some (.abs (.mem st))) (hr : RelM xs o st) (hO : OkL c xs) (hk : POk c p s) (ha : s.a = 3) :
    Fn Gpsw put_Put_swing [.ptr xj 0, .ptr j 0] m (PfP m c p g xj j qt hv (stepP c p g xs s) (IntKind.u64.wrap (o + 1))) := by
  have a211 : assoc Gpsw 211 = some c_word_Grow := rfl
  have a212 : assoc Gpsw 212 = some (amFunc Gch put_ring_change) := rfl
  generalize Gpsw = G at a211 a212 ⊢
  obtain ⟨a, w, tk, hs⟩ := s
  simp only at ha
  subst ha
  obtain ⟨hx, ht, h1, hh, hoff⟩ := hx
  have hij : xj ≠ j := fun h => by rw [h, hj] at hx; cases hx
  have hp : thereP c p := hk.a.elim (fun h => by simp at h) (·.1)
  have hw := hk.w
  simp only at hw
  have hg := fun m : MM => grow_eq m (n := 1) hw
  have hrun := change_run (next := growW w 1) hx hj hr hO hp
  have hnx : ∀ ro L, m[xj]? ≠ some (.cells 1 ro L) := fun ro L h => by rw [hx] at h; cases h
  have hnj : ∀ ro L, m[j]? ≠ some (.cells 1 ro L) := fun ro L h => by rw [hj] at h; cases h
  have hs1 : stepP c p g xs ⟨3, w, tk, hs⟩ = (if xs.getD (wrdN c p) 0 = w then (⟨0, w, tk, []⟩, xs.set (wrdN c p) (growW w 1)) else (⟨1, w, tk, hs⟩, xs)) := rfl
  rw [hs1]
  simp only [putC, rgC, cfC, List.cons_append, List.nil_append] at hx
  refine Fn_of rfl ?_
  simp (disch := first | assumption | omega | (simp only [List.length_cons, List.length_nil, List.length_set, List.length_append] <;> omega) | (simp only [get_mid, get_mid0, List.cons_append, List.append_assoc, List.getElem?_cons_zero, List.getElem?_cons_succ])) only [put_Put_swing, ek, ↓evW, ↓evQ, evB, evS, evL, List.map, AV.cells, List.all, AV.one, Bool.and_true, Bool.true_and, if_true, ↓thenQ_normal, ↓thenQ_exit, ↓thenQ_ret, ↓blockQ_normal, ↓blockQ_ret, ↓blockQ_exit, ↓CW_true, ↓CW_false, CW_true, CW_false, condT, condF, RQ_some, tupA_one, tupA_two, tupA_nil, Nat.reduceSub, Nat.reduceAdd, Nat.reduceMul, Nat.zero_add, Nat.add_zero, Nat.reduceLeDiff, Nat.reduceEqDiff, eqV, eqAll, fillA, and_self, and_true, true_and, Nat.le_refl, Bool.not_true, Bool.not_false, Bool.false_xor, Bool.true_xor, cond_true, cond_false, List.replicate, if_false, reduceIte, resAll, resA, ne_eq, decide_not, decide_true, decide_false, Int.reduceEq, Bool.not_true, Bool.not_false, not_true_eq_false, not_false_eq_true, cond_bool, cond_int, beq_self_eq_true, Int.reduceBEq, Bool.and_self, Bool.and_false, Bool.false_and, Bool.xor_false, Bool.xor_true, loadN_ldC, ldC_none, ldC_somes, stC_aggs, splice, storeN_stC, stC_int, stC_bool, stC_ptr, stC_nilp, stC_sl, stC_nils, getC_gcO, gcO_cells, W_draw_eq, ↓W_scope, ev_clear, evT, evF, evX, evM, ↓exitQ_normal, ↓exitQ_ret, ↓exitQ_exit, saA_self, saO_self, if_pos, if_neg, wrapI, get_concat, set_concat, Int.toNat_natCast, Int.toNat_zero, List.nil_append, Nat.mul_one, decide_eq_true, decide_eq_false, Int.reduceLE, Int.reduceLT, Int.reduceNeg, Bool.false_or, Bool.true_or, Bool.or_false, Bool.or_true, wrapU, Int.reduceAdd, Int.reduceSub, Int.reduceMul, List.append_assoc, List.length_append, get_mid, get_mid0, set_mid, set_mid0, List.length_set, List.length_cons, List.length_nil, List.cons_append, List.getElem?_append_left, List.set_append_left, get_at, get_at0, set_at, set_at0, List.getElem?_set_self, List.getElem?_set_ne, hx, a211, hg, a212]
  refine OK_fn hrun ?_
  rintro _ m1 ⟨rfl, k1, x1, st', j1, r1⟩
  have lx1 : xj < m1.length := (List.getElem?_eq_some_iff.1 x1).1
  have hh1 : SI m1 false hs hv := (KeepX.t (qt := m.length) k1).si hnx hnj hh (si_lt hh (Nat.le_refl _))
  have nb : ∀ ro L, m1[xj]? ≠ some (.cells 1 ro L) := fun ro L h => by rw [x1] at h; cases h
  by_cases heq : xs.getD (wrdN c p) 0 = w
  · rw [if_pos heq] at x1 r1 ⊢
    have hd : decide (xs.getD (wrdN c p) 0 = w) = true := decide_eq_true heq
    simp only [rgC, cfC, List.cons_append, List.nil_append] at x1
    simp (disch := first | assumption | omega | (simp only [List.length_cons, List.length_nil, List.length_set, List.length_append] <;> omega) | (simp only [get_mid, get_mid0, List.cons_append, List.append_assoc, List.getElem?_cons_zero, List.getElem?_cons_succ])) only [ek, ↓evW, ↓evQ, evB, evS, evL, List.map, AV.cells, List.all, AV.one, Bool.and_true, Bool.true_and, if_true, ↓thenQ_normal, ↓thenQ_exit, ↓thenQ_ret, ↓blockQ_normal, ↓blockQ_ret, ↓blockQ_exit, ↓CW_true, ↓CW_false, CW_true, CW_false, condT, condF, RQ_some, tupA_one, tupA_two, tupA_nil, Nat.reduceSub, Nat.reduceAdd, Nat.reduceMul, Nat.zero_add, Nat.add_zero, Nat.reduceLeDiff, Nat.reduceEqDiff, eqV, eqAll, fillA, and_self, and_true, true_and, Nat.le_refl, Bool.not_true, Bool.not_false, Bool.false_xor, Bool.true_xor, cond_true, cond_false, List.replicate, if_false, reduceIte, resAll, resA, ne_eq, decide_not, decide_true, decide_false, Int.reduceEq, Bool.not_true, Bool.not_false, not_true_eq_false, not_false_eq_true, cond_bool, cond_int, beq_self_eq_true, Int.reduceBEq, Bool.and_self, Bool.and_false, Bool.false_and, Bool.xor_false, Bool.xor_true, loadN_ldC, ldC_none, ldC_somes, stC_aggs, splice, storeN_stC, stC_int, stC_bool, stC_ptr, stC_nilp, stC_sl, stC_nils, getC_gcO, gcO_cells, W_draw_eq, ↓W_scope, ev_clear, evT, evF, evX, evM, ↓exitQ_normal, ↓exitQ_ret, ↓exitQ_exit, saA_self, saO_self, if_pos, if_neg, wrapI, get_concat, set_concat, Int.toNat_natCast, Int.toNat_zero, List.nil_append, Nat.mul_one, decide_eq_true, decide_eq_false, Int.reduceLE, Int.reduceLT, Int.reduceNeg, Bool.false_or, Bool.true_or, Bool.or_false, Bool.or_true, wrapU, Int.reduceAdd, Int.reduceSub, Int.reduceMul, List.append_assoc, List.length_append, get_mid, get_mid0, set_mid, set_mid0, List.length_set, List.length_cons, List.length_nil, List.cons_append, List.getElem?_append_left, List.set_append_left, get_at, get_at0, set_at, set_at0, List.getElem?_set_self, List.getElem?_set_ne, hd, x1]
    refine ⟨rfl, KeepX.t (k1.setL _), tv, .nils, xj, ⟨by rw [List.getElem?_set_self lx1]; rfl, fun h => by simp at h, h1, Sl.nil, fun q o n c h => by cases h⟩, .inl rfl, .inr (.inl rfl), st', by rw [List.getElem?_set_ne hij]; exact j1, r1⟩
  · rw [if_neg heq] at x1 r1 ⊢
    have hd : decide (xs.getD (wrdN c p) 0 = w) = false := decide_eq_false heq
    simp (disch := first | assumption | omega | (simp only [List.length_cons, List.length_nil, List.length_set, List.length_append] <;> omega) | (simp only [get_mid, get_mid0, List.cons_append, List.append_assoc, List.getElem?_cons_zero, List.getElem?_cons_succ])) only [ek, ↓evW, ↓evQ, evB, evS, evL, List.map, AV.cells, List.all, AV.one, Bool.and_true, Bool.true_and, if_true, ↓thenQ_normal, ↓thenQ_exit, ↓thenQ_ret, ↓blockQ_normal, ↓blockQ_ret, ↓blockQ_exit, ↓CW_true, ↓CW_false, CW_true, CW_false, condT, condF, RQ_some, tupA_one, tupA_two, tupA_nil, Nat.reduceSub, Nat.reduceAdd, Nat.reduceMul, Nat.zero_add, Nat.add_zero, Nat.reduceLeDiff, Nat.reduceEqDiff, eqV, eqAll, fillA, and_self, and_true, true_and, Nat.le_refl, Bool.not_true, Bool.not_false, Bool.false_xor, Bool.true_xor, cond_true, cond_false, List.replicate, if_false, reduceIte, resAll, resA, ne_eq, decide_not, decide_true, decide_false, Int.reduceEq, Bool.not_true, Bool.not_false, not_true_eq_false, not_false_eq_true, cond_bool, cond_int, beq_self_eq_true, Int.reduceBEq, Bool.and_self, Bool.and_false, Bool.false_and, Bool.xor_false, Bool.xor_true, loadN_ldC, ldC_none, ldC_somes, stC_aggs, splice, storeN_stC, stC_int, stC_bool, stC_ptr, stC_nilp, stC_sl, stC_nils, getC_gcO, gcO_cells, W_draw_eq, ↓W_scope, ev_clear, evT, evF, evX, evM, ↓exitQ_normal, ↓exitQ_ret, ↓exitQ_exit, saA_self, saO_self, if_pos, if_neg, wrapI, get_concat, set_concat, Int.toNat_natCast, Int.toNat_zero, List.nil_append, Nat.mul_one, decide_eq_true, decide_eq_false, Int.reduceLE, Int.reduceLT, Int.reduceNeg, Bool.false_or, Bool.true_or, Bool.or_false, Bool.or_true, wrapU, Int.reduceAdd, Int.reduceSub, Int.reduceMul, List.append_assoc, List.length_append, get_mid, get_mid0, set_mid, set_mid0, List.length_set, List.length_cons, List.length_nil, List.cons_append, List.getElem?_append_left, List.set_append_left, get_at, get_at0, set_at, set_at0, List.getElem?_set_self, List.getElem?_set_ne, hd]
    exact ⟨rfl, KeepX.t k1, tv, hv, xj, ⟨x1, fun h => by simp at h, h1, hh1, si_box hh1 nb⟩, .inl rfl, .inl rfl, st', j1, r1⟩
end Go.Am.F09
end
section
namespace Go.Am.F09
open Go.Am.F06 Go.Am.F10
theorem half_eq {X : Type} {m : Mem X} {xj : Nat} {c : Cf} {p a w k : Int} {T : List AV} (hx : m[xj]? = some (.cells 13 false (rgC c p a w k T))) (h0 : 2 ≤ c.q) (h1 : c.q ≤ 64) : c_put_Put_half [.ptr xj 0] m = some (.int .u32 (c.q / 2), m) := by
  have he : c_put_Put_half (X := X) = amFunc [] put_Put_half := rfl
  rw [he]
  have e1 : c.q.tdiv 2 = c.q / 2 := Int.tdiv_eq_ediv_of_nonneg (by omega)
  have e2 : IntKind.u32.wrap (c.q / 2) = c.q / 2 := by rw [wrap32]; omega
  simp only [rgC, cfC, List.cons_append, List.nil_append] at hx
  refine Fn_eq (Fn_of rfl ?_)
  simp (disch := first | assumption | omega | (simp only [List.length_cons, List.length_nil, List.length_set, List.length_append] <;> omega) | (simp only [get_mid, get_mid0, List.cons_append, List.append_assoc, List.getElem?_cons_zero, List.getElem?_cons_succ])) only [put_Put_half, ek, ↓evW, ↓evQ, evB, evS, evL, List.map, AV.cells, List.all, AV.one, Bool.and_true, Bool.true_and, if_true, ↓thenQ_normal, ↓thenQ_exit, ↓thenQ_ret, ↓blockQ_normal, ↓blockQ_ret, ↓blockQ_exit, ↓CW_true, ↓CW_false, CW_true, CW_false, condT, condF, RQ_some, tupA_one, tupA_two, tupA_nil, Nat.reduceSub, Nat.reduceAdd, Nat.reduceMul, Nat.zero_add, Nat.add_zero, Nat.reduceLeDiff, Nat.reduceEqDiff, eqV, eqAll, fillA, and_self, and_true, true_and, Nat.le_refl, Bool.not_true, Bool.not_false, Bool.false_xor, Bool.true_xor, cond_true, cond_false, List.replicate, if_false, reduceIte, resAll, resA, ne_eq, decide_not, decide_true, decide_false, Int.reduceEq, Bool.not_true, Bool.not_false, not_true_eq_false, not_false_eq_true, cond_bool, cond_int, beq_self_eq_true, Int.reduceBEq, Bool.and_self, Bool.and_false, Bool.false_and, Bool.xor_false, Bool.xor_true, loadN_ldC, ldC_none, ldC_somes, stC_aggs, splice, storeN_stC, stC_int, stC_bool, stC_ptr, stC_nilp, stC_sl, stC_nils, getC_gcO, gcO_cells, W_draw_eq, ↓W_scope, ev_clear, evT, evF, evX, evM, ↓exitQ_normal, ↓exitQ_ret, ↓exitQ_exit, saA_self, saO_self, if_pos, if_neg, wrapI, get_concat, set_concat, Int.toNat_natCast, Int.toNat_zero, List.nil_append, Nat.mul_one, decide_eq_true, decide_eq_false, Int.reduceLE, Int.reduceLT, Int.reduceNeg, Bool.false_or, Bool.true_or, Bool.or_false, Bool.or_true, wrapU, Int.reduceAdd, Int.reduceSub, Int.reduceMul, List.append_assoc, List.length_append, get_mid, get_mid0, set_mid, set_mid0, List.length_set, List.length_cons, List.length_nil, List.cons_append, List.getElem?_append_left, List.set_append_left, get_at, get_at0, set_at, set_at0, List.getElem?_set_self, List.getElem?_set_ne, hx, e1, e2]
def Gptk : List (Nat × AFun Ob) := [(220, c_put_Put_half), (210, c_put_ring_slot), (24, memF loadS)]
set_option maxHeartbeats 16000000 in
theorem ptake_run {m : MM} {c : Cf} {p g o : Int} {s : PS} {qt xj j : Nat} {tv hv : AV} {xs : List Int} {st : MemSt} (hx : PM m xj c p g s qt tv hv) (hj : m[j]? = some (.abs (.mem st))) (hr : RelM xs o st) (hO : OkL c xs) (hk : POk c p s) (ha : s.a = 4) :
    Fn Gptk put_Put_take [.ptr xj 0, .ptr j 0] m (PfP m c p g xj j qt hv (stepP c p g xs s) (IntKind.u64.wrap (o + 1))) := by
  have a220 : assoc Gptk 220 = some c_put_Put_half := rfl
  have a210 : assoc Gptk 210 = some c_put_ring_slot := rfl
  have a24 : assoc Gptk 24 = some (memF loadS) := rfl
  generalize Gptk = G at a220 a210 a24 ⊢
  obtain ⟨a, w, tk, hs⟩ := s
  simp only at ha
  subst ha
  obtain ⟨hx, ht, h1, hh, hoff⟩ := hx
  have hij : xj ≠ j := fun h => by rw [h, hj] at hx; cases hx
  have lx : xj < m.length := (List.getElem?_eq_some_iff.1 hx).1
  have lj : j < m.length := (List.getElem?_eq_some_iff.1 hj).1
  have hpl : thereP c p ∧ (tk.length : Int) < c.q / 2 := hk.a.elim (fun h => by simp at h) (fun h => ⟨h.1, by have := h.2; simp only at this; omega⟩)
  obtain ⟨hp, hlt⟩ := hpl
  have hb := there_bounds hp
  have hcn := cellsN_le c
  have hxl := hO.1
  have hrw := ht (.inl rfl)
  simp only at hrw
  have htl := (hrw.sl (by rw [iC_len]; omega)).len
  have hsb := psl_b (c := c) (p := p) (w := w) (i := tk.length - c.q / 2) hp
  have hthr : thr xs (pslA c p w (tk.length - c.q / 2)) := ⟨by omega, by omega⟩
  obtain ⟨st', r', _, f24, _⟩ := hr.loadE hthr
  have f24' := fun K => f24 m K j hj
  generalize hv1 : xs.getD (pslA c p w (tk.length - c.q / 2)).toNat 0 = v at f24'
  have hhalf := fun K : MM => half_eq ((Keep.app m K).get hx) (by omega) (by omega)
  have hhalf0 := half_eq hx (by omega) (by omega)
  have hsl := fun K : MM => slot_eq (i := tk.length - c.q / 2) ((Keep.app m K).get hx) hp.1
  have hsl0 := slot_eq (i := tk.length - c.q / 2) hx hp.1
  have hnx : ∀ ro L, m[xj]? ≠ some (.cells 1 ro L) := fun ro L h => by rw [hx] at h; cases h
  have hnj : ∀ ro L, m[j]? ≠ some (.cells 1 ro L) := fun ro L h => by rw [hj] at h; cases h
  have hx' := fun K : MM => (Keep.app m K).get hx
  have eh : IntKind.i64.wrap (c.q / 2) = c.q / 2 := wrapI (by omega) (by omega)
  have hs1 : stepP c p g xs ⟨4, w, tk, hs⟩ = (⟨if (tk.length : Int) + 1 = c.q / 2 then 5 else 4, w, tk ++ [IntKind.i64.wrap v], hs⟩, xs) := by rw [← hv1]; rfl
  rw [hs1]
  have hone := h1
  simp only [AV.one] at hone
  -- the memory at the append
  have hqj : 0 < tk.length → qt ≠ j := fun h hq => by
    rcases hrw with ⟨h2, _⟩ | ⟨_, _, h2⟩
    · omega
    · rw [hq, hj] at h2; cases h2
  have hqx : 0 < tk.length → qt ≠ xj := fun h hq => by
    rcases hrw with ⟨h2, _⟩ | ⟨_, _, h2⟩
    · omega
    · rw [hq, hx] at h2; cases h2
  have hK0 : ∀ i, i < m.length → i ≠ j → (m.set j (.abs (.mem st')) ++ [Chunk.cells 6 false (cfC c), .cells 6 false (cfC c), .cells 7 false (cfC c ++ [.int .i64 p]), .cells 6 false (cfC c)])[i]? = m[i]? := fun i hi hne => by
    rw [List.getElem?_append_left (by simpa using hi), List.getElem?_set_ne (fun h => hne h.symm)]
  have hrw1 := hrw.keep (m' := m.set j (.abs (.mem st')) ++ [Chunk.cells 6 false (cfC c), .cells 6 false (cfC c), .cells 7 false (cfC c ++ [.int .i64 p]), .cells 6 false (cfC c)]) (fun h => hK0 qt (hrw.lt h) (hqj h))
  obtain ⟨tv', m2, hap, rw2, hl2, hf2⟩ := hrw1.push (x := [.int .i64 (IntKind.i64.wrap v)]) (bytes := 8) (by rw [iC_len]; omega) rfl (iC_one _) rfl (by omega) (by omega)
  have hlM : (m.set j (.abs (.mem st')) ++ [Chunk.cells 6 false (cfC c), .cells 6 false (cfC c), .cells 7 false (cfC c ++ [.int .i64 p]), .cells 6 false (cfC c)] : MM).length = m.length + 4 := by simp
  have hf3 : ∀ i, i < m.length → i ≠ j → (tk.length = 0 ∨ i ≠ qt) → m2[i]? = m[i]? := fun i hi h2 h3 => by rw [hf2 i (by omega) h3, hK0 i hi h2]
  have hj2 : m2[j]? = some (.abs (.mem st')) := by
    rw [hf2 j (by omega) (by by_cases h : 0 < tk.length; exact .inr (hqj h).symm; left; omega), List.getElem?_append_left (by simpa using lj), List.getElem?_set_self lj]
  have hx2 : m2[xj]? = some (.cells 13 false (rgC c p 4 w 0 [.int .i64 g, tv, hv])) := by
    rw [hf3 xj lx hij (by by_cases h : 0 < tk.length; exact .inr (hqx h).symm; left; omega)]; exact hx
  have htv : tv' = .sl (m.length + 4 + 1) 0 (tk.length + 1) none := by
    rcases rw2 with ⟨h, _⟩ | ⟨_, h, _⟩
    · omega
    · rw [h, hlM]
  subst htv
  have lx2 : xj < m2.length := (List.getElem?_eq_some_iff.1 hx2).1
  have htl2 : lenA (.sl (m.length + 4 + 1) 0 (tk.length + 1) none) = some (tk.length + 1) := (rw2.sl (by simp [iC])).len
  have hx3 : (m2.set xj (.cells 13 false (rgC c p 4 w 0 [.int .i64 g, (.sl (m.length + 4 + 1) 0 (tk.length + 1) none), hv])))[xj]? = some (.cells 13 false (rgC c p 4 w 0 [.int .i64 g, (.sl (m.length + 4 + 1) 0 (tk.length + 1) none), hv])) := List.getElem?_set_self lx2
  have hhalf3 := half_eq hx3 (by omega) (by omega)
  have hkT : KeepX xj xj m2 (m2.set xj (.cells 13 false (rgC c p 4 w 0 [.int .i64 g, (.sl (m.length + 4 + 1) 0 (tk.length + 1) none), hv]))) := (KeepX.refl _).setL _
  have hnx2 : ∀ ro L, m2[xj]? ≠ some (.cells 1 ro L) := fun ro L h => by rw [hx2] at h; cases h
  have kT : ∀ C, KeepT xj j qt m (m2.set xj C) := fun C => ⟨by simp only [List.length_set]; omega, fun i hi h1 h2 h3 => by rw [List.getElem?_set_ne (fun h => h1 h.symm), hf3 i hi h2 (.inr h3)]⟩
  have hh2 : ∀ C, SI (m2.set xj C) false hs hv := fun C => (kT C).si hnx hnj hh hoff
  have hoff2 : Off (m.length + 4 + 1) hv := si_lt hh (by omega)
  have rw3 : ∀ C, Rw (m2.set xj C) (m.length + 4 + 1) (tk.length + 1) 1 (iC tk ++ [.int .i64 (IntKind.i64.wrap v)]) (.sl (m.length + 4 + 1) 0 (tk.length + 1) none) := fun C => by
    have := rw2.keep (m' := m2.set xj C) (fun _ => by rw [List.getElem?_set_ne (by rw [hlM]; omega)])
    rw [hlM] at this; exact this
  have hiC : iC tk ++ [.int .i64 (IntKind.i64.wrap v)] = iC (tk ++ [IntKind.i64.wrap v]) := (iC_app _ _).symm
  simp only [putC, rgC, cfC, List.cons_append, List.nil_append] at hx hsl hsl0 hx' hx2 hx3 hhalf3
  simp only [cfC, List.append_assoc, List.cons_append, List.nil_append, List.length_append, List.length_set, List.length_cons, List.length_nil, Nat.zero_add, Nat.reduceAdd] at hap
  refine Fn_of rfl ?_
  simp (disch := first | assumption | omega | (simp only [List.length_cons, List.length_nil, List.length_set, List.length_append] <;> omega) | (simp only [get_mid, get_mid0, List.cons_append, List.append_assoc, List.getElem?_cons_zero, List.getElem?_cons_succ])) only [put_Put_take, ek, ↓evW, ↓evQ, evB, evS, evL, List.map, AV.cells, List.all, AV.one, Bool.and_true, Bool.true_and, if_true, ↓thenQ_normal, ↓thenQ_exit, ↓thenQ_ret, ↓blockQ_normal, ↓blockQ_ret, ↓blockQ_exit, ↓CW_true, ↓CW_false, CW_true, CW_false, condT, condF, RQ_some, tupA_one, tupA_two, tupA_nil, Nat.reduceSub, Nat.reduceAdd, Nat.reduceMul, Nat.zero_add, Nat.add_zero, Nat.reduceLeDiff, Nat.reduceEqDiff, eqV, eqAll, fillA, and_self, and_true, true_and, Nat.le_refl, Bool.not_true, Bool.not_false, Bool.false_xor, Bool.true_xor, cond_true, cond_false, List.replicate, if_false, reduceIte, resAll, resA, ne_eq, decide_not, decide_true, decide_false, Int.reduceEq, Bool.not_true, Bool.not_false, not_true_eq_false, not_false_eq_true, cond_bool, cond_int, beq_self_eq_true, Int.reduceBEq, Bool.and_self, Bool.and_false, Bool.false_and, Bool.xor_false, Bool.xor_true, loadN_ldC, ldC_none, ldC_somes, stC_aggs, splice, storeN_stC, stC_int, stC_bool, stC_ptr, stC_nilp, stC_sl, stC_nils, getC_gcO, gcO_cells, W_draw_eq, ↓W_scope, ev_clear, evT, evF, evX, evM, ↓exitQ_normal, ↓exitQ_ret, ↓exitQ_exit, saA_self, saO_self, if_pos, if_neg, wrapI, get_concat, set_concat, Int.toNat_natCast, Int.toNat_zero, List.nil_append, Nat.mul_one, decide_eq_true, decide_eq_false, Int.reduceLE, Int.reduceLT, Int.reduceNeg, Bool.false_or, Bool.true_or, Bool.or_false, Bool.or_true, wrapU, Int.reduceAdd, Int.reduceSub, Int.reduceMul, List.append_assoc, List.length_append, get_mid, get_mid0, set_mid, set_mid0, List.length_set, List.length_cons, List.length_nil, List.cons_append, List.getElem?_append_left, List.set_append_left, get_at, get_at0, set_at, set_at0, List.getElem?_set_self, List.getElem?_set_ne, hx, hx', ev_len, htl, a220, hhalf0, eh, a210, hsl0, a24, f24', evA, fillA, repeatL, List.flatten_cons, List.flatten_nil, hap, hone, hx2, hx3, htl2, hhalf3]
  by_cases hq : (tk.length : Int) + 1 = c.q / 2
  · rw [if_pos hq]
    simp (disch := first | assumption | omega | (simp only [List.length_cons, List.length_nil, List.length_set, List.length_append] <;> omega) | (simp only [get_mid, get_mid0, List.cons_append, List.append_assoc, List.getElem?_cons_zero, List.getElem?_cons_succ])) only [ek, ↓evW, ↓evQ, evB, evS, evL, List.map, AV.cells, List.all, AV.one, Bool.and_true, Bool.true_and, if_true, ↓thenQ_normal, ↓thenQ_exit, ↓thenQ_ret, ↓blockQ_normal, ↓blockQ_ret, ↓blockQ_exit, ↓CW_true, ↓CW_false, CW_true, CW_false, condT, condF, RQ_some, tupA_one, tupA_two, tupA_nil, Nat.reduceSub, Nat.reduceAdd, Nat.reduceMul, Nat.zero_add, Nat.add_zero, Nat.reduceLeDiff, Nat.reduceEqDiff, eqV, eqAll, fillA, and_self, and_true, true_and, Nat.le_refl, Bool.not_true, Bool.not_false, Bool.false_xor, Bool.true_xor, cond_true, cond_false, List.replicate, if_false, reduceIte, resAll, resA, ne_eq, decide_not, decide_true, decide_false, Int.reduceEq, Bool.not_true, Bool.not_false, not_true_eq_false, not_false_eq_true, cond_bool, cond_int, beq_self_eq_true, Int.reduceBEq, Bool.and_self, Bool.and_false, Bool.false_and, Bool.xor_false, Bool.xor_true, loadN_ldC, ldC_none, ldC_somes, stC_aggs, splice, storeN_stC, stC_int, stC_bool, stC_ptr, stC_nilp, stC_sl, stC_nils, getC_gcO, gcO_cells, W_draw_eq, ↓W_scope, ev_clear, evT, evF, evX, evM, ↓exitQ_normal, ↓exitQ_ret, ↓exitQ_exit, saA_self, saO_self, if_pos, if_neg, wrapI, get_concat, set_concat, Int.toNat_natCast, Int.toNat_zero, List.nil_append, Nat.mul_one, decide_eq_true, decide_eq_false, Int.reduceLE, Int.reduceLT, Int.reduceNeg, Bool.false_or, Bool.true_or, Bool.or_false, Bool.or_true, wrapU, Int.reduceAdd, Int.reduceSub, Int.reduceMul, List.append_assoc, List.length_append, get_mid, get_mid0, set_mid, set_mid0, List.length_set, List.length_cons, List.length_nil, List.cons_append, List.getElem?_append_left, List.set_append_left, get_at, get_at0, set_at, set_at0, List.getElem?_set_self, List.getElem?_set_ne, hq, hx3, List.set_set]
    refine ⟨rfl, kT _, .sl (m.length + 4 + 1) 0 (tk.length + 1) none, hv, m.length + 4 + 1, ⟨by rw [List.getElem?_set_self lx2]; rfl, fun _ => ?_, rw2.one, hh2 _, hoff2⟩, .inr (.inl ⟨by omega, by have := rw2.lt (by omega); rw [hlM] at this; simpa using this⟩), .inl rfl, st', by rw [List.getElem?_set_ne hij]; exact hj2, r'⟩
    rw [← hiC, List.length_append]; exact rw3 _
  · rw [if_neg hq]
    simp (disch := first | assumption | omega | (simp only [List.length_cons, List.length_nil, List.length_set, List.length_append] <;> omega) | (simp only [get_mid, get_mid0, List.cons_append, List.append_assoc, List.getElem?_cons_zero, List.getElem?_cons_succ])) only [ek, ↓evW, ↓evQ, evB, evS, evL, List.map, AV.cells, List.all, AV.one, Bool.and_true, Bool.true_and, if_true, ↓thenQ_normal, ↓thenQ_exit, ↓thenQ_ret, ↓blockQ_normal, ↓blockQ_ret, ↓blockQ_exit, ↓CW_true, ↓CW_false, CW_true, CW_false, condT, condF, RQ_some, tupA_one, tupA_two, tupA_nil, Nat.reduceSub, Nat.reduceAdd, Nat.reduceMul, Nat.zero_add, Nat.add_zero, Nat.reduceLeDiff, Nat.reduceEqDiff, eqV, eqAll, fillA, and_self, and_true, true_and, Nat.le_refl, Bool.not_true, Bool.not_false, Bool.false_xor, Bool.true_xor, cond_true, cond_false, List.replicate, if_false, reduceIte, resAll, resA, ne_eq, decide_not, decide_true, decide_false, Int.reduceEq, Bool.not_true, Bool.not_false, not_true_eq_false, not_false_eq_true, cond_bool, cond_int, beq_self_eq_true, Int.reduceBEq, Bool.and_self, Bool.and_false, Bool.false_and, Bool.xor_false, Bool.xor_true, loadN_ldC, ldC_none, ldC_somes, stC_aggs, splice, storeN_stC, stC_int, stC_bool, stC_ptr, stC_nilp, stC_sl, stC_nils, getC_gcO, gcO_cells, W_draw_eq, ↓W_scope, ev_clear, evT, evF, evX, evM, ↓exitQ_normal, ↓exitQ_ret, ↓exitQ_exit, saA_self, saO_self, if_pos, if_neg, wrapI, get_concat, set_concat, Int.toNat_natCast, Int.toNat_zero, List.nil_append, Nat.mul_one, decide_eq_true, decide_eq_false, Int.reduceLE, Int.reduceLT, Int.reduceNeg, Bool.false_or, Bool.true_or, Bool.or_false, Bool.or_true, wrapU, Int.reduceAdd, Int.reduceSub, Int.reduceMul, List.append_assoc, List.length_append, get_mid, get_mid0, set_mid, set_mid0, List.length_set, List.length_cons, List.length_nil, List.cons_append, List.getElem?_append_left, List.set_append_left, get_at, get_at0, set_at, set_at0, List.getElem?_set_self, List.getElem?_set_ne, hq]
    refine ⟨rfl, kT _, .sl (m.length + 4 + 1) 0 (tk.length + 1) none, hv, m.length + 4 + 1, ⟨by rw [List.getElem?_set_self lx2]; rfl, fun _ => ?_, rw2.one, hh2 _, hoff2⟩, .inr (.inl ⟨by omega, by have := rw2.lt (by omega); rw [hlM] at this; simpa using this⟩), .inl rfl, st', by rw [List.getElem?_set_ne hij]; exact hj2, r'⟩
    rw [← hiC, List.length_append]; exact rw3 _
end Go.Am.F09
end
