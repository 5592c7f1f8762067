import Derived.Test.YtmgahjccidmlaaaGreatXG20
set_option linter.unusedSimpArgs false
set_option linter.unusedVariables false
section
namespace Go.Am.F11
open Go.Am.F06 Go.Am.F10 Go.Am.F09
def Gis11:List (Nat × AFun Ob):=[(276,amFunc Gsh steal_Steal_Hands),(279,amFunc Glf steal_Steal_Left),(278,c_steal_Steal_Got),(282,amFunc [] ref11_Hands),(84,F10.c_kit_SameInts),(275,c_steal_Steal_Many),(277,c_steal_Steal_Done)]
def isL:AC:=sqT 7 law11_is.body
theorem is_body:law11_is={ nloc:=16,npar:=2,res:=[.loc 3],body:=.seq (sqN 0 law11_is.body) (.seq (sqN 1 law11_is.body) (.seq (sqN 2 law11_is.body) (.seq (sqN 3 law11_is.body) (.seq (sqN 4 law11_is.body) (.seq (sqN 5 law11_is.body) (.seq (sqN 6 law11_is.body) isL)))))) }:=rfl
def IhI(mm M1:MM) (xj b n:Nat) (y h o:AV) (B:Nat) (k:Nat) (e:List AV) (m:MM):Prop:=∃ (u:Nat) (z6 z7 z8 z9 z11 z12 z13 z14 z15:AV),
 e=[.ptr xj 0,y,.ptr b 0,.bool false,h,o,z6,z7,z8,z9,.int .i64 u,z11,z12,z13,z14,z15]∧k=n - u∧u≤n∧Fl mm m n h B∧M1.length≤m.length∧∀ a,a < M1.length→B≤a→m[a]?=M1[a]?
def IoI(mm:MM) (xj b n:Nat) (y h o z10:AV) (B:Nat) (k:Nat) (e:List AV) (m:MM):Prop:=∃ (u:Nat) (z6 z7 z8 z9 z12 z13 z14 z15:AV),
 e=[.ptr xj 0,y,.ptr b 0,.bool false,h,o,z6,z7,z8,z9,z10,.int .i64 u,z12,z13,z14,z15]∧k=n - u∧u≤n∧Fl mm m n o B
set_option maxHeartbeats 8000000 in
theorem isL_run{G:List (Nat × AFun Ob)} {mm m2:MM} {xj b B:Nat} {y h o z6 z7 z8 z9 z10 z11 z12 z13 z14 z15:AV} {hs os:List Int} (hF0:Fl mm m2 hs.length h B) (hB:mm.length≤B) (s2:SI m2 true os o) (f2:Fr B o) (n1:hs.length≤1000) (n2:os.length≤1000) :
  W G isL (resQ [.loc 3] fun r m'=>r = .bool true∧Keep mm m') [.ptr xj 0,y,.ptr b 0,.bool false,h,o,z6,z7,z8,z9,z10,z11,z12,z13,z14,z15] m2:=by
 simp(disch:=first|assumption|omega|(simp only[zl]<;>omega)|(simp only[zn])) only[isL,sqT,law11_is,↓zd,zk,seval,reduceIte,List.map,AV.cells,List.all,AV.one,eqV,eqAll,splice,fillA,List.replicate,resAll,resA,zm,zg]
 refine W_loop (IhI mm m2 xj b hs.length y h o B) hs.length (by simp only[FUEL];omega) ⟨0,_,_,_,_,_,_,_,_,_,rfl,rfl,by omega,hF0,Nat.le_refl _,fun _ _ _=>rfl⟩ ?_
 rintro k e M ⟨u,w6,w7,w8,w9,w11,w12,w13,w14,w15,rfl,rfl,hu,hF,hlM,hM⟩
 have hln:=hF.len
 rcases Nat.lt_or_ge u hs.length with hu2|hu2
 ·obtain⟨q,oo,cap,L,rfl,b1,b2,b3,b4,hF'⟩:=hF.put hu2 77
  simp(disch:=first|assumption|omega|(simp only[zl]<;>omega)|(simp only[zn])) only[↓zd,zk,seval,reduceIte,List.map,AV.cells,List.all,AV.one,eqV,eqAll,splice,fillA,List.replicate,resAll,resA,zm,zg,ev_len,hln,b1]
  refine⟨hs.length - (u+1),by omega,u+1,_,_,_,_,_,_,_,_,_,rfl,rfl,by omega,hF',by simpa using hlM,fun a ha hB=>by rw[List.getElem?_set_ne (by omega)];exact hM a ha hB⟩
 ·simp(disch:=first|assumption|omega|(simp only[zl]<;>omega)|(simp only[zn])) only[↓zd,zk,seval,reduceIte,List.map,AV.cells,List.all,AV.one,eqV,eqAll,splice,fillA,List.replicate,resAll,resA,zm,zg,ev_len,hln]
  have so:SI M true os o:=Sl.stay s2 fun q oo cap hq h0=>by
   refine hM q (Sl.lt s2 hq h0).1 ?_
   rcases f2 with h|⟨_,_,_,_,h,h'⟩
   ·rw[h] at hq;cases hq
   ·rw[h] at hq;injection hq with e1;omega
  have hFo:Fl mm M os.length o M.length:=⟨hF.keep,⟨os,rfl,so⟩,by
   rcases f2 with h|⟨_,_,_,_,h,h'⟩
   ·exact .inl h
   ·exact .inr ⟨_,_,_,_,h,Nat.le_trans hB h'⟩,fun q oo cap hq h0=>(Sl.lt so hq h0).1,so.len⟩
  refine W_loop (IoI mm xj b os.length y h o _ M.length) os.length (by simp only[FUEL];omega) ⟨0,_,_,_,_,_,_,_,_,rfl,rfl,by omega,hFo⟩ ?_
  rintro k e M2 ⟨u2,v6,v7,v8,v9,v12,v13,v14,v15,rfl,rfl,hu3,hG⟩
  have hlo:=hG.len
  rcases Nat.lt_or_ge u2 os.length with hu4|hu4
  ·obtain⟨q,oo,cap,L,rfl,b1,b2,b3,b4,hG'⟩:=hG.put hu4 77
   simp(disch:=first|assumption|omega|(simp only[zl]<;>omega)|(simp only[zn])) only[↓zd,zk,seval,reduceIte,List.map,AV.cells,List.all,AV.one,eqV,eqAll,splice,fillA,List.replicate,resAll,resA,zm,zg,ev_len,hlo,b1]
   exact⟨os.length - (u2+1),by omega,u2+1,_,_,_,_,_,_,_,_,rfl,rfl,by omega,hG'⟩
  ·simp(disch:=first|assumption|omega|(simp only[zl]<;>omega)|(simp only[zn])) only[↓zd,zk,seval,reduceIte,List.map,AV.cells,List.all,AV.one,eqV,eqAll,splice,fillA,List.replicate,resAll,resA,zm,zg,ev_len,hlo]
   exact hG.keep
set_option maxHeartbeats 16000000 in
theorem is_run {m : MM} {P : Nat → Prop} {c c' : Cf} {p p' v v' : Int} {xj : Nat} {s : TS} {bv : AV} {ly : List AV} {F : AV → Prop} (hT : TM m P c p v xj s) (hok : TOk c p v s) (hcc : RcT c c' p p' v v' s) (hb : SI m false s.bl bv) (hly : RLy m c' p' s F ly) :
    Fn Gis11 law11_is [.ptr xj 0, .agg (rsC c' p' v' s.a s.w bv s.k ly)] m (fun r m' => r = .bool true ∧ Keep m m') := by
  have a276 : assoc Gis11 276 = some (amFunc Gsh steal_Steal_Hands) := rfl
  have a279 : assoc Gis11 279 = some (amFunc Glf steal_Steal_Left) := rfl
  have a278 : assoc Gis11 278 = some c_steal_Steal_Got := rfl
  have a282 : assoc Gis11 282 = some (amFunc [] ref11_Hands) := rfl
  have a84 : assoc Gis11 84 = some F10.c_kit_SameInts := rfl
  have a275 : assoc Gis11 275 = some c_steal_Steal_Many := rfl
  have a277 : assoc Gis11 277 = some c_steal_Steal_Done := rfl
  have hse : F10.c_kit_SameInts (X := Ob) = amFunc [] F10.kit_SameInts := rfl
  generalize Gis11 = G at a276 a279 a278 a282 a84 a275 a277 ⊢
  have okc := hcc.ok hok
  have hone2 := slOne hb
  simp only [AV.one] at hone2
  have hrh := fun (M : MM) (k : Keep m M) (hl : RLy M c' p' s F ly) => rhands_run (c := c') (p := p') (v := v') (hb.keep k) hl okc
  have hkeep : ∀ M, Keep m M → RLy M c' p' s F ly := fun M k => by
    rcases hly with h | ⟨h1, lv, h, h2, h3, h4⟩
    · exact .inl h
    · exact .inr ⟨h1, lv, h, h2.keep k, fun h0 => (h3 h0).keep k, h4⟩
  rw [is_body]
  refine Fn_of rfl ?_
  have hkk := hok.k
  by_cases hk : s.k = 0
  · have hz := rzero hly hk
    subst hz
    have hg : gotB s = false := by unfold gotB; exact decide_eq_false (fun h => by omega)
    have hgv : gotV s = 0 := by unfold gotV; exact if_neg (fun h => by omega)
    have hlf : leftT s = [] := by unfold leftT; exact if_neg (fun h => by omega)
    have k1 := Keep.app m [Chunk.cells 24 false (rsC c' p' v' s.a s.w bv s.k zlC)]
    simp only [rsC, zlC, rlC, zeroC, cfC, List.cons_append, List.nil_append] at k1
    simp (disch := first | assumption | omega | (simp only [zl] <;> omega) | (simp only [zn])) only [sqN, law11_is, ↓zd, zk, seval, reduceIte, List.map, AV.cells, List.all, AV.one, eqV, eqAll, splice, fillA, List.replicate, resAll, resA, zm, zg, rsC, zlC, rlC, zeroC, cfC, hone2, a276]
    refine OK_fn (shands_run (hT.others (KeepN.of k1)) hok) ?_
    rintro h m1 ⟨k2, s1, f1⟩
    have k02 := k1.trans k2
    have gb := k2.get (i := m.length) (by rw [get_mid0]; rfl)
    simp (disch := first | assumption | omega | (simp only [zl] <;> omega) | (simp only [zn])) only [↓zd, zk, seval, reduceIte, List.map, AV.cells, List.all, AV.one, eqV, eqAll, splice, fillA, List.replicate, resAll, resA, zm, zg, a279]
    refine OK_fn (sleft_run (hT.others (KeepN.of k02)) hok) ?_
    rintro l m2 ⟨k3, s2, f2⟩
    have k03 := k02.trans k3
    have gb2 := k3.get gb
    have hgot := sgot_eq (hT.others (KeepN.of k03)) hok
    rw [hg, hgv] at hgot
    have hlen1 : (handsT s).length ≤ 1 := by unfold handsT; rw [if_pos hk]; simp
    have hlen2 : (leftT s).length ≤ 0 := by rw [hlf]; simp
    by_cases ha : s.a = 0
    · simp (disch := first | assumption | omega | (simp only [zl] <;> omega) | (simp only [zn])) only [↓zd, zk, seval, reduceIte, List.map, AV.cells, List.all, AV.one, eqV, eqAll, splice, fillA, List.replicate, resAll, resA, zm, zg, a278, hgot, gb2, ha, hk, a282]
      have hr := hrh m2 k03 (hkeep m2 k03)
      simp only [rsC, zlC, rlC, zeroC, cfC, List.cons_append, List.nil_append, hk, ha] at hr
      refine OKT_fn hr ?_
      rintro r m3 ⟨k4, s3⟩
      have k04 := k03.trans k4
      have hT4 := hT.others (KeepN.of k04)
      have hmn := hT4.mn
      have hdn := hT4.dn
      rw [hk] at hmn
      rw [decide_eq_true ha] at hdn
      have gb3 := k4.get gb2
      have s1' := (s1.keep k3).keep k4
      have e1 := Fn_eq (same_run s1' s3 (by simp only [FUEL]; omega))
      have e2 := Fn_eq (same_run (s2.keep k4) (ys := leftT s) (b := .nils) (w2 := false) (by rw [hlf]; exact Sl.nil) (by simp only [FUEL]; omega))
      rw [← hse] at e1 e2
      simp only [decide_true] at e1 e2
      simp (disch := first | assumption | omega | (simp only [zl] <;> omega) | (simp only [zn])) only [↓zd, zk, seval, reduceIte, List.map, AV.cells, List.all, AV.one, eqV, eqAll, splice, fillA, List.replicate, resAll, resA, zm, zg, a84, e1, e2, a275, hmn, gb3, a277, hdn, hk, ha]
      refine isL_run (B := m1.length) ⟨k04, ⟨_, rfl, s1'⟩, ?_, fun q oo cap hq h0 => (Sl.lt s1 hq h0).1, s1.len⟩ (k02.1) (s2.keep k4) f2 (by omega) (by omega)
      rcases f1 with h | ⟨q, o, n, cap, h, h'⟩
      · exact .inl h
      · exact .inr ⟨q, o, n, cap, h, by simp at h'; omega⟩
    · have haf : decide (s.a = 0) = false := decide_eq_false ha
      simp (disch := first | assumption | omega | (simp only [zl] <;> omega) | (simp only [zn])) only [↓zd, zk, seval, reduceIte, List.map, AV.cells, List.all, AV.one, eqV, eqAll, splice, fillA, List.replicate, resAll, resA, zm, zg, a278, hgot, gb2, ha, hk, a282]
      have hr := hrh m2 k03 (hkeep m2 k03)
      simp only [rsC, zlC, rlC, zeroC, cfC, List.cons_append, List.nil_append, hk] at hr
      refine OKT_fn hr ?_
      rintro r m3 ⟨k4, s3⟩
      have k04 := k03.trans k4
      have hT4 := hT.others (KeepN.of k04)
      have hmn := hT4.mn
      have hdn := hT4.dn
      rw [hk] at hmn
      rw [haf] at hdn
      have gb3 := k4.get gb2
      have s1' := (s1.keep k3).keep k4
      have e1 := Fn_eq (same_run s1' s3 (by simp only [FUEL]; omega))
      have e2 := Fn_eq (same_run (s2.keep k4) (ys := leftT s) (b := .nils) (w2 := false) (by rw [hlf]; exact Sl.nil) (by simp only [FUEL]; omega))
      rw [← hse] at e1 e2
      simp only [decide_true] at e1 e2
      simp (disch := first | assumption | omega | (simp only [zl] <;> omega) | (simp only [zn])) only [↓zd, zk, seval, reduceIte, List.map, AV.cells, List.all, AV.one, eqV, eqAll, splice, fillA, List.replicate, resAll, resA, zm, zg, a84, e1, e2, a275, hmn, gb3, a277, hdn, hk, ha]
      refine isL_run (B := m1.length) ⟨k04, ⟨_, rfl, s1'⟩, ?_, fun q oo cap hq h0 => (Sl.lt s1 hq h0).1, s1.len⟩ (k02.1) (s2.keep k4) f2 (by omega) (by omega)
      rcases f1 with h | ⟨q, o, n, cap, h, h'⟩
      · exact .inl h
      · exact .inr ⟨q, o, n, cap, h, by simp at h'; omega⟩
  · obtain ⟨q1, q2, q3, q4, q5⟩ := hkk.resolve_left (fun h => hk h.1)
    obtain ⟨_, lv, rfl, sl, nx, _⟩ := hly.resolve_left (fun h => hk h.1)
    have honel := slOne sl
    simp only [AV.one] at honel
    have hbb := hok.b
    have hls := q4.l
    have hkp : decide (0 < s.k) = true := decide_eq_true q1
    have hlen1 : (handsT s).length ≤ 101 := by unfold handsT; rw [if_neg hk, List.length_append, List.length_take]; omega
    have hlen2 : (leftT s).length ≤ 100 := by unfold leftT; split
                                              · omega
                                              · simp
    obtain ⟨q, oo, cap, ro, L, rfl, b2, b3, b4, b5⟩ := hb.val (by omega)
    obtain ⟨x, hx⟩ : ∃ x, s.bl[0]? = some x := ⟨_, List.getElem?_eq_getElem (by omega)⟩
    have b6 := b5 0 x hx
    rw [Nat.add_zero] at b6
    have hx0 : s.bl.getD 0 0 = x := by rw [List.getD_eq_getElem?_getD, hx]; rfl
    have k1 := Keep.app m [Chunk.cells 24 false (rsC c' p' v' s.a s.w (.sl q oo s.bl.length cap) s.k (rlC c' p' s.ly lv))]
    simp only [rsC, rlC, cfC, List.cons_append, List.nil_append] at k1
    simp (disch := first | assumption | omega | (simp only [zl] <;> omega) | (simp only [zn])) only [sqN, law11_is, ↓zd, zk, seval, reduceIte, List.map, AV.cells, List.all, AV.one, eqV, eqAll, splice, fillA, List.replicate, resAll, resA, zm, zg, rsC, rlC, cfC, hone2, honel, a276]
    refine OK_fn (shands_run (hT.others (KeepN.of k1)) hok) ?_
    rintro h m1 ⟨k2, s1, f1⟩
    have k02 := k1.trans k2
    have gb := k2.get (i := m.length) (by rw [get_mid0]; rfl)
    simp (disch := first | assumption | omega | (simp only [zl] <;> omega) | (simp only [zn])) only [↓zd, zk, seval, reduceIte, List.map, AV.cells, List.all, AV.one, eqV, eqAll, splice, fillA, List.replicate, resAll, resA, zm, zg, a279]
    refine OK_fn (sleft_run (hT.others (KeepN.of k02)) hok) ?_
    rintro l m2 ⟨k3, s2, f2⟩
    have k03 := k02.trans k3
    have gb2 := k3.get gb
    have hgot := sgot_eq (hT.others (KeepN.of k03)) hok
    by_cases ha : s.a = 0
    · have hg : gotB s = true := by unfold gotB; exact decide_eq_true ⟨ha, q1⟩
      have hgv : gotV s = x := by unfold gotV; rw [if_pos ⟨ha, q1⟩]; exact hx0
      have hlf : leftT s = s.ly.ls := by unfold leftT; exact if_pos ⟨ha, q1⟩
      rw [hg, hgv] at hgot
      simp (disch := first | assumption | omega | (simp only [zl] <;> omega) | (simp only [zn])) only [↓zd, zk, seval, reduceIte, List.map, AV.cells, List.all, AV.one, eqV, eqAll, splice, fillA, List.replicate, resAll, resA, zm, zg, a278, hgot, gb2, ha, hkp, q1, a282]
      have hr := hrh m2 k03 (hkeep m2 k03)
      simp only [rsC, rlC, cfC, List.cons_append, List.nil_append, ha] at hr
      refine OKT_fn hr ?_
      rintro r m3 ⟨k4, s3⟩
      have k04 := k03.trans k4
      have hT4 := hT.others (KeepN.of k04)
      have hmn := hT4.mn
      have hdn := hT4.dn
      rw [decide_eq_true ha] at hdn
      have gb3 := k4.get gb2
      have s1' := (s1.keep k3).keep k4
      have e1 := Fn_eq (same_run s1' s3 (by simp only [FUEL]; omega))
      have e2 := Fn_eq (same_run (s2.keep k4) (ys := leftT s) (b := lv) (w2 := false) (by rw [hlf]; exact sl.keep k04) (by simp only [FUEL]; omega))
      rw [← hse] at e1 e2
      simp only [decide_true] at e1 e2
      have b2' := k04.get b2
      simp (disch := first | assumption | omega | (simp only [zl] <;> omega) | (simp only [zn])) only [↓zd, zk, seval, reduceIte, List.map, AV.cells, List.all, AV.one, eqV, eqAll, splice, fillA, List.replicate, resAll, resA, zm, zg, a84, e1, e2, a275, hmn, gb3, a277, hdn, hkp, q1, ha, b2', b6]
      refine isL_run (B := m1.length) ⟨k04, ⟨_, rfl, s1'⟩, ?_, fun q oo cap hq h0 => (Sl.lt s1 hq h0).1, s1.len⟩ (k02.1) (s2.keep k4) f2 (by omega) (by omega)
      rcases f1 with h | ⟨q, o, n, cap, h, h'⟩
      · exact .inl h
      · exact .inr ⟨q, o, n, cap, h, by simp at h'; omega⟩
    · have hg : gotB s = false := by unfold gotB; exact decide_eq_false (fun h => ha h.1)
      have hgv : gotV s = 0 := by unfold gotV; exact if_neg (fun h => ha h.1)
      have hlf : leftT s = [] := by unfold leftT; exact if_neg (fun h => ha h.1)
      have haf : decide (s.a = 0) = false := decide_eq_false ha
      rw [hg, hgv] at hgot
      simp (disch := first | assumption | omega | (simp only [zl] <;> omega) | (simp only [zn])) only [↓zd, zk, seval, reduceIte, List.map, AV.cells, List.all, AV.one, eqV, eqAll, splice, fillA, List.replicate, resAll, resA, zm, zg, a278, hgot, gb2, ha, hkp, q1, a282]
      have hr := hrh m2 k03 (hkeep m2 k03)
      simp only [rsC, rlC, cfC, List.cons_append, List.nil_append] at hr
      refine OKT_fn hr ?_
      rintro r m3 ⟨k4, s3⟩
      have k04 := k03.trans k4
      have hT4 := hT.others (KeepN.of k04)
      have hmn := hT4.mn
      have hdn := hT4.dn
      rw [haf] at hdn
      have gb3 := k4.get gb2
      have s1' := (s1.keep k3).keep k4
      have e1 := Fn_eq (same_run s1' s3 (by simp only [FUEL]; omega))
      have e2 := Fn_eq (same_run (s2.keep k4) (ys := leftT s) (b := .nils) (w2 := false) (by rw [hlf]; exact Sl.nil) (by simp only [FUEL]; omega))
      rw [← hse] at e1 e2
      simp only [decide_true] at e1 e2
      simp (disch := first | assumption | omega | (simp only [zl] <;> omega) | (simp only [zn])) only [↓zd, zk, seval, reduceIte, List.map, AV.cells, List.all, AV.one, eqV, eqAll, splice, fillA, List.replicate, resAll, resA, zm, zg, a84, e1, e2, a275, hmn, gb3, a277, hdn, hkp, q1, ha]
      refine isL_run (B := m1.length) ⟨k04, ⟨_, rfl, s1'⟩, ?_, fun q oo cap hq h0 => (Sl.lt s1 hq h0).1, s1.len⟩ (k02.1) (s2.keep k4) f2 (by omega) (by omega)
      rcases f1 with h | ⟨q, o, n, cap, h, h'⟩
      · exact .inl h
      · exact .inr ⟨q, o, n, cap, h, by simp at h'; omega⟩
end Go.Am.F11
end
section
namespace Go.Am.F11
open Go.Am.F06 Go.Am.F10 Go.Am.F09
def PK(m:MM) (P:Nat→Prop):Prop:=∀ i,P i→∃ sz L,m[i]?=some (Chunk.cells sz false L)∧(sz=13∨sz=12∨(sz=1∧∃ l:List Int,L=iC l))
theorem TM.norm{m:MM} {P:Nat→Prop} {c:Cf} {p v:Int} {xj:Nat} {s:TS} (h:TM m P c p v xj s):∃ P':Nat→Prop,(∀ i,P' i→P i)∧PK m P'∧TM m P' c p v xj s:=by
 obtain⟨hown,lyv,bv,hj,hB,hL⟩:=h
 refine⟨fun i=>P i∧(i=xj∨(∃ n cap,bv = .sl i 0 n cap)∨lyv = .ptr i 0),fun i h=>h.1,?_,⟨hown,.inl rfl⟩,lyv,bv,hj,?_,?_⟩
 ·rintro i ⟨hi,rfl|⟨n,cap,rfl⟩|rfl⟩
  ·exact⟨_,_,hj,.inl rfl⟩
  ·rcases hB with⟨h,_⟩|⟨cap',⟨qb,L,h1,h2,h3,h4,h5,h6,h7⟩,_⟩
   ·cases h
   ·injection h2 with e1;subst e1
    exact⟨_,_,h3,.inr (.inr ⟨rfl,h7⟩)⟩
  ·rcases hL with⟨_,h⟩|⟨h0,lb,lxv,h1,h2,h3⟩
   ·cases h
   ·injection h1 with e1;subst e1
    exact⟨_,_,h3.1.get,.inr (.inl rfl)⟩
 ·rcases hB with h|⟨cap',⟨qb,L,h1,h2,h3⟩,h4⟩
  ·exact .inl h
  ·exact .inr ⟨cap',⟨qb,L,⟨h1,.inr (.inl ⟨_,_,h2⟩)⟩,h2,h3⟩,h4⟩
 ·rcases hL with h|⟨h0,lb,lxv,h1,h2,h3⟩
  ·exact .inl h
  ·exact .inr ⟨h0,lb,lxv,h1,⟨h2,.inr (.inr h1)⟩,h3⟩
theorem PK.ne{m:MM} {P:Nat→Prop} (h:PK m P) {b sz:Nat} {ro:Bool} {L:List AV} (hb:m[b]?=some (.cells sz ro L)) (h1:sz≠1) (h2:sz≠12) (h3:sz≠13):¬ P b:=fun hp=>by
 obtain⟨sz',L',h4,h5⟩:=h b hp
 rw[hb] at h4;injection h4 with h4;injection h4 with h4
 subst h4
 rcases h5 with h|h|h
 ·exact h3 h
 ·exact h2 h
 ·exact h1 h.1
theorem PK.abs{m:MM} {P:Nat→Prop} (h:PK m P) {b:Nat} {x:Ob} (hb:m[b]?=some (.abs x)):¬ P b:=fun hp=>by
 obtain⟨sz',L',h4,h5⟩:=h b hp
 rw[hb] at h4;cases h4
theorem PK.su{m:MM} {P:Nat→Prop} (h:PK m P) {wr:Bool} {xs:List Int} {v:AV} (hs:SU m wr xs v):OffP P v:=fun q o n cap hv h0 hp=>by
 have hlen:=hs.len
 rw[hv] at hlen;simp only[lenA,Option.some.injEq] at hlen;subst hlen
 obtain⟨_,ro,L,h2⟩:=Sl.lt (n:=xs.length) hs hv h0
 obtain⟨sz',L',h4,h5⟩:=h q hp
 rw[h2] at h4;injection h4 with h4;injection h4 with e1 e2 e3
 rcases h5 with h|h|⟨_,l,hl⟩
 ·omega
 ·omega
 ·refine su_off hs (b:=q) (l:=l) ?_ q o xs.length cap hv h0 rfl
  rw[h2,e3,hl,e2]
theorem PK.off3{m:MM} {P:Nat→Prop} (h:PK m P) {wr:Bool} {n:Nat} {l:List AV} {v:AV} (hs:Sl m wr 3 n l v):OffP P v:=fun q o k cap hv h0 hp=>by
 have hlen:=hs.len
 rw[hv] at hlen;simp only[lenA,Option.some.injEq] at hlen;subst hlen
 obtain⟨_,ro,L,h2⟩:=Sl.lt hs hv h0
 exact h.ne h2 (by decide) (by decide) (by decide) hp
theorem PK.fr{m:MM} {P:Nat→Prop} (h:PK m P) {n:Nat} (hn:m.length≤n) {v:AV} (hf:Fr n v):OffP P v:=fun q o k cap hv _ hp=>by
 obtain⟨_,_,h4,_⟩:=h q hp
 have:=(List.getElem?_eq_some_iff.1 h4).1
 rcases hf with h|⟨_,_,_,_,h,h'⟩
 ·rw[h] at hv;cases hv
 ·rw[h] at hv;injection hv with e1;omega
theorem PK.others{m m':MM} {P:Nat→Prop} (h:PK m P) (k:KeepN P m m'):PK m' P:=fun i hi=>by
 obtain⟨sz,L,h1,h2⟩:=h i hi
 exact⟨sz,L,k.get h1 hi,h2⟩
theorem RowsK.si{m m':MM} (k:RowsK m m') {wr:Bool} {n:Nat} {l:List AV} {v:AV} (h:Sl m wr 1 n l v):Sl m' wr 1 n l v :=
 Sl.stay h fun q o cap hv h0=>by
  obtain⟨h1,ro,L,h2⟩:=Sl.lt h hv h0
  rw[h2];exact k _ _ _ h2
theorem RowsK.nx{m m':MM} (k:RowsK m m') {v:AV} (h:Nx m v):Nx m' v:=by
 rcases h with h|⟨q,o,n,l,h1,h2⟩
 ·exact .inl h
 ·exact .inr ⟨q,o,n,l,h1,k _ _ _ h2⟩
theorem nx_off{m m':MM} {P:Nat→Prop} {j n:Nat} {v:AV} (h:Nx m v) (k:KeepP P j m m') (hj:∀ ro L,m[j]?≠some (.cells 1 ro L)) (hl:lenA v=some n) (h0:0 < n) (ho:OffP P v):Nx m' v:=by
 rcases h with h|⟨q,o,n',l,h1,h2⟩
 ·exact .inl h
 ·rw[h1] at hl;simp only[lenA,Option.some.injEq] at hl;subst hl
  exact .inr ⟨q,o,n',l,h1,k.get h2 (fun hh=>hj _ _ (by rw[← hh];exact h2)) (ho _ _ _ _ h1 h0)⟩
structure StB (m0:MM) (c:Cf) (p v:Int) (j xj:Nat) (P:Nat→Prop) (ps:List Pk) (lv:AV) (s:TS) (xs:List Int) (o:Int) (m:MM):Prop where
 k0:Keep m0 m
 bs:∀ i,P i→m0.length≤i
 pk:PK m P
 tm:TM m P c p v xj s
 mem:∃ st,m[j]?=some (.abs (.mem st))∧RelM xs o st
 ok:TOk c p v s
 okL:OkL c xs
 ps:SPk m false ps lv
variable {m0 m m':MM} {c c':Cf} {p v p' v':Int} {j xj rb yb:Nat} {P:Nat→Prop} {ps:List Pk} {lv:AV} {s s':TS} {xs xs':List Int} {o o':Int}
theorem StB.keep(h:StB m0 c p v j xj P ps lv s xs o m) (k:Keep m m'):StB m0 c p v j xj P ps lv s xs o m':=by
 obtain⟨st,hj,hr⟩:=h.mem
 exact⟨h.k0.trans k,h.bs,h.pk.others (.of k),h.tm.others (.of k),⟨st,k.get hj,hr⟩,h.ok,h.okL,h.ps.keep k⟩
theorem StB.setb(h:StB m0 c p v j xj P ps lv s xs o m) {b sz:Nat} {L:List AV} (hb:m[b]?=some (.cells sz false L)) (h1:sz≠1) (h2:sz≠12) (h3:sz≠13) (h4:sz≠3) (h0:m0.length≤b) (C:Chunk Ob):StB m0 c p v j xj P ps lv s xs o (m.set b C):=by
 obtain⟨st,hj,hr⟩:=h.mem
 have hn:∀ z,z≠sz→∀ ro L,m[b]?≠some (.cells z ro L):=fun z hz ro L hh=>by rw[hb] at hh;injection hh with hh;injection hh with hh;exact hz hh.symm
 have k:KeepN P m (m.set b C):=(KeepN.of (.refl m)).set (h.pk.ne hb h1 h2 h3) (hn 1 (fun hh=>h1 hh.symm)) C
 exact⟨h.k0.set h0 _,h.bs,h.pk.others k,h.tm.others k,⟨st,by rw[List.getElem?_set_ne (fun hh=>by rw[hh,hj] at hb;cases hb)];exact hj,hr⟩,h.ok,h.okL,Sl.put h.ps (hn 3 (fun hh=>h4 hh.symm)) _⟩
theorem StB.poke(h:StB m0 c p v j xj P ps lv s xs o m) (hj0:m0.length≤j) (k:KeepB j m m') {st':MemSt} (hj':m'[j]?=some (.abs (.mem st'))) (hr':RelM xs' o' st') (hokL:OkL c xs'):StB m0 c p v j xj P ps lv s xs' o' m':=by
 obtain⟨st,hj,hr⟩:=h.mem
 have hjP:=h.pk.abs hj
 have kn:KeepN P m m':=⟨k.1,fun i hi hp=>k.2 i hi (fun hh=>by
  rcases hp with hp|⟨ro,L,hp⟩
  ·exact hjP (by rw[← hh];exact hp)
  ·rw[hh,hj] at hp;cases hp)⟩
 refine⟨⟨Nat.le_trans h.k0.1 k.1,fun i hi=>by rw[k.2 i (Nat.lt_of_lt_of_le hi h.k0.1) (by omega),h.k0.2 i hi]⟩,h.bs,h.pk.others kn,h.tm.others kn,⟨st',hj',hr'⟩,h.ok,hokL,?_⟩
 exact Sl.stay h.ps fun q o cap hv h0=>by
  obtain⟨h1,ro,L,h2⟩:=Sl.lt h.ps hv h0
  exact k.2 q h1 (fun hh=>by rw[hh,hj] at h2;cases h2)
structure StR (c':Cf) (p' v':Int) (rb yb:Nat) (P:Nat→Prop) (F:AV→Prop) (s:TS) (xs:List Int) (o:Int) (bv:AV) (ly:List AV) (mv:AV) (m:MM):Prop where
 ref:m[rb]?=some (.cells 2 false (memC mv o))
 su:SU m false xs mv
 y:m[yb]?=some (.cells 24 false (rsC c' p' v' s.a s.w bv s.k ly))
 bl:SI m false s.bl bv
 nx:0 < s.bl.length→Nx m bv
 ob:OffP P bv
 ly:RLy m c' p' s F ly
variable {F:AV→Prop} {bv mv:AV} {ly:List AV}
theorem RLy.keep(h:RLy m c p s F ly) (k:Keep m m'):RLy m' c p s F ly:=by
 rcases h with h|⟨h1,lv,h,h2,h3,h4⟩
 ·exact .inl h
 ·exact .inr ⟨h1,lv,h,h2.keep k,fun h0=>(h3 h0).keep k,h4⟩
theorem RLy.put(h:RLy m c p s F ly) {b:Nat} (hb:∀ ro L,m[b]?≠some (.cells 1 ro L)) (C:Chunk Ob):RLy (m.set b C) c p s F ly:=by
 rcases h with h|⟨h1,lv,h,h2,h3,h4⟩
 ·exact .inl h
 ·exact .inr ⟨h1,lv,h,Sl.put h2 hb C,fun h0=>(h3 h0).put hb C,h4⟩
theorem RLy.mono{F':AV→Prop} (h:RLy m c p s F ly) (hF:∀ v,F v→F' v):RLy m c p s F' ly:=by
 rcases h with h|⟨h1,lv,h,h2,h3,h4⟩
 ·exact .inl h
 ·exact .inr ⟨h1,lv,h,h2,h3,hF _ h4⟩
theorem StR.keep(h:StR c' p' v' rb yb P F s xs o bv ly mv m) (k:Keep m m'):StR c' p' v' rb yb P F s xs o bv ly mv m' :=
 ⟨k.get h.ref,h.su.keep k,k.get h.y,h.bl.keep k,fun h0=>(h.nx h0).keep k,h.ob,h.ly.keep k⟩
theorem StB.step(h:StB m0 c p v j xj P ps lv s xs o m) (hj0:m0.length≤j) (hok:TOk c p v s') (hokL:OkL c xs') (hR:StR c' p' v' rb yb P (fun lv=>s.k=0→OffP P lv) s' xs' o' bv ly mv m) {r:AV} (hP:SsP m P c p v xj j (s',xs') o' r m') (hrk:0 < s.k→RowsK m m') :
  r = .bool (decide (s'.a=0))∧∃ P',StB m0 c p v j xj P' ps lv s' xs' o' m'∧StR c' p' v' rb yb P' (fun _=>True) s' xs' o' bv ly mv m':=by
 obtain⟨rfl,k1,htm,st',hj',hr'⟩:=hP
 obtain⟨st,hj,hr⟩:=h.mem
 obtain⟨P',hsub,hpk,htm'⟩:=htm.norm
 have hjn:∀ sz ro L,m[j]?≠some (.cells sz ro L):=fun sz ro L hh=>by rw[hj] at hh;cases hh
 have hbox:∀ {b sz:Nat} {L:List AV},m[b]?=some (.cells sz false L)→sz≠1→sz≠12→sz≠13→m'[b]?=some (.cells sz false L):=fun hb h1 h2 h3 =>
  k1.get hb (fun hh=>hjn _ _ _ (by rw[← hh];exact hb)) (h.pk.ne hb h1 h2 h3)
 have hnew:∀ {w:AV} {n:Nat} {l:List AV},Sl m false 1 n l w→OffP P w→OffP P' w:=fun hs ho q o n cap hv h0 hp=>OffP.new ho hs q o n cap hv h0 (hsub _ hp)
 refine⟨rfl,P',⟨⟨by have:=h.k0.1;have:=k1.1;omega,fun i hi=>?_⟩,fun i hi=>?_,hpk,htm',⟨st',hj',hr'⟩,hok,hokL,?_⟩,⟨hbox hR.ref (by decide) (by decide) (by decide),Sl.off hR.su k1 (hjn 1) (h.pk.su hR.su),hbox hR.y (by decide) (by decide) (by decide),Sl.off hR.bl k1 (hjn 1) hR.ob,fun h0=>nx_off (hR.nx h0) k1 (hjn 1) hR.bl.len h0 hR.ob,hnew hR.bl hR.ob,?_⟩⟩
 ·have:=h.k0.1
  rw[k1.2 i (by omega) (by omega) (fun hp=>by have:=h.bs i hp;omega),h.k0.2 i hi]
 ·rcases hsub i hi with hp|hp
  ·exact h.bs i hp
  ·have:=h.k0.1;omega
 ·exact Sl.off h.ps k1 (hjn 3) (h.pk.off3 h.ps)
 ·rcases hR.ly with hl|⟨h1,lv,e,h2,h3,h4⟩
  ·exact .inl hl
  ·refine .inr ⟨h1,lv,e,?_,?_,trivial⟩
   ·by_cases hk:0 < s.k
    ·exact(hrk hk).si h2
    ·exact Sl.off h2 k1 (hjn 1) (h4 (by rcases h.ok.k with hk|hk<;>omega))
   ·intro h0
    by_cases hk:0 < s.k
    ·exact(hrk hk).nx (h3 h0)
    ·exact nx_off (h3 h0) k1 (hjn 1) h2.len h0 (h4 (by rcases h.ok.k with hk|hk<;>omega))
end Go.Am.F11
end
section
namespace Go.Am.F11
open Go.Am.F06 Go.Am.F10 Go.Am.F09
section
variable {m0 m m':MM} {c c':Cf} {p v p' v':Int} {j xj rb yb:Nat} {P:Nat→Prop} {ps:List Pk} {lv:AV} {s s':TS} {xs xs':List Int} {o o':Int} {F:AV→Prop} {bv mv mv':AV} {ly:List AV}
theorem StR.poke(h:StR c' p' v' rb yb P F s xs o bv ly mv m) (k:KeepB j m m') {x:Ob} (hj:m[j]?=some (.abs x)) (hsu:SU m' false xs' mv'):StR c' p' v' rb yb P F s xs' o' bv ly mv' (m'.set rb (.cells 2 false (memC mv' o'))):=by
 have nj:∀ sz ro L,m[j]?≠some (.cells sz ro L):=fun sz ro L hh=>by rw[hj] at hh;cases hh
 have hrj:rb≠j:=fun hh=>nj _ _ _ (by rw[← hh];exact h.ref)
 have hyj:yb≠j:=fun hh=>nj _ _ _ (by rw[← hh];exact h.y)
 have hyr:yb≠rb:=fun hh=>by have h1:=h.y;rw[hh,h.ref] at h1;cases h1
 have lr:rb < m.length:=(List.getElem?_eq_some_iff.1 h.ref).1
 have hrb':=k.get h.ref hrj
 have nb:∀ ro L,m'[rb]?≠some (.cells 1 ro L):=fun ro L hh=>by rw[hrb'] at hh;cases hh
 have row:∀ {wr:Bool} {n:Nat} {l:List AV} {w:AV},Sl m wr 1 n l w→Sl m' wr 1 n l w:=fun hs=>Sl.stay hs fun q oo cap hw h0=>by
  obtain⟨h1,ro,L,h2⟩:=Sl.lt hs hw h0
  exact k.2 q h1 fun hh=>nj _ _ _ (by rw[← hh];exact h2)
 have nxk:∀ {w:AV},Nx m w→Nx m' w:=fun hn=>by
  rcases hn with hn|⟨q,o,n,l,h1,h2⟩
  ·exact .inl hn
  ·exact .inr ⟨q,o,n,l,h1,k.get h2 (fun hh=>nj _ _ _ (by rw[← hh];exact h2))⟩
 refine⟨List.getElem?_set_self (by have:=k.1;omega),Sl.put hsu nb _,by rw[List.getElem?_set_ne (fun h=>hyr h.symm)];exact k.get h.y hyj,Sl.put (row h.bl) nb _,fun h0=>(nxk (h.nx h0)).put nb _,h.ob,RLy.put ?_ nb _⟩
 rcases h.ly with h|⟨h1,lv,h,h2,h3,h4⟩
 ·exact .inl h
 ·exact .inr ⟨h1,lv,h,row h2,fun h0=>nxk (h3 h0),h4⟩
theorem RLy.len(h:RLy m c p s F ly):ly.length=12∧ly.all AV.one=true:=by
 rcases h with⟨_,rfl⟩|⟨_,lv,rfl,h,_⟩
 ·exact⟨rfl,rfl⟩
 ·refine⟨rfl,?_⟩
  have h1:=slOne h
  rw[List.all_eq_true]
  intro x hx
  simp only[rlC,cfC,List.cons_append,List.nil_append,List.mem_cons,List.not_mem_nil,or_false] at hx
  rcases hx with rfl|rfl|rfl|rfl|rfl|rfl|rfl|rfl|rfl|rfl|rfl|rfl<;>first|rfl|assumption
end
theorem rsC_len(c:Cf) (p v a w k:Int) (bv:AV) {ly:List AV} (h:ly.length=12):(rsC c p v a w bv k ly).length=24:=by
 simp[rsC,cfC,h]
theorem rsC_take(c:Cf) (p v a w k:Int) (bv:AV) {ly:List AV} (h:ly.length=12):(rsC c p v a w bv k ly).take 24=rsC c p v a w bv k ly:=List.take_of_length_le (by rw[rsC_len _ _ _ _ _ _ _ h];omega)
theorem rsC_all(c:Cf) (p v a w k:Int) {bv:AV} (hb:bv.one=true) {ly:List AV} (h:ly.all AV.one=true):(rsC c p v a w bv k ly).all AV.one=true:=by
 rw[rsC,List.all_append,h,Bool.and_true,List.all_eq_true]
 intro x hx
 simp only[cfC,List.cons_append,List.nil_append,List.mem_cons,List.not_mem_nil,or_false] at hx
 rcases hx with rfl|rfl|rfl|rfl|rfl|rfl|rfl|rfl|rfl|rfl|rfl|rfl<;>first|rfl|assumption
theorem rsC_at(c:Cf) (p v a w k:Int) (bv:AV) (ly:List AV):(rsC c p v a w bv k ly)[8]?=some (.int .i64 a):=rfl
theorem rsC_drop(c:Cf) (p v a w k:Int) (bv:AV) {ly:List AV} (h:ly.length=12):(rsC c p v a w bv k ly).drop 24=[]:=List.drop_eq_nil_of_le (by rw[rsC_len _ _ _ _ _ _ _ h];omega)
theorem rsC_put(c:Cf) (p v a w k:Int) (bv:AV) {ly L:List AV} (h:ly.length=12) (hL:L.length=24):splice L 0 (rsC c p v a w bv k ly)=rsC c p v a w bv k ly:=by
 simp only[splice,List.take_zero,List.nil_append,rsC_len _ _ _ _ _ _ _ h,Nat.zero_add]
 rw[List.drop_eq_nil_of_le (by omega),List.append_nil]
def Gsp:List (Nat × AFun Ob):=[(268,pureF worksG),(134,F10.c_docs_Filled),(135,amFunc F10.Gmem F10.docs_Mem),(270,c_steal_New),(147,F10.c_docs_Config),(271,c_ref11_New),(272,amFunc Gis11 law11_is),(68,amFunc F10.Gsmem F10.docs_SameMem),(46,memF fun s rest=>(opsAsk s rest).map fun v=>(v,s)),(273,amFunc Grs11 ref11_Step),(274,amFunc Gst steal_Steal_Step),(87,F10.c_kit_Pick),(22,memF storeS),(65,F06.c_ref06_Store)]
def SpI(m0:MM) (c c':Cf) (p p' v v':Int) (bv0 lv:AV) (cb j rb xj yb:Nat) (ps:List Pk) (k:Nat) (e:List AV) (m:MM):Prop:=∃ (i:Nat) (P:Nat→Prop) (s:TS) (xs:List Int) (o:Int) (bv mv:AV) (ly:List AV) (y12 y13 y14 y15 y16 y17 y18 y19 y20 y21:AV),
 e=[.agg (cfC c),.int .i64 p,.int .i64 v,bv0,lv,.ptr cb 0,.bool false,.ptr j 0,.ptr rb 0,.ptr xj 0,.ptr yb 0,.int .i64 i,y12,y13,y14,y15,y16,y17,y18,y19,y20,y21]∧k=ps.length - i∧i≤ps.length∧0≤o∧o≤700+2 * i ∧
 StB m0 c p v j xj P ps lv s xs o m∧StR c' p' v' rb yb P (fun _=>True) s xs o bv ly mv m∧RcT c c' p p' v v' s
set_option maxHeartbeats 16000000 in
theorem splays_run{m0:MM} {c:Cf} {p v:Int} {bs:List Int} {bv lv:AV} {ps:List Pk} (hB:SB m0 bs bv) (hb:∀ x,x ∈ bs→0≤x∧x < 256) (hl:SPk m0 false ps lv) (hv:∀ x,x ∈ ps→W64 x.v) :
  Fn Gsp law11_StealPlays [.agg (cfC c),.int .i64 p,.int .i64 v,bv,lv] m0 (fun r m'=>r = .bool true∧Keep m0 m'):=by
 have a268:assoc Gsp 268=some (pureF worksG):=rfl
 have a134:assoc Gsp 134=some F10.c_docs_Filled:=rfl
 have a135:assoc Gsp 135=some (amFunc F10.Gmem F10.docs_Mem):=rfl
 have a270:assoc Gsp 270=some c_steal_New:=rfl
 have a147:assoc Gsp 147=some F10.c_docs_Config:=rfl
 have a271:assoc Gsp 271=some c_ref11_New:=rfl
 have a272:assoc Gsp 272=some (amFunc Gis11 law11_is):=rfl
 have a68:assoc Gsp 68=some (amFunc F10.Gsmem F10.docs_SameMem):=rfl
 have a46:assoc Gsp 46=some (memF fun s rest=>(opsAsk s rest).map fun v=>(v,s)):=rfl
 have a273:assoc Gsp 273=some (amFunc Grs11 ref11_Step):=rfl
 have a274:assoc Gsp 274=some (amFunc Gst steal_Steal_Step):=rfl
 have a87:assoc Gsp 87=some F10.c_kit_Pick:=rfl
 have a22:assoc Gsp 22=some (memF storeS):=rfl
 have a65:assoc Gsp 65=some F06.c_ref06_Store:=rfl
 generalize Gsp=G at a268 a134 a135 a270 a147 a271 a272 a68 a46 a273 a274 a87 a22 a65 ⊢
 have hfe:F10.c_docs_Filled (X:=Ob)=amFunc Gfill F10.docs_Filled:=rfl
 have hne:c_steal_New (X:=Ob)=amFunc [(159,F10.c_conf_Config_Word)] steal_New:=rfl
 have hre:c_ref11_New (X:=Ob)=amFunc [(169,F10.c_ref09_There)] ref11_New:=rfl
 have hlenl:=hl.len
 have hlenb:=hB.len
 refine Fn_of rfl ?_
 by_cases h1:80 < ps.length
 ·simp(disch:=first|assumption|omega|(simp only[zl]<;>omega)|(simp only[zn])) only[law11_StealPlays,↓zd,zk,seval,reduceIte,List.map,AV.cells,List.all,AV.one,eqV,eqAll,splice,fillA,List.replicate,resAll,resA,zm,zg,cfC,ev_len,hlenl,hlenb,a268,pureF,worksG]
  exact .app _ _
 by_cases h2:40 < bs.length
 ·simp(disch:=first|assumption|omega|(simp only[zl]<;>omega)|(simp only[zn])) only[law11_StealPlays,↓zd,zk,seval,reduceIte,List.map,AV.cells,List.all,AV.one,eqV,eqAll,splice,fillA,List.replicate,resAll,resA,zm,zg,cfC,ev_len,hlenl,hlenb,a268,pureF,worksG]
  exact .app _ _
 simp(disch:=first|assumption|omega|(simp only[zl]<;>omega)|(simp only[zn])) only[law11_StealPlays,↓zd,zk,seval,reduceIte,List.map,AV.cells,List.all,AV.one,eqV,eqAll,splice,fillA,List.replicate,resAll,resA,zm,zg,cfC,ev_len,hlenl,hlenb,a134,hfe]
 have hB1:SB (m0++[Chunk.cells 6 false (cfC c)]) bs bv:=hB.keep (Keep.app _ _)
 refine OK_fn (filled_run (c:=c) hB1 hb) ?_
 rintro r1 m1 ⟨xs0,k1,s1,x1,x2⟩
 have gb1:m1[m0.length]?=some (Chunk.cells 6 false (cfC c)):=k1.get get_concat
 have hk1:Keep m0 m1:=(Keep.app m0 _).trans k1
 have hcn:=cellsN_le c
 simp(disch:=first|assumption|omega|(simp only[zl]<;>omega)|(simp only[zn])) only[↓zd,zk,seval,reduceIte,List.map,AV.cells,List.all,AV.one,eqV,eqAll,splice,fillA,List.replicate,resAll,resA,zm,zg,a135]
 refine OK_fn (mem_run s1 (by omega)) ?_
 rintro _ m2 ⟨st,mv,rfl,k2,g2,rm,s2⟩
 have gb2:=k2.get gb1
 have hk2:=hk1.trans k2
 have hone:=slOne s2
 simp only[AV.one] at hone
 have lb:m0.length < m2.length:=(List.getElem?_eq_some_iff.1 gb2).1
 have lj2:m1.length+1 < m2.length:=(List.getElem?_eq_some_iff.1 g2).1
 have hj0:m0.length≤m1.length+1:=by have:=hk1.1;omega
 generalize m1.length+1=j at g2 hj0 lj2 ⊢
 have gb3:∀ K:MM,(m2++K)[m0.length]?=some (.cells 6 false (cfC c)):=fun K=>(Keep.app m2 K).get gb2
 simp only[cfC] at gb2 gb3
 simp(disch:=first|assumption|omega|(simp only[zl]<;>omega)|(simp only[zn])) only[↓zd,zk,seval,reduceIte,List.map,AV.cells,List.all,AV.one,eqV,eqAll,splice,fillA,List.replicate,resAll,resA,zm,zg,memC,hone,gb2,gb3,cfC,a270,hne]
 have hnw:=fun M:MM=>snew_run (m:=M) c p v
 simp only[cfC] at hnw
 refine OKT_fn (hnw _) ?_
 rintro _ m3 ⟨k3,xj,rfl,hxl,hgx⟩
 have gb4:=k3.get (i:=m0.length) (gb3 _)
 have f147:=fun m:MM=>F10.config_eq m c
 simp only[cfC] at f147
 simp(disch:=first|assumption|omega|(simp only[zl]<;>omega)|(simp only[zn])) only[↓zd,zk,seval,reduceIte,List.map,AV.cells,List.all,AV.one,eqV,eqAll,splice,fillA,List.replicate,resAll,resA,zm,zg,cfC,gb4,a147,f147,a271,hre]
 have hrn:=fun M:MM=>rsnew_run (m:=M) c p v
 simp only[cfC] at hrn
 refine OKT_fn (hrn _) ?_
 rintro _ m4 ⟨k4,rfl⟩
 have k34:=(k3.trans (Keep.app _ _)).trans k4
 have gr4:=k34.get (i:=m2.length) (c:=.cells 2 false [mv,.int .u64 xs0.length]) (by rw[get_mid0];rfl)
 have gy4:=k34.get (i:=m2.length+1) (by rw[get_mid];rfl)
 have gx4:=((Keep.app m3 _).trans k4).get hgx
 have gj4:=k34.get (i:=j) (c:=.abs (.mem st)) ((Keep.app m2 _).get g2)
 have k24:Keep m2 m4:=(Keep.app m2 _).trans k34
 have hz12:zlC.length=12:=rfl
 have hl0:=rsC_len (nsC c p v) (nsI c p v p) (nsI c p v v) (newT c p v).a 0 0 .nils hz12
 have hal0:=rsC_all (nsC c p v) (nsI c p v p) (nsI c p v v) (newT c p v).a 0 0 (bv:=.nils) rfl (ly:=zlC) rfl
 have hpu0:=fun L hL=>rsC_put (L:=L) (nsC c p v) (nsI c p v p) (nsI c p v v) (newT c p v).a 0 0 .nils hz12 hL
 have gy3:=k3.get (i:=m2.length+1) (by rw[get_mid];rfl)
 have gy3':=fun K:MM=>(Keep.app m3 K).get gy3
 simp(disch:=first|assumption|omega|(simp only[zl]<;>omega)|(simp only[zn])) only[↓zd,zk,seval,reduceIte,List.map,AV.cells,List.all,AV.one,eqV,eqAll,splice,fillA,List.replicate,resAll,resA,zm,zg,cfC,gy4,gy3,gy3',gb2,gb3,gb4,hl0,hal0,List.drop_succ_cons,List.drop_zero,List.drop_nil,List.append_nil]
 have hk4:Keep m0 m4:=hk2.trans k24
 have ly4:m2.length+1 < m4.length:=(List.getElem?_eq_some_iff.1 gy4).1
 have hl12:m0.length≤m2.length:=hk2.1
 simp only[List.length_append,List.length_cons,List.length_nil] at hxl
 have hne1:∀ sz,sz≠24→∀ ro L,m4[m2.length+1]?≠some (.cells sz ro L):=fun sz hsz ro L hh=>by rw[gy4] at hh;injection hh with hh;injection hh with hh;exact hsz hh.symm
 have hSB:StB m0 c p v j xj (fun i=>i=xj) ps lv (newT c p v) xs0 xs0.length m4 :=
  ⟨hk4,fun i hi=>by omega,fun i hi=>by subst hi;exact⟨13,_,gx4,.inl rfl⟩,newT_TM rfl gx4,⟨st,gj4,rm⟩,newT_ok c p v,⟨x1,x2⟩,hl.keep hk4⟩
 have hSR:StR (nsC c p v) (nsI c p v p) (nsI c p v v) m2.length (m2.length+1) (fun i=>i=xj) (fun _=>True) (newT c p v) xs0 xs0.length .nils zlC mv (m4.set (m2.length+1) (.cells 24 false (rsC (nsC c p v) (nsI c p v p) (nsI c p v v) (newT c p v).a 0 .nils 0 zlC))) :=
  ⟨by rw[List.getElem?_set_ne (by omega)];exact gr4,Sl.put (s2.keep k24) (hne1 1 (by decide)) _,List.getElem?_set_self ly4,Sl.nil,(fun h=>by cases h),(fun q o n cap h=>by cases h),.inl ⟨rfl,rfl⟩⟩
 have hSB':=hSB.setb gy4 (by decide) (by decide) (by decide) (by decide) (by omega) (.cells 24 false (rsC (nsC c p v) (nsI c p v p) (nsI c p v v) (newT c p v).a 0 .nils 0 zlC))
 have hxl0:xs0.length≤600:=by omega
 refine W_loop (SpI m0 c (nsC c p v) p (nsI c p v p) v (nsI c p v v) bv lv m0.length j m2.length xj (m2.length+1) ps) ps.length (by simp only[FUEL];omega) ⟨0,_,_,_,_,_,_,_,_,_,_,_,_,_,_,_,_,_,rfl,by omega,by omega,by omega,by omega,hSB',hSR,RcT.new c p v⟩ ?_
 have hb0:m0.length≤m2.length∧m0.length≤m2.length+1:=by omega
 clear hSB hSB' hSR hne1 hk4 ly4 hl12 hxl0 gy3' gy3 gy4 gx4 gr4 gj4 k24 k34 k4 k3 hxl hgx gb4 hl0 hal0 hpu0 hrn hnw f147 gb3 gb2 gb1 hB1 hone lb lj2 g2 rm s2 s1 x1 x2 k2 k1 hk2 hk1 hB hlenb hfe hne hre h2
 generalize nsC c p v=c'
 generalize nsI c p v p=p'
 generalize nsI c p v v=v'
 generalize m2.length+1=yb at hb0 ⊢
 generalize m2.length=rb at hb0 ⊢
 obtain⟨hrb0,hyb0⟩:=hb0
 rintro k e m ⟨i,P,s,xs,o,bv1,mv,ly,y12,y13,y14,y15,y16,y17,y18,y19,y20,y21,rfl,rfl,hi,ho0,ho1,hB,hR,hcc⟩
 obtain⟨st,gj,hr⟩:=hB.mem
 have hone:=slOne hR.su
 simp only[AV.one] at hone
 have h12:=hR.ly.len
 have hgy:=hR.y
 have hgr:=hR.ref
 simp only[memC] at hgr
 have hS:=rsC_len c' p' v' s.a s.w s.k bv1 h12.1
 have hA:=rsC_all c' p' v' s.a s.w s.k (slOne hR.bl) h12.2
 have hTk:=rsC_take c' p' v' s.a s.w s.k bv1 h12.1
 have hDr:=rsC_drop c' p' v' s.a s.w s.k bv1 h12.1
 have hxl:=hB.okL.1
 have hcn:=cellsN_le c
 simp(disch:=first|assumption|omega|(simp only[zl]<;>omega)|(simp only[zn])) only[↓zd,zk,seval,reduceIte,List.map,AV.cells,List.all,AV.one,eqV,eqAll,splice,fillA,List.replicate,resAll,resA,zm,zg,ev_len,hlenl,hgy,hS,hA,hTk,List.drop_zero,a272]
 refine OK_fn (is_run hB.tm hB.ok hcc hR.bl hR.ly) ?_
 rintro _ m3 ⟨rfl,k3⟩
 have hB3:=hB.keep k3
 have hR3:=hR.keep k3
 have gy3:=hR3.y
 simp(disch:=first|assumption|omega|(simp only[zl]<;>omega)|(simp only[zn])) only[↓zd,zk,seval,reduceIte,List.map,AV.cells,List.all,AV.one,eqV,eqAll,splice,fillA,List.replicate,resAll,resA,zm,zg,gy3,hS,hA,hTk,List.drop_zero,a272]
 refine OK_fn (is_run hB3.tm hB.ok hcc hR3.bl hR3.ly) ?_
 rintro _ m4 ⟨rfl,k4⟩
 have hB4:=hB3.keep k4
 have hR4:=hR3.keep k4
 have gr4:=hR4.ref
 simp only[memC] at gr4
 simp(disch:=first|assumption|omega|(simp only[zl]<;>omega)|(simp only[zn])) only[↓zd,zk,seval,reduceIte,List.map,AV.cells,List.all,AV.one,eqV,eqAll,splice,fillA,List.replicate,resAll,resA,zm,zg,gr4,hone,a68]
 refine OK_fn (samemem_run (k4.get (k3.get gj)) hr hR4.su (by omega)) ?_
 rintro _ m5 ⟨rfl,k5⟩
 have hB5:=hB4.keep k5
 have hR5:=hR4.keep k5
 have gj5:=k5.get (k4.get (k3.get gj))
 have f46:=ops_of gj5
 rw[hr.ops] at f46
 clear k3 k4 k5 hB3 hR3 hB4 hR4 gy3 gr4 hB hR gj hgy hgr
 by_cases hie:i=ps.length
 ·subst hie
  simp(disch:=first|assumption|omega|(simp only[zl]<;>omega)|(simp only[zn])) only[↓zd,zk,seval,reduceIte,List.map,AV.cells,List.all,AV.one,eqV,eqAll,splice,fillA,List.replicate,resAll,resA,zm,zg,ev_len,hlenl,a268,pureF,worksG]
  exact hB5.k0
 have hlt:i < ps.length:=by omega
 obtain⟨pk,hpk⟩:∃ pk,ps[i]?=some pk:=⟨_,List.getElem?_eq_getElem hlt⟩
 have gy5:=hR5.y
 have gr5:=hR5.ref
 simp only[memC] at gr5
 simp(disch:=first|assumption|omega|(simp only[zl]<;>omega)|(simp only[zn])) only[↓zd,zk,seval,reduceIte,List.map,AV.cells,List.all,AV.one,eqV,eqAll,splice,fillA,List.replicate,resAll,resA,zm,zg,ev_len,hlenl,a46,f46,gy5,hS,hA,hTk,List.drop_zero,gr5,hone,a273]
 have okc:=hcc.ok hB5.ok
 have hrs:=rsstep_run (o:=o) hR5.su hR5.bl hR5.nx hR5.ly okc (hcc.elim (fun h=>.inr (by rw[h.1];exact hB5.okL)) (fun h=>.inl h.1))
 rw[hcc.st] at hrs
 simp only[memC] at hrs
 refine OK_fn hrs ?_
 rintro _ m6 ⟨k6,bv2,ly2,mv2,rfl,sbl,fnx,ffr,fly,ssu⟩
 have hok':=hB5.ok.step (xs:=xs) (.inr hB5.okL)
 have hokL':=stepT_ok hB5.okL hB5.ok
 have hcc':=hcc.step xs
 have hB6:=hB5.keep k6
 have gy6:=k6.get gy5
 have gr6:=k6.get gr5
 have hop:o≤opsT s o∧opsT s o≤o+1:=by
  unfold opsT opsL
  split
  ·omega
  ·split
   ·split
    ·omega
    ·split
     ·omega
     ·rw[wrapU (by omega) (by omega)];omega
   ·rw[wrapU (by omega) (by omega)];omega
 have hob:OffP P bv2:=ffr.elim (fun h=>by rw[h];exact hR5.ob) (hB5.pk.fr (Nat.le_refl _))
 have hly:RLy m6 c' p' (stepT c p v xs s).1 (fun lv=>s.k=0→OffP P lv) ly2:=fly.mono fun _ h h0=>hB5.pk.fr (Nat.le_refl _) (h h0)
 have hstep:=fun(m:MM) (st:MemSt) (hT:TM m P c p v xj s) (hj:m[j]?=some (.abs (.mem st))) (hr:RelM xs o st)=>sstep_run (o:=o) hT hj hr hB5.ok (.inr hB5.okL)
 have hS5:=hS
 have hDr5:=hDr
 clear hrs hcc fly ffr okc hB5 hR5 gy5 gr5 gj5 hS hA hTk hDr h12 f46
 have hsk:s.k=0∨0 < s.k:=by rcases hB6.ok.k with h|h<;>omega
 generalize stepT c p v xs s=sx at sbl fnx hly ssu hok' hokL' hcc' hstep ⊢
 generalize opsT s o=o' at hop hstep ⊢
 obtain⟨s',xs'⟩:=sx
 simp only at sbl fnx hly ssu hok' hokL' hcc'
 have ny:yb≠rb:=fun hh=>by rw[hh,gr6] at gy6;cases gy6
 have lr6:rb < m6.length:=(List.getElem?_eq_some_iff.1 gr6).1
 have ly6:yb < m6.length:=(List.getElem?_eq_some_iff.1 gy6).1
 have hone':=slOne ssu
 simp only[AV.one] at hone'
 have h12:=hly.len
 have hS:=rsC_len c' p' v' s'.a s'.w s'.k bv2 h12.1
 have hA:=rsC_all c' p' v' s'.a s'.w s'.k (slOne sbl) h12.2
 have hTk:=rsC_take c' p' v' s'.a s'.w s'.k bv2 h12.1
 have hDr:=rsC_drop c' p' v' s'.a s'.w s'.k bv2 h12.1
 have ha8:=rsC_at c' p' v' s'.a s'.w s'.k bv2 ly2
 have hput:∀ {L:List AV},L.length=24→splice L 0 (rsC c' p' v' s'.a s'.w bv2 s'.k ly2)=rsC c' p' v' s'.a s'.w bv2 s'.k ly2:=fun hL=>rsC_put _ _ _ _ _ _ _ h12.1 hL
 have hB7:=((hB6.setb gy6 (by decide) (by decide) (by decide) (by decide) hyb0 (.cells 24 false (rsC c' p' v' s'.a s'.w bv2 s'.k ly2))).setb (b:=rb) (by rw[List.getElem?_set_ne ny];exact gr6) (by decide) (by decide) (by decide) (by decide) hrb0 (.cells 2 false [mv2,.int .u64 o'])).keep (Keep.app _ [Chunk.cells 24 false (rsC c' p' v' s'.a s'.w bv2 s'.k ly2),Chunk.cells 2 false [mv2,.int .u64 o']])
 have n1y:∀ ro L,m6[yb]?≠some (.cells 1 ro L):=fun ro L hh=>by rw[gy6] at hh;cases hh
 have n1r:∀ C:Chunk Ob,∀ ro L,(m6.set yb C)[rb]?≠some (.cells 1 ro L):=fun C ro L hh=>by rw[List.getElem?_set_ne ny,gr6] at hh;cases hh
 have hR7:StR c' p' v' rb yb P (fun lv=>s.k=0→OffP P lv) s' xs' o' bv2 ly2 mv2 ((m6.set yb (.cells 24 false (rsC c' p' v' s'.a s'.w bv2 s'.k ly2))).set rb (.cells 2 false [mv2,.int .u64 o'])++[Chunk.cells 24 false (rsC c' p' v' s'.a s'.w bv2 s'.k ly2),Chunk.cells 2 false [mv2,.int .u64 o']]) :=
  StR.keep ⟨List.getElem?_set_self (by simpa using lr6),Sl.put (Sl.put ssu n1y _) (n1r _) _,by rw[List.getElem?_set_ne (fun h=>ny h.symm),List.getElem?_set_self ly6],Sl.put (Sl.put sbl n1y _) (n1r _) _,fun h0=>((fnx h0).put n1y _).put (n1r _) _,hob,(hly.put n1y _).put (n1r _) _⟩ (Keep.app _ _)
 have G2:=hR7.ref
 have G3:=hR7.y
 simp only[memC] at G2
 generalize hM7:(m6.set yb (.cells 24 false (rsC c' p' v' s'.a s'.w bv2 s'.k ly2))).set rb (.cells 2 false [mv2,.int .u64 o'])++[Chunk.cells 24 false (rsC c' p' v' s'.a s'.w bv2 s'.k ly2),Chunk.cells 2 false [mv2,.int .u64 o']]=M7 at hB7 hR7 G2 G3
 clear hly sbl fnx ssu hob hB6 k6 n1y n1r
 simp(disch:=first|assumption|omega|(simp only[zl]<;>omega)|(simp only[zn])) only[↓zd,zk,seval,reduceIte,List.map,AV.cells,List.all,AV.one,eqV,eqAll,splice,fillA,List.replicate,resAll,resA,zm,zg,memC,hone',gy6,gr6,hS,hA,hTk,hDr,hS5,hDr5,hput,List.drop_zero,List.drop_succ_cons,List.drop_nil,List.append_nil,a274]
 rw[hM7]
 obtain⟨st7,gj7,hr7⟩:=hB7.mem
 refine OKT_fn (hstep _ _ hB7.tm gj7 hr7) ?_
 rintro r8 m8 ⟨hP,hrk⟩
 obtain⟨rfl,P8,hB8,hR8⟩:=hB7.step (by omega) hok' hokL' hR7 hP hrk
 obtain⟨st8,gj8,r8⟩:=hB8.mem
 have hy8:=hR8.y
 have gr8:=hR8.ref
 have f46:=ops_of gj8
 rw[r8.ops] at f46
 have ho3:IntKind.u64.wrap (o+1)=o+1:=wrapU (by omega) (by omega)
 have ho4:¬ (o+1 < o'):=by omega
 have hlx8:xs'.length≤600:=by have:=hB8.okL.1;omega
 have hlen9:=hR8.su.len
 obtain⟨q,oo,cap,ro,L,rfl,c2,c3,c4,c5,c6,c7⟩:=spk_get hB8.ps hpk
 simp only[memC] at gr8
 clear hP hrk hM7 hB7 hR7 gj7 hr7 hstep gy6 gr6 lr6 ly6 hput hS5 hDr5
 rcases Nat.eq_zero_or_pos xs'.length with hz|hz
 all_goals obtain⟨b3,hb3⟩:∃ b3,decide (s'.a=0)=b3:=⟨_,rfl⟩
 all_goals cases b3
 all_goals cases hd:pk.d
 all_goals simp only[hb3]
 all_goals try (simp(disch:=first|assumption|omega|(simp only[zl]<;>omega)|(simp only[zn])) only[↓zd,zk,seval,reduceIte,List.map,AV.cells,List.all,AV.one,eqV,eqAll,splice,fillA,List.replicate,resAll,resA,zm,zg,G3,hy8,gr8,hb3,hS,hA,hTk,hDr,ha8,List.drop_zero,List.drop_succ_cons,List.drop_nil,List.append_nil,f46,ho3,ho4,a46,c2,c5,ev_len,hlenl,hlen9,hd,hz,Int.ofNat_zero];refine⟨ps.length - (i+1),by omega,i+1,P8,s',xs',o',_,_,_,_,_,_,_,_,_,_,_,_,_,rfl,rfl,by omega,by omega,by omega,hB8,hR8,hcc'⟩;done)
 all_goals have hpick:=fun m:MM=>F10.pick_eq m pk.a xs'.length (by omega) (by omega)
 all_goals have hm0:=Int.emod_nonneg pk.a (b:=(xs'.length:Int)) (by omega)
 all_goals have hm1:=Int.emod_lt_of_pos pk.a (b:=(xs'.length:Int)) (by omega)
 all_goals have hthr:thr xs' (pk.a % (xs'.length:Int)):=⟨hm0,hm1⟩
 all_goals obtain⟨st9,r9,_,_,f22⟩:=r8.storeE hthr pk.v
 all_goals have lj8:j < m8.length:=(List.getElem?_eq_some_iff.1 gj8).1
 all_goals have nj1:∀ ro L,m8[j]?≠some (.cells 1 ro L):=fun ro L h=>by rw[gj8] at h;cases h
 all_goals have hqj:j≠q:=fun h=>by rw[← h,gj8] at c2;cases c2
 all_goals have hjr:j≠rb:=fun h=>by rw[← h,gj8] at gr8;cases gr8
 all_goals have hst:=refstore_run (Sl.put hR8.su nj1 (.abs (.mem st9))) (by omega) o' (pk.a % (xs'.length:Int)) pk.v
 all_goals rw[if_pos hthr,if_pos hthr] at hst
 all_goals simp only[memC] at hst
 all_goals simp(disch:=first|assumption|omega|(simp only[zl]<;>omega)|(simp only[zn])) only[↓zd,zk,seval,reduceIte,List.map,AV.cells,List.all,AV.one,eqV,eqAll,splice,fillA,List.replicate,resAll,resA,zm,zg,G3,hy8,gr8,hone',hb3,hS,hA,hTk,hDr,ha8,List.drop_zero,List.drop_succ_cons,List.drop_nil,List.append_nil,f46,ho3,ho4,a46,c2,c5,c6,c7,ev_len,hlenl,hlen9,hd,a87,hpick,a22,f22,gj8,a65,F06.c_ref06_Store]
 all_goals refine OK_fn hst ?_
 all_goals rintro _ m10 ⟨k10,v10,rfl,s10⟩
 all_goals have gr10:=k10.get (i:=rb) (by rw[List.getElem?_set_ne hjr];exact gr8)
 all_goals have gj10:=k10.get (i:=j) (List.getElem?_set_self lj8)
 all_goals have hone9:=slOne s10
 all_goals simp only[AV.one] at hone9
 all_goals simp(disch:=first|assumption|omega|(simp only[zl]<;>omega)|(simp only[zn])) only[↓zd,zk,seval,reduceIte,List.map,AV.cells,List.all,AV.one,eqV,eqAll,splice,fillA,List.replicate,resAll,resA,zm,zg,memC,hone9,gr10]
 all_goals have ho9:IntKind.u64.wrap (o'+1)=o'+1:=wrapU (by omega) (by omega)
 all_goals rw[ho9] at r9
 all_goals have kb:KeepB j m8 m10:=(KeepB.at m8 (.abs (.mem st9))).trans (KeepB.of k10)
 all_goals have okL9:=hB8.okL.set (pk.a % (xs'.length:Int)).toNat (hv _ (List.mem_of_getElem? hpk))
 all_goals have hR10:=hR8.poke (o':=o'+1) kb gj8 s10
 all_goals have hB10:=(hB8.poke (by omega) kb gj10 r9 okL9).setb gr10 (by decide) (by decide) (by decide) (by decide) hrb0 (.cells 2 false (memC v10 (o'+1)))
 all_goals refine⟨ps.length - (i+1),by omega,i+1,P8,s',xs'.set (pk.a % (xs'.length:Int)).toNat pk.v,o'+1,bv2,v10,ly2,_,_,_,_,_,_,_,_,_,_,rfl,rfl,by omega,by omega,by omega,?_,?_,hcc'⟩
 all_goals first|(rw[ho9];exact hB10)|(rw[ho9];exact hR10)|exact hB10|exact hR10
end Go.Am.F11
end
section
namespace Go.Am.F11
open Go.Am.F06 Go.Am.F10 Go.Am.F09
variable {X:Type}
theorem addr_ne2{c:Cf} {p p' i i':Int} (hp:thereP c p) (hp':thereP c p') (h0:0≤i) (h1:i < 6+c.q) (h0':0≤i') (h1':i' < 6+c.q) (hne:p≠p'∨i≠i'):(addrA c p i).toNat≠(addrA c p' i').toNat:=by
 have hb:=there_bounds hp
 have hb':=there_bounds hp'
 have hm:=mul_bounds hb.2.2.2.2.1 hb.2.2.2.2.2 (q:=6+c.q) (by omega) (by omega)
 have hm':=mul_bounds hb'.2.2.2.2.1 hb'.2.2.2.2.2 (q:=6+c.q) (by omega) (by omega)
 unfold addrA;rw[if_pos hp,if_pos hp']
 rcases (show p < p'∨p=p'∨p' < p by omega) with h|h|h
 ·have h2:(p+1) * (6+c.q)≤p' * (6+c.q):=Int.mul_le_mul_of_nonneg_right (by omega) (by omega)
  have h3:(p+1) * (6+c.q)=p * (6+c.q)+(6+c.q):=by rw[Int.add_mul,Int.one_mul]
  omega
 ·subst h;omega
 ·have h2:(p'+1) * (6+c.q)≤p * (6+c.q):=Int.mul_le_mul_of_nonneg_right (by omega) (by omega)
  have h3:(p'+1) * (6+c.q)=p' * (6+c.q)+(6+c.q):=by rw[Int.add_mul,Int.one_mul]
  omega
theorem slot_addr{c:Cf} {p:Int} (k:Int) (hp:thereP c p):slotA c p k=addrA c p (6+k % c.q)∧6≤6+k % c.q∧6+k % c.q < 6+c.q:=by
 have hb:=there_bounds hp
 have h0:=Int.emod_nonneg k (b:=c.q) (by omega)
 have h1:=Int.emod_lt_of_pos k (b:=c.q) (by omega)
 unfold slotA;rw[if_pos hp.1]
 exact⟨rfl,by omega,by omega⟩
theorem slot_place{c:Cf} {p p' i:Int} (k:Int) (hp:thereP c p) (hp':thereP c p') (h0:0≤i) (h1:i≤5):(addrA c p i).toNat≠(slotA c p' k).toNat:=by
 obtain⟨e,h2,h3⟩:=slot_addr k hp'
 have hb:=there_bounds hp
 rw[e]
 exact addr_ne2 hp hp' h0 (by omega) (by omega) h3 (.inr (by omega))
theorem getD_set2{xs:List Int} {a b:Nat} {v:Int} (h:a≠b):(xs.set a v).getD b 0=xs.getD b 0:=by
 rw[List.getD_eq_getElem?_getD,List.getElem?_set_ne h,← List.getD_eq_getElem?_getD]
theorem getD_setc(xs:List Int) (a b:Nat) (v:Int):(xs.set a v).getD b 0=v∨(xs.set a v).getD b 0=xs.getD b 0:=by
 by_cases h:a=b
 ·subst h
  by_cases hl:a < xs.length
  ·left;rw[List.getD_eq_getElem?_getD,List.getElem?_set_self hl];rfl
  ·right;rw[List.set_eq_of_length_le (by omega)]
 ·exact .inr (getD_set2 h)
structure OkG (c:Cf) (xs:List Int):Prop where
 f:OkF c xs
 s:∀ p k,thereP c p→0≤xs.getD (slotA c p k).toNat 0∧xs.getD (slotA c p k).toNat 0 < 4611686018427387904
theorem OkG.setw{c:Cf} {xs:List Int} (h:OkG c xs) {p v:Int} (hp:thereP c p) (hv:sz v≤c.q):OkG c (xs.set (addrA c p 0).toNat v) :=
 ⟨h.f.setw hp hv,fun p' k hp'=>by rw[getD_set2 (slot_place k hp hp' (by decide) (by decide))];exact h.s p' k hp'⟩
theorem OkG.setb{c:Cf} {xs:List Int} (h:OkG c xs) {p i v:Int} (hp:thereP c p) (h0:1≤i) (h1:i≤5):OkG c (xs.set (addrA c p i).toNat v) :=
 ⟨h.f.setb hp h0 h1,fun p' k hp'=>by rw[getD_set2 (slot_place k hp hp' (by omega) h1)];exact h.s p' k hp'⟩
theorem OkG.sets{c:Cf} {xs:List Int} (h:OkG c xs) {p k v:Int} (hp:thereP c p) (hv:0≤v∧v < 4611686018427387904):OkG c (xs.set (slotA c p k).toNat v) :=
 ⟨h.f.sets hp,fun p' k' hp'=>by
  rcases getD_setc xs (slotA c p k).toNat (slotA c p' k').toNat v with e|e
  ·rw[e];exact hv
  ·rw[e];exact h.s p' k' hp'⟩
structure FT (m0:Mem X) (c:Cf) (q0:Nat) (xs:List Int) (m:Mem X):Prop where
 keep:Keep m0 m
 box:m[m0.length]?=some (.cells 6 false (cfC c))
 out:m[q0]?=some (.cells 1 false (uC xs))
 len:xs.length=cellsN c
 ok:∀ x,x ∈ xs→W64 x
 lt:m0.length < q0
 full:OkG c xs
theorem FT.app{m0 m:Mem X} {c:Cf} {q0:Nat} {xs:List Int} (h:FT m0 c q0 xs m) (K:Mem X):FT m0 c q0 xs (m++K) :=
 ⟨h.keep.trans (Keep.app _ _),(Keep.app m K).get h.box,(Keep.app m K).get h.out,h.len,h.ok,h.lt,h.full⟩
theorem FT.okL{m0 m:Mem X} {c:Cf} {q0:Nat} {xs:List Int} (h:FT m0 c q0 xs m):OkL c xs:=⟨h.len,h.ok⟩
theorem FT.all{m0 m:Mem X} {c:Cf} {q0:Nat} {xs xs':List Int} (h:FT m0 c q0 xs m) (hx:OkL c xs') (hf:OkG c xs') (K:Mem X):FT m0 c q0 xs' (m.set q0 (.cells 1 false (uC xs'))++K):=by
 refine FT.app ⟨h.keep.set (by have:=h.lt;omega) _,?_,List.getElem?_set_self (List.getElem?_eq_some_iff.1 h.out).1,hx.1,hx.2,h.lt,hf⟩ K
 rw[List.getElem?_set_ne (by have:=h.lt;omega)];exact h.box
def FJ(m0:Mem X) (c:Cf) (q0:Nat) (bv:AV) (k:Nat) (e:List AV) (m:Mem X):Prop:=∃ (p:Nat) (xs:List Int) (y6 y7 y8 y9 y10 y11 y12:AV),
 e=[.agg (cfC c),bv,.ptr m0.length 0,.nils,.sl q0 0 (cellsN c) (some (cellsN c)),.int .i64 p,y6,y7,y8,y9,y10,y11,y12]∧FT m0 c q0 xs m∧(rightP c→(k:Int)=c.n - p∧(p:Int)≤c.n)∧(¬ rightP c→k=0)
def FJ2(m0:Mem X) (c:Cf) (q0:Nat) (bv:AV) (p:Nat) (h n:Int) (y9 y10:AV) (k:Nat) (e:List AV) (m:Mem X):Prop:=∃ (i:Int) (xs:List Int) (y11 y12:AV),
 e=[.agg (cfC c),bv,.ptr m0.length 0,.nils,.sl q0 0 (cellsN c) (some (cellsN c)),.int .i64 p,.int .u32 h,.int .u32 n,.int .u32 i,y9,y10,y11,y12]∧FT m0 c q0 xs m∧(k:Int)=n - i∧0≤i∧i≤n
set_option maxHeartbeats 16000000 in
theorem filled_runG{m0:Mem X} {c:Cf} {bs:List Int} {bv:AV} (hB:SB m0 bs bv) (hb:∀ x,x ∈ bs→0≤x∧x < 256) :
  Fn Gfill F10.docs_Filled [.agg (cfC c),bv] m0 (fun r m'=>∃ xs,Keep m0 m'∧SU m' true xs r∧xs.length=cellsN c∧(∀ x,x ∈ xs→W64 x)∧OkG c xs∧Fr m0.length r):=by
 have a156:assoc (Gfill (X:=X)) 156=some F10.c_conf_Config_Cells:=rfl
 have a157:assoc (Gfill (X:=X)) 157=some F10.c_conf_Config_Right:=rfl
 have a158:assoc (Gfill (X:=X)) 158=some F10.c_docs_byteAt:=rfl
 have a159:assoc (Gfill (X:=X)) 159=some F10.c_conf_Config_Word:=rfl
 have a160:assoc (Gfill (X:=X)) 160=some F10.c_conf_Config_Slot:=rfl
 have a161:assoc (Gfill (X:=X)) 161=some F10.c_conf_Config_Next:=rfl
 have a162:assoc (Gfill (X:=X)) 162=some F10.c_conf_Config_Stat:=rfl
 have a163:assoc (Gfill (X:=X)) 163=some F10.c_conf_Config_Tick:=rfl
 have a164:assoc (Gfill (X:=X)) 164=some F10.c_conf_Config_Sys:=rfl
 have a165:assoc (Gfill (X:=X)) 165=some F10.c_conf_Config_Flag:=rfl
 generalize Gfill (X:=X)=G at a156 a157 a158 a159 a160 a161 a162 a163 a164 a165 ⊢
 obtain⟨J,hcells⟩:=cells_eq (m0++[.cells 6 false (cfC c)]) c
 have hN:=cellsN_le c
 have hmk:∀ M:Mem X,amOp G (.make 1 8 [.int .u64 0]) [.int .i64 (cellsN c),.int .i64 (cellsN c)] M=some (.sl M.length 0 (cellsN c) (some (cellsN c)),M++[.cells 1 false (uC (List.replicate (cellsN c) 0))]):=fun M=>by
  have hrep:repeatL (cellsN c) [AV.int .u64 0]=uC (List.replicate (cellsN c) 0):=by simp[repeatL,uC]
  simp only[amOp]
  rw[if_pos (by omega),Int.toNat_natCast,hrep]
 simp only[cfC,List.append_assoc,List.cons_append,List.nil_append] at hcells
 have e4:∀ p:Nat,(p:Int) < 8→IntKind.i64.wrap (4 * (p:Int))=4 * (p:Int):=fun p hp=>wrapI (by omega) (by omega)
 refine Fn_of rfl ?_
 simp(disch:=first|assumption|omega|(simp only[zl]<;>omega)|(simp only[zn])) only[F10.docs_Filled,↓zd,zk,seval,reduceIte,List.map,AV.cells,List.all,AV.one,eqV,eqAll,splice,fillA,List.replicate,resAll,resA,zm,zg,cfC,a156,hcells,hmk]
 have hF0:FT m0 c (m0.length+(J.length+1)) (List.replicate (cellsN c) 0) (m0++Chunk.cells 6 false (cfC c) :: (J++[Chunk.cells 1 false (uC (List.replicate (cellsN c) 0))])):=by
  refine⟨Keep.app _ _,by rw[get_mid0];rfl,?_,by simp,fun x hx=>?_,by omega,⟨⟨fun p hp=>?_⟩,fun p k hp=>?_⟩⟩
  ·rw[get_mid,List.getElem?_cons_succ,get_concat]
  ·rw[List.eq_of_mem_replicate hx];unfold W64;omega
  ·have hz:(List.replicate (cellsN c) (0:Int)).getD (addrA c p 0).toNat 0=0:=by
    rw[List.getD_eq_getElem?_getD,List.getElem?_replicate];split<;>rfl
   rw[hz]
   have:sz 0=0:=by decide
   have hb:=there_bounds hp
   omega
  ·have hz:(List.replicate (cellsN c) (0:Int)).getD (slotA c p k).toNat 0=0:=by
    rw[List.getD_eq_getElem?_getD,List.getElem?_replicate];split<;>rfl
   rw[hz];omega
 have hRT:∀ m:Mem X,F10.c_conf_Config_Right [.agg [.int .i64 c.n,.int .i64 c.q,.int .i64 c.g,.int .i64 c.m,.int .i64 c.t,.int .i64 c.s]] m=some (.bool (decide (rightP c)),m++[.cells 6 false (cfC c)]):=fun m=>right_eq m c
 refine W_loop (FJ m0 c (m0.length+(J.length+1)) bv) (if rightP c then c.n.toNat else 0) ?_ ⟨0,List.replicate (cellsN c) 0,_,_,_,_,_,_,_,rfl,hF0,fun hr=>?_,fun hr=>if_neg hr⟩ ?_
 ·split
  ·rename_i hr;have:=hr.1;simp only[FUEL];omega
  ·simp[FUEL]
 ·rw[if_pos hr];have:=hr.1;omega
 clear hF0 hcells hmk
 generalize m0.length+(J.length+1)=q0
 rintro k e m ⟨p,xs,y6,y7,y8,y9,y10,y11,y12,rfl,hF,hk1,hk2⟩
 have hbox:=hF.box
 have hout:=hF.out
 have hul:(uC xs).length=cellsN c:=by rw[uC_len];exact hF.len
 have hl0:m0.length < m.length:=(List.getElem?_eq_some_iff.1 hbox).1
 have hlq:q0 < m.length:=(List.getElem?_eq_some_iff.1 hout).1
 have fin:∀ K:Mem X,∃ xs,Keep m0 (m++K)∧SU (m++K) true xs (.sl q0 0 (cellsN c) (some (cellsN c)))∧xs.length=cellsN c∧(∀ x,x ∈ xs→W64 x)∧OkG c xs∧Fr m0.length (.sl q0 0 (cellsN c) (some (cellsN c))):=fun K=>by
  have hF':=hF.app K
  refine⟨xs,hF'.keep,⟨by rw[uC_len];omega,.inr ⟨_,_,_,by rw[hF.len],fun _=>⟨false,_,hF'.out,by rw[List.drop_zero,Nat.mul_one,← uC_len,List.take_length],by rw[uC_len];omega,fun _=>rfl⟩⟩⟩,hF.len,hF.ok,hF.full,.inr ⟨_,_,_,_,rfl,by have:=hF.lt;omega⟩⟩
 simp only[cfC] at hbox
 by_cases hr:rightP c
 ·simp only[decide_eq_true hr] at hRT
  obtain⟨hk1,hk1'⟩:=hk1 hr
  by_cases hp:(p:Int) < c.n
  ·have ht:thereP c p:=⟨hr,by omega,hp⟩
   have htb:=there_bounds ht
   have hq0:=hF.lt
   have hbv:=byteV_b hb
   have hby0:∀ i:Int,0≤i→F10.c_docs_byteAt [bv,.int .i64 i] m=some (.int .i64 (byteV bs i),m):=fun i hi=>byte_eq (hB.keep hF.keep) hb hi
   have hby1:∀ (K:Mem X) (i:Int),0≤i→F10.c_docs_byteAt [bv,.int .i64 i] (m++K)=some (.int .i64 (byteV bs i),m++K):=fun K i hi=>byte_eq (hB.keep (hF.keep.trans (Keep.app _ _))) hb hi
   have hA:∀ k:Int,0≤k→k < 8→0≤addrA c p k∧addrA c p k < cellsN c:=fun k h0 h1=>addr_b ht h0 (by omega)
   have hA0:=hA 0 (by omega) (by omega)
   have eq1:IntKind.i64.wrap (c.q+1)=c.q+1:=wrapI (by omega) (by omega)
   have hA1:=hA 1 (by omega) (by omega)
   have hA2:=hA 2 (by omega) (by omega)
   have hA3:=hA 3 (by omega) (by omega)
   have hA4:=hA 4 (by omega) (by omega)
   have hA5:=hA 5 (by omega) (by omega)
   have hs:=fun(M:Mem X) (z:Int)=>slot_eqR M hr (p:Int) (wrap32_b z).1 (wrap32_b z).2
   have hnx:=fun M:Mem X=>next_eq M c (p:Int)
   have hst:=fun M:Mem X=>stat_eq M c (p:Int)
   have htk:=fun M:Mem X=>tick_eq M c (p:Int)
   have hsy:=fun M:Mem X=>sys_eq M c (p:Int)
   have hfl:=fun M:Mem X=>flag_eq M c (p:Int)
   simp only[cfC,List.cons_append,List.nil_append] at hs hnx hst htk hsy hfl
   have hw0:=fun m:Mem X=>word_run (m:=m) c (p:Int)
   simp only[cfC,List.cons_append,List.nil_append] at hw0
   simp(disch:=first|assumption|omega|(simp only[zl]<;>omega)|(simp only[zn])) only[↓zd,zk,seval,reduceIte,List.map,AV.cells,List.all,AV.one,eqV,eqAll,splice,fillA,List.replicate,resAll,resA,zm,zg,cfC,hbox,a157,hRT,a158,hby0,hby1]
   refine CW_of (fun _=>?_) (fun _=>?_)
   all_goals simp(disch:=first|assumption|omega|(simp only[zl]<;>omega)|(simp only[zn])) only[↓zd,zk,seval,reduceIte,List.map,AV.cells,List.all,AV.one,eqV,eqAll,splice,fillA,List.replicate,resAll,resA,zm,zg,cfC,hbox,a157,hRT,a158,hby0,hby1,eq1,a159,hw0,shl_eq,evOr,hout,hul,uC_set]
   ·refine W_loop (FJ2 m0 c q0 bv p _ _ _ _) (IntKind.u32.wrap ((byteV bs (4 * (p:Int)+1)).tmod (c.q+1))).toNat (by have:=wrap32_b ((byteV bs (4 * (p:Int)+1)).tmod (c.q+1));simp only[FUEL];omega) ⟨0,_,_,_,rfl,hF.all (hF.okL.set _ (wrap64_b _)) (hF.full.setw ht (word_sz (wrap32_b _).1 (wrap32_b _).2 (wrap32_b _).1 (mod_le (hbv _).1 (by omega) (by omega) rfl) (by omega))) _,by have:=wrap32_b ((byteV bs (4 * (p:Int)+1)).tmod (c.q+1));omega,by omega,(wrap32_b _).1⟩ ?_
    clear hF hout hul hby0 hby1 hl0 hlq fin hbox
    rintro k2 e m2 ⟨i,xs2,y11,y12,rfl,hF,hk,hi0,hi1⟩
    have hbox:=hF.box
    have hout:=hF.out
    have hul:(uC xs2).length=cellsN c:=by rw[uC_len];exact hF.len
    have hl0:m0.length < m2.length:=(List.getElem?_eq_some_iff.1 hbox).1
    have hlq:q0 < m2.length:=(List.getElem?_eq_some_iff.1 hout).1
    simp only[cfC] at hbox
    have hn32:=wrap32_b ((byteV bs (4 * (p:Int)+1)).tmod (c.q+1))
    generalize IntKind.u32.wrap ((byteV bs (4 * (p:Int)+1)).tmod (c.q+1))=n at hk hi1 hn32 ⊢
    have hlx:xs2.length=cellsN c:=hF.len
    simp(disch:=first|assumption|omega|(simp only[zl]<;>omega)|(simp only[zn])) only[↓zd,zk,seval,reduceIte,List.map,AV.cells,List.all,AV.one,eqV,eqAll,splice,fillA,List.replicate,resAll,resA,zm,zg,cfC]
    refine CW_of (fun hlt=>?_) (fun hge=>?_)
    ·simp only[decide_eq_true_eq] at hlt
     have hi1':IntKind.u32.wrap (i+1)=i+1:=by rw[wrap32];omega
     have hsA:=slot_b ht (wrap32_b (IntKind.u32.wrap (IntKind.u32.wrap (0 - IntKind.u32.wrap ((byteV bs (4 * (p:Int))).tmod 7)) - 1)+i)).1
     simp(disch:=first|assumption|omega|(simp only[zl]<;>omega)|(simp only[zn])) only[↓zd,zk,seval,reduceIte,List.map,AV.cells,List.all,AV.one,eqV,eqAll,splice,fillA,List.replicate,resAll,resA,zm,zg,cfC,hbox,a160,hs,hout,hul,uC_set,hi1']
     exact⟨k2 - 1,by omega,i+1,_,_,_,rfl,hF.all (hF.okL.set _ (by unfold W64;omega)) (hF.full.sets ht (by omega)) _,by omega,by omega,by omega⟩
    ·simp only[decide_eq_false_iff_not] at hge
     have hby0:∀ i:Int,0≤i→F10.c_docs_byteAt [bv,.int .i64 i] m2=some (.int .i64 (byteV bs i),m2):=fun i hi=>byte_eq (hB.keep hF.keep) hb hi
     have hby1:∀ (K:Mem X) (i:Int),0≤i→F10.c_docs_byteAt [bv,.int .i64 i] (m2++K)=some (.int .i64 (byteV bs i),m2++K):=fun K i hi=>byte_eq (hB.keep (hF.keep.trans (Keep.app _ _))) hb hi
     have hby2:∀ (A:Chunk X) (K:Mem X) (i:Int),0≤i→F10.c_docs_byteAt [bv,.int .i64 i] (m2.set q0 A++K)=some (.int .i64 (byteV bs i),m2.set q0 A++K):=fun A K i hi=>byte_eq (hB.keep ((hF.keep.set (by omega) A).trans (Keep.app _ _))) hb hi
     simp(disch:=first|assumption|omega|(simp only[zl]<;>omega)|(simp only[zn])) only[↓zd,zk,seval,reduceIte,List.map,AV.cells,List.all,AV.one,eqV,eqAll,splice,fillA,List.replicate,resAll,resA,zm,zg,cfC,a158,hby0]
     refine CW_of (fun _=>?_) (fun _=>?_)
     all_goals simp(disch:=first|assumption|omega|(simp only[zl]<;>omega)|(simp only[zn])) only[↓zd,zk,seval,reduceIte,List.map,AV.cells,List.all,AV.one,eqV,eqAll,splice,fillA,List.replicate,resAll,resA,zm,zg,cfC,hbox,a158,hby0,hby1,hby2,hout,stC_u,List.set_set,a161,hnx,a162,hst,a163,htk,a164,hsy,a165,hfl]
     all_goals simp only[uC_set]
     all_goals refine⟨k - 1,by omega,p+1,_,_,_,_,_,_,_,_,rfl,hF.all (by(repeat' refine OkL.set ?_ _ (by first|exact wrap64_b _|(unfold W64;omega)));exact hF.okL) (by(repeat' refine OkG.setb ?_ ht (by decide) (by decide));exact hF.full) _,fun _=>⟨by omega,by omega⟩,fun h=>absurd hr h⟩
   ·refine W_loop (FJ2 m0 c q0 bv p _ _ _ _) (IntKind.u32.wrap ((byteV bs (4 * (p:Int)+1)).tmod (c.q+1))).toNat (by have:=wrap32_b ((byteV bs (4 * (p:Int)+1)).tmod (c.q+1));simp only[FUEL];omega) ⟨0,_,_,_,rfl,hF.all (hF.okL.set _ (wrap64_b _)) (hF.full.setw ht (word_sz (wrap32_b _).1 (wrap32_b _).2 (wrap32_b _).1 (mod_le (hbv _).1 (by omega) (by omega) rfl) (by omega))) _,by have:=wrap32_b ((byteV bs (4 * (p:Int)+1)).tmod (c.q+1));omega,by omega,(wrap32_b _).1⟩ ?_
    clear hF hout hul hby0 hby1 hl0 hlq fin hbox
    rintro k2 e m2 ⟨i,xs2,y11,y12,rfl,hF,hk,hi0,hi1⟩
    have hbox:=hF.box
    have hout:=hF.out
    have hul:(uC xs2).length=cellsN c:=by rw[uC_len];exact hF.len
    have hl0:m0.length < m2.length:=(List.getElem?_eq_some_iff.1 hbox).1
    have hlq:q0 < m2.length:=(List.getElem?_eq_some_iff.1 hout).1
    simp only[cfC] at hbox
    have hn32:=wrap32_b ((byteV bs (4 * (p:Int)+1)).tmod (c.q+1))
    generalize IntKind.u32.wrap ((byteV bs (4 * (p:Int)+1)).tmod (c.q+1))=n at hk hi1 hn32 ⊢
    have hlx:xs2.length=cellsN c:=hF.len
    simp(disch:=first|assumption|omega|(simp only[zl]<;>omega)|(simp only[zn])) only[↓zd,zk,seval,reduceIte,List.map,AV.cells,List.all,AV.one,eqV,eqAll,splice,fillA,List.replicate,resAll,resA,zm,zg,cfC]
    refine CW_of (fun hlt=>?_) (fun hge=>?_)
    ·simp only[decide_eq_true_eq] at hlt
     have hi1':IntKind.u32.wrap (i+1)=i+1:=by rw[wrap32];omega
     have hsA:=slot_b ht (wrap32_b (IntKind.u32.wrap ((byteV bs (4 * (p:Int))).tmod 7)+i)).1
     simp(disch:=first|assumption|omega|(simp only[zl]<;>omega)|(simp only[zn])) only[↓zd,zk,seval,reduceIte,List.map,AV.cells,List.all,AV.one,eqV,eqAll,splice,fillA,List.replicate,resAll,resA,zm,zg,cfC,hbox,a160,hs,hout,hul,uC_set,hi1']
     exact⟨k2 - 1,by omega,i+1,_,_,_,rfl,hF.all (hF.okL.set _ (by unfold W64;omega)) (hF.full.sets ht (by omega)) _,by omega,by omega,by omega⟩
    ·simp only[decide_eq_false_iff_not] at hge
     have hby0:∀ i:Int,0≤i→F10.c_docs_byteAt [bv,.int .i64 i] m2=some (.int .i64 (byteV bs i),m2):=fun i hi=>byte_eq (hB.keep hF.keep) hb hi
     have hby1:∀ (K:Mem X) (i:Int),0≤i→F10.c_docs_byteAt [bv,.int .i64 i] (m2++K)=some (.int .i64 (byteV bs i),m2++K):=fun K i hi=>byte_eq (hB.keep (hF.keep.trans (Keep.app _ _))) hb hi
     have hby2:∀ (A:Chunk X) (K:Mem X) (i:Int),0≤i→F10.c_docs_byteAt [bv,.int .i64 i] (m2.set q0 A++K)=some (.int .i64 (byteV bs i),m2.set q0 A++K):=fun A K i hi=>byte_eq (hB.keep ((hF.keep.set (by omega) A).trans (Keep.app _ _))) hb hi
     simp(disch:=first|assumption|omega|(simp only[zl]<;>omega)|(simp only[zn])) only[↓zd,zk,seval,reduceIte,List.map,AV.cells,List.all,AV.one,eqV,eqAll,splice,fillA,List.replicate,resAll,resA,zm,zg,cfC,a158,hby0]
     refine CW_of (fun _=>?_) (fun _=>?_)
     all_goals simp(disch:=first|assumption|omega|(simp only[zl]<;>omega)|(simp only[zn])) only[↓zd,zk,seval,reduceIte,List.map,AV.cells,List.all,AV.one,eqV,eqAll,splice,fillA,List.replicate,resAll,resA,zm,zg,cfC,hbox,a158,hby0,hby1,hby2,hout,stC_u,List.set_set,a161,hnx,a162,hst,a163,htk,a164,hsy,a165,hfl]
     all_goals simp only[uC_set]
     all_goals refine⟨k - 1,by omega,p+1,_,_,_,_,_,_,_,_,rfl,hF.all (by(repeat' refine OkL.set ?_ _ (by first|exact wrap64_b _|(unfold W64;omega)));exact hF.okL) (by(repeat' refine OkG.setb ?_ ht (by decide) (by decide));exact hF.full) _,fun _=>⟨by omega,by omega⟩,fun h=>absurd hr h⟩
  ·simp(disch:=first|assumption|omega|(simp only[zl]<;>omega)|(simp only[zn])) only[↓zd,zk,seval,reduceIte,List.map,AV.cells,List.all,AV.one,eqV,eqAll,splice,fillA,List.replicate,resAll,resA,zm,zg,cfC,hbox]
   have:=fin []
   rwa [List.append_nil] at this
 ·simp only[decide_eq_false hr] at hRT
  by_cases hp:(p:Int) < c.n
  ·simp(disch:=first|assumption|omega|(simp only[zl]<;>omega)|(simp only[zn])) only[↓zd,zk,seval,reduceIte,List.map,AV.cells,List.all,AV.one,eqV,eqAll,splice,fillA,List.replicate,resAll,resA,zm,zg,cfC,hbox,a157,hRT]
   exact fin _
  ·simp(disch:=first|assumption|omega|(simp only[zl]<;>omega)|(simp only[zn])) only[↓zd,zk,seval,reduceIte,List.map,AV.cells,List.all,AV.one,eqV,eqAll,splice,fillA,List.replicate,resAll,resA,zm,zg,cfC,hbox]
   have:=fin []
   rwa [List.append_nil] at this
end Go.Am.F11
end
section
namespace Go.Am.F11
open Go.Am.F06 Go.Am.F10 Go.Am.F09
theorem count_take{l:List Int} {j:Nat} {y:Int} (h:l[j]?=some y) (x:Int):(l.take (j+1)).count x=(l.take j).count x+if y=x then 1 else 0:=by
 rw[List.take_add_one,h,List.count_append]
 simp[List.count_cons]
def BiI(a b:AV) (n:Nat) (m0:MM) (k:Nat) (e:List AV) (m:MM):Prop:=∃ (i:Nat) (z4 z5 z6 z7 z8 z9 z10 z11 z12:AV),
 e=[a,b,.bool false,.int .i64 i,z4,z5,z6,z7,z8,z9,z10,z11,z12]∧m=m0∧k=n - i∧i≤n
def BjI(a b:AV) (xs ys:List Int) (x:Int) (i:Nat) (m0:MM) (k:Nat) (e:List AV) (m:MM):Prop:=∃ (j:Nat) (z7 z8 z9 z10 z11 z12:AV),
 e=[a,b,.bool false,.int .i64 i,.int .i64 ((xs.take j).count x:Int),.int .i64 ((ys.take j).count x:Int),.int .i64 j,z7,z8,z9,z10,z11,z12]∧m=m0∧k=ys.length - j∧j≤ys.length
set_option maxHeartbeats 8000000 in
theorem bag_run{m:MM} {w1 w2:Bool} {xs ys:List Int} {a b:AV} (ha:SI m w1 xs a) (hb:SI m w2 ys b) (hx:xs.length < 1000000) (hp:xs.Perm ys):Fn [] law11_same [a,b] m (fun r m'=>r = .bool true∧m'=m):=by
 refine Fn_of rfl ?_
 have h1:=ha.len
 have h2:=hb.len
 have hn:xs.length=ys.length:=hp.length_eq
 rcases Nat.eq_zero_or_pos xs.length with h0|h0
 ·have hx0:xs=[]:=List.length_eq_zero_iff.1 h0
  have hy0:ys=[]:=List.length_eq_zero_iff.1 (by omega)
  rw[hx0] at h1;rw[hy0] at h2
  subst hx0;subst hy0
  simp(disch:=first|assumption|omega|(simp only[zl]<;>omega)|(simp only[zn])) only[law11_same,↓zd,zk,seval,reduceIte,List.map,AV.cells,List.all,AV.one,eqV,eqAll,splice,fillA,List.replicate,resAll,resA,ev_len,h1,h2]
  refine W_loop (fun k e m'=>∃ z4 z5 z6 z7 z8 z9 z10 z11 z12:AV,e=[a,b,.bool false,.int .i64 0,z4,z5,z6,z7,z8,z9,z10,z11,z12]∧m'=m) 0 (by simp[FUEL]) ⟨_,_,_,_,_,_,_,_,_,rfl,rfl⟩ ?_
  rintro k e m' ⟨z4,z5,z6,z7,z8,z9,z10,z11,z12,rfl,rfl⟩
  simp(disch:=first|assumption|omega|(simp only[zl]<;>omega)|(simp only[zn])) only[↓zd,zk,seval,reduceIte,List.map,AV.cells,List.all,AV.one,eqV,eqAll,splice,fillA,List.replicate,resAll,resA,ev_len,h1]
 ·obtain⟨q,o,cap,ro,L,rfl,hq,_,hL,hat⟩:=ha.val h0
  obtain⟨q',o',cap',ro',L',rfl,hq',_,hL',hat'⟩:=hb.val (by omega)
  have hnn:¬ ¬ ((xs.length:Int)=ys.length):=by omega
  have hnI:(xs.length:Int)=ys.length:=by omega
  simp(disch:=first|assumption|omega|(simp only[zl]<;>omega)|(simp only[zn])) only[law11_same,↓zd,zk,seval,reduceIte,List.map,AV.cells,List.all,AV.one,eqV,eqAll,splice,fillA,List.replicate,resAll,resA,hnI]
  refine W_loop (BiI (.sl q o xs.length cap) (.sl q' o' ys.length cap') xs.length m) xs.length (by simp only[FUEL];omega) ⟨0,_,_,_,_,_,_,_,_,_,rfl,rfl,rfl,Nat.zero_le _⟩ ?_
  rintro k e m' ⟨i,z4,z5,z6,z7,z8,z9,z10,z11,z12,rfl,rfl,rfl,hi⟩
  simp(disch:=first|assumption|omega|(simp only[zl]<;>omega)|(simp only[zn])) only[↓zd,zk,seval,reduceIte,List.map,AV.cells,List.all,AV.one,eqV,eqAll,splice,fillA,List.replicate,resAll,resA]
  refine CW_of (fun h=>?_) (fun h=>?_)
  ·simp only[decide_eq_true_eq] at h
   obtain⟨x,hxi⟩:∃ x,xs[i]?=some x:=⟨_,List.getElem?_eq_getElem (by omega)⟩
   simp(disch:=first|assumption|omega|(simp only[zl]<;>omega)|(simp only[zn])) only[↓zd,zk,seval,reduceIte,List.map,AV.cells,List.all,AV.one,eqV,eqAll,splice,fillA,List.replicate,resAll,resA]
   refine W_loop (BjI (.sl q o xs.length cap) (.sl q' o' ys.length cap') xs ys x i m') ys.length (by simp only[FUEL];omega) ⟨0,_,_,_,_,_,_,rfl,rfl,rfl,Nat.zero_le _⟩ ?_
   rintro k e m2 ⟨j,y7,y8,y9,y10,y11,y12,rfl,rfl,rfl,hj⟩
   simp(disch:=first|assumption|omega|(simp only[zl]<;>omega)|(simp only[zn])) only[↓zd,zk,seval,reduceIte,List.map,AV.cells,List.all,AV.one,eqV,eqAll,splice,fillA,List.replicate,resAll,resA]
   refine CW_of (fun h=>?_) (fun h=>?_)
   ·simp only[decide_eq_true_eq] at h
    obtain⟨u,hu⟩:∃ u,xs[j]?=some u:=⟨_,List.getElem?_eq_getElem (by omega)⟩
    obtain⟨w,hw⟩:∃ w,ys[j]?=some w:=⟨_,List.getElem?_eq_getElem (by omega)⟩
    have c1:=count_take hu x
    have c2:=count_take hw x
    have l1:(xs.take j).count x≤j:=Nat.le_trans (List.count_le_length) (by rw[List.length_take];omega)
    have l2:(ys.take j).count x≤j:=Nat.le_trans (List.count_le_length) (by rw[List.length_take];omega)
    have e1:IntKind.i64.wrap (((xs.take j).count x:Int)+1)=((xs.take j).count x:Int)+1:=wrapI (by omega) (by omega)
    have e2:IntKind.i64.wrap (((ys.take j).count x:Int)+1)=((ys.take j).count x:Int)+1:=wrapI (by omega) (by omega)
    simp(disch:=first|assumption|omega|(simp only[zl]<;>omega)|(simp only[zn])) only[↓zd,zk,seval,reduceIte,List.map,AV.cells,List.all,AV.one,eqV,eqAll,splice,fillA,List.replicate,resAll,resA,hq,hq',hat j u hu,hat i x hxi,hat' j w hw]
    by_cases d1:u=x<;>by_cases d2:w=x
    all_goals simp only[d1,d2,if_true,if_false,Nat.add_zero] at c1 c2
    all_goals simp(disch:=first|assumption|omega|(simp only[zl]<;>omega)|(simp only[zn])) only[↓zd,zk,seval,reduceIte,List.map,AV.cells,List.all,AV.one,eqV,eqAll,splice,fillA,List.replicate,resAll,resA,d1,d2,hq,hq',hat i x hxi,hat' j w hw,e1,e2]
    ·have c1':((List.count x (List.take (j+1) xs):Nat):Int)=(List.count x (List.take j xs):Int)+1:=by omega
     have c2':((List.count x (List.take (j+1) ys):Nat):Int)=(List.count x (List.take j ys):Int)+1:=by omega
     exact⟨ys.length - (j+1),by omega,j+1,_,_,_,_,_,_,by rw[c1',c2'];rfl,rfl,rfl,by omega⟩
    ·have c1':((List.count x (List.take (j+1) xs):Nat):Int)=(List.count x (List.take j xs):Int)+1:=by omega
     have c2':((List.count x (List.take (j+1) ys):Nat):Int)=(List.count x (List.take j ys):Int):=by omega
     exact⟨ys.length - (j+1),by omega,j+1,_,_,_,_,_,_,by rw[c1',c2'];rfl,rfl,rfl,by omega⟩
    ·have c1':((List.count x (List.take (j+1) xs):Nat):Int)=(List.count x (List.take j xs):Int):=by omega
     have c2':((List.count x (List.take (j+1) ys):Nat):Int)=(List.count x (List.take j ys):Int)+1:=by omega
     exact⟨ys.length - (j+1),by omega,j+1,_,_,_,_,_,_,by rw[c1',c2'];rfl,rfl,rfl,by omega⟩
    ·have c1':((List.count x (List.take (j+1) xs):Nat):Int)=(List.count x (List.take j xs):Int):=by omega
     have c2':((List.count x (List.take (j+1) ys):Nat):Int)=(List.count x (List.take j ys):Int):=by omega
     exact⟨ys.length - (j+1),by omega,j+1,_,_,_,_,_,_,by rw[c1',c2'];rfl,rfl,rfl,by omega⟩
   ·simp only[decide_eq_false_iff_not] at h
    have hjy:j=ys.length:=by omega
    subst hjy
    have hc:(xs.take ys.length).count x=(ys.take ys.length).count x:=by
     rw[← hn,List.take_length,hn,List.take_length];exact hp.count_eq x
    simp(disch:=first|assumption|omega|(simp only[zl]<;>omega)|(simp only[zn])) only[↓zd,zk,seval,reduceIte,List.map,AV.cells,List.all,AV.one,eqV,eqAll,splice,fillA,List.replicate,resAll,resA,hc]
    exact⟨xs.length - (i+1),by omega,i+1,_,_,_,_,_,_,_,_,_,rfl,rfl,rfl,by omega⟩
  ·simp(disch:=first|assumption|omega|(simp only[zl]<;>omega)|(simp only[zn])) only[↓zd,zk,seval,reduceIte,List.map,AV.cells,List.all,AV.one,eqV,eqAll,splice,fillA,List.replicate,resAll,resA]
end Go.Am.F11
end
section
namespace Go.Am.F11
open Go.Am.F06 Go.Am.F10 Go.Am.F09
structure KG (c:Cf) (p g w0:Int) (A:List Int) (d:Nat) (s:PS) (xs:List Int):Prop where
 ok:OkL c xs
 w:xs.getD (wrdN c p) 0=dW w0 d
 dl:d≤A.length
 sl:∀ k,d≤k→k < A.length→slV c p w0 xs k=A.getD k 0
 hs:s.hs=[g]
 st:s.a=1∨((s.a=2∨s.a=3)∧∃ e,e≤d∧s.w=dW w0 e∧(A.length:Int) - e < c.q∧(s.a=3→slV c p w0 xs A.length=g)) ∨
  ((s.a=4∨s.a=5)∧s.w=dW w0 0∧(A.length:Int)=c.q∧(∀ k,k < A.length→slV c p w0 xs k=A.getD k 0)∧s.tk=(A.drop (A.length - (c.q / 2).toNat)).take s.tk.length∧(s.a=4→(s.tk.length:Int) < c.q / 2)∧(s.a=5→(s.tk.length:Int)=c.q / 2))
theorem KG.ring{c:Cf} {p g w0:Int} {A:List Int} {d:Nat} {s:PS} {xs:List Int} (h:KG c p g w0 A d s xs) (hp:thereP c p) (hA:(A.length:Int)=sz w0) (hq:sz w0≤c.q):ringL c p xs=A.drop d:=by
 have hdl:=h.dl
 refine ringL_eq hp h.w ?_ ?_ fun i hi=>?_
 ·rw[dW_sz (by omega)];omega
 ·rw[dW_sz (by omega),List.length_drop];omega
 ·rw[List.length_drop] at hi
  have:=h.sl (d+i) (by omega) (by omega)
  unfold slV at this
  have e:(hd (dW w0 d)+(i:Int)) % 4294967296=(hd w0+((d+i:Nat):Int)) % 4294967296:=by rw[hd_dW];omega
  rw[ringAt,e,this,List.getD_eq_getElem?_getD,List.getD_eq_getElem?_getD,List.getElem?_drop]
theorem KG.same{c:Cf} {p g w0:Int} {A:List Int} {d:Nat} {s:PS} {xs xs':List Int} (h:KG c p g w0 A d s xs) (hok:OkL c xs') (hw:xs'.getD (wrdN c p) 0=xs.getD (wrdN c p) 0) (hs:∀ k:Int,xs'.getD (slotA c p k).toNat 0=xs.getD (slotA c p k).toNat 0):KG c p g w0 A d s xs':=by
 have hsl:∀ k,slV c p w0 xs' k=slV c p w0 xs k:=fun k=>by unfold slV;rw[hs]
 obtain⟨h1,h2,h3,h4,h5,h6⟩:=h
 refine⟨hok,hw.trans h2,h3,fun k k1 k2=>by rw[hsl];exact h4 k k1 k2,h5,?_⟩
 rcases h6 with ha|⟨ha,e,he,hw,h7,h8⟩|⟨ha,hw,h7,h8,h9⟩
 ·exact .inl ha
 ·exact .inr (.inl ⟨ha,e,he,hw,h7,fun hh=>by rw[hsl];exact h8 hh⟩)
 ·exact .inr (.inr ⟨ha,hw,h7,fun k hk=>by rw[hsl];exact h8 k hk,h9⟩)
theorem KG.thief{c:Cf} {p g w0:Int} {A:List Int} {d:Nat} {s:PS} {xs:List Int} (h:KG c p g w0 A d s xs) (hp:thereP c p) {n:Nat} (hn:d+n≤A.length):KG c p g w0 A (d+n) s (dX c p xs n):=by
 have hsl:∀ k,slV c p w0 (dX c p xs n) k=slV c p w0 xs k:=fun k=>by
  unfold slV;rw[dX_slot hp n (by omega)]
 obtain⟨h1,h2,h3,h4,h5,h6⟩:=h
 refine⟨dX_ok h1 n,by rw[dX_word h1 hp,h2,dW_add],hn,fun k k1 k2=>by rw[hsl];exact h4 k (by omega) k2,h5,?_⟩
 rcases h6 with ha|⟨ha,e,he,hw,h7,h8⟩|⟨ha,hw,h7,h8,h9⟩
 ·exact .inl ha
 ·exact .inr (.inl ⟨ha,e,by omega,hw,h7,fun hh=>by rw[hsl];exact h8 hh⟩)
 ·exact .inr (.inr ⟨ha,hw,h7,fun k hk=>by rw[hsl];exact h8 k hk,h9⟩)
theorem KG.start{c:Cf} {p g:Int} {xs:List Int} (hx:OkL c xs) (hp:thereP c p) (hq:sz (xs.getD (wrdN c p) 0)≤c.q):KG c p g (xs.getD (wrdN c p) 0) (ringL c p xs) 0 ⟨1,0,[],[g]⟩ xs:=by
 have hw:=getD_64 hx.2 (wrdN c p)
 refine⟨hx,(dW_zero hw).symm,Nat.zero_le _,fun k _ hk=>?_,rfl,.inl rfl⟩
 rw[ringL_there hp] at hk ⊢
 rw[ringW_len] at hk
 have e:(ringW c p xs (xs.getD (wrdN c p) 0) (ringN c (xs.getD (wrdN c p) 0))).getD k 0=ringAt c p xs (xs.getD (wrdN c p) 0) k:=by rw[List.getD,ringW_get _ _ _ _ hk];rfl
 rw[e];rfl
theorem ring_len{c:Cf} {p:Int} {xs:List Int} (hp:thereP c p) (hq:sz (xs.getD (wrdN c p) 0)≤c.q):((ringL c p xs).length:Int)=sz (xs.getD (wrdN c p) 0):=by
 have:=sz_b (xs.getD (wrdN c p) 0)
 rw[ringL_there hp,ringW_len];unfold ringN;rw[if_pos hq];omega
theorem ring_sz{c:Cf} {p:Int} {xs:List Int} (hp:thereP c p) (h:0 < (ringL c p xs).length):sz (xs.getD (wrdN c p) 0)≤c.q:=by
 rw[ringL_there hp,ringW_len] at h
 unfold ringN at h
 split at h
 ·assumption
 ·omega
set_option maxHeartbeats 4000000 in
theorem KG.step{c:Cf} {p g w0:Int} {A:List Int} {d:Nat} {s:PS} {xs:List Int} (h:KG c p g w0 A d s xs) (hp:thereP c p) (hA:(A.length:Int)=sz w0) (hq:sz w0≤c.q) (hw0:W64 w0) (g0:0≤g) (g1:g < 9223372036854775808) (ha:s.a≠0) :
  ((stepP c p g xs s).1.a≠0∧KG c p g w0 A d (stepP c p g xs s).1 (stepP c p g xs s).2) ∨
  ((stepP c p g xs s).1.a=0∧(stepP c p g xs s).1.hs=[]∧OkL c (stepP c p g xs s).2∧ringL c p (stepP c p g xs s).2=A.drop d++[g]∧(A.length:Int) - d < c.q∧d≤A.length) ∨
  ((stepP c p g xs s).1.a=0∧d=0∧(A.length:Int)=c.q∧(stepP c p g xs s).1.hs=A.drop (A.length - (c.q / 2).toNat)++[g]∧OkL c (stepP c p g xs s).2∧ringL c p (stepP c p g xs s).2=A.take (A.length - (c.q / 2).toNat)):=by
 have hb:=there_bounds hp
 have hroom:roomP c.q:=hp.1.2.1
 have heven:c.q / 2+c.q / 2=c.q:=by rcases hroom with h|h|h|h|h|h<;>rw[h]<;>rfl
 have htb:=tl_b w0
 have hhb:=hd_b hw0
 obtain⟨h1,h2,h3,h4,h5,h6⟩:=h
 have hxl:=h1.1
 have hwb:=addr_b hp (i:=0) (by omega) (by omega)
 have hwl:wrdN c p < xs.length:=by unfold wrdN;omega
 obtain⟨a,w,tk,hs⟩:=s
 simp only at ha h5 h6
 rcases h6 with rfl|⟨h7|h7,e,h8,h9,h10,h12⟩|⟨h7|h7,h8,h9,h10,h11,h12,h13⟩
 ·have hs1:stepP c p g xs ⟨1,w,tk,hs⟩=(⟨if c.q≤sz (dW w0 d) then 4 else 2,dW w0 d,[],hs⟩,xs):=by simp only[stepP,if_true,h2]
  have hz:=dW_sz (w:=w0) (i:=d) (by omega)
  rw[hs1,hz]
  by_cases hfull:c.q≤sz w0 - d
  ·have hd0:d=0:=by omega
   rw[if_pos hfull]
   refine .inl ⟨by simp,h1,h2,h3,h4,h5,.inr (.inr ⟨.inl rfl,by rw[hd0],by omega,fun k hk=>h4 k (by omega) hk,by simp,fun _=>by simp only[List.length_nil];omega,fun hh=>by simp at hh⟩)⟩
  ·rw[if_neg hfull]
   exact .inl ⟨by simp,h1,h2,h3,h4,h5,.inr (.inl ⟨.inl rfl,d,Nat.le_refl _,rfl,by omega,fun hh=>by simp at hh⟩)⟩
 ·subst h7
  have hsl:pslA c p w 0=slotA c p ((hd w0+A.length) % 4294967296):=by
   unfold pslA;rw[h9,tl_dW,tl_at hA,Int.add_zero]
  have hs1:stepP c p g xs ⟨2,w,tk,hs⟩=(⟨3,w,tk,hs⟩,xs.set (slotA c p ((hd w0+A.length) % 4294967296)).toNat g):=by
   have:IntKind.u64.wrap g=g:=wrapU g0 (by omega)
   simp only[stepP,if_neg (show ¬ ((2:Int)=1) by decide),if_true,hsl,this]
  rw[hs1]
  have hsb:=slot_b (i:=(hd w0+A.length) % 4294967296) hp (by omega)
  refine .inl ⟨by simp,h1.set _ (by unfold W64;omega),?_,h3,fun k k1 k2=>?_,h5,.inr (.inl ⟨.inr rfl,e,h8,h9,h10,fun _=>?_⟩)⟩
  ·rw[getD_set2 (slot_word hp)];exact h2
  ·unfold slV
   rw[getD_set2 (slot_ne hp (by omega) (by omega) (fun hh=>room_mod (a:=hd w0) (k:=k) (n:=A.length) hroom (by omega) (by omega) hh.symm))]
   exact h4 k k1 k2
  ·unfold slV
   rw[getD_set_self (by omega)];exact wrapI (by omega) (by omega)
 ·subst h7
  by_cases heq:d=e
  ·have hw:xs.getD (wrdN c p) 0=w:=by rw[h2,h9,heq]
   have hs1:stepP c p g xs ⟨3,w,tk,hs⟩=(⟨0,w,tk,[]⟩,xs.set (wrdN c p) (growW w 1)):=if_pos hw
   rw[hs1]
   have hg:growW w 1=pk ((hd w0+e) % 4294967296) ((tl w0+1) % 4294967296):=by unfold growW;rw[h9,hd_dW,tl_dW]
   refine .inr (.inl ⟨rfl,rfl,h1.set _ (grow_64 (by rw[h9];exact dW_64 _ _) _),?_,by omega,h3⟩)
   have hsz:sz (growW w 1)=A.length - e+1:=by
    rw[hg];unfold sz;rw[hd_pk (by omega) (by omega),tl_pk (by omega) (by omega)]
    unfold sz at hA;omega
   refine ringL_eq hp (getD_set_self hwl) (by rw[hsz];omega) (by rw[hsz,List.length_append,List.length_drop,List.length_singleton];omega) fun k hk=>?_
   rw[List.length_append,List.length_drop,List.length_singleton] at hk
   have hpos:(hd (growW w 1)+(k:Int)) % 4294967296=(hd w0+((d+k:Nat):Int)) % 4294967296:=by
    rw[hg,hd_pk (by omega) (by omega)];omega
   rw[ringAt,hpos,getD_set2 (slot_word hp).symm]
   by_cases hk2:d+k < A.length
   ·have:=h4 (d+k) (by omega) hk2
    unfold slV at this
    rw[this,List.getD_eq_getElem?_getD,List.getD_eq_getElem?_getD,List.getElem?_append_left (by rw[List.length_drop];omega),List.getElem?_drop]
   ·have hk3:d+k=A.length:=by omega
    have:=h12 rfl
    unfold slV at this
    rw[hk3,this,List.getD_eq_getElem?_getD,List.getElem?_append_right (by rw[List.length_drop];omega),List.length_drop,show k - (A.length - d)=0 by omega];rfl
  ·have hw:¬ xs.getD (wrdN c p) 0=w:=fun hh=>heq (dW_inj (w:=w0) (by omega) (by omega) (by rw[← h2,hh,h9]))
   have hs1:stepP c p g xs ⟨3,w,tk,hs⟩=(⟨1,w,tk,hs⟩,xs):=if_neg hw
   rw[hs1]
   exact .inl ⟨by simp,h1,h2,h3,h4,h5,.inl rfl⟩
 ·subst h7
  have hlt:=h12 rfl
  have hsl:pslA c p w (tk.length - c.q / 2)=slotA c p ((hd w0+((A.length - (c.q / 2).toNat+tk.length:Nat):Int)) % 4294967296):=by
   unfold pslA;rw[h8,tl_dW,tl_at hA];congr 2;omega
  have hv:=h10 (A.length - (c.q / 2).toNat+tk.length) (by omega)
  unfold slV at hv
  have hs1:stepP c p g xs ⟨4,w,tk,hs⟩=(⟨if (tk.length:Int)+1=c.q / 2 then 5 else 4,w,tk++[A.getD (A.length - (c.q / 2).toNat+tk.length) 0],hs⟩,xs):=by
   simp only[stepP,if_neg (show ¬ ((4:Int)=1) by decide),if_neg (show ¬ ((4:Int)=2) by decide),if_neg (show ¬ ((4:Int)=3) by decide),if_true,hsl,hv]
  rw[hs1]
  have htk:tk++[A.getD (A.length - (c.q / 2).toNat+tk.length) 0]=(A.drop (A.length - (c.q / 2).toNat)).take (tk.length+1):=by
   have hg:(A.drop (A.length - (c.q / 2).toNat))[tk.length]?=some (A.getD (A.length - (c.q / 2).toNat+tk.length) 0):=by
    rw[List.getElem?_drop,List.getD_eq_getElem?_getD,List.getElem?_eq_getElem (by omega)];rfl
   rw[List.take_add_one,hg,← h11];rfl
  refine .inl ⟨by simp only;split<;>omega,h1,h2,h3,h4,h5,.inr (.inr ⟨?_,h8,h9,h10,?_,fun hh=>?_,fun hh=>?_⟩)⟩
  ·simp only;split<;>simp
  ·simp only[List.length_append,List.length_singleton];exact htk
  ·simp only[List.length_append,List.length_singleton] at hh ⊢
   by_cases hq2:(tk.length:Int)+1=c.q / 2
   ·rw[if_pos hq2] at hh;simp at hh
   ·omega
  ·simp only[List.length_append,List.length_singleton] at hh ⊢
   by_cases hq2:(tk.length:Int)+1=c.q / 2
   ·omega
   ·rw[if_neg hq2] at hh;simp at hh
 ·subst h7
  have hlt:=h13 rfl
  by_cases heq:d=0
  ·have hw:xs.getD (wrdN c p) 0=w:=by rw[h2,h8,heq]
   have hs1:stepP c p g xs ⟨5,w,tk,hs⟩=(⟨0,w,tk,tk++[g]⟩,xs.set (wrdN c p) (dropW w (c.q / 2))):=if_pos hw
   rw[hs1]
   have hg:dropW w (c.q / 2)=pk ((hd w0+(0:Nat)) % 4294967296) ((tl w0 - c.q / 2) % 4294967296):=by unfold dropW;rw[h8,hd_dW,tl_dW]
   have hsz:sz (dropW w (c.q / 2))=A.length - c.q / 2:=by
    rw[hg];unfold sz;rw[hd_pk (by omega) (by omega),tl_pk (by omega) (by omega)]
    unfold sz at hA;omega
   refine .inr (.inr ⟨rfl,heq,h9,?_,h1.set _ (drop_64 (by rw[h8];exact dW_64 _ _) _),?_⟩)
   ·have:(A.drop (A.length - (c.q / 2).toNat)).take tk.length=A.drop (A.length - (c.q / 2).toNat):=List.take_of_length_le (by rw[List.length_drop];omega)
    rw[this] at h11
    simp only;rw[← h11]
   ·refine ringL_eq hp (getD_set_self hwl) (by rw[hsz];omega) (by rw[hsz,List.length_take];omega) fun k hk=>?_
    rw[List.length_take] at hk
    have hpos:(hd (dropW w (c.q / 2))+(k:Int)) % 4294967296=(hd w0+(k:Int)) % 4294967296:=by
     rw[hg,hd_pk (by omega) (by omega)];omega
    rw[ringAt,hpos,getD_set2 (slot_word hp).symm]
    have:=h10 k (by omega)
    unfold slV at this
    rw[this,List.getD_eq_getElem?_getD,List.getD_eq_getElem?_getD,List.getElem?_take,if_pos (by omega)]
  ·have hw:¬ xs.getD (wrdN c p) 0=w:=fun hh=>heq (dW_inj (w:=w0) (by omega) (by omega) (by rw[← h2,hh,h8]))
   have hs1:stepP c p g xs ⟨5,w,tk,hs⟩=(⟨1,w,tk,hs⟩,xs):=if_neg hw
   rw[hs1]
   exact .inl ⟨by simp,h1,h2,h3,h4,h5,.inl rfl⟩
def Oth(c:Cf) (p:Int) (xs xs':List Int):Prop:=∀ p' i,thereP c p'→p'≠p→0≤i→i < 6+c.q→xs'.getD (addrA c p' i).toNat 0=xs.getD (addrA c p' i).toNat 0
theorem Oth.refl(c:Cf) (p:Int) (xs:List Int):Oth c p xs xs:=fun _ _ _ _ _ _=>rfl
theorem Oth.set{c:Cf} {p i v:Int} {xs:List Int} (hp:thereP c p) (h0:0≤i) (h1:i < 6+c.q):Oth c p xs (xs.set (addrA c p i).toNat v):=fun p' i' hp' hne h2 h3=>getD_set2 (addr_ne2 hp hp' h0 h1 h2 h3 (.inl (fun h=>hne h.symm)))
theorem Oth.word{c:Cf} {p p':Int} {xs xs':List Int} (h:Oth c p xs xs') (hp':thereP c p') (hne:p'≠p):xs'.getD (wrdN c p') 0=xs.getD (wrdN c p') 0:=h p' 0 hp' hne (by omega) (by have:=there_bounds hp';omega)
theorem Oth.slot{c:Cf} {p p':Int} {xs xs':List Int} (h:Oth c p xs xs') (hp':thereP c p') (hne:p'≠p) (k:Int):xs'.getD (slotA c p' k).toNat 0=xs.getD (slotA c p' k).toNat 0:=by
 obtain⟨e,h2,h3⟩:=slot_addr k hp'
 rw[e];exact h p' _ hp' hne (by omega) h3
theorem Oth.ring{c:Cf} {p p':Int} {xs xs':List Int} (h:Oth c p xs xs') (hp':thereP c p') (hne:p'≠p):ringL c p' xs'=ringL c p' xs:=by
 rw[ringL_there hp',ringL_there hp',h.word hp' hne]
 refine List.map_congr_left fun i _=>?_
 unfold ringAt;rw[h.slot hp' hne]
theorem oth_word{c:Cf} {p v:Int} {xs:List Int} (hp:thereP c p):Oth c p xs (xs.set (wrdN c p) v):=Oth.set hp (by omega) (by have:=there_bounds hp;omega)
theorem oth_slot{c:Cf} {p v k:Int} {xs:List Int} (hp:thereP c p):Oth c p xs (xs.set (slotA c p k).toNat v):=by
 obtain⟨e,h2,h3⟩:=slot_addr k hp
 rw[e];exact Oth.set hp (by omega) h3
theorem oth_dX{c:Cf} {p:Int} {xs:List Int} (hp:thereP c p) (n:Nat):Oth c p xs (dX c p xs n):=by
 unfold dX;split
 ·exact .refl _ _ _
 ·exact oth_word hp
theorem oth_stepP{c:Cf} {p g:Int} {s:PS} {xs:List Int} (hp:thereP c p):Oth c p xs (stepP c p g xs s).2:=by
 unfold stepP
 repeat' split
 all_goals first|exact .refl _ _ _|exact oth_word hp|exact oth_slot hp
theorem oth_stepL{c:Cf} {p:Int} {s:LS} {xs:List Int} (hp:thereP c p):Oth c p xs (F09.stepL c p xs s).2:=by
 unfold F09.stepL
 repeat' split
 all_goals first|exact .refl _ _ _|exact oth_word hp|exact oth_slot hp
theorem hd_grow(w n:Int):hd (growW w n)=hd w:=by unfold growW;exact hd_pk (by omega) (by omega)
theorem hd_drop(w n:Int):hd (dropW w n)=hd w:=by unfold dropW;exact hd_pk (by omega) (by omega)
theorem stepP_hd{c:Cf} {p g:Int} {s:PS} {xs:List Int} (hp:thereP c p):hd ((stepP c p g xs s).2.getD (wrdN c p) 0)=hd (xs.getD (wrdN c p) 0):=by
 have hw:∀ v,hd v=hd (xs.getD (wrdN c p) 0)→hd ((xs.set (wrdN c p) v).getD (wrdN c p) 0)=hd (xs.getD (wrdN c p) 0):=fun v hv=>by
  rcases getD_setc xs (wrdN c p) (wrdN c p) v with e|e
  ·rw[e];exact hv
  ·rw[e]
 unfold stepP
 repeat' split
 all_goals first|rfl|exact congrArg hd (getD_set2 (slot_word hp))|(rename_i h;exact hw _ ((hd_grow _ _).trans (congrArg hd h.symm)))|(rename_i h;exact hw _ ((hd_drop _ _).trans (congrArg hd h.symm)))
end Go.Am.F11
end
