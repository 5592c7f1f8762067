import Derived.Test.YtmgahjccidmlaaaGreatXG19
set_option linter.unusedSimpArgs false
set_option linter.unusedVariables false
section
namespace Go.Am.F11
open Go.Am.F06 Go.Am.F10 Go.Am.F09
def Gsl:List (Nat × AFun Ob):=[(159,F10.c_conf_Config_Word),(24,memF loadS),(178,F10.c_word_Len)]
def Gsc:List (Nat × AFun Ob):=[(179,F10.c_word_Head),(160,F10.c_conf_Config_Slot),(24,memF loadS),(288,c_steal_Steal_half)]
def SqP(m:MM) (P Q:Nat→Prop) (c:Cf) (p v:Int) (xj j:Nat) (x:TS × List Int) (o:Int) (r:AV) (m':MM):Prop:=r = .tup []∧KeepP P j m m'∧TQ m' (NewP P m m') (NewP Q m m') c p v xj x.1∧∃ st',m'[j]?=some (.abs (.mem st'))∧RelM x.2 o st'
theorem KeepP.app{P:Nat→Prop} {j:Nat} {m m':MM} (h:KeepP P j m m') (K:MM):KeepP P j m (m'++K) :=
 ⟨by simp;have:=h.1;omega,fun i hi h1 h2=>by rw[List.getElem?_append_left (by have:=h.1;omega)];exact h.2 i hi h1 h2⟩
set_option maxHeartbeats 8000000 in
theorem slook_run {m : MM} {P Q : Nat → Prop} {c : Cf} {p v o : Int} {s : TS} {xj j : Nat} {xs : List Int} {st : MemSt} (hT : TQ m P Q c p v xj s) (hi : m[j]? = some (.abs (.mem st))) (hr : RelM xs o st) (hok : TOk c p v s) (hx : OkL c xs) (ha : s.a = 1) :
    Fn Gsl steal_Steal_look [.ptr xj 0, .ptr j 0] m (SqP m P Q c p v xj j (stepT c p v xs s) (opsT s o)) := by
  have a159 : assoc Gsl 159 = some F10.c_conf_Config_Word := rfl
  have a24 : assoc Gsl 24 = some (memF loadS) := rfl
  have a178 : assoc Gsl 178 = some F10.c_word_Len := rfl
  generalize Gsl = G at a159 a24 a178 ⊢
  obtain ⟨hown, lyv, bv, hj, hB, hL⟩ := hT
  have hij : xj ≠ j := fun h => by rw [h, hi] at hj; cases hj
  have lj : xj < m.length := (List.getElem?_eq_some_iff.1 hj).1
  have li : j < m.length := (List.getElem?_eq_some_iff.1 hi).1
  have hk0 : s.k = 0 := by rcases hok.k with hk | hk <;> omega
  have hly : lyv = .nilp := by
    rcases hL with hL | hL
    · exact hL.2
    · omega
  subst hly
  obtain ⟨a, w, bl, k, ly⟩ := s
  simp only at ha hk0 hj
  subst ha; subst hk0
  have hth : thereS c p v := by rcases hok.a with h | h
                                · simp at h
                                · exact h.1
  have hb := there_bounds hth.2.1
  have hxl := hx.1
  have hcn := cellsN_le c
  have ha0 := addr_b hth.2.1 (i := 0) (by omega) (by omega)
  have hthr : thr xs (addrA c v 0) := ⟨by omega, by omega⟩
  have hwt : (addrA c v 0).toNat = wrdN c v := rfl
  have hg := getD_64 hx.2 (wrdN c v)
  obtain ⟨st', r', _, f24, _⟩ := hr.loadE hthr
  rw [hwt] at f24
  generalize he : stepT c p v xs ⟨1, w, bl, 0, ly⟩ = sx
  have ho : opsT ⟨1, w, bl, 0, ly⟩ o = IntKind.u64.wrap (o + 1) := rfl
  rw [ho]
  simp only [stepT] at he
  generalize xs.getD (wrdN c v) 0 = w' at hg f24 he
  rw [if_neg (by decide), if_pos trivial] at he
  have hwr := fun m : MM => word_run (m := m) c v
  have hz := fun m : MM => len_eq m hg
  have e0 : IntKind.u32.wrap c.q = c.q := by rw [wrap32]; omega
  have hbone : bv.one = true := by
    rcases hB with ⟨rfl, _⟩ | ⟨_, ⟨_, _, _, rfl, _⟩, _⟩ <;> rfl
  have hbc : bv.cells = [bv] := by
    rcases hB with ⟨rfl, _⟩ | ⟨_, ⟨_, _, _, rfl, _⟩, _⟩ <;> rfl
  simp only [cfC, List.cons_append, List.nil_append] at hwr
  simp only [stC, cfC, List.cons_append, List.nil_append] at hj
  refine Fn_of rfl ?_
  simp (disch := first | assumption | omega | (simp only [zl] <;> omega) | (simp only [zn])) only [steal_Steal_look, ↓zd, zk, seval, reduceIte, List.map, AV.cells, List.all, AV.one, eqV, eqAll, splice, fillA, List.replicate, resAll, resA, zm, zg, hj, hi, a159, hwr, a24, f24, a178, hz, e0, cfC, evC, Int.toNat_zero]
  have fin : ∀ (a' : Int) (K : MM), sx = (⟨a', w', [], 0, ly⟩, xs) → (a' = 0 ∨ a' = 2) → K[3]? = some (.cells 1 false (repeatL c.q.toNat [.int .i64 0])) → SqP m P Q c p v xj j sx (IntKind.u64.wrap (o + 1)) (.tup []) ((m.set j (.abs (.mem st'))).set xj (.cells 13 false (stC c p v a' w' .nilp (.sl (m.length + 3) 0 0 (some c.q.toNat)) 0)) ++ K) := by
    intro a' K hsx ha' hK
    subst hsx
    have hK3 : 3 < K.length := (List.getElem?_eq_some_iff.1 hK).1
    refine ⟨rfl, KeepP.app (((KeepP.refl m).set (.inr (.inr rfl)) _).set (.inl hown) _) K, ⟨.inl hown, .nilp, _, ?_, .inr ⟨c.q.toNat, ⟨m.length + 3, repeatL c.q.toNat [.int .i64 0], .inr ⟨by omega, by simp; omega⟩, rfl, ?_, by simp, ?_, ?_, ⟨List.replicate c.q.toNat 0, ?_⟩⟩, fun _ => by omega⟩, .inl ⟨rfl, rfl⟩⟩, st', ?_, r'⟩
    · rw [List.getElem?_append_left (by simpa using lj), List.getElem?_set_self (by simpa using lj)]; rfl
    · rw [List.getElem?_append_right (by simp)]
      simpa using hK
    · simp [repeatL]
    · rfl
    · simp [repeatL, iC]
    · rw [List.getElem?_append_left (by simpa using li), List.getElem?_set_ne hij, List.getElem?_set_self li]
  by_cases h0 : sz w' = 0
  · have hb : (sz w' = 0 ∨ c.q < sz w') := .inl h0
    rw [if_pos hb] at he
    simp (disch := first | assumption | omega | (simp only [zl] <;> omega) | (simp only [zn])) only [↓zd, zk, seval, reduceIte, List.map, AV.cells, List.all, AV.one, eqV, eqAll, splice, fillA, List.replicate, resAll, resA, zm, zg, h0, List.set_set]
    exact fin 0 _ he.symm (.inl rfl) rfl
  · by_cases h1 : c.q < sz w'
    · have hb : (sz w' = 0 ∨ c.q < sz w') := .inr h1
      rw [if_pos hb] at he
      simp (disch := first | assumption | omega | (simp only [zl] <;> omega) | (simp only [zn])) only [↓zd, zk, seval, reduceIte, List.map, AV.cells, List.all, AV.one, eqV, eqAll, splice, fillA, List.replicate, resAll, resA, zm, zg, h0, h1, e0, List.set_set]
      exact fin 0 _ he.symm (.inl rfl) rfl
    · have hb : ¬ (sz w' = 0 ∨ c.q < sz w') := fun h => h.elim h0 h1
      rw [if_neg hb] at he
      simp (disch := first | assumption | omega | (simp only [zl] <;> omega) | (simp only [zn])) only [↓zd, zk, seval, reduceIte, List.map, AV.cells, List.all, AV.one, eqV, eqAll, splice, fillA, List.replicate, resAll, resA, zm, zg, h0, h1, e0, List.set_set]
      exact fin 2 _ he.symm (.inr rfl) rfl
set_option maxHeartbeats 8000000 in
theorem scopy_run{m:MM} {P Q:Nat→Prop} {c:Cf} {p v o:Int} {s:TS} {xj j:Nat} {xs:List Int} {st:MemSt} (hT:TQ m P Q c p v xj s) (hi:m[j]?=some (.abs (.mem st))) (hr:RelM xs o st) (hok:TOk c p v s) (hx:OkL c xs) (ha:s.a=2) :
  Fn Gsc steal_Steal_copy [.ptr xj 0,.ptr j 0] m (SqP m P Q c p v xj j (stepT c p v xs s) (opsT s o)):=by
 have a179:assoc Gsc 179=some F10.c_word_Head:=rfl
 have a160:assoc Gsc 160=some F10.c_conf_Config_Slot:=rfl
 have a24:assoc Gsc 24=some (memF loadS):=rfl
 have a288:assoc Gsc 288=some c_steal_Steal_half:=rfl
 generalize Gsc=G at a179 a160 a24 a288 ⊢
 obtain⟨hown,lyv,bv,hj,hB,hL⟩:=hT
 have hij:xj≠j:=fun h=>by rw[h,hi] at hj;cases hj
 have lj:xj < m.length:=(List.getElem?_eq_some_iff.1 hj).1
 have li:j < m.length:=(List.getElem?_eq_some_iff.1 hi).1
 have hk0:s.k=0:=by rcases hok.k with hk|hk<;>omega
 have hly:lyv = .nilp:=by
  rcases hL with hL|hL
  ·exact hL.2
  ·omega
 subst hly
 obtain⟨a,w,bl,k,ly⟩:=s
 simp only at ha hk0 hj
 subst ha;subst hk0
 obtain⟨cap,⟨qb,L,hPq,rfl,gq,hb1,hb2,hb3,l',hl'⟩,hcap⟩:=hB.resolve_left (fun h=>h.2.2.1 rfl)
 have hcap:=hcap rfl
 simp only at hb1 hb3
 obtain⟨hth,hh⟩:=hok.a.resolve_left (by simp)
 have hh2:sz w≤c.q∧(bl.length:Int) < halfI w:=by
  rcases hh with h|h|h|h
  ·simp at h
  ·exact h.2
  ·simp at h
  ·simp at h
 have hw:W64 w:=hok.w
 have hb:=there_bounds hth.2.1
 have hxl:=hx.1
 have hcn:=cellsN_le c
 have hhb:=hd_b hw
 have hm0:=Int.emod_nonneg (hd w+bl.length) (b:=4294967296) (by omega)
 have hm1:=Int.emod_lt_of_pos (hd w+bl.length) (b:=4294967296) (by omega)
 have hsb:=slot_b hth.2.1 hm0
 have hthr:thr xs (slotA c v ((hd w+bl.length) % 4294967296)):=⟨by omega,by omega⟩
 have hwt:(slotA c v ((hd w+bl.length) % 4294967296)).toNat=sslN c v w bl.length:=rfl
 obtain⟨st',r',_,f24,_⟩:=hr.loadE hthr
 rw[hwt] at f24
 generalize he:stepT c p v xs ⟨2,w,bl,0,ly⟩=sx
 have ho:opsT ⟨2,w,bl,0,ly⟩ o=IntKind.u64.wrap (o+1):=rfl
 rw[ho]
 simp only[stepT] at he
 generalize xs.getD (sslN c v w bl.length) 0=w' at f24 he
 rw[if_neg (by decide),if_neg (by decide),if_pos trivial] at he
 have hhd:=fun m:MM=>head_eq m hw
 have hsl:=fun m:MM=>slot_eqR m hth.2.1.1 v hm0 hm1
 have hhw:=half_b w
 have hs0:=sz_b w
 have e1:IntKind.u32.wrap (bl.length:Int)=bl.length:=by rw[wrap32];omega
 have e2:IntKind.u32.wrap (hd w+bl.length)=(hd w+bl.length) % 4294967296:=by rw[wrap32]
 have hqx:qb≠xj:=fun hh=>by rw[hh,hj] at gq;cases gq
 have hqj:qb≠j:=fun hh=>by rw[hh,hi] at gq;cases gq
 have lq:qb < m.length:=(List.getElem?_eq_some_iff.1 gq).1
 have hj0:=hj
 simp only[cfC,List.cons_append,List.nil_append] at hsl
 simp only[stC,cfC,List.cons_append,List.nil_append] at hj
 have hroom:bl.length+1≤cap:=by omega
 refine Fn_of rfl ?_
 have hg:=fun K:MM=>(show (((m.set j (.abs (.mem st'))).set qb (.cells 1 false (L.take bl.length ++ .int .i64 (IntKind.i64.wrap w') :: L.drop (bl.length+1)))).set xj (.cells 13 false (stC c p v 2 w .nilp (.sl qb 0 (bl.length+1) (some cap)) 0))++K)[xj]?=some (.cells 13 false (stC c p v 2 w .nilp (.sl qb 0 (bl.length+1) (some cap)) 0)) by
  rw[List.getElem?_append_left (by simpa using lj),List.getElem?_set_self (by simpa using lj)])
 have hhalf:=fun K:MM=>half_eq (hg K) hw
 have fin:∀ (a':Int) (K:MM),sx=(⟨a',w,bl++[IntKind.i64.wrap w'],0,ly⟩,xs)→(a'=2∨a'=3)→SqP m P Q c p v xj j sx (IntKind.u64.wrap (o+1)) (.tup []) (((m.set j (.abs (.mem st'))).set qb (.cells 1 false (L.take bl.length ++ .int .i64 (IntKind.i64.wrap w') :: L.drop (bl.length+1)))).set xj (.cells 13 false (stC c p v a' w .nilp (.sl qb 0 (bl.length+1) (some cap)) 0))++K):=by
  intro a' K hsx ha'
  subst hsx
  refine⟨rfl,KeepP.app ((((KeepP.refl m).set (.inr (.inr rfl)) _).set (.inl hPq) _).set (.inl hown) _) K,⟨.inl hown,.nilp,.sl qb 0 (bl.length+1) (some cap),?_,.inr ⟨cap,⟨qb,L.take bl.length ++ .int .i64 (IntKind.i64.wrap w') :: L.drop (bl.length+1),.inl hPq,by simp,?_,?_,?_,?_,⟨l'.take bl.length++IntKind.i64.wrap w' :: l'.drop (bl.length+1),?_⟩⟩,fun _=>hcap⟩,.inl ⟨rfl,rfl⟩⟩,st',?_,r'⟩
  ·rw[List.getElem?_append_left (by simpa using lj),List.getElem?_set_self (by simpa using lj)]
  ·rw[List.getElem?_append_left (by simpa using lq),List.getElem?_set_ne (Ne.symm hqx),List.getElem?_set_self (by simpa using lq)]
  ·simp;omega
  ·simp;omega
  ·have e:(bl++[IntKind.i64.wrap w']).length=bl.length+1:=by simp
   show List.take (bl++[IntKind.i64.wrap w']).length _=iC (bl++[IntKind.i64.wrap w'])
   rw[e,iC_app,List.take_append,List.length_take,Nat.min_eq_left (by omega),List.take_take,Nat.min_eq_right (by omega),hb3,show bl.length+1 - bl.length=1 by omega]
   rfl
  ·rw[hl'];simp[iC]
  ·rw[List.getElem?_append_left (by simpa using li),List.getElem?_set_ne hij,List.getElem?_set_ne hqj,List.getElem?_set_self li]
 clear hg
 simp only[stC,cfC,List.cons_append,List.nil_append] at hhalf
 simp(disch:=first|assumption|omega|(simp only[zl]<;>omega)|(simp only[zn])) only[steal_Steal_copy,↓zd,zk,seval,reduceIte,List.map,AV.cells,List.all,AV.one,eqV,eqAll,splice,fillA,List.replicate,resAll,resA,zm,zg,hj,hi,a160,hsl,a24,f24,a179,hhd,cfC,ev_len,lenA,e1,e2,evA,fillA,repeatL,List.flatten_cons,List.flatten_nil,appendA,rowOf,gq,a288,hhalf]
 by_cases hf:((bl.length:Int)+1)=halfI w
 ·rw[if_pos hf] at he
  have hf':((bl.length+1:Nat):Int)=halfI w:=by omega
  simp(disch:=first|assumption|omega|(simp only[zl]<;>omega)|(simp only[zn])) only[↓zd,zk,seval,reduceIte,List.map,AV.cells,List.all,AV.one,eqV,eqAll,splice,fillA,List.replicate,resAll,resA,zm,zg,hf',List.set_set]
  exact fin 3 _ he.symm (.inr rfl)
 ·rw[if_neg hf] at he
  have hf':¬ (((bl.length+1:Nat):Int)=halfI w):=by omega
  simp(disch:=first|assumption|omega|(simp only[zl]<;>omega)|(simp only[zn])) only[↓zd,zk,seval,reduceIte,List.map,AV.cells,List.all,AV.one,eqV,eqAll,splice,fillA,List.replicate,resAll,resA,zm,zg,hf',List.set_set]
  exact fin 2 _ he.symm (.inl rfl)
end Go.Am.F11
end
section
namespace Go.Am.F11
open Go.Am.F06 Go.Am.F10 Go.Am.F09
def Gsg:List (Nat × AFun Ob):=[(159,F10.c_conf_Config_Word),(288,c_steal_Steal_half),(180,c_word_Gain),(23,memF casS),(199,amFunc Gnl put_NewLay)]
set_option maxHeartbeats 16000000 in
theorem sgain_run{m:MM} {P Q:Nat→Prop} {c:Cf} {p v o:Int} {s:TS} {xj j:Nat} {xs:List Int} {st:MemSt} (hT:TQ m P Q c p v xj s) (hi:m[j]?=some (.abs (.mem st))) (hr:RelM xs o st) (hok:TOk c p v s) (hx:OkL c xs) (ha:s.a=3) :
  Fn Gsg steal_Steal_gain [.ptr xj 0,.ptr j 0] m (SqP m P Q c p v xj j (stepT c p v xs s) (opsT s o)):=by
 have a159:assoc Gsg 159=some F10.c_conf_Config_Word:=rfl
 have a288:assoc Gsg 288=some c_steal_Steal_half:=rfl
 have a180:assoc Gsg 180=some c_word_Gain:=rfl
 have a23:assoc Gsg 23=some (memF casS):=rfl
 have a199:assoc Gsg 199=some (amFunc Gnl put_NewLay):=rfl
 generalize Gsg=G at a159 a288 a180 a23 a199 ⊢
 obtain⟨hown,lyv,bv,hj,hB,hL⟩:=hT
 have hij:xj≠j:=fun h=>by rw[h,hi] at hj;cases hj
 have lj:xj < m.length:=(List.getElem?_eq_some_iff.1 hj).1
 have li:j < m.length:=(List.getElem?_eq_some_iff.1 hi).1
 have hk0:s.k=0:=by rcases hok.k with hk|hk<;>omega
 have hly:lyv = .nilp:=by
  rcases hL with hL|hL
  ·exact hL.2
  ·omega
 subst hly
 obtain⟨a,w,bl,k,ly⟩:=s
 simp only at ha hk0 hj
 subst ha;subst hk0
 obtain⟨cap,⟨qb,L,hPq,rfl,gq,hb1,hb2,hb3,hb4⟩,_⟩:=hB.resolve_left (fun h=>h.2.2.2.1 rfl)
 simp only at hb1 hb3
 obtain⟨hth,hh⟩:=hok.a.resolve_left (by simp)
 have hh2:sz w≤c.q∧(bl.length:Int)=halfI w∧0 < bl.length:=by
  rcases hh with h|h|h|h
  ·simp at h
  ·simp at h
  ·exact h.2
  ·simp at h
 have hw:W64 w:=hok.w
 have hbb:bl.length≤64:=hok.b
 have hb:=there_bounds hth.2.1
 have hxl:=hx.1
 have hcn:=cellsN_le c
 have ha0:=addr_b hth.2.1 (i:=0) (by omega) (by omega)
 have hthr:thr xs (addrA c v 0):=⟨by omega,by omega⟩
 have hwt:(addrA c v 0).toNat=wrdN c v:=rfl
 have hhw:=half_b w
 have hs0:=sz_b w
 obtain⟨st',r',_,f23,_⟩:=hr.casE hthr w (gainN w (halfI w))
 rw[hwt] at f23 r'
 generalize he:stepT c p v xs ⟨3,w,bl,0,ly⟩=sx
 have ho:opsT ⟨3,w,bl,0,ly⟩ o=IntKind.u64.wrap (o+1):=rfl
 rw[ho]
 simp only[stepT] at he
 rw[if_neg (by decide),if_neg (by decide),if_neg (by decide),if_pos trivial] at he
 have hwr:=fun m:MM=>word_run (m:=m) c v
 have hgn:=fun m:MM=>gainN_eq m hw (n:=halfI w)
 have hqx:qb≠xj:=fun hh=>by rw[hh,hj] at gq;cases gq
 have hqj:qb≠j:=fun hh=>by rw[hh,hi] at gq;cases gq
 have lq:qb < m.length:=(List.getElem?_eq_some_iff.1 gq).1
 have hhalf:=fun K:MM=>half_eq ((Keep.app m K).get hj) hw
 have e1:IntKind.u32.wrap (halfI w)=halfI w:=by rw[wrap32];omega
 simp only[cfC,List.cons_append,List.nil_append] at hwr
 have hj0:=hj
 simp only[stC,cfC,List.cons_append,List.nil_append] at hj hhalf
 refine Fn_of rfl ?_
 by_cases heq:xs.getD (wrdN c v) 0=w
 ·rw[if_pos heq] at he r'
  have hd:decide (xs.getD (wrdN c v) 0=w)=true:=decide_eq_true heq
  simp only[hd] at f23
  have hs3:∀ K:MM,amOp G (.slice 1 false true true) [.sl qb 0 bl.length (some cap),.int .i64 (bl.length:Int),.int .i64 (bl.length:Int)] K=some (.sl qb 0 bl.length (some bl.length),K):=fun K=>by
   have hc:bl.length≤cap:=hb1
   simp[amOp,optN,sliceA,hc]
  have hs1:∀ K:MM,amOp G (.slice 1 true false false) [.sl qb 0 bl.length (some bl.length),.int .i64 1] K=some (.sl qb (if bl.length=1 then 0 else 1) (bl.length - 1) (some (bl.length - 1)),K):=fun K=>by
   have hc:1≤bl.length:=hh2.2.2
   simp[amOp,optN,sliceA,hc]
  simp(disch:=first|assumption|omega|(simp only[zl]<;>omega)|(simp only[zn])) only[steal_Steal_gain,↓zd,zk,seval,reduceIte,List.map,AV.cells,List.all,AV.one,eqV,eqAll,splice,fillA,List.replicate,resAll,resA,zm,zg,hj,hi,a159,hwr,a288,hhalf,e1,a180,hgn,a23,f23,cfC,ev_len,lenA,evA,hs3,hs1,List.set_set,a199]
  obtain⟨K,hK⟩:∃ K:MM,K=[Chunk.cells 6 false (cfC c),.cells 7 false (cfC c++[.int .i64 v]),.cells 6 false (cfC c)]:=⟨_,rfl⟩
  simp only[cfC,List.cons_append,List.nil_append] at hK
  rw[← hK]
  obtain⟨E,hE⟩:∃ E:MM,E=(m.set j (.abs (.mem st'))).set xj (.cells 13 false (stC c p v 3 w .nilp (.sl qb 0 bl.length (some bl.length)) bl.length))++K:=⟨_,rfl⟩
  have kE:KeepP P j m E:=by rw[hE];exact KeepP.app (((KeepP.refl m).set (.inr (.inr rfl)) _).set (.inl hown) _) K
  have gx:E[xj]?=some (.cells 13 false (stC c p v 3 w .nilp (.sl qb 0 bl.length (some bl.length)) bl.length)):=by
   rw[hE,List.getElem?_append_left (by simpa using lj),List.getElem?_set_self (by simpa using lj)]
  have gj:E[j]?=some (.abs (.mem st')):=by
   rw[hE,List.getElem?_append_left (by simpa using li),List.getElem?_set_ne hij,List.getElem?_set_self li]
  have gqE:E[qb]?=some (.cells 1 false L):=by
   rw[hE,List.getElem?_append_left (by simpa using lq),List.getElem?_set_ne (Ne.symm hqx),List.getElem?_set_ne (Ne.symm hqj)];exact gq
  simp only[stC,cfC,List.cons_append,List.nil_append] at hE
  rw[← hE]
  clear hE
  have hsi:SI E true bl.tail (.sl qb (if bl.length=1 then 0 else 1) (bl.length - 1) (some (bl.length - 1))):=by
   refine⟨by rw[iC_len];simp,.inr ⟨qb,_,_,by rw[List.length_tail],fun h0=>⟨false,L,gqE,?_,?_,fun _=>rfl⟩⟩⟩
   ·rw[List.length_tail] at h0 ⊢
    rw[if_neg (by omega),Nat.mul_one]
    have e:(L.take bl.length).drop 1=(L.drop 1).take (bl.length - 1):=by rw[List.drop_take]
    rw[← e,hb3,iC,iC,← List.drop_one,List.map_drop]
   ·rw[List.length_tail] at h0 ⊢
    rw[if_neg (by omega)];omega
  have hnl:=newlay_run (c:=c) (p:=p) hsi (by rw[List.length_tail];omega)
  simp only[cfC,List.cons_append,List.nil_append] at hnl
  refine OK_fn hnl ?_
  rintro _ m2 ⟨lb,lxv,rfl,hlb,k2,hlm,hlf⟩
  have gx2:=k2.get gx
  have gj2:=k2.get gj
  have gq2:=k2.get gqE
  have llb:lb < m2.length:=(List.getElem?_eq_some_iff.1 hlm.get).1
  have lx2:xj < m2.length:=(List.getElem?_eq_some_iff.1 gx2).1
  have hmE:=kE.1
  have kP:KeepP P j m m2:=kE.trans (KeepP.of k2)
  have fin:∀ a':Int,sx=(⟨a',w,bl,bl.length,newL c p bl.tail⟩,xs.set (wrdN c v) (gainN w (halfI w)))→(a'=0∨a'=4)→SqP m P Q c p v xj j sx (IntKind.u64.wrap (o+1)) (.tup []) (m2.set xj (.cells 13 false (stC c p v a' w (.ptr lb 0) (.sl qb 0 bl.length (some bl.length)) bl.length))):=by
   intro a' hsx ha'
   subst hsx
   have hne:lb≠xj:=by omega
   have hn1:∀ ro L,m2[xj]?≠some (.cells 1 ro L):=fun ro L hh=>by rw[gx2] at hh;cases hh
   refine⟨rfl,kP.set (.inl hown) _,⟨.inl hown,.ptr lb 0,_,List.getElem?_set_self lx2,.inr ⟨bl.length,⟨qb,L,.inl hPq,rfl,by rw[List.getElem?_set_ne (Ne.symm hqx)];exact gq2,Nat.le_refl _,by omega,hb3,hb4⟩,fun h=>by rcases ha' with h'|h'<;>(subst h';cases h)⟩,.inr ⟨by show (0:Int) < (bl.length:Int);omega,lb,lxv,rfl,.inr ⟨by omega,by simpa using llb⟩,⟨by rw[List.getElem?_set_ne (Ne.symm hne)];exact hlm.get,Sl.put hlm.l hn1 _,fun h0=>(hlm.nx h0).put hn1 _⟩,fun q o n cap hv h0=>.inr ?_⟩⟩,st',by rw[List.getElem?_set_ne hij];exact gj2,r'⟩
   have hlen:=hlm.l.len
   rw[hv] at hlen;simp only[lenA,Option.some.injEq] at hlen;subst hlen
   have h1:=(Sl.lt hlm.l hv h0).1
   rcases hlf with h|⟨_,_,_,_,h,h'⟩
   ·rw[h] at hv;cases hv
   ·rw[h] at hv;injection hv with e1;exact⟨by omega,by simpa using (show q < m2.length by omega)⟩
  simp only[stC,cfC,List.cons_append,List.nil_append] at gx2 fin
  by_cases h1:bl.length=1
  ·have h1':((bl.length:Nat):Int)=1:=by omega
   rw[if_pos h1] at he
   simp(disch:=first|assumption|omega|(simp only[zl]<;>omega)|(simp only[zn])) only[↓zd,zk,seval,reduceIte,List.map,AV.cells,List.all,AV.one,eqV,eqAll,splice,fillA,List.replicate,resAll,resA,zm,zg,gx2,h1',List.set_set]
   have:=fin 0 he.symm (.inl rfl)
   rw[h1'] at this
   exact this
  ·have h1':¬ (((bl.length:Nat):Int)=1):=by omega
   rw[if_neg h1] at he
   simp(disch:=first|assumption|omega|(simp only[zl]<;>omega)|(simp only[zn])) only[↓zd,zk,seval,reduceIte,List.map,AV.cells,List.all,AV.one,eqV,eqAll,splice,fillA,List.replicate,resAll,resA,zm,zg,gx2,h1',List.set_set]
   exact fin 4 he.symm (.inr rfl)
 ·rw[if_neg heq] at he r'
  have hd:decide (xs.getD (wrdN c v) 0=w)=false:=decide_eq_false heq
  simp only[hd] at f23
  simp(disch:=first|assumption|omega|(simp only[zl]<;>omega)|(simp only[zn])) only[steal_Steal_gain,↓zd,zk,seval,reduceIte,List.map,AV.cells,List.all,AV.one,eqV,eqAll,splice,fillA,List.replicate,resAll,resA,zm,zg,hj,hi,a159,hwr,a288,hhalf,e1,a180,hgn,a23,f23,cfC,ev_len,lenA,evA,List.set_set]
  subst he
  refine⟨rfl,KeepP.app (((KeepP.refl m).set (.inr (.inr rfl)) _).set (.inl hown) _) _,⟨.inl hown,.nilp,.nils,?_,.inl ⟨rfl,rfl,by simp,by simp,rfl⟩,.inl ⟨rfl,rfl⟩⟩,st',?_,r'⟩
  ·rw[List.getElem?_append_left (by simpa using lj),List.getElem?_set_self (by simpa using lj)];rfl
  ·rw[List.getElem?_append_left (by simpa using li),List.getElem?_set_ne hij,List.getElem?_set_self li]
end Go.Am.F11
end
section
namespace Go.Am.F11
open Go.Am.F06 Go.Am.F10 Go.Am.F09
def Gst:List (Nat × AFun Ob):=[(277,c_steal_Steal_Done),(283,amFunc Gsl steal_Steal_look),(284,amFunc Gsc steal_Steal_copy),(285,amFunc Gsg steal_Steal_gain),(195,amFunc Glst put_Lay_Step)]
def SsQ(m:MM) (P Q:Nat→Prop) (c:Cf) (p v:Int) (xj j:Nat) (x:TS × List Int) (o:Int) (r:AV) (m':MM):Prop:=r = .bool (decide (x.1.a=0))∧KeepP P j m m'∧TQ m' (NewP P m m') (NewP Q m m') c p v xj x.1∧∃ st',m'[j]?=some (.abs (.mem st'))∧RelM x.2 o st'
theorem BtO.bal{m:MM} {P:Nat→Prop} {c:Cf} {s:TS} {bv:AV} (h:BtO m P c s bv) (hk:0 < s.k):∃ cap,Bt m P cap s.bl bv:=by
 rcases h with h|⟨cap,h,_⟩
 ·have:=h.2.2.2.2;omega
 ·exact⟨cap,h⟩
set_option maxHeartbeats 16000000 in
theorem sstepQ_run{m:MM} {P Q:Nat→Prop} {c:Cf} {p v o:Int} {s:TS} {xj j:Nat} {xs:List Int} {st:MemSt} (hT:TQ m P Q c p v xj s) (hi:m[j]?=some (.abs (.mem st))) (hr:RelM xs o st) (hok:TOk c p v s) (hx0:s.a=0∨OkL c xs) :
  Fn Gst steal_Steal_Step [.ptr xj 0,.ptr j 0] m (fun r m'=>SsQ m P Q c p v xj j (stepT c p v xs s) (opsT s o) r m'∧(0 < s.k→RowsK m m')):=by
 have a277:assoc Gst 277=some c_steal_Steal_Done:=rfl
 have a283:assoc Gst 283=some (amFunc Gsl steal_Steal_look):=rfl
 have a284:assoc Gst 284=some (amFunc Gsc steal_Steal_copy):=rfl
 have a285:assoc Gst 285=some (amFunc Gsg steal_Steal_gain):=rfl
 have a195:assoc Gst 195=some (amFunc Glst put_Lay_Step):=rfl
 generalize Gst=G at a277 a283 a284 a285 a195 ⊢
 have hT0:=hT
 obtain⟨hown,lyv,bv,hj,hB,hL⟩:=hT
 have hij:xj≠j:=fun h=>by rw[h,hi] at hj;cases hj
 have lj:xj < m.length:=(List.getElem?_eq_some_iff.1 hj).1
 have hdone:=sdone_eq hj
 refine Fn_of rfl ?_
 by_cases h0:s.a=0
 ·have e:stepT c p v xs s=(s,xs):=if_pos h0
  have e2:opsT s o=o:=if_pos h0
  rw[decide_eq_true h0] at hdone
  rw[e,e2]
  simp(disch:=first|assumption|omega|(simp only[zl]<;>omega)|(simp only[zn])) only[steal_Steal_Step,↓zd,zk,seval,reduceIte,List.map,AV.cells,List.all,AV.one,eqV,eqAll,splice,fillA,List.replicate,resAll,resA,zm,zg,a277,hdone]
  refine⟨⟨by rw[decide_eq_true h0],.refl _,?_,st,hi,hr⟩,fun _ q ro L h=>h⟩
  have hN:∀ P,NewP P m m=P:=fun P=>by
   funext i;unfold NewP
   exact propext ⟨fun h=>h.elim id fun h=>by omega,.inl⟩
  rw[hN,hN];exact hT0
 ·have hx:OkL c xs:=hx0.resolve_left h0
  rw[decide_eq_false h0] at hdone
  have hfin:∀ {x:TS × List Int} {o':Int} {r:AV} {m1:MM},SqP m P Q c p v xj j x o' r m1→∃ lyv bv,m1[xj]?=some (.cells 13 false (stC c p v x.1.a x.1.w lyv bv x.1.k))∧SsQ m P Q c p v xj j x o' (.bool (decide (x.1.a=0))) m1:=fun {x o' r m1} ⟨_,h2,h3,h4⟩=>by
   obtain⟨lyv,bv,h6,_⟩:=h3.get
   exact⟨lyv,bv,h6,rfl,h2,h3,h4⟩
  simp only[stC,cfC,List.cons_append,List.nil_append] at hj
  obtain⟨hth,ha⟩:=hok.a.resolve_left h0
  rcases (show s.a=1∨s.a=2∨s.a=3∨(s.a=4∧0 < s.k) by omega) with h1|h1|h1|⟨h1,hk⟩
  ·simp(disch:=first|assumption|omega|(simp only[zl]<;>omega)|(simp only[zn])) only[steal_Steal_Step,↓zd,zk,seval,reduceIte,List.map,AV.cells,List.all,AV.one,eqV,eqAll,splice,fillA,List.replicate,resAll,resA,zm,zg,a277,hdone,hj,h1,a283]
   refine OK_fn (slook_run hT0 hi hr hok hx h1) ?_
   intro r m1 hq
   obtain⟨lyv',bv',gx,hf⟩:=hfin hq
   simp only[stC,cfC,List.cons_append,List.nil_append] at gx
   have hk0:s.k=0:=by rcases hok.k with hk|hk<;>omega
   simp(disch:=first|assumption|omega|(simp only[zl]<;>omega)|(simp only[zn])) only[↓zd,zk,seval,reduceIte,List.map,AV.cells,List.all,AV.one,eqV,eqAll,splice,fillA,List.replicate,resAll,resA,zm,zg,gx]
   exact⟨hf,fun h=>by omega⟩
  ·simp(disch:=first|assumption|omega|(simp only[zl]<;>omega)|(simp only[zn])) only[steal_Steal_Step,↓zd,zk,seval,reduceIte,List.map,AV.cells,List.all,AV.one,eqV,eqAll,splice,fillA,List.replicate,resAll,resA,zm,zg,a277,hdone,hj,h1,a284]
   refine OK_fn (scopy_run hT0 hi hr hok hx h1) ?_
   intro r m1 hq
   obtain⟨lyv',bv',gx,hf⟩:=hfin hq
   simp only[stC,cfC,List.cons_append,List.nil_append] at gx
   have hk0:s.k=0:=by rcases hok.k with hk|hk<;>omega
   simp(disch:=first|assumption|omega|(simp only[zl]<;>omega)|(simp only[zn])) only[↓zd,zk,seval,reduceIte,List.map,AV.cells,List.all,AV.one,eqV,eqAll,splice,fillA,List.replicate,resAll,resA,zm,zg,gx]
   exact⟨hf,fun h=>by omega⟩
  ·simp(disch:=first|assumption|omega|(simp only[zl]<;>omega)|(simp only[zn])) only[steal_Steal_Step,↓zd,zk,seval,reduceIte,List.map,AV.cells,List.all,AV.one,eqV,eqAll,splice,fillA,List.replicate,resAll,resA,zm,zg,a277,hdone,hj,h1,a285]
   refine OK_fn (sgain_run hT0 hi hr hok hx h1) ?_
   intro r m1 hq
   obtain⟨lyv',bv',gx,hf⟩:=hfin hq
   simp only[stC,cfC,List.cons_append,List.nil_append] at gx
   have hk0:s.k=0:=by rcases hok.k with hk|hk<;>omega
   simp(disch:=first|assumption|omega|(simp only[zl]<;>omega)|(simp only[zn])) only[↓zd,zk,seval,reduceIte,List.map,AV.cells,List.all,AV.one,eqV,eqAll,splice,fillA,List.replicate,resAll,resA,zm,zg,gx]
   exact⟨hf,fun h=>by omega⟩
  ·obtain⟨_,lb,lxv,rfl,hPl,hlm,hlQ⟩:=hL.resolve_left (fun h=>by omega)
   obtain⟨k1,k2,k3,k4,k5⟩:=hok.k.resolve_left (by omega)
   obtain⟨cap,qb,L,hPq,rfl,gq,hb1,hb2,hb3⟩:=hB.bal hk
   have hlx:lb≠xj:=fun hh=>by rw[← hh,hlm.get] at hj;injection hj with hj;injection hj with hj;cases hj
   have hlj:lb≠j:=fun hh=>by rw[← hh,hlm.get] at hi;cases hi
   have hqx:qb≠xj:=fun hh=>by rw[hh,hj] at gq;cases gq
   have hqj:qb≠j:=fun hh=>by rw[hh,hi] at gq;cases gq
   have hql:qb≠lb:=fun hh=>by rw[hh,hlm.get] at gq;cases gq
   have e:stepT c p v xs s=({ s with ly:=(stepL c p xs s.ly).1,a:=if (stepL c p xs s.ly).1.a=0 then 0 else 4 },(stepL c p xs s.ly).2):=by
    rw[stepT,if_neg h0,if_neg (by omega),if_neg (by omega),if_neg (by omega)]
   have e2:opsT s o=opsL s.ly o:=by rw[opsT,if_neg h0,if_pos h1]
   rw[e,e2]
   simp(disch:=first|assumption|omega|(simp only[zl]<;>omega)|(simp only[zn])) only[steal_Steal_Step,↓zd,zk,seval,reduceIte,List.map,AV.cells,List.all,AV.one,eqV,eqAll,splice,fillA,List.replicate,resAll,resA,zm,zg,a277,hdone,hj,h1,a195]
   refine OK_fn (lstep_runQ hlm hi hr (.inr hx) k4) ?_
   rintro _ m1 ⟨rfl,kx,⟨lv',hlm',hsub⟩,st',j1,r1⟩
   generalize stepL c p xs s.ly=y at hlm' r1 ⊢
   have gx:=kx.get hj (Ne.symm hlx) hij
   have gq1:=kx.get gq hql hqj
   have lx1:xj < m1.length:=(List.getElem?_eq_some_iff.1 gx).1
   have kP:KeepP P j m m1:=⟨kx.1,fun i hi h1 h2=>kx.2 i hi (fun hh=>h2 (by rw[hh];exact hPl)) h1⟩
   have fin:∀ a':Int,(a'=if y.1.a=0 then 0 else 4)→∀ C,C=stC c p v a' s.w (.ptr lb 0) (.sl qb 0 s.bl.length (some cap)) s.k→SsQ m P Q c p v xj j ({ s with ly:=y.1,a:=if y.1.a=0 then 0 else 4 },y.2) (opsL s.ly o) (.bool (decide (a'=0))) (m1.set xj (.cells 13 false C))∧RowsK m (m1.set xj (.cells 13 false C)):=by
    rintro a' rfl C rfl
    have hn1:∀ ro L,m1[xj]?≠some (.cells 1 ro L):=fun ro L hh=>by rw[gx] at hh;cases hh
    refine⟨⟨rfl,kP.set (.inl hown) _,⟨.inl hown,.ptr lb 0,_,List.getElem?_set_self lx1,.inr ⟨cap,⟨qb,L,.inl hPq,rfl,by rw[List.getElem?_set_ne (Ne.symm hqx)];exact gq1,hb1,hb2,hb3⟩,fun h=>?_⟩,.inr ⟨hk,lb,lv',rfl,.inl hPl,⟨by rw[List.getElem?_set_ne (Ne.symm hlx)];exact hlm'.get,Sl.put hlm'.l hn1 _,fun h0=>(hlm'.nx h0).put hn1 _⟩,hsub _ fun q o n cap hv h0=>.inl (hlQ q o n cap hv h0)⟩⟩,st',by rw[List.getElem?_set_ne hij];exact j1,r1⟩,fun q ro L hq=>?_⟩
    ·simp only at h
     split at h<;>cases h
    ·rw[List.getElem?_set_ne (fun hh=>by rw[← hh,hj] at hq;cases hq)]
     exact kx.get hq (fun hh=>by rw[hh,hlm.get] at hq;cases hq) (fun hh=>by rw[hh,hi] at hq;cases hq)
   simp only[stC,cfC,List.cons_append,List.nil_append] at fin
   by_cases hy:y.1.a=0
   ·simp(disch:=first|assumption|omega|(simp only[zl]<;>omega)|(simp only[zn])) only[↓zd,zk,seval,reduceIte,List.map,AV.cells,List.all,AV.one,eqV,eqAll,splice,fillA,List.replicate,resAll,resA,zm,zg,hy,gx]
    have:=fin 0 (by rw[if_pos hy]) _ rfl
    simp only[hy] at this
    exact⟨by simpa using this.1,fun _=>this.2⟩
   ·simp(disch:=first|assumption|omega|(simp only[zl]<;>omega)|(simp only[zn])) only[↓zd,zk,seval,reduceIte,List.map,AV.cells,List.all,AV.one,eqV,eqAll,splice,fillA,List.replicate,resAll,resA,zm,zg,hy,gx,h1]
    have hself:m1.set xj (.cells 13 false [AV.int .i64 c.n,.int .i64 c.q,.int .i64 c.g,.int .i64 c.m,.int .i64 c.t,.int .i64 c.s,.ptr lb 0,.int .i64 p,.int .i64 v,.int .i64 4,.int .u64 s.w,.sl qb 0 s.bl.length (some cap),.int .i64 s.k])=m1:=by
     rw[h1] at gx
     exact List.set_getElem_self_of gx
    have:=fin 4 (by rw[if_neg hy]) _ rfl
    rw[hself] at this
    exact⟨by simpa [hy] using this.1,fun _=>this.2⟩
def SsP(m:MM) (P:Nat→Prop) (c:Cf) (p v:Int) (xj j:Nat) (x:TS × List Int) (o:Int) (r:AV) (m':MM):Prop:=r = .bool (decide (x.1.a=0))∧KeepP P j m m'∧TM m' (NewP P m m') c p v xj x.1∧∃ st',m'[j]?=some (.abs (.mem st'))∧RelM x.2 o st'
theorem sstep_run{m:MM} {P:Nat→Prop} {c:Cf} {p v o:Int} {s:TS} {xj j:Nat} {xs:List Int} {st:MemSt} (hT:TM m P c p v xj s) (hi:m[j]?=some (.abs (.mem st))) (hr:RelM xs o st) (hok:TOk c p v s) (hx0:s.a=0∨OkL c xs) :
  Fn Gst steal_Steal_Step [.ptr xj 0,.ptr j 0] m (fun r m'=>SsP m P c p v xj j (stepT c p v xs s) (opsT s o) r m'∧(0 < s.k→RowsK m m')):=by
 obtain⟨r,m',h1,⟨h2,h3,h4,h5⟩,h6⟩:=sstepQ_run hT hi hr hok hx0
 exact⟨r,m',h1,⟨h2,h3,h4.tm,h5⟩,h6⟩
end Go.Am.F11
end
section
namespace Go.Am.F11
open Go.Am.F06 Go.Am.F10 Go.Am.F09
theorem grow_eq{m:MM} {n:Int} (h0:0 < n) (h1:n≤1000):c_slices_Grow_int [.nils,.int .i64 n] m=some (.sl m.length 0 0 none,m++[.cells 1 false (repeatL n.toNat [.int .i64 0])]):=by
 have hz:∀ G:List (Nat × AFun Ob),amOp G (.appendz 1 8 [.int .i64 0]) [.nils,.int .i64 n] m=some (.sl m.length 0 n.toNat none,m++[.cells 1 false (repeatL n.toNat [.int .i64 0])]):=fun G=>by
  simp only[amOp];rw[if_pos ⟨h0,by omega,by omega⟩]
 have hc:∀ G:List (Nat × AFun Ob),amOp G .cap [.nils] m=some (.int .i64 0,m):=fun G=>rfl
 have hsl:sliceA (m++[Chunk.cells 1 false (repeatL n.toNat [AV.int .i64 0])]) 1 (.sl m.length 0 n.toNat none) none (some 0) none=some (.sl m.length 0 0 none):=by
  simp only[sliceA,getC,get_concat]
  simp
 refine Fn_eq (Fn_of rfl ?_)
 have hnn:sliceA m 1 .nils none (some 0) none=some .nils:=by simp[sliceA]
 have hz0:n - (0 - ((0:Nat):Int))=n:=by omega
 simp(disch:=first|assumption|omega|(simp only[zl]<;>omega)|(simp only[zn])) only[slices_Grow_int,↓zd,zk,seval,reduceIte,List.map,AV.cells,List.all,AV.one,eqV,eqAll,splice,fillA,List.replicate,resAll,resA,zm,zg,hc,hz0,Int.sub_zero,hz,ev_len,lenA,evA,hnn,hsl,Int.toNat_zero]
theorem si_row{M:MM} {wr:Bool} {xs:List Int} {v:AV} (h:SI M wr xs v):rowOf M 1 v=some (iC xs):=by
 rcases h.2 with⟨rfl,h0⟩|⟨q,o,cap,rfl,h2⟩
 ·have:xs=[]:=List.eq_nil_of_length_eq_zero h0
  subst this;rfl
 ·by_cases h0:xs.length=0
  ·have:xs=[]:=List.eq_nil_of_length_eq_zero h0
   subst this;rfl
  ·obtain⟨ro,L,h3,h4,h5,_⟩:=h2 (by omega)
   simp only[rowOf,if_neg h0,getC,h3]
   rw[if_pos h5,h4]
theorem ic_one(xs:List Int):(iC xs).all AV.one=true:=iC_one xs
theorem app_unk{M:MM} {q n k:Nat} {L new:List AV} {v:AV} (hq:M[q]?=some (.cells 1 false L)) (hn:n≤L.length) (h1:(L.take n).all AV.one=true) (hv:lenA v=some k) (hr:rowOf M 1 v=some new) (h2:new.all AV.one=true) (hk:n+k≤2000) :
  appendA 1 8 (.sl q 0 n none) v M=some (if k=0 then(.sl q 0 n none,M) else(.sl M.length 0 (n+k) none,M.set q .dead++[.cells 1 false (L.take n++new)])):=by
 simp only[appendA,hv,hr]
 by_cases h0:k=0
 ·rw[if_pos h0,if_pos h0]
 ·rw[if_neg h0,if_neg h0]
  simp only[getC,hq,List.drop_zero,Nat.mul_one,Nat.zero_add]
  rw[if_pos ⟨trivial,hn,by omega,by omega,by rw[List.all_append,h1,h2];rfl⟩]
def Gcc:List (Nat × AFun Ob):=[(290,c_slices_Grow_int)]
def Cc1(m:MM) (lv:AV) (n1 n2:Nat) (k:Nat) (e:List AV) (m':MM):Prop:=∃ (i:Nat) (y3 y4 y5 y9 y10 y11 y12 y13 y14:AV),
 e=[lv,.nils,.int .i64 (if i=0 then 0 else if i=1 then n1 else n1+n2),y3,y4,y5,lv,.int .i64 2,.int .i64 i,y9,y10,y11,y12,y13,y14]∧k=2 - i∧i≤2∧m'=m
def Cc2(m:MM) (lv:AV) (xs ys:List Int) (k:Nat) (e:List AV) (m':MM):Prop:=∃ (i:Nat) (q:Nat) (y2 y3 y5 y6 y7 y8 y9 y10 y14:AV) (L:List AV),
 e=[lv,.nils,y2,y3,.sl q 0 (if i=0 then 0 else if i=1 then xs.length else xs.length+ys.length) none,y5,y6,y7,y8,y9,y10,lv,.int .i64 2,.int .i64 i,y14]∧k=2 - i∧i≤2∧m.length≤q∧Keep m m'∧m'[q]?=some (.cells 1 false L) ∧
 (i=0∨L=iC (if i=1 then xs else xs++ys))
def CcP(m:MM) (xs:List Int) (r:AV) (m':MM):Prop:=∃ q,r = .sl q 0 xs.length none∧m.length≤q∧Keep m m'∧m'[q]?=some (.cells 1 false (iC xs))
set_option maxHeartbeats 8000000 in
theorem concat_run {m : MM} {w1 w2 : Bool} {xs ys : List Int} {a b : AV} {lq : Nat} (h1 : SI m w1 xs a) (h2 : SI m w2 ys b) (hx : 0 < xs.length) (hn : xs.length + ys.length ≤ 1000) (hl : m[lq]? = some (.cells 1 false [a, b])) :
    Fn Gcc slices_Concat_int [.sl lq 0 2 (some 2)] m (CcP m (xs ++ ys)) := by
  have a290 : assoc Gcc 290 = some c_slices_Grow_int := rfl
  generalize Gcc = G at a290 ⊢
  have l1 := h1.len
  have l2 := h2.len
  have ll : lenA (.sl lq 0 2 (some 2)) = some 2 := rfl
  refine Fn_of rfl ?_
  simp (disch := first | assumption | omega | (simp only [zl] <;> omega) | (simp only [zn])) only [slices_Concat_int, ↓zd, zk, seval, reduceIte, List.map, AV.cells, List.all, AV.one, eqV, eqAll, splice, fillA, List.replicate, resAll, resA, zm, zg, ev_len, ll]
  refine W_loop (Cc1 m (.sl lq 0 2 (some 2)) xs.length ys.length) 2 (by simp [FUEL]) ⟨0, _, _, _, _, _, _, _, _, _, rfl, rfl, by omega, rfl⟩ ?_
  rintro k e m' ⟨i, y3, y4, y5, y9, y10, y11, y12, y13, y14, rfl, rfl, hi, rfl⟩
  rcases (show i = 0 ∨ i = 1 ∨ i = 2 by omega) with rfl | rfl | rfl
  · have hge : ¬ ((0 : Int) + xs.length < 0) := by omega
    have e0 : (0 : Int) + xs.length = xs.length := by omega
    have i0 : ((0 : Nat) : Int) = 0 := rfl
    have g1 : IntKind.i64.wrap (xs.length : Int) = xs.length := wrapI (by omega) (by omega)
    have hg : ¬ ((xs.length : Int) < 0) := by omega
    simp (disch := first | assumption | omega | (simp only [zl] <;> omega) | (simp only [zn])) only [↓zd, zk, seval, reduceIte, List.map, AV.cells, List.all, AV.one, eqV, eqAll, splice, fillA, List.replicate, resAll, resA, zm, zg, hl, i0, Int.toNat_zero, ev_len, l1, e0, g1, hg]
    exact ⟨_, by omega, 1, _, _, _, _, _, _, _, _, _, rfl, rfl, by omega, rfl⟩
  · have i1 : ((1 : Nat) : Int) = 1 := rfl
    have t1 : Int.toNat 1 = 1 := rfl
    have g1 : IntKind.i64.wrap ((xs.length : Int) + ys.length) = (xs.length : Int) + ys.length := wrapI (by omega) (by omega)
    have hg : ¬ ((xs.length : Int) + ys.length < 0) := by omega
    have n10 : ¬ ((1 : Nat) = 0) := by decide
    simp (disch := first | assumption | omega | (simp only [zl] <;> omega) | (simp only [zn])) only [↓zd, zk, seval, reduceIte, List.map, AV.cells, List.all, AV.one, eqV, eqAll, splice, fillA, List.replicate, resAll, resA, zm, zg, hl, i1, t1, ev_len, l2, n10, g1, hg]
    exact ⟨_, by omega, 2, _, _, _, _, _, _, _, _, _, rfl, rfl, by omega, rfl⟩
  · have i2 : ((2 : Nat) : Int) = 2 := rfl
    have n20 : ¬ ((2 : Nat) = 0) := by decide
    have n21 : ¬ ((2 : Nat) = 1) := by decide
    have fg := grow_eq (m := m') (n := (xs.length : Int) + ys.length) (by omega) (by omega)
    simp (disch := first | assumption | omega | (simp only [zl] <;> omega) | (simp only [zn])) only [↓zd, zk, seval, reduceIte, List.map, AV.cells, List.all, AV.one, eqV, eqAll, splice, fillA, List.replicate, resAll, resA, zm, zg, i2, n20, n21, a290, fg, ev_len, ll]
    have ht : ((xs.length : Int) + ys.length).toNat = xs.length + ys.length := by omega
    rw [ht]
    refine W_loop (Cc2 m' (.sl lq 0 2 (some 2)) xs ys) 2 (by simp [FUEL]) ⟨0, m'.length, _, _, _, _, _, _, _, _, _, _, rfl, rfl, by omega, Nat.le_refl _, .app _ _, get_concat, .inl rfl⟩ ?_
    rintro k e M ⟨i, q, y2, y3, y5, y6, y7, y8, y9, y10, y14, L, rfl, rfl, hi, hq, kM, gq, hL⟩
    have hlM := kM.get hl
    have hql : lq ≠ q := by have := (List.getElem?_eq_some_iff.1 hl).1; omega
    rcases (show i = 0 ∨ i = 1 ∨ i = 2 by omega) with rfl | rfl | rfl
    · have i0 : ((0 : Nat) : Int) = 0 := rfl
      have hap := app_unk gq (Nat.zero_le _) rfl l1 (si_row (h1.keep kM)) (ic_one xs) (by omega)
      rw [if_neg (by omega)] at hap
      simp only [List.take_zero, List.nil_append, Nat.zero_add] at hap
      have i02 : (0 : Int) < 2 := by decide
      simp (disch := first | assumption | omega | (simp only [zl] <;> omega) | (simp only [zn])) only [↓zd, zk, seval, reduceIte, List.map, AV.cells, List.all, AV.one, eqV, eqAll, splice, fillA, List.replicate, resAll, resA, zm, zg, hlM, i0, i02, Int.toNat_zero, evA, hap]
      refine ⟨_, by omega, 1, M.length, _, _, _, _, _, _, _, _, _, iC xs, rfl, rfl, by omega, by have := kM.1; omega, ?_, ?_, .inr rfl⟩
      · exact ((kM.set hq _).trans (.app _ _))
      · rw [List.getElem?_append_right (by simp)]; simp
    · have i1 : ((1 : Nat) : Int) = 1 := rfl
      have t1 : Int.toNat 1 = 1 := rfl
      have n10 : ¬ ((1 : Nat) = 0) := by decide
      have hL1 : L = iC xs := by rcases hL with h | h
                                 · omega
                                 · exact h
      subst hL1
      have hap := app_unk gq (n := xs.length) (by rw [iC_len]; omega) (by rw [List.take_of_length_le (by rw [iC_len]; omega)]; exact ic_one xs) l2 (si_row (h2.keep kM)) (ic_one ys) (by omega)
      rw [List.take_of_length_le (by rw [iC_len]; omega)] at hap
      by_cases hy : ys.length = 0
      · rw [if_pos hy] at hap
        have hy0 : ys = [] := List.eq_nil_of_length_eq_zero hy
        subst hy0
        simp (disch := first | assumption | omega | (simp only [zl] <;> omega) | (simp only [zn])) only [↓zd, zk, seval, reduceIte, List.map, AV.cells, List.all, AV.one, eqV, eqAll, splice, fillA, List.replicate, resAll, resA, zm, zg, hlM, i1, t1, n10, evA, hap]
        exact ⟨_, by omega, 2, q, _, _, _, _, _, _, _, _, _, iC xs, rfl, rfl, by omega, hq, kM, gq, .inr (by simp)⟩
      · rw [if_neg hy] at hap
        simp (disch := first | assumption | omega | (simp only [zl] <;> omega) | (simp only [zn])) only [↓zd, zk, seval, reduceIte, List.map, AV.cells, List.all, AV.one, eqV, eqAll, splice, fillA, List.replicate, resAll, resA, zm, zg, hlM, i1, t1, n10, evA, hap]
        refine ⟨_, by omega, 2, M.length, _, _, _, _, _, _, _, _, _, iC xs ++ iC ys, rfl, rfl, by omega, by have := kM.1; omega, ?_, ?_, .inr ?_⟩
        · exact ((kM.set hq _).trans (.app _ _))
        · rw [List.getElem?_append_right (by simp)]; simp
        · rw [if_neg (by decide), iC, iC, iC, List.map_append]
    · have i2 : ((2 : Nat) : Int) = 2 := rfl
      have n20 : ¬ ((2 : Nat) = 0) := by decide
      have n21 : ¬ ((2 : Nat) = 1) := by decide
      have hL1 : L = iC (xs ++ ys) := by rcases hL with h | h
                                         · omega
                                         · exact h
      subst hL1
      simp (disch := first | assumption | omega | (simp only [zl] <;> omega) | (simp only [zn])) only [↓zd, zk, seval, reduceIte, List.map, AV.cells, List.all, AV.one, eqV, eqAll, splice, fillA, List.replicate, resAll, resA, zm, zg, i2, n20, n21]
      exact ⟨q, by rw [List.length_append], hq, kM, gq⟩
end Go.Am.F11
end
section
namespace Go.Am.F11
open Go.Am.F06 Go.Am.F10 Go.Am.F09
def Grs:List (Nat × AFun Ob):=[(197,amFunc Gpo put_Lay_Hands)]
theorem rest_run{m:MM} {lb:Nat} {c:Cf} {p:Int} {s:LS} {lv:AV} (hx:LM m lb c p s lv) (hl:s.ls.length≤100000):Fn Grs steal_rest_Rest [.agg [.ptr lb 0]] m (ClP m s.ls):=by
 have a197:assoc Grs 197=some (amFunc Gpo put_Lay_Hands):=rfl
 generalize Grs=G at a197 ⊢
 have k1:=Keep.app m [Chunk.cells 1 false [.ptr lb 0]]
 have hx1:LM (m++[Chunk.cells 1 false [.ptr lb 0]]) lb c p s lv:=⟨k1.get hx.get,hx.l.keep k1,fun h=>(hx.nx h).keep k1⟩
 refine Fn_of rfl ?_
 simp(disch:=first|assumption|omega|(simp only[zl]<;>omega)|(simp only[zn])) only[steal_rest_Rest,↓zd,zk,seval,reduceIte,List.map,AV.cells,List.all,AV.one,eqV,eqAll,splice,fillA,List.replicate,resAll,resA,zm,zg,a197]
 refine OK_fn (lhands_run hx1 hl) ?_
 rintro r m1 ⟨k2,s2,f2⟩
 simp(disch:=first|assumption|omega|(simp only[zl]<;>omega)|(simp only[zn])) only[↓zd,zk,seval,reduceIte,List.map,AV.cells,List.all,AV.one,eqV,eqAll,splice,fillA,List.replicate,resAll,resA,zm,zg]
 exact⟨k1.trans k2,s2,by
  rcases f2 with h|⟨q,o,n,cap,h,h'⟩
  ·exact .inl h
  ·exact .inr ⟨q,o,n,cap,h,by simp at h';omega⟩⟩
def handsT(s:TS):List Int:=if s.k=0 then [] else s.bl.take 1++s.ly.ls
def leftT(s:TS):List Int:=if s.a=0∧0 < s.k then s.ly.ls else []
def gotB(s:TS):Bool:=decide (s.a=0∧0 < s.k)
def gotV(s:TS):Int:=if s.a=0∧0 < s.k then s.bl.getD 0 0 else 0
def Gsh:List (Nat × AFun Ob):=[(275,c_steal_Steal_Many),(286,amFunc Grs steal_rest_Rest),(287,amFunc Gcc slices_Concat_int)]
def Glf:List (Nat × AFun Ob):=[(277,c_steal_Steal_Done),(275,c_steal_Steal_Many),(286,amFunc Grs steal_rest_Rest)]
theorem clp_nil(m:MM):ClP m [] .nils m:=⟨.refl _,Sl.nil,.inl rfl⟩
theorem TM.mn{m:MM} {P:Nat→Prop} {c:Cf} {p v:Int} {xj:Nat} {s:TS} (h:TM m P c p v xj s):c_steal_Steal_Many [.ptr xj 0] m=some (.int .i64 s.k,m):=by
 obtain⟨_,_,_,h,_⟩:=h
 exact smany_eq h
theorem TM.dn{m:MM} {P:Nat→Prop} {c:Cf} {p v:Int} {xj:Nat} {s:TS} (h:TM m P c p v xj s):c_steal_Steal_Done [.ptr xj 0] m=some (.bool (decide (s.a=0)),m):=by
 obtain⟨_,_,_,h,_⟩:=h
 exact sdone_eq h
set_option maxHeartbeats 8000000 in
theorem shands_run{m:MM} {P:Nat→Prop} {c:Cf} {p v:Int} {xj:Nat} {s:TS} (hT:TM m P c p v xj s) (hok:TOk c p v s):Fn Gsh steal_Steal_Hands [.ptr xj 0] m (ClP m (handsT s)):=by
 have a275:assoc Gsh 275=some c_steal_Steal_Many:=rfl
 have a286:assoc Gsh 286=some (amFunc Grs steal_rest_Rest):=rfl
 have a287:assoc Gsh 287=some (amFunc Gcc slices_Concat_int):=rfl
 generalize Gsh=G at a275 a286 a287 ⊢
 have hm:=hT.mn
 obtain⟨hown,lyv,bv,hj,hB,hL⟩:=hT
 refine Fn_of rfl ?_
 unfold handsT
 by_cases hk:s.k=0
 ·rw[if_pos hk]
  rw[hk] at hm
  simp(disch:=first|assumption|omega|(simp only[zl]<;>omega)|(simp only[zn])) only[steal_Steal_Hands,↓zd,zk,seval,reduceIte,List.map,AV.cells,List.all,AV.one,eqV,eqAll,splice,fillA,List.replicate,resAll,resA,zm,zg,a275,hm]
  exact clp_nil m
 ·rw[if_neg hk]
  obtain⟨k1,k2,k3,k4,k5⟩:=hok.k.resolve_left (by omega)
  obtain⟨_,lb,lxv,rfl,hPl,hlm,_⟩:=hL.resolve_left (fun h=>hk h.1)
  obtain⟨cap,qb,L,hPq,rfl,gq,hb1,hb2,hb3,_⟩:=hB.bal k1
  have hls:=k4.l
  have hbb:=hok.b
  have hsl:∀ M:MM,sliceA M 1 (.sl qb 0 s.bl.length (some cap)) none (some 1) none=some (.sl qb 0 1 (some cap)):=fun M=>by
   have h1:1≤cap:=by omega
   have h2:¬ (cap=0):=by omega
   simp[sliceA,h1,h2]
  have t1:Int.toNat 1=1:=rfl
  have hj0:=hj
  simp only[stC,cfC,List.cons_append,List.nil_append] at hj
  simp(disch:=first|assumption|omega|(simp only[zl]<;>omega)|(simp only[zn])) only[steal_Steal_Hands,↓zd,zk,seval,reduceIte,List.map,AV.cells,List.all,AV.one,eqV,eqAll,splice,fillA,List.replicate,resAll,resA,zm,zg,a275,hm,hk,hj,evA,t1,hsl,a286]
  refine OKT_fn (rest_run hlm (by omega)) ?_
  rintro b m1 ⟨kr,sb,fb⟩
  have hj1:=kr.get hj
  have gq1:=kr.get gq
  have hone:=slOne sb
  have hbc:=(Fr.one fb).2
  simp only[AV.one] at hone
  simp only[AV.cells] at hbc
  simp(disch:=first|assumption|omega|(simp only[zl]<;>omega)|(simp only[zn])) only[↓zd,zk,seval,reduceIte,List.map,AV.cells,List.all,AV.one,eqV,eqAll,splice,fillA,List.replicate,resAll,resA,zm,zg,evA,fillA,repeatL,List.flatten_cons,List.flatten_nil,hbc,hone,a287]
  have kK:=Keep.app m1 [Chunk.cells 1 false [.sl qb 0 1 (some cap),b]]
  have hs1:SI (m1++[Chunk.cells 1 false [.sl qb 0 1 (some cap),b]]) false (s.bl.take 1) (.sl qb 0 1 (some cap)):=by
   have hlen:(s.bl.take 1).length=1:=by rw[List.length_take];omega
   refine⟨by rw[iC_len];omega,.inr ⟨qb,0,some cap,by rw[hlen],fun _=>⟨false,L,kK.get gq1,?_,by rw[hlen];omega,fun h=>by cases h⟩⟩⟩
   rw[hlen,List.drop_zero,Nat.mul_one]
   have e:(L.take s.bl.length).take 1=L.take 1:=by rw[List.take_take,Nat.min_eq_left (by omega)]
   rw[← e,hb3,iC,iC,List.map_take]
  have hlen:(s.bl.take 1).length=1:=by rw[List.length_take];omega
  refine OKT_fn (concat_run hs1 (sb.keep kK) (by omega) (by omega) get_concat) ?_
  rintro _ m2 ⟨q,rfl,hq,k2',g2⟩
  have hm1:=kr.1
  simp(disch:=first|assumption|omega|(simp only[zl]<;>omega)|(simp only[zn])) only[↓zd,zk,seval,reduceIte,List.map,AV.cells,List.all,AV.one,eqV,eqAll,splice,fillA,List.replicate,resAll,resA,zm,zg,hj1,evA,t1,hsl]
  refine⟨(kr.trans kK).trans k2',⟨by rw[iC_len];omega,.inr ⟨q,0,none,by rw[List.length_append],fun _=>⟨false,_,g2,by rw[List.drop_zero,Nat.mul_one,← iC_len,List.take_length],by rw[iC_len];omega,fun _=>rfl⟩⟩⟩,.inr ⟨q,0,_,none,rfl,by simp at hq;omega⟩⟩
set_option maxHeartbeats 8000000 in
theorem sleft_run{m:MM} {P:Nat→Prop} {c:Cf} {p v:Int} {xj:Nat} {s:TS} (hT:TM m P c p v xj s) (hok:TOk c p v s):Fn Glf steal_Steal_Left [.ptr xj 0] m (ClP m (leftT s)):=by
 have a277:assoc Glf 277=some c_steal_Steal_Done:=rfl
 have a275:assoc Glf 275=some c_steal_Steal_Many:=rfl
 have a286:assoc Glf 286=some (amFunc Grs steal_rest_Rest):=rfl
 generalize Glf=G at a277 a275 a286 ⊢
 have hm:=hT.mn
 have hd:=hT.dn
 obtain⟨hown,lyv,bv,hj,hB,hL⟩:=hT
 refine Fn_of rfl ?_
 unfold leftT
 by_cases ha:s.a=0
 ·rw[decide_eq_true ha] at hd
  by_cases hk:s.k=0
  ·rw[if_neg (by omega)]
   rw[hk] at hm
   simp(disch:=first|assumption|omega|(simp only[zl]<;>omega)|(simp only[zn])) only[steal_Steal_Left,↓zd,zk,seval,reduceIte,List.map,AV.cells,List.all,AV.one,eqV,eqAll,splice,fillA,List.replicate,resAll,resA,zm,zg,a277,hd,a275,hm]
   exact clp_nil m
  ·obtain⟨k1,k2,k3,k4,k5⟩:=hok.k.resolve_left (by omega)
   rw[if_pos ⟨ha,k1⟩]
   obtain⟨_,lb,lxv,rfl,hPl,hlm,_⟩:=hL.resolve_left (fun h=>hk h.1)
   have hls:=k4.l
   simp only[stC,cfC,List.cons_append,List.nil_append] at hj
   simp(disch:=first|assumption|omega|(simp only[zl]<;>omega)|(simp only[zn])) only[steal_Steal_Left,↓zd,zk,seval,reduceIte,List.map,AV.cells,List.all,AV.one,eqV,eqAll,splice,fillA,List.replicate,resAll,resA,zm,zg,a277,hd,a275,hm,hk,hj,a286]
   refine OK_fn (rest_run hlm (by omega)) ?_
   intro b m1 hcl
   simp(disch:=first|assumption|omega|(simp only[zl]<;>omega)|(simp only[zn])) only[↓zd,zk,seval,reduceIte,List.map,AV.cells,List.all,AV.one,eqV,eqAll,splice,fillA,List.replicate,resAll,resA,zm,zg]
   exact hcl
 ·rw[if_neg (by omega)]
  rw[decide_eq_false ha] at hd
  simp(disch:=first|assumption|omega|(simp only[zl]<;>omega)|(simp only[zn])) only[steal_Steal_Left,↓zd,zk,seval,reduceIte,List.map,AV.cells,List.all,AV.one,eqV,eqAll,splice,fillA,List.replicate,resAll,resA,zm,zg,a277,hd]
  exact clp_nil m
theorem sgot_eq{m:MM} {P:Nat→Prop} {c:Cf} {p v:Int} {xj:Nat} {s:TS} (hT:TM m P c p v xj s) (hok:TOk c p v s):c_steal_Steal_Got [.ptr xj 0] m=some (.tup [.int .i64 (gotV s),.bool (gotB s)],m):=by
 have he:c_steal_Steal_Got (X:=Ob)=amFunc [(277,c_steal_Steal_Done),(275,c_steal_Steal_Many)] steal_Steal_Got:=rfl
 rw[he]
 have hm:=hT.mn
 have hd:=hT.dn
 unfold gotV gotB
 by_cases h:s.a=0∧0 < s.k
 ·have a277:assoc [(277,c_steal_Steal_Done (X:=Ob)),(275,c_steal_Steal_Many)] 277=some c_steal_Steal_Done:=rfl
  have a275:assoc [(277,c_steal_Steal_Done (X:=Ob)),(275,c_steal_Steal_Many)] 275=some c_steal_Steal_Many:=rfl
  generalize [(277,c_steal_Steal_Done (X:=Ob)),(275,c_steal_Steal_Many)]=G at a277 a275 ⊢
  rw[if_pos h,decide_eq_true h]
  obtain⟨hown,lyv,bv,hj,hB,hL⟩:=hT
  obtain⟨k1,k2,k3,k4,k5⟩:=hok.k.resolve_left (by omega)
  obtain⟨cap,qb,L,hPq,rfl,gq,hb1,hb2,hb3,_⟩:=hB.bal k1
  have hk:¬ (s.k=0):=by omega
  rw[decide_eq_true h.1] at hd
  have h0:(0:Int) < (s.bl.length:Int):=by omega
  have hL0:L[0]?=some (.int .i64 (s.bl.getD 0 0)):=by
   have e:=congrArg (fun l:List AV=>l[0]?) hb3
   simp only[List.getElem?_take,iC,List.getElem?_map] at e
   rw[if_pos (by omega)] at e
   rw[e,List.getD_eq_getElem?_getD,List.getElem?_eq_getElem (show 0 < s.bl.length by omega)]
   rfl
  simp only[stC,cfC,List.cons_append,List.nil_append] at hj
  refine Fn_eq (Fn_of rfl ?_)
  simp(disch:=first|assumption|omega|(simp only[zl]<;>omega)|(simp only[zn])) only[steal_Steal_Got,↓zd,zk,seval,reduceIte,List.map,AV.cells,List.all,AV.one,eqV,eqAll,splice,fillA,List.replicate,resAll,resA,zm,zg,a277,hd,a275,hm,hk,hj,gq,Int.toNat_zero,hL0]
 ·rw[if_neg h,decide_eq_false h]
  by_cases ha:s.a=0
  ·have hk:s.k=0:=by rcases hok.k with h'|h'<;>omega
   rw[hk] at hm
   exact got_no rfl rfl ⟨_,hd⟩ hm
  ·rw[decide_eq_false ha] at hd
   have a277:assoc [(277,c_steal_Steal_Done (X:=Ob)),(275,c_steal_Steal_Many)] 277=some c_steal_Steal_Done:=rfl
   generalize [(277,c_steal_Steal_Done (X:=Ob)),(275,c_steal_Steal_Many)]=G at a277 ⊢
   refine Fn_eq (Fn_of rfl ?_)
   simp(disch:=first|assumption|omega|(simp only[zl]<;>omega)|(simp only[zn])) only[steal_Steal_Got,↓zd,zk,seval,reduceIte,List.map,AV.cells,List.all,AV.one,eqV,eqAll,splice,fillA,List.replicate,resAll,resA,zm,zg,a277,hd]
end Go.Am.F11
end
section
namespace Go.Am.F11
open Go.Am.F06 Go.Am.F10 Go.Am.F09
def rsC(c:Cf) (p v a w:Int) (bv:AV) (k:Int) (ly:List AV):List AV:=cfC c++[.int .i64 p,.int .i64 v,.int .i64 a,.int .u64 w,bv,.int .i64 k]++ly
def zlC:List AV:=rlC zeroC 0 ⟨0,0,0,0,[]⟩ .nils
def RLy(m:MM) (c:Cf) (p:Int) (s:TS) (F:AV→Prop) (ly:List AV):Prop:=(s.k=0∧ly=zlC)∨(0 < s.k∧∃ lv,ly=rlC c p s.ly lv∧SI m false s.ly.ls lv∧(0 < s.ly.ls.length→Nx m lv)∧F lv)
def RsP(m:MM) (c:Cf) (p v k0:Int) (bv:AV) (x:TS × List Int) (o:Int) (r:AV) (m':MM):Prop:=Keep m m'∧∃ bv' ly' v',r = .tup [.agg (rsC c p v x.1.a x.1.w bv' x.1.k ly'),.agg (memC v' o)]∧SI m' false x.1.bl bv'∧(0 < x.1.bl.length→Nx m' bv')∧(bv'=bv∨Fr m.length bv')∧RLy m' c p x.1 (fun lv=>k0=0→Fr m.length lv) ly'∧SU m' false x.2 v'
def Grs11:List (Nat × AFun Ob):=[(173,F10.c_ref09_Size),(170,F10.c_ref09_Head),(171,F10.c_ref09_Tail),(172,F10.c_ref09_Word),(64,F06.c_ref06_Load),(174,F10.c_ref09_Slot),(175,F10.c_ref09_Pack),(66,F06.c_ref06_CAS),(201,amFunc [(169,F10.c_ref09_There)] ref09_NewLay),(202,amFunc Grl2 ref09_StepLay)]
theorem rzero{m:MM} {c:Cf} {p:Int} {s:TS} {F:AV→Prop} {ly:List AV} (h:RLy m c p s F ly) (hk:s.k=0):ly=zlC:=by
 rcases h with h|h
 ·exact h.2
 ·omega
theorem halfU{w:Int}:IntKind.u32.wrap (sz w - IntKind.u32.wrap ((sz w).tdiv 2))=halfI w:=by
 have h:=sz_b w
 have e1:(sz w).tdiv 2=sz w / 2:=Int.tdiv_eq_ediv_of_nonneg h.1
 rw[e1,wrap32,wrap32]
 unfold halfI;omega
set_option maxHeartbeats 16000000 in
theorem rsstep1 {m : MM} {wr : Bool} {c : Cf} {p v o : Int} {s : TS} {xs : List Int} {mv bv : AV} {ly : List AV} {F : AV → Prop} (hs : SU m wr xs mv) (hb : SI m false s.bl bv) (hly : RLy m c p s F ly) (hok : TOk c p v s) (hx : OkL c xs) (ha : s.a = 1) :
    Fn Grs11 ref11_Step [.agg (rsC c p v s.a s.w bv s.k ly), .agg (memC mv o)] m (RsP m c p v s.k bv (stepT c p v xs s) (opsT s o)) := by
  have a170 : assoc Grs11 170 = some F10.c_ref09_Head := rfl
  have a171 : assoc Grs11 171 = some F10.c_ref09_Tail := rfl
  have a172 : assoc Grs11 172 = some F10.c_ref09_Word := rfl
  have a64 : assoc Grs11 64 = some F06.c_ref06_Load := rfl
  have a173 : assoc Grs11 173 = some F10.c_ref09_Size := rfl
  generalize Grs11 = G at a170 a171 a172 a64 a173 ⊢
  have hk0 : s.k = 0 := by rcases hok.k with hk | hk <;> omega
  have hz := rzero hly hk0
  subst hz
  have hone := slOne hs
  have hone2 := slOne hb
  simp only [AV.one] at hone hone2
  obtain ⟨a, w, bl, k, ly⟩ := s
  simp only at ha hk0 hb
  subst ha; subst hk0
  have hth : thereS c p v := by rcases hok.a with h | h
                                · simp at h
                                · exact h.1
  have hw : W64 w := hok.w
  have hb2 := there_bounds hth.2.1
  have hcn := cellsN_le c
  have hxl := hx.1
  have ha0 := addr_b hth.2.1 (i := 0) (by omega) (by omega)
  have htl := fun m : MM => rtail_eq m hw
  have hhd := fun m : MM => rhead_eq m hw
  have hrw := fun m : MM => rword_eq m hth.2.1
  simp only [word_at hth.2.1, cfC] at hrw
  have hwn : ((wrdN c v : Nat) : Int) = addrA c v 0 := by unfold wrdN; omega
  have hrl := fun K : MM => rload_eq (hs.keep (Keep.app m K)) o (a := wrdN c v) (by omega)
  rw [hwn] at hrl
  have hg := getD_64 hx.2 (wrdN c v)
  generalize he : stepT c p v xs ⟨1, w, bl, 0, ly⟩ = sx
  have ho : opsT ⟨1, w, bl, 0, ly⟩ o = IntKind.u64.wrap (o + 1) := rfl
  rw [ho]
  simp only [stepT] at he
  generalize xs.getD (wrdN c v) 0 = w' at hg hrl he
  rw [if_neg (by decide), if_pos trivial] at he
  simp only [memC, List.append_assoc, List.cons_append, List.nil_append] at hrl
  have hz0 := fun m : MM => rsize_eq m hw
  have hz := fun m : MM => rsize_eq m hg
  have hhalf := halfU (w := w)
  have e0 : IntKind.u32.wrap c.q = c.q := by rw [wrap32]; omega
  have fin : ∀ (a' : Int) (K : MM), sx = (⟨a', w', [], 0, ly⟩, xs) → RsP m c p v 0 bv sx (IntKind.u64.wrap (o + 1)) (.tup [.agg (rsC c p v a' w' .nils 0 zlC), .agg (memC mv (IntKind.u64.wrap (o + 1)))]) (m ++ K) := by
    rintro a' K rfl
    exact ⟨Keep.app _ _, .nils, zlC, mv, rfl, Sl.nil, fun _ => .inl rfl, .inr (.inl rfl), .inl ⟨rfl, rfl⟩, (hs.keep (.app _ _)).ro⟩
  simp only [rsC, zlC, rlC, zeroC, cfC, memC, List.cons_append, List.nil_append] at fin
  refine Fn_of rfl ?_
  by_cases h0 : sz w' = 0
  · rw [if_pos (.inl h0)] at he
    simp (disch := first | assumption | omega | (simp only [zl] <;> omega) | (simp only [zn])) only [ref11_Step, ↓zd, zk, seval, reduceIte, List.map, AV.cells, List.all, AV.one, eqV, eqAll, splice, fillA, List.replicate, resAll, resA, zm, zg, rsC, zlC, rlC, zeroC, cfC, memC, hone, hone2, a173, hz0, hhalf, a170, hhd, a171, htl, a172, hrw, a64, hrl, hz, e0, h0]
    exact fin 0 _ he.symm
  · by_cases h1 : c.q < sz w'
    · rw [if_pos (.inr h1)] at he
      simp (disch := first | assumption | omega | (simp only [zl] <;> omega) | (simp only [zn])) only [ref11_Step, ↓zd, zk, seval, reduceIte, List.map, AV.cells, List.all, AV.one, eqV, eqAll, splice, fillA, List.replicate, resAll, resA, zm, zg, rsC, zlC, rlC, zeroC, cfC, memC, hone, hone2, a173, hz0, hhalf, a170, hhd, a171, htl, a172, hrw, a64, hrl, hz, e0, h0, h1]
      exact fin 0 _ he.symm
    · rw [if_neg (fun h => h.elim h0 h1)] at he
      simp (disch := first | assumption | omega | (simp only [zl] <;> omega) | (simp only [zn])) only [ref11_Step, ↓zd, zk, seval, reduceIte, List.map, AV.cells, List.all, AV.one, eqV, eqAll, splice, fillA, List.replicate, resAll, resA, zm, zg, rsC, zlC, rlC, zeroC, cfC, memC, hone, hone2, a173, hz0, hhalf, a170, hhd, a171, htl, a172, hrw, a64, hrl, hz, e0, h0, h1]
      exact fin 2 _ he.symm
set_option maxHeartbeats 16000000 in
theorem rsstep2{m:MM} {wr:Bool} {c:Cf} {p v o:Int} {s:TS} {xs:List Int} {mv bv:AV} {ly:List AV} {F:AV→Prop} (hs:SU m wr xs mv) (hb:SI m false s.bl bv) (hly:RLy m c p s F ly) (hok:TOk c p v s) (hx:OkL c xs) (ha:s.a=2) :
  Fn Grs11 ref11_Step [.agg (rsC c p v s.a s.w bv s.k ly),.agg (memC mv o)] m (RsP m c p v s.k bv (stepT c p v xs s) (opsT s o)):=by
 have a170:assoc Grs11 170=some F10.c_ref09_Head:=rfl
 have a171:assoc Grs11 171=some F10.c_ref09_Tail:=rfl
 have a174:assoc Grs11 174=some F10.c_ref09_Slot:=rfl
 have a64:assoc Grs11 64=some F06.c_ref06_Load:=rfl
 have a173:assoc Grs11 173=some F10.c_ref09_Size:=rfl
 generalize Grs11=G at a170 a171 a174 a64 a173 ⊢
 have hk0:s.k=0:=by rcases hok.k with hk|hk<;>omega
 have hz:=rzero hly hk0
 subst hz
 have hone:=slOne hs
 have hone2:=slOne hb
 simp only[AV.one] at hone hone2
 obtain⟨a,w,bl,k,ly⟩:=s
 simp only at ha hk0 hb
 subst ha;subst hk0
 obtain⟨hth,hh⟩:=hok.a.resolve_left (by simp)
 have hh2:sz w≤c.q∧(bl.length:Int) < halfI w:=by
  rcases hh with h|h|h|h
  ·simp at h
  ·exact h.2
  ·simp at h
  ·simp at h
 have hw:W64 w:=hok.w
 have hb2:=there_bounds hth.2.1
 have hcn:=cellsN_le c
 have hxl:=hx.1
 have hblen:=hok.b
 simp only at hblen
 have hhb:=hd_b hw
 have hm0:=Int.emod_nonneg (hd w+bl.length) (b:=4294967296) (by omega)
 have hm1:=Int.emod_lt_of_pos (hd w+bl.length) (b:=4294967296) (by omega)
 have hsb:=slot_b hth.2.1 hm0
 have hwn:((sslN c v w bl.length:Nat):Int)=slotA c v ((hd w+bl.length) % 4294967296):=by unfold sslN;omega
 have hrl:=fun K:MM=>rload_eq (hs.keep (Keep.app m K)) o (a:=sslN c v w bl.length) (by omega)
 rw[hwn] at hrl
 generalize he:stepT c p v xs ⟨2,w,bl,0,ly⟩=sx
 have ho:opsT ⟨2,w,bl,0,ly⟩ o=IntKind.u64.wrap (o+1):=rfl
 rw[ho]
 simp only[stepT] at he
 generalize xs.getD (sslN c v w bl.length) 0=w' at hrl he
 rw[if_neg (by decide),if_neg (by decide),if_pos trivial] at he
 simp only[memC,List.append_assoc,List.cons_append,List.nil_append] at hrl
 have htl:=fun m:MM=>rtail_eq m hw
 have hhd:=fun m:MM=>rhead_eq m hw
 have hz0:=fun m:MM=>rsize_eq m hw
 have hhalf:=halfU (w:=w)
 have hhw:=half_b w
 have hs0:=sz_b w
 have hsl:=fun m:MM=>rslot_eq m hth.2.1 hm0 hm1
 simp only[cfC] at hsl
 have hlen:=hb.len
 have e1:IntKind.u32.wrap (bl.length:Int)=bl.length:=by rw[wrap32];omega
 have e2:IntKind.u32.wrap (hd w+bl.length)=(hd w+bl.length) % 4294967296:=by rw[wrap32]
 refine Fn_of rfl ?_
 simp(disch:=first|assumption|omega|(simp only[zl]<;>omega)|(simp only[zn])) only[ref11_Step,↓zd,zk,seval,reduceIte,List.map,AV.cells,List.all,AV.one,eqV,eqAll,splice,fillA,List.replicate,resAll,resA,zm,zg,rsC,zlC,rlC,zeroC,cfC,memC,hone,hone2,a173,hz0,hhalf,a170,hhd,a171,htl,ev_len,hlen,e1,e2,a174,hsl,a64,hrl]
 obtain⟨K,hK⟩:∃ K:MM,K=[Chunk.cells 24 false (rsC c p v 2 w bv 0 zlC),.cells 2 false (memC mv (IntKind.u64.wrap (o+1))),.cells 24 false (rsC zeroC 0 0 0 0 .nils 0 zlC),.cells 2 false [.nils,.int .u64 0],.cells 2 false (memC mv (IntKind.u64.wrap (o+1))),.cells 6 false (cfC c),.cells 6 false (cfC c),.cells 2 false (memC mv o),.cells 2 false (memC mv (IntKind.u64.wrap (o+1))),.cells 2 false (memC mv o)]:=⟨_,rfl⟩
 have g0:(m++K)[m.length]?=some (.cells 24 false (rsC c p v 2 w bv 0 zlC)):=by rw[hK,get_mid0];rfl
 have g1:(m++K)[m.length+1]?=some (.cells 2 false (memC mv (IntKind.u64.wrap (o+1)))):=by rw[hK,get_mid];rfl
 have g2:(m++K)[m.length+2]?=some (.cells 24 false (rsC zeroC 0 0 0 0 .nils 0 zlC)):=by rw[hK,get_mid];rfl
 have g3:(m++K)[m.length+3]?=some (.cells 2 false [.nils,.int .u64 0]):=by rw[hK,get_mid];rfl
 simp only[rsC,zlC,rlC,zeroC,memC,cfC,List.cons_append,List.nil_append] at hK g0 g1 g2 g3
 rw[← hK]
 have hkM:=Keep.app m K
 generalize m++K=M at hkM g0 g1 g2 g3 ⊢
 clear hK hrl hsl
 obtain⟨l1,M1,hap1,ow1,ln1,f1⟩:=own_pushs (m0:=M) (xs:=[]) own_nil (hb.keep hkM) (by simp) (by omega) (Nat.le_refl _)
 have k1:Keep M M1:=⟨ln1,fun i hi=>f1 i hi (.inr hi)⟩
 rw[List.nil_append] at ow1
 obtain⟨l2,M2,hap2,ow2,ln2,f2⟩:=own_push2 ow1 (IntKind.i64.wrap w') (by omega) ln1
 have k2:Keep M M2:=⟨by omega,fun i hi=>by rw[f2 i (by omega) (.inr hi),k1.2 i hi]⟩
 have hsi2:=(Own.si ow2).1.ro
 have hlen2:=hsi2.len
 have hnx2:=Own.nx ow2
 have h0:=k2.get g0
 have h1:=k2.get g1
 have h2:=k2.get g2
 have h3:=k2.get g3
 have lm:m.length+3 < M2.length:=(List.getElem?_eq_some_iff.1 h3).1
 have hkm:Keep m M2:=hkM.trans k2
 have hone1:=ow1.val1
 simp only[AV.one] at hone1
 have hl2:∃ q,l2 = .sl q 0 (bl.length+1) none∧m.length≤q:=by
  rcases ow2 with⟨h,_⟩|⟨q,h,_,h2,_⟩
  ·simp at h
  ·exact⟨q,by rw[h];simp,Nat.le_trans hkM.1 h2⟩
 obtain⟨q2,rfl,hq2m⟩:=hl2
 have hno:∀ b,m.length≤b→b < m.length+4→∀ ro L,M2[b]?≠some (.cells 1 ro L):=by
  intro b b1 b2 ro L hb
  rcases (show b=m.length∨b=m.length+1∨b=m.length+2∨b=m.length+3 by omega) with rfl|rfl|rfl|rfl
  ·rw[h0] at hb;cases hb
  ·rw[h1] at hb;cases hb
  ·rw[h2] at hb;cases hb
  ·rw[h3] at hb;cases hb
 have hb0:LNx m.length (m.length+4) M2 (bl++[IntKind.i64.wrap w']) (.sl q2 0 (bl.length+1) none):=⟨hsi2,fun _=>hnx2,hno⟩
 have htl2:lenA (.sl q2 0 (bl.length+1) none)=some (bl.length+1):=rfl
 have e3:IntKind.u32.wrap ((bl.length+1:Nat):Int)=(bl.length:Int)+1:=by rw[wrap32];omega
 by_cases hq:(bl.length:Int)+1=halfI w
 ·rw[if_pos hq] at he
  subst he
  simp(disch:=first|assumption|omega|(simp only[zl]<;>omega)|(simp only[zn])) only[↓zd,zk,seval,reduceIte,List.map,AV.cells,List.all,AV.one,eqV,eqAll,splice,fillA,List.replicate,resAll,resA,zm,zg,evA,fillA,repeatL,List.flatten_cons,List.flatten_nil,hap1,hone1,hap2,h0,h1,h2,h3,ev_len,htl2,e3,hq,hone]
  refine⟨?_,.sl q2 0 (bl.length+1) none,zlC,mv,rfl,LNx.sl (lo:=m.length) (hi:=m.length+4) ?_,LNx.nx (lo:=m.length) (hi:=m.length+4) ?_,.inr (.inr ⟨_,_,_,_,rfl,hq2m⟩),.inl ⟨rfl,rfl⟩,?_⟩
  ·repeat' first|exact hkm|refine Keep.set ?_ (by omega) _
  ·repeat' first|exact hb0|refine LNx.set ?_ (by omega) (by omega) (by intro _ _ h;cases h)
  ·repeat' first|exact hb0|refine LNx.set ?_ (by omega) (by omega) (by intro _ _ h;cases h)
  ·refine SLN.sl (lo:=m.length) (hi:=m.length+4) ?_
   repeat' first|exact⟨(hs.keep hkm).ro,hno⟩|refine SLN.set ?_ (by omega) (by omega) (by intro _ _ h;cases h)
 ·rw[if_neg hq] at he
  subst he
  simp(disch:=first|assumption|omega|(simp only[zl]<;>omega)|(simp only[zn])) only[↓zd,zk,seval,reduceIte,List.map,AV.cells,List.all,AV.one,eqV,eqAll,splice,fillA,List.replicate,resAll,resA,zm,zg,evA,fillA,repeatL,List.flatten_cons,List.flatten_nil,hap1,hone1,hap2,h0,h1,h2,h3,ev_len,htl2,e3,hq,hone]
  refine⟨?_,.sl q2 0 (bl.length+1) none,zlC,mv,rfl,LNx.sl (lo:=m.length) (hi:=m.length+4) ?_,LNx.nx (lo:=m.length) (hi:=m.length+4) ?_,.inr (.inr ⟨_,_,_,_,rfl,hq2m⟩),.inl ⟨rfl,rfl⟩,?_⟩
  ·repeat' first|exact hkm|refine Keep.set ?_ (by omega) _
  ·repeat' first|exact hb0|refine LNx.set ?_ (by omega) (by omega) (by intro _ _ h;cases h)
  ·repeat' first|exact hb0|refine LNx.set ?_ (by omega) (by omega) (by intro _ _ h;cases h)
  ·refine SLN.sl (lo:=m.length) (hi:=m.length+4) ?_
   repeat' first|exact⟨(hs.keep hkm).ro,hno⟩|refine SLN.set ?_ (by omega) (by omega) (by intro _ _ h;cases h)
end Go.Am.F11
end
section
namespace Go.Am.F11
open Go.Am.F06 Go.Am.F10 Go.Am.F09
theorem lcC_ok{c:Cf} {p:Int} (h:thereP c p):lcC c p=c∧lcP c p=p:=by unfold lcC lcP;rw[if_pos h,if_pos h];exact⟨rfl,rfl⟩
set_option maxHeartbeats 16000000 in
theorem rsstep3{m:MM} {wr:Bool} {c:Cf} {p v o:Int} {s:TS} {xs:List Int} {mv bv:AV} {ly:List AV} {F:AV→Prop} (hs:SU m wr xs mv) (hb:SI m false s.bl bv) (hnx:0 < s.bl.length→Nx m bv) (hly:RLy m c p s F ly) (hok:TOk c p v s) (hx:OkL c xs) (ha:s.a=3) :
  Fn Grs11 ref11_Step [.agg (rsC c p v s.a s.w bv s.k ly),.agg (memC mv o)] m (RsP m c p v s.k bv (stepT c p v xs s) (opsT s o)):=by
 have a170:assoc Grs11 170=some F10.c_ref09_Head:=rfl
 have a171:assoc Grs11 171=some F10.c_ref09_Tail:=rfl
 have a172:assoc Grs11 172=some F10.c_ref09_Word:=rfl
 have a173:assoc Grs11 173=some F10.c_ref09_Size:=rfl
 have a175:assoc Grs11 175=some F10.c_ref09_Pack:=rfl
 have a66:assoc Grs11 66=some F06.c_ref06_CAS:=rfl
 have a201:assoc Grs11 201=some (amFunc [(169,F10.c_ref09_There)] ref09_NewLay):=rfl
 generalize Grs11=G at a170 a171 a172 a173 a175 a66 a201 ⊢
 have hk0:s.k=0:=by rcases hok.k with hk|hk<;>omega
 have hz:=rzero hly hk0
 subst hz
 have hone:=slOne hs
 have hone2:=slOne hb
 simp only[AV.one] at hone hone2
 obtain⟨a,w,bl,k,ly⟩:=s
 simp only at ha hk0 hb hnx
 subst ha;subst hk0
 obtain⟨hth,hh⟩:=hok.a.resolve_left (by simp)
 have hh2:sz w≤c.q∧(bl.length:Int)=halfI w∧0 < bl.length:=by
  rcases hh with h|h|h|h
  ·simp at h
  ·simp at h
  ·exact h.2
  ·simp at h
 have hw:W64 w:=hok.w
 have hb2:=there_bounds hth.2.1
 have hcn:=cellsN_le c
 have hxl:=hx.1
 have hblen:=hok.b
 simp only at hblen
 have hhb:=hd_b hw
 have htb:=tl_b w
 have hhw:=half_b w
 have hs0:=sz_b w
 have ha0:=addr_b hth.2.1 (i:=0) (by omega) (by omega)
 have htl:=fun m:MM=>rtail_eq m hw
 have hhd:=fun m:MM=>rhead_eq m hw
 have hz0:=fun m:MM=>rsize_eq m hw
 have hhalf:=halfU (w:=w)
 have hrw:=fun m:MM=>rword_eq m hth.2.1
 simp only[word_at hth.2.1,cfC] at hrw
 have hwt:(addrA c v 0).toNat=wrdN c v:=rfl
 have hthr:thr xs (addrA c v 0):=⟨by omega,by omega⟩
 have e1:IntKind.u32.wrap (hd w+halfI w)=(hd w+halfI w) % 4294967296:=by rw[wrap32]
 have hpk:=fun m:MM=>rpack_eq m (h:=(hd w+halfI w) % 4294967296) (t:=tl w) (by omega) (by omega) htb.1 htb.2
 have hgw:pk ((hd w+halfI w) % 4294967296) (tl w)=gainN w (halfI w):=rfl
 generalize he:stepT c p v xs ⟨3,w,bl,0,ly⟩=sx
 have ho:opsT ⟨3,w,bl,0,ly⟩ o=IntKind.u64.wrap (o+1):=rfl
 rw[ho]
 simp only[stepT] at he
 rw[if_neg (by decide),if_neg (by decide),if_neg (by decide),if_pos trivial] at he
 refine Fn_of rfl ?_
 simp(disch:=first|assumption|omega|(simp only[zl]<;>omega)|(simp only[zn])) only[ref11_Step,↓zd,zk,seval,reduceIte,List.map,AV.cells,List.all,AV.one,eqV,eqAll,splice,fillA,List.replicate,resAll,resA,zm,zg,rsC,zlC,rlC,zeroC,cfC,memC,hone,hone2,a173,hz0,hhalf,a170,hhd,a171,htl,a172,hrw,e1,a175,hpk,hgw,a66,F06.c_ref06_CAS]
 have hcas:=fun K:MM=>rcas_run (hs.keep (Keep.app m K)) (by omega) o hthr w (gainN w (halfI w))
 simp only[memC] at hcas
 refine OKT_fn (hcas _) ?_
 rintro _ m1 ⟨k1,v',rfl,s1⟩
 rw[hwt] at s1
 have km:Keep m m1:=(Keep.app m _).trans k1
 have g0:=k1.get (i:=m.length) (by rw[get_mid0];rfl)
 have g1:=k1.get (i:=m.length+1) (by rw[get_mid];rfl)
 have g2:=k1.get (i:=m.length+2) (by rw[get_mid];rfl)
 have g3:=k1.get (i:=m.length+3) (by rw[get_mid];rfl)
 have g4:=k1.get (i:=m.length+4) (by rw[get_mid];rfl)
 have hl1:m.length+4 < m1.length:=(List.getElem?_eq_some_iff.1 g4).1
 have hone':=slOne s1
 simp only[AV.one] at hone'
 have hno:∀ b,m.length≤b→b < m.length+5→∀ ro L,m1[b]?≠some (.cells 1 ro L):=by
  intro b b1 b2 ro L hb
  rcases (show b=m.length∨b=m.length+1∨b=m.length+2∨b=m.length+3∨b=m.length+4 by omega) with rfl|rfl|rfl|rfl|rfl
  ·rw[g0] at hb;cases hb
  ·rw[g1] at hb;cases hb
  ·rw[g2] at hb;cases hb
  ·rw[g3] at hb;cases hb
  ·rw[g4] at hb;cases hb
 by_cases heq:xs.getD (wrdN c v) 0=w
 ·have hd:decide (xs.getD (addrA c v 0).toNat 0=w)=true:=by rw[hwt];exact decide_eq_true heq
  rw[if_pos heq] at s1 he
  simp(disch:=first|assumption|omega|(simp only[zl]<;>omega)|(simp only[zn])) only[↓zd,zk,seval,reduceIte,List.map,AV.cells,List.all,AV.one,eqV,eqAll,splice,fillA,List.replicate,resAll,resA,zm,zg,memC,hd,g0,g1,g2,g3,g4,hone']
  obtain⟨q,oo,nn,L,rfl,hq1⟩:∃ q oo nn L,bv = .sl q oo nn none∧m[q]?=some (.cells 1 false L):=by
   rcases hnx hh2.2.2 with h|⟨q,oo,nn,L,h1,h2⟩
   ·have hlen:=hb.len
    rw[h] at hlen;simp only[lenA,Option.some.injEq] at hlen;omega
   ·exact⟨q,oo,nn,L,h1,h2⟩
  have hnn:nn=bl.length:=by have hlen:=hb.len;simpa only[lenA,Option.some.injEq] using hlen
  subst hnn
  have hql:=(List.getElem?_eq_some_iff.1 hq1).1
  obtain⟨B,hB⟩:∃ B:MM,B=(((m1.set (m.length+4) (.cells 2 false (memC v' (IntKind.u64.wrap (o+1))))).set (m.length+1) (.cells 2 false (memC v' (IntKind.u64.wrap (o+1))))).set m.length (.cells 24 false (rsC c p v 1 w (.sl q oo bl.length none) 0 zlC))).set m.length (.cells 24 false (rsC c p v 1 w (.sl q oo bl.length none) (halfI w) zlC)):=⟨_,rfl⟩
  have b0:B[m.length]?=some (.cells 24 false (rsC c p v 1 w (.sl q oo bl.length none) (halfI w) zlC)):=by rw[hB,List.getElem?_set_self (by simp only[List.length_set];omega)]
  have b1:B[m.length+1]?=some (.cells 2 false (memC v' (IntKind.u64.wrap (o+1)))):=by rw[hB,List.getElem?_set_ne (by omega),List.getElem?_set_ne (by omega),List.getElem?_set_self (by simp only[List.length_set];omega)]
  have b2:B[m.length+2]?=some (.cells 24 false (rsC zeroC 0 0 0 0 .nils 0 zlC)):=by rw[hB,List.getElem?_set_ne (by omega),List.getElem?_set_ne (by omega),List.getElem?_set_ne (by omega),List.getElem?_set_ne (by omega)];exact g2
  have b3:B[m.length+3]?=some (.cells 2 false [.nils,.int .u64 0]):=by rw[hB,List.getElem?_set_ne (by omega),List.getElem?_set_ne (by omega),List.getElem?_set_ne (by omega),List.getElem?_set_ne (by omega)];exact g3
  have kB:Keep m B:=by rw[hB];exact(((km.set (by omega) _).set (by omega) _).set (Nat.le_refl _) _).set (Nat.le_refl _) _
  have sB:SLN m.length (m.length+5) B false (xs.set (wrdN c v) (gainN w (halfI w))).length (uC (xs.set (wrdN c v) (gainN w (halfI w)))) v':=by
   rw[hB]
   repeat' first|exact⟨s1,hno⟩|refine SLN.set ?_ (by omega) (by omega) (by intro _ _ h;cases h)
  simp only[rsC,zlC,rlC,zeroC,memC,cfC,List.cons_append,List.nil_append] at hB b0 b1 b2 b3
  rw[← hB]
  clear hB g0 g1 g2 g3 g4 hno s1 k1 km hcas hrw hpk
  have hq2:=kB.get hq1
  have hbB:=hb.keep kB
  have hnB:=(hnx hh2.2.2).keep kB
  have hdr:=(si_drop (k:=1) hbB hnB (by omega)).2
  rw[List.drop_one] at hdr
  have ht1:Int.toNat 1=1:=rfl
  simp(disch:=first|assumption|omega|(simp only[zl]<;>omega)|(simp only[zn])) only[↓zd,zk,seval,reduceIte,List.map,AV.cells,List.all,AV.one,eqV,eqAll,splice,fillA,List.replicate,resAll,resA,zm,zg,evA,sliceA,getC_gcO,Option.getD_none,Option.getD_some,hq2,ht1,Nat.mul_one,a201]
  have hrn:=rlnew_run (c:=c) (p:=p) hdr (by rw[List.length_tail];omega)
  simp only[cfC,List.cons_append,List.nil_append] at hrn
  refine OK_fn hrn ?_
  rintro _ m2 ⟨k2,lv,rfl,sl2,nx2,fr2⟩
  rw[(lcC_ok hth.1).1,(lcC_ok hth.1).2]
  have honel:=slOne sl2
  simp only[AV.one] at honel
  have hfr:Fr m.length lv:=by
   rcases fr2 with h|⟨q',o',n',c',h,h'⟩
   ·exact .inl h
   ·exact .inr ⟨q',o',n',c',h,Nat.le_trans kB.1 h'⟩
  generalize newL c p bl.tail=nl at he sl2 nx2
  have c0:=k2.get b0
  have c1:=k2.get b1
  have c2:=k2.get b2
  have c3:=k2.get b3
  have l3:m.length+3 < m2.length:=(List.getElem?_eq_some_iff.1 c3).1
  have kM:=kB.trans k2
  have sM:=sB.sl.keep k2
  have hbM:=hbB.keep k2
  have hnM:=hnB.keep k2
  have hno2:∀ b,m.length≤b→b < m.length+4→∀ ro L,m2[b]?≠some (.cells 1 ro L):=by
   intro b b1 b2 ro L hb
   rcases (show b=m.length∨b=m.length+1∨b=m.length+2∨b=m.length+3 by omega) with rfl|rfl|rfl|rfl
   ·rw[c0] at hb;cases hb
   ·rw[c1] at hb;cases hb
   ·rw[c2] at hb;cases hb
   ·rw[c3] at hb;cases hb
  have hb0:LNx m.length (m.length+4) m2 bl (.sl q oo bl.length none):=⟨hbM,fun _=>hnM,hno2⟩
  have hb1:LNx m.length (m.length+4) m2 nl.ls lv:=⟨sl2,nx2,hno2⟩
  by_cases h1:bl.length=1
  ·have h1':halfI w=1:=by omega
   simp(disch:=first|assumption|omega|(simp only[zl]<;>omega)|(simp only[zn])) only[↓zd,zk,seval,reduceIte,List.map,AV.cells,List.all,AV.one,eqV,eqAll,splice,fillA,List.replicate,resAll,resA,zm,zg,rlC,cfC,c0,c1,c2,c3,honel,hone',h1']
   rw[if_pos h1] at he
   subst he
   refine⟨?_,.sl q oo bl.length none,rlC c p nl lv,v',?_,LNx.sl (lo:=m.length) (hi:=m.length+4) ?_,LNx.nx (lo:=m.length) (hi:=m.length+4) ?_,.inl rfl,.inr ⟨by show (0:Int) < (bl.length:Int);omega,lv,rfl,LNx.sl (lo:=m.length) (hi:=m.length+4) ?_,LNx.nx (lo:=m.length) (hi:=m.length+4) ?_,fun _=>hfr⟩,SLN.sl (lo:=m.length) (hi:=m.length+4) ?_⟩
   ·repeat' first|exact kM|refine Keep.set ?_ (by omega) _
   ·show _=AV.tup [.agg (rsC c p v 0 w (.sl q oo bl.length none) (bl.length:Int) (rlC c p nl lv)),.agg (memC v' (IntKind.u64.wrap (o+1)))]
    rw[hh2.2.1,h1'];rfl
   ·repeat' first|exact hb0|refine LNx.set ?_ (by omega) (by omega) (by intro _ _ h;cases h)
   ·repeat' first|exact hb0|refine LNx.set ?_ (by omega) (by omega) (by intro _ _ h;cases h)
   ·repeat' first|exact hb1|refine LNx.set ?_ (by omega) (by omega) (by intro _ _ h;cases h)
   ·repeat' first|exact hb1|refine LNx.set ?_ (by omega) (by omega) (by intro _ _ h;cases h)
   ·repeat' first|exact⟨sM,hno2⟩|refine SLN.set ?_ (by omega) (by omega) (by intro _ _ h;cases h)
  ·have h1':¬ (halfI w=1):=by omega
   simp(disch:=first|assumption|omega|(simp only[zl]<;>omega)|(simp only[zn])) only[↓zd,zk,seval,reduceIte,List.map,AV.cells,List.all,AV.one,eqV,eqAll,splice,fillA,List.replicate,resAll,resA,zm,zg,rlC,cfC,c0,c1,c2,c3,honel,hone',h1']
   rw[if_neg h1] at he
   subst he
   refine⟨?_,.sl q oo bl.length none,rlC c p nl lv,v',?_,LNx.sl (lo:=m.length) (hi:=m.length+4) ?_,LNx.nx (lo:=m.length) (hi:=m.length+4) ?_,.inl rfl,.inr ⟨by show (0:Int) < (bl.length:Int);omega,lv,rfl,LNx.sl (lo:=m.length) (hi:=m.length+4) ?_,LNx.nx (lo:=m.length) (hi:=m.length+4) ?_,fun _=>hfr⟩,SLN.sl (lo:=m.length) (hi:=m.length+4) ?_⟩
   ·repeat' first|exact kM|refine Keep.set ?_ (by omega) _
   ·show _=AV.tup [.agg (rsC c p v 4 w (.sl q oo bl.length none) (bl.length:Int) (rlC c p nl lv)),.agg (memC v' (IntKind.u64.wrap (o+1)))]
    rw[hh2.2.1];rfl
   ·repeat' first|exact hb0|refine LNx.set ?_ (by omega) (by omega) (by intro _ _ h;cases h)
   ·repeat' first|exact hb0|refine LNx.set ?_ (by omega) (by omega) (by intro _ _ h;cases h)
   ·repeat' first|exact hb1|refine LNx.set ?_ (by omega) (by omega) (by intro _ _ h;cases h)
   ·repeat' first|exact hb1|refine LNx.set ?_ (by omega) (by omega) (by intro _ _ h;cases h)
   ·repeat' first|exact⟨sM,hno2⟩|refine SLN.set ?_ (by omega) (by omega) (by intro _ _ h;cases h)
 ·have hd:decide (xs.getD (addrA c v 0).toNat 0=w)=false:=by rw[hwt];exact decide_eq_false heq
  rw[if_neg heq] at s1 he
  subst he
  simp(disch:=first|assumption|omega|(simp only[zl]<;>omega)|(simp only[zn])) only[↓zd,zk,seval,reduceIte,List.map,AV.cells,List.all,AV.one,eqV,eqAll,splice,fillA,List.replicate,resAll,resA,zm,zg,memC,hd,g0,g1,g2,g3,g4,hone']
  refine⟨?_,.nils,zlC,v',rfl,Sl.nil,fun _=>.inl rfl,.inr (.inl rfl),.inl ⟨rfl,rfl⟩,SLN.sl (lo:=m.length) (hi:=m.length+5) ?_⟩
  ·repeat' first|exact km|refine Keep.set ?_ (by omega) _
  ·repeat' first|exact⟨s1,hno⟩|refine SLN.set ?_ (by omega) (by omega) (by intro _ _ h;cases h)
set_option maxHeartbeats 16000000 in
theorem rsstep4{m:MM} {wr:Bool} {c:Cf} {p v o:Int} {s:TS} {xs:List Int} {mv bv:AV} {ly:List AV} {F:AV→Prop} (hs:SU m wr xs mv) (hb:SI m false s.bl bv) (hnx:0 < s.bl.length→Nx m bv) (hly:RLy m c p s F ly) (hok:TOk c p v s) (hx:OkL c xs) (ha:s.a=4) :
  Fn Grs11 ref11_Step [.agg (rsC c p v s.a s.w bv s.k ly),.agg (memC mv o)] m (RsP m c p v s.k bv (stepT c p v xs s) (opsT s o)):=by
 have a170:assoc Grs11 170=some F10.c_ref09_Head:=rfl
 have a171:assoc Grs11 171=some F10.c_ref09_Tail:=rfl
 have a173:assoc Grs11 173=some F10.c_ref09_Size:=rfl
 have a202:assoc Grs11 202=some (amFunc Grl2 ref09_StepLay):=rfl
 generalize Grs11=G at a170 a171 a173 a202 ⊢
 obtain⟨k1,k2,k3,k4,k5⟩:=hok.k.resolve_left (by omega)
 obtain⟨_,lv,rfl,sl,nx,_⟩:=hly.resolve_left (fun h=>by omega)
 have hone:=slOne hs
 have hone2:=slOne hb
 have honel:=slOne sl
 simp only[AV.one] at hone hone2 honel
 have e:stepT c p v xs s=({ s with ly:=(stepL c p xs s.ly).1,a:=if (stepL c p xs s.ly).1.a=0 then 0 else 4 },(stepL c p xs s.ly).2):=by
  rw[stepT,if_neg (by omega),if_neg (by omega),if_neg (by omega),if_neg (by omega)]
 have e2:opsT s o=opsL s.ly o:=by rw[opsT,if_neg (by omega),if_pos ha]
 rw[e,e2]
 obtain⟨a,w,bl,k,ly⟩:=s
 simp only at ha hb hnx k1 k2 k4 sl nx
 subst ha
 have hw:W64 w:=hok.w
 have htl:=fun m:MM=>rtail_eq m hw
 have hhd:=fun m:MM=>rhead_eq m hw
 have hz0:=fun m:MM=>rsize_eq m hw
 have hhalf:=halfU (w:=w)
 refine Fn_of rfl ?_
 simp(disch:=first|assumption|omega|(simp only[zl]<;>omega)|(simp only[zn])) only[ref11_Step,↓zd,zk,seval,reduceIte,List.map,AV.cells,List.all,AV.one,eqV,eqAll,splice,fillA,List.replicate,resAll,resA,zm,zg,rsC,rlC,cfC,memC,hone,hone2,honel,a173,hz0,hhalf,a170,hhd,a171,htl,a202]
 have hrl:=fun K:MM=>rlstep_run (o:=o) (hs.keep (Keep.app m K)) (sl.keep (Keep.app m K)) (fun h=>(nx h).keep (Keep.app m K)) k4 (.inr hx)
 simp only[memC,rlC,cfC,List.cons_append,List.nil_append] at hrl
 refine OK_fn (hrl _) ?_
 rintro _ m1 ⟨kk,lv',v',rfl,sl',nx',su'⟩
 generalize stepL c p xs ly=y at sl' nx' su' ⊢
 have km:Keep m m1:=(Keep.app m _).trans kk
 have g0:=kk.get (i:=m.length) (by rw[get_mid0];rfl)
 have g1:=kk.get (i:=m.length+1) (by rw[get_mid];rfl)
 have g2:=kk.get (i:=m.length+2) (by rw[get_mid];rfl)
 have g3:=kk.get (i:=m.length+3) (by rw[get_mid];rfl)
 have hl1:m.length+3 < m1.length:=(List.getElem?_eq_some_iff.1 g3).1
 have hone':=slOne su'
 have honel':=slOne sl'
 simp only[AV.one] at hone' honel'
 have hno:∀ b,m.length≤b→b < m.length+4→∀ ro L,m1[b]?≠some (.cells 1 ro L):=by
  intro b b1 b2 ro L hb
  rcases (show b=m.length∨b=m.length+1∨b=m.length+2∨b=m.length+3 by omega) with rfl|rfl|rfl|rfl
  ·rw[g0] at hb;cases hb
  ·rw[g1] at hb;cases hb
  ·rw[g2] at hb;cases hb
  ·rw[g3] at hb;cases hb
 have hb0:LNx m.length (m.length+4) m1 bl bv:=⟨hb.keep km,fun h=>(hnx h).keep km,hno⟩
 have hb1:LNx m.length (m.length+4) m1 y.1.ls lv':=⟨sl',nx',hno⟩
 by_cases hy:y.1.a=0
 ·simp(disch:=first|assumption|omega|(simp only[zl]<;>omega)|(simp only[zn])) only[↓zd,zk,seval,reduceIte,List.map,AV.cells,List.all,AV.one,eqV,eqAll,splice,fillA,List.replicate,resAll,resA,zm,zg,memC,rlC,cfC,hy,g0,g1,g2,g3,hone',honel']
  refine⟨?_,bv,rlC c p y.1 lv',v',?_,LNx.sl (lo:=m.length) (hi:=m.length+4) ?_,LNx.nx (lo:=m.length) (hi:=m.length+4) ?_,.inl rfl,.inr ⟨k1,lv',rfl,LNx.sl (lo:=m.length) (hi:=m.length+4) ?_,LNx.nx (lo:=m.length) (hi:=m.length+4) ?_,fun h=>absurd h (by show ¬ (k=0);omega)⟩,SLN.sl (lo:=m.length) (hi:=m.length+4) ?_⟩
  ·repeat' first|exact km|refine Keep.set ?_ (by omega) _
  ·rw[rlC,hy];rfl
  ·repeat' first|exact hb0|refine LNx.set ?_ (by omega) (by omega) (by intro _ _ h;cases h)
  ·repeat' first|exact hb0|refine LNx.set ?_ (by omega) (by omega) (by intro _ _ h;cases h)
  ·repeat' first|exact hb1|refine LNx.set ?_ (by omega) (by omega) (by intro _ _ h;cases h)
  ·repeat' first|exact hb1|refine LNx.set ?_ (by omega) (by omega) (by intro _ _ h;cases h)
  ·repeat' first|exact⟨su',hno⟩|refine SLN.set ?_ (by omega) (by omega) (by intro _ _ h;cases h)
 ·simp(disch:=first|assumption|omega|(simp only[zl]<;>omega)|(simp only[zn])) only[↓zd,zk,seval,reduceIte,List.map,AV.cells,List.all,AV.one,eqV,eqAll,splice,fillA,List.replicate,resAll,resA,zm,zg,memC,rlC,cfC,hy,g0,g1,g2,g3,hone',honel']
  refine⟨?_,bv,rlC c p y.1 lv',v',?_,LNx.sl (lo:=m.length) (hi:=m.length+4) ?_,LNx.nx (lo:=m.length) (hi:=m.length+4) ?_,.inl rfl,.inr ⟨k1,lv',rfl,LNx.sl (lo:=m.length) (hi:=m.length+4) ?_,LNx.nx (lo:=m.length) (hi:=m.length+4) ?_,fun h=>absurd h (by show ¬ (k=0);omega)⟩,SLN.sl (lo:=m.length) (hi:=m.length+4) ?_⟩
  ·repeat' first|exact km|refine Keep.set ?_ (by omega) _
  ·rfl
  ·repeat' first|exact hb0|refine LNx.set ?_ (by omega) (by omega) (by intro _ _ h;cases h)
  ·repeat' first|exact hb0|refine LNx.set ?_ (by omega) (by omega) (by intro _ _ h;cases h)
  ·repeat' first|exact hb1|refine LNx.set ?_ (by omega) (by omega) (by intro _ _ h;cases h)
  ·repeat' first|exact hb1|refine LNx.set ?_ (by omega) (by omega) (by intro _ _ h;cases h)
  ·repeat' first|exact⟨su',hno⟩|refine SLN.set ?_ (by omega) (by omega) (by intro _ _ h;cases h)
theorem rsstep_run{m:MM} {wr:Bool} {c:Cf} {p v o:Int} {s:TS} {xs:List Int} {mv bv:AV} {ly:List AV} {F:AV→Prop} (hs:SU m wr xs mv) (hb:SI m false s.bl bv) (hnx:0 < s.bl.length→Nx m bv) (hly:RLy m c p s F ly) (hok:TOk c p v s) (hx0:s.a=0∨OkL c xs) :
  Fn Grs11 ref11_Step [.agg (rsC c p v s.a s.w bv s.k ly),.agg (memC mv o)] m (RsP m c p v s.k bv (stepT c p v xs s) (opsT s o)):=by
 by_cases h0:s.a=0
 ·have e:stepT c p v xs s=(s,xs):=if_pos h0
  have e2:opsT s o=o:=if_pos h0
  rw[e,e2]
  have a170:assoc Grs11 170=some F10.c_ref09_Head:=rfl
  have a171:assoc Grs11 171=some F10.c_ref09_Tail:=rfl
  have a173:assoc Grs11 173=some F10.c_ref09_Size:=rfl
  generalize Grs11=G at a170 a171 a173 ⊢
  have hw:W64 s.w:=hok.w
  have htl:=fun m:MM=>rtail_eq m hw
  have hhd:=fun m:MM=>rhead_eq m hw
  have hz0:=fun m:MM=>rsize_eq m hw
  have hhalf:=halfU (w:=s.w)
  have hone:=slOne hs
  have hone2:=slOne hb
  simp only[AV.one] at hone hone2
  obtain⟨c',p',l',lv,hl1,hl2⟩:∃ c' p' l' lv,ly=rlC c' p' l' lv∧lv.one=true:=by
   rcases hly with⟨_,h⟩|⟨_,lv,h,h1,_⟩
   ·exact⟨_,_,_,_,h,rfl⟩
   ·exact⟨_,_,_,lv,h,slOne h1⟩
  have hly':∀ K:MM,RLy (m++K) c p s (fun lv=>s.k=0→Fr m.length lv) ly:=fun K=>by
   rcases hly with h|⟨h1,lv,h,h2,h3,_⟩
   ·exact .inl h
   ·exact .inr ⟨h1,lv,h,h2.keep (.app _ _),fun h0=>(h3 h0).keep (.app _ _),fun h0=>by omega⟩
  subst hl1
  simp only[AV.one] at hl2
  refine Fn_of rfl ?_
  simp(disch:=first|assumption|omega|(simp only[zl]<;>omega)|(simp only[zn])) only[ref11_Step,↓zd,zk,seval,reduceIte,List.map,AV.cells,List.all,AV.one,eqV,eqAll,splice,fillA,List.replicate,resAll,resA,zm,zg,rsC,rlC,cfC,memC,hone,hone2,hl2,a173,hz0,hhalf,a170,hhd,a171,htl,h0]
  refine⟨Keep.app _ _,bv,rlC c' p' l' lv,mv,?_,hb.keep (.app _ _),fun h=>(hnx h).keep (.app _ _),.inl rfl,hly' _,(hs.keep (.app _ _)).ro⟩
  rw[rsC,rlC,cfC,cfC,h0];rfl
 ·have hx:=hx0.resolve_left h0
  rcases (show s.a=1∨s.a=2∨s.a=3∨s.a=4 by have h:=(hok.a.resolve_left h0).2;omega) with h1|h1|h1|h1
  ·exact rsstep1 hs hb hly hok hx h1
  ·exact rsstep2 hs hb hly hok hx h1
  ·exact rsstep3 hs hb hnx hly hok hx h1
  ·exact rsstep4 hs hb hnx hly hok hx h1
end Go.Am.F11
end
section
namespace Go.Am.F11
open Go.Am.F06 Go.Am.F10 Go.Am.F09
def newT(c:Cf) (p v:Int):TS:=⟨if thereS c p v then 1 else 0,0,[],0,⟨0,0,0,0,[]⟩⟩
theorem newT_ok(c:Cf) (p v:Int):TOk c p v (newT c p v):=by
 unfold newT
 refine⟨(show W64 0 by unfold W64;omega),?_,.inl ⟨rfl,?_⟩,by simp⟩
 ·by_cases h:thereS c p v
  ·rw[if_pos h];exact .inr ⟨h,.inl rfl⟩
  ·rw[if_neg h];exact .inl rfl
 ·simp only;split<;>decide
theorem newT_TM{m:MM} {P:Nat→Prop} {c:Cf} {p v:Int} {xj:Nat} (hP:P xj) (h:m[xj]?=some (.cells 13 false (stC c p v (if thereS c p v then 1 else 0) 0 .nilp .nils 0))):TM m P c p v xj (newT c p v):=by
 refine⟨hP,.nilp,.nils,h,.inl ⟨rfl,rfl,?_,?_,rfl⟩,.inl ⟨rfl,rfl⟩⟩<;>· unfold newT;simp only;split<;>decide
def nsC(c:Cf) (p v:Int):Cf:=if thereS c p v then c else zeroC
def nsI(c:Cf) (p v x:Int):Int:=if thereS c p v then x else 0
set_option maxHeartbeats 8000000 in
theorem rsnew_run{m:MM} (c:Cf) (p v:Int):Fn [(169,F10.c_ref09_There)] ref11_New [.agg (cfC c),.int .i64 p,.int .i64 v] m (fun r m'=>Keep m m'∧r = .agg (rsC (nsC c p v) (nsI c p v p) (nsI c p v v) (newT c p v).a 0 .nils 0 zlC)):=by
 have a169:assoc [(169,F10.c_ref09_There (X:=Ob))] 169=some F10.c_ref09_There:=rfl
 generalize [(169,F10.c_ref09_There (X:=Ob))]=G at a169 ⊢
 have hr:=fun(K:MM) (p:Int)=>rthere_eq (m++K) c p
 simp only[cfC,List.append_assoc,List.cons_append,List.nil_append] at hr
 unfold nsC nsI newT
 refine Fn_of rfl ?_
 by_cases t1:thereP c p
 ·have r1:=fun K=>hr K p
  simp only[decide_eq_true t1] at r1
  by_cases t2:thereP c v
  ·have r2:=fun K=>hr K v
   simp only[decide_eq_true t2] at r2
   by_cases t3:p=v
   ·have hn:¬ thereS c p v:=fun h=>h.2.2 t3
    rw[if_neg hn,if_neg hn,if_neg hn]
    simp only[if_neg hn]
    subst t3
    simp(disch:=first|assumption|omega|(simp only[zl]<;>omega)|(simp only[zn])) only[ref11_New,↓zd,zk,seval,reduceIte,List.map,AV.cells,List.all,AV.one,eqV,eqAll,splice,fillA,List.replicate,resAll,resA,zm,zg,cfC,a169,r1]
    exact⟨.app _ _,rfl⟩
   ·have hn:thereS c p v:=⟨t1,t2,t3⟩
    rw[if_pos hn,if_pos hn,if_pos hn]
    simp only[if_pos hn]
    simp(disch:=first|assumption|omega|(simp only[zl]<;>omega)|(simp only[zn])) only[ref11_New,↓zd,zk,seval,reduceIte,List.map,AV.cells,List.all,AV.one,eqV,eqAll,splice,fillA,List.replicate,resAll,resA,zm,zg,cfC,a169,r1,r2,t3]
    exact⟨.app _ _,rfl⟩
  ·have r2:=fun K=>hr K v
   simp only[decide_eq_false t2] at r2
   have hn:¬ thereS c p v:=fun h=>t2 h.2.1
   rw[if_neg hn,if_neg hn,if_neg hn]
   simp only[if_neg hn]
   simp(disch:=first|assumption|omega|(simp only[zl]<;>omega)|(simp only[zn])) only[ref11_New,↓zd,zk,seval,reduceIte,List.map,AV.cells,List.all,AV.one,eqV,eqAll,splice,fillA,List.replicate,resAll,resA,zm,zg,cfC,a169,r1,r2]
   exact⟨.app _ _,rfl⟩
 ·have r1:=fun K=>hr K p
  simp only[decide_eq_false t1] at r1
  have hn:¬ thereS c p v:=fun h=>t1 h.1
  rw[if_neg hn,if_neg hn,if_neg hn]
  simp only[if_neg hn]
  simp(disch:=first|assumption|omega|(simp only[zl]<;>omega)|(simp only[zn])) only[ref11_New,↓zd,zk,seval,reduceIte,List.map,AV.cells,List.all,AV.one,eqV,eqAll,splice,fillA,List.replicate,resAll,resA,zm,zg,cfC,a169,r1]
  exact⟨.app _ _,rfl⟩
def RcT(c c':Cf) (p p' v v':Int) (s:TS):Prop:=(c'=c∧p'=p∧v'=v)∨(s.a=0∧s.k=0)
theorem RcT.ok{c c':Cf} {p p' v v':Int} {s:TS} (h:RcT c c' p p' v v' s) (hok:TOk c p v s):TOk c' p' v' s:=by
 rcases h with⟨rfl,rfl,rfl⟩|⟨h1,h2⟩
 ·exact hok
 ·exact⟨hok.w,.inl h1,.inl ⟨h2,by omega⟩,hok.b⟩
theorem RcT.st{c c':Cf} {p p' v v':Int} {s:TS} (h:RcT c c' p p' v v' s) (xs:List Int):stepT c' p' v' xs s=stepT c p v xs s:=by
 rcases h with⟨rfl,rfl,rfl⟩|⟨h1,h2⟩
 ·rfl
 ·rw[stepT,if_pos h1,stepT,if_pos h1]
theorem RcT.step{c c':Cf} {p p' v v':Int} {s:TS} (h:RcT c c' p p' v v' s) (xs:List Int):RcT c c' p p' v v' (stepT c p v xs s).1:=by
 rcases h with h|⟨h1,h2⟩
 ·exact .inl h
 ·rw[stepT,if_pos h1];exact .inr ⟨h1,h2⟩
theorem RcT.new(c:Cf) (p v:Int):RcT c (nsC c p v) p (nsI c p v p) v (nsI c p v v) (newT c p v):=by
 unfold nsC nsI newT
 by_cases h:thereS c p v
 ·simp only[if_pos h];exact .inl ⟨rfl,rfl,rfl⟩
 ·simp only[if_neg h];exact .inr ⟨rfl,rfl⟩
set_option maxHeartbeats 8000000 in
theorem rhands_run{m:MM} {c:Cf} {p v:Int} {s:TS} {bv:AV} {ly:List AV} {F:AV→Prop} (hb:SI m false s.bl bv) (hly:RLy m c p s F ly) (hok:TOk c p v s):Fn [] ref11_Hands [.agg (rsC c p v s.a s.w bv s.k ly)] m (fun r m'=>Keep m m'∧SI m' true (handsT s) r):=by
 have hone2:=slOne hb
 simp only[AV.one] at hone2
 refine Fn_of rfl ?_
 unfold handsT
 by_cases hk:s.k=0
 ·have hz:=rzero hly hk
  subst hz
  rw[if_pos hk]
  simp(disch:=first|assumption|omega|(simp only[zl]<;>omega)|(simp only[zn])) only[ref11_Hands,↓zd,zk,seval,reduceIte,List.map,AV.cells,List.all,AV.one,eqV,eqAll,splice,fillA,List.replicate,resAll,resA,zm,zg,rsC,zlC,rlC,zeroC,cfC,hone2,hk]
  exact⟨.app _ _,Sl.nil⟩
 ·rw[if_neg hk]
  obtain⟨k1,k2,k3,k4,k5⟩:=hok.k.resolve_left (by omega)
  obtain⟨_,lv,rfl,sl,nx,_⟩:=hly.resolve_left (fun h=>hk h.1)
  have honel:=slOne sl
  simp only[AV.one] at honel
  have hbb:=hok.b
  have hls:=k4.l
  have hlen:=hb.len
  obtain⟨q,oo,cap,ro,L,rfl,b2,b3,b4,b5⟩:=hb.val (by omega)
  obtain⟨x,hx⟩:∃ x,s.bl[0]?=some x:=⟨_,List.getElem?_eq_getElem (by omega)⟩
  have b6:=b5 0 x hx
  rw[Nat.add_zero] at b6
  have htk:s.bl.take 1=[x]:=by
   cases hbl:s.bl with
   | nil=>rw[hbl] at hx;cases hx
   | cons y t=>rw[hbl] at hx;injection hx with hx;subst hx;rfl
  rw[htk]
  have b2':=fun K:MM=>(Keep.app m K).get b2
  simp(disch:=first|assumption|omega|(simp only[zl]<;>omega)|(simp only[zn])) only[ref11_Hands,↓zd,zk,seval,reduceIte,List.map,AV.cells,List.all,AV.one,eqV,eqAll,splice,fillA,List.replicate,resAll,resA,zm,zg,rsC,rlC,cfC,hone2,honel,hk,b2,b2',b6]
  obtain⟨M,hM⟩:∃ M:MM,M=m++[Chunk.cells 24 false (rsC c p v s.a s.w (.sl q oo s.bl.length cap) s.k (rlC c p s.ly lv))]:=⟨_,rfl⟩
  have g0:M[m.length]?=some (.cells 24 false (rsC c p v s.a s.w (.sl q oo s.bl.length cap) s.k (rlC c p s.ly lv))):=by rw[hM,get_mid0];rfl
  have kM:Keep m M:=by rw[hM];exact .app _ _
  have lM:M.length=m.length+1:=by rw[hM];simp
  have hM':m++[Chunk.cells 24 false (rsC c p v s.a s.w (.sl q oo s.bl.length cap) s.k (rlC c p s.ly lv)),Chunk.cells 1 false [.int .i64 x]]=M++[Chunk.cells 1 false [.int .i64 x]]:=by rw[hM];simp
  simp only[rsC,rlC,cfC,List.cons_append,List.nil_append] at hM' g0
  obtain⟨l1,M1,hap1,ow1,ln1,f1⟩:=own_push2 (m0:=M) (m:=M) (xs:=[]) own_nil x (by simp) (Nat.le_refl _)
  have k1':Keep M M1:=⟨ln1,fun i hi=>f1 i hi (.inr hi)⟩
  rw[lM] at hap1
  rw[List.nil_append] at ow1
  obtain⟨l2,M2,hap2,ow2,ln2,f2⟩:=own_pushs ow1 ((sl.keep kM).keep k1') (by simp) (by omega) ln1
  have k2':Keep M M2:=⟨by omega,fun i hi=>by rw[f2 i (by omega) (.inr hi),k1'.2 i hi]⟩
  have h0:=k1'.get g0
  simp(disch:=first|assumption|omega|(simp only[zl]<;>omega)|(simp only[zn])) only[↓zd,zk,seval,reduceIte,List.map,AV.cells,List.all,AV.one,eqV,eqAll,splice,fillA,List.replicate,resAll,resA,zm,zg,evA,fillA,repeatL,List.flatten_cons,List.flatten_nil,hM',hap1,h0,hap2]
  exact⟨kM.trans k2',(Own.si ow2).1⟩
end Go.Am.F11
end
