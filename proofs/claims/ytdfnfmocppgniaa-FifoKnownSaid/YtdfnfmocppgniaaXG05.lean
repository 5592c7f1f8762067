import Derived.Test.YtdfnfmocppgniaaXG04
import Derived.Laws.CopyRow
set_option linter.unusedSimpArgs false
set_option linter.unusedVariables false
section
namespace Go.Am
section
variable {X:Type} {A:AbsSem X} {num:Nat→Nat} {P:Program} {o:Oper} {a:Act} {F:Nat→Prop} {μ:Mu} {m:Mem X} {w:World}
theorem length_splice{α:Type} (l:List α) (q:Nat) (vs:List α) (h:q+vs.length≤l.length):(splice l q vs).length=l.length:=by
 simp[splice];omega
theorem getElem?_splice {α:Type} (l:List α) (q:Nat) (vs:List α) (h:q+vs.length≤l.length) (j:Nat):(splice l q vs)[j]?=if j < q then l[j]? else if j < q+vs.length then vs[j - q]? else l[j]?:=by
 unfold splice
 rw[List.append_assoc,List.getElem?_append]
 have h1:(l.take q).length=q:=by simp;omega
 rw[h1]
 split
 ·rename_i hj;rw[List.getElem?_take,if_pos hj]
 ·rename_i hj
  rw[List.getElem?_append]
  split
  ·rename_i h2;rw[if_pos (by omega)]
  ·rename_i h2;rw[if_neg (by omega),List.getElem?_drop];congr 1;omega
theorem RowAt.splice{p:Pl} {l:List AV} {arr:Array Value} (h:RowAt num μ p l arr) {q:Nat} {vs:List AV} {ds:List Value} (hv:VRL num μ vs ds) (hq:q+vs.length≤l.length) :
  RowAt num μ p (splice l q vs) (Go.Am.splice arr.toList (p.s+q) ds).toArray:=by
 obtain⟨h1,h2,h3⟩:=h
 have hd:p.s+q+ds.length≤arr.toList.length:=by rw[← hv.1];simp;omega
 refine⟨by rw[length_splice _ _ _ hq];exact h1,by simp[length_splice _ _ _ hd];exact h2,fun j x hx=>?_⟩
 rw[getElem?_splice _ _ _ hq] at hx
 simp only[List.getElem?_toArray,getElem?_splice _ _ _ hd]
 split at hx
 ·rename_i hj
  rw[if_pos (by omega)]
  obtain⟨v,k1,k2⟩:=h3 j x hx
  exact⟨v,by simpa using k1,k2⟩
 ·rename_i hj
  rw[if_neg (by omega)]
  split at hx
  ·rename_i hj2
   rw[if_pos (by rw[← hv.1];omega)]
   obtain⟨d,k1,k2⟩:=hv.get hx
   exact⟨d,by rw[show p.s+j - (p.s+q)=j - q by omega];exact k1,k2⟩
  ·rename_i hj2
   rw[if_neg (by rw[← hv.1];omega)]
   obtain⟨v,k1,k2⟩:=h3 j x hx
   exact⟨v,by simpa using k1,k2⟩
theorem run_storeCells' {g q:Nat} {t:TypeId} {vs:List Value} {cur:Array Value} (hg:w.heap[g]?=some (.cells cur t (0,0))) (hq:q+vs.length≤cur.size) (h1:vs.all (·.oneCell')=true) :
  (storeCells ⟨g,q,none⟩ vs).run P w = .ok () (w.setRow g (splice cur.toList q vs).toArray):=by
 have:=run_storeCells_at P g q t vs 0 cur w hg (by omega) (fun v hv=>List.all_eq_true.1 h1 v hv)
 simpa [splice] using this
theorem does_store{t:TypeId} {x y:Operand} (ho:o.op = .store t x y) {n:Nat} {ti:TypeInfo} (hi:P.info? t=some ti) (hn:ti.size=n) {i q:Nat} {v:AV} {m':Mem X}
  (hx:VR num μ (.ptr i q) (a.eval x)) (hy:VR num μ v (a.eval y)) (h:storeN m i q n v=some m') (hs:Sim A num F μ m w.heap):Does A num P o a m.length F μ w .skip m':=by
 unfold storeN at h
 split at h
 ·rename_i sz l hg
  split at h
  ·rename_i hc
   obtain⟨hc1,hc2,hc3⟩:=hc
   injection h with h;subst h
   obtain⟨p,hp,he⟩:=hx.ptr_inv
   obtain⟨hv1,hv2⟩:=hy.cells hc3
   obtain⟨arr,T,fr,hz,hh,hr,hF⟩:=hs.row (getC_some hg) hp
   obtain⟨hFp,rfl⟩:=hF rfl
   have hsz:(a.eval y).cells.size=n:=by have:=hv1.1;simp at this;omega
   have hfit:p.s+q+(a.eval y).cells.toList.length≤arr.size:=by have:=hr.1;have:=hr.2.1;simp;omega
   have hrun:(execOp a.eval o).run P w = .ok .skip (w.setRow p.c (splice arr.toList (p.s+q) (a.eval y).cells.toList).toArray):=by
    simp[execOp,ho,he,Instr.storeAt,Instr.sureAddr,storeVar,run_sizeOf' hi,hn,hsz,run_storeCells' hh hfit hv2]
   have hrow:=hr.splice hv1 (q:=q) (by omega)
   obtain⟨k1,k2⟩:=hs.write (w':=w.setRow p.c (splice arr.toList (p.s+q) (a.eval y).cells.toList).toArray) (l':=splice l q v.cells) (getC_some hg) hp (by simp) (setRow_heap w p.c arr _ T _ hh) (fun c hc=>setRow_other w p.c c _ hc) hrow rfl rfl rfl
   intro next Q hnx
   unfold Oper.wp;rw[hrun]
   exact hnx F μ undef _ VR.skip k1 k2
  ·cases h
 ·cases h

theorem run_sliceBound(v:Value) {k:IntKind} {n:Int} (hv:v = .int k n) (y:Nat) (c:BoundsCode) (h0:0≤n) (h1:n≤y):(Instr.sliceBound v y c).run P w = .ok n.toNat w:=by
 subst hv
 simp[Instr.sliceBound,asIntOf,h0,h1]
def BoundIs(x:Option Nat) (v:Option Value):Prop :=
 match x,v with
 | none,none=>True
 | some n,some v=>∃ k z,v = .int k z∧0≤z∧z.toNat=n
 | _,_=>False
theorem run_sliceBounds{len cap:Nat} {lo hi mx:Option Nat} {l h k:Option Value} (hl:BoundIs lo l) (hh:BoundIs hi h) (hm:BoundIs mx k)
  (h1:mx.getD cap≤cap) (h2:hi.getD len≤mx.getD cap) (h3:lo.getD 0≤hi.getD len) (h4:mx=none∨hi≠none) :
  (Instr.sliceBounds true len cap l h k).run P w = .ok (lo.getD 0,hi.getD len,mx.getD cap) w:=by
 unfold BoundIs at hl hh hm
 cases mx with
 | none =>
  cases k with
  | some _=>exact hm.elim
  | none =>
   simp only[Option.getD_none] at *
   cases hi with
   | none =>
    cases h with
    | some _=>exact hh.elim
    | none =>
     cases lo with
     | none=>cases l with
      | some _=>exact hl.elim
      | none=>simp[Instr.sliceBounds]
     | some n=>cases l with
      | none=>exact hl.elim
      | some v =>
       obtain⟨kd,z,rfl,hz0,hz⟩:=hl
       simp only[Option.getD_some,Option.getD_none] at *
       simp[Instr.sliceBounds,run_sliceBound (P:=P) (w:=w) _ rfl _ _ hz0 (show z≤(len:Int) by omega),hz]
   | some n =>
    cases h with
    | none=>exact hh.elim
    | some v =>
     obtain⟨kd,z,rfl,hz0,hz⟩:=hh
     simp only[Option.getD_some] at *
     have e1:=fun c=>run_sliceBound (P:=P) (w:=w) (.int kd z) rfl cap c hz0 (show z≤(cap:Int) by omega)
     cases lo with
     | none=>cases l with
      | some _=>exact hl.elim
      | none=>simp[Instr.sliceBounds,e1,hz]
     | some n'=>cases l with
      | none=>exact hl.elim
      | some v =>
       obtain⟨kd',z',rfl,hz0',hz'⟩:=hl
       simp only[Option.getD_some] at *
       have e2:=fun c=>run_sliceBound (P:=P) (w:=w) (.int kd' z') rfl n c hz0' (show z'≤(n:Int) by omega)
       simp[Instr.sliceBounds,e1,hz,e2,hz']
 | some mm =>
  cases k with
  | none=>exact hm.elim
  | some v =>
   obtain⟨kdm,zm,rfl,hzm0,hzm⟩:=hm
   simp only[Option.getD_some] at *
   have e0:=fun c=>run_sliceBound (P:=P) (w:=w) (.int kdm zm) rfl cap c hzm0 (show zm≤(cap:Int) by omega)
   cases hi with
   | none=>rcases h4 with h4|h4<;>simp at h4
   | some n =>
    cases h with
    | none=>exact hh.elim
    | some v =>
     obtain⟨kd,z,rfl,hz0,hz⟩:=hh
     simp only[Option.getD_some] at *
     have e1:=fun c=>run_sliceBound (P:=P) (w:=w) (.int kd z) rfl mm c hz0 (show z≤(mm:Int) by omega)
     cases lo with
     | none=>cases l with
      | some _=>exact hl.elim
      | none=>simp[Instr.sliceBounds,e0,hzm,e1,hz]
     | some n'=>cases l with
      | none=>exact hl.elim
      | some v =>
       obtain⟨kd',z',rfl,hz0',hz'⟩:=hl
       simp only[Option.getD_some] at *
       have e2:=fun c=>run_sliceBound (P:=P) (w:=w) (.int kd' z') rfl n c hz0' (show z'≤(n:Int) by omega)
       simp[Instr.sliceBounds,e0,hzm,e1,hz,e2,hz']
theorem add_mul_le{o l c' r z h:Nat} (h1:o+c' * z≤r) (h2:l+h≤c'):o+l * z+h * z≤r:=by
 have:(l+h) * z≤c' * z:=Nat.mul_le_mul_right _ h2
 rw[Nat.add_mul] at this
 omega
theorem does_slice{t e:TypeId} {x:Operand} {l h k:Option Operand} (ho:o.op = .slice t x l h k) (hu:P.underlying t=some (.slice e)) {ti:TypeInfo} (hi:P.info? e=some ti)
  {v:AV} {lo hh mx:Option Nat} (hx:VR num μ v (a.eval x)) (b1:BoundIs lo (l.map a.eval)) (b2:BoundIs hh (h.map a.eval)) (b3:BoundIs mx (k.map a.eval)) {r:AV}
  (hr:sliceA m ti.size v lo hh mx=some r) (hs:Sim A num F μ m w.heap):Does A num P o a m.length F μ w r m:=by
 have hrun:∀ (A0:Option Addr) (len cap:Nat),a.eval x = .slice A0 len cap→mx.getD cap≤cap→hh.getD len≤mx.getD cap→lo.getD 0≤hh.getD len→(mx=none∨hh≠none) →
   (execOp a.eval o).run P w = .ok (.value (.slice (if mx.getD cap=lo.getD 0 then A0 else A0.map (·.add (lo.getD 0 * ti.size))) (hh.getD len - lo.getD 0) (mx.getD cap - lo.getD 0))) w:=by
  intro A0 len cap he h1 h2 h3 h4
  simp[execOp,ho,he,Instr.sliceAt,Instr.slice,run_underlying hu,run_sliceBounds (P:=P) (w:=w) b1 b2 b3 h1 h2 h3 h4,run_sizeOf' hi]
 unfold sliceA at hr
 split at hr
 ·split at hr
  ·rename_i hc
   obtain⟨c1,c2,c3,c4⟩:=hc
   injection hr with hr;subst hr
   refine Does.value (.slice none 0 0) ?_ .nils hs
   have:=hrun none 0 0 hx.nils_inv (by omega) (by omega) (by omega) c4
   rw[this];simp[c1,c2,c3]
  ·cases hr
 ·rename_i i q len cap
  split at hr
  ·rename_i hc
   obtain⟨c1,c2,c3,c4⟩:=hc
   injection hr with hr;subst hr
   obtain⟨p,A0,c',hp,he,h|h⟩:=hx.sl_inv
   ·obtain⟨rfl,h|h⟩:=h
    ·injection h with h;subst h
     refine Does.value _ (hrun _ len cap he c1 c2 c3 c4) ?_ hs
     split
     ·exact .sl hp
     ·simpa [Addr.add_mid,Nat.add_assoc] using VR.sl (num:=num) (o:=q+lo.getD 0 * ti.size) (len:=hh.getD len - lo.getD 0) (cap:=mx.getD cap - lo.getD 0) hp
    ·exact absurd h.1 (by simp)
   ·obtain⟨rfl,rfl,h|h⟩:=h
    ·cases h
    ·injection h with h;subst h
     have e1:mx.getD 0=0:=by omega
     have e2:hh.getD 0=0:=by omega
     have e3:lo.getD 0=0:=by omega
     refine Does.value _ (hrun _ 0 0 he c1 c2 c3 c4) ?_ hs
     simp only[e1,e2,e3,if_true]
     exact .slz0 hp
  ·cases hr
 ·rename_i i q len
  split at hr
  ·rename_i kk
   split at hr
   ·rename_i hc
    obtain⟨c1,c2,c3,c4⟩:=hc
    injection hr with hr;subst hr
    obtain⟨p,A0,c',hp,he,h|h⟩:=hx.sl_inv
    ·obtain⟨rfl,h|h⟩:=h
     ·cases h
     ·obtain⟨_,hl,hr⟩:=h
      refine Does.value _ (hrun _ len c' he (by simp;omega) (by simpa using c2) c3 (.inr c4)) ?_ hs
      simp only[Option.getD_some]
      split
      ·exact .sl hp
      ·simpa [Addr.add_mid,Nat.add_assoc] using VR.sl (num:=num) (o:=q+lo.getD 0 * ti.size) (len:=hh.getD len - lo.getD 0) (cap:=kk - lo.getD 0) hp
    ·obtain⟨rfl,rfl,_⟩:=h
     have e1:kk=0:=by omega
     subst e1
     have e2:hh.getD 0=0:=by omega
     have e3:lo.getD 0=0:=by omega
     refine Does.value _ (hrun _ 0 0 he (by simp) (by simpa using c2) c3 (.inr c4)) ?_ hs
     simp only[Option.getD_some,e2,e3,if_true]
     exact .slz0 hp
   ·cases hr
  ·split at hr
   ·rename_i z ro l hg
    split at hr
    ·rename_i hc
     obtain⟨rfl,c2,c3⟩:=hc
     injection hr with hr;subst hr
     obtain⟨p,A0,c',hp,he,h|h⟩:=hx.sl_inv
     ·obtain⟨rfl,h|h⟩:=h
      ·cases h
      ·obtain⟨_,hl,hr⟩:=h
       obtain⟨arr,T,fr,hz,_,_,_⟩:=hs.row (getC_some hg) hp
       refine Does.value _ (hrun _ len c' he (by simp) (by simp;omega) c3 (.inl rfl)) ?_ hs
       simp only[Option.getD_none]
       split
       ·rename_i hcl
        have e1:hh.getD len - lo.getD 0=0:=by omega
        have e2:c' - lo.getD 0=0:=by omega
        rw[e1,e2]
        exact .slz hp
       ·have:=VR.slu (num:=num) (o:=q+lo.getD 0 * ti.size) (len:=hh.getD len - lo.getD 0) (cap:=c' - lo.getD 0) hp (by omega) (by rw[hz];rw[hz] at hr;exact add_mul_le hr (by omega))
        simpa [Addr.add_mid,Nat.add_assoc] using this
     ·obtain⟨rfl,rfl,_⟩:=h
      have e2:hh.getD 0=0:=by omega
      have e3:lo.getD 0=0:=by omega
      refine Does.value _ (hrun _ 0 0 he (by simp) (by simp;omega) c3 (.inl rfl)) ?_ hs
      simp only[Option.getD_none,e2,e3,if_true]
      exact .slz hp
    ·cases hr
   ·cases hr
 ·cases hr
end
end Go.Am
end
