import Derived.Test.YtdfnfmocppgniaaXG07
import Derived.LaidEqlPtr
set_option linter.unusedSimpArgs false
set_option linter.unusedVariables false
section
namespace Go.Am
section
variable {X:Type} {A:AbsSem X} {num:Nat→Nat} {P:Program} {o:Oper} {a:Act} {F:Nat→Prop} {μ:Mu} {m:Mem X} {w:World}
def eqlOp(neg:Bool):BinOp:=if neg then .neq else .eql
theorem does_eq{neg:Bool} {t yt:TypeId} {x y:Operand} (ho:o.op = .binOp (eqlOp neg) t x y yt) {b:Bool} (hg:(eqGuard (eqlOp neg) t x y (a.eval x) (a.eval y)).run P w = .ok () w)
  (hb:(binOp (eqlOp neg) t (a.eval x) (a.eval y)).run P w = .ok (.bool (xor neg b)) w) (hs:Sim A num F μ m w.heap):Does A num P o a m.length F μ w (.bool (xor neg b)) m :=
 Does.value (.bool (xor neg b)) (by simp[execOp,ho,hg,hb]) (.bool _) hs
theorem binOp_of_equal{neg:Bool} {t:TypeId} {u v:Value} {b:Bool} (h:∀ d,(Op.equalIn (d+1) t u v).run P w = .ok b w) (h1:binOp .eql t u v=Value.bool <$> Op.equal t u v) (h2:binOp .neq t u v=(fun a=>Value.bool (!a)) <$> Op.equal t u v) :
  (binOp (eqlOp neg) t u v).run P w = .ok (.bool (xor neg b)) w:=by
 have h3:(Op.equal t u v).run P w = .ok b w:=h 9999
 cases neg
 ·simp[eqlOp,h1,h3]
 ·simp[eqlOp,h2,h3]
theorem does_eq_bool{neg:Bool} {t yt:TypeId} {x y:Operand} (ho:o.op = .binOp (eqlOp neg) t x y yt) (hu:P.underlying t=some .bool) {p q:Bool} (hx:VR num μ (.bool p) (a.eval x)) (hy:VR num μ (.bool q) (a.eval y)) (hs:Sim A num F μ m w.heap) :
  Does A num P o a m.length F μ w (.bool (xor neg (p == q))) m:=by
 refine does_eq ho (by rw[hx.bool_inv,eqGuard_at_bool];rfl) ?_ hs
 rw[hx.bool_inv,hy.bool_inv]
 exact binOp_of_equal (fun d=>run_equalIn_bool' w d t p q hu) (by simp[binOp]) (by simp[binOp])
theorem does_eq_agg{neg:Bool} {t yt:TypeId} {x y:Operand} (ho:o.op = .binOp (eqlOp neg) t x y yt) {sh:List Bool} (hf:flat P 20 t=some sh) (ha:aggOf P t=some true) (hg:P.eqGuardType P.depth t=false) {xs ys:List AV} {b:Bool}
  (hx:VR num μ (.agg xs) (a.eval x)) (hy:VR num μ (.agg ys) (a.eval y)) (hb:eqAll sh xs ys=some b) (hs:Sim A num F μ m w.heap):Does A num P o a m.length F μ w (.bool (xor neg b)) m:=by
 obtain⟨dx,ex,lx⟩:=hx.agg_inv
 obtain⟨dy,ey,ly⟩:=hy.agg_inv
 obtain⟨l1,l2⟩:=eqAll_len hb
 have sx:dx.size=sh.length:=by have:=lx.1;simp at this;omega
 have sy:dy.size=sh.length:=by have:=ly.1;simp at this;omega
 refine does_eq ho (by rw[ex,ey];exact run_eqGuard_agg w _ t x y dx dy hg) ?_ hs
 have ex':(dx.toList.drop 0).take sh.length=dx.toList:=by simp[← sx,List.take_of_length_le]
 have ey':(dy.toList.drop 0).take sh.length=dy.toList:=by simp[← sy,List.take_of_length_le]
 have:=equal_flat (num:=num) (μ:=μ) (w:=w) 20 t sh hf (9980) 0 xs ys dx dy b (by rw[ex'];exact lx) (by rw[ey'];exact ly) (by omega) (by omega) hb
 have vx:valOf P t dx 0 sh.length = .agg dx:=by simp[valOf,ha,← sx]
 have vy:valOf P t dy 0 sh.length = .agg dy:=by simp[valOf,ha,← sy]
 rw[vx,vy] at this
 rw[ex,ey]
 have h3:(Op.equal t (.agg dx) (.agg dy)).run P w = .ok b w:=this
 have h1:binOp .eql t (.agg dx) (.agg dy)=Value.bool <$> Op.equal t (.agg dx) (.agg dy):=by simp[binOp]
 have h2:binOp .neq t (.agg dx) (.agg dy)=(fun a=>Value.bool (!a)) <$> Op.equal t (.agg dx) (.agg dy):=by simp[binOp]
 cases neg
 ·simp[eqlOp,h1,h3]
 ·simp[eqlOp,h2,h3]
theorem does_eq_slc{neg:Bool} {t yt e:TypeId} {x y:Operand} (ho:o.op = .binOp (eqlOp neg) t x y yt) (hu:P.underlying t=some (.slice e)) {p q:AV} {b:Bool} (hx:VR num μ p (a.eval x)) (hy:VR num μ q (a.eval y)) (h:eqV m .slc p q=some b) (hs:Sim A num F μ m w.heap) :
  Does A num P o a m.length F μ w (.bool (xor neg b)) m:=by
 have fin:∀ A0 c d B0 c' d',a.eval x = .slice A0 c d→a.eval y = .slice B0 c' d'→(∀ n,(Op.equalIn (n+1) t (.slice A0 c d) (.slice B0 c' d')).run P w = .ok b w)→Does A num P o a m.length F μ w (.bool (xor neg b)) m:=fun A0 c d B0 c' d' ex ey he=>by
  refine does_eq ho (by rw[ex,eqGuard_at_slice];rfl) ?_ hs
  rw[ex,ey]
  exact binOp_of_equal he (by simp[binOp]) (by simp[binOp])
 cases p<;>cases q<;>simp only[eqV] at h<;>try (cases h;done)
 ·injection h with h;subst h
  exact fin _ _ _ _ _ _ hx.nils_inv hy.nils_inv (fun n=>by simp[Op.equalIn,run_underlying hu])
 ·injection h with h;subst h
  obtain⟨_,A0,c',_,he,_⟩:=hy.sl_inv
  exact fin _ _ _ _ _ _ hx.nils_inv he (fun n=>by simp[Op.equalIn,run_underlying hu])
 ·injection h with h;subst h
  obtain⟨A0,he⟩:=hy.mt_inv
  exact fin _ _ _ _ _ _ hx.nils_inv he (fun n=>by simp[Op.equalIn,run_underlying hu])
 ·injection h with h;subst h
  obtain⟨_,A0,c',_,he,_⟩:=hx.sl_inv
  exact fin _ _ _ _ _ _ he hy.nils_inv (fun n=>by simp[Op.equalIn,run_underlying hu])
 ·injection h with h;subst h
  obtain⟨A0,he⟩:=hx.mt_inv
  exact fin _ _ _ _ _ _ he hy.nils_inv (fun n=>by simp[Op.equalIn,run_underlying hu])
theorem does_eq_map{neg:Bool} {t yt k e:TypeId} {x y:Operand} (ho:o.op = .binOp (eqlOp neg) t x y yt) (hu:P.underlying t=some (.map k e)) {p q:AV} {b:Bool} (hx:VR num μ p (a.eval x)) (hy:VR num μ q (a.eval y)) (h:eqV m .map p q=some b) (hs:Sim A num F μ m w.heap) :
  Does A num P o a m.length F μ w (.bool (xor neg b)) m:=by
 have nil_:∀ {v:Value},VR num μ .nilm v→v = .map none:=fun h=>by cases h;rfl
 have some_:∀ {i:Nat} {v:Value},VR num μ (.map i) v→∃ r,v = .map (some r):=fun h=>by cases h;exact⟨_,rfl⟩
 have fin:∀ A0 B0,a.eval x = .map A0→a.eval y = .map B0→(∀ n,(Op.equalIn (n+1) t (.map A0) (.map B0)).run P w = .ok b w)→Does A num P o a m.length F μ w (.bool (xor neg b)) m:=fun A0 B0 ex ey he=>by
  refine does_eq ho (by rw[ex,eqGuard_at_map];rfl) ?_ hs
  rw[ex,ey]
  exact binOp_of_equal he (by simp[binOp]) (by simp[binOp])
 cases p<;>cases q<;>simp only[eqV] at h<;>try (cases h;done)
 ·injection h with h;subst h
  exact fin _ _ (nil_ hx) (nil_ hy) (fun n=>by simp[Op.equalIn,run_underlying hu])
 ·injection h with h;subst h
  obtain⟨r,he⟩:=some_ hy
  exact fin _ _ (nil_ hx) he (fun n=>by simp[Op.equalIn,run_underlying hu])
 ·injection h with h;subst h
  obtain⟨r,he⟩:=some_ hx
  exact fin _ _ he (nil_ hy) (fun n=>by simp[Op.equalIn,run_underlying hu])
theorem does_eq_ptr{neg:Bool} {t yt e:TypeId} {x y:Operand} (ho:o.op = .binOp (eqlOp neg) t x y yt) (hu:P.underlying t=some (.pointer e)) {ti:TypeInfo} (hi:P.info? e=some ti) (h0:ti.size≠0) {p q:AV} {b:Bool}
  (hx:VR num μ p (a.eval x)) (hy:VR num μ q (a.eval y)) (h:eqV m .ptr p q=some b) (hs:Sim A num F μ m w.heap):Does A num P o a m.length F μ w (.bool (xor neg b)) m:=by
 have nil_:∀ {v:Value},VR num μ .nilp v→v = .pointer none:=fun h=>by cases h;rfl
 have fin:∀ A0 B0,a.eval x = .pointer A0→a.eval y = .pointer B0→(∀ n,(Op.equalIn (n+1) t (.pointer A0) (.pointer B0)).run P w = .ok b w)→Does A num P o a m.length F μ w (.bool (xor neg b)) m:=fun A0 B0 ex ey he=>by
  refine does_eq ho (by rw[ex,eqGuard_at_pointer];rfl) ?_ hs
  rw[ex,ey]
  exact binOp_of_equal he (by simp[binOp]) (by simp[binOp])
 cases p<;>cases q<;>simp only[eqV] at h<;>try (cases h;done)
 ·injection h with h;subst h
  exact fin _ _ (nil_ hx) (nil_ hy) (fun n=>by simp[Op.equalIn,run_underlying hu])
 ·injection h with h;subst h
  obtain⟨pl,_,he⟩:=hy.ptr_inv
  exact fin _ _ (nil_ hx) he (fun n=>by simp[Op.equalIn,run_underlying hu])
 ·injection h with h;subst h
  obtain⟨pl,_,he⟩:=hx.ptr_inv
  exact fin _ _ he (nil_ hy) (fun n=>by simp[Op.equalIn,run_underlying hu])
 ·rename_i i pp j qq
  obtain⟨p1,hp1,e1⟩:=hx.ptr_inv
  obtain⟨p2,hp2,e2⟩:=hy.ptr_inv
  split at h
  ·rename_i hij
   subst hij
   injection h with h;subst h
   rw[hp1] at hp2;injection hp2 with hp2;subst hp2
   refine fin _ _ e1 e2 (fun n=>?_)
   by_cases hpq:pp=qq
   ·simp[Op.equalIn,run_underlying hu,run_sizeOf' hi,h0,sameAddr,hpq]
   ·have hne:(⟨p1.c,p1.s+pp,none⟩:Addr)≠⟨p1.c,p1.s+qq,none⟩:=fun e=>hpq (by injection e;omega)
    have e3:((⟨p1.c,p1.s+pp,none⟩:Addr) == ⟨p1.c,p1.s+qq,none⟩)=(pp == qq):=by rw[beq_eq_false_iff_ne.2 hne,beq_eq_false_iff_ne.2 hpq]
    simp[Op.equalIn,run_underlying hu,run_sizeOf' hi,h0,sameAddr,e3]
  ·rename_i hij
   split at h
   ·rename_i s1 l1 s2 l2 hg1 hg2
    injection h with h;subst h
    have hrow1:=hs.row (getC_some hg1) hp1
    have hrow2:=hs.row (getC_some hg2) hp2
    obtain⟨own,hso⟩:=hs
    obtain⟨arr1,T1,fr1,k1,k2,_,_,k3⟩:=hso.ok i _ p1 (getC_some hg1) hp1
    obtain⟨arr2,T2,fr2,j1,j2,_,_,j3⟩:=hso.ok j _ p2 (getC_some hg2) hp2
    obtain⟨o1,rfl⟩:=k3 rfl
    obtain⟨o2,rfl⟩:=j3 rfl
    have hne:p1.c≠p2.c:=fun e=>by rw[e,o2] at o1;injection o1 with o1;exact hij o1.symm
    have hsa:=run_sameAddr_other (P:=P) w (a:=⟨p1.c,p1.s+pp,none⟩) (b:=⟨p2.c,p2.s+qq,none⟩) (fun e=>hne (by injection e)) k2 j2
    have hs:Sim A num F μ m w.heap:=⟨own,hso⟩
    exact fin _ _ e1 e2 (fun n=>by simp[Op.equalIn,run_underlying hu,run_sizeOf' hi,h0,hsa])
   ·cases h

def Sound(A:AbsSem X) (num:Nat→Nat) (P:Program) (k:FuncId) (f:AFun X):Prop :=
 ∀ (F:Nat→Prop) (μ:Mu) (m:Mem X) (w:World) (args:List AV) (vs:List Value) (v:AV) (m':Mem X),Sim A num F μ m w.heap→VRL num μ args vs→f args m=some (v,m') →
  Calls P k vs.toArray w fun e w'=>∃ F' μ' cv,e = .returned cv∧VR num μ' v cv∧Sim A num F' μ' m' w'.heap∧Ext m.length F μ w F' μ' w'
def Mono(f:AFun X):Prop:=∀ (args:List AV) (m:Mem X) (v:AV) (m':Mem X),f args m=some (v,m')→m.length≤m'.length
def callOk(P:Program) (k:FuncId):Bool :=
 match P.funcs[k]? with
 | some fn=>fn.body.isSome && fn.name != "runtime.NumGoroutine"
 | none=>false
theorem run_callFunc{k:FuncId} (h:callOk P k=true) (args:Array Value):(callFunc k args).run P w = .ok (.enter k args) w:=by
 unfold callOk at h
 split at h
 ·rename_i fn hf
  simp only[Bool.and_eq_true,bne_iff_ne,ne_eq] at h
  obtain⟨h1,h2⟩:=h
  have h3:fn.body.isNone=false:=by cases hb:fn.body<;>simp_all
  simp[callFunc,hf,h2,h3]
  intro hb;rw[hb] at h1;cases h1
 ·cases h
theorem does_call{f:Operand} {args:Array Operand} {ts:Array TypeId} (ho:o.op = .call { callee:=.value f,args:=args,argTypes:=ts }) {g:Nat} {first cap:List AV} (hf:VR num μ (.fn g first cap) (a.eval f)) (hok:callOk P (num g)=true)
  {G:AFun X} (hG:Sound A num P (num g) G) {vs:List AV} {v:AV} {m':Mem X} (hv:VRL num μ vs (args.toList.map a.eval)) (h:G (first++vs++cap) m=some (v,m')) (hs:Sim A num F μ m w.heap):Does A num P o a m.length F μ w v m':=by
 intro next Q hn
 have hfv:∃ cs ds,a.eval f = .func (.func (num g)) cs ds∧VRL num μ first cs.toList∧VRL num μ cap ds.toList:=by
  generalize a.eval f=u at *
  cases hf with
  | fn h1 h2 h3 h4=>exact⟨_,_,rfl,⟨by simpa using h1,fun j x d hx hd=>h2 j x d hx (by simpa using hd)⟩,⟨by simpa using h3,fun j x d hx hd=>h4 j x d hx (by simpa using hd)⟩⟩
 obtain⟨cs,ds,ef,hfirst,hcap⟩:=hfv
 have hrun:(execOp a.eval o).run P w = .ok (.enter (num g) (cs++args.map a.eval++ds)) w:=by
  unfold execOp
  simp[ho,resolve,Deferred.ofValue,ef,invoke,run_callFunc hok]
 have hl:=(hfirst.append hv).append hcap
 have hc:=hG F μ m w _ _ v m' hs hl h
 have ea:(cs.toList++args.toList.map a.eval++ds.toList).toArray=cs++args.map a.eval++ds:=by
  apply Array.toList_inj.1;simp
 rw[ea] at hc
 unfold Oper.wp
 rw[hrun]
 simp only[Oper.upon]
 refine hc.mono fun e w' hR=>?_
 obtain⟨F',μ',cv,rfl,h1,h2,h3⟩:=hR
 exact hn F' μ' cv w' h1 h2 h3
end
end Go.Am
end
