import Derived.Test.YtdfnfmocppgniaaXG00
set_option linter.unusedSimpArgs false
set_option linter.unusedVariables false
section
namespace Go.Am
section
variable {X:Type}
theorem wrapI{x:Int} (h1:-9223372036854775808≤x) (h2:x < 9223372036854775808):IntKind.i64.wrap x=x:=by
 simp only[IntKind.wrap,IntKind.bits,IntKind.signed,Bool.true_and,decide_eq_true_eq,ge_iff_le]
 split<;>omega
theorem wrapU{x:Int} (h1:0≤x) (h2:x < 18446744073709551616):IntKind.u64.wrap x=x:=by
 simp only[IntKind.wrap,IntKind.bits,IntKind.signed,Bool.false_and]
 simp
 omega
theorem get_concat{α:Type} {l:List α} {x:α}:(l++[x])[l.length]?=some x:=by simp
theorem set_concat{α:Type} {l:List α} {x y:α}:(l++[x]).set l.length y=l++[y]:=by simp
theorem get_mid{α:Type} {l k:List α} {i:Nat}:(l++k)[l.length+i]?=k[i]?:=by rw[List.getElem?_append_right (by omega)];congr 1;omega
theorem get_mid0{α:Type} {l k:List α}:(l++k)[l.length]?=k[0]?:=get_mid (i:=0)
theorem set_mid{α:Type} {l k:List α} {i:Nat} {y:α}:(l++k).set (l.length+i) y=l++k.set i y:=by rw[List.set_append_right _ _ (by omega)];congr 2;omega
theorem set_mid0{α:Type} {l k:List α} {y:α}:(l++k).set l.length y=l++k.set 0 y:=set_mid (i:=0)
theorem splice_one{α:Type} {l:List α} {o:Nat} {v:α} (h:o < l.length):splice l o [v]=l.set o v:=by
 rw[List.set_eq_take_append_cons_drop,if_pos h]
 simp[splice]
def ldC(o:Nat):Option Nat→Option (Nat × Bool × List AV)→Option AV
 | none,some (_,_,l)=>l[o]?
 | some n,some (_,_,l)=>if o+n≤l.length then some (.agg ((l.drop o).take n)) else none
 | _,none=>none
theorem loadN_ldC{m:Mem X} {i o:Nat} {n:Option Nat}:loadN m i o n=ldC o n (getC m i):=by
 cases n<;>simp only[loadN,ldC]<;>cases getC m i<;>rfl
theorem ldC_none{o sz:Nat} {ro:Bool} {l:List AV}:ldC o none (some (sz,ro,l))=l[o]?:=rfl
def stC(m:Mem X) (i o n:Nat) (v:AV):Option (Nat × Bool × List AV)→Option (Mem X)
 | some (sz,false,l)=>if v.cells.length=n∧o+n≤l.length∧v.cells.all AV.one=true then some (m.set i (.cells sz false (splice l o v.cells))) else none
 | _=>none
theorem storeN_stC{m:Mem X} {i o n:Nat} {v:AV}:storeN m i o n v=stC m i o n v (getC m i):=by
 simp only[storeN,stC]
 cases getC m i with
 | none=>rfl
 | some x=>obtain⟨sz,ro,l⟩:=x;cases ro<;>rfl
theorem stC_int{m:Mem X} {i o sz:Nat} {k:IntKind} {n:Int} {l:List AV} (h:o < l.length):stC m i o 1 (.int k n) (some (sz,false,l))=some (m.set i (.cells sz false (l.set o (.int k n)))):=by
 rw[← splice_one h];exact if_pos ⟨rfl,by omega,rfl⟩
theorem stC_bool{m:Mem X} {i o sz:Nat} {b:Bool} {l:List AV} (h:o < l.length):stC m i o 1 (.bool b) (some (sz,false,l))=some (m.set i (.cells sz false (l.set o (.bool b)))):=by
 rw[← splice_one h];exact if_pos ⟨rfl,by omega,rfl⟩
theorem stC_ptr{m:Mem X} {i o sz a b:Nat} {l:List AV} (h:o < l.length):stC m i o 1 (.ptr a b) (some (sz,false,l))=some (m.set i (.cells sz false (l.set o (.ptr a b)))):=by
 rw[← splice_one h];exact if_pos ⟨rfl,by omega,rfl⟩
theorem stC_nilp{m:Mem X} {i o sz:Nat} {l:List AV} (h:o < l.length):stC m i o 1 .nilp (some (sz,false,l))=some (m.set i (.cells sz false (l.set o .nilp))):=by
 rw[← splice_one h];exact if_pos ⟨rfl,by omega,rfl⟩
theorem stC_sl{m:Mem X} {i o sz a b c:Nat} {d:Option Nat} {l:List AV} (h:o < l.length):stC m i o 1 (.sl a b c d) (some (sz,false,l))=some (m.set i (.cells sz false (l.set o (.sl a b c d)))):=by
 rw[← splice_one h];exact if_pos ⟨rfl,by omega,rfl⟩
theorem stC_nils{m:Mem X} {i o sz:Nat} {l:List AV} (h:o < l.length):stC m i o 1 .nils (some (sz,false,l))=some (m.set i (.cells sz false (l.set o .nils))):=by
 rw[← splice_one h];exact if_pos ⟨rfl,by omega,rfl⟩
theorem ldC_somes{o n sz:Nat} {ro:Bool} {l:List AV}:ldC o (some n) (some (sz,ro,l))=if o+n≤l.length then some (.agg ((l.drop o).take n)) else none:=rfl
theorem stC_aggs{m:Mem X} {i o n sz:Nat} {cs l:List AV}:stC m i o n (.agg cs) (some (sz,false,l))=if cs.length=n∧o+n≤l.length∧cs.all AV.one=true then some (m.set i (.cells sz false (splice l o cs))) else none:=rfl
def gcO:Option (Chunk X)→Option (Nat × Bool × List AV)
 | some (.cells sz ro l)=>some (sz,ro,l)
 | _=>none
theorem getC_gcO{m:Mem X} {i:Nat}:getC m i=gcO m[i]?:=by
 simp only[getC,gcO];cases m[i]? with
 | none=>rfl
 | some c=>cases c<;>rfl
theorem gcO_cells{sz:Nat} {ro:Bool} {l:List AV}:gcO (X:=X) (some (.cells sz ro l))=some (sz,ro,l):=rfl
theorem OK_fn{G G':List (Nat × AFun X)} {F:AFn} {vs:List AV} {m:Mem X} {K:AV→Mem X→Prop} {os:List AOper} {Q:List AV→Mem X→Prop} {e:List AV} {dst:Option Nat} {rt:List AV}
  (h:Fn G' F vs m K) (k:∀ v m',K v m'→WO G os Q (putL e dst v) (rt++[v]) m'):OK G os Q e dst rt (amFunc G' F vs m):=by
 obtain⟨v,m',h1,h2⟩:=h
 exact⟨v,m',h1,k v m' h2⟩
theorem W_scope(G:List (Nat × AFun X)) (b:AC) (Q:AX→List AV→Mem X→Prop) (e:List AV) (m:Mem X):W G (.scope b) Q e m=W G b Q e m:=rfl
theorem ev_clear(G:List (Nat × AFun X)) (sz:Nat) (z:List AV) (x:AV) (m:Mem X):amOp G (.clear sz z) [x] m=match clearA sz z x m with|some m'=>some (.skip,m')|none=>none:=rfl
theorem Fn_eq{G:List (Nat × AFun X)} {F:AFn} {vs:List AV} {m m1:Mem X} {r:AV} (h:Fn G F vs m (fun v m'=>v=r∧m'=m1)):amFunc G F vs m=some (r,m1):=by
 obtain⟨v,m',h1,rfl,rfl⟩:=h
 exact h1
theorem Fn_mono{G:List (Nat × AFun X)} {F:AFn} {vs:List AV} {m:Mem X} {K K':AV→Mem X→Prop} (h:Fn G F vs m K) (k:∀ v m',K v m'→K' v m'):Fn G F vs m K':=by
 obtain⟨v,m',h1,h2⟩:=h
 exact⟨v,m',h1,k v m' h2⟩
def exitQ(id:Nat) (P:List AV→Mem X→Prop) (Q:AX→List AV→Mem X→Prop):AX→List AV→Mem X→Prop
 | .exit id',e,m=>if id'=id then P e m else Q (.exit id') e m
 | x,e,m=>Q x e m
theorem exitQ_normal{id:Nat} {P:List AV→Mem X→Prop} {Q:AX→List AV→Mem X→Prop} {e:List AV} {m:Mem X}:exitQ id P Q .normal e m=Q .normal e m:=rfl
theorem exitQ_goto{id l:Nat} {P:List AV→Mem X→Prop} {Q:AX→List AV→Mem X→Prop} {e:List AV} {m:Mem X}:exitQ id P Q (.goto l) e m=Q (.goto l) e m:=rfl
theorem exitQ_ret{id:Nat} {P:List AV→Mem X→Prop} {Q:AX→List AV→Mem X→Prop} {e:List AV} {m:Mem X}:exitQ id P Q .ret e m=Q .ret e m:=rfl
theorem exitQ_exit{id id':Nat} {P:List AV→Mem X→Prop} {Q:AX→List AV→Mem X→Prop} {e:List AV} {m:Mem X}:exitQ id P Q (.exit id') e m=if id'=id then P e m else Q (.exit id') e m:=rfl
theorem ek(G:List (Nat × AFun X)) :
  (∀ (Q:List AV→Mem X→Prop) e rt m,WO G [] Q e rt m=Q e m) ∧
  (∀ op args dst os (Q:List AV→Mem X→Prop) e rt m,WO G (⟨op,args,dst,none⟩ :: os) Q e rt m=OK G os Q e dst rt (amOp G op (args.map (getS e rt)) m)) ∧
  (∀ op args dst g os (Q:List AV→Mem X→Prop) e rt m,WO G (⟨op,args,dst,some g⟩ :: os) Q e rt m=GK G op args os Q e dst rt m (wantedA rt (some g))) ∧
  (∀ os Q e dst rt v m,OK G os Q e dst rt (some (v,m))=WO G os Q (putL e dst v) (rt++[v]) m) ∧
  (∀ os Q e dst rt,OK G os Q e dst rt none=False) ∧
  (∀ op args os Q e dst rt m,GK G op args os Q e dst rt m (some true)=OK G os Q e dst rt (amOp G op (args.map (getS e rt)) m)) ∧
  (∀ op args os Q e dst rt m,GK G op args os Q e dst rt m (some false)=WO G os Q (putL e dst .skip) (rt++[.skip]) m) ∧
  (∀ v m,amOp G .mov [v] m=some (v,m)) ∧
  (∀ c a b m,amOp G .pick [.bool c,a,b] m=some (cond c a b,m)) ∧
  (∀ z m,amOp G (.alloc z) [] m=some (.ptr m.length 0,m++[.cells z.length false z])) ∧
  (∀ z ps vs m,amOp G (.build z ps) vs m=match fillA z ps vs with|some cs=>some (.agg cs,m)|none=>none) ∧
  (∀ n i o m,amOp G (.load n) [.ptr i o] m=match loadN m i o n with|some v=>some (v,m)|none=>none) ∧
  (∀ n i o v m,amOp G (.store n) [.ptr i o,v] m=match storeN m i o n v with|some m'=>some (.skip,m')|none=>none) ∧
  (∀ i o m,amOp G .nilc [.ptr i o] m=some (.ptr i o,m)) ∧
  (∀ f a b m,amOp G .nilc [.fn f a b] m=some (.fn f a b,m)) ∧
  (∀ b m,amOp G .not [.bool b] m=some (.bool (!b),m)) ∧
  (∀ k n m,amOp G .neg [.int k n] m=some (.int k (k.wrap (0 - n)),m)) ∧
  (∀ k k' n m,amOp G (.conv k) [.int k' n] m=some (.int k (k.wrap n),m)) ∧
  (∀ op k a b m,amOp G (.bin op) [.int k a,.int k b] m=match binI op k a b with|some v=>some (v,m)|none=>none) ∧
  (∀ op k k' a b m,amOp G (.shf op) [.int k a,.int k' b] m=match shfI op k a b with|some v=>some (v,m)|none=>none) ∧
  (∀ k neg x y m,amOp G (.eqv k neg) [x,y] m=match eqV m k x y with|some b=>some (.bool (xor neg b),m)|none=>none) ∧
  (∀ off i o m,amOp G (.faddr off) [.ptr i o] m=some (.ptr i (o+off),m)) ∧
  (∀ sz i o len c k n m,amOp G (.iaddr sz none) [.sl i o len c,.int k n] m=if 0≤n∧n < len then some (.ptr i (o+n.toNat * sz),m) else none) ∧
  (∀ sz len i o k n m,amOp G (.iaddr sz (some len)) [.ptr i o,.int k n] m=if 0≤n∧n < len then some (.ptr i (o+n.toNat * sz),m) else none) ∧
  (∀ off cs m,amOp G (.field off none) [.agg cs] m=match cs[off]? with|some v=>some (v,m)|none=>none) ∧
  (∀ off n cs m,amOp G (.field off (some n)) [.agg cs] m=if off+n≤cs.length then some (.agg ((cs.drop off).take n),m) else none) ∧
  (∀ i vs m,amOp G (.extract i) [.tup vs] m=match vs[i]? with|some v=>some (v,m)|none=>none) ∧
  (∀ f vs m,amOp G (.call f) vs m=match assoc G f with|some F=>F vs m|none=>none) ∧
  (∀ f a c vs m,amOp G .callv (.fn f a c :: vs) m=match assoc G f with|some F=>F (a++vs++c) m|none=>none) ∧
  (∀ i o len c m,amOp G .len [.sl i o len c] m=some (.int .i64 len,m)) ∧
  (∀ m,amOp G .len [.nils] m=some (.int .i64 0,m)) ∧
  (∀ k a b m,amOp G .min [.int k a,.int k b] m=some (.int k (if b < a then b else a),m)) ∧
  (∀ k a b m,amOp G .max [.int k a,.int k b] m=some (.int k (if b > a then b else a),m)) ∧
  (∀ v m,amOp G .box [v] m=if v.cells.all AV.one=true then some (.ptr m.length 0,m++[.cells v.cells.length false v.cells]) else none) ∧
  (∀ f n vs m,amOp G (.mkfn f n) vs m=if n≤vs.length then some (.fn f (vs.take n) (vs.drop n),m) else none):=by
 refine⟨fun _ _ _ _=>rfl,fun _ _ _ _ _ _ _ _=>by simp only[WO,WG_none,OK],fun _ _ _ _ _ _ _ _ _=>rfl,fun _ _ _ _ _ _ _=>by simp only[OK,OB_some],fun _ _ _ _ _=>by simp only[OK,OB_none],fun _ _ _ _ _ _ _ _=>by simp only[GK,WG_bool,WI_true],fun _ _ _ _ _ _ _ _=>by simp only[GK,WG_bool,WI_false],fun _ _=>rfl,fun _ _ _ _=>rfl,fun _ _=>rfl,?_,fun _ _ _ _=>rfl,fun _ _ _ _ _=>rfl,fun _ _ _=>rfl,fun _ _ _ _=>rfl,fun _ _=>rfl,fun _ _ _=>rfl,
  fun _ _ _ _=>rfl,fun _ _ _ _ _=>by simp only[amOp,if_true]<;>rfl,fun _ _ _ _ _ _=>rfl,fun _ _ _ _ _=>rfl,fun _ _ _ _=>rfl,fun _ _ _ _ _ _ _ _=>rfl,fun _ _ _ _ _ _ _=>rfl,fun _ _ _=>rfl,fun _ _ _ _=>rfl,fun _ _ _=>rfl,?_,
  fun _ _ _ _ _=>rfl,fun _ _ _ _ _=>rfl,fun _=>rfl,fun _ _ _ _=>by simp[amOp,foldI],fun _ _ _ _=>by simp[amOp,foldI],fun _ _=>rfl,?_⟩
 ·intro z ps vs m;cases vs<;>rfl
 ·intro f vs m;cases vs<;>rfl
 ·intro f n vs m;cases vs<;>rfl
theorem GK_of{G:List (Nat × AFun X)} {op:AOp} {args:List Src} {os:List AOper} {Q:List AV→Mem X→Prop} {e:List AV} {dst:Option Nat} {rt:List AV} {m:Mem X} {b:Bool}
  (h1:b=true→GK G op args os Q e dst rt m (some true)) (h2:b=false→GK G op args os Q e dst rt m (some false)):GK G op args os Q e dst rt m (some b):=by cases b<;>simp_all
theorem CW_of{G:List (Nat × AFun X)} {t f:AC} {Q:AX→List AV→Mem X→Prop} {e:List AV} {m:Mem X} {b:Bool} (h1:b=true→W G t Q e m) (h2:b=false→W G f Q e m):CW G t f Q e m (.bool b):=by
 rw[CW_bool];exact WI_of h1 h2
theorem CW_true{G:List (Nat × AFun X)} {t f:AC} {Q:AX→List AV→Mem X→Prop} {e:List AV} {m:Mem X}:CW G t f Q e m (.bool true)=W G t Q e m:=by rw[CW_bool,WI_true]
theorem CW_false{G:List (Nat × AFun X)} {t f:AC} {Q:AX→List AV→Mem X→Prop} {e:List AV} {m:Mem X}:CW G t f Q e m (.bool false)=W G f Q e m:=by rw[CW_bool,WI_false]
theorem condT{b c:Bool}:cond b true c=(b || c):=by cases b<;>rfl
theorem condF{b c:Bool}:cond b c false=(b && c):=by cases b<;>rfl
abbrev Tr(X:Type):=List (Bool × List AV × AV × Mem X)
def FIN(G:List (Nat × AFun X)) (ops:List AOper) (stab:List (Nat × List Nat)) (tr:Tr X) (m:Mem X):Bool:=stabOk G ops tr m stab
def WS(G:List (Nat × AFun X)) (ops:List AOper) (stab:List (Nat × List Nat)) (os:List AOper) (Q:List AV→Mem X→Prop) (e rt:List AV) (m:Mem X) (tr:Tr X):Prop:=WT G (FIN G ops stab) os Q e rt m tr
def OKT(G:List (Nat × AFun X)) (ops:List AOper) (stab:List (Nat × List Nat)) (os:List AOper) (Q:List AV→Mem X→Prop) (e:List AV) (dst:Option Nat) (rt:List AV) (tr:Tr X) (m0:Mem X) (vs:List AV) (x:Option (AV × Mem X)):Prop :=
 OB x fun v m=>WS G ops stab os Q (putL e dst v) (rt++[v]) m (tr++[(true,vs,v,m0)])
def GKT(G:List (Nat × AFun X)) (ops:List AOper) (stab:List (Nat × List Nat)) (op:AOp) (os:List AOper) (Q:List AV→Mem X→Prop) (e:List AV) (dst:Option Nat) (rt:List AV) (tr:Tr X) (m:Mem X) (vs:List AV) (g:Option Bool):Prop :=
 WG g (OKT G ops stab os Q e dst rt tr m vs (amOp G op vs m)) (WS G ops stab os Q (putL e dst .skip) (rt++[.skip]) m (tr++[(false,vs,.skip,m)]))
theorem W_drawS{G:List (Nat × AFun X)} {Q:AX→List AV→Mem X→Prop} {e:List AV} {m:Mem X} {p:List Nat} {k:Nat} {ops:List AOper} {stab:List (Nat × List Nat)} (h:WS G ops stab ops (Q .normal) e ([]++[]) m []):W G (.draw p k ops stab) Q e m:=W_draw h
theorem WT_eq{G:List (Nat × AFun X)} {fin:Tr X→Mem X→Bool}:∀ {ops:List AOper} {Q:List AV→Mem X→Prop} {e rt:List AV} {m:Mem X} {tr:Tr X},(∃ e' m' tr',amOpsT G ops e rt m=some (e',m',tr')∧fin (tr++tr') m'=true∧Q e' m')→WT G fin ops Q e rt m tr
 | [],Q,e,rt,m,tr,h=>by
  obtain⟨e',m',tr',h1,h2,h3⟩:=h
  simp only[amOpsT,Option.some.injEq,Prod.mk.injEq] at h1
  obtain⟨rfl,rfl,rfl⟩:=h1
  exact⟨by simpa using h2,h3⟩
 | o :: os,Q,e,rt,m,tr,h=>by
  obtain⟨e',m',tr',h1,h2,h3⟩:=h
  simp only[amOpsT] at h1
  split at h1
  ·rename_i hw
   split at h1
   ·rename_i v m1 hv
    split at h1
    ·rename_i e1 m2 tr1 ht
     simp only[Option.some.injEq,Prod.mk.injEq] at h1
     obtain⟨rfl,rfl,rfl⟩:=h1
     exact .inl ⟨hw,v,m1,hv,WT_eq ⟨_,_,_,ht,by simpa using h2,h3⟩⟩
    ·cases h1
   ·cases h1
  ·rename_i hw
   split at h1
   ·rename_i e1 m2 tr1 ht
    simp only[Option.some.injEq,Prod.mk.injEq] at h1
    obtain⟨rfl,rfl,rfl⟩:=h1
    exact .inr ⟨hw,WT_eq ⟨_,_,_,ht,by simpa using h2,h3⟩⟩
   ·cases h1
  ·cases h1
theorem W_draw_eq(G:List (Nat × AFun X)) (p:List Nat) (k:Nat) (ops:List AOper) (stab:List (Nat × List Nat)) (Q:AX→List AV→Mem X→Prop) (e:List AV) (m:Mem X):W G (.draw p k ops stab) Q e m=WS G ops stab ops (Q .normal) e ([]++[]) m []:=by
 refine propext ⟨?_,W_drawS⟩
 rintro⟨x,e',m',h,hq⟩
 simp only[am] at h
 split at h
 ·rename_i e1 m1 tr h1
  split at h
  ·rename_i hs
   simp only[Option.some.injEq,Prod.mk.injEq] at h
   obtain⟨rfl,rfl,rfl⟩:=h
   exact WT_eq ⟨_,_,_,h1,by simpa [FIN] using hs,hq⟩
  ·cases h
 ·cases h
theorem OKT_fn{G G':List (Nat × AFun X)} {ops:List AOper} {stab:List (Nat × List Nat)} {F:AFn} {us vs:List AV} {m m0:Mem X} {K:AV→Mem X→Prop} {os:List AOper} {Q:List AV→Mem X→Prop} {e:List AV} {dst:Option Nat} {rt:List AV} {tr:Tr X}
  (h:Fn G' F vs m K) (k:∀ v m',K v m'→WS G ops stab os Q (putL e dst v) (rt++[v]) m' (tr++[(true,us,v,m0)])):OKT G ops stab os Q e dst rt tr m0 us (amFunc G' F vs m):=by
 obtain⟨v,m',h1,h2⟩:=h
 exact⟨v,m',h1,k v m' h2⟩
theorem evT(G:List (Nat × AFun X)) :
  (∀ ops stab (Q:List AV→Mem X→Prop) e rt m tr,WS G ops stab [] Q e rt m tr=(FIN G ops stab tr m=true∧Q e m)) ∧
  (∀ ops stab op args dst os (Q:List AV→Mem X→Prop) e rt m tr,WS G ops stab (⟨op,args,dst,none⟩ :: os) Q e rt m tr=OKT G ops stab os Q e dst rt tr m (args.map (getS e rt)) (amOp G op (args.map (getS e rt)) m)) ∧
  (∀ ops stab op args dst g os (Q:List AV→Mem X→Prop) e rt m tr,WS G ops stab (⟨op,args,dst,some g⟩ :: os) Q e rt m tr=GKT G ops stab op os Q e dst rt tr m (args.map (getS e rt)) (wantedA rt (some g))) ∧
  (∀ ops stab os Q e dst rt tr m0 vs v m,OKT G ops stab os Q e dst rt tr m0 vs (some (v,m))=WS G ops stab os Q (putL e dst v) (rt++[v]) m (tr++[(true,vs,v,m0)])) ∧
  (∀ ops stab os Q e dst rt tr m0 vs,OKT G ops stab os Q e dst rt tr m0 vs none=False) ∧
  (∀ ops stab op os Q e dst rt tr m vs,GKT G ops stab op os Q e dst rt tr m vs (some true)=OKT G ops stab os Q e dst rt tr m vs (amOp G op vs m)) ∧
  (∀ ops stab op os Q e dst rt tr m vs,GKT G ops stab op os Q e dst rt tr m vs (some false)=WS G ops stab os Q (putL e dst .skip) (rt++[.skip]) m (tr++[(false,vs,.skip,m)])):=by
 refine⟨fun _ _ _ _ _ _ _=>rfl,fun _ _ _ _ _ _ _ _ _ _ _=>by simp only[WS,WT,WG_none,OKT],fun _ _ _ _ _ _ _ _ _ _ _ _=>rfl,fun _ _ _ _ _ _ _ _ _ _ _ _=>by simp only[OKT,OB_some],fun _ _ _ _ _ _ _ _ _ _=>by simp only[OKT,OB_none],fun _ _ _ _ _ _ _ _ _ _ _=>by simp only[GKT,WG_bool,WI_true],fun _ _ _ _ _ _ _ _ _ _ _=>by simp only[GKT,WG_bool,WI_false]⟩
theorem GKT_of{G:List (Nat × AFun X)} {ops:List AOper} {stab:List (Nat × List Nat)} {op:AOp} {os:List AOper} {Q:List AV→Mem X→Prop} {e:List AV} {dst:Option Nat} {rt:List AV} {tr:Tr X} {m:Mem X} {vs:List AV} {b:Bool}
  (h1:b=true→GKT G ops stab op os Q e dst rt tr m vs (some true)) (h2:b=false→GKT G ops stab op os Q e dst rt tr m vs (some false)):GKT G ops stab op os Q e dst rt tr m vs (some b):=by cases b<;>simp_all
mutual
theorem beq_self:∀ v:AV,AV.beq v v=true
 | .undef=>rfl
 | .bool b=>by cases b<;>rfl
 | .int k n=>by simp[AV.beq]
 | .str s=>by simp[AV.beq]
 | .nilp=>rfl
 | .ptr i o=>by simp[AV.beq]
 | .nils=>rfl
 | .mt=>rfl
 | .yld l=>by simp[AV.beq]
 | .sl i o n c=>by simp[AV.beq]
 | .nilm=>rfl
 | .map i=>by simp[AV.beq]
 | .nilf=>rfl
 | .fn f a b=>by simp[AV.beq,beqL_self a,beqL_self b]
 | .agg a=>by simp[AV.beq,beqL_self a]
 | .tup a=>by simp[AV.beq,beqL_self a]
theorem beqL_self:∀ vs:List AV,AV.beqL vs vs=true
 | []=>rfl
 | v :: vs=>by simp[AV.beqL,beq_self v,beqL_self vs]
end

def saA(z:List AV):Option (Nat × Bool × List AV)→Bool
 | some (sz,false,l)=>decide (sz=z.length) && AV.beqL l z
 | _=>false
def saO(v:AV):Option (AV × Mem X)→Bool
 | some (v',_)=>AV.beq v' v
 | none=>false
theorem saA_self{sz:Nat} {z:List AV} (h:sz=z.length):saA z (some (sz,false,z))=true:=by simp[saA,h,beqL_self]
theorem saO_self{v:AV} {m:Mem X}:saO v (some (v,m))=true:=beq_self v
theorem evF(G:List (Nat × AFun X)) :
  (∀ ops stab tr m,FIN G ops stab tr m=stabOk G ops tr m stab) ∧
  (∀ ops tr (m:Mem X),stabOk G ops tr m []=true) ∧
  (∀ z t vs i o m0 m,sameAt G (.alloc z) (t,vs,.ptr i o,m0) m=saA z (getC m i)) ∧
  (∀ n vs v m0 m,sameAt G (.load n) (true,vs,v,m0) m=saO v (amOp G (.load n) vs m)) ∧
  (∀ n vs v m0 m,sameAt G (.load n) (false,vs,v,m0) m=true) ∧
  (∀ k b vs v m0 m,sameAt G (.eqv k b) (true,vs,v,m0) m=saO v (amOp G (.eqv k b) vs m)) ∧
  (∀ k b vs v m0 m,sameAt G (.eqv k b) (false,vs,v,m0) m=true) ∧
  (∀ a b c d vs v m0 m,sameAt G (.slice a b c d) (true,vs,v,m0) m=saO v (amOp G (.slice a b c d) vs m)) ∧
  (∀ a b c d vs v m0 m,sameAt G (.slice a b c d) (false,vs,v,m0) m=true) ∧
  (∀ a b vs v m0 m,sameAt G (.mget a b) (true,vs,v,m0) m=saO v (amOp G (.mget a b) vs m)) ∧
  (∀ a b vs v m0 m,sameAt G (.mget a b) (false,vs,v,m0) m=true) ∧
  (∀ vs v m0 m,sameAt G .mlen (true,vs,v,m0) m=saO v (amOp G .mlen vs m)) ∧
  (∀ vs v m0 m,sameAt G .mlen (false,vs,v,m0) m=true):=by
 refine⟨fun _ _ _ _=>rfl,fun _ _ _=>rfl,fun z t vs i o m0 m=>?_,fun _ _ _ _ _=>rfl,fun _ _ _ _ _=>rfl,fun _ _ _ _ _ _=>rfl,fun _ _ _ _ _ _=>rfl,fun _ _ _ _ _ _ _ _=>rfl,fun _ _ _ _ _ _ _ _=>rfl,fun _ _ _ _ _ _=>rfl,fun _ _ _ _ _ _=>rfl,fun _ _ _ _=>rfl,fun _ _ _ _=>rfl⟩
 simp only[sameAt]
 cases getC m i with
 | none=>cases t<;>rfl
 | some x=>obtain⟨sz,ro,l⟩:=x;cases ro<;>cases t<;>rfl
def stOne(G:List (Nat × AFun X)) (m:Mem X) (tr:Tr X) (cs:List Nat) (o:Option AOper) (e:Option (Bool × List AV × AV × Mem X)):Bool :=
 match o,e with
 | some o,some e=>cs.all fun c=>sameAt G o.op e (memAt tr m c)
 | _,_=>false
def atC(G:List (Nat × AFun X)) (op:AOp) (e:Bool × List AV × AV × Mem X) (m:Mem X) (tr:Tr X):List Nat→Bool
 | []=>true
 | c :: cs=>sameAt G op e (memAt tr m c) && atC G op e m tr cs
theorem atC_eq{G:List (Nat × AFun X)} {op:AOp} {e:Bool × List AV × AV × Mem X} {m:Mem X} {tr:Tr X}:∀ {cs:List Nat},(cs.all fun c=>sameAt G op e (memAt tr m c))=atC G op e m tr cs
 | []=>rfl
 | c :: cs=>by simp only[List.all_cons,atC,atC_eq (cs:=cs)]
def mAt(m:Mem X):Option (Bool × List AV × AV × Mem X)→Mem X
 | some (_,_,_,m')=>m'
 | none=>m
theorem evX(G:List (Nat × AFun X)) :
  (∀ ops tr (m:Mem X) k cs stab,stabOk G ops tr m ((k,cs) :: stab)=(stOne G m tr cs ops[k]? tr[k]? && stabOk G ops tr m stab)) ∧
  (∀ m tr cs op as d g e,stOne G m tr cs (some ⟨op,as,d,g⟩) (some e)=atC G op e m tr cs) ∧
  (∀ op e m tr,atC G op e m tr []=true) ∧
  (∀ op e m tr c cs,atC G op e m tr (c :: cs)=(sameAt G op e (memAt tr m c) && atC G op e m tr cs)) :=
 ⟨fun _ _ _ _ _ _=>rfl,fun _ _ _ _ _ _ _ _=>atC_eq,fun _ _ _ _=>rfl,fun _ _ _ _ _ _=>rfl⟩
theorem evM :
  (∀ (tr:Tr X) (m:Mem X) c,memAt tr m c=mAt m tr[c]?) ∧
  (∀ (m:Mem X) a b c d,mAt m (some (a,b,c,d))=d) ∧
  (∀ (m:Mem X),mAt m none=m):=by
 refine⟨fun tr m c=>?_,fun _ _ _ _ _=>rfl,fun _=>rfl⟩
 simp only[memAt,mAt];cases tr[c]?<;>rfl
theorem evA(G:List (Nat × AFun X)) :
  (∀ sz bytes s x m,amOp G (.append sz bytes) [s,x] m=appendA sz bytes s x m) ∧
  (∀ n sz z ps vs m,amOp G (.lit n sz z ps) vs m=match fillA (repeatL n z) ps vs with
   | some cs=>if cs.all AV.one=true then some (.sl m.length 0 n (some n),m++[.cells sz false cs]) else none
   | none=>none) ∧
  (∀ sz x m,amOp G (.slice sz false false false) [x] m=match sliceA m sz x none none none with|some v=>some (v,m)|none=>none) ∧
  (∀ sz x k n m,amOp G (.slice sz true false false) [x,.int k n] m=if 0≤n then(match sliceA m sz x (some n.toNat) none none with|some v=>some (v,m)|none=>none) else none) ∧
  (∀ sz x k n m,amOp G (.slice sz false true false) [x,.int k n] m=if 0≤n then(match sliceA m sz x none (some n.toNat) none with|some v=>some (v,m)|none=>none) else none) ∧
  (∀ sz x k n k' n' m,amOp G (.slice sz true true false) [x,.int k n,.int k' n'] m=if 0≤n then(if 0≤n' then(match sliceA m sz x (some n.toNat) (some n'.toNat) none with|some v=>some (v,m)|none=>none) else none) else none):=by
 refine⟨fun _ _ _ _ _=>rfl,fun n sz z ps vs m=>?_,fun _ _ _=>rfl,fun sz x k n m=>?_,fun sz x k n m=>?_,fun sz x k n k' n' m=>?_⟩
 ·cases vs<;>rfl
 ·by_cases h:0≤n
  ·simp[amOp,optN,h];cases sliceA m sz x (some n.toNat) none none<;>rfl
  ·simp[amOp,optN,h]
 ·by_cases h:0≤n
  ·simp[amOp,optN,h];cases sliceA m sz x none (some n.toNat) none<;>rfl
  ·simp[amOp,optN,h]
 ·by_cases h:0≤n
  ·by_cases h':0≤n'
   ·simp[amOp,optN,h,h'];cases sliceA m sz x (some n.toNat) (some n'.toNat) none<;>rfl
   ·simp[amOp,optN,h,h']
  ·simp[amOp,optN,h]
end
end Go.Am
end
section
namespace Go.Am
theorem get_at{α:Type} {l k:List α} {n i:Nat} (h:l.length=n):(l++k)[n+i]?=k[i]?:=by rw[← h];exact get_mid
theorem get_at0{α:Type} {l k:List α} {n:Nat} (h:l.length=n):(l++k)[n]?=k[0]?:=by rw[← h];exact get_mid0
theorem set_at{α:Type} {l k:List α} {n i:Nat} {y:α} (h:l.length=n):(l++k).set (n+i) y=l++k.set i y:=by rw[← h];exact set_mid
theorem set_at0{α:Type} {l k:List α} {n:Nat} {y:α} (h:l.length=n):(l++k).set n y=l++k.set 0 y:=by rw[← h];exact set_mid0
theorem zk:type_of% (And.intro (And.intro (And.intro (And.intro (And.intro (And.intro @ek @evB) (And.intro @evS @evL)) (And.intro (And.intro @Bool.and_true @Bool.true_and) (And.intro @if_true.{1} (And.intro @CW_true @CW_false)))) (And.intro (And.intro (And.intro @condT @condF) (And.intro @RQ_some (And.intro @tupA_one @tupA_two))) (And.intro (And.intro @tupA_nil @Nat.zero_add) (And.intro @Nat.add_zero (And.intro @and_self @and_true))))) (And.intro (And.intro (And.intro (And.intro @true_and @Nat.le_refl) (And.intro @Bool.not_true (And.intro @Bool.not_false @Bool.false_xor))) (And.intro (And.intro @Bool.true_xor @cond_true.{1}) (And.intro @cond_false.{1} (And.intro @if_false.{1} @ne_eq.{1})))) (And.intro (And.intro (And.intro @decide_not @decide_true) (And.intro @decide_false (And.intro @not_true_eq_false @not_false_eq_true))) (And.intro (And.intro @cond_bool @cond_int) (And.intro @beq_self_eq_true.{0} (And.intro @Bool.and_self @Bool.and_false)))))) (And.intro (And.intro (And.intro (And.intro (And.intro @Bool.false_and @Bool.xor_false) (And.intro @Bool.xor_true (And.intro @loadN_ldC @ldC_none))) (And.intro (And.intro @ldC_somes @stC_aggs) (And.intro @storeN_stC (And.intro @stC_int @stC_bool)))) (And.intro (And.intro (And.intro @stC_ptr @stC_nilp) (And.intro @stC_sl (And.intro @stC_nils @getC_gcO))) (And.intro (And.intro @gcO_cells @W_draw_eq) (And.intro @ev_clear (And.intro @evT @evF))))) (And.intro (And.intro (And.intro (And.intro @evX @evM) (And.intro @saA_self (And.intro @saO_self @if_pos.{1}))) (And.intro (And.intro @if_neg.{1} @wrapI) (And.intro @get_concat (And.intro @set_concat @Int.toNat_natCast)))) (And.intro (And.intro (And.intro @Int.toNat_zero @List.nil_append.{0}) (And.intro @Nat.mul_one (And.intro @decide_eq_true @decide_eq_false))) (And.intro (And.intro @Bool.false_or @Bool.true_or) (And.intro @Bool.or_false (And.intro @Bool.or_true @wrapU))))))):=(And.intro (And.intro (And.intro (And.intro (And.intro (And.intro @ek @evB) (And.intro @evS @evL)) (And.intro (And.intro @Bool.and_true @Bool.true_and) (And.intro @if_true.{1} (And.intro @CW_true @CW_false)))) (And.intro (And.intro (And.intro @condT @condF) (And.intro @RQ_some (And.intro @tupA_one @tupA_two))) (And.intro (And.intro @tupA_nil @Nat.zero_add) (And.intro @Nat.add_zero (And.intro @and_self @and_true))))) (And.intro (And.intro (And.intro (And.intro @true_and @Nat.le_refl) (And.intro @Bool.not_true (And.intro @Bool.not_false @Bool.false_xor))) (And.intro (And.intro @Bool.true_xor @cond_true.{1}) (And.intro @cond_false.{1} (And.intro @if_false.{1} @ne_eq.{1})))) (And.intro (And.intro (And.intro @decide_not @decide_true) (And.intro @decide_false (And.intro @not_true_eq_false @not_false_eq_true))) (And.intro (And.intro @cond_bool @cond_int) (And.intro @beq_self_eq_true.{0} (And.intro @Bool.and_self @Bool.and_false)))))) (And.intro (And.intro (And.intro (And.intro (And.intro @Bool.false_and @Bool.xor_false) (And.intro @Bool.xor_true (And.intro @loadN_ldC @ldC_none))) (And.intro (And.intro @ldC_somes @stC_aggs) (And.intro @storeN_stC (And.intro @stC_int @stC_bool)))) (And.intro (And.intro (And.intro @stC_ptr @stC_nilp) (And.intro @stC_sl (And.intro @stC_nils @getC_gcO))) (And.intro (And.intro @gcO_cells @W_draw_eq) (And.intro @ev_clear (And.intro @evT @evF))))) (And.intro (And.intro (And.intro (And.intro @evX @evM) (And.intro @saA_self (And.intro @saO_self @if_pos.{1}))) (And.intro (And.intro @if_neg.{1} @wrapI) (And.intro @get_concat (And.intro @set_concat @Int.toNat_natCast)))) (And.intro (And.intro (And.intro @Int.toNat_zero @List.nil_append.{0}) (And.intro @Nat.mul_one (And.intro @decide_eq_true @decide_eq_false))) (And.intro (And.intro @Bool.false_or @Bool.true_or) (And.intro @Bool.or_false (And.intro @Bool.or_true @wrapU)))))))
theorem zd:type_of% (And.intro (And.intro (And.intro (And.intro @evW (And.intro @evQ @thenQ_normal)) (And.intro @thenQ_exit (And.intro @thenQ_ret @blockQ_normal))) (And.intro (And.intro @blockQ_ret (And.intro @blockQ_exit @CW_true)) (And.intro (And.intro @CW_false @W_scope) (And.intro @exitQ_normal @exitQ_ret)))) (And.intro (And.intro (And.intro @exitQ_exit (And.intro @W_goto @W_scopeg)) (And.intro @thenQ_goto (And.intro @blockQ_goto @exitQ_goto))) (And.intro (And.intro @jumpQ_normal (And.intro @jumpQ_ret @jumpQ_exit)) (And.intro (And.intro @jumpQ_goto @noG_normal) (And.intro @noG_ret @noG_exit))))):=(And.intro (And.intro (And.intro (And.intro @evW (And.intro @evQ @thenQ_normal)) (And.intro @thenQ_exit (And.intro @thenQ_ret @blockQ_normal))) (And.intro (And.intro @blockQ_ret (And.intro @blockQ_exit @CW_true)) (And.intro (And.intro @CW_false @W_scope) (And.intro @exitQ_normal @exitQ_ret)))) (And.intro (And.intro (And.intro @exitQ_exit (And.intro @W_goto @W_scopeg)) (And.intro @thenQ_goto (And.intro @blockQ_goto @exitQ_goto))) (And.intro (And.intro @jumpQ_normal (And.intro @jumpQ_ret @jumpQ_exit)) (And.intro (And.intro @jumpQ_goto @noG_normal) (And.intro @noG_ret @noG_exit)))))
theorem zm:type_of% (And.intro (And.intro @List.append_assoc.{0} (And.intro @List.length_append.{0} @get_mid)) (And.intro @get_mid0 (And.intro @set_mid @set_mid0))):=(And.intro (And.intro @List.append_assoc.{0} (And.intro @List.length_append.{0} @get_mid)) (And.intro @get_mid0 (And.intro @set_mid @set_mid0)))
theorem zg:type_of% (And.intro (And.intro (And.intro @List.length_set.{0} (And.intro @List.length_cons.{0} @List.length_nil.{0})) (And.intro @List.cons_append.{0} (And.intro @List.getElem?_append_left.{0} @List.set_append_left.{0}))) (And.intro (And.intro @get_at (And.intro @get_at0 @set_at)) (And.intro @set_at0 (And.intro @List.getElem?_set_self.{0} @List.getElem?_set_ne.{0})))):=(And.intro (And.intro (And.intro @List.length_set.{0} (And.intro @List.length_cons.{0} @List.length_nil.{0})) (And.intro @List.cons_append.{0} (And.intro @List.getElem?_append_left.{0} @List.set_append_left.{0}))) (And.intro (And.intro @get_at (And.intro @get_at0 @set_at)) (And.intro @set_at0 (And.intro @List.getElem?_set_self.{0} @List.getElem?_set_ne.{0}))))
theorem zl:type_of% (And.intro (And.intro @List.length_cons.{0} @List.length_nil.{0}) (And.intro @List.length_set.{0} @List.length_append.{0})):=(And.intro (And.intro @List.length_cons.{0} @List.length_nil.{0}) (And.intro @List.length_set.{0} @List.length_append.{0}))
theorem zn:type_of% (And.intro (And.intro @get_mid (And.intro @get_mid0 @List.cons_append.{0})) (And.intro @List.append_assoc.{0} (And.intro @List.getElem?_cons_zero.{0} @List.getElem?_cons_succ.{0}))):=(And.intro (And.intro @get_mid (And.intro @get_mid0 @List.cons_append.{0})) (And.intro @List.append_assoc.{0} (And.intro @List.getElem?_cons_zero.{0} @List.getElem?_cons_succ.{0})))
end Go.Am
end
