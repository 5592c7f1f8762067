import Derived.Test.YtaglnjaenigkaaaXG12
import Derived.ProofKit
set_option linter.unusedSimpArgs false
set_option linter.unusedVariables false
section
namespace Go.Am
open Go.ChangeShapes Go.WideShapes Go.ChangeAt Go.RowKit
section
variable {H:Type} {enc:TypeId × Value→H} {P:Program}
theorem trodAll_below(hl:laidOutB P=true) {W W':World} (hb:Below W.heap.size W W'):∀ {ts:List TypeId} {vs:List Value} {ds:List (DataW H)} {p:List MemPlace},
  (∀ t,t ∈ ts→P.readableRec t=true∧t < P.types.size)→DataW.TrodAll enc P W 0 (fun _=>true) true ts vs ds p→(∀ x,x ∈ p→x.block < W.heap.size) →
  DataW.TrodAll enc P W' 0 (fun b=>decide (b < W.heap.size)) true ts vs ds p
 | [],vs,ds,p,_,h,_=>by
  obtain⟨rfl,rfl,rfl⟩:=trodAll_nil h
  exact rfl
 | t :: ts,vs,ds,p,ht,h,hp=>by
  obtain⟨v,vs',d,ds',p1,q1,rfl,rfl,rfl,h1,h2⟩:=trodAll_cons h
  have:=ht t (by simp)
  exact⟨p1,q1,Below.trod hl this.1 this.2 h1 hb (fun x hx=>hp x (by simp[hx])),trodAll_below hl hb (fun t h=>ht t (by simp[h])) h2 (fun x hx=>hp x (by simp[hx])),rfl⟩
theorem law_post{f:Func} {s:ChangeSpec} {W W':World} {args:Array Value} {ds gs:List (DataW H)} {before:List MemPlace} {tb:TypeId} (hW:DataW.Whole enc P f.params.toList s.vars false W args.toList ds gs before)
  (hvars:s.vars=[]) (hfn:(s.fn H (ds++gs))={ results:=[.lit (.bool true)],args:=ds }) (hres:f.resultTypes=#[tb]) (htb:P.underlying tb=some .bool) (hl:laidOutB P=true)
  (hr:∀ t,t ∈ f.params.toList→P.readableRec t=true∧t < P.types.size) (hb:Below W.heap.size W W'):s.post enc P f false true false false W args (.bool true) W':=by
 have hlt:∀ p ∈ before,p.block < W.heap.size:=fun p hp=>by simpa using hW.lt p hp
 have hW':=hW
 obtain⟨p,q,hA,hV,rfl,_,_⟩:=hW
 rw[hvars] at hV
 obtain⟨rfl,rfl⟩:=trodVars_none hV
 refine⟨ds,[],p++[],[],p,[],hW',?_,?_,?_,Below.frame hb _,fun h=>by cases h⟩
 ·rw[hfn,hres]
  exact trodAll_mk1 (shut_bool htb true)
 ·rw[hfn]
  exact trodAll_below hl hb hr hA (fun x hx=>hlt x (by simp[hx]))
 ·rw[hvars,hfn];rfl
end
section
variable {X:Type} {A:AbsSem X} {num:Nat→Nat} {P:Program}
theorem law_calls{k:FuncId} {f:AFun X} (hf:Sound A num P k f) {μ:Mu} {m:Mem X} {W:World} {args:List AV} {vs:List Value} {m':Mem X} (hS:Sim A num (fun _=>False) μ m W.heap) (hV:VRL num μ args vs) (h:f args m=some (.bool true,m')) :
  Calls P k vs.toArray W fun e W'=>e = .returned (.bool true)∧Below W.heap.size W W':=by
 refine(hf _ μ m W args vs _ m' hS hV h).mono fun e W' ⟨F',μ',cv,he,hv,_,hE⟩=>?_
 subst he
 cases hv
 exact⟨rfl,hE.os,hE.tape,hE.output,hE.size,fun c hc=>hE.keep c hc (fun h=>h)⟩
theorem sim_nil(H:Array Obj):Sim A num (fun _=>False) (fun _=>none) ([]:Mem X) H :=
 ⟨fun _=>none,⟨fun c i h=>(by cases h),fun c h=>False.elim h,fun _ _=>rfl,fun i c p h=>(by simp at h)⟩⟩
theorem known_nil:Known A num P ([]:List (Nat × AFun X)):=fun g f h=>by cases h
theorem known_cons{G:List (Nat × AFun X)} {g:Nat} {f:AFun X} (hc:callOk P (num g)=true) (hs:Sound A num P (num g) f) (hm:Mono f) (hG:Known A num P G):Known A num P ((g,f) :: G):=by
 intro g' f' h
 simp only[assoc] at h
 split at h
 ·rename_i he;subst he;injection h with h;subst h;exact⟨hc,hs,hm⟩
 ·exact hG g' f' h
end
end Go.Am
end
section
namespace Go.Am
section
variable {X:Type} {G:List (Nat × AFun X)}
def OB(x:Option (AV × Mem X)) (K:AV→Mem X→Prop):Prop:=∃ v m,x=some (v,m)∧K v m
theorem OB_some{v:AV} {m:Mem X} {K:AV→Mem X→Prop}:OB (some (v,m)) K=K v m:=by
 apply propext
 constructor
 ·rintro⟨v',m',h,hk⟩
  simp only[Option.some.injEq,Prod.mk.injEq] at h
  obtain⟨rfl,rfl⟩:=h
  exact hk
 ·intro h;exact⟨v,m,rfl,h⟩
theorem OB_none{K:AV→Mem X→Prop}:OB none K=False:=by simp[OB]
def WG(x:Option Bool) (K1 K2:Prop):Prop:=(x=some true∧K1)∨(x=some false∧K2)
theorem WG_none{j:List AV} {K1 K2:Prop}:WG (wantedA j none) K1 K2=K1:=by simp[WG,wantedA]
def WO(G:List (Nat × AFun X)):List AOper→(List AV→Mem X→Prop)→List AV→List AV→Mem X→Prop
 | [],Q,e,_,m=>Q e m
 | o :: os,Q,e,rt,m=>WG (wantedA rt o.guard) (OB (amOp G o.op (o.args.map (getS e rt)) m) fun v m'=>WO G os Q (putL e o.dst v) (rt++[v]) m')
   (WO G os Q (putL e o.dst .skip) (rt++[.skip]) m)
theorem WO_out:∀ {ops:List AOper} {Q:List AV→Mem X→Prop} {e rt:List AV} {m:Mem X},WO G ops Q e rt m→∃ e' m',amOps G ops e rt m=some (e',m')∧Q e' m'
 | [],Q,e,rt,m,h=>⟨e,m,rfl,h⟩
 | o :: os,Q,e,rt,m,h=>by
  unfold WO at h
  rcases h with⟨h1,v,m',h2,h3⟩|⟨h1,h3⟩
  ·obtain⟨e',m'',h4,h5⟩:=WO_out h3
   exact⟨e',m'',by simp only[amOps,h1,h2,h4],h5⟩
  ·obtain⟨e',m'',h4,h5⟩:=WO_out h3
   exact⟨e',m'',by simp only[amOps,h1,h4],h5⟩
def WT(G:List (Nat × AFun X)) (fin:List (Bool × List AV × AV × Mem X)→Mem X→Bool):List AOper→(List AV→Mem X→Prop)→List AV→List AV→Mem X→List (Bool × List AV × AV × Mem X)→Prop
 | [],Q,e,_,m,tr=>fin tr m=true∧Q e m
 | o :: os,Q,e,rt,m,tr=>WG (wantedA rt o.guard) (OB (amOp G o.op (o.args.map (getS e rt)) m) fun v m'=>WT G fin os Q (putL e o.dst v) (rt++[v]) m' (tr++[(true,o.args.map (getS e rt),v,m)]))
   (WT G fin os Q (putL e o.dst .skip) (rt++[.skip]) m (tr++[(false,o.args.map (getS e rt),.skip,m)]))
theorem WT_out{fin:List (Bool × List AV × AV × Mem X)→Mem X→Bool}:∀ {ops:List AOper} {Q:List AV→Mem X→Prop} {e rt:List AV} {m:Mem X} {tr:List (Bool × List AV × AV × Mem X)},WT G fin ops Q e rt m tr →
  ∃ e' m' tr',amOpsT G ops e rt m=some (e',m',tr')∧fin (tr++tr') m'=true∧Q e' m'
 | [],Q,e,rt,m,tr,h=>⟨e,m,[],rfl,by simpa using h.1,h.2⟩
 | o :: os,Q,e,rt,m,tr,h=>by
  unfold WT at h
  rcases h with⟨h1,v,m',h2,h3⟩|⟨h1,h3⟩
  ·obtain⟨e',m'',tr',h4,h5,h6⟩:=WT_out h3
   exact⟨e',m'',(true,o.args.map (getS e rt),v,m) :: tr',by simp only[amOpsT,h1,h2,h4],by simpa using h5,h6⟩
  ·obtain⟨e',m'',tr',h4,h5,h6⟩:=WT_out h3
   exact⟨e',m'',(false,o.args.map (getS e rt),.skip,m) :: tr',by simp only[amOpsT,h1,h4],by simpa using h5,h6⟩
def W(G:List (Nat × AFun X)) (c:AC) (Q:AX→List AV→Mem X→Prop) (e:List AV) (m:Mem X):Prop:=∃ x e' m',am G c e m=some (x,e',m')∧Q x e' m'
variable {Q:AX→List AV→Mem X→Prop} {e:List AV} {m:Mem X}
theorem W_skip:W G .skip Q e m=Q .normal e m:=by
 apply propext
 constructor
 ·rintro⟨x,e',m',h,hk⟩
  simp only[am,Option.some.injEq,Prod.mk.injEq] at h
  obtain⟨rfl,rfl,rfl⟩:=h
  exact hk
 ·intro h;exact⟨_,_,_,rfl,h⟩
theorem W_exit{id:Nat}:W G (.exit id) Q e m=Q (.exit id) e m:=by
 apply propext
 constructor
 ·rintro⟨x,e',m',h,hk⟩
  simp only[am,Option.some.injEq,Prod.mk.injEq] at h
  obtain⟨rfl,rfl,rfl⟩:=h
  exact hk
 ·intro h;exact⟨_,_,_,rfl,h⟩
theorem W_ret:W G .ret Q e m=Q .ret e m:=by
 apply propext
 constructor
 ·rintro⟨x,e',m',h,hk⟩
  simp only[am,Option.some.injEq,Prod.mk.injEq] at h
  obtain⟨rfl,rfl,rfl⟩:=h
  exact hk
 ·intro h;exact⟨_,_,_,rfl,h⟩
theorem W_goto{l:Nat}:W G (.goto l) Q e m=Q (.goto l) e m:=by
 apply propext
 constructor
 ·rintro⟨x,e',m',h,hk⟩
  simp only[am,Option.some.injEq,Prod.mk.injEq] at h
  obtain⟨rfl,rfl,rfl⟩:=h
  exact hk
 ·intro h;exact⟨_,_,_,rfl,h⟩
def jumpQ(l:Nat) (K:List AV→Mem X→Prop) (Q:AX→List AV→Mem X→Prop):AX→List AV→Mem X→Prop
 | .goto l',e,m=>l'=l∧K e m
 | x,e,m=>Q x e m
def noG(Q:AX→List AV→Mem X→Prop):AX→List AV→Mem X→Prop
 | .goto _,_,_=>False
 | x,e,m=>Q x e m
theorem jumpQ_normal{l:Nat} {K:List AV→Mem X→Prop}:jumpQ l K Q .normal e m=Q .normal e m:=rfl
theorem jumpQ_ret{l:Nat} {K:List AV→Mem X→Prop}:jumpQ l K Q .ret e m=Q .ret e m:=rfl
theorem jumpQ_exit{l id:Nat} {K:List AV→Mem X→Prop}:jumpQ l K Q (.exit id) e m=Q (.exit id) e m:=rfl
theorem jumpQ_goto{l:Nat} {K:List AV→Mem X→Prop}:jumpQ l K Q (.goto l) e m=K e m:=by simp[jumpQ]
theorem noG_normal:noG Q .normal e m=Q .normal e m:=rfl
theorem noG_ret:noG Q .ret e m=Q .ret e m:=rfl
theorem noG_exit{id:Nat}:noG Q (.exit id) e m=Q (.exit id) e m:=rfl
theorem W_scopeg{l:Nat} {r b:AC}:W G (.scopeg l r b) Q e m=W G b (jumpQ l (W G r (noG Q)) Q) e m:=by
 apply propext
 constructor
 ·rintro⟨x,e',m',h,hk⟩
  simp only[am] at h
  split at h
  ·rename_i l' e1 m1 h1
   split at h
   ·rename_i hll
    subst hll
    split at h
    ·cases h
    ·rename_i hne
     refine⟨_,_,_,h1,rfl,x,e',m',h,?_⟩
     cases x with
     | goto l2=>exact absurd h (hne _ _ _)
     | normal=>exact hk
     | exit id=>exact hk
     | ret=>exact hk
   ·cases h
  ·rename_i hne
   refine⟨x,e',m',h,?_⟩
   cases x with
   | goto l2=>exact absurd h (hne _ _ _)
   | normal=>exact hk
   | exit id=>exact hk
   | ret=>exact hk
 ·rintro⟨x,e',m',h,hk⟩
  cases x with
  | goto l2 =>
   obtain⟨rfl,y,e2,m2,h2,hk2⟩:=hk
   cases y with
   | goto l3=>cases hk2
   | normal=>exact⟨_,e2,m2,by simp only[am,h,h2,if_true],hk2⟩
   | exit id=>exact⟨_,e2,m2,by simp only[am,h,h2,if_true],hk2⟩
   | ret=>exact⟨_,e2,m2,by simp only[am,h,h2,if_true],hk2⟩
  | normal=>exact⟨_,_,_,by simp only[am,h],hk⟩
  | exit id=>exact⟨_,_,_,by simp only[am,h],hk⟩
  | ret=>exact⟨_,_,_,by simp only[am,h],hk⟩
theorem W_region{ops:List AOper} (h:WO G ops (Q .normal) e [] m):W G (.region ops) Q e m:=by
 obtain⟨e',m',h1,h2⟩:=WO_out h
 exact⟨_,_,_,by simp only[am,h1],h2⟩
theorem W_draw{p:List Nat} {k:Nat} {ops:List AOper} {stab:List (Nat × List Nat)} (h:WT G (fun tr m=>stabOk G ops tr m stab) ops (Q .normal) e [] m []):W G (.draw p k ops stab) Q e m:=by
 obtain⟨e',m',tr,h1,h2,h3⟩:=WT_out h
 exact⟨_,_,_,by simp only[am,h1];rw[if_pos (by simpa using h2)],h3⟩
def thenQ(Q:AX→List AV→Mem X→Prop) (K:List AV→Mem X→Prop):AX→List AV→Mem X→Prop
 | .normal,e,m=>K e m
 | x,e,m=>Q x e m
theorem thenQ_normal{K:List AV→Mem X→Prop}:thenQ Q K .normal e m=K e m:=rfl
theorem thenQ_exit{K:List AV→Mem X→Prop} {id:Nat}:thenQ Q K (.exit id) e m=Q (.exit id) e m:=rfl
theorem thenQ_goto{K:List AV→Mem X→Prop} {l:Nat}:thenQ Q K (.goto l) e m=Q (.goto l) e m:=rfl
theorem thenQ_ret{K:List AV→Mem X→Prop}:thenQ Q K .ret e m=Q .ret e m:=rfl
theorem W_seq{a b:AC} (h:W G a (thenQ Q (fun e m=>W G b Q e m)) e m):W G (.seq a b) Q e m:=by
 obtain⟨x,e',m',h1,h2⟩:=h
 cases x with
 | normal =>
  obtain⟨y,e2,m2,h3,h4⟩:=h2
  exact⟨y,e2,m2,by simp only[am,h1,h3],h4⟩
 | exit id=>exact⟨_,_,_,by simp only[am,h1],h2⟩
 | ret=>exact⟨_,_,_,by simp only[am,h1],h2⟩
 | goto l=>exact⟨_,_,_,by simp only[am,h1],h2⟩
theorem W_cond{c:Src} {t f:AC} {b:Bool} (hc:getS e [] c = .bool b) (h:if b=true then W G t Q e m else W G f Q e m):W G (.cond c t f) Q e m:=by
 cases b with
 | true=>obtain⟨x,e',m',h1,h2⟩:=h;exact⟨x,e',m',by simp only[am,hc,h1,if_true],h2⟩
 | false=>obtain⟨x,e',m',h1,h2⟩:=h;exact⟨x,e',m',by simp only[am,hc,h1];rfl,h2⟩
def blockQ(id:Nat) (Q:AX→List AV→Mem X→Prop):AX→List AV→Mem X→Prop
 | .exit id',e,m=>if id'=id then Q .normal e m else Q (.exit id') e m
 | x,e,m=>Q x e m
theorem blockQ_normal{id:Nat}:blockQ id Q .normal e m=Q .normal e m:=rfl
theorem blockQ_goto{id l:Nat}:blockQ id Q (.goto l) e m=Q (.goto l) e m:=rfl
theorem blockQ_ret{id:Nat}:blockQ id Q .ret e m=Q .ret e m:=rfl
theorem blockQ_exit{id id':Nat}:blockQ id Q (.exit id') e m=if id'=id then Q .normal e m else Q (.exit id') e m:=rfl
theorem W_block{id:Nat} {b:AC} (h:W G b (blockQ id Q) e m):W G (.block id b) Q e m:=by
 obtain⟨x,e',m',h1,h2⟩:=h
 cases x with
 | normal=>exact⟨_,_,_,by simp only[am,h1],h2⟩
 | exit id' =>
  simp only[blockQ] at h2
  by_cases hi:id'=id
  ·rw[if_pos hi] at h2;exact⟨_,_,_,by simp only[am,h1];rw[if_pos hi],h2⟩
  ·rw[if_neg hi] at h2;exact⟨_,_,_,by simp only[am,h1];rw[if_neg hi],h2⟩
 | ret=>exact⟨_,_,_,by simp only[am,h1],h2⟩
 | goto l=>exact⟨_,_,_,by simp only[am,h1],h2⟩
theorem W_mono{c:AC} {Q':AX→List AV→Mem X→Prop} (h:W G c Q' e m) (hq:∀ x e' m',Q' x e' m'→Q x e' m'):W G c Q e m:=by
 obtain⟨x,e',m',h1,h2⟩:=h
 exact⟨x,e',m',h1,hq _ _ _ h2⟩
theorem W_loop{b:AC} (I:Nat→List AV→Mem X→Prop) (n:Nat) (hn:n < FUEL) (h0:I n e m)
  (hs:∀ n e m,I n e m→W G b (thenQ Q (fun e' m'=>∃ k,k < n∧I k e' m')) e m):W G (.loop b) Q e m:=by
 have key:∀ (N n:Nat) (e:List AV) (m:Mem X),n < N→I n e m→∃ x e' m',iter (am G b) N e m=some (x,e',m')∧Q x e' m':=by
  intro N
  induction N with
  | zero=>intro n e m h;omega
  | succ N ih =>
   intro n e m hlt hI
   obtain⟨x,e1,m1,h1,h2⟩:=hs n e m hI
   cases x with
   | normal =>
    obtain⟨k,hk,hI'⟩:=h2
    obtain⟨x,e2,m2,h3,h4⟩:=ih k e1 m1 (by omega) hI'
    exact⟨x,e2,m2,by simp only[iter,h1,h3],h4⟩
   | exit id=>exact⟨_,_,_,by simp only[iter,h1],h2⟩
   | ret=>exact⟨_,_,_,by simp only[iter,h1],h2⟩
   | goto l=>exact⟨_,_,_,by simp only[iter,h1],h2⟩
 exact key FUEL n e m hn h0
def Fn(G:List (Nat × AFun X)) (F:AFn) (args:List AV) (m:Mem X) (Q:AV→Mem X→Prop):Prop:=OB (amFunc G F args m) Q
def resQ(res:List ARes) (Q:AV→Mem X→Prop):AX→List AV→Mem X→Prop
 | .exit _,_,_=>False
 | .goto _,_,_=>False
 | _,e,m=>∃ vs,resAll e m res=some vs∧Q (tupA vs) m
theorem Fn_of{F:AFn} {args:List AV} {Q:AV→Mem X→Prop} (hl:args.length=F.npar) (h:W G F.body (resQ F.res Q) (args++List.replicate (F.nloc - F.npar) .skip) m):Fn G F args m Q:=by
 obtain⟨x,e',m',h1,h2⟩:=h
 cases x with
 | exit id=>cases h2
 | goto l=>cases h2
 | normal =>
  obtain⟨vs,h3,h4⟩:=h2
  exact⟨_,_,by simp only[amFunc,h1,h3];rw[if_pos hl],h4⟩
 | ret =>
  obtain⟨vs,h3,h4⟩:=h2
  exact⟨_,_,by simp only[amFunc,h1,h3];rw[if_pos hl],h4⟩
end
end Go.Am
end
section
namespace Go.Am
section
variable {X:Type}
def OK(G:List (Nat × AFun X)) (os:List AOper) (Q:List AV→Mem X→Prop) (e:List AV) (dst:Option Nat) (rt:List AV) (x:Option (AV × Mem X)):Prop:=OB x fun v m=>WO G os Q (putL e dst v) (rt++[v]) m
def GK(G:List (Nat × AFun X)) (op:AOp) (args:List Src) (os:List AOper) (Q:List AV→Mem X→Prop) (e:List AV) (dst:Option Nat) (rt:List AV) (m:Mem X) (g:Option Bool):Prop :=
 WG g (OK G os Q e dst rt (amOp G op (args.map (getS e rt)) m)) (WO G os Q (putL e dst .skip) (rt++[.skip]) m)
def WI(b:Bool) (K L:Prop):Prop:=if b=true then K else L
theorem WI_true{K L:Prop}:WI true K L=K:=by simp[WI]
theorem WI_false{K L:Prop}:WI false K L=L:=by simp[WI]
theorem WI_of{b:Bool} {K L:Prop} (h1:b=true→K) (h2:b=false→L):WI b K L:=by
 cases b with
 | true=>simpa [WI] using h1 rfl
 | false=>simpa [WI] using h2 rfl
theorem WG_bool{b:Bool} {K L:Prop}:WG (some b) K L=WI b K L:=by cases b<;>simp[WG,WI]
theorem evB(k:IntKind) (a b:Int) :
  (binI .add k a b=some (.int k (k.wrap (a+b)))) ∧
  (binI .sub k a b=some (.int k (k.wrap (a - b)))) ∧
  (binI .mul k a b=some (.int k (k.wrap (a * b)))) ∧
  (binI .quo k a b=if b=0 then none else some (.int k (k.wrap (a.tdiv b)))) ∧
  (binI .rem k a b=if b=0 then none else some (.int k (a.tmod b))) ∧
  (binI .eql k a b=some (.bool (decide (a=b)))) ∧
  (binI .neq k a b=some (.bool (decide (a≠b)))) ∧
  (binI .lss k a b=some (.bool (decide (a < b)))) ∧
  (binI .leq k a b=some (.bool (decide (a≤b)))) ∧
  (binI .gtr k a b=some (.bool (decide (b < a)))) ∧
  (binI .geq k a b=some (.bool (decide (b≤a)))):=by
 refine⟨rfl,rfl,rfl,rfl,rfl,?_,?_,rfl,rfl,rfl,rfl⟩
 ·simp only[binI];congr 2
 ·simp only[binI];congr 2;by_cases h:a=b<;>simp[h]
theorem evS :
  (∀ e rt j,getS e rt (.loc j)=e.getD j .skip) ∧
  (∀ e rt j,getS e rt (.tmp j)=rt.getD j .skip) ∧
  (∀ e rt v,getS e rt (.c v)=v) ∧
  (∀ e v,putL e none v=e) ∧
  (∀ e j v,putL e (some j) v=e.set j v) ∧
  (∀ rt j,wantedA rt (some (j,true))=match rt[j]? with|some (.bool b)=>some b|some (.tup [])=>some false|_=>none) ∧
  (∀ rt j,wantedA rt (some (j,false))=match rt[j]? with|some (.bool b)=>some (!b)|some (.tup [])=>some false|_=>none):=by
 refine⟨fun _ _ _=>rfl,fun _ _ _=>rfl,fun _ _ _=>rfl,fun _ _=>rfl,fun _ _ _=>rfl,fun rt j=>?_,fun rt j=>?_⟩
 ·simp only[wantedA];split<;>simp_all
 ·simp only[wantedA];split<;>simp_all
theorem evL{α:Type} :
  (∀ (x d:α) xs,(x :: xs).getD 0 d=x) ∧
  (∀ (x d:α) xs n,(x :: xs).getD (n+1) d=xs.getD n d) ∧
  (∀ (x:α) xs,(x :: xs)[0]?=some x) ∧
  (∀ (x:α) xs n,(x :: xs)[n+1]?=xs[n]?) ∧
  (∀ (x y:α) xs,(x :: xs).set 0 y=y :: xs) ∧
  (∀ (x y:α) xs n,(x :: xs).set (n+1) y=x :: xs.set n y) ∧
  (∀ (x:α) xs ys,x :: xs++ys=x :: (xs++ys)) ∧
  (∀ (xs:List α),[]++xs=xs) ∧
  (∀ (x:α) xs n,(x :: xs).take (n+1)=x :: xs.take n) ∧
  (∀ (xs:List α),xs.take 0=[]) ∧
  (∀ (x:α) xs n,(x :: xs).drop (n+1)=xs.drop n) ∧
  (∀ (xs:List α),xs.drop 0=xs) ∧
  (∀ (x:α) xs,(x :: xs).length=xs.length+1) ∧
  (([]:List α).length=0):=by
 refine⟨fun _ _ _=>rfl,fun _ _ _ _=>rfl,fun _ _=>rfl,fun _ _ _=>rfl,fun _ _ _=>rfl,fun _ _ _ _=>rfl,fun _ _ _=>rfl,fun _=>rfl,fun _ _ _=>rfl,fun _=>rfl,fun _ _ _=>rfl,fun _=>rfl,fun _ _=>rfl,rfl⟩
theorem WO_eq{G:List (Nat × AFun X)}:∀ {ops:List AOper} {Q:List AV→Mem X→Prop} {e rt:List AV} {m:Mem X},WO G ops Q e rt m=∃ e' m',amOps G ops e rt m=some (e',m')∧Q e' m':=by
 intro ops
 induction ops with
 | nil =>
  intro Q e rt m
  refine propext ⟨WO_out,?_⟩
  rintro⟨e',m',h,hq⟩
  simp only[amOps,Option.some.injEq,Prod.mk.injEq] at h
  obtain⟨rfl,rfl⟩:=h
  exact hq
 | cons o os ih =>
  intro Q e rt m
  refine propext ⟨WO_out,?_⟩
  rintro⟨e',m',h,hq⟩
  simp only[amOps] at h
  split at h
  ·rename_i hw
   split at h
   ·rename_i v m1 h1
    refine .inl ⟨hw,v,m1,h1,?_⟩
    show WO G os Q (putL e o.dst v) (rt++[v]) m1
    rw[ih];exact⟨e',m',h,hq⟩
   ·cases h
  ·rename_i hw
   refine .inr ⟨hw,?_⟩
   rw[ih];exact⟨e',m',h,hq⟩
  ·cases h
def CW(G:List (Nat × AFun X)) (t f:AC) (Q:AX→List AV→Mem X→Prop) (e:List AV) (m:Mem X) (v:AV):Prop:=∃ b,v = .bool b∧WI b (W G t Q e m) (W G f Q e m)
theorem CW_bool{G:List (Nat × AFun X)} {t f:AC} {Q:AX→List AV→Mem X→Prop} {e:List AV} {m:Mem X} {b:Bool}:CW G t f Q e m (.bool b)=WI b (W G t Q e m) (W G f Q e m):=by simp[CW]
def RQ(Q:AV→Mem X→Prop) (m:Mem X) (x:Option (List AV)):Prop:=∃ vs,x=some vs∧Q (tupA vs) m
theorem RQ_some{Q:AV→Mem X→Prop} {m:Mem X} {vs:List AV}:RQ Q m (some vs)=Q (tupA vs) m:=by simp[RQ]
theorem evW(G:List (Nat × AFun X)) :
  (∀ ops Q e m,W G (.region ops) Q e m=WO G ops (Q .normal) e ([]++[]) m) ∧
  (∀ a b Q e m,W G (.seq a b) Q e m=W G a (thenQ Q (W G b Q)) e m) ∧
  (∀ c t f Q e m,W G (.cond c t f) Q e m=CW G t f Q e m (getS e [] c)) ∧
  (∀ id b Q e m,W G (.block id b) Q e m=W G b (blockQ id Q) e m) ∧
  (∀ Q e m,W G .skip Q e m=Q .normal e m) ∧
  (∀ id Q e m,W G (.exit id) Q e m=Q (.exit id) e m) ∧
  (∀ Q e m,W G .ret Q e m=Q .ret e m):=by
 refine⟨fun ops Q e m=>?_,fun a b Q e m=>?_,fun c t f Q e m=>?_,fun id b Q e m=>?_,fun _ _ _=>W_skip,fun _ _ _ _=>W_exit,fun _ _ _=>W_ret⟩
 ·refine propext ⟨?_,W_region⟩
  rintro⟨x,e',m',h,hq⟩
  simp only[am] at h
  split at h
  ·rename_i e1 m1 h1
   simp only[Option.some.injEq,Prod.mk.injEq] at h
   obtain⟨rfl,rfl,rfl⟩:=h
   rw[WO_eq];exact⟨_,_,h1,hq⟩
  ·cases h
 ·refine propext ⟨?_,W_seq⟩
  rintro⟨x,e',m',h,hq⟩
  simp only[am] at h
  split at h
  ·rename_i e1 m1 h1
   exact⟨_,_,_,h1,⟨x,e',m',h,hq⟩⟩
  ·rename_i hne
   refine⟨_,_,_,h,?_⟩
   cases x with
   | normal=>exact absurd h (hne e' m')
   | exit id=>exact hq
   | ret=>exact hq
   | goto l=>exact hq
 ·refine propext ⟨?_,?_⟩
  ·rintro⟨x,e',m',h,hq⟩
   simp only[am] at h
   split at h
   ·rename_i b hb
    refine⟨b,hb,?_⟩
    cases b with
    | true=>simp only[if_true] at h;rw[WI_true];exact⟨x,e',m',h,hq⟩
    | false=>rw[WI_false];exact⟨x,e',m',h,hq⟩
   ·cases h
  ·rintro⟨b,hb,hw⟩
   exact W_cond hb hw
 ·refine propext ⟨?_,W_block⟩
  rintro⟨x,e',m',h,hq⟩
  simp only[am] at h
  split at h
  ·rename_i id' e1 m1 h1
   refine⟨_,_,_,h1,?_⟩
   simp only[blockQ]
   split at h
   ·rename_i hi
    simp only[Option.some.injEq,Prod.mk.injEq] at h
    obtain⟨rfl,rfl,rfl⟩:=h
    rw[if_pos hi];exact hq
   ·rename_i hi
    simp only[Option.some.injEq,Prod.mk.injEq] at h
    obtain⟨rfl,rfl,rfl⟩:=h
    rw[if_neg hi];exact hq
  ·rename_i hne
   refine⟨_,_,_,h,?_⟩
   cases x with
   | normal=>exact hq
   | exit id=>exact absurd h (hne id e' m')
   | ret=>exact hq
   | goto l=>exact hq
theorem evQ:(∀ res Q e (m:Mem X),resQ res Q .normal e m=RQ Q m (resAll e m res)) ∧
  (∀ res Q e (m:Mem X),resQ res Q .ret e m=RQ Q m (resAll e m res)):=⟨fun _ _ _ _=>rfl,fun _ _ _ _=>rfl⟩
theorem cond_bool{b x y:Bool}:cond b (AV.bool x) (AV.bool y)=AV.bool (cond b x y):=by cases b<;>rfl
theorem cond_int{b:Bool} {k:IntKind} {x y:Int}:cond b (AV.int k x) (AV.int k y)=AV.int k (cond b x y):=by cases b<;>rfl
theorem tupA_one{v:AV}:tupA [v]=v:=rfl
theorem tupA_two{v u:AV} {vs:List AV}:tupA (v :: u :: vs) = .tup (v :: u :: vs):=rfl
theorem tupA_nil:tupA [] = .tup []:=rfl
end
end Go.Am
end
section
namespace Go.Am
section
variable {X:Type}
theorem wrapI{x:Int} (h1:-9223372036854775808≤x) (h2:x < 9223372036854775808):IntKind.i64.wrap x=x:=by
 simp only[IntKind.wrap,IntKind.bits,IntKind.signed,Bool.true_and,decide_eq_true_eq,ge_iff_le]
 split<;>omega
theorem wrapU{x:Int} (h1:0≤x) (h2:x < 18446744073709551616):IntKind.u64.wrap x=x:=by
 simp only[IntKind.wrap,IntKind.bits,IntKind.signed,Bool.false_and]
 simp
 omega
theorem get_concat{α:Type} {l:List α} {x:α}:(l++[x])[l.length]?=some x:=by simp
theorem set_concat{α:Type} {l:List α} {x y:α}:(l++[x]).set l.length y=l++[y]:=by simp
theorem get_mid{α:Type} {l k:List α} {i:Nat}:(l++k)[l.length+i]?=k[i]?:=by rw[List.getElem?_append_right (by omega)];congr 1;omega
theorem get_mid0{α:Type} {l k:List α}:(l++k)[l.length]?=k[0]?:=get_mid (i:=0)
theorem set_mid{α:Type} {l k:List α} {i:Nat} {y:α}:(l++k).set (l.length+i) y=l++k.set i y:=by rw[List.set_append_right _ _ (by omega)];congr 2;omega
theorem set_mid0{α:Type} {l k:List α} {y:α}:(l++k).set l.length y=l++k.set 0 y:=set_mid (i:=0)
theorem splice_one{α:Type} {l:List α} {o:Nat} {v:α} (h:o < l.length):splice l o [v]=l.set o v:=by
 rw[List.set_eq_take_append_cons_drop,if_pos h]
 simp[splice]
def ldC(o:Nat):Option Nat→Option (Nat × Bool × List AV)→Option AV
 | none,some (_,_,l)=>l[o]?
 | some n,some (_,_,l)=>if o+n≤l.length then some (.agg ((l.drop o).take n)) else none
 | _,none=>none
theorem loadN_ldC{m:Mem X} {i o:Nat} {n:Option Nat}:loadN m i o n=ldC o n (getC m i):=by
 cases n<;>simp only[loadN,ldC]<;>cases getC m i<;>rfl
theorem ldC_none{o sz:Nat} {ro:Bool} {l:List AV}:ldC o none (some (sz,ro,l))=l[o]?:=rfl
def stC(m:Mem X) (i o n:Nat) (v:AV):Option (Nat × Bool × List AV)→Option (Mem X)
 | some (sz,false,l)=>if v.cells.length=n∧o+n≤l.length∧v.cells.all AV.one=true then some (m.set i (.cells sz false (splice l o v.cells))) else none
 | _=>none
theorem storeN_stC{m:Mem X} {i o n:Nat} {v:AV}:storeN m i o n v=stC m i o n v (getC m i):=by
 simp only[storeN,stC]
 cases getC m i with
 | none=>rfl
 | some x=>obtain⟨sz,ro,l⟩:=x;cases ro<;>rfl
theorem stC_int{m:Mem X} {i o sz:Nat} {k:IntKind} {n:Int} {l:List AV} (h:o < l.length):stC m i o 1 (.int k n) (some (sz,false,l))=some (m.set i (.cells sz false (l.set o (.int k n)))):=by
 rw[← splice_one h];exact if_pos ⟨rfl,by omega,rfl⟩
theorem stC_bool{m:Mem X} {i o sz:Nat} {b:Bool} {l:List AV} (h:o < l.length):stC m i o 1 (.bool b) (some (sz,false,l))=some (m.set i (.cells sz false (l.set o (.bool b)))):=by
 rw[← splice_one h];exact if_pos ⟨rfl,by omega,rfl⟩
theorem stC_ptr{m:Mem X} {i o sz a b:Nat} {l:List AV} (h:o < l.length):stC m i o 1 (.ptr a b) (some (sz,false,l))=some (m.set i (.cells sz false (l.set o (.ptr a b)))):=by
 rw[← splice_one h];exact if_pos ⟨rfl,by omega,rfl⟩
theorem stC_nilp{m:Mem X} {i o sz:Nat} {l:List AV} (h:o < l.length):stC m i o 1 .nilp (some (sz,false,l))=some (m.set i (.cells sz false (l.set o .nilp))):=by
 rw[← splice_one h];exact if_pos ⟨rfl,by omega,rfl⟩
theorem stC_sl{m:Mem X} {i o sz a b c:Nat} {d:Option Nat} {l:List AV} (h:o < l.length):stC m i o 1 (.sl a b c d) (some (sz,false,l))=some (m.set i (.cells sz false (l.set o (.sl a b c d)))):=by
 rw[← splice_one h];exact if_pos ⟨rfl,by omega,rfl⟩
theorem stC_nils{m:Mem X} {i o sz:Nat} {l:List AV} (h:o < l.length):stC m i o 1 .nils (some (sz,false,l))=some (m.set i (.cells sz false (l.set o .nils))):=by
 rw[← splice_one h];exact if_pos ⟨rfl,by omega,rfl⟩
theorem ldC_somes{o n sz:Nat} {ro:Bool} {l:List AV}:ldC o (some n) (some (sz,ro,l))=if o+n≤l.length then some (.agg ((l.drop o).take n)) else none:=rfl
theorem stC_aggs{m:Mem X} {i o n sz:Nat} {cs l:List AV}:stC m i o n (.agg cs) (some (sz,false,l))=if cs.length=n∧o+n≤l.length∧cs.all AV.one=true then some (m.set i (.cells sz false (splice l o cs))) else none:=rfl
def gcO:Option (Chunk X)→Option (Nat × Bool × List AV)
 | some (.cells sz ro l)=>some (sz,ro,l)
 | _=>none
theorem getC_gcO{m:Mem X} {i:Nat}:getC m i=gcO m[i]?:=by
 simp only[getC,gcO];cases m[i]? with
 | none=>rfl
 | some c=>cases c<;>rfl
theorem gcO_cells{sz:Nat} {ro:Bool} {l:List AV}:gcO (X:=X) (some (.cells sz ro l))=some (sz,ro,l):=rfl
theorem OK_fn{G G':List (Nat × AFun X)} {F:AFn} {vs:List AV} {m:Mem X} {K:AV→Mem X→Prop} {os:List AOper} {Q:List AV→Mem X→Prop} {e:List AV} {dst:Option Nat} {rt:List AV}
  (h:Fn G' F vs m K) (k:∀ v m',K v m'→WO G os Q (putL e dst v) (rt++[v]) m'):OK G os Q e dst rt (amFunc G' F vs m):=by
 obtain⟨v,m',h1,h2⟩:=h
 exact⟨v,m',h1,k v m' h2⟩
theorem W_scope(G:List (Nat × AFun X)) (b:AC) (Q:AX→List AV→Mem X→Prop) (e:List AV) (m:Mem X):W G (.scope b) Q e m=W G b Q e m:=rfl
theorem ev_clear(G:List (Nat × AFun X)) (sz:Nat) (z:List AV) (x:AV) (m:Mem X):amOp G (.clear sz z) [x] m=match clearA sz z x m with|some m'=>some (.skip,m')|none=>none:=rfl
theorem Fn_eq{G:List (Nat × AFun X)} {F:AFn} {vs:List AV} {m m1:Mem X} {r:AV} (h:Fn G F vs m (fun v m'=>v=r∧m'=m1)):amFunc G F vs m=some (r,m1):=by
 obtain⟨v,m',h1,rfl,rfl⟩:=h
 exact h1
theorem Fn_mono{G:List (Nat × AFun X)} {F:AFn} {vs:List AV} {m:Mem X} {K K':AV→Mem X→Prop} (h:Fn G F vs m K) (k:∀ v m',K v m'→K' v m'):Fn G F vs m K':=by
 obtain⟨v,m',h1,h2⟩:=h
 exact⟨v,m',h1,k v m' h2⟩
def exitQ(id:Nat) (P:List AV→Mem X→Prop) (Q:AX→List AV→Mem X→Prop):AX→List AV→Mem X→Prop
 | .exit id',e,m=>if id'=id then P e m else Q (.exit id') e m
 | x,e,m=>Q x e m
theorem exitQ_normal{id:Nat} {P:List AV→Mem X→Prop} {Q:AX→List AV→Mem X→Prop} {e:List AV} {m:Mem X}:exitQ id P Q .normal e m=Q .normal e m:=rfl
theorem exitQ_goto{id l:Nat} {P:List AV→Mem X→Prop} {Q:AX→List AV→Mem X→Prop} {e:List AV} {m:Mem X}:exitQ id P Q (.goto l) e m=Q (.goto l) e m:=rfl
theorem exitQ_ret{id:Nat} {P:List AV→Mem X→Prop} {Q:AX→List AV→Mem X→Prop} {e:List AV} {m:Mem X}:exitQ id P Q .ret e m=Q .ret e m:=rfl
theorem exitQ_exit{id id':Nat} {P:List AV→Mem X→Prop} {Q:AX→List AV→Mem X→Prop} {e:List AV} {m:Mem X}:exitQ id P Q (.exit id') e m=if id'=id then P e m else Q (.exit id') e m:=rfl
theorem ek(G:List (Nat × AFun X)) :
  (∀ (Q:List AV→Mem X→Prop) e rt m,WO G [] Q e rt m=Q e m) ∧
  (∀ op args dst os (Q:List AV→Mem X→Prop) e rt m,WO G (⟨op,args,dst,none⟩ :: os) Q e rt m=OK G os Q e dst rt (amOp G op (args.map (getS e rt)) m)) ∧
  (∀ op args dst g os (Q:List AV→Mem X→Prop) e rt m,WO G (⟨op,args,dst,some g⟩ :: os) Q e rt m=GK G op args os Q e dst rt m (wantedA rt (some g))) ∧
  (∀ os Q e dst rt v m,OK G os Q e dst rt (some (v,m))=WO G os Q (putL e dst v) (rt++[v]) m) ∧
  (∀ os Q e dst rt,OK G os Q e dst rt none=False) ∧
  (∀ op args os Q e dst rt m,GK G op args os Q e dst rt m (some true)=OK G os Q e dst rt (amOp G op (args.map (getS e rt)) m)) ∧
  (∀ op args os Q e dst rt m,GK G op args os Q e dst rt m (some false)=WO G os Q (putL e dst .skip) (rt++[.skip]) m) ∧
  (∀ v m,amOp G .mov [v] m=some (v,m)) ∧
  (∀ c a b m,amOp G .pick [.bool c,a,b] m=some (cond c a b,m)) ∧
  (∀ z m,amOp G (.alloc z) [] m=some (.ptr m.length 0,m++[.cells z.length false z])) ∧
  (∀ z ps vs m,amOp G (.build z ps) vs m=match fillA z ps vs with|some cs=>some (.agg cs,m)|none=>none) ∧
  (∀ n i o m,amOp G (.load n) [.ptr i o] m=match loadN m i o n with|some v=>some (v,m)|none=>none) ∧
  (∀ n i o v m,amOp G (.store n) [.ptr i o,v] m=match storeN m i o n v with|some m'=>some (.skip,m')|none=>none) ∧
  (∀ i o m,amOp G .nilc [.ptr i o] m=some (.ptr i o,m)) ∧
  (∀ f a b m,amOp G .nilc [.fn f a b] m=some (.fn f a b,m)) ∧
  (∀ b m,amOp G .not [.bool b] m=some (.bool (!b),m)) ∧
  (∀ k n m,amOp G .neg [.int k n] m=some (.int k (k.wrap (0 - n)),m)) ∧
  (∀ k k' n m,amOp G (.conv k) [.int k' n] m=some (.int k (k.wrap n),m)) ∧
  (∀ op k a b m,amOp G (.bin op) [.int k a,.int k b] m=match binI op k a b with|some v=>some (v,m)|none=>none) ∧
  (∀ op k k' a b m,amOp G (.shf op) [.int k a,.int k' b] m=match shfI op k a b with|some v=>some (v,m)|none=>none) ∧
  (∀ k neg x y m,amOp G (.eqv k neg) [x,y] m=match eqV m k x y with|some b=>some (.bool (xor neg b),m)|none=>none) ∧
  (∀ off i o m,amOp G (.faddr off) [.ptr i o] m=some (.ptr i (o+off),m)) ∧
  (∀ sz i o len c k n m,amOp G (.iaddr sz none) [.sl i o len c,.int k n] m=if 0≤n∧n < len then some (.ptr i (o+n.toNat * sz),m) else none) ∧
  (∀ sz len i o k n m,amOp G (.iaddr sz (some len)) [.ptr i o,.int k n] m=if 0≤n∧n < len then some (.ptr i (o+n.toNat * sz),m) else none) ∧
  (∀ off cs m,amOp G (.field off none) [.agg cs] m=match cs[off]? with|some v=>some (v,m)|none=>none) ∧
  (∀ off n cs m,amOp G (.field off (some n)) [.agg cs] m=if off+n≤cs.length then some (.agg ((cs.drop off).take n),m) else none) ∧
  (∀ i vs m,amOp G (.extract i) [.tup vs] m=match vs[i]? with|some v=>some (v,m)|none=>none) ∧
  (∀ f vs m,amOp G (.call f) vs m=match assoc G f with|some F=>F vs m|none=>none) ∧
  (∀ f a c vs m,amOp G .callv (.fn f a c :: vs) m=match assoc G f with|some F=>F (a++vs++c) m|none=>none) ∧
  (∀ i o len c m,amOp G .len [.sl i o len c] m=some (.int .i64 len,m)) ∧
  (∀ m,amOp G .len [.nils] m=some (.int .i64 0,m)) ∧
  (∀ k a b m,amOp G .min [.int k a,.int k b] m=some (.int k (if b < a then b else a),m)) ∧
  (∀ k a b m,amOp G .max [.int k a,.int k b] m=some (.int k (if b > a then b else a),m)) ∧
  (∀ v m,amOp G .box [v] m=if v.cells.all AV.one=true then some (.ptr m.length 0,m++[.cells v.cells.length false v.cells]) else none) ∧
  (∀ f n vs m,amOp G (.mkfn f n) vs m=if n≤vs.length then some (.fn f (vs.take n) (vs.drop n),m) else none):=by
 refine⟨fun _ _ _ _=>rfl,fun _ _ _ _ _ _ _ _=>by simp only[WO,WG_none,OK],fun _ _ _ _ _ _ _ _ _=>rfl,fun _ _ _ _ _ _ _=>by simp only[OK,OB_some],fun _ _ _ _ _=>by simp only[OK,OB_none],fun _ _ _ _ _ _ _ _=>by simp only[GK,WG_bool,WI_true],fun _ _ _ _ _ _ _ _=>by simp only[GK,WG_bool,WI_false],fun _ _=>rfl,fun _ _ _ _=>rfl,fun _ _=>rfl,?_,fun _ _ _ _=>rfl,fun _ _ _ _ _=>rfl,fun _ _ _=>rfl,fun _ _ _ _=>rfl,fun _ _=>rfl,fun _ _ _=>rfl,
  fun _ _ _ _=>rfl,fun _ _ _ _ _=>by simp only[amOp,if_true]<;>rfl,fun _ _ _ _ _ _=>rfl,fun _ _ _ _ _=>rfl,fun _ _ _ _=>rfl,fun _ _ _ _ _ _ _ _=>rfl,fun _ _ _ _ _ _ _=>rfl,fun _ _ _=>rfl,fun _ _ _ _=>rfl,fun _ _ _=>rfl,?_,
  fun _ _ _ _ _=>rfl,fun _ _ _ _ _=>rfl,fun _=>rfl,fun _ _ _ _=>by simp[amOp,foldI],fun _ _ _ _=>by simp[amOp,foldI],fun _ _=>rfl,?_⟩
 ·intro z ps vs m;cases vs<;>rfl
 ·intro f vs m;cases vs<;>rfl
 ·intro f n vs m;cases vs<;>rfl
theorem GK_of{G:List (Nat × AFun X)} {op:AOp} {args:List Src} {os:List AOper} {Q:List AV→Mem X→Prop} {e:List AV} {dst:Option Nat} {rt:List AV} {m:Mem X} {b:Bool}
  (h1:b=true→GK G op args os Q e dst rt m (some true)) (h2:b=false→GK G op args os Q e dst rt m (some false)):GK G op args os Q e dst rt m (some b):=by cases b<;>simp_all
theorem CW_of{G:List (Nat × AFun X)} {t f:AC} {Q:AX→List AV→Mem X→Prop} {e:List AV} {m:Mem X} {b:Bool} (h1:b=true→W G t Q e m) (h2:b=false→W G f Q e m):CW G t f Q e m (.bool b):=by
 rw[CW_bool];exact WI_of h1 h2
theorem CW_true{G:List (Nat × AFun X)} {t f:AC} {Q:AX→List AV→Mem X→Prop} {e:List AV} {m:Mem X}:CW G t f Q e m (.bool true)=W G t Q e m:=by rw[CW_bool,WI_true]
theorem CW_false{G:List (Nat × AFun X)} {t f:AC} {Q:AX→List AV→Mem X→Prop} {e:List AV} {m:Mem X}:CW G t f Q e m (.bool false)=W G f Q e m:=by rw[CW_bool,WI_false]
theorem condT{b c:Bool}:cond b true c=(b || c):=by cases b<;>rfl
theorem condF{b c:Bool}:cond b c false=(b && c):=by cases b<;>rfl
abbrev Tr(X:Type):=List (Bool × List AV × AV × Mem X)
def FIN(G:List (Nat × AFun X)) (ops:List AOper) (stab:List (Nat × List Nat)) (tr:Tr X) (m:Mem X):Bool:=stabOk G ops tr m stab
def WS(G:List (Nat × AFun X)) (ops:List AOper) (stab:List (Nat × List Nat)) (os:List AOper) (Q:List AV→Mem X→Prop) (e rt:List AV) (m:Mem X) (tr:Tr X):Prop:=WT G (FIN G ops stab) os Q e rt m tr
def OKT(G:List (Nat × AFun X)) (ops:List AOper) (stab:List (Nat × List Nat)) (os:List AOper) (Q:List AV→Mem X→Prop) (e:List AV) (dst:Option Nat) (rt:List AV) (tr:Tr X) (m0:Mem X) (vs:List AV) (x:Option (AV × Mem X)):Prop :=
 OB x fun v m=>WS G ops stab os Q (putL e dst v) (rt++[v]) m (tr++[(true,vs,v,m0)])
def GKT(G:List (Nat × AFun X)) (ops:List AOper) (stab:List (Nat × List Nat)) (op:AOp) (os:List AOper) (Q:List AV→Mem X→Prop) (e:List AV) (dst:Option Nat) (rt:List AV) (tr:Tr X) (m:Mem X) (vs:List AV) (g:Option Bool):Prop :=
 WG g (OKT G ops stab os Q e dst rt tr m vs (amOp G op vs m)) (WS G ops stab os Q (putL e dst .skip) (rt++[.skip]) m (tr++[(false,vs,.skip,m)]))
theorem W_drawS{G:List (Nat × AFun X)} {Q:AX→List AV→Mem X→Prop} {e:List AV} {m:Mem X} {p:List Nat} {k:Nat} {ops:List AOper} {stab:List (Nat × List Nat)} (h:WS G ops stab ops (Q .normal) e ([]++[]) m []):W G (.draw p k ops stab) Q e m:=W_draw h
theorem WT_eq{G:List (Nat × AFun X)} {fin:Tr X→Mem X→Bool}:∀ {ops:List AOper} {Q:List AV→Mem X→Prop} {e rt:List AV} {m:Mem X} {tr:Tr X},(∃ e' m' tr',amOpsT G ops e rt m=some (e',m',tr')∧fin (tr++tr') m'=true∧Q e' m')→WT G fin ops Q e rt m tr
 | [],Q,e,rt,m,tr,h=>by
  obtain⟨e',m',tr',h1,h2,h3⟩:=h
  simp only[amOpsT,Option.some.injEq,Prod.mk.injEq] at h1
  obtain⟨rfl,rfl,rfl⟩:=h1
  exact⟨by simpa using h2,h3⟩
 | o :: os,Q,e,rt,m,tr,h=>by
  obtain⟨e',m',tr',h1,h2,h3⟩:=h
  simp only[amOpsT] at h1
  split at h1
  ·rename_i hw
   split at h1
   ·rename_i v m1 hv
    split at h1
    ·rename_i e1 m2 tr1 ht
     simp only[Option.some.injEq,Prod.mk.injEq] at h1
     obtain⟨rfl,rfl,rfl⟩:=h1
     exact .inl ⟨hw,v,m1,hv,WT_eq ⟨_,_,_,ht,by simpa using h2,h3⟩⟩
    ·cases h1
   ·cases h1
  ·rename_i hw
   split at h1
   ·rename_i e1 m2 tr1 ht
    simp only[Option.some.injEq,Prod.mk.injEq] at h1
    obtain⟨rfl,rfl,rfl⟩:=h1
    exact .inr ⟨hw,WT_eq ⟨_,_,_,ht,by simpa using h2,h3⟩⟩
   ·cases h1
  ·cases h1
theorem W_draw_eq(G:List (Nat × AFun X)) (p:List Nat) (k:Nat) (ops:List AOper) (stab:List (Nat × List Nat)) (Q:AX→List AV→Mem X→Prop) (e:List AV) (m:Mem X):W G (.draw p k ops stab) Q e m=WS G ops stab ops (Q .normal) e ([]++[]) m []:=by
 refine propext ⟨?_,W_drawS⟩
 rintro⟨x,e',m',h,hq⟩
 simp only[am] at h
 split at h
 ·rename_i e1 m1 tr h1
  split at h
  ·rename_i hs
   simp only[Option.some.injEq,Prod.mk.injEq] at h
   obtain⟨rfl,rfl,rfl⟩:=h
   exact WT_eq ⟨_,_,_,h1,by simpa [FIN] using hs,hq⟩
  ·cases h
 ·cases h
theorem OKT_fn{G G':List (Nat × AFun X)} {ops:List AOper} {stab:List (Nat × List Nat)} {F:AFn} {us vs:List AV} {m m0:Mem X} {K:AV→Mem X→Prop} {os:List AOper} {Q:List AV→Mem X→Prop} {e:List AV} {dst:Option Nat} {rt:List AV} {tr:Tr X}
  (h:Fn G' F vs m K) (k:∀ v m',K v m'→WS G ops stab os Q (putL e dst v) (rt++[v]) m' (tr++[(true,us,v,m0)])):OKT G ops stab os Q e dst rt tr m0 us (amFunc G' F vs m):=by
 obtain⟨v,m',h1,h2⟩:=h
 exact⟨v,m',h1,k v m' h2⟩
theorem evT(G:List (Nat × AFun X)) :
  (∀ ops stab (Q:List AV→Mem X→Prop) e rt m tr,WS G ops stab [] Q e rt m tr=(FIN G ops stab tr m=true∧Q e m)) ∧
  (∀ ops stab op args dst os (Q:List AV→Mem X→Prop) e rt m tr,WS G ops stab (⟨op,args,dst,none⟩ :: os) Q e rt m tr=OKT G ops stab os Q e dst rt tr m (args.map (getS e rt)) (amOp G op (args.map (getS e rt)) m)) ∧
  (∀ ops stab op args dst g os (Q:List AV→Mem X→Prop) e rt m tr,WS G ops stab (⟨op,args,dst,some g⟩ :: os) Q e rt m tr=GKT G ops stab op os Q e dst rt tr m (args.map (getS e rt)) (wantedA rt (some g))) ∧
  (∀ ops stab os Q e dst rt tr m0 vs v m,OKT G ops stab os Q e dst rt tr m0 vs (some (v,m))=WS G ops stab os Q (putL e dst v) (rt++[v]) m (tr++[(true,vs,v,m0)])) ∧
  (∀ ops stab os Q e dst rt tr m0 vs,OKT G ops stab os Q e dst rt tr m0 vs none=False) ∧
  (∀ ops stab op os Q e dst rt tr m vs,GKT G ops stab op os Q e dst rt tr m vs (some true)=OKT G ops stab os Q e dst rt tr m vs (amOp G op vs m)) ∧
  (∀ ops stab op os Q e dst rt tr m vs,GKT G ops stab op os Q e dst rt tr m vs (some false)=WS G ops stab os Q (putL e dst .skip) (rt++[.skip]) m (tr++[(false,vs,.skip,m)])):=by
 refine⟨fun _ _ _ _ _ _ _=>rfl,fun _ _ _ _ _ _ _ _ _ _ _=>by simp only[WS,WT,WG_none,OKT],fun _ _ _ _ _ _ _ _ _ _ _ _=>rfl,fun _ _ _ _ _ _ _ _ _ _ _ _=>by simp only[OKT,OB_some],fun _ _ _ _ _ _ _ _ _ _=>by simp only[OKT,OB_none],fun _ _ _ _ _ _ _ _ _ _ _=>by simp only[GKT,WG_bool,WI_true],fun _ _ _ _ _ _ _ _ _ _ _=>by simp only[GKT,WG_bool,WI_false]⟩
theorem GKT_of{G:List (Nat × AFun X)} {ops:List AOper} {stab:List (Nat × List Nat)} {op:AOp} {os:List AOper} {Q:List AV→Mem X→Prop} {e:List AV} {dst:Option Nat} {rt:List AV} {tr:Tr X} {m:Mem X} {vs:List AV} {b:Bool}
  (h1:b=true→GKT G ops stab op os Q e dst rt tr m vs (some true)) (h2:b=false→GKT G ops stab op os Q e dst rt tr m vs (some false)):GKT G ops stab op os Q e dst rt tr m vs (some b):=by cases b<;>simp_all
mutual
theorem beq_self:∀ v:AV,AV.beq v v=true
 | .undef=>rfl
 | .bool b=>by cases b<;>rfl
 | .int k n=>by simp[AV.beq]
 | .str s=>by simp[AV.beq]
 | .nilp=>rfl
 | .ptr i o=>by simp[AV.beq]
 | .nils=>rfl
 | .mt=>rfl
 | .yld l=>by simp[AV.beq]
 | .sl i o n c=>by simp[AV.beq]
 | .nilm=>rfl
 | .map i=>by simp[AV.beq]
 | .nilf=>rfl
 | .fn f a b=>by simp[AV.beq,beqL_self a,beqL_self b]
 | .agg a=>by simp[AV.beq,beqL_self a]
 | .tup a=>by simp[AV.beq,beqL_self a]
theorem beqL_self:∀ vs:List AV,AV.beqL vs vs=true
 | []=>rfl
 | v :: vs=>by simp[AV.beqL,beq_self v,beqL_self vs]
end

def saA(z:List AV):Option (Nat × Bool × List AV)→Bool
 | some (sz,false,l)=>decide (sz=z.length) && AV.beqL l z
 | _=>false
def saO(v:AV):Option (AV × Mem X)→Bool
 | some (v',_)=>AV.beq v' v
 | none=>false
theorem saA_self{sz:Nat} {z:List AV} (h:sz=z.length):saA z (some (sz,false,z))=true:=by simp[saA,h,beqL_self]
theorem saO_self{v:AV} {m:Mem X}:saO v (some (v,m))=true:=beq_self v
theorem evF(G:List (Nat × AFun X)) :
  (∀ ops stab tr m,FIN G ops stab tr m=stabOk G ops tr m stab) ∧
  (∀ ops tr (m:Mem X),stabOk G ops tr m []=true) ∧
  (∀ z t vs i o m0 m,sameAt G (.alloc z) (t,vs,.ptr i o,m0) m=saA z (getC m i)) ∧
  (∀ n vs v m0 m,sameAt G (.load n) (true,vs,v,m0) m=saO v (amOp G (.load n) vs m)) ∧
  (∀ n vs v m0 m,sameAt G (.load n) (false,vs,v,m0) m=true) ∧
  (∀ k b vs v m0 m,sameAt G (.eqv k b) (true,vs,v,m0) m=saO v (amOp G (.eqv k b) vs m)) ∧
  (∀ k b vs v m0 m,sameAt G (.eqv k b) (false,vs,v,m0) m=true) ∧
  (∀ a b c d vs v m0 m,sameAt G (.slice a b c d) (true,vs,v,m0) m=saO v (amOp G (.slice a b c d) vs m)) ∧
  (∀ a b c d vs v m0 m,sameAt G (.slice a b c d) (false,vs,v,m0) m=true) ∧
  (∀ a b vs v m0 m,sameAt G (.mget a b) (true,vs,v,m0) m=saO v (amOp G (.mget a b) vs m)) ∧
  (∀ a b vs v m0 m,sameAt G (.mget a b) (false,vs,v,m0) m=true) ∧
  (∀ vs v m0 m,sameAt G .mlen (true,vs,v,m0) m=saO v (amOp G .mlen vs m)) ∧
  (∀ vs v m0 m,sameAt G .mlen (false,vs,v,m0) m=true):=by
 refine⟨fun _ _ _ _=>rfl,fun _ _ _=>rfl,fun z t vs i o m0 m=>?_,fun _ _ _ _ _=>rfl,fun _ _ _ _ _=>rfl,fun _ _ _ _ _ _=>rfl,fun _ _ _ _ _ _=>rfl,fun _ _ _ _ _ _ _ _=>rfl,fun _ _ _ _ _ _ _ _=>rfl,fun _ _ _ _ _ _=>rfl,fun _ _ _ _ _ _=>rfl,fun _ _ _ _=>rfl,fun _ _ _ _=>rfl⟩
 simp only[sameAt]
 cases getC m i with
 | none=>cases t<;>rfl
 | some x=>obtain⟨sz,ro,l⟩:=x;cases ro<;>cases t<;>rfl
def stOne(G:List (Nat × AFun X)) (m:Mem X) (tr:Tr X) (cs:List Nat) (o:Option AOper) (e:Option (Bool × List AV × AV × Mem X)):Bool :=
 match o,e with
 | some o,some e=>cs.all fun c=>sameAt G o.op e (memAt tr m c)
 | _,_=>false
def atC(G:List (Nat × AFun X)) (op:AOp) (e:Bool × List AV × AV × Mem X) (m:Mem X) (tr:Tr X):List Nat→Bool
 | []=>true
 | c :: cs=>sameAt G op e (memAt tr m c) && atC G op e m tr cs
theorem atC_eq{G:List (Nat × AFun X)} {op:AOp} {e:Bool × List AV × AV × Mem X} {m:Mem X} {tr:Tr X}:∀ {cs:List Nat},(cs.all fun c=>sameAt G op e (memAt tr m c))=atC G op e m tr cs
 | []=>rfl
 | c :: cs=>by simp only[List.all_cons,atC,atC_eq (cs:=cs)]
def mAt(m:Mem X):Option (Bool × List AV × AV × Mem X)→Mem X
 | some (_,_,_,m')=>m'
 | none=>m
theorem evX(G:List (Nat × AFun X)) :
  (∀ ops tr (m:Mem X) k cs stab,stabOk G ops tr m ((k,cs) :: stab)=(stOne G m tr cs ops[k]? tr[k]? && stabOk G ops tr m stab)) ∧
  (∀ m tr cs op as d g e,stOne G m tr cs (some ⟨op,as,d,g⟩) (some e)=atC G op e m tr cs) ∧
  (∀ op e m tr,atC G op e m tr []=true) ∧
  (∀ op e m tr c cs,atC G op e m tr (c :: cs)=(sameAt G op e (memAt tr m c) && atC G op e m tr cs)) :=
 ⟨fun _ _ _ _ _ _=>rfl,fun _ _ _ _ _ _ _ _=>atC_eq,fun _ _ _ _=>rfl,fun _ _ _ _ _ _=>rfl⟩
theorem evM :
  (∀ (tr:Tr X) (m:Mem X) c,memAt tr m c=mAt m tr[c]?) ∧
  (∀ (m:Mem X) a b c d,mAt m (some (a,b,c,d))=d) ∧
  (∀ (m:Mem X),mAt m none=m):=by
 refine⟨fun tr m c=>?_,fun _ _ _ _ _=>rfl,fun _=>rfl⟩
 simp only[memAt,mAt];cases tr[c]?<;>rfl
theorem evA(G:List (Nat × AFun X)) :
  (∀ sz bytes s x m,amOp G (.append sz bytes) [s,x] m=appendA sz bytes s x m) ∧
  (∀ n sz z ps vs m,amOp G (.lit n sz z ps) vs m=match fillA (repeatL n z) ps vs with
   | some cs=>if cs.all AV.one=true then some (.sl m.length 0 n (some n),m++[.cells sz false cs]) else none
   | none=>none) ∧
  (∀ sz x m,amOp G (.slice sz false false false) [x] m=match sliceA m sz x none none none with|some v=>some (v,m)|none=>none) ∧
  (∀ sz x k n m,amOp G (.slice sz true false false) [x,.int k n] m=if 0≤n then(match sliceA m sz x (some n.toNat) none none with|some v=>some (v,m)|none=>none) else none) ∧
  (∀ sz x k n m,amOp G (.slice sz false true false) [x,.int k n] m=if 0≤n then(match sliceA m sz x none (some n.toNat) none with|some v=>some (v,m)|none=>none) else none) ∧
  (∀ sz x k n k' n' m,amOp G (.slice sz true true false) [x,.int k n,.int k' n'] m=if 0≤n then(if 0≤n' then(match sliceA m sz x (some n.toNat) (some n'.toNat) none with|some v=>some (v,m)|none=>none) else none) else none):=by
 refine⟨fun _ _ _ _ _=>rfl,fun n sz z ps vs m=>?_,fun _ _ _=>rfl,fun sz x k n m=>?_,fun sz x k n m=>?_,fun sz x k n k' n' m=>?_⟩
 ·cases vs<;>rfl
 ·by_cases h:0≤n
  ·simp[amOp,optN,h];cases sliceA m sz x (some n.toNat) none none<;>rfl
  ·simp[amOp,optN,h]
 ·by_cases h:0≤n
  ·simp[amOp,optN,h];cases sliceA m sz x none (some n.toNat) none<;>rfl
  ·simp[amOp,optN,h]
 ·by_cases h:0≤n
  ·by_cases h':0≤n'
   ·simp[amOp,optN,h,h'];cases sliceA m sz x (some n.toNat) (some n'.toNat) none<;>rfl
   ·simp[amOp,optN,h,h']
  ·simp[amOp,optN,h]
end
end Go.Am
end
section
namespace Go.Am
theorem get_at{α:Type} {l k:List α} {n i:Nat} (h:l.length=n):(l++k)[n+i]?=k[i]?:=by rw[← h];exact get_mid
theorem get_at0{α:Type} {l k:List α} {n:Nat} (h:l.length=n):(l++k)[n]?=k[0]?:=by rw[← h];exact get_mid0
theorem set_at{α:Type} {l k:List α} {n i:Nat} {y:α} (h:l.length=n):(l++k).set (n+i) y=l++k.set i y:=by rw[← h];exact set_mid
theorem set_at0{α:Type} {l k:List α} {n:Nat} {y:α} (h:l.length=n):(l++k).set n y=l++k.set 0 y:=by rw[← h];exact set_mid0
theorem zk:type_of% (And.intro (And.intro (And.intro (And.intro (And.intro (And.intro @ek @evB) (And.intro @evS @evL)) (And.intro (And.intro @Bool.and_true @Bool.true_and) (And.intro @if_true.{1} (And.intro @CW_true @CW_false)))) (And.intro (And.intro (And.intro @condT @condF) (And.intro @RQ_some (And.intro @tupA_one @tupA_two))) (And.intro (And.intro @tupA_nil @Nat.zero_add) (And.intro @Nat.add_zero (And.intro @and_self @and_true))))) (And.intro (And.intro (And.intro (And.intro @true_and @Nat.le_refl) (And.intro @Bool.not_true (And.intro @Bool.not_false @Bool.false_xor))) (And.intro (And.intro @Bool.true_xor @cond_true.{1}) (And.intro @cond_false.{1} (And.intro @if_false.{1} @ne_eq.{1})))) (And.intro (And.intro (And.intro @decide_not @decide_true) (And.intro @decide_false (And.intro @not_true_eq_false @not_false_eq_true))) (And.intro (And.intro @cond_bool @cond_int) (And.intro @beq_self_eq_true.{0} (And.intro @Bool.and_self @Bool.and_false)))))) (And.intro (And.intro (And.intro (And.intro (And.intro @Bool.false_and @Bool.xor_false) (And.intro @Bool.xor_true (And.intro @loadN_ldC @ldC_none))) (And.intro (And.intro @ldC_somes @stC_aggs) (And.intro @storeN_stC (And.intro @stC_int @stC_bool)))) (And.intro (And.intro (And.intro @stC_ptr @stC_nilp) (And.intro @stC_sl (And.intro @stC_nils @getC_gcO))) (And.intro (And.intro @gcO_cells @W_draw_eq) (And.intro @ev_clear (And.intro @evT @evF))))) (And.intro (And.intro (And.intro (And.intro @evX @evM) (And.intro @saA_self (And.intro @saO_self @if_pos.{1}))) (And.intro (And.intro @if_neg.{1} @wrapI) (And.intro @get_concat (And.intro @set_concat @Int.toNat_natCast)))) (And.intro (And.intro (And.intro @Int.toNat_zero @List.nil_append.{0}) (And.intro @Nat.mul_one (And.intro @decide_eq_true @decide_eq_false))) (And.intro (And.intro @Bool.false_or @Bool.true_or) (And.intro @Bool.or_false (And.intro @Bool.or_true @wrapU))))))):=(And.intro (And.intro (And.intro (And.intro (And.intro (And.intro @ek @evB) (And.intro @evS @evL)) (And.intro (And.intro @Bool.and_true @Bool.true_and) (And.intro @if_true.{1} (And.intro @CW_true @CW_false)))) (And.intro (And.intro (And.intro @condT @condF) (And.intro @RQ_some (And.intro @tupA_one @tupA_two))) (And.intro (And.intro @tupA_nil @Nat.zero_add) (And.intro @Nat.add_zero (And.intro @and_self @and_true))))) (And.intro (And.intro (And.intro (And.intro @true_and @Nat.le_refl) (And.intro @Bool.not_true (And.intro @Bool.not_false @Bool.false_xor))) (And.intro (And.intro @Bool.true_xor @cond_true.{1}) (And.intro @cond_false.{1} (And.intro @if_false.{1} @ne_eq.{1})))) (And.intro (And.intro (And.intro @decide_not @decide_true) (And.intro @decide_false (And.intro @not_true_eq_false @not_false_eq_true))) (And.intro (And.intro @cond_bool @cond_int) (And.intro @beq_self_eq_true.{0} (And.intro @Bool.and_self @Bool.and_false)))))) (And.intro (And.intro (And.intro (And.intro (And.intro @Bool.false_and @Bool.xor_false) (And.intro @Bool.xor_true (And.intro @loadN_ldC @ldC_none))) (And.intro (And.intro @ldC_somes @stC_aggs) (And.intro @storeN_stC (And.intro @stC_int @stC_bool)))) (And.intro (And.intro (And.intro @stC_ptr @stC_nilp) (And.intro @stC_sl (And.intro @stC_nils @getC_gcO))) (And.intro (And.intro @gcO_cells @W_draw_eq) (And.intro @ev_clear (And.intro @evT @evF))))) (And.intro (And.intro (And.intro (And.intro @evX @evM) (And.intro @saA_self (And.intro @saO_self @if_pos.{1}))) (And.intro (And.intro @if_neg.{1} @wrapI) (And.intro @get_concat (And.intro @set_concat @Int.toNat_natCast)))) (And.intro (And.intro (And.intro @Int.toNat_zero @List.nil_append.{0}) (And.intro @Nat.mul_one (And.intro @decide_eq_true @decide_eq_false))) (And.intro (And.intro @Bool.false_or @Bool.true_or) (And.intro @Bool.or_false (And.intro @Bool.or_true @wrapU)))))))
theorem zd:type_of% (And.intro (And.intro (And.intro (And.intro @evW (And.intro @evQ @thenQ_normal)) (And.intro @thenQ_exit (And.intro @thenQ_ret @blockQ_normal))) (And.intro (And.intro @blockQ_ret (And.intro @blockQ_exit @CW_true)) (And.intro (And.intro @CW_false @W_scope) (And.intro @exitQ_normal @exitQ_ret)))) (And.intro (And.intro (And.intro @exitQ_exit (And.intro @W_goto @W_scopeg)) (And.intro @thenQ_goto (And.intro @blockQ_goto @exitQ_goto))) (And.intro (And.intro @jumpQ_normal (And.intro @jumpQ_ret @jumpQ_exit)) (And.intro (And.intro @jumpQ_goto @noG_normal) (And.intro @noG_ret @noG_exit))))):=(And.intro (And.intro (And.intro (And.intro @evW (And.intro @evQ @thenQ_normal)) (And.intro @thenQ_exit (And.intro @thenQ_ret @blockQ_normal))) (And.intro (And.intro @blockQ_ret (And.intro @blockQ_exit @CW_true)) (And.intro (And.intro @CW_false @W_scope) (And.intro @exitQ_normal @exitQ_ret)))) (And.intro (And.intro (And.intro @exitQ_exit (And.intro @W_goto @W_scopeg)) (And.intro @thenQ_goto (And.intro @blockQ_goto @exitQ_goto))) (And.intro (And.intro @jumpQ_normal (And.intro @jumpQ_ret @jumpQ_exit)) (And.intro (And.intro @jumpQ_goto @noG_normal) (And.intro @noG_ret @noG_exit)))))
theorem zm:type_of% (And.intro (And.intro @List.append_assoc.{0} (And.intro @List.length_append.{0} @get_mid)) (And.intro @get_mid0 (And.intro @set_mid @set_mid0))):=(And.intro (And.intro @List.append_assoc.{0} (And.intro @List.length_append.{0} @get_mid)) (And.intro @get_mid0 (And.intro @set_mid @set_mid0)))
theorem zg:type_of% (And.intro (And.intro (And.intro @List.length_set.{0} (And.intro @List.length_cons.{0} @List.length_nil.{0})) (And.intro @List.cons_append.{0} (And.intro @List.getElem?_append_left.{0} @List.set_append_left.{0}))) (And.intro (And.intro @get_at (And.intro @get_at0 @set_at)) (And.intro @set_at0 (And.intro @List.getElem?_set_self.{0} @List.getElem?_set_ne.{0})))):=(And.intro (And.intro (And.intro @List.length_set.{0} (And.intro @List.length_cons.{0} @List.length_nil.{0})) (And.intro @List.cons_append.{0} (And.intro @List.getElem?_append_left.{0} @List.set_append_left.{0}))) (And.intro (And.intro @get_at (And.intro @get_at0 @set_at)) (And.intro @set_at0 (And.intro @List.getElem?_set_self.{0} @List.getElem?_set_ne.{0}))))
theorem zl:type_of% (And.intro (And.intro @List.length_cons.{0} @List.length_nil.{0}) (And.intro @List.length_set.{0} @List.length_append.{0})):=(And.intro (And.intro @List.length_cons.{0} @List.length_nil.{0}) (And.intro @List.length_set.{0} @List.length_append.{0}))
theorem zn:type_of% (And.intro (And.intro @get_mid (And.intro @get_mid0 @List.cons_append.{0})) (And.intro @List.append_assoc.{0} (And.intro @List.getElem?_cons_zero.{0} @List.getElem?_cons_succ.{0}))):=(And.intro (And.intro @get_mid (And.intro @get_mid0 @List.cons_append.{0})) (And.intro @List.append_assoc.{0} (And.intro @List.getElem?_cons_zero.{0} @List.getElem?_cons_succ.{0})))
end Go.Am
end
section
namespace Go.Am
section
variable {α:Type} {f:α→List AV} {sz:Nat}
theorem rows_len(hf:∀ x,(f x).length=sz):∀ (ws:List α),(ws.flatMap f).length=ws.length * sz
 | []=>by simp
 | x :: xs=>by rw[List.flatMap_cons,List.length_append,hf,rows_len hf xs,List.length_cons,Nat.succ_mul];omega
theorem rows_part(hf:∀ x,(f x).length=sz):∀ {ws:List α} {k:Nat} {x:α},ws[k]?=some x→((ws.flatMap f).drop (k * sz)).take sz=f x
 | [],k,x,h=>by simp at h
 | y :: ys,0,x,h=>by
  simp only[List.getElem?_cons_zero,Option.some.injEq] at h;subst h
  rw[List.flatMap_cons,Nat.zero_mul,List.drop_zero,List.take_left' (hf _)]
 | y :: ys,k+1,x,h=>by
  simp only[List.getElem?_cons_succ] at h
  rw[List.flatMap_cons,Nat.succ_mul,Nat.add_comm,← List.drop_drop,List.drop_left' (hf _)]
  exact rows_part hf h
theorem rows_at(hf:∀ x,(f x).length=sz) {ws:List α} {k:Nat} {x:α} (h:ws[k]?=some x) {o:Nat} (ho:o < sz):(ws.flatMap f)[k * sz+o]?=(f x)[o]?:=by
 rw[← rows_part hf h,List.getElem?_take,if_pos ho,List.getElem?_drop]
theorem rows_of(hf:∀ x,(f x).length=sz):∀ (n:Nat) {l:List AV},l.length=n * sz→(∀ k,k < n→∃ x,(l.drop (k * sz)).take sz=f x)→∃ ws:List α,ws.length=n∧l=ws.flatMap f
 | 0,l,hl,_=>⟨[],rfl,by simp at hl;simp[hl]⟩
 | n+1,l,hl,h=>by
  obtain⟨x,hx⟩:=h 0 (by omega)
  rw[Nat.zero_mul,List.drop_zero] at hx
  obtain⟨ws,h1,h2⟩:=rows_of hf n (l:=l.drop sz) (by rw[List.length_drop,hl,Nat.succ_mul];omega) (fun k hk=>by
   obtain⟨y,hy⟩:=h (k+1) (by omega)
   exact⟨y,by rw[← hy,List.drop_drop,Nat.succ_mul];congr 2;omega⟩)
  exact⟨x :: ws,by simp[h1],by rw[List.flatMap_cons,← h2,← hx,List.take_append_drop]⟩
section
variable {X:Type} {m:Mem X} {bytes j q n:Nat} {c:Option Nat} {sz':Nat} {ro:Bool} {l x:List AV}
theorem append_nils(hx:m[j]?=some (.cells sz' ro x)) (hl:x.length=sz) (h1:x.all AV.one=true) (hb:bytes≤35184372088832):appendA sz bytes .nils (.sl j 0 1 c) m=some (.sl m.length 0 1 none,m++[.cells sz false x]):=by
 have hr:rowOf m sz (.sl j 0 1 c)=some x:=by
  simp only[rowOf,getC,hx]
  rw[if_neg (by omega),if_pos (by omega),List.drop_zero,List.take_of_length_le (by omega)]
 simp only[appendA,lenA,hr]
 rw[if_neg (by omega),if_pos ⟨by omega,by omega,h1⟩]
theorem append_none(hq:m[q]?=some (.cells sz false l)) (hn:l.length=n * sz) (hx:m[j]?=some (.cells sz' ro x)) (hl:x.length=sz) (h0:l.all AV.one=true) (h1:x.all AV.one=true) (hb:(n+1) * bytes≤35184372088832) (hn1:n+1≤35184372088832) :
  appendA sz bytes (.sl q 0 n none) (.sl j 0 1 c) m=some (.sl m.length 0 (n+1) none,m.set q .dead++[.cells sz false (l++x)]):=by
 have hr:rowOf m sz (.sl j 0 1 c)=some x:=by
  simp only[rowOf,getC,hx]
  rw[if_neg (by omega),if_pos (by omega),List.drop_zero,List.take_of_length_le (by omega)]
 have ht:(l.drop 0).take (n * sz)=l:=by rw[List.drop_zero,List.take_of_length_le (by omega)]
 simp only[appendA,lenA,hr,getC,hq,ht]
 rw[if_neg (by omega),if_pos ⟨trivial,by omega,hb,hn1,by rw[List.all_append,h0,h1];rfl⟩]
end
def Own{X:Type} (m0 m:Mem X) (sz n:Nat) (l:List AV) (lv:AV):Prop:=(n=0∧l=[]∧lv = .nils)∨∃ q,lv = .sl q 0 n none∧m[q]?=some (.cells sz false l)∧m0.length≤q∧q < m.length
section
variable {X:Type} {m0 J:Mem X} {bytes j n:Nat} {c:Option Nat} {sz':Nat} {ro:Bool} {l x:List AV} {lv:AV}
end
end
end Go.Am
end
section
namespace Go.Am
section
variable {X:Type}
def Sl(m:Mem X) (wr:Bool) (sz n:Nat) (l:List AV) (v:AV):Prop :=
 l.length=n * sz∧((v = .nils∧n=0)∨∃ q o cap,v = .sl q o n cap∧(0 < n→∃ ro L,m[q]?=some (.cells sz ro L)∧(L.drop o).take (n * sz)=l∧o+n * sz≤L.length∧(wr=true→ro=false)))
def Keep(m m':Mem X):Prop:=m.length≤m'.length∧∀ i,i < m.length→m'[i]?=m[i]?
theorem Keep.refl(m:Mem X):Keep m m:=⟨Nat.le_refl _,fun _ _=>rfl⟩
theorem Keep.trans{m m' m'':Mem X} (h:Keep m m') (k:Keep m' m''):Keep m m'' :=
 ⟨Nat.le_trans h.1 k.1,fun i hi=>(k.2 i (Nat.lt_of_lt_of_le hi h.1)).trans (h.2 i hi)⟩
theorem Keep.app(m J:Mem X):Keep m (m++J):=⟨by simp,fun i hi=>List.getElem?_append_left hi⟩
theorem Keep.set{m m':Mem X} (h:Keep m m') {q:Nat} (hq:m.length≤q) (c:Chunk X):Keep m (m'.set q c) :=
 ⟨by simpa using h.1,fun i hi=>by rw[List.getElem?_set_ne (by omega)];exact h.2 i hi⟩
theorem Keep.get{m m':Mem X} (h:Keep m m') {i:Nat} {c:Chunk X} (hi:m[i]?=some c):m'[i]?=some c:=(h.2 i (List.getElem?_eq_some_iff.1 hi).1).trans hi
theorem Sl.keep{m m':Mem X} {wr:Bool} {sz n:Nat} {l:List AV} {v:AV} (h:Sl m wr sz n l v) (k:Keep m m'):Sl m' wr sz n l v:=by
 obtain⟨h0,h⟩:=h
 refine⟨h0,?_⟩
 rcases h with h|⟨q,o,cap,h1,h2⟩
 ·exact .inl h
 ·refine .inr ⟨q,o,cap,h1,fun hn=>?_⟩
  obtain⟨ro,L,h3,h4⟩:=h2 hn
  exact⟨ro,L,k.get h3,h4⟩
theorem Sl.ro{m:Mem X} {wr:Bool} {sz n:Nat} {l:List AV} {v:AV} (h:Sl m wr sz n l v):Sl m false sz n l v:=by
 obtain⟨h0,h⟩:=h
 refine⟨h0,?_⟩
 rcases h with h|⟨q,o,cap,h1,h2⟩
 ·exact .inl h
 ·refine .inr ⟨q,o,cap,h1,fun hn=>?_⟩
  obtain⟨ro,L,h3,h4,h5,_⟩:=h2 hn
  exact⟨ro,L,h3,h4,h5,fun h=>by cases h⟩
theorem Sl.len{m:Mem X} {wr:Bool} {sz n:Nat} {l:List AV} {v:AV} (h:Sl m wr sz n l v):lenA v=some n:=by
 rcases h.2 with⟨h1,rfl⟩|⟨q,o,cap,h1,_⟩<;>rw[h1]<;>rfl
theorem Sl.nil{m:Mem X} {wr:Bool} {sz:Nat}:Sl m wr sz 0 [] .nils:=⟨by simp,.inl ⟨rfl,rfl⟩⟩
theorem Sl.at{m:Mem X} {wr:Bool} {sz n:Nat} {l:List AV} {v:AV} (h:Sl m wr sz n l v) (hn:0 < n):∃ q o cap ro L,v = .sl q o n cap∧m[q]?=some (.cells sz ro L)∧(L.drop o).take (n * sz)=l∧o+n * sz≤L.length∧(wr=true→ro=false):=by
 rcases h.2 with⟨_,h1⟩|⟨q,o,cap,h1,h2⟩
 ·omega
 ·obtain⟨ro,L,h3⟩:=h2 hn
  exact⟨q,o,cap,ro,L,h1,h3⟩
theorem sl_get{L l:List AV} {o k:Nat} (h:(L.drop o).take k=l) {j:Nat} (hj:j < k):L[o+j]?=l[j]?:=by
 rw[← h,List.getElem?_take,if_pos hj,List.getElem?_drop]
theorem ev_len(G:List (Nat × AFun X)) (v:AV) (m:Mem X):amOp G .len [v] m=match lenA v with|some n=>some (.int .i64 n,m)|none=>none:=by
 simp only[amOp]
 cases lenA v<;>rfl
def Fr(n0:Nat) (v:AV):Prop:=v = .nils∨∃ q o n cap,v = .sl q o n cap∧n0≤q
theorem Own.sl{m0 m:Mem X} {sz n:Nat} {l:List AV} {v:AV} (h:Own m0 m sz n l v) (hl:l.length=n * sz):Sl m true sz n l v∧Fr m0.length v:=by
 rcases h with⟨rfl,rfl,rfl⟩|⟨q,rfl,h1,h2,h3⟩
 ·exact⟨Sl.nil,.inl rfl⟩
 ·exact⟨⟨hl,.inr ⟨q,0,none,rfl,fun _=>⟨false,l,h1,by rw[List.drop_zero,← hl,List.take_length],by omega,fun _=>rfl⟩⟩⟩,.inr ⟨q,0,n,none,rfl,h2⟩⟩
end
end Go.Am
end
section
namespace Go.Am.F15
variable {X:Type}
theorem ev_mlen{G:List (Nat × AFun X)} {x:AV} {m:Mem X}:amOp G .mlen [x] m=match tabOf m x with|some l=>some (.int .i64 l.length,m)|none=>none:=rfl
theorem ev_mget{G:List (Nat × AFun X)} {x z:AV} {k:Int} {ok:Bool} {m:Mem X}:amOp G (.mget ok z) [x,.int .i64 k] m=match tabOf m x with|some l=>some (mgetA ok z (tabGet k l),m)|none=>none:=rfl
theorem len_nil{m:Mem X}:c_fifo_Line_Len [.nilp] m=some (.int .i64 0,m):=by
 refine Fn_eq (Fn_of rfl ?_)
 simp(disch:=first|assumption|omega|(simp only[zl]<;>omega)|(simp only[zn])) only[fifo_Line_Len,↓zd,zk,seval,reduceIte,List.map,AV.cells,List.all,AV.one,eqV,eqAll,splice,fillA,List.replicate,resAll,resA]
theorem len_run{m:Mem X} {i z:Nat} {ro:Bool} {lk h t:AV} {tb:List (Int × Nat × AV)} (gi:m[i]?=some (.cells z ro [lk,h,t])) (gt:tabOf m lk=some tb):c_fifo_Line_Len [.ptr i 0] m=some (.int .i64 tb.length,m):=by
 refine Fn_eq (Fn_of rfl ?_)
 simp(disch:=first|assumption|omega|(simp only[zl]<;>omega)|(simp only[zn])) only[fifo_Line_Len,↓zd,zk,seval,reduceIte,List.map,AV.cells,List.all,AV.one,eqV,eqAll,splice,fillA,List.replicate,resAll,resA,gi,ev_mlen,gt]
theorem as1{g:Nat} {f:AFun X} {G:List (Nat × AFun X)}:assoc ((g,f) :: G) g=some f:=if_pos rfl
theorem head_nil{m:Mem X}:c_fifo_Line_Head [.nilp] m=some (.tup [.int .i64 0,.bool false],m):=by
 refine Fn_eq (Fn_of rfl ?_)
 simp(disch:=first|assumption|omega|(simp only[zl]<;>omega)|(simp only[zn])) only[fifo_Line_Head,↓zd,zk,seval,reduceIte,List.map,AV.cells,List.all,AV.one,eqV,eqAll,splice,fillA,List.replicate,resAll,resA,as1,len_nil]
theorem head_none{m:Mem X} {i z:Nat} {ro:Bool} {lk h t:AV} (gi:m[i]?=some (.cells z ro [lk,h,t])) (gt:tabOf m lk=some []):c_fifo_Line_Head [.ptr i 0] m=some (.tup [.int .i64 0,.bool false],m):=by
 have hl:c_fifo_Line_Len [.ptr i 0] m=some (.int .i64 0,m):=len_run gi gt
 refine Fn_eq (Fn_of rfl ?_)
 simp(disch:=first|assumption|omega|(simp only[zl]<;>omega)|(simp only[zn])) only[fifo_Line_Head,↓zd,zk,seval,reduceIte,List.map,AV.cells,List.all,AV.one,eqV,eqAll,splice,fillA,List.replicate,resAll,resA,as1,hl]
theorem head_run{m:Mem X} {i z:Nat} {ro:Bool} {lk t:AV} {h:AV} {e:Int × Nat × AV} {tb:List (Int × Nat × AV)} (gi:m[i]?=some (.cells z ro [lk,h,t])) (gt:tabOf m lk=some (e :: tb)):c_fifo_Line_Head [.ptr i 0] m=some (.tup [h,.bool true],m):=by
 have hl:c_fifo_Line_Len [.ptr i 0] m=some (.int .i64 ((tb.length:Int)+1),m):=len_run gi gt
 have h0:(((tb.length:Int)+1) == 0)=false:=by simp;omega
 refine Fn_eq (Fn_of rfl ?_)
 simp(disch:=first|assumption|omega|(simp only[zl]<;>omega)|(simp only[zn])) only[fifo_Line_Head,↓zd,zk,seval,reduceIte,List.map,AV.cells,List.all,AV.one,eqV,eqAll,splice,fillA,List.replicate,resAll,resA,as1,hl,gi,h0]
def GE:List (Nat × AFun X):=[(118,c_fifo_Line_Head),(252,c_pool_line_first)]
def eachA:AC:=match fifo_Line_each_1.body with | .seq a _=>a|_=>.skip
def eachB:AC:=match fifo_Line_each_1.body with | .seq _ (.block _ (.loop (.seq (.seq b _) _)))=>b|_=>.skip
def eachC:AC:=match fifo_Line_each_1.body with | .seq _ (.block _ (.loop (.seq (.seq _ c) _)))=>c|_=>.skip
def eachD:AC:=match fifo_Line_each_1.body with | .seq _ (.block _ (.loop (.seq _ d)))=>d|_=>.skip
theorem each_body:fifo_Line_each_1.body = .seq eachA (.block 0 (.loop (.seq (.seq eachB eachC) eachD))):=rfl
def At(M:Mem X) (fp:AV) (x:Int) (ok:Bool) (rest:List Int):Prop :=
 (ok=false∧rest=[])∨(ok=true∧∃ i z ro lk h t tb n,fp = .ptr i 0∧M[i]?=some (.cells z ro [lk,.int .i64 h,.int .i64 t])∧tabOf M lk=some tb∧chase tb n x=some rest)
theorem eachA_run{M:Mem X} {l b z:Nat} {ro:Bool} {fp:AV} {xs:List Int} (hb:M[b]?=some (.cells z ro [fp])) (hr:lineRows M fp=some xs) :
  W GE eachA (fun x e' m'=>∃ x0 ok,x = .normal∧e'=[.yld l,.ptr b 0,.int .i64 x0,.bool ok,.skip,.skip]∧m'=M∧At M fp x0 ok xs) [.yld l,.ptr b 0,.skip,.skip,.skip,.skip] M:=by
 have a118:assoc (GE (X:=X)) 118=some c_fifo_Line_Head:=rfl
 generalize (GE (X:=X))=G at a118 ⊢
 unfold lineRows at hr
 split at hr
 ·injection hr with hr;subst hr
  simp(disch:=first|assumption|omega|(simp only[zl]<;>omega)|(simp only[zn])) only[eachA,fifo_Line_each_1,↓zd,zk,seval,reduceIte,List.map,AV.cells,List.all,AV.one,eqV,eqAll,splice,fillA,List.replicate,resAll,resA,hb,a118,head_nil]
  exact⟨_,_,rfl,.inl ⟨rfl,rfl⟩⟩
 ·rename_i i
  split at hr
  ·rename_i z' ro' cs hg
   have gi:=getC_some hg
   unfold lineCs at hr
   split at hr
   ·rename_i lk h t
    split at hr
    ·rename_i ht
     injection hr with hr;subst hr
     simp(disch:=first|assumption|omega|(simp only[zl]<;>omega)|(simp only[zn])) only[eachA,fifo_Line_each_1,↓zd,zk,seval,reduceIte,List.map,AV.cells,List.all,AV.one,eqV,eqAll,splice,fillA,List.replicate,resAll,resA,hb,a118,head_none gi ht]
     exact⟨_,_,rfl,.inl ⟨rfl,rfl⟩⟩
    ·rename_i e tb ht
     simp(disch:=first|assumption|omega|(simp only[zl]<;>omega)|(simp only[zn])) only[eachA,fifo_Line_each_1,↓zd,zk,seval,reduceIte,List.map,AV.cells,List.all,AV.one,eqV,eqAll,splice,fillA,List.replicate,resAll,resA,hb,a118,head_run gi ht]
     exact⟨_,_,rfl,.inr ⟨rfl,i,z',ro',lk,h,t,e :: tb,_,rfl,gi,ht,hr⟩⟩
    ·cases hr
   ·cases hr
  ·cases hr
 ·cases hr
theorem eachB_run{M:Mem X} {l b:Nat} {x:Int} {u v:AV}:W GE (.seq eachB eachC) (fun x e' m'=>x = .exit 0∧m'=M) [.yld l,.ptr b 0,.int .i64 x,.bool false,u,v] M:=by
 simp(disch:=first|assumption|omega|(simp only[zl]<;>omega)|(simp only[zn])) only[eachB,eachC,fifo_Line_each_1,↓zd,zk,seval,reduceIte,List.map,AV.cells,List.all,AV.one,eqV,eqAll,splice,fillA,List.replicate,resAll,resA]
theorem eachD_run{M:Mem X} {l b z:Nat} {ro:Bool} {fp:AV} {x:Int} {rest:List Int} {u v:AV} (hb:M[b]?=some (.cells z ro [fp])) (hr:At M fp x true rest) :
  ∃ rest',rest=x :: rest'∧W GE eachD (fun y e' m'=>∃ x0 ok w u,y = .normal∧e'=[.yld l,.ptr b 0,.int .i64 x0,.bool ok,w,u]∧(∃ K,m'=M++K)∧At M fp x0 ok rest') [.yld l,.ptr b 0,.int .i64 x,.bool true,u,v] M:=by
 obtain⟨h,_⟩|⟨_,i,z',ro',lk,h,t,tb,n,rfl,gi,ht,hc⟩:=hr
 ·cases h
 cases n with
 | zero=>cases hc
 | succ n =>
 simp only[chase,zlink] at hc
 split at hc
 ·rename_i a b' ia ib hl
  have lb:=(List.getElem?_eq_some_iff.1 hb).1
  have li:=(List.getElem?_eq_some_iff.1 gi).1
  cases ib with
  | true =>
   simp only[if_true] at hc
   split at hc
   ·rename_i r hr
    injection hc with hc;subst hc
    refine⟨r,rfl,?_⟩
    simp(disch:=first|assumption|omega|(simp only[zl]<;>omega)|(simp only[zn])) only[eachD,fifo_Line_each_1,↓zd,zk,seval,reduceIte,List.map,AV.cells,List.all,AV.one,eqV,eqAll,splice,fillA,List.replicate,resAll,resA,zm,zg,hb,gi,ev_mget,ht,mgetA,hl]
    exact⟨_,_,_,_,rfl,⟨_,rfl⟩,.inr ⟨rfl,i,z',ro',lk,h,t,tb,n,rfl,gi,ht,hr⟩⟩
   ·cases hc
  | false =>
   simp only[Bool.false_eq_true,if_false] at hc
   injection hc with hc;subst hc
   refine⟨[],rfl,?_⟩
   simp(disch:=first|assumption|omega|(simp only[zl]<;>omega)|(simp only[zn])) only[eachD,fifo_Line_each_1,↓zd,zk,seval,reduceIte,List.map,AV.cells,List.all,AV.one,eqV,eqAll,splice,fillA,List.replicate,resAll,resA,zm,zg,hb,gi,ev_mget,ht,mgetA,hl]
   exact⟨_,_,_,_,rfl,⟨_,rfl⟩,.inl ⟨rfl,rfl⟩⟩
 ·cases hc
end Go.Am.F15
end
section
namespace Go.Am.F15
abbrev Tab:=List (Int × Nat × AV)
def tks(l:Tab):List Int:=l.map (·.1)
theorem get_iff{k:Int}:∀ {l:Tab},(∃ v,tabGet k l=some v) ↔ k ∈ tks l
 | []=>by simp[tabGet,tks]
 | (a,b,w) :: l=>by
  by_cases h:k=a
  ·subst h;simp[tabGet,tks]
  ·have:=get_iff (k:=k) (l:=l)
   simp only[tabGet,if_neg h,tks,List.map_cons,List.mem_cons,this]
   simp[h,tks]
theorem get_none{k:Int} {l:Tab}:tabGet k l=none ↔ k ∉ tks l:=by
 rw[← get_iff]
 cases tabGet k l<;>simp
theorem born_none{k:Int}:∀ {l:Tab},tabGet k l=none→tabBorn k l=none
 | [],_=>rfl
 | (a,b,w) :: l,h=>by
  by_cases e:k=a
  ·simp[tabGet,e] at h
  ·simp only[tabGet,if_neg e] at h
   simp only[tabBorn,if_neg e]
   exact born_none h
theorem get_set(k k':Int) (v:AV) (c:Nat):∀ l:Tab,tabGet k (tabSet k' v c l)=if k=k' then some v else tabGet k l
 | []=>by simp only[tabSet,tabGet]
 | (a,b,w) :: l=>by
  simp only[tabSet]
  split
  ·rename_i h;subst h
   simp only[tabGet]
   split<;>rfl
  ·rename_i h
   simp only[tabGet,get_set k k' v c l]
   by_cases h1:k=a
   ·subst h1
    rw[if_pos rfl,if_neg (fun e=>h e.symm),if_pos rfl]
   ·rw[if_neg h1,if_neg h1]
theorem keys_set{k:Int} {v:AV} {c:Nat}:∀ {l:Tab},k ∈ tks l→tks (tabSet k v c l)=tks l
 | [],h=>by simp[tks] at h
 | (a,b,w) :: l,h=>by
  simp only[tabSet]
  split
  ·rename_i e;subst e;rfl
  ·rename_i e
   have:k ∈ tks l:=by
    simp only[tks,List.map_cons,List.mem_cons] at h
    rcases h with h|h
    ·exact absurd h e
    ·exact h
   simp only[tks,List.map_cons,List.cons.injEq,true_and]
   exact keys_set this
theorem born_set{k:Int} {v:AV} {c d:Nat}:∀ {l:Tab},k ∈ tks l→(∀ e ∈ l,e.2.1 < d)→∀ e ∈ tabSet k v c l,e.2.1 < d
 | [],h,_=>by simp[tks] at h
 | (a,b,w) :: l,h,hb=>by
  simp only[tabSet]
  split
  ·intro e he
   simp only[List.mem_cons] at he
   rcases he with rfl|he
   ·exact hb (a,b,w) List.mem_cons_self
   ·exact hb e (List.mem_cons_of_mem _ he)
  ·rename_i hne
   have:k ∈ tks l:=by
    simp only[tks,List.map_cons,List.mem_cons] at h
    rcases h with h|h
    ·exact absurd h hne
    ·exact h
   intro e he
   simp only[List.mem_cons] at he
   rcases he with rfl|he
   ·exact hb _ List.mem_cons_self
   ·exact born_set this (fun e he=>hb e (List.mem_cons_of_mem _ he)) e he
theorem keys_del{k:Int}:∀ {l:Tab},tks (tabDel k l)=(tks l).erase k
 | []=>rfl
 | (a,b,w) :: l=>by
  simp only[tabDel]
  split
  ·rename_i h;subst h;simp[tks]
  ·rename_i h
   simp only[tks,List.map_cons]
   rw[List.erase_cons_tail (by simpa using fun e=>h e.symm)]
   simp only[List.cons.injEq,true_and]
   exact keys_del
theorem get_del{k k':Int}:∀ {l:Tab},(tks l).Nodup→tabGet k (tabDel k' l)=if k=k' then none else tabGet k l
 | [],_=>by simp[tabDel,tabGet]
 | (a,b,w) :: l,h=>by
  simp only[tks,List.map_cons,List.nodup_cons] at h
  simp only[tabDel]
  split
  ·rename_i e;subst e
   split
   ·rename_i e;subst e;exact get_none.2 h.1
   ·rename_i e;simp only[tabGet,if_neg e]
  ·rename_i e
   simp only[tabGet,get_del (k:=k) (k':=k') h.2]
   by_cases e1:k=a
   ·subst e1;rw[if_pos rfl,if_neg (fun h=>e h.symm),if_pos rfl]
   ·rw[if_neg e1,if_neg e1]
theorem mem_del{k:Int} {e:Int × Nat × AV}:∀ {l:Tab},e ∈ tabDel k l→e ∈ l
 | [],h=>h
 | (a,b,w) :: l,h=>by
  simp only[tabDel] at h
  split at h
  ·exact List.mem_cons_of_mem _ h
  ·simp only[List.mem_cons] at h ⊢
   rcases h with h|h
   ·exact .inl h
   ·exact .inr (mem_del h)
theorem put_new{x:Int} {c:Nat} {z v:AV}:∀ {l:Tab},(∀ e ∈ l,e.2.1 < c)→tabPut (c:Int) v (l++[(x,c,z)])=some (l++[(x,c,v)])
 | [],_=>by simp[tabPut]
 | (a,b,w) :: l,h=>by
  have h1:b < c:=h _ List.mem_cons_self
  have:=put_new (x:=x) (z:=z) (v:=v) (fun e he=>h e (List.mem_cons_of_mem _ he))
  simp only[List.cons_append,tabPut]
  rw[if_neg (by omega),this]
theorem get_app{k x:Int} {c:Nat} {v:AV}:∀ {l:Tab},tabGet k (l++[(x,c,v)])=match tabGet k l with|some u=>some u|none=>if k=x then some v else none
 | []=>by simp[tabGet]
 | (a,b,w) :: l=>by
  simp only[List.cons_append,tabGet]
  split
  ·rfl
  ·exact get_app
def lkv(p q:List Int) (a b:Int):AV:=.agg [.int .i64 a,.int .i64 b,.bool (!p.isEmpty),.bool (!q.isEmpty)]
def Lk(xs:List Int) (k:Int) (v:AV):Prop:=∃ p q a b,xs=p++k :: q∧v=lkv p q a b∧(∀ y r,p=r++[y]→a=y)∧(∀ y r,q=y :: r→b=y)
structure Ln (tb:Tab) (c:Nat) (h t:Int) (xs:List Int):Prop where
 nd:xs.Nodup
 keys:(tks tb).Perm xs
 born:∀ e ∈ tb,e.2.1 < c
 link:∀ k v,tabGet k tb=some v→Lk xs k v
 head:∀ x r,xs=x :: r→h=x
 tail:∀ x r,xs=r++[x]→t=x
theorem split_one{x:Int}:∀ {p q p' q':List Int},(p++x :: q).Nodup→p++x :: q=p'++x :: q'→p=p'∧q=q'
 | [],q,[],q',_,h=>by simpa using h
 | [],q,y :: p',q',nd,h=>by
  simp only[List.nil_append,List.cons_append,List.cons.injEq] at h
  obtain⟨rfl,rfl⟩:=h
  simp at nd
 | y :: p,q,[],q',nd,h=>by
  simp only[List.nil_append,List.cons_append,List.cons.injEq] at h
  obtain⟨rfl,rfl⟩:=h
  simp at nd
 | y :: p,q,z :: p',q',nd,h=>by
  simp only[List.cons_append,List.cons.injEq] at h
  obtain⟨rfl,h⟩:=h
  simp only[List.cons_append,List.nodup_cons] at nd
  obtain⟨rfl,rfl⟩:=split_one nd.2 h
  exact⟨rfl,rfl⟩
section
variable {tb:Tab} {c:Nat} {h t:Int} {xs:List Int}
theorem Ln.len(H:Ln tb c h t xs):tb.length=xs.length:=by
 have:=H.keys.length_eq
 simpa [tks] using this
theorem Ln.mem(H:Ln tb c h t xs) {k:Int}:(∃ v,tabGet k tb=some v) ↔ k ∈ xs:=get_iff.trans H.keys.mem_iff
theorem Ln.none(H:Ln tb c h t xs) {k:Int}:tabGet k tb=none ↔ k ∉ xs:=by rw[get_none,H.keys.mem_iff]
theorem Ln.isSome(H:Ln tb c h t xs) (k:Int):(tabGet k tb).isSome=decide (k ∈ xs):=by
 by_cases hk:k ∈ xs
 ·obtain⟨v,hv⟩:=H.mem.2 hk
  rw[hv];simp[hk]
 ·rw[H.none.2 hk];simp[hk]
theorem Ln.at(H:Ln tb c h t xs) {p q:List Int} {x:Int} (hx:xs=p++x :: q):∃ a b,tabGet x tb=some (lkv p q a b)∧(∀ y r,p=r++[y]→a=y)∧(∀ y r,q=y :: r→b=y):=by
 obtain⟨v,hv⟩:=H.mem.2 (show x ∈ xs by rw[hx];simp)
 obtain⟨p',q',a,b,h1,rfl,h2,h3⟩:=H.link x v hv
 obtain⟨rfl,rfl⟩:=split_one (hx ▸ H.nd) (hx.symm.trans h1)
 exact⟨a,b,hv,h2,h3⟩
theorem Ln.shape(H:Ln tb c h t xs) (k:Int):∃ a b ia ib,(tabGet k tb).getD zlink = .agg [.int .i64 a,.int .i64 b,.bool ia,.bool ib]:=by
 cases hg:tabGet k tb with
 | none=>exact⟨_,_,_,_,rfl⟩
 | some v =>
  obtain⟨p,q,a,b,_,rfl,_⟩:=H.link k v hg
  exact⟨_,_,_,_,rfl⟩
theorem Ln.chase(H:Ln tb c h t xs):∀ (q:List Int) {p:List Int} {x:Int} {n:Nat},xs=p++x :: q→q.length < n→chase tb n x=some (x :: q)
 | [],p,x,n+1,hx,_=>by
  obtain⟨a,b,hv,_,_⟩:=H.at hx
  simp only[Go.Am.chase,hv,Option.getD_some,lkv]
  simp
 | y :: q,p,x,n+1,hx,hn=>by
  obtain⟨a,b,hv,_,h3⟩:=H.at hx
  obtain rfl:=h3 y q rfl
  have:=Ln.chase H q (p:=p++[x]) (x:=b) (n:=n) (by rw[hx];simp) (by simp at hn;omega)
  simp only[Go.Am.chase,hv,Option.getD_some,lkv]
  simp[this]
theorem Ln.nil(c:Nat) (h t:Int):Ln [] c h t []:=⟨List.nodup_nil,.refl _,fun e he=>by simp at he,fun k v hv=>by simp[tabGet] at hv,fun x r h=>by simp at h,fun x r h=>by simp at h⟩
theorem Ln.push_first(H:Ln tb c h t []) (x:Int) (t':Int):tb=[]∧Ln [(x,c,.agg [.int .i64 0,.int .i64 0,.bool false,.bool false])] (c+1) x x [x]:=by
 have h0:tb=[]:=List.eq_nil_of_length_eq_zero (by have:=H.len;simpa using this)
 refine⟨h0,by simp,.refl _,fun e he=>by simp at he;subst he;simp,fun k v hv=>?_,fun y r h=>by simp at h;exact h.1,fun y r h=>?_⟩
 ·simp only[tabGet] at hv
  split at hv
  ·rename_i hk;subst hk
   injection hv with hv;subst hv
   exact⟨[],[],0,0,rfl,rfl,fun y r h=>by simp at h,fun y r h=>by simp at h⟩
  ·cases hv
 ·cases r with
  | nil=>simpa using h
  | cons a r=>simp at h
theorem Ln.push(H:Ln tb c h t xs) {r:List Int} (hr:xs=r++[t]) {x:Int} (hx:x ∉ xs) {a b:Int} {c':Nat} (hv:tabGet t tb=some (lkv r [] a b)) (ha:∀ y s,r=s++[y]→a=y) :
  Ln (tabSet t (.agg [.int .i64 a,.int .i64 x,.bool (!r.isEmpty),.bool true]) c' tb++[(x,c,.agg [.int .i64 t,.int .i64 0,.bool true,.bool false])]) (c+1) h x (xs++[x]):=by
 have hkt:t ∈ tks tb:=get_iff.1 ⟨_,hv⟩
 have hxt:x≠t:=fun e=>hx (by rw[hr,e];simp)
 refine⟨?_,?_,fun e he=>?_,fun k v hk=>?_,fun y s hs=>?_,fun y s hs=>?_⟩
 ·rw[List.nodup_append]
  exact⟨H.nd,by simp,fun y hy z hz=>by simp at hz;subst hz;exact fun e=>hx (e ▸ hy)⟩
 ·have:tks (tabSet t (.agg [.int .i64 a,.int .i64 x,.bool (!r.isEmpty),.bool true]) c' tb++[(x,c,.agg [.int .i64 t,.int .i64 0,.bool true,.bool false])])=tks tb++[x]:=by
   unfold tks
   rw[List.map_append]
   exact congrArg (·++[x]) (keys_set hkt)
  rw[this]
  exact H.keys.append_right _
 ·rw[List.mem_append] at he
  rcases he with he|he
  ·have:=born_set hkt H.born e he;omega
  ·simp at he;subst he;simp
 ·rw[get_app,get_set] at hk
  by_cases e1:k=t
  ·subst e1
   rw[if_pos rfl] at hk
   injection hk with hk;subst hk
   refine⟨r,[x],a,x,by rw[hr];simp,by simp[lkv],ha,fun y s h=>by simp at h;exact h.1⟩
  ·rw[if_neg e1] at hk
   cases hg:tabGet k tb with
   | some u =>
    rw[hg] at hk
    injection hk with hk;subst hk
    obtain⟨p,q,a',b',h1,rfl,h2,h3⟩:=H.link k _ hg
    have hq:q≠[]:=fun e=>by
     subst e
     rw[h1] at hr
     exact e1 (List.append_inj_right' hr rfl |> fun h=>by simpa using h)
    obtain⟨z,q',rfl⟩:=List.exists_cons_of_ne_nil hq
    refine⟨p,z :: q'++[x],a',b',by rw[h1];simp,by simp[lkv],h2,fun y s h=>h3 y q' (by simp at h;rw[h.1])⟩
   | none =>
    rw[hg] at hk
    simp only at hk
    split at hk
    ·rename_i e;subst e
     injection hk with hk;subst hk
     refine⟨xs,[],t,0,rfl,?_,fun y s h=>?_,fun y s h=>by simp at h⟩
     ·have:xs.isEmpty=false:=by rw[hr];simp
      simp[lkv,this]
     ·rw[hr] at h
      exact(List.append_inj_right' h rfl |> fun h=>by simpa using h)
    ·cases hk
 ·cases xs with
  | nil=>simp at hr
  | cons z zs =>
   simp only[List.cons_append,List.cons.injEq] at hs
   rw[← hs.1];exact H.head z zs rfl
 ·have:=List.append_inj_right' hs rfl
  simpa using this
end
end Go.Am.F15
end
section
namespace Go.Am.F15
theorem Lk.drop{p q:List Int} {x k:Int} {v:AV} (h:Lk (p++x :: q) k v) (nd:(p++x :: q).Nodup) (hx:k≠x) (hp:∀ r,p≠r++[k]) (hq:∀ s,q≠k :: s):Lk (p++q) k v:=by
 obtain⟨p1,q1,a,b,h1,rfl,h2,h3⟩:=h
 rcases List.append_eq_append_iff.1 h1 with⟨l,e1,e2⟩|⟨l,e1,e2⟩
 ·cases l with
  | nil =>
   simp only[List.nil_append,List.cons.injEq] at e2
   exact absurd e2.1.symm hx
  | cons z l =>
   simp only[List.cons_append,List.cons.injEq] at e2
   obtain⟨rfl,e2⟩:=e2
   cases l with
   | nil =>
    simp only[List.nil_append] at e2
    exact absurd e2 (hq _)
   | cons y l =>
    subst e1
    refine⟨p++y :: l,q1,a,b,by rw[e2];simp,?_,fun w r hw=>?_,h3⟩
    ·have h5:(p++x :: y :: l).isEmpty=false:=by cases p<;>rfl
     have h6:(p++y :: l).isEmpty=false:=by cases p<;>rfl
     simp only[lkv,h5,h6]
    ·rcases List.eq_nil_or_concat (y :: l) with h|⟨l',z',h⟩
     ·cases h
     ·rw[h] at hw h2
      have hz:z'=w:=by
       have:=List.append_inj_right' (show (p++l')++[z']=r++[w] by simpa using hw) rfl
       simpa using this
      exact(h2 z' (p++x :: l') (by simp)).trans hz
 ·cases l with
  | nil =>
   simp only[List.nil_append,List.cons.injEq] at e2
   exact absurd e2.1 hx
  | cons z l =>
   simp only[List.cons_append,List.cons.injEq] at e2
   obtain⟨rfl,e2⟩:=e2
   cases l with
   | nil=>exact absurd e1 (hp _)
   | cons y l =>
    subst e1;subst e2
    refine⟨p1,y :: l++q,a,b,by simp,by simp[lkv],h2,fun w s hw=>h3 w (l++x :: q) ?_⟩
    simp only[List.cons_append,List.cons.injEq] at hw ⊢
    exact⟨hw.1,trivial⟩
section
variable {tb:Tab} {c:Nat} {h t:Int} {p q:List Int} {x a b:Int}
theorem Ln.cut(H:Ln tb c h t (p++x :: q)) {tb3:Tab} {h3 t3:Int} (hk:tks tb3=(tks tb).erase x) (hb:∀ e ∈ tb3,e.2.1 < c) (hg:∀ k v,tabGet k tb3=some v→Lk (p++q) k v)
  (hh:∀ y r,p++q=y :: r→h3=y) (ht:∀ y r,p++q=r++[y]→t3=y):Ln tb3 c h3 t3 (p++q):=by
 have nd:=H.nd
 rw[List.nodup_append] at nd
 obtain⟨n1,n2,n3⟩:=nd
 rw[List.nodup_cons] at n2
 have hxp:x ∉ p:=fun hm=>n3 x hm x (by simp) rfl
 refine⟨?_,?_,hb,hg,hh,ht⟩
 ·rw[List.nodup_append]
  exact⟨n1,n2.2,fun y hy z hz=>n3 y hy z (by simp[hz])⟩
 ·rw[hk]
  refine(H.keys.erase x).trans ?_
  rw[List.erase_append_right _ hxp,List.erase_cons_head]
theorem Ln.none_x(H:Ln tb c h t (p++x :: q)) {k:Int} {v:AV} (hg:tabGet k (tabDel x tb)=some v):k≠x∧tabGet k tb=some v:=by
 have nd:(tks tb).Nodup:=H.keys.nodup_iff.2 H.nd
 rw[get_del nd] at hg
 split at hg
 ·cases hg
 ·exact⟨‹_›,hg⟩
theorem Ln.cut00(H:Ln tb c h t ([]++x :: [])) (b' a':Int):Ln (tabDel x tb) c b' a' ([]++[]) :=
 H.cut keys_del (fun e he=>H.born e (mem_del he)) (fun k v hg=>by
  obtain⟨h1,h2⟩:=H.none_x hg
  exact(H.link k v h2).drop H.nd h1 (fun r e=>by simp at e) (fun s e=>by cases e)) (fun y r e=>by cases e) (fun y r e=>by simp at e)
theorem Ln.getp(H:Ln tb c h t (p++x :: q)) {r:List Int} {a:Int} (hp:p=r++[a]):∃ a2,tabGet a (tabDel x tb)=some (.agg [.int .i64 a2,.int .i64 x,.bool (!r.isEmpty),.bool true])∧(∀ y s,r=s++[y]→a2=y)∧a≠x:=by
 obtain⟨a2,b2,h1,h2,h3⟩:=H.at (p:=r) (x:=a) (q:=x :: q) (by rw[hp];simp)
 obtain rfl:=h3 x q rfl
 have hne:a≠b2:=fun e=>by
  have:=H.nd
  rw[hp,e,List.append_assoc,List.nodup_append] at this
  have:=this.2.1
  simp at this
 have nd:(tks tb).Nodup:=H.keys.nodup_iff.2 H.nd
 exact⟨a2,by rw[get_del nd,if_neg hne,h1];rfl,h2,hne⟩
theorem Ln.getq(H:Ln tb c h t (p++x :: q)) {s:List Int} {b:Int} (hq:q=b :: s):∃ a3 b3,tabGet b (tabDel x tb)=some (.agg [.int .i64 a3,.int .i64 b3,.bool true,.bool (!s.isEmpty)])∧(∀ y s',s=y :: s'→b3=y)∧b≠x:=by
 obtain⟨a3,b3,h1,h2,h3⟩:=H.at (p:=p++[x]) (x:=b) (q:=s) (by rw[hq];simp)
 have hne:b≠x:=fun e=>by
  have:=H.nd
  rw[hq,e,List.nodup_append] at this
  have:=this.2.1
  simp at this
 have nd:(tks tb).Nodup:=H.keys.nodup_iff.2 H.nd
 refine⟨a3,b3,?_,h3,hne⟩
 rw[get_del nd,if_neg hne,h1]
 have:(p++[x]).isEmpty=false:=by cases p<;>rfl
 simp[lkv,this]
theorem Ln.cut10{r:List Int} (H:Ln tb c h t (r++[a]++x :: [])) {a2 b':Int} {c':Nat} (hg:tabGet a (tabDel x tb)=some (.agg [.int .i64 a2,.int .i64 x,.bool (!r.isEmpty),.bool true])) (h2:∀ y s,r=s++[y]→a2=y) :
  Ln (tabSet a (.agg [.int .i64 a2,.int .i64 b',.bool (!r.isEmpty),.bool false]) c' (tabDel x tb)) c h a (r++[a]++[]):=by
 have hm:a ∈ tks (tabDel x tb):=get_iff.1 ⟨_,hg⟩
 refine H.cut (by rw[keys_set hm,keys_del]) (born_set hm fun e he=>H.born e (mem_del he)) (fun k v hk=>?_) (fun y s e=>?_) (fun y s e=>?_)
 ·rw[get_set] at hk
  split at hk
  ·rename_i e;subst e
   injection hk with hk;subst hk
   exact⟨r,[],a2,b',by simp,by simp[lkv],h2,fun y s h=>by simp at h⟩
  ·rename_i hka
   obtain⟨h3,h4⟩:=H.none_x hk
   exact(H.link k v h4).drop H.nd h3 (fun s e=>hka (by have:=List.append_inj_right' e rfl;simpa using this.symm)) (fun s e=>by cases e)
 ·cases r with
  | nil=>exact H.head y [x] (by simp at e ⊢;exact e.1)
  | cons z r=>exact H.head y (r++[a]++[x]) (by simp at e ⊢;exact e.1)
 ·have:=List.append_inj_right' (show r++[a]=s++[y] by simpa using e) rfl
  simpa using this
theorem Ln.cut01{s:List Int} (H:Ln tb c h t ([]++x :: (b :: s))) {a' a3 b3:Int} {c':Nat} (hg:tabGet b (tabDel x tb)=some (.agg [.int .i64 a3,.int .i64 b3,.bool true,.bool (!s.isEmpty)])) (h2:∀ y s',s=y :: s'→b3=y) :
  Ln (tabSet b (.agg [.int .i64 a',.int .i64 b3,.bool false,.bool (!s.isEmpty)]) c' (tabDel x tb)) c b t ([]++b :: s):=by
 have hm:b ∈ tks (tabDel x tb):=get_iff.1 ⟨_,hg⟩
 refine H.cut (by rw[keys_set hm,keys_del]) (born_set hm fun e he=>H.born e (mem_del he)) (fun k v hk=>?_) (fun y s' e=>?_) (fun y r e=>?_)
 ·rw[get_set] at hk
  split at hk
  ·rename_i e;subst e
   injection hk with hk;subst hk
   exact⟨[],s,a',b3,rfl,by simp[lkv],fun y r h=>by simp at h,h2⟩
  ·rename_i hkb
   obtain⟨h3,h4⟩:=H.none_x hk
   exact(H.link k v h4).drop H.nd h3 (fun r e=>by simp at e) (fun s' e=>hkb (by simp at e;exact e.1.symm))
 ·simp at e;exact e.1
 ·exact H.tail y (x :: r) (by simp at e ⊢;exact e)
theorem Ln.cut11{r s:List Int} (H:Ln tb c h t (r++[a]++x :: (b :: s))) {a2 a3 b3:Int} {c' c'':Nat} (hg:tabGet a (tabDel x tb)=some (.agg [.int .i64 a2,.int .i64 x,.bool (!r.isEmpty),.bool true])) (h2:∀ y s,r=s++[y]→a2=y)
  (hq:tabGet b (tabDel x tb)=some (.agg [.int .i64 a3,.int .i64 b3,.bool true,.bool (!s.isEmpty)])) (h3:∀ y s',s=y :: s'→b3=y) :
  a≠b∧Ln (tabSet b (.agg [.int .i64 a,.int .i64 b3,.bool true,.bool (!s.isEmpty)]) c'' (tabSet a (.agg [.int .i64 a2,.int .i64 b,.bool (!r.isEmpty),.bool true]) c' (tabDel x tb))) c h t (r++[a]++b :: s):=by
 have hab:a≠b:=fun e=>by
  have:=H.nd
  rw[e,List.nodup_append] at this
  exact this.2.2 b (by simp) b (by simp) rfl
 have hm:a ∈ tks (tabDel x tb):=get_iff.1 ⟨_,hg⟩
 have hm2:b ∈ tks (tabSet a (.agg [.int .i64 a2,.int .i64 b,.bool (!r.isEmpty),.bool true]) c' (tabDel x tb)):=by rw[keys_set hm];exact get_iff.1 ⟨_,hq⟩
 refine⟨hab,H.cut (by rw[keys_set hm2,keys_set hm,keys_del]) (born_set hm2 (born_set hm fun e he=>H.born e (mem_del he))) (fun k v hk=>?_) (fun y s' e=>?_) (fun y s' e=>?_)⟩
 ·rw[get_set,get_set] at hk
  split at hk
  ·rename_i e;subst e
   injection hk with hk;subst hk
   have h5:(r++[a]).isEmpty=false:=by cases r<;>rfl
   exact⟨r++[a],s,a,b3,rfl,by simp[lkv,h5],fun y s' h=>by have:=List.append_inj_right' h rfl;simpa using this,h3⟩
  ·rename_i hkb
   split at hk
   ·rename_i e;subst e
    injection hk with hk;subst hk
    exact⟨r,b :: s,a2,b,by simp,by simp[lkv],h2,fun y s' h=>by simp at h;exact h.1⟩
   ·rename_i hka
    obtain⟨h4,h5⟩:=H.none_x hk
    exact(H.link k v h5).drop H.nd h4 (fun s' e=>hka (by have:=List.append_inj_right' e rfl;simpa using this.symm)) (fun s' e=>hkb (by simp at e;exact e.1.symm))
 ·cases r with
  | nil=>exact H.head y (x :: b :: s) (by simp at e ⊢;exact e.1)
  | cons z r=>exact H.head y (r++[a]++x :: b :: s) (by simp at e ⊢;exact e.1)
 ·rcases List.eq_nil_or_concat (b :: s) with h|⟨l',z',h⟩
  ·cases h
  ·rw[h] at e
   have hz:z'=y:=by
    have:=List.append_inj_right' (show (r++[a]++l')++[z']=s'++[y] by simpa using e) rfl
    simpa using this
   rw[← hz]
   exact H.tail z' (r++[a]++x :: l') (by rw[h];simp)
end
end Go.Am.F15
end
section
namespace Go.Am.F10
variable {X:Type}
def c_conf_within:AFun X:=amFunc [] conf_within
def c_kit_Pick:AFun X:=amFunc [] kit_Pick
def c_docs_Made:AFun X:=amFunc [(87,c_kit_Pick)] docs_Made
end Go.Am.F10
end
section
namespace Go.Am.F10
variable {X:Type}
structure Cf where
 n:Int
 q:Int
 g:Int
 m:Int
 t:Int
 s:Int
def cfC(c:Cf):List AV:=[.int .i64 c.n,.int .i64 c.q,.int .i64 c.g,.int .i64 c.m,.int .i64 c.t,.int .i64 c.s]
def landI(a b:Int):Int:=IntKind.i64.wrap ((BitVec.ofInt 64 a &&& BitVec.ofInt 64 b).toNat:Int)
theorem evAnd(a b:Int):binI .and .i64 a b=some (.int .i64 (landI a b)):=rfl
def roomP(q:Int):Prop:=q=2∨q=4∨q=8∨q=16∨q=32∨q=64
def rightP(c:Cf):Prop:=(1≤c.n∧c.n≤8)∧roomP c.q∧(1≤c.g∧c.g≤256)∧(c.n+1≤c.m∧c.m≤16)∧(2≤c.t∧c.t≤200)∧(0≤c.s∧c.s≤1000)
instance (q:Int):Decidable (roomP q):=by unfold roomP;infer_instance
instance (c:Cf):Decidable (rightP c):=by unfold rightP;infer_instance
theorem land_room{q:Int} (h1:2≤q) (h2:q≤64):landI q (q - 1)=0 ↔ roomP q:=by
 have key:∀ k:Fin 65,2≤k.val→(landI (k.val:Int) ((k.val:Int) - 1)=0 ↔ roomP (k.val:Int)):=by decide +kernel
 have:=key ⟨q.toNat,by omega⟩ (by show 2≤q.toNat;omega)
 simp only at this
 rwa [show ((q.toNat:Nat):Int)=q by omega] at this
def inB(a lo hi:Int):Bool:=decide (lo≤a) && decide (a≤hi)
theorem inB_iff{a lo hi:Int}:inB a lo hi=true ↔ lo≤a∧a≤hi:=by simp[inB]
theorem within_run{G:List (Nat × AFun X)} {m:Mem X} (a lo hi:Int):Fn G conf_within [.int .i64 a,.int .i64 lo,.int .i64 hi] m (fun r m'=>r = .bool (inB a lo hi)∧m'=m):=by
 refine Fn_of rfl ?_
 unfold inB
 simp(disch:=first|assumption|omega|(simp only[zl]<;>omega)|(simp only[zn])) only[conf_within,↓zd,zk,seval,reduceIte,List.map,AV.cells,List.all,AV.one,eqV,eqAll,splice,fillA,List.replicate,resAll,resA]
 repeat' ((first|refine GK_of (fun h=>?_) (fun h=>?_)|refine CW_of (fun h=>?_) (fun h=>?_)|refine GKT_of (fun h=>?_) (fun h=>?_))<;>(try simp only[Bool.not_eq_true',Bool.not_eq_false',decide_eq_true_eq,decide_eq_false_iff_not,Bool.and_eq_true,Bool.or_eq_true,Bool.and_eq_false_iff,Bool.or_eq_false_iff,Decidable.not_not] at h)<;>(try simp(disch:=first|assumption|omega|(simp only[zl]<;>omega)|(simp only[zn])) only[↓zd,zk,seval,reduceIte,List.map,AV.cells,List.all,AV.one,eqV,eqAll,splice,fillA,List.replicate,resAll,resA]))
 all_goals (try simp_all)
def rightB(c:Cf):Bool:=inB c.n 1 8 && (inB c.q 2 64 && (decide (landI c.q (IntKind.i64.wrap (c.q - 1))=0) && (inB c.g 1 256 && (inB c.m (IntKind.i64.wrap (c.n+1)) 16 && (inB c.t 2 200 && inB c.s 0 1000)))))
theorem rightB_eq(c:Cf):rightB c=decide (rightP c):=by
 unfold rightB
 rw[Bool.eq_iff_iff]
 simp only[Bool.and_eq_true,inB_iff,decide_eq_true_eq]
 constructor
 ·rintro⟨h1,h2,h3,h4,h5,h6,h7⟩
  rw[wrapI (by omega) (by omega)] at h3 h5
  exact⟨h1,(land_room h2.1 h2.2).1 h3,h4,h5,h6,h7⟩
 ·rintro⟨h1,h2,h4,h5,h6,h7⟩
  have hq:2≤c.q∧c.q≤64:=by unfold roomP at h2;omega
  rw[wrapI (x:=c.q - 1) (by omega) (by omega),wrapI (x:=c.n+1) (by omega) (by omega)]
  exact⟨h1,hq,(land_room hq.1 hq.2).2 h2,h4,h5,h6,h7⟩
set_option maxHeartbeats 8000000 in
theorem right_run{m:Mem X} (c:Cf):Fn [(176,c_conf_within)] conf_Config_Right [.agg (cfC c)] m (fun r m'=>r = .bool (decide (rightP c))∧m'=m++[.cells 6 false (cfC c)]):=by
 have a176:assoc [(176,c_conf_within (X:=X))] 176=some c_conf_within:=rfl
 generalize [(176,c_conf_within (X:=X))]=G at a176
 have hw:=fun(m:Mem X) a lo hi=>Fn_eq (within_run (G:=[]) (m:=m) a lo hi)
 refine Fn_of rfl ?_
 simp(disch:=first|assumption|omega|(simp only[zl]<;>omega)|(simp only[zn])) only[conf_Config_Right,↓zd,zk,seval,reduceIte,List.map,AV.cells,List.all,AV.one,eqV,eqAll,splice,fillA,List.replicate,resAll,resA,zm,zg,cfC,a176,c_conf_within,hw,evAnd]
 repeat' ((first|refine GK_of (fun h=>?_) (fun h=>?_)|refine CW_of (fun h=>?_) (fun h=>?_)|refine GKT_of (fun h=>?_) (fun h=>?_))<;>(try simp only[Bool.not_eq_true',Bool.not_eq_false',decide_eq_true_eq,decide_eq_false_iff_not,Bool.and_eq_true,Bool.or_eq_true,Bool.and_eq_false_iff,Bool.or_eq_false_iff,Decidable.not_not] at h)<;>(try simp(disch:=first|assumption|omega|(simp only[zl]<;>omega)|(simp only[zn])) only[↓zd,zk,seval,reduceIte,List.map,AV.cells,List.all,AV.one,eqV,eqAll,splice,fillA,List.replicate,resAll,resA,zm,zg,cfC,a176,c_conf_within,hw,evAnd,h]))
 all_goals (rw[← rightB_eq];simp_all[rightB])
def thereP(c:Cf) (p:Int):Prop:=rightP c∧0≤p∧p < c.n
instance (c:Cf) (p:Int):Decidable (thereP c p):=by unfold thereP;infer_instance
def addrA(c:Cf) (p i:Int):Int:=if thereP c p then 4+p * (6+c.q)+i else -1
theorem there_bounds{c:Cf} {p:Int} (h:thereP c p):1≤c.n∧c.n≤8∧2≤c.q∧c.q≤64∧0≤p∧p < 8:=by
 obtain⟨⟨h1,h2,_⟩,h3,h4⟩:=h
 unfold roomP at h2
 omega
theorem mul_bounds{p q:Int} (h1:0≤p) (h2:p < 8) (h3:0≤q) (h4:q≤70):0≤p * q∧p * q≤490:=by
 have h5:p * q≤7 * 70:=Int.mul_le_mul (by omega) h4 h3 (by omega)
 exact⟨Int.mul_nonneg h1 h3,by omega⟩
def getC(c:Cf) (p a w seen:Int) (has:Bool) (tries:Int):List AV:=cfC c++[.int .i64 p,.int .i64 a,.int .u64 w,.int .i64 seen,.bool has,.int .i64 tries]
theorem pick_run{G:List (Nat × AFun X)} {m:Mem X} (i n:Int) (hn:0 < n) (hn2:n≤100000):Fn G kit_Pick [.int .i64 i,.int .i64 n] m (fun r m'=>r = .int .i64 (i % n)∧m'=m):=by
 refine Fn_of rfl ?_
 have h1:=Int.emod_nonneg i (b:=n) (by omega)
 have h2:=Int.emod_lt_of_pos i hn
 have ht:(IntKind.i64.wrap (i.tmod n+n)).tmod n=i % n:=by
  have h3:-n < i.tmod n∧i.tmod n < n:=by
   refine⟨?_,Int.tmod_lt_of_pos i hn⟩
   have:=Int.tmod_lt_of_pos (-i) hn
   rw[Int.neg_tmod] at this
   omega
  rw[wrapI (by omega) (by omega),Int.tmod_eq_emod_of_nonneg (by omega)]
  have hd:i.tmod n+n=i+n * (1 - i.tdiv n):=by
   have:=Int.mul_tdiv_add_tmod i n
   rw[Int.mul_sub,Int.mul_one];omega
  rw[hd,Int.add_mul_emod_self_left]
 simp(disch:=first|assumption|omega|(simp only[zl]<;>omega)|(simp only[zn])) only[kit_Pick,↓zd,zk,seval,reduceIte,List.map,AV.cells,List.all,AV.one,eqV,eqAll,splice,fillA,List.replicate,resAll,resA,zm,zg,ht]
end Go.Am.F10
end
section
namespace Go.Am.F10
variable {X:Type}
end Go.Am.F10
end
section
namespace Go.Am.F10
variable {X:Type}
theorem pick_eq(m:Mem X) (i n:Int) (hn:0 < n) (hn2:n≤100000):c_kit_Pick [.int .i64 i,.int .i64 n] m=some (.int .i64 (i % n),m):=Fn_eq (pick_run i n hn hn2)
end Go.Am.F10
end
