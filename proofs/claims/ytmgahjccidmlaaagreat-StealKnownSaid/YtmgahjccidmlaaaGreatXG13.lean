import Derived.Test.YtmgahjccidmlaaaGreatXG12
set_option linter.unusedSimpArgs false
set_option linter.unusedVariables false
section
namespace Go.Am
section
variable {X:Type} {G:List (Nat × AFun X)}
def OB(x:Option (AV × Mem X)) (K:AV→Mem X→Prop):Prop:=∃ v m,x=some (v,m)∧K v m
theorem OB_some{v:AV} {m:Mem X} {K:AV→Mem X→Prop}:OB (some (v,m)) K=K v m:=by
 apply propext
 constructor
 ·rintro⟨v',m',h,hk⟩
  simp only[Option.some.injEq,Prod.mk.injEq] at h
  obtain⟨rfl,rfl⟩:=h
  exact hk
 ·intro h;exact⟨v,m,rfl,h⟩
theorem OB_none{K:AV→Mem X→Prop}:OB none K=False:=by simp[OB]
def WG(x:Option Bool) (K1 K2:Prop):Prop:=(x=some true∧K1)∨(x=some false∧K2)
theorem WG_none{j:List AV} {K1 K2:Prop}:WG (wantedA j none) K1 K2=K1:=by simp[WG,wantedA]
def WO(G:List (Nat × AFun X)):List AOper→(List AV→Mem X→Prop)→List AV→List AV→Mem X→Prop
 | [],Q,e,_,m=>Q e m
 | o :: os,Q,e,rt,m=>WG (wantedA rt o.guard) (OB (amOp G o.op (o.args.map (getS e rt)) m) fun v m'=>WO G os Q (putL e o.dst v) (rt++[v]) m')
   (WO G os Q (putL e o.dst .skip) (rt++[.skip]) m)
theorem WO_out:∀ {ops:List AOper} {Q:List AV→Mem X→Prop} {e rt:List AV} {m:Mem X},WO G ops Q e rt m→∃ e' m',amOps G ops e rt m=some (e',m')∧Q e' m'
 | [],Q,e,rt,m,h=>⟨e,m,rfl,h⟩
 | o :: os,Q,e,rt,m,h=>by
  unfold WO at h
  rcases h with⟨h1,v,m',h2,h3⟩|⟨h1,h3⟩
  ·obtain⟨e',m'',h4,h5⟩:=WO_out h3
   exact⟨e',m'',by simp only[amOps,h1,h2,h4],h5⟩
  ·obtain⟨e',m'',h4,h5⟩:=WO_out h3
   exact⟨e',m'',by simp only[amOps,h1,h4],h5⟩
def WT(G:List (Nat × AFun X)) (fin:List (Bool × List AV × AV × Mem X)→Mem X→Bool):List AOper→(List AV→Mem X→Prop)→List AV→List AV→Mem X→List (Bool × List AV × AV × Mem X)→Prop
 | [],Q,e,_,m,tr=>fin tr m=true∧Q e m
 | o :: os,Q,e,rt,m,tr=>WG (wantedA rt o.guard) (OB (amOp G o.op (o.args.map (getS e rt)) m) fun v m'=>WT G fin os Q (putL e o.dst v) (rt++[v]) m' (tr++[(true,o.args.map (getS e rt),v,m)]))
   (WT G fin os Q (putL e o.dst .skip) (rt++[.skip]) m (tr++[(false,o.args.map (getS e rt),.skip,m)]))
theorem WT_out{fin:List (Bool × List AV × AV × Mem X)→Mem X→Bool}:∀ {ops:List AOper} {Q:List AV→Mem X→Prop} {e rt:List AV} {m:Mem X} {tr:List (Bool × List AV × AV × Mem X)},WT G fin ops Q e rt m tr →
  ∃ e' m' tr',amOpsT G ops e rt m=some (e',m',tr')∧fin (tr++tr') m'=true∧Q e' m'
 | [],Q,e,rt,m,tr,h=>⟨e,m,[],rfl,by simpa using h.1,h.2⟩
 | o :: os,Q,e,rt,m,tr,h=>by
  unfold WT at h
  rcases h with⟨h1,v,m',h2,h3⟩|⟨h1,h3⟩
  ·obtain⟨e',m'',tr',h4,h5,h6⟩:=WT_out h3
   exact⟨e',m'',(true,o.args.map (getS e rt),v,m) :: tr',by simp only[amOpsT,h1,h2,h4],by simpa using h5,h6⟩
  ·obtain⟨e',m'',tr',h4,h5,h6⟩:=WT_out h3
   exact⟨e',m'',(false,o.args.map (getS e rt),.skip,m) :: tr',by simp only[amOpsT,h1,h4],by simpa using h5,h6⟩
def W(G:List (Nat × AFun X)) (c:AC) (Q:AX→List AV→Mem X→Prop) (e:List AV) (m:Mem X):Prop:=∃ x e' m',am G c e m=some (x,e',m')∧Q x e' m'
variable {Q:AX→List AV→Mem X→Prop} {e:List AV} {m:Mem X}
theorem W_skip:W G .skip Q e m=Q .normal e m:=by
 apply propext
 constructor
 ·rintro⟨x,e',m',h,hk⟩
  simp only[am,Option.some.injEq,Prod.mk.injEq] at h
  obtain⟨rfl,rfl,rfl⟩:=h
  exact hk
 ·intro h;exact⟨_,_,_,rfl,h⟩
theorem W_exit{id:Nat}:W G (.exit id) Q e m=Q (.exit id) e m:=by
 apply propext
 constructor
 ·rintro⟨x,e',m',h,hk⟩
  simp only[am,Option.some.injEq,Prod.mk.injEq] at h
  obtain⟨rfl,rfl,rfl⟩:=h
  exact hk
 ·intro h;exact⟨_,_,_,rfl,h⟩
theorem W_ret:W G .ret Q e m=Q .ret e m:=by
 apply propext
 constructor
 ·rintro⟨x,e',m',h,hk⟩
  simp only[am,Option.some.injEq,Prod.mk.injEq] at h
  obtain⟨rfl,rfl,rfl⟩:=h
  exact hk
 ·intro h;exact⟨_,_,_,rfl,h⟩
theorem W_goto{l:Nat}:W G (.goto l) Q e m=Q (.goto l) e m:=by
 apply propext
 constructor
 ·rintro⟨x,e',m',h,hk⟩
  simp only[am,Option.some.injEq,Prod.mk.injEq] at h
  obtain⟨rfl,rfl,rfl⟩:=h
  exact hk
 ·intro h;exact⟨_,_,_,rfl,h⟩
def jumpQ(l:Nat) (K:List AV→Mem X→Prop) (Q:AX→List AV→Mem X→Prop):AX→List AV→Mem X→Prop
 | .goto l',e,m=>l'=l∧K e m
 | x,e,m=>Q x e m
def noG(Q:AX→List AV→Mem X→Prop):AX→List AV→Mem X→Prop
 | .goto _,_,_=>False
 | x,e,m=>Q x e m
theorem jumpQ_normal{l:Nat} {K:List AV→Mem X→Prop}:jumpQ l K Q .normal e m=Q .normal e m:=rfl
theorem jumpQ_ret{l:Nat} {K:List AV→Mem X→Prop}:jumpQ l K Q .ret e m=Q .ret e m:=rfl
theorem jumpQ_exit{l id:Nat} {K:List AV→Mem X→Prop}:jumpQ l K Q (.exit id) e m=Q (.exit id) e m:=rfl
theorem jumpQ_goto{l:Nat} {K:List AV→Mem X→Prop}:jumpQ l K Q (.goto l) e m=K e m:=by simp[jumpQ]
theorem noG_normal:noG Q .normal e m=Q .normal e m:=rfl
theorem noG_ret:noG Q .ret e m=Q .ret e m:=rfl
theorem noG_exit{id:Nat}:noG Q (.exit id) e m=Q (.exit id) e m:=rfl
theorem W_scopeg{l:Nat} {r b:AC}:W G (.scopeg l r b) Q e m=W G b (jumpQ l (W G r (noG Q)) Q) e m:=by
 apply propext
 constructor
 ·rintro⟨x,e',m',h,hk⟩
  simp only[am] at h
  split at h
  ·rename_i l' e1 m1 h1
   split at h
   ·rename_i hll
    subst hll
    split at h
    ·cases h
    ·rename_i hne
     refine⟨_,_,_,h1,rfl,x,e',m',h,?_⟩
     cases x with
     | goto l2=>exact absurd h (hne _ _ _)
     | normal=>exact hk
     | exit id=>exact hk
     | ret=>exact hk
   ·cases h
  ·rename_i hne
   refine⟨x,e',m',h,?_⟩
   cases x with
   | goto l2=>exact absurd h (hne _ _ _)
   | normal=>exact hk
   | exit id=>exact hk
   | ret=>exact hk
 ·rintro⟨x,e',m',h,hk⟩
  cases x with
  | goto l2 =>
   obtain⟨rfl,y,e2,m2,h2,hk2⟩:=hk
   cases y with
   | goto l3=>cases hk2
   | normal=>exact⟨_,e2,m2,by simp only[am,h,h2,if_true],hk2⟩
   | exit id=>exact⟨_,e2,m2,by simp only[am,h,h2,if_true],hk2⟩
   | ret=>exact⟨_,e2,m2,by simp only[am,h,h2,if_true],hk2⟩
  | normal=>exact⟨_,_,_,by simp only[am,h],hk⟩
  | exit id=>exact⟨_,_,_,by simp only[am,h],hk⟩
  | ret=>exact⟨_,_,_,by simp only[am,h],hk⟩
theorem W_region{ops:List AOper} (h:WO G ops (Q .normal) e [] m):W G (.region ops) Q e m:=by
 obtain⟨e',m',h1,h2⟩:=WO_out h
 exact⟨_,_,_,by simp only[am,h1],h2⟩
theorem W_draw{p:List Nat} {k:Nat} {ops:List AOper} {stab:List (Nat × List Nat)} (h:WT G (fun tr m=>stabOk G ops tr m stab) ops (Q .normal) e [] m []):W G (.draw p k ops stab) Q e m:=by
 obtain⟨e',m',tr,h1,h2,h3⟩:=WT_out h
 exact⟨_,_,_,by simp only[am,h1];rw[if_pos (by simpa using h2)],h3⟩
def thenQ(Q:AX→List AV→Mem X→Prop) (K:List AV→Mem X→Prop):AX→List AV→Mem X→Prop
 | .normal,e,m=>K e m
 | x,e,m=>Q x e m
theorem thenQ_normal{K:List AV→Mem X→Prop}:thenQ Q K .normal e m=K e m:=rfl
theorem thenQ_exit{K:List AV→Mem X→Prop} {id:Nat}:thenQ Q K (.exit id) e m=Q (.exit id) e m:=rfl
theorem thenQ_goto{K:List AV→Mem X→Prop} {l:Nat}:thenQ Q K (.goto l) e m=Q (.goto l) e m:=rfl
theorem thenQ_ret{K:List AV→Mem X→Prop}:thenQ Q K .ret e m=Q .ret e m:=rfl
theorem W_seq{a b:AC} (h:W G a (thenQ Q (fun e m=>W G b Q e m)) e m):W G (.seq a b) Q e m:=by
 obtain⟨x,e',m',h1,h2⟩:=h
 cases x with
 | normal =>
  obtain⟨y,e2,m2,h3,h4⟩:=h2
  exact⟨y,e2,m2,by simp only[am,h1,h3],h4⟩
 | exit id=>exact⟨_,_,_,by simp only[am,h1],h2⟩
 | ret=>exact⟨_,_,_,by simp only[am,h1],h2⟩
 | goto l=>exact⟨_,_,_,by simp only[am,h1],h2⟩
theorem W_cond{c:Src} {t f:AC} {b:Bool} (hc:getS e [] c = .bool b) (h:if b=true then W G t Q e m else W G f Q e m):W G (.cond c t f) Q e m:=by
 cases b with
 | true=>obtain⟨x,e',m',h1,h2⟩:=h;exact⟨x,e',m',by simp only[am,hc,h1,if_true],h2⟩
 | false=>obtain⟨x,e',m',h1,h2⟩:=h;exact⟨x,e',m',by simp only[am,hc,h1];rfl,h2⟩
def blockQ(id:Nat) (Q:AX→List AV→Mem X→Prop):AX→List AV→Mem X→Prop
 | .exit id',e,m=>if id'=id then Q .normal e m else Q (.exit id') e m
 | x,e,m=>Q x e m
theorem blockQ_normal{id:Nat}:blockQ id Q .normal e m=Q .normal e m:=rfl
theorem blockQ_goto{id l:Nat}:blockQ id Q (.goto l) e m=Q (.goto l) e m:=rfl
theorem blockQ_ret{id:Nat}:blockQ id Q .ret e m=Q .ret e m:=rfl
theorem blockQ_exit{id id':Nat}:blockQ id Q (.exit id') e m=if id'=id then Q .normal e m else Q (.exit id') e m:=rfl
theorem W_block{id:Nat} {b:AC} (h:W G b (blockQ id Q) e m):W G (.block id b) Q e m:=by
 obtain⟨x,e',m',h1,h2⟩:=h
 cases x with
 | normal=>exact⟨_,_,_,by simp only[am,h1],h2⟩
 | exit id' =>
  simp only[blockQ] at h2
  by_cases hi:id'=id
  ·rw[if_pos hi] at h2;exact⟨_,_,_,by simp only[am,h1];rw[if_pos hi],h2⟩
  ·rw[if_neg hi] at h2;exact⟨_,_,_,by simp only[am,h1];rw[if_neg hi],h2⟩
 | ret=>exact⟨_,_,_,by simp only[am,h1],h2⟩
 | goto l=>exact⟨_,_,_,by simp only[am,h1],h2⟩
theorem W_mono{c:AC} {Q':AX→List AV→Mem X→Prop} (h:W G c Q' e m) (hq:∀ x e' m',Q' x e' m'→Q x e' m'):W G c Q e m:=by
 obtain⟨x,e',m',h1,h2⟩:=h
 exact⟨x,e',m',h1,hq _ _ _ h2⟩
theorem W_loop{b:AC} (I:Nat→List AV→Mem X→Prop) (n:Nat) (hn:n < FUEL) (h0:I n e m)
  (hs:∀ n e m,I n e m→W G b (thenQ Q (fun e' m'=>∃ k,k < n∧I k e' m')) e m):W G (.loop b) Q e m:=by
 have key:∀ (N n:Nat) (e:List AV) (m:Mem X),n < N→I n e m→∃ x e' m',iter (am G b) N e m=some (x,e',m')∧Q x e' m':=by
  intro N
  induction N with
  | zero=>intro n e m h;omega
  | succ N ih =>
   intro n e m hlt hI
   obtain⟨x,e1,m1,h1,h2⟩:=hs n e m hI
   cases x with
   | normal =>
    obtain⟨k,hk,hI'⟩:=h2
    obtain⟨x,e2,m2,h3,h4⟩:=ih k e1 m1 (by omega) hI'
    exact⟨x,e2,m2,by simp only[iter,h1,h3],h4⟩
   | exit id=>exact⟨_,_,_,by simp only[iter,h1],h2⟩
   | ret=>exact⟨_,_,_,by simp only[iter,h1],h2⟩
   | goto l=>exact⟨_,_,_,by simp only[iter,h1],h2⟩
 exact key FUEL n e m hn h0
def Fn(G:List (Nat × AFun X)) (F:AFn) (args:List AV) (m:Mem X) (Q:AV→Mem X→Prop):Prop:=OB (amFunc G F args m) Q
def resQ(res:List ARes) (Q:AV→Mem X→Prop):AX→List AV→Mem X→Prop
 | .exit _,_,_=>False
 | .goto _,_,_=>False
 | _,e,m=>∃ vs,resAll e m res=some vs∧Q (tupA vs) m
theorem Fn_of{F:AFn} {args:List AV} {Q:AV→Mem X→Prop} (hl:args.length=F.npar) (h:W G F.body (resQ F.res Q) (args++List.replicate (F.nloc - F.npar) .skip) m):Fn G F args m Q:=by
 obtain⟨x,e',m',h1,h2⟩:=h
 cases x with
 | exit id=>cases h2
 | goto l=>cases h2
 | normal =>
  obtain⟨vs,h3,h4⟩:=h2
  exact⟨_,_,by simp only[amFunc,h1,h3];rw[if_pos hl],h4⟩
 | ret =>
  obtain⟨vs,h3,h4⟩:=h2
  exact⟨_,_,by simp only[amFunc,h1,h3];rw[if_pos hl],h4⟩
end
end Go.Am
end
section
namespace Go.Am
section
variable {X:Type}
def OK(G:List (Nat × AFun X)) (os:List AOper) (Q:List AV→Mem X→Prop) (e:List AV) (dst:Option Nat) (rt:List AV) (x:Option (AV × Mem X)):Prop:=OB x fun v m=>WO G os Q (putL e dst v) (rt++[v]) m
def GK(G:List (Nat × AFun X)) (op:AOp) (args:List Src) (os:List AOper) (Q:List AV→Mem X→Prop) (e:List AV) (dst:Option Nat) (rt:List AV) (m:Mem X) (g:Option Bool):Prop :=
 WG g (OK G os Q e dst rt (amOp G op (args.map (getS e rt)) m)) (WO G os Q (putL e dst .skip) (rt++[.skip]) m)
def WI(b:Bool) (K L:Prop):Prop:=if b=true then K else L
theorem WI_true{K L:Prop}:WI true K L=K:=by simp[WI]
theorem WI_false{K L:Prop}:WI false K L=L:=by simp[WI]
theorem WI_of{b:Bool} {K L:Prop} (h1:b=true→K) (h2:b=false→L):WI b K L:=by
 cases b with
 | true=>simpa [WI] using h1 rfl
 | false=>simpa [WI] using h2 rfl
theorem WG_bool{b:Bool} {K L:Prop}:WG (some b) K L=WI b K L:=by cases b<;>simp[WG,WI]
theorem evB(k:IntKind) (a b:Int) :
  (binI .add k a b=some (.int k (k.wrap (a+b)))) ∧
  (binI .sub k a b=some (.int k (k.wrap (a - b)))) ∧
  (binI .mul k a b=some (.int k (k.wrap (a * b)))) ∧
  (binI .quo k a b=if b=0 then none else some (.int k (k.wrap (a.tdiv b)))) ∧
  (binI .rem k a b=if b=0 then none else some (.int k (a.tmod b))) ∧
  (binI .eql k a b=some (.bool (decide (a=b)))) ∧
  (binI .neq k a b=some (.bool (decide (a≠b)))) ∧
  (binI .lss k a b=some (.bool (decide (a < b)))) ∧
  (binI .leq k a b=some (.bool (decide (a≤b)))) ∧
  (binI .gtr k a b=some (.bool (decide (b < a)))) ∧
  (binI .geq k a b=some (.bool (decide (b≤a)))):=by
 refine⟨rfl,rfl,rfl,rfl,rfl,?_,?_,rfl,rfl,rfl,rfl⟩
 ·simp only[binI];congr 2
 ·simp only[binI];congr 2;by_cases h:a=b<;>simp[h]
theorem evS :
  (∀ e rt j,getS e rt (.loc j)=e.getD j .skip) ∧
  (∀ e rt j,getS e rt (.tmp j)=rt.getD j .skip) ∧
  (∀ e rt v,getS e rt (.c v)=v) ∧
  (∀ e v,putL e none v=e) ∧
  (∀ e j v,putL e (some j) v=e.set j v) ∧
  (∀ rt j,wantedA rt (some (j,true))=match rt[j]? with|some (.bool b)=>some b|some (.tup [])=>some false|_=>none) ∧
  (∀ rt j,wantedA rt (some (j,false))=match rt[j]? with|some (.bool b)=>some (!b)|some (.tup [])=>some false|_=>none):=by
 refine⟨fun _ _ _=>rfl,fun _ _ _=>rfl,fun _ _ _=>rfl,fun _ _=>rfl,fun _ _ _=>rfl,fun rt j=>?_,fun rt j=>?_⟩
 ·simp only[wantedA];split<;>simp_all
 ·simp only[wantedA];split<;>simp_all
theorem evL{α:Type} :
  (∀ (x d:α) xs,(x :: xs).getD 0 d=x) ∧
  (∀ (x d:α) xs n,(x :: xs).getD (n+1) d=xs.getD n d) ∧
  (∀ (x:α) xs,(x :: xs)[0]?=some x) ∧
  (∀ (x:α) xs n,(x :: xs)[n+1]?=xs[n]?) ∧
  (∀ (x y:α) xs,(x :: xs).set 0 y=y :: xs) ∧
  (∀ (x y:α) xs n,(x :: xs).set (n+1) y=x :: xs.set n y) ∧
  (∀ (x:α) xs ys,x :: xs++ys=x :: (xs++ys)) ∧
  (∀ (xs:List α),[]++xs=xs) ∧
  (∀ (x:α) xs n,(x :: xs).take (n+1)=x :: xs.take n) ∧
  (∀ (xs:List α),xs.take 0=[]) ∧
  (∀ (x:α) xs n,(x :: xs).drop (n+1)=xs.drop n) ∧
  (∀ (xs:List α),xs.drop 0=xs) ∧
  (∀ (x:α) xs,(x :: xs).length=xs.length+1) ∧
  (([]:List α).length=0):=by
 refine⟨fun _ _ _=>rfl,fun _ _ _ _=>rfl,fun _ _=>rfl,fun _ _ _=>rfl,fun _ _ _=>rfl,fun _ _ _ _=>rfl,fun _ _ _=>rfl,fun _=>rfl,fun _ _ _=>rfl,fun _=>rfl,fun _ _ _=>rfl,fun _=>rfl,fun _ _=>rfl,rfl⟩
theorem WO_eq{G:List (Nat × AFun X)}:∀ {ops:List AOper} {Q:List AV→Mem X→Prop} {e rt:List AV} {m:Mem X},WO G ops Q e rt m=∃ e' m',amOps G ops e rt m=some (e',m')∧Q e' m':=by
 intro ops
 induction ops with
 | nil =>
  intro Q e rt m
  refine propext ⟨WO_out,?_⟩
  rintro⟨e',m',h,hq⟩
  simp only[amOps,Option.some.injEq,Prod.mk.injEq] at h
  obtain⟨rfl,rfl⟩:=h
  exact hq
 | cons o os ih =>
  intro Q e rt m
  refine propext ⟨WO_out,?_⟩
  rintro⟨e',m',h,hq⟩
  simp only[amOps] at h
  split at h
  ·rename_i hw
   split at h
   ·rename_i v m1 h1
    refine .inl ⟨hw,v,m1,h1,?_⟩
    show WO G os Q (putL e o.dst v) (rt++[v]) m1
    rw[ih];exact⟨e',m',h,hq⟩
   ·cases h
  ·rename_i hw
   refine .inr ⟨hw,?_⟩
   rw[ih];exact⟨e',m',h,hq⟩
  ·cases h
def CW(G:List (Nat × AFun X)) (t f:AC) (Q:AX→List AV→Mem X→Prop) (e:List AV) (m:Mem X) (v:AV):Prop:=∃ b,v = .bool b∧WI b (W G t Q e m) (W G f Q e m)
theorem CW_bool{G:List (Nat × AFun X)} {t f:AC} {Q:AX→List AV→Mem X→Prop} {e:List AV} {m:Mem X} {b:Bool}:CW G t f Q e m (.bool b)=WI b (W G t Q e m) (W G f Q e m):=by simp[CW]
def RQ(Q:AV→Mem X→Prop) (m:Mem X) (x:Option (List AV)):Prop:=∃ vs,x=some vs∧Q (tupA vs) m
theorem RQ_some{Q:AV→Mem X→Prop} {m:Mem X} {vs:List AV}:RQ Q m (some vs)=Q (tupA vs) m:=by simp[RQ]
theorem evW(G:List (Nat × AFun X)) :
  (∀ ops Q e m,W G (.region ops) Q e m=WO G ops (Q .normal) e ([]++[]) m) ∧
  (∀ a b Q e m,W G (.seq a b) Q e m=W G a (thenQ Q (W G b Q)) e m) ∧
  (∀ c t f Q e m,W G (.cond c t f) Q e m=CW G t f Q e m (getS e [] c)) ∧
  (∀ id b Q e m,W G (.block id b) Q e m=W G b (blockQ id Q) e m) ∧
  (∀ Q e m,W G .skip Q e m=Q .normal e m) ∧
  (∀ id Q e m,W G (.exit id) Q e m=Q (.exit id) e m) ∧
  (∀ Q e m,W G .ret Q e m=Q .ret e m):=by
 refine⟨fun ops Q e m=>?_,fun a b Q e m=>?_,fun c t f Q e m=>?_,fun id b Q e m=>?_,fun _ _ _=>W_skip,fun _ _ _ _=>W_exit,fun _ _ _=>W_ret⟩
 ·refine propext ⟨?_,W_region⟩
  rintro⟨x,e',m',h,hq⟩
  simp only[am] at h
  split at h
  ·rename_i e1 m1 h1
   simp only[Option.some.injEq,Prod.mk.injEq] at h
   obtain⟨rfl,rfl,rfl⟩:=h
   rw[WO_eq];exact⟨_,_,h1,hq⟩
  ·cases h
 ·refine propext ⟨?_,W_seq⟩
  rintro⟨x,e',m',h,hq⟩
  simp only[am] at h
  split at h
  ·rename_i e1 m1 h1
   exact⟨_,_,_,h1,⟨x,e',m',h,hq⟩⟩
  ·rename_i hne
   refine⟨_,_,_,h,?_⟩
   cases x with
   | normal=>exact absurd h (hne e' m')
   | exit id=>exact hq
   | ret=>exact hq
   | goto l=>exact hq
 ·refine propext ⟨?_,?_⟩
  ·rintro⟨x,e',m',h,hq⟩
   simp only[am] at h
   split at h
   ·rename_i b hb
    refine⟨b,hb,?_⟩
    cases b with
    | true=>simp only[if_true] at h;rw[WI_true];exact⟨x,e',m',h,hq⟩
    | false=>rw[WI_false];exact⟨x,e',m',h,hq⟩
   ·cases h
  ·rintro⟨b,hb,hw⟩
   exact W_cond hb hw
 ·refine propext ⟨?_,W_block⟩
  rintro⟨x,e',m',h,hq⟩
  simp only[am] at h
  split at h
  ·rename_i id' e1 m1 h1
   refine⟨_,_,_,h1,?_⟩
   simp only[blockQ]
   split at h
   ·rename_i hi
    simp only[Option.some.injEq,Prod.mk.injEq] at h
    obtain⟨rfl,rfl,rfl⟩:=h
    rw[if_pos hi];exact hq
   ·rename_i hi
    simp only[Option.some.injEq,Prod.mk.injEq] at h
    obtain⟨rfl,rfl,rfl⟩:=h
    rw[if_neg hi];exact hq
  ·rename_i hne
   refine⟨_,_,_,h,?_⟩
   cases x with
   | normal=>exact hq
   | exit id=>exact absurd h (hne id e' m')
   | ret=>exact hq
   | goto l=>exact hq
theorem evQ:(∀ res Q e (m:Mem X),resQ res Q .normal e m=RQ Q m (resAll e m res)) ∧
  (∀ res Q e (m:Mem X),resQ res Q .ret e m=RQ Q m (resAll e m res)):=⟨fun _ _ _ _=>rfl,fun _ _ _ _=>rfl⟩
theorem cond_bool{b x y:Bool}:cond b (AV.bool x) (AV.bool y)=AV.bool (cond b x y):=by cases b<;>rfl
theorem cond_int{b:Bool} {k:IntKind} {x y:Int}:cond b (AV.int k x) (AV.int k y)=AV.int k (cond b x y):=by cases b<;>rfl
theorem tupA_one{v:AV}:tupA [v]=v:=rfl
theorem tupA_two{v u:AV} {vs:List AV}:tupA (v :: u :: vs) = .tup (v :: u :: vs):=rfl
theorem tupA_nil:tupA [] = .tup []:=rfl
end
end Go.Am
end
section
namespace Go.Am
section
variable {X:Type}
theorem wrapI{x:Int} (h1:-9223372036854775808≤x) (h2:x < 9223372036854775808):IntKind.i64.wrap x=x:=by
 simp only[IntKind.wrap,IntKind.bits,IntKind.signed,Bool.true_and,decide_eq_true_eq,ge_iff_le]
 split<;>omega
theorem wrapU{x:Int} (h1:0≤x) (h2:x < 18446744073709551616):IntKind.u64.wrap x=x:=by
 simp only[IntKind.wrap,IntKind.bits,IntKind.signed,Bool.false_and]
 simp
 omega
theorem get_concat{α:Type} {l:List α} {x:α}:(l++[x])[l.length]?=some x:=by simp
theorem set_concat{α:Type} {l:List α} {x y:α}:(l++[x]).set l.length y=l++[y]:=by simp
theorem get_mid{α:Type} {l k:List α} {i:Nat}:(l++k)[l.length+i]?=k[i]?:=by rw[List.getElem?_append_right (by omega)];congr 1;omega
theorem get_mid0{α:Type} {l k:List α}:(l++k)[l.length]?=k[0]?:=get_mid (i:=0)
theorem set_mid{α:Type} {l k:List α} {i:Nat} {y:α}:(l++k).set (l.length+i) y=l++k.set i y:=by rw[List.set_append_right _ _ (by omega)];congr 2;omega
theorem set_mid0{α:Type} {l k:List α} {y:α}:(l++k).set l.length y=l++k.set 0 y:=set_mid (i:=0)
theorem splice_one{α:Type} {l:List α} {o:Nat} {v:α} (h:o < l.length):splice l o [v]=l.set o v:=by
 rw[List.set_eq_take_append_cons_drop,if_pos h]
 simp[splice]
theorem evC(G:List (Nat × AFun X)) :
  (∀ (sz i o len:Nat) (c:Option Nat) (k:IntKind) (n:Int) (m:Mem X),0≤n→n < len→amOp G (.iaddr sz none) [.sl i o len c,.int k n] m=some (.ptr i (o+n.toNat * sz),m)) ∧
  (∀ (sz len i o:Nat) (k:IntKind) (n:Int) (m:Mem X),0≤n→n < len→amOp G (.iaddr sz (some len)) [.ptr i o,.int k n] m=some (.ptr i (o+n.toNat * sz),m)) ∧
  (∀ (sz bytes:Nat) (z:List AV) (n c:Int) (m:Mem X),0≤n→n≤c→c * bytes≤140737488355328→c≤140737488355328→amOp G (.make sz bytes z) [.int .i64 n,.int .i64 c] m=some (.sl m.length 0 n.toNat (some c.toNat),m++[.cells sz false (repeatL c.toNat z)])):=by
 refine⟨fun sz i o len c k n m h1 h2=>?_,fun sz len i o k n m h1 h2=>?_,fun sz bytes z n c m h1 h2 h3 h4=>?_⟩
 ·show (if 0≤n∧n < (len:Int) then some (AV.ptr i (o+n.toNat * sz),m) else none)=_
  rw[if_pos ⟨h1,h2⟩]
 ·show (if 0≤n∧n < (len:Int) then some (AV.ptr i (o+n.toNat * sz),m) else none)=_
  rw[if_pos ⟨h1,h2⟩]
 ·show (if 0≤n∧n≤c∧c.toNat * bytes≤140737488355328∧c≤140737488355328 then _ else none)=_
  have h5:c.toNat * bytes≤140737488355328:=by
   have:((c.toNat * bytes:Nat):Int)=c * bytes:=by rw[Int.natCast_mul,Int.toNat_of_nonneg (by omega)]
   omega
  rw[if_pos ⟨h1,h2,h5,h4⟩]
def ldC(o:Nat):Option Nat→Option (Nat × Bool × List AV)→Option AV
 | none,some (_,_,l)=>l[o]?
 | some n,some (_,_,l)=>if o+n≤l.length then some (.agg ((l.drop o).take n)) else none
 | _,none=>none
theorem loadN_ldC{m:Mem X} {i o:Nat} {n:Option Nat}:loadN m i o n=ldC o n (getC m i):=by
 cases n<;>simp only[loadN,ldC]<;>cases getC m i<;>rfl
theorem ldC_none{o sz:Nat} {ro:Bool} {l:List AV}:ldC o none (some (sz,ro,l))=l[o]?:=rfl
def stC(m:Mem X) (i o n:Nat) (v:AV):Option (Nat × Bool × List AV)→Option (Mem X)
 | some (sz,false,l)=>if v.cells.length=n∧o+n≤l.length∧v.cells.all AV.one=true then some (m.set i (.cells sz false (splice l o v.cells))) else none
 | _=>none
theorem storeN_stC{m:Mem X} {i o n:Nat} {v:AV}:storeN m i o n v=stC m i o n v (getC m i):=by
 simp only[storeN,stC]
 cases getC m i with
 | none=>rfl
 | some x=>obtain⟨sz,ro,l⟩:=x;cases ro<;>rfl
theorem stC_int{m:Mem X} {i o sz:Nat} {k:IntKind} {n:Int} {l:List AV} (h:o < l.length):stC m i o 1 (.int k n) (some (sz,false,l))=some (m.set i (.cells sz false (l.set o (.int k n)))):=by
 rw[← splice_one h];exact if_pos ⟨rfl,by omega,rfl⟩
theorem stC_bool{m:Mem X} {i o sz:Nat} {b:Bool} {l:List AV} (h:o < l.length):stC m i o 1 (.bool b) (some (sz,false,l))=some (m.set i (.cells sz false (l.set o (.bool b)))):=by
 rw[← splice_one h];exact if_pos ⟨rfl,by omega,rfl⟩
theorem stC_ptr{m:Mem X} {i o sz a b:Nat} {l:List AV} (h:o < l.length):stC m i o 1 (.ptr a b) (some (sz,false,l))=some (m.set i (.cells sz false (l.set o (.ptr a b)))):=by
 rw[← splice_one h];exact if_pos ⟨rfl,by omega,rfl⟩
theorem stC_nilp{m:Mem X} {i o sz:Nat} {l:List AV} (h:o < l.length):stC m i o 1 .nilp (some (sz,false,l))=some (m.set i (.cells sz false (l.set o .nilp))):=by
 rw[← splice_one h];exact if_pos ⟨rfl,by omega,rfl⟩
theorem stC_sl{m:Mem X} {i o sz a b c:Nat} {d:Option Nat} {l:List AV} (h:o < l.length):stC m i o 1 (.sl a b c d) (some (sz,false,l))=some (m.set i (.cells sz false (l.set o (.sl a b c d)))):=by
 rw[← splice_one h];exact if_pos ⟨rfl,by omega,rfl⟩
theorem stC_nils{m:Mem X} {i o sz:Nat} {l:List AV} (h:o < l.length):stC m i o 1 .nils (some (sz,false,l))=some (m.set i (.cells sz false (l.set o .nils))):=by
 rw[← splice_one h];exact if_pos ⟨rfl,by omega,rfl⟩
theorem stC_agg{m:Mem X} {i o n sz:Nat} {cs l:List AV} (h1:cs.length=n) (h2:o+n≤l.length) (h3:cs.all AV.one=true):stC m i o n (.agg cs) (some (sz,false,l))=some (m.set i (.cells sz false (splice l o cs))):=by
 exact if_pos ⟨h1,h2,h3⟩
theorem ldC_somes{o n sz:Nat} {ro:Bool} {l:List AV}:ldC o (some n) (some (sz,ro,l))=if o+n≤l.length then some (.agg ((l.drop o).take n)) else none:=rfl
theorem stC_aggs{m:Mem X} {i o n sz:Nat} {cs l:List AV}:stC m i o n (.agg cs) (some (sz,false,l))=if cs.length=n∧o+n≤l.length∧cs.all AV.one=true then some (m.set i (.cells sz false (splice l o cs))) else none:=rfl
def gcO:Option (Chunk X)→Option (Nat × Bool × List AV)
 | some (.cells sz ro l)=>some (sz,ro,l)
 | _=>none
theorem getC_gcO{m:Mem X} {i:Nat}:getC m i=gcO m[i]?:=by
 simp only[getC,gcO];cases m[i]? with
 | none=>rfl
 | some c=>cases c<;>rfl
theorem gcO_cells{sz:Nat} {ro:Bool} {l:List AV}:gcO (X:=X) (some (.cells sz ro l))=some (sz,ro,l):=rfl
theorem OK_fn{G G':List (Nat × AFun X)} {F:AFn} {vs:List AV} {m:Mem X} {K:AV→Mem X→Prop} {os:List AOper} {Q:List AV→Mem X→Prop} {e:List AV} {dst:Option Nat} {rt:List AV}
  (h:Fn G' F vs m K) (k:∀ v m',K v m'→WO G os Q (putL e dst v) (rt++[v]) m'):OK G os Q e dst rt (amFunc G' F vs m):=by
 obtain⟨v,m',h1,h2⟩:=h
 exact⟨v,m',h1,k v m' h2⟩
theorem W_scope(G:List (Nat × AFun X)) (b:AC) (Q:AX→List AV→Mem X→Prop) (e:List AV) (m:Mem X):W G (.scope b) Q e m=W G b Q e m:=rfl
theorem ev_clear(G:List (Nat × AFun X)) (sz:Nat) (z:List AV) (x:AV) (m:Mem X):amOp G (.clear sz z) [x] m=match clearA sz z x m with|some m'=>some (.skip,m')|none=>none:=rfl
theorem Fn_eq{G:List (Nat × AFun X)} {F:AFn} {vs:List AV} {m m1:Mem X} {r:AV} (h:Fn G F vs m (fun v m'=>v=r∧m'=m1)):amFunc G F vs m=some (r,m1):=by
 obtain⟨v,m',h1,rfl,rfl⟩:=h
 exact h1
def exitQ(id:Nat) (P:List AV→Mem X→Prop) (Q:AX→List AV→Mem X→Prop):AX→List AV→Mem X→Prop
 | .exit id',e,m=>if id'=id then P e m else Q (.exit id') e m
 | x,e,m=>Q x e m
theorem exitQ_normal{id:Nat} {P:List AV→Mem X→Prop} {Q:AX→List AV→Mem X→Prop} {e:List AV} {m:Mem X}:exitQ id P Q .normal e m=Q .normal e m:=rfl
theorem exitQ_goto{id l:Nat} {P:List AV→Mem X→Prop} {Q:AX→List AV→Mem X→Prop} {e:List AV} {m:Mem X}:exitQ id P Q (.goto l) e m=Q (.goto l) e m:=rfl
theorem exitQ_ret{id:Nat} {P:List AV→Mem X→Prop} {Q:AX→List AV→Mem X→Prop} {e:List AV} {m:Mem X}:exitQ id P Q .ret e m=Q .ret e m:=rfl
theorem exitQ_exit{id id':Nat} {P:List AV→Mem X→Prop} {Q:AX→List AV→Mem X→Prop} {e:List AV} {m:Mem X}:exitQ id P Q (.exit id') e m=if id'=id then P e m else Q (.exit id') e m:=rfl
theorem ek(G:List (Nat × AFun X)) :
  (∀ (Q:List AV→Mem X→Prop) e rt m,WO G [] Q e rt m=Q e m) ∧
  (∀ op args dst os (Q:List AV→Mem X→Prop) e rt m,WO G (⟨op,args,dst,none⟩ :: os) Q e rt m=OK G os Q e dst rt (amOp G op (args.map (getS e rt)) m)) ∧
  (∀ op args dst g os (Q:List AV→Mem X→Prop) e rt m,WO G (⟨op,args,dst,some g⟩ :: os) Q e rt m=GK G op args os Q e dst rt m (wantedA rt (some g))) ∧
  (∀ os Q e dst rt v m,OK G os Q e dst rt (some (v,m))=WO G os Q (putL e dst v) (rt++[v]) m) ∧
  (∀ os Q e dst rt,OK G os Q e dst rt none=False) ∧
  (∀ op args os Q e dst rt m,GK G op args os Q e dst rt m (some true)=OK G os Q e dst rt (amOp G op (args.map (getS e rt)) m)) ∧
  (∀ op args os Q e dst rt m,GK G op args os Q e dst rt m (some false)=WO G os Q (putL e dst .skip) (rt++[.skip]) m) ∧
  (∀ v m,amOp G .mov [v] m=some (v,m)) ∧
  (∀ c a b m,amOp G .pick [.bool c,a,b] m=some (cond c a b,m)) ∧
  (∀ z m,amOp G (.alloc z) [] m=some (.ptr m.length 0,m++[.cells z.length false z])) ∧
  (∀ z ps vs m,amOp G (.build z ps) vs m=match fillA z ps vs with|some cs=>some (.agg cs,m)|none=>none) ∧
  (∀ n i o m,amOp G (.load n) [.ptr i o] m=match loadN m i o n with|some v=>some (v,m)|none=>none) ∧
  (∀ n i o v m,amOp G (.store n) [.ptr i o,v] m=match storeN m i o n v with|some m'=>some (.skip,m')|none=>none) ∧
  (∀ i o m,amOp G .nilc [.ptr i o] m=some (.ptr i o,m)) ∧
  (∀ f a b m,amOp G .nilc [.fn f a b] m=some (.fn f a b,m)) ∧
  (∀ b m,amOp G .not [.bool b] m=some (.bool (!b),m)) ∧
  (∀ k n m,amOp G .neg [.int k n] m=some (.int k (k.wrap (0 - n)),m)) ∧
  (∀ k k' n m,amOp G (.conv k) [.int k' n] m=some (.int k (k.wrap n),m)) ∧
  (∀ op k a b m,amOp G (.bin op) [.int k a,.int k b] m=match binI op k a b with|some v=>some (v,m)|none=>none) ∧
  (∀ op k k' a b m,amOp G (.shf op) [.int k a,.int k' b] m=match shfI op k a b with|some v=>some (v,m)|none=>none) ∧
  (∀ k neg x y m,amOp G (.eqv k neg) [x,y] m=match eqV m k x y with|some b=>some (.bool (xor neg b),m)|none=>none) ∧
  (∀ off i o m,amOp G (.faddr off) [.ptr i o] m=some (.ptr i (o+off),m)) ∧
  (∀ sz i o len c k n m,amOp G (.iaddr sz none) [.sl i o len c,.int k n] m=if 0≤n∧n < len then some (.ptr i (o+n.toNat * sz),m) else none) ∧
  (∀ sz len i o k n m,amOp G (.iaddr sz (some len)) [.ptr i o,.int k n] m=if 0≤n∧n < len then some (.ptr i (o+n.toNat * sz),m) else none) ∧
  (∀ off cs m,amOp G (.field off none) [.agg cs] m=match cs[off]? with|some v=>some (v,m)|none=>none) ∧
  (∀ off n cs m,amOp G (.field off (some n)) [.agg cs] m=if off+n≤cs.length then some (.agg ((cs.drop off).take n),m) else none) ∧
  (∀ i vs m,amOp G (.extract i) [.tup vs] m=match vs[i]? with|some v=>some (v,m)|none=>none) ∧
  (∀ f vs m,amOp G (.call f) vs m=match assoc G f with|some F=>F vs m|none=>none) ∧
  (∀ f a c vs m,amOp G .callv (.fn f a c :: vs) m=match assoc G f with|some F=>F (a++vs++c) m|none=>none) ∧
  (∀ i o len c m,amOp G .len [.sl i o len c] m=some (.int .i64 len,m)) ∧
  (∀ m,amOp G .len [.nils] m=some (.int .i64 0,m)) ∧
  (∀ k a b m,amOp G .min [.int k a,.int k b] m=some (.int k (if b < a then b else a),m)) ∧
  (∀ k a b m,amOp G .max [.int k a,.int k b] m=some (.int k (if b > a then b else a),m)) ∧
  (∀ v m,amOp G .box [v] m=if v.cells.all AV.one=true then some (.ptr m.length 0,m++[.cells v.cells.length false v.cells]) else none) ∧
  (∀ f n vs m,amOp G (.mkfn f n) vs m=if n≤vs.length then some (.fn f (vs.take n) (vs.drop n),m) else none):=by
 refine⟨fun _ _ _ _=>rfl,fun _ _ _ _ _ _ _ _=>by simp only[WO,WG_none,OK],fun _ _ _ _ _ _ _ _ _=>rfl,fun _ _ _ _ _ _ _=>by simp only[OK,OB_some],fun _ _ _ _ _=>by simp only[OK,OB_none],fun _ _ _ _ _ _ _ _=>by simp only[GK,WG_bool,WI_true],fun _ _ _ _ _ _ _ _=>by simp only[GK,WG_bool,WI_false],fun _ _=>rfl,fun _ _ _ _=>rfl,fun _ _=>rfl,?_,fun _ _ _ _=>rfl,fun _ _ _ _ _=>rfl,fun _ _ _=>rfl,fun _ _ _ _=>rfl,fun _ _=>rfl,fun _ _ _=>rfl,
  fun _ _ _ _=>rfl,fun _ _ _ _ _=>by simp only[amOp,if_true]<;>rfl,fun _ _ _ _ _ _=>rfl,fun _ _ _ _ _=>rfl,fun _ _ _ _=>rfl,fun _ _ _ _ _ _ _ _=>rfl,fun _ _ _ _ _ _ _=>rfl,fun _ _ _=>rfl,fun _ _ _ _=>rfl,fun _ _ _=>rfl,?_,
  fun _ _ _ _ _=>rfl,fun _ _ _ _ _=>rfl,fun _=>rfl,fun _ _ _ _=>by simp[amOp,foldI],fun _ _ _ _=>by simp[amOp,foldI],fun _ _=>rfl,?_⟩
 ·intro z ps vs m;cases vs<;>rfl
 ·intro f vs m;cases vs<;>rfl
 ·intro f n vs m;cases vs<;>rfl
theorem GK_of{G:List (Nat × AFun X)} {op:AOp} {args:List Src} {os:List AOper} {Q:List AV→Mem X→Prop} {e:List AV} {dst:Option Nat} {rt:List AV} {m:Mem X} {b:Bool}
  (h1:b=true→GK G op args os Q e dst rt m (some true)) (h2:b=false→GK G op args os Q e dst rt m (some false)):GK G op args os Q e dst rt m (some b):=by cases b<;>simp_all
theorem CW_of{G:List (Nat × AFun X)} {t f:AC} {Q:AX→List AV→Mem X→Prop} {e:List AV} {m:Mem X} {b:Bool} (h1:b=true→W G t Q e m) (h2:b=false→W G f Q e m):CW G t f Q e m (.bool b):=by
 rw[CW_bool];exact WI_of h1 h2
theorem CW_true{G:List (Nat × AFun X)} {t f:AC} {Q:AX→List AV→Mem X→Prop} {e:List AV} {m:Mem X}:CW G t f Q e m (.bool true)=W G t Q e m:=by rw[CW_bool,WI_true]
theorem CW_false{G:List (Nat × AFun X)} {t f:AC} {Q:AX→List AV→Mem X→Prop} {e:List AV} {m:Mem X}:CW G t f Q e m (.bool false)=W G f Q e m:=by rw[CW_bool,WI_false]
theorem condT{b c:Bool}:cond b true c=(b || c):=by cases b<;>rfl
theorem condF{b c:Bool}:cond b c false=(b && c):=by cases b<;>rfl
abbrev Tr(X:Type):=List (Bool × List AV × AV × Mem X)
def FIN(G:List (Nat × AFun X)) (ops:List AOper) (stab:List (Nat × List Nat)) (tr:Tr X) (m:Mem X):Bool:=stabOk G ops tr m stab
def WS(G:List (Nat × AFun X)) (ops:List AOper) (stab:List (Nat × List Nat)) (os:List AOper) (Q:List AV→Mem X→Prop) (e rt:List AV) (m:Mem X) (tr:Tr X):Prop:=WT G (FIN G ops stab) os Q e rt m tr
def OKT(G:List (Nat × AFun X)) (ops:List AOper) (stab:List (Nat × List Nat)) (os:List AOper) (Q:List AV→Mem X→Prop) (e:List AV) (dst:Option Nat) (rt:List AV) (tr:Tr X) (m0:Mem X) (vs:List AV) (x:Option (AV × Mem X)):Prop :=
 OB x fun v m=>WS G ops stab os Q (putL e dst v) (rt++[v]) m (tr++[(true,vs,v,m0)])
def GKT(G:List (Nat × AFun X)) (ops:List AOper) (stab:List (Nat × List Nat)) (op:AOp) (os:List AOper) (Q:List AV→Mem X→Prop) (e:List AV) (dst:Option Nat) (rt:List AV) (tr:Tr X) (m:Mem X) (vs:List AV) (g:Option Bool):Prop :=
 WG g (OKT G ops stab os Q e dst rt tr m vs (amOp G op vs m)) (WS G ops stab os Q (putL e dst .skip) (rt++[.skip]) m (tr++[(false,vs,.skip,m)]))
theorem W_drawS{G:List (Nat × AFun X)} {Q:AX→List AV→Mem X→Prop} {e:List AV} {m:Mem X} {p:List Nat} {k:Nat} {ops:List AOper} {stab:List (Nat × List Nat)} (h:WS G ops stab ops (Q .normal) e ([]++[]) m []):W G (.draw p k ops stab) Q e m:=W_draw h
theorem WT_eq{G:List (Nat × AFun X)} {fin:Tr X→Mem X→Bool}:∀ {ops:List AOper} {Q:List AV→Mem X→Prop} {e rt:List AV} {m:Mem X} {tr:Tr X},(∃ e' m' tr',amOpsT G ops e rt m=some (e',m',tr')∧fin (tr++tr') m'=true∧Q e' m')→WT G fin ops Q e rt m tr
 | [],Q,e,rt,m,tr,h=>by
  obtain⟨e',m',tr',h1,h2,h3⟩:=h
  simp only[amOpsT,Option.some.injEq,Prod.mk.injEq] at h1
  obtain⟨rfl,rfl,rfl⟩:=h1
  exact⟨by simpa using h2,h3⟩
 | o :: os,Q,e,rt,m,tr,h=>by
  obtain⟨e',m',tr',h1,h2,h3⟩:=h
  simp only[amOpsT] at h1
  split at h1
  ·rename_i hw
   split at h1
   ·rename_i v m1 hv
    split at h1
    ·rename_i e1 m2 tr1 ht
     simp only[Option.some.injEq,Prod.mk.injEq] at h1
     obtain⟨rfl,rfl,rfl⟩:=h1
     exact .inl ⟨hw,v,m1,hv,WT_eq ⟨_,_,_,ht,by simpa using h2,h3⟩⟩
    ·cases h1
   ·cases h1
  ·rename_i hw
   split at h1
   ·rename_i e1 m2 tr1 ht
    simp only[Option.some.injEq,Prod.mk.injEq] at h1
    obtain⟨rfl,rfl,rfl⟩:=h1
    exact .inr ⟨hw,WT_eq ⟨_,_,_,ht,by simpa using h2,h3⟩⟩
   ·cases h1
  ·cases h1
theorem W_draw_eq(G:List (Nat × AFun X)) (p:List Nat) (k:Nat) (ops:List AOper) (stab:List (Nat × List Nat)) (Q:AX→List AV→Mem X→Prop) (e:List AV) (m:Mem X):W G (.draw p k ops stab) Q e m=WS G ops stab ops (Q .normal) e ([]++[]) m []:=by
 refine propext ⟨?_,W_drawS⟩
 rintro⟨x,e',m',h,hq⟩
 simp only[am] at h
 split at h
 ·rename_i e1 m1 tr h1
  split at h
  ·rename_i hs
   simp only[Option.some.injEq,Prod.mk.injEq] at h
   obtain⟨rfl,rfl,rfl⟩:=h
   exact WT_eq ⟨_,_,_,h1,by simpa [FIN] using hs,hq⟩
  ·cases h
 ·cases h
theorem OKT_fn{G G':List (Nat × AFun X)} {ops:List AOper} {stab:List (Nat × List Nat)} {F:AFn} {us vs:List AV} {m m0:Mem X} {K:AV→Mem X→Prop} {os:List AOper} {Q:List AV→Mem X→Prop} {e:List AV} {dst:Option Nat} {rt:List AV} {tr:Tr X}
  (h:Fn G' F vs m K) (k:∀ v m',K v m'→WS G ops stab os Q (putL e dst v) (rt++[v]) m' (tr++[(true,us,v,m0)])):OKT G ops stab os Q e dst rt tr m0 us (amFunc G' F vs m):=by
 obtain⟨v,m',h1,h2⟩:=h
 exact⟨v,m',h1,k v m' h2⟩
theorem evT(G:List (Nat × AFun X)) :
  (∀ ops stab (Q:List AV→Mem X→Prop) e rt m tr,WS G ops stab [] Q e rt m tr=(FIN G ops stab tr m=true∧Q e m)) ∧
  (∀ ops stab op args dst os (Q:List AV→Mem X→Prop) e rt m tr,WS G ops stab (⟨op,args,dst,none⟩ :: os) Q e rt m tr=OKT G ops stab os Q e dst rt tr m (args.map (getS e rt)) (amOp G op (args.map (getS e rt)) m)) ∧
  (∀ ops stab op args dst g os (Q:List AV→Mem X→Prop) e rt m tr,WS G ops stab (⟨op,args,dst,some g⟩ :: os) Q e rt m tr=GKT G ops stab op os Q e dst rt tr m (args.map (getS e rt)) (wantedA rt (some g))) ∧
  (∀ ops stab os Q e dst rt tr m0 vs v m,OKT G ops stab os Q e dst rt tr m0 vs (some (v,m))=WS G ops stab os Q (putL e dst v) (rt++[v]) m (tr++[(true,vs,v,m0)])) ∧
  (∀ ops stab os Q e dst rt tr m0 vs,OKT G ops stab os Q e dst rt tr m0 vs none=False) ∧
  (∀ ops stab op os Q e dst rt tr m vs,GKT G ops stab op os Q e dst rt tr m vs (some true)=OKT G ops stab os Q e dst rt tr m vs (amOp G op vs m)) ∧
  (∀ ops stab op os Q e dst rt tr m vs,GKT G ops stab op os Q e dst rt tr m vs (some false)=WS G ops stab os Q (putL e dst .skip) (rt++[.skip]) m (tr++[(false,vs,.skip,m)])):=by
 refine⟨fun _ _ _ _ _ _ _=>rfl,fun _ _ _ _ _ _ _ _ _ _ _=>by simp only[WS,WT,WG_none,OKT],fun _ _ _ _ _ _ _ _ _ _ _ _=>rfl,fun _ _ _ _ _ _ _ _ _ _ _ _=>by simp only[OKT,OB_some],fun _ _ _ _ _ _ _ _ _ _=>by simp only[OKT,OB_none],fun _ _ _ _ _ _ _ _ _ _ _=>by simp only[GKT,WG_bool,WI_true],fun _ _ _ _ _ _ _ _ _ _ _=>by simp only[GKT,WG_bool,WI_false]⟩
theorem GKT_of{G:List (Nat × AFun X)} {ops:List AOper} {stab:List (Nat × List Nat)} {op:AOp} {os:List AOper} {Q:List AV→Mem X→Prop} {e:List AV} {dst:Option Nat} {rt:List AV} {tr:Tr X} {m:Mem X} {vs:List AV} {b:Bool}
  (h1:b=true→GKT G ops stab op os Q e dst rt tr m vs (some true)) (h2:b=false→GKT G ops stab op os Q e dst rt tr m vs (some false)):GKT G ops stab op os Q e dst rt tr m vs (some b):=by cases b<;>simp_all
mutual
theorem beq_self:∀ v:AV,AV.beq v v=true
 | .undef=>rfl
 | .bool b=>by cases b<;>rfl
 | .int k n=>by simp[AV.beq]
 | .str s=>by simp[AV.beq]
 | .nilp=>rfl
 | .ptr i o=>by simp[AV.beq]
 | .nils=>rfl
 | .mt=>rfl
 | .yld l=>by simp[AV.beq]
 | .sl i o n c=>by simp[AV.beq]
 | .nilm=>rfl
 | .map i=>by simp[AV.beq]
 | .nilf=>rfl
 | .fn f a b=>by simp[AV.beq,beqL_self a,beqL_self b]
 | .agg a=>by simp[AV.beq,beqL_self a]
 | .tup a=>by simp[AV.beq,beqL_self a]
theorem beqL_self:∀ vs:List AV,AV.beqL vs vs=true
 | []=>rfl
 | v :: vs=>by simp[AV.beqL,beq_self v,beqL_self vs]
end

def saA(z:List AV):Option (Nat × Bool × List AV)→Bool
 | some (sz,false,l)=>decide (sz=z.length) && AV.beqL l z
 | _=>false
def saO(v:AV):Option (AV × Mem X)→Bool
 | some (v',_)=>AV.beq v' v
 | none=>false
theorem saA_self{sz:Nat} {z:List AV} (h:sz=z.length):saA z (some (sz,false,z))=true:=by simp[saA,h,beqL_self]
theorem saO_self{v:AV} {m:Mem X}:saO v (some (v,m))=true:=beq_self v
theorem evF(G:List (Nat × AFun X)) :
  (∀ ops stab tr m,FIN G ops stab tr m=stabOk G ops tr m stab) ∧
  (∀ ops tr (m:Mem X),stabOk G ops tr m []=true) ∧
  (∀ z t vs i o m0 m,sameAt G (.alloc z) (t,vs,.ptr i o,m0) m=saA z (getC m i)) ∧
  (∀ n vs v m0 m,sameAt G (.load n) (true,vs,v,m0) m=saO v (amOp G (.load n) vs m)) ∧
  (∀ n vs v m0 m,sameAt G (.load n) (false,vs,v,m0) m=true) ∧
  (∀ k b vs v m0 m,sameAt G (.eqv k b) (true,vs,v,m0) m=saO v (amOp G (.eqv k b) vs m)) ∧
  (∀ k b vs v m0 m,sameAt G (.eqv k b) (false,vs,v,m0) m=true) ∧
  (∀ a b c d vs v m0 m,sameAt G (.slice a b c d) (true,vs,v,m0) m=saO v (amOp G (.slice a b c d) vs m)) ∧
  (∀ a b c d vs v m0 m,sameAt G (.slice a b c d) (false,vs,v,m0) m=true) ∧
  (∀ a b vs v m0 m,sameAt G (.mget a b) (true,vs,v,m0) m=saO v (amOp G (.mget a b) vs m)) ∧
  (∀ a b vs v m0 m,sameAt G (.mget a b) (false,vs,v,m0) m=true) ∧
  (∀ vs v m0 m,sameAt G .mlen (true,vs,v,m0) m=saO v (amOp G .mlen vs m)) ∧
  (∀ vs v m0 m,sameAt G .mlen (false,vs,v,m0) m=true):=by
 refine⟨fun _ _ _ _=>rfl,fun _ _ _=>rfl,fun z t vs i o m0 m=>?_,fun _ _ _ _ _=>rfl,fun _ _ _ _ _=>rfl,fun _ _ _ _ _ _=>rfl,fun _ _ _ _ _ _=>rfl,fun _ _ _ _ _ _ _ _=>rfl,fun _ _ _ _ _ _ _ _=>rfl,fun _ _ _ _ _ _=>rfl,fun _ _ _ _ _ _=>rfl,fun _ _ _ _=>rfl,fun _ _ _ _=>rfl⟩
 simp only[sameAt]
 cases getC m i with
 | none=>cases t<;>rfl
 | some x=>obtain⟨sz,ro,l⟩:=x;cases ro<;>cases t<;>rfl
def stOne(G:List (Nat × AFun X)) (m:Mem X) (tr:Tr X) (cs:List Nat) (o:Option AOper) (e:Option (Bool × List AV × AV × Mem X)):Bool :=
 match o,e with
 | some o,some e=>cs.all fun c=>sameAt G o.op e (memAt tr m c)
 | _,_=>false
def atC(G:List (Nat × AFun X)) (op:AOp) (e:Bool × List AV × AV × Mem X) (m:Mem X) (tr:Tr X):List Nat→Bool
 | []=>true
 | c :: cs=>sameAt G op e (memAt tr m c) && atC G op e m tr cs
theorem atC_eq{G:List (Nat × AFun X)} {op:AOp} {e:Bool × List AV × AV × Mem X} {m:Mem X} {tr:Tr X}:∀ {cs:List Nat},(cs.all fun c=>sameAt G op e (memAt tr m c))=atC G op e m tr cs
 | []=>rfl
 | c :: cs=>by simp only[List.all_cons,atC,atC_eq (cs:=cs)]
def mAt(m:Mem X):Option (Bool × List AV × AV × Mem X)→Mem X
 | some (_,_,_,m')=>m'
 | none=>m
theorem evX(G:List (Nat × AFun X)) :
  (∀ ops tr (m:Mem X) k cs stab,stabOk G ops tr m ((k,cs) :: stab)=(stOne G m tr cs ops[k]? tr[k]? && stabOk G ops tr m stab)) ∧
  (∀ m tr cs op as d g e,stOne G m tr cs (some ⟨op,as,d,g⟩) (some e)=atC G op e m tr cs) ∧
  (∀ op e m tr,atC G op e m tr []=true) ∧
  (∀ op e m tr c cs,atC G op e m tr (c :: cs)=(sameAt G op e (memAt tr m c) && atC G op e m tr cs)) :=
 ⟨fun _ _ _ _ _ _=>rfl,fun _ _ _ _ _ _ _ _=>atC_eq,fun _ _ _ _=>rfl,fun _ _ _ _ _ _=>rfl⟩
theorem evM :
  (∀ (tr:Tr X) (m:Mem X) c,memAt tr m c=mAt m tr[c]?) ∧
  (∀ (m:Mem X) a b c d,mAt m (some (a,b,c,d))=d) ∧
  (∀ (m:Mem X),mAt m none=m):=by
 refine⟨fun tr m c=>?_,fun _ _ _ _ _=>rfl,fun _=>rfl⟩
 simp only[memAt,mAt];cases tr[c]?<;>rfl
theorem evA(G:List (Nat × AFun X)) :
  (∀ sz bytes s x m,amOp G (.append sz bytes) [s,x] m=appendA sz bytes s x m) ∧
  (∀ n sz z ps vs m,amOp G (.lit n sz z ps) vs m=match fillA (repeatL n z) ps vs with
   | some cs=>if cs.all AV.one=true then some (.sl m.length 0 n (some n),m++[.cells sz false cs]) else none
   | none=>none) ∧
  (∀ sz x m,amOp G (.slice sz false false false) [x] m=match sliceA m sz x none none none with|some v=>some (v,m)|none=>none) ∧
  (∀ sz x k n m,amOp G (.slice sz true false false) [x,.int k n] m=if 0≤n then(match sliceA m sz x (some n.toNat) none none with|some v=>some (v,m)|none=>none) else none) ∧
  (∀ sz x k n m,amOp G (.slice sz false true false) [x,.int k n] m=if 0≤n then(match sliceA m sz x none (some n.toNat) none with|some v=>some (v,m)|none=>none) else none) ∧
  (∀ sz x k n k' n' m,amOp G (.slice sz true true false) [x,.int k n,.int k' n'] m=if 0≤n then(if 0≤n' then(match sliceA m sz x (some n.toNat) (some n'.toNat) none with|some v=>some (v,m)|none=>none) else none) else none):=by
 refine⟨fun _ _ _ _ _=>rfl,fun n sz z ps vs m=>?_,fun _ _ _=>rfl,fun sz x k n m=>?_,fun sz x k n m=>?_,fun sz x k n k' n' m=>?_⟩
 ·cases vs<;>rfl
 ·by_cases h:0≤n
  ·simp[amOp,optN,h];cases sliceA m sz x (some n.toNat) none none<;>rfl
  ·simp[amOp,optN,h]
 ·by_cases h:0≤n
  ·simp[amOp,optN,h];cases sliceA m sz x none (some n.toNat) none<;>rfl
  ·simp[amOp,optN,h]
 ·by_cases h:0≤n
  ·by_cases h':0≤n'
   ·simp[amOp,optN,h,h'];cases sliceA m sz x (some n.toNat) (some n'.toNat) none<;>rfl
   ·simp[amOp,optN,h,h']
  ·simp[amOp,optN,h]
end
end Go.Am
end
section
namespace Go.Am
theorem get_at{α:Type} {l k:List α} {n i:Nat} (h:l.length=n):(l++k)[n+i]?=k[i]?:=by rw[← h];exact get_mid
theorem get_at0{α:Type} {l k:List α} {n:Nat} (h:l.length=n):(l++k)[n]?=k[0]?:=by rw[← h];exact get_mid0
theorem set_at{α:Type} {l k:List α} {n i:Nat} {y:α} (h:l.length=n):(l++k).set (n+i) y=l++k.set i y:=by rw[← h];exact set_mid
theorem set_at0{α:Type} {l k:List α} {n:Nat} {y:α} (h:l.length=n):(l++k).set n y=l++k.set 0 y:=by rw[← h];exact set_mid0
theorem zk:type_of% (And.intro (And.intro (And.intro (And.intro (And.intro (And.intro @ek @evB) (And.intro @evS @evL)) (And.intro (And.intro @Bool.and_true @Bool.true_and) (And.intro @if_true.{1} (And.intro @CW_true @CW_false)))) (And.intro (And.intro (And.intro @condT @condF) (And.intro @RQ_some (And.intro @tupA_one @tupA_two))) (And.intro (And.intro @tupA_nil @Nat.zero_add) (And.intro @Nat.add_zero (And.intro @and_self @and_true))))) (And.intro (And.intro (And.intro (And.intro @true_and @Nat.le_refl) (And.intro @Bool.not_true (And.intro @Bool.not_false @Bool.false_xor))) (And.intro (And.intro @Bool.true_xor @cond_true.{1}) (And.intro @cond_false.{1} (And.intro @if_false.{1} @ne_eq.{1})))) (And.intro (And.intro (And.intro @decide_not @decide_true) (And.intro @decide_false (And.intro @not_true_eq_false @not_false_eq_true))) (And.intro (And.intro @cond_bool @cond_int) (And.intro @beq_self_eq_true.{0} (And.intro @Bool.and_self @Bool.and_false)))))) (And.intro (And.intro (And.intro (And.intro (And.intro @Bool.false_and @Bool.xor_false) (And.intro @Bool.xor_true (And.intro @loadN_ldC @ldC_none))) (And.intro (And.intro @ldC_somes @stC_aggs) (And.intro @storeN_stC (And.intro @stC_int @stC_bool)))) (And.intro (And.intro (And.intro @stC_ptr @stC_nilp) (And.intro @stC_sl (And.intro @stC_nils @getC_gcO))) (And.intro (And.intro @gcO_cells @W_draw_eq) (And.intro @ev_clear (And.intro @evT @evF))))) (And.intro (And.intro (And.intro (And.intro @evX @evM) (And.intro @saA_self (And.intro @saO_self @if_pos.{1}))) (And.intro (And.intro @if_neg.{1} @wrapI) (And.intro @get_concat (And.intro @set_concat @Int.toNat_natCast)))) (And.intro (And.intro (And.intro @Int.toNat_zero @List.nil_append.{0}) (And.intro @Nat.mul_one (And.intro @decide_eq_true @decide_eq_false))) (And.intro (And.intro @Bool.false_or @Bool.true_or) (And.intro @Bool.or_false (And.intro @Bool.or_true @wrapU))))))):=(And.intro (And.intro (And.intro (And.intro (And.intro (And.intro @ek @evB) (And.intro @evS @evL)) (And.intro (And.intro @Bool.and_true @Bool.true_and) (And.intro @if_true.{1} (And.intro @CW_true @CW_false)))) (And.intro (And.intro (And.intro @condT @condF) (And.intro @RQ_some (And.intro @tupA_one @tupA_two))) (And.intro (And.intro @tupA_nil @Nat.zero_add) (And.intro @Nat.add_zero (And.intro @and_self @and_true))))) (And.intro (And.intro (And.intro (And.intro @true_and @Nat.le_refl) (And.intro @Bool.not_true (And.intro @Bool.not_false @Bool.false_xor))) (And.intro (And.intro @Bool.true_xor @cond_true.{1}) (And.intro @cond_false.{1} (And.intro @if_false.{1} @ne_eq.{1})))) (And.intro (And.intro (And.intro @decide_not @decide_true) (And.intro @decide_false (And.intro @not_true_eq_false @not_false_eq_true))) (And.intro (And.intro @cond_bool @cond_int) (And.intro @beq_self_eq_true.{0} (And.intro @Bool.and_self @Bool.and_false)))))) (And.intro (And.intro (And.intro (And.intro (And.intro @Bool.false_and @Bool.xor_false) (And.intro @Bool.xor_true (And.intro @loadN_ldC @ldC_none))) (And.intro (And.intro @ldC_somes @stC_aggs) (And.intro @storeN_stC (And.intro @stC_int @stC_bool)))) (And.intro (And.intro (And.intro @stC_ptr @stC_nilp) (And.intro @stC_sl (And.intro @stC_nils @getC_gcO))) (And.intro (And.intro @gcO_cells @W_draw_eq) (And.intro @ev_clear (And.intro @evT @evF))))) (And.intro (And.intro (And.intro (And.intro @evX @evM) (And.intro @saA_self (And.intro @saO_self @if_pos.{1}))) (And.intro (And.intro @if_neg.{1} @wrapI) (And.intro @get_concat (And.intro @set_concat @Int.toNat_natCast)))) (And.intro (And.intro (And.intro @Int.toNat_zero @List.nil_append.{0}) (And.intro @Nat.mul_one (And.intro @decide_eq_true @decide_eq_false))) (And.intro (And.intro @Bool.false_or @Bool.true_or) (And.intro @Bool.or_false (And.intro @Bool.or_true @wrapU)))))))
theorem zd:type_of% (And.intro (And.intro (And.intro (And.intro @evW (And.intro @evQ @thenQ_normal)) (And.intro @thenQ_exit (And.intro @thenQ_ret @blockQ_normal))) (And.intro (And.intro @blockQ_ret (And.intro @blockQ_exit @CW_true)) (And.intro (And.intro @CW_false @W_scope) (And.intro @exitQ_normal @exitQ_ret)))) (And.intro (And.intro (And.intro @exitQ_exit (And.intro @W_goto @W_scopeg)) (And.intro @thenQ_goto (And.intro @blockQ_goto @exitQ_goto))) (And.intro (And.intro @jumpQ_normal (And.intro @jumpQ_ret @jumpQ_exit)) (And.intro (And.intro @jumpQ_goto @noG_normal) (And.intro @noG_ret @noG_exit))))):=(And.intro (And.intro (And.intro (And.intro @evW (And.intro @evQ @thenQ_normal)) (And.intro @thenQ_exit (And.intro @thenQ_ret @blockQ_normal))) (And.intro (And.intro @blockQ_ret (And.intro @blockQ_exit @CW_true)) (And.intro (And.intro @CW_false @W_scope) (And.intro @exitQ_normal @exitQ_ret)))) (And.intro (And.intro (And.intro @exitQ_exit (And.intro @W_goto @W_scopeg)) (And.intro @thenQ_goto (And.intro @blockQ_goto @exitQ_goto))) (And.intro (And.intro @jumpQ_normal (And.intro @jumpQ_ret @jumpQ_exit)) (And.intro (And.intro @jumpQ_goto @noG_normal) (And.intro @noG_ret @noG_exit)))))
theorem zm:type_of% (And.intro (And.intro @List.append_assoc.{0} (And.intro @List.length_append.{0} @get_mid)) (And.intro @get_mid0 (And.intro @set_mid @set_mid0))):=(And.intro (And.intro @List.append_assoc.{0} (And.intro @List.length_append.{0} @get_mid)) (And.intro @get_mid0 (And.intro @set_mid @set_mid0)))
theorem zg:type_of% (And.intro (And.intro (And.intro @List.length_set.{0} (And.intro @List.length_cons.{0} @List.length_nil.{0})) (And.intro @List.cons_append.{0} (And.intro @List.getElem?_append_left.{0} @List.set_append_left.{0}))) (And.intro (And.intro @get_at (And.intro @get_at0 @set_at)) (And.intro @set_at0 (And.intro @List.getElem?_set_self.{0} @List.getElem?_set_ne.{0})))):=(And.intro (And.intro (And.intro @List.length_set.{0} (And.intro @List.length_cons.{0} @List.length_nil.{0})) (And.intro @List.cons_append.{0} (And.intro @List.getElem?_append_left.{0} @List.set_append_left.{0}))) (And.intro (And.intro @get_at (And.intro @get_at0 @set_at)) (And.intro @set_at0 (And.intro @List.getElem?_set_self.{0} @List.getElem?_set_ne.{0}))))
theorem zl:type_of% (And.intro (And.intro @List.length_cons.{0} @List.length_nil.{0}) (And.intro @List.length_set.{0} @List.length_append.{0})):=(And.intro (And.intro @List.length_cons.{0} @List.length_nil.{0}) (And.intro @List.length_set.{0} @List.length_append.{0}))
theorem zn:type_of% (And.intro (And.intro @get_mid (And.intro @get_mid0 @List.cons_append.{0})) (And.intro @List.append_assoc.{0} (And.intro @List.getElem?_cons_zero.{0} @List.getElem?_cons_succ.{0}))):=(And.intro (And.intro @get_mid (And.intro @get_mid0 @List.cons_append.{0})) (And.intro @List.append_assoc.{0} (And.intro @List.getElem?_cons_zero.{0} @List.getElem?_cons_succ.{0})))
end Go.Am
end
section
namespace Go.Am
mutual
def AV.ren(ρ:Nat→Option Nat):AV→Option AV
 | .ptr i o=>match ρ i with|some k=>some (.ptr k o)|none=>none
 | .sl i o len cap=>match ρ i with|some k=>some (.sl k o len cap)|none=>none
 | .map i=>match ρ i with|some k=>some (.map k)|none=>none
 | .fn f a b=>match AV.renL ρ a,AV.renL ρ b with|some a,some b=>some (.fn f a b)|_,_=>none
 | .agg cs=>match AV.renL ρ cs with|some cs=>some (.agg cs)|none=>none
 | .tup cs=>match AV.renL ρ cs with|some cs=>some (.tup cs)|none=>none
 | .undef=>some .undef
 | .bool b=>some (.bool b)
 | .int k n=>some (.int k n)
 | .str s=>some (.str s)
 | .nilp=>some .nilp
 | .nils=>some .nils
 | .mt=>some .mt
 | .yld l=>some (.yld l)
 | .nilm=>some .nilm
 | .nilf=>some .nilf
def AV.renL(ρ:Nat→Option Nat):List AV→Option (List AV)
 | []=>some []
 | a :: as=>match AV.ren ρ a,AV.renL ρ as with|some a,some as=>some (a :: as)|_,_=>none
end

def renC{X:Type} (ρ:Nat→Option Nat):Chunk X→Option (Chunk X)
 | .cells sz ro l=>match AV.renL ρ l with|some l=>some (.cells sz ro l)|none=>none
 | .abs x=>some (.abs x)
 | .dead=>some .dead
 | .tab _ _=>none
 | .rtab _=>none
section
variable {num:Nat→Nat} {μ μ':Mu} {ρ:Nat→Option Nat}
theorem VR.fn_inv{f:Nat} {a b:List AV} {v:Value} (h:VR num μ (.fn f a b) v):∃ cs ds:Array Value,v = .func (.func (num f)) cs ds∧VRL num μ a cs.toList∧VRL num μ b ds.toList:=by
 cases h with
 | fn h1 h2 h3 h4=>exact⟨_,_,rfl,⟨by simpa using h1,fun j x d hx hd=>h2 j x d hx (by simpa using hd)⟩,by simpa using h3,fun j x d hx hd=>h4 j x d hx (by simpa using hd)⟩
theorem VR.fn_of{f:Nat} {a b:List AV} {cs ds:Array Value} (h:VRL num μ a cs.toList) (k:VRL num μ b ds.toList):VR num μ (.fn f a b) (.func (.func (num f)) cs ds) :=
 .fn (by simpa using h.1) (fun j x d hx hd=>h.2 j x d hx (by simpa using hd)) (by simpa using k.1) (fun j x d hx hd=>k.2 j x d hx (by simpa using hd))
mutual
theorem ren_forth(hρ:∀ j i p,ρ j=some i→μ j=some p→μ' i=some p):∀ {a b:AV} {v:Value},AV.ren ρ a=some b→VR num μ a v→VR num μ' b v
 | .ptr i o,b,v,h,hv=>by
  simp only[AV.ren] at h
  split at h
  ·rename_i k hk;injection h with h;subst h
   cases hv with
   | ptr hp=>exact .ptr (hρ _ _ _ hk hp)
  ·cases h
 | .sl i o len cap,b,v,h,hv=>by
  simp only[AV.ren] at h
  split at h
  ·rename_i k hk;injection h with h;subst h
   cases hv with
   | sl hp=>exact .sl (hρ _ _ _ hk hp)
   | slu hp hl hr=>exact .slu (hρ _ _ _ hk hp) hl hr
   | slz hp=>exact .slz (hρ _ _ _ hk hp)
   | slz0 hp=>exact .slz0 (hρ _ _ _ hk hp)
  ·cases h
 | .map i,b,v,h,hv=>by
  simp only[AV.ren] at h
  split at h
  ·rename_i k hk;injection h with h;subst h
   cases hv with
   | map hp=>exact .map (hρ _ _ _ hk hp)
  ·cases h
 | .fn f x y,b,v,h,hv=>by
  simp only[AV.ren] at h
  split at h
  ·rename_i x' y' hx hy;injection h with h;subst h
   obtain⟨cs,ds,rfl,h1,h2⟩:=hv.fn_inv
   exact VR.fn_of (renL_forth hρ hx h1) (renL_forth hρ hy h2)
  ·cases h
 | .agg cs,b,v,h,hv=>by
  simp only[AV.ren] at h
  split at h
  ·rename_i cs' hx;injection h with h;subst h
   obtain⟨ds,rfl,h1⟩:=hv.agg_inv
   have:=VR.agg_of (renL_forth hρ hx h1)
   simpa using this
  ·cases h
 | .tup cs,b,v,h,hv=>by
  simp only[AV.ren] at h
  split at h
  ·rename_i cs' hx;injection h with h;subst h
   obtain⟨ds,rfl,h1⟩:=hv.tup_inv
   have:=VR.tup_of (renL_forth hρ hx h1)
   simpa using this
  ·cases h
 | .undef,b,v,h,hv=>by injection h with h;subst h;exact .undef v
 | .bool _,b,v,h,hv=>by injection h with h;subst h;cases hv;exact .bool _
 | .int _ _,b,v,h,hv=>by injection h with h;subst h;cases hv;exact .int _ _
 | .str _,b,v,h,hv=>by injection h with h;subst h;cases hv;exact .str _
 | .nilp,b,v,h,hv=>by injection h with h;subst h;cases hv;exact .nilp
 | .nils,b,v,h,hv=>by injection h with h;subst h;cases hv;exact .nils
 | .mt,b,v,h,hv=>by injection h with h;subst h;cases hv;exact .mt
 | .yld l,b,v,h,hv=>by injection h with h;subst h;cases hv;exact .yld
 | .nilm,b,v,h,hv=>by injection h with h;subst h;cases hv;exact .nilm
 | .nilf,b,v,h,hv=>by injection h with h;subst h;cases hv;exact .nilf
theorem renL_forth(hρ:∀ j i p,ρ j=some i→μ j=some p→μ' i=some p):∀ {as bs:List AV} {vs:List Value},AV.renL ρ as=some bs→VRL num μ as vs→VRL num μ' bs vs
 | [],bs,vs,h,hv=>by injection h with h;subst h;rw[hv.nil_inv];exact VRL.nil
 | a :: as,bs,vs,h,hv=>by
  simp only[AV.renL] at h
  split at h
  ·rename_i a' as' h1 h2;injection h with h;subst h
   obtain⟨v,vs',rfl,k1,k2⟩:=hv.cons_inv
   exact VRL.cons (ren_forth hρ h1 k1) (renL_forth hρ h2 k2)
  ·cases h
end

mutual
theorem ren_back(hρ:∀ j i p,ρ j=some i→μ' i=some p→μ j=some p):∀ {a b:AV} {v:Value},AV.ren ρ a=some b→VR num μ' b v→VR num μ a v
 | .ptr i o,b,v,h,hv=>by
  simp only[AV.ren] at h
  split at h
  ·rename_i k hk;injection h with h;subst h
   cases hv with
   | ptr hp=>exact .ptr (hρ _ _ _ hk hp)
  ·cases h
 | .sl i o len cap,b,v,h,hv=>by
  simp only[AV.ren] at h
  split at h
  ·rename_i k hk;injection h with h;subst h
   cases hv with
   | sl hp=>exact .sl (hρ _ _ _ hk hp)
   | slu hp hl hr=>exact .slu (hρ _ _ _ hk hp) hl hr
   | slz hp=>exact .slz (hρ _ _ _ hk hp)
   | slz0 hp=>exact .slz0 (hρ _ _ _ hk hp)
  ·cases h
 | .map i,b,v,h,hv=>by
  simp only[AV.ren] at h
  split at h
  ·rename_i k hk;injection h with h;subst h
   cases hv with
   | map hp=>exact .map (hρ _ _ _ hk hp)
  ·cases h
 | .fn f x y,b,v,h,hv=>by
  simp only[AV.ren] at h
  split at h
  ·rename_i x' y' hx hy;injection h with h;subst h
   obtain⟨cs,ds,rfl,h1,h2⟩:=hv.fn_inv
   exact VR.fn_of (renL_back hρ hx h1) (renL_back hρ hy h2)
  ·cases h
 | .agg cs,b,v,h,hv=>by
  simp only[AV.ren] at h
  split at h
  ·rename_i cs' hx;injection h with h;subst h
   obtain⟨ds,rfl,h1⟩:=hv.agg_inv
   have:=VR.agg_of (renL_back hρ hx h1)
   simpa using this
  ·cases h
 | .tup cs,b,v,h,hv=>by
  simp only[AV.ren] at h
  split at h
  ·rename_i cs' hx;injection h with h;subst h
   obtain⟨ds,rfl,h1⟩:=hv.tup_inv
   have:=VR.tup_of (renL_back hρ hx h1)
   simpa using this
  ·cases h
 | .undef,b,v,h,hv=>by exact .undef v
 | .bool _,b,v,h,hv=>by injection h with h;subst h;cases hv;exact .bool _
 | .int _ _,b,v,h,hv=>by injection h with h;subst h;cases hv;exact .int _ _
 | .str _,b,v,h,hv=>by injection h with h;subst h;cases hv;exact .str _
 | .nilp,b,v,h,hv=>by injection h with h;subst h;cases hv;exact .nilp
 | .nils,b,v,h,hv=>by injection h with h;subst h;cases hv;exact .nils
 | .mt,b,v,h,hv=>by injection h with h;subst h;cases hv;exact .mt
 | .yld l,b,v,h,hv=>by injection h with h;subst h;cases hv;exact .yld
 | .nilm,b,v,h,hv=>by injection h with h;subst h;cases hv;exact .nilm
 | .nilf,b,v,h,hv=>by injection h with h;subst h;cases hv;exact .nilf
theorem renL_back(hρ:∀ j i p,ρ j=some i→μ' i=some p→μ j=some p):∀ {as bs:List AV} {vs:List Value},AV.renL ρ as=some bs→VRL num μ' bs vs→VRL num μ as vs
 | [],bs,vs,h,hv=>by injection h with h;subst h;rw[hv.nil_inv];exact VRL.nil
 | a :: as,bs,vs,h,hv=>by
  simp only[AV.renL] at h
  split at h
  ·rename_i a' as' h1 h2;injection h with h;subst h
   obtain⟨v,vs',rfl,k1,k2⟩:=hv.cons_inv
   exact VRL.cons (ren_back hρ h1 k1) (renL_back hρ h2 k2)
  ·cases h
end
end
theorem renL_length{ρ:Nat→Option Nat}:∀ {as bs:List AV},AV.renL ρ as=some bs→as.length=bs.length
 | [],bs,h=>by injection h with h;subst h;rfl
 | a :: as,bs,h=>by
  simp only[AV.renL] at h
  split at h
  ·rename_i a' as' h1 h2;injection h with h;subst h;simp[renL_length h2]
  ·cases h
theorem renL_get{ρ:Nat→Option Nat}:∀ {as bs:List AV},AV.renL ρ as=some bs→∀ {o:Nat} {b:AV},bs[o]?=some b→∃ a,as[o]?=some a∧AV.ren ρ a=some b
 | [],bs,h,o,b,hb=>by injection h with h;subst h;simp at hb
 | a :: as,bs,h,o,b,hb=>by
  simp only[AV.renL] at h
  split at h
  ·rename_i a' as' h1 h2;injection h with h;subst h
   cases o with
   | zero=>simp at hb;subst hb;exact⟨a,rfl,h1⟩
   | succ o=>simp at hb;obtain⟨x,hx,hr⟩:=renL_get h2 hb;exact⟨x,by simpa using hx,hr⟩
  ·cases h
theorem renL_get' {ρ:Nat→Option Nat}:∀ {as bs:List AV},AV.renL ρ as=some bs→∀ {o:Nat} {a:AV},as[o]?=some a→∃ b,bs[o]?=some b∧AV.ren ρ a=some b
 | [],bs,h,o,b,hb=>by simp at hb
 | a :: as,bs,h,o,b,hb=>by
  simp only[AV.renL] at h
  split at h
  ·rename_i a' as' h1 h2;injection h with h;subst h
   cases o with
   | zero=>simp at hb;subst hb;exact⟨a',rfl,h1⟩
   | succ o=>simp at hb;obtain⟨x,hx,hr⟩:=renL_get' h2 hb;exact⟨x,by simpa using hx,hr⟩
  ·cases h
section
variable {X:Type}
structure LiftAt (f:AFun X) (is:List Nat) (ρ:Nat→Option Nat) (as':List AV) (ms:Mem X) (v':AV) (ms':Mem X) (args:List AV) (m:Mem X) (v:AV) (m':Mem X):Prop where
 lt:∀ i,i ∈ is→i < m.length
 len:ms.length=is.length
 ch:∀ (j i:Nat) (c:Chunk X),is[j]?=some i→ms[j]?=some c→∃ c',renC (fun j=>is[j]?) c=some c'∧m[i]?=some c'
 arg:AV.renL (fun j=>is[j]?) as'=some args
 run:f as' ms=some (v',ms')
 h0:∀ j,j < is.length→ρ j=is[j]?
 new:∀ (j i:Nat),is.length≤j→ρ j=some i→m.length≤i∧i < m'.length∧j < ms'.length∧∀ sz l,ms'[j]?≠some (.cells sz true l)
 inj:∀ j j' i,ρ j=some i→ρ j'=some i→j=j'
 mlen:m.length≤m'.length
 mlen':ms.length≤ms'.length
 same:∀ (i:Nat),i < m.length→i ∉ is→m'[i]?=m[i]?
 ch':∀ (j i:Nat) (c:Chunk X),ρ j=some i→ms'[j]?=some c→∃ c',renC ρ c=some c'∧m'[i]?=some c'
 ro:∀ (j sz:Nat) (l:List AV),j < is.length→ms'[j]?=some (.cells sz true l)→∃ sz l,ms[j]?=some (.cells sz true l)
 res:AV.ren ρ v'=some v
def Lift(f g:AFun X):Prop:=∀ args m v m',g args m=some (v,m')→∃ is ρ as' ms v' ms',LiftAt f is ρ as' ms v' ms' args m v m'
theorem Lift.mono{f g:AFun X} (h:Lift f g):Mono g:=fun args m v m' hg=>by
 obtain⟨_,_,_,_,_,_,k⟩:=h args m v m' hg
 exact k.mlen
variable {A:AbsSem X} {num:Nat→Nat} {P:Program}
open Classical in
theorem lift_sound{f g:AFun X} (h:Lift f g) {k:FuncId} (hf:Sound A num P k f):Sound A num P k g:=by
 intro F μ m w args vs v m' hS hV hg
 obtain⟨is,ρ,as',ms,v',ms',L⟩:=h args m v m' hg
 obtain⟨own,hS⟩:=hS
 -- the small memory
 have hisn:∀ j j' i,is[j]?=some i→is[j']?=some i→j=j':=fun j j' i h1 h2 =>
  L.inj j j' i ((L.h0 j (List.getElem?_eq_some_iff.1 h1).1).trans h1) ((L.h0 j' (List.getElem?_eq_some_iff.1 h2).1).trans h2)
 let μs:Mu:=fun j=>match is[j]? with|some i=>μ i|none=>none
 let owns:Nat→Option Nat:=fun c=>if h:∃ j,∃ i,own c=some i∧is[j]?=some i then some h.choose else none
 let Fs:Nat→Prop:=fun c=>∃ i,i ∈ is∧own c=some i
 have hμs:∀ j i,is[j]?=some i→μs j=μ i:=fun j i h1=>by simp only[μs,h1]
 have howns:∀ c j i,is[j]?=some i→(own c=some i ↔ owns c=some j):=by
  intro c j i hj
  constructor
  ·intro ho
   have hex:∃ j,∃ i,own c=some i∧is[j]?=some i:=⟨j,i,ho,hj⟩
   have hc:=hex.choose_spec
   obtain⟨i',h1,h2⟩:=hc
   have:i'=i:=by rw[ho] at h1;exact(Option.some.inj h1).symm
   subst this
   have:hex.choose=j:=hisn _ _ _ h2 hj
   simp only[owns,dif_pos hex,this]
  ·intro ho
   simp only[owns] at ho
   split at ho
   ·rename_i hex
    obtain⟨i',h1,h2⟩:=hex.choose_spec
    injection ho with ho
    rw[ho,hj] at h2
    injection h2 with h2;subst h2;exact h1
   ·cases ho
 have hownsF:∀ c j,owns c=some j→Fs c∧j < is.length:=by
  intro c j ho
  simp only[owns] at ho
  split at ho
  ·rename_i hex
   obtain⟨i',h1,h2⟩:=hex.choose_spec
   injection ho with ho
   exact⟨⟨i',List.mem_of_getElem? h2,h1⟩,by rw[← ho];exact(List.getElem?_eq_some_iff.1 h2).1⟩
  ·cases ho
 have hFsF:∀ c,Fs c→F c:=fun c ⟨i,_,h1⟩=>hS.isF c i h1
 have hsim:Sim A num Fs μs ms w.heap:=by
  refine⟨owns,fun c j ho=>(hownsF c j ho).1,fun c hc=>hS.lt c (hFsF c hc),fun j hj=>?_,fun j ch p hj hp=>?_⟩
  ·have:is[j]?=none:=List.getElem?_eq_none (by rw[← L.len];exact hj)
   simp only[μs,this]
  ·have hjl:j < is.length:=by rw[← L.len];exact(List.getElem?_eq_some_iff.1 hj).1
   have hi:=List.getElem?_eq_getElem hjl
   obtain⟨c',h1,h2⟩:=L.ch j _ ch hi hj
   rw[hμs j _ hi] at hp
   have hok:=hS.ok _ c' p h2 hp
   have hback:∀ (j:Nat) (i:Nat) (p:Pl),is[j]?=some i→μ i=some p→μs j=some p:=fun j i p h1 h2=>by rw[hμs j i h1];exact h2
   cases ch with
   | cells sz ro l =>
    simp only[renC] at h1
    split at h1
    ·rename_i l' hl
     injection h1 with h1;subst h1
     obtain⟨arr,T,fr,k1,k2,k3,k4,k5⟩:=hok
     refine⟨arr,T,fr,k1,k2,⟨by rw[renL_length hl];exact k3.1,k3.2.1,fun o a ha=>?_⟩,fun hro hFs=>k4 hro (hFsF _ hFs),fun hro=>⟨(howns _ _ _ hi).1 (k5 hro).1,(k5 hro).2⟩⟩
     obtain⟨b,hb,hr⟩:=renL_get' hl ha
     obtain⟨v,hv1,hv2⟩:=k3.2.2 o b hb
     exact⟨v,hv1,ren_back hback hr hv2⟩
    ·cases h1
   | abs x =>
    injection h1 with h1;subst h1
    exact A.frame hok (fun c=>howns c _ _ hi) (fun _ _=>rfl)
   | dead=>trivial
   | tab l ck=>cases h1
   | rtab l=>cases h1
 have hargs:VRL num μs as' vs:=renL_back (fun j i p h1 h2=>by rw[hμs j i h1];exact h2) L.arg hV
 refine(hf Fs μs ms w as' vs v' ms' hsim hargs L.run).mono fun e w' he=>?_
 obtain⟨F',μ',cv,rfl,hcv,⟨own',hS'⟩,hE⟩:=he
 -- back to the great one
 have hF'd:∀ c,F' c→F c→Fs c:=by
  intro c h1 h2
  rcases hE.fr c h1 with h3|h3
  ·exact h3
  ·have:=hS.lt c h2;omega
 let μ2:Mu:=fun i=>if i < m.length then μ i else if h:∃ j,ρ j=some i then μ' h.choose else none
 let F2:Nat→Prop:=fun c=>(F c∧¬ Fs c)∨F' c
 let own2:Nat→Option Nat:=fun c=>if F' c then(match own' c with|some j=>ρ j|none=>none) else if Fs c then none else match own c with|some i=>if i < m.length then some i else none|none=>none
 have hμ2:∀ (j i:Nat) (p:Pl),ρ j=some i→μ' j=some p→μ2 i=some p:=by
  intro j i p hj hp
  simp only[μ2]
  by_cases hjl:j < is.length
  ·have hi:is[j]?=some i:=(L.h0 j hjl).symm.trans hj
   have hlt:=L.lt i (List.mem_of_getElem? hi)
   rw[if_pos hlt,← hμs j i hi,← hE.mu j (by rw[L.len];exact hjl)]
   exact hp
  ·have:=(L.new j i (by omega) hj).1
   rw[if_neg (by omega)]
   have hex:∃ j,ρ j=some i:=⟨j,hj⟩
   have:hex.choose=j:=L.inj _ _ _ hex.choose_spec hj
   rw[dif_pos hex,this];exact hp
 have hρlt:∀ (j i:Nat),ρ j=some i→i < m.length→is[j]?=some i:=by
  intro j i hj hi
  by_cases hjl:j < is.length
  ·exact(L.h0 j hjl).symm.trans hj
  ·have:=(L.new j i (by omega) hj).1;omega
 have hown2:∀ (c j i:Nat),ρ j=some i→(own' c=some j ↔ own2 c=some i):=by
  intro c j i hj
  constructor
  ·intro ho
   have:=hS'.isF c j ho
   simp only[own2,if_pos this,ho,hj]
  ·intro ho
   simp only[own2] at ho
   split at ho
   ·split at ho
    ·rename_i j' hj'
     rw[hj',L.inj _ _ _ ho hj]
    ·cases ho
   ·split at ho
    ·cases ho
    ·rename_i hnF hnFs
     split at ho
     ·rename_i i' hi'
      split at ho
      ·rename_i hlt
       injection ho with ho;subst ho
       exact absurd ⟨i',List.mem_of_getElem? (hρlt j i' hj hlt),hi'⟩ hnFs
      ·cases ho
     ·cases ho
 have hown2':∀ (c i:Nat),i < m.length→i ∉ is→(own c=some i ↔ own2 c=some i):=by
  intro c i hlt hni
  constructor
  ·intro ho
   have hFc:=hS.isF c i ho
   have hnFs:¬ Fs c:=fun⟨i',h1,h2⟩=>by
    rw[ho] at h2;injection h2 with h2;subst h2;exact hni h1
   have hnF':¬ F' c:=fun h1=>hnFs (hF'd c h1 hFc)
   simp only[own2,if_neg hnF',if_neg hnFs,ho,if_pos hlt]
  ·intro ho
   simp only[own2] at ho
   split at ho
   ·split at ho
    ·rename_i j' hj'
     exact absurd (List.mem_of_getElem? (hρlt j' i ho hlt)) hni
    ·cases ho
   ·split at ho
    ·cases ho
    ·split at ho
     ·rename_i i' hi'
      split at ho
      ·injection ho with ho;subst ho;exact hi'
      ·cases ho
     ·cases ho
 have hkept:∀ c,c < w.heap.size→¬ Fs c→w'.heap[c]?=w.heap[c]?:=fun c h1 h2=>hE.keep c h1 h2
 have small:∀ (j i:Nat) (c:Chunk X) (p:Pl),ρ j=some i→ms'[j]?=some c→μ' j=some p→∀ ch,m'[i]?=some ch→ChunkOk A num μ2 F2 (fun c=>own2 c=some i) p w'.heap ch:=by
  intro j i c p hj hc hp ch hch
  obtain⟨c',h1,h2⟩:=L.ch' j i c hj hc
  have:c'=ch:=by rw[h2] at hch;exact Option.some.inj hch
  subst this
  have hok:=hS'.ok j c p hc hp
  cases c with
  | cells sz ro l =>
   simp only[renC] at h1
   split at h1
   ·rename_i l' hl
    injection h1 with h1;subst h1
    obtain⟨arr,T,fr,k1,k2,k3,k4,k5⟩:=hok
    refine⟨arr,T,fr,k1,k2,⟨by rw[← renL_length hl];exact k3.1,k3.2.1,fun o a ha=>?_⟩,fun hro hF2=>?_,fun hro=>⟨(hown2 _ _ _ hj).1 (k5 hro).1,(k5 hro).2⟩⟩
    ·obtain⟨b,hb,hr⟩:=renL_get hl ha
     obtain⟨v,hv1,hv2⟩:=k3.2.2 o b hb
     exact⟨v,hv1,ren_forth hμ2 hr hv2⟩
    ·subst hro
     rcases hF2 with⟨hF,hnFs⟩|hF'
     ·by_cases hjl:j < is.length
      ·obtain⟨sz0,l0,hm0⟩:=L.ro j sz l hjl hc
       have hi:=List.getElem?_eq_getElem hjl
       have hi':is[j]?=some i:=(L.h0 j hjl).symm.trans hj
       have hps:μs j=some p:=(hE.mu j (by rw[L.len];exact hjl)).symm.trans hp
       obtain⟨c0,g1,g2⟩:=L.ch j i _ hi' hm0
       simp only[renC] at g1
       split at g1
       ·injection g1 with g1;subst g1
        obtain⟨_,_,_,_,_,_,q4,_⟩:=hS.ok i _ p g2 ((hμs j i hi').symm.trans hps)
        exact q4 rfl hF
       ·cases g1
      ·exact absurd hc ((L.new j i (by omega) hj).2.2.2 sz l)
     ·exact k4 rfl hF'
   ·cases h1
  | abs x =>
   injection h1 with h1;subst h1
   exact A.frame hok (fun c=>hown2 c _ _ hj) (fun _ _=>rfl)
  | dead=>injection h1 with h1;subst h1;trivial
  | tab l ck=>cases h1
  | rtab l=>cases h1
 refine⟨F2,μ2,cv,rfl,ren_forth hμ2 L.res hcv,⟨own2,?_⟩,?_⟩
 ·refine⟨fun c i ho=>?_,fun c hc=>?_,fun i hi=>?_,fun i ch p hi hp=>?_⟩
  ·simp only[own2] at ho
   split at ho
   ·rename_i hF';exact .inr hF'
   ·split at ho
    ·cases ho
    ·rename_i hnFs
     split at ho
     ·rename_i i' hi';exact .inl ⟨hS.isF c i' hi',hnFs⟩
     ·cases ho
  ·rcases hc with⟨h1,_⟩|h1
   ·exact Nat.lt_of_lt_of_le (hS.lt c h1) hE.size
   ·exact hS'.lt c h1
  ·simp only[μ2]
   have:=L.mlen
   rw[if_neg (by omega)]
   split
   ·rename_i hex
    have hj:=hex.choose_spec
    by_cases hjl:hex.choose < is.length
    ·have h1:=L.lt i (List.mem_of_getElem? ((L.h0 _ hjl).symm.trans hj));omega
    ·have:=(L.new _ i (by omega) hj).2.1;omega
   ·rfl
  ·by_cases hlt:i < m.length
   ·have hp0:μ i=some p:=by simpa only[μ2,if_pos hlt] using hp
    by_cases hni:i ∈ is
    ·obtain⟨j,hj⟩:=List.getElem?_of_mem hni
     have hjl:=(List.getElem?_eq_some_iff.1 hj).1
     have hρj:ρ j=some i:=(L.h0 j hjl).trans hj
     have hpj:μ' j=some p:=(hE.mu j (by rw[L.len];exact hjl)).trans ((hμs j i hj).trans hp0)
     have hms:=List.getElem?_eq_getElem (show j < ms'.length by have:=L.mlen';have:=L.len;omega)
     exact small j i _ p hρj hms hpj ch hi
    ·rw[L.same i hlt hni] at hi
     refine(hS.ok i ch p hi hp0).keep (fun i' p' hp'=>?_) (fun c=>hown2' c i hlt hni) (fun c hc=>?_) (fun c hc hFc=>⟨hkept c hc (fun h1=>hFc (hFsF c h1)),fun h1=>?_⟩)
     ·have:i' < m.length:=by
       rcases Nat.lt_or_ge i' m.length with h1|h1
       ·exact h1
       ·rw[hS.new i' h1] at hp';cases hp'
      simp only[μ2,if_pos this];exact hp'
     ·refine hkept c (hS.lt c (hS.isF c i hc)) (fun⟨i',h1,h2⟩=>?_)
      rw[hc] at h2;injection h2 with h2;subst h2;exact hni h1
     ·rcases h1 with⟨h1,_⟩|h1
      ·exact hFc h1
      ·rcases hE.fr c h1 with h2|h2
       ·exact hFc (hFsF c h2)
       ·omega
   ·simp only[μ2,if_neg hlt] at hp
    split at hp
    ·rename_i hex
     have hj:=hex.choose_spec
     by_cases hjl:hex.choose < is.length
     ·have h1:=L.lt i (List.mem_of_getElem? ((L.h0 _ hjl).symm.trans hj));omega
     ·have hn:=L.new _ i (by omega) hj
      exact small _ i _ p hj (List.getElem?_eq_getElem hn.2.2.1) hp ch hi
    ·cases hp
 ·refine⟨fun i hi=>by simp only[μ2,if_pos hi],fun c hc=>?_,hE.size,fun c hc hFc=>hE.keep c hc (fun h1=>hFc (hFsF c h1)),hE.os,hE.tape,hE.output⟩
  rcases hc with⟨h1,_⟩|h1
  ·exact .inl h1
  ·rcases hE.fr c h1 with h2|h2
   ·exact .inl (hFsF c h2)
   ·exact .inr h2
end
end Go.Am
namespace Go.Am
section
variable {X:Type}
mutual
theorem ren_no{ρ:Nat→Option Nat}:∀ {a b:AV},AV.ren (fun _=>none) a=some b→AV.ren ρ a=some b
 | .ptr i o,b,h=>by simp[AV.ren] at h
 | .sl i o len cap,b,h=>by simp[AV.ren] at h
 | .map i,b,h=>by simp[AV.ren] at h
 | .fn f x y,b,h=>by
  simp only[AV.ren] at h ⊢
  split at h
  ·rename_i x' y' hx hy;rw[renL_no hx,renL_no hy];exact h
  ·cases h
 | .agg cs,b,h=>by
  simp only[AV.ren] at h ⊢
  split at h
  ·rename_i x' hx;rw[renL_no hx];exact h
  ·cases h
 | .tup cs,b,h=>by
  simp only[AV.ren] at h ⊢
  split at h
  ·rename_i x' hx;rw[renL_no hx];exact h
  ·cases h
 | .undef,b,h=>h
 | .bool _,b,h=>h
 | .int _ _,b,h=>h
 | .str _,b,h=>h
 | .nilp,b,h=>h
 | .nils,b,h=>h
 | .mt,b,h=>h
 | .yld _,b,h=>h
 | .nilm,b,h=>h
 | .nilf,b,h=>h
theorem renL_no{ρ:Nat→Option Nat}:∀ {a b:List AV},AV.renL (fun _=>none) a=some b→AV.renL ρ a=some b
 | [],b,h=>h
 | a :: as,b,h=>by
  simp only[AV.renL] at h ⊢
  split at h
  ·rename_i x y hx hy;rw[ren_no hx,renL_no hy];exact h
  ·cases h
end

def pureF(g:List AV→Option AV):AFun X:=fun args m=>match g args with|some v=>some (v,m)|none=>none
def no:Nat→Option Nat:=fun _=>none
theorem lift_pure {f : AFun X} {g : List AV → Option AV} (h : ∀ args v, g args = some v → AV.renL no args = some args ∧ AV.ren no v = some v ∧ ∃ ms', f args [] = some (v, ms')) : Lift f (pureF g) := by
  intro args m v m' hg
  unfold pureF at hg
  split at hg
  · rename_i u hu
    simp only [Option.some.injEq, Prod.mk.injEq] at hg
    obtain ⟨rfl, rfl⟩ := hg
    obtain ⟨h1, h2, ms', h3⟩ := h args u hu
    refine ⟨[], no, args, [], u, ms', ?_⟩
    exact { lt := fun i hi => by simp at hi, len := rfl, ch := fun j i c hj => by simp at hj, arg := by simp only [List.getElem?_nil]; exact h1, run := h3, h0 := fun j hj => by simp at hj,
            new := fun j i _ hj => by simp [no] at hj, inj := fun j j' i hj => by simp [no] at hj, mlen := Nat.le_refl _, mlen' := by simp, same := fun _ _ _ => rfl,
            ch' := fun j i c hj => by simp [no] at hj, ro := fun j sz l hj => by simp at hj, res := h2 }
  · cases hg
def only(i:Nat):Nat→Option Nat:=fun j=>if j=0 then some i else none
end
end Go.Am
end
section
namespace Go.Am.F11
variable {X:Type}
def c_cell_New:AFun X:=amFunc [] cell_New
def c_conf_within:AFun X:=amFunc [] conf_within
def c_conf_Config_Right:AFun X:=amFunc [(176,c_conf_within)] conf_Config_Right
def c_conf_own_at:AFun X:=amFunc [(157,c_conf_Config_Right),(176,c_conf_within)] conf_own_at
def c_conf_Config_Word:AFun X:=amFunc [(177,c_conf_own_at)] conf_Config_Word
def c_steal_New:AFun X:=amFunc [(159,c_conf_Config_Word)] steal_New
def c_steal_Steal_Done:AFun X:=amFunc [] steal_Steal_Done
def c_steal_Steal_Many:AFun X:=amFunc [] steal_Steal_Many
def c_steal_Steal_Got:AFun X:=amFunc [(277,c_steal_Steal_Done),(275,c_steal_Steal_Many)] steal_Steal_Got
def c_cell_Mem_there:AFun X:=amFunc [] cell_Mem_there
def c_cell_counts_note:AFun X:=amFunc [] cell_counts_note
def c_cell_Mem_Store_1:AFun X:=amFunc [] cell_Mem_Store_1
def c_cell_Mem_CAS_1:AFun X:=amFunc [] cell_Mem_CAS_1
def c_cell_Mem_Load_1:AFun X:=amFunc [] cell_Mem_Load_1
def c_put_NewLay_1:AFun X:=amFunc [] put_NewLay_1
def c_cell_Mem_access:AFun X:=amFunc [(56,c_cell_Mem_there),(71,c_cell_counts_note),(49,c_cell_Mem_Store_1),(51,c_cell_Mem_CAS_1),(52,c_cell_Mem_Load_1),(213,c_put_NewLay_1)] cell_Mem_access
def c_cell_Mem_Load:AFun X:=amFunc [(50,c_cell_Mem_access),(52,c_cell_Mem_Load_1)] cell_Mem_Load
def c_word_Tail:AFun X:=amFunc [] word_Tail
def c_word_Head:AFun X:=amFunc [] word_Head
def c_word_Len:AFun X:=amFunc [(182,c_word_Tail),(179,c_word_Head)] word_Len
def c_steal_Steal_look:AFun X:=amFunc [(159,c_conf_Config_Word),(24,c_cell_Mem_Load),(178,c_word_Len)] steal_Steal_look
def c_conf_Config_Slot:AFun X:=amFunc [(157,c_conf_Config_Right),(177,c_conf_own_at)] conf_Config_Slot
def c_word_Older:AFun X:=amFunc [] word_Older
def c_steal_Steal_half:AFun X:=amFunc [(178,c_word_Len),(289,c_word_Older)] steal_Steal_half
def c_steal_Steal_copy:AFun X:=amFunc [(179,c_word_Head),(160,c_conf_Config_Slot),(24,c_cell_Mem_Load),(288,c_steal_Steal_half)] steal_Steal_copy
def c_word_Pack:AFun X:=amFunc [] word_Pack
def c_word_Gain:AFun X:=amFunc [(179,c_word_Head),(182,c_word_Tail),(183,c_word_Pack)] word_Gain
def c_cell_Mem_CAS:AFun X:=amFunc [(50,c_cell_Mem_access),(51,c_cell_Mem_CAS_1)] cell_Mem_CAS
def c_put_from:AFun X:=amFunc [(159,c_conf_Config_Word)] put_from
def c_slices_Clone_int:AFun X:=amFunc [] slices_Clone_int
def c_put_ring_load:AFun X:=amFunc [(159,c_conf_Config_Word),(24,c_cell_Mem_Load),(178,c_word_Len)] put_ring_load
def c_put_Put_look:AFun X:=amFunc [(219,c_put_ring_load)] put_Put_look
def c_put_ring_slot:AFun X:=amFunc [(182,c_word_Tail),(160,c_conf_Config_Slot)] put_ring_slot
def c_cell_Mem_Store:AFun X:=amFunc [(50,c_cell_Mem_access),(49,c_cell_Mem_Store_1)] cell_Mem_Store
def c_put_Put_lay:AFun X:=amFunc [(210,c_put_ring_slot),(22,c_cell_Mem_Store)] put_Put_lay
def c_word_Grow:AFun X:=amFunc [(179,c_word_Head),(182,c_word_Tail),(183,c_word_Pack)] word_Grow
def c_put_ring_change:AFun X:=amFunc [(159,c_conf_Config_Word),(23,c_cell_Mem_CAS)] put_ring_change
def c_put_Put_swing:AFun X:=amFunc [(211,c_word_Grow),(212,c_put_ring_change)] put_Put_swing
def c_put_Put_half:AFun X:=amFunc [] put_Put_half
def c_put_Put_take:AFun X:=amFunc [(220,c_put_Put_half),(210,c_put_ring_slot),(24,c_cell_Mem_Load)] put_Put_take
def c_word_Drop:AFun X:=amFunc [(179,c_word_Head),(182,c_word_Tail),(183,c_word_Pack)] word_Drop
def c_put_Put_cut:AFun X:=amFunc [(220,c_put_Put_half),(221,c_word_Drop),(212,c_put_ring_change)] put_Put_cut
def c_slices_IndexFunc_int:AFun X:=amFunc [(49,c_cell_Mem_Store_1),(51,c_cell_Mem_CAS_1),(52,c_cell_Mem_Load_1),(213,c_put_NewLay_1),(214,c_put_Put_look),(215,c_put_Put_lay),(216,c_put_Put_swing),(217,c_put_Put_take),(218,c_put_Put_cut)] slices_IndexFunc_int
def c_slices_DeleteFunc_int:AFun X:=amFunc [(97,c_slices_IndexFunc_int),(49,c_cell_Mem_Store_1),(51,c_cell_Mem_CAS_1),(52,c_cell_Mem_Load_1),(213,c_put_NewLay_1),(214,c_put_Put_look),(215,c_put_Put_lay),(216,c_put_Put_swing),(217,c_put_Put_take),(218,c_put_Put_cut)] slices_DeleteFunc_int
def c_put_NewLay:AFun X:=amFunc [(206,c_put_from),(208,c_slices_Clone_int),(95,c_slices_DeleteFunc_int),(213,c_put_NewLay_1)] put_NewLay
def c_steal_Steal_gain:AFun X:=amFunc [(159,c_conf_Config_Word),(288,c_steal_Steal_half),(180,c_word_Gain),(23,c_cell_Mem_CAS),(199,c_put_NewLay)] steal_Steal_gain
def c_put_Lay_Done:AFun X:=amFunc [] put_Lay_Done
def c_put_Lay_look:AFun X:=amFunc [(219,c_put_ring_load)] put_Lay_look
def c_put_Lay_Step:AFun X:=amFunc [(196,c_put_Lay_Done),(209,c_put_Lay_look),(210,c_put_ring_slot),(22,c_cell_Mem_Store),(211,c_word_Grow),(212,c_put_ring_change)] put_Lay_Step
def c_steal_Steal_Step:AFun X:=amFunc [(277,c_steal_Steal_Done),(283,c_steal_Steal_look),(284,c_steal_Steal_copy),(285,c_steal_Steal_gain),(195,c_put_Lay_Step)] steal_Steal_Step
def c_put_Lay_Hands:AFun X:=amFunc [(208,c_slices_Clone_int)] put_Lay_Hands
def c_steal_rest_Rest:AFun X:=amFunc [(197,c_put_Lay_Hands)] steal_rest_Rest
def c_steal_Steal_Left:AFun X:=amFunc [(277,c_steal_Steal_Done),(275,c_steal_Steal_Many),(286,c_steal_rest_Rest)] steal_Steal_Left
def c_slices_Grow_int:AFun X:=amFunc [] slices_Grow_int
def c_slices_Concat_int:AFun X:=amFunc [(290,c_slices_Grow_int)] slices_Concat_int
def c_steal_Steal_Hands:AFun X:=amFunc [(275,c_steal_Steal_Many),(286,c_steal_rest_Rest),(287,c_slices_Concat_int)] steal_Steal_Hands
def c_conf_Config_Cells:AFun X:=amFunc [(157,c_conf_Config_Right)] conf_Config_Cells
def c_law11_rings:AFun X:=amFunc [(156,c_conf_Config_Cells),(21,c_cell_New),(160,c_conf_Config_Slot),(22,c_cell_Mem_Store),(159,c_conf_Config_Word)] law11_rings
def c_slices_Clone_uint64:AFun X:=amFunc [] slices_Clone_uint64
def c_cell_Mem_All:AFun X:=amFunc [(61,c_slices_Clone_uint64)] cell_Mem_All
def c_docs_Ring:AFun X:=amFunc [(47,c_cell_Mem_All),(156,c_conf_Config_Cells),(159,c_conf_Config_Word),(160,c_conf_Config_Slot)] docs_Ring
def c_kit_SameInts:AFun X:=amFunc [] kit_SameInts
def c_docs_Thief:AFun X:=amFunc [(136,c_docs_Ring),(159,c_conf_Config_Word),(24,c_cell_Mem_Load),(22,c_cell_Mem_Store)] docs_Thief
def c_law11_works:AFun X:=amFunc [(281,c_law11_rings),(270,c_steal_New),(274,c_steal_Steal_Step),(278,c_steal_Steal_Got),(275,c_steal_Steal_Many),(136,c_docs_Ring),(84,c_kit_SameInts),(139,c_docs_Thief)] law11_works
def c_ref05_Right:AFun X:=amFunc [] ref05_Right
def c_ref09_There:AFun X:=amFunc [(181,c_ref05_Right)] ref09_There
def c_ref11_New:AFun X:=amFunc [(169,c_ref09_There)] ref11_New
end Go.Am.F11
end
section
namespace Go.Am.F11
variable {X:Type}
def worksG:List AV→Option AV
 | []=>some (.bool true)
 | _=>none
theorem works_run:((c_law11_works (X:=X)) [] []).map (·.1)=some (.bool true):=by kernel_rfl
theorem works_lift:Lift (c_law11_works (X:=X)) (pureF worksG):=lift_pure (by
 intro args r h
 unfold worksG at h;split at h
 ·injection h with h;subst h
  have:=works_run (X:=X)
  cases h1:c_law11_works (X:=X) [] [] with
  | none=>rw[h1] at this;cases this
  | some x =>
   rw[h1] at this
   simp only[Option.map_some,Option.some.injEq] at this
   exact⟨rfl,rfl,x.2,by rw[← this]⟩
 ·cases h)
end Go.Am.F11
end
