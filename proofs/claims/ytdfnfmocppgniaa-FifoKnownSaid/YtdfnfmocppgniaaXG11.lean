import Derived.Test.YtdfnfmocppgniaaXG10
set_option linter.unusedSimpArgs false
set_option linter.unusedVariables false
section
namespace Go.Am
inductive Kd where
 | P|L|E|H
 deriving DecidableEq
def kindA:AOp→Kd
 | .mov | .pick | .build _ _ | .nilc | .bin _ | .shf _ | .not | .neg | .conv _ | .mkfn _ _ | .faddr _ | .iaddr _ _ | .field _ _ | .index _ _ _ | .extract _ | .len | .min | .max | .cap | .lit0=>.P
 | .load _ | .slice _ _ _ _ | .eqv _ _ | .mget _ _ | .mlen=>.L
 | _=>.E
section
variable {X:Type}
theorem kind_P{G:List (Nat × AFun X)} {op:AOp} (hk:kindA op = .P) {vs:List AV} {m m':Mem X} {v:AV} (h:amOp G op vs m=some (v,m')):m'=m∧∀ m2,amOp G op vs m2=some (v,m2):=by
 unfold amOp at h
 split at h<;>first|(simp[kindA] at hk;done)|skip
 all_goals
  repeat' split at h
  all_goals first
   | (simp at h;done)
   | (simp only[Option.some.injEq,Prod.mk.injEq] at h;obtain⟨rfl,rfl⟩:=h;exact⟨rfl,fun m2=>by simp_all[amOp]⟩)
theorem kind_L{G:List (Nat × AFun X)} {op:AOp} (hk:kindA op = .L) {vs:List AV} {m m':Mem X} {v:AV} (h:amOp G op vs m=some (v,m')):m'=m:=by
 unfold amOp at h
 split at h<;>first|(simp[kindA] at hk;done)|skip
 all_goals
  repeat' split at h
  all_goals first
   | (simp at h;done)
   | (simp only[Option.some.injEq,Prod.mk.injEq] at h;exact h.2.symm)
end
theorem countP_drop:∀ {l:List Nat},l.Nodup→∀ {p p':Nat→Bool} {i:Nat},i ∈ l→p i=true→p' i=false→(∀ j,j≠i→p' j=p j)→l.countP p'+1=l.countP p
 | [],_,_,_,_,h,_,_,_=>by cases h
 | x :: xs,hn,p,p',i,hi,h1,h2,h3=>by
  rw[List.nodup_cons] at hn
  rw[List.countP_cons,List.countP_cons]
  by_cases hx:x=i
  ·subst hx
   have:xs.countP p'=xs.countP p:=List.countP_congr (fun j hj=>by rw[h3 j (fun e=>hn.1 (e ▸ hj))])
   rw[this,h1,h2];simp
  ·have:=countP_drop hn.2 (by cases hi with|head=>exact absurd rfl hx|tail _ h=>exact h) h1 h2 h3
   rw[h3 x hx];omega

def preB(cl:Array Nat) (σ:List Nat) (k k':Nat):Bool :=
 match σ[k]?,σ[k']? with
 | some i,some j=>(cl.getD i 0).testBit j
 | _,_=>false
def kd(h:Nat) (aops:List AOper) (k:Nat):Kd :=
 if k < h then .H else match aops[k]? with
 | some ao=>kindA ao.op
 | none=>.P
def cuts(h n:Nat) (aops:List AOper):List Nat:=h :: ((List.range n).filter fun e=>decide (kd h aops e = .E)).map (·+1)
def stabHas(stab:List (Nat × List Nat)) (k c:Nat):Bool:=stab.any fun x=>decide (x.1=k) && x.2.contains c
def never(cl:Array Nat) (σ:List Nat) (h n:Nat) (aops:List AOper) (k c:Nat):Bool :=
 (List.range n).any fun e=>decide (kd h aops e = .E) && ((decide (c≤e) && preB cl σ k e) || (decide (e < c) && preB cl σ e k))
def between(h:Nat) (aops:List AOper) (n k c:Nat):Bool :=
 (List.range n).all fun e=>!decide (kd h aops e = .E) || (decide (e < min k c) || decide (max k c≤e))
def srcPre(cl:Array Nat) (σ:List Nat) (n:Nat) (aops:List AOper) (k:Nat):Src→Bool
 | .tmp k'=>preB cl σ k k'
 | .loc j=>(List.range n).all fun k2=>match aops[k2]? with
  | some a2=>!decide (a2.dst=some j) || (decide (k2=k) || (decide (k2 < k) && preB cl σ k k2) || (decide (k < k2) && preB cl σ k2 k))
  | none=>true
 | .c _=>true
def opPre (cl : Array Nat) (σ : List Nat) (h n : Nat) (aops : List AOper) (stab : List (Nat × List Nat)) (k : Nat) (ao : AOper) : Bool :=
  ao.args.all (srcPre cl σ n aops k) && (match ao.guard with | some (g, _) => preB cl σ k g | none => true) &&
  (match kd h aops k with
   | .P => true
   | .L => (cuts h n aops).all fun c => never cl σ h n aops k c || between h aops n k c || stabHas stab k c
   | .E => (List.range n).all fun e => !decide (e < k ∧ kd h aops e = .E) || preB cl σ k e
   | .H => (match ao.op with | .alloc _ => true | _ => false) && decide (ao.guard = none) && decide (ao.args = []) && (cuts h n aops).all fun c => never cl σ h n aops k c || stabHas stab k c)
def clChk(ops:Array Oper) (cl:Array Nat):Bool :=
 (List.range ops.size).all fun i=>match ops[i]? with
  | some o=>o.after.toList.all (fun e=>!Region.binds .any e || decide (e.on < i)) &&
   (List.range ops.size).all fun j=>!(cl.getD i 0).testBit j || o.after.toList.any fun e=>Region.binds .any e && (decide (e.on=j) || (cl.getD e.on 0).testBit j)
  | none=>false
def chkDraw(ops:Array Oper) (σ:List Nat) (h:Nat) (aops:List AOper) (stab:List (Nat × List Nat)):Bool :=
 let cl:=Region.before ops
 clChk ops cl && decide (h≤ops.size) && (List.range ops.size).all (fun i=>σ.contains i) && (List.range ops.size).all fun k=>match aops[k]? with
  | some ao=>opPre cl σ h ops.size aops stab k ao
  | none=>false
section
variable {X:Type} {A:AbsSem X} {num:Nat→Nat} {P:Program}
structure DrawOk (ops:Array Oper) (cl:Array Nat) (σ:List Nat) (h:Nat) (aops:List AOper) (stab:List (Nat × List Nat)):Prop where
 acyc:∀ {i:Nat} {o:Oper} {e:Edge},ops[i]?=some o→e ∈ o.after→Region.binds .any e=true→e.on < i
 clos:∀ {i j:Nat} {o:Oper},ops[i]?=some o→j < ops.size→(cl.getD i 0).testBit j=true→∃ e ∈ o.after,Region.binds .any e=true∧(e.on=j∨(cl.getD e.on 0).testBit j=true)
 hle:h≤ops.size
 surj:∀ {i:Nat},i < ops.size→∃ k:Nat,σ[k]?=some i
 op:∀ {k:Nat} {ao:AOper},aops[k]?=some ao→k < ops.size→opPre cl σ h ops.size aops stab k ao=true
theorem drawOk_of{ops:Array Oper} {σ:List Nat} {h:Nat} {aops:List AOper} {stab:List (Nat × List Nat)} (hc:chkDraw ops σ h aops stab=true):DrawOk ops (Region.before ops) σ h aops stab:=by
 unfold chkDraw at hc
 simp only[Bool.and_eq_true,decide_eq_true_eq] at hc
 obtain⟨⟨⟨h1,h2⟩,h3⟩,h4⟩:=hc
 generalize Region.before ops=cl at *
 have hrow:∀ {i:Nat} {o:Oper},ops[i]?=some o→(o.after.toList.all (fun e=>!Region.binds .any e || decide (e.on < i)) && (List.range ops.size).all fun j=>!(cl.getD i 0).testBit j || o.after.toList.any fun e=>Region.binds .any e && (decide (e.on=j) || (cl.getD e.on 0).testBit j))=true:=by
  intro i o ho
  have hi:i < ops.size:=(Array.getElem?_eq_some_iff.1 ho).1
  have:=List.all_eq_true.1 h1 i (List.mem_range.2 hi)
  rw[ho] at this
  exact this
 refine⟨fun {i o e} ho he hbe=>?_,fun {i j o} ho hj hb=>?_,h2,fun {i} hi=>?_,fun {k ao} ha hk=>?_⟩
 ·have:=hrow ho
  simp only[Bool.and_eq_true] at this
  have:=List.all_eq_true.1 this.1 e (by simpa using he)
  rw[hbe] at this
  simpa using this
 ·have:=hrow ho
  simp only[Bool.and_eq_true] at this
  have:=List.all_eq_true.1 this.2 j (List.mem_range.2 hj)
  rw[hb] at this
  simp only[Bool.not_true,Bool.false_or] at this
  obtain⟨e,he,he2⟩:=List.any_eq_true.1 this
  simp only[Bool.and_eq_true,Bool.or_eq_true,decide_eq_true_eq] at he2
  exact⟨e,by simpa using he,he2.1,he2.2⟩
 ·have:=List.all_eq_true.1 h3 i (List.mem_range.2 hi)
  simp only[List.contains_eq_mem,decide_eq_true_eq] at this
  obtain⟨k,hk⟩:=List.getElem?_of_mem this
  exact⟨k,hk⟩
 ·have:=List.all_eq_true.1 h4 k (List.mem_range.2 hk)
  rw[ha] at this
  exact this
def Closed(ops:Array Oper) (listed:Array Bool):Prop:=∀ (j:Nat) (o:Oper),ops[j]?=some o→listed.getD j false=true→∀ e ∈ o.after,Region.binds .any e=true→listed.getD e.on false=true
theorem closed_cl{ops:Array Oper} {cl:Array Nat} {σ:List Nat} {h:Nat} {aops:List AOper} {stab:List (Nat × List Nat)} (D:DrawOk ops cl σ h aops stab) {listed:Array Bool} (hc:Closed ops listed) :
  ∀ (i:Nat) (o:Oper),ops[i]?=some o→(∀ e ∈ o.after,Region.binds .any e=true→listed.getD e.on false=true)→∀ j,j < ops.size→(cl.getD i 0).testBit j=true→listed.getD j false=true:=by
 intro i
 induction i using Nat.strongRecOn with
 | _ i ih =>
  intro o ho hl j hj hb
  obtain⟨e,he,hbi,h1⟩:=D.clos ho hj hb
  have hle:=hl e he hbi
  rcases h1 with rfl|h1
  ·exact hle
  ·have hlt:=D.acyc ho he hbi
   have hi:i < ops.size:=(Array.getElem?_eq_some_iff.1 ho).1
   have hoe:ops[e.on]?=some (ops[e.on]'(by omega)):=Array.getElem?_eq_getElem _
   exact ih e.on hlt _ hoe (hc e.on _ hoe hle) j hj h1
theorem Ms_const{G:List (Nat × AFun X)} {h:Nat} {aops:List AOper} {Es:List (List AV)} {Ms:List (Mem X)} {Ws:List Bool} {Vs:List AV} (T:Run G aops [] Es Ms Ws Vs) :
  ∀ (d k:Nat),h≤k→k+d≤aops.length→(∀ e,k≤e→e < k+d→kd h aops e ≠ .E)→Ms[k+d]?=Ms[k]?
 | 0,k,_,_,_=>rfl
 | d+1,k,hk,hle,hno=>by
  have ih:=Ms_const T d k hk (by omega) (fun e h1 h2=>hno e h1 (by omega))
  have hkl:k+d < aops.length:=by omega
  have e1:=List.getElem?_eq_getElem hkl
  have e2:Es[k+d]?=some (Es[k+d]'(by rw[T.le];omega)):=List.getElem?_eq_getElem _
  have e3:Ms[k+d]?=some (Ms[k+d]'(by rw[T.lm];omega)):=List.getElem?_eq_getElem _
  have e4:Ms[k+d+1]?=some (Ms[k+d+1]'(by rw[T.lm];omega)):=List.getElem?_eq_getElem _
  have e5:Ws[k+d]?=some (Ws[k+d]'(by rw[T.lw];omega)):=List.getElem?_eq_getElem _
  have e6:Vs[k+d]?=some (Vs[k+d]'(by rw[T.lv];omega)):=List.getElem?_eq_getElem _
  obtain⟨⟨_,s2,s3⟩,_⟩:=T.step (k+d) _ _ _ _ _ _ e1 e2 e3 e4 e5 e6
  have hne:=hno (k+d) (by omega) (by omega)
  have heq:Ms[k+d+1]?=Ms[k+d]?:=by
   rw[e3,e4]
   congr 1
   cases hw:Ws[k+d]'(by rw[T.lw];omega) with
   | false=>rw[hw] at s3;exact(s3 rfl).2
   | true =>
    rw[hw] at s2
    have hop:=s2 rfl
    unfold kd at hne
    rw[if_neg (by omega),e1] at hne
    simp only at hne
    cases hkd:kindA (aops[k+d]).op with
    | P=>exact(kind_P hkd hop).1
    | L=>exact kind_L hkd hop
    | E=>exact absurd hkd hne
    | H=>unfold kindA at hkd;split at hkd<;>cases hkd
  rw[show k+(d+1)=k+d+1 by omega,heq,ih]
theorem stab_ok{G:List (Nat × AFun X)} {aops:List AOper} {tr:List (Bool × List AV × AV × Mem X)} {m':Mem X} {stab:List (Nat × List Nat)} (hs:stabOk G aops tr m' stab=true) {k c:Nat} (h:stabHas stab k c=true) {o:AOper} {e:Bool × List AV × AV × Mem X}
  (ho:aops[k]?=some o) (he:tr[k]?=some e):sameAt G o.op e (memAt tr m' c)=true:=by
 unfold stabHas at h
 obtain⟨x,hx,h1⟩:=List.any_eq_true.1 h
 simp only[Bool.and_eq_true,decide_eq_true_eq,List.contains_eq_mem] at h1
 obtain⟨rfl,h2⟩:=h1
 have:=List.all_eq_true.1 hs x hx
 rw[ho,he] at this
 exact List.all_eq_true.1 this c h2
theorem memAt_eq{tr:List (Bool × List AV × AV × Mem X)} {m':Mem X} {c:Nat} {m:Mem X} (h:(tr.map (fun e=>e.2.2.2)++[m'])[c]?=some m):memAt tr m' c=m:=by
 unfold memAt
 rw[List.getElem?_append] at h
 simp only[List.length_map,List.getElem?_map] at h
 split at h
 ·rename_i hc
  cases hx:tr[c]? with
  | none=>rw[hx] at h;cases h
  | some x=>rw[hx] at h;simpa using h
 ·rename_i hc
  rw[List.getElem?_eq_none (by omega)]
  cases hd:c - tr.length with
  | zero=>rw[hd] at h;simpa using h
  | succ d=>rw[hd] at h;simp at h
structure DrawInv (A:AbsSem X) (num:Nat→Nat) (L:List Nat) (nt:Nat) (ops:Array Oper) (σ:List Nat) (h:Nat) (aops:List AOper) (base:Nat) (env0:List AV) (Ms:List (Mem X)) (Vs:List AV) (n0:Nat) (F0:Nat→Prop) (μ0:Mu) (w0:World) (Df:List Deferred)
  (listed:Array Bool) (a:Act) (w:World) (F:Nat→Prop) (μ:Mu) (kk:Nat):Prop where
 size:listed.size=ops.size
 closed:Closed ops listed
 cut:kk ∈ cuts h ops.size aops
 sim:∃ m,Ms[kk]?=some m∧Sim A num F μ m w.heap
 eff:∀ e i:Nat,e < ops.size→kd h aops e = .E→σ[e]?=some i→(listed.getD i false=true ↔ e < kk)
 hid:∀ k i:Nat,k < h→σ[k]?=some i→listed.getD i false=false→μ (base+k)=none
 val:∀ (k i d:Nat) (o:Oper),σ[k]?=some i→listed.getD i false=true→ops[i]?=some o→o.dst=some d→VR num μ (Vs.getD k .skip) (a.tmps.getD d Go.undef)
 env:∀ j t:Nat,L[j]?=some t→(∀ (i:Nat) (o:Oper),ops[i]?=some o→listed.getD i false=true→o.dst≠some t)→VR num μ (env0.getD j .skip) (a.tmps.getD t Go.undef)
 ext:Ext n0 F0 μ0 w0 F μ w
 tm:a.tmps.size=nt
 df:a.defers=Df
theorem dst_lt{L:List Nat} {nt:Nat} {d:Nat} {j:Option Nat} (h:dstOk L nt (some d) j=true):d < nt:=by
 unfold dstOk at h
 split at h<;>simp_all
theorem DrawInv.next{L:List Nat} {nt:Nat} {ops:Array Oper} {σ:List Nat} {h:Nat} {aops:List AOper} {base:Nat} {env0:List AV} {Ms:List (Mem X)} {Vs:List AV} {n0:Nat} {F0:Nat→Prop} {μ0:Mu} {w0:World} {Df:List Deferred}
  {listed:Array Bool} {a:Act} {w:World} {F:Nat→Prop} {μ:Mu} {kk:Nat} (I:DrawInv A num L nt ops σ h aops base env0 Ms Vs n0 F0 μ0 w0 Df listed a w F μ kk) (R:RegOk P num L nt ops σ aops)
  {k i:Nat} {o:Oper} {ao:AOper} {v:AV} (hσ:σ[k]?=some i) (ho:ops[i]?=some o) (hao:aops[k]?=some ao) (hv:Vs[k]?=some v) (hun:listed.getD i false=false)
  (hpre:∀ e ∈ o.after,Region.binds .any e=true→listed.getD e.on false=true)
  {F':Nat→Prop} {μ':Mu} {cv:Value} {w':World} {kk':Nat} (h1:VR num μ' v cv) (hle:∀ i p,μ i=some p→μ' i=some p) (hcut:kk' ∈ cuts h ops.size aops) (hsim:∃ m,Ms[kk']?=some m∧Sim A num F' μ' m w'.heap)
  (heff:∀ e j:Nat,e < ops.size→kd h aops e = .E→σ[e]?=some j→((j=i∨listed.getD j false=true) ↔ e < kk')) (hhid:∀ k2 j:Nat,k2 < h→σ[k2]?=some j→j≠i→listed.getD j false=false→μ' (base+k2)=none)
  (hext:Ext n0 F0 μ0 w0 F' μ' w'):DrawInv A num L nt ops σ h aops base env0 Ms Vs n0 F0 μ0 w0 Df (listed.setIfInBounds i true) (a.put o.dst cv) w' F' μ' kk':=by
 have hi:i < listed.size:=by rw[I.size];exact(Array.getElem?_eq_some_iff.1 ho).1
 have hset:∀ j,(listed.setIfInBounds i true).getD j false=true ↔ (j=i∨listed.getD j false=true):=by
  intro j
  by_cases hj:j=i
  ·subst hj;simp[hi]
  ·rw[getD_set_ne false (Ne.symm hj)];simp[hj]
 have hdst:=(operOk_ok (R.op hσ ho hao)).2.1
 refine⟨by simp[I.size],?_,hcut,hsim,?_,?_,?_,?_,hext,by rw[size_put];exact I.tm,by rw[defers_put];exact I.df⟩
 ·intro j oj hoj hl e he hb
  rw[hset] at hl ⊢
  rcases hl with rfl|hl
  ·rw[ho] at hoj;injection hoj with hoj;subst hoj
   exact .inr (hpre e he hb)
  ·exact .inr (I.closed j oj hoj hl e he hb)
 ·intro e j he hk hj
  rw[hset]
  exact heff e j he hk hj
 ·intro k2 j hk2 hj hl
  have hne:j≠i:=fun e=>by
   subst e
   have:=(hset j).2 (.inl rfl)
   rw[hl] at this;cases this
  rw[getD_set_ne false (Ne.symm hne)] at hl
  exact hhid k2 j hk2 hj hne hl
 ·intro k2 j d oj hj hl hoj hd
  rw[hset] at hl
  by_cases hji:j=i
  ·subst hji
   have:k2=k:=R.inj hj hσ
   subst this
   rw[ho] at hoj;injection hoj with hoj;subst hoj
   rw[hd] at hdst ⊢
   rw[getD_put (by rw[I.tm];exact dst_lt hdst),if_pos rfl]
   have:Vs.getD k2 .skip=v:=by rw[List.getD_eq_getElem?_getD,hv];rfl
   rw[this];exact h1
  ·have hl':=hl.resolve_left hji
   have:=(I.val k2 j d oj hj hl' hoj hd).mono hle
   cases hod:o.dst with
   | none=>simpa [Act.put] using this
   | some d0 =>
    rw[hod] at hdst
    have hne:d≠d0:=fun e=>hji (R.dst hoj ho hd (by rw[hod,e]))
    rw[getD_put (by rw[I.tm];exact dst_lt hdst),if_neg hne]
    exact this
 ·intro j t ht hno
  have h2:=(I.env j t ht (fun i2 o2 ho2 hl2=>hno i2 o2 ho2 ((hset i2).2 (.inr hl2)))).mono hle
  cases hod:o.dst with
  | none=>simpa [Act.put] using h2
  | some d0 =>
   rw[hod] at hdst
   have hne:t≠d0:=fun e=>hno i o ho ((hset i).2 (.inl rfl)) (by rw[hod,e])
   rw[getD_put (by rw[I.tm];exact dst_lt hdst),if_neg hne]
   exact h2
theorem sameAt_L{G:List (Nat × AFun X)} {op:AOp} (hk:kindA op = .L) {vs:List AV} {v:AV} {mm m:Mem X} (h:sameAt G op (true,vs,v,mm) m=true):amOp G op vs m=some (v,m):=by
 have key:(match amOp G op vs m with|some (v',_)=>AV.beq v' v|none=>false)=true→amOp G op vs m=some (v,m):=by
  intro h
  split at h
  ·rename_i v2 m2 ho2
   have:=AV.beq_eq h
   subst this
   rw[ho2,kind_L hk ho2]
  ·cases h
 cases op<;>first|(simp[kindA] at hk;done)|exact key h
theorem env_at{G:List (Nat × AFun X)} {L:List Nat} {nt:Nat} {ops:Array Oper} {σ:List Nat} {aops:List AOper} (R:RegOk P num L nt ops σ aops) {Es:List (List AV)} {Ms:List (Mem X)} {Ws:List Bool} {Vs:List AV} (T:Run G aops [] Es Ms Ws Vs)
  {env0:List AV} (h0:Es[0]?=some env0) (hl:env0.length=L.length):∀ (k:Nat),k≤aops.length→∃ e,Es[k]?=some e∧e.length=L.length∧∀ j,j < L.length →
   (∃ k2 a2,k2 < k∧aops[k2]?=some a2∧a2.dst=some j∧e.getD j .skip=Vs.getD k2 .skip)∨((∀ k2 a2,k2 < k→aops[k2]?=some a2→a2.dst≠some j)∧e.getD j .skip=env0.getD j .skip)
 | 0,_=>⟨env0,h0,hl,fun j _=>.inr ⟨fun k2 _ h=>absurd h (by omega),rfl⟩⟩
 | k+1,hk=>by
  obtain⟨e,he,hle,hj⟩:=env_at R T h0 hl k (by omega)
  have e1:=List.getElem?_eq_getElem (show k < aops.length by omega)
  have e3:Ms[k]?=some (Ms[k]'(by rw[T.lm];omega)):=List.getElem?_eq_getElem _
  have e4:Ms[k+1]?=some (Ms[k+1]'(by rw[T.lm];omega)):=List.getElem?_eq_getElem _
  have e5:Ws[k]?=some (Ws[k]'(by rw[T.lw];omega)):=List.getElem?_eq_getElem _
  have e6:Vs[k]?=some (Vs[k]'(by rw[T.lv];omega)):=List.getElem?_eq_getElem _
  obtain⟨_,he'⟩:=T.step k _ _ _ _ _ _ e1 he e3 e4 e5 e6
  generalize hao:aops[k]=ao at *
  generalize Vs[k]'(by rw[T.lv];omega)=v at *
  refine⟨_,he',by cases ao.dst<;>simp[putL,hle],fun j hjl=>?_⟩
  have hvg:Vs.getD k .skip=v:=by rw[List.getD_eq_getElem?_getD,e6];rfl
  cases hd:ao.dst with
  | none =>
   simp only[putL]
   rcases hj j hjl with⟨k2,a2,h1,h2,h3,h4⟩|⟨h1,h2⟩
   ·exact .inl ⟨k2,a2,by omega,h2,h3,h4⟩
   ·refine .inr ⟨fun k2 a2 hk2 ha2=>?_,h2⟩
    rcases Nat.lt_succ_iff_lt_or_eq.1 hk2 with h|h
    ·exact h1 k2 a2 h ha2
    ·subst h;rw[e1] at ha2;injection ha2 with ha2;subst ha2;rw[hd];simp
  | some d =>
   simp only[putL]
   by_cases hjd:j=d
   ·subst hjd
    refine .inl ⟨k,ao,by omega,e1,hd,?_⟩
    rw[hvg];simp[hle,hjl]
   ·have hset:(e.set d v).getD j .skip=e.getD j .skip:=by simp[List.getElem?_set,Ne.symm hjd]
    rw[hset]
    rcases hj j hjl with⟨k2,a2,h1,h2,h3,h4⟩|⟨h1,h2⟩
    ·exact .inl ⟨k2,a2,by omega,h2,h3,h4⟩
    ·refine .inr ⟨fun k2 a2 hk2 ha2=>?_,h2⟩
     rcases Nat.lt_succ_iff_lt_or_eq.1 hk2 with h|h
     ·exact h1 k2 a2 h ha2
     ·subst h;rw[e1] at ha2;injection ha2 with ha2;subst ha2
      rw[hd];intro e;injection e with e;exact hjd e.symm
theorem aopdst{L:List Nat} {nt:Nat} {ops:Array Oper} {σ:List Nat} {aops:List AOper} (R:RegOk P num L nt ops σ aops) {k i t j:Nat} {o:Oper} {ao:AOper} (h1:σ[k]?=some i) (h2:ops[i]?=some o) (h3:aops[k]?=some ao) (ht:L[j]?=some t):(o.dst=some t ↔ ao.dst=some j):=by
 have hd:=(operOk_ok (R.op h1 h2 h3)).2.1
 unfold dstOk at hd
 constructor
 ·intro ho
  rw[ho] at hd
  cases hj:ao.dst with
  | none =>
   rw[hj] at hd
   simp only[Bool.and_eq_true,decide_eq_true_eq,Bool.not_eq_true',List.contains_eq_mem,decide_eq_false_iff_not] at hd
   exact absurd (List.mem_of_getElem? ht) hd.2
  | some j' =>
   rw[hj] at hd
   simp only[Bool.and_eq_true,decide_eq_true_eq] at hd
   rw[R.Ln hd.2 ht]
 ·intro hj
  rw[hj] at hd
  cases ho:o.dst with
  | none=>rw[ho] at hd;cases hd
  | some d =>
   rw[ho] at hd
   simp only[Bool.and_eq_true,decide_eq_true_eq] at hd
   rw[ht] at hd;rw[Option.some.inj hd.2]
theorem draw_run {G : List (Nat × AFun X)} (hG : Known A num P G) {L : List Nat} {nt : Nat} {ops : Array Oper} {cl : Array Nat} {σ : List Nat} {h : Nat} {aops : List AOper} {stab : List (Nat × List Nat)} (R : RegOk P num L nt ops σ aops) (D : DrawOk ops cl σ h aops stab)
    {Es : List (List AV)} {tr : List (Bool × List AV × AV × Mem X)} {m' : Mem X} {Ws : List Bool} (T : Run G aops [] Es (tr.map (fun e => e.2.2.2) ++ [m']) Ws (tr.map fun e => e.2.2.1)) {env0 : List AV} {m0 : Mem X} (hE0 : Es[0]? = some env0) (hl0 : env0.length = L.length) (hM0 : (tr.map (fun e => e.2.2.2) ++ [m'])[0]? = some m0)
    (hx : ∀ (k : Nat) (o : AOper) (e : List AV) (x : Bool × List AV × AV × Mem X), aops[k]? = some o → Es[k]? = some e → tr[k]? = some x → Ws[k]? = some x.1 ∧ x.2.1 = o.args.map (getS e ((tr.map fun e => e.2.2.1).take k)))
    (hst : stabOk G aops tr m' stab = true) {Q : Exit → Act → World → Prop} {n0 : Nat} {F0 : Nat → Prop} {μ0 : Mu} {w0 : World} {Df : List Deferred} (hn0 : n0 ≤ m0.length)
    (hQ : ∀ F μ a w e, Es[ops.size]? = some e → EnvOk num L nt μ e a → Sim A num F μ m' w.heap → Ext n0 F0 μ0 w0 F μ w → a.defers = Df → Q .normal a w) :
    ∀ (fuel : Nat) (listed : Array Bool) (a : Act) (w : World) (F : Nat → Prop) (μ : Mu) (kk : Nat), DrawInv A num L nt ops σ h aops m0.length env0 (tr.map (fun e => e.2.2.2) ++ [m']) (tr.map fun e => e.2.2.1) n0 F0 μ0 w0 Df listed a w F μ kk →
      (List.range ops.size).countP (fun i => !listed.getD i true) ≤ fuel → wpAny P .any ops Q fuel listed a w := by
  have htr : tr.length = aops.length := by simpa using T.lv
  generalize hMs : tr.map (fun e => e.2.2.2) ++ [m'] = Ms at *
  generalize hVs : (tr.map fun e => e.2.2.1) = Vs at *
  have hGm : ∀ g f, assoc G g = some f → Mono f := fun g f hf => (hG g f hf).2.2
  have hlen := R.len
  -- facts of a place
  have place : ∀ (k i : Nat), σ[k]? = some i → ∃ o ao e m m1 wd v, k < ops.size ∧ ops[i]? = some o ∧ aops[k]? = some ao ∧ Es[k]? = some e ∧ Ms[k]? = some m ∧ Ms[k + 1]? = some m1 ∧ Ws[k]? = some wd ∧ Vs[k]? = some v ∧ StepOk G ao e (Vs.take k) m wd v m1 := by
    intro k i hk
    have hkn : k < ops.size := by rw [← R.sl]; exact (List.getElem?_eq_some_iff.1 hk).1
    have hi := R.lt hk
    have e1 := List.getElem?_eq_getElem (show k < aops.length by omega)
    have e2 : Es[k]? = some (Es[k]'(by rw [T.le]; omega)) := List.getElem?_eq_getElem _
    have e3 : Ms[k]? = some (Ms[k]'(by rw [T.lm]; omega)) := List.getElem?_eq_getElem _
    have e4 : Ms[k + 1]? = some (Ms[k + 1]'(by rw [T.lm]; omega)) := List.getElem?_eq_getElem _
    have e5 : Ws[k]? = some (Ws[k]'(by rw [T.lw]; omega)) := List.getElem?_eq_getElem _
    have e6 : Vs[k]? = some (Vs[k]'(by rw [T.lv]; omega)) := List.getElem?_eq_getElem _
    have := (T.step k _ _ _ _ _ _ e1 e2 e3 e4 e5 e6).1
    exact ⟨ops[i], _, _, _, _, _, _, hkn, Array.getElem?_eq_getElem hi, e1, e2, e3, e4, e5, e6, by simpa using this⟩
  -- the memory's length never falls
  have mstep : ∀ k m m1, k < ops.size → Ms[k]? = some m → Ms[k + 1]? = some m1 → m.length ≤ m1.length := by
    intro k m m1 hk hm hm1
    have e1 := List.getElem?_eq_getElem (show k < aops.length by omega)
    have e2 : Es[k]? = some (Es[k]'(by rw [T.le]; omega)) := List.getElem?_eq_getElem _
    have e5 : Ws[k]? = some (Ws[k]'(by rw [T.lw]; omega)) := List.getElem?_eq_getElem _
    have e6 : Vs[k]? = some (Vs[k]'(by rw [T.lv]; omega)) := List.getElem?_eq_getElem _
    obtain ⟨_, s2, s3⟩ := (T.step k _ _ _ _ _ _ e1 e2 hm hm1 e5 e6).1
    cases hw : Ws[k]'(by rw [T.lw]; omega) with
    | true => rw [hw] at s2; exact amOp_len hGm (s2 rfl)
    | false => rw [hw] at s3; rw [(s3 rfl).2]; exact Nat.le_refl _
  have mmono : ∀ (d k : Nat) m m1, k + d ≤ ops.size → Ms[k]? = some m → Ms[k + d]? = some m1 → m.length ≤ m1.length := by
    intro d
    induction d with
    | zero => intro k m m1 _ hm hm1; rw [Nat.add_zero, hm] at hm1; injection hm1 with hm1; rw [hm1]; exact Nat.le_refl _
    | succ d ih =>
      intro k m m1 hk hm hm1
      have e4 : Ms[k + d]? = some (Ms[k + d]'(by rw [T.lm]; omega)) := List.getElem?_eq_getElem _
      exact Nat.le_trans (ih k m _ (by omega) hm e4) (mstep (k + d) _ _ (by omega) e4 hm1)
  -- the hoisted ones
  have hoist : ∀ k, k ≤ h → ∃ m, Ms[k]? = some m ∧ m.length = m0.length + k := by
    intro k
    induction k with
    | zero => intro _; exact ⟨m0, hM0, rfl⟩
    | succ k ih =>
      intro hk
      obtain ⟨m, hm, hml⟩ := ih (by omega)
      have hkn : k < ops.size := by have := D.hle; omega
      obtain ⟨i, hi⟩ : ∃ i, σ[k]? = some i := ⟨_, List.getElem?_eq_getElem (by rw [R.sl]; exact hkn)⟩
      obtain ⟨o, ao, e, m2, m1, wd, v, _, ho, hao, he, hm2, hm1, hw, hv, s1, s2, s3⟩ := place k i hi
      rw [hm] at hm2; injection hm2 with hm2; subst hm2
      have hop := D.op hao hkn
      unfold opPre at hop
      simp only [Bool.and_eq_true] at hop
      have hH := hop.2
      have hkd : kd h aops k = .H := by unfold kd; rw [if_pos (by omega)]
      rw [hkd] at hH
      simp only [Bool.and_eq_true, decide_eq_true_eq] at hH
      obtain ⟨⟨⟨q1, q2⟩, q3⟩, _⟩ := hH
      have hwd : wd = true := by unfold wantedA at s1; rw [q2] at s1; simpa using s1.symm
      have := s2 hwd
      rw [q3] at this
      split at q1
      · rename_i z hz
        rw [hz] at this
        simp only [List.map_nil, amOp, Option.some.injEq, Prod.mk.injEq] at this
        refine ⟨m1, hm1, ?_⟩
        rw [← this.2]; simp [hml]; omega
      · cases q1
  have cutge : ∀ c, c ∈ cuts h ops.size aops → h ≤ c ∧ c ≤ ops.size := by
    intro c hc
    unfold cuts at hc
    rw [List.mem_cons] at hc
    rcases hc with rfl | hc
    · exact ⟨Nat.le_refl _, D.hle⟩
    · obtain ⟨e, he, rfl⟩ := List.mem_map.1 hc
      rw [List.mem_filter, List.mem_range] at he
      have hk : kd h aops e = .E := by simpa using he.2
      have : ¬ e < h := fun hlt => by unfold kd at hk; rw [if_pos hlt] at hk; cases hk
      omega
  have mlast : Ms[ops.size]? = some m' := by
    rw [← hMs, List.getElem?_append_right (by simp; omega)]
    simp [htr, hlen]
  have mcut : ∀ c m, c ∈ cuts h ops.size aops → Ms[c]? = some m → m0.length + h ≤ m.length := by
    intro c m hc hm
    obtain ⟨g1, g2⟩ := cutge c hc
    obtain ⟨mh, hmh, hmhl⟩ := hoist h (Nat.le_refl _)
    have := mmono (c - h) h mh m (by omega) hmh (by rw [show h + (c - h) = c by omega]; exact hm)
    omega
  -- nothing is left: the end
  have fin : ∀ (listed : Array Bool) (a : Act) (w : World) (F : Nat → Prop) (μ : Mu) (kk : Nat), DrawInv A num L nt ops σ h aops m0.length env0 Ms Vs n0 F0 μ0 w0 Df listed a w F μ kk → (∀ i, i < ops.size → listed.getD i false = true) → Q .normal a w := by
    intro listed a w F μ kk I hall
    obtain ⟨g1, g2⟩ := cutge kk I.cut
    obtain ⟨m, hm, hS⟩ := I.sim
    have hcon := Ms_const (h := h) T (ops.size - kk) kk g1 (by omega) (fun e he1 he2 hE => by
      have hen : e < ops.size := by omega
      obtain ⟨j, hj⟩ : ∃ j, σ[e]? = some j := ⟨_, List.getElem?_eq_getElem (by rw [R.sl]; exact hen)⟩
      have := (I.eff e j hen hE hj).1 (hall j (R.lt hj))
      omega)
    rw [show kk + (ops.size - kk) = ops.size by omega, mlast, hm] at hcon
    injection hcon with hcon; subst hcon
    obtain ⟨e, he, hel, hej⟩ := env_at R T hE0 hl0 ops.size (by omega)
    refine hQ F μ a w e he ⟨hel, I.tm, fun j t ht => ?_⟩ hS I.ext I.df
    have hjl : j < L.length := (List.getElem?_eq_some_iff.1 ht).1
    rcases hej j hjl with ⟨k2, a2, h1, h2, h3, h4⟩ | ⟨h1, h2⟩
    · rw [h4]
      obtain ⟨i2, hi2⟩ : ∃ i2, σ[k2]? = some i2 := ⟨_, List.getElem?_eq_getElem (by rw [R.sl]; omega)⟩
      have hoi := Array.getElem?_eq_getElem (R.lt hi2)
      exact I.val k2 i2 t _ hi2 (hall i2 (R.lt hi2)) hoi ((aopdst R hi2 hoi h2 ht).2 h3)
    · rw [h2]
      refine I.env j t ht (fun i2 o2 ho2 _ hd => ?_)
      have hi2 : i2 < ops.size := (Array.getElem?_eq_some_iff.1 ho2).1
      obtain ⟨k2, hk2⟩ := D.surj hi2
      have hk2n : k2 < ops.size := by rw [← R.sl]; exact (List.getElem?_eq_some_iff.1 hk2).1
      have ha2 := List.getElem?_eq_getElem (show k2 < aops.length by omega)
      exact h1 k2 _ hk2n ha2 ((aopdst R hk2 ho2 ha2 ht).1 hd)
  have both : ∀ (listed : Array Bool) (i : Nat), listed.size = ops.size → i < ops.size → listed.getD i true = listed.getD i false := by
    intro listed i h1 h2
    have : i < listed.size := by omega
    simp [this]
  intro fuel
  induction fuel with
  | zero =>
    intro listed a w F μ kk I hcnt
    have hall : ∀ i, i < ops.size → listed.getD i false = true := by
      intro i hi
      have h0 : (List.range ops.size).countP (fun i => !listed.getD i true) = 0 := by omega
      rw [List.countP_eq_zero] at h0
      have := h0 i (List.mem_range.2 hi)
      rw [← both listed i I.size hi]
      simpa using this
    refine ⟨?_, fin listed a w F μ kk I hall⟩
    rw [List.eq_nil_iff_forall_not_mem]
    intro i hi
    obtain ⟨h1, o, ho, _⟩ := mem_ready.1 hi
    have hil : i < ops.size := (Array.getElem?_eq_some_iff.1 ho).1
    rw [both listed i I.size hil, hall i hil] at h1
    cases h1
  | succ fuel ih =>
    intro listed a w F μ kk I hcnt
    refine ⟨fun hr => fin listed a w F μ kk I (fun i => ?_), fun i hi => ?_⟩
    · induction i using Nat.strongRecOn with
      | _ i ihi =>
        intro hil
        cases hb : listed.getD i false with
        | true => rfl
        | false =>
          have ho := Array.getElem?_eq_getElem hil
          have : i ∈ Region.ready .any ops listed := mem_ready.2 ⟨by rw [both listed i I.size hil]; exact hb, _, ho, fun e he hbe => ihi e.on (D.acyc ho he hbe) (by have := D.acyc ho he hbe; omega)⟩
          rw [hr] at this; cases this
    · obtain ⟨hun0, o, ho, hpre⟩ := mem_ready.1 hi
      have hil : i < ops.size := (Array.getElem?_eq_some_iff.1 ho).1
      have hun : listed.getD i false = false := by rw [← both listed i I.size hil]; exact hun0
      obtain ⟨k, hk⟩ := D.surj hil
      obtain ⟨o', ao, e, m, m1, wd, v, hkn, ho', hao, he, hm, hm1, hw, hv, s1, s2, s3⟩ := place k i hk
      rw [ho] at ho'; injection ho' with ho'; subst ho'
      obtain ⟨⟨xs, hc, hsrc⟩, hdst, hgd⟩ := operOk_ok (R.op hk ho hao)
      have hop := D.op hao hkn
      unfold opPre at hop
      simp only [Bool.and_eq_true] at hop
      obtain ⟨⟨p1, p2⟩, p3⟩ := hop
      have waits : ∀ k' j, σ[k']? = some j → preB cl σ k k' = true → listed.getD j false = true := by
        intro k' j hj hp
        unfold preB at hp
        rw [hk, hj] at hp
        exact closed_cl D I.closed i o ho hpre j (R.lt hj) hp
      have notyet : ∀ k' j, σ[k']? = some j → preB cl σ k' k = true → listed.getD j false = false := by
        intro k' j hj hp
        cases hb : listed.getD j false with
        | false => rfl
        | true =>
          unfold preB at hp
          rw [hk, hj] at hp
          have hoj := Array.getElem?_eq_getElem (R.lt hj)
          have := closed_cl D I.closed j _ hoj (I.closed j _ hoj hb) i hil hp
          rw [hun] at this; cases this
      have hget : ∀ k', k' < k → (Vs.take k).getD k' .skip = Vs.getD k' .skip := fun k' hk' => by
        simp [List.getD_eq_getElem?_getD, List.getElem?_take, hk']
      have dlt : ∀ (k' j d : Nat) (oj : Oper), σ[k']? = some j → ops[j]? = some oj → oj.dst = some d → d < a.tmps.size := by
        intro k' j d oj hj hoj hd
        have hk'n : k' < ops.size := by rw [← R.sl]; exact (List.getElem?_eq_some_iff.1 hj).1
        have := (operOk_ok (R.op hj hoj (List.getElem?_eq_getElem (show k' < aops.length by omega)))).2.1
        rw [hd] at this
        rw [I.tm]; exact dst_lt this
      have hwant := wanted_of (num := num) (μ := μ) (a := a) (rt := Vs.take k) hgd s1 (fun k' b j d oj hg hk' hj hoj hd => by
        refine ⟨dlt k' j d oj hj hoj hd, ?_⟩
        rw [hg] at p2
        rw [hget k' hk']
        exact I.val k' j d oj hj (waits k' j hj p2) hoj hd)
      have hargs : VRL num μ (ao.args.map (getS e (Vs.take k))) (xs.map a.eval) := by
        refine srcs_VRL hsrc (fun x s hmem hs => ?_)
        have hsp := List.all_eq_true.1 p1 s hmem
        clear hmem
        unfold srcOk at hs
        split at hs
        · rename_i t k'
          simp only [Bool.and_eq_true, decide_eq_true_eq] at hs
          obtain ⟨q1, q2⟩ := hs
          cases hj : σ[k']? with
          | none => rw [hj] at q2; cases q2
          | some j =>
            rw [hj] at q2
            simp only [Option.bind_some] at q2
            cases hoj : ops[j]? with
            | none => rw [hoj] at q2; cases q2
            | some oj =>
              rw [hoj] at q2
              simp only [Option.bind_some] at q2
              have := I.val k' j t oj hj (waits k' j hj hsp) hoj q2
              show VR num μ ((Vs.take k).getD k' .skip) (a.tmps.getD t Go.undef)
              rw [hget k' q1]; exact this
        · rename_i t j
          have ht : L[j]? = some t := by simpa using hs
          have hjl : j < L.length := (List.getElem?_eq_some_iff.1 ht).1
          obtain ⟨e2, he2, hel, hej⟩ := env_at R T hE0 hl0 k (by omega)
          rw [he] at he2; injection he2 with he2; subst he2
          show VR num μ (e.getD j .skip) (a.tmps.getD t Go.undef)
          simp only [srcPre] at hsp
          rcases hej j hjl with ⟨k2, a2, h1, h2, h3, h4⟩ | ⟨h1, h2⟩
          · rw [h4]
            obtain ⟨i2, hi2⟩ : ∃ i2, σ[k2]? = some i2 := ⟨_, List.getElem?_eq_getElem (by rw [R.sl]; omega)⟩
            have hoi := Array.getElem?_eq_getElem (R.lt hi2)
            have hq := List.all_eq_true.1 hsp k2 (List.mem_range.2 (by omega))
            rw [h2] at hq
            simp only [h3, decide_true, Bool.not_true, Bool.false_or, Bool.or_eq_true, Bool.and_eq_true, decide_eq_true_eq] at hq
            have hpk : preB cl σ k k2 = true := by
              rcases hq with (hq | hq) | hq
              · omega
              · exact hq.2
              · omega
            exact I.val k2 i2 t _ hi2 (waits k2 i2 hi2 hpk) hoi ((aopdst R hi2 hoi h2 ht).2 h3)
          · rw [h2]
            refine I.env j t ht (fun i2 o2 ho2 hl2 hd => ?_)
            have hi2 : i2 < ops.size := (Array.getElem?_eq_some_iff.1 ho2).1
            obtain ⟨k2, hk2⟩ := D.surj hi2
            have hk2n : k2 < ops.size := by rw [← R.sl]; exact (List.getElem?_eq_some_iff.1 hk2).1
            have ha2 := List.getElem?_eq_getElem (show k2 < aops.length by omega)
            have h3 := (aopdst R hk2 ho2 ha2 ht).1 hd
            have hq := List.all_eq_true.1 hsp k2 (List.mem_range.2 hk2n)
            rw [ha2] at hq
            simp only [h3, decide_true, Bool.not_true, Bool.false_or, Bool.or_eq_true, Bool.and_eq_true, decide_eq_true_eq] at hq
            rcases hq with (hq | hq) | hq
            · subst hq
              rw [hk] at hk2; injection hk2 with hk2; subst hk2
              rw [hun] at hl2; cases hl2
            · exact h1 k2 _ hq.1 ha2 h3
            · rw [notyet k2 i2 hk2 hq.2] at hl2; cases hl2
        · exact constV_ok hs
        · rename_i g f
          simp only [decide_eq_true_eq] at hs
          subst hs
          exact .fn (cs := #[]) (ds := #[]) rfl (by simp) rfl (by simp)
        · cases hs
      have hcnt' : (List.range ops.size).countP (fun j => !(listed.setIfInBounds i true).getD j true) ≤ fuel := by
        have := countP_drop (l := List.range ops.size) List.nodup_range (p := fun j => !listed.getD j true) (p' := fun j => !(listed.setIfInBounds i true).getD j true) (i := i) (List.mem_range.2 hil) (by simp only [hun0]; rfl)
          (by have : i < listed.size := by rw [I.size]; exact hil
              simp [this]) (fun j hj => by simp only [getD_set_ne true (Ne.symm hj)])
        omega
      obtain ⟨mkk, hmkk, hS⟩ := I.sim
      obtain ⟨c1, c2⟩ := cutge kk I.cut
      have hbase := mcut kk mkk I.cut hmkk
      -- what is left to show: the invariant behind it
      have go : ∀ (F' : Nat → Prop) (μ' : Mu) (cv : Value) (w' : World) (kk' : Nat) (m2 : Mem X), VR num μ' v cv → (∀ i p, μ i = some p → μ' i = some p) → kk' ∈ cuts h ops.size aops → Ms[kk']? = some m2 → Sim A num F' μ' m2 w'.heap →
          (∀ e j : Nat, e < ops.size → kd h aops e = .E → σ[e]? = some j → ((j = i ∨ listed.getD j false = true) ↔ e < kk')) → (∀ k2 j : Nat, k2 < h → σ[k2]? = some j → j ≠ i → listed.getD j false = false → μ' (m0.length + k2) = none) →
          Ext n0 F0 μ0 w0 F' μ' w' → wpAny P .any ops Q fuel (listed.setIfInBounds i true) (a.put o.dst cv) w' := by
        intro F' μ' cv w' kk' m2 g1 g2 g3 g4 g5 g6 g7 g8
        exact ih _ _ _ F' μ' kk' (I.next R hk ho hao hv hun hpre g1 g2 g3 ⟨m2, g4, g5⟩ g6 g7 g8) hcnt'
      have hid' : ∀ (F' : Nat → Prop) (μ' : Mu) (w' : World), Ext mkk.length F μ w F' μ' w' → ∀ k2 j : Nat, k2 < h → σ[k2]? = some j → j ≠ i → listed.getD j false = false → μ' (m0.length + k2) = none := by
        intro F' μ' w' hX k2 j hk2 hj _ hl
        rw [hX.mu _ (by omega)]
        exact I.hid k2 j hk2 hj hl
      have effSame : kd h aops k ≠ .E → ∀ e j : Nat, e < ops.size → kd h aops e = .E → σ[e]? = some j → ((j = i ∨ listed.getD j false = true) ↔ e < kk) := by
        intro hne e2 j he2 hE hj
        have hji : j ≠ i := fun h => by subst h; exact hne (by rw [R.inj hk hj]; exact hE)
        simp only [hji, false_or]
        exact I.eff e2 j he2 hE hj
      have hmeq : (∀ e2, e2 < ops.size → kd h aops e2 = .E → e2 < min k kk ∨ max k kk ≤ e2) → h ≤ k → Ms[k]? = Ms[kk]? := by
        intro hno hhk
        rcases Nat.le_total k kk with hle | hle
        · have := Ms_const (h := h) T (kk - k) k hhk (by omega) (fun e2 h1 h2 hE => by
            have := hno e2 (by omega) hE
            omega)
          rw [show k + (kk - k) = kk by omega] at this
          exact this.symm
        · have := Ms_const (h := h) T (k - kk) kk c1 (by omega) (fun e2 h1 h2 hE => by
            have := hno e2 (by omega) hE
            omega)
          rw [show kk + (k - kk) = k by omega] at this
          exact this
      have hentry : ∃ x, tr[k]? = some x ∧ x.1 = wd ∧ x.2.1 = ao.args.map (getS e (Vs.take k)) ∧ x.2.2.1 = v := by
        have hkt : k < tr.length := by omega
        refine ⟨tr[k], List.getElem?_eq_getElem hkt, ?_, ?_, ?_⟩
        · have := (hx k ao e tr[k] hao he (List.getElem?_eq_getElem hkt)).1
          rw [hw] at this; injection this with this; exact this.symm
        · exact (hx k ao e tr[k] hao he (List.getElem?_eq_getElem hkt)).2
        · rw [← hVs] at hv
          rw [List.getElem?_map, List.getElem?_eq_getElem hkt] at hv
          simpa using hv
      have notNever : never cl σ h ops.size aops k kk = true → False := by
        intro hnv
        unfold never at hnv
        obtain ⟨e2, he2, hq⟩ := List.any_eq_true.1 hnv
        rw [List.mem_range] at he2
        simp only [Bool.and_eq_true, Bool.or_eq_true, decide_eq_true_eq] at hq
        obtain ⟨hE, hq⟩ := hq
        obtain ⟨j, hj⟩ : ∃ j, σ[e2]? = some j := ⟨_, List.getElem?_eq_getElem (by rw [R.sl]; exact he2)⟩
        have heff := I.eff e2 j he2 hE hj
        rcases hq with ⟨q1, q2⟩ | ⟨q1, q2⟩
        · have := heff.1 (waits e2 j hj q2); omega
        · have h3 := heff.2 q1
          rw [notyet e2 j hj q2] at h3; cases h3
      unfold wpOp
      rw [ho]
      simp only [hwant]
      -- by kind
      cases hkd : kd h aops k with
      | H =>
        rw [hkd] at p3
        simp only [Bool.and_eq_true, decide_eq_true_eq] at p3
        obtain ⟨⟨⟨q1, q2⟩, q3⟩, q4⟩ := p3
        have hkh : k < h := by
          rcases Nat.lt_or_ge k h with hlt | hge
          · exact hlt
          · unfold kd at hkd
            rw [if_neg (by omega), hao] at hkd
            simp only at hkd
            unfold kindA at hkd; split at hkd <;> cases hkd
        have hwd : wd = true := by unfold wantedA at s1; rw [q2] at s1; simpa using s1.symm
        subst hwd
        simp only [if_true]
        refine .inl ?_
        split at q1
        · rename_i z hz
          have hopk := s2 rfl
          rw [q3, hz] at hopk
          simp only [List.map_nil, amOp, Option.some.injEq, Prod.mk.injEq] at hopk
          obtain ⟨mk, hmk, hmkl⟩ := hoist k (by omega)
          rw [hm] at hmk; injection hmk with hmk; subst hmk
          have hvv : v = .ptr (m0.length + k) 0 := by rw [← hopk.1, hmkl]
          have hq := List.all_eq_true.1 q4 kk I.cut
          rw [Bool.or_eq_true] at hq
          have hstab := hq.resolve_left (fun hnv => notNever hnv)
          obtain ⟨x, hxk, hx1, hx2, hx3⟩ := hentry
          have hsame := stab_ok hst hstab hao hxk
          rw [memAt_eq (c := kk) (m := mkk) (by rw [hMs]; exact hmkk)] at hsame
          obtain ⟨xa, xb, xc, xd⟩ := x
          simp only at hx1 hx2 hx3
          subst hx3
          rw [hvv, hz] at hsame
          simp only [sameAt] at hsame
          split at hsame
          · rename_i sz l hg
            simp only [Bool.and_eq_true, decide_eq_true_eq] at hsame
            obtain ⟨rfl, hl⟩ := hsame
            have := AV.beqL_eq hl
            subst this
            -- the model's alloc
            rw [hz] at hc
            simp only [chkOp] at hc
            split at hc <;> first | (cases hc; done) | skip
            rename_i t hot
            split at hc
            · rename_i hzi
              obtain ⟨ti, zv, hti, hzv, hzl⟩ := zeroIs_ok (num := num) hzi μ
              have hrun : (execOp a.eval o).run P w = .ok (.value (.pointer (some ⟨w.heap.size, 0, none⟩))) (w.alloc (.cells zv.cells t)) := by
                simp [execOp, hot, Instr.alloc, run_zeroValue' hti hzv, run_newVar]
              obtain ⟨F', μ', a1, a2, a3, a4, a5⟩ := Sim.appear (w := w) hS (getC_some hg) (I.hid k i hkh hk hun) zv.cells t (by have := hzl.1; simp at this; omega) (by have := rowOk hzl; simpa using this)
              unfold Oper.wp
              rw [hrun]
              simp only [Oper.upon]
              have hle : ∀ i p, μ i = some p → μ' i = some p := fun i2 p hp => by
                have : i2 ≠ m0.length + k := fun e => by subst e; rw [I.hid k i hkh hk hun] at hp; cases hp
                rw [a2 i2 this]; exact hp
              refine go F' μ' _ _ kk mkk (by rw [hvv]; simpa using VR.ptr (num := num) (o := 0) a3) hle I.cut hmkk a1 (effSame (by rw [hkd]; simp)) (fun k2 j hk2 hj hji hl => ?_) ?_
              · have : m0.length + k2 ≠ m0.length + k := fun e => hji (by
                  have : k2 = k := by omega
                  subst this
                  rw [hk] at hj; injection hj with hj; exact hj.symm)
                rw [a2 _ this]
                exact I.hid k2 j hk2 hj hl
              · have hn0' : n0 ≤ m0.length := hn0
                exact ⟨fun i2 hi2 => by rw [a2 i2 (by omega)]; exact I.ext.mu i2 hi2, fun c hc => by
                    rcases a4 c hc with h1 | h1
                    · exact I.ext.fr c h1
                    · exact .inr (Nat.le_trans I.ext.size h1), Nat.le_trans I.ext.size (by simp), fun c hc hF => by
                    rw [a5 c (Nat.lt_of_lt_of_le hc I.ext.size)]; exact I.ext.keep c hc hF, I.ext.os, I.ext.tape, I.ext.output⟩
            · cases hc
          · cases hsame
        · cases q1
      | P =>
        cases wd with
        | true =>
          simp only [if_true]
          refine .inl ?_
          have hopk := s2 rfl
          have hkp : kindA ao.op = .P := by
            unfold kd at hkd
            split at hkd
            · cases hkd
            · rw [hao] at hkd; exact hkd
          have hopkk := (kind_P hkp hopk).2 mkk
          refine op_sound hG hc hargs hS hopkk _ Q (fun F' μ' cv w' g1 g2 g3 => ?_)
          exact go F' μ' cv w' kk mkk g1 (hS.mu_le g3) I.cut hmkk g2 (effSame (by rw [hkd]; simp)) (hid' F' μ' w' g3) (I.ext.trans g3 (by omega))
        | false =>
          simp only [Bool.false_eq_true, if_false]
          obtain ⟨rfl, _⟩ := s3 rfl
          exact go F μ Go.undef w kk mkk VR.skip (fun _ _ h => h) I.cut hmkk hS (effSame (by rw [hkd]; simp)) (hid' F μ w (Ext.refl _ _ _ _)) I.ext
      | L =>
        have hhk : h ≤ k := by
          rcases Nat.lt_or_ge k h with hlt | hge
          · unfold kd at hkd; rw [if_pos hlt] at hkd; cases hkd
          · exact hge
        have hkl : kindA ao.op = .L := by
          unfold kd at hkd
          rw [if_neg (by omega), hao] at hkd
          exact hkd
        cases wd with
        | true =>
          simp only [if_true]
          refine .inl ?_
          have hopk := s2 rfl
          have hopkk : amOp G ao.op (ao.args.map (getS e (Vs.take k))) mkk = some (v, mkk) := by
            rw [hkd] at p3
            have hq := List.all_eq_true.1 p3 kk I.cut
            simp only [Bool.or_eq_true] at hq
            rcases hq with (hq | hq) | hq
            · exact (notNever hq).elim
            · have hbt : Ms[k]? = Ms[kk]? := hmeq (fun e2 he2 hE => by
                have := List.all_eq_true.1 hq e2 (List.mem_range.2 he2)
                rw [hE] at this
                simpa using this) hhk
              rw [hm, hmkk] at hbt
              injection hbt with hbt; subst hbt
              rw [hopk, kind_L hkl hopk]
            · obtain ⟨x, hxk, hx1, hx2, hx3⟩ := hentry
              have hsame := stab_ok hst hq hao hxk
              rw [memAt_eq (c := kk) (m := mkk) (by rw [hMs]; exact hmkk)] at hsame
              obtain ⟨xa, xb, xc, xd⟩ := x
              simp only at hx1 hx2 hx3
              subst hx1; subst hx2; subst hx3
              exact sameAt_L hkl hsame
          refine op_sound hG hc hargs hS hopkk _ Q (fun F' μ' cv w' g1 g2 g3 => ?_)
          exact go F' μ' cv w' kk mkk g1 (hS.mu_le g3) I.cut hmkk g2 (effSame (by rw [hkd]; simp)) (hid' F' μ' w' g3) (I.ext.trans g3 (by omega))
        | false =>
          simp only [Bool.false_eq_true, if_false]
          obtain ⟨rfl, _⟩ := s3 rfl
          exact go F μ Go.undef w kk mkk VR.skip (fun _ _ h => h) I.cut hmkk hS (effSame (by rw [hkd]; simp)) (hid' F μ w (Ext.refl _ _ _ _)) I.ext
      | E =>
        have hhk : h ≤ k := by
          rcases Nat.lt_or_ge k h with hlt | hge
          · unfold kd at hkd; rw [if_pos hlt] at hkd; cases hkd
          · exact hge
        have before : ∀ e2 j, e2 < k → kd h aops e2 = .E → σ[e2]? = some j → listed.getD j false = true := by
          intro e2 j he2 hE hj
          rw [hkd] at p3
          have := List.all_eq_true.1 p3 e2 (List.mem_range.2 (by omega))
          rw [decide_eq_true (show e2 < k ∧ kd h aops e2 = .E from ⟨he2, hE⟩)] at this
          exact waits e2 j hj (by simpa using this)
        have after : ∀ e2 j, k < e2 → e2 < ops.size → kd h aops e2 = .E → σ[e2]? = some j → listed.getD j false = false := by
          intro e2 j he2 hen hE hj
          have ha2 := List.getElem?_eq_getElem (show e2 < aops.length by omega)
          have hop2 := D.op ha2 hen
          unfold opPre at hop2
          simp only [Bool.and_eq_true] at hop2
          have h3 := hop2.2
          rw [hE] at h3
          have := List.all_eq_true.1 h3 k (List.mem_range.2 hkn)
          rw [decide_eq_true (show k < e2 ∧ kd h aops k = .E from ⟨he2, hkd⟩)] at this
          exact notyet e2 j hj (by simpa using this)
        have hkE := I.eff k i hkn hkd hk
        have hkkk : kk ≤ k := by
          rcases Nat.lt_or_ge k kk with hlt | hge
          · have := hkE.2 hlt; rw [hun] at this; cases this
          · exact hge
        have hbt : Ms[k]? = Ms[kk]? := hmeq (fun e2 he2 hE => by
          rw [Nat.min_eq_right hkkk, Nat.max_eq_left hkkk]
          rcases Nat.lt_or_ge e2 k with hlt | hge
          · obtain ⟨j, hj⟩ : ∃ j, σ[e2]? = some j := ⟨_, List.getElem?_eq_getElem (by rw [R.sl]; exact he2)⟩
            exact .inl ((I.eff e2 j he2 hE hj).1 (before e2 j hlt hE hj))
          · exact .inr hge) hhk
        rw [hm, hmkk] at hbt
        injection hbt with hbt; subst hbt
        have hcut : k + 1 ∈ cuts h ops.size aops := by
          unfold cuts
          exact List.mem_cons_of_mem _ (List.mem_map.2 ⟨k, List.mem_filter.2 ⟨List.mem_range.2 hkn, by simp [hkd]⟩, rfl⟩)
        have heff : ∀ e2 j : Nat, e2 < ops.size → kd h aops e2 = .E → σ[e2]? = some j → ((j = i ∨ listed.getD j false = true) ↔ e2 < k + 1) := by
          intro e2 j he2 hE hj
          constructor
          · intro h1
            rcases Nat.lt_or_ge k e2 with hlt | hge
            · rcases h1 with rfl | h1
              · have := R.inj hj hk; omega
              · rw [after e2 j hlt he2 hE hj] at h1; cases h1
            · omega
          · intro h1
            rcases Nat.lt_or_ge e2 k with hlt | hge
            · exact .inr (before e2 j hlt hE hj)
            · have : e2 = k := by omega
              subst this
              rw [hk] at hj; injection hj with hj; exact .inl hj.symm
        cases wd with
        | true =>
          simp only [if_true]
          refine .inl ?_
          refine op_sound hG hc hargs hS (s2 rfl) _ Q (fun F' μ' cv w' g1 g2 g3 => ?_)
          exact go F' μ' cv w' (k + 1) m1 g1 (hS.mu_le g3) hcut hm1 g2 heff (hid' F' μ' w' g3) (I.ext.trans g3 (by omega))
        | false =>
          simp only [Bool.false_eq_true, if_false]
          obtain ⟨rfl, rfl⟩ := s3 rfl
          exact go F μ Go.undef w (k + 1) _ VR.skip (fun _ _ h => h) hcut hm1 hS heff (hid' F μ w (Ext.refl _ _ _ _)) I.ext
end
end Go.Am
end
