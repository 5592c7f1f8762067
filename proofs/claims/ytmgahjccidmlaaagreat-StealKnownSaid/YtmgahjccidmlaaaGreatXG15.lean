import Derived.Test.YtmgahjccidmlaaaGreatXG14
set_option linter.unusedSimpArgs false
set_option linter.unusedVariables false
section
namespace Go.Am
section
variable {X:Type}
def grpOk(l:Mem X):Prop:=∀ c,c ∈ l→(∃ sz cs,c = .cells sz false cs)∨c = .dead
def AbsOf(num:Nat→Nat) (conc:X→Mem X):AbsSem X where
 holds x own p H:=∃ μ:Mu,μ 0=some p∧grpOk (conc x)∧Sim (AbsSem.no X) num own μ (conc x) H
 frame:=by
  rintro x own own' p H H' ⟨μ,h0,hg,ownm,hS⟩ ho hk
  refine⟨μ,h0,hg,ownm,fun c i h=>(ho c).1 (hS.isF c i h),fun c hc=>?_,hS.new,fun i ch q hi hq=>?_⟩
  ·have h1:=(ho c).2 hc
   have h2:=hS.lt c h1
   have h3:=hk c h1
   rw[Array.getElem?_eq_getElem h2] at h3
   exact(Array.getElem?_eq_some_iff.1 h3).1
  ·have hok:=hS.ok i ch q hi hq
   rcases hg ch (List.mem_of_getElem? hi) with⟨sz,cs,rfl⟩|rfl
   ·obtain⟨arr,T,fr,k1,k2,k3,k4,k5⟩:=hok
    have h1:=hS.isF _ _ (k5 rfl).1
    exact⟨arr,T,fr,k1,(hk _ h1).trans k2,k3,fun h=>(by cases h),k5⟩
   ·trivial
def Placed(θ:Nat→Option Nat) (l l':Mem X):Prop:=l.length=l'.length∧∀ (j:Nat) (c:Chunk X),l[j]?=some c→∃ c',renC θ c=some c'∧l'[j]?=some c'
def place(i n:Nat):Nat→Option Nat:=fun l=>if l=0 then some i else some (n+(l - 1))
def unf(k:Nat) (pl:X→Nat→Nat→Chunk X × Mem X) (f:AFun X):AFun X:=fun args m =>
 match args[k]? with
 | some (.ptr i _)=>match m[i]? with
  | some (.abs x)=>f args (m.set i (pl x i m.length).1++(pl x i m.length).2)
  | _=>none
 | _=>none
variable {num:Nat→Nat} {conc:X→Mem X} {P:Program}
theorem chunk_place{μl μ:Mu} {θ:Nat→Option Nat} {own1 F own2 F2:Nat→Prop} {p:Pl} {H:Array Obj} {c c':Chunk X} {A B:AbsSem X} (hg:(∃ sz cs,c = .cells sz false cs)∨c = .dead) (hr:renC θ c=some c')
  (hf:∀ j i p,θ j=some i→μl j=some p→μ i=some p) (ho:own1 p.c→own2 p.c) (h:ChunkOk A num μl F own1 p H c):ChunkOk B num μ F2 own2 p H c':=by
 rcases hg with⟨sz,cs,rfl⟩|rfl
 ·simp only[renC] at hr
  split at hr
  ·rename_i l' hl
   injection hr with hr;subst hr
   obtain⟨arr,T,fr,k1,k2,k3,k4,k5⟩:=h
   refine⟨arr,T,fr,k1,k2,⟨by rw[← renL_length hl];exact k3.1,k3.2.1,fun o a ha=>?_⟩,fun h=>(by cases h),fun h=>⟨ho (k5 h).1,(k5 h).2⟩⟩
   obtain⟨b,hb,hrb⟩:=renL_get hl ha
   obtain⟨v,hv1,hv2⟩:=k3.2.2 o b hb
   exact⟨v,hv1,ren_forth hf hrb hv2⟩
  ·cases hr
 ·injection hr with hr;subst hr;trivial
theorem unf_sound{k:Nat} {pl:X→Nat→Nat→Chunk X × Mem X} (hpl:∀ x i n,Placed (place i n) (conc x) ((pl x i n).1 :: (pl x i n).2)) {f:AFun X} {fid:FuncId} (hf:Sound (AbsOf num conc) num P fid f):Sound (AbsOf num conc) num P fid (unf k pl f):=by
 intro F μ m w args vs v m' hS0 hV hg
 obtain⟨own,hS⟩:=hS0
 unfold unf at hg
 split at hg
 case h_2=>cases hg
 rename_i i o hk
 split at hg
 case h_2=>cases hg
 rename_i x hi
 obtain⟨d,hd,hvd⟩:=hV.get hk
 obtain⟨p,hp,_⟩:=hvd.ptr_inv
 have hil:i < m.length:=(List.getElem?_eq_some_iff.1 hi).1
 obtain⟨μl,hl0,hgrp,ownl,hL⟩:=hS.ok i _ p hi hp
 obtain⟨hlen,hch⟩:=hpl x i m.length
 generalize pl x i m.length=pr at hg hlen hch
 obtain⟨c0,rest⟩:=pr
 simp only at hg hlen hch
 let μh:Mu:=fun j=>if j < m.length then μ j else μl (j - m.length+1)
 let ownh:Nat→Option Nat:=fun c=>match own c with
  | some j=>if j=i then(match ownl c with|some l=>place i m.length l|none=>none) else some j
  | none=>none
 have hθ:∀ l j q,place i m.length l=some j→μl l=some q→μh j=some q:=by
  intro l j q h1 h2
  unfold place at h1
  split at h1
  ·rename_i h0;subst h0;injection h1 with h1;subst h1
   simp only[μh,if_pos hil];rw[hp,← hl0];exact h2
  ·rename_i h0;injection h1 with h1;subst h1
   simp only[μh];rw[if_neg (by omega)]
   have:m.length+(l - 1) - m.length+1=l:=by omega
   rw[this];exact h2
 have hμ:∀ j q,μ j=some q→μh j=some q:=by
  intro j q h
  have:j < m.length:=by
   rcases Nat.lt_or_ge j m.length with h1|h1
   ·exact h1
   ·rw[hS.new j h1] at h;cases h
  simp only[μh,if_pos this];exact h
 have hownl:∀ c l,ownl c=some l→ownh c=place i m.length l:=by
  intro c l h
  have:=hL.isF c l h
  simp only[ownh,this,if_true,h]
 have hsim:Sim (AbsOf num conc) num F μh (m.set i c0++rest) w.heap:=by
  refine⟨ownh,fun c j h=>?_,hS.lt,fun j hj=>?_,fun j ch q hj hq=>?_⟩
  ·simp only[ownh] at h
   split at h
   ·rename_i j' hj';exact hS.isF c j' hj'
   ·cases h
  ·simp only[List.length_append,List.length_set] at hj
   simp only[μh];rw[if_neg (by omega)]
   exact hL.new _ (by simp only[List.length_cons] at hlen;omega)
  ·by_cases hjm:j < m.length
   ·rw[List.getElem?_append_left (by simpa using hjm)] at hj
    simp only[μh,if_pos hjm] at hq
    by_cases hji:i=j
    ·subst hji
     rw[List.getElem?_set_self hil] at hj
     injection hj with hj;subst hj
     rw[hp] at hq;injection hq with hq;subst hq
     have hc0:0 < (conc x).length:=by rw[hlen];simp
     have hc:=List.getElem?_eq_getElem hc0
     obtain⟨c',h1,h2⟩:=hch 0 _ hc
     simp only[List.getElem?_cons_zero,Option.some.injEq] at h2
     subst h2
     refine chunk_place (hgrp _ (List.mem_of_getElem? hc)) h1 hθ (fun h=>?_) (hL.ok 0 _ p hc hl0)
     rw[hownl _ _ h];rfl
    ·rw[List.getElem?_set_ne hji] at hj
     refine(hS.ok j ch q hj hq).keep hμ (fun c=>?_) (fun _ _=>rfl) (fun _ _ h=>⟨rfl,h⟩)
     constructor
     ·intro h;simp only[ownh,h];rw[if_neg (fun h=>hji h.symm)]
     ·intro h
      simp only[ownh] at h
      split at h
      ·rename_i j' hj'
       split at h
       ·split at h
        ·unfold place at h
         split at h
         ·injection h with h;exact absurd h hji
         ·injection h with h;omega
        ·cases h
       ·rw[hj'];exact h
      ·cases h
   ·rw[List.getElem?_append_right (by simp;omega)] at hj
    simp only[List.length_set] at hj
    simp only[μh,if_neg hjm] at hq
    have hll:j - m.length+1 < (conc x).length:=by
     have:=(List.getElem?_eq_some_iff.1 hj).1
     rw[hlen];simp;omega
    have hc:=List.getElem?_eq_getElem hll
    obtain⟨c',h1,h2⟩:=hch _ _ hc
    simp only[List.getElem?_cons_succ] at h2
    rw[hj] at h2;injection h2 with h2;subst h2
    refine chunk_place (hgrp _ (List.mem_of_getElem? hc)) h1 hθ (fun h=>?_) (hL.ok _ _ q hc hq)
    rw[hownl _ _ h]
    unfold place;rw[if_neg (by omega)];congr 1;omega
 refine(hf F μh _ w args vs v m' hsim (hV.mono hμ) hg).mono fun e w' he=>?_
 obtain⟨F',μ',cv,h1,h2,h3,h4⟩:=he
 refine⟨F',μ',cv,h1,h2,h3,⟨fun j hj=>?_,h4.fr,h4.size,h4.keep,h4.os,h4.tape,h4.output⟩⟩
 rw[h4.mu j (by simp;omega)]
 simp only[μh,if_pos hj]
def GrA(θ:Nat→Option Nat) (a b:AV):Prop:=AV.ren θ a=some b∨(a = .sl 0 0 0 (some 0)∧∃ i o,b = .sl i o 0 (some 0))
def GrC(θ:Nat→Option Nat):Chunk X→Chunk X→Prop
 | .cells sz ro cs,c'=>∃ l',c' = .cells sz ro l'∧cs.length=l'.length∧∀ (o:Nat) (a b:AV),cs[o]?=some a→l'[o]?=some b→GrA θ a b
 | .dead,_=>True
 | .abs _,_=>False
 | .tab _ _,_=>False
 | .rtab _,_=>False
theorem grC_of{θ:Nat→Option Nat} {c c':Chunk X} (h:renC θ c=some c') (hc:∀ x,c ≠ .abs x):GrC θ c c':=by
 cases c with
 | cells sz ro cs =>
  simp only[renC] at h
  split at h
  ·rename_i l' hl
   injection h with h;subst h
   refine⟨l',rfl,renL_length hl,fun o a b ha hb=>.inl ?_⟩
   obtain⟨b',h1,h2⟩:=renL_get' hl ha
   rw[hb] at h1;injection h1 with h1;subst h1;exact h2
  ·cases h
 | abs x=>exact absurd rfl (hc x)
 | dead=>trivial
 | tab l ck=>cases h
 | rtab l=>cases h
structure FoldAt (conc:X→Mem X) (f:AFun X) (ρ γ:Nat→Option Nat) (v0:AV) (m0:Mem X) (args:List AV) (m:Mem X) (v:AV) (m':Mem X):Prop where
 run:f args m=some (v0,m0)
 res:AV.ren ρ v0=some v
 mlen:m.length≤m'.length
 old:∀ i,i < m.length→ρ i=some i
 new:∀ (j i:Nat),ρ j=some i→m.length≤j→m.length≤i∧i < m'.length
 inj:∀ j j' i,ρ j=some i→ρ j'=some i→j=j'
 hid:∀ j i,γ j=some i→ρ j=none
 ch:∀ (j i:Nat) (c:Chunk X),ρ j=some i→m0[j]?=some c →
  ((∀ j',γ j'≠some i)∧((∃ c',renC ρ c=some c'∧m'[i]?=some c')∨(j < m.length∧m[j]?=some c∧m'[j]?=some c))) ∨
  (∃ (x:X) (θ:Nat→Option Nat),m'[i]?=some (.abs x)∧grpOk (conc x)∧θ 0=some j∧(∀ l k,θ l=some k→l < (conc x).length) ∧
   (∀ (l k:Nat) (c:Chunk X),θ l=some k→(conc x)[l]?=some c→∃ c',GrC θ c c'∧m0[k]?=some c')∧(∀ l k,θ l=some k→l≠0→γ k=some i)∧(∀ l l' k,θ l=some k→θ l'=some k→l=l'))
def Fold(conc:X→Mem X) (f g:AFun X):Prop:=∀ args m v m',g args m=some (v,m')→∃ ρ γ v0 m0,FoldAt conc f ρ γ v0 m0 args m v m'
theorem Fold.mono{f g:AFun X} (h:Fold conc f g):Mono g:=fun args m v m' hg=>by
 obtain⟨_,_,_,_,k⟩:=h args m v m' hg
 exact k.mlen
open Classical in
theorem fold_sound{f g:AFun X} (h:Fold conc f g) {k:FuncId} (hf:Sound (AbsOf num conc) num P k f):Sound (AbsOf num conc) num P k g:=by
 intro F μ m w args vs v m' hS hV hg
 obtain⟨ρ,γ,v0,m0,D⟩:=h args m v m' hg
 obtain⟨own0,hS0⟩:=hS
 refine(hf F μ m w args vs v0 m0 ⟨own0,hS0⟩ hV D.run).mono fun e w' he=>?_
 obtain⟨F',μ',cv,rfl,hv,⟨own',hS'⟩,hE⟩:=he
 let μ2:Mu:=fun i=>if h:∃ j,ρ j=some i then μ' h.choose else none
 let own2:Nat→Option Nat:=fun c=>match own' c with
  | some j=>(match ρ j with|some i=>some i|none=>γ j)
  | none=>none
 have hμ2:∀ (j i:Nat),ρ j=some i→μ2 i=μ' j:=by
  intro j i hj
  have hex:∃ j,ρ j=some i:=⟨j,hj⟩
  have:hex.choose=j:=D.inj _ _ _ hex.choose_spec hj
  simp only[μ2,dif_pos hex,this]
 have hfw:∀ j i p,ρ j=some i→μ' j=some p→μ2 i=some p:=fun j i p h1 h2=>by rw[hμ2 j i h1];exact h2
 have hlt:∀ i p,μ i=some p→i < m.length:=by
  intro i p hp
  rcases Nat.lt_or_ge i m.length with h1|h1
  ·exact h1
  ·rw[hS0.new i h1] at hp;cases hp
 have hbel:∀ j i p,below m.length j=some i→μ' j=some p→μ2 i=some p:=by
  intro j i p h1 h2
  unfold below at h1
  split at h1
  ·rename_i hj;injection h1 with h1;subst h1;exact hfw j j p (D.old j hj) h2
  ·cases h1
 have hli:∀ j i,ρ j=some i→i < m'.length:=by
  intro j i hj
  rcases Nat.lt_or_ge j m.length with h1|h1
  ·have:=(D.old j h1).symm.trans hj
   injection this with this;subst this
   have:=D.mlen;omega
  ·exact(D.new j i hj h1).2
 refine⟨F',μ2,cv,rfl,ren_forth hfw D.res hv,⟨own2,fun c i ho=>?_,hS'.lt,fun i hi=>?_,fun i ch p hi hp=>?_⟩,?_⟩
 ·simp only[own2] at ho
  split at ho
  ·rename_i j hj;exact hS'.isF c j hj
  ·cases ho
 ·simp only[μ2]
  rw[dif_neg]
  rintro⟨j,hj⟩
  have:=hli j i hj;omega
 ·have hex:∃ j,ρ j=some i:=by
   rcases Classical.em (∃ j,ρ j=some i) with h1|h1
   ·exact h1
   ·simp only[μ2,dif_neg h1] at hp;cases hp
  obtain⟨j,hj⟩:=hex
  rw[hμ2 j i hj] at hp
  have hjl:j < m0.length:=by
   rcases Nat.lt_or_ge j m0.length with h1|h1
   ·exact h1
   ·rw[hS'.new j h1] at hp;cases hp
  have hc:=List.getElem?_eq_getElem hjl
  generalize m0[j]=c at hc
  have hok:=hS'.ok j c p hc hp
  rcases D.ch j i c hj hc with⟨hγ,hcase⟩|⟨x,θ,h1,hgrp,ht0,htl,htc,htg,hti⟩
  ·have hown:∀ b,own' b=some j ↔ own2 b=some i:=by
    intro b
    constructor
    ·intro h1;simp only[own2,h1,hj]
    ·intro h1
     simp only[own2] at h1
     split at h1
     ·rename_i j' hj'
      split at h1
      ·rename_i i' hi'
       injection h1 with h1;subst h1
       rw[D.inj _ _ _ hi' hj] at hj';exact hj'
      ·exact absurd h1 (hγ _)
     ·cases h1
   rcases hcase with⟨c',h1,h2⟩|⟨h1,h2,h3⟩
   ·rw[hi] at h2;injection h2 with h2;subst h2
    cases c with
    | cells sz ro l =>
     simp only[renC] at h1
     split at h1
     ·rename_i l' hl
      injection h1 with h1;subst h1
      obtain⟨arr,T,fr,k1,k2,k3,k4,k5⟩:=hok
      refine⟨arr,T,fr,k1,k2,⟨by rw[← renL_length hl];exact k3.1,k3.2.1,fun o a ha=>?_⟩,k4,fun hro=>⟨(hown _).1 (k5 hro).1,(k5 hro).2⟩⟩
      obtain⟨b,hb,hr⟩:=renL_get hl ha
      obtain⟨v,hv1,hv2⟩:=k3.2.2 o b hb
      exact⟨v,hv1,ren_forth hfw hr hv2⟩
     ·cases h1
    | abs x =>
     injection h1 with h1;subst h1
     exact(AbsOf num conc).frame hok (fun b=>hown b) (fun _ _=>rfl)
    | dead=>injection h1 with h1;subst h1;trivial
    | tab l ck=>cases h1
    | rtab l=>cases h1
   ·have hij:i=j:=by have:=(D.old j h1).symm.trans hj;injection this with this;exact this.symm
    subst hij
    rw[hi] at h3;injection h3 with h3;subst h3
    have hp0:μ i=some p:=(hE.mu i h1).symm.trans hp
    have hok0:=hS0.ok i ch p h2 hp0
    cases ch with
    | cells sz ro l =>
     obtain⟨arr,T,fr,k1,k2,k3,k4,k5⟩:=hok
     obtain⟨arr0,T0,fr0,j1,j2,j3,j4,j5⟩:=hok0
     refine⟨arr,T,fr,k1,k2,⟨k3.1,k3.2.1,fun o a ha=>?_⟩,k4,fun hro=>⟨(hown _).1 (k5 hro).1,(k5 hro).2⟩⟩
     obtain⟨v,hv1,hv2⟩:=k3.2.2 o a ha
     obtain⟨v0,_,hv0⟩:=j3.2.2 o a ha
     exact⟨v,hv1,ren_forth hbel (ren_below hlt hv0) hv2⟩
    | abs x=>exact(AbsOf num conc).frame hok (fun b=>hown b) (fun _ _=>rfl)
    | dead=>trivial
    | tab l ck =>
     obtain⟨es,k1,k2,k3,k4⟩:=hok
     obtain⟨es0,j1,j2,j3,j4⟩:=hok0
     refine⟨es,k1,(hown _).1 k2,k3,fun o k b a ha=>?_⟩
     obtain⟨e,e1,e2,e3,hv2⟩:=k4 o k b a ha
     obtain⟨e0,_,_,_,hv0⟩:=j4 o k b a ha
     exact⟨e,e1,e2,e3,ren_forth hbel (ren_below hlt hv0) hv2⟩
    | rtab l =>
     obtain⟨es,c,k1,k2,k3,k4⟩:=hok
     obtain⟨es0,c0,j1,j2,j3,j4⟩:=hok0
     refine⟨es,c,k1,k2,k3,fun o k b a ha=>?_⟩
     obtain⟨e,e1,e2,e3,hv2⟩:=k4 o k b a ha
     obtain⟨e0,_,_,_,hv0⟩:=j4 o k b a ha
     exact⟨e,e1,e2,e3,ren_forth hbel (ren_below hlt hv0) hv2⟩
  ·rw[hi] at h1;injection h1 with h1;subst h1
   let μl:Mu:=fun l=>match θ l with|some k=>μ' k|none=>none
   let ownl:Nat→Option Nat:=fun b=>match own' b with
    | some k=>if h:∃ l,θ l=some k then some h.choose else none
    | none=>none
   have hownl:∀ b l k,θ l=some k→own' b=some k→ownl b=some l:=by
    intro b l k h1 h2
    have hex:∃ l,θ l=some k:=⟨l,h1⟩
    have:hex.choose=l:=hti _ _ _ hex.choose_spec h1
    simp only[ownl,h2,dif_pos hex,this]
   refine⟨μl,by simp only[μl,ht0];exact hp,hgrp,ownl,fun b l hb=>?_,fun b hb=>?_,fun l hl=>?_,fun l c q hlc hq=>?_⟩
   ·simp only[ownl] at hb
    split at hb
    ·rename_i k hk
     split at hb
     ·rename_i hex
      injection hb with hb
      have hs:=hex.choose_spec
      rw[hb] at hs
      by_cases hl0:l=0
      ·subst hl0
       rw[ht0] at hs;injection hs with hs;subst hs
       simp only[own2,hk,hj]
      ·have h1:=htg l k hs hl0
       simp only[own2,hk,D.hid k i h1,h1]
     ·cases hb
    ·cases hb
   ·simp only[own2] at hb
    split at hb
    ·rename_i k hk;exact hS'.lt b (hS'.isF b k hk)
    ·cases hb
   ·have:θ l=none:=by
     cases ht:θ l with
     | none=>rfl
     | some k=>have:=htl l k ht;omega
    simp only[μl,this]
   ·have hex:∃ k,θ l=some k:=by
     cases ht:θ l with
     | none=>simp only[μl,ht] at hq;cases hq
     | some k=>exact⟨k,rfl⟩
    obtain⟨k,h1⟩:=hex
    obtain⟨c',h2,h3⟩:=htc l k c h1 hlc
    simp only[μl,h1] at hq
    have hok:=hS'.ok k c' q h3 hq
    rcases hgrp c (List.mem_of_getElem? hlc) with⟨sz,cs,rfl⟩|rfl
    ·obtain⟨l',rfl,g1,g2⟩:=h2
     obtain⟨arr,T,fr,k1,k2,k3,k4,k5⟩:=hok
     refine⟨arr,T,fr,k1,k2,⟨by rw[g1];exact k3.1,k3.2.1,fun o a ha=>?_⟩,fun h=>(by cases h),fun _=>⟨hownl _ _ _ h1 (k5 rfl).1,(k5 rfl).2⟩⟩
     have hol:o < l'.length:=by rw[← g1];exact(List.getElem?_eq_some_iff.1 ha).1
     have hb:=List.getElem?_eq_getElem hol
     obtain⟨v,hv1,hv2⟩:=k3.2.2 o _ hb
     refine⟨v,hv1,?_⟩
     rcases g2 o a _ ha hb with hr|⟨rfl,i2,o2,hr⟩
     ·exact ren_back (fun j i p g1 g2=>by simp only[μl,g1];exact g2) hr hv2
     ·rw[hr] at hv2
      obtain⟨p2,A2,c2,_,rfl,h4⟩:=hv2.sl_inv
      have hc2:c2=0:=by
       rcases h4 with⟨_,h4|⟨h4,_⟩⟩|⟨_,h4,_⟩
       ·injection h4 with h4;exact h4.symm
       ·cases h4
       ·exact h4
      subst hc2
      exact VR.slz0 (p:=p) (by simp only[μl,ht0];exact hp)
    ·trivial
 ·exact⟨fun i hi=>by rw[hμ2 i i (D.old i hi)];exact hE.mu i hi,hE.fr,hE.size,hE.keep,hE.os,hE.tape,hE.output⟩
end
end Go.Am
end
section
namespace Go.Am
structure Acc where
 kind:Int
 at':Int
 old:Int
 new:Int
 deriving DecidableEq
structure MemSt where
 cells:List Int
 ck:Bool
 ops:Int
 loads:Int
 stores:Int
 swaps:Int
 fails:Int
 adds:Int
 log:List Acc
 pre:List Acc
inductive Ob where
 | mem (s:MemSt)
def accC(e:Acc):List AV:=[.int .i64 e.kind,.int .i64 e.at',.int .u64 e.old,.int .u64 e.new]
def uC(xs:List Int):List AV:=xs.map (AV.int .u64)
def cvA(i k1:Nat) (s:MemSt):AV:=if s.cells=[] then .sl i 0 0 (some 0) else .sl k1 0 s.cells.length (if s.ck then some s.cells.length else none)
def lvA(k2:Nat) (s:MemSt):AV:=if s.log=[] then .nils else .sl k2 (s.pre.length * 4) s.log.length none
def rootL(s:MemSt) (lv cv:AV):List AV:=[.int .u64 s.ops,.int .u64 s.loads,.int .u64 s.stores,.int .u64 s.swaps,.int .u64 s.fails,.int .u64 s.adds,lv,cv]
abbrev MM:=Mem Ob
def concM:Ob→MM
 | .mem s=>[.cells 8 false (rootL s (lvA 2 s) (cvA 0 1 s)),.cells 1 false (uC s.cells),.cells 4 false ((s.pre++s.log).flatMap accC)]
def plM:Ob→Nat→Nat→Chunk Ob × MM
 | .mem s,i,n=>(.cells 8 false (rootL s (lvA (n+1) s) (cvA i n s)),[.cells 1 false (uC s.cells),.cells 4 false ((s.pre++s.log).flatMap accC)])
theorem renL_map{α:Type} {ρ:Nat→Option Nat} {f:α→AV} (h:∀ x,AV.ren ρ (f x)=some (f x)):∀ xs:List α,AV.renL ρ (xs.map f)=some (xs.map f)
 | []=>rfl
 | x :: xs=>by simp only[List.map_cons,AV.renL,h x,renL_map h xs]
theorem renL_append{ρ:Nat→Option Nat}:∀ {a b a' b':List AV},AV.renL ρ a=some a'→AV.renL ρ b=some b'→AV.renL ρ (a++b)=some (a'++b')
 | [],b,a',b',ha,hb=>by simp only[AV.renL,Option.some.injEq] at ha;subst ha;simpa using hb
 | x :: a,b,a',b',ha,hb=>by
  simp only[AV.renL] at ha
  split at ha
  ·rename_i y ys h1 h2
   injection ha with ha;subst ha
   simp only[List.cons_append,AV.renL,h1,renL_append h2 hb]
  ·cases ha
theorem renL_accs{ρ:Nat→Option Nat}:∀ l:List Acc,AV.renL ρ (l.flatMap accC)=some (l.flatMap accC)
 | []=>rfl
 | e :: l=>by rw[List.flatMap_cons];exact renL_append rfl (renL_accs l)
theorem plM_ok:∀ (x:Ob) (i n:Nat),Placed (place i n) (concM x) ((plM x i n).1 :: (plM x i n).2):=by
 rintro⟨s⟩ i n
 refine⟨rfl,fun j c hj=>?_⟩
 match j,hj with
 | 0,hj =>
  simp only[concM,List.getElem?_cons_zero,Option.some.injEq] at hj
  subst hj
  refine⟨_,?_,rfl⟩
  have h1:AV.ren (place i n) (lvA 2 s)=some (lvA (n+1) s):=by unfold lvA;split<;>simp[AV.ren,place]
  have h2:AV.ren (place i n) (cvA 0 1 s)=some (cvA i n s):=by unfold cvA;split<;>simp[AV.ren,place]
  simp only[renC,rootL,AV.renL,h1,h2,AV.ren];rfl
 | 1,hj =>
  simp only[concM,List.getElem?_cons_succ,List.getElem?_cons_zero,Option.some.injEq] at hj
  subst hj
  refine⟨_,?_,rfl⟩
  simp only[renC,uC,renL_map (f:=AV.int .u64) (fun _=>rfl)]
 | 2,hj =>
  simp only[concM,List.getElem?_cons_succ,List.getElem?_cons_zero,Option.some.injEq] at hj
  subst hj
  refine⟨_,?_,rfl⟩
  simp only[renC,renL_accs]
 | j+3,hj=>simp[concM] at hj
structure MemAt (m:MM) (i k1 k2:Nat) (s:MemSt):Prop where
 root:∃ cv,m[i]?=some (.cells 8 false (rootL s (lvA k2 s) cv))∧(cv=cvA i k1 s∨(s.cells=[]∧∃ q o,cv = .sl q o 0 (some 0)))
 cells:s.cells≠[]→m[k1]?=some (.cells 1 false (uC s.cells))
 log:s.log≠[]→m[k2]?=some (.cells 4 false ((s.pre++s.log).flatMap accC))
def memF(step:MemSt→List AV→Option (AV × MemSt)):AFun Ob:=fun args m =>
 match args with
 | .ptr i 0 :: rest=>match m[i]? with
  | some (.abs (.mem s))=>match step s rest with
   | some (v,s')=>some (v,m.set i (.abs (.mem s')))
   | none=>none
  | _=>none
 | _=>none
theorem fold_mem{f:AFun Ob} {args:List AV} {m mh:MM} {i k1 k2:Nat} {v:AV} {s':MemSt} (hi:i < m.length) (hrun:f args m=some (v,mh)) (hv:AV.ren no v=some v) (hlen:m.length≤mh.length)
  (hk:∀ j,j < m.length→j≠i→mh[j]?=m[j]?) (h1:m.length≤k1) (h2:m.length≤k2) (h12:k1≠k2) (hat:MemAt mh i k1 k2 s'):∃ ρ γ v0 m0,FoldAt concM f ρ γ v0 m0 args m v (m.set i (.abs (.mem s'))):=by
 let θ:Nat→Option Nat:=fun l=>if l=0 then some i else if l=1∧s'.cells≠[] then some k1 else if l=2∧s'.log≠[] then some k2 else none
 refine⟨below m.length,fun j=>if j=k1∨j=k2 then some i else none,v,mh,hrun,ren_no hv,by simp,fun j hj=>if_pos hj,fun j q hj hle=>?_,fun j j' q ha hb=>?_,fun j q hj=>?_,fun j q c hj hc=>?_⟩
 ·unfold below at hj;split at hj
  ·omega
  ·cases hj
 ·unfold below at ha hb;split at ha<;>split at hb<;>simp_all
 ·split at hj
  ·unfold below;rw[if_neg (by omega)]
  ·cases hj
 ·unfold below at hj;split at hj
  ·rename_i hjl
   injection hj with hj;subst hj
   by_cases hji:j=i
   ·subst hji
    refine .inr ⟨.mem s',θ,by rw[List.getElem?_set_self hi],?_,rfl,fun l k hl=>?_,fun l k c' hl hc'=>?_,fun l k hl h0=>?_,fun l l' k ha hb=>?_⟩
    ·intro c hc
     simp only[concM,List.mem_cons,List.not_mem_nil,or_false] at hc
     rcases hc with rfl|rfl|rfl<;>exact .inl ⟨_,_,rfl⟩
    ·simp only[θ] at hl
     show l < 3
     split at hl
     ·omega
     ·split at hl
      ·omega
      ·split at hl
       ·omega
       ·cases hl
    ·match l,hc' with
     | 0,hc' =>
      simp only[concM,List.getElem?_cons_zero,Option.some.injEq] at hc'
      subst hc'
      have hk0:k=j:=by simp only[θ,if_true] at hl;injection hl with hl;exact hl.symm
      subst hk0
      obtain⟨cv,hr,hcv⟩:=hat.root
      refine⟨.cells 8 false (rootL s' (lvA k2 s') cv),⟨rootL s' (lvA k2 s') cv,rfl,rfl,?_⟩,hr⟩
      have hlv:AV.ren θ (lvA 2 s')=some (lvA k2 s'):=by
       unfold lvA
       split
       ·rfl
       ·rename_i hne;simp[AV.ren,θ,hne]
      have hcv':GrA θ (cvA 0 1 s') cv:=by
       rcases hcv with rfl|⟨h0,q,o,rfl⟩
       ·left
        unfold cvA
        split
        ·simp[AV.ren,θ]
        ·rename_i hne;simp[AV.ren,θ,hne]
       ·right
        exact⟨by simp[cvA,h0],q,o,rfl⟩
      intro o a b ha hb
      match o,ha,hb with
      | 0,ha,hb|1,ha,hb|2,ha,hb|3,ha,hb|4,ha,hb|5,ha,hb =>
       simp only[rootL,List.getElem?_cons_succ,List.getElem?_cons_zero,Option.some.injEq] at ha hb
       subst ha;subst hb;exact .inl rfl
      | 6,ha,hb =>
       simp only[rootL,List.getElem?_cons_succ,List.getElem?_cons_zero,Option.some.injEq] at ha hb
       subst ha;subst hb;exact .inl hlv
      | 7,ha,hb =>
       simp only[rootL,List.getElem?_cons_succ,List.getElem?_cons_zero,Option.some.injEq] at ha hb
       subst ha;subst hb;exact hcv'
      | o+8,ha,hb=>simp[rootL] at ha
     | 1,hc' =>
      simp only[concM,List.getElem?_cons_succ,List.getElem?_cons_zero,Option.some.injEq] at hc'
      subst hc'
      have hne:s'.cells≠[]:=fun h=>by simp[θ,h] at hl
      have hk0:k=k1:=by simp[θ,hne] at hl;exact hl.symm
      subst hk0
      exact⟨_,grC_of (by simp only[renC,uC,renL_map (f:=AV.int .u64) (fun _=>rfl)]) (fun x h=>by cases h),hat.cells hne⟩
     | 2,hc' =>
      simp only[concM,List.getElem?_cons_succ,List.getElem?_cons_zero,Option.some.injEq] at hc'
      subst hc'
      have hne:s'.log≠[]:=fun h=>by simp[θ,h] at hl
      have hk0:k=k2:=by simp[θ,hne] at hl;exact hl.symm
      subst hk0
      exact⟨_,grC_of (by simp only[renC,renL_accs]) (fun x h=>by cases h),hat.log hne⟩
     | l+3,hc'=>simp[concM] at hc'
    ·simp only[θ] at hl
     rw[if_neg h0] at hl
     split at hl
     ·injection hl with hl;subst hl;simp
     ·split at hl
      ·injection hl with hl;subst hl;simp
      ·cases hl
    ·have key:∀ l,θ l=some k→(l=0∧k=j)∨(l=1∧k=k1)∨(l=2∧k=k2):=by
      intro l hl
      simp only[θ] at hl
      split at hl
      ·rename_i h0;injection hl with hl;exact .inl ⟨h0,hl.symm⟩
      ·split at hl
       ·rename_i h0;injection hl with hl;exact .inr (.inl ⟨h0.1,hl.symm⟩)
       ·split at hl
        ·rename_i h0;injection hl with hl;exact .inr (.inr ⟨h0.1,hl.symm⟩)
        ·cases hl
     rcases key l ha with⟨a1,a2⟩|⟨a1,a2⟩|⟨a1,a2⟩<;>rcases key l' hb with⟨b1,b2⟩|⟨b1,b2⟩|⟨b1,b2⟩<;>omega
   ·refine .inl ⟨fun j' h=>?_,.inr ⟨hjl,?_,?_⟩⟩
    ·split at h
     ·injection h with h;exact hji h.symm
     ·cases h
    ·rw[← hk j hjl hji];exact hc
    ·rw[List.getElem?_set_ne (fun h=>hji h.symm),← hk j hjl hji];exact hc
  ·cases hj
theorem mem_fold{f:AFun Ob} {step:MemSt→List AV→Option (AV × MemSt)} (h:∀ (m:MM) (i:Nat) (rest:List AV) (s s':MemSt) (v:AV),i < m.length→step s rest=some (v,s')→AV.ren no v=some v ∧
  ∃ mh k1 k2,f (.ptr i 0 :: rest) (m.set i (plM (.mem s) i m.length).1++(plM (.mem s) i m.length).2)=some (v,mh)∧m.length≤mh.length∧(∀ j,j < m.length→j≠i→mh[j]?=m[j]?)∧m.length≤k1∧m.length≤k2∧k1≠k2∧MemAt mh i k1 k2 s') :
  Fold concM (unf 0 plM f) (memF step):=by
 intro args m v m' hg
 unfold memF at hg
 split at hg
 case h_2=>cases hg
 rename_i i rest
 split at hg
 case h_2=>cases hg
 rename_i s hs
 split at hg
 case h_2=>cases hg
 rename_i v0 s' hst
 simp only[Option.some.injEq,Prod.mk.injEq] at hg
 obtain⟨rfl,rfl⟩:=hg
 have hi:i < m.length:=(List.getElem?_eq_some_iff.1 hs).1
 obtain⟨hv,mh,k1,k2,h1,h2,h3,h4,h5,h6,h7⟩:=h m i rest s s' v0 hi hst
 exact fold_mem hi (by simp only[unf,List.getElem?_cons_zero,hs];exact h1) hv h2 h3 h4 h5 h6 h7
def rhoN(n q:Nat):Nat→Option Nat:=fun j=>if j < n then some j else if j=q then some n else none
theorem fold_memN{f:AFun Ob} {args:List AV} {m mh:MM} {i k1 k2 q:Nat} {v0 v:AV} {s':MemSt} {sz:Nat} {ro:Bool} {L:List AV} (hi:i < m.length) (hrun:f args m=some (v0,mh)) (hv:AV.ren (rhoN m.length q) v0=some v) (hq:m.length≤q) (hq1:q≠k1) (hq2:q≠k2) (hqc:mh[q]?=some (.cells sz ro L)) (hL:∀ ρ,AV.renL ρ L=some L)
  (hk:∀ j,j < m.length→j≠i→mh[j]?=m[j]?) (h1:m.length≤k1) (h2:m.length≤k2) (h12:k1≠k2) (hat:MemAt mh i k1 k2 s'):∃ ρ γ v0 m0,FoldAt concM f ρ γ v0 m0 args m v (m.set i (.abs (.mem s'))++[.cells sz ro L]):=by
 let θ:Nat→Option Nat:=fun l=>if l=0 then some i else if l=1∧s'.cells≠[] then some k1 else if l=2∧s'.log≠[] then some k2 else none
 have key:∀ j x,rhoN m.length q j=some x→(j < m.length∧x=j)∨(j=q∧x=m.length):=by
  intro j x hj
  unfold rhoN at hj
  split at hj
  ·rename_i h;injection hj with hj;exact .inl ⟨h,hj.symm⟩
  ·split at hj
   ·rename_i h;injection hj with hj;exact .inr ⟨h,hj.symm⟩
   ·cases hj
 refine⟨rhoN m.length q,fun j=>if j=k1∨j=k2 then some i else none,v0,mh,hrun,hv,by simp,fun j hj=>if_pos hj,fun j x hj hle=>?_,fun j j' x ha hb=>?_,fun j x hj=>?_,fun j x c hj hc=>?_⟩
 ·rcases key j x hj with⟨h,_⟩|⟨_,rfl⟩
  ·omega
  ·simp
 ·rcases key j x ha with⟨a1,a2⟩|⟨a1,a2⟩<;>rcases key j' x hb with⟨b1,b2⟩|⟨b1,b2⟩<;>omega
 ·split at hj
  ·unfold rhoN;rw[if_neg (by omega),if_neg (by omega)]
  ·cases hj
 ·rcases key j x hj with⟨hjl,rfl⟩|⟨rfl,rfl⟩
  ·have hgl:∀ c,(m.set i (.abs (.mem s'))++[Chunk.cells sz ro L])[x]?=some c ↔ (m.set i (.abs (.mem s')))[x]?=some c:=fun c=>by rw[List.getElem?_append_left (by simpa using hjl)]
   simp only[hgl]
   by_cases hji:x=i
   ·subst hji
    refine .inr ⟨.mem s',θ,by rw[List.getElem?_set_self hi],?_,rfl,fun l k hl=>?_,fun l k c' hl hc'=>?_,fun l k hl h0=>?_,fun l l' k ha hb=>?_⟩
    ·intro c hc
     simp only[concM,List.mem_cons,List.not_mem_nil,or_false] at hc
     rcases hc with rfl|rfl|rfl<;>exact .inl ⟨_,_,rfl⟩
    ·simp only[θ] at hl
     show l < 3
     split at hl
     ·omega
     ·split at hl
      ·omega
      ·split at hl
       ·omega
       ·cases hl
    ·match l,hc' with
     | 0,hc' =>
      simp only[concM,List.getElem?_cons_zero,Option.some.injEq] at hc'
      subst hc'
      have hk0:k=x:=by simp only[θ,if_true] at hl;injection hl with hl;exact hl.symm
      subst hk0
      obtain⟨cv,hr,hcv⟩:=hat.root
      refine⟨.cells 8 false (rootL s' (lvA k2 s') cv),⟨rootL s' (lvA k2 s') cv,rfl,rfl,?_⟩,hr⟩
      have hlv:AV.ren θ (lvA 2 s')=some (lvA k2 s'):=by
       unfold lvA
       split
       ·rfl
       ·rename_i hne;simp[AV.ren,θ,hne]
      have hcv':GrA θ (cvA 0 1 s') cv:=by
       rcases hcv with rfl|⟨h0,q,o,rfl⟩
       ·left
        unfold cvA
        split
        ·simp[AV.ren,θ]
        ·rename_i hne;simp[AV.ren,θ,hne]
       ·right
        exact⟨by simp[cvA,h0],q,o,rfl⟩
      intro o a b ha hb
      match o,ha,hb with
      | 0,ha,hb|1,ha,hb|2,ha,hb|3,ha,hb|4,ha,hb|5,ha,hb =>
       simp only[rootL,List.getElem?_cons_succ,List.getElem?_cons_zero,Option.some.injEq] at ha hb
       subst ha;subst hb;exact .inl rfl
      | 6,ha,hb =>
       simp only[rootL,List.getElem?_cons_succ,List.getElem?_cons_zero,Option.some.injEq] at ha hb
       subst ha;subst hb;exact .inl hlv
      | 7,ha,hb =>
       simp only[rootL,List.getElem?_cons_succ,List.getElem?_cons_zero,Option.some.injEq] at ha hb
       subst ha;subst hb;exact hcv'
      | o+8,ha,hb=>simp[rootL] at ha
     | 1,hc' =>
      simp only[concM,List.getElem?_cons_succ,List.getElem?_cons_zero,Option.some.injEq] at hc'
      subst hc'
      have hne:s'.cells≠[]:=fun h=>by simp[θ,h] at hl
      have hk0:k=k1:=by simp[θ,hne] at hl;exact hl.symm
      subst hk0
      exact⟨_,grC_of (by simp only[renC,uC,renL_map (f:=AV.int .u64) (fun _=>rfl)]) (fun x h=>by cases h),hat.cells hne⟩
     | 2,hc' =>
      simp only[concM,List.getElem?_cons_succ,List.getElem?_cons_zero,Option.some.injEq] at hc'
      subst hc'
      have hne:s'.log≠[]:=fun h=>by simp[θ,h] at hl
      have hk0:k=k2:=by simp[θ,hne] at hl;exact hl.symm
      subst hk0
      exact⟨_,grC_of (by simp only[renC,renL_accs]) (fun x h=>by cases h),hat.log hne⟩
     | l+3,hc'=>simp[concM] at hc'
    ·simp only[θ] at hl
     rw[if_neg h0] at hl
     split at hl
     ·injection hl with hl;subst hl;simp
     ·split at hl
      ·injection hl with hl;subst hl;simp
      ·cases hl
    ·have key2:∀ l,θ l=some k→(l=0∧k=x)∨(l=1∧k=k1)∨(l=2∧k=k2):=by
      intro l hl
      simp only[θ] at hl
      split at hl
      ·rename_i h0;injection hl with hl;exact .inl ⟨h0,hl.symm⟩
      ·split at hl
       ·rename_i h0;injection hl with hl;exact .inr (.inl ⟨h0.1,hl.symm⟩)
       ·split at hl
        ·rename_i h0;injection hl with hl;exact .inr (.inr ⟨h0.1,hl.symm⟩)
        ·cases hl
     rcases key2 l ha with⟨a1,a2⟩|⟨a1,a2⟩|⟨a1,a2⟩<;>rcases key2 l' hb with⟨b1,b2⟩|⟨b1,b2⟩|⟨b1,b2⟩<;>omega
   ·refine .inl ⟨fun j' h=>?_,.inr ⟨hjl,?_,?_⟩⟩
    ·split at h
     ·injection h with h;exact hji h.symm
     ·cases h
    ·rw[← hk x hjl hji];exact hc
    ·rw[List.getElem?_set_ne (fun h=>hji h.symm),← hk x hjl hji];exact hc
  ·refine .inl ⟨fun j' h=>?_,.inl ⟨.cells sz ro L,?_,by simp⟩⟩
   ·split at h
    ·injection h with h;omega
    ·cases h
   ·rw[hqc] at hc;injection hc with hc;subst hc
    simp only[renC,hL]
theorem fold_new{f:AFun Ob} {args:List AV} {m mh:MM} {k1 k2 q:Nat} {v0 v:AV} {s':MemSt} (hrun:f args m=some (v0,mh)) (hv:AV.ren (rhoN m.length q) v0=some v) (hq:m.length≤q) (hq1:q≠k1) (hq2:q≠k2)
  (hk:∀ j,j < m.length→mh[j]?=m[j]?) (h1:m.length≤k1) (h2:m.length≤k2) (h12:k1≠k2) (hat:MemAt mh q k1 k2 s'):∃ ρ γ v0 m0,FoldAt concM f ρ γ v0 m0 args m v (m++[.abs (.mem s')]):=by
 let θ:Nat→Option Nat:=fun l=>if l=0 then some q else if l=1∧s'.cells≠[] then some k1 else if l=2∧s'.log≠[] then some k2 else none
 have key:∀ j x,rhoN m.length q j=some x→(j < m.length∧x=j)∨(j=q∧x=m.length):=by
  intro j x hj
  unfold rhoN at hj
  split at hj
  ·rename_i h;injection hj with hj;exact .inl ⟨h,hj.symm⟩
  ·split at hj
   ·rename_i h;injection hj with hj;exact .inr ⟨h,hj.symm⟩
   ·cases hj
 refine⟨rhoN m.length q,fun j=>if j=k1∨j=k2 then some m.length else none,v0,mh,hrun,hv,by simp,fun j hj=>if_pos hj,fun j x hj hle=>?_,fun j j' x ha hb=>?_,fun j x hj=>?_,fun j x c hj hc=>?_⟩
 ·rcases key j x hj with⟨h,_⟩|⟨_,h⟩
  ·omega
  ·rw[h];simp
 ·rcases key j x ha with⟨a1,a2⟩|⟨a1,a2⟩<;>rcases key j' x hb with⟨b1,b2⟩|⟨b1,b2⟩<;>omega
 ·split at hj
  ·unfold rhoN;rw[if_neg (by omega),if_neg (by omega)]
  ·cases hj
 ·rcases key j x hj with⟨hjl,hx⟩|⟨hjq,hx⟩
  ·subst hx
   refine .inl ⟨fun j' h=>?_,.inr ⟨hjl,by rw[← hk _ hjl];exact hc,by rw[List.getElem?_append_left hjl,← hk _ hjl];exact hc⟩⟩
   split at h
   ·injection h with h;omega
   ·cases h
  ·subst hjq;subst hx
   refine .inr ⟨.mem s',θ,by simp,?_,rfl,fun l k hl=>?_,fun l k c' hl hc'=>?_,fun l k hl h0=>?_,fun l l' k ha hb=>?_⟩
   ·intro c hc
    simp only[concM,List.mem_cons,List.not_mem_nil,or_false] at hc
    rcases hc with rfl|rfl|rfl<;>exact .inl ⟨_,_,rfl⟩
   ·simp only[θ] at hl
    show l < 3
    split at hl
    ·omega
    ·split at hl
     ·omega
     ·split at hl
      ·omega
      ·cases hl
   ·match l,hc' with
    | 0,hc' =>
     simp only[concM,List.getElem?_cons_zero,Option.some.injEq] at hc'
     subst hc'
     have hk0:k=j:=by simp only[θ,if_true] at hl;injection hl with hl;exact hl.symm
     subst hk0
     obtain⟨cv,hr,hcv⟩:=hat.root
     refine⟨.cells 8 false (rootL s' (lvA k2 s') cv),⟨rootL s' (lvA k2 s') cv,rfl,rfl,?_⟩,hr⟩
     have hlv:AV.ren θ (lvA 2 s')=some (lvA k2 s'):=by
      unfold lvA
      split
      ·rfl
      ·rename_i hne;simp[AV.ren,θ,hne]
     have hcv':GrA θ (cvA 0 1 s') cv:=by
      rcases hcv with rfl|⟨h0,q,o,rfl⟩
      ·left
       unfold cvA
       split
       ·simp[AV.ren,θ]
       ·rename_i hne;simp[AV.ren,θ,hne]
      ·right
       exact⟨by simp[cvA,h0],q,o,rfl⟩
     intro o a b ha hb
     match o,ha,hb with
     | 0,ha,hb|1,ha,hb|2,ha,hb|3,ha,hb|4,ha,hb|5,ha,hb =>
      simp only[rootL,List.getElem?_cons_succ,List.getElem?_cons_zero,Option.some.injEq] at ha hb
      subst ha;subst hb;exact .inl rfl
     | 6,ha,hb =>
      simp only[rootL,List.getElem?_cons_succ,List.getElem?_cons_zero,Option.some.injEq] at ha hb
      subst ha;subst hb;exact .inl hlv
     | 7,ha,hb =>
      simp only[rootL,List.getElem?_cons_succ,List.getElem?_cons_zero,Option.some.injEq] at ha hb
      subst ha;subst hb;exact hcv'
     | o+8,ha,hb=>simp[rootL] at ha
    | 1,hc' =>
     simp only[concM,List.getElem?_cons_succ,List.getElem?_cons_zero,Option.some.injEq] at hc'
     subst hc'
     have hne:s'.cells≠[]:=fun h=>by simp[θ,h] at hl
     have hk0:k=k1:=by simp[θ,hne] at hl;exact hl.symm
     subst hk0
     exact⟨_,grC_of (by simp only[renC,uC,renL_map (f:=AV.int .u64) (fun _=>rfl)]) (fun x h=>by cases h),hat.cells hne⟩
    | 2,hc' =>
     simp only[concM,List.getElem?_cons_succ,List.getElem?_cons_zero,Option.some.injEq] at hc'
     subst hc'
     have hne:s'.log≠[]:=fun h=>by simp[θ,h] at hl
     have hk0:k=k2:=by simp[θ,hne] at hl;exact hl.symm
     subst hk0
     exact⟨_,grC_of (by simp only[renC,renL_accs]) (fun x h=>by cases h),hat.log hne⟩
    | l+3,hc'=>simp[concM] at hc'
   ·simp only[θ] at hl
    rw[if_neg h0] at hl
    split at hl
    ·injection hl with hl;subst hl;simp
    ·split at hl
     ·injection hl with hl;subst hl;simp
     ·cases hl
   ·have key2:∀ l,θ l=some k→(l=0∧k=j)∨(l=1∧k=k1)∨(l=2∧k=k2):=by
     intro l hl
     simp only[θ] at hl
     split at hl
     ·rename_i h0;injection hl with hl;exact .inl ⟨h0,hl.symm⟩
     ·split at hl
      ·rename_i h0;injection hl with hl;exact .inr (.inl ⟨h0.1,hl.symm⟩)
      ·split at hl
       ·rename_i h0;injection hl with hl;exact .inr (.inr ⟨h0.1,hl.symm⟩)
       ·cases hl
    rcases key2 l ha with⟨a1,a2⟩|⟨a1,a2⟩|⟨a1,a2⟩<;>rcases key2 l' hb with⟨b1,b2⟩|⟨b1,b2⟩|⟨b1,b2⟩<;>omega
end Go.Am
end
section
namespace Go.Am.F06
set_option maxRecDepth 10000
def cell_New:AFn:={ nloc:=2,npar:=1,res:=[.loc 1],body:=(.seq (.region [⟨.mov,[.c (.nilp)],some 1,none⟩]) (.seq (.region [⟨.mov,[.loc 0],none,none⟩,⟨.min,[.tmp 0,.c (.int .i64 65536)],none,none⟩,⟨.max,[.c (.int .i64 0),.tmp 1],none,none⟩,⟨.make 1 8 [.int .u64 0],[.tmp 2,.tmp 2],none,none⟩,
 ⟨.build [.int .u64 0,.int .u64 0,.int .u64 0,.int .u64 0,.int .u64 0,.int .u64 0,.nils,.nils] [(7,1)],[.tmp 3],none,none⟩,⟨.box,[.tmp 4],none,none⟩,⟨.mov,[.tmp 5],some 1,none⟩]) .ret))}
def cell_Mem_Store:AFn:={ nloc:=4,npar:=3,res:=[],body:=(.seq (.region [⟨.box,[.loc 2],some 3,none⟩]) (.region [⟨.mov,[.loc 0],none,none⟩,⟨.mov,[.loc 1],none,none⟩,⟨.mkfn 49 0,[.loc 3],none,none⟩,⟨.call 50,[.tmp 0,.c (.int .i64 2),.tmp 1,.tmp 2],none,none⟩]))}
def cell_Mem_CAS:AFn:={ nloc:=8,npar:=4,res:=[.loc 6],body:=(.seq (.region [⟨.box,[.loc 2],some 4,none⟩,⟨.box,[.loc 3],some 5,none⟩,⟨.mov,[.c (.bool false)],some 6,none⟩]) (.seq (.region [⟨.mov,[.loc 0],none,none⟩,⟨.mov,[.loc 1],none,none⟩,⟨.mkfn 51 0,[.loc 4,.loc 5],none,none⟩,
 ⟨.call 50,[.tmp 0,.c (.int .i64 3),.tmp 1,.tmp 2],none,none⟩,⟨.mov,[.tmp 3],none,none⟩,⟨.extract 0,[.tmp 4],none,none⟩,⟨.extract 1,[.tmp 4],none,none⟩,⟨.mov,[.tmp 5],none,none⟩,⟨.mov,[.tmp 6],some 7,none⟩]) (.seq (.region [⟨.mov,[.loc 7],none,none⟩,⟨.mov,[.tmp 0],some 6,none⟩]) .ret)))}
def cell_Mem_Load:AFn:={ nloc:=4,npar:=2,res:=[.loc 2],body:=(.seq (.region [⟨.mov,[.c (.int .u64 0)],some 2,none⟩]) (.seq (.region [⟨.mov,[.loc 0],none,none⟩,⟨.mov,[.loc 1],none,none⟩,⟨.call 50,[.tmp 0,.c (.int .i64 1),.tmp 1,.c (.fn 52 [] [])],none,none⟩,⟨.mov,[.tmp 2],none,none⟩,⟨.extract 0,[.tmp 3],none,none⟩,
 ⟨.extract 1,[.tmp 3],none,none⟩,⟨.mov,[.tmp 4],some 3,none⟩,⟨.mov,[.tmp 5],none,none⟩]) (.seq (.region [⟨.mov,[.loc 3],none,none⟩,⟨.mov,[.tmp 0],some 2,none⟩]) .ret)))}
def cell_Mem_Len:AFn:={ nloc:=3,npar:=1,res:=[.loc 1],body:=(.seq (.region [⟨.mov,[.c (.int .i64 0)],some 1,none⟩]) (.seq (.seq (.region [⟨.mov,[.loc 0],none,none⟩,⟨.eqv .ptr false,[.tmp 0,.c (.nilp)],some 2,none⟩]) (.cond (.loc 2) (.seq (.region [
 ⟨.mov,[.c (.int .i64 0)],some 1,none⟩]) .ret) .skip)) (.seq (.region [⟨.mov,[.loc 0],none,none⟩,⟨.nilc,[.tmp 0],none,none⟩,⟨.faddr 7,[.tmp 1],none,none⟩,⟨.load none,[.tmp 2],none,none⟩,⟨.len,[.tmp 3],none,none⟩,⟨.mov,[.tmp 4],some 1,none⟩]) .ret)))}
def cell_Mem_Ops:AFn:={ nloc:=3,npar:=1,res:=[.loc 1],body:=(.seq (.region [⟨.mov,[.c (.int .u64 0)],some 1,none⟩]) (.seq (.seq (.region [⟨.mov,[.loc 0],none,none⟩,⟨.eqv .ptr false,[.tmp 0,.c (.nilp)],some 2,none⟩]) (.cond (.loc 2) (.seq (.region [
 ⟨.mov,[.c (.int .u64 0)],some 1,none⟩]) .ret) .skip)) (.seq (.region [⟨.mov,[.loc 0],none,none⟩,⟨.nilc,[.tmp 0],none,none⟩,⟨.faddr 0,[.tmp 1],none,none⟩,⟨.faddr 0,[.tmp 2],none,none⟩,⟨.load none,[.tmp 3],none,none⟩,⟨.mov,[.tmp 4],some 1,none⟩]) .ret)))}
def cell_Mem_All:AFn:={ nloc:=3,npar:=1,res:=[.loc 1],body:=(.seq (.region [⟨.mov,[.c (.nils)],some 1,none⟩]) (.seq (.seq (.region [⟨.mov,[.loc 0],none,none⟩,⟨.eqv .ptr false,[.tmp 0,.c (.nilp)],some 2,none⟩]) (.cond (.loc 2) (.seq (.region [⟨.mov,[.c (.nils)],some 1,none⟩]) .ret) .skip)) (.seq (.region [
 ⟨.mov,[.loc 0],none,none⟩,⟨.nilc,[.tmp 0],none,none⟩,⟨.faddr 7,[.tmp 1],none,none⟩,⟨.load none,[.tmp 2],none,none⟩,⟨.call 61,[.tmp 3],none,none⟩,⟨.mov,[.tmp 4],some 1,none⟩]) .ret)))}
def cell_Mem_access:AFn:={ nloc:=8,npar:=4,res:=[.loc 4,.loc 5],body:=(.seq (.region [⟨.mov,[.c (.int .u64 0)],some 4,none⟩,⟨.mov,[.c (.bool false)],some 5,none⟩]) (.seq (.seq (.region [⟨.mov,[.loc 0],none,none⟩,⟨.mov,[.loc 2],none,none⟩,⟨.call 56,[.tmp 0,.tmp 1],none,none⟩,
 ⟨.not,[.tmp 2],some 7,none⟩]) (.cond (.loc 7) (.seq (.region [⟨.mov,[.c (.int .u64 0)],some 4,none⟩,⟨.mov,[.c (.bool false)],some 5,none⟩]) .ret) .skip)) (.seq (.region [⟨.mov,[.loc 0],none,none⟩,⟨.nilc,[.tmp 0],none,none⟩,⟨.faddr 7,[.tmp 1],none,none⟩,⟨.load none,[.tmp 2],none,none⟩,
 ⟨.mov,[.loc 2],none,none⟩,⟨.iaddr 1 none,[.tmp 3,.tmp 4],none,none⟩,⟨.load none,[.tmp 5],none,none⟩,⟨.mov,[.tmp 6],some 4,none⟩]) (.seq (.region [⟨.mov,[.loc 3],none,none⟩,⟨.mov,[.loc 4],none,none⟩,⟨.callv,[.tmp 0,.tmp 1],none,none⟩,⟨.mov,[.tmp 2],none,none⟩,⟨.extract 0,[.tmp 3],none,none⟩,
 ⟨.extract 1,[.tmp 3],none,none⟩,⟨.mov,[.tmp 4],some 6,none⟩,⟨.mov,[.tmp 5],some 5,none⟩]) (.seq (.region [⟨.mov,[.loc 0],none,none⟩,⟨.nilc,[.tmp 0],none,none⟩,⟨.faddr 7,[.tmp 1],none,none⟩,⟨.load none,[.tmp 2],none,none⟩,⟨.mov,[.loc 2],none,none⟩,⟨.mov,[.loc 6],none,none⟩,
 ⟨.iaddr 1 none,[.tmp 3,.tmp 4],none,none⟩,⟨.store 1,[.tmp 6,.tmp 5],none,none⟩]) (.seq (.region [⟨.mov,[.loc 0],none,none⟩,⟨.nilc,[.tmp 0],none,none⟩,⟨.faddr 0,[.tmp 1],none,none⟩,⟨.mov,[.loc 1],none,none⟩,⟨.mov,[.loc 2],none,none⟩,⟨.mov,[.loc 4],none,none⟩,⟨.mov,[.loc 6],none,none⟩,
 ⟨.build [.int .i64 0,.int .i64 0,.int .u64 0,.int .u64 0] [(0,1),(1,1),(2,1),(3,1)],[.tmp 3,.tmp 4,.tmp 5,.tmp 6],none,none⟩,⟨.mov,[.loc 5],none,none⟩,⟨.call 71,[.tmp 2,.tmp 7,.tmp 8],none,none⟩]) (.seq (.region [⟨.mov,[.loc 4],none,none⟩,⟨.mov,[.loc 5],none,none⟩,⟨.mov,[.tmp 0],some 4,none⟩,
 ⟨.mov,[.tmp 1],some 5,none⟩]) .ret)))))))}
def cell_Mem_Store_1:AFn:={ nloc:=4,npar:=2,res:=[.loc 2,.loc 3],body:=(.seq (.region [⟨.mov,[.c (.int .u64 0)],some 2,none⟩,⟨.mov,[.c (.bool false)],some 3,none⟩]) (.seq (.region [⟨.load none,[.loc 1],none,none⟩,⟨.mov,[.tmp 0],some 2,none⟩,⟨.mov,[.c (.bool true)],some 3,none⟩]) .ret))}
def cell_Mem_CAS_1:AFn:={ nloc:=6,npar:=3,res:=[.loc 3,.loc 4],body:=(.seq (.region [⟨.mov,[.c (.int .u64 0)],some 3,none⟩,⟨.mov,[.c (.bool false)],some 4,none⟩]) (.seq (.seq (.region [⟨.mov,[.loc 0],none,none⟩,⟨.load none,[.loc 1],none,none⟩,
 ⟨.bin .neq,[.tmp 0,.tmp 1],some 5,none⟩]) (.cond (.loc 5) (.seq (.region [⟨.mov,[.loc 0],none,none⟩,⟨.mov,[.tmp 0],some 3,none⟩,⟨.mov,[.c (.bool false)],some 4,none⟩]) .ret) .skip)) (.seq (.region [⟨.load none,[.loc 2],none,none⟩,⟨.mov,[.tmp 0],some 3,none⟩,
 ⟨.mov,[.c (.bool true)],some 4,none⟩]) .ret)))}
def cell_Mem_Load_1:AFn:={ nloc:=3,npar:=1,res:=[.loc 1,.loc 2],body:=(.seq (.region [⟨.mov,[.c (.int .u64 0)],some 1,none⟩,⟨.mov,[.c (.bool false)],some 2,none⟩]) (.seq (.region [⟨.mov,[.loc 0],none,none⟩,⟨.mov,[.tmp 0],some 1,none⟩,⟨.mov,[.c (.bool true)],some 2,none⟩]) .ret))}
def cell_Mem_there:AFn:={ nloc:=3,npar:=2,res:=[.loc 2],body:=(.seq (.region [⟨.mov,[.c (.bool false)],some 2,none⟩]) (.seq (.region [⟨.mov,[.loc 0],none,none⟩,⟨.eqv .ptr true,[.tmp 0,.c (.nilp)],none,none⟩,⟨.mov,[.tmp 1],none,none⟩,⟨.mov,[.loc 1],none,some (2,true)⟩,
 ⟨.bin .geq,[.tmp 3,.c (.int .i64 0)],none,some (2,true)⟩,⟨.pick,[.tmp 2,.tmp 4,.c (.bool false)],none,none⟩,⟨.mov,[.tmp 5],none,none⟩,⟨.mov,[.loc 1],none,some (6,true)⟩,⟨.mov,[.loc 0],none,some (6,true)⟩,⟨.nilc,[.tmp 8],none,some (6,true)⟩,⟨.faddr 7,[.tmp 9],none,some (6,true)⟩,
 ⟨.load none,[.tmp 10],none,some (6,true)⟩,⟨.len,[.tmp 11],none,some (6,true)⟩,⟨.bin .lss,[.tmp 7,.tmp 12],none,some (6,true)⟩,⟨.pick,[.tmp 6,.tmp 13,.c (.bool false)],none,none⟩,⟨.mov,[.tmp 14],some 2,none⟩]) .ret))}
def docs_SameCells:AFn:={ nloc:=7,npar:=2,res:=[.loc 2],body:=(.seq (.region [⟨.mov,[.c (.bool false)],some 2,none⟩]) (.seq (.seq (.region [⟨.mov,[.loc 0],none,none⟩,⟨.len,[.tmp 0],none,none⟩,⟨.mov,[.loc 1],none,none⟩,⟨.len,[.tmp 2],none,none⟩,
 ⟨.bin .neq,[.tmp 1,.tmp 3],some 4,none⟩]) (.cond (.loc 4) (.seq (.region [⟨.mov,[.c (.bool false)],some 2,none⟩]) .ret) .skip)) (.seq (.seq (.region [⟨.mov,[.c (.int .i64 0)],some 3,none⟩]) (.block 0 (.loop (.seq (.seq (.region [⟨.mov,[.loc 3],none,none⟩,⟨.mov,[.loc 0],none,none⟩,
 ⟨.len,[.tmp 1],none,none⟩,⟨.bin .lss,[.tmp 0,.tmp 2],some 5,none⟩]) (.cond (.loc 5) .skip (.exit 0))) (.seq (.block 1 (.seq (.seq (.region [⟨.mov,[.loc 0],none,none⟩,⟨.mov,[.loc 3],none,none⟩,⟨.iaddr 1 none,[.tmp 0,.tmp 1],none,none⟩,⟨.load none,[.tmp 2],none,none⟩,⟨.mov,[.loc 1],none,none⟩,
 ⟨.mov,[.loc 3],none,none⟩,⟨.iaddr 1 none,[.tmp 4,.tmp 5],none,none⟩,⟨.load none,[.tmp 6],none,none⟩,⟨.bin .neq,[.tmp 3,.tmp 7],some 6,none⟩]) (.cond (.loc 6) (.seq (.region [⟨.mov,[.c (.bool false)],some 2,none⟩]) .ret) .skip)) (.region [⟨.mov,[.loc 0],none,none⟩,⟨.mov,[.loc 3],none,none⟩,
 ⟨.mov,[.loc 0],none,none⟩,⟨.mov,[.loc 3],none,none⟩,⟨.iaddr 1 none,[.tmp 2,.tmp 3],none,none⟩,⟨.load none,[.tmp 4],none,none⟩,⟨.bin .add,[.tmp 5,.c (.int .u64 77)],none,none⟩,⟨.iaddr 1 none,[.tmp 0,.tmp 1],none,none⟩,⟨.store 1,[.tmp 7,.tmp 6],none,none⟩]))) (.region [⟨.mov,[.loc 3],none,none⟩,
 ⟨.bin .add,[.tmp 0,.c (.int .i64 1)],none,none⟩,⟨.mov,[.tmp 1],some 3,none⟩])))))) (.seq (.region [⟨.mov,[.c (.bool true)],some 2,none⟩]) .ret))))}
def slices_Clone_uint64:AFn:={ nloc:=3,npar:=1,res:=[.loc 1],body:=(.seq (.region [⟨.mov,[.c (.nils)],some 1,none⟩]) (.seq (.seq (.region [⟨.mov,[.loc 0],none,none⟩,⟨.eqv .slc false,[.tmp 0,.c (.nils)],some 2,none⟩]) (.cond (.loc 2) (.seq (.region [⟨.mov,[.c (.nils)],some 1,none⟩]) .ret) .skip)) (.seq (.region [
 ⟨.lit 0 1 [.int .u64 0] [],[],none,none⟩,⟨.mov,[.loc 0],none,none⟩,⟨.append 1 8,[.tmp 0,.tmp 1],none,none⟩,⟨.mov,[.tmp 2],some 1,none⟩]) .ret)))}
def ref06_New:AFn:={ nloc:=2,npar:=1,res:=[.cell 1 (some 2)],body:=(.seq (.region [⟨.alloc [.nils,.int .u64 0],[],some 1,none⟩]) (.seq (.region [⟨.mov,[.loc 0],none,none⟩,⟨.min,[.tmp 0,.c (.int .i64 65536)],none,none⟩,⟨.max,[.c (.int .i64 0),.tmp 1],none,none⟩,
 ⟨.make 1 8 [.int .u64 0],[.tmp 2,.tmp 2],none,none⟩,⟨.build [.nils,.int .u64 0] [(0,1)],[.tmp 3],none,none⟩,⟨.store 2,[.loc 1,.tmp 4],none,none⟩]) .ret))}
def ref06_Load:AFn:={ nloc:=6,npar:=2,res:=[.cell 3 (some 2),.loc 4],body:=(.seq (.region [⟨.box,[.loc 0],some 2,none⟩,⟨.alloc [.nils,.int .u64 0],[],some 3,none⟩,⟨.mov,[.c (.int .u64 0)],some 4,none⟩]) (.seq (.seq (.region [⟨.load (some 2),[.loc 2],none,none⟩,⟨.mov,[.loc 1],none,none⟩,
 ⟨.call 72,[.tmp 0,.tmp 1],none,none⟩,⟨.not,[.tmp 2],some 5,none⟩]) (.cond (.loc 5) (.seq (.region [⟨.load (some 2),[.loc 2],none,none⟩,⟨.store 2,[.loc 3,.tmp 0],none,none⟩,⟨.mov,[.c (.int .u64 0)],some 4,none⟩]) .ret) .skip)) (.seq (.draw [0,1,2,3,4,5,6,7,8,9,10,11,12] 0 [
 ⟨.faddr 0,[.loc 2],none,none⟩,⟨.load none,[.tmp 0],none,none⟩,⟨.faddr 1,[.loc 2],none,none⟩,⟨.load none,[.tmp 2],none,none⟩,⟨.bin .add,[.tmp 3,.c (.int .u64 1)],none,none⟩,⟨.build [.nils,.int .u64 0] [(0,1),(1,1)],[.tmp 1,.tmp 4],none,none⟩,⟨.faddr 0,[.loc 2],none,none⟩,
 ⟨.load none,[.tmp 6],none,none⟩,⟨.mov,[.loc 1],none,none⟩,⟨.iaddr 1 none,[.tmp 7,.tmp 8],none,none⟩,⟨.load none,[.tmp 9],none,none⟩,⟨.store 2,[.loc 3,.tmp 5],none,none⟩,⟨.mov,[.tmp 10],some 4,none⟩] [(7,[12]),(10,[12])]) .ret)))}
def ref06_Store:AFn:={ nloc:=6,npar:=3,res:=[.cell 4 (some 2)],body:=(.seq (.region [⟨.box,[.loc 0],some 3,none⟩,⟨.alloc [.nils,.int .u64 0],[],some 4,none⟩]) (.seq (.seq (.region [⟨.load (some 2),[.loc 3],none,none⟩,⟨.mov,[.loc 1],none,none⟩,⟨.call 72,[.tmp 0,.tmp 1],none,none⟩,
 ⟨.not,[.tmp 2],some 5,none⟩]) (.cond (.loc 5) (.seq (.region [⟨.load (some 2),[.loc 3],none,none⟩,⟨.store 2,[.loc 4,.tmp 0],none,none⟩]) .ret) .skip)) (.seq (.region [⟨.load (some 2),[.loc 3],none,none⟩,⟨.mov,[.loc 1],none,none⟩,⟨.mov,[.loc 2],none,none⟩,⟨.call 73,[.tmp 0,.tmp 1,.tmp 2],none,none⟩,
 ⟨.store 2,[.loc 4,.tmp 3],none,none⟩]) .ret)))}
def ref06_CAS:AFn:={ nloc:=9,npar:=4,res:=[.cell 5 (some 2),.loc 6],body:=(.seq (.region [⟨.box,[.loc 0],some 4,none⟩,⟨.alloc [.nils,.int .u64 0],[],some 5,none⟩,⟨.mov,[.c (.bool false)],some 6,none⟩]) (.seq (.seq (.region [⟨.load (some 2),[.loc 4],none,none⟩,⟨.mov,[.loc 1],none,none⟩,
 ⟨.call 72,[.tmp 0,.tmp 1],none,none⟩,⟨.not,[.tmp 2],some 7,none⟩]) (.cond (.loc 7) (.seq (.region [⟨.load (some 2),[.loc 4],none,none⟩,⟨.store 2,[.loc 5,.tmp 0],none,none⟩,⟨.mov,[.c (.bool false)],some 6,none⟩]) .ret) .skip)) (.seq (.seq (.region [⟨.faddr 0,[.loc 4],none,none⟩,
 ⟨.load none,[.tmp 0],none,none⟩,⟨.mov,[.loc 1],none,none⟩,⟨.iaddr 1 none,[.tmp 1,.tmp 2],none,none⟩,⟨.load none,[.tmp 3],none,none⟩,⟨.mov,[.loc 2],none,none⟩,⟨.bin .neq,[.tmp 4,.tmp 5],some 8,none⟩]) (.cond (.loc 8) (.seq (.region [⟨.faddr 0,[.loc 4],none,none⟩,⟨.load none,[.tmp 0],none,none⟩,
 ⟨.faddr 1,[.loc 4],none,none⟩,⟨.load none,[.tmp 2],none,none⟩,⟨.bin .add,[.tmp 3,.c (.int .u64 1)],none,none⟩,⟨.build [.nils,.int .u64 0] [(0,1),(1,1)],[.tmp 1,.tmp 4],none,none⟩,⟨.store 2,[.loc 5,.tmp 5],none,none⟩,⟨.mov,[.c (.bool false)],some 6,none⟩]) .ret) .skip)) (.seq (.region [
 ⟨.load (some 2),[.loc 4],none,none⟩,⟨.mov,[.loc 1],none,none⟩,⟨.mov,[.loc 3],none,none⟩,⟨.call 73,[.tmp 0,.tmp 1,.tmp 2],none,none⟩,⟨.store 2,[.loc 5,.tmp 3],none,none⟩,⟨.mov,[.c (.bool true)],some 6,none⟩]) .ret))))}
def cell_counts_note:AFn:={ nloc:=9,npar:=3,res:=[],body:=(.seq (.region [⟨.box,[.loc 1],some 3,none⟩]) (.seq (.region [⟨.mov,[.loc 0],none,none⟩,⟨.nilc,[.tmp 0],none,none⟩,⟨.faddr 0,[.tmp 1],none,none⟩,⟨.load none,[.tmp 2],none,none⟩,⟨.bin .add,[.tmp 3,.c (.int .u64 1)],none,none⟩,⟨.nilc,[.tmp 0],none,none⟩,
 ⟨.faddr 0,[.tmp 5],none,none⟩,⟨.store 1,[.tmp 6,.tmp 4],none,none⟩]) (.seq (.block 0 (.seq (.region [⟨.faddr 0,[.loc 3],none,none⟩,⟨.load none,[.tmp 0],none,none⟩,⟨.bin .eql,[.tmp 1,.c (.int .i64 1)],none,none⟩,⟨.mov,[.tmp 2],some 4,none⟩]) (.cond (.loc 4) (.region [⟨.mov,[.loc 0],none,none⟩,
 ⟨.nilc,[.tmp 0],none,none⟩,⟨.faddr 1,[.tmp 1],none,none⟩,⟨.faddr 0,[.tmp 2],none,none⟩,⟨.load none,[.tmp 3],none,none⟩,⟨.bin .add,[.tmp 4,.c (.int .u64 1)],none,none⟩,⟨.nilc,[.tmp 0],none,none⟩,⟨.faddr 1,[.tmp 6],none,none⟩,⟨.faddr 0,[.tmp 7],none,none⟩,
 ⟨.store 1,[.tmp 8,.tmp 5],none,none⟩]) (.seq (.region [⟨.faddr 0,[.loc 3],none,none⟩,⟨.load none,[.tmp 0],none,none⟩,⟨.bin .eql,[.tmp 1,.c (.int .i64 2)],none,none⟩,⟨.mov,[.tmp 2],some 5,none⟩]) (.cond (.loc 5) (.region [⟨.mov,[.loc 0],none,none⟩,⟨.nilc,[.tmp 0],none,none⟩,
 ⟨.faddr 1,[.tmp 1],none,none⟩,⟨.faddr 1,[.tmp 2],none,none⟩,⟨.load none,[.tmp 3],none,none⟩,⟨.bin .add,[.tmp 4,.c (.int .u64 1)],none,none⟩,⟨.nilc,[.tmp 0],none,none⟩,⟨.faddr 1,[.tmp 6],none,none⟩,⟨.faddr 1,[.tmp 7],none,none⟩,⟨.store 1,[.tmp 8,.tmp 5],none,none⟩]) (.seq (.region [
 ⟨.faddr 0,[.loc 3],none,none⟩,⟨.load none,[.tmp 0],none,none⟩,⟨.bin .eql,[.tmp 1,.c (.int .i64 3)],none,none⟩,⟨.mov,[.tmp 2],none,none⟩,⟨.mov,[.loc 2],none,some (3,true)⟩,⟨.pick,[.tmp 3,.tmp 4,.c (.bool false)],none,none⟩,⟨.mov,[.tmp 5],some 6,none⟩]) (.cond (.loc 6) (.region [
 ⟨.mov,[.loc 0],none,none⟩,⟨.nilc,[.tmp 0],none,none⟩,⟨.faddr 1,[.tmp 1],none,none⟩,⟨.faddr 2,[.tmp 2],none,none⟩,⟨.load none,[.tmp 3],none,none⟩,⟨.bin .add,[.tmp 4,.c (.int .u64 1)],none,none⟩,⟨.nilc,[.tmp 0],none,none⟩,⟨.faddr 1,[.tmp 6],none,none⟩,⟨.faddr 2,[.tmp 7],none,none⟩,
 ⟨.store 1,[.tmp 8,.tmp 5],none,none⟩]) (.seq (.region [⟨.faddr 0,[.loc 3],none,none⟩,⟨.load none,[.tmp 0],none,none⟩,⟨.bin .eql,[.tmp 1,.c (.int .i64 3)],none,none⟩,⟨.mov,[.tmp 2],some 7,none⟩]) (.cond (.loc 7) (.region [⟨.mov,[.loc 0],none,none⟩,⟨.nilc,[.tmp 0],none,none⟩,
 ⟨.faddr 1,[.tmp 1],none,none⟩,⟨.faddr 3,[.tmp 2],none,none⟩,⟨.load none,[.tmp 3],none,none⟩,⟨.bin .add,[.tmp 4,.c (.int .u64 1)],none,none⟩,⟨.nilc,[.tmp 0],none,none⟩,⟨.faddr 1,[.tmp 6],none,none⟩,⟨.faddr 3,[.tmp 7],none,none⟩,⟨.store 1,[.tmp 8,.tmp 5],none,none⟩]) (.region [
 ⟨.mov,[.loc 0],none,none⟩,⟨.nilc,[.tmp 0],none,none⟩,⟨.faddr 1,[.tmp 1],none,none⟩,⟨.faddr 4,[.tmp 2],none,none⟩,⟨.load none,[.tmp 3],none,none⟩,⟨.bin .add,[.tmp 4,.c (.int .u64 1)],none,none⟩,⟨.nilc,[.tmp 0],none,none⟩,⟨.faddr 1,[.tmp 6],none,none⟩,⟨.faddr 4,[.tmp 7],none,none⟩,
 ⟨.store 1,[.tmp 8,.tmp 5],none,none⟩])))))))))) (.seq (.draw [0,1,2,3,4,5,6,7,8,9,10] 0 [⟨.mov,[.loc 0],none,none⟩,⟨.mov,[.loc 0],none,none⟩,⟨.nilc,[.tmp 1],none,none⟩,⟨.faddr 6,[.tmp 2],none,none⟩,⟨.load none,[.tmp 3],none,none⟩,⟨.load (some 4),[.loc 3],none,none⟩,
 ⟨.lit 1 4 [.int .i64 0,.int .i64 0,.int .u64 0,.int .u64 0] [(0,4)],[.tmp 5],none,none⟩,⟨.append 4 32,[.tmp 4,.tmp 6],none,none⟩,⟨.nilc,[.tmp 0],none,none⟩,⟨.faddr 6,[.tmp 8],none,none⟩,⟨.store 1,[.tmp 9,.tmp 7],none,none⟩] [(4,[7])]) (.seq (.region [⟨.mov,[.loc 0],none,none⟩,
 ⟨.nilc,[.tmp 0],none,none⟩,⟨.faddr 6,[.tmp 1],none,none⟩,⟨.load none,[.tmp 2],none,none⟩,⟨.len,[.tmp 3],none,none⟩,⟨.bin .gtr,[.tmp 4,.c (.int .i64 256)],some 8,none⟩]) (.cond (.loc 8) (.region [⟨.mov,[.loc 0],none,none⟩,⟨.mov,[.loc 0],none,none⟩,⟨.nilc,[.tmp 1],none,none⟩,
 ⟨.faddr 6,[.tmp 2],none,none⟩,⟨.load none,[.tmp 3],none,none⟩,⟨.slice 4 true false false,[.tmp 4,.c (.int .i64 1)],none,none⟩,⟨.nilc,[.tmp 0],none,none⟩,⟨.faddr 6,[.tmp 6],none,none⟩,⟨.store 1,[.tmp 7,.tmp 5],none,none⟩]) .skip))))))}
def ref06_there:AFn:={ nloc:=4,npar:=2,res:=[.loc 3],body:=(.seq (.region [⟨.box,[.loc 0],some 2,none⟩,⟨.mov,[.c (.bool false)],some 3,none⟩]) (.seq (.region [⟨.mov,[.loc 1],none,none⟩,⟨.bin .geq,[.tmp 0,.c (.int .i64 0)],none,none⟩,⟨.mov,[.tmp 1],none,none⟩,⟨.mov,[.loc 1],none,some (2,true)⟩,
 ⟨.faddr 0,[.loc 2],none,some (2,true)⟩,⟨.load none,[.tmp 4],none,some (2,true)⟩,⟨.len,[.tmp 5],none,some (2,true)⟩,⟨.bin .lss,[.tmp 3,.tmp 6],none,some (2,true)⟩,⟨.pick,[.tmp 2,.tmp 7,.c (.bool false)],none,none⟩,⟨.mov,[.tmp 8],some 3,none⟩]) .ret))}
def ref06_with:AFn:={ nloc:=6,npar:=3,res:=[.cell 4 (some 2)],body:=(.seq (.region [⟨.box,[.loc 0],some 3,none⟩,⟨.alloc [.nils,.int .u64 0],[],some 4,none⟩]) (.seq (.region [⟨.mov,[.c (.nils)],some 5,none⟩]) (.seq (.region [⟨.mov,[.loc 5],none,none⟩,⟨.faddr 0,[.loc 3],none,none⟩,⟨.load none,[.tmp 1],none,none⟩,
 ⟨.append 1 8,[.tmp 0,.tmp 2],none,none⟩,⟨.mov,[.tmp 3],some 5,none⟩]) (.seq (.region [⟨.mov,[.loc 5],none,none⟩,⟨.mov,[.loc 1],none,none⟩,⟨.mov,[.loc 2],none,none⟩,⟨.iaddr 1 none,[.tmp 0,.tmp 1],none,none⟩,⟨.store 1,[.tmp 3,.tmp 2],none,none⟩]) (.seq (.region [⟨.mov,[.loc 5],none,none⟩,
 ⟨.faddr 1,[.loc 3],none,none⟩,⟨.load none,[.tmp 1],none,none⟩,⟨.bin .add,[.tmp 2,.c (.int .u64 1)],none,none⟩,⟨.build [.nils,.int .u64 0] [(0,1),(1,1)],[.tmp 0,.tmp 3],none,none⟩,⟨.store 2,[.loc 4,.tmp 4],none,none⟩]) .ret)))))}
end Go.Am.F06
end
section
namespace Go.Am.F06
variable {X:Type}
def c_cell_New:AFun X:=amFunc [] cell_New
def c_cell_Mem_there:AFun X:=amFunc [] cell_Mem_there
def c_cell_counts_note:AFun X:=amFunc [] cell_counts_note
def c_cell_Mem_Store_1:AFun X:=amFunc [] cell_Mem_Store_1
def c_cell_Mem_CAS_1:AFun X:=amFunc [] cell_Mem_CAS_1
def c_cell_Mem_Load_1:AFun X:=amFunc [] cell_Mem_Load_1
def c_cell_Mem_Ops:AFun X:=amFunc [] cell_Mem_Ops
def c_cell_Mem_Len:AFun X:=amFunc [] cell_Mem_Len
def c_slices_Clone_uint64:AFun X:=amFunc [] slices_Clone_uint64
def c_cell_Mem_All:AFun X:=amFunc [(61,c_slices_Clone_uint64)] cell_Mem_All
def c_docs_SameCells:AFun X:=amFunc [] docs_SameCells
def c_ref06_there:AFun X:=amFunc [] ref06_there
def c_ref06_Load:AFun X:=amFunc [(72,c_ref06_there)] ref06_Load
def c_ref06_with:AFun X:=amFunc [] ref06_with
def c_ref06_Store:AFun X:=amFunc [(72,c_ref06_there),(73,c_ref06_with)] ref06_Store
def c_ref06_CAS:AFun X:=amFunc [(72,c_ref06_there),(73,c_ref06_with)] ref06_CAS
end Go.Am.F06
end
section
namespace Go.Am.F06
section
variable {X:Type} {m:Mem X} {i:Nat}
theorem ms_root(hi:i < m.length) (R:Chunk X) (L:Mem X):(m.set i R++L)[i]?=some R:=by rw[List.getElem?_append_left (by simpa using hi),List.getElem?_set_self hi]
theorem ms_mid(R:Chunk X) (L:Mem X) (k:Nat):(m.set i R++L)[m.length+k]?=L[k]?:=by
 have:=get_mid (l:=m.set i R) (k:=L) (i:=k)
 rwa [List.length_set] at this
theorem ms_mid0(R:Chunk X) (L:Mem X):(m.set i R++L)[m.length]?=L[0]?:=ms_mid R L 0
theorem ms_set(hi:i < m.length) (R R':Chunk X) (L:Mem X):(m.set i R++L).set i R'=m.set i R'++L:=by rw[List.set_append_left _ _ (by simpa using hi),List.set_set]
theorem ms_setk(R c:Chunk X) (L:Mem X) (k:Nat):(m.set i R++L).set (m.length+k) c=m.set i R++L.set k c:=by
 have:=set_mid (l:=m.set i R) (k:=L) (i:=k) (y:=c)
 rwa [List.length_set] at this
theorem ms_set0(R c:Chunk X) (L:Mem X):(m.set i R++L).set m.length c=m.set i R++L.set 0 c:=ms_setk R c L 0
theorem ms_other{j:Nat} (hj:j < m.length) (hji:j≠i) (R:Chunk X) (L:Mem X):(m.set i R++L)[j]?=m[j]?:=by
 rw[List.getElem?_append_left (by simpa using hj),List.getElem?_set_ne (fun h=>hji h.symm)]
end
theorem cv_len(i k1:Nat) (s:MemSt):lenA (cvA i k1 s)=some s.cells.length:=by
 unfold cvA;split
 ·rename_i h;simp[lenA,h]
 ·rfl
theorem ask_fold{f:AFun Ob} {ask:MemSt→List AV→Option AV} (h:∀ (m:MM) (i:Nat) (rest:List AV) (s:MemSt) (v:AV),i < m.length→ask s rest=some v→AV.ren no v=some v ∧
  ∃ J,f (.ptr i 0 :: rest) (m.set i (plM (.mem s) i m.length).1++(plM (.mem s) i m.length).2)=some (v,m.set i (plM (.mem s) i m.length).1++((plM (.mem s) i m.length).2++J))) :
  Fold concM (unf 0 plM f) (memF fun s rest=>(ask s rest).map fun v=>(v,s)):=by
 refine mem_fold fun m i rest s s' v hi hst=>?_
 cases ha:ask s rest with
 | none=>rw[ha] at hst;cases hst
 | some u =>
  rw[ha] at hst
  simp only[Option.map_some,Option.some.injEq,Prod.mk.injEq] at hst
  obtain⟨rfl,rfl⟩:=hst
  obtain⟨h1,J,h2⟩:=h m i rest s u hi ha
  refine⟨h1,_,m.length,m.length+1,h2,by simp,fun j hj hji=>ms_other hj hji _ _,Nat.le_refl _,by omega,by omega,⟨⟨_,ms_root hi _ _,.inl rfl⟩,fun _=>by rw[ms_mid0];rfl,fun _=>by rw[ms_mid];rfl⟩⟩
def lenAsk(s:MemSt):List AV→Option AV
 | []=>some (.int .i64 s.cells.length)
 | _=>none
theorem len_fold:Fold concM (unf 0 plM c_cell_Mem_Len) (memF fun s rest=>(lenAsk s rest).map fun v=>(v,s)):=ask_fold fun m i rest s v hi ha=>by
 unfold lenAsk at ha
 split at ha
 ·injection ha with ha;subst ha
  refine⟨rfl,[],Fn_eq ?_⟩
  refine Fn_of rfl ?_
  have hr:=ms_root hi (m:=m)
  have hl:=cv_len i m.length s
  simp(disch:=first|assumption|omega|(simp only[zl]<;>omega)|(simp only[zn])) only[cell_Mem_Len,↓zd,zk,seval,reduceIte,List.map,AV.cells,List.all,AV.one,eqV,eqAll,splice,fillA,List.replicate,resAll,resA,plM,rootL,hr,ev_len,hl]
 ·cases ha
def opsAsk(s:MemSt):List AV→Option AV
 | []=>some (.int .u64 s.ops)
 | _=>none
theorem ops_fold:Fold concM (unf 0 plM c_cell_Mem_Ops) (memF fun s rest=>(opsAsk s rest).map fun v=>(v,s)):=ask_fold fun m i rest s v hi ha=>by
 unfold opsAsk at ha
 split at ha
 ·injection ha with ha;subst ha
  refine⟨rfl,[],Fn_eq ?_⟩
  refine Fn_of rfl ?_
  have hr:=ms_root hi (m:=m)
  simp(disch:=first|assumption|omega|(simp only[zl]<;>omega)|(simp only[zn])) only[cell_Mem_Ops,↓zd,zk,seval,reduceIte,List.map,AV.cells,List.all,AV.one,eqV,eqAll,splice,fillA,List.replicate,resAll,resA,plM,rootL,hr]
 ·cases ha
theorem there_run{m:MM} {i:Nat} (hi:i < m.length) (s:MemSt) (lv:AV) (k1:Nat) (L:MM) (a:Int) :
  c_cell_Mem_there [.ptr i 0,.int .i64 a] (m.set i (.cells 8 false (rootL s lv (cvA i k1 s)))++L)=some (.bool (decide (0≤a) && decide (a < s.cells.length)),m.set i (.cells 8 false (rootL s lv (cvA i k1 s)))++L):=by
 refine Fn_eq ?_
 refine Fn_of rfl ?_
 have hr:=ms_root hi (m:=m)
 have hl:=cv_len i k1 s
 simp(disch:=first|assumption|omega|(simp only[zl]<;>omega)|(simp only[zn])) only[cell_Mem_there,↓zd,zk,seval,reduceIte,List.map,AV.cells,List.all,AV.one,eqV,eqAll,splice,fillA,List.replicate,resAll,resA,rootL,hr]
 repeat' ((first|refine GK_of (fun h=>?_) (fun h=>?_)|refine CW_of (fun h=>?_) (fun h=>?_)|refine GKT_of (fun h=>?_) (fun h=>?_))<;>(try simp only[Bool.not_eq_true',Bool.not_eq_false',decide_eq_true_eq,decide_eq_false_iff_not,Bool.and_eq_true,Bool.or_eq_true,Bool.and_eq_false_iff,Bool.or_eq_false_iff,Decidable.not_not] at h)<;>(try simp(disch:=first|assumption|omega|(simp only[zl]<;>omega)|(simp only[zn])) only[↓zd,zk,seval,reduceIte,List.map,AV.cells,List.all,AV.one,eqV,eqAll,splice,fillA,List.replicate,resAll,resA,rootL,hr,ev_len,hl,h]))
 all_goals (try simp_all)
def logMore(s:MemSt) (e:Acc):List Acc × List Acc:=if s.log.length < 256 then([],s.log++[e]) else(s.log.take 1,s.log.drop 1++[e])
def noted (s : MemSt) (e : Acc) (ok : Bool) : MemSt :=
  { s with ops := IntKind.u64.wrap (s.ops + 1),
           loads := if e.kind = 1 then IntKind.u64.wrap (s.loads + 1) else s.loads,
           stores := if e.kind = 2 then IntKind.u64.wrap (s.stores + 1) else s.stores,
           swaps := if e.kind = 3 ∧ ok = true then IntKind.u64.wrap (s.swaps + 1) else s.swaps,
           fails := if e.kind = 3 ∧ ok = false then IntKind.u64.wrap (s.fails + 1) else s.fails,
           adds := if e.kind ≠ 1 ∧ e.kind ≠ 2 ∧ e.kind ≠ 3 then IntKind.u64.wrap (s.adds + 1) else s.adds,
           pre := (logMore s e).1, log := (logMore s e).2 }
theorem accs_len(l:List Acc):(l.flatMap accC).length=l.length * 4:=rows_len (f:=accC) (fun _=>rfl) l
theorem accs_one(l:List Acc):(l.flatMap accC).all AV.one=true:=rows_one fun _=>rfl
theorem accs_drop(a b:List Acc):(((a++b).flatMap accC).drop (a.length * 4))=b.flatMap accC:=by
 rw[List.flatMap_append,← accs_len a,List.drop_left]
def LogAt(n:Nat) (M:MM) (lv:AV) (s:MemSt):Prop:=(s.log=[]∧lv = .nils)∨∃ k2,s.log≠[]∧lv = .sl k2 (s.pre.length * 4) s.log.length none∧n+1≤k2∧M[k2]?=some (.cells 4 false ((s.pre++s.log).flatMap accC))
theorem log_app{m L:MM} {i:Nat} (hi:i < m.length) {s:MemSt} {lv:AV} {R0 b:Chunk Ob} (e:Acc) (h:LogAt m.length (m.set i R0++L) lv s) (hl:s.log.length≤300) (hL:0 < L.length):∃ (q:Nat) (L2:MM),(∀ R,appendA 4 32 lv (.sl (m.length+(L.length+1)) 0 1 (some 1)) (m.set i R++(L++[b,.cells 4 false (accC e)]))=some (.sl (m.length+q) 0 (s.log.length+1) none,m.set i R++L2)) ∧
  L2[q]?=some (.cells 4 false ((s.log++[e]).flatMap accC))∧1≤q∧L2[0]?=L[0]?:=by
 have hj:∀ R,(m.set i R++(L++[b,Chunk.cells 4 false (accC e)]))[m.length+(L.length+1)]?=some (.cells 4 false (accC e)):=fun R=>by rw[ms_mid,get_mid];rfl
 have hlen:∀ R,(m.set i R++(L++[b,Chunk.cells 4 false (accC e)])).length=m.length+(L.length+2):=fun R=>by simp
 rcases h with⟨h0,rfl⟩|⟨k2,h0,rfl,h2,h3⟩
 ·refine⟨L.length+2,L++[b,.cells 4 false (accC e),.cells 4 false (accC e)],fun R=>?_,?_,by omega,by rw[List.getElem?_append_left hL]⟩
  ·rw[append_nils (sz:=4) (hj R) rfl rfl (by omega),hlen,h0];simp
  ·rw[get_mid,h0];simp
 ·have hk:k2 < m.length+L.length:=by
   have:=(List.getElem?_eq_some_iff.1 h3).1
   simp at this;exact this
  have hM:∀ R,(m.set i R++(L++[b,Chunk.cells 4 false (accC e)]))[k2]?=some (.cells 4 false ((s.pre++s.log).flatMap accC)):=fun R=>by
   rw[List.getElem?_append_right (by simp;omega),List.length_set]
   rw[List.getElem?_append_right (by simp;omega),List.length_set] at h3
   rw[List.getElem?_append_left (by omega)];exact h3
  refine⟨L.length+2,(L++[b,.cells 4 false (accC e)]).set (k2 - m.length) .dead++[.cells 4 false ((s.log++[e]).flatMap accC)],fun R=>?_,?_,by omega,?_⟩
  ·have hr:rowOf (m.set i R++(L++[b,Chunk.cells 4 false (accC e)])) 4 (.sl (m.length+(L.length+1)) 0 1 (some 1))=some (accC e):=by
    simp only[rowOf,getC,hj R]
    rw[if_neg (by omega),if_pos (by simp[accC]),List.drop_zero,List.take_of_length_le (by simp[accC])]
   have hd:=accs_drop s.pre s.log
   have hlp:=accs_len (s.pre++s.log)
   rw[List.length_append] at hlp
   have hl2:=accs_len s.log
   have ht:(((s.pre++s.log).flatMap accC).drop (s.pre.length * 4)).take (s.log.length * 4)=s.log.flatMap accC:=by rw[hd,List.take_of_length_le (by omega)]
   simp only[appendA,lenA,hr,getC,hM R]
   rw[if_neg (by omega),if_pos ⟨trivial,by omega,by omega,by omega,by rw[ht,List.all_append,accs_one];rfl⟩,ht,hlen,List.set_append_right _ _ (by simp;omega),List.length_set,List.append_assoc,List.flatMap_append]
   simp
  ·rw[List.getElem?_append_right (by simp)];simp
  ·rw[List.getElem?_append_left (by simp),List.getElem?_set_ne (by omega),List.getElem?_append_left hL]
def noteA:AC:=match cell_counts_note.body with | .seq a _=>a|_=>.skip
def noteB:AC:=match cell_counts_note.body with | .seq _ (.seq a _)=>a|_=>.skip
def noteC:AC:=match cell_counts_note.body with | .seq _ (.seq _ (.seq a _))=>a|_=>.skip
def noteT:AC:=match cell_counts_note.body with | .seq _ (.seq _ (.seq _ a))=>a|_=>.skip
theorem note_body:cell_counts_note={ nloc:=9,npar:=3,res:=[],body:=.seq noteA (.seq noteB (.seq noteC noteT)) }:=rfl
def R8(u0 u1 u2 u3 u4 u5:Int) (lv cv:AV):Chunk Ob:=.cells 8 false [.int .u64 u0,.int .u64 u1,.int .u64 u2,.int .u64 u3,.int .u64 u4,.int .u64 u5,lv,cv]
set_option maxHeartbeats 4000000 in
theorem tail_run{m L:MM} {i:Nat} (hi:i < m.length) {s:MemSt} {lv cv:AV} {R0:Chunk Ob} (e:Acc) (ok:Bool) (u0 u1 u2 u3 u4 u5:Int) (x4 x5 x6 x7 x8:AV) (h:LogAt m.length (m.set i R0++L) lv s) (hl:s.log.length≤256) (hL:0 < L.length)
  {Q:AX→List AV→MM→Prop} (hQ:∀ e' lv' L',(∀ R,LogAt m.length (m.set i R++L') lv' { s with pre:=(logMore s e).1,log:=(logMore s e).2 })→L'[0]?=L[0]?→Q .normal e' (m.set i (R8 u0 u1 u2 u3 u4 u5 lv' cv)++L')) :
  W [] noteT Q [.ptr i 0,.agg (accC e),.bool ok,.ptr (m.length+L.length) 0,x4,x5,x6,x7,x8] (m.set i (R8 u0 u1 u2 u3 u4 u5 lv cv)++(L++[.cells 4 false (accC e)])):=by
 have hr:=ms_root hi (m:=m)
 have hset:=ms_set hi (m:=m)
 obtain⟨q,L2,happ,hL2,hq1,hL20⟩:=log_app hi (b:=.cells 4 false (accC e)) e h (by omega) hL
 have hone:(accC e).all AV.one=true:=rfl
 have hal:(accC e).length=4:=rfl
 have htk:(accC e).take 4=accC e:=rfl
 have hrep:repeatL 1 [AV.int .i64 0,.int .i64 0,.int .u64 0,.int .u64 0]=[AV.int .i64 0,.int .i64 0,.int .u64 0,.int .u64 0]:=rfl
 simp(disch:=first|assumption|omega|(simp only[zl]<;>omega)|(simp only[zn])) only[noteT,cell_counts_note,↓zd,zk,seval,reduceIte,List.map,AV.cells,List.all,AV.one,eqV,eqAll,splice,fillA,List.replicate,resAll,resA,zm,List.length_set,R8,hr,hset,ms_mid,ms_mid0,evA,hone,hal,htk,hrep,happ,List.length_cons,List.length_nil,List.drop_succ_cons,List.drop_zero,List.append_nil]
 (first|refine GK_of (fun h=>?_) (fun h=>?_)|refine CW_of (fun h=>?_) (fun h=>?_)|refine GKT_of (fun h=>?_) (fun h=>?_))<;>(try simp only[Bool.not_eq_true',Bool.not_eq_false',decide_eq_true_eq,decide_eq_false_iff_not,Bool.and_eq_true,Bool.or_eq_true,Bool.and_eq_false_iff,Bool.or_eq_false_iff,Decidable.not_not] at h)
 ·have hsl:∀ R,amOp [] (.slice 4 true false false) [.sl (m.length+q) 0 (s.log.length+1) none,.int .i64 1] (m.set i R++L2)=some (.sl (m.length+q) 4 s.log.length none,m.set i R++L2):=fun R=>by
   have hg:getC (m.set i R++L2) (m.length+q)=some (4,false,(s.log++[e]).flatMap accC):=by simp only[getC,ms_mid,hL2]
   simp[amOp,optN,sliceA,hg]
  simp(disch:=first|assumption|omega|(simp only[zl]<;>omega)|(simp only[zn])) only[↓zd,zk,seval,reduceIte,List.map,AV.cells,List.all,AV.one,eqV,eqAll,splice,fillA,List.replicate,resAll,resA,zm,List.length_set,hr,hset,hsl]
  have hd:s.log.drop 1++[e]≠[]:=by simp
  have h256:s.log.length=256:=by omega
  have hlm:logMore s e=(s.log.take 1,s.log.drop 1++[e]):=if_neg (by omega)
  refine hQ _ _ _ (fun R=>.inr ⟨m.length+q,?_,?_,by omega,?_⟩) hL20
  ·simp only[hlm];exact hd
  ·simp only[hlm,List.length_take,List.length_append,List.length_drop,List.length_cons,List.length_nil,h256];rfl
  ·simp only[hlm];rw[ms_mid,hL2,← List.append_assoc,List.take_append_drop]
 ·simp(disch:=first|assumption|omega|(simp only[zl]<;>omega)|(simp only[zn])) only[↓zd,zk,seval,reduceIte,List.map,AV.cells,List.all,AV.one,eqV,eqAll,splice,fillA,List.replicate,resAll,resA,zm,List.length_set,hr,hset]
  refine hQ _ _ _ (fun R=>.inr ⟨m.length+q,?_,?_,by omega,?_⟩) hL20
  ·simp only[logMore,if_pos (show s.log.length < 256 by omega)];simp
  ·simp only[logMore,if_pos (show s.log.length < 256 by omega)];simp
  ·simp only[logMore,if_pos (show s.log.length < 256 by omega)];rw[ms_mid,hL2];simp
set_option maxHeartbeats 4000000 in
theorem note_run{m L:MM} {i:Nat} (hi:i < m.length) {s:MemSt} {lv cv:AV} {R0:Chunk Ob} (e:Acc) (ok:Bool) (hlog:LogAt m.length (m.set i R0++L) lv s) (hl:s.log.length≤256) (hL:0 < L.length) :
  Fn [] cell_counts_note [.ptr i 0,.agg (accC e),.bool ok] (m.set i (.cells 8 false (rootL s lv cv))++L) (fun v M=>v = .tup []∧∃ lv' L',M=m.set i (.cells 8 false (rootL (noted s e ok) lv' cv))++L'∧(∀ R,LogAt m.length (m.set i R++L') lv' (noted s e ok))∧L'[0]?=L[0]?):=by
 rw[note_body]
 refine Fn_of rfl ?_
 have hr:=ms_root hi (m:=m)
 have hset:=ms_set hi (m:=m)
 have hal:(accC e).length=4:=rfl
 have hg:(accC e)[0]?=some (.int .i64 e.kind):=rfl
 have hone:(accC e).all AV.one=true:=rfl
 simp(disch:=first|assumption|omega|(simp only[zl]<;>omega)|(simp only[zn])) only[noteA,noteB,noteC,cell_counts_note,↓zd,zk,seval,reduceIte,List.map,AV.cells,List.all,AV.one,eqV,eqAll,splice,fillA,List.replicate,resAll,resA,zm,List.length_set,rootL,hr,hset,ms_mid,ms_mid0,hal,hg,hone]
 repeat' (first|refine tail_run hi e ok _ _ _ _ _ _ _ _ _ _ _ hlog hl hL (fun e' lv' L' h1 h2=>?_)|((first|refine GK_of (fun h=>?_) (fun h=>?_)|refine CW_of (fun h=>?_) (fun h=>?_)|refine GKT_of (fun h=>?_) (fun h=>?_))<;>(try simp only[Bool.not_eq_true',Bool.not_eq_false',decide_eq_true_eq,decide_eq_false_iff_not,Bool.and_eq_true,Bool.or_eq_true,Bool.and_eq_false_iff,Bool.or_eq_false_iff,Decidable.not_not] at h)<;>(try simp(disch:=first|assumption|omega|(simp only[zl]<;>omega)|(simp only[zn])) only[↓zd,zk,seval,reduceIte,List.map,AV.cells,List.all,AV.one,eqV,eqAll,splice,fillA,List.replicate,resAll,resA,zm,List.length_set,hr,hset,ms_mid,ms_mid0,hal,hg,hone])))
 all_goals simp(disch:=first|assumption|omega|(simp only[zl]<;>omega)|(simp only[zn])) only[↓zd,zk,seval,reduceIte,List.map,AV.cells,List.all,AV.one,eqV,eqAll,splice,fillA,List.replicate,resAll,resA,zm]
 all_goals refine⟨lv',L',?_,fun R=>h1 R,h2⟩
 all_goals clear hlog hr hset hl hL h1 h2 hal hg hone
 all_goals simp_all[noted,R8]
theorem logAt_set0{m L:MM} {i:Nat} {s:MemSt} {lv:AV} {R R' c:Chunk Ob} (hi:i < m.length) (h:LogAt m.length (m.set i R++L) lv s):LogAt m.length (m.set i R'++L.set 0 c) lv s:=by
 rcases h with h|⟨k2,h0,h1,h2,h3⟩
 ·exact .inl h
 ·refine .inr ⟨k2,h0,h1,h2,?_⟩
  rw[List.getElem?_append_right (by simp;omega),List.length_set] at h3 ⊢
  rw[List.getElem?_set_ne (by omega)];exact h3
set_option maxHeartbeats 4000000 in
theorem access_run{m L:MM} {i:Nat} (hi:i < m.length) {s:MemSt} {lv:AV} {cap:Option Nat} {k a:Int} {f:Nat} {c:List AV} {F:AFun Ob} {old new:Int} {ok:Bool}
  (hlog:LogAt m.length (m.set i (.cells 8 false (rootL s lv (.sl m.length 0 s.cells.length cap)))++L) lv s) (hl:s.log.length≤256) (hc:L[0]?=some (.cells 1 false (uC s.cells))) (ha0:0≤a) (ha1:a < s.cells.length) (hold:s.cells[a.toNat]?=some old)
  (hth:c_cell_Mem_there [.ptr i 0,.int .i64 a] (m.set i (.cells 8 false (rootL s lv (.sl m.length 0 s.cells.length cap)))++L)=some (.bool true,m.set i (.cells 8 false (rootL s lv (.sl m.length 0 s.cells.length cap)))++L))
  {G:List (Nat × AFun Ob)} (h56:assoc G 56=some c_cell_Mem_there) (h71:assoc G 71=some c_cell_counts_note) (hf:assoc G f=some F) (hF:F (.int .u64 old :: c) (m.set i (.cells 8 false (rootL s lv (.sl m.length 0 s.cells.length cap)))++L)=some (.tup [.int .u64 new,.bool ok],m.set i (.cells 8 false (rootL s lv (.sl m.length 0 s.cells.length cap)))++L)) :
  Fn G cell_Mem_access [.ptr i 0,.int .i64 k,.int .i64 a,.fn f [] c] (m.set i (.cells 8 false (rootL s lv (.sl m.length 0 s.cells.length cap)))++L) (fun v M=>v = .tup [.int .u64 old,.bool ok] ∧
   ∃ lv' L',M=m.set i (.cells 8 false (rootL (noted { s with cells:=s.cells.set a.toNat new } ⟨k,a,old,new⟩ ok) lv' (.sl m.length 0 s.cells.length cap)))++L' ∧
    (∀ R,LogAt m.length (m.set i R++L') lv' (noted { s with cells:=s.cells.set a.toNat new } ⟨k,a,old,new⟩ ok))∧L'[0]?=some (.cells 1 false (uC (s.cells.set a.toNat new)))):=by
 refine Fn_of rfl ?_
 have hr:=ms_root hi (m:=m)
 have hset:=ms_set hi (m:=m)
 have hu:(uC s.cells)[a.toNat]?=some (.int .u64 old):=by simp[uC,hold]
 have hul:(uC s.cells).length=s.cells.length:=by simp[uC]
 have hr7:∀ (s:MemSt) lv cv,(rootL s lv cv)[7]?=some cv:=fun _ _ _=>rfl
 simp(disch:=first|assumption|omega|(simp only[zl]<;>omega)|(simp only[zn])) only[cell_Mem_access,↓zd,zk,seval,reduceIte,List.map,AV.cells,List.all,AV.one,eqV,eqAll,splice,fillA,List.replicate,resAll,resA,hr,hset,ms_mid,ms_mid0,ms_set0,h56,hth,hc,hu,hul,hf,hF,hr7]
 simp only[h71]
 have hlog2:LogAt m.length (m.set i (.cells 8 false (rootL s lv (.sl m.length 0 s.cells.length cap)))++L.set 0 (.cells 1 false ((uC s.cells).set a.toNat (.int .u64 new)))) lv { s with cells:=s.cells.set a.toNat new }:=logAt_set0 hi hlog
 have hset2:(uC s.cells).set a.toNat (.int .u64 new)=uC (s.cells.set a.toNat new):=by simp[uC,List.map_set]
 have hL:0 < (L.set 0 (.cells 1 false ((uC s.cells).set a.toNat (.int .u64 new)))).length:=by
  have:=(List.getElem?_eq_some_iff.1 hc).1
  simpa using this
 refine OK_fn (note_run (s:={ s with cells:=s.cells.set a.toNat new }) (cv:=.sl m.length 0 s.cells.length cap) hi ⟨k,a,old,new⟩ ok hlog2 hl hL) ?_
 rintro v M ⟨rfl,lv',L',rfl,h1,h2⟩
 simp(disch:=first|assumption|omega|(simp only[zl]<;>omega)|(simp only[zn])) only[↓zd,zk,seval,reduceIte,List.map,AV.cells,List.all,AV.one,eqV,eqAll,splice,fillA,List.replicate,resAll,resA]
 refine⟨lv',L',rfl,h1,?_⟩
 rw[h2,List.getElem?_set_self (List.getElem?_eq_some_iff.1 hc).1,hset2]
def accS(k:Int) (g:Int→Int × Bool) (s:MemSt) (a:Int):Option (Int × Bool × MemSt) :=
 if s.log.length≤256 then
  if 0≤a∧a < s.cells.length then
   some (s.cells.getD a.toNat 0,(g (s.cells.getD a.toNat 0)).2,noted { s with cells:=s.cells.set a.toNat (g (s.cells.getD a.toNat 0)).1 } ⟨k,a,s.cells.getD a.toNat 0,(g (s.cells.getD a.toNat 0)).1⟩ (g (s.cells.getD a.toNat 0)).2)
  else some (0,false,s)
 else none
set_option maxHeartbeats 4000000 in
theorem acc_run{m L:MM} {i:Nat} (hi:i < m.length) {s s':MemSt} {lv:AV} {k a:Int} {f:Nat} {c:List AV} {F:AFun Ob} {g:Int→Int × Bool} {o:Int} {ok:Bool}
  (hlog:∀ R,LogAt m.length (m.set i R++L) lv s) (hc:L[0]?=some (.cells 1 false (uC s.cells)))
  {G:List (Nat × AFun Ob)} (h56:assoc G 56=some c_cell_Mem_there) (h71:assoc G 71=some c_cell_counts_note) (hf:assoc G f=some F) (hF:∀ w R,F (.int .u64 w :: c) (m.set i R++L)=some (.tup [.int .u64 (g w).1,.bool (g w).2],m.set i R++L)) (hs:accS k g s a=some (o,ok,s')) :
  Fn G cell_Mem_access [.ptr i 0,.int .i64 k,.int .i64 a,.fn f [] c] (m.set i (.cells 8 false (rootL s lv (cvA i m.length s)))++L) (fun v M=>v = .tup [.int .u64 o,.bool ok] ∧
   ∃ lv' L',M=m.set i (.cells 8 false (rootL s' lv' (cvA i m.length s')))++L'∧(∀ R,LogAt m.length (m.set i R++L') lv' s')∧L'[0]?=some (.cells 1 false (uC s'.cells))):=by
 have hth:=there_run hi s lv m.length L a
 unfold accS at hs
 split at hs
 case isFalse=>cases hs
 rename_i hl
 split at hs
 ·rename_i ha
  simp only[Option.some.injEq,Prod.mk.injEq] at hs
  obtain⟨rfl,rfl,rfl⟩:=hs
  have hlt:a.toNat < s.cells.length:=by omega
  have hne:s.cells≠[]:=fun h=>by rw[h] at hlt;simp at hlt
  have hne':s.cells.set a.toNat (g (s.cells.getD a.toNat 0)).1≠[]:=fun h=>hne (by simpa using h)
  have hold:s.cells[a.toNat]?=some (s.cells.getD a.toNat 0):=by rw[List.getD_eq_getElem?_getD,List.getElem?_eq_getElem hlt];rfl
  have hcv:cvA i m.length s = .sl m.length 0 s.cells.length (if s.ck then some s.cells.length else none):=if_neg hne
  have hcv':cvA i m.length (noted { s with cells:=s.cells.set a.toNat (g (s.cells.getD a.toNat 0)).1 } ⟨k,a,s.cells.getD a.toNat 0,(g (s.cells.getD a.toNat 0)).1⟩ (g (s.cells.getD a.toNat 0)).2) = .sl m.length 0 s.cells.length (if s.ck then some s.cells.length else none):=by
   unfold cvA;split
   ·rename_i h;exact absurd h hne'
   ·simp[noted]
  rw[hcv']
  rw[hcv] at hth ⊢
  exact access_run hi (hlog _) hl hc ha.1 ha.2 hold (by rw[hth];simp[ha.1,ha.2]) h56 h71 hf (hF _ _)
 ·rename_i ha
  simp only[Option.some.injEq,Prod.mk.injEq] at hs
  obtain⟨rfl,rfl,rfl⟩:=hs
  refine Fn_of rfl ?_
  have hb:(decide (0≤a) && decide (a < s.cells.length))=false:=by
   rw[Bool.and_eq_false_iff,decide_eq_false_iff_not,decide_eq_false_iff_not];omega
  rw[hb] at hth
  simp(disch:=first|assumption|omega|(simp only[zl]<;>omega)|(simp only[zn])) only[cell_Mem_access,↓zd,zk,seval,reduceIte,List.map,AV.cells,List.all,AV.one,eqV,eqAll,splice,fillA,List.replicate,resAll,resA,h56,hth]
  exact⟨lv,L,rfl,hlog,hc⟩
theorem memAt_of{m L:MM} {i:Nat} (hi:i < m.length) {s:MemSt} {lv:AV} (hlog:∀ R,LogAt m.length (m.set i R++L) lv s) (hc:L[0]?=some (.cells 1 false (uC s.cells))) :
  ∃ k1 k2,m.length≤(m.set i (.cells 8 false (rootL s lv (cvA i m.length s)))++L).length∧(∀ j,j < m.length→j≠i→(m.set i (.cells 8 false (rootL s lv (cvA i m.length s)))++L)[j]?=m[j]?)∧m.length≤k1∧m.length≤k2∧k1≠k2 ∧
   MemAt (m.set i (.cells 8 false (rootL s lv (cvA i m.length s)))++L) i k1 k2 s:=by
 have hcells:(m.set i (.cells 8 false (rootL s lv (cvA i m.length s)))++L)[m.length]?=some (.cells 1 false (uC s.cells)):=by rw[ms_mid0];exact hc
 rcases hlog (.cells 8 false (rootL s lv (cvA i m.length s))) with⟨h0,rfl⟩|⟨k2,h0,rfl,h2,h3⟩
 ·exact⟨m.length,m.length+1,by simp,fun j hj hji=>ms_other hj hji _ _,by omega,by omega,by omega,⟨_,by rw[ms_root hi];simp only[lvA,if_pos h0],.inl rfl⟩,fun _=>hcells,fun h=>absurd h0 h⟩
 ·exact⟨m.length,k2,by simp,fun j hj hji=>ms_other hj hji _ _,by omega,by omega,by omega,⟨_,by rw[ms_root hi];simp only[lvA,if_neg h0],.inl rfl⟩,fun _=>hcells,fun _=>h3⟩
theorem logAt_pl{m J:MM} {i:Nat} (s:MemSt) (R:Chunk Ob):LogAt m.length (m.set i R++((plM (.mem s) i m.length).2++J)) (lvA (m.length+1) s) s:=by
 by_cases h:s.log=[]
 ·exact .inl ⟨h,if_pos h⟩
 ·exact .inr ⟨m.length+1,h,if_neg h,Nat.le_refl _,by rw[ms_mid];rfl⟩
def loadS(s:MemSt):List AV→Option (AV × MemSt)
 | [.int .i64 a]=>(accS 1 (fun w=>(w,true)) s a).map fun x=>(.int .u64 x.1,x.2.2)
 | _=>none
set_option maxHeartbeats 4000000 in
theorem load_foldG{G:List (Nat × AFun Ob)} (h56:assoc G 56=some c_cell_Mem_there) (h71:assoc G 71=some c_cell_counts_note) (hclo:assoc G 52=some c_cell_Mem_Load_1):Fold concM (unf 0 plM (amFunc [(50,amFunc G cell_Mem_access),(52,c_cell_Mem_Load_1)] cell_Mem_Load)) (memF loadS):=mem_fold fun m i rest s s' v hi hst=>by
 unfold loadS at hst
 split at hst
 case h_2=>cases hst
 rename_i a
 cases hacc:accS 1 (fun w=>(w,true)) s a with
 | none=>rw[hacc] at hst;cases hst
 | some x =>
  obtain⟨o,ok,s1⟩:=x
  rw[hacc] at hst
  simp only[Option.map_some,Option.some.injEq,Prod.mk.injEq] at hst
  obtain⟨rfl,rfl⟩:=hst
  have hF:∀ (w:Int) (M:MM),c_cell_Mem_Load_1 (.int .u64 w :: []) M=some (.tup [.int .u64 w,.bool true],M):=fun w M=>Fn_eq (Fn_of rfl (by simp(disch:=first|assumption|omega|(simp only[zl]<;>omega)|(simp only[zn])) only[cell_Mem_Load_1,↓zd,zk,seval,reduceIte,List.map,AV.cells,List.all,AV.one,eqV,eqAll,splice,fillA,List.replicate,resAll,resA]))
  have hrun:Fn [(50,amFunc G cell_Mem_access),(52,c_cell_Mem_Load_1)] cell_Mem_Load [.ptr i 0,.int .i64 a] (m.set i (plM (.mem s) i m.length).1++(plM (.mem s) i m.length).2) (fun v M=>v = .int .u64 o ∧
    ∃ lv' L',M=m.set i (.cells 8 false (rootL s1 lv' (cvA i m.length s1)))++L'∧(∀ R,LogAt m.length (m.set i R++L') lv' s1)∧L'[0]?=some (.cells 1 false (uC s1.cells))):=by
   refine Fn_of rfl ?_
   simp(disch:=first|assumption|omega|(simp only[zl]<;>omega)|(simp only[zn])) only[cell_Mem_Load,↓zd,zk,seval,reduceIte,List.map,AV.cells,List.all,AV.one,eqV,eqAll,splice,fillA,List.replicate,resAll,resA]
   have hl:=fun R=>logAt_pl (m:=m) (J:=[]) (i:=i) s R
   simp only[List.append_nil] at hl
   refine OK_fn (acc_run hi hl rfl h56 h71 (F:=c_cell_Mem_Load_1) hclo (fun w R=>hF w _) hacc) ?_
   rintro v M ⟨rfl,h⟩
   simp(disch:=first|assumption|omega|(simp only[zl]<;>omega)|(simp only[zn])) only[↓zd,zk,seval,reduceIte,List.map,AV.cells,List.all,AV.one,eqV,eqAll,splice,fillA,List.replicate,resAll,resA]
   exact h
  obtain⟨_,M,h1,rfl,lv',L',rfl,h2,h3⟩:=hrun
  obtain⟨k1,k2,h4⟩:=memAt_of hi h2 h3
  exact⟨rfl,_,k1,k2,h1,h4⟩
theorem meth_fold{f:AFun Ob} {step:MemSt→List AV→Option (AV × MemSt)} (h:∀ (m:MM) (i:Nat) (rest:List AV) (s s':MemSt) (v:AV),i < m.length→step s rest=some (v,s')→AV.ren no v=some v ∧
  ∃ M,f (.ptr i 0 :: rest) (m.set i (plM (.mem s) i m.length).1++(plM (.mem s) i m.length).2)=some (v,M)∧∃ lv' L',M=m.set i (.cells 8 false (rootL s' lv' (cvA i m.length s')))++L'∧(∀ R,LogAt m.length (m.set i R++L') lv' s')∧L'[0]?=some (.cells 1 false (uC s'.cells))) :
  Fold concM (unf 0 plM f) (memF step):=mem_fold fun m i rest s s' v hi hst=>by
 obtain⟨h1,M,h2,lv',L',rfl,h3,h4⟩:=h m i rest s s' v hi hst
 obtain⟨k1,k2,h5⟩:=memAt_of hi h3 h4
 exact⟨h1,_,k1,k2,h2,h5⟩
theorem pl_cells{m J:MM} {i:Nat} (s:MemSt):((plM (.mem s) i m.length).2++J)[0]?=some (.cells 1 false (uC s.cells)):=rfl
theorem pl_len{m:MM} {i:Nat} (s:MemSt):(plM (.mem s) i m.length).2.length=2:=rfl
def storeS(s:MemSt):List AV→Option (AV × MemSt)
 | [.int .i64 a,.int .u64 x]=>(accS 2 (fun _=>(x,true)) s a).map fun r=>(.tup [],r.2.2)
 | _=>none
set_option maxHeartbeats 4000000 in
theorem store_foldG{G:List (Nat × AFun Ob)} (h56:assoc G 56=some c_cell_Mem_there) (h71:assoc G 71=some c_cell_counts_note) (hclo:assoc G 49=some c_cell_Mem_Store_1):Fold concM (unf 0 plM (amFunc [(50,amFunc G cell_Mem_access),(49,c_cell_Mem_Store_1)] cell_Mem_Store)) (memF storeS):=meth_fold fun m i rest s s' v hi hst=>by
 unfold storeS at hst
 split at hst
 case h_2=>cases hst
 rename_i a x
 cases hacc:accS 2 (fun _=>(x,true)) s a with
 | none=>rw[hacc] at hst;cases hst
 | some r =>
  obtain⟨o,ok,s1⟩:=r
  rw[hacc] at hst
  simp only[Option.map_some,Option.some.injEq,Prod.mk.injEq] at hst
  obtain⟨rfl,rfl⟩:=hst
  have hp:=pl_len (m:=m) (i:=i) s
  have hg:∀ R,(m.set i R++((plM (.mem s) i m.length).2++[Chunk.cells 1 false [.int .u64 x]]))[m.length+2]?=some (Chunk.cells 1 false [.int .u64 x]):=fun R=>by rw[ms_mid];rfl
  have hF:∀ (w:Int) (R:Chunk Ob),c_cell_Mem_Store_1 [.int .u64 w,.ptr (m.length+2) 0] (m.set i R++((plM (.mem s) i m.length).2++[Chunk.cells 1 false [.int .u64 x]]))=some (.tup [.int .u64 x,.bool true],m.set i R++((plM (.mem s) i m.length).2++[Chunk.cells 1 false [.int .u64 x]])) :=
   fun w R=>Fn_eq (Fn_of rfl (by have hgR:=hg R;simp(disch:=first|assumption|omega|(simp only[zl]<;>omega)|(simp only[zn])) only[cell_Mem_Store_1,↓zd,zk,seval,reduceIte,List.map,AV.cells,List.all,AV.one,eqV,eqAll,splice,fillA,List.replicate,resAll,resA,hgR]))
  refine⟨rfl,?_⟩
  have hrun:Fn [(50,amFunc G cell_Mem_access),(49,c_cell_Mem_Store_1)] cell_Mem_Store [.ptr i 0,.int .i64 a,.int .u64 x] (m.set i (plM (.mem s) i m.length).1++(plM (.mem s) i m.length).2) (fun v M=>v = .tup [] ∧
    ∃ lv' L',M=m.set i (.cells 8 false (rootL s1 lv' (cvA i m.length s1)))++L'∧(∀ R,LogAt m.length (m.set i R++L') lv' s1)∧L'[0]?=some (.cells 1 false (uC s1.cells))):=by
   refine Fn_of rfl ?_
   simp(disch:=first|assumption|omega|(simp only[zl]<;>omega)|(simp only[zn])) only[cell_Mem_Store,↓zd,zk,seval,reduceIte,List.map,AV.cells,List.all,AV.one,eqV,eqAll,splice,fillA,List.replicate,resAll,resA,List.append_assoc,List.length_append,List.length_set,hp,List.take,List.drop]
   refine OK_fn (acc_run hi (fun R=>logAt_pl s R) (pl_cells s) h56 h71 (F:=c_cell_Mem_Store_1) hclo hF hacc) ?_
   rintro v M ⟨rfl,h⟩
   simp(disch:=first|assumption|omega|(simp only[zl]<;>omega)|(simp only[zn])) only[↓zd,zk,seval,reduceIte,List.map,AV.cells,List.all,AV.one,eqV,eqAll,splice,fillA,List.replicate,resAll,resA]
   first|exact h|exact⟨rfl,h⟩
  obtain⟨_,M,h1,rfl,h⟩:=hrun
  exact⟨M,h1,h⟩
def casS(s:MemSt):List AV→Option (AV × MemSt)
 | [.int .i64 a,.int .u64 x,.int .u64 y]=>(accS 3 (fun w=>if w=x then(y,true) else(w,false)) s a).map fun r=>(.bool r.2.1,r.2.2)
 | _=>none
set_option maxHeartbeats 4000000 in
theorem cas_foldG{G:List (Nat × AFun Ob)} (h56:assoc G 56=some c_cell_Mem_there) (h71:assoc G 71=some c_cell_counts_note) (hclo:assoc G 51=some c_cell_Mem_CAS_1):Fold concM (unf 0 plM (amFunc [(50,amFunc G cell_Mem_access),(51,c_cell_Mem_CAS_1)] cell_Mem_CAS)) (memF casS):=meth_fold fun m i rest s s' v hi hst=>by
 unfold casS at hst
 split at hst
 case h_2=>cases hst
 rename_i a x y
 cases hacc:accS 3 (fun w=>if w=x then(y,true) else(w,false)) s a with
 | none=>rw[hacc] at hst;cases hst
 | some r =>
  obtain⟨o,ok,s1⟩:=r
  rw[hacc] at hst
  simp only[Option.map_some,Option.some.injEq,Prod.mk.injEq] at hst
  obtain⟨rfl,rfl⟩:=hst
  have hp:=pl_len (m:=m) (i:=i) s
  have hg0:∀ R,(m.set i R++((plM (.mem s) i m.length).2++[Chunk.cells 1 false [.int .u64 x],Chunk.cells 1 false [.int .u64 y]]))[m.length+2]?=some (Chunk.cells 1 false [.int .u64 x]):=fun R=>by rw[ms_mid];rfl
  have hg1:∀ R,(m.set i R++((plM (.mem s) i m.length).2++[Chunk.cells 1 false [.int .u64 x],Chunk.cells 1 false [.int .u64 y]]))[m.length+3]?=some (Chunk.cells 1 false [.int .u64 y]):=fun R=>by rw[ms_mid];rfl
  have hF:∀ (w:Int) (R:Chunk Ob),c_cell_Mem_CAS_1 [.int .u64 w,.ptr (m.length+2) 0,.ptr (m.length+3) 0] (m.set i R++((plM (.mem s) i m.length).2++[Chunk.cells 1 false [.int .u64 x],Chunk.cells 1 false [.int .u64 y]]))=some (.tup [.int .u64 ((fun w=>if w=x then(y,true) else(w,false)) w).1,.bool ((fun w=>if w=x then(y,true) else(w,false)) w).2],m.set i R++((plM (.mem s) i m.length).2++[Chunk.cells 1 false [.int .u64 x],Chunk.cells 1 false [.int .u64 y]])) :=
   fun w R=>Fn_eq (Fn_of rfl (by have hgR0:=hg0 R;have hgR1:=hg1 R;simp(disch:=first|assumption|omega|(simp only[zl]<;>omega)|(simp only[zn])) only[cell_Mem_CAS_1,↓zd,zk,seval,reduceIte,List.map,AV.cells,List.all,AV.one,eqV,eqAll,splice,fillA,List.replicate,resAll,resA,hgR0,hgR1];(first|refine GK_of (fun h=>?_) (fun h=>?_)|refine CW_of (fun h=>?_) (fun h=>?_)|refine GKT_of (fun h=>?_) (fun h=>?_))<;>(try simp only[Bool.not_eq_true',Bool.not_eq_false',decide_eq_true_eq,decide_eq_false_iff_not,Bool.and_eq_true,Bool.or_eq_true,Bool.and_eq_false_iff,Bool.or_eq_false_iff,Decidable.not_not] at h)<;>simp(disch:=first|assumption|omega|(simp only[zl]<;>omega)|(simp only[zn])) only[↓zd,zk,seval,reduceIte,List.map,AV.cells,List.all,AV.one,eqV,eqAll,splice,fillA,List.replicate,resAll,resA,hgR0,hgR1]<;>simp_all))
  refine⟨rfl,?_⟩
  have hrun:Fn [(50,amFunc G cell_Mem_access),(51,c_cell_Mem_CAS_1)] cell_Mem_CAS [.ptr i 0,.int .i64 a,.int .u64 x,.int .u64 y] (m.set i (plM (.mem s) i m.length).1++(plM (.mem s) i m.length).2) (fun v M=>v = .bool ok ∧
    ∃ lv' L',M=m.set i (.cells 8 false (rootL s1 lv' (cvA i m.length s1)))++L'∧(∀ R,LogAt m.length (m.set i R++L') lv' s1)∧L'[0]?=some (.cells 1 false (uC s1.cells))):=by
   refine Fn_of rfl ?_
   simp(disch:=first|assumption|omega|(simp only[zl]<;>omega)|(simp only[zn])) only[cell_Mem_CAS,↓zd,zk,seval,reduceIte,List.map,AV.cells,List.all,AV.one,eqV,eqAll,splice,fillA,List.replicate,resAll,resA,List.append_assoc,List.length_append,List.length_set,hp,List.take,List.drop,List.cons_append,List.length_cons,List.length_nil]
   refine OK_fn (acc_run hi (fun R=>logAt_pl s R) (pl_cells s) h56 h71 (F:=c_cell_Mem_CAS_1) hclo hF hacc) ?_
   rintro v M ⟨rfl,h⟩
   simp(disch:=first|assumption|omega|(simp only[zl]<;>omega)|(simp only[zn])) only[↓zd,zk,seval,reduceIte,List.map,AV.cells,List.all,AV.one,eqV,eqAll,splice,fillA,List.replicate,resAll,resA]
   first|exact h|exact⟨rfl,h⟩
  obtain⟨_,M,h1,rfl,h⟩:=hrun
  exact⟨M,h1,h⟩
end Go.Am.F06
end
