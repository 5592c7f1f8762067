import Derived.Test.YtdfnfmocppgniaaXG15
import Derived.ProofKit
set_option linter.unusedSimpArgs false
set_option linter.unusedVariables false
section
namespace Go.Am
open Go.ChangeShapes Go.WideShapes Go.ChangeAt Go.RowKit
section
variable {H:Type} {enc:TypeId × Value→H} {P:Program}
theorem trodAll_below(hl:laidOutB P=true) {W W':World} (hb:Below W.heap.size W W'):∀ {ts:List TypeId} {vs:List Value} {ds:List (DataW H)} {p:List MemPlace},
  (∀ t,t ∈ ts→P.readableRec t=true∧t < P.types.size)→DataW.TrodAll enc P W 0 (fun _=>true) true ts vs ds p→(∀ x,x ∈ p→x.block < W.heap.size) →
  DataW.TrodAll enc P W' 0 (fun b=>decide (b < W.heap.size)) true ts vs ds p
 | [],vs,ds,p,_,h,_=>by
  obtain⟨rfl,rfl,rfl⟩:=trodAll_nil h
  exact rfl
 | t :: ts,vs,ds,p,ht,h,hp=>by
  obtain⟨v,vs',d,ds',p1,q1,rfl,rfl,rfl,h1,h2⟩:=trodAll_cons h
  have:=ht t (by simp)
  exact⟨p1,q1,Below.trod hl this.1 this.2 h1 hb (fun x hx=>hp x (by simp[hx])),trodAll_below hl hb (fun t h=>ht t (by simp[h])) h2 (fun x hx=>hp x (by simp[hx])),rfl⟩
theorem law_post{f:Func} {s:ChangeSpec} {W W':World} {args:Array Value} {ds gs:List (DataW H)} {before:List MemPlace} {tb:TypeId} (hW:DataW.Whole enc P f.params.toList s.vars false W args.toList ds gs before)
  (hvars:s.vars=[]) (hfn:(s.fn H (ds++gs))={ results:=[.lit (.bool true)],args:=ds }) (hres:f.resultTypes=#[tb]) (htb:P.underlying tb=some .bool) (hl:laidOutB P=true)
  (hr:∀ t,t ∈ f.params.toList→P.readableRec t=true∧t < P.types.size) (hb:Below W.heap.size W W'):s.post enc P f false true false false W args (.bool true) W':=by
 have hlt:∀ p ∈ before,p.block < W.heap.size:=fun p hp=>by simpa using hW.lt p hp
 have hW':=hW
 obtain⟨p,q,hA,hV,rfl,_,_⟩:=hW
 rw[hvars] at hV
 obtain⟨rfl,rfl⟩:=trodVars_none hV
 refine⟨ds,[],p++[],[],p,[],hW',?_,?_,?_,Below.frame hb _,fun h=>by cases h⟩
 ·rw[hfn,hres]
  exact trodAll_mk1 (shut_bool htb true)
 ·rw[hfn]
  exact trodAll_below hl hb hr hA (fun x hx=>hlt x (by simp[hx]))
 ·rw[hvars,hfn];rfl
end
section
variable {X:Type} {A:AbsSem X} {num:Nat→Nat} {P:Program}
theorem law_calls{k:FuncId} {f:AFun X} (hf:Sound A num P k f) {μ:Mu} {m:Mem X} {W:World} {args:List AV} {vs:List Value} {m':Mem X} (hS:Sim A num (fun _=>False) μ m W.heap) (hV:VRL num μ args vs) (h:f args m=some (.bool true,m')) :
  Calls P k vs.toArray W fun e W'=>e = .returned (.bool true)∧Below W.heap.size W W':=by
 refine(hf _ μ m W args vs _ m' hS hV h).mono fun e W' ⟨F',μ',cv,he,hv,_,hE⟩=>?_
 subst he
 cases hv
 exact⟨rfl,hE.os,hE.tape,hE.output,hE.size,fun c hc=>hE.keep c hc (fun h=>h)⟩
theorem sim_nil(H:Array Obj):Sim A num (fun _=>False) (fun _=>none) ([]:Mem X) H :=
 ⟨fun _=>none,⟨fun c i h=>(by cases h),fun c h=>False.elim h,fun _ _=>rfl,fun i c p h=>(by simp at h)⟩⟩
theorem known_nil:Known A num P ([]:List (Nat × AFun X)):=fun g f h=>by cases h
theorem known_cons{G:List (Nat × AFun X)} {g:Nat} {f:AFun X} (hc:callOk P (num g)=true) (hs:Sound A num P (num g) f) (hm:Mono f) (hG:Known A num P G):Known A num P ((g,f) :: G):=by
 intro g' f' h
 simp only[assoc] at h
 split at h
 ·rename_i he;subst he;injection h with h;subst h;exact⟨hc,hs,hm⟩
 ·exact hG g' f' h
end
end Go.Am
end
section
namespace Go.Am.F15
variable {X:Type}
def c_slices_AppendSeq_int:AFun X:=appendF 131
def c_fifo_Line_Has:AFun X:=amFunc [] fifo_Line_Has
def c_fifo_Line_fits:AFun X:=amFunc [(119,c_fifo_Line_Has)] fifo_Line_fits
def c_fifo_Line_Len:AFun X:=amFunc [] fifo_Line_Len
def c_fifo_Line_Head:AFun X:=amFunc [(105,c_fifo_Line_Len)] fifo_Line_Head
def c_fifo_Line_Remove:AFun X:=amFunc [(119,c_fifo_Line_Has)] fifo_Line_Remove
def c_slices_Collect_int:AFun X:=amFunc [(130,c_slices_AppendSeq_int)] slices_Collect_int
def c_kit_SameInts:AFun X:=amFunc [] kit_SameInts
def c_kit_Pick:AFun X:=amFunc [] kit_Pick
def c_ref14_Ahead:AFun X:=amFunc [] ref14_Ahead
def c_slices_Equal_int:AFun X:=amFunc [] slices_Equal_int
end Go.Am.F15
end
section
namespace Go.Am.F15
variable {X:Type}
theorem ev_mlen{G:List (Nat × AFun X)} {x:AV} {m:Mem X}:amOp G .mlen [x] m=match tabOf m x with|some l=>some (.int .i64 l.length,m)|none=>none:=rfl
theorem ev_mget{G:List (Nat × AFun X)} {x z:AV} {k:Int} {ok:Bool} {m:Mem X}:amOp G (.mget ok z) [x,.int .i64 k] m=match tabOf m x with|some l=>some (mgetA ok z (tabGet k l),m)|none=>none:=rfl
theorem len_nil{m:Mem X}:c_fifo_Line_Len [.nilp] m=some (.int .i64 0,m):=by
 refine Fn_eq (Fn_of rfl ?_)
 simp(disch:=first|assumption|omega|(simp only[zl]<;>omega)|(simp only[zn])) only[fifo_Line_Len,↓zd,zk,seval,reduceIte,List.map,AV.cells,List.all,AV.one,eqV,eqAll,splice,fillA,List.replicate,resAll,resA]
theorem len_run{m:Mem X} {i z:Nat} {ro:Bool} {lk h t:AV} {tb:List (Int × Nat × AV)} (gi:m[i]?=some (.cells z ro [lk,h,t])) (gt:tabOf m lk=some tb):c_fifo_Line_Len [.ptr i 0] m=some (.int .i64 tb.length,m):=by
 refine Fn_eq (Fn_of rfl ?_)
 simp(disch:=first|assumption|omega|(simp only[zl]<;>omega)|(simp only[zn])) only[fifo_Line_Len,↓zd,zk,seval,reduceIte,List.map,AV.cells,List.all,AV.one,eqV,eqAll,splice,fillA,List.replicate,resAll,resA,gi,ev_mlen,gt]
theorem as1{g:Nat} {f:AFun X} {G:List (Nat × AFun X)}:assoc ((g,f) :: G) g=some f:=if_pos rfl
theorem head_nil{m:Mem X}:c_fifo_Line_Head [.nilp] m=some (.tup [.int .i64 0,.bool false],m):=by
 refine Fn_eq (Fn_of rfl ?_)
 simp(disch:=first|assumption|omega|(simp only[zl]<;>omega)|(simp only[zn])) only[fifo_Line_Head,↓zd,zk,seval,reduceIte,List.map,AV.cells,List.all,AV.one,eqV,eqAll,splice,fillA,List.replicate,resAll,resA,as1,len_nil]
theorem head_none{m:Mem X} {i z:Nat} {ro:Bool} {lk h t:AV} (gi:m[i]?=some (.cells z ro [lk,h,t])) (gt:tabOf m lk=some []):c_fifo_Line_Head [.ptr i 0] m=some (.tup [.int .i64 0,.bool false],m):=by
 have hl:c_fifo_Line_Len [.ptr i 0] m=some (.int .i64 0,m):=len_run gi gt
 refine Fn_eq (Fn_of rfl ?_)
 simp(disch:=first|assumption|omega|(simp only[zl]<;>omega)|(simp only[zn])) only[fifo_Line_Head,↓zd,zk,seval,reduceIte,List.map,AV.cells,List.all,AV.one,eqV,eqAll,splice,fillA,List.replicate,resAll,resA,as1,hl]
theorem head_run{m:Mem X} {i z:Nat} {ro:Bool} {lk t:AV} {h:AV} {e:Int × Nat × AV} {tb:List (Int × Nat × AV)} (gi:m[i]?=some (.cells z ro [lk,h,t])) (gt:tabOf m lk=some (e :: tb)):c_fifo_Line_Head [.ptr i 0] m=some (.tup [h,.bool true],m):=by
 have hl:c_fifo_Line_Len [.ptr i 0] m=some (.int .i64 ((tb.length:Int)+1),m):=len_run gi gt
 have h0:(((tb.length:Int)+1) == 0)=false:=by simp;omega
 refine Fn_eq (Fn_of rfl ?_)
 simp(disch:=first|assumption|omega|(simp only[zl]<;>omega)|(simp only[zn])) only[fifo_Line_Head,↓zd,zk,seval,reduceIte,List.map,AV.cells,List.all,AV.one,eqV,eqAll,splice,fillA,List.replicate,resAll,resA,as1,hl,gi,h0]
def eachA:AC:=match fifo_Line_each_1.body with | .seq a _=>a|_=>.skip
def eachB:AC:=match fifo_Line_each_1.body with | .seq _ (.block _ (.loop (.seq (.seq b _) _)))=>b|_=>.skip
def eachC:AC:=match fifo_Line_each_1.body with | .seq _ (.block _ (.loop (.seq (.seq _ c) _)))=>c|_=>.skip
def eachD:AC:=match fifo_Line_each_1.body with | .seq _ (.block _ (.loop (.seq _ d)))=>d|_=>.skip
theorem each_body:fifo_Line_each_1.body = .seq eachA (.block 0 (.loop (.seq (.seq eachB eachC) eachD))):=rfl
def At(M:Mem X) (fp:AV) (x:Int) (ok:Bool) (rest:List Int):Prop :=
 (ok=false∧rest=[])∨(ok=true∧∃ i z ro lk h t tb n,fp = .ptr i 0∧M[i]?=some (.cells z ro [lk,.int .i64 h,.int .i64 t])∧tabOf M lk=some tb∧chase tb n x=some rest)
end Go.Am.F15
end
section
namespace Go.Am.F15
variable {X:Type}
def GE14:List (Nat × AFun X):=[(118,c_fifo_Line_Head)]
theorem eachA_run14{M:Mem X} {l b z:Nat} {ro:Bool} {fp:AV} {xs:List Int} (hb:M[b]?=some (.cells z ro [fp])) (hr:lineRows M fp=some xs) :
  W GE14 eachA (fun x e' m'=>∃ x0 ok,x = .normal∧e'=[.yld l,.ptr b 0,.int .i64 x0,.bool ok,.skip,.skip]∧m'=M∧At M fp x0 ok xs) [.yld l,.ptr b 0,.skip,.skip,.skip,.skip] M:=by
 have a118:assoc (GE14 (X:=X)) 118=some c_fifo_Line_Head:=rfl
 generalize (GE14 (X:=X))=G at a118 ⊢
 unfold lineRows at hr
 split at hr
 ·injection hr with hr;subst hr
  simp(disch:=first|assumption|omega|(simp only[zl]<;>omega)|(simp only[zn])) only[eachA,fifo_Line_each_1,↓zd,zk,seval,reduceIte,List.map,AV.cells,List.all,AV.one,eqV,eqAll,splice,fillA,List.replicate,resAll,resA,hb,a118,head_nil]
  exact⟨_,_,rfl,.inl ⟨rfl,rfl⟩⟩
 ·rename_i i
  split at hr
  ·rename_i z' ro' cs hg
   have gi:=getC_some hg
   unfold lineCs at hr
   split at hr
   ·rename_i lk h t
    split at hr
    ·rename_i ht
     injection hr with hr;subst hr
     simp(disch:=first|assumption|omega|(simp only[zl]<;>omega)|(simp only[zn])) only[eachA,fifo_Line_each_1,↓zd,zk,seval,reduceIte,List.map,AV.cells,List.all,AV.one,eqV,eqAll,splice,fillA,List.replicate,resAll,resA,hb,a118,head_none gi ht]
     exact⟨_,_,rfl,.inl ⟨rfl,rfl⟩⟩
    ·rename_i e tb ht
     simp(disch:=first|assumption|omega|(simp only[zl]<;>omega)|(simp only[zn])) only[eachA,fifo_Line_each_1,↓zd,zk,seval,reduceIte,List.map,AV.cells,List.all,AV.one,eqV,eqAll,splice,fillA,List.replicate,resAll,resA,hb,a118,head_run gi ht]
     exact⟨_,_,rfl,.inr ⟨rfl,i,z',ro',lk,h,t,e :: tb,_,rfl,gi,ht,hr⟩⟩
    ·cases hr
   ·cases hr
  ·cases hr
 ·cases hr
theorem eachB_run14{M:Mem X} {l b:Nat} {x:Int} {u v:AV}:W GE14 (.seq eachB eachC) (fun x e' m'=>x = .exit 0∧m'=M) [.yld l,.ptr b 0,.int .i64 x,.bool false,u,v] M:=by
 simp(disch:=first|assumption|omega|(simp only[zl]<;>omega)|(simp only[zn])) only[eachB,eachC,fifo_Line_each_1,↓zd,zk,seval,reduceIte,List.map,AV.cells,List.all,AV.one,eqV,eqAll,splice,fillA,List.replicate,resAll,resA]
theorem eachD_run14{M:Mem X} {l b z:Nat} {ro:Bool} {fp:AV} {x:Int} {rest:List Int} {u v:AV} (hb:M[b]?=some (.cells z ro [fp])) (hr:At M fp x true rest) :
  ∃ rest',rest=x :: rest'∧W GE14 eachD (fun y e' m'=>∃ x0 ok w u,y = .normal∧e'=[.yld l,.ptr b 0,.int .i64 x0,.bool ok,w,u]∧(∃ K,m'=M++K)∧At M fp x0 ok rest') [.yld l,.ptr b 0,.int .i64 x,.bool true,u,v] M:=by
 obtain⟨h,_⟩|⟨_,i,z',ro',lk,h,t,tb,n,rfl,gi,ht,hc⟩:=hr
 ·cases h
 cases n with
 | zero=>cases hc
 | succ n =>
 simp only[chase,zlink] at hc
 split at hc
 ·rename_i a b' ia ib hl
  have lb:=(List.getElem?_eq_some_iff.1 hb).1
  have li:=(List.getElem?_eq_some_iff.1 gi).1
  cases ib with
  | true =>
   simp only[if_true] at hc
   split at hc
   ·rename_i r hr
    injection hc with hc;subst hc
    refine⟨r,rfl,?_⟩
    simp(disch:=first|assumption|omega|(simp only[zl]<;>omega)|(simp only[zn])) only[eachD,fifo_Line_each_1,↓zd,zk,seval,reduceIte,List.map,AV.cells,List.all,AV.one,eqV,eqAll,splice,fillA,List.replicate,resAll,resA,zm,zg,hb,gi,ev_mget,ht,mgetA,hl]
    exact⟨_,_,_,_,rfl,⟨_,rfl⟩,.inr ⟨rfl,i,z',ro',lk,h,t,tb,n,rfl,gi,ht,hr⟩⟩
   ·cases hc
  | false =>
   simp only[Bool.false_eq_true,if_false] at hc
   injection hc with hc;subst hc
   refine⟨[],rfl,?_⟩
   simp(disch:=first|assumption|omega|(simp only[zl]<;>omega)|(simp only[zn])) only[eachD,fifo_Line_each_1,↓zd,zk,seval,reduceIte,List.map,AV.cells,List.all,AV.one,eqV,eqAll,splice,fillA,List.replicate,resAll,resA,zm,zg,hb,gi,ev_mget,ht,mgetA,hl]
   exact⟨_,_,_,_,rfl,⟨_,rfl⟩,.inl ⟨rfl,rfl⟩⟩
 ·cases hc
end Go.Am.F15
end
section
namespace Go.Am.F15
abbrev Tab:=List (Int × Nat × AV)
def tks(l:Tab):List Int:=l.map (·.1)
theorem get_iff{k:Int}:∀ {l:Tab},(∃ v,tabGet k l=some v) ↔ k ∈ tks l
 | []=>by simp[tabGet,tks]
 | (a,b,w) :: l=>by
  by_cases h:k=a
  ·subst h;simp[tabGet,tks]
  ·have:=get_iff (k:=k) (l:=l)
   simp only[tabGet,if_neg h,tks,List.map_cons,List.mem_cons,this]
   simp[h,tks]
theorem get_none{k:Int} {l:Tab}:tabGet k l=none ↔ k ∉ tks l:=by
 rw[← get_iff]
 cases tabGet k l<;>simp
theorem born_none{k:Int}:∀ {l:Tab},tabGet k l=none→tabBorn k l=none
 | [],_=>rfl
 | (a,b,w) :: l,h=>by
  by_cases e:k=a
  ·simp[tabGet,e] at h
  ·simp only[tabGet,if_neg e] at h
   simp only[tabBorn,if_neg e]
   exact born_none h
theorem get_set(k k':Int) (v:AV) (c:Nat):∀ l:Tab,tabGet k (tabSet k' v c l)=if k=k' then some v else tabGet k l
 | []=>by simp only[tabSet,tabGet]
 | (a,b,w) :: l=>by
  simp only[tabSet]
  split
  ·rename_i h;subst h
   simp only[tabGet]
   split<;>rfl
  ·rename_i h
   simp only[tabGet,get_set k k' v c l]
   by_cases h1:k=a
   ·subst h1
    rw[if_pos rfl,if_neg (fun e=>h e.symm),if_pos rfl]
   ·rw[if_neg h1,if_neg h1]
theorem keys_set{k:Int} {v:AV} {c:Nat}:∀ {l:Tab},k ∈ tks l→tks (tabSet k v c l)=tks l
 | [],h=>by simp[tks] at h
 | (a,b,w) :: l,h=>by
  simp only[tabSet]
  split
  ·rename_i e;subst e;rfl
  ·rename_i e
   have:k ∈ tks l:=by
    simp only[tks,List.map_cons,List.mem_cons] at h
    rcases h with h|h
    ·exact absurd h e
    ·exact h
   simp only[tks,List.map_cons,List.cons.injEq,true_and]
   exact keys_set this
theorem born_set{k:Int} {v:AV} {c d:Nat}:∀ {l:Tab},k ∈ tks l→(∀ e ∈ l,e.2.1 < d)→∀ e ∈ tabSet k v c l,e.2.1 < d
 | [],h,_=>by simp[tks] at h
 | (a,b,w) :: l,h,hb=>by
  simp only[tabSet]
  split
  ·intro e he
   simp only[List.mem_cons] at he
   rcases he with rfl|he
   ·exact hb (a,b,w) List.mem_cons_self
   ·exact hb e (List.mem_cons_of_mem _ he)
  ·rename_i hne
   have:k ∈ tks l:=by
    simp only[tks,List.map_cons,List.mem_cons] at h
    rcases h with h|h
    ·exact absurd h hne
    ·exact h
   intro e he
   simp only[List.mem_cons] at he
   rcases he with rfl|he
   ·exact hb _ List.mem_cons_self
   ·exact born_set this (fun e he=>hb e (List.mem_cons_of_mem _ he)) e he
theorem keys_del{k:Int}:∀ {l:Tab},tks (tabDel k l)=(tks l).erase k
 | []=>rfl
 | (a,b,w) :: l=>by
  simp only[tabDel]
  split
  ·rename_i h;subst h;simp[tks]
  ·rename_i h
   simp only[tks,List.map_cons]
   rw[List.erase_cons_tail (by simpa using fun e=>h e.symm)]
   simp only[List.cons.injEq,true_and]
   exact keys_del
theorem get_del{k k':Int}:∀ {l:Tab},(tks l).Nodup→tabGet k (tabDel k' l)=if k=k' then none else tabGet k l
 | [],_=>by simp[tabDel,tabGet]
 | (a,b,w) :: l,h=>by
  simp only[tks,List.map_cons,List.nodup_cons] at h
  simp only[tabDel]
  split
  ·rename_i e;subst e
   split
   ·rename_i e;subst e;exact get_none.2 h.1
   ·rename_i e;simp only[tabGet,if_neg e]
  ·rename_i e
   simp only[tabGet,get_del (k:=k) (k':=k') h.2]
   by_cases e1:k=a
   ·subst e1;rw[if_pos rfl,if_neg (fun h=>e h.symm),if_pos rfl]
   ·rw[if_neg e1,if_neg e1]
theorem mem_del{k:Int} {e:Int × Nat × AV}:∀ {l:Tab},e ∈ tabDel k l→e ∈ l
 | [],h=>h
 | (a,b,w) :: l,h=>by
  simp only[tabDel] at h
  split at h
  ·exact List.mem_cons_of_mem _ h
  ·simp only[List.mem_cons] at h ⊢
   rcases h with h|h
   ·exact .inl h
   ·exact .inr (mem_del h)
theorem put_new{x:Int} {c:Nat} {z v:AV}:∀ {l:Tab},(∀ e ∈ l,e.2.1 < c)→tabPut (c:Int) v (l++[(x,c,z)])=some (l++[(x,c,v)])
 | [],_=>by simp[tabPut]
 | (a,b,w) :: l,h=>by
  have h1:b < c:=h _ List.mem_cons_self
  have:=put_new (x:=x) (z:=z) (v:=v) (fun e he=>h e (List.mem_cons_of_mem _ he))
  simp only[List.cons_append,tabPut]
  rw[if_neg (by omega),this]
theorem get_app{k x:Int} {c:Nat} {v:AV}:∀ {l:Tab},tabGet k (l++[(x,c,v)])=match tabGet k l with|some u=>some u|none=>if k=x then some v else none
 | []=>by simp[tabGet]
 | (a,b,w) :: l=>by
  simp only[List.cons_append,tabGet]
  split
  ·rfl
  ·exact get_app
def lkv(p q:List Int) (a b:Int):AV:=.agg [.int .i64 a,.int .i64 b,.bool (!p.isEmpty),.bool (!q.isEmpty)]
def Lk(xs:List Int) (k:Int) (v:AV):Prop:=∃ p q a b,xs=p++k :: q∧v=lkv p q a b∧(∀ y r,p=r++[y]→a=y)∧(∀ y r,q=y :: r→b=y)
structure Ln (tb:Tab) (c:Nat) (h t:Int) (xs:List Int):Prop where
 nd:xs.Nodup
 keys:(tks tb).Perm xs
 born:∀ e ∈ tb,e.2.1 < c
 link:∀ k v,tabGet k tb=some v→Lk xs k v
 head:∀ x r,xs=x :: r→h=x
 tail:∀ x r,xs=r++[x]→t=x
theorem split_one{x:Int}:∀ {p q p' q':List Int},(p++x :: q).Nodup→p++x :: q=p'++x :: q'→p=p'∧q=q'
 | [],q,[],q',_,h=>by simpa using h
 | [],q,y :: p',q',nd,h=>by
  simp only[List.nil_append,List.cons_append,List.cons.injEq] at h
  obtain⟨rfl,rfl⟩:=h
  simp at nd
 | y :: p,q,[],q',nd,h=>by
  simp only[List.nil_append,List.cons_append,List.cons.injEq] at h
  obtain⟨rfl,rfl⟩:=h
  simp at nd
 | y :: p,q,z :: p',q',nd,h=>by
  simp only[List.cons_append,List.cons.injEq] at h
  obtain⟨rfl,h⟩:=h
  simp only[List.cons_append,List.nodup_cons] at nd
  obtain⟨rfl,rfl⟩:=split_one nd.2 h
  exact⟨rfl,rfl⟩
section
variable {tb:Tab} {c:Nat} {h t:Int} {xs:List Int}
theorem Ln.len(H:Ln tb c h t xs):tb.length=xs.length:=by
 have:=H.keys.length_eq
 simpa [tks] using this
theorem Ln.mem(H:Ln tb c h t xs) {k:Int}:(∃ v,tabGet k tb=some v) ↔ k ∈ xs:=get_iff.trans H.keys.mem_iff
theorem Ln.none(H:Ln tb c h t xs) {k:Int}:tabGet k tb=none ↔ k ∉ xs:=by rw[get_none,H.keys.mem_iff]
theorem Ln.isSome(H:Ln tb c h t xs) (k:Int):(tabGet k tb).isSome=decide (k ∈ xs):=by
 by_cases hk:k ∈ xs
 ·obtain⟨v,hv⟩:=H.mem.2 hk
  rw[hv];simp[hk]
 ·rw[H.none.2 hk];simp[hk]
theorem Ln.at(H:Ln tb c h t xs) {p q:List Int} {x:Int} (hx:xs=p++x :: q):∃ a b,tabGet x tb=some (lkv p q a b)∧(∀ y r,p=r++[y]→a=y)∧(∀ y r,q=y :: r→b=y):=by
 obtain⟨v,hv⟩:=H.mem.2 (show x ∈ xs by rw[hx];simp)
 obtain⟨p',q',a,b,h1,rfl,h2,h3⟩:=H.link x v hv
 obtain⟨rfl,rfl⟩:=split_one (hx ▸ H.nd) (hx.symm.trans h1)
 exact⟨a,b,hv,h2,h3⟩
theorem Ln.shape(H:Ln tb c h t xs) (k:Int):∃ a b ia ib,(tabGet k tb).getD zlink = .agg [.int .i64 a,.int .i64 b,.bool ia,.bool ib]:=by
 cases hg:tabGet k tb with
 | none=>exact⟨_,_,_,_,rfl⟩
 | some v =>
  obtain⟨p,q,a,b,_,rfl,_⟩:=H.link k v hg
  exact⟨_,_,_,_,rfl⟩
theorem Ln.chase(H:Ln tb c h t xs):∀ (q:List Int) {p:List Int} {x:Int} {n:Nat},xs=p++x :: q→q.length < n→chase tb n x=some (x :: q)
 | [],p,x,n+1,hx,_=>by
  obtain⟨a,b,hv,_,_⟩:=H.at hx
  simp only[Go.Am.chase,hv,Option.getD_some,lkv]
  simp
 | y :: q,p,x,n+1,hx,hn=>by
  obtain⟨a,b,hv,_,h3⟩:=H.at hx
  obtain rfl:=h3 y q rfl
  have:=Ln.chase H q (p:=p++[x]) (x:=b) (n:=n) (by rw[hx];simp) (by simp at hn;omega)
  simp only[Go.Am.chase,hv,Option.getD_some,lkv]
  simp[this]
theorem Ln.nil(c:Nat) (h t:Int):Ln [] c h t []:=⟨List.nodup_nil,.refl _,fun e he=>by simp at he,fun k v hv=>by simp[tabGet] at hv,fun x r h=>by simp at h,fun x r h=>by simp at h⟩
theorem Ln.push_first(H:Ln tb c h t []) (x:Int) (t':Int):tb=[]∧Ln [(x,c,.agg [.int .i64 0,.int .i64 0,.bool false,.bool false])] (c+1) x x [x]:=by
 have h0:tb=[]:=List.eq_nil_of_length_eq_zero (by have:=H.len;simpa using this)
 refine⟨h0,by simp,.refl _,fun e he=>by simp at he;subst he;simp,fun k v hv=>?_,fun y r h=>by simp at h;exact h.1,fun y r h=>?_⟩
 ·simp only[tabGet] at hv
  split at hv
  ·rename_i hk;subst hk
   injection hv with hv;subst hv
   exact⟨[],[],0,0,rfl,rfl,fun y r h=>by simp at h,fun y r h=>by simp at h⟩
  ·cases hv
 ·cases r with
  | nil=>simpa using h
  | cons a r=>simp at h
theorem Ln.push(H:Ln tb c h t xs) {r:List Int} (hr:xs=r++[t]) {x:Int} (hx:x ∉ xs) {a b:Int} {c':Nat} (hv:tabGet t tb=some (lkv r [] a b)) (ha:∀ y s,r=s++[y]→a=y) :
  Ln (tabSet t (.agg [.int .i64 a,.int .i64 x,.bool (!r.isEmpty),.bool true]) c' tb++[(x,c,.agg [.int .i64 t,.int .i64 0,.bool true,.bool false])]) (c+1) h x (xs++[x]):=by
 have hkt:t ∈ tks tb:=get_iff.1 ⟨_,hv⟩
 have hxt:x≠t:=fun e=>hx (by rw[hr,e];simp)
 refine⟨?_,?_,fun e he=>?_,fun k v hk=>?_,fun y s hs=>?_,fun y s hs=>?_⟩
 ·rw[List.nodup_append]
  exact⟨H.nd,by simp,fun y hy z hz=>by simp at hz;subst hz;exact fun e=>hx (e ▸ hy)⟩
 ·have:tks (tabSet t (.agg [.int .i64 a,.int .i64 x,.bool (!r.isEmpty),.bool true]) c' tb++[(x,c,.agg [.int .i64 t,.int .i64 0,.bool true,.bool false])])=tks tb++[x]:=by
   unfold tks
   rw[List.map_append]
   exact congrArg (·++[x]) (keys_set hkt)
  rw[this]
  exact H.keys.append_right _
 ·rw[List.mem_append] at he
  rcases he with he|he
  ·have:=born_set hkt H.born e he;omega
  ·simp at he;subst he;simp
 ·rw[get_app,get_set] at hk
  by_cases e1:k=t
  ·subst e1
   rw[if_pos rfl] at hk
   injection hk with hk;subst hk
   refine⟨r,[x],a,x,by rw[hr];simp,by simp[lkv],ha,fun y s h=>by simp at h;exact h.1⟩
  ·rw[if_neg e1] at hk
   cases hg:tabGet k tb with
   | some u =>
    rw[hg] at hk
    injection hk with hk;subst hk
    obtain⟨p,q,a',b',h1,rfl,h2,h3⟩:=H.link k _ hg
    have hq:q≠[]:=fun e=>by
     subst e
     rw[h1] at hr
     exact e1 (List.append_inj_right' hr rfl |> fun h=>by simpa using h)
    obtain⟨z,q',rfl⟩:=List.exists_cons_of_ne_nil hq
    refine⟨p,z :: q'++[x],a',b',by rw[h1];simp,by simp[lkv],h2,fun y s h=>h3 y q' (by simp at h;rw[h.1])⟩
   | none =>
    rw[hg] at hk
    simp only at hk
    split at hk
    ·rename_i e;subst e
     injection hk with hk;subst hk
     refine⟨xs,[],t,0,rfl,?_,fun y s h=>?_,fun y s h=>by simp at h⟩
     ·have:xs.isEmpty=false:=by rw[hr];simp
      simp[lkv,this]
     ·rw[hr] at h
      exact(List.append_inj_right' h rfl |> fun h=>by simpa using h)
    ·cases hk
 ·cases xs with
  | nil=>simp at hr
  | cons z zs =>
   simp only[List.cons_append,List.cons.injEq] at hs
   rw[← hs.1];exact H.head z zs rfl
 ·have:=List.append_inj_right' hs rfl
  simpa using this
end
end Go.Am.F15
end
section
namespace Go.Am.F15
theorem Lk.drop{p q:List Int} {x k:Int} {v:AV} (h:Lk (p++x :: q) k v) (nd:(p++x :: q).Nodup) (hx:k≠x) (hp:∀ r,p≠r++[k]) (hq:∀ s,q≠k :: s):Lk (p++q) k v:=by
 obtain⟨p1,q1,a,b,h1,rfl,h2,h3⟩:=h
 rcases List.append_eq_append_iff.1 h1 with⟨l,e1,e2⟩|⟨l,e1,e2⟩
 ·cases l with
  | nil =>
   simp only[List.nil_append,List.cons.injEq] at e2
   exact absurd e2.1.symm hx
  | cons z l =>
   simp only[List.cons_append,List.cons.injEq] at e2
   obtain⟨rfl,e2⟩:=e2
   cases l with
   | nil =>
    simp only[List.nil_append] at e2
    exact absurd e2 (hq _)
   | cons y l =>
    subst e1
    refine⟨p++y :: l,q1,a,b,by rw[e2];simp,?_,fun w r hw=>?_,h3⟩
    ·have h5:(p++x :: y :: l).isEmpty=false:=by cases p<;>rfl
     have h6:(p++y :: l).isEmpty=false:=by cases p<;>rfl
     simp only[lkv,h5,h6]
    ·rcases List.eq_nil_or_concat (y :: l) with h|⟨l',z',h⟩
     ·cases h
     ·rw[h] at hw h2
      have hz:z'=w:=by
       have:=List.append_inj_right' (show (p++l')++[z']=r++[w] by simpa using hw) rfl
       simpa using this
      exact(h2 z' (p++x :: l') (by simp)).trans hz
 ·cases l with
  | nil =>
   simp only[List.nil_append,List.cons.injEq] at e2
   exact absurd e2.1 hx
  | cons z l =>
   simp only[List.cons_append,List.cons.injEq] at e2
   obtain⟨rfl,e2⟩:=e2
   cases l with
   | nil=>exact absurd e1 (hp _)
   | cons y l =>
    subst e1;subst e2
    refine⟨p1,y :: l++q,a,b,by simp,by simp[lkv],h2,fun w s hw=>h3 w (l++x :: q) ?_⟩
    simp only[List.cons_append,List.cons.injEq] at hw ⊢
    exact⟨hw.1,trivial⟩
section
variable {tb:Tab} {c:Nat} {h t:Int} {p q:List Int} {x a b:Int}
theorem Ln.cut(H:Ln tb c h t (p++x :: q)) {tb3:Tab} {h3 t3:Int} (hk:tks tb3=(tks tb).erase x) (hb:∀ e ∈ tb3,e.2.1 < c) (hg:∀ k v,tabGet k tb3=some v→Lk (p++q) k v)
  (hh:∀ y r,p++q=y :: r→h3=y) (ht:∀ y r,p++q=r++[y]→t3=y):Ln tb3 c h3 t3 (p++q):=by
 have nd:=H.nd
 rw[List.nodup_append] at nd
 obtain⟨n1,n2,n3⟩:=nd
 rw[List.nodup_cons] at n2
 have hxp:x ∉ p:=fun hm=>n3 x hm x (by simp) rfl
 refine⟨?_,?_,hb,hg,hh,ht⟩
 ·rw[List.nodup_append]
  exact⟨n1,n2.2,fun y hy z hz=>n3 y hy z (by simp[hz])⟩
 ·rw[hk]
  refine(H.keys.erase x).trans ?_
  rw[List.erase_append_right _ hxp,List.erase_cons_head]
theorem Ln.none_x(H:Ln tb c h t (p++x :: q)) {k:Int} {v:AV} (hg:tabGet k (tabDel x tb)=some v):k≠x∧tabGet k tb=some v:=by
 have nd:(tks tb).Nodup:=H.keys.nodup_iff.2 H.nd
 rw[get_del nd] at hg
 split at hg
 ·cases hg
 ·exact⟨‹_›,hg⟩
theorem Ln.cut00(H:Ln tb c h t ([]++x :: [])) (b' a':Int):Ln (tabDel x tb) c b' a' ([]++[]) :=
 H.cut keys_del (fun e he=>H.born e (mem_del he)) (fun k v hg=>by
  obtain⟨h1,h2⟩:=H.none_x hg
  exact(H.link k v h2).drop H.nd h1 (fun r e=>by simp at e) (fun s e=>by cases e)) (fun y r e=>by cases e) (fun y r e=>by simp at e)
theorem Ln.getp(H:Ln tb c h t (p++x :: q)) {r:List Int} {a:Int} (hp:p=r++[a]):∃ a2,tabGet a (tabDel x tb)=some (.agg [.int .i64 a2,.int .i64 x,.bool (!r.isEmpty),.bool true])∧(∀ y s,r=s++[y]→a2=y)∧a≠x:=by
 obtain⟨a2,b2,h1,h2,h3⟩:=H.at (p:=r) (x:=a) (q:=x :: q) (by rw[hp];simp)
 obtain rfl:=h3 x q rfl
 have hne:a≠b2:=fun e=>by
  have:=H.nd
  rw[hp,e,List.append_assoc,List.nodup_append] at this
  have:=this.2.1
  simp at this
 have nd:(tks tb).Nodup:=H.keys.nodup_iff.2 H.nd
 exact⟨a2,by rw[get_del nd,if_neg hne,h1];rfl,h2,hne⟩
theorem Ln.getq(H:Ln tb c h t (p++x :: q)) {s:List Int} {b:Int} (hq:q=b :: s):∃ a3 b3,tabGet b (tabDel x tb)=some (.agg [.int .i64 a3,.int .i64 b3,.bool true,.bool (!s.isEmpty)])∧(∀ y s',s=y :: s'→b3=y)∧b≠x:=by
 obtain⟨a3,b3,h1,h2,h3⟩:=H.at (p:=p++[x]) (x:=b) (q:=s) (by rw[hq];simp)
 have hne:b≠x:=fun e=>by
  have:=H.nd
  rw[hq,e,List.nodup_append] at this
  have:=this.2.1
  simp at this
 have nd:(tks tb).Nodup:=H.keys.nodup_iff.2 H.nd
 refine⟨a3,b3,?_,h3,hne⟩
 rw[get_del nd,if_neg hne,h1]
 have:(p++[x]).isEmpty=false:=by cases p<;>rfl
 simp[lkv,this]
theorem Ln.cut10{r:List Int} (H:Ln tb c h t (r++[a]++x :: [])) {a2 b':Int} {c':Nat} (hg:tabGet a (tabDel x tb)=some (.agg [.int .i64 a2,.int .i64 x,.bool (!r.isEmpty),.bool true])) (h2:∀ y s,r=s++[y]→a2=y) :
  Ln (tabSet a (.agg [.int .i64 a2,.int .i64 b',.bool (!r.isEmpty),.bool false]) c' (tabDel x tb)) c h a (r++[a]++[]):=by
 have hm:a ∈ tks (tabDel x tb):=get_iff.1 ⟨_,hg⟩
 refine H.cut (by rw[keys_set hm,keys_del]) (born_set hm fun e he=>H.born e (mem_del he)) (fun k v hk=>?_) (fun y s e=>?_) (fun y s e=>?_)
 ·rw[get_set] at hk
  split at hk
  ·rename_i e;subst e
   injection hk with hk;subst hk
   exact⟨r,[],a2,b',by simp,by simp[lkv],h2,fun y s h=>by simp at h⟩
  ·rename_i hka
   obtain⟨h3,h4⟩:=H.none_x hk
   exact(H.link k v h4).drop H.nd h3 (fun s e=>hka (by have:=List.append_inj_right' e rfl;simpa using this.symm)) (fun s e=>by cases e)
 ·cases r with
  | nil=>exact H.head y [x] (by simp at e ⊢;exact e.1)
  | cons z r=>exact H.head y (r++[a]++[x]) (by simp at e ⊢;exact e.1)
 ·have:=List.append_inj_right' (show r++[a]=s++[y] by simpa using e) rfl
  simpa using this
theorem Ln.cut01{s:List Int} (H:Ln tb c h t ([]++x :: (b :: s))) {a' a3 b3:Int} {c':Nat} (hg:tabGet b (tabDel x tb)=some (.agg [.int .i64 a3,.int .i64 b3,.bool true,.bool (!s.isEmpty)])) (h2:∀ y s',s=y :: s'→b3=y) :
  Ln (tabSet b (.agg [.int .i64 a',.int .i64 b3,.bool false,.bool (!s.isEmpty)]) c' (tabDel x tb)) c b t ([]++b :: s):=by
 have hm:b ∈ tks (tabDel x tb):=get_iff.1 ⟨_,hg⟩
 refine H.cut (by rw[keys_set hm,keys_del]) (born_set hm fun e he=>H.born e (mem_del he)) (fun k v hk=>?_) (fun y s' e=>?_) (fun y r e=>?_)
 ·rw[get_set] at hk
  split at hk
  ·rename_i e;subst e
   injection hk with hk;subst hk
   exact⟨[],s,a',b3,rfl,by simp[lkv],fun y r h=>by simp at h,h2⟩
  ·rename_i hkb
   obtain⟨h3,h4⟩:=H.none_x hk
   exact(H.link k v h4).drop H.nd h3 (fun r e=>by simp at e) (fun s' e=>hkb (by simp at e;exact e.1.symm))
 ·simp at e;exact e.1
 ·exact H.tail y (x :: r) (by simp at e ⊢;exact e)
theorem Ln.cut11{r s:List Int} (H:Ln tb c h t (r++[a]++x :: (b :: s))) {a2 a3 b3:Int} {c' c'':Nat} (hg:tabGet a (tabDel x tb)=some (.agg [.int .i64 a2,.int .i64 x,.bool (!r.isEmpty),.bool true])) (h2:∀ y s,r=s++[y]→a2=y)
  (hq:tabGet b (tabDel x tb)=some (.agg [.int .i64 a3,.int .i64 b3,.bool true,.bool (!s.isEmpty)])) (h3:∀ y s',s=y :: s'→b3=y) :
  a≠b∧Ln (tabSet b (.agg [.int .i64 a,.int .i64 b3,.bool true,.bool (!s.isEmpty)]) c'' (tabSet a (.agg [.int .i64 a2,.int .i64 b,.bool (!r.isEmpty),.bool true]) c' (tabDel x tb))) c h t (r++[a]++b :: s):=by
 have hab:a≠b:=fun e=>by
  have:=H.nd
  rw[e,List.nodup_append] at this
  exact this.2.2 b (by simp) b (by simp) rfl
 have hm:a ∈ tks (tabDel x tb):=get_iff.1 ⟨_,hg⟩
 have hm2:b ∈ tks (tabSet a (.agg [.int .i64 a2,.int .i64 b,.bool (!r.isEmpty),.bool true]) c' (tabDel x tb)):=by rw[keys_set hm];exact get_iff.1 ⟨_,hq⟩
 refine⟨hab,H.cut (by rw[keys_set hm2,keys_set hm,keys_del]) (born_set hm2 (born_set hm fun e he=>H.born e (mem_del he))) (fun k v hk=>?_) (fun y s' e=>?_) (fun y s' e=>?_)⟩
 ·rw[get_set,get_set] at hk
  split at hk
  ·rename_i e;subst e
   injection hk with hk;subst hk
   have h5:(r++[a]).isEmpty=false:=by cases r<;>rfl
   exact⟨r++[a],s,a,b3,rfl,by simp[lkv,h5],fun y s' h=>by have:=List.append_inj_right' h rfl;simpa using this,h3⟩
  ·rename_i hkb
   split at hk
   ·rename_i e;subst e
    injection hk with hk;subst hk
    exact⟨r,b :: s,a2,b,by simp,by simp[lkv],h2,fun y s' h=>by simp at h;exact h.1⟩
   ·rename_i hka
    obtain⟨h4,h5⟩:=H.none_x hk
    exact(H.link k v h5).drop H.nd h4 (fun s' e=>hka (by have:=List.append_inj_right' e rfl;simpa using this.symm)) (fun s' e=>hkb (by simp at e;exact e.1.symm))
 ·cases r with
  | nil=>exact H.head y (x :: b :: s) (by simp at e ⊢;exact e.1)
  | cons z r=>exact H.head y (r++[a]++x :: b :: s) (by simp at e ⊢;exact e.1)
 ·rcases List.eq_nil_or_concat (b :: s) with h|⟨l',z',h⟩
  ·cases h
  ·rw[h] at e
   have hz:z'=y:=by
    have:=List.append_inj_right' (show (r++[a]++l')++[z']=s'++[y] by simpa using e) rfl
    simpa using this
   rw[← hz]
   exact H.tail z' (r++[a]++x :: l') (by rw[h];simp)
end
end Go.Am.F15
end
section
namespace Go.Am.F10
variable {X:Type}
def c_conf_within:AFun X:=amFunc [] conf_within
def c_kit_Pick:AFun X:=amFunc [] kit_Pick
def c_docs_Made:AFun X:=amFunc [(87,c_kit_Pick)] docs_Made
end Go.Am.F10
end
section
namespace Go.Am.F10
variable {X:Type}
structure Cf where
 n:Int
 q:Int
 g:Int
 m:Int
 t:Int
 s:Int
def cfC(c:Cf):List AV:=[.int .i64 c.n,.int .i64 c.q,.int .i64 c.g,.int .i64 c.m,.int .i64 c.t,.int .i64 c.s]
def landI(a b:Int):Int:=IntKind.i64.wrap ((BitVec.ofInt 64 a &&& BitVec.ofInt 64 b).toNat:Int)
theorem evAnd(a b:Int):binI .and .i64 a b=some (.int .i64 (landI a b)):=rfl
def roomP(q:Int):Prop:=q=2∨q=4∨q=8∨q=16∨q=32∨q=64
def rightP(c:Cf):Prop:=(1≤c.n∧c.n≤8)∧roomP c.q∧(1≤c.g∧c.g≤256)∧(c.n+1≤c.m∧c.m≤16)∧(2≤c.t∧c.t≤200)∧(0≤c.s∧c.s≤1000)
instance (q:Int):Decidable (roomP q):=by unfold roomP;infer_instance
instance (c:Cf):Decidable (rightP c):=by unfold rightP;infer_instance
theorem land_room{q:Int} (h1:2≤q) (h2:q≤64):landI q (q - 1)=0 ↔ roomP q:=by
 have key:∀ k:Fin 65,2≤k.val→(landI (k.val:Int) ((k.val:Int) - 1)=0 ↔ roomP (k.val:Int)):=by decide +kernel
 have:=key ⟨q.toNat,by omega⟩ (by show 2≤q.toNat;omega)
 simp only at this
 rwa [show ((q.toNat:Nat):Int)=q by omega] at this
def inB(a lo hi:Int):Bool:=decide (lo≤a) && decide (a≤hi)
theorem inB_iff{a lo hi:Int}:inB a lo hi=true ↔ lo≤a∧a≤hi:=by simp[inB]
theorem within_run{G:List (Nat × AFun X)} {m:Mem X} (a lo hi:Int):Fn G conf_within [.int .i64 a,.int .i64 lo,.int .i64 hi] m (fun r m'=>r = .bool (inB a lo hi)∧m'=m):=by
 refine Fn_of rfl ?_
 unfold inB
 simp(disch:=first|assumption|omega|(simp only[zl]<;>omega)|(simp only[zn])) only[conf_within,↓zd,zk,seval,reduceIte,List.map,AV.cells,List.all,AV.one,eqV,eqAll,splice,fillA,List.replicate,resAll,resA]
 repeat' ((first|refine GK_of (fun h=>?_) (fun h=>?_)|refine CW_of (fun h=>?_) (fun h=>?_)|refine GKT_of (fun h=>?_) (fun h=>?_))<;>(try simp only[Bool.not_eq_true',Bool.not_eq_false',decide_eq_true_eq,decide_eq_false_iff_not,Bool.and_eq_true,Bool.or_eq_true,Bool.and_eq_false_iff,Bool.or_eq_false_iff,Decidable.not_not] at h)<;>(try simp(disch:=first|assumption|omega|(simp only[zl]<;>omega)|(simp only[zn])) only[↓zd,zk,seval,reduceIte,List.map,AV.cells,List.all,AV.one,eqV,eqAll,splice,fillA,List.replicate,resAll,resA]))
 all_goals (try simp_all)
def rightB(c:Cf):Bool:=inB c.n 1 8 && (inB c.q 2 64 && (decide (landI c.q (IntKind.i64.wrap (c.q - 1))=0) && (inB c.g 1 256 && (inB c.m (IntKind.i64.wrap (c.n+1)) 16 && (inB c.t 2 200 && inB c.s 0 1000)))))
theorem rightB_eq(c:Cf):rightB c=decide (rightP c):=by
 unfold rightB
 rw[Bool.eq_iff_iff]
 simp only[Bool.and_eq_true,inB_iff,decide_eq_true_eq]
 constructor
 ·rintro⟨h1,h2,h3,h4,h5,h6,h7⟩
  rw[wrapI (by omega) (by omega)] at h3 h5
  exact⟨h1,(land_room h2.1 h2.2).1 h3,h4,h5,h6,h7⟩
 ·rintro⟨h1,h2,h4,h5,h6,h7⟩
  have hq:2≤c.q∧c.q≤64:=by unfold roomP at h2;omega
  rw[wrapI (x:=c.q - 1) (by omega) (by omega),wrapI (x:=c.n+1) (by omega) (by omega)]
  exact⟨h1,hq,(land_room hq.1 hq.2).2 h2,h4,h5,h6,h7⟩
set_option maxHeartbeats 8000000 in
theorem right_run{m:Mem X} (c:Cf):Fn [(176,c_conf_within)] conf_Config_Right [.agg (cfC c)] m (fun r m'=>r = .bool (decide (rightP c))∧m'=m++[.cells 6 false (cfC c)]):=by
 have a176:assoc [(176,c_conf_within (X:=X))] 176=some c_conf_within:=rfl
 generalize [(176,c_conf_within (X:=X))]=G at a176
 have hw:=fun(m:Mem X) a lo hi=>Fn_eq (within_run (G:=[]) (m:=m) a lo hi)
 refine Fn_of rfl ?_
 simp(disch:=first|assumption|omega|(simp only[zl]<;>omega)|(simp only[zn])) only[conf_Config_Right,↓zd,zk,seval,reduceIte,List.map,AV.cells,List.all,AV.one,eqV,eqAll,splice,fillA,List.replicate,resAll,resA,zm,zg,cfC,a176,c_conf_within,hw,evAnd]
 repeat' ((first|refine GK_of (fun h=>?_) (fun h=>?_)|refine CW_of (fun h=>?_) (fun h=>?_)|refine GKT_of (fun h=>?_) (fun h=>?_))<;>(try simp only[Bool.not_eq_true',Bool.not_eq_false',decide_eq_true_eq,decide_eq_false_iff_not,Bool.and_eq_true,Bool.or_eq_true,Bool.and_eq_false_iff,Bool.or_eq_false_iff,Decidable.not_not] at h)<;>(try simp(disch:=first|assumption|omega|(simp only[zl]<;>omega)|(simp only[zn])) only[↓zd,zk,seval,reduceIte,List.map,AV.cells,List.all,AV.one,eqV,eqAll,splice,fillA,List.replicate,resAll,resA,zm,zg,cfC,a176,c_conf_within,hw,evAnd,h]))
 all_goals (rw[← rightB_eq];simp_all[rightB])
def thereP(c:Cf) (p:Int):Prop:=rightP c∧0≤p∧p < c.n
instance (c:Cf) (p:Int):Decidable (thereP c p):=by unfold thereP;infer_instance
def addrA(c:Cf) (p i:Int):Int:=if thereP c p then 4+p * (6+c.q)+i else -1
theorem there_bounds{c:Cf} {p:Int} (h:thereP c p):1≤c.n∧c.n≤8∧2≤c.q∧c.q≤64∧0≤p∧p < 8:=by
 obtain⟨⟨h1,h2,_⟩,h3,h4⟩:=h
 unfold roomP at h2
 omega
theorem mul_bounds{p q:Int} (h1:0≤p) (h2:p < 8) (h3:0≤q) (h4:q≤70):0≤p * q∧p * q≤490:=by
 have h5:p * q≤7 * 70:=Int.mul_le_mul (by omega) h4 h3 (by omega)
 exact⟨Int.mul_nonneg h1 h3,by omega⟩
def getC(c:Cf) (p a w seen:Int) (has:Bool) (tries:Int):List AV:=cfC c++[.int .i64 p,.int .i64 a,.int .u64 w,.int .i64 seen,.bool has,.int .i64 tries]
theorem pick_run{G:List (Nat × AFun X)} {m:Mem X} (i n:Int) (hn:0 < n) (hn2:n≤100000):Fn G kit_Pick [.int .i64 i,.int .i64 n] m (fun r m'=>r = .int .i64 (i % n)∧m'=m):=by
 refine Fn_of rfl ?_
 have h1:=Int.emod_nonneg i (b:=n) (by omega)
 have h2:=Int.emod_lt_of_pos i hn
 have ht:(IntKind.i64.wrap (i.tmod n+n)).tmod n=i % n:=by
  have h3:-n < i.tmod n∧i.tmod n < n:=by
   refine⟨?_,Int.tmod_lt_of_pos i hn⟩
   have:=Int.tmod_lt_of_pos (-i) hn
   rw[Int.neg_tmod] at this
   omega
  rw[wrapI (by omega) (by omega),Int.tmod_eq_emod_of_nonneg (by omega)]
  have hd:i.tmod n+n=i+n * (1 - i.tdiv n):=by
   have:=Int.mul_tdiv_add_tmod i n
   rw[Int.mul_sub,Int.mul_one];omega
  rw[hd,Int.add_mul_emod_self_left]
 simp(disch:=first|assumption|omega|(simp only[zl]<;>omega)|(simp only[zn])) only[kit_Pick,↓zd,zk,seval,reduceIte,List.map,AV.cells,List.all,AV.one,eqV,eqAll,splice,fillA,List.replicate,resAll,resA,zm,zg,ht]
end Go.Am.F10
end
section
namespace Go.Am.F10
variable {X:Type}
end Go.Am.F10
end
section
namespace Go.Am.F10
variable {X:Type}
theorem pick_eq(m:Mem X) (i n:Int) (hn:0 < n) (hn2:n≤100000):c_kit_Pick [.int .i64 i,.int .i64 n] m=some (.int .i64 (i % n),m):=Fn_eq (pick_run i n hn hn2)
end Go.Am.F10
end
section
namespace Go.Am.F10
variable {X:Type}
def W64(w:Int):Prop:=0≤w∧w < 18446744073709551616
def hd(w:Int):Int:=w / 4294967296
def tl(w:Int):Int:=w % 4294967296
def sz(w:Int):Int:=(tl w - hd w) % 4294967296
def pk(h t:Int):Int:=h * 4294967296+t
theorem hd_b{w:Int} (h:W64 w):0≤hd w∧hd w < 4294967296:=by unfold hd;unfold W64 at h;omega
theorem tl_b(w:Int):0≤tl w∧tl w < 4294967296:=by unfold tl;omega
def gainW(w:Int):Int:=pk ((hd w+1) % 4294967296) (tl w)
end Go.Am.F10
end
section
namespace Go.Am.F10
variable {X:Type}
def slotA(c:Cf) (p i:Int):Int:=if rightP c then addrA c p (6+i % c.q) else -1
def cellsN(c:Cf):Nat:=if rightP c then(4+c.n * (6+c.q)).toNat else 0
theorem cells_b{c:Cf} (h:rightP c):(cellsN c:Int)=4+c.n * (6+c.q)∧cellsN c≤600:=by
 have hq:2≤c.q∧c.q≤64:=by have:=h.2.1;unfold roomP at this;omega
 have hn:=h.1
 have hm:0≤c.n * (6+c.q)∧c.n * (6+c.q)≤560:=by
  have h5:c.n * (6+c.q)≤8 * 70:=Int.mul_le_mul hn.2 (by omega) (by omega) (by omega)
  exact⟨Int.mul_nonneg (by omega) (by omega),by omega⟩
 unfold cellsN;rw[if_pos h];omega
theorem addr_b{c:Cf} {p i:Int} (h:thereP c p) (h0:0≤i) (h1:i < 6+c.q):0≤addrA c p i∧addrA c p i < cellsN c:=by
 have hb:=there_bounds h
 have hc:=(cells_b h.1).1
 have hm:=mul_bounds hb.2.2.2.2.1 hb.2.2.2.2.2 (q:=6+c.q) (by omega) (by omega)
 have h2:(p+1) * (6+c.q)≤c.n * (6+c.q):=Int.mul_le_mul_of_nonneg_right (by have:=h.2.2;omega) (by omega)
 have h3:(p+1) * (6+c.q)=p * (6+c.q)+(6+c.q):=by rw[Int.add_mul,Int.one_mul]
 unfold addrA;rw[if_pos h];omega
end Go.Am.F10
end
section
namespace Go.Am
section
variable {X:Type}
def below(n:Nat):Nat→Option Nat:=fun i=>if i < n then some i else none
structure DropAt (f:AFun X) (ρ:Nat→Option Nat) (v0:AV) (m0:Mem X) (args:List AV) (m:Mem X) (v:AV) (m':Mem X):Prop where
 run:f args m=some (v0,m0)
 res:AV.ren ρ v0=some v
 mlen:m.length≤m'.length
 old:∀ i,i < m.length→ρ i=some i
 new:∀ (j i:Nat),ρ j=some i→m.length≤j→m.length≤i∧i < m'.length
 inj:∀ j j' i,ρ j=some i→ρ j'=some i→j=j'
 ch:∀ (j i:Nat) (c:Chunk X),ρ j=some i→m0[j]?=some c→(∃ c',renC ρ c=some c'∧m'[i]?=some c')∨(j < m.length∧m[j]?=some c∧m'[j]?=some c)
def Drop(f g:AFun X):Prop:=∀ args m v m',g args m=some (v,m')→∃ ρ v0 m0,DropAt f ρ v0 m0 args m v m'
theorem Drop.mono{f g:AFun X} (h:Drop f g):Mono g:=fun args m v m' hg=>by
 obtain⟨_,_,_,k⟩:=h args m v m' hg
 exact k.mlen
variable {A:AbsSem X} {num:Nat→Nat} {P:Program}
open Classical in
end
end Go.Am
end
section
namespace Go.Am
section
variable {X:Type}
def grpOk(l:Mem X):Prop:=∀ c,c ∈ l→(∃ sz cs,c = .cells sz false cs)∨c = .dead
def place(i n:Nat):Nat→Option Nat:=fun l=>if l=0 then some i else some (n+(l - 1))
variable {num:Nat→Nat} {conc:X→Mem X} {P:Program}
def GrA(θ:Nat→Option Nat) (a b:AV):Prop:=AV.ren θ a=some b∨(a = .sl 0 0 0 (some 0)∧∃ i o,b = .sl i o 0 (some 0))
def GrC(θ:Nat→Option Nat):Chunk X→Chunk X→Prop
 | .cells sz ro cs,c'=>∃ l',c' = .cells sz ro l'∧cs.length=l'.length∧∀ (o:Nat) (a b:AV),cs[o]?=some a→l'[o]?=some b→GrA θ a b
 | .dead,_=>True
 | .abs _,_=>False
 | .tab _ _,_=>False
 | .rtab _,_=>False
structure FoldAt (conc:X→Mem X) (f:AFun X) (ρ γ:Nat→Option Nat) (v0:AV) (m0:Mem X) (args:List AV) (m:Mem X) (v:AV) (m':Mem X):Prop where
 run:f args m=some (v0,m0)
 res:AV.ren ρ v0=some v
 mlen:m.length≤m'.length
 old:∀ i,i < m.length→ρ i=some i
 new:∀ (j i:Nat),ρ j=some i→m.length≤j→m.length≤i∧i < m'.length
 inj:∀ j j' i,ρ j=some i→ρ j'=some i→j=j'
 hid:∀ j i,γ j=some i→ρ j=none
 ch:∀ (j i:Nat) (c:Chunk X),ρ j=some i→m0[j]?=some c →
  ((∀ j',γ j'≠some i)∧((∃ c',renC ρ c=some c'∧m'[i]?=some c')∨(j < m.length∧m[j]?=some c∧m'[j]?=some c))) ∨
  (∃ (x:X) (θ:Nat→Option Nat),m'[i]?=some (.abs x)∧grpOk (conc x)∧θ 0=some j∧(∀ l k,θ l=some k→l < (conc x).length) ∧
   (∀ (l k:Nat) (c:Chunk X),θ l=some k→(conc x)[l]?=some c→∃ c',GrC θ c c'∧m0[k]?=some c')∧(∀ l k,θ l=some k→l≠0→γ k=some i)∧(∀ l l' k,θ l=some k→θ l'=some k→l=l'))
def Fold(conc:X→Mem X) (f g:AFun X):Prop:=∀ args m v m',g args m=some (v,m')→∃ ρ γ v0 m0,FoldAt conc f ρ γ v0 m0 args m v m'
theorem Fold.mono{f g:AFun X} (h:Fold conc f g):Mono g:=fun args m v m' hg=>by
 obtain⟨_,_,_,_,k⟩:=h args m v m' hg
 exact k.mlen
open Classical in
end
end Go.Am
end
section
namespace Go.Am
structure Acc where
 kind:Int
 at':Int
 old:Int
 new:Int
 deriving DecidableEq
structure MemSt where
 cells:List Int
 ck:Bool
 ops:Int
 loads:Int
 stores:Int
 swaps:Int
 fails:Int
 adds:Int
 log:List Acc
 pre:List Acc
inductive Ob where
 | mem (s:MemSt)
def accC(e:Acc):List AV:=[.int .i64 e.kind,.int .i64 e.at',.int .u64 e.old,.int .u64 e.new]
def uC(xs:List Int):List AV:=xs.map (AV.int .u64)
def cvA(i k1:Nat) (s:MemSt):AV:=if s.cells=[] then .sl i 0 0 (some 0) else .sl k1 0 s.cells.length (if s.ck then some s.cells.length else none)
def rootL(s:MemSt) (lv cv:AV):List AV:=[.int .u64 s.ops,.int .u64 s.loads,.int .u64 s.stores,.int .u64 s.swaps,.int .u64 s.fails,.int .u64 s.adds,lv,cv]
abbrev MM:=Mem Ob
def memF(step:MemSt→List AV→Option (AV × MemSt)):AFun Ob:=fun args m =>
 match args with
 | .ptr i 0 :: rest=>match m[i]? with
  | some (.abs (.mem s))=>match step s rest with
   | some (v,s')=>some (v,m.set i (.abs (.mem s')))
   | none=>none
  | _=>none
 | _=>none
end Go.Am
end
section
namespace Go.Am.F06
set_option maxRecDepth 10000
end Go.Am.F06
end
section
namespace Go.Am.F06
variable {X:Type}
end Go.Am.F06
end
section
namespace Go.Am.F06
section
variable {X:Type} {m:Mem X} {i:Nat}
theorem ms_mid(R:Chunk X) (L:Mem X) (k:Nat):(m.set i R++L)[m.length+k]?=L[k]?:=by
 have:=get_mid (l:=m.set i R) (k:=L) (i:=k)
 rwa [List.length_set] at this
theorem ms_mid0(R:Chunk X) (L:Mem X):(m.set i R++L)[m.length]?=L[0]?:=ms_mid R L 0
end
def logMore(s:MemSt) (e:Acc):List Acc × List Acc:=if s.log.length < 256 then([],s.log++[e]) else(s.log.take 1,s.log.drop 1++[e])
def noted (s : MemSt) (e : Acc) (ok : Bool) : MemSt :=
  { s with ops := IntKind.u64.wrap (s.ops + 1),
           loads := if e.kind = 1 then IntKind.u64.wrap (s.loads + 1) else s.loads,
           stores := if e.kind = 2 then IntKind.u64.wrap (s.stores + 1) else s.stores,
           swaps := if e.kind = 3 ∧ ok = true then IntKind.u64.wrap (s.swaps + 1) else s.swaps,
           fails := if e.kind = 3 ∧ ok = false then IntKind.u64.wrap (s.fails + 1) else s.fails,
           adds := if e.kind ≠ 1 ∧ e.kind ≠ 2 ∧ e.kind ≠ 3 then IntKind.u64.wrap (s.adds + 1) else s.adds,
           pre := (logMore s e).1, log := (logMore s e).2 }
def LogAt(n:Nat) (M:MM) (lv:AV) (s:MemSt):Prop:=(s.log=[]∧lv = .nils)∨∃ k2,s.log≠[]∧lv = .sl k2 (s.pre.length * 4) s.log.length none∧n+1≤k2∧M[k2]?=some (.cells 4 false ((s.pre++s.log).flatMap accC))
def accS(k:Int) (g:Int→Int × Bool) (s:MemSt) (a:Int):Option (Int × Bool × MemSt) :=
 if s.log.length≤256 then
  if 0≤a∧a < s.cells.length then
   some (s.cells.getD a.toNat 0,(g (s.cells.getD a.toNat 0)).2,noted { s with cells:=s.cells.set a.toNat (g (s.cells.getD a.toNat 0)).1 } ⟨k,a,s.cells.getD a.toNat 0,(g (s.cells.getD a.toNat 0)).1⟩ (g (s.cells.getD a.toNat 0)).2)
  else some (0,false,s)
 else none
def loadS(s:MemSt):List AV→Option (AV × MemSt)
 | [.int .i64 a]=>(accS 1 (fun w=>(w,true)) s a).map fun x=>(.int .u64 x.1,x.2.2)
 | _=>none
def storeS(s:MemSt):List AV→Option (AV × MemSt)
 | [.int .i64 a,.int .u64 x]=>(accS 2 (fun _=>(x,true)) s a).map fun r=>(.tup [],r.2.2)
 | _=>none
end Go.Am.F06
end
section
namespace Go.Am.F06
end Go.Am.F06
end
section
namespace Go.Am.F06
def newSt(n:Int):MemSt:={ cells:=List.replicate (max 0 (min n 65536)).toNat 0,ck:=true,ops:=0,loads:=0,stores:=0,swaps:=0,fails:=0,adds:=0,log:=[],pre:=[] }
end Go.Am.F06
end
section
namespace Go.Am.F06
end Go.Am.F06
end
section
namespace Go.Am.F06
end Go.Am.F06
end
section
namespace Go.Am.F06
def cellsOf(n:Nat) (es:List Acc):List Int:=es.foldl (fun c e=>c.set e.at'.toNat e.new) (List.replicate n 0)
section
variable {X:Type}
abbrev SA(m:Mem X) (wr:Bool) (es:List Acc) (v:AV):Prop:=Sl m wr 4 es.length (es.flatMap accC) v
theorem SA.get{m:Mem X} {wr:Bool} {es:List Acc} {v:AV} (h:SA m wr es v) {i:Nat} {e:Acc} (he:es[i]?=some e):∃ q o cap ro L,v = .sl q o es.length cap∧m[q]?=some (.cells 4 ro L)∧(wr=true→ro=false)∧i < es.length∧o+i * 4+4≤L.length ∧
  (L.drop (o+i * 4)).take 4=accC e∧L[o+i * 4]?=some (.int .i64 e.kind)∧L[o+i * 4+1]?=some (.int .i64 e.at')∧L[o+i * 4+2]?=some (.int .u64 e.old)∧L[o+i * 4+3]?=some (.int .u64 e.new):=by
 have hi:i < es.length:=(List.getElem?_eq_some_iff.1 he).1
 obtain⟨q,o,cap,ro,L,rfl,h2,h3,h4,h5⟩:=h.at (by omega)
 have hp:=rows_part (f:=accC) (sz:=4) (fun _=>rfl) he
 have hL:∀ k,k < 4→L[o+i * 4+k]?=(accC e)[k]?:=by
  intro k hk
  rw[Nat.add_assoc,sl_get h3 (by omega),rows_at (f:=accC) (sz:=4) (fun _=>rfl) he hk]
 refine⟨q,o,cap,ro,L,rfl,h2,h5,hi,by omega,?_,hL 0 (by omega),hL 1 (by omega),hL 2 (by omega),hL 3 (by omega)⟩
 apply List.ext_getElem?
 intro k
 by_cases hk:k < 4
 ·rw[List.getElem?_take,if_pos hk,List.getElem?_drop,hL k hk]
 ·rw[List.getElem?_eq_none (by simp;omega),List.getElem?_eq_none (by simp[accC];omega)]
theorem SA.one{m:Mem X} {wr:Bool} {es:List Acc} {v:AV} (h:SA m wr es v):v.one=true:=by
 rcases h.2 with⟨h,_⟩|⟨q,o,cap,h,_⟩<;>rw[h]<;>rfl
theorem Fr.one{n:Nat} {v:AV} (h:Fr n v):v.one=true∧v.cells=[v]:=by
 rcases h with h|⟨q,o,k,cap,h,_⟩<;>rw[h]<;>exact⟨rfl,rfl⟩
def sqN:Nat→AC→AC
 | 0,.seq a _=>a
 | n+1,.seq _ b=>sqN n b
 | _,c=>c
def sqT:Nat→AC→AC
 | 0,c=>c
 | n+1,.seq _ b=>sqT n b
 | _,c=>c
end
end Go.Am.F06
end
section
namespace Go.Am.F06
def KeepB{X:Type} (k:Nat) (m m':Mem X):Prop:=m.length≤m'.length∧∀ i,i < m.length→i≠k→m'[i]?=m[i]?
section
variable {X:Type} {k:Nat}
theorem KeepB.refl(m:Mem X):KeepB k m m:=⟨Nat.le_refl _,fun _ _ _=>rfl⟩
theorem KeepB.trans{m m' m'':Mem X} (h:KeepB k m m') (j:KeepB k m' m''):KeepB k m m'' :=
 ⟨Nat.le_trans h.1 j.1,fun i hi hk=>(j.2 i (Nat.lt_of_lt_of_le hi h.1) hk).trans (h.2 i hi hk)⟩
theorem KeepB.of{m m':Mem X} (h:Keep m m'):KeepB k m m':=⟨h.1,fun i hi _=>h.2 i hi⟩
theorem KeepB.app(m J:Mem X):KeepB k m (m++J):=.of (Keep.app m J)
theorem KeepB.at(m:Mem X) (c:Chunk X):KeepB k m (m.set k c):=⟨by simp,fun i hi hk=>by rw[List.getElem?_set_ne (fun h=>hk h.symm)]⟩
theorem KeepB.set{m m':Mem X} (h:KeepB k m m') {q:Nat} (hq:m.length≤q) (c:Chunk X):KeepB k m (m'.set q c) :=
 ⟨by simpa using h.1,fun i hi hk=>by rw[List.getElem?_set_ne (by omega)];exact h.2 i hi hk⟩
theorem KeepB.get{m m':Mem X} (h:KeepB k m m') {i:Nat} {c:Chunk X} (hi:m[i]?=some c) (hk:i≠k):m'[i]?=some c:=(h.2 i (List.getElem?_eq_some_iff.1 hi).1 hk).trans hi
theorem KeepB.sl{m m':Mem X} (h:KeepB k m m') {x:X} (hk:m[k]?=some (.abs x)) {wr:Bool} {sz n:Nat} {l:List AV} {v:AV} (hs:Sl m wr sz n l v):Sl m' wr sz n l v:=by
 refine⟨hs.1,?_⟩
 rcases hs.2 with h1|⟨q,o,cap,h1,h2⟩
 ·exact .inl h1
 ·refine .inr ⟨q,o,cap,h1,fun h0=>?_⟩
  obtain⟨ro,L,h3,h4⟩:=h2 h0
  refine⟨ro,L,h.get h3 (fun hq=>?_),h4⟩
  rw[hq,hk] at h3;injection h3 with h3;cases h3
end
end Go.Am.F06
end
section
namespace Go.Am.F06
section
variable {X:Type}
abbrev SU(m:Mem X) (wr:Bool) (xs:List Int) (v:AV):Prop:=Sl m wr 1 xs.length (uC xs) v
theorem uC_len(xs:List Int):(uC xs).length=xs.length:=by simp[uC]
theorem uC_one(xs:List Int):(uC xs).all AV.one=true:=by simp[uC,AV.one]
theorem uC_set(xs:List Int) (i:Nat) (x:Int):(uC xs).set i (.int .u64 x)=uC (xs.set i x):=by simp[uC,List.map_set]
theorem SU.get{m:Mem X} {wr:Bool} {xs:List Int} {v:AV} (h:SU m wr xs v) {i:Nat} {x:Int} (hx:xs[i]?=some x):∃ q o cap ro L,v = .sl q o xs.length cap∧m[q]?=some (.cells 1 ro L)∧(wr=true→ro=false)∧i < xs.length∧o+i < L.length∧L[o+i]?=some (.int .u64 x):=by
 have hi:i < xs.length:=(List.getElem?_eq_some_iff.1 hx).1
 obtain⟨q,o,cap,ro,L,rfl,h2,h3,h4,h5⟩:=h.at (by omega)
 exact⟨q,o,cap,ro,L,rfl,h2,h5,hi,by omega,by rw[sl_get h3 (by omega)];simp[uC,hx]⟩
def Off(q:Nat) (v:AV):Prop:=∀ q' o n cap,v = .sl q' o n cap→0 < n→q'≠q
theorem KeepB.off{k:Nat} {m m':Mem X} (h:KeepB k m m') {wr:Bool} {sz n:Nat} {l:List AV} {v:AV} (ho:Off k v) (hs:Sl m wr sz n l v):Sl m' wr sz n l v:=by
 refine⟨hs.1,?_⟩
 rcases hs.2 with h1|⟨q,o,cap,h1,h2⟩
 ·exact .inl h1
 ·refine .inr ⟨q,o,cap,h1,fun h0=>?_⟩
  obtain⟨ro,L,h3,h4⟩:=h2 h0
  exact⟨ro,L,h.get h3 (ho _ _ _ _ h1 h0),h4⟩
end
end Go.Am.F06
end
section
namespace Go.Am.F06
def Cc(m:MM) (i:Nat) (s:MemSt) (M:MM):Prop:=∃ lv L,M=m.set i (.cells 8 false (rootL s lv (cvA i m.length s)))++L∧(∀ R,LogAt m.length (m.set i R++L) lv s)∧L[0]?=some (.cells 1 false (uC s.cells))
theorem logAt_app{m L:MM} {i:Nat} {s:MemSt} {lv:AV} (h:∀ R,LogAt m.length (m.set i R++L) lv s) (K:MM):∀ R,LogAt m.length (m.set i R++(L++K)) lv s:=by
 intro R
 rcases h R with h|⟨k2,h0,h1,h2,h3⟩
 ·exact .inl h
 ·exact .inr ⟨k2,h0,h1,h2,by rw[← List.append_assoc,List.getElem?_append_left (List.getElem?_eq_some_iff.1 h3).1];exact h3⟩
theorem get0_app{α:Type} {L K:List α} {c:α} (h:L[0]?=some c):(L++K)[0]?=some c:=by
 rw[List.getElem?_append_left (List.getElem?_eq_some_iff.1 h).1];exact h
theorem Cc.app{m M:MM} {i:Nat} {s:MemSt} (h:Cc m i s M) (K:MM):Cc m i s (M++K):=by
 obtain⟨lv,L,rfl,h1,h2⟩:=h
 exact⟨lv,L++K,by rw[List.append_assoc],logAt_app h1 K,get0_app h2⟩
def okR(s:MemSt) (e:Acc):Prop:=0≤e.at'∧e.at' < s.cells.length∧s.cells.getD e.at'.toNat 0=e.old∧(e.kind=1→e.new=e.old)∧1≤e.kind∧e.kind≤4
instance (s:MemSt) (e:Acc):Decidable (okR s e):=by unfold okR;infer_instance
theorem Cc.cells{m M:MM} {i:Nat} {s:MemSt} (h:Cc m i s M):M[m.length]?=some (.cells 1 false (uC s.cells)):=by
 obtain⟨lv,L,rfl,h1,h2⟩:=h
 rw[ms_mid0];exact h2
theorem Cc.keep{m M:MM} {i:Nat} {s:MemSt} (h:Cc m i s M):KeepB i m M:=by
 obtain⟨lv,L,rfl,h1,h2⟩:=h
 exact(KeepB.at m _).trans (KeepB.app _ _)
end Go.Am.F06
end
section
namespace Go.Am.F06
def badE(n:Nat) (es:List Acc) (e:Acc):Prop:=e.kind < 1∨4 < e.kind∨e.at' < 0∨(n:Int)≤e.at'∨(cellsOf n es).getD e.at'.toNat 0≠e.old∨(e.kind=1∧e.new≠e.old)
instance (n:Nat) (es:List Acc) (e:Acc):Decidable (badE n es e):=by unfold badE;infer_instance
section
variable {X:Type}
end
end Go.Am.F06
end
section
namespace Go.Am.F06
section
variable {X:Type}
def bN(n:Int):Nat:=(max 0 (min n 65536)).toNat
end
end Go.Am.F06
end
section
namespace Go.Am.F06
section
variable {X:Type}
theorem slOne{m:Mem X} {wr:Bool} {sz n:Nat} {l:List AV} {v:AV} (h:Sl m wr sz n l v):v.one=true:=by
 rcases h.2 with⟨h,_⟩|⟨q,o,cap,h,_⟩<;>rw[h]<;>rfl
def memC(v:AV) (o:Int):List AV:=[v,.int .u64 o]
theorem SU.put{m:Mem X} {xs:List Int} {q o n:Nat} {cap:Option Nat} {L:List AV} (h:SU m true xs (.sl q o n cap)) (hq:m[q]?=some (.cells 1 false L)) {i:Nat} (hi:i < xs.length) (x:Int):SU (m.set q (.cells 1 false (L.set (o+i) (.int .u64 x)))) true (xs.set i x) (.sl q o n cap):=by
 obtain⟨hlen,hsl⟩:=h
 rcases hsl with⟨h,_⟩|⟨q',o',cap',h,h5⟩
 ·cases h
 ·injection h with e1 e2 e3 e4;subst e1;subst e2;subst e3;subst e4
  obtain⟨ro,L',d1,d2,d3,d4⟩:=h5 (by omega)
  rw[hq] at d1;injection d1 with d1;injection d1 with _ _ d1;subst d1
  refine⟨by simp[uC_len],.inr ⟨q,o,cap,by rw[List.length_set],fun _=>⟨false,_,List.getElem?_set_self (List.getElem?_eq_some_iff.1 hq).1,?_,by simpa using d3,fun _=>rfl⟩⟩⟩
  rw[List.length_set,List.drop_set,if_neg (by omega),List.take_set,d2,← uC_set]
  congr 1;omega
def thr(xs:List Int) (a:Int):Prop:=0≤a∧a < xs.length
instance (xs:List Int) (a:Int):Decidable (thr xs a):=by unfold thr;infer_instance
end
end Go.Am.F06
end
section
namespace Go.Am.F10
open Go.Am.F06 (SU uC_len uC_set uC_one)
variable {X:Type}
structure OkF (c:Cf) (xs:List Int):Prop where
 at':∀ p,thereP c p→sz (xs.getD (addrA c p 0).toNat 0)≤c.q
structure FS (m0:Mem X) (c:Cf) (q0:Nat) (xs:List Int) (m:Mem X):Prop where
 keep:Keep m0 m
 box:m[m0.length]?=some (.cells 6 false (cfC c))
 out:m[q0]?=some (.cells 1 false (uC xs))
 len:xs.length=cellsN c
 ok:∀ x,x ∈ xs→W64 x
 lt:m0.length < q0
 full:OkF c xs
theorem FS.app{m0 m:Mem X} {c:Cf} {q0:Nat} {xs:List Int} (h:FS m0 c q0 xs m) (K:Mem X):FS m0 c q0 xs (m++K) :=
 ⟨h.keep.trans (Keep.app _ _),(Keep.app m K).get h.box,(Keep.app m K).get h.out,h.len,h.ok,h.lt,h.full⟩
def OkL(c:Cf) (xs:List Int):Prop:=xs.length=cellsN c∧∀ x,x ∈ xs→W64 x
theorem OkL.set{c:Cf} {xs:List Int} (h:OkL c xs) (a:Nat) {v:Int} (hv:W64 v):OkL c (xs.set a v):=by
 refine⟨by rw[List.length_set];exact h.1,fun x hx=>?_⟩
 rcases List.mem_or_eq_of_mem_set hx with hx|rfl
 ·exact h.2 x hx
 ·exact hv
theorem FS.all{m0 m:Mem X} {c:Cf} {q0:Nat} {xs xs':List Int} (h:FS m0 c q0 xs m) (hx:OkL c xs') (hf:OkF c xs') (K:Mem X):FS m0 c q0 xs' (m.set q0 (.cells 1 false (uC xs'))++K):=by
 refine FS.app ⟨h.keep.set (by have:=h.lt;omega) _,?_,List.getElem?_set_self (List.getElem?_eq_some_iff.1 h.out).1,hx.1,hx.2,h.lt,hf⟩ K
 rw[List.getElem?_set_ne (by have:=h.lt;omega)];exact h.box
end Go.Am.F10
end
section
namespace Go.Am.F10
open Go.Am.F06
structure RelM (xs:List Int) (o:Int) (s:MemSt):Prop where
 cells:s.cells=xs
 ops:s.ops=o
 log:s.log.length≤256
theorem RelM.new(n:Int):RelM (List.replicate (bN n) 0) 0 (newSt n):=⟨rfl,rfl,by simp[newSt]⟩
theorem getD_set{xs:List Int} {a:Nat} (h:a < xs.length):xs.set a (xs.getD a 0)=xs:=by
 apply List.ext_getElem?
 intro j
 by_cases hj:a=j
 ·subst hj
  rw[List.getElem?_set_self h,List.getD_eq_getElem?_getD,List.getElem?_eq_getElem h];rfl
 ·rw[List.getElem?_set_ne hj]
theorem RelM.acc{xs:List Int} {o:Int} {s:MemSt} (h:RelM xs o s) {a:Nat} (ha:a < xs.length) (k:Int) (g:Int→Int × Bool) :
  ∃ s',accS k g s a=some (xs.getD a 0,(g (xs.getD a 0)).2,s')∧RelM (xs.set a (g (xs.getD a 0)).1) (IntKind.u64.wrap (o+1)) s':=by
 obtain⟨rfl,rfl,hl⟩:=h
 refine⟨noted { s with cells:=s.cells.set a (g (s.cells.getD a 0)).1 } ⟨k,a,s.cells.getD a 0,(g (s.cells.getD a 0)).1⟩ (g (s.cells.getD a 0)).2,?_,rfl,rfl,?_⟩
 ·unfold accS
  rw[if_pos hl,if_pos (by omega),Int.toNat_natCast]
 ·show (logMore _ _).2.length≤256
  unfold logMore
  split
  ·rename_i h2;simp only[List.length_append,List.length_cons,List.length_nil];simp only at h2;omega
  ·simp only[List.length_append,List.length_drop,List.length_cons,List.length_nil];omega
theorem RelM.load{M:MM} {j:Nat} {xs:List Int} {o:Int} {s:MemSt} (h:RelM xs o s) (hM:M[j]?=some (.abs (.mem s))) {a:Nat} (ha:a < xs.length) :
  ∃ s',memF loadS [.ptr j 0,.int .i64 a] M=some (.int .u64 (xs.getD a 0),M.set j (.abs (.mem s')))∧RelM xs (IntKind.u64.wrap (o+1)) s':=by
 obtain⟨s',h1,h2⟩:=h.acc ha 1 (fun w=>(w,true))
 rw[getD_set ha] at h2
 exact⟨s',by simp only[memF,hM,loadS,h1,Option.map_some],h2⟩
theorem RelM.store{M:MM} {j:Nat} {xs:List Int} {o:Int} {s:MemSt} (h:RelM xs o s) (hM:M[j]?=some (.abs (.mem s))) {a:Nat} (ha:a < xs.length) (x:Int) :
  ∃ s',memF storeS [.ptr j 0,.int .i64 a,.int .u64 x] M=some (.tup [],M.set j (.abs (.mem s')))∧RelM (xs.set a x) (IntKind.u64.wrap (o+1)) s':=by
 obtain⟨s',h1,h2⟩:=h.acc ha 2 (fun w=>(x,true))
 exact⟨s',by simp only[memF,hM,storeS,h1,Option.map_some],h2⟩
def KeepX{X:Type} (j k:Nat) (m m':Mem X):Prop:=m.length≤m'.length∧∀ i,i < m.length→i≠j→i≠k→m'[i]?=m[i]?
section
variable {X:Type} {j k:Nat}
theorem KeepX.refl(m:Mem X):KeepX j k m m:=⟨Nat.le_refl _,fun _ _ _ _=>rfl⟩
theorem KeepX.trans{m m' m'':Mem X} (h:KeepX j k m m') (i:KeepX j k m' m''):KeepX j k m m'' :=
 ⟨Nat.le_trans h.1 i.1,fun a ha h1 h2=>(i.2 a (Nat.lt_of_lt_of_le ha h.1) h1 h2).trans (h.2 a ha h1 h2)⟩
theorem KeepX.of{m m':Mem X} (h:Keep m m'):KeepX j k m m':=⟨h.1,fun i hi _ _=>h.2 i hi⟩
theorem KeepX.setL{m m':Mem X} (h:KeepX j k m m') (c:Chunk X):KeepX j k m (m'.set j c):=⟨by simpa using h.1,fun i hi h1 h2=>by rw[List.getElem?_set_ne (fun h=>h1 h.symm)];exact h.2 i hi h1 h2⟩
theorem KeepX.setR{m m':Mem X} (h:KeepX j k m m') (c:Chunk X):KeepX j k m (m'.set k c):=⟨by simpa using h.1,fun i hi h1 h2=>by rw[List.getElem?_set_ne (fun h=>h2 h.symm)];exact h.2 i hi h1 h2⟩
theorem KeepX.set{m m':Mem X} (h:KeepX j k m m') {q:Nat} (hq:m.length≤q) (c:Chunk X):KeepX j k m (m'.set q c):=⟨by simpa using h.1,fun i hi h1 h2=>by rw[List.getElem?_set_ne (by omega)];exact h.2 i hi h1 h2⟩
theorem KeepX.app{m m':Mem X} (h:KeepX j k m m') (K:Mem X):KeepX j k m (m'++K):=h.trans (.of (Keep.app _ _))
theorem KeepX.get{m m':Mem X} (h:KeepX j k m m') {i:Nat} {c:Chunk X} (hi:m[i]?=some c) (h1:i≠j) (h2:i≠k):m'[i]?=some c:=(h.2 i (List.getElem?_eq_some_iff.1 hi).1 h1 h2).trans hi
theorem KeepX.sl{m m':Mem X} (h:KeepX j k m m') {szj szk:Nat} {wr:Bool} {sz n:Nat} {l:List AV} {v:AV} (hj:∀ ro L,m[j]?≠some (.cells sz ro L)) (hk:∀ ro L,m[k]?≠some (.cells sz ro L)) (hs:Sl m wr sz n l v):Sl m' wr sz n l v:=by
 refine⟨hs.1,?_⟩
 rcases hs.2 with h1|⟨q,o,cap,h1,h2⟩
 ·exact .inl h1
 ·refine .inr ⟨q,o,cap,h1,fun h0=>?_⟩
  obtain⟨ro,L,h3,h4⟩:=h2 h0
  refine⟨ro,L,h.get h3 (fun hq=>?_) (fun hq=>?_),h4⟩
  ·rw[hq] at h3;exact hj _ _ h3
  ·rw[hq] at h3;exact hk _ _ h3
end
end Go.Am.F10
end
section
namespace Go.Am.F10
open Go.Am.F06 (memC slOne)
variable {X:Type}
def Rq(q:Int) (k:Nat):Prop:=(q=2∧k=6)∨(q=4∧k=5)∨(q=8∧k=4)∨(q=16∧k=3)∨(q=32∧k=2)∨(q=64∧k=1)∨(q=128∧k=0)
theorem Rq.next{q:Int} {k:Nat} (h:Rq q k):q=128∨(2≤q∧q≤64∧k - 1 < k∧Rq (q * 2) (k - 1)):=by unfold Rq at h ⊢;omega
end Go.Am.F10
end
section
namespace Go.Am.F10
open Go.Am.F06 (memC slOne)
variable {X:Type}
end Go.Am.F10
end
