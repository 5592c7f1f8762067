import Derived.Test.YtdfnfmocppgniaaXG14
import Derived.RangeFuncKeeps
import Derived.RangeFuncBox
import Derived.RangeFuncLeaves
import Derived.RangeFuncCalls
set_option linter.unusedSimpArgs false
set_option linter.unusedVariables false
section
namespace Go.Am
open Go.RowKit
section
variable {X:Type} {A:AbsSem X} {num:Nat→Nat} {P:Program}
def Chunk.ro:Chunk X→Chunk X
 | .cells sz _ l=>.cells sz true l
 | .tab l _=>.rtab l
 | .rtab l=>.rtab l
 | .abs _=>.dead
 | .dead=>.dead
def roM(m:Mem X):Mem X:=m.map Chunk.ro
theorem roM_length(m:Mem X):(roM m).length=m.length:=List.length_map ..
theorem roM_get(m:Mem X) (i:Nat):(roM m)[i]?=m[i]?.map Chunk.ro:=List.getElem?_map ..
theorem Sim.ro{F:Nat→Prop} {μ:Mu} {m:Mem X} {H:Array Obj} (h:Sim A num F μ m H):Sim A num (fun _=>False) μ (roM m) H:=by
 obtain⟨own,h⟩:=h
 refine⟨fun _=>none,fun c i h=>(by cases h),fun c h=>h.elim,fun i hi=>h.new i (by simpa [roM] using hi),fun i ch p hi hp=>?_⟩
 simp only[roM,List.getElem?_map,Option.map_eq_some_iff] at hi
 obtain⟨c,hc,rfl⟩:=hi
 have hok:=h.ok i c p hc hp
 cases c with
 | cells sz ro l =>
  obtain⟨arr,T,fr,k1,k2,k3,k4,k5⟩:=hok
  exact⟨arr,T,fr,k1,k2,k3,fun _ h=>h,fun h=>(by cases h)⟩
 | abs x=>trivial
 | dead=>trivial
 | tab l c =>
  obtain⟨es,k1,k2,k3⟩:=hok
  exact⟨es,c,k1,fun h=>h,k3⟩
 | rtab l =>
  obtain⟨es,c,k1,k2,k3⟩:=hok
  exact⟨es,c,k1,fun h=>h,k3⟩
theorem Sim.still{μ:Mu} {m:Mem X} {H H':Array Obj} (h:Sim A num (fun _=>False) μ m H) (hk:∀ c,c < H.size→H'[c]?=H[c]?):Sim A num (fun _=>False) μ m H':=by
 obtain⟨own,h⟩:=h
 exact⟨own,h.isF,fun c h=>h.elim,h.new,fun i ch p hi hp=>(h.ok i ch p hi hp).keep (fun _ _ h=>h) (fun _=>Iff.rfl) (fun c hc=>absurd (h.isF c i hc) id) (fun c hc _=>⟨hk c hc,id⟩)⟩
theorem Sim.keptAll{F:Nat→Prop} {μ:Mu} {m:Mem X} {H H':Array Obj} (h:Sim A num F μ m H) (hs:H.size≤H'.size) (hk:∀ c,c < H.size→H'[c]?=H[c]?):Sim A num F μ m H':=by
 obtain⟨own,h⟩:=h
 exact⟨own,h.isF,fun c hc=>Nat.lt_of_lt_of_le (h.lt c hc) hs,h.new,fun i ch p hi hp=>(h.ok i ch p hi hp).keep (fun _ _ h=>h) (fun _=>Iff.rfl) (fun c hc=>hk c (h.lt c (h.isF c i hc))) (fun c hc hF=>⟨hk c hc,hF⟩)⟩
theorem Sim.addRow{F:Nat→Prop} {μ:Mu} {m:Mem X} {w w':World} (h:Sim A num F μ m w.heap) (hB:Below w.heap.size w w') {g:Nat} {arr:Array Value} {T:TypeId} (hg:w.heap.size≤g) (hc:w'.heap[g]?=some (.cells arr T (0,0)))
  {l:List AV} (hl:l.length≤arr.size) (hv:∀ (o:Nat) (a:AV),l[o]?=some a→∃ v,arr[o]?=some v∧VR num μ a v) :
  ∃ F' μ',Sim A num F' μ' (m++[.cells 1 false l]) w'.heap∧Ext m.length F μ w F' μ' w'∧μ' m.length=some ⟨g,0,arr.size,1⟩:=by
 have hgl:g < w'.heap.size:=(Array.getElem?_eq_some_iff.1 hc).1
 have hkeep:=h.keptAll hB.size hB.block
 have hle:=h
 obtain⟨own,h⟩:=h
 let μ':Mu:=fun i=>if i=m.length then some ⟨g,0,arr.size,1⟩ else μ i
 have hmu:∀ i p,μ i=some p→μ' i=some p:=fun i p hp=>by
  have:=hle.lt_of hp
  simp only[μ'];rw[if_neg (by omega)];exact hp
 refine⟨fun c=>F c∨c=g,μ',⟨fun c=>if c=g then some m.length else own c,fun c i hi=>?_,fun c hc=>?_,fun i hi=>?_,fun i ch p hi hp=>?_⟩,⟨fun i hi=>?_,fun c hc=>?_,hB.size,fun c hc _=>hB.block c hc,hB.os,hB.tape,hB.output⟩,?_⟩
 ·split at hi
  ·exact .inr ‹_›
  ·exact .inl (h.isF c i hi)
 ·rcases hc with hc|rfl
  ·exact Nat.lt_of_lt_of_le (h.lt c hc) hB.size
  ·exact hgl
 ·simp only[List.length_append,List.length_cons,List.length_nil] at hi
  simp only[μ'];rw[if_neg (by omega)];exact h.new i (by omega)
 ·by_cases him:i=m.length
  ·subst him
   rw[List.getElem?_append_right (Nat.le_refl _),Nat.sub_self,List.getElem?_cons_zero] at hi
   injection hi with hi;subst hi
   simp only[μ',if_true,Option.some.injEq] at hp
   subst hp
   refine⟨arr,T,(0,0),rfl,hc,⟨hl,by simp,fun o a ha=>?_⟩,fun h=>(by cases h),fun _=>⟨by simp,rfl⟩⟩
   obtain⟨v,hv1,hv2⟩:=hv o a ha
   exact⟨v,by simpa using hv1,hv2.mono hmu⟩
  ·have hlt:i < m.length:=by
    have:=(List.getElem?_eq_some_iff.1 hi).1
    simp at this;omega
   rw[List.getElem?_append_left hlt] at hi
   have hp':μ i=some p:=by simp only[μ'] at hp;rwa [if_neg him] at hp
   refine(h.ok i ch p hi hp').keep hmu (fun c=>?_) (fun c hc=>hB.block c (h.lt c (h.isF c i hc))) (fun c hc hF=>⟨hB.block c hc,fun h'=>?_⟩)
   ·constructor
    ·intro ho
     have:=h.lt c (h.isF c i ho)
     rw[if_neg (by omega)];exact ho
    ·intro ho
     split at ho
     ·injection ho with ho;omega
     ·exact ho
   ·rcases h' with h'|rfl
    ·exact hF h'
    ·omega
 ·simp only[μ'];rw[if_neg (by omega)]
 ·rcases hc with hc|rfl
  ·exact .inl hc
  ·exact .inr hg
 ·simp only[μ',if_true]
theorem fn_parts{L:List Nat} {fn:Func} {F:AFn} (h:chkFn P num L fn F=true):∃ c,fn.body=some c∧chkCode P num L fn.ntmps c F.body=true∧resAllOk P L fn.results.toList F.res=true ∧
  ∀ (μ:Mu) (args:List AV) (vs:List Value),args.length=F.npar→VRL num μ args vs→EnvOk num L fn.ntmps μ (args++List.replicate (F.nloc - F.npar) .skip) { tmps:=vs.toArray++Array.replicate (fn.ntmps - vs.toArray.size) Go.undef,defers:=[] }:=by
 unfold chkFn at h
 split at h
 ·rename_i c hb
  simp only[Bool.and_eq_true,decide_eq_true_eq] at h
  obtain⟨⟨⟨⟨⟨⟨c1,c2⟩,c3⟩,c4⟩,c5⟩,c6⟩,c7⟩:=h
  refine⟨c,hb,c1,c7,fun μ args vs hlen hV=>?_⟩
  have hvl:vs.length=F.npar:=by rw[← hV.1,hlen]
  refine⟨by simp[hlen,c2];omega,by simp[hvl];omega,fun j t ht=>?_⟩
  by_cases hj:j < F.npar
  ·have htj:t=j:=by
    have:(L.take F.npar)[j]?=some t:=by rw[List.getElem?_take,if_pos hj];exact ht
    rw[c5,List.getElem?_range hj] at this
    injection this with this;exact this.symm
   subst htj
   have e1:=List.getElem?_eq_getElem (show t < args.length by omega)
   obtain⟨d,hd,hvd⟩:=hV.get e1
   have e2:(args++List.replicate (F.nloc - F.npar) AV.skip).getD t .skip=args[t]'(by omega):=by
    rw[List.getD_eq_getElem?_getD,List.getElem?_append_left (by omega),e1];rfl
   have e3:(vs.toArray++Array.replicate (fn.ntmps - vs.toArray.size) Go.undef).getD t Go.undef=d:=by
    have hlt:t < vs.length:=by omega
    have:vs[t]'hlt=d:=by rw[List.getElem?_eq_getElem hlt] at hd;exact Option.some.inj hd
    simp only[Array.getD_eq_getD_getElem?]
    rw[Array.getElem?_append_left (by simpa using hlt)]
    simp[hlt,this]
   rw[e2,e3];exact hvd
  ·have htge:F.npar≤t:=by
    have:(L.drop F.npar)[j - F.npar]?=some t:=by rw[List.getElem?_drop,show F.npar+(j - F.npar)=j by omega];exact ht
    have:=List.all_eq_true.1 c6 t (List.mem_of_getElem? this)
    simpa using this
   have e2:(args++List.replicate (F.nloc - F.npar) AV.skip).getD j .skip = .skip:=by
    rw[List.getD_eq_getElem?_getD,List.getElem?_append_right (by omega),List.getElem?_replicate]
    split<;>rfl
   have e3:(vs.toArray++Array.replicate (fn.ntmps - vs.toArray.size) Go.undef).getD t Go.undef=Go.undef:=by
    simp only[Array.getD_eq_getD_getElem?]
    rw[Array.getElem?_append_right (by simp;omega)]
    simp only[Array.getElem?_replicate]
    split<;>rfl
   rw[e2,e3];exact VR.skip
 ·cases h
theorem chk_seq{L:List Nat} {nt:Nat} {c:Code} {a b:AC} (h:chkCode P num L nt c (.seq a b)=true):∃ x y,c = .seq x y∧chkCode P num L nt x a=true∧chkCode P num L nt y b=true:=by
 cases c<;>simp only[chkCode] at h<;>first|(cases h;done)|skip
 simp only[Bool.and_eq_true] at h
 exact⟨_,_,rfl,h.1,h.2⟩
theorem chk_block{L:List Nat} {nt i:Nat} {c:Code} {b:AC} (h:chkCode P num L nt c (.block i b)=true):∃ y,c = .block i y∧chkCode P num L nt y b=true:=by
 cases c<;>simp only[chkCode] at h<;>first|(cases h;done)|skip
 simp only[Bool.and_eq_true,decide_eq_true_eq] at h
 exact⟨_,by rw[h.1],h.2⟩
theorem chk_loop{L:List Nat} {nt:Nat} {c:Code} {b:AC} (h:chkCode P num L nt c (.loop b)=true):∃ y,c = .loop y∧chkCode P num L nt y b=true:=by
 cases c<;>simp only[chkCode] at h<;>first|(cases h;done)|skip
 exact⟨_,rfl,h⟩
theorem Ext.grown{n:Nat} {μ:Mu} {w:World} {F':Nat→Prop} {μ':Mu} {w':World} (h:Ext n (fun _=>False) μ w F' μ' w'):w.grownBy w' none :=
 ⟨h.os,h.tape,h.output,h.size,fun k hk _=>h.keep k hk id⟩
theorem Ext.below{n:Nat} {μ:Mu} {w:World} {F':Nat→Prop} {μ':Mu} {w':World} (h:Ext n (fun _=>False) μ w F' μ' w'):Below w.heap.size w w' :=
 ⟨h.os,h.tape,h.output,h.size,fun k hk=>h.keep k hk id⟩
theorem EnvOk.slot{L:List Nat} {nt:Nat} {μ:Mu} {e:List AV} {a:Act} (h:EnvOk num L nt μ e a) (j:Nat) {t:Nat} {v:AV} (hL:L[j]?=some t) (he:e[j]?=some v):VR num μ v (a.tmps.getD t Go.undef):=by
 have:=h.2.2 j t hL
 rwa [List.getD_eq_getElem?_getD,he] at this
def zlink:AV:=.agg [.int .i64 0,.int .i64 0,.bool false,.bool false]
def chase(l:List (Int × Nat × AV)):Nat→Int→Option (List Int)
 | 0,_=>none
 | n+1,x=>match (tabGet x l).getD zlink with
  | .agg [.int .i64 _,.int .i64 b,.bool _,.bool ib]=>if ib=true then(match chase l n b with|some r=>some (x :: r)|none=>none) else some [x]
  | _=>none
def lineCs(tab:AV→Option (List (Int × Nat × AV))):List AV→Option (List Int)
 | [lk,.int .i64 h,.int .i64 _]=>match tab lk with
  | some []=>some []
  | some (e :: l)=>chase (e :: l) (l.length+1) h
  | none=>none
 | _=>none
def lineRows(m:Mem X):AV→Option (List Int)
 | .nilp=>some []
 | .ptr i 0=>match getC m i with
  | some (_,_,cs)=>lineCs (tabOf m) cs
  | none=>none
 | _=>none
def appendF(g:Nat):AFun X:=fun args m=>match args with
 | [.nils,.fn f [] [.ptr b 0]]=>if f=g then(match m[b]? with
  | some (.cells _ _ [fp])=>match lineRows m fp with
   | some []=>some (.nils,m)
   | some (x :: xs)=>if xs.length < 1000000 then some (.sl m.length 0 (xs.length+1) none,m++[.cells 1 false ((x :: xs).map (AV.int .i64))]) else none
   | none=>none
  | _=>none) else none
 | _=>none
theorem tabOf_ro(m:Mem X) (v:AV):tabOf (roM m) v=tabOf m v:=by
 cases v<;>try rfl
 rename_i i
 simp only[tabOf,roM_get]
 cases h:m[i]? with
 | none=>rfl
 | some c=>cases c<;>rfl
theorem lineRows_ro(m:Mem X) (v:AV):lineRows (roM m) v=lineRows m v:=by
 have ht:tabOf (roM m)=tabOf m:=funext (tabOf_ro m)
 unfold lineRows
 split
 ·rfl
 ·rename_i i
  rw[ht]
  unfold getC
  rw[roM_get]
  cases h:m[i]? with
  | none=>rfl
  | some c=>cases c<;>rfl
 ·rfl
theorem appendF_mono(g:Nat):Mono (appendF (X:=X) g):=by
 intro args m v m' h
 unfold appendF at h
 repeat' split at h
 all_goals first|(cases h;done)|(simp only[Option.some.injEq,Prod.mk.injEq] at h;obtain⟨_,rfl⟩:=h;simp)
end
end Go.Am
end
section
namespace Go.Am
mutual
def AV.ren(ρ:Nat→Option Nat):AV→Option AV
 | .ptr i o=>match ρ i with|some k=>some (.ptr k o)|none=>none
 | .sl i o len cap=>match ρ i with|some k=>some (.sl k o len cap)|none=>none
 | .map i=>match ρ i with|some k=>some (.map k)|none=>none
 | .fn f a b=>match AV.renL ρ a,AV.renL ρ b with|some a,some b=>some (.fn f a b)|_,_=>none
 | .agg cs=>match AV.renL ρ cs with|some cs=>some (.agg cs)|none=>none
 | .tup cs=>match AV.renL ρ cs with|some cs=>some (.tup cs)|none=>none
 | .undef=>some .undef
 | .bool b=>some (.bool b)
 | .int k n=>some (.int k n)
 | .str s=>some (.str s)
 | .nilp=>some .nilp
 | .nils=>some .nils
 | .mt=>some .mt
 | .yld l=>some (.yld l)
 | .nilm=>some .nilm
 | .nilf=>some .nilf
def AV.renL(ρ:Nat→Option Nat):List AV→Option (List AV)
 | []=>some []
 | a :: as=>match AV.ren ρ a,AV.renL ρ as with|some a,some as=>some (a :: as)|_,_=>none
end

def renC{X:Type} (ρ:Nat→Option Nat):Chunk X→Option (Chunk X)
 | .cells sz ro l=>match AV.renL ρ l with|some l=>some (.cells sz ro l)|none=>none
 | .abs x=>some (.abs x)
 | .dead=>some .dead
 | .tab _ _=>none
 | .rtab _=>none
section
variable {num:Nat→Nat} {μ μ':Mu} {ρ:Nat→Option Nat}
theorem VR.fn_inv{f:Nat} {a b:List AV} {v:Value} (h:VR num μ (.fn f a b) v):∃ cs ds:Array Value,v = .func (.func (num f)) cs ds∧VRL num μ a cs.toList∧VRL num μ b ds.toList:=by
 cases h with
 | fn h1 h2 h3 h4=>exact⟨_,_,rfl,⟨by simpa using h1,fun j x d hx hd=>h2 j x d hx (by simpa using hd)⟩,by simpa using h3,fun j x d hx hd=>h4 j x d hx (by simpa using hd)⟩

end
section
variable {X:Type}
structure LiftAt (f:AFun X) (is:List Nat) (ρ:Nat→Option Nat) (as':List AV) (ms:Mem X) (v':AV) (ms':Mem X) (args:List AV) (m:Mem X) (v:AV) (m':Mem X):Prop where
 lt:∀ i,i ∈ is→i < m.length
 len:ms.length=is.length
 ch:∀ (j i:Nat) (c:Chunk X),is[j]?=some i→ms[j]?=some c→∃ c',renC (fun j=>is[j]?) c=some c'∧m[i]?=some c'
 arg:AV.renL (fun j=>is[j]?) as'=some args
 run:f as' ms=some (v',ms')
 h0:∀ j,j < is.length→ρ j=is[j]?
 new:∀ (j i:Nat),is.length≤j→ρ j=some i→m.length≤i∧i < m'.length∧j < ms'.length∧∀ sz l,ms'[j]?≠some (.cells sz true l)
 inj:∀ j j' i,ρ j=some i→ρ j'=some i→j=j'
 mlen:m.length≤m'.length
 mlen':ms.length≤ms'.length
 same:∀ (i:Nat),i < m.length→i ∉ is→m'[i]?=m[i]?
 ch':∀ (j i:Nat) (c:Chunk X),ρ j=some i→ms'[j]?=some c→∃ c',renC ρ c=some c'∧m'[i]?=some c'
 ro:∀ (j sz:Nat) (l:List AV),j < is.length→ms'[j]?=some (.cells sz true l)→∃ sz l,ms[j]?=some (.cells sz true l)
 res:AV.ren ρ v'=some v
def Lift(f g:AFun X):Prop:=∀ args m v m',g args m=some (v,m')→∃ is ρ as' ms v' ms',LiftAt f is ρ as' ms v' ms' args m v m'
theorem Lift.mono{f g:AFun X} (h:Lift f g):Mono g:=fun args m v m' hg=>by
 obtain⟨_,_,_,_,_,_,k⟩:=h args m v m' hg
 exact k.mlen
variable {A:AbsSem X} {num:Nat→Nat} {P:Program}
open Classical in
end
end Go.Am
namespace Go.Am
section
variable {X:Type}

def no:Nat→Option Nat:=fun _=>none
def only(i:Nat):Nat→Option Nat:=fun j=>if j=0 then some i else none
end
end Go.Am
end
section
namespace Go.Am
section
variable {α:Type} {f:α→List AV} {sz:Nat}
theorem rows_len(hf:∀ x,(f x).length=sz):∀ (ws:List α),(ws.flatMap f).length=ws.length * sz
 | []=>by simp
 | x :: xs=>by rw[List.flatMap_cons,List.length_append,hf,rows_len hf xs,List.length_cons,Nat.succ_mul];omega
theorem rows_part(hf:∀ x,(f x).length=sz):∀ {ws:List α} {k:Nat} {x:α},ws[k]?=some x→((ws.flatMap f).drop (k * sz)).take sz=f x
 | [],k,x,h=>by simp at h
 | y :: ys,0,x,h=>by
  simp only[List.getElem?_cons_zero,Option.some.injEq] at h;subst h
  rw[List.flatMap_cons,Nat.zero_mul,List.drop_zero,List.take_left' (hf _)]
 | y :: ys,k+1,x,h=>by
  simp only[List.getElem?_cons_succ] at h
  rw[List.flatMap_cons,Nat.succ_mul,Nat.add_comm,← List.drop_drop,List.drop_left' (hf _)]
  exact rows_part hf h
theorem rows_at(hf:∀ x,(f x).length=sz) {ws:List α} {k:Nat} {x:α} (h:ws[k]?=some x) {o:Nat} (ho:o < sz):(ws.flatMap f)[k * sz+o]?=(f x)[o]?:=by
 rw[← rows_part hf h,List.getElem?_take,if_pos ho,List.getElem?_drop]
theorem rows_of(hf:∀ x,(f x).length=sz):∀ (n:Nat) {l:List AV},l.length=n * sz→(∀ k,k < n→∃ x,(l.drop (k * sz)).take sz=f x)→∃ ws:List α,ws.length=n∧l=ws.flatMap f
 | 0,l,hl,_=>⟨[],rfl,by simp at hl;simp[hl]⟩
 | n+1,l,hl,h=>by
  obtain⟨x,hx⟩:=h 0 (by omega)
  rw[Nat.zero_mul,List.drop_zero] at hx
  obtain⟨ws,h1,h2⟩:=rows_of hf n (l:=l.drop sz) (by rw[List.length_drop,hl,Nat.succ_mul];omega) (fun k hk=>by
   obtain⟨y,hy⟩:=h (k+1) (by omega)
   exact⟨y,by rw[← hy,List.drop_drop,Nat.succ_mul];congr 2;omega⟩)
  exact⟨x :: ws,by simp[h1],by rw[List.flatMap_cons,← h2,← hx,List.take_append_drop]⟩
section
variable {X:Type} {m:Mem X} {bytes j q n:Nat} {c:Option Nat} {sz':Nat} {ro:Bool} {l x:List AV}
theorem append_nils(hx:m[j]?=some (.cells sz' ro x)) (hl:x.length=sz) (h1:x.all AV.one=true) (hb:bytes≤35184372088832):appendA sz bytes .nils (.sl j 0 1 c) m=some (.sl m.length 0 1 none,m++[.cells sz false x]):=by
 have hr:rowOf m sz (.sl j 0 1 c)=some x:=by
  simp only[rowOf,getC,hx]
  rw[if_neg (by omega),if_pos (by omega),List.drop_zero,List.take_of_length_le (by omega)]
 simp only[appendA,lenA,hr]
 rw[if_neg (by omega),if_pos ⟨by omega,by omega,h1⟩]
theorem append_none(hq:m[q]?=some (.cells sz false l)) (hn:l.length=n * sz) (hx:m[j]?=some (.cells sz' ro x)) (hl:x.length=sz) (h0:l.all AV.one=true) (h1:x.all AV.one=true) (hb:(n+1) * bytes≤35184372088832) (hn1:n+1≤35184372088832) :
  appendA sz bytes (.sl q 0 n none) (.sl j 0 1 c) m=some (.sl m.length 0 (n+1) none,m.set q .dead++[.cells sz false (l++x)]):=by
 have hr:rowOf m sz (.sl j 0 1 c)=some x:=by
  simp only[rowOf,getC,hx]
  rw[if_neg (by omega),if_pos (by omega),List.drop_zero,List.take_of_length_le (by omega)]
 have ht:(l.drop 0).take (n * sz)=l:=by rw[List.drop_zero,List.take_of_length_le (by omega)]
 simp only[appendA,lenA,hr,getC,hq,ht]
 rw[if_neg (by omega),if_pos ⟨trivial,by omega,hb,hn1,by rw[List.all_append,h0,h1];rfl⟩]
end
def Own{X:Type} (m0 m:Mem X) (sz n:Nat) (l:List AV) (lv:AV):Prop:=(n=0∧l=[]∧lv = .nils)∨∃ q,lv = .sl q 0 n none∧m[q]?=some (.cells sz false l)∧m0.length≤q∧q < m.length
section
variable {X:Type} {m0 J:Mem X} {bytes j n:Nat} {c:Option Nat} {sz':Nat} {ro:Bool} {l x:List AV} {lv:AV}
end
end
end Go.Am
end
section
namespace Go.Am
section
variable {X:Type}
def Sl(m:Mem X) (wr:Bool) (sz n:Nat) (l:List AV) (v:AV):Prop :=
 l.length=n * sz∧((v = .nils∧n=0)∨∃ q o cap,v = .sl q o n cap∧(0 < n→∃ ro L,m[q]?=some (.cells sz ro L)∧(L.drop o).take (n * sz)=l∧o+n * sz≤L.length∧(wr=true→ro=false)))
def Keep(m m':Mem X):Prop:=m.length≤m'.length∧∀ i,i < m.length→m'[i]?=m[i]?
theorem Keep.refl(m:Mem X):Keep m m:=⟨Nat.le_refl _,fun _ _=>rfl⟩
theorem Keep.trans{m m' m'':Mem X} (h:Keep m m') (k:Keep m' m''):Keep m m'' :=
 ⟨Nat.le_trans h.1 k.1,fun i hi=>(k.2 i (Nat.lt_of_lt_of_le hi h.1)).trans (h.2 i hi)⟩
theorem Keep.app(m J:Mem X):Keep m (m++J):=⟨by simp,fun i hi=>List.getElem?_append_left hi⟩
theorem Keep.set{m m':Mem X} (h:Keep m m') {q:Nat} (hq:m.length≤q) (c:Chunk X):Keep m (m'.set q c) :=
 ⟨by simpa using h.1,fun i hi=>by rw[List.getElem?_set_ne (by omega)];exact h.2 i hi⟩
theorem Keep.get{m m':Mem X} (h:Keep m m') {i:Nat} {c:Chunk X} (hi:m[i]?=some c):m'[i]?=some c:=(h.2 i (List.getElem?_eq_some_iff.1 hi).1).trans hi
theorem Sl.keep{m m':Mem X} {wr:Bool} {sz n:Nat} {l:List AV} {v:AV} (h:Sl m wr sz n l v) (k:Keep m m'):Sl m' wr sz n l v:=by
 obtain⟨h0,h⟩:=h
 refine⟨h0,?_⟩
 rcases h with h|⟨q,o,cap,h1,h2⟩
 ·exact .inl h
 ·refine .inr ⟨q,o,cap,h1,fun hn=>?_⟩
  obtain⟨ro,L,h3,h4⟩:=h2 hn
  exact⟨ro,L,k.get h3,h4⟩
theorem Sl.ro{m:Mem X} {wr:Bool} {sz n:Nat} {l:List AV} {v:AV} (h:Sl m wr sz n l v):Sl m false sz n l v:=by
 obtain⟨h0,h⟩:=h
 refine⟨h0,?_⟩
 rcases h with h|⟨q,o,cap,h1,h2⟩
 ·exact .inl h
 ·refine .inr ⟨q,o,cap,h1,fun hn=>?_⟩
  obtain⟨ro,L,h3,h4,h5,_⟩:=h2 hn
  exact⟨ro,L,h3,h4,h5,fun h=>by cases h⟩
theorem Sl.len{m:Mem X} {wr:Bool} {sz n:Nat} {l:List AV} {v:AV} (h:Sl m wr sz n l v):lenA v=some n:=by
 rcases h.2 with⟨h1,rfl⟩|⟨q,o,cap,h1,_⟩<;>rw[h1]<;>rfl
theorem Sl.nil{m:Mem X} {wr:Bool} {sz:Nat}:Sl m wr sz 0 [] .nils:=⟨by simp,.inl ⟨rfl,rfl⟩⟩
theorem Sl.at{m:Mem X} {wr:Bool} {sz n:Nat} {l:List AV} {v:AV} (h:Sl m wr sz n l v) (hn:0 < n):∃ q o cap ro L,v = .sl q o n cap∧m[q]?=some (.cells sz ro L)∧(L.drop o).take (n * sz)=l∧o+n * sz≤L.length∧(wr=true→ro=false):=by
 rcases h.2 with⟨_,h1⟩|⟨q,o,cap,h1,h2⟩
 ·omega
 ·obtain⟨ro,L,h3⟩:=h2 hn
  exact⟨q,o,cap,ro,L,h1,h3⟩
theorem sl_get{L l:List AV} {o k:Nat} (h:(L.drop o).take k=l) {j:Nat} (hj:j < k):L[o+j]?=l[j]?:=by
 rw[← h,List.getElem?_take,if_pos hj,List.getElem?_drop]
theorem ev_len(G:List (Nat × AFun X)) (v:AV) (m:Mem X):amOp G .len [v] m=match lenA v with|some n=>some (.int .i64 n,m)|none=>none:=by
 simp only[amOp]
 cases lenA v<;>rfl
def Fr(n0:Nat) (v:AV):Prop:=v = .nils∨∃ q o n cap,v = .sl q o n cap∧n0≤q
theorem Own.sl{m0 m:Mem X} {sz n:Nat} {l:List AV} {v:AV} (h:Own m0 m sz n l v) (hl:l.length=n * sz):Sl m true sz n l v∧Fr m0.length v:=by
 rcases h with⟨rfl,rfl,rfl⟩|⟨q,rfl,h1,h2,h3⟩
 ·exact⟨Sl.nil,.inl rfl⟩
 ·exact⟨⟨hl,.inr ⟨q,0,none,rfl,fun _=>⟨false,l,h1,by rw[List.drop_zero,← hl,List.take_length],by omega,fun _=>rfl⟩⟩⟩,.inr ⟨q,0,n,none,rfl,h2⟩⟩
end
end Go.Am
end
section
namespace Go.Am
variable {X:Type}
def aheadL(xs:List Int) (x:Int):Int:=if x ∈ xs then((xs.idxOf x:Nat):Int) else -1
def aheadF:AFun X:=fun args m=>match args with
 | [p,.int .i64 x]=>match lineRows m p with
  | some xs=>if xs.length < 1000000 then some (.int .i64 (aheadL xs x),m) else none
  | none=>none
 | _=>none
theorem aheadF_mono:Mono (aheadF (X:=X)):=by
 intro args m v m' h
 unfold aheadF at h
 repeat' split at h
 all_goals first|(cases h;done)|(simp only[Option.some.injEq,Prod.mk.injEq] at h;obtain⟨_,rfl⟩:=h;simp)
end Go.Am
end
section
namespace Go.Am.F14
variable {X:Type}
def c_slices_AppendSeq_int:AFun X:=appendF 131
def c_fifo_Line_Ahead:AFun X:=aheadF
def c_fifo_Line_Has:AFun X:=amFunc [] fifo_Line_Has
def c_fifo_Line_fits:AFun X:=amFunc [(119,c_fifo_Line_Has)] fifo_Line_fits
def c_fifo_Line_Len:AFun X:=amFunc [] fifo_Line_Len
def c_fifo_Line_Head:AFun X:=amFunc [(105,c_fifo_Line_Len)] fifo_Line_Head
def c_fifo_Line_each_1:AFun X:=amFunc [(118,c_fifo_Line_Head)] fifo_Line_each_1
def c_fifo_Line_each:AFun X:=amFunc [(131,c_fifo_Line_each_1)] fifo_Line_each
def c_slices_Collect_int:AFun X:=amFunc [(130,c_slices_AppendSeq_int)] slices_Collect_int
def c_kit_SameInts:AFun X:=amFunc [] kit_SameInts
def c_fifo_Line_Remove:AFun X:=amFunc [(119,c_fifo_Line_Has)] fifo_Line_Remove
def c_kit_Pick:AFun X:=amFunc [] kit_Pick
def c_law14_few:AFun X:=amFunc [] law14_few
def c_ref14_Ahead:AFun X:=amFunc [] ref14_Ahead
def c_ref14_join:AFun X:=amFunc [] ref14_join
def c_ref14_Pop:AFun X:=amFunc [] ref14_Pop
def c_slices_Equal_int:AFun X:=amFunc [] slices_Equal_int
end Go.Am.F14
end
