import Derived.Test.YtdfnfmocppgniaaXG16
set_option linter.unusedSimpArgs false
set_option linter.unusedVariables false
section
namespace Go.Am.F06
end Go.Am.F06
namespace Go.Am.F10
open Go.Am.F06
structure SUN (lo hi:Nat) (m:MM) (wr:Bool) (xs:List Int) (v:AV):Prop where
 su:SU m wr xs v
 no:∀ b,lo≤b→b < hi→∀ ro L,m[b]?≠some (.cells 1 ro L)
theorem SUN.set{lo hi:Nat} {m:MM} {wr:Bool} {xs:List Int} {v:AV} (h:SUN lo hi m wr xs v) {a:Nat} (h1:lo≤a) (h2:a < hi) {C:Chunk Ob} (hC:∀ ro L,C ≠ .cells 1 ro L):SUN lo hi (m.set a C) wr xs v:=by
 refine⟨(KeepB.at _ _).off (fun q o n c hv h0 hq=>?_) h.su,fun b b1 b2 ro L hb=>?_⟩
 ·rcases h.su.2 with⟨h3,_⟩|⟨q2,o2,c2,h3,h4⟩
  ·rw[h3] at hv;cases hv
  ·rw[h3] at hv;injection hv with e1 e2 e3 e4;subst e1;subst e3;subst hq
   obtain⟨ro,L,h5,_⟩:=h4 h0
   exact h.no _ h1 h2 _ _ h5
 ·by_cases hab:a=b
  ·subst hab
   by_cases hl:a < m.length
   ·rw[List.getElem?_set_self hl] at hb;injection hb with hb;exact hC _ _ hb
   ·rw[List.getElem?_eq_none (by rw[List.length_set];omega)] at hb;cases hb
  ·rw[List.getElem?_set_ne hab] at hb;exact h.no b b1 b2 _ _ hb
structure GS where
 a:Int
 w:Int
 seen:Int
 has:Bool
 tries:Int
def gC(c:Cf) (p:Int) (s:GS):List AV:=getC c p s.a s.w s.seen s.has s.tries
structure GOk (c:Cf) (p:Int) (s:GS):Prop where
 w:W64 s.w
 a:s.a=0∨(thereP c p∧(s.a=1∨s.a=2∨s.a=3))
 has:s.has=true→s.a=0
def wrdN(c:Cf) (p:Int):Nat:=(addrA c p 0).toNat
def sltN(c:Cf) (p w:Int):Nat:=(slotA c p (hd w)).toNat
def stepG(c:Cf) (p:Int) (xs:List Int) (s:GS):GS × List Int :=
 if s.a=1 then({ s with w:=xs.getD (wrdN c p) 0,a:=if sz (xs.getD (wrdN c p) 0)=0∨c.q < sz (xs.getD (wrdN c p) 0) then 0 else 2 },xs)
 else if s.a=2 then({ s with seen:=IntKind.i64.wrap (xs.getD (sltN c p s.w) 0),a:=3 },xs)
 else if s.a=3 then if xs.getD (wrdN c p) 0=s.w then({ s with has:=true,a:=0 },xs.set (wrdN c p) (gainW s.w)) else({ s with tries:=IntKind.i64.wrap (s.tries+1),a:=1 },xs)
 else(s,xs)
def opsG(s:GS) (o:Int):Int:=if s.a=0 then o else IntKind.u64.wrap (o+1)
theorem getD_64{xs:List Int} (h:∀ x,x ∈ xs→W64 x) (i:Nat):W64 (xs.getD i 0):=by
 rw[List.getD_eq_getElem?_getD]
 cases hx:xs[i]? with
 | none=>unfold W64;simp
 | some x=>exact h x (List.mem_of_getElem? hx)
theorem stepG_zero{c:Cf} {p:Int} {s:GS} (h:s.a=0) (xs:List Int):stepG c p xs s=(s,xs):=by
 unfold stepG;rw[if_neg (by omega),if_neg (by omega),if_neg (by omega)]
theorem GOk.step{c:Cf} {p:Int} {s:GS} {xs:List Int} (h:GOk c p s) (hx:s.a=0∨OkL c xs):GOk c p (stepG c p xs s).1:=by
 rcases hx with h0|hx
 ·rw[stepG_zero h0];exact h
 obtain⟨h1,h2,h3⟩:=h
 have hg:=getD_64 hx.2 (wrdN c p)
 unfold stepG
 split
 ·refine⟨hg,?_,fun hh=>?_⟩
  ·by_cases hz:sz (xs.getD (wrdN c p) 0)=0∨c.q < sz (xs.getD (wrdN c p) 0)
   ·exact .inl (if_pos hz)
   ·refine .inr ⟨?_,.inr (.inl (if_neg hz))⟩
    rcases h2 with h2|h2
    ·omega
    ·exact h2.1
  ·have:=h3 hh;omega
 ·split
  ·refine⟨h1,.inr ⟨?_,.inr (.inr rfl)⟩,fun hh=>?_⟩
   ·rcases h2 with h2|h2
    ·omega
    ·exact h2.1
   ·have:=h3 hh;omega
  ·split
   ·split
    ·exact⟨h1,.inl rfl,fun _=>rfl⟩
    ·refine⟨h1,.inr ⟨?_,.inl rfl⟩,fun hh=>?_⟩
     ·rcases h2 with h2|h2
      ·omega
      ·exact h2.1
     ·have:=h3 hh;omega
   ·exact⟨h1,h2,h3⟩
end Go.Am.F10
end
section
namespace Go.Am.F10
open Go.Am.F06
def GsQ(m:MM) (c:Cf) (p:Int) (j i:Nat) (x:GS × List Int) (o a0:Int) (r:AV) (m':MM):Prop:=KeepX j i m m'∧r = .int .i64 x.1.a∧m'[j]?=some (.cells 12 false (gC c p { x.1 with a:=a0 }))∧∃ st',m'[i]?=some (.abs (.mem st'))∧RelM x.2 o st'
theorem GsQ.of{m:MM} {c:Cf} {p:Int} {j i:Nat} {x:GS × List Int} {o a0:Int} {st':MemSt} {r:AV} {C:List AV} (hij:j≠i) (li:i < m.length) (lj:j < m.length) (hr:RelM x.2 o st') (hC:C=gC c p { x.1 with a:=a0 }) (hv:r = .int .i64 x.1.a) (K:MM) :
  GsQ m c p j i x o a0 r ((m.set i (.abs (.mem st'))).set j (.cells 12 false C)++K):=by
 subst hC
 refine⟨(((KeepX.refl m).setR _).setL _).app K,hv,?_,st',?_,hr⟩
 ·rw[List.getElem?_append_left (by simpa using lj),List.getElem?_set_self (by simpa using lj)]
 ·rw[List.getElem?_append_left (by simpa using li),List.getElem?_set_ne hij,List.getElem?_set_self li]
end Go.Am.F10
end
section
namespace Go.Am.F10
open Go.Am.F06
theorem _root_.Go.Am.Sl.put{X:Type} {m:Mem X} {wr:Bool} {sz n:Nat} {l:List AV} {v:AV} (h:Sl m wr sz n l v) {b:Nat} (hb:∀ ro L,m[b]?≠some (.cells sz ro L)) (C:Chunk X):Sl (m.set b C) wr sz n l v:=by
 refine⟨h.1,?_⟩
 rcases h.2 with h1|⟨q,o,cap,h1,h2⟩
 ·exact .inl h1
 ·refine .inr ⟨q,o,cap,h1,fun h0=>?_⟩
  obtain⟨ro,L,h3,h4⟩:=h2 h0
  refine⟨ro,L,?_,h4⟩
  rw[List.getElem?_set_ne (fun hq=>hb ro L (by rw[hq];exact h3))];exact h3
end Go.Am.F10
end
section
namespace Go.Am.F10
open Go.Am.F06
end Go.Am.F10
end
section
namespace Go.Am.F10
variable {X:Type}
def iC(xs:List Int):List AV:=xs.map (AV.int .i64)
theorem iC_at{xs:List Int} {k:Nat} {x:Int} (h:xs[k]?=some x):(iC xs)[k]?=some (.int .i64 x):=by simp[iC,h]
theorem iC_len(xs:List Int):(iC xs).length=xs.length:=by simp[iC]
theorem iC_one(xs:List Int):(iC xs).all AV.one=true:=by simp[iC,AV.one]
theorem iC_app(xs:List Int) (x:Int):iC (xs++[x])=iC xs++[.int .i64 x]:=by simp[iC]
abbrev SI(m:Mem X) (wr:Bool) (xs:List Int) (v:AV):Prop:=Sl m wr 1 xs.length (iC xs) v
theorem SI.val{m:Mem X} {wr:Bool} {xs:List Int} {v:AV} (h:SI m wr xs v) (hn:0 < xs.length):∃ q o cap ro L,v = .sl q o xs.length cap∧m[q]?=some (.cells 1 ro L)∧(wr=true→ro=false)∧o+xs.length≤L.length∧∀ (i:Nat) (x:Int),xs[i]?=some x→L[o+i]?=some (.int .i64 x):=by
 obtain⟨q,o,cap,ro,L,h1,h2,h3,h4,h5⟩:=h.at hn
 refine⟨q,o,cap,ro,L,h1,h2,h5,by omega,fun i x hx=>?_⟩
 have hi:i < xs.length:=(List.getElem?_eq_some_iff.1 hx).1
 rw[sl_get h3 (by omega)];exact iC_at hx
def MInv(n:Nat) (a b:AV) (xs ys:List Int) (m0:Mem X) (k:Nat) (e:List AV) (m:Mem X):Prop:=∃ (i:Nat) (x4 x5 x6:AV),
 e=[a,b,.bool false,.int .i64 i,x4,x5,x6]∧m=m0∧k=n - i∧i≤n∧∀ j,j < i→xs[j]?=ys[j]?
theorem same_run{m:Mem X} {w1 w2:Bool} {xs ys:List Int} {a b:AV} (ha:SI m w1 xs a) (hb:SI m w2 ys b) (hx:xs.length < FUEL):Fn [] kit_SameInts [a,b] m (fun r m'=>r = .bool (decide (xs=ys))∧m'=m):=by
 refine Fn_of rfl ?_
 have hF:xs.length < 1099511627776:=hx
 have h1:=ha.len
 have h2:=hb.len
 by_cases hn:xs.length=ys.length
 ·rcases Nat.eq_zero_or_pos xs.length with h0|h0
  ·have hx0:xs=[]:=List.length_eq_zero_iff.1 h0
   have hy0:ys=[]:=List.length_eq_zero_iff.1 (by omega)
   rw[hx0] at h1;rw[hy0] at h2
   subst hx0;subst hy0
   simp(disch:=first|assumption|omega|(simp only[zl]<;>omega)|(simp only[zn])) only[kit_SameInts,↓zd,zk,seval,reduceIte,List.map,AV.cells,List.all,AV.one,eqV,eqAll,splice,fillA,List.replicate,resAll,resA,ev_len,h1,h2]
   refine W_loop (fun k e m'=>∃ x4 x5 x6:AV,e=[a,b,.bool false,.int .i64 0,x4,x5,x6]∧m'=m) 0 (by simp[FUEL]) ⟨_,_,_,rfl,rfl⟩ ?_
   rintro k e m' ⟨x4,x5,x6,rfl,rfl⟩
   simp(disch:=first|assumption|omega|(simp only[zl]<;>omega)|(simp only[zn])) only[↓zd,zk,seval,reduceIte,List.map,AV.cells,List.all,AV.one,eqV,eqAll,splice,fillA,List.replicate,resAll,resA,ev_len,h1]
  ·obtain⟨q,o,cap,ro,L,rfl,hq,_,hL,hat⟩:=ha.val h0
   obtain⟨q',o',cap',ro',L',rfl,hq',_,hL',hat'⟩:=hb.val (by omega)
   simp(disch:=first|assumption|omega|(simp only[zl]<;>omega)|(simp only[zn])) only[kit_SameInts,↓zd,zk,seval,reduceIte,List.map,AV.cells,List.all,AV.one,eqV,eqAll,splice,fillA,List.replicate,resAll,resA]
   refine W_loop (MInv xs.length (.sl q o xs.length cap) (.sl q' o' ys.length cap') xs ys m) xs.length hx ⟨0,_,_,_,rfl,rfl,rfl,Nat.zero_le _,fun j hj=>by omega⟩ ?_
   rintro k e m' ⟨i,x4,x5,x6,rfl,rfl,rfl,hi,heq⟩
   simp(disch:=first|assumption|omega|(simp only[zl]<;>omega)|(simp only[zn])) only[↓zd,zk,seval,reduceIte,List.map,AV.cells,List.all,AV.one,eqV,eqAll,splice,fillA,List.replicate,resAll,resA]
   refine CW_of (fun h=>?_) (fun h=>?_)
   ·simp only[decide_eq_true_eq] at h
    obtain⟨x,hxi⟩:∃ x,xs[i]?=some x:=⟨_,List.getElem?_eq_getElem (by omega)⟩
    obtain⟨y,hyi⟩:∃ y,ys[i]?=some y:=⟨_,List.getElem?_eq_getElem (by omega)⟩
    simp(disch:=first|assumption|omega|(simp only[zl]<;>omega)|(simp only[zn])) only[↓zd,zk,seval,reduceIte,List.map,AV.cells,List.all,AV.one,eqV,eqAll,splice,fillA,List.replicate,resAll,resA,hq,hq',hat i x hxi,hat' i y hyi]
    by_cases hxy:x=y
    ·subst hxy
     simp(disch:=first|assumption|omega|(simp only[zl]<;>omega)|(simp only[zn])) only[↓zd,zk,seval,reduceIte,List.map,AV.cells,List.all,AV.one,eqV,eqAll,splice,fillA,List.replicate,resAll,resA]
     refine⟨_,by omega,i+1,_,_,_,rfl,rfl,rfl,by omega,fun j hj=>?_⟩
     by_cases hji:j=i
     ·subst hji;rw[hxi,hyi]
     ·exact heq j (by omega)
    ·simp(disch:=first|assumption|omega|(simp only[zl]<;>omega)|(simp only[zn])) only[↓zd,zk,seval,reduceIte,List.map,AV.cells,List.all,AV.one,eqV,eqAll,splice,fillA,List.replicate,resAll,resA,hxy]
     have:¬ xs=ys:=fun h=>by rw[h,hyi] at hxi;injection hxi with hxi;exact hxy hxi.symm
     simp[this]
   ·simp only[decide_eq_false_iff_not] at h
    simp(disch:=first|assumption|omega|(simp only[zl]<;>omega)|(simp only[zn])) only[↓zd,zk,seval,reduceIte,List.map,AV.cells,List.all,AV.one,eqV,eqAll,splice,fillA,List.replicate,resAll,resA]
    have:xs=ys:=List.ext_getElem? fun j=>by
     by_cases hj:j < i
     ·exact heq j hj
     ·rw[List.getElem?_eq_none (by omega),List.getElem?_eq_none (by omega)]
    simp[this]
 ·have hne:¬ ((xs.length:Int)=ys.length):=by omega
  have:¬ xs=ys:=fun h=>hn (by rw[h])
  simp(disch:=first|assumption|omega|(simp only[zl]<;>omega)|(simp only[zn])) only[kit_SameInts,↓zd,zk,seval,reduceIte,List.map,AV.cells,List.all,AV.one,eqV,eqAll,splice,fillA,List.replicate,resAll,resA,ev_len,h1,h2,hne,this]
theorem _root_.Go.Am.Own.si{m0 m:Mem X} {xs:List Int} {v:AV} (h:Own m0 m 1 xs.length (iC xs) v):SI m true xs v∧Fr m0.length v:=Own.sl h (by rw[iC_len];omega)
theorem _root_.Go.Am.Own.keep{m0 m m':Mem X} {n:Nat} {l:List AV} {lv:AV} (h:Own m0 m 1 n l lv) (hk:∀ q C,m0.length≤q→m[q]?=some (.cells 1 false C)→m'[q]?=some (.cells 1 false C)):Own m0 m' 1 n l lv:=by
 rcases h with h|⟨q,h1,h2,h3,h4⟩
 ·exact .inl h
 ·have:=hk q _ h3 h2
  exact .inr ⟨q,h1,this,h3,(List.getElem?_eq_some_iff.1 this).1⟩
def Nx(m:Mem X) (v:AV):Prop:=v = .nils∨∃ q o n l,v = .sl q o n none∧m[q]?=some (.cells 1 false l)
theorem _root_.Go.Am.Own.nx{m0 m:Mem X} {n:Nat} {l:List AV} {v:AV} (h:Own m0 m 1 n l v):Nx m v:=by
 rcases h with⟨_,_,rfl⟩|⟨q,rfl,h1,_⟩
 ·exact .inl rfl
 ·exact .inr ⟨_,_,_,_,rfl,h1⟩
theorem _root_.Go.Am.Own.base{m0 m1 m:Mem X} {n:Nat} {l:List AV} {v:AV} (h:Own m1 m 1 n l v) (hl:m0.length≤m1.length):Own m0 m 1 n l v:=by
 rcases h with h|⟨q,h1,h2,h3,h4⟩
 ·exact .inl h
 ·exact .inr ⟨q,h1,h2,by omega,h4⟩
theorem own_push{m0 m:Mem X} {xs:List Int} {v:AV} (h:Own m0 m 1 xs.length (iC xs) v) (x:Int) (hl:xs.length≤100000) (hm:m0.length≤m.length) :
  ∃ v' m',appendA 1 8 v (.sl m.length 0 1 (some 1)) (m++[.cells 1 false [.int .i64 x]])=some (v',m')∧Own m0 m' 1 (xs++[x]).length (iC (xs++[x])) v'∧m.length≤m'.length∧(∀ i,i < m.length→(∀ ro L,m[i]?≠some (.cells 1 ro L))∨i < m0.length→m'[i]?=m[i]?):=by
 have hx:(m++[Chunk.cells 1 false [.int .i64 x]])[m.length]?=some (.cells 1 false [.int .i64 x]):=get_concat
 rw[iC_app,List.length_append]
 rcases h with⟨h1,h2,rfl⟩|⟨q,rfl,hq,h2,h3⟩
 ·have hxs:xs=[]:=List.length_eq_zero_iff.1 h1
  subst hxs
  refine⟨_,_,append_nils hx rfl rfl (by decide),.inr ⟨_,rfl,get_concat,by simp<;>omega,by simp⟩,by simp<;>omega,fun i hi _=>?_⟩
  rw[List.getElem?_append_left (by simp<;>omega),List.getElem?_append_left hi]
 ·have hq':(m++[Chunk.cells 1 false [.int .i64 x]])[q]?=some (.cells 1 false (iC xs)):=by rw[List.getElem?_append_left h3];exact hq
  refine⟨_,_,append_none hq' (by rw[iC_len];omega) hx rfl (iC_one _) rfl (by omega) (by omega),.inr ⟨_,rfl,?_,by simp<;>omega,by simp⟩,by simp<;>omega,fun i hi ho=>?_⟩
  ·have:(m++[Chunk.cells 1 false [AV.int .i64 x]]).length=((m++[Chunk.cells 1 false [AV.int .i64 x]]).set q .dead).length:=by simp
   rw[this,get_concat]
  ·have hqi:q≠i:=by
    rintro rfl
    rcases ho with ho|ho
    ·exact ho _ _ hq
    ·omega
   rw[List.getElem?_append_left (by simp<;>omega),List.getElem?_set_ne hqi,List.getElem?_append_left hi]
end Go.Am.F10
end
section
namespace Go.Am.F15
open Go.Am.F10 (iC iC_at iC_len iC_one iC_app SI SI.val same_run)
variable {X:Type}
def gtO:Option (Chunk X)→Option (Tab × Nat)
 | some (.tab l c)=>some (l,c)
 | _=>none
theorem getT_O{m:Mem X} {i:Nat}:getT m i=gtO m[i]?:=by
 simp only[getT,gtO];cases m[i]? with
 | none=>rfl
 | some c=>cases c<;>rfl
theorem gtO_tab{l:Tab} {c:Nat}:gtO (X:=X) (some (.tab l c))=some (l,c):=rfl
def tbO:Option (Chunk X)→Option Tab
 | some (.tab l _)=>some l
 | some (.rtab l)=>some l
 | _=>none
theorem tabOf_O{m:Mem X} {i:Nat}:tabOf m (.map i)=tbO m[i]?:=by
 simp only[tabOf,tbO];cases m[i]? with
 | none=>rfl
 | some c=>cases c<;>rfl
theorem tbO_tab{l:Tab} {c:Nat}:tbO (X:=X) (some (.tab l c))=some l:=rfl
section
variable {G:List (Nat × AFun X)} {i:Nat} {k:Int} {v:AV} {m:Mem X}
theorem ev_mset:amOp G .mset [.map i,.int .i64 k,v] m=match getT m i with|some (l,c)=>some (.skip,m.set i (.tab (tabSet k v c l) (tabTick k l c)))|none=>none:=rfl
theorem ev_mdel:amOp G .mdel [.map i,.int .i64 k] m=match getT m i with|some (l,c)=>some (.skip,m.set i (.tab (tabDel k l) c))|none=>none:=rfl
theorem ev_ment:amOp G (.ment v) [.map i,.int .i64 k] m=match getT m i with
  | some (l,c)=>match tabBorn k l with
   | some (b,u)=>some (.tup [u,.int .i64 b],m)
   | none=>some (.tup [v,.int .i64 c],m.set i (.tab (l++[(k,c,v)]) (c+1)))
  | none=>none:=rfl
theorem ev_mput:amOp G .mput [.map i,.int .i64 k,v] m=match getT m i with
  | some (l,c)=>match tabPut k v l with
   | some l'=>some (.skip,m.set i (.tab l' c))
   | none=>none
  | none=>none:=rfl
end
theorem ev_mkmap{G:List (Nat × AFun X)} {m:Mem X}:amOp G .mkmap [] m=some (.map m.length,m++[.tab [] 0]):=rfl
theorem tabOf_nil{m:Mem X}:tabOf m .nilm=some []:=rfl
theorem tabOf_map{m:Mem X} {k c:Nat} {tb:Tab} (h:m[k]?=some (.tab tb c)):tabOf m (.map k)=some tb:=by simp only[tabOf,h]
theorem stC_map{m:Mem X} {i o sz a:Nat} {l:List AV} (h:o < l.length):stC m i o 1 (.map a) (some (sz,false,l))=some (m.set i (.cells sz false (l.set o (.map a)))):=by
 rw[← splice_one h];exact if_pos ⟨rfl,by omega,rfl⟩
def LN(m:Mem X) (i:Nat) (j:Option Nat) (xs:List Int):Prop :=
 (j=none∧xs=[]∧∃ h t,m[i]?=some (.cells 3 false [.nilm,.int .i64 h,.int .i64 t])) ∨
 (∃ k tb c h t,j=some k∧m[i]?=some (.cells 3 false [.map k,.int .i64 h,.int .i64 t])∧m[k]?=some (.tab tb c)∧Ln tb c h t xs)
theorem LN.read{m:Mem X} {i:Nat} {j:Option Nat} {xs:List Int} (H:LN m i j xs):∃ lk tb c h t,m[i]?=some (.cells 3 false [lk,.int .i64 h,.int .i64 t])∧tabOf m lk=some tb∧Ln tb c h t xs:=by
 rcases H with⟨_,rfl,h,t,gi⟩|⟨k,tb,c,h,t,rfl,gi,gk,hl⟩
 ·exact⟨_,[],0,h,t,gi,rfl,Ln.nil 0 h t⟩
 ·exact⟨_,tb,c,h,t,gi,tabOf_map gk,hl⟩
def KL(m m':Mem X) (i:Nat) (j:Option Nat):Prop:=m.length≤m'.length∧∀ k,k < m.length→k≠i→j≠some k→m'[k]?=m[k]?
theorem KL.refl(m:Mem X) (i:Nat) (j:Option Nat):KL m m i j:=⟨Nat.le_refl _,fun _ _ _ _=>rfl⟩
theorem _root_.Go.Am.Keep.kl{m m':Mem X} (h:Keep m m') (i:Nat) (j:Option Nat):KL m m' i j:=⟨h.1,fun k hk _ _=>h.2 k hk⟩
def JN(m:Mem X) (j j':Option Nat):Prop:=j'=j∨∃ k,j'=some k∧m.length≤k
theorem JN.refl(m:Mem X) (j:Option Nat):JN m j j:=.inl rfl
theorem JN.trans{m m':Mem X} {j j' j'':Option Nat} (h:JN m j j') (h':JN m' j' j'') (hl:m.length≤m'.length):JN m j j'':=by
 rcases h' with rfl|⟨k,rfl,hk⟩
 ·exact h
 ·exact .inr ⟨k,rfl,by omega⟩
theorem KL.trans{m m' m'':Mem X} {i:Nat} {j j':Option Nat} (h:KL m m' i j) (h':KL m' m'' i j') (hj:JN m j j'):KL m m'' i j :=
 ⟨Nat.le_trans h.1 h'.1,fun k hk h1 h2=>(h'.2 k (Nat.lt_of_lt_of_le hk h.1) h1 (fun e=>by
  rcases hj with rfl|⟨q,rfl,hq⟩
  ·exact h2 e
  ·injection e with e;omega)).trans (h.2 k hk h1 h2)⟩
theorem LN.keep{m m':Mem X} {i:Nat} {j:Option Nat} {xs:List Int} (H:LN m i j xs) (h:Keep m m'):LN m' i j xs:=by
 rcases H with⟨h1,h2,h3,t,gi⟩|⟨k,tb,c,h1,t,h2,gi,gk,hl⟩
 ·exact .inl ⟨h1,h2,h3,t,h.get gi⟩
 ·exact .inr ⟨k,tb,c,h1,t,h2,h.get gi,h.get gk,hl⟩
def hasB(xs:List Int) (x:Int):Bool:=decide (x ∈ xs)
theorem has_run{m:Mem X} {i:Nat} {j:Option Nat} {xs:List Int} (H:LN m i j xs) (x:Int):Fn [] fifo_Line_Has [.ptr i 0,.int .i64 x] m (fun r m'=>r = .bool (hasB xs x)∧Keep m m'):=by
 obtain⟨lk,tb,c,h,t,gi,gt,hl⟩:=H.read
 obtain⟨a,b,ia,ib,hs⟩:=hl.shape x
 have hb:=hl.isSome x
 have li:=(List.getElem?_eq_some_iff.1 gi).1
 simp only[zlink] at hs
 refine Fn_of rfl ?_
 simp(disch:=first|assumption|omega|(simp only[zl]<;>omega)|(simp only[zn])) only[fifo_Line_Has,↓zd,zk,seval,reduceIte,List.map,AV.cells,List.all,AV.one,eqV,eqAll,splice,fillA,List.replicate,resAll,resA,zm,zg,gi,ev_mget,gt,mgetA,hs,hb]
 exact⟨rfl,Keep.app _ _⟩
def fitsB(xs l:List Int):Bool:=decide (l.Nodup∧∀ x ∈ l,x ∉ xs)
theorem take_succ{l:List Int} {n:Nat} {x:Int} (h:l[n]?=some x):l.take (n+1)=l.take n++[x]:=by
 rw[List.take_add_one,h];rfl
def FInv(m0:Mem X) (i:Nat) (xs l:List Int) (lv:AV) (k:Nat) (e:List AV) (m:Mem X):Prop:=∃ (n s:Nat) (x4 x5 x9 x10:AV) (tb:Tab) (c:Nat),
 e=[.ptr i 0,lv,.bool false,.map s,x4,x5,lv,.int .i64 l.length,.int .i64 n,x9,x10]∧k=l.length - n∧n≤l.length∧Keep m0 m∧m0.length≤s∧m[s]?=some (.tab tb c)∧(∀ y,tabGet y tb=if y ∈ l.take n then some zlink else none)∧(l.take n).Nodup∧∀ y ∈ l.take n,y ∉ xs
set_option maxHeartbeats 1000000 in
theorem fits_run{m:Mem X} {i:Nat} {j:Option Nat} {xs l:List Int} {w:Bool} {lv:AV} (H:LN m i j xs) (hl:SI m w l lv) (hf:l.length < 100000):Fn [(119,c_fifo_Line_Has)] fifo_Line_fits [.ptr i 0,lv] m (fun r m'=>r = .bool (fitsB xs l)∧Keep m m'):=by
 have a119:assoc [(119,c_fifo_Line_Has (X:=X))] 119=some c_fifo_Line_Has:=rfl
 generalize [(119,c_fifo_Line_Has (X:=X))]=G at a119 ⊢
 have hlen:=hl.len
 refine Fn_of rfl ?_
 simp(disch:=first|assumption|omega|(simp only[zl]<;>omega)|(simp only[zn])) only[fifo_Line_fits,↓zd,zk,seval,reduceIte,List.map,AV.cells,List.all,AV.one,eqV,eqAll,splice,fillA,List.replicate,resAll,resA,zm,zg,ev_mkmap,ev_len,hlen]
 refine W_loop (FInv m i xs l lv) l.length (by unfold FUEL;omega) ⟨0,m.length,_,_,_,_,[],0,rfl,rfl,Nat.zero_le _,Keep.app _ _,Nat.le_refl _,by simp,fun y=>by simp[tabGet],by simp,by simp⟩ ?_
 rintro k e m' ⟨n,s,x4,x5,x9,x10,tb,c,rfl,rfl,hn,hk,hs,gs,htb,hnd,hxs⟩
 have ls:=(List.getElem?_eq_some_iff.1 gs).1
 simp(disch:=first|assumption|omega|(simp only[zl]<;>omega)|(simp only[zn])) only[↓zd,zk,seval,reduceIte,List.map,AV.cells,List.all,AV.one,eqV,eqAll,splice,fillA,List.replicate,resAll,resA,zm,zg]
 refine CW_of (fun h=>?_) (fun h=>?_)
 ·simp only[decide_eq_true_eq] at h
  obtain⟨q,o,cap,ro,L,rfl,hq,_,hL,hat⟩:=hl.val (by omega)
  obtain⟨x,hxi⟩:∃ x,l[n]?=some x:=⟨_,List.getElem?_eq_getElem (by omega)⟩
  have hq':=hk.get hq
  have hget:(tabGet x tb).getD (AV.agg [.int .i64 0,.int .i64 0,.bool false,.bool false]) = .agg [.int .i64 0,.int .i64 0,.bool false,.bool false]:=by rw[htb];split<;>rfl
  have htake:=take_succ hxi
  have bad:∀ y,y ∈ l.take (n+1)→(y ∈ l.take n∧y=x∨y ∈ xs)→fitsB xs l=false:=fun y hy hb=>by
   simp only[fitsB,decide_eq_false_iff_not]
   rintro⟨hd,hx⟩
   rcases hb with⟨h1,rfl⟩|h1
   ·have:=hd.sublist (List.take_sublist (n+1) l)
    rw[htake,List.nodup_append] at this
    exact this.2.2 y h1 y (by simp) rfl
   ·exact hx y (List.mem_of_mem_take hy) h1
  by_cases hx:x ∈ l.take n
  ·have hsome:(tabGet x tb).isSome=true:=by rw[htb,if_pos hx];rfl
   simp(disch:=first|assumption|omega|(simp only[zl]<;>omega)|(simp only[zn])) only[↓zd,zk,seval,reduceIte,List.map,AV.cells,List.all,AV.one,eqV,eqAll,splice,fillA,List.replicate,resAll,resA,zm,zg,hq',hat n x hxi,ev_mlen,ev_mget,ev_mset,ev_mdel,ev_ment,ev_mput,ev_mkmap,getT_O,gtO_tab,tabOf_O,tbO_tab,tabOf_nil,mgetA,stC_map,Option.getD_some,Option.getD_none,gs,hsome,hget]
   exact⟨by rw[bad x (by rw[htake];simp) (.inl ⟨hx,rfl⟩)],hk.trans (Keep.app _ _)⟩
  ·have hsome:(tabGet x tb).isSome=false:=by rw[htb,if_neg hx];rfl
   simp(disch:=first|assumption|omega|(simp only[zl]<;>omega)|(simp only[zn])) only[↓zd,zk,seval,reduceIte,List.map,AV.cells,List.all,AV.one,eqV,eqAll,splice,fillA,List.replicate,resAll,resA,zm,zg,hq',hat n x hxi,ev_mlen,ev_mget,ev_mset,ev_mdel,ev_ment,ev_mput,ev_mkmap,getT_O,gtO_tab,tabOf_O,tbO_tab,tabOf_nil,mgetA,stC_map,Option.getD_some,Option.getD_none,gs,hsome,hget,a119]
   have hk1:Keep m (m'++[Chunk.cells 4 false [AV.int .i64 0,.int .i64 0,.bool false,.bool false]]):=hk.trans (Keep.app _ _)
   refine OK_fn (has_run (H.keep hk1) x) ?_
   rintro _ m2 ⟨rfl,hk2⟩
   have gs2:m2[s]?=some (.tab tb c):=hk2.get ((Keep.app _ _).get gs)
   by_cases hxx:x ∈ xs
   ·have hb:hasB xs x=true:=by simp[hasB,hxx]
    simp(disch:=first|assumption|omega|(simp only[zl]<;>omega)|(simp only[zn])) only[↓zd,zk,seval,reduceIte,List.map,AV.cells,List.all,AV.one,eqV,eqAll,splice,fillA,List.replicate,resAll,resA,zm,zg,hb]
    exact⟨by rw[bad x (by rw[htake];simp) (.inr hxx)],hk1.trans hk2⟩
   ·have hb:hasB xs x=false:=by simp[hasB,hxx]
    simp(disch:=first|assumption|omega|(simp only[zl]<;>omega)|(simp only[zn])) only[↓zd,zk,seval,reduceIte,List.map,AV.cells,List.all,AV.one,eqV,eqAll,splice,fillA,List.replicate,resAll,resA,zm,zg,ev_mlen,ev_mget,ev_mset,ev_mdel,ev_ment,ev_mput,ev_mkmap,getT_O,gtO_tab,tabOf_O,tbO_tab,tabOf_nil,mgetA,stC_map,Option.getD_some,Option.getD_none,hb,gs2]
    refine⟨_,by omega,n+1,s,_,_,_,_,tabSet x zlink c tb,tabTick x tb c,rfl,rfl,by omega,(hk1.trans hk2).set hs _,hs,List.getElem?_set_self (List.getElem?_eq_some_iff.1 gs2).1,fun y=>?_,?_,fun y hy=>?_⟩
    ·rw[get_set,htb,htake]
     by_cases hyx:y=x
     ·subst hyx;simp
     ·simp[hyx]
    ·rw[htake,List.nodup_append]
     exact⟨hnd,by simp,fun a ha b hb=>by simp at hb;subst hb;exact fun e=>hx (e ▸ ha)⟩
    ·rw[htake,List.mem_append] at hy
     rcases hy with hy|hy
     ·exact hxs y hy
     ·simp at hy;subst hy;exact hxx
 ·simp only[decide_eq_false_iff_not] at h
  simp(disch:=first|assumption|omega|(simp only[zl]<;>omega)|(simp only[zn])) only[↓zd,zk,seval,reduceIte,List.map,AV.cells,List.all,AV.one,eqV,eqAll,splice,fillA,List.replicate,resAll,resA,zm,zg]
  have:n=l.length:=by omega
  subst this
  rw[List.take_length] at hnd hxs
  refine⟨?_,hk⟩
  simp[fitsB,hnd]
  exact hxs
end Go.Am.F15
end
section
namespace Go.Am.F15
open Go.Am.F10 (iC iC_at iC_len iC_one iC_app SI SI.val same_run)
open Go.Am.F06 (sqN sqT)
variable {X:Type}
def PInv(m0:Mem X) (i:Nat) (j:Option Nat) (xs l:List Int) (lv:AV) (k:Nat) (e:List AV) (m:Mem X):Prop:=∃ (n q:Nat) (x3 x4 x5 x6 x7 x8 x12 x13:AV) (tb:Tab) (c:Nat) (h t:Int),
 e=[.ptr i 0,lv,.int .i64 0,x3,x4,x5,x6,x7,x8,lv,.int .i64 l.length,.int .i64 n,x12,x13]∧k=l.length - n∧n≤l.length∧KL m0 m i j∧JN m0 j (some q) ∧
 m[i]?=some (.cells 3 false [.map q,.int .i64 h,.int .i64 t])∧m[q]?=some (.tab tb c)∧Ln tb c h t (xs++l.take n)
def PuP(m:Mem X) (i:Nat) (j:Option Nat) (xs l:List Int) (r:AV) (m':Mem X):Prop :=
 r = .int .i64 (if fitsB xs l=true then 0 else 140)∧∃ j',KL m m' i j∧JN m j j'∧LN m' i j' (if fitsB xs l=true then xs++l else xs)
theorem kl_step{m0 m m':Mem X} {i q:Nat} {j:Option Nat} (hk:KL m0 m i j) (hj:JN m0 j (some q)) (hl:m.length≤m'.length) (h:∀ k,k < m.length→k≠i→k≠q→m'[k]?=m[k]?):KL m0 m' i j :=
 ⟨Nat.le_trans hk.1 hl,fun k h0 h1 h2=>(h k (Nat.lt_of_lt_of_le h0 hk.1) h1 (fun e=>by
  rcases hj with e1|⟨q',e1,hq⟩
  ·exact h2 (by rw[← e1,e])
  ·injection e1 with e1;omega)).trans (hk.2 k h0 h1 h2)⟩
def pushT:AC:=sqT 3 fifo_Line_Push.body
theorem push_body:fifo_Line_Push.body = .seq (sqN 0 fifo_Line_Push.body) (.seq (sqN 1 fifo_Line_Push.body) (.seq (sqN 2 fifo_Line_Push.body) pushT)):=rfl
set_option maxHeartbeats 4000000 in
theorem pushT_run{G:List (Nat × AFun X)} {m0 m:Mem X} {i q:Nat} {j:Option Nat} {xs l:List Int} {w:Bool} {lv:AV} (hl:SI m0 w l lv) (hf:l.length < 100000) (hx:xs.length < 100000) (hfit:fitsB xs l=true) {tb:Tab} {c:Nat} {h t:Int} {x3 x4 x5 x6 x7 x8 x9 x10 x11 x12 x13:AV} (li0:i < m0.length) (gi0:∀ sz ro L,m0[i]?=some (.cells sz ro L)→sz=3) (gj0:∀ k sz ro L,j=some k→m0[k]?≠some (.cells sz ro L))
  (hk:KL m0 m i j) (hj:JN m0 j (some q)) (gi:m[i]?=some (.cells 3 false [.map q,.int .i64 h,.int .i64 t])) (gq:m[q]?=some (.tab tb c)) (hln:Ln tb c h t xs) :
  W G pushT (resQ [ARes.loc 2] (PuP m0 i j xs l)) [.ptr i 0,lv,.int .i64 0,x3,x4,x5,x6,x7,x8,x9,x10,x11,x12,x13] m:=by
 have hlen:=hl.len
 simp(disch:=first|assumption|omega|(simp only[zl]<;>omega)|(simp only[zn])) only[pushT,sqT,fifo_Line_Push,↓zd,zk,seval,reduceIte,List.map,AV.cells,List.all,AV.one,eqV,eqAll,splice,fillA,List.replicate,resAll,resA,zm,zg,ev_len,hlen]
 refine W_loop (PInv m0 i j xs l lv) l.length (by unfold FUEL;omega) ⟨0,q,x3,x4,x5,x6,x7,x8,x12,x13,tb,c,h,t,rfl,rfl,Nat.zero_le _,hk,hj,gi,gq,by simpa using hln⟩ ?_
 rintro k e m' ⟨n,q,x3,x4,x5,x6,x7,x8,x12,x13,tb,c,h,t,rfl,rfl,hn,hk,hj,gi,gq,hln⟩
 have li:=(List.getElem?_eq_some_iff.1 gi).1
 have lq:=(List.getElem?_eq_some_iff.1 gq).1
 simp(disch:=first|assumption|omega|(simp only[zl]<;>omega)|(simp only[zn])) only[↓zd,zk,seval,reduceIte,List.map,AV.cells,List.all,AV.one,eqV,eqAll,splice,fillA,List.replicate,resAll,resA,zm,zg]
 refine CW_of (fun hc=>?_) (fun hc=>?_)
 ·simp only[decide_eq_true_eq] at hc
  obtain⟨s,o,cap,ro,L,rfl,hs,_,hL,hat⟩:=hl.val (by omega)
  obtain⟨x,hxi⟩:∃ x,l[n]?=some x:=⟨_,List.getElem?_eq_getElem (by omega)⟩
  have hsi:s≠i:=fun e=>by have:=gi0 1 ro L (by rw[← e];exact hs);omega
  have hs':m'[s]?=some (.cells 1 ro L):=(hk.2 s (List.getElem?_eq_some_iff.1 hs).1 hsi (fun e=>gj0 s 1 ro L e hs)).trans hs
  have hiq:i≠q:=fun e=>by rw[e,gq] at gi;cases gi
  have htl:=hln.len
  have hxl:x ∉ xs++l.take n:=by
   simp only[fitsB,decide_eq_true_eq] at hfit
   rw[List.mem_append]
   rintro(h1|h1)
   ·exact hfit.2 x (List.mem_of_getElem? hxi) h1
   ·have:=hfit.1.sublist (List.take_sublist (n+1) l)
    rw[take_succ hxi,List.nodup_append] at this
    exact this.2.2 x h1 x (by simp) rfl
  rcases List.eq_nil_or_concat (xs++l.take n) with h0|⟨r,z,h0⟩
  ·rw[h0] at hln htl
   obtain⟨rfl,hln2⟩:=hln.push_first x t
   have hb0:tabBorn x ([]:Tab)=none:=rfl
   have hp0:∀ z v:AV,tabPut (c:Int) v ([(x,c,z)]:Tab)=some [(x,c,v)]:=fun z v=>put_new (l:=[]) (by simp)
   simp(disch:=first|assumption|omega|(simp only[zl]<;>omega)|(simp only[zn])) only[↓zd,zk,seval,reduceIte,List.map,AV.cells,List.all,AV.one,eqV,eqAll,splice,fillA,List.replicate,resAll,resA,zm,zg,ev_mlen,ev_mget,ev_mset,ev_mdel,ev_ment,ev_mput,ev_mkmap,getT_O,gtO_tab,tabOf_O,tbO_tab,tabOf_nil,mgetA,stC_map,Option.getD_some,Option.getD_none,hs',hat n x hxi,gi,gq,hb0,hp0]
   refine⟨_,by omega,n+1,q,_,_,_,_,_,_,_,_,_,c+1,x,x,rfl,rfl,by omega,kl_step hk hj (by simp) (fun k h1 h2 h3=>by simp(disch:=first|assumption|omega|(simp only[zl]<;>omega)|(simp only[zn])) only[↓zd,zk,seval,reduceIte,List.map,AV.cells,List.all,AV.one,eqV,eqAll,splice,fillA,List.replicate,resAll,resA,zm,zg]),hj,by simp(disch:=first|assumption|omega|(simp only[zl]<;>omega)|(simp only[zn])) only[↓zd,zk,seval,reduceIte,List.map,AV.cells,List.all,AV.one,eqV,eqAll,splice,fillA,List.replicate,resAll,resA,zm,zg],(by simp(disch:=first|assumption|omega|(simp only[zl]<;>omega)|(simp only[zn])) only[↓zd,zk,seval,reduceIte,List.map,AV.cells,List.all,AV.one,eqV,eqAll,splice,fillA,List.replicate,resAll,resA,zm,zg];rfl),?_⟩
   rw[take_succ hxi,← List.append_assoc,h0]
   exact hln2
  ·rw[List.concat_eq_append] at h0
   obtain rfl:=hln.tail z r h0
   obtain⟨a,b,hv,ha,_⟩:=hln.at h0
   have hpush:=hln.push h0 hxl (c':=c) hv ha
   have hv':tabGet t tb=some (.agg [.int .i64 a,.int .i64 b,.bool (!r.isEmpty),.bool false]):=hv
   have htick:tabTick t tb c=c:=by simp only[tabTick,hv]
   have hpos:((0:Int) < (tb.length:Int))=True:=eq_true (by rw[htl,h0];simp)
   have hkt:t ∈ tks tb:=get_iff.1 ⟨_,hv⟩
   have hxt:x≠t:=fun e=>hxl (by rw[h0,e];simp)
   have hb1:∀ v:AV,tabBorn x (tabSet t v c tb)=none:=fun v=>born_none (by rw[get_set,if_neg hxt];exact hln.none.2 hxl)
   have hp1:∀ u z v:AV,tabPut (c:Int) v (tabSet t u c tb++[(x,c,z)])=some (tabSet t u c tb++[(x,c,v)]):=fun u z v=>put_new (born_set hkt hln.born)
   simp(disch:=first|assumption|omega|(simp only[zl]<;>omega)|(simp only[zn])) only[↓zd,zk,seval,reduceIte,List.map,AV.cells,List.all,AV.one,eqV,eqAll,splice,fillA,List.replicate,resAll,resA,zm,zg,ev_mlen,ev_mget,ev_mset,ev_mdel,ev_ment,ev_mput,ev_mkmap,getT_O,gtO_tab,tabOf_O,tbO_tab,tabOf_nil,mgetA,stC_map,Option.getD_some,Option.getD_none,hs',hat n x hxi,gi,gq,hpos,hv',htick,hb1,hp1]
   refine⟨_,by omega,n+1,q,_,_,_,_,_,_,_,_,_,c+1,h,x,rfl,rfl,by omega,kl_step hk hj (by simp) (fun k h1 h2 h3=>by simp(disch:=first|assumption|omega|(simp only[zl]<;>omega)|(simp only[zn])) only[↓zd,zk,seval,reduceIte,List.map,AV.cells,List.all,AV.one,eqV,eqAll,splice,fillA,List.replicate,resAll,resA,zm,zg]),hj,by simp(disch:=first|assumption|omega|(simp only[zl]<;>omega)|(simp only[zn])) only[↓zd,zk,seval,reduceIte,List.map,AV.cells,List.all,AV.one,eqV,eqAll,splice,fillA,List.replicate,resAll,resA,zm,zg],(by simp(disch:=first|assumption|omega|(simp only[zl]<;>omega)|(simp only[zn])) only[↓zd,zk,seval,reduceIte,List.map,AV.cells,List.all,AV.one,eqV,eqAll,splice,fillA,List.replicate,resAll,resA,zm,zg];rfl),?_⟩
   rw[take_succ hxi,← List.append_assoc]
   exact hpush
 ·simp only[decide_eq_false_iff_not] at hc
  simp(disch:=first|assumption|omega|(simp only[zl]<;>omega)|(simp only[zn])) only[↓zd,zk,seval,reduceIte,List.map,AV.cells,List.all,AV.one,eqV,eqAll,splice,fillA,List.replicate,resAll,resA,zm,zg]
  have:n=l.length:=by omega
  subst this
  rw[List.take_length] at hln
  exact⟨by rw[if_pos hfit],some q,hk,hj,by rw[if_pos hfit];exact .inr ⟨q,tb,c,h,t,rfl,gi,gq,hln⟩⟩
theorem LN.cells3{m:Mem X} {i:Nat} {j:Option Nat} {xs:List Int} (H:LN m i j xs):i < m.length∧(∀ sz ro L,m[i]?=some (.cells sz ro L)→sz=3)∧∀ k sz ro L,j=some k→m[k]?≠some (.cells sz ro L):=by
 rcases H with⟨rfl,_,h,t,gi⟩|⟨q,tb,c,h,t,rfl,gi,gq,_⟩
 ·exact⟨(List.getElem?_eq_some_iff.1 gi).1,fun sz ro L e=>by rw[gi] at e;injection e with e;injection e with e;exact e.symm,fun k sz ro L e=>by cases e⟩
 ·exact⟨(List.getElem?_eq_some_iff.1 gi).1,fun sz ro L e=>by rw[gi] at e;injection e with e;injection e with e;exact e.symm,fun k sz ro L e=>by injection e with e;subst e;rw[gq];simp⟩
set_option maxHeartbeats 4000000 in
theorem push_run{m:Mem X} {i:Nat} {j:Option Nat} {xs l:List Int} {w:Bool} {lv:AV} (H:LN m i j xs) (hl:SI m w l lv) (hf:l.length < 100000) (hx:xs.length < 100000):Fn [(123,c_fifo_Line_fits)] fifo_Line_Push [.ptr i 0,lv] m (PuP m i j xs l):=by
 have a123:assoc [(123,c_fifo_Line_fits (X:=X))] 123=some c_fifo_Line_fits:=rfl
 generalize [(123,c_fifo_Line_fits (X:=X))]=G at a123 ⊢
 have hlen:=hl.len
 obtain⟨li0,gi0,gj0⟩:=H.cells3
 refine Fn_of rfl ?_
 rw[push_body]
 simp(disch:=first|assumption|omega|(simp only[zl]<;>omega)|(simp only[zn])) only[sqN,fifo_Line_Push,↓zd,zk,seval,reduceIte,List.map,AV.cells,List.all,AV.one,eqV,eqAll,splice,fillA,List.replicate,resAll,resA,zm,zg,a123]
 refine OK_fn (fits_run H hl hf) ?_
 rintro _ m1 ⟨rfl,hk⟩
 cases hfit:fitsB xs l with
 | false =>
  simp(disch:=first|assumption|omega|(simp only[zl]<;>omega)|(simp only[zn])) only[↓zd,zk,seval,reduceIte,List.map,AV.cells,List.all,AV.one,eqV,eqAll,splice,fillA,List.replicate,resAll,resA,zm,zg]
  exact⟨by simp[hfit],j,hk.kl i j,JN.refl m j,by simpa [hfit] using H.keep hk⟩
 | true =>
  simp(disch:=first|assumption|omega|(simp only[zl]<;>omega)|(simp only[zn])) only[↓zd,zk,seval,reduceIte,List.map,AV.cells,List.all,AV.one,eqV,eqAll,splice,fillA,List.replicate,resAll,resA,zm,zg]
  rcases H.keep hk with⟨rfl,rfl,h,t,gi⟩|⟨q,tb,c,h,t,rfl,gi,gq,hln⟩
  ·have li:=(List.getElem?_eq_some_iff.1 gi).1
   simp(disch:=first|assumption|omega|(simp only[zl]<;>omega)|(simp only[zn])) only[↓zd,zk,seval,reduceIte,List.map,AV.cells,List.all,AV.one,eqV,eqAll,splice,fillA,List.replicate,resAll,resA,zm,zg,ev_mlen,ev_mget,ev_mset,ev_mdel,ev_ment,ev_mput,ev_mkmap,getT_O,gtO_tab,tabOf_O,tbO_tab,tabOf_nil,mgetA,stC_map,Option.getD_some,Option.getD_none,gi]
   refine pushT_run hl hf hx hfit li0 gi0 gj0 (q:=m1.length) (tb:=[]) (c:=0) (h:=h) (t:=t) ⟨?_,fun k h0 h1 h2=>?_⟩ (.inr ⟨_,rfl,hk.1⟩) ?_ ?_ (Ln.nil 0 h t)
   ·have:=hk.1;simp;omega
   ·have:=hk.1
    simp(disch:=first|assumption|omega|(simp only[zl]<;>omega)|(simp only[zn])) only[↓zd,zk,seval,reduceIte,List.map,AV.cells,List.all,AV.one,eqV,eqAll,splice,fillA,List.replicate,resAll,resA,zm,zg]
    exact hk.2 k h0
   ·simp(disch:=first|assumption|omega|(simp only[zl]<;>omega)|(simp only[zn])) only[↓zd,zk,seval,reduceIte,List.map,AV.cells,List.all,AV.one,eqV,eqAll,splice,fillA,List.replicate,resAll,resA,zm,zg]
   ·simp(disch:=first|assumption|omega|(simp only[zl]<;>omega)|(simp only[zn])) only[↓zd,zk,seval,reduceIte,List.map,AV.cells,List.all,AV.one,eqV,eqAll,splice,fillA,List.replicate,resAll,resA,zm,zg]
  ·have li:=(List.getElem?_eq_some_iff.1 gi).1
   simp(disch:=first|assumption|omega|(simp only[zl]<;>omega)|(simp only[zn])) only[↓zd,zk,seval,reduceIte,List.map,AV.cells,List.all,AV.one,eqV,eqAll,splice,fillA,List.replicate,resAll,resA,zm,zg,gi]
   exact pushT_run hl hf hx hfit li0 gi0 gj0 (hk.kl i _) (.inl rfl) gi gq hln
end Go.Am.F15
end
section
namespace Go.Am.F15
open Go.Am.F10 (iC iC_at iC_len iC_one iC_app SI SI.val same_run)
open Go.Am.F06 (sqN sqT)
variable {X:Type}
def remA:AC:=sqN 4 fifo_Line_Remove.body
def remB:AC:=sqN 5 fifo_Line_Remove.body
def remT:AC:=sqT 6 fifo_Line_Remove.body
theorem rem_body:fifo_Line_Remove.body = .seq (sqN 0 fifo_Line_Remove.body) (.seq (sqN 1 fifo_Line_Remove.body) (.seq (sqN 2 fifo_Line_Remove.body) (.seq (sqN 3 fifo_Line_Remove.body) (.seq remA (.seq remB remT))))):=rfl
structure RSt (m0:Mem X) (i k nb:Nat) (x:Int) (tb:Tab) (c:Nat) (h t a b:Int) (ia ib:Bool) (e:List AV) (m:Mem X):Prop where
 env:∃ x4 x5 x6 x7 x8 x9 x10,e=[.ptr i 0,.int .i64 x,.bool false,.ptr nb 0,x4,x5,x6,x7,x8,x9,x10]
 gi:m[i]?=some (.cells 3 false [.map k,.int .i64 h,.int .i64 t])
 gk:m[k]?=some (.tab tb c)
 gn:m[nb]?=some (.cells 4 false [.int .i64 a,.int .i64 b,.bool ia,.bool ib])
 ni:nb≠i
 nk:nb≠k
 ik:i≠k
 nl:m0.length≤nb
 kl:KL m0 m i (some k)
set_option maxHeartbeats 4000000 in
theorem remA_one{G:List (Nat × AFun X)} {m0 m:Mem X} {i k nb:Nat} {x:Int} {tb:Tab} {c:Nat} {h t a b:Int} {ib:Bool} {e:List AV} (H:RSt m0 i k nb x tb c h t a b true ib e m) {a2 b2:Int} {ia2 ib2:Bool} (hg:tabGet a tb=some (.agg [.int .i64 a2,.int .i64 b2,.bool ia2,.bool ib2])) :
  W G remA (fun y e' m'=>y = .normal∧RSt m0 i k nb x (tabSet a (.agg [.int .i64 a2,.int .i64 b,.bool ia2,.bool ib]) c tb) c h t a b true ib e' m') e m:=by
 obtain⟨⟨x4,x5,x6,x7,x8,x9,x10,rfl⟩,gi,gk,gn,ni,nk,ik,nl,kl⟩:=H
 have li:=(List.getElem?_eq_some_iff.1 gi).1
 have lk:=(List.getElem?_eq_some_iff.1 gk).1
 have ln:=(List.getElem?_eq_some_iff.1 gn).1
 have htick:tabTick a tb c=c:=by simp only[tabTick,hg]
 simp(disch:=first|assumption|omega|(simp only[zl]<;>omega)|(simp only[zn])) only[remA,sqN,fifo_Line_Remove,↓zd,zk,seval,reduceIte,List.map,AV.cells,List.all,AV.one,eqV,eqAll,splice,fillA,List.replicate,resAll,resA,zm,zg,ev_mlen,ev_mget,ev_mset,ev_mdel,ev_ment,ev_mput,ev_mkmap,getT_O,gtO_tab,tabOf_O,tbO_tab,tabOf_nil,mgetA,stC_map,Option.getD_some,Option.getD_none,gi,gk,gn,hg,Option.isSome_some,htick]
 exact⟨⟨_,_,_,_,_,_,_,rfl⟩,by simp(disch:=first|assumption|omega|(simp only[zl]<;>omega)|(simp only[zn])) only[↓zd,zk,seval,reduceIte,List.map,AV.cells,List.all,AV.one,eqV,eqAll,splice,fillA,List.replicate,resAll,resA,zm,zg,gi],by simp(disch:=first|assumption|omega|(simp only[zl]<;>omega)|(simp only[zn])) only[↓zd,zk,seval,reduceIte,List.map,AV.cells,List.all,AV.one,eqV,eqAll,splice,fillA,List.replicate,resAll,resA,zm,zg,gk],by simp(disch:=first|assumption|omega|(simp only[zl]<;>omega)|(simp only[zn])) only[↓zd,zk,seval,reduceIte,List.map,AV.cells,List.all,AV.one,eqV,eqAll,splice,fillA,List.replicate,resAll,resA,zm,zg,gn],ni,nk,ik,nl,kl_step kl (.inl rfl) (by simp) (fun q h1 h2 h3=>by simp(disch:=first|assumption|omega|(simp only[zl]<;>omega)|(simp only[zn])) only[↓zd,zk,seval,reduceIte,List.map,AV.cells,List.all,AV.one,eqV,eqAll,splice,fillA,List.replicate,resAll,resA,zm,zg])⟩
set_option maxHeartbeats 4000000 in
theorem remA_none{G:List (Nat × AFun X)} {m0 m:Mem X} {i k nb:Nat} {x:Int} {tb:Tab} {c:Nat} {h t a b:Int} {ib:Bool} {e:List AV} (H:RSt m0 i k nb x tb c h t a b false ib e m) {a2 b2:Int} {ia2 ib2:Bool} (hg:(tabGet a tb).getD zlink = .agg [.int .i64 a2,.int .i64 b2,.bool ia2,.bool ib2]) :
  W G remA (fun y e' m'=>y = .normal∧RSt m0 i k nb x tb c b t a b false ib e' m') e m:=by
 obtain⟨⟨x4,x5,x6,x7,x8,x9,x10,rfl⟩,gi,gk,gn,ni,nk,ik,nl,kl⟩:=H
 have li:=(List.getElem?_eq_some_iff.1 gi).1
 have lk:=(List.getElem?_eq_some_iff.1 gk).1
 have ln:=(List.getElem?_eq_some_iff.1 gn).1
 simp only[zlink] at hg
 cases hs:(tabGet a tb).isSome with
 | true =>
  simp(disch:=first|assumption|omega|(simp only[zl]<;>omega)|(simp only[zn])) only[remA,sqN,fifo_Line_Remove,↓zd,zk,seval,reduceIte,List.map,AV.cells,List.all,AV.one,eqV,eqAll,splice,fillA,List.replicate,resAll,resA,zm,zg,ev_mlen,ev_mget,ev_mset,ev_mdel,ev_ment,ev_mput,ev_mkmap,getT_O,gtO_tab,tabOf_O,tbO_tab,tabOf_nil,mgetA,stC_map,Option.getD_some,Option.getD_none,gi,gk,gn,hg,hs]
  exact⟨⟨_,_,_,_,_,_,_,rfl⟩,by simp(disch:=first|assumption|omega|(simp only[zl]<;>omega)|(simp only[zn])) only[↓zd,zk,seval,reduceIte,List.map,AV.cells,List.all,AV.one,eqV,eqAll,splice,fillA,List.replicate,resAll,resA,zm,zg,gi],by simp(disch:=first|assumption|omega|(simp only[zl]<;>omega)|(simp only[zn])) only[↓zd,zk,seval,reduceIte,List.map,AV.cells,List.all,AV.one,eqV,eqAll,splice,fillA,List.replicate,resAll,resA,zm,zg,gk],by simp(disch:=first|assumption|omega|(simp only[zl]<;>omega)|(simp only[zn])) only[↓zd,zk,seval,reduceIte,List.map,AV.cells,List.all,AV.one,eqV,eqAll,splice,fillA,List.replicate,resAll,resA,zm,zg,gn],ni,nk,ik,nl,kl_step kl (.inl rfl) (by simp) (fun q h1 h2 h3=>by simp(disch:=first|assumption|omega|(simp only[zl]<;>omega)|(simp only[zn])) only[↓zd,zk,seval,reduceIte,List.map,AV.cells,List.all,AV.one,eqV,eqAll,splice,fillA,List.replicate,resAll,resA,zm,zg])⟩
 | false =>
  simp(disch:=first|assumption|omega|(simp only[zl]<;>omega)|(simp only[zn])) only[remA,sqN,fifo_Line_Remove,↓zd,zk,seval,reduceIte,List.map,AV.cells,List.all,AV.one,eqV,eqAll,splice,fillA,List.replicate,resAll,resA,zm,zg,ev_mlen,ev_mget,ev_mset,ev_mdel,ev_ment,ev_mput,ev_mkmap,getT_O,gtO_tab,tabOf_O,tbO_tab,tabOf_nil,mgetA,stC_map,Option.getD_some,Option.getD_none,gi,gk,gn,hg,hs]
  exact⟨⟨_,_,_,_,_,_,_,rfl⟩,by simp(disch:=first|assumption|omega|(simp only[zl]<;>omega)|(simp only[zn])) only[↓zd,zk,seval,reduceIte,List.map,AV.cells,List.all,AV.one,eqV,eqAll,splice,fillA,List.replicate,resAll,resA,zm,zg,gi],by simp(disch:=first|assumption|omega|(simp only[zl]<;>omega)|(simp only[zn])) only[↓zd,zk,seval,reduceIte,List.map,AV.cells,List.all,AV.one,eqV,eqAll,splice,fillA,List.replicate,resAll,resA,zm,zg,gk],by simp(disch:=first|assumption|omega|(simp only[zl]<;>omega)|(simp only[zn])) only[↓zd,zk,seval,reduceIte,List.map,AV.cells,List.all,AV.one,eqV,eqAll,splice,fillA,List.replicate,resAll,resA,zm,zg,gn],ni,nk,ik,nl,kl_step kl (.inl rfl) (by simp) (fun q h1 h2 h3=>by simp(disch:=first|assumption|omega|(simp only[zl]<;>omega)|(simp only[zn])) only[↓zd,zk,seval,reduceIte,List.map,AV.cells,List.all,AV.one,eqV,eqAll,splice,fillA,List.replicate,resAll,resA,zm,zg])⟩
set_option maxHeartbeats 4000000 in
theorem remB_one{G:List (Nat × AFun X)} {m0 m:Mem X} {i k nb:Nat} {x:Int} {tb:Tab} {c:Nat} {h t a b:Int} {ia:Bool} {e:List AV} (H:RSt m0 i k nb x tb c h t a b ia true e m) {a2 b2:Int} {ia2 ib2:Bool} (hg:tabGet b tb=some (.agg [.int .i64 a2,.int .i64 b2,.bool ia2,.bool ib2])) :
  W G remB (fun y e' m'=>y = .normal∧RSt m0 i k nb x (tabSet b (.agg [.int .i64 a,.int .i64 b2,.bool ia,.bool ib2]) c tb) c h t a b ia true e' m') e m:=by
 obtain⟨⟨x4,x5,x6,x7,x8,x9,x10,rfl⟩,gi,gk,gn,ni,nk,ik,nl,kl⟩:=H
 have li:=(List.getElem?_eq_some_iff.1 gi).1
 have lk:=(List.getElem?_eq_some_iff.1 gk).1
 have ln:=(List.getElem?_eq_some_iff.1 gn).1
 have htick:tabTick b tb c=c:=by simp only[tabTick,hg]
 simp(disch:=first|assumption|omega|(simp only[zl]<;>omega)|(simp only[zn])) only[remB,sqN,fifo_Line_Remove,↓zd,zk,seval,reduceIte,List.map,AV.cells,List.all,AV.one,eqV,eqAll,splice,fillA,List.replicate,resAll,resA,zm,zg,ev_mlen,ev_mget,ev_mset,ev_mdel,ev_ment,ev_mput,ev_mkmap,getT_O,gtO_tab,tabOf_O,tbO_tab,tabOf_nil,mgetA,stC_map,Option.getD_some,Option.getD_none,gi,gk,gn,hg,Option.isSome_some,htick]
 exact⟨⟨_,_,_,_,_,_,_,rfl⟩,by simp(disch:=first|assumption|omega|(simp only[zl]<;>omega)|(simp only[zn])) only[↓zd,zk,seval,reduceIte,List.map,AV.cells,List.all,AV.one,eqV,eqAll,splice,fillA,List.replicate,resAll,resA,zm,zg,gi],by simp(disch:=first|assumption|omega|(simp only[zl]<;>omega)|(simp only[zn])) only[↓zd,zk,seval,reduceIte,List.map,AV.cells,List.all,AV.one,eqV,eqAll,splice,fillA,List.replicate,resAll,resA,zm,zg,gk],by simp(disch:=first|assumption|omega|(simp only[zl]<;>omega)|(simp only[zn])) only[↓zd,zk,seval,reduceIte,List.map,AV.cells,List.all,AV.one,eqV,eqAll,splice,fillA,List.replicate,resAll,resA,zm,zg,gn],ni,nk,ik,nl,kl_step kl (.inl rfl) (by simp) (fun q h1 h2 h3=>by simp(disch:=first|assumption|omega|(simp only[zl]<;>omega)|(simp only[zn])) only[↓zd,zk,seval,reduceIte,List.map,AV.cells,List.all,AV.one,eqV,eqAll,splice,fillA,List.replicate,resAll,resA,zm,zg])⟩
set_option maxHeartbeats 4000000 in
theorem remB_none{G:List (Nat × AFun X)} {m0 m:Mem X} {i k nb:Nat} {x:Int} {tb:Tab} {c:Nat} {h t a b:Int} {ia:Bool} {e:List AV} (H:RSt m0 i k nb x tb c h t a b ia false e m) {a2 b2:Int} {ia2 ib2:Bool} (hg:(tabGet b tb).getD zlink = .agg [.int .i64 a2,.int .i64 b2,.bool ia2,.bool ib2]) :
  W G remB (fun y e' m'=>y = .normal∧RSt m0 i k nb x tb c h a a b ia false e' m') e m:=by
 obtain⟨⟨x4,x5,x6,x7,x8,x9,x10,rfl⟩,gi,gk,gn,ni,nk,ik,nl,kl⟩:=H
 have li:=(List.getElem?_eq_some_iff.1 gi).1
 have lk:=(List.getElem?_eq_some_iff.1 gk).1
 have ln:=(List.getElem?_eq_some_iff.1 gn).1
 simp only[zlink] at hg
 cases hs:(tabGet b tb).isSome with
 | true =>
  simp(disch:=first|assumption|omega|(simp only[zl]<;>omega)|(simp only[zn])) only[remB,sqN,fifo_Line_Remove,↓zd,zk,seval,reduceIte,List.map,AV.cells,List.all,AV.one,eqV,eqAll,splice,fillA,List.replicate,resAll,resA,zm,zg,ev_mlen,ev_mget,ev_mset,ev_mdel,ev_ment,ev_mput,ev_mkmap,getT_O,gtO_tab,tabOf_O,tbO_tab,tabOf_nil,mgetA,stC_map,Option.getD_some,Option.getD_none,gi,gk,gn,hg,hs]
  exact⟨⟨_,_,_,_,_,_,_,rfl⟩,by simp(disch:=first|assumption|omega|(simp only[zl]<;>omega)|(simp only[zn])) only[↓zd,zk,seval,reduceIte,List.map,AV.cells,List.all,AV.one,eqV,eqAll,splice,fillA,List.replicate,resAll,resA,zm,zg,gi],by simp(disch:=first|assumption|omega|(simp only[zl]<;>omega)|(simp only[zn])) only[↓zd,zk,seval,reduceIte,List.map,AV.cells,List.all,AV.one,eqV,eqAll,splice,fillA,List.replicate,resAll,resA,zm,zg,gk],by simp(disch:=first|assumption|omega|(simp only[zl]<;>omega)|(simp only[zn])) only[↓zd,zk,seval,reduceIte,List.map,AV.cells,List.all,AV.one,eqV,eqAll,splice,fillA,List.replicate,resAll,resA,zm,zg,gn],ni,nk,ik,nl,kl_step kl (.inl rfl) (by simp) (fun q h1 h2 h3=>by simp(disch:=first|assumption|omega|(simp only[zl]<;>omega)|(simp only[zn])) only[↓zd,zk,seval,reduceIte,List.map,AV.cells,List.all,AV.one,eqV,eqAll,splice,fillA,List.replicate,resAll,resA,zm,zg])⟩
 | false =>
  simp(disch:=first|assumption|omega|(simp only[zl]<;>omega)|(simp only[zn])) only[remB,sqN,fifo_Line_Remove,↓zd,zk,seval,reduceIte,List.map,AV.cells,List.all,AV.one,eqV,eqAll,splice,fillA,List.replicate,resAll,resA,zm,zg,ev_mlen,ev_mget,ev_mset,ev_mdel,ev_ment,ev_mput,ev_mkmap,getT_O,gtO_tab,tabOf_O,tbO_tab,tabOf_nil,mgetA,stC_map,Option.getD_some,Option.getD_none,gi,gk,gn,hg,hs]
  exact⟨⟨_,_,_,_,_,_,_,rfl⟩,by simp(disch:=first|assumption|omega|(simp only[zl]<;>omega)|(simp only[zn])) only[↓zd,zk,seval,reduceIte,List.map,AV.cells,List.all,AV.one,eqV,eqAll,splice,fillA,List.replicate,resAll,resA,zm,zg,gi],by simp(disch:=first|assumption|omega|(simp only[zl]<;>omega)|(simp only[zn])) only[↓zd,zk,seval,reduceIte,List.map,AV.cells,List.all,AV.one,eqV,eqAll,splice,fillA,List.replicate,resAll,resA,zm,zg,gk],by simp(disch:=first|assumption|omega|(simp only[zl]<;>omega)|(simp only[zn])) only[↓zd,zk,seval,reduceIte,List.map,AV.cells,List.all,AV.one,eqV,eqAll,splice,fillA,List.replicate,resAll,resA,zm,zg,gn],ni,nk,ik,nl,kl_step kl (.inl rfl) (by simp) (fun q h1 h2 h3=>by simp(disch:=first|assumption|omega|(simp only[zl]<;>omega)|(simp only[zn])) only[↓zd,zk,seval,reduceIte,List.map,AV.cells,List.all,AV.one,eqV,eqAll,splice,fillA,List.replicate,resAll,resA,zm,zg])⟩
theorem shape_del{tb:Tab} (nd:(tks tb).Nodup) {x:Int} (h:∀ k,∃ a b ia ib,(tabGet k tb).getD zlink = .agg [.int .i64 a,.int .i64 b,.bool ia,.bool ib]) (k:Int):∃ a b ia ib,(tabGet k (tabDel x tb)).getD zlink = .agg [.int .i64 a,.int .i64 b,.bool ia,.bool ib]:=by
 rw[get_del nd]
 split
 ·exact⟨_,_,_,_,rfl⟩
 ·exact h k
theorem shape_set{tb:Tab} {x:Int} {c:Nat} {a b:Int} {ia ib:Bool} (h:∀ k,∃ a b ia ib,(tabGet k tb).getD zlink = .agg [.int .i64 a,.int .i64 b,.bool ia,.bool ib]) (k:Int):∃ a' b' ia' ib',(tabGet k (tabSet x (.agg [.int .i64 a,.int .i64 b,.bool ia,.bool ib]) c tb)).getD zlink = .agg [.int .i64 a',.int .i64 b',.bool ia',.bool ib']:=by
 rw[get_set]
 split
 ·exact⟨_,_,_,_,rfl⟩
 ·exact h k
theorem remove_no{m:Mem X} {i:Nat} {j:Option Nat} {xs:List Int} (H:LN m i j xs) {x:Int} (hx:x ∉ xs):Fn [(119,c_fifo_Line_Has)] fifo_Line_Remove [.ptr i 0,.int .i64 x] m (fun r m'=>r = .bool false∧Keep m m'):=by
 have a119:assoc [(119,c_fifo_Line_Has (X:=X))] 119=some c_fifo_Line_Has:=rfl
 generalize [(119,c_fifo_Line_Has (X:=X))]=G at a119 ⊢
 refine Fn_of rfl ?_
 simp(disch:=first|assumption|omega|(simp only[zl]<;>omega)|(simp only[zn])) only[fifo_Line_Remove,↓zd,zk,seval,reduceIte,List.map,AV.cells,List.all,AV.one,eqV,eqAll,splice,fillA,List.replicate,resAll,resA,zm,zg,a119]
 refine OK_fn (has_run H x) ?_
 rintro _ m1 ⟨rfl,hk⟩
 have hb:hasB xs x=false:=by simp[hasB,hx]
 simp(disch:=first|assumption|omega|(simp only[zl]<;>omega)|(simp only[zn])) only[↓zd,zk,seval,reduceIte,List.map,AV.cells,List.all,AV.one,eqV,eqAll,splice,fillA,List.replicate,resAll,resA,zm,zg,hb]
 exact hk
def ReP(m:Mem X) (i:Nat) (j:Option Nat) (ys:List Int) (r:AV) (m':Mem X):Prop:=r = .bool true∧KL m m' i j∧LN m' i j ys
set_option maxHeartbeats 4000000 in
theorem remove_run{m:Mem X} {i:Nat} {j:Option Nat} {p q:List Int} {x:Int} (H:LN m i j (p++x :: q)):Fn [(119,c_fifo_Line_Has)] fifo_Line_Remove [.ptr i 0,.int .i64 x] m (ReP m i j (p++q)):=by
 have a119:assoc [(119,c_fifo_Line_Has (X:=X))] 119=some c_fifo_Line_Has:=rfl
 generalize [(119,c_fifo_Line_Has (X:=X))]=G at a119 ⊢
 refine Fn_of rfl ?_
 rw[rem_body]
 simp(disch:=first|assumption|omega|(simp only[zl]<;>omega)|(simp only[zn])) only[sqN,fifo_Line_Remove,↓zd,zk,seval,reduceIte,List.map,AV.cells,List.all,AV.one,eqV,eqAll,splice,fillA,List.replicate,resAll,resA,zm,zg,a119]
 refine OK_fn (has_run H x) ?_
 rintro _ m1 ⟨rfl,hk⟩
 have hb:hasB (p++x :: q) x=true:=by simp[hasB]
 rcases H.keep hk with⟨_,h0,_⟩|⟨k,tb,c,h,t,rfl,gi,gk,hln⟩
 ·simp at h0
 have li:=(List.getElem?_eq_some_iff.1 gi).1
 have lk:=(List.getElem?_eq_some_iff.1 gk).1
 have hik:i≠k:=fun e=>by rw[e,gk] at gi;cases gi
 obtain⟨a,b,hv,ha,hbq⟩:=hln.at rfl
 have hv':tabGet x tb=some (.agg [.int .i64 a,.int .i64 b,.bool (!p.isEmpty),.bool (!q.isEmpty)]):=hv
 have nd:(tks tb).Nodup:=hln.keys.nodup_iff.2 hln.nd
 have sh:=shape_del nd (x:=x) hln.shape
 simp(disch:=first|assumption|omega|(simp only[zl]<;>omega)|(simp only[zn])) only[↓zd,zk,seval,reduceIte,List.map,AV.cells,List.all,AV.one,eqV,eqAll,splice,fillA,List.replicate,resAll,resA,zm,zg,ev_mlen,ev_mget,ev_mset,ev_mdel,ev_ment,ev_mput,ev_mkmap,getT_O,gtO_tab,tabOf_O,tbO_tab,tabOf_nil,mgetA,stC_map,Option.getD_some,Option.getD_none,hb,gi,gk,hv']
 have fin:∀ (tb3:Tab) (h3 t3:Int) (e:List AV) (m':Mem X),RSt m i k m1.length x tb3 c h3 t3 a b (!p.isEmpty) (!q.isEmpty) e m'→Ln tb3 c h3 t3 (p++q)→W G remT (resQ [ARes.loc 2] (ReP m i (some k) (p++q))) e m':=by
  rintro tb3 h3 t3 e m' ⟨⟨x4,x5,x6,x7,x8,x9,x10,rfl⟩,gi',gk',_,_,_,_,_,kl⟩ hl
  simp(disch:=first|assumption|omega|(simp only[zl]<;>omega)|(simp only[zn])) only[remT,sqT,fifo_Line_Remove,↓zd,zk,seval,reduceIte,List.map,AV.cells,List.all,AV.one,eqV,eqAll,splice,fillA,List.replicate,resAll,resA,zm,zg]
  exact⟨rfl,kl,.inr ⟨k,tb3,c,h3,t3,rfl,gi',gk',hl⟩⟩
 have st:RSt m i k m1.length x (tabDel x tb) c h t a b (!p.isEmpty) (!q.isEmpty) [.ptr i 0,.int .i64 x,.bool false,.ptr m1.length 0,.skip,.skip,.skip,.skip,.bool false,.skip,.skip] (m1.set k (.tab (tabDel x tb) c)++[.cells 4 false [.int .i64 a,.int .i64 b,.bool (!p.isEmpty),.bool (!q.isEmpty)]]) :=
  ⟨⟨_,_,_,_,_,_,_,rfl⟩,by simp(disch:=first|assumption|omega|(simp only[zl]<;>omega)|(simp only[zn])) only[↓zd,zk,seval,reduceIte,List.map,AV.cells,List.all,AV.one,eqV,eqAll,splice,fillA,List.replicate,resAll,resA,zm,zg,gi],by simp(disch:=first|assumption|omega|(simp only[zl]<;>omega)|(simp only[zn])) only[↓zd,zk,seval,reduceIte,List.map,AV.cells,List.all,AV.one,eqV,eqAll,splice,fillA,List.replicate,resAll,resA,zm,zg,gk],by simp(disch:=first|assumption|omega|(simp only[zl]<;>omega)|(simp only[zn])) only[↓zd,zk,seval,reduceIte,List.map,AV.cells,List.all,AV.one,eqV,eqAll,splice,fillA,List.replicate,resAll,resA,zm,zg],by omega,by omega,hik,hk.1,kl_step (hk.kl i (some k)) (.inl rfl) (by simp) (fun q h1 h2 h3=>by simp(disch:=first|assumption|omega|(simp only[zl]<;>omega)|(simp only[zn])) only[↓zd,zk,seval,reduceIte,List.map,AV.cells,List.all,AV.one,eqV,eqAll,splice,fillA,List.replicate,resAll,resA,zm,zg])⟩
 have two:∀ (tb2 tb3:Tab) (h3 t3:Int),(∀ e m',RSt m i k m1.length x (tabDel x tb) c h t a b (!p.isEmpty) (!q.isEmpty) e m'→W G remA (fun y e' m''=>y = .normal∧RSt m i k m1.length x tb2 c h3 t a b (!p.isEmpty) (!q.isEmpty) e' m'') e m') →
   (∀ e m',RSt m i k m1.length x tb2 c h3 t a b (!p.isEmpty) (!q.isEmpty) e m'→W G remB (fun y e' m''=>y = .normal∧RSt m i k m1.length x tb3 c h3 t3 a b (!p.isEmpty) (!q.isEmpty) e' m'') e m')→Ln tb3 c h3 t3 (p++q) →
   ∀ e m',RSt m i k m1.length x (tabDel x tb) c h t a b (!p.isEmpty) (!q.isEmpty) e m'→W G remA (thenQ (resQ [ARes.loc 2] (ReP m i (some k) (p++q))) (W G (remB.seq remT) (resQ [ARes.loc 2] (ReP m i (some k) (p++q))))) e m':=by
  intro tb2 tb3 h3 t3 hA hB hL e m' hs
  refine W_mono (hA e m' hs) ?_
  rintro y e1 m2 ⟨rfl,hs2⟩
  rw[thenQ_normal]
  simp(disch:=first|assumption|omega|(simp only[zl]<;>omega)|(simp only[zn])) only[↓zd]
  refine W_mono (hB e1 m2 hs2) ?_
  rintro y e2 m3 ⟨rfl,hs3⟩
  rw[thenQ_normal]
  exact fin tb3 h3 t3 e2 m3 hs3 hL
 rcases List.eq_nil_or_concat p with rfl|⟨r,y,hp⟩
 ·obtain⟨a2,b2,ia2,ib2,hg⟩:=sh a
  cases q with
  | nil =>
   obtain⟨a3,b3,ia3,ib3,hq⟩:=sh b
   exact two _ _ _ _ (fun e m' hs=>remA_none hs hg) (fun e m' hs=>remB_none hs hq) (hln.cut00 b a) _ _ st
  | cons z s =>
   obtain rfl:=hbq z s rfl
   obtain⟨a3,b3,hq,h2,_⟩:=hln.getq rfl
   exact two _ _ _ _ (fun e m' hs=>remA_none hs hg) (fun e m' hs=>remB_one hs hq) (hln.cut01 hq h2) _ _ st
 ·rw[List.concat_eq_append] at hp
  subst hp
  obtain rfl:=ha y r rfl
  have h5:(!(r++[a]).isEmpty)=true:=by cases r<;>rfl
  obtain⟨a2,hg,h2,hax⟩:=hln.getp rfl
  rw[h5] at st two fin ⊢
  cases q with
  | nil =>
   obtain⟨a3,b3,ia3,ib3,hq⟩:=shape_set (x:=a) (c:=c) (a:=a2) (b:=b) (ia:=!r.isEmpty) (ib:=false) sh b
   exact two _ _ _ _ (fun e m' hs=>remA_one hs hg) (fun e m' hs=>remB_none hs hq) (hln.cut10 hg h2) _ _ st
  | cons z s =>
   obtain rfl:=hbq z s rfl
   obtain⟨a3,b3,hq,h3,_⟩:=hln.getq rfl
   obtain⟨hab,hL⟩:=hln.cut11 (c':=c) (c'':=c) hg h2 hq h3
   exact two _ _ _ _ (fun e m' hs=>remA_one hs hg) (fun e m' hs=>remB_one hs (by rw[get_set,if_neg (fun e=>hab e.symm)];exact hq)) hL _ _ st
end Go.Am.F15
end
