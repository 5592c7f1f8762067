import Derived.Test.YtmgahjccidmlaaaGreatXG16
set_option linter.unusedSimpArgs false
set_option linter.unusedVariables false
section
namespace Go.Am.F10
open Go.Am.F06
theorem _root_.Go.Am.Sl.put{X:Type} {m:Mem X} {wr:Bool} {sz n:Nat} {l:List AV} {v:AV} (h:Sl m wr sz n l v) {b:Nat} (hb:∀ ro L,m[b]?≠some (.cells sz ro L)) (C:Chunk X):Sl (m.set b C) wr sz n l v:=by
 refine⟨h.1,?_⟩
 rcases h.2 with h1|⟨q,o,cap,h1,h2⟩
 ·exact .inl h1
 ·refine .inr ⟨q,o,cap,h1,fun h0=>?_⟩
  obtain⟨ro,L,h3,h4⟩:=h2 h0
  refine⟨ro,L,?_,h4⟩
  rw[List.getElem?_set_ne (fun hq=>hb ro L (by rw[hq];exact h3))];exact h3
def Gsmem:List (Nat × AFun Ob):=[(34,memF fun s rest=>(lenAsk s rest).map fun v=>(v,s)),(46,memF fun s rest=>(opsAsk s rest).map fun v=>(v,s)),(47,memNF allS),(58,F06.c_docs_SameCells)]
set_option maxHeartbeats 8000000 in
theorem samemem_run{m:MM} {wr:Bool} {j:Nat} {xs:List Int} {o:Int} {v:AV} {s:MemSt} (hj:m[j]?=some (.abs (.mem s))) (hr:RelM xs o s) (hs:SU m wr xs v) (hn:xs.length≤65536) :
  Fn Gsmem docs_SameMem [.ptr j 0,.agg (memC v o)] m (fun r m'=>r = .bool true∧Keep m m'):=by
 have a34:assoc Gsmem 34=some (memF fun s rest=>(lenAsk s rest).map fun v=>(v,s)):=rfl
 have a46:assoc Gsmem 46=some (memF fun s rest=>(opsAsk s rest).map fun v=>(v,s)):=rfl
 have a47:assoc Gsmem 47=some (memNF allS):=rfl
 have a58:assoc Gsmem 58=some F06.c_docs_SameCells:=rfl
 generalize Gsmem=G at a34 a46 a47 a58 ⊢
 obtain⟨rfl,rfl,hlog⟩:=hr
 have hone:=slOne hs
 simp only[AV.one] at hone
 have hlen:=hs.len
 have lj:j < m.length:=(List.getElem?_eq_some_iff.1 hj).1
 have hj1:(m++[Chunk.cells 2 false [v,.int .u64 s.ops]])[j]?=some (.abs (.mem s)):=by rw[List.getElem?_append_left lj];exact hj
 have f34:=len_of hj1
 have f46:=ops_of hj1
 obtain⟨l1,f47,s47,q47⟩:=all_of hj1 (by omega)
 have hs2:SU (m++[Chunk.cells 2 false [v,.int .u64 s.ops]]++[.cells 1 false (uC s.cells)]) wr s.cells v:=(hs.keep (Keep.app m _)).keep (Keep.app _ _)
 generalize hC:Chunk.cells 1 false (uC s.cells)=C at f47 s47 hs2
 have g1:(m++[Chunk.cells 2 false [v,.int .u64 s.ops]])[m.length]?=some (Chunk.cells 2 false [v,.int .u64 s.ops]):=get_concat
 have g2:(m++[Chunk.cells 2 false [v,.int .u64 s.ops]]++[C])[m.length]?=some (Chunk.cells 2 false [v,.int .u64 s.ops]):=by rw[List.getElem?_append_left (by simp)];exact g1
 have hoff:Off (slq l1) v:=by
  rw[q47];exact sl_off hs (by simp)
 refine Fn_of rfl ?_
 simp(disch:=first|assumption|omega|(simp only[zl]<;>omega)|(simp only[zn])) only[docs_SameMem,↓zd,zk,seval,reduceIte,List.map,AV.cells,List.all,AV.one,eqV,eqAll,splice,fillA,List.replicate,resAll,resA,memC,hone,ev_len,hlen,g1,a34,f34,a46,f46,a47,f47,g2,a58,F06.c_docs_SameCells]
 refine OKT_fn (samecells_run s47 hs2 hoff (by omega)) ?_
 rintro _ M4 ⟨rfl,k4⟩
 have hl4:m.length+2≤M4.length:=by have:=k4.1;simpa using this
 have hK4:Keep m M4:=by
  refine⟨by omega,fun i hi=>?_⟩
  rw[k4.2 i (by simp;omega) (by rw[q47];simp;omega),List.getElem?_append_left (by simp;omega),List.getElem?_append_left hi]
 simp(disch:=first|assumption|omega|(simp only[zl]<;>omega)|(simp only[zn])) only[↓zd,zk,seval,reduceIte,List.map,AV.cells,List.all,AV.one,eqV,eqAll,splice,fillA,List.replicate,resAll,resA,g1,g2]
 exact hK4
structure Pk where
 d:Bool
 a:Int
 v:Int
def pkC(x:Pk):List AV:=[.bool x.d,.int .i64 x.a,.int .u64 x.v]
abbrev SPk{X:Type} (m:Mem X) (wr:Bool) (es:List Pk) (v:AV):Prop:=Sl m wr 3 es.length (es.flatMap pkC) v
theorem spk_get{X:Type} {m:Mem X} {wr:Bool} {es:List Pk} {v:AV} (h:SPk m wr es v) {i:Nat} {e:Pk} (he:es[i]?=some e):∃ q o cap ro L,v = .sl q o es.length cap∧m[q]?=some (.cells 3 ro L)∧i < es.length∧o+i * 3+3≤L.length ∧
  L[o+i * 3]?=some (.bool e.d)∧L[o+i * 3+1]?=some (.int .i64 e.a)∧L[o+i * 3+2]?=some (.int .u64 e.v):=by
 have hi:i < es.length:=(List.getElem?_eq_some_iff.1 he).1
 obtain⟨q,o,cap,ro,L,rfl,h2,h3,h4,h5⟩:=h.at (by omega)
 have hL:∀ k,k < 3→L[o+i * 3+k]?=(pkC e)[k]?:=by
  intro k hk
  rw[Nat.add_assoc,sl_get h3 (by omega),rows_at (f:=pkC) (sz:=3) (fun _=>rfl) he hk]
 exact⟨q,o,cap,ro,L,rfl,h2,hi,by omega,hL 0 (by omega),hL 1 (by omega),hL 2 (by omega)⟩
end Go.Am.F10
end
section
namespace Go.Am.F10
open Go.Am.F06
end Go.Am.F10
end
section
namespace Go.Am.F10
variable {X:Type}
def iC(xs:List Int):List AV:=xs.map (AV.int .i64)
theorem iC_at{xs:List Int} {k:Nat} {x:Int} (h:xs[k]?=some x):(iC xs)[k]?=some (.int .i64 x):=by simp[iC,h]
theorem iC_len(xs:List Int):(iC xs).length=xs.length:=by simp[iC]
theorem iC_one(xs:List Int):(iC xs).all AV.one=true:=by simp[iC,AV.one]
theorem iC_app(xs:List Int) (x:Int):iC (xs++[x])=iC xs++[.int .i64 x]:=by simp[iC]
abbrev SI(m:Mem X) (wr:Bool) (xs:List Int) (v:AV):Prop:=Sl m wr 1 xs.length (iC xs) v
theorem SI.val{m:Mem X} {wr:Bool} {xs:List Int} {v:AV} (h:SI m wr xs v) (hn:0 < xs.length):∃ q o cap ro L,v = .sl q o xs.length cap∧m[q]?=some (.cells 1 ro L)∧(wr=true→ro=false)∧o+xs.length≤L.length∧∀ (i:Nat) (x:Int),xs[i]?=some x→L[o+i]?=some (.int .i64 x):=by
 obtain⟨q,o,cap,ro,L,h1,h2,h3,h4,h5⟩:=h.at hn
 refine⟨q,o,cap,ro,L,h1,h2,h5,by omega,fun i x hx=>?_⟩
 have hi:i < xs.length:=(List.getElem?_eq_some_iff.1 hx).1
 rw[sl_get h3 (by omega)];exact iC_at hx
def MInv(n:Nat) (a b:AV) (xs ys:List Int) (m0:Mem X) (k:Nat) (e:List AV) (m:Mem X):Prop:=∃ (i:Nat) (x4 x5 x6:AV),
 e=[a,b,.bool false,.int .i64 i,x4,x5,x6]∧m=m0∧k=n - i∧i≤n∧∀ j,j < i→xs[j]?=ys[j]?
theorem same_run{m:Mem X} {w1 w2:Bool} {xs ys:List Int} {a b:AV} (ha:SI m w1 xs a) (hb:SI m w2 ys b) (hx:xs.length < FUEL):Fn [] kit_SameInts [a,b] m (fun r m'=>r = .bool (decide (xs=ys))∧m'=m):=by
 refine Fn_of rfl ?_
 have hF:xs.length < 1099511627776:=hx
 have h1:=ha.len
 have h2:=hb.len
 by_cases hn:xs.length=ys.length
 ·rcases Nat.eq_zero_or_pos xs.length with h0|h0
  ·have hx0:xs=[]:=List.length_eq_zero_iff.1 h0
   have hy0:ys=[]:=List.length_eq_zero_iff.1 (by omega)
   rw[hx0] at h1;rw[hy0] at h2
   subst hx0;subst hy0
   simp(disch:=first|assumption|omega|(simp only[zl]<;>omega)|(simp only[zn])) only[kit_SameInts,↓zd,zk,seval,reduceIte,List.map,AV.cells,List.all,AV.one,eqV,eqAll,splice,fillA,List.replicate,resAll,resA,ev_len,h1,h2]
   refine W_loop (fun k e m'=>∃ x4 x5 x6:AV,e=[a,b,.bool false,.int .i64 0,x4,x5,x6]∧m'=m) 0 (by simp[FUEL]) ⟨_,_,_,rfl,rfl⟩ ?_
   rintro k e m' ⟨x4,x5,x6,rfl,rfl⟩
   simp(disch:=first|assumption|omega|(simp only[zl]<;>omega)|(simp only[zn])) only[↓zd,zk,seval,reduceIte,List.map,AV.cells,List.all,AV.one,eqV,eqAll,splice,fillA,List.replicate,resAll,resA,ev_len,h1]
  ·obtain⟨q,o,cap,ro,L,rfl,hq,_,hL,hat⟩:=ha.val h0
   obtain⟨q',o',cap',ro',L',rfl,hq',_,hL',hat'⟩:=hb.val (by omega)
   simp(disch:=first|assumption|omega|(simp only[zl]<;>omega)|(simp only[zn])) only[kit_SameInts,↓zd,zk,seval,reduceIte,List.map,AV.cells,List.all,AV.one,eqV,eqAll,splice,fillA,List.replicate,resAll,resA]
   refine W_loop (MInv xs.length (.sl q o xs.length cap) (.sl q' o' ys.length cap') xs ys m) xs.length hx ⟨0,_,_,_,rfl,rfl,rfl,Nat.zero_le _,fun j hj=>by omega⟩ ?_
   rintro k e m' ⟨i,x4,x5,x6,rfl,rfl,rfl,hi,heq⟩
   simp(disch:=first|assumption|omega|(simp only[zl]<;>omega)|(simp only[zn])) only[↓zd,zk,seval,reduceIte,List.map,AV.cells,List.all,AV.one,eqV,eqAll,splice,fillA,List.replicate,resAll,resA]
   refine CW_of (fun h=>?_) (fun h=>?_)
   ·simp only[decide_eq_true_eq] at h
    obtain⟨x,hxi⟩:∃ x,xs[i]?=some x:=⟨_,List.getElem?_eq_getElem (by omega)⟩
    obtain⟨y,hyi⟩:∃ y,ys[i]?=some y:=⟨_,List.getElem?_eq_getElem (by omega)⟩
    simp(disch:=first|assumption|omega|(simp only[zl]<;>omega)|(simp only[zn])) only[↓zd,zk,seval,reduceIte,List.map,AV.cells,List.all,AV.one,eqV,eqAll,splice,fillA,List.replicate,resAll,resA,hq,hq',hat i x hxi,hat' i y hyi]
    by_cases hxy:x=y
    ·subst hxy
     simp(disch:=first|assumption|omega|(simp only[zl]<;>omega)|(simp only[zn])) only[↓zd,zk,seval,reduceIte,List.map,AV.cells,List.all,AV.one,eqV,eqAll,splice,fillA,List.replicate,resAll,resA]
     refine⟨_,by omega,i+1,_,_,_,rfl,rfl,rfl,by omega,fun j hj=>?_⟩
     by_cases hji:j=i
     ·subst hji;rw[hxi,hyi]
     ·exact heq j (by omega)
    ·simp(disch:=first|assumption|omega|(simp only[zl]<;>omega)|(simp only[zn])) only[↓zd,zk,seval,reduceIte,List.map,AV.cells,List.all,AV.one,eqV,eqAll,splice,fillA,List.replicate,resAll,resA,hxy]
     have:¬ xs=ys:=fun h=>by rw[h,hyi] at hxi;injection hxi with hxi;exact hxy hxi.symm
     simp[this]
   ·simp only[decide_eq_false_iff_not] at h
    simp(disch:=first|assumption|omega|(simp only[zl]<;>omega)|(simp only[zn])) only[↓zd,zk,seval,reduceIte,List.map,AV.cells,List.all,AV.one,eqV,eqAll,splice,fillA,List.replicate,resAll,resA]
    have:xs=ys:=List.ext_getElem? fun j=>by
     by_cases hj:j < i
     ·exact heq j hj
     ·rw[List.getElem?_eq_none (by omega),List.getElem?_eq_none (by omega)]
    simp[this]
 ·have hne:¬ ((xs.length:Int)=ys.length):=by omega
  have:¬ xs=ys:=fun h=>hn (by rw[h])
  simp(disch:=first|assumption|omega|(simp only[zl]<;>omega)|(simp only[zn])) only[kit_SameInts,↓zd,zk,seval,reduceIte,List.map,AV.cells,List.all,AV.one,eqV,eqAll,splice,fillA,List.replicate,resAll,resA,ev_len,h1,h2,hne,this]
theorem _root_.Go.Am.Own.si{m0 m:Mem X} {xs:List Int} {v:AV} (h:Own m0 m 1 xs.length (iC xs) v):SI m true xs v∧Fr m0.length v:=Own.sl h (by rw[iC_len];omega)
theorem _root_.Go.Am.Own.val1{m0 m:Mem X} {xs:List Int} {v:AV} (h:Own m0 m 1 xs.length (iC xs) v):v.one=true:=by
 rcases h with⟨_,_,rfl⟩|⟨q,rfl,_⟩<;>rfl
theorem _root_.Go.Am.Own.more{m0 m:Mem X} {n:Nat} {l:List AV} {lv:AV} (h:Own m0 m 1 n l lv) (K:Mem X):Own m0 (m++K) 1 n l lv:=by
 rcases h with h|⟨q,h1,h2,h3,h4⟩
 ·exact .inl h
 ·exact .inr ⟨q,h1,by rw[List.getElem?_append_left h4];exact h2,h3,by rw[List.length_append];omega⟩
theorem _root_.Go.Am.Own.keep{m0 m m':Mem X} {n:Nat} {l:List AV} {lv:AV} (h:Own m0 m 1 n l lv) (hk:∀ q C,m0.length≤q→m[q]?=some (.cells 1 false C)→m'[q]?=some (.cells 1 false C)):Own m0 m' 1 n l lv:=by
 rcases h with h|⟨q,h1,h2,h3,h4⟩
 ·exact .inl h
 ·have:=hk q _ h3 h2
  exact .inr ⟨q,h1,this,h3,(List.getElem?_eq_some_iff.1 this).1⟩
def Nx(m:Mem X) (v:AV):Prop:=v = .nils∨∃ q o n l,v = .sl q o n none∧m[q]?=some (.cells 1 false l)
theorem _root_.Go.Am.Own.nx{m0 m:Mem X} {n:Nat} {l:List AV} {v:AV} (h:Own m0 m 1 n l v):Nx m v:=by
 rcases h with⟨_,_,rfl⟩|⟨q,rfl,h1,_⟩
 ·exact .inl rfl
 ·exact .inr ⟨_,_,_,_,rfl,h1⟩
theorem _root_.Go.Am.Own.base{m0 m1 m:Mem X} {n:Nat} {l:List AV} {v:AV} (h:Own m1 m 1 n l v) (hl:m0.length≤m1.length):Own m0 m 1 n l v:=by
 rcases h with h|⟨q,h1,h2,h3,h4⟩
 ·exact .inl h
 ·exact .inr ⟨q,h1,h2,by omega,h4⟩
theorem own_push{m0 m:Mem X} {xs:List Int} {v:AV} (h:Own m0 m 1 xs.length (iC xs) v) (x:Int) (hl:xs.length≤100000) (hm:m0.length≤m.length) :
  ∃ v' m',appendA 1 8 v (.sl m.length 0 1 (some 1)) (m++[.cells 1 false [.int .i64 x]])=some (v',m')∧Own m0 m' 1 (xs++[x]).length (iC (xs++[x])) v'∧m.length≤m'.length∧(∀ i,i < m.length→(∀ ro L,m[i]?≠some (.cells 1 ro L))∨i < m0.length→m'[i]?=m[i]?):=by
 have hx:(m++[Chunk.cells 1 false [.int .i64 x]])[m.length]?=some (.cells 1 false [.int .i64 x]):=get_concat
 rw[iC_app,List.length_append]
 rcases h with⟨h1,h2,rfl⟩|⟨q,rfl,hq,h2,h3⟩
 ·have hxs:xs=[]:=List.length_eq_zero_iff.1 h1
  subst hxs
  refine⟨_,_,append_nils hx rfl rfl (by decide),.inr ⟨_,rfl,get_concat,by simp<;>omega,by simp⟩,by simp<;>omega,fun i hi _=>?_⟩
  rw[List.getElem?_append_left (by simp<;>omega),List.getElem?_append_left hi]
 ·have hq':(m++[Chunk.cells 1 false [.int .i64 x]])[q]?=some (.cells 1 false (iC xs)):=by rw[List.getElem?_append_left h3];exact hq
  refine⟨_,_,append_none hq' (by rw[iC_len];omega) hx rfl (iC_one _) rfl (by omega) (by omega),.inr ⟨_,rfl,?_,by simp<;>omega,by simp⟩,by simp<;>omega,fun i hi ho=>?_⟩
  ·have:(m++[Chunk.cells 1 false [AV.int .i64 x]]).length=((m++[Chunk.cells 1 false [AV.int .i64 x]]).set q .dead).length:=by simp
   rw[this,get_concat]
  ·have hqi:q≠i:=by
    rintro rfl
    rcases ho with ho|ho
    ·exact ho _ _ hq
    ·omega
   rw[List.getElem?_append_left (by simp<;>omega),List.getElem?_set_ne hqi,List.getElem?_append_left hi]
end Go.Am.F10
end
section
namespace Go.Am.F10
open Go.Am.F06
def ringN(c:Cf) (w:Int):Nat:=if sz w≤c.q then(sz w).toNat else 0
def ringAt(c:Cf) (p:Int) (xs:List Int) (w:Int) (i:Nat):Int:=IntKind.i64.wrap (xs.getD (slotA c p ((hd w+i) % 4294967296)).toNat 0)
def ringW(c:Cf) (p:Int) (xs:List Int) (w:Int) (n:Nat):List Int:=(List.range n).map (ringAt c p xs w)
def ringL(c:Cf) (p:Int) (xs:List Int):List Int:=if thereP c p then ringW c p xs (xs.getD (wrdN c p) 0) (ringN c (xs.getD (wrdN c p) 0)) else []
theorem ringW_len(c:Cf) (p:Int) (xs:List Int) (w:Int) (n:Nat):(ringW c p xs w n).length=n:=by simp[ringW]
theorem ringW_succ(c:Cf) (p:Int) (xs:List Int) (w:Int) (n:Nat):ringW c p xs w (n+1)=ringW c p xs w n++[ringAt c p xs w n]:=by simp[ringW,List.range_succ]
theorem ringN_le{c:Cf} {p:Int} (h:thereP c p) (w:Int):ringN c w≤64:=by
 have:=there_bounds h
 unfold ringN;split<;>omega
def Gring:List (Nat × AFun Ob):=[(47,memNF allS),(156,c_conf_Config_Cells),(159,c_conf_Config_Word),(160,c_conf_Config_Slot)]
def RnI(m M0:MM) (c:Cf) (p:Int) (j:Nat) (xs:List Int) (w:Int) (l:AV) (k:Nat) (e:List AV) (mm:MM):Prop:=∃ (i:Nat) (r y11 y12 y13 y14:AV),
 e=[.agg (cfC c),.ptr j 0,.int .i64 p,.ptr m.length 0,.nils,r,l,.int .u64 w,.int .u32 (hd w),.int .u32 (tl w),.int .u32 i,y11,y12,y13,y14]∧k=ringN c w - i∧i≤ringN c w∧Keep M0 mm∧Own M0 mm 1 (ringW c p xs w i).length (iC (ringW c p xs w i)) r
set_option maxHeartbeats 8000000 in
theorem ring_run{m:MM} {c:Cf} {p o:Int} {xs:List Int} {j:Nat} {st:MemSt} (hj:m[j]?=some (.abs (.mem st))) (hr:RelM xs o st) (hx:OkL c xs) :
  Fn Gring docs_Ring [.agg (cfC c),.ptr j 0,.int .i64 p] m (fun r m'=>Keep m m'∧SI m' true (ringL c p xs) r∧Fr m.length r∧Nx m' r∧Own m m' 1 (ringL c p xs).length (iC (ringL c p xs)) r):=by
 have a47:assoc Gring 47=some (memNF allS):=rfl
 have a156:assoc Gring 156=some c_conf_Config_Cells:=rfl
 have a159:assoc Gring 159=some c_conf_Config_Word:=rfl
 have a160:assoc Gring 160=some c_conf_Config_Slot:=rfl
 generalize Gring=G at a47 a156 a159 a160 ⊢
 have lj:j < m.length:=(List.getElem?_eq_some_iff.1 hj).1
 have hcn:=cellsN_le c
 have hxl:=hx.1
 have hj1:(m++[Chunk.cells 6 false (cfC c)])[j]?=some (.abs (.mem st)):=by rw[List.getElem?_append_left lj];exact hj
 obtain⟨rfl,_,_⟩:=hr
 obtain⟨l,f47,sl,_⟩:=all_of hj1 (by omega)
 have hlen:=sl.len
 rw[hxl] at hlen
 have g0:(m++[Chunk.cells 6 false (cfC c)]++[.cells 1 false (uC st.cells)])[m.length]?=some (Chunk.cells 6 false (cfC c)):=by rw[List.append_assoc,get_mid0];rfl
 have hk0:Keep m (m++[Chunk.cells 6 false (cfC c)]++[.cells 1 false (uC st.cells)]):=by rw[List.append_assoc];exact Keep.app _ _
 generalize hM:m++[Chunk.cells 6 false (cfC c)]++[.cells 1 false (uC st.cells)]=M1 at f47 sl g0 hk0
 have hc:=fun K:MM=>cells_eq (M1++K) c
 obtain⟨J,hcells⟩:=cells_eq M1 c
 have hw:=fun K:MM=>word_run (m:=M1++K) c p
 have g0':=fun K:MM=>(Keep.app M1 K).get g0
 simp only[cfC,List.cons_append,List.nil_append,List.append_assoc] at hcells hw g0 g0' f47
 refine Fn_of rfl ?_
 by_cases h:thereP c p
 ·have hb:=there_bounds h
  have ha0:=addr_b h (i:=0) (by omega) (by omega)
  have hwt:(addrA c p 0).toNat=wrdN c p:=rfl
  obtain⟨w,hw1⟩:∃ w,st.cells[wrdN c p]?=some w:=⟨_,List.getElem?_eq_getElem (by omega)⟩
  have hwd:st.cells.getD (wrdN c p) 0=w:=by rw[List.getD_eq_getElem?_getD,hw1];rfl
  have hw64:W64 w:=hx.2 w (List.mem_of_getElem? hw1)
  obtain⟨q,oo,cap,ro,L,rfl,b2,b3,b4,b5,b6⟩:=SU.get sl hw1
  have b2':=fun K:MM=>(Keep.app M1 K).get b2
  simp(disch:=first|assumption|omega|(simp only[zl]<;>omega)|(simp only[zn])) only[docs_Ring,↓zd,zk,seval,reduceIte,List.map,AV.cells,List.all,AV.one,eqV,eqAll,splice,fillA,List.replicate,resAll,resA,zm,zg,cfC,a47,f47,ev_len,hlen,g0,g0',a156,hcells,a159,hw,b2',b6,hwt,shr_eq]
  have hN:=ringN_le h w
  have hhb:=hd_b hw64
  have eh:IntKind.u32.wrap (w / 4294967296)=hd w:=by rw[wrap32];unfold hd;unfold W64 at hw64;omega
  have et:IntKind.u32.wrap w=tl w:=wrap32 w
  have esz:IntKind.u32.wrap (tl w - hd w)=sz w:=wrap32 _
  have e0:IntKind.u32.wrap c.q=c.q:=by rw[wrap32];omega
  have hsz0:0≤sz w:=by unfold sz;omega
  rw[eh,et]
  rw[ringL,if_pos h,hwd]
  clear hw g0' b2' hcells hM f47 hj hj1 hw1 b6 b4 b5
  generalize hM0:M1++_=M0
  have hK1:Keep M1 M0:=by rw[← hM0];exact Keep.app _ _
  have g0:=hK1.get g0
  have b2:=hK1.get b2
  have sl:=sl.keep hK1
  have hmk:Keep m M0:=hk0.trans hK1
  clear hM0 hK1 hk0
  refine W_loop (RnI m M0 c p j st.cells w (.sl q oo st.cells.length cap)) (ringN c w) (by simp only[FUEL];omega) ⟨0,.nils,_,_,_,_,rfl,rfl,by omega,Keep.refl _,own_nil⟩ ?_
  rintro k e mm ⟨i,r,y11,y12,y13,y14,rfl,rfl,hi,hk,hown⟩
  have hone:=hown.val1
  simp only[AV.one] at hone
  have gm:=hk.get g0
  have bm:=hk.get b2
  by_cases hle:sz w≤c.q
  ·have hn:(ringN c w:Int)=sz w:=by unfold ringN;rw[if_pos hle];omega
   by_cases hlt:(i:Int) < sz w
   ·have e1:IntKind.u32.wrap (hd w+i)=(hd w+i) % 4294967296:=wrap32 _
    have hm0:=Int.emod_nonneg (hd w+i) (b:=4294967296) (by omega)
    have hm1:=Int.emod_lt_of_pos (hd w+i) (b:=4294967296) (by omega)
    have hs:=fun M:MM=>slot_eqR M h.1 p hm0 hm1
    have hsb:=slot_b h hm0
    obtain⟨x,hx2⟩:∃ x,st.cells[(slotA c p ((hd w+i) % 4294967296)).toNat]?=some x:=⟨_,List.getElem?_eq_getElem (by omega)⟩
    obtain⟨q2,oo2,cap2,ro2,L2,hv,d2,d3,d4,d5,d6⟩:=SU.get (sl.keep hk) hx2
    injection hv with v1 v2 v3 v4
    subst v1;subst v2;subst v4
    rw[bm] at d2
    injection d2 with d2;injection d2 with _ d2 d2'
    subst d2;subst d2'
    have hat:ringAt c p st.cells w i=IntKind.i64.wrap x:=by unfold ringAt;rw[List.getD_eq_getElem?_getD,hx2];rfl
    obtain⟨r',m',happ,ho',hl',hpre⟩:=own_push (hown.more [Chunk.cells 6 false (cfC c),Chunk.cells 6 false (cfC c),Chunk.cells 7 false (cfC c++[AV.int .i64 p]),Chunk.cells 6 false (cfC c)]) (IntKind.i64.wrap x) (by rw[ringW_len];omega) (by have:=hk.1;simp only[List.length_append];omega)
    rw[← hat,← ringW_succ] at ho'
    have hk':Keep M0 m':=by
     refine⟨by have:=hk.1;simp only[List.length_append] at hl';omega,fun a ha=>?_⟩
     have:=hk.1
     rw[hpre a (by simp only[List.length_append];omega) (.inr ha),List.getElem?_append_left (by omega)]
     exact hk.2 a ha
    have ei:IntKind.u32.wrap ((i:Int)+1)=(i:Int)+1:=by rw[wrap32];omega
    have lq:q < mm.length:=(List.getElem?_eq_some_iff.1 bm).1
    have lm:m.length < mm.length:=(List.getElem?_eq_some_iff.1 gm).1
    simp only[cfC,List.cons_append,List.nil_append,List.append_assoc,List.length_append,List.length_cons,List.length_nil,Nat.zero_add,Nat.reduceAdd] at hs happ
    simp(disch:=first|assumption|omega|(simp only[zl]<;>omega)|(simp only[zn])) only[↓zd,zk,seval,reduceIte,List.map,AV.cells,List.all,AV.one,eqV,eqAll,splice,fillA,List.replicate,resAll,resA,zm,zg,cfC,esz,e0,gm,a160,e1,hs,ev_len,hlen,bm,d6,evA,repeatL,List.flatten_cons,List.flatten_nil,happ,hone,ei]
    exact⟨ringN c w - (i+1),by omega,i+1,r',_,_,_,_,rfl,rfl,by omega,hk',ho'⟩
   ·have hie:i=ringN c w:=by omega
    subst hie
    simp(disch:=first|assumption|omega|(simp only[zl]<;>omega)|(simp only[zn])) only[↓zd,zk,seval,reduceIte,List.map,AV.cells,List.all,AV.one,eqV,eqAll,splice,fillA,List.replicate,resAll,resA,zm,zg,cfC,esz,e0,gm]
    exact⟨hmk.trans hk,(Own.si hown).1,(Own.si hown).2.elim .inl (fun⟨q,o,n,cp,h1,h2⟩=>.inr ⟨q,o,n,cp,h1,by have:=hmk.1;omega⟩),hown.nx,hown.base hmk.1⟩
  ·have hn:ringN c w=0:=if_neg hle
   have hi0:i=0:=by omega
   subst hi0
   have hpos:(0:Int) < sz w:=by omega
   simp(disch:=first|assumption|omega|(simp only[zl]<;>omega)|(simp only[zn])) only[↓zd,zk,seval,reduceIte,List.map,AV.cells,List.all,AV.one,eqV,eqAll,splice,fillA,List.replicate,resAll,resA,zm,zg,cfC,esz,e0,gm,Int.ofNat_zero]
   rw[hn]
   exact⟨hmk.trans hk,(Own.si hown).1,(Own.si hown).2.elim .inl (fun⟨q,o,n,cp,h1,h2⟩=>.inr ⟨q,o,n,cp,h1,by have:=hmk.1;omega⟩),hown.nx,hown.base hmk.1⟩
 ·have ha0:addrA c p 0=-1:=if_neg h
  simp(disch:=first|assumption|omega|(simp only[zl]<;>omega)|(simp only[zn])) only[docs_Ring,↓zd,zk,seval,reduceIte,List.map,AV.cells,List.all,AV.one,eqV,eqAll,splice,fillA,List.replicate,resAll,resA,zm,zg,cfC,a47,f47,ev_len,hlen,g0,g0',a156,hcells,a159,hw,ha0]
  rw[ringL,if_neg h]
  exact⟨hk0.trans (Keep.app _ _),Sl.nil,.inl rfl,.inl rfl,own_nil⟩
end Go.Am.F10
end
section
namespace Go.Am.F10
open Go.Am.F06
def stC(c:Cf) (p:Int):Cf:=if thereP c p then c else zeroC
abbrev GT:=GS × List Int × Int
def nextT(c:Cf) (p:Int) (t:GT):GT:=((stepG c p t.2.1 t.1).1,(stepG c p t.2.1 t.1).2,opsG t.1 t.2.2)
inductive Ends (c:Cf) (p:Int):GT→Nat→GT→Prop
 | done {t:GT} (h:t.1.a=0):Ends c p t 0 t
 | step {t f:GT} {k:Nat} (h:t.1.a≠0) (hn:Ends c p (nextT c p t) k f):Ends c p t (k+1) f
def dW(w:Int) (i:Nat):Int:=pk ((hd w+i) % 4294967296) (tl w)
def dX(c:Cf) (p:Int) (xs:List Int) (i:Nat):List Int:=if i=0 then xs else xs.set (wrdN c p) (dW (xs.getD (wrdN c p) 0) i)
theorem hd_pk{h t:Int} (h0:0≤t) (h1:t < 4294967296):hd (pk h t)=h:=by unfold hd pk;omega
theorem tl_pk{h t:Int} (h0:0≤t) (h1:t < 4294967296):tl (pk h t)=t:=by unfold tl pk;omega
theorem hd_dW(w:Int) (i:Nat):hd (dW w i)=(hd w+i) % 4294967296:=hd_pk (tl_b w).1 (tl_b w).2
theorem tl_dW(w:Int) (i:Nat):tl (dW w i)=tl w:=tl_pk (tl_b w).1 (tl_b w).2
theorem dW_zero{w:Int} (h:W64 w):dW w 0=w:=by
 have:=hd_b h
 unfold dW;rw[show (hd w+((0:Nat):Int)) % 4294967296=hd w by omega]
 unfold pk hd tl;omega
theorem dW_gain(w:Int) (i:Nat):gainW (dW w i)=dW w (i+1):=by
 unfold gainW;rw[hd_dW,tl_dW];unfold dW
 congr 1;omega
theorem dW_sz{w:Int} {i:Nat} (h:(i:Int)≤sz w):sz (dW w i)=sz w - i:=by
 unfold sz;rw[hd_dW,tl_dW];unfold sz at h;omega
theorem dW_64(w:Int) (i:Nat):W64 (dW w i):=by
 have:=tl_b w
 unfold dW pk W64;omega
theorem dX_ok{c d:Cf} {p:Int} {xs:List Int} (h:OkL d xs) (i:Nat):OkL d (dX c p xs i):=by
 unfold dX;split
 ·exact h
 ·exact h.set _ (dW_64 _ _)
theorem dX_word{c:Cf} {p:Int} {xs:List Int} (hx:OkL c xs) (h:thereP c p) (i:Nat):(dX c p xs i).getD (wrdN c p) 0=dW (xs.getD (wrdN c p) 0) i:=by
 have hb:=there_bounds h
 have ha:=addr_b h (i:=0) (by omega) (by omega)
 have hl:=hx.1
 unfold dX;split
 ·rename_i h0;subst h0
  exact(dW_zero (getD_64 hx.2 _)).symm
 ·rw[List.getD_eq_getElem?_getD,List.getElem?_set_self (by unfold wrdN;omega)];rfl
theorem dX_slot{c:Cf} {p:Int} {xs:List Int} (h:thereP c p) (i:Nat) {k:Int} (hk:0≤k):(dX c p xs i).getD (slotA c p k).toNat 0=xs.getD (slotA c p k).toNat 0:=by
 have hb:=there_bounds h
 have h0:=Int.emod_nonneg k (b:=c.q) (by omega)
 have hm:=mul_bounds hb.2.2.2.2.1 hb.2.2.2.2.2 (q:=6+c.q) (by omega) (by omega)
 unfold dX;split
 ·rfl
 ·rw[List.getD_eq_getElem?_getD,List.getElem?_set_ne,← List.getD_eq_getElem?_getD]
  unfold wrdN slotA;rw[if_pos h.1];unfold addrA;rw[if_pos h,if_pos h];omega
theorem dX_next{c:Cf} {p:Int} {xs:List Int} (i:Nat):(dX c p xs i).set (wrdN c p) (dW (xs.getD (wrdN c p) 0) (i+1))=dX c p xs (i+1):=by
 rw[dX,dX,if_neg (Nat.succ_ne_zero i)]
 split
 ·rfl
 ·rw[List.set_set]
end Go.Am.F10
end
section
namespace Go.Am.F10
open Go.Am.F06
theorem Ends.next{c:Cf} {p:Int} {t f:GT} {k:Nat} (h:Ends c p t k f) :
  ((stepG c p t.2.1 t.1).1.a=0→((stepG c p t.2.1 t.1).1,(stepG c p t.2.1 t.1).2,opsG t.1 t.2.2)=f) ∧
  ((stepG c p t.2.1 t.1).1.a≠0→∃ k2,k2 < k∧Ends c p ((stepG c p t.2.1 t.1).1,(stepG c p t.2.1 t.1).2,opsG t.1 t.2.2) k2 f):=by
 cases h with
 | done h0 =>
  rw[stepG_zero h0]
  refine⟨fun _=>?_,fun hh=>absurd h0 hh⟩
  show (t.1,t.2.1,opsG t.1 t.2.2)=t
  unfold opsG;rw[if_pos h0]
 | @step _ _ k hne hn =>
  refine⟨fun h0=>?_,fun _=>⟨k,by omega,hn⟩⟩
  cases hn with
  | done _=>rfl
  | step h1 _=>exact absurd h0 h1
theorem ringL_there{c:Cf} {p:Int} {xs:List Int} (h:thereP c p):ringL c p xs=ringW c p xs (xs.getD (wrdN c p) 0) (ringN c (xs.getD (wrdN c p) 0)):=if_pos h
theorem ringL_not{c:Cf} {p:Int} {xs:List Int} (h:¬ thereP c p):ringL c p xs=[]:=if_neg h
theorem ringL_le(c:Cf) (p:Int) (xs:List Int):(ringL c p xs).length≤64:=by
 by_cases h:thereP c p
 ·rw[ringL_there h,ringW_len];exact ringN_le h _
 ·rw[ringL_not h];simp
theorem ringW_get(c:Cf) (p:Int) (xs:List Int) (w:Int) {i n:Nat} (h:i < n):(ringW c p xs w n)[i]?=some (ringAt c p xs w i):=by
 rw[ringW,List.getElem?_map,List.getElem?_range h];rfl
end Go.Am.F10
end
section
namespace Go.Am.F10
open Go.Am.F06
section
variable {X:Type}
theorem own_push2{m0 m:Mem X} {xs:List Int} {v:AV} (h:Own m0 m 1 xs.length (iC xs) v) (x:Int) (hl:xs.length≤100000) (hm:m0.length≤m.length) :
  ∃ v' m',appendA 1 8 v (.sl m.length 0 1 (some 1)) (m++[.cells 1 false [.int .i64 x]])=some (v',m')∧Own m0 m' 1 (xs++[x]).length (iC (xs++[x])) v'∧m.length≤m'.length∧(∀ i,i < m.length→(∀ ys,m[i]?≠some (.cells 1 false (iC ys)))∨i < m0.length→m'[i]?=m[i]?):=by
 have hx:(m++[Chunk.cells 1 false [.int .i64 x]])[m.length]?=some (.cells 1 false [.int .i64 x]):=get_concat
 rw[iC_app,List.length_append]
 rcases h with⟨h1,h2,rfl⟩|⟨q,rfl,hq,h2,h3⟩
 ·have hxs:xs=[]:=List.length_eq_zero_iff.1 h1
  subst hxs
  refine⟨_,_,append_nils hx rfl rfl (by decide),.inr ⟨_,rfl,get_concat,by simp<;>omega,by simp⟩,by simp<;>omega,fun i hi _=>?_⟩
  rw[List.getElem?_append_left (by simp<;>omega),List.getElem?_append_left hi]
 ·have hq':(m++[Chunk.cells 1 false [.int .i64 x]])[q]?=some (.cells 1 false (iC xs)):=by rw[List.getElem?_append_left h3];exact hq
  refine⟨_,_,append_none hq' (by rw[iC_len];omega) hx rfl (iC_one _) rfl (by omega) (by omega),.inr ⟨_,rfl,?_,by simp<;>omega,by simp⟩,by simp<;>omega,fun i hi ho=>?_⟩
  ·have:(m++[Chunk.cells 1 false [AV.int .i64 x]]).length=((m++[Chunk.cells 1 false [AV.int .i64 x]]).set q .dead).length:=by simp
   rw[this,get_concat]
  ·have hqi:q≠i:=by
    rintro rfl
    rcases ho with ho|ho
    ·exact ho _ hq
    ·omega
   rw[List.getElem?_append_left (by simp<;>omega),List.getElem?_set_ne hqi,List.getElem?_append_left hi]
end
end Go.Am.F10
end
section
namespace Go.Am.F10
open Go.Am.F06
theorem _root_.Go.Am.F06.KeepB.x{X:Type} {j:Nat} {m m':Mem X} (h:KeepB j m m'):KeepX j j m m':=⟨h.1,fun a ha h1 _=>h.2 a ha h1⟩
end Go.Am.F10
end
section
namespace Go.Am.F10
open Go.Am.F06
theorem dW_add(w:Int) (d n:Nat):dW (dW w d) n=dW w (d+n):=by
 show pk ((hd (dW w d)+n) % 4294967296) (tl (dW w d))=_
 rw[hd_dW,tl_dW];unfold dW
 congr 1;omega
theorem ringN_pos{c:Cf} {w:Int} (h:0 < ringN c w):sz w≤c.q∧(ringN c w:Int)=sz w:=by
 have hs:0≤sz w:=by unfold sz;omega
 unfold ringN at h ⊢
 split at h
 ·rename_i hh;rw[if_pos hh];exact⟨hh,by omega⟩
 ·omega
theorem dW_inj{w:Int} {d e:Nat} (hd:d≤100) (he:e≤100) (h:dW w d=dW w e):d=e:=by
 have h1:=hd_dW w d
 have h2:=hd_dW w e
 rw[h,h2] at h1
 omega
structure OI (c:Cf) (p:Int) (xs:List Int) (i d g:Nat) (s:GS):Prop where
 dl:d≤(ringL c p xs).length
 gl:g≤d
 t0:0≤s.tries
 t1:s.tries≤g
 st:s.a=0∨((s.a=1∨(s.a=2∨s.a=3)∧∃ e,e≤d∧e < (ringL c p xs).length∧s.w=dW (xs.getD (wrdN c p) 0) e∧(s.a=3→s.seen=(ringL c p xs).getD e 0)∧s.tries+(if e < d then 1 else 0)≤g)∧(i:Int)=3 * s.tries+s.a - 1)
theorem OI.thief{c:Cf} {p:Int} {xs:List Int} {i d g:Nat} {s:GS} (h:OI c p xs i d g s) {n:Nat} (hn:d+n≤(ringL c p xs).length):OI c p xs i (d+n) (if 0 < n then g+1 else g) s:=by
 obtain⟨h1,h2,h3,h4,h5⟩:=h
 by_cases h0:0 < n
 ·rw[if_pos h0]
  refine⟨hn,by omega,h3,by omega,?_⟩
  rcases h5 with h5|⟨h5|⟨h5,e,e1,e2,e3,e4,e5⟩,h6⟩
  ·exact .inl h5
  ·exact .inr ⟨.inl h5,h6⟩
  ·refine .inr ⟨.inr ⟨h5,e,by omega,e2,e3,e4,?_⟩,h6⟩
   split<;>split at e5<;>omega
 ·have:n=0:=by omega
  subst this
  rw[if_neg h0]
  exact⟨hn,h2,h3,h4,h5⟩
theorem OI.lt{c:Cf} {p:Int} {xs:List Int} {i d g:Nat} {s:GS} (h:OI c p xs i d g s) (ha:s.a≠0):i < 200:=by
 have hle:=ringL_le c p xs
 obtain⟨h1,h2,h3,h4,h5⟩:=h
 rcases h5 with h5|⟨h5,h6⟩
 ·exact absurd h5 ha
 ·have:s.a≤3:=by
   rcases h5 with h5|⟨h5,_⟩<;>omega
  omega
theorem OI.step{c:Cf} {p:Int} {xs:List Int} {i d g:Nat} {s:GS} (h:OI c p xs i d g s) (hx:OkL c xs) (hp:thereP c p) (ha:s.a≠0) :
  ((stepG c p (dX c p xs d) s).1.a≠0∧(stepG c p (dX c p xs d) s).2=dX c p xs d∧OI c p xs (i+1) d g (stepG c p (dX c p xs d) s).1) ∨
  ((stepG c p (dX c p xs d) s).1.a=0∧(stepG c p (dX c p xs d) s).1.has=s.has∧(stepG c p (dX c p xs d) s).2=dX c p xs d∧d=(ringL c p xs).length∧OI c p xs (i+1) d g (stepG c p (dX c p xs d) s).1) ∨
  ((stepG c p (dX c p xs d) s).1.a=0∧(stepG c p (dX c p xs d) s).1.has=true∧d < (ringL c p xs).length∧(stepG c p (dX c p xs d) s).1.seen=(ringL c p xs).getD d 0∧(stepG c p (dX c p xs d) s).2=dX c p xs (d+1)∧OI c p xs (i+1) (d+1) g (stepG c p (dX c p xs d) s).1):=by
 have hle:=ringL_le c p xs
 have hw:=dX_word hx hp d
 have hw64:=getD_64 hx.2 (wrdN c p)
 have hlen:(ringL c p xs).length=ringN c (xs.getD (wrdN c p) 0):=by rw[ringL_there hp,ringW_len]
 have hget:∀ e,e < (ringL c p xs).length→(ringL c p xs).getD e 0=ringAt c p xs (xs.getD (wrdN c p) 0) e:=by
  intro e he
  rw[List.getD_eq_getElem?_getD,ringL_there hp,ringW_get _ _ _ _ (by omega)];rfl
 have hnx:=dX_next (c:=c) (p:=p) (xs:=xs) d
 obtain⟨h1,h2,h3,h4,h5⟩:=h
 obtain⟨a,w,seen,has,tries⟩:=s
 simp only at ha h3 h4 h5
 generalize hw0:xs.getD (wrdN c p) 0=w0 at hw hw64 hlen hget h5 hnx
 rcases h5 with h5|⟨h5|⟨h5|h5,e,e1,e2,e3,e4,e5⟩,h6⟩
 ·exact absurd h5 ha
 ·subst h5
  have hs:stepG c p (dX c p xs d) ⟨1,w,seen,has,tries⟩=(⟨if sz (dW w0 d)=0∨c.q < sz (dW w0 d) then 0 else 2,dW w0 d,seen,has,tries⟩,dX c p xs d):=by
   simp only[stepG,hw,if_true]
  rw[hs]
  by_cases hz:sz (dW w0 d)=0∨c.q < sz (dW w0 d)
  ·rw[if_pos hz]
   refine .inr (.inl ⟨rfl,rfl,rfl,?_,h1,h2,h3,h4,.inl rfl⟩)
   rcases Nat.eq_zero_or_pos (ringN c w0) with h0|h0
   ·omega
   ·obtain⟨q1,q2⟩:=ringN_pos h0
    have:=dW_sz (w:=w0) (i:=d) (by omega)
    omega
  ·rw[if_neg hz]
   refine .inl ⟨by simp,rfl,h1,h2,h3,h4,.inr ⟨.inr ⟨.inl rfl,d,Nat.le_refl _,?_,by rw[hw0],fun hh=>by simp at hh,by rw[if_neg (Nat.lt_irrefl _)];simp only;omega⟩,by simp only;omega⟩⟩
   by_cases hq:sz w0≤c.q
   ·have h0:ringN c w0=(sz w0).toNat:=if_pos hq
    have hs0:0≤sz w0:=by unfold sz;omega
    have:=dW_sz (w:=w0) (i:=d) (by omega)
    omega
   ·have h0:ringN c w0=0:=if_neg hq
    have hd0:d=0:=by omega
    subst hd0
    rw[dW_zero hw64] at hz
    omega
 ·subst h5
  have hhd:0≤hd (dW w0 e):=by rw[hd_dW];omega
  have hsl:=dX_slot (xs:=xs) hp d hhd
  rw[hd_dW] at hsl
  have hs:stepG c p (dX c p xs d) ⟨2,w,seen,has,tries⟩=(⟨3,w,ringAt c p xs w0 e,has,tries⟩,dX c p xs d):=by
   simp only[stepG,if_neg (show ¬ ((2:Int)=1) by decide),if_true,e3,sltN,hd_dW,hsl,ringAt]
  rw[hs]
  refine .inl ⟨by simp,rfl,h1,h2,h3,h4,.inr ⟨.inr ⟨.inr rfl,e,e1,e2,by rw[hw0];exact e3,fun _=>(hget e e2).symm,e5⟩,by simp only;omega⟩⟩
 ·subst h5
  try simp only at e3 e4
  by_cases heq:dW w0 d=w
  ·have hde:d=e:=dW_inj (w:=w0) (by omega) (by omega) (by rw[heq,e3])
   have hs:stepG c p (dX c p xs d) ⟨3,w,seen,has,tries⟩=(⟨0,w,seen,true,tries⟩,dX c p xs (d+1)):=by
    rw[hde] at hw hnx
    simp only[stepG,if_neg (show ¬ ((3:Int)=1) by decide),if_neg (show ¬ ((3:Int)=2) by decide),if_true,hde,hw,e3,dW_gain,hnx]
   rw[hs]
   refine .inr (.inr ⟨rfl,rfl,by omega,?_,rfl,by omega,by omega,h3,h4,.inl rfl⟩)
   rw[hde];exact e4 trivial
  ·have hs:stepG c p (dX c p xs d) ⟨3,w,seen,has,tries⟩=(⟨1,w,seen,has,tries+1⟩,dX c p xs d):=by
    have ew:IntKind.i64.wrap (tries+1)=tries+1:=wrapI (by omega) (by omega)
    simp only[stepG,if_neg (show ¬ ((3:Int)=1) by decide),if_neg (show ¬ ((3:Int)=2) by decide),if_true,hw,if_neg heq,ew]
   have hne:e < d:=by
    rcases Nat.lt_or_ge e d with h|h
    ·exact h
    ·exact absurd (by rw[e3];congr 1;omega) heq
   rw[if_pos hne] at e5
   rw[hs]
   exact .inl ⟨by simp,rfl,h1,h2,by simp only;omega,by simp only at e5 ⊢;omega,.inr ⟨.inl rfl,by simp only;omega⟩⟩
end Go.Am.F10
end
section
namespace Go.Am.F10
open Go.Am.F06
section
variable {X:Type}
def q3(k:Int):Int:=if k=0 then 2 else if k=1 then 4 else 8
theorem shl3{k:Int} (h0:0≤k) (h1:k < 3):shfI .shl .i64 2 k=some (.int .i64 (q3 k)):=by
 rcases (show k=0∨k=1∨k=2 by omega) with rfl|rfl|rfl<;>rfl
def madeC(c:Cf):Cf:=⟨1+c.n % 4,q3 (c.q % 3),1+c.g % 20,1+c.n % 4+1+c.m % 3,2+c.t % 6,c.s % 3⟩
theorem made_right(c:Cf):rightP (madeC c):=by
 have e1:=Int.emod_nonneg c.n (b:=4) (by omega)
 have e2:=Int.emod_lt_of_pos c.n (b:=4) (by omega)
 have e3:=Int.emod_nonneg c.g (b:=20) (by omega)
 have e4:=Int.emod_lt_of_pos c.g (b:=20) (by omega)
 have e5:=Int.emod_nonneg c.m (b:=3) (by omega)
 have e6:=Int.emod_lt_of_pos c.m (b:=3) (by omega)
 have e7:=Int.emod_nonneg c.t (b:=6) (by omega)
 have e8:=Int.emod_lt_of_pos c.t (b:=6) (by omega)
 have e9:=Int.emod_nonneg c.s (b:=3) (by omega)
 have e10:=Int.emod_lt_of_pos c.s (b:=3) (by omega)
 refine⟨?_,?_,?_,?_,?_,?_⟩<;>simp only[madeC]
 ·omega
 ·unfold q3 roomP;split
  ·simp
  ·split<;>simp
 all_goals omega
set_option maxHeartbeats 4000000 in
theorem made_eq(m:Mem X) (c:Cf):c_docs_Made [.agg (cfC c)] m=some (.agg (cfC (madeC c)),m++[.cells 6 false (cfC c),.cells 6 false (cfC (madeC c))]):=by
 have a87:assoc [(87,c_kit_Pick (X:=X))] 87=some c_kit_Pick:=rfl
 have he:c_docs_Made (X:=X)=amFunc [(87,c_kit_Pick)] docs_Made:=rfl
 rw[he]
 generalize [(87,c_kit_Pick (X:=X))]=G at a87 ⊢
 have p4:=fun m:Mem X=>pick_eq m c.n 4 (by omega) (by omega)
 have p3:=fun m:Mem X=>pick_eq m c.q 3 (by omega) (by omega)
 have p20:=fun m:Mem X=>pick_eq m c.g 20 (by omega) (by omega)
 have p3m:=fun m:Mem X=>pick_eq m c.m 3 (by omega) (by omega)
 have p6:=fun m:Mem X=>pick_eq m c.t 6 (by omega) (by omega)
 have p3s:=fun m:Mem X=>pick_eq m c.s 3 (by omega) (by omega)
 have e1:=Int.emod_nonneg c.n (b:=4) (by omega)
 have e2:=Int.emod_lt_of_pos c.n (b:=4) (by omega)
 have e3:=Int.emod_nonneg c.g (b:=20) (by omega)
 have e4:=Int.emod_lt_of_pos c.g (b:=20) (by omega)
 have e5:=Int.emod_nonneg c.m (b:=3) (by omega)
 have e6:=Int.emod_lt_of_pos c.m (b:=3) (by omega)
 have e7:=Int.emod_nonneg c.t (b:=6) (by omega)
 have e8:=Int.emod_lt_of_pos c.t (b:=6) (by omega)
 have e9:=Int.emod_nonneg c.q (b:=3) (by omega)
 have e10:=Int.emod_lt_of_pos c.q (b:=3) (by omega)
 have hsh:=shl3 e9 e10
 refine Fn_eq (Fn_of rfl ?_)
 simp(disch:=first|assumption|omega|(simp only[zl]<;>omega)|(simp only[zn])) only[docs_Made,↓zd,zk,seval,reduceIte,List.map,AV.cells,List.all,AV.one,eqV,eqAll,splice,fillA,List.replicate,resAll,resA,zm,zg,cfC,madeC,a87,p4,p3,p20,p3m,p6,p3s,hsh]
def cutA(v:AV) (k:Nat):AV:=match v with | .sl q o _ none=>.sl q o k none|v=>v
def dropA(v:AV) (k:Nat):AV:=match v with | .sl q o n none=>.sl q (o+k) (n - k) none|v=>v
theorem _root_.Go.Am.F10.Nx.put{m:Mem X} {v:AV} (h:Nx m v) {b:Nat} (hb:∀ ro L,m[b]?≠some (.cells 1 ro L)) (C:Chunk X):Nx (m.set b C) v:=by
 rcases h with h|⟨q,o,n,l,h1,h2⟩
 ·exact .inl h
 ·refine .inr ⟨q,o,n,l,h1,?_⟩
  rw[List.getElem?_set_ne (fun hq=>hb _ _ (by rw[hq];exact h2))];exact h2
theorem _root_.Go.Am.F10.Nx.keep{m m':Mem X} {v:AV} (h:Nx m v) (k:Keep m m'):Nx m' v:=by
 rcases h with h|⟨q,o,n,l,h1,h2⟩
 ·exact .inl h
 ·exact .inr ⟨q,o,n,l,h1,k.get h2⟩
theorem si_take{m:Mem X} {wr:Bool} {xs:List Int} {v:AV} (h:SI m wr xs v) (hn:Nx m v) {k:Nat} (hk:k≤xs.length):sliceA m 1 v none (some k) none=some (cutA v k)∧SI m wr (xs.take k) (cutA v k):=by
 rcases hn with rfl|⟨q,o,n,l,rfl,hq⟩
 ·have h0:xs.length=0:=by
   rcases h.2 with⟨_,h⟩|⟨_,_,_,h,_⟩
   ·exact h
   ·cases h
  have hx:xs=[]:=List.length_eq_zero_iff.1 h0
  subst hx
  have:k=0:=by simpa using hk
  subst this
  exact⟨rfl,Sl.nil⟩
 ·have hnl:n=xs.length:=by have:=h.len;simp only[lenA,Option.some.injEq] at this;exact this
  subst hnl
  refine⟨?_,?_,.inr ⟨q,o,none,by rw[List.length_take,Nat.min_eq_left hk];rfl,fun h0=>?_⟩⟩
  ·simp only[sliceA,getC_gcO,hq,gcO_cells,Option.getD_none,Option.getD_some]
   rw[if_pos ⟨trivial,by omega,by omega⟩];simp[cutA]
  ·rw[iC_len];omega
  ·rw[List.length_take] at h0 ⊢
   obtain⟨q',o',cap',ro,L,hv,h2,h3,h4,h5⟩:=h.at (by omega)
   injection hv with v1 v2 v3 v4;subst v1;subst v2;subst v4
   rw[Nat.min_eq_left hk]
   refine⟨ro,L,h2,?_,by omega,h5⟩
   rw[iC,List.map_take,← iC,← h3,List.take_take]
   congr 1;omega
theorem si_drop{m:Mem X} {wr:Bool} {xs:List Int} {v:AV} (h:SI m wr xs v) (hn:Nx m v) {k:Nat} (hk:k≤xs.length):sliceA m 1 v (some k) none none=some (dropA v k)∧SI m wr (xs.drop k) (dropA v k):=by
 rcases hn with rfl|⟨q,o,n,l,rfl,hq⟩
 ·have h0:xs.length=0:=by
   rcases h.2 with⟨_,h⟩|⟨_,_,_,h,_⟩
   ·exact h
   ·cases h
  have hx:xs=[]:=List.length_eq_zero_iff.1 h0
  subst hx
  have:k=0:=by simpa using hk
  subst this
  exact⟨rfl,Sl.nil⟩
 ·have hnl:n=xs.length:=by have:=h.len;simp only[lenA,Option.some.injEq] at this;exact this
  subst hnl
  refine⟨?_,?_,.inr ⟨q,o+k,none,by rw[List.length_drop];rfl,fun h0=>?_⟩⟩
  ·simp only[sliceA,getC_gcO,hq,gcO_cells,Option.getD_none,Option.getD_some]
   rw[if_pos ⟨trivial,by omega,by omega⟩,Nat.mul_one];rfl
  ·rw[iC_len];omega
  ·rw[List.length_drop] at h0 ⊢
   obtain⟨q',o',cap',ro,L,hv,h2,h3,h4,h5⟩:=h.at (by omega)
   injection hv with v1 v2 v3 v4;subst v1;subst v2;subst v4
   refine⟨ro,L,h2,?_,by omega,h5⟩
   rw[iC,List.map_drop,← iC,← h3,List.drop_take,List.drop_drop]
   congr 1;omega
theorem si_row{m:Mem X} {wr:Bool} {xs:List Int} {v:AV} (h:SI m wr xs v):rowOf m 1 v=some (iC xs):=by
 rcases h.2 with⟨rfl,h0⟩|⟨q,o,cap,rfl,h2⟩
 ·have hx:xs=[]:=List.length_eq_zero_iff.1 h0
  subst hx;rfl
 ·by_cases h0:xs.length=0
  ·have hx:xs=[]:=List.length_eq_zero_iff.1 h0
   subst hx;rfl
  ·obtain⟨ro,L,h3,h4,h5,_⟩:=h2 (by omega)
   simp only[rowOf,Am.getC,h3]
   rw[if_neg h0,if_pos h5,h4]
theorem own_pushs{m0 m:Mem X} {wr:Bool} {xs ys:List Int} {v y:AV} (h:Own m0 m 1 xs.length (iC xs) v) (hy:SI m wr ys y) (hl:xs.length≤100000) (hl2:ys.length≤100000) (hm:m0.length≤m.length) :
  ∃ v' m',appendA 1 8 v y m=some (v',m')∧Own m0 m' 1 (xs++ys).length (iC (xs++ys)) v'∧m.length≤m'.length∧(∀ i,i < m.length→(∀ ys,m[i]?≠some (.cells 1 false (iC ys)))∨i < m0.length→m'[i]?=m[i]?):=by
 have hr:=si_row hy
 have hlen:=hy.len
 by_cases h0:ys.length=0
 ·have hx:ys=[]:=List.length_eq_zero_iff.1 h0
  subst hx
  rw[List.append_nil]
  rcases h with⟨h1,h2,rfl⟩|⟨q,rfl,hq,h2,h3⟩
  ·exact⟨.nils,m,by simp only[appendA,hlen,hr,List.length_nil,if_true],.inl ⟨h1,h2,rfl⟩,Nat.le_refl _,fun i _ _=>rfl⟩
  ·exact⟨_,m,by simp only[appendA,hlen,hr,List.length_nil,if_true],.inr ⟨q,rfl,hq,h2,h3⟩,Nat.le_refl _,fun i _ _=>rfl⟩
 rcases h with⟨h1,h2,rfl⟩|⟨q,rfl,hq,h2,h3⟩
 ·have hxs:xs=[]:=List.length_eq_zero_iff.1 h1
  subst hxs
  refine⟨.sl m.length 0 ys.length none,m++[.cells 1 false (iC ys)],?_,.inr ⟨_,by rw[List.nil_append],by rw[List.nil_append];exact get_concat,hm,by simp⟩,by simp,fun i hi _=>List.getElem?_append_left hi⟩
  simp only[appendA,hlen,hr]
  rw[if_neg h0,if_pos ⟨by omega,by omega,iC_one _⟩]
 ·refine⟨.sl m.length 0 (xs.length+ys.length) none,m.set q .dead++[.cells 1 false (iC xs++iC ys)],?_,.inr ⟨_,by rw[List.length_append],?_,hm,by simp⟩,by simp,fun i hi ho=>?_⟩
  ·simp only[appendA,hlen,hr,Am.getC,hq]
   rw[if_neg h0,if_pos]
   ·rw[List.drop_zero,Nat.mul_one,List.take_of_length_le (by rw[iC_len];omega)]
   ·refine⟨trivial,by rw[iC_len];omega,by omega,by omega,?_⟩
    rw[List.drop_zero,Nat.mul_one,List.take_of_length_le (by rw[iC_len];omega),List.all_append,iC_one,iC_one];rfl
  ·rw[show m.length=(m.set q .dead).length by simp,get_concat];simp[iC]
  ·have hqi:q≠i:=by
    rintro rfl
    rcases ho with ho|ho
    ·exact ho _ hq
    ·omega
   rw[List.getElem?_append_left (by simpa using hi),List.getElem?_set_ne hqi]
end
end Go.Am.F10
end
section
namespace Go.Am.F10
open Go.Am.F06
def thN(k len:Nat):Nat:=min k (len - len / 2)
def Gthief:List (Nat × AFun Ob):=[(136,amFunc Gring docs_Ring),(159,c_conf_Config_Word),(24,memF loadS),(22,memF storeS)]
def TfP(m:MM) (c:Cf) (p:Int) (j:Nat) (xs:List Int) (n:Nat) (r:AV) (m':MM):Prop:=KeepB j m m'∧SI m' true ((ringL c p xs).take n) r∧∃ st' o',m'[j]?=some (.abs (.mem st'))∧RelM (dX c p xs n) o' st'
set_option maxHeartbeats 8000000 in
theorem thief_run{m:MM} {c:Cf} {p o:Int} {xs:List Int} {j k:Nat} {st:MemSt} (hk3:k≤1000) (hj:m[j]?=some (.abs (.mem st))) (hr:RelM xs o st) (hx:OkL c xs) (h:thereP c p) :
  Fn Gthief docs_Thief [.agg (cfC c),.ptr j 0,.int .i64 p,.int .i64 k] m (TfP m c p j xs (thN k (ringL c p xs).length)):=by
 have a136:assoc Gthief 136=some (amFunc Gring docs_Ring):=rfl
 have a159:assoc Gthief 159=some c_conf_Config_Word:=rfl
 have a24:assoc Gthief 24=some (memF loadS):=rfl
 have a22:assoc Gthief 22=some (memF storeS):=rfl
 generalize Gthief=G at a136 a159 a24 a22 ⊢
 have lj:j < m.length:=(List.getElem?_eq_some_iff.1 hj).1
 have hcn:=cellsN_le c
 have hxl:=hx.1
 have hle:=ringL_le c p xs
 have hlen:(ringL c p xs).length=ringN c (xs.getD (wrdN c p) 0):=by rw[ringL_there h,ringW_len]
 have hb:=there_bounds h
 have ha0:=addr_b h (i:=0) (by omega) (by omega)
 have hthr:thr xs (addrA c p 0):=⟨by omega,by omega⟩
 have hwt:(addrA c p 0).toNat=wrdN c p:=rfl
 have hw64:=getD_64 hx.2 (wrdN c p)
 refine Fn_of rfl ?_
 simp(disch:=first|assumption|omega|(simp only[zl]<;>omega)|(simp only[zn])) only[docs_Thief,↓zd,zk,seval,reduceIte,List.map,AV.cells,List.all,AV.one,eqV,eqAll,splice,fillA,List.replicate,resAll,resA,zm,zg,cfC,a136]
 have hk1:Keep m (m++[Chunk.cells 6 false (cfC c)]):=.app _ _
 have hrn:=ring_run (c:=c) (p:=p) (hk1.get hj) hr hx
 simp only[cfC] at hrn
 refine OK_fn hrn ?_
 rintro ring m1 ⟨k1,sr,_,nx,_⟩
 have hk01:Keep m m1:=hk1.trans k1
 have gb:m1[m.length]?=some (Chunk.cells 6 false (cfC c)):=k1.get get_concat
 have g1:=hk01.get hj
 have lj1:j < m1.length:=(List.getElem?_eq_some_iff.1 g1).1
 have lb:m.length < m1.length:=(List.getElem?_eq_some_iff.1 gb).1
 have hlr:=sr.len
 have eq2:((ringL c p xs).length:Int).tdiv 2=(((ringL c p xs).length / 2:Nat):Int):=by rw[Int.tdiv_eq_ediv_of_nonneg (by omega)];omega
 have hwr:=fun m:MM=>word_run (m:=m) c p
 have hmin:(if ((ringL c p xs).length:Int) - (((ringL c p xs).length / 2:Nat):Int) < (k:Int) then((ringL c p xs).length:Int) - (((ringL c p xs).length / 2:Nat):Int) else(k:Int))=((thN k (ringL c p xs).length:Nat):Int):=by unfold thN;split<;>omega
 have hn3:thN k (ringL c p xs).length≤64:=by unfold thN;omega
 have hnl:thN k (ringL c p xs).length≤(ringL c p xs).length:=by unfold thN;omega
 simp only[cfC,List.cons_append,List.nil_append] at hwr gb
 simp(disch:=first|assumption|omega|(simp only[zl]<;>omega)|(simp only[zn])) only[↓zd,zk,seval,reduceIte,List.map,AV.cells,List.all,AV.one,eqV,eqAll,splice,fillA,List.replicate,resAll,resA,zm,zg,ev_len,hlr,eq2,hmin]
 generalize hn:thN k (ringL c p xs).length=n at hn3 hnl ⊢
 by_cases h0:n=0
 ·subst h0
  simp(disch:=first|assumption|omega|(simp only[zl]<;>omega)|(simp only[zn])) only[↓zd,zk,seval,reduceIte,List.map,AV.cells,List.all,AV.one,eqV,eqAll,splice,fillA,List.replicate,resAll,resA,zm,zg,Int.ofNat_zero]
  exact⟨.of hk01,by rw[List.take_zero];exact Sl.nil,st,o,g1,by rw[dX,if_pos rfl];exact hr⟩
 obtain⟨st1,r1,_,f24,_⟩:=hr.loadE hthr
 rw[hwt] at f24
 generalize hw0:xs.getD (wrdN c p) 0=w at f24 hw64 hlen
 obtain⟨st2,r2,_,f22,_⟩:=r1.storeE hthr (dW w n)
 rw[hwt] at r2
 have f24':=fun K=>f24 m1 K j g1
 have f22':=fun K=>f22 (m1.set j (.abs (.mem st1))) K j (List.getElem?_set_self lj1)
 have eh:IntKind.u32.wrap (w / 4294967296)=hd w:=by rw[wrap32];unfold hd;unfold W64 at hw64;omega
 have et:IntKind.u32.wrap w=tl w:=wrap32 w
 have en:IntKind.u32.wrap (n:Int)=n:=by rw[wrap32];omega
 have e1:IntKind.u32.wrap (hd w+n)=(hd w+n) % 4294967296:=wrap32 _
 have hh:=hd_b hw64
 have ht:=tl_b w
 have hm0:=Int.emod_nonneg (hd w+n) (b:=4294967296) (by omega)
 have hm1:=Int.emod_lt_of_pos (hd w+n) (b:=4294967296) (by omega)
 have hor:=or_eq hm0 hm1 ht.1 ht.2
 have hpk:pk ((hd w+n) % 4294967296) (tl w)=dW w n:=rfl
 have nj:∀ ro L,m1[j]?≠some (.cells 1 ro L):=fun ro L hh=>by rw[g1] at hh;cases hh
 have nj1:∀ ro L,(m1.set j (.abs (.mem st1)))[j]?≠some (.cells 1 ro L):=fun ro L hh=>by rw[List.getElem?_set_self lj1] at hh;cases hh
 have hcut:=fun K=>si_take (k:=n) (((sr.put nj (.abs (.mem st1))).put nj1 (.abs (.mem st2))).keep (Keep.app _ K)) (((nx.put nj (.abs (.mem st1))).put nj1 (.abs (.mem st2))).keep (Keep.app _ K)) hnl
 have hcut1:=fun K=>(hcut K).1
 have hcut2:=fun K=>(hcut K).2
 simp(disch:=first|assumption|omega|(simp only[zl]<;>omega)|(simp only[zn])) only[↓zd,zk,seval,reduceIte,List.map,AV.cells,List.all,AV.one,eqV,eqAll,splice,fillA,List.replicate,resAll,resA,zm,zg,gb,a159,hwr,a24,f24',shr_eq,eh,en,e1,shl_eq,et,hor,hpk,a22,f22',evA,hcut1]
 rw[List.set_set]
 have hl1:=hk01.1
 refine⟨⟨by simp;omega,fun a ha hne=>?_⟩,?_,st2,IntKind.u64.wrap (IntKind.u64.wrap (o+1)+1),?_,?_⟩
 ·rw[List.getElem?_append_left (by simp;omega),List.getElem?_set_ne (fun h=>hne h.symm)];exact hk01.2 a ha
 ·have:=hcut2 [Chunk.cells 6 false (cfC c),.cells 7 false (cfC c++[.int .i64 p]),.cells 6 false (cfC c)]
  rw[List.set_set] at this
  exact this
 ·rw[List.getElem?_append_left (by simp;omega),List.getElem?_set_self lj1]
 ·rw[dX,if_neg h0,hw0];exact r2
end Go.Am.F10
end
section
namespace Go.Am.F10
open Go.Am.F06
end Go.Am.F10
end
section
namespace Go.Am.F10
open Go.Am.F06
end Go.Am.F10
end
section
namespace Go.Am.F10
open Go.Am.F06
def Rw(m:MM) (q n sz:Nat) (l:List AV) (v:AV):Prop:=(n=0∧l=[]∧v = .nils)∨(0 < n∧v = .sl q 0 n none∧m[q]?=some (.cells sz false l))
theorem Rw.nil{m:MM} {q sz:Nat}:Rw m q 0 sz [] .nils:=.inl ⟨rfl,rfl,rfl⟩
theorem Rw.sl{m:MM} {q n sz:Nat} {l:List AV} {v:AV} (h:Rw m q n sz l v) (hl:l.length=n * sz):Sl m false sz n l v:=by
 rcases h with⟨rfl,rfl,rfl⟩|⟨_,rfl,h⟩
 ·exact Sl.nil
 ·exact⟨hl,.inr ⟨q,0,none,rfl,fun _=>⟨false,l,h,by rw[List.drop_zero,← hl,List.take_length],by omega,fun h=>by cases h⟩⟩⟩
theorem Rw.lt{m:MM} {q n sz:Nat} {l:List AV} {v:AV} (h:Rw m q n sz l v) (hn:0 < n):q < m.length:=by
 rcases h with⟨rfl,_⟩|⟨_,_,h⟩
 ·omega
 ·exact(List.getElem?_eq_some_iff.1 h).1
theorem Rw.keep{m m':MM} {q n sz:Nat} {l:List AV} {v:AV} (h:Rw m q n sz l v) (hq:0 < n→m'[q]?=m[q]?):Rw m' q n sz l v:=by
 rcases h with h|⟨h1,h2,h3⟩
 ·exact .inl h
 ·exact .inr ⟨h1,h2,by rw[hq h1];exact h3⟩
theorem Rw.one{m:MM} {q n sz:Nat} {l:List AV} {v:AV} (h:Rw m q n sz l v):v.one=true:=by
 rcases h with⟨_,_,rfl⟩|⟨_,rfl,_⟩<;>rfl
theorem Rw.push{m:MM} {q n sz bytes:Nat} {l x:List AV} {v:AV} (h:Rw m q n sz l v) (hl:l.length=n * sz) (hx:x.length=sz) (h0:l.all AV.one=true) (h1:x.all AV.one=true) (hn:n≤1000) (hb:bytes≤100) :
  ∃ v' m',appendA sz bytes v (.sl m.length 0 1 (some 1)) (m++[.cells sz false x])=some (v',m')∧Rw m' (m.length+1) (n+1) sz (l++x) v'∧m.length≤m'.length∧∀ i,i < m.length→(n=0∨i≠q)→m'[i]?=m[i]?:=by
 have hg:(m++[Chunk.cells sz false x])[m.length]?=some (.cells sz false x):=get_concat
 rcases h with⟨rfl,rfl,rfl⟩|⟨hp,rfl,hq⟩
 ·refine⟨_,_,append_nils hg hx h1 (by omega),.inr ⟨by omega,by simp,?_⟩,by simp<;>omega,fun i hi _=>?_⟩
  ·rw[show m.length+1=(m++[Chunk.cells sz false x]).length by simp,get_concat];rfl
  ·rw[List.getElem?_append_left (by simp<;>omega),List.getElem?_append_left hi]
 ·have hql:q < m.length:=(List.getElem?_eq_some_iff.1 hq).1
  have hq':(m++[Chunk.cells sz false x])[q]?=some (.cells sz false l):=by rw[List.getElem?_append_left hql];exact hq
  have hb2:(n+1) * bytes≤35184372088832:=Nat.le_trans (Nat.mul_le_mul (show n+1≤1001 by omega) hb) (by decide)
  refine⟨_,_,append_none hq' hl hg hx h0 h1 hb2 (by omega),.inr ⟨by omega,by simp,?_⟩,by simp<;>omega,fun i hi ho=>?_⟩
  ·rw[show m.length+1=((m++[Chunk.cells sz false x]).set q .dead).length by simp,get_concat]
  ·have hqi:q≠i:=by omega
   rw[List.getElem?_append_left (by simp<;>omega),List.getElem?_set_ne hqi,List.getElem?_append_left hi]
theorem wrap8(z:Int):IntKind.u8.wrap z=z % 256:=by
 simp only[IntKind.wrap,IntKind.bits,IntKind.signed,Bool.false_and];simp
theorem u8_one(bs:List Int):(bs.map (AV.int .u8)).all AV.one=true:=by simp[AV.one]
theorem pk_one(ps:List Pk):(ps.flatMap pkC).all AV.one=true:=by
 rw[List.all_eq_true]
 intro x hx
 rw[List.mem_flatMap] at hx
 obtain⟨a,_,hx⟩:=hx
 simp only[pkC,List.mem_cons,List.not_mem_nil,or_false] at hx
 rcases hx with rfl|rfl|rfl<;>rfl
theorem pks_len(ps:List Pk):(ps.flatMap pkC).length=ps.length * 3:=rows_len (f:=pkC) (sz:=3) (fun _=>rfl) ps
end Go.Am.F10
end
section
namespace Go.Am.F09
variable {X:Type}
def c_conf_within:AFun X:=amFunc [] conf_within
def c_conf_Config_Right:AFun X:=amFunc [(176,c_conf_within)] conf_Config_Right
def c_cell_New:AFun X:=amFunc [] cell_New
def c_conf_own_at:AFun X:=amFunc [(157,c_conf_Config_Right),(176,c_conf_within)] conf_own_at
def c_conf_Config_Slot:AFun X:=amFunc [(157,c_conf_Config_Right),(177,c_conf_own_at)] conf_Config_Slot
def c_cell_Mem_there:AFun X:=amFunc [] cell_Mem_there
def c_cell_counts_note:AFun X:=amFunc [] cell_counts_note
def c_cell_Mem_Store_1:AFun X:=amFunc [] cell_Mem_Store_1
def c_cell_Mem_CAS_1:AFun X:=amFunc [] cell_Mem_CAS_1
def c_cell_Mem_Load_1:AFun X:=amFunc [] cell_Mem_Load_1
def c_put_NewLay_1:AFun X:=amFunc [] put_NewLay_1
def c_cell_Mem_access:AFun X:=amFunc [(56,c_cell_Mem_there),(71,c_cell_counts_note),(49,c_cell_Mem_Store_1),(51,c_cell_Mem_CAS_1),(52,c_cell_Mem_Load_1),(213,c_put_NewLay_1)] cell_Mem_access
def c_cell_Mem_Store:AFun X:=amFunc [(50,c_cell_Mem_access),(49,c_cell_Mem_Store_1)] cell_Mem_Store
def c_conf_Config_Word:AFun X:=amFunc [(177,c_conf_own_at)] conf_Config_Word
def c_put_from:AFun X:=amFunc [(159,c_conf_Config_Word)] put_from
def c_put_New:AFun X:=amFunc [(206,c_put_from)] put_New
def c_put_Put_Done:AFun X:=amFunc [] put_Put_Done
def c_cell_Mem_Load:AFun X:=amFunc [(50,c_cell_Mem_access),(52,c_cell_Mem_Load_1)] cell_Mem_Load
def c_word_Tail:AFun X:=amFunc [] word_Tail
def c_word_Head:AFun X:=amFunc [] word_Head
def c_word_Len:AFun X:=amFunc [(182,c_word_Tail),(179,c_word_Head)] word_Len
def c_put_ring_load:AFun X:=amFunc [(159,c_conf_Config_Word),(24,c_cell_Mem_Load),(178,c_word_Len)] put_ring_load
def c_put_Put_look:AFun X:=amFunc [(219,c_put_ring_load)] put_Put_look
def c_put_ring_slot:AFun X:=amFunc [(182,c_word_Tail),(160,c_conf_Config_Slot)] put_ring_slot
def c_put_Put_lay:AFun X:=amFunc [(210,c_put_ring_slot),(22,c_cell_Mem_Store)] put_Put_lay
def c_word_Pack:AFun X:=amFunc [] word_Pack
def c_word_Grow:AFun X:=amFunc [(179,c_word_Head),(182,c_word_Tail),(183,c_word_Pack)] word_Grow
def c_cell_Mem_CAS:AFun X:=amFunc [(50,c_cell_Mem_access),(51,c_cell_Mem_CAS_1)] cell_Mem_CAS
def c_put_ring_change:AFun X:=amFunc [(159,c_conf_Config_Word),(23,c_cell_Mem_CAS)] put_ring_change
def c_put_Put_swing:AFun X:=amFunc [(211,c_word_Grow),(212,c_put_ring_change)] put_Put_swing
def c_put_Put_half:AFun X:=amFunc [] put_Put_half
def c_put_Put_take:AFun X:=amFunc [(220,c_put_Put_half),(210,c_put_ring_slot),(24,c_cell_Mem_Load)] put_Put_take
def c_word_Drop:AFun X:=amFunc [(179,c_word_Head),(182,c_word_Tail),(183,c_word_Pack)] word_Drop
def c_put_Put_cut:AFun X:=amFunc [(220,c_put_Put_half),(221,c_word_Drop),(212,c_put_ring_change)] put_Put_cut
def c_put_ways:AFun X:=amFunc [(214,c_put_Put_look),(215,c_put_Put_lay),(216,c_put_Put_swing),(217,c_put_Put_take),(218,c_put_Put_cut)] put_ways
def c_slices_Clone_int:AFun X:=amFunc [] slices_Clone_int
def c_cell_Mem_Ops:AFun X:=amFunc [] cell_Mem_Ops
def c_put_Lay_Done:AFun X:=amFunc [] put_Lay_Done
end Go.Am.F09
end
section
namespace Go.Am.F09
variable {X:Type}
end Go.Am.F09
end
section
namespace Go.Am.F09
variable {X:Type}
def rootN(j k:Nat):List AV:=[.int .u64 0,.int .u64 0,.int .u64 0,.int .u64 0,.int .u64 0,.int .u64 0,.nils,.sl j 0 k (some k)]
theorem ops_eq{m:Mem X} {j a b:Nat} (hj:m[j]?=some (.cells 8 false (rootN a b))):c_cell_Mem_Ops [.ptr j 0] m=some (.int .u64 0,m):=Fn_eq (Fn_of rfl (by simp(disch:=first|assumption|omega|(simp only[zl]<;>omega)|(simp only[zn])) only[cell_Mem_Ops,↓zd,zk,seval,reduceIte,List.map,AV.cells,List.all,AV.one,eqV,eqAll,splice,fillA,List.replicate,resAll,resA,zm,zg,hj,rootN]))
end Go.Am.F09
end
section
namespace Go.Am.F09
open Go.Am.F06 Go.Am.F10
section
variable {X:Type}
def growW(w n:Int):Int:=pk (hd w) ((tl w+n) % 4294967296)
def dropW(w n:Int):Int:=pk (hd w) ((tl w - n) % 4294967296)
theorem grow_64{w:Int} (h:W64 w) (n:Int):W64 (growW w n):=by
 have:=hd_b h
 unfold growW pk W64;omega
theorem drop_64{w:Int} (h:W64 w) (n:Int):W64 (dropW w n):=by
 have:=hd_b h
 unfold dropW pk W64;omega
theorem grow_eq(m:Mem X) {w n:Int} (h:W64 w):c_word_Grow [.int .u64 w,.int .u32 n] m=some (.int .u64 (growW w n),m):=by
 have a179:assoc [(179,F10.c_word_Head (X:=X)),(182,F10.c_word_Tail),(183,F10.c_word_Pack)] 179=some F10.c_word_Head:=rfl
 have a182:assoc [(179,F10.c_word_Head (X:=X)),(182,F10.c_word_Tail),(183,F10.c_word_Pack)] 182=some F10.c_word_Tail:=rfl
 have a183:assoc [(179,F10.c_word_Head (X:=X)),(182,F10.c_word_Tail),(183,F10.c_word_Pack)] 183=some F10.c_word_Pack:=rfl
 have he:c_word_Grow (X:=X)=amFunc [(179,F10.c_word_Head),(182,F10.c_word_Tail),(183,F10.c_word_Pack)] word_Grow:=rfl
 rw[he]
 generalize [(179,F10.c_word_Head (X:=X)),(182,F10.c_word_Tail),(183,F10.c_word_Pack)]=G at a179 a182 a183 ⊢
 have hh:=hd_b h
 have h1:=head_eq m h
 have h2:=tail_eq m w
 have hw:IntKind.u32.wrap (tl w+n)=(tl w+n) % 4294967296:=wrap32 _
 have h3:=pack_eq m (h:=hd w) (t:=(tl w+n) % 4294967296) hh.1 hh.2 (by omega) (by omega)
 refine Fn_eq (Fn_of rfl ?_)
 simp(disch:=first|assumption|omega|(simp only[zl]<;>omega)|(simp only[zn])) only[word_Grow,↓zd,zk,seval,reduceIte,List.map,AV.cells,List.all,AV.one,eqV,eqAll,splice,fillA,List.replicate,resAll,resA,zm,zg,a179,a182,a183,h1,h2,hw,h3,growW]
theorem drop_eq(m:Mem X) {w n:Int} (h:W64 w):c_word_Drop [.int .u64 w,.int .u32 n] m=some (.int .u64 (dropW w n),m):=by
 have a179:assoc [(179,F10.c_word_Head (X:=X)),(182,F10.c_word_Tail),(183,F10.c_word_Pack)] 179=some F10.c_word_Head:=rfl
 have a182:assoc [(179,F10.c_word_Head (X:=X)),(182,F10.c_word_Tail),(183,F10.c_word_Pack)] 182=some F10.c_word_Tail:=rfl
 have a183:assoc [(179,F10.c_word_Head (X:=X)),(182,F10.c_word_Tail),(183,F10.c_word_Pack)] 183=some F10.c_word_Pack:=rfl
 have he:c_word_Drop (X:=X)=amFunc [(179,F10.c_word_Head),(182,F10.c_word_Tail),(183,F10.c_word_Pack)] word_Drop:=rfl
 rw[he]
 generalize [(179,F10.c_word_Head (X:=X)),(182,F10.c_word_Tail),(183,F10.c_word_Pack)]=G at a179 a182 a183 ⊢
 have hh:=hd_b h
 have h1:=head_eq m h
 have h2:=tail_eq m w
 have hw:IntKind.u32.wrap (tl w - n)=(tl w - n) % 4294967296:=wrap32 _
 have h3:=pack_eq m (h:=hd w) (t:=(tl w - n) % 4294967296) hh.1 hh.2 (by omega) (by omega)
 refine Fn_eq (Fn_of rfl ?_)
 simp(disch:=first|assumption|omega|(simp only[zl]<;>omega)|(simp only[zn])) only[word_Drop,↓zd,zk,seval,reduceIte,List.map,AV.cells,List.all,AV.one,eqV,eqAll,splice,fillA,List.replicate,resAll,resA,zm,zg,a179,a182,a183,h1,h2,hw,h3,dropW]
def rgC(c:Cf) (p a w k:Int) (T:List AV):List AV:=cfC c++(.int .i64 p :: .int .i64 a :: .int .u64 w :: .int .u32 k :: T)
def pslA(c:Cf) (p w i:Int):Int:=slotA c p ((tl w+i) % 4294967296)
theorem psl_b{c:Cf} {p w i:Int} (h:thereP c p):0≤pslA c p w i∧pslA c p w i < cellsN c:=slot_b h (Int.emod_nonneg _ (by omega))
theorem slot_eq{m:Mem X} {xj z:Nat} {c:Cf} {p a w k i:Int} {T:List AV} (hx:m[xj]?=some (.cells z false (rgC c p a w k T))) (hr:rightP c):c_put_ring_slot [.ptr xj 0,.int .i64 i] m=some (.int .i64 (pslA c p w i),m++[.cells 6 false (cfC c),.cells 6 false (cfC c),.cells 7 false (cfC c++[.int .i64 p]),.cells 6 false (cfC c)]):=by
 have a182:assoc [(182,F10.c_word_Tail (X:=X)),(160,F10.c_conf_Config_Slot)] 182=some F10.c_word_Tail:=rfl
 have a160:assoc [(182,F10.c_word_Tail (X:=X)),(160,F10.c_conf_Config_Slot)] 160=some F10.c_conf_Config_Slot:=rfl
 have he:c_put_ring_slot (X:=X)=amFunc [(182,F10.c_word_Tail),(160,F10.c_conf_Config_Slot)] put_ring_slot:=rfl
 rw[he]
 generalize [(182,F10.c_word_Tail (X:=X)),(160,F10.c_conf_Config_Slot)]=G at a182 a160 ⊢
 have h2:=tail_eq m w
 have hw:IntKind.u32.wrap (tl w+IntKind.u32.wrap i)=(tl w+i) % 4294967296:=by rw[wrap32,wrap32];omega
 have hs:=slot_eqR m hr p (i:=(tl w+i) % 4294967296) (by omega) (by omega)
 have hp:slotA c p ((tl w+i) % 4294967296)=pslA c p w i:=rfl
 simp only[rgC,cfC,List.cons_append,List.nil_append] at hx hs
 refine Fn_eq (Fn_of rfl ?_)
 simp(disch:=first|assumption|omega|(simp only[zl]<;>omega)|(simp only[zn])) only[put_ring_slot,↓zd,zk,seval,reduceIte,List.map,AV.cells,List.all,AV.one,eqV,eqAll,splice,fillA,List.replicate,resAll,resA,zm,zg,cfC,hx,a182,h2,hw,a160,hs,hp]
end
def Grl:List (Nat × AFun Ob):=[(159,F10.c_conf_Config_Word),(24,memF loadS),(178,F10.c_word_Len)]
def RlP(m:MM) (xj j z:Nat) (c:Cf) (p a:Int) (T:List AV) (xs:List Int) (o:Int) (r:AV) (m':MM):Prop:=r = .int .u32 (sz (xs.getD (wrdN c p) 0))∧KeepX xj j m m'∧m'[xj]?=some (.cells z false (rgC c p a (xs.getD (wrdN c p) 0) 0 T))∧∃ st',m'[j]?=some (.abs (.mem st'))∧RelM xs o st'
set_option maxHeartbeats 8000000 in
theorem rload_run{m:MM} {c:Cf} {p a w k o:Int} {T:List AV} {xs:List Int} {xj j z:Nat} {st:MemSt} (hx:m[xj]?=some (.cells z false (rgC c p a w k T))) (hj:m[j]?=some (.abs (.mem st))) (hr:RelM xs o st) (hO:OkL c xs) (hp:thereP c p) :
  Fn Grl put_ring_load [.ptr xj 0,.ptr j 0] m (RlP m xj j z c p a T xs (IntKind.u64.wrap (o+1))):=by
 have a159:assoc Grl 159=some F10.c_conf_Config_Word:=rfl
 have a24:assoc Grl 24=some (memF loadS):=rfl
 have a178:assoc Grl 178=some F10.c_word_Len:=rfl
 generalize Grl=G at a159 a24 a178 ⊢
 have hij:xj≠j:=fun h=>by rw[h,hj] at hx;cases hx
 have lx:xj < m.length:=(List.getElem?_eq_some_iff.1 hx).1
 have lj:j < m.length:=(List.getElem?_eq_some_iff.1 hj).1
 have hxl:=hO.1
 have hcn:=cellsN_le c
 have hb:=there_bounds hp
 have ha0:=addr_b hp (i:=0) (by omega) (by omega)
 have hthr:thr xs (addrA c p 0):=⟨by omega,by omega⟩
 have hwt:(addrA c p 0).toNat=wrdN c p:=rfl
 have hg:=getD_64 hO.2 (wrdN c p)
 obtain⟨st',r',_,f24,_⟩:=hr.loadE hthr
 rw[hwt] at f24
 generalize hw':xs.getD (wrdN c p) 0=w' at hg f24
 have f24':=fun K=>f24 m K j hj
 have hwr:=fun m:MM=>word_run (m:=m) c p
 have hz:=fun m:MM=>len_eq m hg
 simp only[rgC,cfC,List.cons_append,List.nil_append] at hx hwr
 refine Fn_of rfl ?_
 simp(disch:=first|assumption|omega|(simp only[zl]<;>omega)|(simp only[zn])) only[put_ring_load,↓zd,zk,seval,reduceIte,List.map,AV.cells,List.all,AV.one,eqV,eqAll,splice,fillA,List.replicate,resAll,resA,zm,zg,cfC,hx,a159,hwr,a24,f24',a178,hz,List.set_set]
 unfold RlP
 rw[hw']
 refine⟨rfl,?_,?_,st',?_,r'⟩
 ·refine⟨by simp,fun a ha h1 h2=>?_⟩
  rw[List.getElem?_append_left (by simpa using ha),List.getElem?_set_ne (fun h=>h1 h.symm),List.getElem?_set_ne (fun h=>h2 h.symm)]
 ·rw[List.getElem?_append_left (by simpa using lx),List.getElem?_set_self (by simpa using lx)];rfl
 ·rw[List.getElem?_append_left (by simpa using lj),List.getElem?_set_ne hij,List.getElem?_set_self lj]
def Gch:List (Nat × AFun Ob):=[(159,F10.c_conf_Config_Word),(23,memF casS)]
def ChP(m:MM) (xj j z:Nat) (c:Cf) (p w k:Int) (T:List AV) (xs:List Int) (next o:Int) (r:AV) (m':MM):Prop:=r = .bool (decide (xs.getD (wrdN c p) 0=w))∧KeepX xj j m m'∧m'[xj]?=some (.cells z false (rgC c p (if xs.getD (wrdN c p) 0=w then 0 else 1) w k T))∧∃ st',m'[j]?=some (.abs (.mem st'))∧RelM (if xs.getD (wrdN c p) 0=w then xs.set (wrdN c p) next else xs) o st'
set_option maxHeartbeats 8000000 in
theorem change_run{m:MM} {c:Cf} {p a w k o next:Int} {T:List AV} {xs:List Int} {xj j z:Nat} {st:MemSt} (hx:m[xj]?=some (.cells z false (rgC c p a w k T))) (hj:m[j]?=some (.abs (.mem st))) (hr:RelM xs o st) (hO:OkL c xs) (hp:thereP c p) :
  Fn Gch put_ring_change [.ptr xj 0,.ptr j 0,.int .u64 next] m (ChP m xj j z c p w k T xs next (IntKind.u64.wrap (o+1))):=by
 have a159:assoc Gch 159=some F10.c_conf_Config_Word:=rfl
 have a23:assoc Gch 23=some (memF casS):=rfl
 generalize Gch=G at a159 a23 ⊢
 have hij:xj≠j:=fun h=>by rw[h,hj] at hx;cases hx
 have lx:xj < m.length:=(List.getElem?_eq_some_iff.1 hx).1
 have lj:j < m.length:=(List.getElem?_eq_some_iff.1 hj).1
 have hxl:=hO.1
 have hcn:=cellsN_le c
 have hb:=there_bounds hp
 have ha0:=addr_b hp (i:=0) (by omega) (by omega)
 have hthr:thr xs (addrA c p 0):=⟨by omega,by omega⟩
 have hwt:(addrA c p 0).toNat=wrdN c p:=rfl
 obtain⟨st',r',_,f23,_⟩:=hr.casE hthr w next
 rw[hwt] at f23 r'
 have f23':=fun K=>f23 m K j hj
 have hwr:=fun m:MM=>word_run (m:=m) c p
 simp only[rgC,cfC,List.cons_append,List.nil_append] at hx hwr
 refine Fn_of rfl ?_
 by_cases heq:xs.getD (wrdN c p) 0=w
 ·have hd:decide (xs.getD (wrdN c p) 0=w)=true:=decide_eq_true heq
  simp only[hd] at f23'
  simp(disch:=first|assumption|omega|(simp only[zl]<;>omega)|(simp only[zn])) only[put_ring_change,↓zd,zk,seval,reduceIte,List.map,AV.cells,List.all,AV.one,eqV,eqAll,splice,fillA,List.replicate,resAll,resA,zm,zg,cfC,hx,a159,hwr,a23,f23',List.set_set]
  unfold ChP
  rw[if_pos heq,if_pos heq,hd]
  rw[if_pos heq] at r'
  refine⟨rfl,?_,?_,st',?_,r'⟩
  ·refine⟨by simp,fun a ha h1 h2=>?_⟩
   rw[List.getElem?_append_left (by simpa using ha),List.getElem?_set_ne (fun h=>h1 h.symm),List.getElem?_set_ne (fun h=>h2 h.symm)]
  ·rw[List.getElem?_append_left (by simpa using lx),List.getElem?_set_self (by simpa using lx)];rfl
  ·rw[List.getElem?_append_left (by simpa using lj),List.getElem?_set_ne hij,List.getElem?_set_self lj]
 ·have hd:decide (xs.getD (wrdN c p) 0=w)=false:=decide_eq_false heq
  simp only[hd] at f23'
  simp(disch:=first|assumption|omega|(simp only[zl]<;>omega)|(simp only[zn])) only[put_ring_change,↓zd,zk,seval,reduceIte,List.map,AV.cells,List.all,AV.one,eqV,eqAll,splice,fillA,List.replicate,resAll,resA,zm,zg,cfC,hx,a159,hwr,a23,f23',List.set_set]
  unfold ChP
  rw[if_neg heq,if_neg heq,hd]
  rw[if_neg heq] at r'
  refine⟨rfl,?_,?_,st',?_,r'⟩
  ·refine⟨by simp,fun a ha h1 h2=>?_⟩
   rw[List.getElem?_append_left (by simpa using ha),List.getElem?_set_ne (fun h=>h1 h.symm),List.getElem?_set_ne (fun h=>h2 h.symm)]
  ·rw[List.getElem?_append_left (by simpa using lx),List.getElem?_set_self (by simpa using lx)];rfl
  ·rw[List.getElem?_append_left (by simpa using lj),List.getElem?_set_ne hij,List.getElem?_set_self lj]
end Go.Am.F09
end
section
namespace Go.Am.F09
open Go.Am.F06 Go.Am.F10
structure PS where
 a:Int
 w:Int
 tk:List Int
 hs:List Int
def putC(c:Cf) (p g:Int) (s:PS) (tv hv:AV):List AV:=rgC c p s.a s.w 0 [.int .i64 g,tv,hv]
def stepP(c:Cf) (p g:Int) (xs:List Int) (s:PS):PS × List Int :=
 if s.a=1 then({ s with w:=xs.getD (wrdN c p) 0,tk:=[],a:=if c.q≤sz (xs.getD (wrdN c p) 0) then 4 else 2 },xs)
 else if s.a=2 then({ s with a:=3 },xs.set (pslA c p s.w 0).toNat (IntKind.u64.wrap g))
 else if s.a=3 then(if xs.getD (wrdN c p) 0=s.w then({ s with a:=0,hs:=[] },xs.set (wrdN c p) (growW s.w 1)) else({ s with a:=1 },xs))
 else if s.a=4 then({ s with tk:=s.tk++[IntKind.i64.wrap (xs.getD (pslA c p s.w (s.tk.length - c.q / 2)).toNat 0)],a:=if (s.tk.length:Int)+1=c.q / 2 then 5 else 4 },xs)
 else if s.a=5 then(if xs.getD (wrdN c p) 0=s.w then({ s with a:=0,hs:=s.tk++[g] },xs.set (wrdN c p) (dropW s.w (c.q / 2))) else({ s with a:=1 },xs))
 else(s,xs)
def opsP(s:PS) (o:Int):Int:=if s.a=0 then o else IntKind.u64.wrap (o+1)
structure POk (c:Cf) (p:Int) (s:PS):Prop where
 w:W64 s.w
 a:s.a=0∨(thereP c p∧(s.a=1∨s.a=2∨s.a=3∨(s.a=4∧(s.tk.length:Int) < c.q / 2)∨(s.a=5∧(s.tk.length:Int)=c.q / 2)))
 h:s.hs.length≤100
def KeepT(xj j qt:Nat) (m m':MM):Prop:=m.length≤m'.length∧∀ i,i < m.length→i≠xj→i≠j→i≠qt→m'[i]?=m[i]?
theorem KeepX.t{xj j qt:Nat} {m m':MM} (h:KeepX xj j m m'):KeepT xj j qt m m':=⟨h.1,fun i hi h1 h2 _=>h.2 i hi h1 h2⟩
structure PM (m:MM) (xj:Nat) (c:Cf) (p g:Int) (s:PS) (qt:Nat) (tv hv:AV):Prop where
 get:m[xj]?=some (.cells 13 false (putC c p g s tv hv))
 t:s.a=4∨s.a=5→Rw m qt s.tk.length 1 (iC s.tk) tv
 one:tv.one=true
 h:SI m false s.hs hv
 off:Off qt hv
theorem si_box{m:MM} {wr:Bool} {es:List Int} {v:AV} (h:SI m wr es v) {b:Nat} (hb:∀ ro L,m[b]?≠some (.cells 1 ro L)):Off b v:=by
 intro q o n c hv h0 hq
 rcases h.2 with⟨h1,_⟩|⟨q2,o2,c2,h1,h2⟩
 ·rw[h1] at hv;cases hv
 ·rw[h1] at hv;injection hv with e1 e2 e3 e4;subst e1;subst e3;subst hq
  obtain⟨ro,L,h3,_⟩:=h2 h0
  exact hb ro L h3
theorem si_lt{m:MM} {wr:Bool} {es:List Int} {v:AV} (h:SI m wr es v) {b:Nat} (hb:m.length≤b):Off b v:=si_box h fun ro L h=>by rw[List.getElem?_eq_none hb] at h;cases h
theorem _root_.Go.Am.Sl.stay{m m':MM} {wr:Bool} {sz n:Nat} {l:List AV} {v:AV} (h:Sl m wr sz n l v) (hk:∀ q o cap,v = .sl q o n cap→0 < n→m'[q]?=m[q]?):Sl m' wr sz n l v:=by
 refine⟨h.1,?_⟩
 rcases h.2 with h1|⟨q,o,cap,h1,h2⟩
 ·exact .inl h1
 ·refine .inr ⟨q,o,cap,h1,fun h0=>?_⟩
  obtain⟨ro,L,h3,h4⟩:=h2 h0
  exact⟨ro,L,by rw[hk q o cap h1 h0];exact h3,h4⟩
theorem _root_.Go.Am.Sl.lt{m:MM} {wr:Bool} {sz n:Nat} {l:List AV} {v:AV} (h:Sl m wr sz n l v) {q o:Nat} {cap:Option Nat} (hv:v = .sl q o n cap) (h0:0 < n):q < m.length∧∃ ro L,m[q]?=some (.cells sz ro L):=by
 rcases h.2 with⟨h1,_⟩|⟨q2,o2,c2,h1,h2⟩
 ·rw[h1] at hv;cases hv
 ·rw[h1] at hv;injection hv with e1 e2 e3 e4;subst e1
  obtain⟨ro,L,h3,_⟩:=h2 h0
  exact⟨(List.getElem?_eq_some_iff.1 h3).1,ro,L,h3⟩
theorem KeepT.si{xj j qt:Nat} {m m':MM} (h:KeepT xj j qt m m') (hxj:∀ ro L,m[xj]?≠some (.cells 1 ro L)) (hj:∀ ro L,m[j]?≠some (.cells 1 ro L)) {wr:Bool} {n:Nat} {l:List AV} {v:AV} (hs:Sl m wr 1 n l v) (ho:Off qt v):Sl m' wr 1 n l v:=hs.stay fun q o cap hv h0=>by
 obtain⟨h1,ro,L,h2⟩:=hs.lt hv h0
 exact h.2 q h1 (fun hq=>hxj ro L (by rw[← hq];exact h2)) (fun hq=>hj ro L (by rw[← hq];exact h2)) (ho q o n cap hv h0)
def PfP(m:MM) (c:Cf) (p g:Int) (xj j qt:Nat) (hv:AV) (x:PS × List Int) (o:Int) (r:AV) (m':MM):Prop:=r = .tup []∧KeepT xj j qt m m'∧∃ tv' hv' qt',PM m' xj c p g x.1 qt' tv' hv'∧(qt'=xj∨(m.length≤qt'∧qt' < m'.length)∨qt'=qt)∧(hv'=hv∨Fr m.length hv')∧∃ st',m'[j]?=some (.abs (.mem st'))∧RelM x.2 o st'
def Gplk:List (Nat × AFun Ob):=[(219,amFunc Grl put_ring_load)]
set_option maxHeartbeats 8000000 in
theorem plook_run{m:MM} {c:Cf} {p g o:Int} {s:PS} {qt xj j:Nat} {tv hv:AV} {xs:List Int} {st:MemSt} (hx:PM m xj c p g s qt tv hv) (hj:m[j]?=some (.abs (.mem st))) (hr:RelM xs o st) (hO:OkL c xs) (hk:POk c p s) (ha:s.a=1) :
  Fn Gplk put_Put_look [.ptr xj 0,.ptr j 0] m (PfP m c p g xj j qt hv (stepP c p g xs s) (IntKind.u64.wrap (o+1))):=by
 have a219:assoc Gplk 219=some (amFunc Grl put_ring_load):=rfl
 generalize Gplk=G at a219 ⊢
 obtain⟨a,w,tk,hs⟩:=s
 simp only at ha
 subst ha
 obtain⟨hx,ht,h1,hh,hoff⟩:=hx
 have hij:xj≠j:=fun h=>by rw[h,hj] at hx;cases hx
 have lx:xj < m.length:=(List.getElem?_eq_some_iff.1 hx).1
 have lj:j < m.length:=(List.getElem?_eq_some_iff.1 hj).1
 have hp:thereP c p:=hk.a.elim (fun h=>by simp at h) (·.1)
 have hb:=there_bounds hp
 have e0:IntKind.u32.wrap c.q=c.q:=by rw[wrap32];omega
 have hxc:=hx
 simp only[putC,rgC,cfC,List.cons_append,List.nil_append] at hx
 refine Fn_of rfl ?_
 have hM:(m.set xj (.cells 13 false (rgC c p 2 w 0 [.int .i64 g,.nils,hv])))[xj]?=some (.cells 13 false (rgC c p 2 w 0 [.int .i64 g,.nils,hv])):=List.getElem?_set_self lx
 have hMj:(m.set xj (.cells 13 false (rgC c p 2 w 0 [.int .i64 g,.nils,hv])))[j]?=some (.abs (.mem st)):=by rw[List.getElem?_set_ne hij];exact hj
 have hrun:=rload_run hM hMj hr hO hp
 simp only[rgC,cfC,List.cons_append,List.nil_append] at hrun
 simp(disch:=first|assumption|omega|(simp only[zl]<;>omega)|(simp only[zn])) only[put_Put_look,↓zd,zk,seval,reduceIte,List.map,AV.cells,List.all,AV.one,eqV,eqAll,splice,fillA,List.replicate,resAll,resA,zm,zg,hx,a219,List.set_set]
 refine OKT_fn hrun ?_
 rintro _ m1 ⟨rfl,k1,x1,st',j1,r1⟩
 have lx1:xj < m1.length:=(List.getElem?_eq_some_iff.1 x1).1
 have hnx:∀ ro L,m[xj]?≠some (.cells 1 ro L):=fun ro L h=>by rw[hx] at h;cases h
 have hnj:∀ ro L,m[j]?≠some (.cells 1 ro L):=fun ro L h=>by rw[hj] at h;cases h
 have kk:KeepX xj j m m1:=⟨by simpa using k1.1,fun i hi h1 h2=>by rw[k1.2 i (by simpa using hi) h1 h2,List.getElem?_set_ne (fun h=>h1 h.symm)]⟩
 have hh1:SI m1 false hs hv:=(KeepX.t (qt:=m.length) kk).si hnx hnj hh (si_lt hh (Nat.le_refl _))
 have hs1:stepP c p g xs ⟨1,w,tk,hs⟩=(⟨if c.q≤sz (xs.getD (wrdN c p) 0) then 4 else 2,xs.getD (wrdN c p) 0,[],hs⟩,xs):=by simp only[stepP,if_true]
 rw[hs1]
 generalize xs.getD (wrdN c p) 0=w' at x1
 simp only[rgC,cfC,List.cons_append,List.nil_append] at x1
 have nb:∀ ro L,m1[xj]?≠some (.cells 1 ro L):=fun ro L h=>by rw[x1] at h;cases h
 by_cases hq:c.q≤sz w'
 ·rw[if_pos hq]
  simp(disch:=first|assumption|omega|(simp only[zl]<;>omega)|(simp only[zn])) only[↓zd,zk,seval,reduceIte,List.map,AV.cells,List.all,AV.one,eqV,eqAll,splice,fillA,List.replicate,resAll,resA,zm,zg,x1,e0,hq]
  refine⟨rfl,KeepX.t (kk.setL _),.nils,hv,xj,⟨by rw[List.getElem?_set_self lx1];rfl,fun _=>Rw.nil,rfl,Sl.put hh1 nb _,si_box hh1 nb⟩,.inl rfl,.inl rfl,st',by rw[List.getElem?_set_ne hij];exact j1,r1⟩
 ·rw[if_neg hq]
  simp(disch:=first|assumption|omega|(simp only[zl]<;>omega)|(simp only[zn])) only[↓zd,zk,seval,reduceIte,List.map,AV.cells,List.all,AV.one,eqV,eqAll,splice,fillA,List.replicate,resAll,resA,zm,zg,x1,e0,hq]
  refine⟨rfl,KeepX.t kk,.nils,hv,xj,⟨x1,fun h=>by simp at h,rfl,hh1,si_box hh1 nb⟩,.inl rfl,.inl rfl,st',j1,r1⟩
def Gply:List (Nat × AFun Ob):=[(210,c_put_ring_slot),(22,memF storeS)]
set_option maxHeartbeats 8000000 in
theorem play_run{m:MM} {c:Cf} {p g o:Int} {s:PS} {qt xj j:Nat} {tv hv:AV} {xs:List Int} {st:MemSt} (hx:PM m xj c p g s qt tv hv) (hj:m[j]?=some (.abs (.mem st))) (hr:RelM xs o st) (hO:OkL c xs) (hk:POk c p s) (ha:s.a=2) :
  Fn Gply put_Put_lay [.ptr xj 0,.ptr j 0] m (PfP m c p g xj j qt hv (stepP c p g xs s) (IntKind.u64.wrap (o+1))):=by
 have a210:assoc Gply 210=some c_put_ring_slot:=rfl
 have a22:assoc Gply 22=some (memF storeS):=rfl
 generalize Gply=G at a210 a22 ⊢
 obtain⟨a,w,tk,hs⟩:=s
 simp only at ha
 subst ha
 obtain⟨hx,ht,h1,hh,hoff⟩:=hx
 have hij:xj≠j:=fun h=>by rw[h,hj] at hx;cases hx
 have lx:xj < m.length:=(List.getElem?_eq_some_iff.1 hx).1
 have lj:j < m.length:=(List.getElem?_eq_some_iff.1 hj).1
 have hp:thereP c p:=hk.a.elim (fun h=>by simp at h) (·.1)
 have hcn:=cellsN_le c
 have hxl:=hO.1
 have hsb:=psl_b (c:=c) (p:=p) (w:=w) (i:=0) hp
 have hthr:thr xs (pslA c p w 0):=⟨by omega,by omega⟩
 obtain⟨st',r',_,f22,_⟩:=hr.storeE hthr (IntKind.u64.wrap g)
 have f22':=fun K=>f22 m K j hj
 have hsl:=slot_eq (i:=0) hx hp.1
 have hnx:∀ ro L,m[xj]?≠some (.cells 1 ro L):=fun ro L h=>by rw[hx] at h;cases h
 have hnj:∀ ro L,m[j]?≠some (.cells 1 ro L):=fun ro L h=>by rw[hj] at h;cases h
 have hs1:stepP c p g xs ⟨2,w,tk,hs⟩=(⟨3,w,tk,hs⟩,xs.set (pslA c p w 0).toNat (IntKind.u64.wrap g)):=rfl
 rw[hs1]
 have hx':=fun K:MM=>(Keep.app m K).get hx
 simp only[putC,rgC,cfC,List.cons_append,List.nil_append] at hx hsl hx'
 refine Fn_of rfl ?_
 simp(disch:=first|assumption|omega|(simp only[zl]<;>omega)|(simp only[zn])) only[put_Put_lay,↓zd,zk,seval,reduceIte,List.map,AV.cells,List.all,AV.one,eqV,eqAll,splice,fillA,List.replicate,resAll,resA,zm,zg,hx,hx',a210,hsl,a22,f22']
 refine⟨rfl,KeepX.t ((((KeepX.refl m).setR _).setL _).app _),tv,hv,xj,⟨?_,fun h=>by simp at h,h1,?_,?_⟩,.inl rfl,.inl rfl,st',?_,r'⟩
 ·rw[List.getElem?_append_left (by simpa using lx),List.getElem?_set_self (by simpa using lx)];rfl
 ·exact((hh.put hnj _).put (fun ro L h=>by rw[List.getElem?_set_ne (fun h=>hij h.symm)] at h;exact hnx ro L h) _).keep (.app _ _)
 ·exact si_box hh hnx
 ·rw[List.getElem?_append_left (by simpa using lj),List.getElem?_set_ne hij,List.getElem?_set_self lj]
def Gpsw:List (Nat × AFun Ob):=[(211,c_word_Grow),(212,amFunc Gch put_ring_change)]
set_option maxHeartbeats 8000000 in
theorem pswing_run{m:MM} {c:Cf} {p g o:Int} {s:PS} {qt xj j:Nat} {tv hv:AV} {xs:List Int} {st:MemSt} (hx:PM m xj c p g s qt tv hv) (hj:m[j]?=some (.abs (.mem st))) (hr:RelM xs o st) (hO:OkL c xs) (hk:POk c p s) (ha:s.a=3) :
  Fn Gpsw put_Put_swing [.ptr xj 0,.ptr j 0] m (PfP m c p g xj j qt hv (stepP c p g xs s) (IntKind.u64.wrap (o+1))):=by
 have a211:assoc Gpsw 211=some c_word_Grow:=rfl
 have a212:assoc Gpsw 212=some (amFunc Gch put_ring_change):=rfl
 generalize Gpsw=G at a211 a212 ⊢
 obtain⟨a,w,tk,hs⟩:=s
 simp only at ha
 subst ha
 obtain⟨hx,ht,h1,hh,hoff⟩:=hx
 have hij:xj≠j:=fun h=>by rw[h,hj] at hx;cases hx
 have hp:thereP c p:=hk.a.elim (fun h=>by simp at h) (·.1)
 have hw:=hk.w
 simp only at hw
 have hg:=fun m:MM=>grow_eq m (n:=1) hw
 have hrun:=change_run (next:=growW w 1) hx hj hr hO hp
 have hnx:∀ ro L,m[xj]?≠some (.cells 1 ro L):=fun ro L h=>by rw[hx] at h;cases h
 have hnj:∀ ro L,m[j]?≠some (.cells 1 ro L):=fun ro L h=>by rw[hj] at h;cases h
 have hs1:stepP c p g xs ⟨3,w,tk,hs⟩=(if xs.getD (wrdN c p) 0=w then(⟨0,w,tk,[]⟩,xs.set (wrdN c p) (growW w 1)) else(⟨1,w,tk,hs⟩,xs)):=rfl
 rw[hs1]
 simp only[putC,rgC,cfC,List.cons_append,List.nil_append] at hx
 refine Fn_of rfl ?_
 simp(disch:=first|assumption|omega|(simp only[zl]<;>omega)|(simp only[zn])) only[put_Put_swing,↓zd,zk,seval,reduceIte,List.map,AV.cells,List.all,AV.one,eqV,eqAll,splice,fillA,List.replicate,resAll,resA,zm,zg,hx,a211,hg,a212]
 refine OK_fn hrun ?_
 rintro _ m1 ⟨rfl,k1,x1,st',j1,r1⟩
 have lx1:xj < m1.length:=(List.getElem?_eq_some_iff.1 x1).1
 have hh1:SI m1 false hs hv:=(KeepX.t (qt:=m.length) k1).si hnx hnj hh (si_lt hh (Nat.le_refl _))
 have nb:∀ ro L,m1[xj]?≠some (.cells 1 ro L):=fun ro L h=>by rw[x1] at h;cases h
 by_cases heq:xs.getD (wrdN c p) 0=w
 ·rw[if_pos heq] at x1 r1 ⊢
  have hd:decide (xs.getD (wrdN c p) 0=w)=true:=decide_eq_true heq
  simp only[rgC,cfC,List.cons_append,List.nil_append] at x1
  simp(disch:=first|assumption|omega|(simp only[zl]<;>omega)|(simp only[zn])) only[↓zd,zk,seval,reduceIte,List.map,AV.cells,List.all,AV.one,eqV,eqAll,splice,fillA,List.replicate,resAll,resA,zm,zg,hd,x1]
  refine⟨rfl,KeepX.t (k1.setL _),tv,.nils,xj,⟨by rw[List.getElem?_set_self lx1];rfl,fun h=>by simp at h,h1,Sl.nil,fun q o n c h=>by cases h⟩,.inl rfl,.inr (.inl rfl),st',by rw[List.getElem?_set_ne hij];exact j1,r1⟩
 ·rw[if_neg heq] at x1 r1 ⊢
  have hd:decide (xs.getD (wrdN c p) 0=w)=false:=decide_eq_false heq
  simp(disch:=first|assumption|omega|(simp only[zl]<;>omega)|(simp only[zn])) only[↓zd,zk,seval,reduceIte,List.map,AV.cells,List.all,AV.one,eqV,eqAll,splice,fillA,List.replicate,resAll,resA,zm,zg,hd]
  exact⟨rfl,KeepX.t k1,tv,hv,xj,⟨x1,fun h=>by simp at h,h1,hh1,si_box hh1 nb⟩,.inl rfl,.inl rfl,st',j1,r1⟩
end Go.Am.F09
end
section
namespace Go.Am.F09
open Go.Am.F06 Go.Am.F10
theorem half_eq{X:Type} {m:Mem X} {xj:Nat} {c:Cf} {p a w k:Int} {T:List AV} (hx:m[xj]?=some (.cells 13 false (rgC c p a w k T))) (h0:2≤c.q) (h1:c.q≤64):c_put_Put_half [.ptr xj 0] m=some (.int .u32 (c.q / 2),m):=by
 have he:c_put_Put_half (X:=X)=amFunc [] put_Put_half:=rfl
 rw[he]
 have e1:c.q.tdiv 2=c.q / 2:=Int.tdiv_eq_ediv_of_nonneg (by omega)
 have e2:IntKind.u32.wrap (c.q / 2)=c.q / 2:=by rw[wrap32];omega
 simp only[rgC,cfC,List.cons_append,List.nil_append] at hx
 refine Fn_eq (Fn_of rfl ?_)
 simp(disch:=first|assumption|omega|(simp only[zl]<;>omega)|(simp only[zn])) only[put_Put_half,↓zd,zk,seval,reduceIte,List.map,AV.cells,List.all,AV.one,eqV,eqAll,splice,fillA,List.replicate,resAll,resA,zm,zg,hx,e1,e2]
def Gptk:List (Nat × AFun Ob):=[(220,c_put_Put_half),(210,c_put_ring_slot),(24,memF loadS)]
set_option maxHeartbeats 16000000 in
theorem ptake_run{m:MM} {c:Cf} {p g o:Int} {s:PS} {qt xj j:Nat} {tv hv:AV} {xs:List Int} {st:MemSt} (hx:PM m xj c p g s qt tv hv) (hj:m[j]?=some (.abs (.mem st))) (hr:RelM xs o st) (hO:OkL c xs) (hk:POk c p s) (ha:s.a=4) :
  Fn Gptk put_Put_take [.ptr xj 0,.ptr j 0] m (PfP m c p g xj j qt hv (stepP c p g xs s) (IntKind.u64.wrap (o+1))):=by
 have a220:assoc Gptk 220=some c_put_Put_half:=rfl
 have a210:assoc Gptk 210=some c_put_ring_slot:=rfl
 have a24:assoc Gptk 24=some (memF loadS):=rfl
 generalize Gptk=G at a220 a210 a24 ⊢
 obtain⟨a,w,tk,hs⟩:=s
 simp only at ha
 subst ha
 obtain⟨hx,ht,h1,hh,hoff⟩:=hx
 have hij:xj≠j:=fun h=>by rw[h,hj] at hx;cases hx
 have lx:xj < m.length:=(List.getElem?_eq_some_iff.1 hx).1
 have lj:j < m.length:=(List.getElem?_eq_some_iff.1 hj).1
 have hpl:thereP c p∧(tk.length:Int) < c.q / 2:=hk.a.elim (fun h=>by simp at h) (fun h=>⟨h.1,by have:=h.2;simp only at this;omega⟩)
 obtain⟨hp,hlt⟩:=hpl
 have hb:=there_bounds hp
 have hcn:=cellsN_le c
 have hxl:=hO.1
 have hrw:=ht (.inl rfl)
 simp only at hrw
 have htl:=(hrw.sl (by rw[iC_len];omega)).len
 have hsb:=psl_b (c:=c) (p:=p) (w:=w) (i:=tk.length - c.q / 2) hp
 have hthr:thr xs (pslA c p w (tk.length - c.q / 2)):=⟨by omega,by omega⟩
 obtain⟨st',r',_,f24,_⟩:=hr.loadE hthr
 have f24':=fun K=>f24 m K j hj
 generalize hv1:xs.getD (pslA c p w (tk.length - c.q / 2)).toNat 0=v at f24'
 have hhalf:=fun K:MM=>half_eq ((Keep.app m K).get hx) (by omega) (by omega)
 have hhalf0:=half_eq hx (by omega) (by omega)
 have hsl:=fun K:MM=>slot_eq (i:=tk.length - c.q / 2) ((Keep.app m K).get hx) hp.1
 have hsl0:=slot_eq (i:=tk.length - c.q / 2) hx hp.1
 have hnx:∀ ro L,m[xj]?≠some (.cells 1 ro L):=fun ro L h=>by rw[hx] at h;cases h
 have hnj:∀ ro L,m[j]?≠some (.cells 1 ro L):=fun ro L h=>by rw[hj] at h;cases h
 have hx':=fun K:MM=>(Keep.app m K).get hx
 have eh:IntKind.i64.wrap (c.q / 2)=c.q / 2:=wrapI (by omega) (by omega)
 have hs1:stepP c p g xs ⟨4,w,tk,hs⟩=(⟨if (tk.length:Int)+1=c.q / 2 then 5 else 4,w,tk++[IntKind.i64.wrap v],hs⟩,xs):=by rw[← hv1];rfl
 rw[hs1]
 have hone:=h1
 simp only[AV.one] at hone
 -- the memory at the append
 have hqj:0 < tk.length→qt≠j:=fun h hq=>by
  rcases hrw with⟨h2,_⟩|⟨_,_,h2⟩
  ·omega
  ·rw[hq,hj] at h2;cases h2
 have hqx:0 < tk.length→qt≠xj:=fun h hq=>by
  rcases hrw with⟨h2,_⟩|⟨_,_,h2⟩
  ·omega
  ·rw[hq,hx] at h2;cases h2
 have hK0:∀ i,i < m.length→i≠j→(m.set j (.abs (.mem st'))++[Chunk.cells 6 false (cfC c),.cells 6 false (cfC c),.cells 7 false (cfC c++[.int .i64 p]),.cells 6 false (cfC c)])[i]?=m[i]?:=fun i hi hne=>by
  rw[List.getElem?_append_left (by simpa using hi),List.getElem?_set_ne (fun h=>hne h.symm)]
 have hrw1:=hrw.keep (m':=m.set j (.abs (.mem st'))++[Chunk.cells 6 false (cfC c),.cells 6 false (cfC c),.cells 7 false (cfC c++[.int .i64 p]),.cells 6 false (cfC c)]) (fun h=>hK0 qt (hrw.lt h) (hqj h))
 obtain⟨tv',m2,hap,rw2,hl2,hf2⟩:=hrw1.push (x:=[.int .i64 (IntKind.i64.wrap v)]) (bytes:=8) (by rw[iC_len];omega) rfl (iC_one _) rfl (by omega) (by omega)
 have hlM:(m.set j (.abs (.mem st'))++[Chunk.cells 6 false (cfC c),.cells 6 false (cfC c),.cells 7 false (cfC c++[.int .i64 p]),.cells 6 false (cfC c)]:MM).length=m.length+4:=by simp
 have hf3:∀ i,i < m.length→i≠j→(tk.length=0∨i≠qt)→m2[i]?=m[i]?:=fun i hi h2 h3=>by rw[hf2 i (by omega) h3,hK0 i hi h2]
 have hj2:m2[j]?=some (.abs (.mem st')):=by
  rw[hf2 j (by omega) (by by_cases h:0 < tk.length;exact .inr (hqj h).symm;left;omega),List.getElem?_append_left (by simpa using lj),List.getElem?_set_self lj]
 have hx2:m2[xj]?=some (.cells 13 false (rgC c p 4 w 0 [.int .i64 g,tv,hv])):=by
  rw[hf3 xj lx hij (by by_cases h:0 < tk.length;exact .inr (hqx h).symm;left;omega)];exact hx
 have htv:tv' = .sl (m.length+4+1) 0 (tk.length+1) none:=by
  rcases rw2 with⟨h,_⟩|⟨_,h,_⟩
  ·omega
  ·rw[h,hlM]
 subst htv
 have lx2:xj < m2.length:=(List.getElem?_eq_some_iff.1 hx2).1
 have htl2:lenA (.sl (m.length+4+1) 0 (tk.length+1) none)=some (tk.length+1):=(rw2.sl (by simp[iC])).len
 have hx3:(m2.set xj (.cells 13 false (rgC c p 4 w 0 [.int .i64 g,(.sl (m.length+4+1) 0 (tk.length+1) none),hv])))[xj]?=some (.cells 13 false (rgC c p 4 w 0 [.int .i64 g,(.sl (m.length+4+1) 0 (tk.length+1) none),hv])):=List.getElem?_set_self lx2
 have hhalf3:=half_eq hx3 (by omega) (by omega)
 have hkT:KeepX xj xj m2 (m2.set xj (.cells 13 false (rgC c p 4 w 0 [.int .i64 g,(.sl (m.length+4+1) 0 (tk.length+1) none),hv]))):=(KeepX.refl _).setL _
 have hnx2:∀ ro L,m2[xj]?≠some (.cells 1 ro L):=fun ro L h=>by rw[hx2] at h;cases h
 have kT:∀ C,KeepT xj j qt m (m2.set xj C):=fun C=>⟨by simp only[List.length_set];omega,fun i hi h1 h2 h3=>by rw[List.getElem?_set_ne (fun h=>h1 h.symm),hf3 i hi h2 (.inr h3)]⟩
 have hh2:∀ C,SI (m2.set xj C) false hs hv:=fun C=>(kT C).si hnx hnj hh hoff
 have hoff2:Off (m.length+4+1) hv:=si_lt hh (by omega)
 have rw3:∀ C,Rw (m2.set xj C) (m.length+4+1) (tk.length+1) 1 (iC tk++[.int .i64 (IntKind.i64.wrap v)]) (.sl (m.length+4+1) 0 (tk.length+1) none):=fun C=>by
  have:=rw2.keep (m':=m2.set xj C) (fun _=>by rw[List.getElem?_set_ne (by rw[hlM];omega)])
  rw[hlM] at this;exact this
 have hiC:iC tk++[.int .i64 (IntKind.i64.wrap v)]=iC (tk++[IntKind.i64.wrap v]):=(iC_app _ _).symm
 simp only[putC,rgC,cfC,List.cons_append,List.nil_append] at hx hsl hsl0 hx' hx2 hx3 hhalf3
 simp only[cfC,List.append_assoc,List.cons_append,List.nil_append,List.length_append,List.length_set,List.length_cons,List.length_nil,Nat.zero_add,Nat.reduceAdd] at hap
 refine Fn_of rfl ?_
 simp(disch:=first|assumption|omega|(simp only[zl]<;>omega)|(simp only[zn])) only[put_Put_take,↓zd,zk,seval,reduceIte,List.map,AV.cells,List.all,AV.one,eqV,eqAll,splice,fillA,List.replicate,resAll,resA,zm,zg,hx,hx',ev_len,htl,a220,hhalf0,eh,a210,hsl0,a24,f24',evA,fillA,repeatL,List.flatten_cons,List.flatten_nil,hap,hone,hx2,hx3,htl2,hhalf3]
 by_cases hq:(tk.length:Int)+1=c.q / 2
 ·rw[if_pos hq]
  simp(disch:=first|assumption|omega|(simp only[zl]<;>omega)|(simp only[zn])) only[↓zd,zk,seval,reduceIte,List.map,AV.cells,List.all,AV.one,eqV,eqAll,splice,fillA,List.replicate,resAll,resA,zm,zg,hq,hx3,List.set_set]
  refine⟨rfl,kT _,.sl (m.length+4+1) 0 (tk.length+1) none,hv,m.length+4+1,⟨by rw[List.getElem?_set_self lx2];rfl,fun _=>?_,rw2.one,hh2 _,hoff2⟩,.inr (.inl ⟨by omega,by have:=rw2.lt (by omega);rw[hlM] at this;simpa using this⟩),.inl rfl,st',by rw[List.getElem?_set_ne hij];exact hj2,r'⟩
  rw[← hiC,List.length_append];exact rw3 _
 ·rw[if_neg hq]
  simp(disch:=first|assumption|omega|(simp only[zl]<;>omega)|(simp only[zn])) only[↓zd,zk,seval,reduceIte,List.map,AV.cells,List.all,AV.one,eqV,eqAll,splice,fillA,List.replicate,resAll,resA,zm,zg,hq]
  refine⟨rfl,kT _,.sl (m.length+4+1) 0 (tk.length+1) none,hv,m.length+4+1,⟨by rw[List.getElem?_set_self lx2];rfl,fun _=>?_,rw2.one,hh2 _,hoff2⟩,.inr (.inl ⟨by omega,by have:=rw2.lt (by omega);rw[hlM] at this;simpa using this⟩),.inl rfl,st',by rw[List.getElem?_set_ne hij];exact hj2,r'⟩
  rw[← hiC,List.length_append];exact rw3 _
end Go.Am.F09
end
